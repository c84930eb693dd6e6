/- Texts of Wk. -/
import Derived.Tactics
import Derived.Defers
import Derived.Recover
import Derived.Lib.Strings
import Derived.Laws.Append
import Derived.Below
import Derived.Laws.AppendOwn
set_option linter.unusedSimpArgs false
set_option linter.unusedVariables false
set_option linter.unusedSectionVars false
namespace Go.oc
open Go.RowKit
def hc {α:Type}(l:List α) (n:Nat) (v:α):Prop:=l[n]?=some v
def Hc {α:Type}(l:List α) (n:Nat) (v:α) (Ha:List α):Prop:=l.set n v=Ha
theorem d0 {α:Type}{v:α}{l:List α}:hc (v::l) 0 v:=rfl
theorem Ja {α:Type}{x v:α}{l:List α}:Hc (x::l) 0 v (v::l):=rfl
theorem d1 {α:Type}{a0:α}{v:α}{l:List α}:hc (a0::v::l) 1 v:=rfl
theorem ub {α:Type}{a0:α}{x v:α}{l:List α}:Hc (a0::x::l) 1 v (a0::v::l):=rfl
theorem d2 {α:Type}{a0 ta:α}{v:α}{l:List α}:hc (a0::ta::v::l) 2 v:=rfl
theorem Ib {α:Type}{a0 ta:α}{x v:α}{l:List α}:Hc (a0::ta::x::l) 2 v (a0::ta::v::l):=rfl
theorem d3 {α:Type}{a0 ta a2:α}{v:α}{l:List α}:hc (a0::ta::a2::v::l) 3 v:=rfl
theorem jc {α:Type}{a0 ta a2:α}{x v:α}{l:List α}:Hc (a0::ta::a2::x::l) 3 v (a0::ta::a2::v::l):=rfl
theorem d4 {α:Type}{a0 ta a2 a3:α}{v:α}{l:List α}:hc (a0::ta::a2::a3::v::l) 4 v:=rfl
theorem Kc {α:Type}{a0 ta a2 a3:α}{x v:α}{l:List α}:Hc (a0::ta::a2::a3::x::l) 4 v (a0::ta::a2::a3::v::l):=rfl
theorem d5 {α:Type}{a0 ta a2 a3 a4:α}{v:α}{l:List α}:hc (a0::ta::a2::a3::a4::v::l) 5 v:=rfl
theorem Rc {α:Type}{a0 ta a2 a3 a4:α}{x v:α}{l:List α}:Hc (a0::ta::a2::a3::a4::x::l) 5 v (a0::ta::a2::a3::a4::v::l):=rfl
theorem d6 {α:Type}{a0 ta a2 a3 a4 a5:α}{v:α}{l:List α}:hc (a0::ta::a2::a3::a4::a5::v::l) 6 v:=rfl
theorem Mc {α:Type}{a0 ta a2 a3 a4 a5:α}{x v:α}{l:List α}:Hc (a0::ta::a2::a3::a4::a5::x::l) 6 v (a0::ta::a2::a3::a4::a5::v::l):=rfl
theorem d7 {α:Type}{a0 ta a2 a3 a4 a5 Nb:α}{v:α}{l:List α}:hc (a0::ta::a2::a3::a4::a5::Nb::v::l) 7 v:=rfl
theorem Cc {α:Type}{a0 ta a2 a3 a4 a5 Nb:α}{x v:α}{l:List α}:Hc (a0::ta::a2::a3::a4::a5::Nb::x::l) 7 v (a0::ta::a2::a3::a4::a5::Nb::v::l):=rfl
theorem d8 {α:Type}{a0 ta a2 a3 a4 a5 Nb zc:α}{v:α}{l:List α}:hc (a0::ta::a2::a3::a4::a5::Nb::zc::v::l) 8 v:=rfl
theorem od {α:Type}{a0 ta a2 a3 a4 a5 Nb zc:α}{x v:α}{l:List α}:Hc (a0::ta::a2::a3::a4::a5::Nb::zc::x::l) 8 v (a0::ta::a2::a3::a4::a5::Nb::zc::v::l):=rfl
theorem d9 {α:Type}{a0 ta a2 a3 a4 a5 Nb zc Mb:α}{v:α}{l:List α}:hc (a0::ta::a2::a3::a4::a5::Nb::zc::Mb::v::l) 9 v:=rfl
theorem gd {α:Type}{a0 ta a2 a3 a4 a5 Nb zc Mb:α}{x v:α}{l:List α}:Hc (a0::ta::a2::a3::a4::a5::Nb::zc::Mb::x::l) 9 v (a0::ta::a2::a3::a4::a5::Nb::zc::Mb::v::l):=rfl
def F (fr:List Value) (ds:List Deferred):Act:=⟨⟨fr⟩,ds⟩
def zb (fr:List Value) (x:Operand) (v:Value):Prop:=∀ ds,(F fr ds).eval x=v
theorem aa {fr:List Value}{n:Nat}{v:Value}(h:hc fr n v):zb fr (.tmp n) v:=by
 intro ds;unfold hc at h;simp [F,Act.eval,h]
theorem Ma {fr:List Value}{v:Value}:zb fr (.const v) v:=fun _=>rfl
theorem hd {fr:List Value}{f:Nat}:zb fr (.func f) (.func (.func f) #[] #[]):=fun _=>rfl
def Vf (fr:List Value) (dst:Option Tmp) (v:Value) (Fa:List Value):Prop:=∀ ds,(F fr ds).put dst v=F Fa ds
theorem cb {fr:List Value}{v:Value}:Vf fr none v fr:=fun _=>rfl
theorem ma {fr Fa:List Value}{n:Nat}{v:Value}(h:Hc fr n v Fa):Vf fr (some n) v Fa:=by
 intro ds;unfold Hc at h;subst h;simp [F,Act.put]
theorem Vf.rw {fr Fa:List Value}{dst:Option Tmp}{v:Value}(h:Vf fr dst v Fa){K:Act→World→Prop}{ds:List Deferred}{w:World}(k:K (F Fa ds) w):K ((F fr ds).put dst v) w:=by
 rw [h ds];exact k
def Vm (fr:List Value) (xs:List Operand) (vs:List Value):Prop:=∀ ds,xs.map (F fr ds).eval=vs
theorem Va {fr:List Value}:Vm fr [] []:=fun _=>rfl
theorem na {fr:List Value}{x:Operand}{v:Value}{xs:List Operand}{vs:List Value}(h:zb fr x v) (hs:Vm fr xs vs):Vm fr (x::xs) (v::vs):=by
 intro ds;simp [h ds,hs ds]
structure df (P:Program) (c:Code) (Q:Exit→Act→World→Prop) (fr:List Value) (ds:List Deferred) (w:World):Prop where
 out:c.wp P Q (F fr ds) w
structure Lf (P:Program) (ops:Array Oper) (Q:Exit→Act→World→Prop) (l:List Oper) (fr:List Value) (ds:List Deferred) (w:World):Prop where
 out:wpList P ops Q l (F fr ds) w
structure De (P:Program) (o:Oper) (fr:List Value) (ds:List Deferred) (w:World) (K:List Value→List Deferred→World→Prop) (Q:Exit→Act→World→Prop):Prop where
 out:∀ a:Act→World→Prop,(∀ fr ds w,K fr ds w→a (F fr ds) w)→o.wp P (F fr ds) w a Q
def lq (P:Program) (c:Code) (Q:Exit→Act→World→Prop):Act→World→Prop:=fun a w=>∃ fr ds,a=F fr ds∧df P c Q fr ds w
section code
variable {P:Program}{Q:Exit→Act→World→Prop}{fr:List Value}{ds:List Deferred}{w:World}
theorem ab {x y:Code}(h:df P x (Exit.then (lq P y Q) Q) fr ds w):df P (.seq x y) Q fr ds w :=
 ⟨wp_seq (wp_mono h.out fun e a w b=>by
  cases e with
  | normal=>obtain ⟨fr,ds,rfl,h⟩:=b; exact h.out
  | exit id=>exact b
  | goto l=>exact b
  | ret=>exact b
  | panic c=>exact b
  | outgrown=>exact b)⟩
theorem nb {id:Nat}{l:List Oper}(h:Lf P l.toArray Q l fr ds w):df P (.region id l.toArray false) Q fr ds w:=⟨wp_region_lit h.out⟩
theorem Pa (h:Q .normal (F fr ds) w):df P .skip Q fr ds w:=⟨wp_skip h⟩
theorem La (h:Q .ret (F fr ds) w):df P .ret Q fr ds w:=⟨wp_ret h⟩
theorem Te {id:Nat}(h:Q (.exit id) (F fr ds) w):df P (.exit id) Q fr ds w:=⟨wp_exit h⟩
theorem Rb {id:Nat}{c:Code}(h:df P c (Exit.inBlock id Q) fr ds w):df P (.block id c) Q fr ds w:=⟨wp_block h.out⟩
theorem Fz {c:Operand}{x y:Code}{b:Bool}(a:zb fr c (.bool b)) (d:b=true→df P x Q fr ds w) (e:b=false→df P y Q fr ds w) :
  df P (.cond c x y) Q fr ds w:=⟨wp_cond_split (a ds) (fun h=>(d h).out) fun h=>(e h).out⟩
theorem yj {c:Operand}{x y:Code}{p:Prop}[Decidable p] (a:zb fr c (.bool (decide p))) (b:p→df P x Q fr ds w) (d:¬ p→df P y Q fr ds w) :
  df P (.cond c x y) Q fr ds w:=Fz a (fun h=>b (of_decide_eq_true h)) (fun h=>d (of_decide_eq_false h))
theorem rm {c:Operand}{x y:Code}(a:zb fr c (.bool true)) (b:df P x Q fr ds w):df P (.cond c x y) Q fr ds w:=⟨wp_cond_true (a ds) b.out⟩
theorem Yp {c:Operand}{x y:Code}(a:zb fr c (.bool false)) (b:df P y Q fr ds w):df P (.cond c x y) Q fr ds w:=⟨wp_cond_false (a ds) b.out⟩
theorem ra {c:Code}{Q':Exit→Act→World→Prop}(h:df P c Q' fr ds w):Exit.then (lq P c Q') Q .normal (F fr ds) w:=⟨fr,ds,rfl,h⟩
theorem wa {n:Act→World→Prop}{a:Act}(h:n a w):Exit.then n Q .normal a w:=h
theorem Dc {n:Act→World→Prop}{a:Act}{id:Nat}(h:Q (.exit id) a w):Exit.then n Q (.exit id) a w:=h
theorem Ga {n:Act→World→Prop}{a:Act}(h:Q .ret a w):Exit.then n Q .ret a w:=h
theorem Ob {a:Act}{id:Nat}(h:Q .normal a w):Exit.inBlock id Q .normal a w:=h
theorem Fb {a:Act}{id:Nat}(h:Q .ret a w):Exit.inBlock id Q .ret a w:=h
theorem Ve {a:Act}{id:Nat}(h:Q .normal a w):Exit.inBlock id Q (.exit id) a w:=by simpa [Exit.inBlock] using h
theorem AK {a:Act}{id j:Nat}(b:(j == id)=false) (h:Q (.exit j) a w):Exit.inBlock id Q (.exit j) a w:=by
 have:¬ j=id:=by simpa using b
 simpa [Exit.inBlock,this] using h
inductive mb where
 | k
 | o (n:Nat)
 | i (v:Value)
def Th (t:Nat→Value):List mb→List Value→List Value
 | [],fr=>fr
 | _::_,[]=>[]
 | .k::ms,a::fr=>a::Th t ms fr
 | .o n::ms,_::fr=>t n::Th t ms fr
 | .i v::ms,_::fr=>v::Th t ms fr
def Re (t:Nat→Value) (ms:List mb) (fr Fa:List Value):Prop:=Th t ms fr=Fa
theorem xb {t:Nat→Value}{l:List Value}:Re t [] l l:=rfl
theorem mk {t:Nat→Value}{ms:List mb}{a:Value}{l Ha:List Value}(h:Re t ms l Ha):Re t (.k::ms) (a::l) (a::Ha):=by unfold Re at *;rw [Th,h]
theorem cc {t:Nat→Value}{ms:List mb}{n:Nat}{a:Value}{l Ha:List Value}(h:Re t ms l Ha):Re t (.o n::ms) (a::l) (t n::Ha):=by unfold Re at *;rw [Th,h]
theorem ic {t:Nat→Value}{ms:List mb}{v a:Value}{l Ha:List Value}(h:Re t ms l Ha):Re t (.i v::ms) (a::l) (v::Ha):=by unfold Re at *;rw [Th,h]
theorem wc {t:Nat→Value}{ms:List mb}{a b:List Value}(e:Re t ms a b) (h:Q .normal (F b ds) w):Q .normal (F (Th t ms a) ds) w:=by rw [show Th t ms a=b from e];exact h
theorem Cf {c:Code}{t:Nat→Value}{ms:List mb}{a b:List Value}(e:Re t ms a b) (h:df P c Q b ds w):df P c Q (Th t ms a) ds w:=by rw [show Th t ms a=b from e];exact h
inductive Ee:List mb→List Value→List Value→Prop where
 | z {l:List Value}:Ee [] l l
 | k {ms:List mb} {a:Value} {l Ha:List Value} (h:Ee ms l Ha):Ee (.k::ms) (a::l) (a::Ha)
 | o {ms:List mb} {n:Nat} {a b:Value} {l Ha:List Value} (h:Ee ms l Ha):Ee (.o n::ms) (a::l) (b::Ha)
 | i {ms:List mb} {v a:Value} {l Ha:List Value} (h:Ee ms l Ha):Ee (.i v::ms) (a::l) (v::Ha)
def opens:List mb→List Nat
 | []=>[]
 | .o n::ms=>n::opens ms
 | .k::ms=>opens ms
 | .i _::ms=>opens ms
theorem fw {t qd:Nat→Value}:∀ (ms:List mb) (fr:List Value),(∀ n ∈ opens ms,t n=qd n)→Th t ms fr=Th qd ms fr
 | [],_,_=>rfl
 | _::_,[],_=>rfl
 | .k::ms,a::fr,h=>by rw [Th,Th,fw ms fr h]
 | .o n::ms,a::fr,h=>by rw [Th,Th,fw ms fr fun m hm=>h m (by simp [opens,hm]),h n (by simp [opens])]
 | .i v::ms,a::fr,h=>by rw [Th,Th,fw ms fr h]
theorem Ee.ex {ms:List mb}{fr Fa:List Value}(h:Ee ms fr Fa) (c:(opens ms).Nodup):∃ t,Fa=Th t ms fr:=by
 induction h with
 | z=>exact ⟨fun _=>undef,rfl⟩
 | k _ d=>obtain ⟨t,rfl⟩:=d c; exact ⟨t,rfl⟩
 | @o ms n a b l Ha _ d =>
  simp only [opens,List.nodup_cons] at c;obtain ⟨t,rfl⟩:=d c.2;refine ⟨fun m=>if m=n then b else t m,?_⟩;rw [Th,if_pos rfl];congr 1;refine fw _ _ fun m hm=>?_;exact (if_neg (fun e:m=n=>c.1 (by rw [← e];exact hm))).symm
 | i _ d=>obtain ⟨t,rfl⟩:=d c; exact ⟨t,rfl⟩
theorem iJ {c:Code}{α:Type}(T:List Nat) (m:T.Nodup) (u:α→List mb) (hu:∀ x,opens (u x)=T) (Ri:α→World→Prop) (j:α→World→Nat) (x0:α) (o:Ee (u x0) fr fr) (p:Ri x0 w)
  (round:∀ x t w,Ri x w→df P c (Exit.then (fun g w'=>∃ h Fa,g=F Fa ds∧Ee (u h) fr Fa∧Ri h w'∧j h w'<j x w) Q) (Th t (u x) fr) ds w) :
  df P (.loop c) Q fr ds w:=by
 constructor;intro b k cs;have key:∀ n x t w,j x w=n→Ri x w →
   ∃ e g w',Q e g w'∧Arrives P (lone (b.at (F (Th t (u x) fr) ds) (.code c::.inLoop c::k)) cs w) b k cs e g w':=by
  intro n
  induction n using Nat.strongRecOn with
  | _ n q =>
   intro x t w r s;obtain ⟨e,i,f,d,a⟩:=(round x t w s).out b (.inLoop c::k) cs;cases e with
   | normal =>
    obtain ⟨h,Fa,rfl,v,y,z⟩:=d;obtain ⟨qd,A⟩:=v.ex (by rw [hu];exact m);obtain ⟨B,C,D,E,G⟩:=q (j h f) (r ▸ z) h qd f rfl y;rw [A] at a;exact ⟨B,C,D,E,.of_steps (Steps.trans a (.one step_inLoop)) G⟩
   | exit id=>exact ⟨_,i,f,d,.pass (x:=.inLoop c) rfl (fun _ _=>.inl (by simp)) a⟩
   | goto l=>exact ⟨_,i,f,d,.pass (x:=.inLoop c) rfl (fun _ _=>.inl (by simp)) a⟩
   | ret=>exact ⟨_,i,f,d,.pass (x:=.inLoop c) rfl (fun _ _=>.inl (by simp)) a⟩
   | panic K=>exact ⟨_,i,f,d,.pass (x:=.inLoop c) rfl (fun _ _=>.inl (by simp)) a⟩
   | outgrown=>exact ⟨_,i,f,d,.pass (x:=.inLoop c) rfl (fun _ _=>.inl (by simp)) a⟩
 obtain ⟨t0,H⟩:=o.ex (by rw [hu];exact m);obtain ⟨e,g,w',d,a⟩:=key _ x0 t0 w rfl p;rw [← H] at a;exact ⟨e,g,w',d,.of_steps (.one step_loop) a⟩
theorem df.mono {c:Code}{Q':Exit→Act→World→Prop}(h:df P c Q fr ds w) (b:∀ e a w,Q e a w→Q' e a w):df P c Q' fr ds w:=⟨wp_mono h.out b⟩
theorem FF {R R':Act→World→Prop}(h:∀ a w,R a w→R' a w):∀ e a w,Exit.then R Q e a w→Exit.then R' Q e a w:=fun e a w b=>by
 cases e with
 | normal=>exact h a w b
 | exit id=>exact b
 | goto l=>exact b
 | ret=>exact b
 | panic c=>exact b
 | outgrown=>exact b
theorem Hc.same {α:Type}{l:List α}{n:Nat}{v:α}{Ha:List α}(h:hc l n v) (a:Hc l n v Ha):Ha=l:=by
 unfold hc at h;unfold Hc at a;subst a;obtain ⟨b,rfl⟩:=List.getElem?_eq_some_iff.1 h;exact List.set_getElem_self b
theorem Gz {ops:Array Oper}{l:List Oper}{th uh:List Value}{d:Nat}{b:Bool}(qa:hc fr d (.bool b)) (a:Hc fr d (.bool true) th) (c:Hc fr d (.bool false) uh)
  (e:b=true→Lf P ops Q l th ds w) (f:b=false→Lf P ops Q l uh ds w):Lf P ops Q l fr ds w:=by
 cases b with
 | true=>have:=e rfl; rw [Hc.same qa a] at this; exact this
 | false=>have:=f rfl; rw [Hc.same qa c] at this; exact this
theorem Xu {ops:Array Oper}{l:List Oper}{th uh:List Value}{d:Nat}{p:Prop}[Decidable p] (qa:hc fr d (.bool (decide p))) (a:Hc fr d (.bool true) th) (b:Hc fr d (.bool false) uh)
  (c:p→Lf P ops Q l th ds w) (e:¬ p→Lf P ops Q l uh ds w):Lf P ops Q l fr ds w :=
 Gz qa a b (fun h=>c (of_decide_eq_true h)) (fun h=>e (of_decide_eq_false h))
end code
end Go.oc
namespace Go.oc
open Go.RowKit
def S (l:List UInt8):Value:=.string ⟨⟨l⟩⟩
section
variable {P:Program}{Q:Exit→Act→World→Prop}{K:List Value→List Deferred→World→Prop}{fr Fa:List Value}{ds:List Deferred}{w:World}{ops:Array Oper}{rest:List Oper}
variable {dst:Option Tmp}{op:Op}{ty:TypeId}{pos:String}{after:Array Edge}{g:Option (Nat×Bool)}
theorem Na (h:Q .normal (F fr ds) w):Lf P ops Q [] fr ds w:=⟨h⟩
theorem wl (h:De P ⟨dst,op,ty,pos,after,none⟩ fr ds w (Lf P ops Q rest) Q):Lf P ops Q (⟨dst,op,ty,pos,after,none⟩::rest) fr ds w:=by
 constructor;unfold wpList;rw [if_pos (by simp [Region.wanted])];exact .inl (h.out _ fun _ _ _ k=>k.out)
theorem Qb {j d:Nat}{b:Bool}(a:(ops[j]?).bind (·.dst)=some d) (qa:hc fr d (.bool b)) (h:De P ⟨dst,op,ty,pos,after,some (j,b)⟩ fr ds w (Lf P ops Q rest) Q) :
  Lf P ops Q (⟨dst,op,ty,pos,after,some (j,b)⟩::rest) fr ds w:=by
 constructor;unfold wpList;rw [if_pos (by
  unfold hc at qa;simp only [Region.wanted,yielded,a,F];simp [qa])]
 exact .inl (h.out _ fun _ _ _ k=>k.out)
theorem wn {j d:Nat}{b Ke:Bool}(a:(ops[j]?).bind (·.dst)=some d) (qa:hc fr d (.bool Ke)) (c:(Ke == b)=false) (e:Vf fr dst undef Fa) (h:Lf P ops Q rest Fa ds w) :
  Lf P ops Q (⟨dst,op,ty,pos,after,some (j,b)⟩::rest) fr ds w:=by
 constructor;unfold wpList;rw [if_neg (by
  unfold hc at qa;simp only [Region.wanted,yielded,a,F];simp [qa];simpa using c)]
 exact e.rw h.out
theorem cj {j d:Nat}{b:Bool}(a:(ops[j]?).bind (·.dst)=some d) (qa:hc fr d undef) (c:Vf fr dst undef Fa) (h:Lf P ops Q rest Fa ds w) :
  Lf P ops Q (⟨dst,op,ty,pos,after,some (j,b)⟩::rest) fr ds w:=by
 constructor;unfold wpList;rw [if_neg (by
  unfold hc at qa;simp only [Region.wanted,yielded,a,F];simp [qa,undef])]
 exact c.rw h.out
theorem sh {o:Oper}{v:Value}{w':World}(a:(execOp (F fr ds).eval o).run P w=.ok (.value v) w') (b:Vf fr o.dst v Fa) (h:K Fa ds w'):De P o fr ds w K Q:=by
 constructor;intro d c;unfold Oper.wp;rw [a,Oper.upon_value];exact b.rw (c _ _ _ h)
theorem uz {o:Oper}{w':World}(a:(execOp (F fr ds).eval o).run P w=.ok .skip w') (b:Vf fr o.dst undef Fa) (h:K Fa ds w'):De P o fr ds w K Q:=by
 constructor;intro d c;unfold Oper.wp;rw [a,Oper.upon_skip];exact b.rw (c _ _ _ h)
structure Of (P:Program) (o:Oper) (fr:List Value) (v:Value):Prop where
 out:∀ ds w,(execOp (F fr ds).eval o).run P w=.ok (.value v) w
theorem Ea {o:Oper}{v:Value}(hu:Of P o fr v) (a:Vf fr o.dst v Fa) (h:K Fa ds w):De P o fr ds w K Q:=sh (hu.out ds w) a h
theorem Oh {x:Operand}{v:Value}(a:zb fr x v):Of P (Oper.mk dst (.move x) ty pos after g) fr (v):=⟨fun ds w=>by simp [execOp,a ds]⟩
theorem oC {x:Operand}{v:Value}(a:zb fr x v) (b:Vf fr dst (v) Fa) (h:K Fa ds w):De P (Oper.mk dst (.move x) ty pos after g) fr ds w K Q:=Ea (Oh a) b h
theorem rB {x:Operand}{v:Value}(a:zb fr x v):Of P (Oper.mk dst (.assign x) ty pos after g) fr (v):=⟨fun ds w=>by simp [execOp,a ds]⟩
theorem ky {x:Operand}{v:Value}(a:zb fr x v) (b:Vf fr dst (v) Fa) (h:K Fa ds w):De P (Oper.mk dst (.assign x) ty pos after g) fr ds w K Q:=Ea (rB a) b h
theorem Jp {c x y:Operand}{v:Value}(a:zb fr c (.bool true)) (b:zb fr x v):Of P (Oper.mk dst (.pick c x y) ty pos after g) fr (v):=⟨fun ds w=>by simp [execOp,b ds,a ds,asBool]⟩
theorem wu {c x y:Operand}{v:Value}(a:zb fr c (.bool false)) (b:zb fr y v):Of P (Oper.mk dst (.pick c x y) ty pos after g) fr (v):=⟨fun ds w=>by simp [execOp,b ds,a ds,asBool]⟩
theorem wr {n:Int}(h:-9223372036854775808≤n∧n≤9223372036854775807):IntKind.i64.wrap n=n:=by
 unfold IntKind.wrap;simp [IntKind.bits,IntKind.signed];omega
theorem jJ {x y:Operand}{t qd:TypeId}{k:IntKind}{a b c:Int}(d:zb fr x (.int k a)) (e:zb fr y (.int k b)) (hw:k.wrap (a+b)=c):Of P (Oper.mk dst (.binOp .add t x y qd) ty pos after g) fr ((.int k c)):=by
 subst hw;exact ⟨fun ds w=>by simp [execOp,d ds,e ds,eqGuard,binOp,Op.intArith]⟩
theorem kJ {x y:Operand}{t qd:TypeId}{k:IntKind}{a b c:Int}(d:zb fr x (.int k a)) (e:zb fr y (.int k b)) (hw:k.wrap (a - b)=c):Of P (Oper.mk dst (.binOp .sub t x y qd) ty pos after g) fr ((.int k c)):=by
 subst hw;exact ⟨fun ds w=>by simp [execOp,d ds,e ds,eqGuard,binOp,Op.intArith]⟩
theorem Gu {x y:Operand}{t qd:TypeId}{k:IntKind}{a b:Int}(c:zb fr x (.int k a)) (d:zb fr y (.int k b)):Of P (Oper.mk dst (.binOp .lss t x y qd) ty pos after g) fr ((.bool (decide (a<b)))):=⟨fun ds w=>by simp [execOp,c ds,d ds,eqGuard,binOp,Op.intCmp]⟩
theorem lJ {x y:Operand}{t qd:TypeId}{k:IntKind}{a b:Int}(c:zb fr x (.int k a)) (d:zb fr y (.int k b)):Of P (Oper.mk dst (.binOp .leq t x y qd) ty pos after g) fr ((.bool (decide (a≤b)))):=⟨fun ds w=>by simp [execOp,c ds,d ds,eqGuard,binOp,Op.intCmp]⟩
theorem Hu {x y:Operand}{t qd:TypeId}{k:IntKind}{a b:Int}(c:zb fr x (.int k a)) (d:zb fr y (.int k b)):Of P (Oper.mk dst (.binOp .gtr t x y qd) ty pos after g) fr ((.bool (decide (b<a)))):=⟨fun ds w=>by simp [execOp,c ds,d ds,eqGuard,binOp,Op.intCmp]⟩
theorem mJ {x y:Operand}{t qd:TypeId}{k:IntKind}{a b:Int}(c:zb fr x (.int k a)) (d:zb fr y (.int k b)):Of P (Oper.mk dst (.binOp .geq t x y qd) ty pos after g) fr ((.bool (decide (b≤a)))):=⟨fun ds w=>by simp [execOp,c ds,d ds,eqGuard,binOp,Op.intCmp]⟩
theorem lz {x y:Operand}{t qd:TypeId}{k:IntKind}{a b:Int}(c:zb fr x (.int k a)) (d:zb fr y (.int k b)):Of P (Oper.mk dst (.binOp .eql t x y qd) ty pos after g) fr ((.bool (decide (a=b)))):=⟨fun ds w=>by simp [execOp,c ds,d ds,eqGuard,binOp,Op.intCmp];rfl⟩
theorem nJ {x y:Operand}{t qd:TypeId}{k:IntKind}{a b:Int}(c:zb fr x (.int k a)) (d:zb fr y (.int k b)):Of P (Oper.mk dst (.binOp .neq t x y qd) ty pos after g) fr ((.bool (decide (a≠b)))):=⟨fun ds w=>by
  simp [execOp,c ds,d ds,eqGuard,binOp,Op.intCmp];by_cases h:a=b<;>simp [h]⟩
theorem oJ {x:Operand}{t:TypeId}{b:Bool}(a:zb fr x (.bool b)):Of P (Oper.mk dst (.unOp .not t x) ty pos after g) fr ((.bool (!b))):=⟨fun ds w=>by simp [execOp,a ds,Op.unary]⟩
theorem pJ {x y:Operand}{t qd:TypeId}{a b:List UInt8}(c:zb fr x (S a)) (d:zb fr y (S b)) (l:a.length+b.length≤9223372036854775807):Of P (Oper.mk dst (.binOp .add t x y qd) ty pos after g) fr ((S (a++b))):=by
 have e:(ByteArray.mk ⟨a⟩).size=a.length:=rfl;have f:(ByteArray.mk ⟨b⟩).size=b.length:=rfl;have h:¬ (((((ByteArray.mk ⟨a⟩).size+(ByteArray.mk ⟨b⟩).size:Nat):Int)) > IntKind.i64.max):=by
  rw [e,f];unfold IntKind.max;simp [IntKind.bits,IntKind.signed];omega
 have i:ByteArray.mk ⟨a⟩++ByteArray.mk ⟨b⟩=ByteArray.mk ⟨a++b⟩:=by
  apply ByteArray.ext;rw [ByteArray.data_append];simp
 refine ⟨fun ds w=>?_⟩;have j:=c ds;have k:=d ds;simp only [execOp,j,k,S,eqGuard,binOp,Op.stringOp];rw [if_neg h,i];simp
theorem mz {x y:Operand}{t qd:TypeId}{a b:List UInt8}(c:zb fr x (S a)) (d:zb fr y (S b)):Of P (Oper.mk dst (.binOp .eql t x y qd) ty pos after g) fr ((.bool (decide (a=b)))):=by
 refine ⟨fun ds w=>?_⟩;have f:=c ds;have h:=d ds;simp [execOp,f,h,S,eqGuard,binOp,Op.stringOp];by_cases e:a=b<;>simp [e]
theorem UC {x y:Operand}{t qd:TypeId}{a b:List UInt8}(c:zb fr x (S a)) (d:zb fr y (S b)):Of P (Oper.mk dst (.binOp .neq t x y qd) ty pos after g) fr ((.bool (decide (a≠b)))):=by
 refine ⟨fun ds w=>?_⟩;have f:=c ds;have h:=d ds;simp [execOp,f,h,S,eqGuard,binOp,Op.stringOp];by_cases e:a=b<;>simp [e]
theorem Ll {x:Operand}{t:TypeId}{a:List UInt8}(b:P.underlying t=some .string) (c:zb fr x (S a)):Of P (Oper.mk dst (.call { callee:=.builtin .len,args:=#[x],argTypes:=#[t] }) ty pos after g) fr ((.int .i64 a.length)):=by
 refine ⟨fun ds w=>?_⟩;have d:=c ds;have e:(ByteArray.mk ⟨a⟩).size=a.length:=rfl;simp [execOp,d,resolve,invoke,builtin,S,Builtin.len_,run_underlying b,goInt,e]
theorem Yd {x:Operand}{t e:TypeId}{a:Option Addr}{n c:Nat}(b:P.underlying t=some (.slice e)) (d:zb fr x (.slice a n c)):Of P (Oper.mk dst (.call { callee:=.builtin .len,args:=#[x],argTypes:=#[t] }) ty pos after g) fr ((.int .i64 n)):=by
 refine ⟨fun ds w=>?_⟩;have f:=d ds;simp [execOp,f,resolve,invoke,builtin,Builtin.len_,run_underlying b,goInt]
theorem PH {x y:Operand}{t:TypeId}{k:IntKind}{a:List UInt8}{i:Int}{c:UInt8}(e:P.underlying t=some .string) (f:zb fr x (S a)) (j:zb fr y (.int k i)) (l:0≤i) (b:a[i.toNat]?=some c):Of P (Oper.mk dst (.index t x y) ty pos after g) fr ((.int .u8 c.toNat)):=by
 refine ⟨fun ds w=>?_⟩;have m:=f ds;have n:=j ds;have o:(ByteArray.mk ⟨a⟩)[i.toNat]?=some c:=by
  have d:i.toNat<a.length:=by
   rcases Nat.lt_or_ge i.toNat a.length with h | h
   ·exact h
   ·rw [List.getElem?_eq_none h] at b;cases b
  rw [getElem?_pos (ByteArray.mk ⟨a⟩) i.toNat (show i.toNat<(ByteArray.mk ⟨a⟩).size from d)];rw [List.getElem?_eq_getElem d] at b;rw [← b];rfl
 simp [execOp,m,n,S,Instr.index,run_underlying e,asIntOf,l,o]
theorem bB (a:List UInt8) (i j:Nat):(ByteArray.mk ⟨a⟩).extract i j=ByteArray.mk ⟨(a.take j).drop i⟩:=by
 rw [Lib.extract_eq];simp [List.drop_take]
theorem ZG {x Rg:Operand}{t:TypeId}{k:IntKind}{a:List UInt8}{i:Int}(b:P.underlying t=some .string) (c:zb fr x (S a)) (d:zb fr Rg (.int k i))
  (e:0≤i∧i≤a.length):Of P (Oper.mk dst (.slice t x (some Rg) none none) ty pos after g) fr ((S (a.drop i.toNat))):=by
 refine ⟨fun ds w=>?_⟩;have f:=c ds;have h:=d ds;have j:(ByteArray.mk ⟨a⟩).size=a.length:=rfl;simp only [execOp,f,h,S,Option.map,Instr.sliceAt];simp [run_underlying b,Instr.slice,Instr.sliceBounds,Instr.sliceBound,asIntOf,j,e,bB]
theorem aH {x b:Operand}{t:TypeId}{c:IntKind}{a:List UInt8}{j:Int}(d:P.underlying t=some .string) (e:zb fr x (S a)) (f:zb fr b (.int c j))
  (h:0≤j∧j≤a.length):Of P (Oper.mk dst (.slice t x none (some b) none) ty pos after g) fr ((S (a.take j.toNat))):=by
 refine ⟨fun ds w=>?_⟩;have i:=e ds;have k:=f ds;have l:(ByteArray.mk ⟨a⟩).size=a.length:=rfl;simp only [execOp,i,k,S,Option.map,Instr.sliceAt];simp [run_underlying d,Instr.slice,Instr.sliceBounds,Instr.sliceBound,asIntOf,l,h,bB]
theorem QH {x:Operand}{i:Nat}{vs:List Value}{v:Value}(a:zb fr x (.tuple ⟨vs⟩)) (qa:hc vs i v):Of P (Oper.mk dst (.extract x i) ty pos after g) fr (v):=by
 refine ⟨fun ds w=>?_⟩;have b:=a ds;unfold hc at qa;simp [execOp,b,Instr.extract,qa]
structure pc (P:Program) (f:FuncId) (args:List Value) (w:World) (R:Value→World→Prop):Prop where
 out:Calls P f ⟨args⟩ w fun e w'=>match e with | .returned v=>R v w' | _=>False
theorem pc.mono {f:FuncId}{args:List Value}{R R':Value→World→Prop}(h:pc P f args w R) (a:∀ v w',R v w'→R' v w'):pc P f args w R' :=
 ⟨Calls.mono h.out fun e w' he=>by
  cases e with
  | returned v=>exact a v w' he
  | panicked c=>exact he.elim
  | outgrown=>exact he.elim⟩
class vc (P:Program) (f:FuncId):Prop where
 out:∀ args w,(callFunc f args).run P w=.ok (.enter f args) w
theorem bH {f : FuncId} {fn : Func} (a : P.funcs[f]? = some fn) (e : fn.body.isSome = true) (b : (fn.name == "runtime.NumGoroutine") = false) : vc P f := by
 constructor;intro args w;have c:¬ fn.body=none:=by cases h:fn.body<;>simp_all
 have d : ¬ fn.name = "runtime.NumGoroutine" := by simpa using b
 simp only [callFunc,Sem.run_bind,run_program,Result.andThen_ok,a,beq_iff_eq,if_neg d,Option.isNone_iff_eq_none,if_neg c,Sem.run_pure]
def Mg (fr:List Value) (dst:Option Tmp) (v:Value) (K:List Value→Prop):Prop:=∀ Fa,Vf fr dst v Fa→K Fa
theorem Vf.uniq {fr a b:List Value}{dst:Option Tmp}{v:Value}(h:Vf fr dst v a) (k:Vf fr dst v b):a=b:=by
 have:=(h []).symm.trans (k []);unfold F at this;simpa using this
theorem pu {v:Value}{K:List Value→Prop}(a:Vf fr dst v Fa) (h:K Fa):Mg fr dst v K:=fun c b=>by rw [Vf.uniq b a];exact h
theorem Ph (fr:List Value) (dst:Option Tmp) (v:Value):∃ Fa,Vf fr dst v Fa:=by
 cases dst with
 | none=>exact ⟨fr,cb⟩
 | some n=>exact ⟨fr.set n v,ma rfl⟩
theorem Fy {o:Oper}{f:FuncId}{args:List Value}{R:Value→World→Prop}(a:(execOp (F fr ds).eval o).run P w=.ok (.enter f ⟨args⟩) w) (b:pc P f args w R)
  (h:∀ v w',R v w'→Mg fr o.dst v fun Fa=>K Fa ds w'):De P o fr ds w K Q:=by
 constructor;intro g d;unfold Oper.wp;rw [a,Oper.upon_enter];exact Calls.mono b.out fun e w' he=>by
  cases e with
  | returned v =>
   obtain ⟨Fa,ya⟩:=Ph fr o.dst v;exact ya.rw (d _ _ _ (h v w' he Fa ya))
  | panicked c=>exact he.elim
  | outgrown=>exact he.elim
theorem sB {f:Operand}{xs:List Operand}{tys:Array TypeId}{k:FuncId}{cap vs:List Value}(a:vc P k) (b:zb fr f (.func (.func k) #[] ⟨cap⟩)) (hs:Vm fr xs vs) :
  (execOp (F fr ds).eval (Oper.mk dst (.call { callee:=.value f,args:=⟨xs⟩,argTypes:=tys }) ty pos after g)).run P w=.ok (.enter k ⟨vs++cap⟩) w:=by
 have c:=b ds;have d:=hs ds;have e:=a.out ⟨vs++cap⟩ w;simp [execOp,resolve,c,Deferred.ofValue,invoke,d,e]
theorem xd {f:Operand}{xs:List Operand}{tys:Array TypeId}{k:FuncId}{vs:List Value}{R:Value→World→Prop}(a:vc P k) (b:zb fr f (.func (.func k) #[] #[])) (hs:Vm fr xs vs)
  (c:pc P k vs w R) (h:∀ v w',R v w'→Mg fr dst v fun Fa=>K Fa ds w'):De P (Oper.mk dst (.call { callee:=.value f,args:=⟨xs⟩,argTypes:=tys }) ty pos after g) fr ds w K Q:=by
 refine Fy (args:=vs) ?_ c h;have:=sB (w:=w) (dst:=dst) (ty:=ty) (pos:=pos) (after:=after) (g:=g) (tys:=tys) (ds:=ds) (cap:=[]) a b hs;simpa using this
theorem Gy {f:Operand}{xs:List Operand}{tys:Array TypeId}{k:FuncId}{cap vs:List Value}{R:Value→World→Prop}(a:vc P k) (b:zb fr f (.func (.func k) #[] ⟨cap⟩)) (hs:Vm fr xs vs)
  (c:pc P k (vs++cap) w R) (h:∀ v w',R v w'→Mg fr dst v fun Fa=>K Fa ds w'):De P (Oper.mk dst (.call { callee:=.value f,args:=⟨xs⟩,argTypes:=tys }) ty pos after g) fr ds w K Q :=
 Fy (sB a b hs) c h
def Zp (P:Program) (fn:Func) (R:Value→World→Prop):Exit→Act→World→Prop:=bodyPost P fn fun e w'=>match e with | .returned v=>R v w' | _=>False
theorem enter {f:FuncId}{fn:Func}{c:Code}{args frm:List Value}{R:Value→World→Prop}(a:P.funcs[f]?=some fn) (b:fn.body=some c)
  (d:args++List.replicate (fn.ntmps - args.length) undef=frm) (h:df P c (Zp P fn R) frm [] w):pc P f args w R:=by
 refine ⟨calls_of_wp a b ?_⟩;subst d;have:(⟨args⟩:Array Value)++Array.replicate (fn.ntmps - args.length) undef=⟨args++List.replicate (fn.ntmps - args.length) undef⟩:=by
  apply Array.ext';simp
 have h:=h.out;simpa [F,Zp,this] using h
theorem yb {fn:Func}{R:Value→World→Prop}{t:Tmp}{v:Value}(a:fn.results=#[.tmp t]) (qa:hc fr t v) (h:R v w):Zp P fn R .ret (F fr []) w:=by
 refine bodyPost_ret (v:=v) ?_ rfl h;unfold hc at qa;rw [results_tmp a];simp [F,qa]
theorem Ko {fn:Func}{R:Value→World→Prop}{t u:Tmp}{v a:Value}(c:fn.results=#[.tmp t,.tmp u]) (qa:hc fr t v) (b:hc fr u a) (h:R (.tuple #[v,a]) w):Zp P fn R .ret (F fr []) w:=by
 refine bodyPost_ret (v:=.tuple #[v,a]) ?_ rfl h;unfold hc at qa b;rw [results_tmp2 c];simp [F,qa,b]
theorem Xi {fn:Func}{R:Value→World→Prop}(a:fn.results=#[]) (h:R (.tuple #[]) w):Zp P fn R .normal (F fr []) w :=
 bodyPost_end (results_none a _ _ _) rfl h
theorem Uq {fn:Func}{R:Value→World→Prop}(a:fn.results=#[]) (h:R (.tuple #[]) w):Zp P fn R .ret (F fr []) w :=
 bodyPost_ret (results_none a _ _ _) rfl h
end
end Go.oc
namespace Go.oc
open Go.RowKit
structure Xh (S:Nat→Prop) (w w':World):Prop where
 os:w'.os=w.os
 tape:w'.tape=w.tape
 output:w'.output=w.output
 size:w.heap.size≤w'.heap.size
 ba:∀ k,k<w.heap.size→S k→w'.heap[k]?=w.heap[k]?
def Grow (w w':World):Prop:=Xh (fun _=>True) w w'
theorem Xh.refl {S:Nat→Prop}(w:World):Xh S w w:=⟨rfl,rfl,rfl,Nat.le_refl _,fun _ _ _=>rfl⟩
theorem Xh.trans {S:Nat→Prop}{a b c:World}(h:Xh S a b) (k:Xh S b c):Xh S a c :=
 ⟨k.os.trans h.os,k.tape.trans h.tape,k.output.trans h.output,Nat.le_trans h.size k.size,fun i d hs=>(k.ba i (Nat.lt_of_lt_of_le d h.size) hs).trans (h.ba i d hs)⟩
theorem Xh.mono {S c:Nat→Prop}{a b:World}(h:Xh S a b) (hs:∀ k,c k→S k):Xh c a b:=⟨h.os,h.tape,h.output,h.size,fun i d k=>h.ba i d (hs i k)⟩
theorem Grow.keeps {S:Nat→Prop}{a b:World}(h:Grow a b):Xh S a b:=Xh.mono h fun _ _=>trivial
theorem Grow.below {a b:World}(h:Grow a b):Below a.heap.size a b:=⟨h.os,h.tape,h.output,h.size,fun k c=>h.ba k c trivial⟩
theorem Grow.alloc (w:World) (o:Obj):Grow w (w.alloc o):=⟨rfl,rfl,rfl,by simp,fun k a _=>heap_alloc_old w o k a⟩
def Ck (S:Nat→Prop) (w:World) (A:World→Prop):Prop:=∀ w',w.heap.size≤w'.heap.size→(∀ k,k<w.heap.size→S k→w'.heap[k]?=w.heap[k]?)→A w'
theorem Ck.now {S:Nat→Prop}{w:World}{A:World→Prop}(h:Ck S w A):A w:=h w (Nat.le_refl _) fun _ _ _=>rfl
theorem Ck.mono {S a:Nat→Prop}{w:World}{A:World→Prop}(h:Ck S w A) (hs:∀ k,k<w.heap.size→S k→a k):Ck a w A:=fun w' c d=>h w' c fun k b e=>d k b (hs k b e)
theorem Ck.and {S:Nat→Prop}{w:World}{A B:World→Prop}(h:Ck S w A) (k:Ck S w B):Ck S w fun w'=>A w'∧B w':=fun w' a b=>⟨h w' a b,k w' a b⟩
theorem Ck.keeps {S:Nat→Prop}{w w':World}{A:World→Prop}(h:Ck S w A) (k:Xh S w w'):Ck S w' A :=
 fun c d e=>h c (Nat.le_trans k.size d) fun b a hs=>(e b (Nat.lt_of_lt_of_le a k.size) hs).trans (k.ba b a hs)
inductive dc where
 | ba (b:Nat) (T:TypeId) (cs:List Value)
 | row (v:Value) (T:TypeId) (sz n:Nat) (xs:List Value)
 | map (b:Nat) (es:List MapEntry) (clock:Nat)
 | px (b:Nat) (s:ByteArray) (pos:Nat)
 | ro (b:Nat) (T:TypeId) (cs:List Value)
 | nj (b m since:Nat) (seen:List Nat) (last:Nat)
def Dk (w:World) (b:Nat) (T:TypeId) (cs:List Value):Prop:=w.heap[b]?=some (.cells ⟨cs⟩ T (0,0))
def Row (w:World) (v:Value) (T:TypeId) (sz n:Nat) (xs:List Value):Prop :=
 xs.length=n*sz∧((v=.slice none 0 0∧n=0)∨∃ g o cap cur,v=.slice (some ⟨g,o,none⟩) n cap∧w.heap[g]?=some (.cells cur T (0,0))∧n≤cap∧cap≤maxLen∧o+cap*sz≤cur.size∧(cur.toList.drop o).take (n*sz)=xs)
def dc.block:dc→Option Nat
 | .ba b _ _=>some b
 | .row v _ _ _ _=>v.ownBlock
 | .map b _ _=>some b
 | .px b _ _=>some b
 | .ro b _ _=>some b
 | .nj b _ _ _ _=>some b
def dc.holds (w:World):dc→Prop
 | .ba b T cs=>Dk w b T cs
 | .row v T sz n xs=>Row w v T sz n xs
 | .map b es clock=>w.heap[b]?=some (.map ⟨es⟩ clock)
 | .px b s pos=>w.heap[b]?=some (.stringIter s pos)
 | .ro b T cs=>∃ z,w.heap[b]?=some (.cells ⟨cs⟩ T z)
 | .nj b m since seen last=>w.heap[b]?=some (.mapIter (some m) since ⟨seen⟩ last)
def blocks (rs:List dc):List Nat:=rs.filterMap dc.block
structure Sep (S Jd:Nat→Prop) (J w:World) (rs:List dc) (A:World→Prop):Prop where
 keeps:Xh S J w
 all:∀ r ∈ rs,r.holds w
 Zh:(blocks rs).Nodup
 new:∀ b ∈ blocks rs,J.heap.size≤b∨¬ S b
 Ki:Ck (fun b=>(Jd b∨J.heap.size≤b)∧b ∉ blocks rs) w A
theorem pE {w:World}{r:dc}(h:r.holds w){b:Nat}(a:r.block=some b):b<w.heap.size:=by
 cases r with
 | ba Ke T cs=>simp [dc.block] at a; subst a; exact (Array.getElem?_eq_some_iff.1 h).1
 | map Ke es Ro=>simp [dc.block] at a; subst a; exact (Array.getElem?_eq_some_iff.1 h).1
 | px Ke s p=>simp [dc.block] at a; subst a; exact (Array.getElem?_eq_some_iff.1 h).1
 | nj Ke m s e l=>simp [dc.block] at a; subst a; exact (Array.getElem?_eq_some_iff.1 h).1
 | ro Ke T cs=>obtain ⟨z,h⟩:=h; simp [dc.block] at a; subst a; exact (Array.getElem?_eq_some_iff.1 h).1
 | row v T sz n xs =>
  rcases h.2 with ⟨rfl,_⟩ | ⟨g,o,cap,cur,rfl,c,_⟩
  ·simp [dc.block,Value.ownBlock] at a
  ·simp [dc.block,Value.ownBlock] at a;subst a;exact (Array.getElem?_eq_some_iff.1 c).1
theorem holds_of {w w':World}{r:dc}(h:r.holds w) (a:∀ b,r.block=some b→w'.heap[b]?=w.heap[b]?):r.holds w':=by
 cases r with
 | ba Ke T cs=>exact (a Ke rfl).trans h
 | map Ke es Ro=>exact (a Ke rfl).trans h
 | px Ke s p=>exact (a Ke rfl).trans h
 | nj Ke m s e l=>exact (a Ke rfl).trans h
 | ro Ke T cs=>obtain ⟨z,h⟩:=h; exact ⟨z,(a Ke rfl).trans h⟩
 | row v T sz n xs =>
  refine ⟨h.1,?_⟩;rcases h.2 with h | ⟨g,o,cap,cur,rfl,c,h⟩
  ·exact .inl h
  ·exact .inr ⟨g,o,cap,cur,rfl,by rw [a g rfl];exact c,h⟩
section
variable {S Jd:Nat→Prop}{J w w':World}{rs Lc:List dc}{A B:World→Prop}
theorem Sep.a (h:Sep S Jd J w rs A):A w:=h.Ki.now
theorem Sep.start (w:World) (S Jd:Nat→Prop) (a:Ck Jd w A):Sep S Jd w w [] A :=
 ⟨.refl w,by simp,by simp [blocks],by simp [blocks],a.mono fun k _ hs=>⟨.inl hs,by simp [blocks]⟩⟩
theorem tp {r:dc}{b:Nat}(a:r ∈ rs) (c:r.block=some b):b ∈ blocks rs:=List.mem_filterMap.2 ⟨r,a,c⟩
theorem Sep.lt (h:Sep S Jd J w rs A){b:Nat}(a:b ∈ blocks rs):b<w.heap.size:=by
 obtain ⟨r,c,a⟩:=List.mem_filterMap.1 a;exact pE (h.all r c) a
theorem Sep.grow (h:Sep S Jd J w rs A) (a:Grow w w'):Sep S Jd J w' rs A where
 keeps:=h.keeps.trans a.keeps
 all r c:=holds_of (h.all r c) fun b d=>a.ba b (h.lt (tp c d)) trivial
 Zh:=h.Zh
 new:=h.new
 Ki:=h.Ki.keeps a.keeps
theorem Sep.alloc (h:Sep S Jd J w rs A){o:Obj}{r:dc}(c:r.block=some w.heap.size) (e:r.holds (w.alloc o)):Sep S Jd J (w.alloc o) (r::rs) A where
 keeps:=h.keeps.trans (Grow.alloc w o).keeps
 all r' d:=by
  rcases List.mem_cons.1 d with rfl | d
  ·exact e
  ·exact (h.grow (Grow.alloc w o)).all r' d
 Zh:=by
  simp only [blocks,List.filterMap_cons,c,List.nodup_cons];exact ⟨fun hm=>Nat.lt_irrefl _ (h.lt hm),h.Zh⟩
 new b a:=by
  simp only [blocks,List.filterMap_cons,c,List.mem_cons] at a;rcases a with rfl | a
  ·exact .inl h.keeps.size
  ·exact h.new b a
 Ki:=fun w' f g=>h.Ki w' (by simp at f;omega) fun k i hs=>by
  have:=g k (by simp;omega) ⟨hs.1,by
   simp only [blocks,List.filterMap_cons,c,List.mem_cons,not_or];exact ⟨by omega,hs.2⟩⟩
  rw [this];exact heap_alloc_old w o k i
theorem Lw {r:dc}{n:Nat}(qa:hc rs n r):r ∈ rs:=List.mem_of_getElem? qa
theorem Sep.get (h:Sep S Jd J w rs A){n:Nat}{r:dc}(qa:hc rs n r):r.holds w:=h.all r (Lw qa)
theorem GA {n:Nat}{r r':dc}(qa:hc rs n r) (b:r'.block=r.block):blocks (rs.set n r')=blocks rs:=by
 unfold hc at qa;unfold blocks
 induction rs generalizing n with
 | nil=>rfl
 | cons a rs c =>
  cases n with
  | zero=>simp at qa; subst qa; simp [List.filterMap_cons,b]
  | succ n=>simp at qa; simp only [List.set_cons_succ,List.filterMap_cons,c qa]
theorem jA {n m:Nat}{r d:dc}(ya:(blocks rs).Nodup) (qa:hc rs n r) (hm:hc rs m d) (h:n≠m){b:Nat}(f:r.block=some b):d.block≠some b:=by
 unfold hc at qa hm;unfold blocks at ya
 induction rs generalizing n m with
 | nil=>simp at qa
 | cons a rs i =>
  have j:(List.filterMap dc.block rs).Nodup:=by
   cases g:a.block with
   | none=>simpa [List.filterMap_cons,g] using ya
   | some c=>simp only [List.filterMap_cons,g,List.nodup_cons] at ya; exact ya.2
  cases n with
  | zero =>
   cases m with
   | zero=>exact absurd rfl h
   | succ m =>
    simp at qa hm;subst qa;intro e;simp only [List.filterMap_cons,f,List.nodup_cons] at ya;exact ya.1 (List.mem_filterMap.2 ⟨d,List.mem_of_getElem? hm,e⟩)
  | succ n =>
   cases m with
   | zero =>
    simp at qa hm;subst hm;intro e;simp only [List.filterMap_cons,e,List.nodup_cons] at ya;exact ya.1 (List.mem_filterMap.2 ⟨r,List.mem_of_getElem? qa,f⟩)
   | succ m=>simp at qa hm; exact i j qa hm (by omega)
theorem Sep.put (h:Sep S Jd J w rs A){n:Nat}{r r':dc}{b:Nat}(qa:hc rs n r) (d:r.block=some b) (o:r'.block=some b) (i:Hc rs n r' Lc)
  (p:r'.holds w') (a:Xh (fun k=>k≠b) w w'):Sep S Jd J w' Lc A:=by
 unfold Hc at i;subst i;have j:=tp (Lw qa) d;have f:=GA (r':=r') qa (o.trans d.symm);refine ⟨?_,?_,?_,?_,?_⟩
 ·refine ⟨a.os.trans h.keeps.os,a.tape.trans h.keeps.tape,a.output.trans h.keeps.output,Nat.le_trans h.keeps.size a.size,fun k g hs=>?_⟩;rw [a.ba k (Nat.lt_of_lt_of_le g h.keeps.size) (fun e=>by subst e;rcases h.new k j with h | h;exact absurd g (by omega);exact h hs)];exact h.keeps.ba k g hs
 ·intro q s;obtain ⟨m,hm⟩:=List.mem_iff_getElem?.1 s;by_cases e:n=m
  ·subst e;have t:n<rs.length:=(List.getElem?_eq_some_iff.1 qa).1;rw [List.getElem?_set_self t] at hm;cases hm;exact p
  ·rw [List.getElem?_set_ne e] at hm;refine holds_of (h.all q (List.mem_of_getElem? hm)) fun c l=>a.ba c (h.lt (tp (List.mem_of_getElem? hm) l)) fun u=>?_;subst u;exact jA h.Zh qa hm e d l
 ·rw [f];exact h.Zh
 ·rw [f];exact h.new
 ·rw [f];exact h.Ki.keeps (a.mono fun k hs e=>hs.2 (by subst e;exact j))
end
def ix:TypeDesc→Bool
 | .struct _ | .array _ _=>true
 | _=>false
class Wc (P:Program) (T:TypeId) (ag:outParam Bool) (Vd:outParam (List Value)) (n m:outParam Nat):Prop where
 Hz:∃ d,P.underlying T=some d∧ix d=ag
 inf:∃ i z,P.info? T=some i∧i.zero=some z∧z.cells=⟨Vd⟩∧i.size=n∧i.bytes=m
theorem qJ {P:Program}{T:TypeId}{d:TypeDesc}{ag:Bool}{z:Value}{Vd:List Value}{n m:Nat}(hu:P.underlying T=some d) (b:ix d=ag) (h:(P.info? T).map (fun i=>(i.zero,i.size,i.bytes))=some (some z,n,m)) (c:z.cells=⟨Vd⟩):Wc P T ag Vd n m:=by
 refine ⟨⟨d,hu,b⟩,?_⟩;cases a:P.info? T with
 | none=>rw [a] at h; cases h
 | some i =>
  rw [a] at h;simp only [Option.map_some,Option.some.injEq,Prod.mk.injEq] at h;exact ⟨i,z,rfl,h.1,c,h.2.1,h.2.2⟩
def Ae:Value→Bool
 | .agg _ | .tuple _=>false
 | _=>true
section
variable {P:Program}{Q:Exit→Act→World→Prop}{K:List Value→List Deferred→World→Prop}{fr Fa:List Value}{ds:List Deferred}{w:World}
variable {dst:Option Tmp}{ty:TypeId}{pos:String}{after:Array Edge}{g:Option (Nat×Bool)}
variable {S Jd:Nat→Prop}{J:World}{rs Lc:List dc}{A:World→Prop}
variable {T:TypeId}{d:TypeDesc}{ag:Bool}{Vd:List Value}{n m:Nat}
theorem GF (h:P.underlying T=some d):(isAgg T).run P w=.ok (ix d) w:=by
 unfold isAgg;simp only [Sem.run_bind,run_underlying h,Result.andThen_ok];cases d<;>rfl
theorem Wc.isAgg (h:Wc P T ag Vd n m):(Go.isAgg T).run P w=.ok ag w:=by
 obtain ⟨d,ya,rfl⟩:=h.Hz;exact GF ya
theorem Wc.sizeOf (h:Wc P T ag Vd n m):(Go.sizeOf T).run P w=.ok n w:=by
 obtain ⟨i,z,a,c,d,b,hm⟩:=h.inf;simp [Go.sizeOf,typeInfo,a,b]
theorem Wc.zero (h:Wc P T ag Vd n m):∃ z,(zeroValue T).run P w=.ok z w∧z.cells=⟨Vd⟩:=by
 obtain ⟨i,z,a,b,c,d,hm⟩:=h.inf;exact ⟨z,by simp [zeroValue,typeInfo,a,b],c⟩
def tj (w:World) (b o:Nat) (cs:List Value):Prop:=∀ j v,cs[j]?=some v→w.cell? ⟨b,o+j,none⟩=some v
theorem Lj (b o j:Nat):(⟨b,o,none⟩:Addr).add j=⟨b,o+j,none⟩:=by
 unfold Addr.add;split
 ·rename_i h;subst h;rfl
 ·rfl
theorem Dk.cell {b:Nat}{cs:List Value}{j:Nat}{v:Value}(h:Dk w b T cs) (qa:hc cs j v):w.cell? ⟨b,j,none⟩=some v:=by
 unfold hc at qa;unfold Dk at h;simp [World.cell?,h,qa]
theorem Dk.cells {b:Nat}{cs:List Value}(h:Dk w b T cs):tj w b 0 cs:=fun j v qa=>by
 rw [Nat.zero_add];exact h.cell qa
theorem tj.one {b o:Nat}{cs:List Value}{j:Nat}{v:Value}(h:tj w b o cs) (qa:hc cs j v):w.cell? ⟨b,o+j,none⟩=some v:=h j v qa
theorem Ld (a:Wc P T ag Vd n m) (c:Sep S Jd J w rs A)
  (h:∀ b w',w.heap.size≤b→Sep S Jd J w' (.ba b T Vd::rs) A→Mg fr dst (.pointer (some ⟨b,0,none⟩)) fun Fa=>K Fa ds w'):De P (Oper.mk dst (.alloc T) ty pos after g) fr ds w K Q:=by
 obtain ⟨z,d,e⟩:=a.zero (w:=w);obtain ⟨Fa,ya⟩:=Ph fr dst (.pointer (some ⟨w.heap.size,0,none⟩));refine sh (v:=.pointer (some ⟨w.heap.size,0,none⟩)) (w':=w.alloc (.cells ⟨Vd⟩ T)) ?_ ya (h _ _ (Nat.le_refl _) (c.alloc rfl (heap_alloc_new w _)) Fa ya);simp [execOp,Instr.alloc,d,newVar,newRow,e]
theorem Ih {x:Operand}{v:Value}{cs:List Value}(a:zb fr x v) (c:v.cells=⟨cs⟩) (d:Sep S Jd J w rs A)
  (h:∀ b w',w.heap.size≤b→Sep S Jd J w' (.ba b T cs::rs) A→Mg fr dst (.pointer (some ⟨b,0,none⟩)) fun Fa=>K Fa ds w'):De P (Oper.mk dst (.box T x) ty pos after g) fr ds w K Q:=by
 obtain ⟨Fa,ya⟩:=Ph fr dst (.pointer (some ⟨w.heap.size,0,none⟩));refine sh (v:=.pointer (some ⟨w.heap.size,0,none⟩)) (w':=w.alloc (.cells ⟨cs⟩ T)) ?_ ya (h _ _ (Nat.le_refl _) (d.alloc rfl (heap_alloc_new w _)) Fa ya);simp [execOp,Instr.box,a ds,newVar,newRow,c]
structure bn (P:Program) (o:Oper) (fr:List Value) (w:World) (v:Value):Prop where
 out:∀ ds,(execOp (F fr ds).eval o).run P w=.ok (.value v) w
theorem tt {o:Oper}{v:Value}(hu:bn P o fr w v) (a:Vf fr o.dst v Fa) (h:K Fa ds w):De P o fr ds w K Q:=sh (hu.out ds) a h
theorem eb {x:Operand}{b o:Nat}{v:Value}(a:Wc P T false Vd n m) (c:zb fr x (.pointer (some ⟨b,o,none⟩))) (d:w.cell? ⟨b,o,none⟩=some v):bn P (Oper.mk dst (.load T x) ty pos after g) fr w v :=
 ⟨fun ds=>by simp [execOp,Instr.loadAt,c ds,Instr.sureAddr,loadVar,a.isAgg,d]⟩
theorem ae {x:Operand}{b o:Nat}{v:Value}(a:Wc P T false Vd n m) (c:zb fr x (.pointer (some ⟨b,o,none⟩))) (d:w.cell? ⟨b,o,none⟩=some v)
  (e:Vf fr dst v Fa) (h:K Fa ds w):De P (Oper.mk dst (.load T x) ty pos after g) fr ds w K Q:=tt (eb a c d) e h
theorem Ug {x:Operand}{b o:Nat}{cs:List Value}(a:Wc P T true Vd n m) (c:zb fr x (.pointer (some ⟨b,o,none⟩))) (d:tj w b o cs) (e:cs.length=n):bn P (Oper.mk dst (.load T x) ty pos after g) fr w (.agg ⟨cs⟩):=⟨fun ds=>by
 have qa:=run_loadCells_list (P:=P) w ⟨b,o,none⟩ cs (fun j v f=>by rw [Lj];exact d j v f);rw [e] at qa;simp [execOp,Instr.loadAt,c ds,Instr.sureAddr,loadVar,a.isAgg,a.sizeOf,qa]⟩
theorem Kp {x:Operand}{b o:Nat}{cs:List Value}(a:Wc P T true Vd n m) (c:zb fr x (.pointer (some ⟨b,o,none⟩))) (d:tj w b o cs) (e:cs.length=n)
  (f:Vf fr dst (.agg ⟨cs⟩) Fa) (h:K Fa ds w):De P (Oper.mk dst (.load T x) ty pos after g) fr ds w K Q:=tt (Ug a c d e) f h
inductive Jh:List Value→Nat→List Value→List Value→Prop where
 | z {cs:List Value} {o:Nat}:Jh cs o [] cs
 | s {cs cs1 a:List Value} {o:Nat} {v:Value} {vs:List Value} (h:Hc cs o v cs1) (qa:o<cs.length) (k:Jh cs1 (o+1) vs a):Jh cs o (v::vs) a
theorem Jh.eq {cs:List Value}{o:Nat}{vs b:List Value}(h:Jh cs o vs b):o+vs.length≤cs.length∨vs=[]:=by
 induction h with
 | z=>exact .inr rfl
 | @s cs cs1 b o v vs h qa k a =>
  left;unfold Hc at h;subst h;rcases a with a | rfl
  ·simp at a ⊢;omega
  ·simp;omega
theorem Jh.res {cs:List Value}{o:Nat}{vs a:List Value}(h:Jh cs o vs a) (qa:o≤cs.length):a=cs.take o++vs++cs.drop (o+vs.length):=by
 induction h with
 | z=>simp
 | @s cs cs1 a o v vs h b k c =>
  unfold Hc at h;subst h;rw [c (by simp;omega)];have na:(cs.set o v).take (o+1)=cs.take o++[v]:=by
   rw [List.take_set,List.take_add_one,List.getElem?_eq_getElem b];rw [List.set_append_right _ _ (by simp;omega)];simp [Nat.min_eq_left (Nat.le_of_lt b)]
  rw [na];have d:(cs.set o v).drop (o+1+vs.length)=cs.drop (o+(v::vs).length):=by
   rw [List.drop_set_of_lt (by omega)];congr 1;simp;omega
  rw [d];simp
theorem ly {v:Value}(h:Ae v=true):v.oneCell'=true:=by cases v<;>first | rfl | simp [Ae] at h
theorem SE {b:Nat}{cs:List Value}(a:Dk w b T cs){o:Nat}{vs c:List Value}(hs:Jh cs o vs c) (d:o≤cs.length) (e:vs.all Ae=true) :
  ∃ w',(storeCells ⟨b,o,none⟩ vs).run P w=.ok () w'∧Dk w' b T c∧Xh (fun k=>k≠b) w w':=by
 have hle:o+0+vs.length≤(⟨cs⟩:Array Value).size:=by
  rcases hs.eq with h | rfl
  ·simpa using h
  ·simpa using d
 refine ⟨_,run_storeCells_at P b o T vs 0 ⟨cs⟩ w a hle fun v Ab=>ly (List.all_eq_true.1 e v Ab),?_,?_⟩
 ·rw [hs.res d];exact setRow_heap w b ⟨cs⟩ _ T (0,0) a
 ·exact ⟨rfl,rfl,rfl,by simp [World.setRow],fun k f hs=>setRow_other w b k _ hs⟩
theorem Hy {x y:Operand}{b o k:Nat}{v:Value}{cs a vs:List Value}(e:Wc P T ag Vd n m) (f:zb fr x (.pointer (some ⟨b,o,none⟩))) (i:zb fr y v) (Ab:v.cells=⟨vs⟩) (j:vs.length=n) (l:vs.all Ae=true)
  (c:Sep S Jd J w rs A) {d:TypeId}(qa:hc rs k (.ba b d cs)) (hs:Jh cs o vs a) (p:(decide (o≤cs.length))=true) (q:Hc rs k (.ba b d a) Lc)
  (ya:Vf fr dst undef Fa) (h:∀ w',Sep S Jd J w' Lc A→K Fa ds w'):De P (Oper.mk dst (.store T x y) ty pos after g) fr ds w K Q:=by
 obtain ⟨w',r,s,t⟩:=SE (P:=P) (c.get qa) hs (of_decide_eq_true p) l;refine uz (w':=w') ?_ ya (h w' (c.put qa rfl rfl q s t));have na:v.cells.toList=vs:=by rw [Ab]
 have u:¬ (v.cells.size≠n):=by rw [Ab];simpa using j
 have z:=e.sizeOf (w:=w);simp only [execOp,Instr.storeAt,f ds,i ds,Instr.sureAddr,storeVar,Sem.run_bind,z,Result.andThen_ok,if_neg u,na,r,Sem.run_pure]
class ke (P:Program) (T:TypeId) (i:Nat) (off:outParam Nat):Prop where
 out:∀ b o w,(Instr.fieldAt T (.pointer (some ⟨b,o,none⟩)) i).run P w=.ok (.pointer (some ⟨b,o+off,none⟩)) w
theorem se {c:Array Field}{i off:Nat}{f:Field}{d:TypeId}{e:List Value}{a g:Nat}{h:Bool}(j:P.underlying T=some (.struct c)) (k:c[i]?=some f) (l:f.offset=off) (m:f.type=d) (n:Wc P d h e a g) (p:(a == 0)=false):ke P T i off:=by
 constructor;intro b o w;have q:¬ a=0:=by simpa using p
 simp [Instr.fieldAt,run_underlying j,k,Instr.sureAddr,fieldPlace,m,n.sizeOf,q,Lj,l]
theorem yk {x:Operand}{b o i off a:Nat}(c:ke P T i off) (d:zb fr x (.pointer (some ⟨b,o,none⟩))) (e:o+off=a):Of P (Oper.mk dst (.fieldAddr T x i) ty pos after g) fr ((.pointer (some ⟨b,a,none⟩))):=by
 subst e;exact ⟨fun ds w=>by simp [execOp,d ds,c.out]⟩
theorem cH {x:Operand}{i off:Nat}{cs:List Value}{v:Value}{a:Array Field}{f:Field}{b:TypeId}{c:List Value}{d e:Nat}(h:P.underlying T=some (.struct a)) (j:a[i]?=some f) (k:f.offset=off) (l:f.type=b) (m:Wc P b false c d e)
  (n:zb fr x (.agg ⟨cs⟩)) (qa:hc cs off v):Of P (Oper.mk dst (.field T x i) ty pos after g) fr (v):=by
 subst k l;unfold hc at qa;refine ⟨fun ds w=>?_⟩;simp [execOp,n ds,Instr.field,run_underlying h,j,asAgg,part,m.isAgg,qa]
theorem PB {x:Operand}{i off:Nat}{cs:List Value}{v:Value}{a:Array Field}{f:Field}{b:TypeId}{c:List Value}{d e:Nat}(j:P.underlying T=some (.struct a)) (k:a[i]?=some f) (l:f.offset=off) (m:f.type=b) (n:Wc P b false c d e)
  (o:zb fr x (.agg ⟨cs⟩)) (qa:hc cs off v) (p:Vf fr dst (v) Fa) (h:K Fa ds w):De P (Oper.mk dst (.field T x i) ty pos after g) fr ds w K Q:=Ea (cH j k l m n o qa) p h
theorem Yu {x y:Operand}{b o len cap:Nat}{k:IntKind}{i:Int}{e:TypeId}{a:Nat}(c:P.underlying T=some (.slice e)) (d:Wc P e ag Vd n m) (f:zb fr x (.slice (some ⟨b,o,none⟩) len cap)) (h:zb fr y (.int k i)) (j:0≤i∧i<len) (l:o+i.toNat*n=a):Of P (Oper.mk dst (.indexAddr T x y) ty pos after g) fr ((.pointer (some ⟨b,a,none⟩))):=by
 subst l;refine ⟨fun ds w=>?_⟩;simp [execOp,f ds,h ds,Instr.indexAt,asIntOf,run_underlying c,j,d.sizeOf,Lj]
theorem Jl {x:Operand}{a:Addr}(b:zb fr x (.pointer (some a))):Of P (Oper.mk dst (.nilCheck x) ty pos after g) fr ((.pointer (some a))):=⟨fun ds w=>by simp [execOp,b ds]⟩
end
end Go.oc
namespace Go.oc
open Go.RowKit
section
variable {P:Program}{Q:Exit→Act→World→Prop}{K:List Value→List Deferred→World→Prop}{fr Fa:List Value}{ds:List Deferred}{w:World}
variable {dst:Option Tmp}{ty:TypeId}{pos:String}{after:Array Edge}{g:Option (Nat×Bool)}
variable {S Jd:Nat→Prop}{J:World}{rs Lc:List dc}{A:World→Prop}
variable {T:TypeId}{d:TypeDesc}{ag:Bool}{Vd:List Value}{n m:Nat}
inductive fa:List dc→Nat→List dc→Prop where
 | z {r:dc} {rs:List dc}:fa (r::rs) 0 rs
 | s {r:dc} {rs Lc:List dc} {k:Nat} (h:fa rs k Lc):fa (r::rs) (k+1) (r::Lc)
theorem fa.mem {k:Nat}(h:fa rs k Lc):∀ r ∈ Lc,r ∈ rs:=by
 induction h with
 | z=>intro r a; exact List.mem_cons_of_mem _ a
 | s _ b=>intro r a; rcases List.mem_cons.1 a with rfl | a; exact List.mem_cons_self; exact List.mem_cons_of_mem _ (b r a)
theorem fa.sub {k:Nat}(h:fa rs k Lc):Lc.Sublist rs:=by
 induction h with
 | z=>exact List.sublist_cons_self _ _
 | s _ a=>exact a.cons_cons _
theorem Sep.drop {k:Nat}(h:Sep S Jd J w rs A) (a:fa rs k Lc):Sep S Jd J w Lc A where
 keeps:=h.keeps
 all r c:=h.all r (a.mem r c)
 Zh:=(a.sub.filterMap _).nodup h.Zh
 new b d:=h.new b ((a.sub.filterMap _).subset d)
 Ki:=h.Ki.mono fun _ _ hs=>⟨hs.1,fun hm=>hs.2 ((a.sub.filterMap _).subset hm)⟩
theorem Sep.freeze {k:Nat}{r:dc}{B:World→Prop}(h:Sep S Jd J w rs A) (qa:hc rs k r) (a:fa rs k Lc) (e:∀ b,r.block=some b→Jd b∨J.heap.size≤b) (f:∀ w,r.holds w→B w) :
  Sep S Jd J w Lc fun w=>A w∧B w where
 keeps:=(h.drop a).keeps
 all:=(h.drop a).all
 Zh:=(h.drop a).Zh
 new:=(h.drop a).new
 Ki:=(h.drop a).Ki.and fun w' l g=>f w' (holds_of (h.get qa) fun b d=>g b (h.lt (tp (Lw qa) d)) ⟨e b d,by
  intro hm;have:blocks Lc=(blocks rs).erase b∨True:=.inr trivial;clear this;have ya:=h.Zh;clear f e l g h;unfold blocks at hm ya;unfold hc at qa
  induction a with
  | z=>simp at qa; subst qa; simp only [List.filterMap_cons,d,List.nodup_cons] at ya; exact ya.1 hm
  | @s r' rs Lc k a i =>
   simp at qa;cases j:r'.block with
   | none=>simp only [List.filterMap_cons,j] at hm ya; exact i qa hm ya
   | some c =>
    simp only [List.filterMap_cons,j,List.nodup_cons,List.mem_cons] at hm ya;rcases hm with rfl | hm
    ·exact ya.1 (List.mem_filterMap.2 ⟨r,List.mem_of_getElem? qa,d⟩)
    ·exact i qa hm ya.2⟩)
inductive ad (fr:List Value):Nat→List (Nat×Operand)→List Value→Prop where
 | z {i:Nat}:ad fr i [] []
 | s {i:Nat} {x:Operand} {v:Value} {xs:List (Nat×Operand)} {vs:List Value} (h:zb fr x v) (a:Ae v=true) (t:ad fr (i+1) xs vs):ad fr i ((i,x)::xs) (v::vs)
theorem ad.eval {i:Nat}{xs:List (Nat×Operand)}{vs:List Value}(h:ad fr i xs vs):xs.map (fun p=>(p.1,(F fr ds).eval p.2))=(vs.zipIdx i).map fun p=>(p.2,p.1):=by
 induction h with
 | z=>rfl
 | s h _ _ a=>simp [h ds,a]
theorem ad.cell {i:Nat}{xs:List (Nat×Operand)}{vs:List Value}(h:ad fr i xs vs):∀ v ∈ vs,Ae v=true:=by
 induction h with
 | z=>simp
 | s _ a _ b=>intro v Ab; rcases List.mem_cons.1 Ab with rfl | Ab; exact a; exact b v Ab
theorem Zx {v:Value}(h:Ae v=true):v.cells=#[v]:=by cases v<;>first | rfl | simp [Ae] at h
theorem cB (pl:Nat→Option (Nat×Nat)) (a:∀ i,pl i=some (i,1)):∀ (vs:List Value) (i:Nat) (cs:List Value),(∀ v ∈ vs,Ae v=true)→i+vs.length≤cs.length →
  Instr.fill pl ⟨cs⟩ ((vs.zipIdx i).map fun p=>(p.2,p.1))=some ⟨cs.take i++vs++cs.drop (i+vs.length)⟩
 | [],i,cs,_,h=>by simp [Instr.fill]
 | v::vs,i,cs,Ab,h=>by
  have d:=Zx (Ab v (by simp));have b:i<cs.length:=by simp at h;omega
  have e:=cB pl a vs (i+1) (cs.set i v) (fun u hu=>Ab u (by simp [hu])) (by simp at h ⊢;omega);simp only [List.zipIdx_cons,List.map_cons,Instr.fill,a,d];have Va:¬ ((#[v].size≠1 || i+#[v].size > (⟨cs⟩:Array Value).size)=true):=by simp;omega
  rw [if_neg Va];have na:(#[v].zipIdx.foldl (fun cs (c,j)=>cs.setIfInBounds (i+j) c) (⟨cs⟩:Array Value))=⟨cs.set i v⟩:=by
   simp [Array.zipIdx]
  rw [na,e];have f:(cs.set i v).take (i+1)=cs.take i++[v]:=by
   rw [List.take_set,List.take_add_one,List.getElem?_eq_getElem b];rw [List.set_append_right _ _ (by simp;omega)];simp [Nat.min_eq_left (Nat.le_of_lt b)]
  have g:(cs.set i v).drop (i+1+vs.length)=cs.drop (i+(v::vs).length):=by
   rw [List.drop_set_of_lt (by omega)];congr 1;simp;omega
  rw [f,g];simp
theorem Lg {e:TypeId}{len:Nat}{xs:List (Nat×Operand)}{vs:List Value}(l:P.underlying T=some (.slice e)) (a:Wc P e ag Vd 1 m) (c:ad fr 0 xs vs) (d:vs.length=len) (n:(decide (len≤16777216))=true) (o:Sep S Jd J w rs A)
  (h:∀ b w',w.heap.size≤b→Sep S Jd J w' (.ba b e vs::rs) A→Mg fr dst (.slice (some ⟨b,0,none⟩) len len) fun Fa=>K Fa ds w'):De P (Oper.mk dst (.buildSlice T len ⟨xs⟩) ty pos after g) fr ds w K Q:=by
 obtain ⟨Fa,ya⟩:=Ph fr dst (.slice (some ⟨w.heap.size,0,none⟩) len len);refine sh (v:=.slice (some ⟨w.heap.size,0,none⟩) len len) (w':=w.alloc (.cells ⟨vs⟩ e)) ?_ ya (h _ _ (Nat.le_refl _) (o.alloc rfl (heap_alloc_new w _)) Fa ya);obtain ⟨z,q,u⟩:=a.zero (w:=w);have r:=a.sizeOf (w:=w);have s:¬ (len*1 > 2 ^ 24):=by have:=of_decide_eq_true n;omega
 have t:=c.eval (ds:=ds);have f:∀ cs:Array Value,cs.size=len→Instr.fill (fun i=>some (i*1,1)) cs ((vs.zipIdx 0).map fun p=>(p.2,p.1))=some ⟨vs⟩:=by
  intro cs j;have:=cB (fun i=>some (i*1,1)) (fun i=>by rw [Nat.mul_one]) vs 0 cs.toList c.cell (by simp [d,j]);rw [this,List.drop_eq_nil_of_le (by simp [d,j])];simp
 have qa:((⟨xs⟩:Array (Nat×Operand)).map fun (i,x)=>(i,(F fr ds).eval x)).toList=(vs.zipIdx 0).map fun p=>(p.2,p.1):=by
  simp only [Array.toList_map];exact t
 unfold execOp;simp only [Instr.buildSlice,Sem.run_bind,run_underlying l,Result.andThen_ok,r,if_neg s,qa];by_cases k:len*1=0
 ·simp only [if_pos k,Sem.run_bind,Sem.run_pure,Result.andThen_ok];rw [f _ (by simp)];simp [newRow]
 ·simp only [if_neg k,Sem.run_bind,Sem.run_pure,Result.andThen_ok,q];rw [f _ (by simp)];simp [newRow]
theorem Sep.row {k:Nat}{v p:Value}{sz t:Nat}{xs u:List Value}{w':World}(f:Sep S Jd J w rs A) (qa:hc rs k (.row v T sz n xs)) (B:Hc rs k (.row p T sz t u) Lc) (E:Row w' p T sz t u)
  (o:Xh (fun b=>some b≠v.ownBlock) w w') (Ab:p.ownBlock=v.ownBlock∨∃ b,p.ownBlock=some b∧w.heap.size≤b):Sep S Jd J w' Lc A:=by
 unfold Hc at B;subst B;have x:∀ b,v.ownBlock=some b→b ∈ blocks rs:=fun b d=>tp (Lw qa) d;have y:∀ b ∈ blocks (rs.set k (.row p T sz t u)),(b ∈ blocks rs)∨(p.ownBlock=some b∧w.heap.size≤b):=by
  intro b d;obtain ⟨r,s,m⟩:=List.mem_filterMap.1 d;rcases List.mem_or_eq_of_mem_set s with hm | rfl
  ·exact .inl (tp hm m)
  ·rcases Ab with Ab | ⟨c,q,hle⟩
   ·exact .inl (x b (Ab ▸ m))
   ·have:c=b:=by simpa [dc.block,q] using m
    subst this;exact .inr ⟨q,hle⟩
 have F:∀ b ∈ blocks rs,b ∈ blocks (rs.set k (.row p T sz t u))∨v.ownBlock=some b:=by
  intro b d;obtain ⟨r,s,m⟩:=List.mem_filterMap.1 d;obtain ⟨j,z⟩:=List.mem_iff_getElem?.1 s;by_cases e:k=j
  ·subst e;unfold hc at qa;rw [qa] at z;cases z;exact .inr m
  ·exact .inl (tp (r:=r) (List.mem_of_getElem? (i:=j) (by rw [List.getElem?_set_ne e];exact z)) m)
 refine ⟨?_,?_,?_,?_,?_⟩
 ·refine ⟨o.os.trans f.keeps.os,o.tape.trans f.keeps.tape,o.output.trans f.keeps.output,Nat.le_trans f.keeps.size o.size,fun b d hs=>?_⟩;rw [o.ba b (Nat.lt_of_lt_of_le d f.keeps.size) (fun e=>by rcases f.new b (x b e.symm) with h | h;exact absurd d (by omega);exact h hs)];exact f.keeps.ba b d hs
 ·intro G H;obtain ⟨j,hm⟩:=List.mem_iff_getElem?.1 H;by_cases e:k=j
  ·subst e;have g:k<rs.length:=(List.getElem?_eq_some_iff.1 qa).1;rw [List.getElem?_set_self g] at hm;cases hm;exact E
  ·rw [List.getElem?_set_ne e] at hm;refine holds_of (f.all G (List.mem_of_getElem? hm)) fun c q=>o.ba c (f.lt (tp (List.mem_of_getElem? hm) q)) fun K=>?_;exact jA f.Zh qa hm e (b:=c) K.symm q
 ·have ya:=f.Zh;have g:=fun b (d:b ∈ blocks rs)=>f.lt d;clear y F x;unfold hc at qa
  revert qa ya g
  generalize rs=l;unfold blocks;intro qa ya g
  induction l generalizing k with
  | nil=>simp at qa
  | cons a l C =>
   cases k with
   | zero =>
    simp at qa;subst qa;simp only [List.set_cons_zero,List.filterMap_cons,dc.block] at ya g ⊢;rcases Ab with Ab | ⟨c,q,hle⟩
    ·rw [Ab];exact ya
    ·rw [q];cases d:v.ownBlock with
     | none =>
      rw [d] at ya g;exact List.nodup_cons.2 ⟨fun hm=>by have:=g c hm;omega,ya⟩
     | some b =>
      rw [d] at ya g;exact List.nodup_cons.2 ⟨fun hm=>by have:=g c (List.mem_cons_of_mem _ hm);omega,(List.nodup_cons.1 ya).2⟩
   | succ k =>
    simp at qa;simp only [List.set_cons_succ,List.filterMap_cons] at ya g ⊢;cases D:a.block with
    | none=>rw [D] at ya g; exact C qa ya g
    | some c =>
     rw [D] at ya g;simp only [List.nodup_cons] at ya ⊢;refine ⟨fun hm=>?_,C qa ya.2 fun b d=>g b (List.mem_cons_of_mem _ d)⟩;obtain ⟨r,s,m⟩:=List.mem_filterMap.1 hm;rcases List.mem_or_eq_of_mem_set s with hm | rfl
     ·exact ya.1 (List.mem_filterMap.2 ⟨r,hm,m⟩)
     ·rcases Ab with Ab | ⟨Db,L,hle⟩
      ·exact ya.1 (List.mem_filterMap.2 ⟨_,List.mem_of_getElem? qa,by rw [← m];exact Ab.symm⟩)
      ·have:Db=c:=by simpa [dc.block,L] using m
       have:=g c (by simp);omega
 ·intro b d;rcases y b d with h | h
  ·exact f.new b h
  ·exact .inl (Nat.le_trans f.keeps.size h.2)
 ·intro M N P;refine f.Ki M (Nat.le_trans o.size N) fun b d hs=>?_;rw [P b (Nat.lt_of_lt_of_le d o.size) ⟨hs.1,fun hm=>by rcases y b hm with h | h;exact hs.2 h;exact absurd d (by omega)⟩];exact o.ba b d fun e=>hs.2 (x b e.symm)
end
section
variable {P:Program}{Q:Exit→Act→World→Prop}{K:List Value→List Deferred→World→Prop}{fr Fa:List Value}{ds:List Deferred}{w:World}
variable {dst:Option Tmp}{ty:TypeId}{pos:String}{after:Array Edge}{g:Option (Nat×Bool)}
variable {S Jd:Nat→Prop}{J:World}{rs Lc:List dc}{A:World→Prop}
variable {T:TypeId}{d:TypeDesc}{ag:Bool}{Vd:List Value}{n m:Nat}
theorem SD {t ty:TypeId}{sz bytes:Nat}(p:P.underlying t=some (.slice T)) (K:Wc P T ag Vd sz bytes) (L:Vd.length=sz) (lc:0<sz)
  {v:Value}{xs:List Value}(h:Row w v T sz n xs) {a:Addr}{m c:Nat}{news:List Value}(qa:news.length=m*sz) (s:∀ j u,news[j]?=some u→w.cell? (a.add j)=some u) (M:∀ u ∈ news,u.oneCell'=true)
  (C:n+m≤maxLen) (D:(n+m)*bytes≤140737488355328) :
  ∃ q w',(Builtin.append_ #[t,t] ty #[v,.slice (some a) m c]).run P w=.ok q w'∧Row w' q T sz (n+m) (xs++news)∧Xh (fun b=>some b≠v.ownBlock) w w' ∧
   (q.ownBlock=v.ownBlock∨∃ b,q.ownBlock=some b∧w.heap.size≤b):=by
 obtain ⟨i,z,r,E,N,F,Q⟩:=K.inf;have R:z.cells.size=i.size:=by rw [N,F];simpa using L
 subst F;subst Q;have rc:n+m≤9223372036854775807:=by simp only [maxLen] at C;omega
 have hlen:(xs++news).length=(n+m)*i.size:=by rw [List.length_append,h.1,qa,Nat.add_mul]
 have grown:∀ (d:Nat),d<n+m→∀ (row:Option Nat),
   Row (w.drew.alloc (.cells (xs.toArray++news.toArray++Builtin.zeroCells z.cells (grownCap w (n+m) d T - (n+m))) T)) (.slice (some ⟨w.heap.size,0,none⟩) (n+m) (grownCap w (n+m) d T)) T i.size (n+m) (xs++news) ∧
   Xh (fun b=>some b≠row) w (w.drew.alloc (.cells (xs.toArray++news.toArray++Builtin.zeroCells z.cells (grownCap w (n+m) d T - (n+m))) T)):=by
  intro d fd row;have S:=grownCap_ge w (n+m) d T;have x:grownCap w (n+m) d T≤maxLen:=grownCap_le_maxLen w (n+m) d T C;refine ⟨⟨hlen,.inr ⟨w.heap.size,0,_,_,rfl,heap_alloc_new w.drew _,S,x,?_,?_⟩⟩,⟨rfl,rfl,rfl,by simp,fun k y _=>heap_alloc_old w.drew _ k y⟩⟩
  ·simp only [Array.size_append,List.size_toArray,size_zeroCells,R,h.1,qa,← Nat.add_mul,Nat.zero_add];exact Nat.mul_le_mul_right _ (by omega)
  ·simp only [Array.toList_append,List.append_assoc,List.drop_zero];rw [← List.append_assoc,← hlen];exact List.take_left
 rcases h.2 with ⟨rfl,rfl⟩ | ⟨g,o,cap,cur,rfl,A,id,x,md,G⟩
 ·have U:xs=[]:=List.eq_nil_of_length_eq_zero (by simpa using h.1);subst U;by_cases hm:m=0
  ·subst hm;have W:news=[]:=List.eq_nil_of_length_eq_zero (by simpa using qa);subst W;refine ⟨.slice none 0 0,w,?_,⟨by simp,.inl ⟨rfl,rfl⟩⟩,.refl w,.inl rfl⟩;simp [Builtin.append_,run_underlying p,sizeOf,typeInfo,r,Builtin.lenOf,Builtin.firstCells,loadCells,loadCellsFrom]
  ·have l:=run_append_nil (P:=P) w t ty T i z p r E a m c news qa s (by omega) (by omega) (by have X:=D;simp only [Nat.zero_add] at X;omega);have f:=grown 0 (by omega) (Value.ownBlock (.slice none 0 0));simp only [Nat.zero_add,List.nil_append,Array.empty_append] at f ⊢;exact ⟨_,_,l,f.1,f.2,.inr ⟨_,rfl,Nat.le_refl _⟩⟩
 ·by_cases B:n+m≤cap
  ·have hmul:n*i.size+news.length≤cap*i.size:=by rw [qa,← Nat.add_mul];exact Nat.mul_le_mul_right _ B
   have Y:o+n*i.size+news.length≤cur.size:=by omega
   have l:(Builtin.append_ #[t,t] ty #[.slice (some ⟨g,o,none⟩) n cap,.slice (some a) m c]).run P w =
     .ok (.slice (some ⟨g,o,none⟩) (n+m) cap) (w.setRow g (cur.toList.take (o+n*i.size)++news++cur.toList.drop (o+n*i.size+news.length)).toArray):=by
    have Z:=run_firstCells_some (P:=P) w i.size m a m c news qa s;have H:=run_storeCells_at P g (o+n*i.size) T news 0 cur w A (by simpa using Y) M;simp only [Nat.add_zero] at H;simp [Builtin.append_,run_underlying p,sizeOf,typeInfo,r,Builtin.lenOf,B,Z,Lj,H]
   refine ⟨_,_,l,⟨hlen,.inr ⟨g,o,cap,_,rfl,setRow_heap w g cur _ T _ A,B,x,?_,?_⟩⟩,⟨rfl,rfl,rfl,by simp [World.setRow],fun k _ y=>setRow_other w g k _ (fun e=>y (by simp [Value.ownBlock,e]))⟩,.inl rfl⟩
   ·simp only [List.size_toArray,List.length_append,List.length_take,List.length_drop,Array.length_toList];omega
   ·rw [← hlen,← G];have na:(cur.toList.take (o+n*i.size)).drop o=(cur.toList.drop o).take (n*i.size):=by
     rw [List.drop_take];congr 1;omega
    have gc:o≤(cur.toList.take (o+n*i.size)).length:=by simp;omega
    rw [List.append_assoc,List.drop_append_of_le_length gc,na,← List.append_assoc];exact List.take_left
  ·have holds:∀ j u,xs[j]?=some u→w.cell? ((⟨g,o,none⟩:Addr).add j)=some u:=by
    intro j u hu;rw [Lj,cell_of_row w g (o+j) cur T (0,0) A];rw [← G,List.getElem?_take] at hu;split at hu
    ·rw [List.getElem?_drop] at hu;simpa using hu
    ·cases hu
   have l:=run_append_grow (P:=P) w t ty T i z p r E ⟨g,o,none⟩ n cap xs h.1 holds a m c news qa s (by omega) (by omega) (growslice_fits (by omega) D);have f:=grown cap (by omega) (Value.ownBlock (.slice (some ⟨g,o,none⟩) n cap));exact ⟨_,_,l,f.1,f.2,.inr ⟨_,rfl,Nat.le_refl _⟩⟩
theorem Sep.Ti (h:Sep S Jd J w rs A) (T:TypeId) (sz:Nat):Sep S Jd J w (.row (.slice none 0 0) T sz 0 []::rs) A where
 keeps:=h.keeps
 all r a:=by
  rcases List.mem_cons.1 a with rfl | a
  ·exact ⟨by simp,.inl ⟨rfl,rfl⟩⟩
  ·exact h.all r a
 Zh:=h.Zh
 new:=h.new
 Ki:=h.Ki
theorem my {t:TypeId}{s x:Operand}{v:Value}{sz bytes k b o e c:Nat}{xs news:List Value}(m:P.underlying t=some (.slice T)) (p:Wc P T ag Vd sz bytes) (f:(Vd.length == sz && decide (0<sz))=true)
  (hs:zb fr s v) (q:zb fr x (.slice (some ⟨b,o,none⟩) e c)) (i:Sep S Jd J w rs A) (qa:hc rs k (.row v T sz n xs)) (r:tj w b o news) (hlen:news.length=e*sz) (y:news.all Ae=true)
  (l:n+e≤4294967296∧bytes≤4096)
  (h:∀ d w' Lc,Hc rs k (.row d T sz (n+e) (xs++news)) Lc→Sep S Jd J w' Lc A→Mg fr dst d fun Fa=>K Fa ds w') :
  De P (Oper.mk dst (.call { callee:=.builtin .append,args:=#[s,x],argTypes:=#[t,t] }) ty pos after g) fr ds w K Q:=by
 simp only [Bool.and_eq_true,beq_iff_eq,decide_eq_true_eq] at f;have z:(n+e)*bytes≤140737488355328:=Nat.le_trans (Nat.mul_le_mul l.1 l.2) (by decide);obtain ⟨d,w',B,C,D,Ab⟩:=SD (P:=P) (ty:=ty) m p f.1 f.2 (i.get qa) (a:=⟨b,o,none⟩) (c:=c) hlen (fun j u hu=>by rw [Lj];exact r j u hu) (fun u hu=>ly (List.all_eq_true.1 y u hu)) (by unfold maxLen;omega) z;obtain ⟨Fa,ya⟩:=Ph fr dst d;refine sh (v:=d) (w':=w') ?_ ya (h d w' _ rfl (i.row qa rfl C D Ab) Fa ya);have na:=hs ds;have E:=q ds;simp [execOp,resolve,invoke,builtin,na,E,B]
inductive vt (P:Program) (fr:List Value) (w:World):ResultVar→Value→Prop where
 | t {n:Nat} {v:Value} (h:hc fr n v):vt P fr w (.tmp n) v
 | c {n b o:Nat} {v:Value} {T:TypeId} {Vd:List Value} {k m:Nat} (h:hc fr n (.pointer (some ⟨b,o,none⟩))) (d:Wc P T false Vd k m) (e:w.cell? ⟨b,o,none⟩=some v):vt P fr w (.cell n T) v
 | a {n b o:Nat} {cs:List Value} {T:TypeId} {Vd:List Value} {k m:Nat} (h:hc fr n (.pointer (some ⟨b,o,none⟩))) (d:Wc P T true Vd k m) (e:tj w b o cs) (f:cs.length=k):vt P fr w (.cell n T) (.agg ⟨cs⟩)
inductive kb (P:Program) (fr:List Value) (w:World):List ResultVar→List Value→Prop where
 | z:kb P fr w [] []
 | s {r:ResultVar} {v:Value} {rs:List ResultVar} {vs:List Value} (h:vt P fr w r v) (t:kb P fr w rs vs):kb P fr w (r::rs) (v::vs)
def Rs (tmps:Array Value):ResultVar→Sem Value
 | .tmp t=>pure (tmps.getD t undef)
 | .cell a t=>do loadVar t (← asAddr (tmps.getD a undef))
theorem TE (fn:Func) (tmps:Array Value):results fn tmps=(do
  let vs ← fn.results.mapM (Rs tmps)
  pure (if h:vs.size=1 then vs[0] else .tuple vs)):=by
 unfold results;congr 1
theorem vt.run {r:ResultVar}{v:Value}(h:vt P fr w r v):(Rs (F fr ds).tmps r).run P w=.ok v w:=by
 cases h with
 | t h=>unfold hc at h; simp [Rs,F,h]
 | c h d e=>unfold hc at h; simp [Rs,F,h,asAddr,loadVar,d.isAgg,e]
 | a h d e f =>
  unfold hc at h;rename_i n b o cs T Vd k m;have qa:=run_loadCells_list (P:=P) w ⟨b,o,none⟩ cs (fun j v g=>by rw [Lj];exact e j v g);rw [f] at qa;simp [Rs,F,h,asAddr,loadVar,d.isAgg,d.sizeOf,qa]
theorem kb.run {rs:List ResultVar}{vs:List Value}(h:kb P fr w rs vs):(rs.mapM (Rs (F fr ds).tmps)).run P w=.ok vs w:=by
 induction h with
 | z=>simp
 | @s r v rs vs h _ a =>
  have b:=h.run (ds:=ds);simp only [List.mapM_cons,Sem.run_bind];rw [b];simp only [Result.andThen_ok];rw [a];simp
def jt:List Value→Value
 | [v]=>v
 | vs=>.tuple ⟨vs⟩
theorem kA {fn:Func}{a:List ResultVar}{vs:List Value}(b:fn.results=⟨a⟩) (h:kb P fr w a vs):(results fn (F fr ds).tmps).run P w=.ok (jt vs) w:=by
 have hm:=h.run (ds:=ds);rw [TE,b];rw [Array.mapM_eq_mapM_toList];simp only [Sem.run_bind,Sem.run_map,hm,Result.andThen_ok]
 match vs with
 | []=>simp [jt]
 | [v]=>simp [jt]
 | v::c::vs=>simp [jt]
theorem ue {fn:Func}{R:Value→World→Prop}{a:List ResultVar}{vs:List Value}(b:fn.results=⟨a⟩) (Ab:kb P fr w a vs) (h:R (jt vs) w):Zp P fn R .ret (F fr []) w :=
 bodyPost_ret (kA b Ab) rfl h
end
end Go.oc
namespace Go.oc
open Go.RowKit
section
variable {P:Program}{Q:Exit→Act→World→Prop}{K:List Value→List Deferred→World→Prop}{fr Fa:List Value}{ds:List Deferred}{w:World}
variable {dst:Option Tmp}{ty:TypeId}{pos:String}{after:Array Edge}{g:Option (Nat×Bool)}
variable {S Jd:Nat→Prop}{J:World}{rs Lc:List dc}{A:World→Prop}
variable {T:TypeId}{d:TypeDesc}{ag:Bool}{Vd:List Value}{n m:Nat}
theorem Sep.ba {k b:Nat}{cs:List Value}(h:Sep S Jd J w rs A) (qa:hc rs k (.ba b T cs)):Dk w b T cs:=h.get qa
inductive Gf:List Value→Nat→List Value→Prop where
 | z {cs:List Value} {o:Nat}:Gf cs o []
 | s {cs:List Value} {o:Nat} {v:Value} {vs:List Value} (h:hc cs o v) (t:Gf cs (o+1) vs):Gf cs o (v::vs)
theorem Gf.at {cs:List Value}{o:Nat}{vs:List Value}(h:Gf cs o vs):∀ j v,vs[j]?=some v→cs[o+j]?=some v:=by
 induction h with
 | z=>intro j v h; simp at h
 | @s o v vs h t b =>
  intro j u a;cases j with
  | zero=>simp at a; subst a; exact h
  | succ j=>have:=b j u (by simpa using a); rw [show o+(j+1)=o+1+j by omega]; exact this
theorem Dk.Dn {b o:Nat}{cs vs:List Value}(h:Dk w b T cs) (hs:Gf cs o vs):tj w b o vs:=fun j v a=>h.cell (hs.at j v a)
theorem Wf {x y:Operand}{b o k:Nat}{v:Value}{cs a:List Value}(e:Wc P T ag Vd 1 m) (f:zb fr x (.pointer (some ⟨b,o,none⟩))) (i:zb fr y v) (Ab:Ae v=true)
  (j:Sep S Jd J w rs A) {c:TypeId}(qa:hc rs k (.ba b c cs)) (hs:Hc cs o v a) (d:(decide (o<cs.length))=true) (l:Hc rs k (.ba b c a) Lc)
  (ya:Vf fr dst undef Fa) (h:∀ w',Sep S Jd J w' Lc A→K Fa ds w'):De P (Oper.mk dst (.store T x y) ty pos after g) fr ds w K Q :=
 Hy (vs:=[v]) e f i (Zx Ab) rfl (by simp [Ab]) j qa (.s hs (of_decide_eq_true d) .z) (decide_eq_true (Nat.le_of_lt (of_decide_eq_true d))) l ya h
structure Nh (P:Program) (T:TypeId) (pl:Array (Nat×Nat)):Prop where
 out:∃ a,P.underlying T=some (.struct a)∧∀ w,((a.mapM fun f=>do pure (f.offset,← Go.sizeOf f.type):Sem (Array (Nat×Nat))).run P w)=.ok pl w
theorem hi {a:Array Field}{pl:Array (Nat×Nat)}(hu:P.underlying T=some (.struct a)) (h:∀ w,((a.mapM fun f=>do pure (f.offset,← Go.sizeOf f.type):Sem (Array (Nat×Nat))).run P w)=.ok pl w):Nh P T pl:=⟨a,hu,h⟩
inductive Bb (fr:List Value) (pl:Array (Nat×Nat)):List Value→List (Nat×Operand)→List Value→Prop where
 | z {cs:List Value}:Bb fr pl cs [] cs
 | o {cs cs1 out:List Value} {i off:Nat} {x:Operand} {v:Value} {xs:List (Nat×Operand)} (a:pl[i]?=some (off,1)) (b:zb fr x v) (Ab:Ae v=true) (c:decide (off<cs.length)=true) (d:Hc cs off v cs1) (t:Bb fr pl cs1 xs out):Bb fr pl cs ((i,x)::xs) out
 | n {cs cs1 out vs:List Value} {i off n:Nat} {x:Operand} {xs:List (Nat×Operand)} (a:pl[i]?=some (off,n)) (b:zb fr x (.agg ⟨vs⟩)) (e:vs.length=n) (c:decide (off+n≤cs.length)=true) (d:Jh cs off vs cs1) (t:Bb fr pl cs1 xs out):Bb fr pl cs ((i,x)::xs) out
theorem Gv:∀ (vs:List Value) (off j:Nat) (cs:List Value),off+j+vs.length≤cs.length →
  ((vs.zipIdx j).foldl (fun (cs:Array Value) (p:Value×Nat)=>cs.setIfInBounds (off+p.2) p.1) ⟨cs⟩)=⟨cs.take (off+j)++vs++cs.drop (off+j+vs.length)⟩
 | [],off,j,cs,_=>by simp
 | v::vs,off,j,cs,h=>by
  have a:off+j<cs.length:=by simp at h;omega
  rw [List.zipIdx_cons,List.foldl_cons];have Va:(⟨cs⟩:Array Value).setIfInBounds (off+j) v=⟨cs.set (off+j) v⟩:=by simp
  simp only [Va];rw [Gv vs off (j+1) (cs.set (off+j) v) (by simp at h ⊢;omega)];have b:(cs.set (off+j) v).take (off+(j+1))=cs.take (off+j)++[v]:=by
   rw [show off+(j+1)=off+j+1 by omega,List.take_set,List.take_add_one,List.getElem?_eq_getElem a];rw [List.set_append_right _ _ (by simp;omega)];simp [Nat.min_eq_left (Nat.le_of_lt a)]
  have c:(cs.set (off+j) v).drop (off+(j+1)+vs.length)=cs.drop (off+j+(v::vs).length):=by
   rw [List.drop_set_of_lt (by omega)];congr 1;simp;omega
  rw [b,c];simp
theorem Bb.run {pl:Array (Nat×Nat)}{cs out:List Value}{xs:List (Nat×Operand)}(h:Bb fr pl cs xs out):Instr.fill (pl[·]?) ⟨cs⟩ (xs.map fun p=>(p.1,(F fr ds).eval p.2))=some ⟨out⟩:=by
 induction h with
 | z=>rfl
 | @o cs cs1 out i off x v xs b d Ab e a t f =>
  have g:=of_decide_eq_true e;simp only [List.map_cons,Instr.fill,b,d ds,Zx Ab];have Va:¬ ((#[v].size≠1 || off+#[v].size > (⟨cs⟩:Array Value).size)=true):=by simp;omega
  rw [if_neg Va];have na:(#[v].zipIdx.foldl (fun cs (c,j)=>cs.setIfInBounds (off+j) c) (⟨cs⟩:Array Value))=⟨cs1⟩:=by
   unfold Hc at a;subst a;simp [Array.zipIdx]
  rw [na];exact f
 | @n cs cs1 out vs i off n x xs b d k e a t f =>
  have g:=of_decide_eq_true e;simp only [List.map_cons,Instr.fill,b,d ds];have Va:¬ (((Value.agg ⟨vs⟩).cells.size≠n || off+(Value.agg ⟨vs⟩).cells.size > (⟨cs⟩:Array Value).size)=true):=by simp [Value.cells,k];omega
  rw [if_neg Va];have na:((Value.agg ⟨vs⟩).cells.zipIdx.foldl (fun cs (c,j)=>cs.setIfInBounds (off+j) c) (⟨cs⟩:Array Value))=⟨cs1⟩:=by
   have:=Gv vs off 0 cs (by omega);rw [a.res (by omega)];simp only [Nat.add_zero] at this;rw [← this];rw [← Array.foldl_toList];simp [Value.cells]
  rw [na];exact f
theorem qf {pl:Array (Nat×Nat)}{xs:List (Nat×Operand)}{out:List Value}(a:Wc P T ag Vd n m) (b:Nh P T pl) (c:Bb fr pl Vd xs out) (d:Vf fr dst (.agg ⟨out⟩) Fa) (h:K Fa ds w) :
  De P (Oper.mk dst (.build T ⟨xs⟩) ty pos after g) fr ds w K Q:=by
 refine sh (v:=.agg ⟨out⟩) (w':=w) ?_ d h;obtain ⟨z,e,f⟩:=a.zero (w:=w);have j:=c.run (ds:=ds);obtain ⟨o,k,l⟩:=b.out;have hm:=l w;have qa:((⟨xs⟩:Array (Nat×Operand)).map fun (i,x)=>(i,(F fr ds).eval x)).toList=xs.map fun p=>(p.1,(F fr ds).eval p.2):=by simp
 unfold execOp;simp only [Instr.build,Sem.run_bind,e,Result.andThen_ok,run_underlying k];rw [hm];simp only [Result.andThen_ok,f,qa];rw [j];simp
theorem Lq {e:TypeId}{x:Operand}{cs:List Value}(k:P.underlying T=some (.slice e)) (j:Wc P e ag Vd n m) (c:(Vd.length == n && decide (0<n) && decide (n≤1000))=true) (l:zb fr x (.agg ⟨cs⟩)) (d:cs.length=n) (o:Sep S Jd J w rs A)
  (h:∀ b w',w.heap.size≤b→Sep S Jd J w' (.ba b e cs::rs) A→Mg fr dst (.slice (some ⟨b,0,none⟩) 1 1) fun Fa=>K Fa ds w'):De P (Oper.mk dst (.buildSlice T 1 #[(0,x)]) ty pos after g) fr ds w K Q:=by
 obtain ⟨Fa,ya⟩:=Ph fr dst (.slice (some ⟨w.heap.size,0,none⟩) 1 1);refine sh (v:=.slice (some ⟨w.heap.size,0,none⟩) 1 1) (w':=w.alloc (.cells ⟨cs⟩ e)) ?_ ya (h _ _ (Nat.le_refl _) (o.alloc rfl (heap_alloc_new w _)) Fa ya);obtain ⟨z,p,y⟩:=j.zero (w:=w);have q:=j.sizeOf (w:=w);simp only [Bool.and_eq_true,beq_iff_eq,decide_eq_true_eq] at c;have r:¬ (1*n > 2 ^ 24):=by have:=c.2;omega
 have s:¬ (1*n=0):=by have:=c.1.2;omega
 have t:∀ a:Array Value,a.size=n→Instr.fill (fun i=>some (i*n,n)) a [(0,Value.agg ⟨cs⟩)]=some ⟨cs⟩:=by
  intro a f;simp only [Instr.fill];have Va:¬ (((Value.agg ⟨cs⟩).cells.size≠n || 0*n+(Value.agg ⟨cs⟩).cells.size > a.size)=true):=by simp [Value.cells,d,f]
  rw [if_neg Va];congr 1;have u:=Gv cs (0*n) 0 a.toList (by simp [d,f]);rw [← Array.foldl_toList];have na:(Value.agg ⟨cs⟩).cells.zipIdx.toList=cs.zipIdx 0:=by simp [Value.cells]
  rw [na];refine u.trans ?_;rw [List.drop_eq_nil_of_le (by simp [d,f])];simp
 have qa:(#[(0,x)].map fun (i,x)=>(i,(F fr ds).eval x)).toList=[(0,Value.agg ⟨cs⟩)]:=by simp [l ds]
 unfold execOp;simp only [Instr.buildSlice,Sem.run_bind,run_underlying k,Result.andThen_ok,q,if_neg r,qa,if_neg s,Sem.run_pure,p];rw [t _ (by simp)];simp [newRow]
end
theorem Sep.Ff {S Jd:Nat→Prop}{J w:World}{rs Lc:List dc}{A:World→Prop}{k:Nat}{r:dc}(h:Sep S Jd J w (rs.set k r) A) (a:Hc rs k r Lc):Sep S Jd J w Lc A:=by
 unfold Hc at a;rw [← a];exact h
theorem Sep.drew {S Jd:Nat→Prop}{J w w':World}{rs:List dc}{A:World→Prop}(h:Sep S Jd J w rs A) (a:w'.heap=w.heap) (b:w'.os=w.os) (c:w'.tape=w.tape) (hu:w'.output=w.output):Sep S Jd J w' rs A :=
 h.grow ⟨b,c,hu,by rw [a];exact Nat.le_refl _,fun k _ _=>by rw [a]⟩
section
variable {P:Program}{Q:Exit→Act→World→Prop}{K:List Value→List Deferred→World→Prop}{fr Fa:List Value}{ds:List Deferred}{w:World}
variable {dst:Option Tmp}{ty:TypeId}{pos:String}{after:Array Edge}{g:Option (Nat×Bool)}
variable {T:TypeId}
theorem ny (a b:ByteArray):(a == b)=true ↔ a=b:=by
 obtain ⟨x⟩:=a;obtain ⟨y⟩:=b;constructor
 ·intro h;have e:x=y:=by simpa using (show (x == y)=true from h)
  rw [e]
 ·intro h;cases h;show (x == x)=true;simp
structure Yq (P:Program) (m:Nat) (T:TypeId) (v a:Value) (b:Bool):Prop where
 out:∀ d w,m≤d→(Op.equalIn d T v a).run P w=.ok b w
theorem eq_int {k c:IntKind}{a b:Int}(hu:P.underlying T=some (.int k)):Yq P 1 T (.int c a) (.int c b) (decide (a=b)):=⟨fun d w ya=>by
 cases d with
 | zero=>omega
 | succ d=>simp [Op.equalIn,run_underlying hu]; by_cases h:a=b <;> simp [h]⟩
theorem pC {a b:List UInt8}(hu:P.underlying T=some .string):Yq P 1 T (S a) (S b) (decide (a=b)):=⟨fun d w ya=>by
 cases d with
 | zero=>omega
 | succ d =>
  simp only [Op.equalIn,run_underlying hu,S,Sem.run_bind,Result.andThen_ok,Sem.run_pure];congr 1;rw [Bool.eq_iff_iff,ny];simp⟩
def kj:List Bool→Bool
 | []=>true
 | [b]=>b
 | b::Dd=>b && kj Dd
theorem gw (b:Bool) (Dd:List Bool):kj (b::Dd)=(b && kj Dd):=by cases Dd<;>simp [kj]
inductive ti (P:Program) (m:Nat) (xs ys:List Value):List Field→List Bool→Prop where
 | z:ti P m xs ys [] []
 | o {f : Field} {a : List Field} {v d : Value} {b : Bool} {Dd : List Bool} {T : TypeId} {off : Nat} {Vd : List Value} {n k : Nat} (e : (f.name == "_") = false) (g : f.type = T) (h : f.offset = off) (i : Wc P T false Vd n k) (j : hc xs off v) (l : hc ys off d) (he : Yq P m T v d b) (t : ti P m xs ys a Dd) : ti P m xs ys (f :: a) (b :: Dd)
 | n {f : Field} {a : List Field} {vs c : List Value} {b : Bool} {Dd : List Bool} {T : TypeId} {off : Nat} {Vd : List Value} {n k : Nat} (e : (f.name == "_") = false) (g : f.type = T) (h : f.offset = off) (i : Wc P T true Vd n k) (j : Gf xs off vs) (l : Gf ys off c) (qa : vs.length = n) (p : c.length = n) (he : Yq P m T (.agg ⟨vs⟩) (.agg ⟨c⟩) b) (t : ti P m xs ys a Dd) : ti P m xs ys (f :: a) (b :: Dd)
structure So (P:Program) (T:TypeId) (a:List Field):Prop where
 Hz:P.underlying T=some (.struct ⟨a⟩)
 held:P.stoodInHeld T=false
 guard:P.eqGuardType P.depth T=false
theorem dB {Vd:List Value}{n k off:Nat}{xs:List Value}{v:Value}(b:Wc P T false Vd n k) (a:hc xs off v):(part T ⟨xs⟩ off).run P w=.ok v w:=by
 unfold hc at a;simp [part,b.isAgg,a]
theorem Gf.extract {cs vs:List Value}{o:Nat}(h:Gf cs o vs):(cs.drop o).take vs.length=vs:=by
 induction h with
 | z=>simp
 | @s o v vs Ab t a =>
  unfold hc at Ab;have b:o<cs.length:=(List.getElem?_eq_some_iff.1 Ab).1;rw [List.drop_eq_getElem_cons b,(List.getElem?_eq_some_iff.1 Ab).2];simp [a]
theorem eB {Vd:List Value}{n k off:Nat}{xs vs:List Value}(a:Wc P T true Vd n k) (b:Gf xs off vs) (c:vs.length=n):(part T ⟨xs⟩ off).run P w=.ok (.agg ⟨vs⟩) w:=by
 have:=b.extract;rw [c] at this;simp [part,a.isAgg,a.sizeOf,this]
theorem ti.run {m:Nat}{xs ys:List Value}{e:List Field}{Dd:List Bool}(h:ti P m xs ys e Dd) (d:Nat) (ya:m≤d) :
  (forIn (⟨e⟩ : Array Field) ((none, ()) : Option Bool × Unit) (fun f _ => (if f.name ≠ "_" then do
     if !(← Op.equalIn d f.type (← part f.type ⟨xs⟩ f.offset) (← part f.type ⟨ys⟩ f.offset)) then pure (ForInStep.done (some false,())) else pure (ForInStep.yield (none,()))
    else pure (ForInStep.yield (none,())):Sem (ForInStep (Option Bool×Unit))))).run P w=.ok (if kj Dd then (none,()) else (some false,())) w:=by
 induction h with
 | z=>simp [kj]
 | @o f e v s b Dd T off Vd n k g i j a l p he t c =>
  subst i; subst j;have q : f.name ≠ "_" := by simpa using g
  simp only [List.forIn_toArray] at c ⊢;rw [List.forIn_cons];simp only [ne_eq,q,not_false_eq_true,if_true,Sem.run_bind,dB a l,dB a p,Result.andThen_ok,he.out d w ya];cases b with
  | true=>simpa [gw] using c
  | false=>simp [gw]
 | @n f e vs u b Dd T off Vd n k g i j a l p qa r he t c =>
  subst i; subst j;have q : f.name ≠ "_" := by simpa using g
  simp only [List.forIn_toArray] at c ⊢;rw [List.forIn_cons];simp only [ne_eq,q,not_false_eq_true,if_true,Sem.run_bind,eB a l qa,eB a p r,Result.andThen_ok,he.out d w ya];cases b with
  | true=>simpa [gw] using c
  | false=>simp [gw]
theorem qC {m:Nat}{xs ys:List Value}{a:List Field}{Dd:List Bool}(b:So P T a) (h:ti P m xs ys a Dd):Yq P (m+1) T (.agg ⟨xs⟩) (.agg ⟨ys⟩) (kj Dd):=⟨fun d w ya=>by
 cases d with
 | zero=>omega
 | succ d =>
  have:=h.run (w:=w) d (by omega);simp only [Op.equalIn,Sem.run_bind,run_underlying b.Hz,Result.andThen_ok];rw [show (program).run P w=.ok P w from rfl];simp only [Result.andThen_ok,b.held,Bool.false_eq_true,if_false,Sem.run_bind];rw [this];cases kj Dd<;>rfl⟩
def nD (v:Value) (n:Nat):Prop:=∃ a c,v=.slice a n c
theorem Ui {x:Operand}{t e:TypeId}{v:Value}{n:Nat}(b:P.underlying t=some (.slice e)) (d:zb fr x v) (Ab:nD v n):Of P (Oper.mk dst (.call { callee:=.builtin .len,args:=#[x],argTypes:=#[t] }) ty pos after g) fr ((.int .i64 n)):=by
 obtain ⟨a,c,rfl⟩:=Ab;exact Yd b d
theorem Row.Yi {v:Value}{sz n:Nat}{xs:List Value}(h:Row w v T sz n xs):nD v n:=by
 rcases h.2 with ⟨rfl,rfl⟩ | ⟨g,o,cap,cur,rfl,-⟩
 ·exact ⟨_,_,rfl⟩
 ·exact ⟨_,_,rfl⟩
theorem Row.Iu {v:Value}{sz n:Nat}{xs:List Value}(h:Row w v T sz n xs) (f:0<n):∃ b o c,v=.slice (some ⟨b,o,none⟩) n c∧tj w b o xs:=by
 rcases h.2 with ⟨rfl,rfl⟩ | ⟨g,o,cap,cur,rfl,d,i,k,l,e⟩
 ·omega
 ·refine ⟨g,o,cap,rfl,fun j u a=>?_⟩;rw [cell_of_row w g (o+j) cur T (0,0) d];rw [← e,List.getElem?_take] at a;split at a
  ·rw [List.getElem?_drop] at a;simpa using a
  ·cases a
end
section
variable {P:Program}{Q:Exit→Act→World→Prop}{K:List Value→List Deferred→World→Prop}{fr Fa:List Value}{ds:List Deferred}{w:World}
variable {dst:Option Tmp}{ty:TypeId}{pos:String}{after:Array Edge}{g:Option (Nat×Bool)}
variable {T:TypeId}
theorem fB {a:List Field}{op:BinOp}{x y:Operand}{xs ys:Array Value}(b:So P T a):(eqGuard op T x y (.agg xs) (.agg ys)).run P w=.ok () w:=by
 have c:(program).run P w=.ok P w:=rfl;cases op<;>simp [eqGuard,c,b.guard]
theorem rJ {x y:Operand}{qd:TypeId}{m:Nat}{xs ys:List Value}{a:List Field}{Dd:List Bool}(b:So P T a) (c:zb fr x (.agg ⟨xs⟩)) (d:zb fr y (.agg ⟨ys⟩)) (h:ti P m xs ys a Dd) (hm:(decide (m<1000))=true) :
  Of P (Oper.mk dst (.binOp .eql T x y qd) ty pos after g) fr (.bool (kj Dd)):=⟨fun ds w=>by
 have e:=c ds;have f:=d ds;have i:=(qC b h).out Op.maxDepth w (by have:=of_decide_eq_true hm;unfold Op.maxDepth;omega);have j:=fB (w:=w) (op:=.eql) (x:=x) (y:=y) (xs:=⟨xs⟩) (ys:=⟨ys⟩) b;simp [execOp,e,f,j,binOp,Op.equal,i]⟩
theorem VC {x y:Operand}{qd:TypeId}{m:Nat}{xs ys:List Value}{a:List Field}{Dd:List Bool}(b:So P T a) (c:zb fr x (.agg ⟨xs⟩)) (d:zb fr y (.agg ⟨ys⟩)) (h:ti P m xs ys a Dd) (hm:(decide (m<1000))=true) :
  Of P (Oper.mk dst (.binOp .neq T x y qd) ty pos after g) fr (.bool (!kj Dd)):=⟨fun ds w=>by
 have e:=c ds;have f:=d ds;have i:=(qC b h).out Op.maxDepth w (by have:=of_decide_eq_true hm;unfold Op.maxDepth;omega);have j:=fB (w:=w) (op:=.neq) (x:=x) (y:=y) (xs:=⟨xs⟩) (ys:=⟨ys⟩) b;simp [execOp,e,f,j,binOp,Op.equal,i]⟩
theorem sJ {x y:Operand}{qd:TypeId}{m:Nat}{xs ys:List Value}{a:List Field}{Dd:List Bool}(b:So P T a) (c:zb fr x (.agg ⟨xs⟩)) (d:zb fr y (.agg ⟨ys⟩)) (he:ti P m xs ys a Dd) (hm:(decide (m<1000))=true)
  (e:Vf fr dst (.bool (kj Dd)) Fa) (h:K Fa ds w):De P (Oper.mk dst (.binOp .eql T x y qd) ty pos after g) fr ds w K Q:=Ea (rJ b c d he hm) e h
theorem tJ {x y:Operand}{qd:TypeId}{m:Nat}{xs ys:List Value}{a:List Field}{Dd:List Bool}(b:So P T a) (c:zb fr x (.agg ⟨xs⟩)) (d:zb fr y (.agg ⟨ys⟩)) (he:ti P m xs ys a Dd) (hm:(decide (m<1000))=true)
  (e:Vf fr dst (.bool (!kj Dd)) Fa) (h:K Fa ds w):De P (Oper.mk dst (.binOp .neq T x y qd) ty pos after g) fr ds w K Q:=Ea (VC b c d he hm) e h
end
section
variable {P:Program}{Q:Exit→Act→World→Prop}{K:List Value→List Deferred→World→Prop}{fr Fa:List Value}{ds:List Deferred}{w:World}
variable {dst:Option Tmp}{ty:TypeId}{pos:String}{after:Array Edge}{g:Option (Nat×Bool)}
variable {S Jd:Nat→Prop}{J:World}{rs Lc:List dc}{A:World→Prop}
variable {T:TypeId}
end
end Go.oc
namespace Go.oc
open Go.RowKit
theorem Et {α β:Type}{f g:α→β}{xs:Array α}(h:∀ x ∈ xs,f x=g x):xs.map f=xs.map g:=Array.map_congr_left h
def Qq:Op→Bool
 | .select _ _=>false
 | _=>true
theorem execOp_congr {f g:Operand→Value}(o:Oper) (hs:Qq o.op=true) (h:∀ x ∈ o.op.operands,f x=g x):execOp f o=execOp g o:=by
 obtain ⟨dst,op,ty,pos,after,w⟩:=o;have d:∀ c:Call,(∀ x ∈ c.operands,f x=g x)→resolve f c ty=resolve g c ty:=by
  intro c d;have q:c.args.map f=c.args.map g:=Et fun x e=>d x (by simp [Call.operands,e]);unfold resolve;rw [q];obtain ⟨callee,args,tys⟩:=c;cases callee with
  | value x=>simp only; rw [d x (by simp [Call.operands])]
  | invoke x m=>simp only; rw [d x (by simp [Call.operands])]
  | builtin b=>rfl
 cases op<;>simp only [Op.operands,List.mem_toArray,List.mem_cons,List.not_mem_nil,or_false,forall_eq_or_imp,forall_eq,Array.mem_append,List.mem_map] at h<;>simp only [execOp]
 case build t hg =>
  have:(hg.map fun (i,x)=>(i,f x))=hg.map fun (i,x)=>(i,g x):=Et fun p j=>by simp only;rw [h p.2 ⟨p,by simpa using j,rfl⟩]
  rw [this]
 case buildSlice t n hg =>
  have:(hg.map fun (i,x)=>(i,f x))=hg.map fun (i,x)=>(i,g x):=Et fun p j=>by simp only;rw [h p.2 ⟨p,by simpa using j,rfl⟩]
  rw [this]
 case makeFunc fn a b =>
  rw [Et (f:=f) (g:=g) (xs:=a) fun x e=>h x (.inl e),Et (f:=f) (g:=g) (xs:=b) fun x e=>h x (.inr e)]
 case makeMap t r=>cases r with
  | none=>rfl
  | some x=>simp only [Option.map]; rw [h x (by simp)]
 case slice t x Rg k l =>
  have e:=h x (by simp);have s:Rg.map f=Rg.map g:=by cases Rg with
   | none=>rfl
   | some y=>simp only [Option.map]; rw [h y (by simp)]
  have u:k.map f=k.map g:=by cases k with
   | none=>rfl
   | some y=>simp only [Option.map]; rw [h y (by simp)]
  have v:l.map f=l.map g:=by cases l with
   | none=>rfl
   | some y=>simp only [Option.map]; rw [h y (by simp)]
  rw [e,s,u,v]
 case call c=>rw [d c h]
 case go c=>rw [d c h]
 case defer c=>rw [d c h]
 case select cs b=>exact absurd hs (by simp [Qq])
 all_goals (try (simp only [h]))
def Sl (ops:Array Oper) (i:Nat):List Nat:=match ops[i]? with
 | some o=>(o.after.toList.filter (Region.binds .any)).map (·.on)
 | none=>[]
def enabled (ops:Array Oper) (R:List Nat) (i:Nat):Bool:=R.contains i && (Sl ops i).all fun j=>!R.contains j
inductive Ml (ops:Array Oper):List Nat→List Nat→Prop where
 | z:Ml ops [] []
 | s {R a:List Nat} {i:Nat} (h:enabled ops R i=true) (t:Ml ops (R.erase i) a):Ml ops R (i::a)
theorem Kr {ops:Array Oper}{R:List Nat}{i:Nat}(h:enabled ops R i=true):i ∈ R:=by
 simp only [enabled,Bool.and_eq_true,List.contains_iff_mem] at h;exact h.1
theorem lA {ops:Array Oper}{R:List Nat}{i j:Nat}(h:enabled ops R i=true) (a:j ∈ Sl ops i):j ∉ R:=by
 simp only [enabled,Bool.and_eq_true,List.all_eq_true] at h;have:=h.2 j a;simpa using this
def left (n:Nat) (listed:Array Bool):List Nat:=(List.range n).filter fun i=>!listed.getD i true
theorem UE (n:Nat) (listed:Array Bool):(left n listed).Nodup:=List.nodup_range.filter _
theorem tB {n:Nat}{listed:Array Bool}(hs:listed.size=n){i:Nat}(c:i ∈ left n listed):left n (listed.setIfInBounds i true)=(left n listed).erase i:=by
 rw [(UE n listed).erase_eq_filter];unfold left;rw [List.filter_filter];apply List.filter_congr;intro j a;have d:j<n:=List.mem_range.1 a;have b:j<listed.size:=by omega
 simp only [Array.getD_eq_getD_getElem?,Array.getElem?_setIfInBounds];by_cases e:i=j
 ·subst e;simp [b]
 ·simp [e,Ne.symm e]
theorem rC {ops:Array Oper}{n:Nat}(a:(List.range n).all (fun i=>(Sl ops i).all fun j=>decide (j<i))=true){i j:Nat}(b:i<n) (c:j ∈ Sl ops i):j<i:=by
 simp only [List.all_eq_true,List.mem_range,decide_eq_true_eq] at a;exact a i b j c
theorem sC {ops:Array Oper}(p:(List.range ops.size).all (fun i=>(Sl ops i).all fun j=>decide (j<i))=true) :
  ∀ (fuel t:Nat) (listed:Array Bool) (acc:List Nat),listed.size=ops.size→(left ops.size listed).length≤fuel→∃ n,Region.linearise.go .any ops fuel t listed acc=acc.reverse++n∧Ml ops (left ops.size listed) n
 | 0,t,listed,acc,hs,v=>by
  have f:left ops.size listed=[]:=List.eq_nil_of_length_eq_zero (by omega);exact ⟨[],by simp [Region.linearise.go],by rw [f];exact .z⟩
 | fuel+1,t,listed,acc,hs,v=>by
  rw [Region.linearise.go];generalize w:(List.filter (fun i=>!listed.getD i true && (Option.map (fun x=>x.after.all fun e=>!Region.binds .any e || listed.getD e.on false) ops[i]?).getD false) (List.range ops.size))=rs;have q:∀ i,i ∈ rs ↔ enabled ops (left ops.size listed) i=true:=by
   intro i;rw [← w];simp only [List.mem_filter,List.mem_range,Bool.and_eq_true,enabled,List.contains_iff_mem,left,Sl];constructor
   ·rintro ⟨b,g,d⟩;refine ⟨⟨b,g⟩,?_⟩;rw [Array.getElem?_eq_getElem b] at d ⊢;simp only [Option.map_some,Option.getD_some,Array.all_eq_true',Bool.or_eq_true,Bool.not_eq_true'] at d;simp only [List.all_eq_true,List.mem_map,List.mem_filter,forall_exists_index,and_imp];rintro j e he k rfl;have:=d e (by simpa using he);rcases this with h | h
    ·rw [h] at k;cases k
    ·simp only [Bool.not_eq_true',List.contains_eq_mem,decide_eq_false_iff_not,List.mem_filter,List.mem_range,not_and,Bool.not_eq_true,Bool.not_eq_false];intro o;have r:e.on<listed.size:=by omega
     simp only [Array.getD,r,dif_pos] at h ⊢;exact h
   ·rintro ⟨⟨b,g⟩,d⟩;refine ⟨b,g,?_⟩;rw [Array.getElem?_eq_getElem b] at d ⊢;simp only [Option.map_some,Option.getD_some,Array.all_eq_true',Bool.or_eq_true,Bool.not_eq_true'];simp only [List.all_eq_true,List.mem_map,List.mem_filter,forall_exists_index,and_imp] at d;intro e he;cases k:Region.binds .any e with
    | false=>exact .inl rfl
    | true =>
     right;have:=d e.on e (by simpa using he) k rfl;simp only [Bool.not_eq_true',List.contains_eq_mem,decide_eq_false_iff_not,List.mem_filter,List.mem_range,not_and,Bool.not_eq_true,Bool.not_eq_false] at this;have o:e.on<i:=rC p b (by
      unfold Sl;rw [Array.getElem?_eq_getElem b];simp only [List.mem_map,List.mem_filter];exact ⟨e,⟨by simpa using he,k⟩,rfl⟩)
     have u:=this (by omega);have r:e.on<listed.size:=by omega
     simp only [Array.getD,r,dif_pos] at u ⊢;exact u
  by_cases f:left ops.size listed=[]
  ·have y:rs=[]:=by
    rw [List.eq_nil_iff_forall_not_mem];intro i c;have:=Kr ((q i).1 c);rw [f] at this;cases this
   rw [y];simp only [List.length_nil,Nat.mod_zero,List.getElem?_nil];exact ⟨[],by simp,by rw [f];exact .z⟩
  ·-- the least of what is left may be next
   have A:0<rs.length:=by
    obtain ⟨i,c,B⟩:∃ i,i ∈ left ops.size listed∧∀ j,j<i→j ∉ left ops.size listed:=by
     obtain ⟨a,C⟩:=List.exists_mem_of_ne_nil _ f
     induction a using Nat.strongRecOn with
     | _ a D =>
      by_cases hex:∃ j,j<a∧j ∈ left ops.size listed
      ·obtain ⟨j,l,E⟩:=hex;exact D j l E
      ·exact ⟨a,C,fun j l hm=>hex ⟨j,l,hm⟩⟩
    have m:enabled ops (left ops.size listed) i=true:=by
     simp only [enabled,Bool.and_eq_true,List.contains_iff_mem,List.all_eq_true];refine ⟨c,fun j l=>?_⟩;have:=B j (rC p (List.mem_range.1 (List.mem_filter.1 c).1) l);simpa using this
    exact List.length_pos_of_mem ((q i).2 m)
   have o:t % rs.length<rs.length:=Nat.mod_lt _ A;rw [List.getElem?_eq_getElem o];simp only;have m:=(q _).1 (List.getElem_mem o);generalize rs[t % rs.length]=i at m ⊢;have c:=Kr m;obtain ⟨n,b,g⟩:=sC p fuel (t / rs.length) (listed.setIfInBounds i true) (i::acc) (by simpa using hs) (by
    rw [tB hs c,List.length_erase_of_mem c];omega)
   refine ⟨i::n,?_,.s m ?_⟩
   ·rw [b];simp
   ·rw [← tB hs c];exact g
theorem TD {ops:Array Oper}(b:(List.range ops.size).all (fun i=>(Sl ops i).all fun j=>decide (j<i))=true) (t:Nat):Ml ops (List.range ops.size) (Region.linearise .any ops t):=by
 have qa:left ops.size (Array.replicate ops.size false)=List.range ops.size:=by
  unfold left;rw [List.filter_eq_self];intro i c;have:=List.mem_range.1 c;simp [Array.getD,this]
 obtain ⟨e,d,a⟩:=sC b ops.size t (Array.replicate ops.size false) [] (by simp) (by rw [qa];simp);unfold Region.linearise;rw [d];rw [qa] at a;simpa using a
def Mq:Operand→Option Nat
 | .tmp t=>some t
 | _=>none
def reads (ops:Array Oper) (o:Oper):List Nat :=
 o.op.operands.toList.filterMap Mq++(match o.guard with
  | some (j,_)=>((ops[j]?).bind (·.dst)).toList
  | none=>[])
section
variable {P:Program}{α β:Type}
end
section
variable {P:Program}{Q:Exit→Act→World→Prop}{ops:Array Oper}{fr Fa:List Value}{ds:List Deferred}{w:World}
theorem uB {fr:List Value}{ds ds':List Deferred}{d:Nat}{v:Value}{x:Operand}(h:Mq x≠some d):(F (fr.set d v) ds).eval x=(F fr ds').eval x:=by
 cases x with
 | tmp t =>
  have:d≠t:=fun e=>h (by simp [Mq,e]);simp [F,Act.eval,List.getElem?_set_ne this]
 | const v=>rfl
 | global g=>rfl
 | func f=>rfl
theorem vB {o:Oper}{d:Nat}(h:(reads ops o).contains d=false):∀ x ∈ o.op.operands,Mq x≠some d:=by
 intro x a e;have:d ∈ reads ops o:=by
  unfold reads;exact List.mem_append.2 (.inl (List.mem_filterMap.2 ⟨x,by simpa using a,e⟩))
 rw [List.contains_iff_mem.2 this] at h;cases h
theorem wB {o:Oper}{d:Nat}{v:Value}{ds':List Deferred}(hs:Qq o.op=true) (h:(reads ops o).contains d=false):execOp (F (fr.set d v) ds).eval o=execOp (F fr ds').eval o :=
 execOp_congr o hs fun x a=>uB (vB h x a)
theorem VE {o:Oper}{d:Nat}{v:Value}{ds':List Deferred}(h:(reads ops o).contains d=false):Region.wanted o (yielded ops (F (fr.set d v) ds).tmps)=Region.wanted o (yielded ops (F fr ds').tmps):=by
 unfold Region.wanted;cases a:o.guard with
 | none=>rfl
 | some c =>
  obtain ⟨j,b⟩:=c;simp only;congr 1;unfold yielded;cases f:(ops[j]?).bind (·.dst) with
  | none=>rfl
  | some e =>
   have g:d≠e:=by
    intro he;have:d ∈ reads ops o:=by
     unfold reads;rw [a];exact List.mem_append.2 (.inr (by simp only;rw [f];simp [he]))
    rw [List.contains_iff_mem.2 this] at h;cases h
   simp [F,List.getElem?_set_ne g]
theorem put_eq (fr:List Value) (ds:List Deferred) (dst:Option Tmp) (x:Value):∃ g:List Value→List Value,(∀ fr ds,(F fr ds).put dst x=F (g fr) ds)∧(∀ (fr:List Value) (d:Nat) (v:Value),dst≠some d→g (fr.set d v)=(g fr).set d v)∧(∀ (fr:List Value) (y:Operand) (ds ds':List Deferred),(∀ e,dst=some e→Mq y≠some e)→(F (g fr) ds).eval y=(F fr ds').eval y):=by
 cases dst with
 | none=>exact ⟨id,fun _ _=>rfl,fun _ _ _ _=>rfl,fun fr y ds ds' _=>by cases y <;> rfl⟩
 | some n =>
  refine ⟨fun fr=>fr.set n x,fun fr ds=>ma rfl ds,fun fr d v h=>?_,fun fr y ds ds' h=>uB (h n rfl)⟩;have:d≠n:=fun e=>h (by rw [e]);exact List.set_comm _ _ this
def vk (Q:Exit→Act→World→Prop) (d:Nat):Prop:=∀ a (fr:List Value) (v:Value) (ds:List Deferred) w,Q (.panic a) (F (fr.set d v) ds) w→Q (.panic a) (F fr ds) w
structure Uz (P:Program) (ops:Array Oper) (Q:Exit→Act→World→Prop) (R:List Nat) (fr:List Value) (ds:List Deferred) (w:World):Prop where
 out:∀ a,Ml ops R a→wpOps P ops Q a (F fr ds) w
theorem uJ {id:Nat}{l:List Oper}(hm:P.follows .mixedOrders=true) (a:(List.range l.toArray.size).all (fun i=>(Sl l.toArray i).all fun j=>decide (j<i))=true)
  (h:∀ w',w'.heap=w.heap→w'.os=w.os→w'.tape=w.tape→w'.output=w.output→Uz P l.toArray Q (List.range l.length) fr ds w'):df P (.region id l.toArray true) Q fr ds w:=by
 constructor;refine wp_region_draw fun t=>?_;have hs:Region.schedule (P.follows .mixedOrders) l.toArray t=Region.linearise .any l.toArray t:=by
  unfold Region.schedule;rw [hm];rfl
 rw [hs];have qa:=TD a t;have:=(h { w with drawn:=w.drawn+1 } rfl rfl rfl rfl).out _ (by simpa using qa);exact this
def WC (ops:Array Oper) (R:List Nat):List Nat:=R.filter (enabled ops R)
theorem Ml.split {R l:List Nat}(h:Ml ops R l) (n:R.Nodup){i:Nat}(o:i ∈ R) (p:enabled ops R i=true) :
  ∃ f m,l=f++i::m∧Ml ops (R.erase i) (f++m)∧∀ j ∈ f,j ∈ R∧j≠i∧i ∉ Sl ops j:=by
 induction h with
 | z=>cases o
 | @s R l k g t r =>
  by_cases e:k=i
  ·subst e;exact ⟨[],l,rfl,t,by simp⟩
  ·have q:i ∈ R.erase k:=(n.mem_erase_iff).2 ⟨fun h=>e h.symm,o⟩;have u:enabled ops (R.erase k) i=true:=by
    simp only [enabled,Bool.and_eq_true,List.contains_iff_mem,List.all_eq_true] at p ⊢;refine ⟨q,fun j d=>?_⟩;have:=p.2 j d;simp only [Bool.not_eq_true',List.contains_eq_mem,decide_eq_false_iff_not] at this ⊢;exact fun hm=>this (List.mem_of_mem_erase hm)
   obtain ⟨f,m,v,w,x⟩:=r (n.erase k) q u;refine ⟨k::f,m,by rw [v];rfl,?_,?_⟩
   ·refine .s ?_ (by rw [List.erase_comm];exact w);simp only [enabled,Bool.and_eq_true,List.contains_iff_mem,List.all_eq_true] at g ⊢;refine ⟨(n.mem_erase_iff).2 ⟨e,g.1⟩,fun j d=>?_⟩;have:=g.2 j d;simp only [Bool.not_eq_true',List.contains_eq_mem,decide_eq_false_iff_not] at this ⊢;exact fun hm=>this (List.mem_of_mem_erase hm)
   ·intro j d;rcases List.mem_cons.1 d with rfl | d
    ·exact ⟨Kr g,e,fun ya=>lA g ya o⟩
    ·obtain ⟨a,b,c⟩:=x j d;exact ⟨List.mem_of_mem_erase a,b,c⟩
theorem Ac {d:Nat}(h:∀ b a w,Q (.panic b) a w→False):vk Q d:=fun b fr v ds w c=>(h b _ w c).elim
end
end Go.oc
