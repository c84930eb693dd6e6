/- Texts of Wk. -/
import Derived.Tactics
import Derived.Defers
import Derived.Recover
import Derived.Lib.Strings
import Derived.Laws.Append
import Derived.Below
import Derived.Laws.AppendOwn
set_option linter.unusedSimpArgs false
set_option linter.unusedVariables false
set_option linter.unusedSectionVars false
namespace Go.Ab
open Go.RowKit
def Vb {α:Type}(l:List α) (n:Nat) (v:α):Prop:=l[n]?=some v
def uc {α:Type}(l:List α) (n:Nat) (v:α) (a:List α):Prop:=l.set n v=a
theorem d0 {α:Type}{v:α}{l:List α}:Vb (v::l) 0 v:=rfl
theorem ya {α:Type}{x v:α}{l:List α}:uc (x::l) 0 v (v::l):=rfl
theorem d1 {α:Type}{a0:α}{v:α}{l:List α}:Vb (a0::v::l) 1 v:=rfl
theorem Ia {α:Type}{a0:α}{x v:α}{l:List α}:uc (a0::x::l) 1 v (a0::v::l):=rfl
theorem d2 {α:Type}{a0 pa:α}{v:α}{l:List α}:Vb (a0::pa::v::l) 2 v:=rfl
theorem Ta {α:Type}{a0 pa:α}{x v:α}{l:List α}:uc (a0::pa::x::l) 2 v (a0::pa::v::l):=rfl
theorem d3 {α:Type}{a0 pa a2:α}{v:α}{l:List α}:Vb (a0::pa::a2::v::l) 3 v:=rfl
theorem Qb {α:Type}{a0 pa a2:α}{x v:α}{l:List α}:uc (a0::pa::a2::x::l) 3 v (a0::pa::a2::v::l):=rfl
theorem d4 {α:Type}{a0 pa a2 a3:α}{v:α}{l:List α}:Vb (a0::pa::a2::a3::v::l) 4 v:=rfl
theorem Tb {α:Type}{a0 pa a2 a3:α}{x v:α}{l:List α}:uc (a0::pa::a2::a3::x::l) 4 v (a0::pa::a2::a3::v::l):=rfl
theorem d5 {α:Type}{a0 pa a2 a3 a4:α}{v:α}{l:List α}:Vb (a0::pa::a2::a3::a4::v::l) 5 v:=rfl
theorem Xb {α:Type}{a0 pa a2 a3 a4:α}{x v:α}{l:List α}:uc (a0::pa::a2::a3::a4::x::l) 5 v (a0::pa::a2::a3::a4::v::l):=rfl
theorem d6 {α:Type}{a0 pa a2 a3 a4 a5:α}{v:α}{l:List α}:Vb (a0::pa::a2::a3::a4::a5::v::l) 6 v:=rfl
theorem mc {α:Type}{a0 pa a2 a3 a4 a5:α}{x v:α}{l:List α}:uc (a0::pa::a2::a3::a4::a5::x::l) 6 v (a0::pa::a2::a3::a4::a5::v::l):=rfl
theorem d7 {α:Type}{a0 pa a2 a3 a4 a5 Eb:α}{v:α}{l:List α}:Vb (a0::pa::a2::a3::a4::a5::Eb::v::l) 7 v:=rfl
theorem Gb {α:Type}{a0 pa a2 a3 a4 a5 Eb:α}{x v:α}{l:List α}:uc (a0::pa::a2::a3::a4::a5::Eb::x::l) 7 v (a0::pa::a2::a3::a4::a5::Eb::v::l):=rfl
theorem d8 {α:Type}{a0 pa a2 a3 a4 a5 Eb dc:α}{v:α}{l:List α}:Vb (a0::pa::a2::a3::a4::a5::Eb::dc::v::l) 8 v:=rfl
theorem Fc {α:Type}{a0 pa a2 a3 a4 a5 Eb dc:α}{x v:α}{l:List α}:uc (a0::pa::a2::a3::a4::a5::Eb::dc::x::l) 8 v (a0::pa::a2::a3::a4::a5::Eb::dc::v::l):=rfl
theorem d9 {α:Type}{a0 pa a2 a3 a4 a5 Eb dc jb:α}{v:α}{l:List α}:Vb (a0::pa::a2::a3::a4::a5::Eb::dc::jb::v::l) 9 v:=rfl
theorem ec {α:Type}{a0 pa a2 a3 a4 a5 Eb dc jb:α}{x v:α}{l:List α}:uc (a0::pa::a2::a3::a4::a5::Eb::dc::jb::x::l) 9 v (a0::pa::a2::a3::a4::a5::Eb::dc::jb::v::l):=rfl
def F (fr:List Value) (ds:List Deferred):Act:=⟨⟨fr⟩,ds⟩
def cb (fr:List Value) (x:Operand) (v:Value):Prop:=∀ ds,(F fr ds).eval x=v
theorem aa {fr:List Value}{n:Nat}{v:Value}(h:Vb fr n v):cb fr (.tmp n) v:=by
 intro ds;unfold Vb at h;simp [F,Act.eval,h]
theorem Fa {fr:List Value}{v:Value}:cb fr (.const v) v:=fun _=>rfl
theorem Hd {fr:List Value}{f:Nat}:cb fr (.func f) (.func (.func f) #[] #[]):=fun _=>rfl
def Te (fr:List Value) (dst:Option Tmp) (v:Value) (ua:List Value):Prop:=∀ ds,(F fr ds).put dst v=F ua ds
theorem fb {fr:List Value}{v:Value}:Te fr none v fr:=fun _=>rfl
theorem ha {fr ua:List Value}{n:Nat}{v:Value}(h:uc fr n v ua):Te fr (some n) v ua:=by
 intro ds;unfold uc at h;subst h;simp [F,Act.put]
theorem Te.rw {fr ua:List Value}{dst:Option Tmp}{v:Value}(h:Te fr dst v ua){K:Act→World→Prop}{ds:List Deferred}{w:World}(k:K (F ua ds) w):K ((F fr ds).put dst v) w:=by
 rw [h ds];exact k
def xl (fr:List Value) (xs:List Operand) (vs:List Value):Prop:=∀ ds,xs.map (F fr ds).eval=vs
theorem Ib {fr:List Value}:xl fr [] []:=fun _=>rfl
theorem ra {fr:List Value}{x:Operand}{v:Value}{xs:List Operand}{vs:List Value}(h:cb fr x v) (hs:xl fr xs vs):xl fr (x::xs) (v::vs):=by
 intro ds;simp [h ds,hs ds]
structure te (P:Program) (c:Code) (Q:Exit→Act→World→Prop) (fr:List Value) (ds:List Deferred) (w:World):Prop where
 out:c.wp P Q (F fr ds) w
structure Gf (P:Program) (ops:Array Oper) (Q:Exit→Act→World→Prop) (l:List Oper) (fr:List Value) (ds:List Deferred) (w:World):Prop where
 out:wpList P ops Q l (F fr ds) w
structure Kd (P:Program) (o:Oper) (fr:List Value) (ds:List Deferred) (w:World) (K:List Value→List Deferred→World→Prop) (Q:Exit→Act→World→Prop):Prop where
 out:∀ a:Act→World→Prop,(∀ fr ds w,K fr ds w→a (F fr ds) w)→o.wp P (F fr ds) w a Q
def bo (P:Program) (c:Code) (Q:Exit→Act→World→Prop):Act→World→Prop:=fun a w=>∃ fr ds,a=F fr ds∧te P c Q fr ds w
section code
variable {P:Program}{Q:Exit→Act→World→Prop}{fr:List Value}{ds:List Deferred}{w:World}
theorem wa {x y:Code}(h:te P x (Exit.then (bo P y Q) Q) fr ds w):te P (.seq x y) Q fr ds w :=
 ⟨wp_seq (wp_mono h.out fun e a w b=>by
  cases e with
  | normal=>obtain ⟨fr,ds,rfl,h⟩:=b; exact h.out
  | exit id=>exact b
  | goto l=>exact b
  | ret=>exact b
  | panic c=>exact b
  | outgrown=>exact b)⟩
theorem Aa {id:Nat}{l:List Oper}(h:Gf P l.toArray Q l fr ds w):te P (.region id l.toArray false) Q fr ds w:=⟨wp_region_lit h.out⟩
theorem Oa (h:Q .normal (F fr ds) w):te P .skip Q fr ds w:=⟨wp_skip h⟩
theorem Za (h:Q .ret (F fr ds) w):te P .ret Q fr ds w:=⟨wp_ret h⟩
theorem fe {id:Nat}(h:Q (.exit id) (F fr ds) w):te P (.exit id) Q fr ds w:=⟨wp_exit h⟩
theorem yb {id:Nat}{c:Code}(h:te P c (Exit.inBlock id Q) fr ds w):te P (.block id c) Q fr ds w:=⟨wp_block h.out⟩
theorem PA {c:Operand}{x y:Code}{b:Bool}(hc:cb fr c (.bool b)) (a:b=true→te P x Q fr ds w) (d:b=false→te P y Q fr ds w) :
  te P (.cond c x y) Q fr ds w:=⟨wp_cond_split (hc ds) (fun h=>(a h).out) fun h=>(d h).out⟩
theorem gd {c:Operand}{x y:Code}{p:Prop}[Decidable p] (hc:cb fr c (.bool (decide p))) (a:p→te P x Q fr ds w) (b:¬ p→te P y Q fr ds w) :
  te P (.cond c x y) Q fr ds w:=PA hc (fun h=>a (of_decide_eq_true h)) (fun h=>b (of_decide_eq_false h))
theorem tL {c:Operand}{x y:Code}{p:Prop}[Decidable p] (hc:cb fr c (.bool (decide p))) (a:p) (b:te P x Q fr ds w):te P (.cond c x y) Q fr ds w:=gd hc (fun _=>b) fun h=>absurd a h
theorem uL {c:Operand}{x y:Code}{p:Prop}[Decidable p] (hc:cb fr c (.bool (decide p))) (a:¬ p) (b:te P y Q fr ds w):te P (.cond c x y) Q fr ds w:=gd hc (fun h=>absurd h a) fun _=>b
theorem Tl {c:Operand}{x y:Code}(hc:cb fr c (.bool true)) (a:te P x Q fr ds w):te P (.cond c x y) Q fr ds w:=⟨wp_cond_true (hc ds) a.out⟩
theorem Ul {c:Operand}{x y:Code}(hc:cb fr c (.bool false)) (a:te P y Q fr ds w):te P (.cond c x y) Q fr ds w:=⟨wp_cond_false (hc ds) a.out⟩
theorem ma {c:Code}{Q':Exit→Act→World→Prop}(h:te P c Q' fr ds w):Exit.then (bo P c Q') Q .normal (F fr ds) w:=⟨fr,ds,rfl,h⟩
theorem Ca {n:Act→World→Prop}{a:Act}(h:n a w):Exit.then n Q .normal a w:=h
theorem Wb {n:Act→World→Prop}{a:Act}{id:Nat}(h:Q (.exit id) a w):Exit.then n Q (.exit id) a w:=h
theorem Lb {n:Act→World→Prop}{a:Act}(h:Q .ret a w):Exit.then n Q .ret a w:=h
theorem Fb {a:Act}{id:Nat}(h:Q .normal a w):Exit.inBlock id Q .normal a w:=h
theorem Dd {a:Act}{id:Nat}(h:Q .ret a w):Exit.inBlock id Q .ret a w:=h
theorem ke {a:Act}{id:Nat}(h:Q .normal a w):Exit.inBlock id Q (.exit id) a w:=by simpa [Exit.inBlock] using h
theorem eo {a:Act}{id j:Nat}(b:(j == id)=false) (h:Q (.exit j) a w):Exit.inBlock id Q (.exit j) a w:=by
 have:¬ j=id:=by simpa using b
 simpa [Exit.inBlock,this] using h
inductive qb where
 | k
 | o (n:Nat)
 | i (v:Value)
def ni (t:Nat→Value):List qb→List Value→List Value
 | [],fr=>fr
 | _::_,[]=>[]
 | .k::ms,a::fr=>a::ni t ms fr
 | .o n::ms,_::fr=>t n::ni t ms fr
 | .i v::ms,_::fr=>v::ni t ms fr
def Pe (t:Nat→Value) (ms:List qb) (fr ua:List Value):Prop:=ni t ms fr=ua
theorem wb {t:Nat→Value}{l:List Value}:Pe t [] l l:=rfl
theorem mk {t:Nat→Value}{ms:List qb}{a:Value}{l b:List Value}(h:Pe t ms l b):Pe t (.k::ms) (a::l) (a::b):=by unfold Pe at *;rw [ni,h]
theorem ic {t:Nat→Value}{ms:List qb}{n:Nat}{a:Value}{l b:List Value}(h:Pe t ms l b):Pe t (.o n::ms) (a::l) (t n::b):=by unfold Pe at *;rw [ni,h]
theorem Mb {t:Nat→Value}{ms:List qb}{v a:Value}{l b:List Value}(h:Pe t ms l b):Pe t (.i v::ms) (a::l) (v::b):=by unfold Pe at *;rw [ni,h]
theorem Tc {t:Nat→Value}{ms:List qb}{a b:List Value}(e:Pe t ms a b) (h:Q .normal (F b ds) w):Q .normal (F (ni t ms a) ds) w:=by rw [show ni t ms a=b from e];exact h
theorem Ie {c:Code}{t:Nat→Value}{ms:List qb}{a b:List Value}(e:Pe t ms a b) (h:te P c Q b ds w):te P c Q (ni t ms a) ds w:=by rw [show ni t ms a=b from e];exact h
inductive Be:List qb→List Value→List Value→Prop where
 | z {l:List Value}:Be [] l l
 | k {ms:List qb} {a:Value} {l c:List Value} (h:Be ms l c):Be (.k::ms) (a::l) (a::c)
 | o {ms:List qb} {n:Nat} {a b:Value} {l c:List Value} (h:Be ms l c):Be (.o n::ms) (a::l) (b::c)
 | i {ms:List qb} {v a:Value} {l c:List Value} (h:Be ms l c):Be (.i v::ms) (a::l) (v::c)
def opens:List qb→List Nat
 | []=>[]
 | .o n::ms=>n::opens ms
 | .k::ms=>opens ms
 | .i _::ms=>opens ms
theorem Tv {t Ob:Nat→Value}:∀ (ms:List qb) (fr:List Value),(∀ n ∈ opens ms,t n=Ob n)→ni t ms fr=ni Ob ms fr
 | [],_,_=>rfl
 | _::_,[],_=>rfl
 | .k::ms,a::fr,h=>by rw [ni,ni,Tv ms fr h]
 | .o n::ms,a::fr,h=>by rw [ni,ni,Tv ms fr fun m hm=>h m (by simp [opens,hm]),h n (by simp [opens])]
 | .i v::ms,a::fr,h=>by rw [ni,ni,Tv ms fr h]
theorem Be.ex {ms:List qb}{fr ua:List Value}(h:Be ms fr ua) (c:(opens ms).Nodup):∃ t,ua=ni t ms fr:=by
 induction h with
 | z=>exact ⟨fun _=>undef,rfl⟩
 | k _ d=>obtain ⟨t,rfl⟩:=d c; exact ⟨t,rfl⟩
 | @o ms n a b l f _ d =>
  simp only [opens,List.nodup_cons] at c;obtain ⟨t,rfl⟩:=d c.2;refine ⟨fun m=>if m=n then b else t m,?_⟩;rw [ni,if_pos rfl];congr 1;refine Tv _ _ fun m hm=>?_;exact (if_neg (fun e:m=n=>c.1 (by rw [← e];exact hm))).symm
 | i _ d=>obtain ⟨t,rfl⟩:=d c; exact ⟨t,rfl⟩
theorem vL {c:Code}{α:Type}(T:List Nat) (m:T.Nodup) (u:α→List qb) (hu:∀ x,opens (u x)=T) (j:α→World→Prop) (fl:α→World→Nat) (x0:α) (o:Be (u x0) fr fr) (p:j x0 w)
  (round:∀ x t w,j x w→te P c (Exit.then (fun g w'=>∃ h ua,g=F ua ds∧Be (u h) fr ua∧j h w'∧fl h w'<fl x w) Q) (ni t (u x) fr) ds w) :
  te P (.loop c) Q fr ds w:=by
 constructor;intro b k cs;have key:∀ n x t w,fl x w=n→j x w →
   ∃ e g w',Q e g w'∧Arrives P (lone (b.at (F (ni t (u x) fr) ds) (.code c::.inLoop c::k)) cs w) b k cs e g w':=by
  intro n
  induction n using Nat.strongRecOn with
  | _ n q =>
   intro x t w r s;obtain ⟨e,i,f,d,a⟩:=(round x t w s).out b (.inLoop c::k) cs;cases e with
   | normal =>
    obtain ⟨h,ua,rfl,v,y,z⟩:=d;obtain ⟨Ob,A⟩:=v.ex (by rw [hu];exact m);obtain ⟨B,C,D,G,H⟩:=q (fl h f) (r ▸ z) h Ob f rfl y;rw [A] at a;exact ⟨B,C,D,G,.of_steps (Steps.trans a (.one step_inLoop)) H⟩
   | exit id=>exact ⟨_,i,f,d,.pass (x:=.inLoop c) rfl (fun _ _=>.inl (by simp)) a⟩
   | goto l=>exact ⟨_,i,f,d,.pass (x:=.inLoop c) rfl (fun _ _=>.inl (by simp)) a⟩
   | ret=>exact ⟨_,i,f,d,.pass (x:=.inLoop c) rfl (fun _ _=>.inl (by simp)) a⟩
   | panic L=>exact ⟨_,i,f,d,.pass (x:=.inLoop c) rfl (fun _ _=>.inl (by simp)) a⟩
   | outgrown=>exact ⟨_,i,f,d,.pass (x:=.inLoop c) rfl (fun _ _=>.inl (by simp)) a⟩
 obtain ⟨t0,K⟩:=o.ex (by rw [hu];exact m);obtain ⟨e,g,w',d,a⟩:=key _ x0 t0 w rfl p;rw [← K] at a;exact ⟨e,g,w',d,.of_steps (.one step_loop) a⟩
theorem te.mono {c:Code}{Q':Exit→Act→World→Prop}(h:te P c Q fr ds w) (b:∀ e a w,Q e a w→Q' e a w):te P c Q' fr ds w:=⟨wp_mono h.out b⟩
theorem cG {R R':Act→World→Prop}(h:∀ a w,R a w→R' a w):∀ e a w,Exit.then R Q e a w→Exit.then R' Q e a w:=fun e a w b=>by
 cases e with
 | normal=>exact h a w b
 | exit id=>exact b
 | goto l=>exact b
 | ret=>exact b
 | panic c=>exact b
 | outgrown=>exact b
theorem uc.same {α:Type}{l:List α}{n:Nat}{v:α}{a:List α}(h:Vb l n v) (b:uc l n v a):a=l:=by
 unfold Vb at h;unfold uc at b;subst b;obtain ⟨c,rfl⟩:=List.getElem?_eq_some_iff.1 h;exact List.set_getElem_self c
theorem QA {ops:Array Oper}{l:List Oper}{di ei:List Value}{d:Nat}{b:Bool}(a:Vb fr d (.bool b)) (c:uc fr d (.bool true) di) (e:uc fr d (.bool false) ei)
  (f:b=true→Gf P ops Q l di ds w) (g:b=false→Gf P ops Q l ei ds w):Gf P ops Q l fr ds w:=by
 cases b with
 | true=>have:=f rfl; rw [uc.same a c] at this; exact this
 | false=>have:=g rfl; rw [uc.same a e] at this; exact this
theorem Wg {ops:Array Oper}{l:List Oper}{di ei:List Value}{d:Nat}{p:Prop}[Decidable p] (a:Vb fr d (.bool (decide p))) (b:uc fr d (.bool true) di) (c:uc fr d (.bool false) ei)
  (e:p→Gf P ops Q l di ds w) (f:¬ p→Gf P ops Q l ei ds w):Gf P ops Q l fr ds w :=
 QA a b c (fun h=>e (of_decide_eq_true h)) (fun h=>f (of_decide_eq_false h))
end code
end Go.Ab
namespace Go.Ab
open Go.RowKit
def S (l:List UInt8):Value:=.string ⟨⟨l⟩⟩
section
variable {P:Program}{Q:Exit→Act→World→Prop}{K:List Value→List Deferred→World→Prop}{fr ua:List Value}{ds:List Deferred}{w:World}{ops:Array Oper}{rest:List Oper}
variable {dst:Option Tmp}{op:Op}{ty:TypeId}{pos:String}{after:Array Edge}{g:Option (Nat×Bool)}
theorem sa (h:Q .normal (F fr ds) w):Gf P ops Q [] fr ds w:=⟨h⟩
theorem wl (h:Kd P ⟨dst,op,ty,pos,after,none⟩ fr ds w (Gf P ops Q rest) Q):Gf P ops Q (⟨dst,op,ty,pos,after,none⟩::rest) fr ds w:=by
 constructor;unfold wpList;rw [if_pos (by simp [Region.wanted])];exact .inl (h.out _ fun _ _ _ k=>k.out)
theorem kc {j d:Nat}{b:Bool}(c:(ops[j]?).bind (·.dst)=some d) (a:Vb fr d (.bool b)) (h:Kd P ⟨dst,op,ty,pos,after,some (j,b)⟩ fr ds w (Gf P ops Q rest) Q) :
  Gf P ops Q (⟨dst,op,ty,pos,after,some (j,b)⟩::rest) fr ds w:=by
 constructor;unfold wpList;rw [if_pos (by
  unfold Vb at a;simp only [Region.wanted,yielded,c,F];simp [a])]
 exact .inl (h.out _ fun _ _ _ k=>k.out)
theorem wn {j d:Nat}{b qg:Bool}(c:(ops[j]?).bind (·.dst)=some d) (a:Vb fr d (.bool qg)) (e:(qg == b)=false) (f:Te fr dst undef ua) (h:Gf P ops Q rest ua ds w) :
  Gf P ops Q (⟨dst,op,ty,pos,after,some (j,b)⟩::rest) fr ds w:=by
 constructor;unfold wpList;rw [if_neg (by
  unfold Vb at a;simp only [Region.wanted,yielded,c,F];simp [a];simpa using e)]
 exact f.rw h.out
theorem Lj {j d:Nat}{b:Bool}(c:(ops[j]?).bind (·.dst)=some d) (a:Vb fr d undef) (e:Te fr dst undef ua) (h:Gf P ops Q rest ua ds w) :
  Gf P ops Q (⟨dst,op,ty,pos,after,some (j,b)⟩::rest) fr ds w:=by
 constructor;unfold wpList;rw [if_neg (by
  unfold Vb at a;simp only [Region.wanted,yielded,c,F];simp [a,undef])]
 exact e.rw h.out
theorem Qh {o:Oper}{v:Value}{w':World}(a:(execOp (F fr ds).eval o).run P w=.ok (.value v) w') (b:Te fr o.dst v ua) (h:K ua ds w'):Kd P o fr ds w K Q:=by
 constructor;intro d c;unfold Oper.wp;rw [a,Oper.upon_value];exact b.rw (c _ _ _ h)
theorem FA {o:Oper}{w':World}(a:(execOp (F fr ds).eval o).run P w=.ok .skip w') (b:Te fr o.dst undef ua) (h:K ua ds w'):Kd P o fr ds w K Q:=by
 constructor;intro d c;unfold Oper.wp;rw [a,Oper.upon_skip];exact b.rw (c _ _ _ h)
structure Qe (P:Program) (o:Oper) (fr:List Value) (v:Value):Prop where
 out:∀ ds w,(execOp (F fr ds).eval o).run P w=.ok (.value v) w
theorem ta {o:Oper}{v:Value}(hu:Qe P o fr v) (a:Te fr o.dst v ua) (h:K ua ds w):Kd P o fr ds w K Q:=Qh (hu.out ds w) a h
theorem Qg {x:Operand}{v:Value}(a:cb fr x v):Qe P (Oper.mk dst (.move x) ty pos after g) fr (v):=⟨fun ds w=>by simp [execOp,a ds]⟩
theorem vh {x:Operand}{v:Value}(a:cb fr x v) (b:Te fr dst (v) ua) (h:K ua ds w):Kd P (Oper.mk dst (.move x) ty pos after g) fr ds w K Q:=ta (Qg a) b h
theorem fz {x:Operand}{v:Value}(a:cb fr x v):Qe P (Oper.mk dst (.assign x) ty pos after g) fr (v):=⟨fun ds w=>by simp [execOp,a ds]⟩
theorem fj {x:Operand}{v:Value}(a:cb fr x v) (b:Te fr dst (v) ua) (h:K ua ds w):Kd P (Oper.mk dst (.assign x) ty pos after g) fr ds w K Q:=ta (fz a) b h
theorem Gn {c x y:Operand}{v:Value}(hc:cb fr c (.bool true)) (a:cb fr x v):Qe P (Oper.mk dst (.pick c x y) ty pos after g) fr (v):=⟨fun ds w=>by simp [execOp,a ds,hc ds,asBool]⟩
theorem jI {c x y:Operand}{v:Value}(hc:cb fr c (.bool true)) (a:cb fr x v) (b:Te fr dst (v) ua) (h:K ua ds w):Kd P (Oper.mk dst (.pick c x y) ty pos after g) fr ds w K Q:=ta (Gn hc a) b h
theorem Zt {c x y:Operand}{v:Value}(hc:cb fr c (.bool false)) (a:cb fr y v):Qe P (Oper.mk dst (.pick c x y) ty pos after g) fr (v):=⟨fun ds w=>by simp [execOp,a ds,hc ds,asBool]⟩
theorem wr {n:Int}(h:-9223372036854775808≤n∧n≤9223372036854775807):IntKind.i64.wrap n=n:=by
 unfold IntKind.wrap;simp [IntKind.bits,IntKind.signed];omega
theorem LD {x y:Operand}{t Ob:TypeId}{k:IntKind}{a b c:Int}(d:cb fr x (.int k a)) (e:cb fr y (.int k b)) (hw:k.wrap (a+b)=c):Qe P (Oper.mk dst (.binOp .add t x y Ob) ty pos after g) fr ((.int k c)):=by
 subst hw;exact ⟨fun ds w=>by simp [execOp,d ds,e ds,eqGuard,binOp,Op.intArith]⟩
theorem gA {x y:Operand}{t Ob:TypeId}{k:IntKind}{a b c:Int}(d:cb fr x (.int k a)) (e:cb fr y (.int k b)) (hw:k.wrap (a - b)=c):Qe P (Oper.mk dst (.binOp .sub t x y Ob) ty pos after g) fr ((.int k c)):=by
 subst hw;exact ⟨fun ds w=>by simp [execOp,d ds,e ds,eqGuard,binOp,Op.intArith]⟩
theorem hA {x y:Operand}{t Ob:TypeId}{k:IntKind}{a b c:Int}(d:cb fr x (.int k a)) (e:cb fr y (.int k b)) (hw:k.wrap (a*b)=c):Qe P (Oper.mk dst (.binOp .mul t x y Ob) ty pos after g) fr ((.int k c)):=by
 subst hw;exact ⟨fun ds w=>by simp [execOp,d ds,e ds,eqGuard,binOp,Op.intArith]⟩
theorem iA {x y:Operand}{t Ob:TypeId}{k:IntKind}{a b c:Int}(d:cb fr x (.int k a)) (e:cb fr y (.int k b)) (f:b≠0) (hw:k.wrap (a.tdiv b)=c):Qe P (Oper.mk dst (.binOp .quo t x y Ob) ty pos after g) fr ((.int k c)):=by
 subst hw;exact ⟨fun ds w=>by simp [execOp,d ds,e ds,eqGuard,binOp,Op.intDiv,f]⟩
theorem wx {x y:Operand}{t Ob:TypeId}{k:IntKind}{a b c:Int}(d:cb fr x (.int k a)) (e:cb fr y (.int k b)) (f:b≠0) (hw:a.tmod b=c):Qe P (Oper.mk dst (.binOp .rem t x y Ob) ty pos after g) fr ((.int k c)):=by
 subst hw;exact ⟨fun ds w=>by simp [execOp,d ds,e ds,eqGuard,binOp,Op.intDiv,f]⟩
theorem zu {x y:Operand}{t Ob:TypeId}{k:IntKind}{a b:Int}(c:cb fr x (.int k a)) (d:cb fr y (.int k b)):Qe P (Oper.mk dst (.binOp .lss t x y Ob) ty pos after g) fr ((.bool (decide (a<b)))):=⟨fun ds w=>by simp [execOp,c ds,d ds,eqGuard,binOp,Op.intCmp]⟩
theorem MD {x y:Operand}{t Ob:TypeId}{k:IntKind}{a b:Int}(c:cb fr x (.int k a)) (d:cb fr y (.int k b)):Qe P (Oper.mk dst (.binOp .leq t x y Ob) ty pos after g) fr ((.bool (decide (a≤b)))):=⟨fun ds w=>by simp [execOp,c ds,d ds,eqGuard,binOp,Op.intCmp]⟩
theorem wL {x y:Operand}{t Ob:TypeId}{k:IntKind}{a b:Int}(c:cb fr x (.int k a)) (d:cb fr y (.int k b)) (e:Te fr dst ((.bool (decide (a≤b)))) ua) (h:K ua ds w):Kd P (Oper.mk dst (.binOp .leq t x y Ob) ty pos after g) fr ds w K Q:=ta (MD c d) e h
theorem bs {x y:Operand}{t Ob:TypeId}{k:IntKind}{a b:Int}(c:cb fr x (.int k a)) (d:cb fr y (.int k b)):Qe P (Oper.mk dst (.binOp .gtr t x y Ob) ty pos after g) fr ((.bool (decide (b<a)))):=⟨fun ds w=>by simp [execOp,c ds,d ds,eqGuard,binOp,Op.intCmp]⟩
theorem jA {x y:Operand}{t Ob:TypeId}{k:IntKind}{a b:Int}(c:cb fr x (.int k a)) (d:cb fr y (.int k b)):Qe P (Oper.mk dst (.binOp .geq t x y Ob) ty pos after g) fr ((.bool (decide (b≤a)))):=⟨fun ds w=>by simp [execOp,c ds,d ds,eqGuard,binOp,Op.intCmp]⟩
theorem xL {x y:Operand}{t Ob:TypeId}{k:IntKind}{a b:Int}(c:cb fr x (.int k a)) (d:cb fr y (.int k b)) (e:Te fr dst ((.bool (decide (b≤a)))) ua) (h:K ua ds w):Kd P (Oper.mk dst (.binOp .geq t x y Ob) ty pos after g) fr ds w K Q:=ta (jA c d) e h
theorem yx {x y:Operand}{t Ob:TypeId}{k:IntKind}{a b:Int}(c:cb fr x (.int k a)) (d:cb fr y (.int k b)):Qe P (Oper.mk dst (.binOp .eql t x y Ob) ty pos after g) fr ((.bool (decide (a=b)))):=⟨fun ds w=>by simp [execOp,c ds,d ds,eqGuard,binOp,Op.intCmp];rfl⟩
theorem Ol {x y:Operand}{t Ob:TypeId}{k:IntKind}{a b:Int}(c:cb fr x (.int k a)) (d:cb fr y (.int k b)) (e:Te fr dst ((.bool (decide (a=b)))) ua) (h:K ua ds w):Kd P (Oper.mk dst (.binOp .eql t x y Ob) ty pos after g) fr ds w K Q:=ta (yx c d) e h
theorem ND {x y:Operand}{t Ob:TypeId}{k:IntKind}{a b:Int}(c:cb fr x (.int k a)) (d:cb fr y (.int k b)):Qe P (Oper.mk dst (.binOp .neq t x y Ob) ty pos after g) fr ((.bool (decide (a≠b)))):=⟨fun ds w=>by
  simp [execOp,c ds,d ds,eqGuard,binOp,Op.intCmp];by_cases h:a=b<;>simp [h]⟩
theorem yL {x y:Operand}{t Ob:TypeId}{k:IntKind}{a b:Int}(c:cb fr x (.int k a)) (d:cb fr y (.int k b)) (e:Te fr dst ((.bool (decide (a≠b)))) ua) (h:K ua ds w):Kd P (Oper.mk dst (.binOp .neq t x y Ob) ty pos after g) fr ds w K Q:=ta (ND c d) e h
theorem zL {x:Operand}{t:TypeId}{k:IntKind}{a c:Int}(b:cb fr x (.int k a)) (hw:k.wrap (0 - a)=c):Qe P (Oper.mk dst (.unOp .neg t x) ty pos after g) fr ((.int k c)):=by
 subst hw;exact ⟨fun ds w=>by simp [execOp,b ds,Op.unary,Op.intArith]⟩
theorem AL {x:Operand}{t:TypeId}{b:Bool}(a:cb fr x (.bool b)):Qe P (Oper.mk dst (.unOp .not t x) ty pos after g) fr ((.bool (!b))):=⟨fun ds w=>by simp [execOp,a ds,Op.unary]⟩
theorem BL {x y:Operand}{t Ob:TypeId}{a b:List UInt8}(c:cb fr x (S a)) (d:cb fr y (S b)) (l:a.length+b.length≤9223372036854775807):Qe P (Oper.mk dst (.binOp .add t x y Ob) ty pos after g) fr ((S (a++b))):=by
 have e:(ByteArray.mk ⟨a⟩).size=a.length:=rfl;have f:(ByteArray.mk ⟨b⟩).size=b.length:=rfl;have h:¬ (((((ByteArray.mk ⟨a⟩).size+(ByteArray.mk ⟨b⟩).size:Nat):Int)) > IntKind.i64.max):=by
  rw [e,f];unfold IntKind.max;simp [IntKind.bits,IntKind.signed];omega
 have i:ByteArray.mk ⟨a⟩++ByteArray.mk ⟨b⟩=ByteArray.mk ⟨a++b⟩:=by
  apply ByteArray.ext;rw [ByteArray.data_append];simp
 refine ⟨fun ds w=>?_⟩;have j:=c ds;have k:=d ds;simp only [execOp,j,k,S,eqGuard,binOp,Op.stringOp];rw [if_neg h,i];simp
theorem js {x y:Operand}{t Ob:TypeId}{a b:List UInt8}(c:cb fr x (S a)) (d:cb fr y (S b)):Qe P (Oper.mk dst (.binOp .eql t x y Ob) ty pos after g) fr ((.bool (decide (a=b)))):=by
 refine ⟨fun ds w=>?_⟩;have f:=c ds;have h:=d ds;simp [execOp,f,h,S,eqGuard,binOp,Op.stringOp];by_cases e:a=b<;>simp [e]
theorem Ax {x y:Operand}{t Ob:TypeId}{a b:List UInt8}(c:cb fr x (S a)) (d:cb fr y (S b)):Qe P (Oper.mk dst (.binOp .neq t x y Ob) ty pos after g) fr ((.bool (decide (a≠b)))):=by
 refine ⟨fun ds w=>?_⟩;have f:=c ds;have h:=d ds;simp [execOp,f,h,S,eqGuard,binOp,Op.stringOp];by_cases e:a=b<;>simp [e]
theorem ll {x:Operand}{t:TypeId}{a:List UInt8}(b:P.underlying t=some .string) (c:cb fr x (S a)):Qe P (Oper.mk dst (.call { callee:=.builtin .len,args:=#[x],argTypes:=#[t] }) ty pos after g) fr ((.int .i64 a.length)):=by
 refine ⟨fun ds w=>?_⟩;have d:=c ds;have e:(ByteArray.mk ⟨a⟩).size=a.length:=rfl;simp [execOp,d,resolve,invoke,builtin,S,Builtin.len_,run_underlying b,goInt,e]
theorem Ud {x:Operand}{t e:TypeId}{a:Option Addr}{n c:Nat}(b:P.underlying t=some (.slice e)) (d:cb fr x (.slice a n c)):Qe P (Oper.mk dst (.call { callee:=.builtin .len,args:=#[x],argTypes:=#[t] }) ty pos after g) fr ((.int .i64 n)):=by
 refine ⟨fun ds w=>?_⟩;have f:=d ds;simp [execOp,f,resolve,invoke,builtin,Builtin.len_,run_underlying b,goInt]
theorem FC {x:Operand}{t e:TypeId}{a:Option Addr}{n c:Nat}(b:P.underlying t=some (.slice e)) (d:cb fr x (.slice a n c)) (f:Te fr dst ((.int .i64 n)) ua) (h:K ua ds w):Kd P (Oper.mk dst (.call { callee:=.builtin .len,args:=#[x],argTypes:=#[t] }) ty pos after g) fr ds w K Q:=ta (Ud b d) f h
theorem IJ {x y:Operand}{t:TypeId}{k:IntKind}{a:List UInt8}{i:Int}{c:UInt8}(d:P.underlying t=some .string) (e:cb fr x (S a)) (f:cb fr y (.int k i)) (j:0≤i) (hc:a[i.toNat]?=some c):Qe P (Oper.mk dst (.index t x y) ty pos after g) fr ((.int .u8 c.toNat)):=by
 refine ⟨fun ds w=>?_⟩;have l:=e ds;have m:=f ds;have n:(ByteArray.mk ⟨a⟩)[i.toNat]?=some c:=by
  have b:i.toNat<a.length:=by
   rcases Nat.lt_or_ge i.toNat a.length with h | h
   ·exact h
   ·rw [List.getElem?_eq_none h] at hc;cases hc
  rw [getElem?_pos (ByteArray.mk ⟨a⟩) i.toNat (show i.toNat<(ByteArray.mk ⟨a⟩).size from b)];rw [List.getElem?_eq_getElem b] at hc;rw [← hc];rfl
 simp [execOp,l,m,S,Instr.index,run_underlying d,asIntOf,j,n]
theorem OB (a:List UInt8) (i j:Nat):(ByteArray.mk ⟨a⟩).extract i j=ByteArray.mk ⟨(a.take j).drop i⟩:=by
 rw [Lib.extract_eq];simp [List.drop_take]
theorem kI {x Ei:Operand}{t:TypeId}{k:IntKind}{a:List UInt8}{i:Int}(b:P.underlying t=some .string) (c:cb fr x (S a)) (d:cb fr Ei (.int k i))
  (e:0≤i∧i≤a.length):Qe P (Oper.mk dst (.slice t x (some Ei) none none) ty pos after g) fr ((S (a.drop i.toNat))):=by
 refine ⟨fun ds w=>?_⟩;have f:=c ds;have h:=d ds;have j:(ByteArray.mk ⟨a⟩).size=a.length:=rfl;simp only [execOp,f,h,S,Option.map,Instr.sliceAt];simp [run_underlying b,Instr.slice,Instr.sliceBounds,Instr.sliceBound,asIntOf,j,e,OB]
theorem lI {x Pa:Operand}{t:TypeId}{b:IntKind}{a:List UInt8}{j:Int}(c:P.underlying t=some .string) (d:cb fr x (S a)) (e:cb fr Pa (.int b j))
  (f:0≤j∧j≤a.length):Qe P (Oper.mk dst (.slice t x none (some Pa) none) ty pos after g) fr ((S (a.take j.toNat))):=by
 refine ⟨fun ds w=>?_⟩;have h:=d ds;have i:=e ds;have k:(ByteArray.mk ⟨a⟩).size=a.length:=rfl;simp only [execOp,h,i,S,Option.map,Instr.sliceAt];simp [run_underlying c,Instr.slice,Instr.sliceBounds,Instr.sliceBound,asIntOf,k,f,OB]
theorem JJ {x:Operand}{i:Nat}{vs:List Value}{v:Value}(b:cb fr x (.tuple ⟨vs⟩)) (a:Vb vs i v):Qe P (Oper.mk dst (.extract x i) ty pos after g) fr (v):=by
 refine ⟨fun ds w=>?_⟩;have c:=b ds;unfold Vb at a;simp [execOp,c,Instr.extract,a]
structure tb (P:Program) (f:FuncId) (args:List Value) (w:World) (R:Value→World→Prop):Prop where
 out:Calls P f ⟨args⟩ w fun e w'=>match e with | .returned v=>R v w' | _=>False
theorem tb.mono {f:FuncId}{args:List Value}{R R':Value→World→Prop}(h:tb P f args w R) (a:∀ v w',R v w'→R' v w'):tb P f args w R' :=
 ⟨Calls.mono h.out fun e w' he=>by
  cases e with
  | returned v=>exact a v w' he
  | panicked c=>exact he.elim
  | outgrown=>exact he.elim⟩
class Hb (P:Program) (f:FuncId):Prop where
 out:∀ args w,(callFunc f args).run P w=.ok (.enter f args) w
theorem mI {f : FuncId} {fn : Func} (a : P.funcs[f]? = some fn) (e : fn.body.isSome = true) (b : (fn.name == "runtime.NumGoroutine") = false) : Hb P f := by
 constructor;intro args w;have c:¬ fn.body=none:=by cases h:fn.body<;>simp_all
 have d : ¬ fn.name = "runtime.NumGoroutine" := by simpa using b
 simp only [callFunc,Sem.run_bind,run_program,Result.andThen_ok,a,beq_iff_eq,if_neg d,Option.isNone_iff_eq_none,if_neg c,Sem.run_pure]
def hh (fr:List Value) (dst:Option Tmp) (v:Value) (K:List Value→Prop):Prop:=∀ ua,Te fr dst v ua→K ua
theorem Te.uniq {fr a b:List Value}{dst:Option Tmp}{v:Value}(h:Te fr dst v a) (k:Te fr dst v b):a=b:=by
 have:=(h []).symm.trans (k []);unfold F at this;simpa using this
theorem pu {v:Value}{K:List Value→Prop}(a:Te fr dst v ua) (h:K ua):hh fr dst v K:=fun c b=>by rw [Te.uniq b a];exact h
theorem Ji (fr:List Value) (dst:Option Tmp) (v:Value):∃ ua,Te fr dst v ua:=by
 cases dst with
 | none=>exact ⟨fr,fb⟩
 | some n=>exact ⟨fr.set n v,ha rfl⟩
theorem Ow {o:Oper}{f:FuncId}{args:List Value}{R:Value→World→Prop}(a:(execOp (F fr ds).eval o).run P w=.ok (.enter f ⟨args⟩) w) (hc:tb P f args w R)
  (h:∀ v w',R v w'→hh fr o.dst v fun ua=>K ua ds w'):Kd P o fr ds w K Q:=by
 constructor;intro d b;unfold Oper.wp;rw [a,Oper.upon_enter];exact Calls.mono hc.out fun e w' he=>by
  cases e with
  | returned v =>
   obtain ⟨ua,Qa⟩:=Ji fr o.dst v;exact Qa.rw (b _ _ _ (h v w' he ua Qa))
  | panicked c=>exact he.elim
  | outgrown=>exact he.elim
theorem hC {f:Operand}{xs:List Operand}{tys:Array TypeId}{k:FuncId}{cap vs:List Value}(a:Hb P k) (b:cb fr f (.func (.func k) #[] ⟨cap⟩)) (hs:xl fr xs vs) :
  (execOp (F fr ds).eval (Oper.mk dst (.call { callee:=.value f,args:=⟨xs⟩,argTypes:=tys }) ty pos after g)).run P w=.ok (.enter k ⟨vs++cap⟩) w:=by
 have c:=b ds;have d:=hs ds;have e:=a.out ⟨vs++cap⟩ w;simp [execOp,resolve,c,Deferred.ofValue,invoke,d,e]
theorem Yd {f:Operand}{xs:List Operand}{tys:Array TypeId}{k:FuncId}{vs:List Value}{R:Value→World→Prop}(a:Hb P k) (b:cb fr f (.func (.func k) #[] #[])) (hs:xl fr xs vs)
  (hc:tb P k vs w R) (h:∀ v w',R v w'→hh fr dst v fun ua=>K ua ds w'):Kd P (Oper.mk dst (.call { callee:=.value f,args:=⟨xs⟩,argTypes:=tys }) ty pos after g) fr ds w K Q:=by
 refine Ow (args:=vs) ?_ hc h;have:=hC (w:=w) (dst:=dst) (ty:=ty) (pos:=pos) (after:=after) (g:=g) (tys:=tys) (ds:=ds) (cap:=[]) a b hs;simpa using this
theorem au {f:Operand}{xs:List Operand}{tys:Array TypeId}{k:FuncId}{cap vs:List Value}{R:Value→World→Prop}(a:Hb P k) (b:cb fr f (.func (.func k) #[] ⟨cap⟩)) (hs:xl fr xs vs)
  (hc:tb P k (vs++cap) w R) (h:∀ v w',R v w'→hh fr dst v fun ua=>K ua ds w'):Kd P (Oper.mk dst (.call { callee:=.value f,args:=⟨xs⟩,argTypes:=tys }) ty pos after g) fr ds w K Q :=
 Ow (hC a b hs) hc h
def dp (P:Program) (fn:Func) (R:Value→World→Prop):Exit→Act→World→Prop:=bodyPost P fn fun e w'=>match e with | .returned v=>R v w' | _=>False
theorem enter {f:FuncId}{fn:Func}{c:Code}{args frm:List Value}{R:Value→World→Prop}(a:P.funcs[f]?=some fn) (b:fn.body=some c)
  (d:args++List.replicate (fn.ntmps - args.length) undef=frm) (h:te P c (dp P fn R) frm [] w):tb P f args w R:=by
 refine ⟨calls_of_wp a b ?_⟩;subst d;have:(⟨args⟩:Array Value)++Array.replicate (fn.ntmps - args.length) undef=⟨args++List.replicate (fn.ntmps - args.length) undef⟩:=by
  apply Array.ext';simp
 have h:=h.out;simpa [F,dp,this] using h
theorem Jb {fn:Func}{R:Value→World→Prop}{t:Tmp}{v:Value}(b:fn.results=#[.tmp t]) (a:Vb fr t v) (h:R v w):dp P fn R .ret (F fr []) w:=by
 refine bodyPost_ret (v:=v) ?_ rfl h;unfold Vb at a;rw [results_tmp b];simp [F,a]
theorem GA {fn:Func}{R:Value→World→Prop}{t u:Tmp}{v a:Value}(d:fn.results=#[.tmp t,.tmp u]) (b:Vb fr t v) (c:Vb fr u a) (h:R (.tuple #[v,a]) w):dp P fn R .ret (F fr []) w:=by
 refine bodyPost_ret (v:=.tuple #[v,a]) ?_ rfl h;unfold Vb at b c;rw [results_tmp2 d];simp [F,b,c]
theorem Kg {fn:Func}{R:Value→World→Prop}(a:fn.results=#[]) (h:R (.tuple #[]) w):dp P fn R .normal (F fr []) w :=
 bodyPost_end (results_none a _ _ _) rfl h
theorem Qn {fn:Func}{R:Value→World→Prop}(a:fn.results=#[]) (h:R (.tuple #[]) w):dp P fn R .ret (F fr []) w :=
 bodyPost_ret (results_none a _ _ _) rfl h
end
end Go.Ab
namespace Go.Ab
open Go.RowKit
structure Fh (S:Nat→Prop) (w w':World):Prop where
 os:w'.os=w.os
 tape:w'.tape=w.tape
 output:w'.output=w.output
 size:w.heap.size≤w'.heap.size
 ba:∀ k,k<w.heap.size→S k→w'.heap[k]?=w.heap[k]?
def Grow (w w':World):Prop:=Fh (fun _=>True) w w'
theorem Fh.refl {S:Nat→Prop}(w:World):Fh S w w:=⟨rfl,rfl,rfl,Nat.le_refl _,fun _ _ _=>rfl⟩
theorem Fh.trans {S:Nat→Prop}{a b c:World}(h:Fh S a b) (k:Fh S b c):Fh S a c :=
 ⟨k.os.trans h.os,k.tape.trans h.tape,k.output.trans h.output,Nat.le_trans h.size k.size,fun i Pa hs=>(k.ba i (Nat.lt_of_lt_of_le Pa h.size) hs).trans (h.ba i Pa hs)⟩
theorem Fh.mono {S c:Nat→Prop}{a b:World}(h:Fh S a b) (hs:∀ k,c k→S k):Fh c a b:=⟨h.os,h.tape,h.output,h.size,fun i Pa k=>h.ba i Pa (hs i k)⟩
theorem Grow.keeps {S:Nat→Prop}{a b:World}(h:Grow a b):Fh S a b:=Fh.mono h fun _ _=>trivial
theorem Grow.below {a b:World}(h:Grow a b):Below a.heap.size a b:=⟨h.os,h.tape,h.output,h.size,fun k c=>h.ba k c trivial⟩
theorem Grow.alloc (w:World) (o:Obj):Grow w (w.alloc o):=⟨rfl,rfl,rfl,by simp,fun k a _=>heap_alloc_old w o k a⟩
def uk (S:Nat→Prop) (w:World) (A:World→Prop):Prop:=∀ w',w.heap.size≤w'.heap.size→(∀ k,k<w.heap.size→S k→w'.heap[k]?=w.heap[k]?)→A w'
theorem uk.now {S:Nat→Prop}{w:World}{A:World→Prop}(h:uk S w A):A w:=h w (Nat.le_refl _) fun _ _ _=>rfl
theorem uk.mono {S a:Nat→Prop}{w:World}{A:World→Prop}(h:uk S w A) (hs:∀ k,k<w.heap.size→S k→a k):uk a w A:=fun w' c d=>h w' c fun k b e=>d k b (hs k b e)
theorem uk.and {S:Nat→Prop}{w:World}{A B:World→Prop}(h:uk S w A) (k:uk S w B):uk S w fun w'=>A w'∧B w':=fun w' a b=>⟨h w' a b,k w' a b⟩
theorem uk.keeps {S:Nat→Prop}{w w':World}{A:World→Prop}(h:uk S w A) (k:Fh S w w'):uk S w' A :=
 fun c d e=>h c (Nat.le_trans k.size d) fun b a hs=>(e b (Nat.lt_of_lt_of_le a k.size) hs).trans (k.ba b a hs)
inductive mb where
 | ba (b:Nat) (T:TypeId) (cs:List Value)
 | row (v:Value) (T:TypeId) (sz n:Nat) (xs:List Value)
 | map (b:Nat) (es:List MapEntry) (clock:Nat)
 | Vx (b:Nat) (s:ByteArray) (pos:Nat)
 | ro (b:Nat) (T:TypeId) (cs:List Value)
 | bl (b m since:Nat) (seen:List Nat) (last:Nat)
def oi (w:World) (b:Nat) (T:TypeId) (cs:List Value):Prop:=w.heap[b]?=some (.cells ⟨cs⟩ T (0,0))
def Row (w:World) (v:Value) (T:TypeId) (sz n:Nat) (xs:List Value):Prop :=
 xs.length=n*sz∧((v=.slice none 0 0∧n=0)∨∃ g o cap cur,v=.slice (some ⟨g,o,none⟩) n cap∧w.heap[g]?=some (.cells cur T (0,0))∧n≤cap∧cap≤maxLen∧o+cap*sz≤cur.size∧(cur.toList.drop o).take (n*sz)=xs)
def mb.block:mb→Option Nat
 | .ba b _ _=>some b
 | .row v _ _ _ _=>v.ownBlock
 | .map b _ _=>some b
 | .Vx b _ _=>some b
 | .ro b _ _=>some b
 | .bl b _ _ _ _=>some b
def mb.holds (w:World):mb→Prop
 | .ba b T cs=>oi w b T cs
 | .row v T sz n xs=>Row w v T sz n xs
 | .map b es clock=>w.heap[b]?=some (.map ⟨es⟩ clock)
 | .Vx b s pos=>w.heap[b]?=some (.stringIter s pos)
 | .ro b T cs=>∃ z,w.heap[b]?=some (.cells ⟨cs⟩ T z)
 | .bl b m since seen last=>w.heap[b]?=some (.mapIter (some m) since ⟨seen⟩ last)
def blocks (rs:List mb):List Nat:=rs.filterMap mb.block
structure Sep (S Ed:Nat→Prop) (w0 w:World) (rs:List mb) (A:World→Prop):Prop where
 keeps:Fh S w0 w
 all:∀ r ∈ rs,r.holds w
 qi:(blocks rs).Nodup
 new:∀ b ∈ blocks rs,w0.heap.size≤b∨¬ S b
 Li:uk (fun b=>(Ed b∨w0.heap.size≤b)∧b ∉ blocks rs) w A
theorem jB {w:World}{r:mb}(h:r.holds w){b:Nat}(a:r.block=some b):b<w.heap.size:=by
 cases r with
 | ba qg T cs=>simp [mb.block] at a; subst a; exact (Array.getElem?_eq_some_iff.1 h).1
 | map qg es d=>simp [mb.block] at a; subst a; exact (Array.getElem?_eq_some_iff.1 h).1
 | Vx qg s p=>simp [mb.block] at a; subst a; exact (Array.getElem?_eq_some_iff.1 h).1
 | bl qg m s e l=>simp [mb.block] at a; subst a; exact (Array.getElem?_eq_some_iff.1 h).1
 | ro qg T cs=>obtain ⟨z,h⟩:=h; simp [mb.block] at a; subst a; exact (Array.getElem?_eq_some_iff.1 h).1
 | row v T sz n xs =>
  rcases h.2 with ⟨rfl,_⟩ | ⟨g,o,cap,cur,rfl,c,_⟩
  ·simp [mb.block,Value.ownBlock] at a
  ·simp [mb.block,Value.ownBlock] at a;subst a;exact (Array.getElem?_eq_some_iff.1 c).1
theorem holds_of {w w':World}{r:mb}(h:r.holds w) (a:∀ b,r.block=some b→w'.heap[b]?=w.heap[b]?):r.holds w':=by
 cases r with
 | ba qg T cs=>exact (a qg rfl).trans h
 | map qg es d=>exact (a qg rfl).trans h
 | Vx qg s p=>exact (a qg rfl).trans h
 | bl qg m s e l=>exact (a qg rfl).trans h
 | ro qg T cs=>obtain ⟨z,h⟩:=h; exact ⟨z,(a qg rfl).trans h⟩
 | row v T sz n xs =>
  refine ⟨h.1,?_⟩;rcases h.2 with h | ⟨g,o,cap,cur,rfl,c,h⟩
  ·exact .inl h
  ·exact .inr ⟨g,o,cap,cur,rfl,by rw [a g rfl];exact c,h⟩
section
variable {S Ed:Nat→Prop}{w0 w w':World}{rs rs':List mb}{A B:World→Prop}
theorem Sep.a (h:Sep S Ed w0 w rs A):A w:=h.Li.now
theorem Sep.start (w:World) (S Ed:Nat→Prop) (a:uk Ed w A):Sep S Ed w w [] A :=
 ⟨.refl w,by simp,by simp [blocks],by simp [blocks],a.mono fun k _ hs=>⟨.inl hs,by simp [blocks]⟩⟩
theorem po {r:mb}{b:Nat}(a:r ∈ rs) (c:r.block=some b):b ∈ blocks rs:=List.mem_filterMap.2 ⟨r,a,c⟩
theorem Sep.lt (h:Sep S Ed w0 w rs A){b:Nat}(a:b ∈ blocks rs):b<w.heap.size:=by
 obtain ⟨r,c,a⟩:=List.mem_filterMap.1 a;exact jB (h.all r c) a
theorem Sep.grow (h:Sep S Ed w0 w rs A) (a:Grow w w'):Sep S Ed w0 w' rs A where
 keeps:=h.keeps.trans a.keeps
 all r c:=holds_of (h.all r c) fun b d=>a.ba b (h.lt (po c d)) trivial
 qi:=h.qi
 new:=h.new
 Li:=h.Li.keeps a.keeps
theorem Sep.alloc (h:Sep S Ed w0 w rs A){o:Obj}{r:mb}(c:r.block=some w.heap.size) (e:r.holds (w.alloc o)):Sep S Ed w0 (w.alloc o) (r::rs) A where
 keeps:=h.keeps.trans (Grow.alloc w o).keeps
 all r' d:=by
  rcases List.mem_cons.1 d with rfl | d
  ·exact e
  ·exact (h.grow (Grow.alloc w o)).all r' d
 qi:=by
  simp only [blocks,List.filterMap_cons,c,List.nodup_cons];exact ⟨fun hm=>Nat.lt_irrefl _ (h.lt hm),h.qi⟩
 new b a:=by
  simp only [blocks,List.filterMap_cons,c,List.mem_cons] at a;rcases a with rfl | a
  ·exact .inl h.keeps.size
  ·exact h.new b a
 Li:=fun w' f g=>h.Li w' (by simp at f;omega) fun k i hs=>by
  have:=g k (by simp;omega) ⟨hs.1,by
   simp only [blocks,List.filterMap_cons,c,List.mem_cons,not_or];exact ⟨by omega,hs.2⟩⟩
  rw [this];exact heap_alloc_old w o k i
theorem dx {r:mb}{n:Nat}(a:Vb rs n r):r ∈ rs:=List.mem_of_getElem? a
theorem Sep.get (h:Sep S Ed w0 w rs A){n:Nat}{r:mb}(a:Vb rs n r):r.holds w:=h.all r (dx a)
theorem BB {n:Nat}{r r':mb}(b:Vb rs n r) (c:r'.block=r.block):blocks (rs.set n r')=blocks rs:=by
 unfold Vb at b;unfold blocks
 induction rs generalizing n with
 | nil=>rfl
 | cons a rs d =>
  cases n with
  | zero=>simp at b; subst b; simp [List.filterMap_cons,c]
  | succ n=>simp at b; simp only [List.set_cons_succ,List.filterMap_cons,d b]
theorem kB {n m:Nat}{r r2:mb}(Qa:(blocks rs).Nodup) (d:Vb rs n r) (hm:Vb rs m r2) (h:n≠m){b:Nat}(f:r.block=some b):r2.block≠some b:=by
 unfold Vb at d hm;unfold blocks at Qa
 induction rs generalizing n m with
 | nil=>simp at d
 | cons a rs i =>
  have j:(List.filterMap mb.block rs).Nodup:=by
   cases g:a.block with
   | none=>simpa [List.filterMap_cons,g] using Qa
   | some c=>simp only [List.filterMap_cons,g,List.nodup_cons] at Qa; exact Qa.2
  cases n with
  | zero =>
   cases m with
   | zero=>exact absurd rfl h
   | succ m =>
    simp at d hm;subst d;intro e;simp only [List.filterMap_cons,f,List.nodup_cons] at Qa;exact Qa.1 (List.mem_filterMap.2 ⟨r2,List.mem_of_getElem? hm,e⟩)
  | succ n =>
   cases m with
   | zero =>
    simp at d hm;subst hm;intro e;simp only [List.filterMap_cons,e,List.nodup_cons] at Qa;exact Qa.1 (List.mem_filterMap.2 ⟨r,List.mem_of_getElem? d,f⟩)
   | succ m=>simp at d hm; exact i j d hm (by omega)
theorem Sep.put (h:Sep S Ed w0 w rs A){n:Nat}{r r':mb}{b:Nat}(d:Vb rs n r) (f:r.block=some b) (o:r'.block=some b) (j:uc rs n r' rs')
  (p:r'.holds w') (a:Fh (fun k=>k≠b) w w'):Sep S Ed w0 w' rs' A:=by
 unfold uc at j;subst j;have l:=po (dx d) f;have g:=BB (r':=r') d (o.trans f.symm);refine ⟨?_,?_,?_,?_,?_⟩
 ·refine ⟨a.os.trans h.keeps.os,a.tape.trans h.keeps.tape,a.output.trans h.keeps.output,Nat.le_trans h.keeps.size a.size,fun k i hs=>?_⟩;rw [a.ba k (Nat.lt_of_lt_of_le i h.keeps.size) (fun e=>by subst e;rcases h.new k l with h | h;exact absurd i (by omega);exact h hs)];exact h.keeps.ba k i hs
 ·intro r2 q;obtain ⟨m,hm⟩:=List.mem_iff_getElem?.1 q;by_cases e:n=m
  ·subst e;have s:n<rs.length:=(List.getElem?_eq_some_iff.1 d).1;rw [List.getElem?_set_self s] at hm;cases hm;exact p
  ·rw [List.getElem?_set_ne e] at hm;refine holds_of (h.all r2 (List.mem_of_getElem? hm)) fun c hc=>a.ba c (h.lt (po (List.mem_of_getElem? hm) hc)) fun t=>?_;subst t;exact kB h.qi d hm e f hc
 ·rw [g];exact h.qi
 ·rw [g];exact h.new
 ·rw [g];exact h.Li.keeps (a.mono fun k hs e=>hs.2 (by subst e;exact l))
end
def Jx:TypeDesc→Bool
 | .struct _ | .array _ _=>true
 | _=>false
class qc (P:Program) (T:TypeId) (Hf:outParam Bool) (xd:outParam (List Value)) (n m:outParam Nat):Prop where
 RA:∃ d,P.underlying T=some d∧Jx d=Hf
 inf:∃ i z,P.info? T=some i∧i.zero=some z∧z.cells=⟨xd⟩∧i.size=n∧i.bytes=m
theorem CL {P:Program}{T:TypeId}{d:TypeDesc}{Hf:Bool}{z:Value}{xd:List Value}{n m:Nat}(hu:P.underlying T=some d) (a:Jx d=Hf) (h:(P.info? T).map (fun i=>(i.zero,i.size,i.bytes))=some (some z,n,m)) (b:z.cells=⟨xd⟩):qc P T Hf xd n m:=by
 refine ⟨⟨d,hu,a⟩,?_⟩;cases Pa:P.info? T with
 | none=>rw [Pa] at h; cases h
 | some i =>
  rw [Pa] at h;simp only [Option.map_some,Option.some.injEq,Prod.mk.injEq] at h;exact ⟨i,z,rfl,h.1,b,h.2.1,h.2.2⟩
def we:Value→Bool
 | .agg _ | .tuple _=>false
 | _=>true
section
variable {P:Program}{Q:Exit→Act→World→Prop}{K:List Value→List Deferred→World→Prop}{fr ua:List Value}{ds:List Deferred}{w:World}
variable {dst:Option Tmp}{ty:TypeId}{pos:String}{after:Array Edge}{g:Option (Nat×Bool)}
variable {S Ed:Nat→Prop}{w0:World}{rs rs':List mb}{A:World→Prop}
variable {T:TypeId}{d:TypeDesc}{Hf:Bool}{xd:List Value}{n m:Nat}
theorem dG (h:P.underlying T=some d):(isAgg T).run P w=.ok (Jx d) w:=by
 unfold isAgg;simp only [Sem.run_bind,run_underlying h,Result.andThen_ok];cases d<;>rfl
theorem qc.isAgg (h:qc P T Hf xd n m):(Go.isAgg T).run P w=.ok Hf w:=by
 obtain ⟨d,Qa,rfl⟩:=h.RA;exact dG Qa
theorem qc.sizeOf (h:qc P T Hf xd n m):(Go.sizeOf T).run P w=.ok n w:=by
 obtain ⟨i,z,Pa,b,hc,a,hm⟩:=h.inf;simp [Go.sizeOf,typeInfo,Pa,a]
theorem qc.zero (h:qc P T Hf xd n m):∃ z,(zeroValue T).run P w=.ok z w∧z.cells=⟨xd⟩:=by
 obtain ⟨i,z,Pa,a,hc,b,hm⟩:=h.inf;exact ⟨z,by simp [zeroValue,typeInfo,Pa,a],hc⟩
def gj (w:World) (b o:Nat) (cs:List Value):Prop:=∀ j v,cs[j]?=some v→w.cell? ⟨b,o+j,none⟩=some v
theorem Oj (b o j:Nat):(⟨b,o,none⟩:Addr).add j=⟨b,o+j,none⟩:=by
 unfold Addr.add;split
 ·rename_i h;subst h;rfl
 ·rfl
theorem oi.cell {b:Nat}{cs:List Value}{j:Nat}{v:Value}(h:oi w b T cs) (a:Vb cs j v):w.cell? ⟨b,j,none⟩=some v:=by
 unfold Vb at a;unfold oi at h;simp [World.cell?,h,a]
theorem oi.cells {b:Nat}{cs:List Value}(h:oi w b T cs):gj w b 0 cs:=fun j v a=>by
 rw [Nat.zero_add];exact h.cell a
theorem gj.one {b o:Nat}{cs:List Value}{j:Nat}{v:Value}(h:gj w b o cs) (a:Vb cs j v):w.cell? ⟨b,o+j,none⟩=some v:=h j v a
theorem Vd (a:qc P T Hf xd n m) (c:Sep S Ed w0 w rs A)
  (h:∀ b w',w.heap.size≤b→Sep S Ed w0 w' (.ba b T xd::rs) A→hh fr dst (.pointer (some ⟨b,0,none⟩)) fun ua=>K ua ds w'):Kd P (Oper.mk dst (.alloc T) ty pos after g) fr ds w K Q:=by
 obtain ⟨z,d,hc⟩:=a.zero (w:=w);obtain ⟨ua,Qa⟩:=Ji fr dst (.pointer (some ⟨w.heap.size,0,none⟩));refine Qh (v:=.pointer (some ⟨w.heap.size,0,none⟩)) (w':=w.alloc (.cells ⟨xd⟩ T)) ?_ Qa (h _ _ (Nat.le_refl _) (c.alloc rfl (heap_alloc_new w _)) ua Qa);simp [execOp,Instr.alloc,d,newVar,newRow,hc]
theorem sg {x:Operand}{v:Value}{cs:List Value}(a:cb fr x v) (hc:v.cells=⟨cs⟩) (c:Sep S Ed w0 w rs A)
  (h:∀ b w',w.heap.size≤b→Sep S Ed w0 w' (.ba b T cs::rs) A→hh fr dst (.pointer (some ⟨b,0,none⟩)) fun ua=>K ua ds w'):Kd P (Oper.mk dst (.box T x) ty pos after g) fr ds w K Q:=by
 obtain ⟨ua,Qa⟩:=Ji fr dst (.pointer (some ⟨w.heap.size,0,none⟩));refine Qh (v:=.pointer (some ⟨w.heap.size,0,none⟩)) (w':=w.alloc (.cells ⟨cs⟩ T)) ?_ Qa (h _ _ (Nat.le_refl _) (c.alloc rfl (heap_alloc_new w _)) ua Qa);simp [execOp,Instr.box,a ds,newVar,newRow,hc]
structure Dl (P:Program) (o:Oper) (fr:List Value) (w:World) (v:Value):Prop where
 out:∀ ds,(execOp (F fr ds).eval o).run P w=.ok (.value v) w
theorem Wu {o:Oper}{v:Value}(hu:Dl P o fr w v) (a:Te fr o.dst v ua) (h:K ua ds w):Kd P o fr ds w K Q:=Qh (hu.out ds) a h
theorem Ga {x:Operand}{b o:Nat}{v:Value}(a:qc P T false xd n m) (c:cb fr x (.pointer (some ⟨b,o,none⟩))) (hc:w.cell? ⟨b,o,none⟩=some v):Dl P (Oper.mk dst (.load T x) ty pos after g) fr w v :=
 ⟨fun ds=>by simp [execOp,Instr.loadAt,c ds,Instr.sureAddr,loadVar,a.isAgg,hc]⟩
theorem Zd {x:Operand}{b o:Nat}{v:Value}(a:qc P T false xd n m) (c:cb fr x (.pointer (some ⟨b,o,none⟩))) (hc:w.cell? ⟨b,o,none⟩=some v)
  (d:Te fr dst v ua) (h:K ua ds w):Kd P (Oper.mk dst (.load T x) ty pos after g) fr ds w K Q:=Wu (Ga a c hc) d h
theorem zj {x:Operand}{b o:Nat}{cs:List Value}(a:qc P T true xd n m) (d:cb fr x (.pointer (some ⟨b,o,none⟩))) (hc:gj w b o cs) (e:cs.length=n):Dl P (Oper.mk dst (.load T x) ty pos after g) fr w (.agg ⟨cs⟩):=⟨fun ds=>by
 have c:=run_loadCells_list (P:=P) w ⟨b,o,none⟩ cs (fun j v f=>by rw [Oj];exact hc j v f);rw [e] at c;simp [execOp,Instr.loadAt,d ds,Instr.sureAddr,loadVar,a.isAgg,a.sizeOf,c]⟩
theorem bu {x:Operand}{b o:Nat}{cs:List Value}(a:qc P T true xd n m) (c:cb fr x (.pointer (some ⟨b,o,none⟩))) (hc:gj w b o cs) (d:cs.length=n)
  (e:Te fr dst (.agg ⟨cs⟩) ua) (h:K ua ds w):Kd P (Oper.mk dst (.load T x) ty pos after g) fr ds w K Q:=Wu (zj a c hc d) e h
inductive Th:List Value→Nat→List Value→List Value→Prop where
 | z {cs:List Value} {o:Nat}:Th cs o [] cs
 | s {cs cs1 a:List Value} {o:Nat} {v:Value} {vs:List Value} (h:uc cs o v cs1) (b:o<cs.length) (k:Th cs1 (o+1) vs a):Th cs o (v::vs) a
theorem Th.eq {cs:List Value}{o:Nat}{vs b:List Value}(h:Th cs o vs b):o+vs.length≤cs.length∨vs=[]:=by
 induction h with
 | z=>exact .inr rfl
 | @s cs cs1 b o v vs h c k a =>
  left;unfold uc at h;subst h;rcases a with a | rfl
  ·simp at a ⊢;omega
  ·simp;omega
theorem Th.res {cs:List Value}{o:Nat}{vs a:List Value}(h:Th cs o vs a) (e:o≤cs.length):a=cs.take o++vs++cs.drop (o+vs.length):=by
 induction h with
 | z=>simp
 | @s cs cs1 a o v vs h b k c =>
  unfold uc at h;subst h;rw [c (by simp;omega)];have ra:(cs.set o v).take (o+1)=cs.take o++[v]:=by
   rw [List.take_set,List.take_add_one,List.getElem?_eq_getElem b];rw [List.set_append_right _ _ (by simp;omega)];simp [Nat.min_eq_left (Nat.le_of_lt b)]
  rw [ra];have d:(cs.set o v).drop (o+1+vs.length)=cs.drop (o+(v::vs).length):=by
   rw [List.drop_set_of_lt (by omega)];congr 1;simp;omega
  rw [d];simp
theorem ow {v:Value}(h:we v=true):v.oneCell'=true:=by cases v<;>first | rfl | simp [we] at h
theorem oF {b:Nat}{cs:List Value}(a:oi w b T cs){o:Nat}{vs c:List Value}(hs:Th cs o vs c) (d:o≤cs.length) (e:vs.all we=true) :
  ∃ w',(storeCells ⟨b,o,none⟩ vs).run P w=.ok () w'∧oi w' b T c∧Fh (fun k=>k≠b) w w':=by
 have hle:o+0+vs.length≤(⟨cs⟩:Array Value).size:=by
  rcases hs.eq with h | rfl
  ·simpa using h
  ·simpa using d
 refine ⟨_,run_storeCells_at P b o T vs 0 ⟨cs⟩ w a hle fun v Wa=>ow (List.all_eq_true.1 e v Wa),?_,?_⟩
 ·rw [hs.res d];exact setRow_heap w b ⟨cs⟩ _ T (0,0) a
 ·exact ⟨rfl,rfl,rfl,by simp [World.setRow],fun k f hs=>setRow_other w b k _ hs⟩
theorem zz {x y:Operand}{b o k:Nat}{v:Value}{cs a vs:List Value}(f:qc P T Hf xd n m) (i:cb fr x (.pointer (some ⟨b,o,none⟩))) (j:cb fr y v) (Wa:v.cells=⟨vs⟩) (l:vs.length=n) (p:vs.all we=true)
  (c:Sep S Ed w0 w rs A) {d:TypeId}(e:Vb rs k (.ba b d cs)) (hs:Th cs o vs a) (q:(decide (o≤cs.length))=true) (r:uc rs k (.ba b d a) rs')
  (Qa:Te fr dst undef ua) (h:∀ w',Sep S Ed w0 w' rs' A→K ua ds w'):Kd P (Oper.mk dst (.store T x y) ty pos after g) fr ds w K Q:=by
 obtain ⟨w',s,t,u⟩:=oF (P:=P) (c.get e) hs (of_decide_eq_true q) p;refine FA (w':=w') ?_ Qa (h w' (c.put e rfl rfl r t u));have ra:v.cells.toList=vs:=by rw [Wa]
 have z:¬ (v.cells.size≠n):=by rw [Wa];simpa using l
 have B:=f.sizeOf (w:=w);simp only [execOp,Instr.storeAt,i ds,j ds,Instr.sureAddr,storeVar,Sem.run_bind,B,Result.andThen_ok,if_neg z,ra,s,Sem.run_pure]
class bd (P:Program) (T:TypeId) (i:Nat) (off:outParam Nat):Prop where
 out:∀ b o w,(Instr.fieldAt T (.pointer (some ⟨b,o,none⟩)) i).run P w=.ok (.pointer (some ⟨b,o+off,none⟩)) w
theorem hd {fs:Array Field}{i off:Nat}{f:Field}{c:TypeId}{d:List Value}{a e:Nat}{g:Bool}(h:P.underlying T=some (.struct fs)) (j:fs[i]?=some f) (k:f.offset=off) (l:f.type=c) (m:qc P c g d a e) (n:(a == 0)=false):bd P T i off:=by
 constructor;intro b o w;have p:¬ a=0:=by simpa using n
 simp [Instr.fieldAt,run_underlying h,j,Instr.sureAddr,fieldPlace,l,m.sizeOf,p,Oj,k]
theorem Xg {x:Operand}{b o i off o':Nat}(a:bd P T i off) (c:cb fr x (.pointer (some ⟨b,o,none⟩))) (d:o+off=o'):Qe P (Oper.mk dst (.fieldAddr T x i) ty pos after g) fr ((.pointer (some ⟨b,o',none⟩))):=by
 subst d;exact ⟨fun ds w=>by simp [execOp,c ds,a.out]⟩
theorem Rn {x:Operand}{b o i off o':Nat}(a:bd P T i off) (c:cb fr x (.pointer (some ⟨b,o,none⟩))) (d:o+off=o') (e:Te fr dst ((.pointer (some ⟨b,o',none⟩))) ua) (h:K ua ds w):Kd P (Oper.mk dst (.fieldAddr T x i) ty pos after g) fr ds w K Q:=ta (Xg a c d) e h
theorem nI {x:Operand}{i off:Nat}{cs:List Value}{v:Value}{fs:Array Field}{f:Field}{a:TypeId}{c:List Value}{d e:Nat}(h:P.underlying T=some (.struct fs)) (j:fs[i]?=some f) (k:f.offset=off) (l:f.type=a) (m:qc P a false c d e)
  (n:cb fr x (.agg ⟨cs⟩)) (b:Vb cs off v):Qe P (Oper.mk dst (.field T x i) ty pos after g) fr (v):=by
 subst k l;unfold Vb at b;refine ⟨fun ds w=>?_⟩;simp [execOp,n ds,Instr.field,run_underlying h,j,asAgg,part,m.isAgg,b]
theorem Pw {x:Operand}{i off:Nat}{cs:List Value}{v:Value}{fs:Array Field}{f:Field}{a:TypeId}{b:List Value}{c d:Nat}(e:P.underlying T=some (.struct fs)) (j:fs[i]?=some f) (k:f.offset=off) (l:f.type=a) (m:qc P a false b c d)
  (n:cb fr x (.agg ⟨cs⟩)) (o:Vb cs off v) (p:Te fr dst (v) ua) (h:K ua ds w):Kd P (Oper.mk dst (.field T x i) ty pos after g) fr ds w K Q:=ta (nI e j k l m n o) p h
theorem Ku {x y:Operand}{b o len cap:Nat}{k:IntKind}{i:Int}{e:TypeId}{o':Nat}(a:P.underlying T=some (.slice e)) (c:qc P e Hf xd n m) (d:cb fr x (.slice (some ⟨b,o,none⟩) len cap)) (f:cb fr y (.int k i)) (Pa:0≤i∧i<len) (h:o+i.toNat*n=o'):Qe P (Oper.mk dst (.indexAddr T x y) ty pos after g) fr ((.pointer (some ⟨b,o',none⟩))):=by
 subst h;refine ⟨fun ds w=>?_⟩;simp [execOp,d ds,f ds,Instr.indexAt,asIntOf,run_underlying a,Pa,c.sizeOf,Oj]
theorem Oh {x:Operand}{a:Addr}(b:cb fr x (.pointer (some a))):Qe P (Oper.mk dst (.nilCheck x) ty pos after g) fr ((.pointer (some a))):=⟨fun ds w=>by simp [execOp,b ds]⟩
theorem Fo {x:Operand}{a:Addr}(b:cb fr x (.pointer (some a))) (c:Te fr dst ((.pointer (some a))) ua) (h:K ua ds w):Kd P (Oper.mk dst (.nilCheck x) ty pos after g) fr ds w K Q:=ta (Oh b) c h
end
end Go.Ab
namespace Go.Ab
open Go.RowKit
section
variable {P:Program}{Q:Exit→Act→World→Prop}{K:List Value→List Deferred→World→Prop}{fr ua:List Value}{ds:List Deferred}{w:World}
variable {dst:Option Tmp}{ty:TypeId}{pos:String}{after:Array Edge}{g:Option (Nat×Bool)}
variable {S Ed:Nat→Prop}{w0:World}{rs rs':List mb}{A:World→Prop}
variable {T:TypeId}{d:TypeDesc}{Hf:Bool}{xd:List Value}{n m:Nat}
inductive ga:List mb→Nat→List mb→Prop where
 | z {r:mb} {rs:List mb}:ga (r::rs) 0 rs
 | s {r:mb} {rs rs':List mb} {k:Nat} (h:ga rs k rs'):ga (r::rs) (k+1) (r::rs')
theorem ga.mem {k:Nat}(h:ga rs k rs'):∀ r ∈ rs',r ∈ rs:=by
 induction h with
 | z=>intro r a; exact List.mem_cons_of_mem _ a
 | s _ b=>intro r a; rcases List.mem_cons.1 a with rfl | a; exact List.mem_cons_self; exact List.mem_cons_of_mem _ (b r a)
theorem ga.sub {k:Nat}(h:ga rs k rs'):rs'.Sublist rs:=by
 induction h with
 | z=>exact List.sublist_cons_self _ _
 | s _ a=>exact a.cons_cons _
theorem Sep.drop {k:Nat}(h:Sep S Ed w0 w rs A) (a:ga rs k rs'):Sep S Ed w0 w rs' A where
 keeps:=h.keeps
 all r c:=h.all r (a.mem r c)
 qi:=(a.sub.filterMap _).nodup h.qi
 new b d:=h.new b ((a.sub.filterMap _).subset d)
 Li:=h.Li.mono fun _ _ hs=>⟨hs.1,fun hm=>hs.2 ((a.sub.filterMap _).subset hm)⟩
theorem Sep.freeze {k:Nat}{r:mb}{B:World→Prop}(h:Sep S Ed w0 w rs A) (a:Vb rs k r) (d:ga rs k rs') (f:∀ b,r.block=some b→Ed b∨w0.heap.size≤b) (g:∀ w,r.holds w→B w) :
  Sep S Ed w0 w rs' fun w=>A w∧B w where
 keeps:=(h.drop d).keeps
 all:=(h.drop d).all
 qi:=(h.drop d).qi
 new:=(h.drop d).new
 Li:=(h.drop d).Li.and fun w' l i=>g w' (holds_of (h.get a) fun b e=>i b (h.lt (po (dx a) e)) ⟨f b e,by
  intro hm;have:blocks rs'=(blocks rs).erase b∨True:=.inr trivial;clear this;have Qa:=h.qi;clear g f l i h;unfold blocks at hm Qa;unfold Vb at a
  induction d with
  | z=>simp at a; subst a; simp only [List.filterMap_cons,e,List.nodup_cons] at Qa; exact Qa.1 hm
  | @s r' rs rs' k d j =>
   simp at a;cases hc:r'.block with
   | none=>simp only [List.filterMap_cons,hc] at hm Qa; exact j a hm Qa
   | some c =>
    simp only [List.filterMap_cons,hc,List.nodup_cons,List.mem_cons] at hm Qa;rcases hm with rfl | hm
    ·exact Qa.1 (List.mem_filterMap.2 ⟨r,List.mem_of_getElem? a,e⟩)
    ·exact j a hm Qa.2⟩)
inductive Cc (fr:List Value):Nat→List (Nat×Operand)→List Value→Prop where
 | z {i:Nat}:Cc fr i [] []
 | s {i:Nat} {x:Operand} {v:Value} {xs:List (Nat×Operand)} {vs:List Value} (h:cb fr x v) (hc:we v=true) (t:Cc fr (i+1) xs vs):Cc fr i ((i,x)::xs) (v::vs)
theorem Cc.eval {i:Nat}{xs:List (Nat×Operand)}{vs:List Value}(h:Cc fr i xs vs):xs.map (fun p=>(p.1,(F fr ds).eval p.2))=(vs.zipIdx i).map fun p=>(p.2,p.1):=by
 induction h with
 | z=>rfl
 | s h _ _ a=>simp [h ds,a]
theorem Cc.cell {i:Nat}{xs:List (Nat×Operand)}{vs:List Value}(h:Cc fr i xs vs):∀ v ∈ vs,we v=true:=by
 induction h with
 | z=>simp
 | s _ hc _ a=>intro v Wa; rcases List.mem_cons.1 Wa with rfl | Wa; exact hc; exact a v Wa
theorem Ty {v:Value}(h:we v=true):v.cells=#[v]:=by cases v<;>first | rfl | simp [we] at h
theorem PB (pl:Nat→Option (Nat×Nat)) (a:∀ i,pl i=some (i,1)):∀ (vs:List Value) (i:Nat) (cs:List Value),(∀ v ∈ vs,we v=true)→i+vs.length≤cs.length →
  Instr.fill pl ⟨cs⟩ ((vs.zipIdx i).map fun p=>(p.2,p.1))=some ⟨cs.take i++vs++cs.drop (i+vs.length)⟩
 | [],i,cs,_,h=>by simp [Instr.fill]
 | v::vs,i,cs,Wa,h=>by
  have hc:=Ty (Wa v (by simp));have b:i<cs.length:=by simp at h;omega
  have d:=PB pl a vs (i+1) (cs.set i v) (fun u hu=>Wa u (by simp [hu])) (by simp at h ⊢;omega);simp only [List.zipIdx_cons,List.map_cons,Instr.fill,a,hc];have Ib:¬ ((#[v].size≠1 || i+#[v].size > (⟨cs⟩:Array Value).size)=true):=by simp;omega
  rw [if_neg Ib];have ra:(#[v].zipIdx.foldl (fun cs (c,j)=>cs.setIfInBounds (i+j) c) (⟨cs⟩:Array Value))=⟨cs.set i v⟩:=by
   simp [Array.zipIdx]
  rw [ra,d];have e:(cs.set i v).take (i+1)=cs.take i++[v]:=by
   rw [List.take_set,List.take_add_one,List.getElem?_eq_getElem b];rw [List.set_append_right _ _ (by simp;omega)];simp [Nat.min_eq_left (Nat.le_of_lt b)]
  have f:(cs.set i v).drop (i+1+vs.length)=cs.drop (i+(v::vs).length):=by
   rw [List.drop_set_of_lt (by omega)];congr 1;simp;omega
  rw [e,f];simp
theorem Xf {e:TypeId}{len:Nat}{xs:List (Nat×Operand)}{vs:List Value}(l:P.underlying T=some (.slice e)) (a:qc P e Hf xd 1 m) (c:Cc fr 0 xs vs) (d:vs.length=len) (n:(decide (len≤16777216))=true) (o:Sep S Ed w0 w rs A)
  (h:∀ b w',w.heap.size≤b→Sep S Ed w0 w' (.ba b e vs::rs) A→hh fr dst (.slice (some ⟨b,0,none⟩) len len) fun ua=>K ua ds w'):Kd P (Oper.mk dst (.buildSlice T len ⟨xs⟩) ty pos after g) fr ds w K Q:=by
 obtain ⟨ua,Qa⟩:=Ji fr dst (.slice (some ⟨w.heap.size,0,none⟩) len len);refine Qh (v:=.slice (some ⟨w.heap.size,0,none⟩) len len) (w':=w.alloc (.cells ⟨vs⟩ e)) ?_ Qa (h _ _ (Nat.le_refl _) (o.alloc rfl (heap_alloc_new w _)) ua Qa);obtain ⟨z,q,hc⟩:=a.zero (w:=w);have r:=a.sizeOf (w:=w);have s:¬ (len*1 > 2 ^ 24):=by have:=of_decide_eq_true n;omega
 have t:=c.eval (ds:=ds);have f:∀ cs:Array Value,cs.size=len→Instr.fill (fun i=>some (i*1,1)) cs ((vs.zipIdx 0).map fun p=>(p.2,p.1))=some ⟨vs⟩:=by
  intro cs j;have:=PB (fun i=>some (i*1,1)) (fun i=>by rw [Nat.mul_one]) vs 0 cs.toList c.cell (by simp [d,j]);rw [this,List.drop_eq_nil_of_le (by simp [d,j])];simp
 have u:((⟨xs⟩:Array (Nat×Operand)).map fun (i,x)=>(i,(F fr ds).eval x)).toList=(vs.zipIdx 0).map fun p=>(p.2,p.1):=by
  simp only [Array.toList_map];exact t
 unfold execOp;simp only [Instr.buildSlice,Sem.run_bind,run_underlying l,Result.andThen_ok,r,if_neg s,u];by_cases k:len*1=0
 ·simp only [if_pos k,Sem.run_bind,Sem.run_pure,Result.andThen_ok];rw [f _ (by simp)];simp [newRow]
 ·simp only [if_neg k,Sem.run_bind,Sem.run_pure,Result.andThen_ok,q];rw [f _ (by simp)];simp [newRow]
theorem Sep.row {k:Nat}{v q:Value}{sz t:Nat}{xs u:List Value}{w':World}(f:Sep S Ed w0 w rs A) (g:Vb rs k (.row v T sz n xs)) (B:uc rs k (.row q T sz t u) rs') (F:Row w' q T sz t u)
  (p:Fh (fun b=>some b≠v.ownBlock) w w') (Wa:q.ownBlock=v.ownBlock∨∃ b,q.ownBlock=some b∧w.heap.size≤b):Sep S Ed w0 w' rs' A:=by
 unfold uc at B;subst B;have x:∀ b,v.ownBlock=some b→b ∈ blocks rs:=fun b d=>po (dx g) d;have y:∀ b ∈ blocks (rs.set k (.row q T sz t u)),(b ∈ blocks rs)∨(q.ownBlock=some b∧w.heap.size≤b):=by
  intro b d;obtain ⟨r,s,o⟩:=List.mem_filterMap.1 d;rcases List.mem_or_eq_of_mem_set s with hm | rfl
  ·exact .inl (po hm o)
  ·rcases Wa with Wa | ⟨c,hc,hle⟩
   ·exact .inl (x b (Wa ▸ o))
   ·have:c=b:=by simpa [mb.block,hc] using o
    subst this;exact .inr ⟨hc,hle⟩
 have G:∀ b ∈ blocks rs,b ∈ blocks (rs.set k (.row q T sz t u))∨v.ownBlock=some b:=by
  intro b d;obtain ⟨r,s,o⟩:=List.mem_filterMap.1 d;obtain ⟨j,z⟩:=List.mem_iff_getElem?.1 s;by_cases e:k=j
  ·subst e;unfold Vb at g;rw [g] at z;cases z;exact .inr o
  ·exact .inl (po (r:=r) (List.mem_of_getElem? (i:=j) (by rw [List.getElem?_set_ne e];exact z)) o)
 refine ⟨?_,?_,?_,?_,?_⟩
 ·refine ⟨p.os.trans f.keeps.os,p.tape.trans f.keeps.tape,p.output.trans f.keeps.output,Nat.le_trans f.keeps.size p.size,fun b d hs=>?_⟩;rw [p.ba b (Nat.lt_of_lt_of_le d f.keeps.size) (fun e=>by rcases f.new b (x b e.symm) with h | h;exact absurd d (by omega);exact h hs)];exact f.keeps.ba b d hs
 ·intro r2 H;obtain ⟨j,hm⟩:=List.mem_iff_getElem?.1 H;by_cases e:k=j
  ·subst e;have m:k<rs.length:=(List.getElem?_eq_some_iff.1 g).1;rw [List.getElem?_set_self m] at hm;cases hm;exact F
  ·rw [List.getElem?_set_ne e] at hm;refine holds_of (f.all r2 (List.mem_of_getElem? hm)) fun c hc=>p.ba c (f.lt (po (List.mem_of_getElem? hm) hc)) fun K=>?_;exact kB f.qi g hm e (b:=c) K.symm hc
 ·have Qa:=f.qi;have m:=fun b (d:b ∈ blocks rs)=>f.lt d;clear y G x;unfold Vb at g
  revert g Qa m
  generalize rs=l;unfold blocks;intro g Qa m
  induction l generalizing k with
  | nil=>simp at g
  | cons a l C =>
   cases k with
   | zero =>
    simp at g;subst g;simp only [List.set_cons_zero,List.filterMap_cons,mb.block] at Qa m ⊢;rcases Wa with Wa | ⟨c,hc,hle⟩
    ·rw [Wa];exact Qa
    ·rw [hc];cases d:v.ownBlock with
     | none =>
      rw [d] at Qa m;exact List.nodup_cons.2 ⟨fun hm=>by have:=m c hm;omega,Qa⟩
     | some b =>
      rw [d] at Qa m;exact List.nodup_cons.2 ⟨fun hm=>by have:=m c (List.mem_cons_of_mem _ hm);omega,(List.nodup_cons.1 Qa).2⟩
   | succ k =>
    simp at g;simp only [List.set_cons_succ,List.filterMap_cons] at Qa m ⊢;cases D:a.block with
    | none=>rw [D] at Qa m; exact C g Qa m
    | some c =>
     rw [D] at Qa m;simp only [List.nodup_cons] at Qa ⊢;refine ⟨fun hm=>?_,C g Qa.2 fun b d=>m b (List.mem_cons_of_mem _ d)⟩;obtain ⟨r,s,o⟩:=List.mem_filterMap.1 hm;rcases List.mem_or_eq_of_mem_set s with hm | rfl
     ·exact Qa.1 (List.mem_filterMap.2 ⟨r,hm,o⟩)
     ·rcases Wa with Wa | ⟨c',L,hle⟩
      ·exact Qa.1 (List.mem_filterMap.2 ⟨_,List.mem_of_getElem? g,by rw [← o];exact Wa.symm⟩)
      ·have:c'=c:=by simpa [mb.block,L] using o
       have:=m c (by simp);omega
 ·intro b d;rcases y b d with h | h
  ·exact f.new b h
  ·exact .inl (Nat.le_trans f.keeps.size h.2)
 ·intro M N O;refine f.Li M (Nat.le_trans p.size N) fun b d hs=>?_;rw [O b (Nat.lt_of_lt_of_le d p.size) ⟨hs.1,fun hm=>by rcases y b hm with h | h;exact hs.2 h;exact absurd d (by omega)⟩];exact p.ba b d fun e=>hs.2 (x b e.symm)
end
section
variable {P:Program}{Q:Exit→Act→World→Prop}{K:List Value→List Deferred→World→Prop}{fr ua:List Value}{ds:List Deferred}{w:World}
variable {dst:Option Tmp}{ty:TypeId}{pos:String}{after:Array Edge}{g:Option (Nat×Bool)}
variable {S Ed:Nat→Prop}{w0:World}{rs rs':List mb}{A:World→Prop}
variable {T:TypeId}{d:TypeDesc}{Hf:Bool}{xd:List Value}{n m:Nat}
theorem CE {t ty:TypeId}{sz bytes:Nat}(q:P.underlying t=some (.slice T)) (L:qc P T Hf xd sz bytes) (M:xd.length=sz) (hc:0<sz)
  {v:Value}{xs:List Value}(l:Row w v T sz n xs) {a:Addr}{m c:Nat}{news:List Value}(f:news.length=m*sz) (s:∀ j u,news[j]?=some u→w.cell? (a.add j)=some u) (N:∀ u ∈ news,u.oneCell'=true)
  (C:n+m≤maxLen) (D:(n+m)*bytes≤140737488355328) :
  ∃ r w',(Builtin.append_ #[t,t] ty #[v,.slice (some a) m c]).run P w=.ok r w'∧Row w' r T sz (n+m) (xs++news)∧Fh (fun b=>some b≠v.ownBlock) w w' ∧
   (r.ownBlock=v.ownBlock∨∃ b,r.ownBlock=some b∧w.heap.size≤b):=by
 obtain ⟨i,z,Pa,F,O,G,Q⟩:=L.inf;have R:z.cells.size=i.size:=by rw [O,G];simpa using M
 subst G;subst Q;have lc:n+m≤9223372036854775807:=by simp only [maxLen] at C;omega
 have hlen:(xs++news).length=(n+m)*i.size:=by rw [List.length_append,l.1,f,Nat.add_mul]
 have grown:∀ (d:Nat),d<n+m→∀ (row:Option Nat),
   Row (w.drew.alloc (.cells (xs.toArray++news.toArray++Builtin.zeroCells z.cells (grownCap w (n+m) d T - (n+m))) T)) (.slice (some ⟨w.heap.size,0,none⟩) (n+m) (grownCap w (n+m) d T)) T i.size (n+m) (xs++news) ∧
   Fh (fun b=>some b≠row) w (w.drew.alloc (.cells (xs.toArray++news.toArray++Builtin.zeroCells z.cells (grownCap w (n+m) d T - (n+m))) T)):=by
  intro d rc row;have S:=grownCap_ge w (n+m) d T;have x:grownCap w (n+m) d T≤maxLen:=grownCap_le_maxLen w (n+m) d T C;refine ⟨⟨hlen,.inr ⟨w.heap.size,0,_,_,rfl,heap_alloc_new w.drew _,S,x,?_,?_⟩⟩,⟨rfl,rfl,rfl,by simp,fun k y _=>heap_alloc_old w.drew _ k y⟩⟩
  ·simp only [Array.size_append,List.size_toArray,size_zeroCells,R,l.1,f,← Nat.add_mul,Nat.zero_add];exact Nat.mul_le_mul_right _ (by omega)
  ·simp only [Array.toList_append,List.append_assoc,List.drop_zero];rw [← List.append_assoc,← hlen];exact List.take_left
 rcases l.2 with ⟨rfl,rfl⟩ | ⟨g,o,cap,cur,rfl,A,fd,x,id,H⟩
 ·have U:xs=[]:=List.eq_nil_of_length_eq_zero (by simpa using l.1);subst U;by_cases hm:m=0
  ·subst hm;have W:news=[]:=List.eq_nil_of_length_eq_zero (by simpa using f);subst W;refine ⟨.slice none 0 0,w,?_,⟨by simp,.inl ⟨rfl,rfl⟩⟩,.refl w,.inl rfl⟩;simp [Builtin.append_,run_underlying q,sizeOf,typeInfo,Pa,Builtin.lenOf,Builtin.firstCells,loadCells,loadCellsFrom]
  ·have p:=run_append_nil (P:=P) w t ty T i z q Pa F a m c news f s (by omega) (by omega) (by have X:=D;simp only [Nat.zero_add] at X;omega);have h:=grown 0 (by omega) (Value.ownBlock (.slice none 0 0));simp only [Nat.zero_add,List.nil_append,Array.empty_append] at h ⊢;exact ⟨_,_,p,h.1,h.2,.inr ⟨_,rfl,Nat.le_refl _⟩⟩
 ·by_cases B:n+m≤cap
  ·have hmul:n*i.size+news.length≤cap*i.size:=by rw [f,← Nat.add_mul];exact Nat.mul_le_mul_right _ B
   have Y:o+n*i.size+news.length≤cur.size:=by omega
   have p:(Builtin.append_ #[t,t] ty #[.slice (some ⟨g,o,none⟩) n cap,.slice (some a) m c]).run P w =
     .ok (.slice (some ⟨g,o,none⟩) (n+m) cap) (w.setRow g (cur.toList.take (o+n*i.size)++news++cur.toList.drop (o+n*i.size+news.length)).toArray):=by
    have Z:=run_firstCells_some (P:=P) w i.size m a m c news f s;have K:=run_storeCells_at P g (o+n*i.size) T news 0 cur w A (by simpa using Y) N;simp only [Nat.add_zero] at K;simp [Builtin.append_,run_underlying q,sizeOf,typeInfo,Pa,Builtin.lenOf,B,Z,Oj,K]
   refine ⟨_,_,p,⟨hlen,.inr ⟨g,o,cap,_,rfl,setRow_heap w g cur _ T _ A,B,x,?_,?_⟩⟩,⟨rfl,rfl,rfl,by simp [World.setRow],fun k _ y=>setRow_other w g k _ (fun e=>y (by simp [Value.ownBlock,e]))⟩,.inl rfl⟩
   ·simp only [List.size_toArray,List.length_append,List.length_take,List.length_drop,Array.length_toList];omega
   ·rw [← hlen,← H];have ra:(cur.toList.take (o+n*i.size)).drop o=(cur.toList.drop o).take (n*i.size):=by
     rw [List.drop_take];congr 1;omega
    have gc:o≤(cur.toList.take (o+n*i.size)).length:=by simp;omega
    rw [List.append_assoc,List.drop_append_of_le_length gc,ra,← List.append_assoc];exact List.take_left
  ·have holds:∀ j u,xs[j]?=some u→w.cell? ((⟨g,o,none⟩:Addr).add j)=some u:=by
    intro j u hu;rw [Oj,cell_of_row w g (o+j) cur T (0,0) A];rw [← H,List.getElem?_take] at hu;split at hu
    ·rw [List.getElem?_drop] at hu;simpa using hu
    ·cases hu
   have p:=run_append_grow (P:=P) w t ty T i z q Pa F ⟨g,o,none⟩ n cap xs l.1 holds a m c news f s (by omega) (by omega) (growslice_fits (by omega) D);have h:=grown cap (by omega) (Value.ownBlock (.slice (some ⟨g,o,none⟩) n cap));exact ⟨_,_,p,h.1,h.2,.inr ⟨_,rfl,Nat.le_refl _⟩⟩
theorem Sep.Ph (h:Sep S Ed w0 w rs A) (T:TypeId) (sz:Nat):Sep S Ed w0 w (.row (.slice none 0 0) T sz 0 []::rs) A where
 keeps:=h.keeps
 all r a:=by
  rcases List.mem_cons.1 a with rfl | a
  ·exact ⟨by simp,.inl ⟨rfl,rfl⟩⟩
  ·exact h.all r a
 qi:=h.qi
 new:=h.new
 Li:=h.Li
theorem Rp {t:TypeId}{s x:Operand}{v:Value}{sz bytes k b o El c:Nat}{xs news:List Value}(m:P.underlying t=some (.slice T)) (p:qc P T Hf xd sz bytes) (e:(xd.length == sz && decide (0<sz))=true)
  (hs:cb fr s v) (q:cb fr x (.slice (some ⟨b,o,none⟩) El c)) (f:Sep S Ed w0 w rs A) (i:Vb rs k (.row v T sz n xs)) (r:gj w b o news) (hlen:news.length=El*sz) (y:news.all we=true)
  (l:n+El≤4294967296∧bytes≤4096)
  (h:∀ d w' rs',uc rs k (.row d T sz (n+El) (xs++news)) rs'→Sep S Ed w0 w' rs' A→hh fr dst d fun ua=>K ua ds w') :
  Kd P (Oper.mk dst (.call { callee:=.builtin .append,args:=#[s,x],argTypes:=#[t,t] }) ty pos after g) fr ds w K Q:=by
 simp only [Bool.and_eq_true,beq_iff_eq,decide_eq_true_eq] at e;have z:(n+El)*bytes≤140737488355328:=Nat.le_trans (Nat.mul_le_mul l.1 l.2) (by decide);obtain ⟨d,w',B,C,D,Wa⟩:=CE (P:=P) (ty:=ty) m p e.1 e.2 (f.get i) (a:=⟨b,o,none⟩) (c:=c) hlen (fun j u hu=>by rw [Oj];exact r j u hu) (fun u hu=>ow (List.all_eq_true.1 y u hu)) (by unfold maxLen;omega) z;obtain ⟨ua,Qa⟩:=Ji fr dst d;refine Qh (v:=d) (w':=w') ?_ Qa (h d w' _ rfl (f.row i rfl C D Wa) ua Qa);have ra:=hs ds;have F:=q ds;simp [execOp,resolve,invoke,builtin,ra,F,B]
inductive Ss (P:Program) (fr:List Value) (w:World):ResultVar→Value→Prop where
 | t {n:Nat} {v:Value} (h:Vb fr n v):Ss P fr w (.tmp n) v
 | c {n b o:Nat} {v:Value} {T:TypeId} {xd:List Value} {k m:Nat} (h:Vb fr n (.pointer (some ⟨b,o,none⟩))) (d:qc P T false xd k m) (hc:w.cell? ⟨b,o,none⟩=some v):Ss P fr w (.cell n T) v
 | a {n b o:Nat} {cs:List Value} {T:TypeId} {xd:List Value} {k m:Nat} (h:Vb fr n (.pointer (some ⟨b,o,none⟩))) (d:qc P T true xd k m) (hc:gj w b o cs) (e:cs.length=k):Ss P fr w (.cell n T) (.agg ⟨cs⟩)
inductive tc (P:Program) (fr:List Value) (w:World):List ResultVar→List Value→Prop where
 | z:tc P fr w [] []
 | s {r:ResultVar} {v:Value} {rs:List ResultVar} {vs:List Value} (h:Ss P fr w r v) (t:tc P fr w rs vs):tc P fr w (r::rs) (v::vs)
def Pr (tmps:Array Value):ResultVar→Sem Value
 | .tmp t=>pure (tmps.getD t undef)
 | .cell a t=>do loadVar t (← asAddr (tmps.getD a undef))
theorem pF (fn:Func) (tmps:Array Value):results fn tmps=(do
  let vs ← fn.results.mapM (Pr tmps)
  pure (if h:vs.size=1 then vs[0] else .tuple vs)):=by
 unfold results;congr 1
theorem Ss.run {r:ResultVar}{v:Value}(h:Ss P fr w r v):(Pr (F fr ds).tmps r).run P w=.ok v w:=by
 cases h with
 | t h=>unfold Vb at h; simp [Pr,F,h]
 | c h d hc=>unfold Vb at h; simp [Pr,F,h,asAddr,loadVar,d.isAgg,hc]
 | a h d hc f =>
  unfold Vb at h;rename_i n b o cs T xd k m;have e:=run_loadCells_list (P:=P) w ⟨b,o,none⟩ cs (fun j v g=>by rw [Oj];exact hc j v g);rw [f] at e;simp [Pr,F,h,asAddr,loadVar,d.isAgg,d.sizeOf,e]
theorem tc.run {rs:List ResultVar}{vs:List Value}(h:tc P fr w rs vs):(rs.mapM (Pr (F fr ds).tmps)).run P w=.ok vs w:=by
 induction h with
 | z=>simp
 | @s r v rs vs h _ a =>
  have b:=h.run (ds:=ds);simp only [List.mapM_cons,Sem.run_bind];rw [b];simp only [Result.andThen_ok];rw [a];simp
def Es:List Value→Value
 | [v]=>v
 | vs=>.tuple ⟨vs⟩
theorem lB {fn:Func}{a:List ResultVar}{vs:List Value}(b:fn.results=⟨a⟩) (h:tc P fr w a vs):(results fn (F fr ds).tmps).run P w=.ok (Es vs) w:=by
 have hm:=h.run (ds:=ds);rw [pF,b];rw [Array.mapM_eq_mapM_toList];simp only [Sem.run_bind,Sem.run_map,hm,Result.andThen_ok]
 match vs with
 | []=>simp [Es]
 | [v]=>simp [Es]
 | v::c::vs=>simp [Es]
theorem Uf {fn:Func}{R:Value→World→Prop}{a:List ResultVar}{vs:List Value}(b:fn.results=⟨a⟩) (Wa:tc P fr w a vs) (h:R (Es vs) w):dp P fn R .ret (F fr []) w :=
 bodyPost_ret (lB b Wa) rfl h
end
end Go.Ab
namespace Go.Ab
open Go.RowKit
section
variable {P:Program}{Q:Exit→Act→World→Prop}{K:List Value→List Deferred→World→Prop}{fr ua:List Value}{ds:List Deferred}{w:World}
variable {dst:Option Tmp}{ty:TypeId}{pos:String}{after:Array Edge}{g:Option (Nat×Bool)}
variable {S Ed:Nat→Prop}{w0:World}{rs rs':List mb}{A:World→Prop}
variable {T:TypeId}{d:TypeDesc}{Hf:Bool}{xd:List Value}{n m:Nat}
theorem Sep.ba {k b:Nat}{cs:List Value}(h:Sep S Ed w0 w rs A) (a:Vb rs k (.ba b T cs)):oi w b T cs:=h.get a
inductive vj:List Value→Nat→List Value→Prop where
 | z {cs:List Value} {o:Nat}:vj cs o []
 | s {cs:List Value} {o:Nat} {v:Value} {vs:List Value} (h:Vb cs o v) (t:vj cs (o+1) vs):vj cs o (v::vs)
theorem vj.at {cs:List Value}{o:Nat}{vs:List Value}(h:vj cs o vs):∀ j v,vs[j]?=some v→cs[o+j]?=some v:=by
 induction h with
 | z=>intro j v h; simp at h
 | @s o v vs h t b =>
  intro j u a;cases j with
  | zero=>simp at a; subst a; exact h
  | succ j=>have:=b j u (by simpa using a); rw [show o+(j+1)=o+1+j by omega]; exact this
theorem oi.Az {b o:Nat}{cs vs:List Value}(h:oi w b T cs) (hs:vj cs o vs):gj w b o vs:=fun j v a=>h.cell (hs.at j v a)
theorem ve {x y:Operand}{b o k:Nat}{v:Value}{cs a:List Value}(e:qc P T Hf xd 1 m) (f:cb fr x (.pointer (some ⟨b,o,none⟩))) (i:cb fr y v) (Wa:we v=true)
  (j:Sep S Ed w0 w rs A) {c:TypeId}(l:Vb rs k (.ba b c cs)) (hs:uc cs o v a) (d:(decide (o<cs.length))=true) (n:uc rs k (.ba b c a) rs')
  (Qa:Te fr dst undef ua) (h:∀ w',Sep S Ed w0 w' rs' A→K ua ds w'):Kd P (Oper.mk dst (.store T x y) ty pos after g) fr ds w K Q :=
 zz (vs:=[v]) e f i (Ty Wa) rfl (by simp [Wa]) j l (.s hs (of_decide_eq_true d) .z) (decide_eq_true (Nat.le_of_lt (of_decide_eq_true d))) n Qa h
structure uh (P:Program) (T:TypeId) (pl:Array (Nat×Nat)):Prop where
 out:∃ fs,P.underlying T=some (.struct fs)∧∀ w,((fs.mapM fun f=>do pure (f.offset,← Go.sizeOf f.type):Sem (Array (Nat×Nat))).run P w)=.ok pl w
theorem Gh {fs:Array Field}{pl:Array (Nat×Nat)}(hu:P.underlying T=some (.struct fs)) (h:∀ w,((fs.mapM fun f=>do pure (f.offset,← Go.sizeOf f.type):Sem (Array (Nat×Nat))).run P w)=.ok pl w):uh P T pl:=⟨fs,hu,h⟩
inductive Bb (fr:List Value) (pl:Array (Nat×Nat)):List Value→List (Nat×Operand)→List Value→Prop where
 | z {cs:List Value}:Bb fr pl cs [] cs
 | o {cs cs1 out:List Value} {i off:Nat} {x:Operand} {v:Value} {xs:List (Nat×Operand)} (Pa:pl[i]?=some (off,1)) (a:cb fr x v) (Wa:we v=true) (b:decide (off<cs.length)=true) (c:uc cs off v cs1) (t:Bb fr pl cs1 xs out):Bb fr pl cs ((i,x)::xs) out
 | n {cs cs1 out vs:List Value} {i off n:Nat} {x:Operand} {xs:List (Nat×Operand)} (Pa:pl[i]?=some (off,n)) (a:cb fr x (.agg ⟨vs⟩)) (d:vs.length=n) (b:decide (off+n≤cs.length)=true) (c:Th cs off vs cs1) (t:Bb fr pl cs1 xs out):Bb fr pl cs ((i,x)::xs) out
theorem kv:∀ (vs:List Value) (off j:Nat) (cs:List Value),off+j+vs.length≤cs.length →
  ((vs.zipIdx j).foldl (fun (cs:Array Value) (p:Value×Nat)=>cs.setIfInBounds (off+p.2) p.1) ⟨cs⟩)=⟨cs.take (off+j)++vs++cs.drop (off+j+vs.length)⟩
 | [],off,j,cs,_=>by simp
 | v::vs,off,j,cs,h=>by
  have a:off+j<cs.length:=by simp at h;omega
  rw [List.zipIdx_cons,List.foldl_cons];have Ib:(⟨cs⟩:Array Value).setIfInBounds (off+j) v=⟨cs.set (off+j) v⟩:=by simp
  simp only [Ib];rw [kv vs off (j+1) (cs.set (off+j) v) (by simp at h ⊢;omega)];have b:(cs.set (off+j) v).take (off+(j+1))=cs.take (off+j)++[v]:=by
   rw [show off+(j+1)=off+j+1 by omega,List.take_set,List.take_add_one,List.getElem?_eq_getElem a];rw [List.set_append_right _ _ (by simp;omega)];simp [Nat.min_eq_left (Nat.le_of_lt a)]
  have c:(cs.set (off+j) v).drop (off+(j+1)+vs.length)=cs.drop (off+j+(v::vs).length):=by
   rw [List.drop_set_of_lt (by omega)];congr 1;simp;omega
  rw [b,c];simp
theorem Bb.run {pl:Array (Nat×Nat)}{cs out:List Value}{xs:List (Nat×Operand)}(h:Bb fr pl cs xs out):Instr.fill (pl[·]?) ⟨cs⟩ (xs.map fun p=>(p.1,(F fr ds).eval p.2))=some ⟨out⟩:=by
 induction h with
 | z=>rfl
 | @o cs cs1 out i off x v xs Pa b Wa d a t e =>
  have f:=of_decide_eq_true d;simp only [List.map_cons,Instr.fill,Pa,b ds,Ty Wa];have Ib:¬ ((#[v].size≠1 || off+#[v].size > (⟨cs⟩:Array Value).size)=true):=by simp;omega
  rw [if_neg Ib];have ra:(#[v].zipIdx.foldl (fun cs (c,j)=>cs.setIfInBounds (off+j) c) (⟨cs⟩:Array Value))=⟨cs1⟩:=by
   unfold uc at a;subst a;simp [Array.zipIdx]
  rw [ra];exact e
 | @n cs cs1 out vs i off n x xs Pa b g d a t e =>
  have f:=of_decide_eq_true d;simp only [List.map_cons,Instr.fill,Pa,b ds];have Ib:¬ (((Value.agg ⟨vs⟩).cells.size≠n || off+(Value.agg ⟨vs⟩).cells.size > (⟨cs⟩:Array Value).size)=true):=by simp [Value.cells,g];omega
  rw [if_neg Ib];have ra:((Value.agg ⟨vs⟩).cells.zipIdx.foldl (fun cs (c,j)=>cs.setIfInBounds (off+j) c) (⟨cs⟩:Array Value))=⟨cs1⟩:=by
   have:=kv vs off 0 cs (by omega);rw [a.res (by omega)];simp only [Nat.add_zero] at this;rw [← this];rw [← Array.foldl_toList];simp [Value.cells]
  rw [ra];exact e
theorem Ve {pl:Array (Nat×Nat)}{xs:List (Nat×Operand)}{out:List Value}(a:qc P T Hf xd n m) (b:uh P T pl) (c:Bb fr pl xd xs out) (d:Te fr dst (.agg ⟨out⟩) ua) (h:K ua ds w) :
  Kd P (Oper.mk dst (.build T ⟨xs⟩) ty pos after g) fr ds w K Q:=by
 refine Qh (v:=.agg ⟨out⟩) (w':=w) ?_ d h;obtain ⟨z,e,hc⟩:=a.zero (w:=w);have f:=c.run (ds:=ds);obtain ⟨fs,j,k⟩:=b.out;have hm:=k w;have l:((⟨xs⟩:Array (Nat×Operand)).map fun (i,x)=>(i,(F fr ds).eval x)).toList=xs.map fun p=>(p.1,(F fr ds).eval p.2):=by simp
 unfold execOp;simp only [Instr.build,Sem.run_bind,e,Result.andThen_ok,run_underlying j];rw [hm];simp only [Result.andThen_ok,hc,l];rw [f];simp
theorem No {e:TypeId}{x:Operand}{cs:List Value}(k:P.underlying T=some (.slice e)) (j:qc P e Hf xd n m) (c:(xd.length == n && decide (0<n) && decide (n≤1000))=true) (l:cb fr x (.agg ⟨cs⟩)) (d:cs.length=n) (o:Sep S Ed w0 w rs A)
  (h:∀ b w',w.heap.size≤b→Sep S Ed w0 w' (.ba b e cs::rs) A→hh fr dst (.slice (some ⟨b,0,none⟩) 1 1) fun ua=>K ua ds w'):Kd P (Oper.mk dst (.buildSlice T 1 #[(0,x)]) ty pos after g) fr ds w K Q:=by
 obtain ⟨ua,Qa⟩:=Ji fr dst (.slice (some ⟨w.heap.size,0,none⟩) 1 1);refine Qh (v:=.slice (some ⟨w.heap.size,0,none⟩) 1 1) (w':=w.alloc (.cells ⟨cs⟩ e)) ?_ Qa (h _ _ (Nat.le_refl _) (o.alloc rfl (heap_alloc_new w _)) ua Qa);obtain ⟨z,p,hc⟩:=j.zero (w:=w);have q:=j.sizeOf (w:=w);simp only [Bool.and_eq_true,beq_iff_eq,decide_eq_true_eq] at c;have r:¬ (1*n > 2 ^ 24):=by have:=c.2;omega
 have s:¬ (1*n=0):=by have:=c.1.2;omega
 have t:∀ a:Array Value,a.size=n→Instr.fill (fun i=>some (i*n,n)) a [(0,Value.agg ⟨cs⟩)]=some ⟨cs⟩:=by
  intro a f;simp only [Instr.fill];have Ib:¬ (((Value.agg ⟨cs⟩).cells.size≠n || 0*n+(Value.agg ⟨cs⟩).cells.size > a.size)=true):=by simp [Value.cells,d,f]
  rw [if_neg Ib];congr 1;have u:=kv cs (0*n) 0 a.toList (by simp [d,f]);rw [← Array.foldl_toList];have ra:(Value.agg ⟨cs⟩).cells.zipIdx.toList=cs.zipIdx 0:=by simp [Value.cells]
  rw [ra];refine u.trans ?_;rw [List.drop_eq_nil_of_le (by simp [d,f])];simp
 have y:(#[(0,x)].map fun (i,x)=>(i,(F fr ds).eval x)).toList=[(0,Value.agg ⟨cs⟩)]:=by simp [l ds]
 unfold execOp;simp only [Instr.buildSlice,Sem.run_bind,run_underlying k,Result.andThen_ok,q,if_neg r,y,if_neg s,Sem.run_pure,p];rw [t _ (by simp)];simp [newRow]
end
theorem Sep.We {S Ed:Nat→Prop}{w0 w:World}{rs rs':List mb}{A:World→Prop}{k:Nat}{r:mb}(h:Sep S Ed w0 w (rs.set k r) A) (a:uc rs k r rs'):Sep S Ed w0 w rs' A:=by
 unfold uc at a;rw [← a];exact h
theorem Sep.drew {S Ed:Nat→Prop}{w0 w w':World}{rs:List mb}{A:World→Prop}(h:Sep S Ed w0 w rs A) (a:w'.heap=w.heap) (b:w'.os=w.os) (c:w'.tape=w.tape) (hu:w'.output=w.output):Sep S Ed w0 w' rs A :=
 h.grow ⟨b,c,hu,by rw [a];exact Nat.le_refl _,fun k _ _=>by rw [a]⟩
section
variable {P:Program}{Q:Exit→Act→World→Prop}{K:List Value→List Deferred→World→Prop}{fr ua:List Value}{ds:List Deferred}{w:World}
variable {dst:Option Tmp}{ty:TypeId}{pos:String}{after:Array Edge}{g:Option (Nat×Bool)}
variable {T:TypeId}
theorem gz (a b:ByteArray):(a == b)=true ↔ a=b:=by
 obtain ⟨x⟩:=a;obtain ⟨y⟩:=b;constructor
 ·intro h;have e:x=y:=by simpa using (show (x == y)=true from h)
  rw [e]
 ·intro h;cases h;show (x == x)=true;simp
structure Tn (P:Program) (m:Nat) (T:TypeId) (v a:Value) (b:Bool):Prop where
 out:∀ d w,m≤d→(Op.equalIn d T v a).run P w=.ok b w
theorem eq_int {k c:IntKind}{a b:Int}(hu:P.underlying T=some (.int k)):Tn P 1 T (.int c a) (.int c b) (decide (a=b)):=⟨fun d w Qa=>by
 cases d with
 | zero=>omega
 | succ d=>simp [Op.equalIn,run_underlying hu]; by_cases h:a=b <;> simp [h]⟩
theorem KJ {a b:List UInt8}(hu:P.underlying T=some .string):Tn P 1 T (S a) (S b) (decide (a=b)):=⟨fun d w Qa=>by
 cases d with
 | zero=>omega
 | succ d =>
  simp only [Op.equalIn,run_underlying hu,S,Sem.run_bind,Result.andThen_ok,Sem.run_pure];congr 1;rw [Bool.eq_iff_iff,gz];simp⟩
def Zm:List Bool→Bool
 | []=>true
 | [b]=>b
 | b::Jc=>b && Zm Jc
theorem Uv (b:Bool) (Jc:List Bool):Zm (b::Jc)=(b && Zm Jc):=by cases Jc<;>simp [Zm]
inductive Vl (P:Program) (m:Nat) (xs ys:List Value):List Field→List Bool→Prop where
 | z:Vl P m xs ys [] []
 | o {f : Field} {Vf : List Field} {v c : Value} {b : Bool} {Jc : List Bool} {T : TypeId} {off : Nat} {xd : List Value} {n k : Nat} (d : (f.name == "_") = false) (e : f.type = T) (g : f.offset = off) (h : qc P T false xd n k) (i : Vb xs off v) (j : Vb ys off c) (he : Tn P m T v c b) (t : Vl P m xs ys Vf Jc) : Vl P m xs ys (f :: Vf) (b :: Jc)
 | n {f : Field} {Vf : List Field} {vs a : List Value} {b : Bool} {Jc : List Bool} {T : TypeId} {off : Nat} {xd : List Value} {n k : Nat} (d : (f.name == "_") = false) (e : f.type = T) (g : f.offset = off) (h : qc P T true xd n k) (i : vj xs off vs) (j : vj ys off a) (l : vs.length = n) (p : a.length = n) (he : Tn P m T (.agg ⟨vs⟩) (.agg ⟨a⟩) b) (t : Vl P m xs ys Vf Jc) : Vl P m xs ys (f :: Vf) (b :: Jc)
structure gy (P:Program) (T:TypeId) (Vf:List Field):Prop where
 RA:P.underlying T=some (.struct ⟨Vf⟩)
 held:P.stoodInHeld T=false
 guard:P.eqGuardType P.depth T=false
theorem QB {xd:List Value}{n k off:Nat}{xs:List Value}{v:Value}(b:qc P T false xd n k) (a:Vb xs off v):(part T ⟨xs⟩ off).run P w=.ok v w:=by
 unfold Vb at a;simp [part,b.isAgg,a]
theorem vj.extract {cs vs:List Value}{o:Nat}(h:vj cs o vs):(cs.drop o).take vs.length=vs:=by
 induction h with
 | z=>simp
 | @s o v vs Wa t a =>
  unfold Vb at Wa;have b:o<cs.length:=(List.getElem?_eq_some_iff.1 Wa).1;rw [List.drop_eq_getElem_cons b,(List.getElem?_eq_some_iff.1 Wa).2];simp [a]
theorem RB {xd:List Value}{n k off:Nat}{xs vs:List Value}(a:qc P T true xd n k) (b:vj xs off vs) (c:vs.length=n):(part T ⟨xs⟩ off).run P w=.ok (.agg ⟨vs⟩) w:=by
 have:=b.extract;rw [c] at this;simp [part,a.isAgg,a.sizeOf,this]
theorem Vl.run {m:Nat}{xs ys:List Value}{Vf:List Field}{Jc:List Bool}(h:Vl P m xs ys Vf Jc) (d:Nat) (Qa:m≤d) :
  (forIn (⟨Vf⟩ : Array Field) ((none, ()) : Option Bool × Unit) (fun f _ => (if f.name ≠ "_" then do
     if !(← Op.equalIn d f.type (← part f.type ⟨xs⟩ f.offset) (← part f.type ⟨ys⟩ f.offset)) then pure (ForInStep.done (some false,())) else pure (ForInStep.yield (none,()))
    else pure (ForInStep.yield (none,())):Sem (ForInStep (Option Bool×Unit))))).run P w=.ok (if Zm Jc then (none,()) else (some false,())) w:=by
 induction h with
 | z=>simp [Zm]
 | @o f Vf v s b Jc T off xd n k e g i a j l he t c =>
  subst g; subst i;have p : f.name ≠ "_" := by simpa using e
  simp only [List.forIn_toArray] at c ⊢;rw [List.forIn_cons];simp only [ne_eq,p,not_false_eq_true,if_true,Sem.run_bind,QB a j,QB a l,Result.andThen_ok,he.out d w Qa];cases b with
  | true=>simpa [Uv] using c
  | false=>simp [Uv]
 | @n f Vf vs u b Jc T off xd n k e g i a j l q r he t c =>
  subst g; subst i;have p : f.name ≠ "_" := by simpa using e
  simp only [List.forIn_toArray] at c ⊢;rw [List.forIn_cons];simp only [ne_eq,p,not_false_eq_true,if_true,Sem.run_bind,RB a j q,RB a l r,Result.andThen_ok,he.out d w Qa];cases b with
  | true=>simpa [Uv] using c
  | false=>simp [Uv]
theorem LJ {m:Nat}{xs ys:List Value}{Vf:List Field}{Jc:List Bool}(a:gy P T Vf) (h:Vl P m xs ys Vf Jc):Tn P (m+1) T (.agg ⟨xs⟩) (.agg ⟨ys⟩) (Zm Jc):=⟨fun d w Qa=>by
 cases d with
 | zero=>omega
 | succ d =>
  have:=h.run (w:=w) d (by omega);simp only [Op.equalIn,Sem.run_bind,run_underlying a.RA,Result.andThen_ok];rw [show (program).run P w=.ok P w from rfl];simp only [Result.andThen_ok,a.held,Bool.false_eq_true,if_false,Sem.run_bind];rw [this];cases Zm Jc<;>rfl⟩
def HA (v:Value) (n:Nat):Prop:=∃ a c,v=.slice a n c
theorem fh {x:Operand}{t e:TypeId}{v:Value}{n:Nat}(b:P.underlying t=some (.slice e)) (d:cb fr x v) (Wa:HA v n):Qe P (Oper.mk dst (.call { callee:=.builtin .len,args:=#[x],argTypes:=#[t] }) ty pos after g) fr ((.int .i64 n)):=by
 obtain ⟨a,c,rfl⟩:=Wa;exact Ud b d
theorem Mz {x:Operand}{t e:TypeId}{v:Value}{n:Nat}(a:P.underlying t=some (.slice e)) (b:cb fr x v) (Wa:HA v n) (c:Te fr dst ((.int .i64 n)) ua) (h:K ua ds w):Kd P (Oper.mk dst (.call { callee:=.builtin .len,args:=#[x],argTypes:=#[t] }) ty pos after g) fr ds w K Q:=ta (fh a b Wa) c h
theorem Row.Rg {v:Value}{sz n:Nat}{xs:List Value}(h:Row w v T sz n xs):HA v n:=by
 rcases h.2 with ⟨rfl,rfl⟩ | ⟨g,o,cap,cur,rfl,-⟩
 ·exact ⟨_,_,rfl⟩
 ·exact ⟨_,_,rfl⟩
theorem Row.Mn {v:Value}{sz n:Nat}{xs:List Value}(h:Row w v T sz n xs) (f:0<n):∃ b o c,v=.slice (some ⟨b,o,none⟩) n c∧gj w b o xs:=by
 rcases h.2 with ⟨rfl,rfl⟩ | ⟨g,o,cap,cur,rfl,d,i,k,l,e⟩
 ·omega
 ·refine ⟨g,o,cap,rfl,fun j u a=>?_⟩;rw [cell_of_row w g (o+j) cur T (0,0) d];rw [← e,List.getElem?_take] at a;split at a
  ·rw [List.getElem?_drop] at a;simpa using a
  ·cases a
end
section
variable {P:Program}{Q:Exit→Act→World→Prop}{K:List Value→List Deferred→World→Prop}{fr ua:List Value}{ds:List Deferred}{w:World}
variable {dst:Option Tmp}{ty:TypeId}{pos:String}{after:Array Edge}{g:Option (Nat×Bool)}
variable {T:TypeId}
theorem eG {Vf:List Field}{op:BinOp}{x y:Operand}{xs ys:Array Value}(a:gy P T Vf):(eqGuard op T x y (.agg xs) (.agg ys)).run P w=.ok () w:=by
 have b:(program).run P w=.ok P w:=rfl;cases op<;>simp [eqGuard,b,a.guard]
theorem DL {x y:Operand}{Ob:TypeId}{m:Nat}{xs ys:List Value}{Vf:List Field}{Jc:List Bool}(a:gy P T Vf) (b:cb fr x (.agg ⟨xs⟩)) (c:cb fr y (.agg ⟨ys⟩)) (h:Vl P m xs ys Vf Jc) (hm:(decide (m<1000))=true) :
  Qe P (Oper.mk dst (.binOp .neq T x y Ob) ty pos after g) fr (.bool (!Zm Jc)):=⟨fun ds w=>by
 have d:=b ds;have e:=c ds;have f:=(LJ a h).out Op.maxDepth w (by have:=of_decide_eq_true hm;unfold Op.maxDepth;omega);have i:=eG (w:=w) (op:=.neq) (x:=x) (y:=y) (xs:=⟨xs⟩) (ys:=⟨ys⟩) a;simp [execOp,d,e,i,binOp,Op.equal,f]⟩
end
section
variable {P:Program}{Q:Exit→Act→World→Prop}{K:List Value→List Deferred→World→Prop}{fr ua:List Value}{ds:List Deferred}{w:World}
variable {dst:Option Tmp}{ty:TypeId}{pos:String}{after:Array Edge}{g:Option (Nat×Bool)}
variable {S Ed:Nat→Prop}{w0:World}{rs rs':List mb}{A:World→Prop}
variable {T:TypeId}
end
end Go.Ab
namespace Go.Ab
open Go.RowKit
theorem Ws {α β:Type}{f g:α→β}{xs:Array α}(h:∀ x ∈ xs,f x=g x):xs.map f=xs.map g:=Array.map_congr_left h
def Ck:Op→Bool
 | .select _ _=>false
 | _=>true
theorem execOp_congr {f g:Operand→Value}(o:Oper) (hs:Ck o.op=true) (h:∀ x ∈ o.op.operands,f x=g x):execOp f o=execOp g o:=by
 obtain ⟨dst,op,ty,pos,after,s⟩:=o;have hc:∀ c:Call,(∀ x ∈ c.operands,f x=g x)→resolve f c ty=resolve g c ty:=by
  intro c hc;have j:c.args.map f=c.args.map g:=Ws fun x d=>hc x (by simp [Call.operands,d]);unfold resolve;rw [j];obtain ⟨callee,args,tys⟩:=c;cases callee with
  | value x=>simp only; rw [hc x (by simp [Call.operands])]
  | invoke x m=>simp only; rw [hc x (by simp [Call.operands])]
  | builtin b=>rfl
 cases op<;>simp only [Op.operands,List.mem_toArray,List.mem_cons,List.not_mem_nil,or_false,forall_eq_or_imp,forall_eq,Array.mem_append,List.mem_map] at h<;>simp only [execOp]
 case build t kd =>
  have:(kd.map fun (i,x)=>(i,f x))=kd.map fun (i,x)=>(i,g x):=Ws fun p e=>by simp only;rw [h p.2 ⟨p,by simpa using e,rfl⟩]
  rw [this]
 case buildSlice t n kd =>
  have:(kd.map fun (i,x)=>(i,f x))=kd.map fun (i,x)=>(i,g x):=Ws fun p e=>by simp only;rw [h p.2 ⟨p,by simpa using e,rfl⟩]
  rw [this]
 case makeFunc fn a b =>
  rw [Ws (f:=f) (g:=g) (xs:=a) fun x d=>h x (.inl d),Ws (f:=f) (g:=g) (xs:=b) fun x d=>h x (.inr d)]
 case makeMap t r=>cases r with
  | none=>rfl
  | some x=>simp only [Option.map]; rw [h x (by simp)]
 case slice t x Ei Pa fg =>
  have d:=h x (by simp);have k:Ei.map f=Ei.map g:=by cases Ei with
   | none=>rfl
   | some y=>simp only [Option.map]; rw [h y (by simp)]
  have l:Pa.map f=Pa.map g:=by cases Pa with
   | none=>rfl
   | some y=>simp only [Option.map]; rw [h y (by simp)]
  have q:fg.map f=fg.map g:=by cases fg with
   | none=>rfl
   | some y=>simp only [Option.map]; rw [h y (by simp)]
  rw [d,k,l,q]
 case call c=>rw [hc c h]
 case go c=>rw [hc c h]
 case defer c=>rw [hc c h]
 case select cs b=>exact absurd hs (by simp [Ck])
 all_goals (try (simp only [h]))
def Yk (ops:Array Oper) (i:Nat):List Nat:=match ops[i]? with
 | some o=>(o.after.toList.filter (Region.binds .any)).map (·.on)
 | none=>[]
def enabled (ops:Array Oper) (R:List Nat) (i:Nat):Bool:=R.contains i && (Yk ops i).all fun j=>!R.contains j
inductive Wk (ops:Array Oper):List Nat→List Nat→Prop where
 | z:Wk ops [] []
 | s {R a:List Nat} {i:Nat} (h:enabled ops R i=true) (t:Wk ops (R.erase i) a):Wk ops R (i::a)
theorem Em {ops:Array Oper}{R:List Nat}{i:Nat}(h:enabled ops R i=true):i ∈ R:=by
 simp only [enabled,Bool.and_eq_true,List.contains_iff_mem] at h;exact h.1
theorem mB {ops:Array Oper}{R:List Nat}{i j:Nat}(h:enabled ops R i=true) (a:j ∈ Yk ops i):j ∉ R:=by
 simp only [enabled,Bool.and_eq_true,List.all_eq_true] at h;have:=h.2 j a;simpa using this
def left (n:Nat) (listed:Array Bool):List Nat:=(List.range n).filter fun i=>!listed.getD i true
theorem qF (n:Nat) (listed:Array Bool):(left n listed).Nodup:=List.nodup_range.filter _
theorem iC {n:Nat}{listed:Array Bool}(hs:listed.size=n){i:Nat}(Pa:i ∈ left n listed):left n (listed.setIfInBounds i true)=(left n listed).erase i:=by
 rw [(qF n listed).erase_eq_filter];unfold left;rw [List.filter_filter];apply List.filter_congr;intro j a;have c:j<n:=List.mem_range.1 a;have b:j<listed.size:=by omega
 simp only [Array.getD_eq_getD_getElem?,Array.getElem?_setIfInBounds];by_cases e:i=j
 ·subst e;simp [b]
 ·simp [e,Ne.symm e]
theorem iD {ops:Array Oper}{n:Nat}(a:(List.range n).all (fun i=>(Yk ops i).all fun j=>decide (j<i))=true){i j:Nat}(Pa:i<n) (b:j ∈ Yk ops i):j<i:=by
 simp only [List.all_eq_true,List.mem_range,decide_eq_true_eq] at a;exact a i Pa j b
theorem jD {ops:Array Oper}(o:(List.range ops.size).all (fun i=>(Yk ops i).all fun j=>decide (j<i))=true) :
  ∀ (fuel t:Nat) (listed:Array Bool) (acc:List Nat),listed.size=ops.size→(left ops.size listed).length≤fuel→∃ m,Region.linearise.go .any ops fuel t listed acc=acc.reverse++m∧Wk ops (left ops.size listed) m
 | 0,t,listed,acc,hs,u=>by
  have d:left ops.size listed=[]:=List.eq_nil_of_length_eq_zero (by omega);exact ⟨[],by simp [Region.linearise.go],by rw [d];exact .z⟩
 | fuel+1,t,listed,acc,hs,u=>by
  rw [Region.linearise.go];generalize v:(List.filter (fun i=>!listed.getD i true && (Option.map (fun x=>x.after.all fun e=>!Region.binds .any e || listed.getD e.on false) ops[i]?).getD false) (List.range ops.size))=rs;have p:∀ i,i ∈ rs ↔ enabled ops (left ops.size listed) i=true:=by
   intro i;rw [← v];simp only [List.mem_filter,List.mem_range,Bool.and_eq_true,enabled,List.contains_iff_mem,left,Yk];constructor
   ·rintro ⟨b,f,c⟩;refine ⟨⟨b,f⟩,?_⟩;rw [Array.getElem?_eq_getElem b] at c ⊢;simp only [Option.map_some,Option.getD_some,Array.all_eq_true',Bool.or_eq_true,Bool.not_eq_true'] at c;simp only [List.all_eq_true,List.mem_map,List.mem_filter,forall_exists_index,and_imp];rintro j e he g rfl;have:=c e (by simpa using he);rcases this with h | h
    ·rw [h] at g;cases g
    ·simp only [Bool.not_eq_true',List.contains_eq_mem,decide_eq_false_iff_not,List.mem_filter,List.mem_range,not_and,Bool.not_eq_true,Bool.not_eq_false];intro n;have q:e.on<listed.size:=by omega
     simp only [Array.getD,q,dif_pos] at h ⊢;exact h
   ·rintro ⟨⟨b,f⟩,c⟩;refine ⟨b,f,?_⟩;rw [Array.getElem?_eq_getElem b] at c ⊢;simp only [Option.map_some,Option.getD_some,Array.all_eq_true',Bool.or_eq_true,Bool.not_eq_true'];simp only [List.all_eq_true,List.mem_map,List.mem_filter,forall_exists_index,and_imp] at c;intro e he;cases g:Region.binds .any e with
    | false=>exact .inl rfl
    | true =>
     right;have:=c e.on e (by simpa using he) g rfl;simp only [Bool.not_eq_true',List.contains_eq_mem,decide_eq_false_iff_not,List.mem_filter,List.mem_range,not_and,Bool.not_eq_true,Bool.not_eq_false] at this;have n:e.on<i:=iD o b (by
      unfold Yk;rw [Array.getElem?_eq_getElem b];simp only [List.mem_map,List.mem_filter];exact ⟨e,⟨by simpa using he,g⟩,rfl⟩)
     have r:=this (by omega);have q:e.on<listed.size:=by omega
     simp only [Array.getD,q,dif_pos] at r ⊢;exact r
  by_cases d:left ops.size listed=[]
  ·have w:rs=[]:=by
    rw [List.eq_nil_iff_forall_not_mem];intro i Pa;have:=Em ((p i).1 Pa);rw [d] at this;cases this
   rw [w];simp only [List.length_nil,Nat.mod_zero,List.getElem?_nil];exact ⟨[],by simp,by rw [d];exact .z⟩
  ·-- the least of what is left may be next
   have y:0<rs.length:=by
    obtain ⟨i,Pa,A⟩:∃ i,i ∈ left ops.size listed∧∀ j,j<i→j ∉ left ops.size listed:=by
     obtain ⟨a,B⟩:=List.exists_mem_of_ne_nil _ d
     induction a using Nat.strongRecOn with
     | _ a C =>
      by_cases hex:∃ j,j<a∧j ∈ left ops.size listed
      ·obtain ⟨j,k,D⟩:=hex;exact C j k D
      ·exact ⟨a,B,fun j k hm=>hex ⟨j,k,hm⟩⟩
    have l:enabled ops (left ops.size listed) i=true:=by
     simp only [enabled,Bool.and_eq_true,List.contains_iff_mem,List.all_eq_true];refine ⟨Pa,fun j k=>?_⟩;have:=A j (iD o (List.mem_range.1 (List.mem_filter.1 Pa).1) k);simpa using this
    exact List.length_pos_of_mem ((p i).2 l)
   have n:t % rs.length<rs.length:=Nat.mod_lt _ y;rw [List.getElem?_eq_getElem n];simp only;have l:=(p _).1 (List.getElem_mem n);generalize rs[t % rs.length]=i at l ⊢;have Pa:=Em l;obtain ⟨m,b,f⟩:=jD o fuel (t / rs.length) (listed.setIfInBounds i true) (i::acc) (by simpa using hs) (by
    rw [iC hs Pa,List.length_erase_of_mem Pa];omega)
   refine ⟨i::m,?_,.s l ?_⟩
   ·rw [b];simp
   ·rw [← iC hs Pa];exact f
theorem DE {ops:Array Oper}(c:(List.range ops.size).all (fun i=>(Yk ops i).all fun j=>decide (j<i))=true) (t:Nat):Wk ops (List.range ops.size) (Region.linearise .any ops t):=by
 have a:left ops.size (Array.replicate ops.size false)=List.range ops.size:=by
  unfold left;rw [List.filter_eq_self];intro i Pa;have:=List.mem_range.1 Pa;simp [Array.getD,this]
 obtain ⟨e,d,b⟩:=jD c ops.size t (Array.replicate ops.size false) [] (by simp) (by rw [a];simp);unfold Region.linearise;rw [d];rw [a] at b;simpa using b
def Zp:Operand→Option Nat
 | .tmp t=>some t
 | _=>none
def reads (ops:Array Oper) (o:Oper):List Nat :=
 o.op.operands.toList.filterMap Zp++(match o.guard with
  | some (j,_)=>((ops[j]?).bind (·.dst)).toList
  | none=>[])
def quiet:Op→Bool
 | .move _ | .assign _ | .pick _ _ _ | .load _ _ | .fieldAddr _ _ _ | .indexAddr _ _ _ | .index _ _ _ | .field _ _ _ | .extract _ _=>true
 | _=>false
def apart (ops:Array Oper) (rd:Bool) (R:List Nat) (i:Nat):Bool :=
 match ops[i]? with
 | some o=>match o.dst,o.guard with
  | some d,none=>Ck o.op && R.all fun j=>j == i || (Yk ops j).contains i || (match ops[j]? with
    | some p=>Ck p.op && !(reads ops p).contains d && p.dst != some d && (match p.dst with | some e=>!(reads ops o).contains e | none=>true) && (!rd || quiet p.op)
    | none=>true)
  | _,_=>false
 | none=>false
def xb (P:Program){α:Type}(x:Sem α):Prop:=∀ w b w',x.run P w=.ok b w'→w'=w
section
variable {P:Program}{α β:Type}
theorem xb.pure (a:α):xb P (pure a:Sem α):=fun w b w' h=>by simp at h;exact h.2.symm
theorem xb.bind {x:Sem α}{f:α→Sem β}(h:xb P x) (k:∀ a,xb P (f a)):xb P (x >>= f):=fun w b w' c=>by
 rw [Sem.run_bind] at c;cases d:x.run P w with
 | ok a g =>
  rw [d] at c;have:=h w a g d;subst this;exact k a _ b w' c
 | halt e g=>rw [d] at c; cases c
theorem xb.stuck (s:String):xb P (Go.stuck s:Sem α):=fun w b w' h=>by simp [Go.stuck] at h
theorem xb.unsupported (u:Unsupported):xb P (Go.unsupported u:Sem α):=fun w b w' h=>by simp [Go.unsupported] at h
theorem xb.program:xb P Go.program:=fun w b w' h=>by simp at h;exact h.2.symm
theorem xb.load (a:Addr) (m:Mode):xb P (Go.load a m):=fun w b w' h=>by
 unfold Go.load Sem.run at h;split at h
 ·simp [Sem.run] at h;exact h.2.symm
 ·split at h
  ·simp [Sem.run] at h;exact h.2.symm
  ·cases h
theorem xb.shape (r:Nat):xb P (Go.shape r):=fun w b w' h=>by simp [Go.shape,Sem.run] at h;exact h.2.symm
theorem xb.getObj (r:Nat):xb P (Go.getObj r):=fun w b w' h=>by
 unfold Go.getObj Sem.run at h;split at h
 ·cases h
 ·simp [Sem.run] at h;exact h.2.symm
 ·cases h
def Xh (P:Program){α:Type}(x:Sem α):Prop:=∀ w b w',x.run P w≠.ok b w'
theorem Xh.ro {x:Sem α}(h:Xh P x):xb P x:=fun w b w' a=>absurd a (h w b w')
theorem Xh.bind {x:Sem α}{f:α→Sem β}(k:∀ a,Xh P (f a)):Xh P (x >>= f):=fun w b w' c=>by
 rw [Sem.run_bind] at c;cases d:x.run P w with
 | ok a g=>rw [d] at c; exact k a _ _ _ c
 | halt e g=>rw [d] at c; cases c
theorem Xh.goPanic (v:Value):Xh P (Go.goPanic v:Sem α):=fun w b w' h=>by simp [Go.goPanic] at h
theorem Xh.runtimePanic (e:RuntimeError):Xh P (Go.runtimePanic e:Sem α):=by
 unfold Go.runtimePanic;refine Xh.bind fun p=>?_;cases e<;>first | exact Xh.goPanic _ | exact Xh.bind fun _=>Xh.bind fun _=>Xh.goPanic _ | exact Xh.bind fun _=>Xh.goPanic _ | skip
 all_goals (simp only;first | exact Xh.goPanic _ | exact Xh.bind fun _=>Xh.bind fun _=>Xh.goPanic _)
theorem Xh.boundsPanic (k:IntKind) (x y:Int) (c:BoundsCode):Xh P (Go.boundsPanic k x y c:Sem α):=by
 unfold Go.boundsPanic;dsimp only;split<;>exact Xh.bind fun _=>Xh.runtimePanic _
theorem xb.underlying (t:TypeId):xb P (Go.underlying t):=by
 unfold Go.underlying;refine xb.bind xb.program fun p=>?_;split
 ·exact xb.pure _
 ·exact xb.stuck _
theorem xb.typeInfo (t:TypeId):xb P (Go.typeInfo t):=by
 unfold Go.typeInfo;refine xb.bind xb.program fun p=>?_;split
 ·exact xb.pure _
 ·exact xb.stuck _
theorem xb.sizeOf (t:TypeId):xb P (Go.sizeOf t):=by
 unfold Go.sizeOf;exact xb.bind (xb.typeInfo t) fun _=>xb.pure _
theorem xb.isAgg (t:TypeId):xb P (Go.isAgg t):=by
 unfold Go.isAgg;refine xb.bind (xb.underlying t) fun d=>?_;split<;>exact xb.pure _
theorem xb.loadCellsFrom (a:Addr):∀ (n i:Nat) (acc:Array Value),xb P (Go.loadCellsFrom a i n acc)
 | 0,_,_=>xb.pure _
 | n+1,i,_=>xb.bind (xb.load _ _) fun v=>xb.loadCellsFrom a n (i+1) _
theorem xb.loadVar (t:TypeId) (a:Addr):xb P (Go.loadVar t a):=by
 unfold Go.loadVar;refine xb.bind (xb.isAgg t) fun b=>?_;split
 ·exact xb.bind (xb.sizeOf t) fun n=>xb.bind (xb.loadCellsFrom a n 0 _) fun _=>xb.pure _
 ·exact xb.load _ _
theorem xb.part (t:TypeId) (cs:Array Value) (off:Nat):xb P (Go.part t cs off):=by
 unfold Go.part;refine xb.bind (xb.isAgg t) fun b=>?_;split
 ·exact xb.bind (xb.sizeOf t) fun n=>xb.pure _
 ·split
  ·exact xb.pure _
  ·exact xb.stuck _
theorem xb.viewAt (r:Nat):xb P (Go.viewAt r):=by
 unfold Go.viewAt;refine xb.bind (xb.shape r) fun s=>?_;split
 ·exact xb.pure _
 ·refine xb.bind (xb.getObj r) fun o=>?_;split<;>exact xb.pure _
theorem xb.byteOf (a:Addr):xb P (Go.byteOf a):=by
 unfold Go.byteOf;split
 ·exact xb.pure _
 ·refine xb.bind xb.program fun p=>?_;refine xb.bind (by
   unfold noView;refine xb.bind (xb.viewAt _) fun v=>?_;split
   ·exact xb.unsupported _
   ·exact xb.pure _) fun _=>?_
  refine xb.bind (xb.shape _) fun s=>?_;split
  ·dsimp only;split
   ·exact xb.pure _
   ·split
    ·exact xb.pure _
    ·exact xb.stuck _
  ·exact xb.stuck _
theorem xb.fieldPlace (a:Addr) (f:Field):xb P (Go.fieldPlace a f):=by
 unfold Go.fieldPlace;refine xb.bind (xb.sizeOf _) fun n=>?_;split
 ·unfold partAt;exact xb.bind (xb.byteOf a) fun b=>xb.bind (xb.byteOf _) fun _=>xb.pure _
 ·exact xb.pure _
theorem xb.asIntOf (v:Value):xb P (Go.asIntOf v):=by
 unfold Go.asIntOf;split
 ·exact xb.pure _
 ·exact xb.unsupported _
 ·exact xb.stuck _
theorem xb.sureAddr (v:Value):xb P (Instr.sureAddr v):=by
 unfold Instr.sureAddr;split
 ·exact xb.pure _
 ·exact xb.stuck _
theorem jr {f:Operand→Value}{o:Oper}{w w':World}{r:Next}(n:quiet o.op=true) (h:(execOp f o).run P w=.ok r w'):w'=w∧∃ v,r=.value v:=by
 have val:∀ {x:Sem Value},xb P x→(do pure (.value (← x)):Sem Next).run P w=.ok r w'→w'=w∧∃ v,r=.value v:=by
  clear h;intro x p g;rw [Sem.run_bind] at g;cases j:x.run P w with
  | ok v l =>
   rw [j] at g;have hw:=p w v l j;have q:Result.ok (Next.value v) l=Result.ok r w':=g;cases q;exact ⟨hw,v,rfl⟩
  | halt e l=>rw [j] at g; cases g
 obtain ⟨dst,op,ty,pos,after,s⟩:=o;cases op<;>simp only [quiet,Bool.false_eq_true] at n
 case move x=>simp [execOp] at h;exact ⟨h.2.symm,_,h.1.symm⟩
 case assign x=>simp [execOp] at h;exact ⟨h.2.symm,_,h.1.symm⟩
 case pick c a b =>
  refine val (x:=do pure (if ← asBool (f c) then f a else f b)) ?_ (by simpa [execOp] using h);refine xb.bind ?_ fun _=>xb.pure _;unfold asBool;split
  ·exact xb.pure _
  ·exact xb.stuck _
 case load t a=>exact val (x:=Instr.loadAt t (f a)) (xb.bind (xb.sureAddr _) fun _=>xb.loadVar _ _) h
 case fieldAddr t x i =>
  refine val (x:=Instr.fieldAt t (f x) i) ?_ h;unfold Instr.fieldAt;refine xb.bind (xb.underlying _) fun d=>?_;split
  ·split
   ·exact xb.bind (xb.sureAddr _) fun _=>xb.bind (xb.fieldPlace _ _) fun _=>xb.pure _
   ·exact xb.stuck _
  ·exact xb.stuck _
 case field t x i =>
  refine val (x:=Instr.field t (f x) i) ?_ h;unfold Instr.field;refine xb.bind (xb.underlying _) fun d=>?_;split
  ·split
   ·refine xb.bind ?_ fun _=>xb.part _ _ _;unfold asAgg;split
    ·exact xb.pure _
    ·exact xb.stuck _
   ·exact xb.stuck _
  ·exact xb.stuck _
 case extract x i =>
  refine val (x:=Instr.extract (f x) i) ?_ h;unfold Instr.extract;split
  ·split
   ·exact xb.pure _
   ·exact xb.stuck _
  ·exact xb.stuck _
 case index t x y =>
  refine val (x:=Instr.index t (f x) (f y)) ?_ h;unfold Instr.index;refine xb.bind (xb.asIntOf _) fun m=>?_;obtain ⟨k,i⟩:=m;refine xb.bind (xb.underlying _) fun d=>?_;split
  ·split
   ·exact xb.bind (xb.sizeOf _) fun _=>xb.part _ _ _
   ·exact (Xh.boundsPanic _ _ _ _).ro
  ·split
   ·exact xb.pure _
   ·exact (Xh.boundsPanic _ _ _ _).ro
  ·exact xb.stuck _
 case indexAddr t x y =>
  refine val (x:=Instr.indexAt t (f x) (f y)) ?_ h;unfold Instr.indexAt;refine xb.bind (xb.asIntOf _) fun m=>?_;obtain ⟨k,i⟩:=m;refine xb.bind (xb.underlying _) fun d=>?_;dsimp only;repeat' first
   | with_reducible exact xb.pure _
   | with_reducible exact xb.stuck _
   | with_reducible exact xb.unsupported _
   | with_reducible exact (Xh.boundsPanic _ _ _ _).ro
   | with_reducible refine xb.bind (xb.sureAddr _) fun _=>?_
   | with_reducible refine xb.bind (xb.underlying _) fun _=>?_
   | with_reducible refine xb.bind (xb.sizeOf _) fun _=>?_
   | with_reducible refine xb.bind (xb.pure _) fun _=>?_
   | with_reducible refine xb.bind (xb.stuck _) fun _=>?_
   | split
end
section
variable {P:Program}{Q:Exit→Act→World→Prop}{ops:Array Oper}{fr ua:List Value}{ds:List Deferred}{w:World}
theorem jC {fr:List Value}{ds ds':List Deferred}{d:Nat}{v:Value}{x:Operand}(h:Zp x≠some d):(F (fr.set d v) ds).eval x=(F fr ds').eval x:=by
 cases x with
 | tmp t =>
  have:d≠t:=fun e=>h (by simp [Zp,e]);simp [F,Act.eval,List.getElem?_set_ne this]
 | const v=>rfl
 | global g=>rfl
 | func f=>rfl
theorem pw {o:Oper}{d:Nat}(h:(reads ops o).contains d=false):∀ x ∈ o.op.operands,Zp x≠some d:=by
 intro x a e;have:d ∈ reads ops o:=by
  unfold reads;exact List.mem_append.2 (.inl (List.mem_filterMap.2 ⟨x,by simpa using a,e⟩))
 rw [List.contains_iff_mem.2 this] at h;cases h
theorem yr {o:Oper}{d:Nat}{v:Value}{ds':List Deferred}(hs:Ck o.op=true) (h:(reads ops o).contains d=false):execOp (F (fr.set d v) ds).eval o=execOp (F fr ds').eval o :=
 execOp_congr o hs fun x a=>jC (pw h x a)
theorem Hy {o:Oper}{d:Nat}{v:Value}{ds':List Deferred}(h:(reads ops o).contains d=false):Region.wanted o (yielded ops (F (fr.set d v) ds).tmps)=Region.wanted o (yielded ops (F fr ds').tmps):=by
 unfold Region.wanted;cases a:o.guard with
 | none=>rfl
 | some c =>
  obtain ⟨j,b⟩:=c;simp only;congr 1;unfold yielded;cases f:(ops[j]?).bind (·.dst) with
  | none=>rfl
  | some e =>
   have g:d≠e:=by
    intro he;have:d ∈ reads ops o:=by
     unfold reads;rw [a];exact List.mem_append.2 (.inr (by simp only;rw [f];simp [he]))
    rw [List.contains_iff_mem.2 this] at h;cases h
   simp [F,List.getElem?_set_ne g]
theorem put_eq (fr:List Value) (ds:List Deferred) (dst:Option Tmp) (x:Value):∃ g:List Value→List Value,(∀ fr ds,(F fr ds).put dst x=F (g fr) ds)∧(∀ (fr:List Value) (d:Nat) (v:Value),dst≠some d→g (fr.set d v)=(g fr).set d v)∧(∀ (fr:List Value) (y:Operand) (ds ds':List Deferred),(∀ e,dst=some e→Zp y≠some e)→(F (g fr) ds).eval y=(F fr ds').eval y):=by
 cases dst with
 | none=>exact ⟨id,fun _ _=>rfl,fun _ _ _ _=>rfl,fun fr y ds ds' _=>by cases y <;> rfl⟩
 | some n =>
  refine ⟨fun fr=>fr.set n x,fun fr ds=>ha rfl ds,fun fr d v h=>?_,fun fr y ds ds' h=>jC (h n rfl)⟩;have:d≠n:=fun e=>h (by rw [e]);exact List.set_comm _ _ this
def hi (Q:Exit→Act→World→Prop) (d:Nat):Prop:=∀ a (fr:List Value) (v:Value) (ds:List Deferred) w,Q (.panic a) (F (fr.set d v) ds) w→Q (.panic a) (F fr ds) w
theorem SA {rd:Bool}{i d:Nat}(q:hi Q d){o:Oper}{v:Value}(u:ops[i]?=some o) (Qa:o.dst=some d) (z:o.guard=none){w0:World} :
  ∀ (a b:List Nat) (fr:List Value) (ds:List Deferred) (w:World),
   (∀ j ∈ a,match ops[j]? with
    | some p=>Ck p.op=true∧(reads ops p).contains d=false∧p.dst≠some d∧(∀ e,p.dst=some e→(reads ops o).contains e=false)∧(rd=true→quiet p.op=true)
    | none=>True) →
   (rd=true→w=w0)→Ck o.op=true →
   (∀ ds w,(rd=true→w=w0)→(execOp (F fr ds).eval o).run P w=.ok (.value v) w) →
   wpOps P ops Q (a++b) (F (fr.set d v) ds) w→wpOps P ops Q (a++i::b) (F fr ds) w
 | [],b,fr,ds,w,_,hw,s,t,h=>by
  simp only [List.nil_append] at h ⊢;simp only [wpOps,u];rw [if_pos (by simp [Region.wanted,z])];left;unfold Oper.wp;rw [t ds w hw,Oper.upon_value,Qa];rw [show (F fr ds).put (some d) v=F (fr.set d v) ds from ha rfl ds];exact h
 | j::a,b,fr,ds,w,L,hw,s,t,h=>by
  have A:=L j (by simp);have M:∀ k ∈ a,_:=fun k c=>L k (by simp [c]);simp only [List.cons_append,wpOps] at h ⊢;cases N:ops[j]? with
  | none =>
   rw [N] at h;simp only at h ⊢;exact SA q u Qa z a b fr ds w M hw s t h
  | some p =>
   rw [N] at h A;simp only at h A ⊢;obtain ⟨O,B,S,T,C⟩:=A;rw [Hy (fr:=fr) (v:=v) (ds:=ds) (ds':=ds) B] at h;have key:∀ (x:Value) (w':World) (ds':List Deferred),(rd=true→w'=w0)→wpOps P ops Q (a++b) ((F (fr.set d v) ds').put p.dst x) w'→wpOps P ops Q (a++i::b) ((F fr ds').put p.dst x) w':=by
    intro x w' ds' l c;obtain ⟨g,g1,g2,g3⟩:=put_eq fr ds' p.dst x;rw [g1] at c ⊢;rw [g2 _ _ _ S] at c;refine SA q u Qa z a b (g fr) ds' w' M l s (fun m U W=>?_) c;rw [show execOp (F (g fr) m).eval o=execOp (F fr m).eval o from execOp_congr o s fun y X=>g3 fr y m m fun e he hs=>by
     exact pw (T e he) y X hs]
    exact t m U W
   by_cases R:Region.wanted p (yielded ops (F fr ds).tmps)=true
   ·rw [if_pos R] at h ⊢;rcases h with h | h
    ·left;unfold Oper.wp at h ⊢;rw [yr (ds':=ds) O B] at h;cases n:(execOp (F fr ds).eval p).run P w with
     | halt e w' =>
      rw [n] at h;cases e<;>first | exact h | exact q _ _ _ _ _ h
     | ok r w' =>
      rw [n] at h;have l:rd=true→w'=w0:=fun e=>(jr (C e) n).1.trans (hw e);cases r with
      | value x=>exact key x w' ds l h
      | skip=>exact key undef w' ds l h
      | defer Y=>exact key undef w' (Y::ds) l h
      | enter f args =>
       have D:rd=true→False:=fun e=>by obtain ⟨_,x,G⟩:=jr (C e) n;cases G
       rw [Oper.upon_enter] at h ⊢;refine Calls.mono h fun e H he=>?_;cases e with
       | returned x=>exact key x H ds (fun e=>(D e).elim) he
       | panicked Z=>exact q _ _ _ _ _ he
       | outgrown=>exact he
      | row r args =>
       have D:rd=true→False:=fun e=>by obtain ⟨_,x,G⟩:=jr (C e) n;cases G
       rw [Oper.upon_row] at h ⊢;exact Rows.mono h fun x H he=>key x H ds (fun e=>(D e).elim) he
      | _=>exact h
    ·right;refine ⟨?_,h.2⟩;have K:=h.1;unfold Oper.asks at K ⊢;rw [yr (ds':=ds) O B] at K;exact K
   ·rw [if_neg R] at h ⊢;exact key undef w ds hw h
structure Fi (P:Program) (ops:Array Oper) (Q:Exit→Act→World→Prop) (R:List Nat) (fr:List Value) (ds:List Deferred) (w:World):Prop where
 out:∀ a,Wk ops R a→wpOps P ops Q a (F fr ds) w
theorem kA {id:Nat}{l:List Oper}(hm:P.follows .mixedOrders=true) (a:(List.range l.toArray.size).all (fun i=>(Yk l.toArray i).all fun j=>decide (j<i))=true)
  (h:∀ w',w'.heap=w.heap→w'.os=w.os→w'.tape=w.tape→w'.output=w.output→Fi P l.toArray Q (List.range l.length) fr ds w'):te P (.region id l.toArray true) Q fr ds w:=by
 constructor;refine wp_region_draw fun t=>?_;have hs:Region.schedule (P.follows .mixedOrders) l.toArray t=Region.linearise .any l.toArray t:=by
  unfold Region.schedule;rw [hm];rfl
 rw [hs];have b:=DE a t;have:=(h { w with drawn:=w.drawn+1 } rfl rfl rfl rfl).out _ (by simpa using b);exact this
theorem MJ (h:Q .normal (F fr ds) w):Fi P ops Q [] fr ds w:=⟨fun b a=>by
 cases a with
 | z=>exact h
 | s h _=>exact absurd (Em h) (by simp)⟩
def Au (ops:Array Oper) (R:List Nat):List Nat:=R.filter (enabled ops R)
theorem NJ {R:List Nat}(d:R≠[]) (h:∀ i ∈ Au ops R,∃ o,ops[i]?=some o∧if Region.wanted o (yielded ops (F fr ds).tmps) then Kd P o fr ds w (Fi P ops Q (R.erase i)) Q else ∃ ua,Te fr o.dst undef ua∧Fi P ops Q (R.erase i) ua ds w):Fi P ops Q R fr ds w:=⟨fun e f=>by
 cases f with
 | z=>exact absurd rfl d
 | @s _ e i b c =>
  obtain ⟨o,g,Pa⟩:=h i (List.mem_filter.2 ⟨Em b,b⟩);simp only [wpOps,g];by_cases hw:Region.wanted o (yielded ops (F fr ds).tmps)=true
  ·rw [if_pos hw] at Pa ⊢;exact .inl (Pa.out _ fun ua ds' w' a=>a.out _ c)
  ·rw [if_neg hw] at Pa ⊢;obtain ⟨ua,Qa,a⟩:=Pa;exact Qa.rw (a.out _ c)⟩
theorem RM {R:List Nat}{i:Nat}{R':List Nat}{dst:Option Tmp}{op:Op}{ty:TypeId}{pos:String}{after:Array Edge}(b:Au ops R=[i]) (c:R.erase i=R') (d:ops[i]?=some ⟨dst,op,ty,pos,after,none⟩)
  (h:Kd P ⟨dst,op,ty,pos,after,none⟩ fr ds w (Fi P ops Q R') Q):Fi P ops Q R fr ds w :=
 NJ (by intro e;subst e;cases b) fun j a=>by
  rw [b] at a;simp at a;subst a;refine ⟨_,d,?_⟩;rw [if_pos (by simp [Region.wanted]),c];exact h
theorem Wk.split {R l:List Nat}(h:Wk ops R l) (n:R.Nodup){i:Nat}(Pa:i ∈ R) (o:enabled ops R i=true) :
  ∃ f m,l=f++i::m∧Wk ops (R.erase i) (f++m)∧∀ j ∈ f,j ∈ R∧j≠i∧i ∉ Yk ops j:=by
 induction h with
 | z=>cases Pa
 | @s R l k g t q =>
  by_cases e:k=i
  ·subst e;exact ⟨[],l,rfl,t,by simp⟩
  ·have p:i ∈ R.erase k:=(n.mem_erase_iff).2 ⟨fun h=>e h.symm,Pa⟩;have r:enabled ops (R.erase k) i=true:=by
    simp only [enabled,Bool.and_eq_true,List.contains_iff_mem,List.all_eq_true] at o ⊢;refine ⟨p,fun j d=>?_⟩;have:=o.2 j d;simp only [Bool.not_eq_true',List.contains_eq_mem,decide_eq_false_iff_not] at this ⊢;exact fun hm=>this (List.mem_of_mem_erase hm)
   obtain ⟨f,m,u,v,w⟩:=q (n.erase k) p r;refine ⟨k::f,m,by rw [u];rfl,?_,?_⟩
   ·refine .s ?_ (by rw [List.erase_comm];exact v);simp only [enabled,Bool.and_eq_true,List.contains_iff_mem,List.all_eq_true] at g ⊢;refine ⟨(n.mem_erase_iff).2 ⟨e,g.1⟩,fun j d=>?_⟩;have:=g.2 j d;simp only [Bool.not_eq_true',List.contains_eq_mem,decide_eq_false_iff_not] at this ⊢;exact fun hm=>this (List.mem_of_mem_erase hm)
   ·intro j d;rcases List.mem_cons.1 d with rfl | d
    ·exact ⟨Em g,e,fun Qa=>mB g Qa Pa⟩
    ·obtain ⟨a,b,c⟩:=w j d;exact ⟨List.mem_of_mem_erase a,b,c⟩
theorem SG {R R':List Nat}{i:Nat}{rd:Bool}{dst:Tmp}{op:Op}{ty:TypeId}{pos:String}{after:Array Edge}{v:Value}(o:hi Q dst) (k:(decide R.Nodup && enabled ops R i && apart ops rd R i)=true) (q:R.erase i=R') (l:ops[i]?=some ⟨some dst,op,ty,pos,after,none⟩)
  (Wa:∀ ds w',(rd=true→w'=w)→(execOp (F fr ds).eval ⟨some dst,op,ty,pos,after,none⟩).run P w'=.ok (.value v) w') (f:uc fr dst v ua) (h:Fi P ops Q R' ua ds w):Fi P ops Q R fr ds w:=⟨fun D r=>by
 simp only [Bool.and_eq_true,decide_eq_true_eq] at k;obtain ⟨⟨s,m⟩,g⟩:=k;obtain ⟨t,u,rfl,x,y⟩:=r.split s (Em m) m;unfold apart at g;simp only [l,Bool.and_eq_true,List.all_eq_true,Bool.or_eq_true,beq_iff_eq,List.contains_iff_mem] at g;unfold uc at f;subst f;subst q;refine SA o l rfl rfl (rd:=rd) (w0:=w) (v:=v) t u fr ds w (fun j z=>?_) (fun _=>rfl) g.1 Wa (h.out _ x);obtain ⟨a,b,c⟩:=y j z;have:=g.2 j a;rcases this with (h | h) | h
 ·exact absurd h b
 ·exact absurd h c
 ·cases f:ops[j]? with
  | none=>trivial
  | some p =>
   rw [f] at h;simp only [Bool.and_eq_true,Bool.not_eq_true',bne_iff_ne,ne_eq,Bool.or_eq_true] at h;obtain ⟨⟨⟨⟨A,B⟩,C⟩,n⟩,d⟩:=h;refine ⟨A,B,C,fun e he=>?_,fun e=>?_⟩
   ·rw [he] at n;simpa using n
   ·rcases d with d | d
    ·rw [e] at d;cases d
    ·exact d⟩
theorem Db {d:Nat}(h:∀ b a w,Q (.panic b) a w→False):hi Q d:=fun b fr v ds w c=>(h b _ w c).elim
theorem EL {R R':List Nat}{i:Nat}{dst:Tmp}{op:Op}{ty:TypeId}{pos:String}{after:Array Edge}{v:Value}(a:hi Q dst) (b:(decide R.Nodup && enabled ops R i && apart ops false R i)=true) (c:R.erase i=R') (d:ops[i]?=some ⟨some dst,op,ty,pos,after,none⟩)
  (Wa:Qe P ⟨some dst,op,ty,pos,after,none⟩ fr v) (e:uc fr dst v ua) (h:Fi P ops Q R' ua ds w):Fi P ops Q R fr ds w :=
 SG a b c d (fun ds w' _=>Wa.out ds w') e h
end
end Go.Ab
