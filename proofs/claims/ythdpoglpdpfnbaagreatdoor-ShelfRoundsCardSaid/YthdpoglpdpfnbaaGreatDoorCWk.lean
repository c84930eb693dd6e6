/- The shelf: texts of Wk. -/
import Derived.Tactics
import Derived.Defers
import Derived.Recover
import Derived.Lib.Strings
import Derived.Laws.Append
import Derived.Below
import Derived.Laws.AppendOwn
set_option linter.unusedSimpArgs false
set_option linter.unusedVariables false
set_option linter.unusedSectionVars false
namespace Go.vc
open Go.RowKit
def Bc {α:Type}(l:List α) (n:Nat) (v:α):Prop:=l[n]?=some v
def wc {α:Type}(l:List α) (n:Nat) (v:α) (a:List α):Prop:=l.set n v=a
theorem d0 {α:Type}{v:α}{l:List α}:Bc (v::l) 0 v:=rfl
theorem Aa {α:Type}{x v:α}{l:List α}:wc (x::l) 0 v (v::l):=rfl
theorem d1 {α:Type}{a0:α}{v:α}{l:List α}:Bc (a0::v::l) 1 v:=rfl
theorem La {α:Type}{a0:α}{x v:α}{l:List α}:wc (a0::x::l) 1 v (a0::v::l):=rfl
theorem d2 {α:Type}{a0 pa:α}{v:α}{l:List α}:Bc (a0::pa::v::l) 2 v:=rfl
theorem Va {α:Type}{a0 pa:α}{x v:α}{l:List α}:wc (a0::pa::x::l) 2 v (a0::pa::v::l):=rfl
theorem d3 {α:Type}{a0 pa a2:α}{v:α}{l:List α}:Bc (a0::pa::a2::v::l) 3 v:=rfl
theorem Db {α:Type}{a0 pa a2:α}{x v:α}{l:List α}:wc (a0::pa::a2::x::l) 3 v (a0::pa::a2::v::l):=rfl
theorem d4 {α:Type}{a0 pa a2 a3:α}{v:α}{l:List α}:Bc (a0::pa::a2::a3::v::l) 4 v:=rfl
theorem zb {α:Type}{a0 pa a2 a3:α}{x v:α}{l:List α}:wc (a0::pa::a2::a3::x::l) 4 v (a0::pa::a2::a3::v::l):=rfl
theorem d5 {α:Type}{a0 pa a2 a3 a4:α}{v:α}{l:List α}:Bc (a0::pa::a2::a3::a4::v::l) 5 v:=rfl
theorem fc {α:Type}{a0 pa a2 a3 a4:α}{x v:α}{l:List α}:wc (a0::pa::a2::a3::a4::x::l) 5 v (a0::pa::a2::a3::a4::v::l):=rfl
theorem d6 {α:Type}{a0 pa a2 a3 a4 a5:α}{v:α}{l:List α}:Bc (a0::pa::a2::a3::a4::a5::v::l) 6 v:=rfl
theorem ic {α:Type}{a0 pa a2 a3 a4 a5:α}{x v:α}{l:List α}:wc (a0::pa::a2::a3::a4::a5::x::l) 6 v (a0::pa::a2::a3::a4::a5::v::l):=rfl
theorem d7 {α:Type}{a0 pa a2 a3 a4 a5 dc:α}{v:α}{l:List α}:Bc (a0::pa::a2::a3::a4::a5::dc::v::l) 7 v:=rfl
theorem Ib {α:Type}{a0 pa a2 a3 a4 a5 dc:α}{x v:α}{l:List α}:wc (a0::pa::a2::a3::a4::a5::dc::x::l) 7 v (a0::pa::a2::a3::a4::a5::dc::v::l):=rfl
theorem d8 {α:Type}{a0 pa a2 a3 a4 a5 dc Gc:α}{v:α}{l:List α}:Bc (a0::pa::a2::a3::a4::a5::dc::Gc::v::l) 8 v:=rfl
theorem pc {α:Type}{a0 pa a2 a3 a4 a5 dc Gc:α}{x v:α}{l:List α}:wc (a0::pa::a2::a3::a4::a5::dc::Gc::x::l) 8 v (a0::pa::a2::a3::a4::a5::dc::Gc::v::l):=rfl
theorem d9 {α:Type}{a0 pa a2 a3 a4 a5 dc Gc mb:α}{v:α}{l:List α}:Bc (a0::pa::a2::a3::a4::a5::dc::Gc::mb::v::l) 9 v:=rfl
theorem tc {α:Type}{a0 pa a2 a3 a4 a5 dc Gc mb:α}{x v:α}{l:List α}:wc (a0::pa::a2::a3::a4::a5::dc::Gc::mb::x::l) 9 v (a0::pa::a2::a3::a4::a5::dc::Gc::mb::v::l):=rfl
def F (fr:List Value) (ds:List Deferred):Act:=⟨⟨fr⟩,ds⟩
def rb (fr:List Value) (x:Operand) (v:Value):Prop:=∀ ds,(F fr ds).eval x=v
theorem aa {fr:List Value}{n:Nat}{v:Value}(h:Bc fr n v):rb fr (.tmp n) v:=by
 intro ds;unfold Bc at h;simp [F,Act.eval,h]
theorem ya {fr:List Value}{v:Value}:rb fr (.const v) v:=fun _=>rfl
theorem sb {fr:List Value}{f:Nat}:rb fr (.func f) (.func (.func f) #[] #[]):=fun _=>rfl
def tf (fr:List Value) (dst:Option Tmp) (v:Value) (za:List Value):Prop:=∀ ds,(F fr ds).put dst v=F za ds
theorem Na {fr:List Value}{v:Value}:tf fr none v fr:=fun _=>rfl
theorem ha {fr za:List Value}{n:Nat}{v:Value}(h:wc fr n v za):tf fr (some n) v za:=by
 intro ds;unfold wc at h;subst h;simp [F,Act.put]
theorem tf.rw {fr za:List Value}{dst:Option Tmp}{v:Value}(h:tf fr dst v za){K:Act→World→Prop}{ds:List Deferred}{w:World}(k:K (F za ds) w):K ((F fr ds).put dst v) w:=by
 rw [h ds];exact k
def Ek (fr:List Value) (xs:List Operand) (vs:List Value):Prop:=∀ ds,xs.map (F fr ds).eval=vs
theorem Sa {fr:List Value}:Ek fr [] []:=fun _=>rfl
theorem ra {fr:List Value}{x:Operand}{v:Value}{xs:List Operand}{vs:List Value}(h:rb fr x v) (a:Ek fr xs vs):Ek fr (x::xs) (v::vs):=by
 intro ds;simp [h ds,a ds]
structure He (P:Program) (c:Code) (Q:Exit→Act→World→Prop) (fr:List Value) (ds:List Deferred) (w:World):Prop where
 out:c.wp P Q (F fr ds) w
structure Lf (P:Program) (ops:Array Oper) (Q:Exit→Act→World→Prop) (l:List Oper) (fr:List Value) (ds:List Deferred) (w:World):Prop where
 out:wpList P ops Q l (F fr ds) w
structure Pd (P:Program) (o:Oper) (fr:List Value) (ds:List Deferred) (w:World) (K:List Value→List Deferred→World→Prop) (Q:Exit→Act→World→Prop):Prop where
 out:∀ a:Act→World→Prop,(∀ fr ds w,K fr ds w→a (F fr ds) w)→o.wp P (F fr ds) w a Q
def Vm (P:Program) (c:Code) (Q:Exit→Act→World→Prop):Act→World→Prop:=fun a w=>∃ fr ds,a=F fr ds∧He P c Q fr ds w
section code
variable {P:Program}{Q:Exit→Act→World→Prop}{fr:List Value}{ds:List Deferred}{w:World}
theorem Ha {x y:Code}(h:He P x (Exit.then (Vm P y Q) Q) fr ds w):He P (.seq x y) Q fr ds w :=
 ⟨wp_seq (wp_mono h.out fun e a w b=>by
  cases e with
  | normal=>obtain ⟨fr,ds,rfl,h⟩:=b; exact h.out
  | exit id=>exact b
  | goto l=>exact b
  | ret=>exact b
  | panic c=>exact b
  | outgrown=>exact b)⟩
theorem Qa {id:Nat}{l:List Oper}(h:Lf P l.toArray Q l fr ds w):He P (.region id l.toArray false) Q fr ds w:=⟨wp_region_lit h.out⟩
theorem Pa (h:Q .normal (F fr ds) w):He P .skip Q fr ds w:=⟨wp_skip h⟩
theorem fb (h:Q .ret (F fr ds) w):He P .ret Q fr ds w:=⟨wp_ret h⟩
theorem fe {id:Nat}(h:Q (.exit id) (F fr ds) w):He P (.exit id) Q fr ds w:=⟨wp_exit h⟩
theorem yb {id:Nat}{c:Code}(h:He P c (Exit.inBlock id Q) fr ds w):He P (.block id c) Q fr ds w:=⟨wp_block h.out⟩
theorem wz {c:Operand}{x y:Code}{b:Bool}(hc:rb fr c (.bool b)) (a:b=true→He P x Q fr ds w) (d:b=false→He P y Q fr ds w) :
  He P (.cond c x y) Q fr ds w:=⟨wp_cond_split (hc ds) (fun h=>(a h).out) fun h=>(d h).out⟩
theorem Ub {c:Operand}{x y:Code}{p:Prop}[Decidable p] (hc:rb fr c (.bool (decide p))) (a:p→He P x Q fr ds w) (b:¬ p→He P y Q fr ds w) :
  He P (.cond c x y) Q fr ds w:=wz hc (fun h=>a (of_decide_eq_true h)) (fun h=>b (of_decide_eq_false h))
theorem fI {c:Operand}{x y:Code}{p:Prop}[Decidable p] (hc:rb fr c (.bool (decide p))) (a:p) (b:He P x Q fr ds w):He P (.cond c x y) Q fr ds w:=Ub hc (fun _=>b) fun h=>absurd a h
theorem gI {c:Operand}{x y:Code}{p:Prop}[Decidable p] (hc:rb fr c (.bool (decide p))) (a:¬ p) (b:He P y Q fr ds w):He P (.cond c x y) Q fr ds w:=Ub hc (fun h=>absurd h a) fun _=>b
theorem sl {c:Operand}{x y:Code}(hc:rb fr c (.bool true)) (a:He P x Q fr ds w):He P (.cond c x y) Q fr ds w:=⟨wp_cond_true (hc ds) a.out⟩
theorem tl {c:Operand}{x y:Code}(hc:rb fr c (.bool false)) (a:He P y Q fr ds w):He P (.cond c x y) Q fr ds w:=⟨wp_cond_false (hc ds) a.out⟩
theorem oa {c:Code}{Q':Exit→Act→World→Prop}(h:He P c Q' fr ds w):Exit.then (Vm P c Q') Q .normal (F fr ds) w:=⟨fr,ds,rfl,h⟩
theorem Da {n:Act→World→Prop}{a:Act}(h:n a w):Exit.then n Q .normal a w:=h
theorem mc {n:Act→World→Prop}{a:Act}{id:Nat}(h:Q (.exit id) a w):Exit.then n Q (.exit id) a w:=h
theorem Xc {n:Act→World→Prop}{a:Act}(h:Q .ret a w):Exit.then n Q .ret a w:=h
theorem Rb {a:Act}{id:Nat}(h:Q .normal a w):Exit.inBlock id Q .normal a w:=h
theorem Qd {a:Act}{id:Nat}(h:Q .ret a w):Exit.inBlock id Q .ret a w:=h
theorem je {a:Act}{id:Nat}(h:Q .normal a w):Exit.inBlock id Q (.exit id) a w:=by simpa [Exit.inBlock] using h
theorem HC {a:Act}{id j:Nat}(b:(j == id)=false) (h:Q (.exit j) a w):Exit.inBlock id Q (.exit j) a w:=by
 have:¬ j=id:=by simpa using b
 simpa [Exit.inBlock,this] using h
inductive Ab where
 | k
 | o (n:Nat)
 | i (v:Value)
def ni (t:Nat→Value):List Ab→List Value→List Value
 | [],fr=>fr
 | _::_,[]=>[]
 | .k::ms,a::fr=>a::ni t ms fr
 | .o n::ms,_::fr=>t n::ni t ms fr
 | .i v::ms,_::fr=>v::ni t ms fr
def bf (t:Nat→Value) (ms:List Ab) (fr za:List Value):Prop:=ni t ms fr=za
theorem Pb {t:Nat→Value}{l:List Value}:bf t [] l l:=rfl
theorem mk {t:Nat→Value}{ms:List Ab}{a:Value}{l b:List Value}(h:bf t ms l b):bf t (.k::ms) (a::l) (a::b):=by unfold bf at *;rw [ni,h]
theorem Lc {t:Nat→Value}{ms:List Ab}{n:Nat}{a:Value}{l b:List Value}(h:bf t ms l b):bf t (.o n::ms) (a::l) (t n::b):=by unfold bf at *;rw [ni,h]
theorem Mc {t:Nat→Value}{ms:List Ab}{v a:Value}{l b:List Value}(h:bf t ms l b):bf t (.i v::ms) (a::l) (v::b):=by unfold bf at *;rw [ni,h]
theorem xd {t:Nat→Value}{ms:List Ab}{a b:List Value}(e:bf t ms a b) (h:Q .normal (F b ds) w):Q .normal (F (ni t ms a) ds) w:=by rw [show ni t ms a=b from e];exact h
theorem Be {c:Code}{t:Nat→Value}{ms:List Ab}{a b:List Value}(e:bf t ms a b) (h:He P c Q b ds w):He P c Q (ni t ms a) ds w:=by rw [show ni t ms a=b from e];exact h
inductive Ke:List Ab→List Value→List Value→Prop where
 | z {l:List Value}:Ke [] l l
 | k {ms:List Ab} {a:Value} {l c:List Value} (h:Ke ms l c):Ke (.k::ms) (a::l) (a::c)
 | o {ms:List Ab} {n:Nat} {a b:Value} {l c:List Value} (h:Ke ms l c):Ke (.o n::ms) (a::l) (b::c)
 | i {ms:List Ab} {v a:Value} {l c:List Value} (h:Ke ms l c):Ke (.i v::ms) (a::l) (v::c)
def opens:List Ab→List Nat
 | []=>[]
 | .o n::ms=>n::opens ms
 | .k::ms=>opens ms
 | .i _::ms=>opens ms
theorem Tt {t t':Nat→Value}:∀ (ms:List Ab) (fr:List Value),(∀ n ∈ opens ms,t n=t' n)→ni t ms fr=ni t' ms fr
 | [],_,_=>rfl
 | _::_,[],_=>rfl
 | .k::ms,a::fr,h=>by rw [ni,ni,Tt ms fr h]
 | .o n::ms,a::fr,h=>by rw [ni,ni,Tt ms fr fun m hm=>h m (by simp [opens,hm]),h n (by simp [opens])]
 | .i v::ms,a::fr,h=>by rw [ni,ni,Tt ms fr h]
theorem Ke.ex {ms:List Ab}{fr za:List Value}(h:Ke ms fr za) (c:(opens ms).Nodup):∃ t,za=ni t ms fr:=by
 induction h with
 | z=>exact ⟨fun _=>undef,rfl⟩
 | k _ d=>obtain ⟨t,rfl⟩:=d c; exact ⟨t,rfl⟩
 | @o ms n a b l f _ d =>
  simp only [opens,List.nodup_cons] at c;obtain ⟨t,rfl⟩:=d c.2;refine ⟨fun m=>if m=n then b else t m,?_⟩;rw [ni,if_pos rfl];congr 1;refine Tt _ _ fun m hm=>?_;exact (if_neg (fun e:m=n=>c.1 (by rw [← e];exact hm))).symm
 | i _ d=>obtain ⟨t,rfl⟩:=d c; exact ⟨t,rfl⟩
theorem hI {c:Code}{α:Type}(T:List Nat) (m:T.Nodup) (u:α→List Ab) (hu:∀ x,opens (u x)=T) (i:α→World→Prop) (j:α→World→Nat) (x0:α) (o:Ke (u x0) fr fr) (p:i x0 w)
  (round:∀ x t w,i x w→He P c (Exit.then (fun a' w'=>∃ g za,a'=F za ds∧Ke (u g) fr za∧i g w'∧j g w'<j x w) Q) (ni t (u x) fr) ds w) :
  He P (.loop c) Q fr ds w:=by
 constructor;intro b k cs;have key:∀ n x t w,j x w=n→i x w →
   ∃ e a' w',Q e a' w'∧Arrives P (lone (b.at (F (ni t (u x) fr) ds) (.code c::.inLoop c::k)) cs w) b k cs e a' w':=by
  intro n
  induction n using Nat.strongRecOn with
  | _ n q =>
   intro x t w r s;obtain ⟨e,h,f,d,a⟩:=(round x t w s).out b (.inLoop c::k) cs;cases e with
   | normal =>
    obtain ⟨g,za,rfl,v,y,z⟩:=d;obtain ⟨t',A⟩:=v.ex (by rw [hu];exact m);obtain ⟨B,C,D,E,G⟩:=q (j g f) (r ▸ z) g t' f rfl y;rw [A] at a;exact ⟨B,C,D,E,.of_steps (Steps.trans a (.one step_inLoop)) G⟩
   | exit id=>exact ⟨_,h,f,d,.pass (x:=.inLoop c) rfl (fun _ _=>.inl (by simp)) a⟩
   | goto l=>exact ⟨_,h,f,d,.pass (x:=.inLoop c) rfl (fun _ _=>.inl (by simp)) a⟩
   | ret=>exact ⟨_,h,f,d,.pass (x:=.inLoop c) rfl (fun _ _=>.inl (by simp)) a⟩
   | panic K=>exact ⟨_,h,f,d,.pass (x:=.inLoop c) rfl (fun _ _=>.inl (by simp)) a⟩
   | outgrown=>exact ⟨_,h,f,d,.pass (x:=.inLoop c) rfl (fun _ _=>.inl (by simp)) a⟩
 obtain ⟨t0,H⟩:=o.ex (by rw [hu];exact m);obtain ⟨e,a',w',d,a⟩:=key _ x0 t0 w rfl p;rw [← H] at a;exact ⟨e,a',w',d,.of_steps (.one step_loop) a⟩
theorem He.mono {c:Code}{Q':Exit→Act→World→Prop}(h:He P c Q fr ds w) (b:∀ e a w,Q e a w→Q' e a w):He P c Q' fr ds w:=⟨wp_mono h.out b⟩
theorem tE {R Rd:Act→World→Prop}(h:∀ a w,R a w→Rd a w):∀ e a w,Exit.then R Q e a w→Exit.then Rd Q e a w:=fun e a w b=>by
 cases e with
 | normal=>exact h a w b
 | exit id=>exact b
 | goto l=>exact b
 | ret=>exact b
 | panic c=>exact b
 | outgrown=>exact b
theorem wc.same {α:Type}{l:List α}{n:Nat}{v:α}{a:List α}(h:Bc l n v) (b:wc l n v a):a=l:=by
 unfold Bc at h;unfold wc at b;subst b;obtain ⟨c,rfl⟩:=List.getElem?_eq_some_iff.1 h;exact List.set_getElem_self c
theorem xz {ops:Array Oper}{l:List Oper}{Yg Zg:List Value}{d:Nat}{b:Bool}(a:Bc fr d (.bool b)) (c:wc fr d (.bool true) Yg) (e:wc fr d (.bool false) Zg)
  (f:b=true→Lf P ops Q l Yg ds w) (g:b=false→Lf P ops Q l Zg ds w):Lf P ops Q l fr ds w:=by
 cases b with
 | true=>have:=f rfl; rw [wc.same a c] at this; exact this
 | false=>have:=g rfl; rw [wc.same a e] at this; exact this
theorem Qf {ops:Array Oper}{l:List Oper}{Yg Zg:List Value}{d:Nat}{p:Prop}[Decidable p] (a:Bc fr d (.bool (decide p))) (b:wc fr d (.bool true) Yg) (c:wc fr d (.bool false) Zg)
  (e:p→Lf P ops Q l Yg ds w) (f:¬ p→Lf P ops Q l Zg ds w):Lf P ops Q l fr ds w :=
 xz a b c (fun h=>e (of_decide_eq_true h)) (fun h=>f (of_decide_eq_false h))
end code
end Go.vc
namespace Go.vc
open Go.RowKit
def S (l:List UInt8):Value:=.string ⟨⟨l⟩⟩
section
variable {P:Program}{Q:Exit→Act→World→Prop}{K:List Value→List Deferred→World→Prop}{fr za:List Value}{ds:List Deferred}{w:World}{ops:Array Oper}{rest:List Oper}
variable {dst:Option Tmp}{op:Op}{ty:TypeId}{pos:String}{after:Array Edge}{g:Option (Nat×Bool)}
theorem Ka (h:Q .normal (F fr ds) w):Lf P ops Q [] fr ds w:=⟨h⟩
theorem wl (h:Pd P ⟨dst,op,ty,pos,after,none⟩ fr ds w (Lf P ops Q rest) Q):Lf P ops Q (⟨dst,op,ty,pos,after,none⟩::rest) fr ds w:=by
 constructor;unfold wpList;rw [if_pos (by simp [Region.wanted])];exact .inl (h.out _ fun _ _ _ k=>k.out)
theorem Qc {j d:Nat}{b:Bool}(c:(ops[j]?).bind (·.dst)=some d) (a:Bc fr d (.bool b)) (h:Pd P ⟨dst,op,ty,pos,after,some (j,b)⟩ fr ds w (Lf P ops Q rest) Q) :
  Lf P ops Q (⟨dst,op,ty,pos,after,some (j,b)⟩::rest) fr ds w:=by
 constructor;unfold wpList;rw [if_pos (by
  unfold Bc at a;simp only [Region.wanted,yielded,c,F];simp [a])]
 exact .inl (h.out _ fun _ _ _ k=>k.out)
theorem wn {j d:Nat}{b b':Bool}(c:(ops[j]?).bind (·.dst)=some d) (a:Bc fr d (.bool b')) (e:(b' == b)=false) (f:tf fr dst undef za) (h:Lf P ops Q rest za ds w) :
  Lf P ops Q (⟨dst,op,ty,pos,after,some (j,b)⟩::rest) fr ds w:=by
 constructor;unfold wpList;rw [if_neg (by
  unfold Bc at a;simp only [Region.wanted,yielded,c,F];simp [a];simpa using e)]
 exact f.rw h.out
theorem bs {j d:Nat}{b:Bool}(c:(ops[j]?).bind (·.dst)=some d) (a:Bc fr d undef) (e:tf fr dst undef za) (h:Lf P ops Q rest za ds w) :
  Lf P ops Q (⟨dst,op,ty,pos,after,some (j,b)⟩::rest) fr ds w:=by
 constructor;unfold wpList;rw [if_neg (by
  unfold Bc at a;simp only [Region.wanted,yielded,c,F];simp [a,undef])]
 exact e.rw h.out
theorem eh {o:Oper}{v:Value}{w':World}(a:(execOp (F fr ds).eval o).run P w=.ok (.value v) w') (b:tf fr o.dst v za) (h:K za ds w'):Pd P o fr ds w K Q:=by
 constructor;intro d c;unfold Oper.wp;rw [a,Oper.upon_value];exact b.rw (c _ _ _ h)
theorem Yy {o:Oper}{w':World}(a:(execOp (F fr ds).eval o).run P w=.ok .skip w') (b:tf fr o.dst undef za) (h:K za ds w'):Pd P o fr ds w K Q:=by
 constructor;intro d c;unfold Oper.wp;rw [a,Oper.upon_skip];exact b.rw (c _ _ _ h)
structure ef (P:Program) (o:Oper) (fr:List Value) (v:Value):Prop where
 out:∀ ds w,(execOp (F fr ds).eval o).run P w=.ok (.value v) w
theorem xa {o:Oper}{v:Value}(hu:ef P o fr v) (a:tf fr o.dst v za) (h:K za ds w):Pd P o fr ds w K Q:=eh (hu.out ds w) a h
theorem Ni {x:Operand}{v:Value}(a:rb fr x v):ef P (Oper.mk dst (.move x) ty pos after g) fr (v):=⟨fun ds w=>by simp [execOp,a ds]⟩
theorem uh {x:Operand}{v:Value}(a:rb fr x v) (b:tf fr dst (v) za) (h:K za ds w):Pd P (Oper.mk dst (.move x) ty pos after g) fr ds w K Q:=xa (Ni a) b h
theorem mx {x:Operand}{v:Value}(a:rb fr x v):ef P (Oper.mk dst (.assign x) ty pos after g) fr (v):=⟨fun ds w=>by simp [execOp,a ds]⟩
theorem Ti {x:Operand}{v:Value}(a:rb fr x v) (b:tf fr dst (v) za) (h:K za ds w):Pd P (Oper.mk dst (.assign x) ty pos after g) fr ds w K Q:=xa (mx a) b h
theorem Nx {c x y:Operand}{v:Value}(hc:rb fr c (.bool true)) (a:rb fr x v):ef P (Oper.mk dst (.pick c x y) ty pos after g) fr (v):=⟨fun ds w=>by simp [execOp,a ds,hc ds,asBool]⟩
theorem LF {c x y:Operand}{v:Value}(hc:rb fr c (.bool true)) (a:rb fr x v) (b:tf fr dst (v) za) (h:K za ds w):Pd P (Oper.mk dst (.pick c x y) ty pos after g) fr ds w K Q:=xa (Nx hc a) b h
theorem gB {c x y:Operand}{v:Value}(hc:rb fr c (.bool false)) (a:rb fr y v):ef P (Oper.mk dst (.pick c x y) ty pos after g) fr (v):=⟨fun ds w=>by simp [execOp,a ds,hc ds,asBool]⟩
theorem wr {n:Int}(h:-9223372036854775808≤n∧n≤9223372036854775807):IntKind.i64.wrap n=n:=by
 unfold IntKind.wrap;simp [IntKind.bits,IntKind.signed];omega
theorem jv {x y:Operand}{t t':TypeId}{k:IntKind}{a b c:Int}(d:rb fr x (.int k a)) (e:rb fr y (.int k b)) (hw:k.wrap (a+b)=c):ef P (Oper.mk dst (.binOp .add t x y t') ty pos after g) fr ((.int k c)):=by
 subst hw;exact ⟨fun ds w=>by simp [execOp,d ds,e ds,eqGuard,binOp,Op.intArith]⟩
theorem cC {x y:Operand}{t t':TypeId}{k:IntKind}{a b c:Int}(d:rb fr x (.int k a)) (e:rb fr y (.int k b)) (hw:k.wrap (a - b)=c):ef P (Oper.mk dst (.binOp .sub t x y t') ty pos after g) fr ((.int k c)):=by
 subst hw;exact ⟨fun ds w=>by simp [execOp,d ds,e ds,eqGuard,binOp,Op.intArith]⟩
theorem uy {x y:Operand}{t t':TypeId}{k:IntKind}{a b c:Int}(d:rb fr x (.int k a)) (e:rb fr y (.int k b)) (hw:k.wrap (a*b)=c):ef P (Oper.mk dst (.binOp .mul t x y t') ty pos after g) fr ((.int k c)):=by
 subst hw;exact ⟨fun ds w=>by simp [execOp,d ds,e ds,eqGuard,binOp,Op.intArith]⟩
theorem vy {x y:Operand}{t t':TypeId}{k:IntKind}{a b c:Int}(d:rb fr x (.int k a)) (e:rb fr y (.int k b)) (f:b≠0) (hw:k.wrap (a.tdiv b)=c):ef P (Oper.mk dst (.binOp .quo t x y t') ty pos after g) fr ((.int k c)):=by
 subst hw;exact ⟨fun ds w=>by simp [execOp,d ds,e ds,eqGuard,binOp,Op.intDiv,f]⟩
theorem iI {x y:Operand}{t t':TypeId}{k:IntKind}{a b c:Int}(d:rb fr x (.int k a)) (e:rb fr y (.int k b)) (f:b≠0) (hw:a.tmod b=c):ef P (Oper.mk dst (.binOp .rem t x y t') ty pos after g) fr ((.int k c)):=by
 subst hw;exact ⟨fun ds w=>by simp [execOp,d ds,e ds,eqGuard,binOp,Op.intDiv,f]⟩
theorem Er {x y:Operand}{t t':TypeId}{k:IntKind}{a b:Int}(c:rb fr x (.int k a)) (d:rb fr y (.int k b)):ef P (Oper.mk dst (.binOp .lss t x y t') ty pos after g) fr ((.bool (decide (a<b)))):=⟨fun ds w=>by simp [execOp,c ds,d ds,eqGuard,binOp,Op.intCmp]⟩
theorem dC {x y:Operand}{t t':TypeId}{k:IntKind}{a b:Int}(c:rb fr x (.int k a)) (d:rb fr y (.int k b)):ef P (Oper.mk dst (.binOp .leq t x y t') ty pos after g) fr ((.bool (decide (a≤b)))):=⟨fun ds w=>by simp [execOp,c ds,d ds,eqGuard,binOp,Op.intCmp]⟩
theorem jI {x y:Operand}{t t':TypeId}{k:IntKind}{a b:Int}(c:rb fr x (.int k a)) (d:rb fr y (.int k b)) (e:tf fr dst ((.bool (decide (a≤b)))) za) (h:K za ds w):Pd P (Oper.mk dst (.binOp .leq t x y t') ty pos after g) fr ds w K Q:=xa (dC c d) e h
theorem Gr {x y:Operand}{t t':TypeId}{k:IntKind}{a b:Int}(c:rb fr x (.int k a)) (d:rb fr y (.int k b)):ef P (Oper.mk dst (.binOp .gtr t x y t') ty pos after g) fr ((.bool (decide (b<a)))):=⟨fun ds w=>by simp [execOp,c ds,d ds,eqGuard,binOp,Op.intCmp]⟩
theorem eC {x y:Operand}{t t':TypeId}{k:IntKind}{a b:Int}(c:rb fr x (.int k a)) (d:rb fr y (.int k b)):ef P (Oper.mk dst (.binOp .geq t x y t') ty pos after g) fr ((.bool (decide (b≤a)))):=⟨fun ds w=>by simp [execOp,c ds,d ds,eqGuard,binOp,Op.intCmp]⟩
theorem kI {x y:Operand}{t t':TypeId}{k:IntKind}{a b:Int}(c:rb fr x (.int k a)) (d:rb fr y (.int k b)) (e:tf fr dst ((.bool (decide (b≤a)))) za) (h:K za ds w):Pd P (Oper.mk dst (.binOp .geq t x y t') ty pos after g) fr ds w K Q:=xa (eC c d) e h
theorem kv {x y:Operand}{t t':TypeId}{k:IntKind}{a b:Int}(c:rb fr x (.int k a)) (d:rb fr y (.int k b)):ef P (Oper.mk dst (.binOp .eql t x y t') ty pos after g) fr ((.bool (decide (a=b)))):=⟨fun ds w=>by simp [execOp,c ds,d ds,eqGuard,binOp,Op.intCmp];rfl⟩
theorem Rk {x y:Operand}{t t':TypeId}{k:IntKind}{a b:Int}(c:rb fr x (.int k a)) (d:rb fr y (.int k b)) (e:tf fr dst ((.bool (decide (a=b)))) za) (h:K za ds w):Pd P (Oper.mk dst (.binOp .eql t x y t') ty pos after g) fr ds w K Q:=xa (kv c d) e h
theorem fC {x y:Operand}{t t':TypeId}{k:IntKind}{a b:Int}(c:rb fr x (.int k a)) (d:rb fr y (.int k b)):ef P (Oper.mk dst (.binOp .neq t x y t') ty pos after g) fr ((.bool (decide (a≠b)))):=⟨fun ds w=>by
  simp [execOp,c ds,d ds,eqGuard,binOp,Op.intCmp];by_cases h:a=b<;>simp [h]⟩
theorem lI {x y:Operand}{t t':TypeId}{k:IntKind}{a b:Int}(c:rb fr x (.int k a)) (d:rb fr y (.int k b)) (e:tf fr dst ((.bool (decide (a≠b)))) za) (h:K za ds w):Pd P (Oper.mk dst (.binOp .neq t x y t') ty pos after g) fr ds w K Q:=xa (fC c d) e h
theorem gC {x:Operand}{t:TypeId}{k:IntKind}{a c:Int}(b:rb fr x (.int k a)) (hw:k.wrap (0 - a)=c):ef P (Oper.mk dst (.unOp .neg t x) ty pos after g) fr ((.int k c)):=by
 subst hw;exact ⟨fun ds w=>by simp [execOp,b ds,Op.unary,Op.intArith]⟩
theorem mI {x:Operand}{t:TypeId}{b:Bool}(a:rb fr x (.bool b)):ef P (Oper.mk dst (.unOp .not t x) ty pos after g) fr ((.bool (!b))):=⟨fun ds w=>by simp [execOp,a ds,Op.unary]⟩
theorem nI {x y:Operand}{t t':TypeId}{a b:List UInt8}(c:rb fr x (S a)) (d:rb fr y (S b)) (l:a.length+b.length≤9223372036854775807):ef P (Oper.mk dst (.binOp .add t x y t') ty pos after g) fr ((S (a++b))):=by
 have e:(ByteArray.mk ⟨a⟩).size=a.length:=rfl;have f:(ByteArray.mk ⟨b⟩).size=b.length:=rfl;have h:¬ (((((ByteArray.mk ⟨a⟩).size+(ByteArray.mk ⟨b⟩).size:Nat):Int)) > IntKind.i64.max):=by
  rw [e,f];unfold IntKind.max;simp [IntKind.bits,IntKind.signed];omega
 have i:ByteArray.mk ⟨a⟩++ByteArray.mk ⟨b⟩=ByteArray.mk ⟨a++b⟩:=by
  apply ByteArray.ext;rw [ByteArray.data_append];simp
 refine ⟨fun ds w=>?_⟩;have j:=c ds;have k:=d ds;simp only [execOp,j,k,S,eqGuard,binOp,Op.stringOp];rw [if_neg h,i];simp
theorem lv {x y:Operand}{t t':TypeId}{a b:List UInt8}(c:rb fr x (S a)) (d:rb fr y (S b)):ef P (Oper.mk dst (.binOp .eql t x y t') ty pos after g) fr ((.bool (decide (a=b)))):=by
 refine ⟨fun ds w=>?_⟩;have f:=c ds;have h:=d ds;simp [execOp,f,h,S,eqGuard,binOp,Op.stringOp];by_cases e:a=b<;>simp [e]
theorem hC {x y:Operand}{t t':TypeId}{a b:List UInt8}(c:rb fr x (S a)) (d:rb fr y (S b)):ef P (Oper.mk dst (.binOp .neq t x y t') ty pos after g) fr ((.bool (decide (a≠b)))):=by
 refine ⟨fun ds w=>?_⟩;have f:=c ds;have h:=d ds;simp [execOp,f,h,S,eqGuard,binOp,Op.stringOp];by_cases e:a=b<;>simp [e]
theorem wk {x:Operand}{t:TypeId}{a:List UInt8}(b:P.underlying t=some .string) (c:rb fr x (S a)):ef P (Oper.mk dst (.call { callee:=.builtin .len,args:=#[x],argTypes:=#[t] }) ty pos after g) fr ((.int .i64 a.length)):=by
 refine ⟨fun ds w=>?_⟩;have d:=c ds;have e:(ByteArray.mk ⟨a⟩).size=a.length:=rfl;simp [execOp,d,resolve,invoke,builtin,S,Builtin.len_,run_underlying b,goInt,e]
theorem nd {x:Operand}{t e:TypeId}{a:Option Addr}{n c:Nat}(b:P.underlying t=some (.slice e)) (d:rb fr x (.slice a n c)):ef P (Oper.mk dst (.call { callee:=.builtin .len,args:=#[x],argTypes:=#[t] }) ty pos after g) fr ((.int .i64 n)):=by
 refine ⟨fun ds w=>?_⟩;have f:=d ds;simp [execOp,f,resolve,invoke,builtin,Builtin.len_,run_underlying b,goInt]
theorem QG {x y:Operand}{t:TypeId}{k:IntKind}{a:List UInt8}{i:Int}{c:UInt8}(d:P.underlying t=some .string) (e:rb fr x (S a)) (f:rb fr y (.int k i)) (j:0≤i) (hc:a[i.toNat]?=some c):ef P (Oper.mk dst (.index t x y) ty pos after g) fr ((.int .u8 c.toNat)):=by
 refine ⟨fun ds w=>?_⟩;have l:=e ds;have m:=f ds;have n:(ByteArray.mk ⟨a⟩)[i.toNat]?=some c:=by
  have b:i.toNat<a.length:=by
   rcases Nat.lt_or_ge i.toNat a.length with h | h
   ·exact h
   ·rw [List.getElem?_eq_none h] at hc;cases hc
  rw [getElem?_pos (ByteArray.mk ⟨a⟩) i.toNat (show i.toNat<(ByteArray.mk ⟨a⟩).size from b)];rw [List.getElem?_eq_getElem b] at hc;rw [← hc];rfl
 simp [execOp,l,m,S,Instr.index,run_underlying d,asIntOf,j,n]
theorem sA (a:List UInt8) (i j:Nat):(ByteArray.mk ⟨a⟩).extract i j=ByteArray.mk ⟨(a.take j).drop i⟩:=by
 rw [Lib.extract_eq];simp [List.drop_take]
theorem MF {x yj:Operand}{t:TypeId}{k:IntKind}{a:List UInt8}{i:Int}(b:P.underlying t=some .string) (c:rb fr x (S a)) (d:rb fr yj (.int k i))
  (e:0≤i∧i≤a.length):ef P (Oper.mk dst (.slice t x (some yj) none none) ty pos after g) fr ((S (a.drop i.toNat))):=by
 refine ⟨fun ds w=>?_⟩;have f:=c ds;have h:=d ds;have j:(ByteArray.mk ⟨a⟩).size=a.length:=rfl;simp only [execOp,f,h,S,Option.map,Instr.sliceAt];simp [run_underlying b,Instr.slice,Instr.sliceBounds,Instr.sliceBound,asIntOf,j,e,sA]
theorem NF {x gb:Operand}{t:TypeId}{b:IntKind}{a:List UInt8}{j:Int}(c:P.underlying t=some .string) (d:rb fr x (S a)) (e:rb fr gb (.int b j))
  (f:0≤j∧j≤a.length):ef P (Oper.mk dst (.slice t x none (some gb) none) ty pos after g) fr ((S (a.take j.toNat))):=by
 refine ⟨fun ds w=>?_⟩;have h:=d ds;have i:=e ds;have k:(ByteArray.mk ⟨a⟩).size=a.length:=rfl;simp only [execOp,h,i,S,Option.map,Instr.sliceAt];simp [run_underlying c,Instr.slice,Instr.sliceBounds,Instr.sliceBound,asIntOf,k,f,sA]
theorem RG {x:Operand}{i:Nat}{vs:List Value}{v:Value}(b:rb fr x (.tuple ⟨vs⟩)) (a:Bc vs i v):ef P (Oper.mk dst (.extract x i) ty pos after g) fr (v):=by
 refine ⟨fun ds w=>?_⟩;have c:=b ds;unfold Bc at a;simp [execOp,c,Instr.extract,a]
structure Bb (P:Program) (f:FuncId) (args:List Value) (w:World) (R:Value→World→Prop):Prop where
 out:Calls P f ⟨args⟩ w fun e w'=>match e with | .returned v=>R v w' | _=>False
theorem Bb.mono {f:FuncId}{args:List Value}{R Rd:Value→World→Prop}(h:Bb P f args w R) (a:∀ v w',R v w'→Rd v w'):Bb P f args w Rd :=
 ⟨Calls.mono h.out fun e w' he=>by
  cases e with
  | returned v=>exact a v w' he
  | panicked c=>exact he.elim
  | outgrown=>exact he.elim⟩
class Ob (P:Program) (f:FuncId):Prop where
 out:∀ args w,(callFunc f args).run P w=.ok (.enter f args) w
theorem OF {f : FuncId} {fn : Func} (a : P.funcs[f]? = some fn) (e : fn.body.isSome = true) (b : (fn.name == "runtime.NumGoroutine") = false) : Ob P f := by
 constructor;intro args w;have c:¬ fn.body=none:=by cases h:fn.body<;>simp_all
 have d : ¬ fn.name = "runtime.NumGoroutine" := by simpa using b
 simp only [callFunc,Sem.run_bind,run_program,Result.andThen_ok,a,beq_iff_eq,if_neg d,Option.isNone_iff_eq_none,if_neg c,Sem.run_pure]
def Rg (fr:List Value) (dst:Option Tmp) (v:Value) (K:List Value→Prop):Prop:=∀ za,tf fr dst v za→K za
theorem tf.uniq {fr a b:List Value}{dst:Option Tmp}{v:Value}(h:tf fr dst v a) (k:tf fr dst v b):a=b:=by
 have:=(h []).symm.trans (k []);unfold F at this;simpa using this
theorem pu {v:Value}{K:List Value→Prop}(a:tf fr dst v za) (h:K za):Rg fr dst v K:=fun c b=>by rw [tf.uniq b a];exact h
theorem Mh (fr:List Value) (dst:Option Tmp) (v:Value):∃ za,tf fr dst v za:=by
 cases dst with
 | none=>exact ⟨fr,Na⟩
 | some n=>exact ⟨fr.set n v,ha rfl⟩
theorem Fu {o:Oper}{f:FuncId}{args:List Value}{R:Value→World→Prop}(a:(execOp (F fr ds).eval o).run P w=.ok (.enter f ⟨args⟩) w) (hc:Bb P f args w R)
  (h:∀ v w',R v w'→Rg fr o.dst v fun za=>K za ds w'):Pd P o fr ds w K Q:=by
 constructor;intro d b;unfold Oper.wp;rw [a,Oper.upon_enter];exact Calls.mono hc.out fun e w' he=>by
  cases e with
  | returned v =>
   obtain ⟨za,tb⟩:=Mh fr o.dst v;exact tb.rw (b _ _ _ (h v w' he za tb))
  | panicked c=>exact he.elim
  | outgrown=>exact he.elim
theorem IA {f:Operand}{xs:List Operand}{tys:Array TypeId}{k:FuncId}{cap vs:List Value}(a:Ob P k) (b:rb fr f (.func (.func k) #[] ⟨cap⟩)) (c:Ek fr xs vs) :
  (execOp (F fr ds).eval (Oper.mk dst (.call { callee:=.value f,args:=⟨xs⟩,argTypes:=tys }) ty pos after g)).run P w=.ok (.enter k ⟨vs++cap⟩) w:=by
 have d:=b ds;have e:=c ds;have h:=a.out ⟨vs++cap⟩ w;simp [execOp,resolve,d,Deferred.ofValue,invoke,e,h]
theorem xb {f:Operand}{xs:List Operand}{tys:Array TypeId}{k:FuncId}{vs:List Value}{R:Value→World→Prop}(a:Ob P k) (b:rb fr f (.func (.func k) #[] #[])) (c:Ek fr xs vs)
  (hc:Bb P k vs w R) (h:∀ v w',R v w'→Rg fr dst v fun za=>K za ds w'):Pd P (Oper.mk dst (.call { callee:=.value f,args:=⟨xs⟩,argTypes:=tys }) ty pos after g) fr ds w K Q:=by
 refine Fu (args:=vs) ?_ hc h;have:=IA (w:=w) (dst:=dst) (ty:=ty) (pos:=pos) (after:=after) (g:=g) (tys:=tys) (ds:=ds) (cap:=[]) a b c;simpa using this
theorem Gu {f:Operand}{xs:List Operand}{tys:Array TypeId}{k:FuncId}{cap vs:List Value}{R:Value→World→Prop}(a:Ob P k) (b:rb fr f (.func (.func k) #[] ⟨cap⟩)) (c:Ek fr xs vs)
  (hc:Bb P k (vs++cap) w R) (h:∀ v w',R v w'→Rg fr dst v fun za=>K za ds w'):Pd P (Oper.mk dst (.call { callee:=.value f,args:=⟨xs⟩,argTypes:=tys }) ty pos after g) fr ds w K Q :=
 Fu (IA a b c) hc h
def Tn (P:Program) (fn:Func) (R:Value→World→Prop):Exit→Act→World→Prop:=bodyPost P fn fun e w'=>match e with | .returned v=>R v w' | _=>False
theorem enter {f:FuncId}{fn:Func}{c:Code}{args frm:List Value}{R:Value→World→Prop}(a:P.funcs[f]?=some fn) (b:fn.body=some c)
  (d:args++List.replicate (fn.ntmps - args.length) undef=frm) (h:He P c (Tn P fn R) frm [] w):Bb P f args w R:=by
 refine ⟨calls_of_wp a b ?_⟩;subst d;have:(⟨args⟩:Array Value)++Array.replicate (fn.ntmps - args.length) undef=⟨args++List.replicate (fn.ntmps - args.length) undef⟩:=by
  apply Array.ext';simp
 have h:=h.out;simpa [F,Tn,this] using h
theorem kc {fn:Func}{R:Value→World→Prop}{t:Tmp}{v:Value}(b:fn.results=#[.tmp t]) (a:Bc fr t v) (h:R v w):Tn P fn R .ret (F fr []) w:=by
 refine bodyPost_ret (v:=v) ?_ rfl h;unfold Bc at a;rw [results_tmp b];simp [F,a]
theorem sv {fn:Func}{R:Value→World→Prop}{t u:Tmp}{v a:Value}(d:fn.results=#[.tmp t,.tmp u]) (b:Bc fr t v) (c:Bc fr u a) (h:R (.tuple #[v,a]) w):Tn P fn R .ret (F fr []) w:=by
 refine bodyPost_ret (v:=.tuple #[v,a]) ?_ rfl h;unfold Bc at b c;rw [results_tmp2 d];simp [F,b,c]
theorem yh {fn:Func}{R:Value→World→Prop}(a:fn.results=#[]) (h:R (.tuple #[]) w):Tn P fn R .normal (F fr []) w :=
 bodyPost_end (results_none a _ _ _) rfl h
theorem rC {fn:Func}{R:Value→World→Prop}(a:fn.results=#[]) (h:R (.tuple #[]) w):Tn P fn R .ret (F fr []) w :=
 bodyPost_ret (results_none a _ _ _) rfl h
end
end Go.vc
namespace Go.vc
open Go.RowKit
structure gi (S:Nat→Prop) (w w':World):Prop where
 os:w'.os=w.os
 tape:w'.tape=w.tape
 output:w'.output=w.output
 size:w.heap.size≤w'.heap.size
 ba:∀ k,k<w.heap.size→S k→w'.heap[k]?=w.heap[k]?
def Grow (w w':World):Prop:=gi (fun _=>True) w w'
theorem gi.refl {S:Nat→Prop}(w:World):gi S w w:=⟨rfl,rfl,rfl,Nat.le_refl _,fun _ _ _=>rfl⟩
theorem gi.trans {S:Nat→Prop}{a b c:World}(h:gi S a b) (k:gi S b c):gi S a c :=
 ⟨k.os.trans h.os,k.tape.trans h.tape,k.output.trans h.output,Nat.le_trans h.size k.size,fun i gb d=>(k.ba i (Nat.lt_of_lt_of_le gb h.size) d).trans (h.ba i gb d)⟩
theorem gi.mono {S c:Nat→Prop}{a b:World}(h:gi S a b) (d:∀ k,c k→S k):gi c a b:=⟨h.os,h.tape,h.output,h.size,fun i gb k=>h.ba i gb (d i k)⟩
theorem Grow.keeps {S:Nat→Prop}{a b:World}(h:Grow a b):gi S a b:=gi.mono h fun _ _=>trivial
theorem Grow.below {a b:World}(h:Grow a b):Below a.heap.size a b:=⟨h.os,h.tape,h.output,h.size,fun k c=>h.ba k c trivial⟩
theorem Grow.alloc (w:World) (o:Obj):Grow w (w.alloc o):=⟨rfl,rfl,rfl,by simp,fun k a _=>heap_alloc_old w o k a⟩
def Pj (S:Nat→Prop) (w:World) (A:World→Prop):Prop:=∀ w',w.heap.size≤w'.heap.size→(∀ k,k<w.heap.size→S k→w'.heap[k]?=w.heap[k]?)→A w'
theorem Pj.now {S:Nat→Prop}{w:World}{A:World→Prop}(h:Pj S w A):A w:=h w (Nat.le_refl _) fun _ _ _=>rfl
theorem Pj.mono {S a:Nat→Prop}{w:World}{A:World→Prop}(h:Pj S w A) (c:∀ k,k<w.heap.size→S k→a k):Pj a w A:=fun w' d e=>h w' d fun k b f=>e k b (c k b f)
theorem Pj.and {S:Nat→Prop}{w:World}{A B:World→Prop}(h:Pj S w A) (k:Pj S w B):Pj S w fun w'=>A w'∧B w':=fun w' a b=>⟨h w' a b,k w' a b⟩
theorem Pj.keeps {S:Nat→Prop}{w w':World}{A:World→Prop}(h:Pj S w A) (k:gi S w w'):Pj S w' A :=
 fun d e f=>h d (Nat.le_trans k.size e) fun b a c=>(f b (Nat.lt_of_lt_of_le a k.size) c).trans (k.ba b a c)
inductive Gb where
 | ba (b:Nat) (T:TypeId) (cs:List Value)
 | row (v:Value) (T:TypeId) (sz n:Nat) (xs:List Value)
 | map (b:Nat) (es:List MapEntry) (clock:Nat)
 | Cv (b:Nat) (s:ByteArray) (pos:Nat)
 | ro (b:Nat) (T:TypeId) (cs:List Value)
 | lj (b m since:Nat) (seen:List Nat) (last:Nat)
def ej (w:World) (b:Nat) (T:TypeId) (cs:List Value):Prop:=w.heap[b]?=some (.cells ⟨cs⟩ T (0,0))
def Row (w:World) (v:Value) (T:TypeId) (sz n:Nat) (xs:List Value):Prop :=
 xs.length=n*sz∧((v=.slice none 0 0∧n=0)∨∃ g o cap cur,v=.slice (some ⟨g,o,none⟩) n cap∧w.heap[g]?=some (.cells cur T (0,0))∧n≤cap∧cap≤maxLen∧o+cap*sz≤cur.size∧(cur.toList.drop o).take (n*sz)=xs)
def Gb.block:Gb→Option Nat
 | .ba b _ _=>some b
 | .row v _ _ _ _=>v.ownBlock
 | .map b _ _=>some b
 | .Cv b _ _=>some b
 | .ro b _ _=>some b
 | .lj b _ _ _ _=>some b
def Gb.holds (w:World):Gb→Prop
 | .ba b T cs=>ej w b T cs
 | .row v T sz n xs=>Row w v T sz n xs
 | .map b es clock=>w.heap[b]?=some (.map ⟨es⟩ clock)
 | .Cv b s pos=>w.heap[b]?=some (.stringIter s pos)
 | .ro b T cs=>∃ z,w.heap[b]?=some (.cells ⟨cs⟩ T z)
 | .lj b m since seen last=>w.heap[b]?=some (.mapIter (some m) since ⟨seen⟩ last)
def blocks (rs:List Gb):List Nat:=rs.filterMap Gb.block
structure Sep (S Sd:Nat→Prop) (w0 w:World) (rs:List Gb) (A:World→Prop):Prop where
 keeps:gi S w0 w
 all:∀ r ∈ rs,r.holds w
 oi:(blocks rs).Nodup
 new:∀ b ∈ blocks rs,w0.heap.size≤b∨¬ S b
 Hi:Pj (fun b=>(Sd b∨w0.heap.size≤b)∧b ∉ blocks rs) w A
theorem Nz {w:World}{r:Gb}(h:r.holds w){b:Nat}(a:r.block=some b):b<w.heap.size:=by
 cases r with
 | ba b' T cs=>simp [Gb.block] at a; subst a; exact (Array.getElem?_eq_some_iff.1 h).1
 | map b' es d=>simp [Gb.block] at a; subst a; exact (Array.getElem?_eq_some_iff.1 h).1
 | Cv b' s p=>simp [Gb.block] at a; subst a; exact (Array.getElem?_eq_some_iff.1 h).1
 | lj b' m s e l=>simp [Gb.block] at a; subst a; exact (Array.getElem?_eq_some_iff.1 h).1
 | ro b' T cs=>obtain ⟨z,h⟩:=h; simp [Gb.block] at a; subst a; exact (Array.getElem?_eq_some_iff.1 h).1
 | row v T sz n xs =>
  rcases h.2 with ⟨rfl,_⟩ | ⟨g,o,cap,cur,rfl,c,_⟩
  ·simp [Gb.block,Value.ownBlock] at a
  ·simp [Gb.block,Value.ownBlock] at a;subst a;exact (Array.getElem?_eq_some_iff.1 c).1
theorem holds_of {w w':World}{r:Gb}(h:r.holds w) (a:∀ b,r.block=some b→w'.heap[b]?=w.heap[b]?):r.holds w':=by
 cases r with
 | ba b' T cs=>exact (a b' rfl).trans h
 | map b' es d=>exact (a b' rfl).trans h
 | Cv b' s p=>exact (a b' rfl).trans h
 | lj b' m s e l=>exact (a b' rfl).trans h
 | ro b' T cs=>obtain ⟨z,h⟩:=h; exact ⟨z,(a b' rfl).trans h⟩
 | row v T sz n xs =>
  refine ⟨h.1,?_⟩;rcases h.2 with h | ⟨g,o,cap,cur,rfl,c,h⟩
  ·exact .inl h
  ·exact .inr ⟨g,o,cap,cur,rfl,by rw [a g rfl];exact c,h⟩
section
variable {S Sd:Nat→Prop}{w0 w w':World}{rs rs':List Gb}{A B:World→Prop}
theorem Sep.a (h:Sep S Sd w0 w rs A):A w:=h.Hi.now
theorem Sep.start (w:World) (S Sd:Nat→Prop) (a:Pj Sd w A):Sep S Sd w w [] A :=
 ⟨.refl w,by simp,by simp [blocks],by simp [blocks],a.mono fun k _ b=>⟨.inl b,by simp [blocks]⟩⟩
theorem hn {r:Gb}{b:Nat}(a:r ∈ rs) (c:r.block=some b):b ∈ blocks rs:=List.mem_filterMap.2 ⟨r,a,c⟩
theorem Sep.lt (h:Sep S Sd w0 w rs A){b:Nat}(a:b ∈ blocks rs):b<w.heap.size:=by
 obtain ⟨r,c,a⟩:=List.mem_filterMap.1 a;exact Nz (h.all r c) a
theorem Sep.grow (h:Sep S Sd w0 w rs A) (a:Grow w w'):Sep S Sd w0 w' rs A where
 keeps:=h.keeps.trans a.keeps
 all r c:=holds_of (h.all r c) fun b d=>a.ba b (h.lt (hn c d)) trivial
 oi:=h.oi
 new:=h.new
 Hi:=h.Hi.keeps a.keeps
theorem Sep.alloc (h:Sep S Sd w0 w rs A){o:Obj}{r:Gb}(c:r.block=some w.heap.size) (f:r.holds (w.alloc o)):Sep S Sd w0 (w.alloc o) (r::rs) A where
 keeps:=h.keeps.trans (Grow.alloc w o).keeps
 all r' d:=by
  rcases List.mem_cons.1 d with rfl | d
  ·exact f
  ·exact (h.grow (Grow.alloc w o)).all r' d
 oi:=by
  simp only [blocks,List.filterMap_cons,c,List.nodup_cons];exact ⟨fun hm=>Nat.lt_irrefl _ (h.lt hm),h.oi⟩
 new b a:=by
  simp only [blocks,List.filterMap_cons,c,List.mem_cons] at a;rcases a with rfl | a
  ·exact .inl h.keeps.size
  ·exact h.new b a
 Hi:=fun w' g i=>h.Hi w' (by simp at g;omega) fun k j e=>by
  have:=i k (by simp;omega) ⟨e.1,by
   simp only [blocks,List.filterMap_cons,c,List.mem_cons,not_or];exact ⟨by omega,e.2⟩⟩
  rw [this];exact heap_alloc_old w o k j
theorem Xu {r:Gb}{n:Nat}(a:Bc rs n r):r ∈ rs:=List.mem_of_getElem? a
theorem Sep.get (h:Sep S Sd w0 w rs A){n:Nat}{r:Gb}(a:Bc rs n r):r.holds w:=h.all r (Xu a)
theorem eA {n:Nat}{r r':Gb}(b:Bc rs n r) (c:r'.block=r.block):blocks (rs.set n r')=blocks rs:=by
 unfold Bc at b;unfold blocks
 induction rs generalizing n with
 | nil=>rfl
 | cons a rs d =>
  cases n with
  | zero=>simp at b; subst b; simp [List.filterMap_cons,c]
  | succ n=>simp at b; simp only [List.set_cons_succ,List.filterMap_cons,d b]
theorem Oz {n m:Nat}{r f:Gb}(tb:(blocks rs).Nodup) (d:Bc rs n r) (hm:Bc rs m f) (i:n≠m){b:Nat}(g:r.block=some b):f.block≠some b:=by
 unfold Bc at d hm;unfold blocks at tb
 induction rs generalizing n m with
 | nil=>simp at d
 | cons a rs j =>
  have k:(List.filterMap Gb.block rs).Nodup:=by
   cases h:a.block with
   | none=>simpa [List.filterMap_cons,h] using tb
   | some c=>simp only [List.filterMap_cons,h,List.nodup_cons] at tb; exact tb.2
  cases n with
  | zero =>
   cases m with
   | zero=>exact absurd rfl i
   | succ m =>
    simp at d hm;subst d;intro e;simp only [List.filterMap_cons,g,List.nodup_cons] at tb;exact tb.1 (List.mem_filterMap.2 ⟨f,List.mem_of_getElem? hm,e⟩)
  | succ n =>
   cases m with
   | zero =>
    simp at d hm;subst hm;intro e;simp only [List.filterMap_cons,e,List.nodup_cons] at tb;exact tb.1 (List.mem_filterMap.2 ⟨r,List.mem_of_getElem? d,g⟩)
   | succ m=>simp at d hm; exact j k d hm (by omega)
theorem Sep.put (h:Sep S Sd w0 w rs A){n:Nat}{r r':Gb}{b:Nat}(d:Bc rs n r) (g:r.block=some b) (p:r'.block=some b) (l:wc rs n r' rs')
  (q:r'.holds w') (a:gi (fun k=>k≠b) w w'):Sep S Sd w0 w' rs' A:=by
 unfold wc at l;subst l;have o:=hn (Xu d) g;have i:=eA (r':=r') d (p.trans g.symm);refine ⟨?_,?_,?_,?_,?_⟩
 ·refine ⟨a.os.trans h.keeps.os,a.tape.trans h.keeps.tape,a.output.trans h.keeps.output,Nat.le_trans h.keeps.size a.size,fun k j f=>?_⟩;rw [a.ba k (Nat.lt_of_lt_of_le j h.keeps.size) (fun e=>by subst e;rcases h.new k o with h | h;exact absurd j (by omega);exact h f)];exact h.keeps.ba k j f
 ·intro s t;obtain ⟨m,hm⟩:=List.mem_iff_getElem?.1 t;by_cases e:n=m
  ·subst e;have u:n<rs.length:=(List.getElem?_eq_some_iff.1 d).1;rw [List.getElem?_set_self u] at hm;cases hm;exact q
  ·rw [List.getElem?_set_ne e] at hm;refine holds_of (h.all s (List.mem_of_getElem? hm)) fun c hc=>a.ba c (h.lt (hn (List.mem_of_getElem? hm) hc)) fun v=>?_;subst v;exact Oz h.oi d hm e g hc
 ·rw [i];exact h.oi
 ·rw [i];exact h.new
 ·rw [i];exact h.Hi.keeps (a.mono fun k f e=>f.2 (by subst e;exact o))
end
def tv:TypeDesc→Bool
 | .struct _ | .array _ _=>true
 | _=>false
class Nc (P:Program) (T:TypeId) (Gf:outParam Bool) (Kd:outParam (List Value)) (n m:outParam Nat):Prop where
 yz:∃ d,P.underlying T=some d∧tv d=Gf
 inf:∃ i z,P.info? T=some i∧i.zero=some z∧z.cells=⟨Kd⟩∧i.size=n∧i.bytes=m
theorem oI {P:Program}{T:TypeId}{d:TypeDesc}{Gf:Bool}{z:Value}{Kd:List Value}{n m:Nat}(hu:P.underlying T=some d) (a:tv d=Gf) (h:(P.info? T).map (fun i=>(i.zero,i.size,i.bytes))=some (some z,n,m)) (b:z.cells=⟨Kd⟩):Nc P T Gf Kd n m:=by
 refine ⟨⟨d,hu,a⟩,?_⟩;cases gb:P.info? T with
 | none=>rw [gb] at h; cases h
 | some i =>
  rw [gb] at h;simp only [Option.map_some,Option.some.injEq,Prod.mk.injEq] at h;exact ⟨i,z,rfl,h.1,b,h.2.1,h.2.2⟩
def Od:Value→Bool
 | .agg _ | .tuple _=>false
 | _=>true
section
variable {P:Program}{Q:Exit→Act→World→Prop}{K:List Value→List Deferred→World→Prop}{fr za:List Value}{ds:List Deferred}{w:World}
variable {dst:Option Tmp}{ty:TypeId}{pos:String}{after:Array Edge}{g:Option (Nat×Bool)}
variable {S Sd:Nat→Prop}{w0:World}{rs rs':List Gb}{A:World→Prop}
variable {T:TypeId}{d:TypeDesc}{Gf:Bool}{Kd:List Value}{n m:Nat}
theorem uE (h:P.underlying T=some d):(isAgg T).run P w=.ok (tv d) w:=by
 unfold isAgg;simp only [Sem.run_bind,run_underlying h,Result.andThen_ok];cases d<;>rfl
theorem Nc.isAgg (h:Nc P T Gf Kd n m):(Go.isAgg T).run P w=.ok Gf w:=by
 obtain ⟨d,tb,rfl⟩:=h.yz;exact uE tb
theorem Nc.sizeOf (h:Nc P T Gf Kd n m):(Go.sizeOf T).run P w=.ok n w:=by
 obtain ⟨i,z,gb,b,hc,a,hm⟩:=h.inf;simp [Go.sizeOf,typeInfo,gb,a]
theorem Nc.zero (h:Nc P T Gf Kd n m):∃ z,(zeroValue T).run P w=.ok z w∧z.cells=⟨Kd⟩:=by
 obtain ⟨i,z,gb,a,hc,b,hm⟩:=h.inf;exact ⟨z,by simp [zeroValue,typeInfo,gb,a],hc⟩
def bj (w:World) (b o:Nat) (cs:List Value):Prop:=∀ j v,cs[j]?=some v→w.cell? ⟨b,o+j,none⟩=some v
theorem ek (b o j:Nat):(⟨b,o,none⟩:Addr).add j=⟨b,o+j,none⟩:=by
 unfold Addr.add;split
 ·rename_i h;subst h;rfl
 ·rfl
theorem ej.cell {b:Nat}{cs:List Value}{j:Nat}{v:Value}(h:ej w b T cs) (a:Bc cs j v):w.cell? ⟨b,j,none⟩=some v:=by
 unfold Bc at a;unfold ej at h;simp [World.cell?,h,a]
theorem ej.cells {b:Nat}{cs:List Value}(h:ej w b T cs):bj w b 0 cs:=fun j v a=>by
 rw [Nat.zero_add];exact h.cell a
theorem bj.one {b o:Nat}{cs:List Value}{j:Nat}{v:Value}(h:bj w b o cs) (a:Bc cs j v):w.cell? ⟨b,o+j,none⟩=some v:=h j v a
theorem Cd (a:Nc P T Gf Kd n m) (c:Sep S Sd w0 w rs A)
  (h:∀ b w',w.heap.size≤b→Sep S Sd w0 w' (.ba b T Kd::rs) A→Rg fr dst (.pointer (some ⟨b,0,none⟩)) fun za=>K za ds w'):Pd P (Oper.mk dst (.alloc T) ty pos after g) fr ds w K Q:=by
 obtain ⟨z,d,hc⟩:=a.zero (w:=w);obtain ⟨za,tb⟩:=Mh fr dst (.pointer (some ⟨w.heap.size,0,none⟩));refine eh (v:=.pointer (some ⟨w.heap.size,0,none⟩)) (w':=w.alloc (.cells ⟨Kd⟩ T)) ?_ tb (h _ _ (Nat.le_refl _) (c.alloc rfl (heap_alloc_new w _)) za tb);simp [execOp,Instr.alloc,d,newVar,newRow,hc]
theorem xg {x:Operand}{v:Value}{cs:List Value}(a:rb fr x v) (hc:v.cells=⟨cs⟩) (c:Sep S Sd w0 w rs A)
  (h:∀ b w',w.heap.size≤b→Sep S Sd w0 w' (.ba b T cs::rs) A→Rg fr dst (.pointer (some ⟨b,0,none⟩)) fun za=>K za ds w'):Pd P (Oper.mk dst (.box T x) ty pos after g) fr ds w K Q:=by
 obtain ⟨za,tb⟩:=Mh fr dst (.pointer (some ⟨w.heap.size,0,none⟩));refine eh (v:=.pointer (some ⟨w.heap.size,0,none⟩)) (w':=w.alloc (.cells ⟨cs⟩ T)) ?_ tb (h _ _ (Nat.le_refl _) (c.alloc rfl (heap_alloc_new w _)) za tb);simp [execOp,Instr.box,a ds,newVar,newRow,hc]
structure dk (P:Program) (o:Oper) (fr:List Value) (w:World) (v:Value):Prop where
 out:∀ ds,(execOp (F fr ds).eval o).run P w=.ok (.value v) w
theorem zq {o:Oper}{v:Value}(hu:dk P o fr w v) (a:tf fr o.dst v za) (h:K za ds w):Pd P o fr ds w K Q:=eh (hu.out ds) a h
theorem Ea {x:Operand}{b o:Nat}{v:Value}(a:Nc P T false Kd n m) (c:rb fr x (.pointer (some ⟨b,o,none⟩))) (hc:w.cell? ⟨b,o,none⟩=some v):dk P (Oper.mk dst (.load T x) ty pos after g) fr w v :=
 ⟨fun ds=>by simp [execOp,Instr.loadAt,c ds,Instr.sureAddr,loadVar,a.isAgg,hc]⟩
theorem Wc {x:Operand}{b o:Nat}{v:Value}(a:Nc P T false Kd n m) (c:rb fr x (.pointer (some ⟨b,o,none⟩))) (hc:w.cell? ⟨b,o,none⟩=some v)
  (d:tf fr dst v za) (h:K za ds w):Pd P (Oper.mk dst (.load T x) ty pos after g) fr ds w K Q:=zq (Ea a c hc) d h
theorem sf {x:Operand}{b o:Nat}{cs:List Value}(a:Nc P T true Kd n m) (d:rb fr x (.pointer (some ⟨b,o,none⟩))) (hc:bj w b o cs) (e:cs.length=n):dk P (Oper.mk dst (.load T x) ty pos after g) fr w (.agg ⟨cs⟩):=⟨fun ds=>by
 have c:=run_loadCells_list (P:=P) w ⟨b,o,none⟩ cs (fun j v f=>by rw [ek];exact hc j v f);rw [e] at c;simp [execOp,Instr.loadAt,d ds,Instr.sureAddr,loadVar,a.isAgg,a.sizeOf,c]⟩
theorem Ci {x:Operand}{b o:Nat}{cs:List Value}(a:Nc P T true Kd n m) (c:rb fr x (.pointer (some ⟨b,o,none⟩))) (hc:bj w b o cs) (d:cs.length=n)
  (e:tf fr dst (.agg ⟨cs⟩) za) (h:K za ds w):Pd P (Oper.mk dst (.load T x) ty pos after g) fr ds w K Q:=zq (sf a c hc d) e h
inductive kf:List Value→Nat→List Value→List Value→Prop where
 | z {cs:List Value} {o:Nat}:kf cs o [] cs
 | s {cs cs1 a:List Value} {o:Nat} {v:Value} {vs:List Value} (h:wc cs o v cs1) (b:o<cs.length) (k:kf cs1 (o+1) vs a):kf cs o (v::vs) a
theorem kf.eq {cs:List Value}{o:Nat}{vs b:List Value}(h:kf cs o vs b):o+vs.length≤cs.length∨vs=[]:=by
 induction h with
 | z=>exact .inr rfl
 | @s cs cs1 b o v vs h c k a =>
  left;unfold wc at h;subst h;rcases a with a | rfl
  ·simp at a ⊢;omega
  ·simp;omega
theorem kf.res {cs:List Value}{o:Nat}{vs a:List Value}(h:kf cs o vs a) (e:o≤cs.length):a=cs.take o++vs++cs.drop (o+vs.length):=by
 induction h with
 | z=>simp
 | @s cs cs1 a o v vs h b k c =>
  unfold wc at h;subst h;rw [c (by simp;omega)];have ra:(cs.set o v).take (o+1)=cs.take o++[v]:=by
   rw [List.take_set,List.take_add_one,List.getElem?_eq_getElem b];rw [List.set_append_right _ _ (by simp;omega)];simp [Nat.min_eq_left (Nat.le_of_lt b)]
  rw [ra];have d:(cs.set o v).drop (o+1+vs.length)=cs.drop (o+(v::vs).length):=by
   rw [List.drop_set_of_lt (by omega)];congr 1;simp;omega
  rw [d];simp
theorem ou {v:Value}(h:Od v=true):v.oneCell'=true:=by cases v<;>first | rfl | simp [Od] at h
theorem FD {b:Nat}{cs:List Value}(c:ej w b T cs){o:Nat}{vs d:List Value}(a:kf cs o vs d) (e:o≤cs.length) (f:vs.all Od=true) :
  ∃ w',(storeCells ⟨b,o,none⟩ vs).run P w=.ok () w'∧ej w' b T d∧gi (fun k=>k≠b) w w':=by
 have hle:o+0+vs.length≤(⟨cs⟩:Array Value).size:=by
  rcases a.eq with h | rfl
  ·simpa using h
  ·simpa using e
 refine ⟨_,run_storeCells_at P b o T vs 0 ⟨cs⟩ w c hle fun v g=>ou (List.all_eq_true.1 f v g),?_,?_⟩
 ·rw [a.res e];exact setRow_heap w b ⟨cs⟩ _ T (0,0) c
 ·exact ⟨rfl,rfl,rfl,by simp [World.setRow],fun k i a=>setRow_other w b k _ a⟩
theorem Ho {x y:Operand}{b o k:Nat}{v:Value}{cs a vs:List Value}(i:Nc P T Gf Kd n m) (j:rb fr x (.pointer (some ⟨b,o,none⟩))) (l:rb fr y v) (c:v.cells=⟨vs⟩) (p:vs.length=n) (q:vs.all Od=true)
  (d:Sep S Sd w0 w rs A) {e:TypeId}(f:Bc rs k (.ba b e cs)) (r:kf cs o vs a) (s:(decide (o≤cs.length))=true) (t:wc rs k (.ba b e a) rs')
  (tb:tf fr dst undef za) (h:∀ w',Sep S Sd w0 w' rs' A→K za ds w'):Pd P (Oper.mk dst (.store T x y) ty pos after g) fr ds w K Q:=by
 obtain ⟨w',u,z,B⟩:=FD (P:=P) (d.get f) r (of_decide_eq_true s) q;refine Yy (w':=w') ?_ tb (h w' (d.put f rfl rfl t z B));have ra:v.cells.toList=vs:=by rw [c]
 have C:¬ (v.cells.size≠n):=by rw [c];simpa using p
 have D:=i.sizeOf (w:=w);simp only [execOp,Instr.storeAt,j ds,l ds,Instr.sureAddr,storeVar,Sem.run_bind,D,Result.andThen_ok,if_neg C,ra,u,Sem.run_pure]
class ld (P:Program) (T:TypeId) (i:Nat) (off:outParam Nat):Prop where
 out:∀ b o w,(Instr.fieldAt T (.pointer (some ⟨b,o,none⟩)) i).run P w=.ok (.pointer (some ⟨b,o+off,none⟩)) w
theorem pd {c:Array Field}{i off:Nat}{f:Field}{d:TypeId}{e:List Value}{a g:Nat}{h:Bool}(j:P.underlying T=some (.struct c)) (k:c[i]?=some f) (l:f.offset=off) (m:f.type=d) (n:Nc P d h e a g) (p:(a == 0)=false):ld P T i off:=by
 constructor;intro b o w;have q:¬ a=0:=by simpa using p
 simp [Instr.fieldAt,run_underlying j,k,Instr.sureAddr,fieldPlace,m,n.sizeOf,q,ek,l]
theorem Fh {x:Operand}{b o i off a:Nat}(c:ld P T i off) (d:rb fr x (.pointer (some ⟨b,o,none⟩))) (e:o+off=a):ef P (Oper.mk dst (.fieldAddr T x i) ty pos after g) fr ((.pointer (some ⟨b,a,none⟩))):=by
 subst e;exact ⟨fun ds w=>by simp [execOp,d ds,c.out]⟩
theorem Lm {x:Operand}{b o i off a:Nat}(c:ld P T i off) (d:rb fr x (.pointer (some ⟨b,o,none⟩))) (e:o+off=a) (f:tf fr dst ((.pointer (some ⟨b,a,none⟩))) za) (h:K za ds w):Pd P (Oper.mk dst (.fieldAddr T x i) ty pos after g) fr ds w K Q:=xa (Fh c d e) f h
theorem PF {x:Operand}{i off:Nat}{cs:List Value}{v:Value}{a:Array Field}{f:Field}{b:TypeId}{d:List Value}{e h:Nat}(j:P.underlying T=some (.struct a)) (k:a[i]?=some f) (l:f.offset=off) (m:f.type=b) (n:Nc P b false d e h)
  (o:rb fr x (.agg ⟨cs⟩)) (c:Bc cs off v):ef P (Oper.mk dst (.field T x i) ty pos after g) fr (v):=by
 subst l m;unfold Bc at c;refine ⟨fun ds w=>?_⟩;simp [execOp,o ds,Instr.field,run_underlying j,k,asAgg,part,n.isAgg,c]
theorem hB {x:Operand}{i off:Nat}{cs:List Value}{v:Value}{a:Array Field}{f:Field}{b:TypeId}{c:List Value}{d e:Nat}(j:P.underlying T=some (.struct a)) (k:a[i]?=some f) (l:f.offset=off) (m:f.type=b) (n:Nc P b false c d e)
  (o:rb fr x (.agg ⟨cs⟩)) (p:Bc cs off v) (q:tf fr dst (v) za) (h:K za ds w):Pd P (Oper.mk dst (.field T x i) ty pos after g) fr ds w K Q:=xa (PF j k l m n o p) q h
theorem Rr {x y:Operand}{b o len cap:Nat}{k:IntKind}{i:Int}{e:TypeId}{a:Nat}(c:P.underlying T=some (.slice e)) (d:Nc P e Gf Kd n m) (f:rb fr x (.slice (some ⟨b,o,none⟩) len cap)) (h:rb fr y (.int k i)) (gb:0≤i∧i<len) (j:o+i.toNat*n=a):ef P (Oper.mk dst (.indexAddr T x y) ty pos after g) fr ((.pointer (some ⟨b,a,none⟩))):=by
 subst j;refine ⟨fun ds w=>?_⟩;simp [execOp,f ds,h ds,Instr.indexAt,asIntOf,run_underlying c,gb,d.sizeOf,ek]
theorem ui {x:Operand}{a:Addr}(b:rb fr x (.pointer (some a))):ef P (Oper.mk dst (.nilCheck x) ty pos after g) fr ((.pointer (some a))):=⟨fun ds w=>by simp [execOp,b ds]⟩
theorem tn {x:Operand}{a:Addr}(b:rb fr x (.pointer (some a))) (c:tf fr dst ((.pointer (some a))) za) (h:K za ds w):Pd P (Oper.mk dst (.nilCheck x) ty pos after g) fr ds w K Q:=xa (ui b) c h
end
end Go.vc
namespace Go.vc
open Go.RowKit
section
variable {P:Program}{Q:Exit→Act→World→Prop}{K:List Value→List Deferred→World→Prop}{fr za:List Value}{ds:List Deferred}{w:World}
variable {dst:Option Tmp}{ty:TypeId}{pos:String}{after:Array Edge}{g:Option (Nat×Bool)}
variable {S Sd:Nat→Prop}{w0:World}{rs rs':List Gb}{A:World→Prop}
variable {T:TypeId}{d:TypeDesc}{Gf:Bool}{Kd:List Value}{n m:Nat}
inductive ia:List Gb→Nat→List Gb→Prop where
 | z {r:Gb} {rs:List Gb}:ia (r::rs) 0 rs
 | s {r:Gb} {rs rs':List Gb} {k:Nat} (h:ia rs k rs'):ia (r::rs) (k+1) (r::rs')
theorem ia.mem {k:Nat}(h:ia rs k rs'):∀ r ∈ rs',r ∈ rs:=by
 induction h with
 | z=>intro r a; exact List.mem_cons_of_mem _ a
 | s _ b=>intro r a; rcases List.mem_cons.1 a with rfl | a; exact List.mem_cons_self; exact List.mem_cons_of_mem _ (b r a)
theorem ia.sub {k:Nat}(h:ia rs k rs'):rs'.Sublist rs:=by
 induction h with
 | z=>exact List.sublist_cons_self _ _
 | s _ a=>exact a.cons_cons _
theorem Sep.drop {k:Nat}(h:Sep S Sd w0 w rs A) (a:ia rs k rs'):Sep S Sd w0 w rs' A where
 keeps:=h.keeps
 all r d:=h.all r (a.mem r d)
 oi:=(a.sub.filterMap _).nodup h.oi
 new b e:=h.new b ((a.sub.filterMap _).subset e)
 Hi:=h.Hi.mono fun _ _ c=>⟨c.1,fun hm=>c.2 ((a.sub.filterMap _).subset hm)⟩
theorem Sep.freeze {k:Nat}{r:Gb}{B:World→Prop}(h:Sep S Sd w0 w rs A) (a:Bc rs k r) (d:ia rs k rs') (f:∀ b,r.block=some b→Sd b∨w0.heap.size≤b) (g:∀ w,r.holds w→B w) :
  Sep S Sd w0 w rs' fun w=>A w∧B w where
 keeps:=(h.drop d).keeps
 all:=(h.drop d).all
 oi:=(h.drop d).oi
 new:=(h.drop d).new
 Hi:=(h.drop d).Hi.and fun w' l i=>g w' (holds_of (h.get a) fun b e=>i b (h.lt (hn (Xu a) e)) ⟨f b e,by
  intro hm;have:blocks rs'=(blocks rs).erase b∨True:=.inr trivial;clear this;have tb:=h.oi;clear g f l i h;unfold blocks at hm tb;unfold Bc at a
  induction d with
  | z=>simp at a; subst a; simp only [List.filterMap_cons,e,List.nodup_cons] at tb; exact tb.1 hm
  | @s r' rs rs' k d j =>
   simp at a;cases hc:r'.block with
   | none=>simp only [List.filterMap_cons,hc] at hm tb; exact j a hm tb
   | some c =>
    simp only [List.filterMap_cons,hc,List.nodup_cons,List.mem_cons] at hm tb;rcases hm with rfl | hm
    ·exact tb.1 (List.mem_filterMap.2 ⟨r,List.mem_of_getElem? a,e⟩)
    ·exact j a hm tb.2⟩)
inductive Hc (fr:List Value):Nat→List (Nat×Operand)→List Value→Prop where
 | z {i:Nat}:Hc fr i [] []
 | s {i:Nat} {x:Operand} {v:Value} {xs:List (Nat×Operand)} {vs:List Value} (h:rb fr x v) (hc:Od v=true) (t:Hc fr (i+1) xs vs):Hc fr i ((i,x)::xs) (v::vs)
theorem Hc.eval {i:Nat}{xs:List (Nat×Operand)}{vs:List Value}(h:Hc fr i xs vs):xs.map (fun p=>(p.1,(F fr ds).eval p.2))=(vs.zipIdx i).map fun p=>(p.2,p.1):=by
 induction h with
 | z=>rfl
 | s h _ _ a=>simp [h ds,a]
theorem Hc.cell {i:Nat}{xs:List (Nat×Operand)}{vs:List Value}(h:Hc fr i xs vs):∀ v ∈ vs,Od v=true:=by
 induction h with
 | z=>simp
 | s _ hc _ b=>intro v a; rcases List.mem_cons.1 a with rfl | a; exact hc; exact b v a
theorem Vw {v:Value}(h:Od v=true):v.cells=#[v]:=by cases v<;>first | rfl | simp [Od] at h
theorem tA (pl:Nat→Option (Nat×Nat)) (a:∀ i,pl i=some (i,1)):∀ (vs:List Value) (i:Nat) (cs:List Value),(∀ v ∈ vs,Od v=true)→i+vs.length≤cs.length →
  Instr.fill pl ⟨cs⟩ ((vs.zipIdx i).map fun p=>(p.2,p.1))=some ⟨cs.take i++vs++cs.drop (i+vs.length)⟩
 | [],i,cs,_,h=>by simp [Instr.fill]
 | v::vs,i,cs,b,h=>by
  have hc:=Vw (b v (by simp));have d:i<cs.length:=by simp at h;omega
  have e:=tA pl a vs (i+1) (cs.set i v) (fun u hu=>b u (by simp [hu])) (by simp at h ⊢;omega);simp only [List.zipIdx_cons,List.map_cons,Instr.fill,a,hc];have Sa:¬ ((#[v].size≠1 || i+#[v].size > (⟨cs⟩:Array Value).size)=true):=by simp;omega
  rw [if_neg Sa];have ra:(#[v].zipIdx.foldl (fun cs (c,j)=>cs.setIfInBounds (i+j) c) (⟨cs⟩:Array Value))=⟨cs.set i v⟩:=by
   simp [Array.zipIdx]
  rw [ra,e];have f:(cs.set i v).take (i+1)=cs.take i++[v]:=by
   rw [List.take_set,List.take_add_one,List.getElem?_eq_getElem d];rw [List.set_append_right _ _ (by simp;omega)];simp [Nat.min_eq_left (Nat.le_of_lt d)]
  have g:(cs.set i v).drop (i+1+vs.length)=cs.drop (i+(v::vs).length):=by
   rw [List.drop_set_of_lt (by omega)];congr 1;simp;omega
  rw [f,g];simp
theorem Pf {e:TypeId}{len:Nat}{xs:List (Nat×Operand)}{vs:List Value}(l:P.underlying T=some (.slice e)) (a:Nc P e Gf Kd 1 m) (c:Hc fr 0 xs vs) (d:vs.length=len) (n:(decide (len≤16777216))=true) (o:Sep S Sd w0 w rs A)
  (h:∀ b w',w.heap.size≤b→Sep S Sd w0 w' (.ba b e vs::rs) A→Rg fr dst (.slice (some ⟨b,0,none⟩) len len) fun za=>K za ds w'):Pd P (Oper.mk dst (.buildSlice T len ⟨xs⟩) ty pos after g) fr ds w K Q:=by
 obtain ⟨za,tb⟩:=Mh fr dst (.slice (some ⟨w.heap.size,0,none⟩) len len);refine eh (v:=.slice (some ⟨w.heap.size,0,none⟩) len len) (w':=w.alloc (.cells ⟨vs⟩ e)) ?_ tb (h _ _ (Nat.le_refl _) (o.alloc rfl (heap_alloc_new w _)) za tb);obtain ⟨z,q,hc⟩:=a.zero (w:=w);have r:=a.sizeOf (w:=w);have s:¬ (len*1 > 2 ^ 24):=by have:=of_decide_eq_true n;omega
 have t:=c.eval (ds:=ds);have f:∀ cs:Array Value,cs.size=len→Instr.fill (fun i=>some (i*1,1)) cs ((vs.zipIdx 0).map fun p=>(p.2,p.1))=some ⟨vs⟩:=by
  intro cs j;have:=tA (fun i=>some (i*1,1)) (fun i=>by rw [Nat.mul_one]) vs 0 cs.toList c.cell (by simp [d,j]);rw [this,List.drop_eq_nil_of_le (by simp [d,j])];simp
 have u:((⟨xs⟩:Array (Nat×Operand)).map fun (i,x)=>(i,(F fr ds).eval x)).toList=(vs.zipIdx 0).map fun p=>(p.2,p.1):=by
  simp only [Array.toList_map];exact t
 unfold execOp;simp only [Instr.buildSlice,Sem.run_bind,run_underlying l,Result.andThen_ok,r,if_neg s,u];by_cases k:len*1=0
 ·simp only [if_pos k,Sem.run_bind,Sem.run_pure,Result.andThen_ok];rw [f _ (by simp)];simp [newRow]
 ·simp only [if_neg k,Sem.run_bind,Sem.run_pure,Result.andThen_ok,q];rw [f _ (by simp)];simp [newRow]
theorem Sep.row {k:Nat}{v s:Value}{sz x:Nat}{xs y:List Value}{w':World}(f:Sep S Sd w0 w rs A) (g:Bc rs k (.row v T sz n xs)) (D:wc rs k (.row s T sz x y) rs') (G:Row w' s T sz x y)
  (p:gi (fun b=>some b≠v.ownBlock) w w') (q:s.ownBlock=v.ownBlock∨∃ b,s.ownBlock=some b∧w.heap.size≤b):Sep S Sd w0 w' rs' A:=by
 unfold wc at D;subst D;have z:∀ b,v.ownBlock=some b→b ∈ blocks rs:=fun b d=>hn (Xu g) d;have B:∀ b ∈ blocks (rs.set k (.row s T sz x y)),(b ∈ blocks rs)∨(s.ownBlock=some b∧w.heap.size≤b):=by
  intro b d;obtain ⟨r,u,o⟩:=List.mem_filterMap.1 d;rcases List.mem_or_eq_of_mem_set u with hm | rfl
  ·exact .inl (hn hm o)
  ·rcases q with q | ⟨c,hc,hle⟩
   ·exact .inl (z b (q ▸ o))
   ·have:c=b:=by simpa [Gb.block,hc] using o
    subst this;exact .inr ⟨hc,hle⟩
 have H:∀ b ∈ blocks rs,b ∈ blocks (rs.set k (.row s T sz x y))∨v.ownBlock=some b:=by
  intro b d;obtain ⟨r,u,o⟩:=List.mem_filterMap.1 d;obtain ⟨j,C⟩:=List.mem_iff_getElem?.1 u;by_cases e:k=j
  ·subst e;unfold Bc at g;rw [g] at C;cases C;exact .inr o
  ·exact .inl (hn (r:=r) (List.mem_of_getElem? (i:=j) (by rw [List.getElem?_set_ne e];exact C)) o)
 refine ⟨?_,?_,?_,?_,?_⟩
 ·refine ⟨p.os.trans f.keeps.os,p.tape.trans f.keeps.tape,p.output.trans f.keeps.output,Nat.le_trans f.keeps.size p.size,fun b d t=>?_⟩;rw [p.ba b (Nat.lt_of_lt_of_le d f.keeps.size) (fun e=>by rcases f.new b (z b e.symm) with h | h;exact absurd d (by omega);exact h t)];exact f.keeps.ba b d t
 ·intro K M;obtain ⟨j,hm⟩:=List.mem_iff_getElem?.1 M;by_cases e:k=j
  ·subst e;have m:k<rs.length:=(List.getElem?_eq_some_iff.1 g).1;rw [List.getElem?_set_self m] at hm;cases hm;exact G
  ·rw [List.getElem?_set_ne e] at hm;refine holds_of (f.all K (List.mem_of_getElem? hm)) fun c hc=>p.ba c (f.lt (hn (List.mem_of_getElem? hm) hc)) fun N=>?_;exact Oz f.oi g hm e (b:=c) N.symm hc
 ·have tb:=f.oi;have m:=fun b (d:b ∈ blocks rs)=>f.lt d;clear B H z;unfold Bc at g
  revert g tb m
  generalize rs=l;unfold blocks;intro g tb m
  induction l generalizing k with
  | nil=>simp at g
  | cons a l E =>
   cases k with
   | zero =>
    simp at g;subst g;simp only [List.set_cons_zero,List.filterMap_cons,Gb.block] at tb m ⊢;rcases q with q | ⟨c,hc,hle⟩
    ·rw [q];exact tb
    ·rw [hc];cases d:v.ownBlock with
     | none =>
      rw [d] at tb m;exact List.nodup_cons.2 ⟨fun hm=>by have:=m c hm;omega,tb⟩
     | some b =>
      rw [d] at tb m;exact List.nodup_cons.2 ⟨fun hm=>by have:=m c (List.mem_cons_of_mem _ hm);omega,(List.nodup_cons.1 tb).2⟩
   | succ k =>
    simp at g;simp only [List.set_cons_succ,List.filterMap_cons] at tb m ⊢;cases F:a.block with
    | none=>rw [F] at tb m; exact E g tb m
    | some c =>
     rw [F] at tb m;simp only [List.nodup_cons] at tb ⊢;refine ⟨fun hm=>?_,E g tb.2 fun b d=>m b (List.mem_cons_of_mem _ d)⟩;obtain ⟨r,u,o⟩:=List.mem_filterMap.1 hm;rcases List.mem_or_eq_of_mem_set u with hm | rfl
     ·exact tb.1 (List.mem_filterMap.2 ⟨r,hm,o⟩)
     ·rcases q with q | ⟨c',O,hle⟩
      ·exact tb.1 (List.mem_filterMap.2 ⟨_,List.mem_of_getElem? g,by rw [← o];exact q.symm⟩)
      ·have:c'=c:=by simpa [Gb.block,O] using o
       have:=m c (by simp);omega
 ·intro b d;rcases B b d with h | h
  ·exact f.new b h
  ·exact .inl (Nat.le_trans f.keeps.size h.2)
 ·intro P Q R;refine f.Hi P (Nat.le_trans p.size Q) fun b d t=>?_;rw [R b (Nat.lt_of_lt_of_le d p.size) ⟨t.1,fun hm=>by rcases B b hm with h | h;exact t.2 h;exact absurd d (by omega)⟩];exact p.ba b d fun e=>t.2 (z b e.symm)
end
section
variable {P:Program}{Q:Exit→Act→World→Prop}{K:List Value→List Deferred→World→Prop}{fr za:List Value}{ds:List Deferred}{w:World}
variable {dst:Option Tmp}{ty:TypeId}{pos:String}{after:Array Edge}{g:Option (Nat×Bool)}
variable {S Sd:Nat→Prop}{w0:World}{rs rs':List Gb}{A:World→Prop}
variable {T:TypeId}{d:TypeDesc}{Gf:Bool}{Kd:List Value}{n m:Nat}
theorem NC {t ty:TypeId}{sz bytes:Nat}(q:P.underlying t=some (.slice T)) (K:Nc P T Gf Kd sz bytes) (M:Kd.length=sz) (hc:0<sz)
  {v:Value}{xs:List Value}(l:Row w v T sz n xs) {a:Addr}{m c:Nat}{news:List Value}(f:news.length=m*sz) (s:∀ j u,news[j]?=some u→w.cell? (a.add j)=some u) (N:∀ u ∈ news,u.oneCell'=true)
  (C:n+m≤maxLen) (D:(n+m)*bytes≤140737488355328) :
  ∃ r w',(Builtin.append_ #[t,t] ty #[v,.slice (some a) m c]).run P w=.ok r w'∧Row w' r T sz (n+m) (xs++news)∧gi (fun b=>some b≠v.ownBlock) w w' ∧
   (r.ownBlock=v.ownBlock∨∃ b,r.ownBlock=some b∧w.heap.size≤b):=by
 obtain ⟨i,z,gb,E,O,F,Q⟩:=K.inf;have R:z.cells.size=i.size:=by rw [O,F];simpa using M
 subst F;subst Q;have lc:n+m≤9223372036854775807:=by simp only [maxLen] at C;omega
 have hlen:(xs++news).length=(n+m)*i.size:=by rw [List.length_append,l.1,f,Nat.add_mul]
 have grown:∀ (d:Nat),d<n+m→∀ (row:Option Nat),
   Row (w.drew.alloc (.cells (xs.toArray++news.toArray++Builtin.zeroCells z.cells (grownCap w (n+m) d T - (n+m))) T)) (.slice (some ⟨w.heap.size,0,none⟩) (n+m) (grownCap w (n+m) d T)) T i.size (n+m) (xs++news) ∧
   gi (fun b=>some b≠row) w (w.drew.alloc (.cells (xs.toArray++news.toArray++Builtin.zeroCells z.cells (grownCap w (n+m) d T - (n+m))) T)):=by
  intro d rc row;have S:=grownCap_ge w (n+m) d T;have x:grownCap w (n+m) d T≤maxLen:=grownCap_le_maxLen w (n+m) d T C;refine ⟨⟨hlen,.inr ⟨w.heap.size,0,_,_,rfl,heap_alloc_new w.drew _,S,x,?_,?_⟩⟩,⟨rfl,rfl,rfl,by simp,fun k y _=>heap_alloc_old w.drew _ k y⟩⟩
  ·simp only [Array.size_append,List.size_toArray,size_zeroCells,R,l.1,f,← Nat.add_mul,Nat.zero_add];exact Nat.mul_le_mul_right _ (by omega)
  ·simp only [Array.toList_append,List.append_assoc,List.drop_zero];rw [← List.append_assoc,← hlen];exact List.take_left
 rcases l.2 with ⟨rfl,rfl⟩ | ⟨g,o,cap,cur,rfl,A,fd,x,id,G⟩
 ·have U:xs=[]:=List.eq_nil_of_length_eq_zero (by simpa using l.1);subst U;by_cases hm:m=0
  ·subst hm;have W:news=[]:=List.eq_nil_of_length_eq_zero (by simpa using f);subst W;refine ⟨.slice none 0 0,w,?_,⟨by simp,.inl ⟨rfl,rfl⟩⟩,.refl w,.inl rfl⟩;simp [Builtin.append_,run_underlying q,sizeOf,typeInfo,gb,Builtin.lenOf,Builtin.firstCells,loadCells,loadCellsFrom]
  ·have p:=run_append_nil (P:=P) w t ty T i z q gb E a m c news f s (by omega) (by omega) (by have X:=D;simp only [Nat.zero_add] at X;omega);have h:=grown 0 (by omega) (Value.ownBlock (.slice none 0 0));simp only [Nat.zero_add,List.nil_append,Array.empty_append] at h ⊢;exact ⟨_,_,p,h.1,h.2,.inr ⟨_,rfl,Nat.le_refl _⟩⟩
 ·by_cases B:n+m≤cap
  ·have hmul:n*i.size+news.length≤cap*i.size:=by rw [f,← Nat.add_mul];exact Nat.mul_le_mul_right _ B
   have Y:o+n*i.size+news.length≤cur.size:=by omega
   have p:(Builtin.append_ #[t,t] ty #[.slice (some ⟨g,o,none⟩) n cap,.slice (some a) m c]).run P w =
     .ok (.slice (some ⟨g,o,none⟩) (n+m) cap) (w.setRow g (cur.toList.take (o+n*i.size)++news++cur.toList.drop (o+n*i.size+news.length)).toArray):=by
    have Z:=run_firstCells_some (P:=P) w i.size m a m c news f s;have H:=run_storeCells_at P g (o+n*i.size) T news 0 cur w A (by simpa using Y) N;simp only [Nat.add_zero] at H;simp [Builtin.append_,run_underlying q,sizeOf,typeInfo,gb,Builtin.lenOf,B,Z,ek,H]
   refine ⟨_,_,p,⟨hlen,.inr ⟨g,o,cap,_,rfl,setRow_heap w g cur _ T _ A,B,x,?_,?_⟩⟩,⟨rfl,rfl,rfl,by simp [World.setRow],fun k _ y=>setRow_other w g k _ (fun e=>y (by simp [Value.ownBlock,e]))⟩,.inl rfl⟩
   ·simp only [List.size_toArray,List.length_append,List.length_take,List.length_drop,Array.length_toList];omega
   ·rw [← hlen,← G];have ra:(cur.toList.take (o+n*i.size)).drop o=(cur.toList.drop o).take (n*i.size):=by
     rw [List.drop_take];congr 1;omega
    have gc:o≤(cur.toList.take (o+n*i.size)).length:=by simp;omega
    rw [List.append_assoc,List.drop_append_of_le_length gc,ra,← List.append_assoc];exact List.take_left
  ·have holds:∀ j u,xs[j]?=some u→w.cell? ((⟨g,o,none⟩:Addr).add j)=some u:=by
    intro j u hu;rw [ek,cell_of_row w g (o+j) cur T (0,0) A];rw [← G,List.getElem?_take] at hu;split at hu
    ·rw [List.getElem?_drop] at hu;simpa using hu
    ·cases hu
   have p:=run_append_grow (P:=P) w t ty T i z q gb E ⟨g,o,none⟩ n cap xs l.1 holds a m c news f s (by omega) (by omega) (growslice_fits (by omega) D);have h:=grown cap (by omega) (Value.ownBlock (.slice (some ⟨g,o,none⟩) n cap));exact ⟨_,_,p,h.1,h.2,.inr ⟨_,rfl,Nat.le_refl _⟩⟩
theorem Sep.Rh (h:Sep S Sd w0 w rs A) (T:TypeId) (sz:Nat):Sep S Sd w0 w (.row (.slice none 0 0) T sz 0 []::rs) A where
 keeps:=h.keeps
 all r a:=by
  rcases List.mem_cons.1 a with rfl | a
  ·exact ⟨by simp,.inl ⟨rfl,rfl⟩⟩
  ·exact h.all r a
 oi:=h.oi
 new:=h.new
 Hi:=h.Hi
theorem gr {t:TypeId}{s x:Operand}{v:Value}{sz bytes k b o e c:Nat}{xs news:List Value}(p:P.underlying t=some (.slice T)) (q:Nc P T Gf Kd sz bytes) (f:(Kd.length == sz && decide (0<sz))=true)
  (r:rb fr s v) (y:rb fr x (.slice (some ⟨b,o,none⟩) e c)) (i:Sep S Sd w0 w rs A) (l:Bc rs k (.row v T sz n xs)) (z:bj w b o news) (hlen:news.length=e*sz) (B:news.all Od=true)
  (m:n+e≤4294967296∧bytes≤4096)
  (h:∀ d w' rs',wc rs k (.row d T sz (n+e) (xs++news)) rs'→Sep S Sd w0 w' rs' A→Rg fr dst d fun za=>K za ds w') :
  Pd P (Oper.mk dst (.call { callee:=.builtin .append,args:=#[s,x],argTypes:=#[t,t] }) ty pos after g) fr ds w K Q:=by
 simp only [Bool.and_eq_true,beq_iff_eq,decide_eq_true_eq] at f;have C:(n+e)*bytes≤140737488355328:=Nat.le_trans (Nat.mul_le_mul m.1 m.2) (by decide);obtain ⟨d,w',D,E,F,G⟩:=NC (P:=P) (ty:=ty) p q f.1 f.2 (i.get l) (a:=⟨b,o,none⟩) (c:=c) hlen (fun j u hu=>by rw [ek];exact z j u hu) (fun u hu=>ou (List.all_eq_true.1 B u hu)) (by unfold maxLen;omega) C;obtain ⟨za,tb⟩:=Mh fr dst d;refine eh (v:=d) (w':=w') ?_ tb (h d w' _ rfl (i.row l rfl E F G) za tb);have ra:=r ds;have H:=y ds;simp [execOp,resolve,invoke,builtin,ra,H,D]
inductive Aq (P:Program) (fr:List Value) (w:World):ResultVar→Value→Prop where
 | t {n:Nat} {v:Value} (h:Bc fr n v):Aq P fr w (.tmp n) v
 | c {n b o:Nat} {v:Value} {T:TypeId} {Kd:List Value} {k m:Nat} (h:Bc fr n (.pointer (some ⟨b,o,none⟩))) (d:Nc P T false Kd k m) (hc:w.cell? ⟨b,o,none⟩=some v):Aq P fr w (.cell n T) v
 | a {n b o:Nat} {cs:List Value} {T:TypeId} {Kd:List Value} {k m:Nat} (h:Bc fr n (.pointer (some ⟨b,o,none⟩))) (d:Nc P T true Kd k m) (hc:bj w b o cs) (e:cs.length=k):Aq P fr w (.cell n T) (.agg ⟨cs⟩)
inductive bc (P:Program) (fr:List Value) (w:World):List ResultVar→List Value→Prop where
 | z:bc P fr w [] []
 | s {r:ResultVar} {v:Value} {rs:List ResultVar} {vs:List Value} (h:Aq P fr w r v) (t:bc P fr w rs vs):bc P fr w (r::rs) (v::vs)
def fq (tmps:Array Value):ResultVar→Sem Value
 | .tmp t=>pure (tmps.getD t undef)
 | .cell a t=>do loadVar t (← asAddr (tmps.getD a undef))
theorem GD (fn:Func) (tmps:Array Value):results fn tmps=(do
  let vs ← fn.results.mapM (fq tmps)
  pure (if h:vs.size=1 then vs[0] else .tuple vs)):=by
 unfold results;congr 1
theorem Aq.run {r:ResultVar}{v:Value}(h:Aq P fr w r v):(fq (F fr ds).tmps r).run P w=.ok v w:=by
 cases h with
 | t h=>unfold Bc at h; simp [fq,F,h]
 | c h d hc=>unfold Bc at h; simp [fq,F,h,asAddr,loadVar,d.isAgg,hc]
 | a h d hc f =>
  unfold Bc at h;rename_i n b o cs T Kd k m;have e:=run_loadCells_list (P:=P) w ⟨b,o,none⟩ cs (fun j v g=>by rw [ek];exact hc j v g);rw [f] at e;simp [fq,F,h,asAddr,loadVar,d.isAgg,d.sizeOf,e]
theorem bc.run {rs:List ResultVar}{vs:List Value}(h:bc P fr w rs vs):(rs.mapM (fq (F fr ds).tmps)).run P w=.ok vs w:=by
 induction h with
 | z=>simp
 | @s r v rs vs h _ a =>
  have b:=h.run (ds:=ds);simp only [List.mapM_cons,Sem.run_bind];rw [b];simp only [Result.andThen_ok];rw [a];simp
def tq:List Value→Value
 | [v]=>v
 | vs=>.tuple ⟨vs⟩
theorem Pz {fn:Func}{a:List ResultVar}{vs:List Value}(b:fn.results=⟨a⟩) (h:bc P fr w a vs):(results fn (F fr ds).tmps).run P w=.ok (tq vs) w:=by
 have hm:=h.run (ds:=ds);rw [GD,b];rw [Array.mapM_eq_mapM_toList];simp only [Sem.run_bind,Sem.run_map,hm,Result.andThen_ok]
 match vs with
 | []=>simp [tq]
 | [v]=>simp [tq]
 | v::c::vs=>simp [tq]
theorem Kf {fn:Func}{R:Value→World→Prop}{a:List ResultVar}{vs:List Value}(b:fn.results=⟨a⟩) (c:bc P fr w a vs) (h:R (tq vs) w):Tn P fn R .ret (F fr []) w :=
 bodyPost_ret (Pz b c) rfl h
end
end Go.vc
namespace Go.vc
open Go.RowKit
section
variable {P:Program}{Q:Exit→Act→World→Prop}{K:List Value→List Deferred→World→Prop}{fr za:List Value}{ds:List Deferred}{w:World}
variable {dst:Option Tmp}{ty:TypeId}{pos:String}{after:Array Edge}{g:Option (Nat×Bool)}
variable {S Sd:Nat→Prop}{w0:World}{rs rs':List Gb}{A:World→Prop}
variable {T:TypeId}{d:TypeDesc}{Gf:Bool}{Kd:List Value}{n m:Nat}
theorem Sep.ba {k b:Nat}{cs:List Value}(h:Sep S Sd w0 w rs A) (a:Bc rs k (.ba b T cs)):ej w b T cs:=h.get a
inductive wg:List Value→Nat→List Value→Prop where
 | z {cs:List Value} {o:Nat}:wg cs o []
 | s {cs:List Value} {o:Nat} {v:Value} {vs:List Value} (h:Bc cs o v) (t:wg cs (o+1) vs):wg cs o (v::vs)
theorem wg.at {cs:List Value}{o:Nat}{vs:List Value}(h:wg cs o vs):∀ j v,vs[j]?=some v→cs[o+j]?=some v:=by
 induction h with
 | z=>intro j v h; simp at h
 | @s o v vs h t b =>
  intro j u a;cases j with
  | zero=>simp at a; subst a; exact h
  | succ j=>have:=b j u (by simpa using a); rw [show o+(j+1)=o+1+j by omega]; exact this
theorem ej.Am {b o:Nat}{cs vs:List Value}(h:ej w b T cs) (a:wg cs o vs):bj w b o vs:=fun j v c=>h.cell (a.at j v c)
theorem Qe {x y:Operand}{b o k:Nat}{v:Value}{cs a:List Value}(f:Nc P T Gf Kd 1 m) (i:rb fr x (.pointer (some ⟨b,o,none⟩))) (j:rb fr y v) (c:Od v=true)
  (l:Sep S Sd w0 w rs A) {d:TypeId}(n:Bc rs k (.ba b d cs)) (p:wc cs o v a) (e:(decide (o<cs.length))=true) (q:wc rs k (.ba b d a) rs')
  (tb:tf fr dst undef za) (h:∀ w',Sep S Sd w0 w' rs' A→K za ds w'):Pd P (Oper.mk dst (.store T x y) ty pos after g) fr ds w K Q :=
 Ho (vs:=[v]) f i j (Vw c) rfl (by simp [c]) l n (.s p (of_decide_eq_true e) .z) (decide_eq_true (Nat.le_of_lt (of_decide_eq_true e))) q tb h
structure hh (P:Program) (T:TypeId) (pl:Array (Nat×Nat)):Prop where
 out:∃ a,P.underlying T=some (.struct a)∧∀ w,((a.mapM fun f=>do pure (f.offset,← Go.sizeOf f.type):Sem (Array (Nat×Nat))).run P w)=.ok pl w
theorem wh {a:Array Field}{pl:Array (Nat×Nat)}(hu:P.underlying T=some (.struct a)) (h:∀ w,((a.mapM fun f=>do pure (f.offset,← Go.sizeOf f.type):Sem (Array (Nat×Nat))).run P w)=.ok pl w):hh P T pl:=⟨a,hu,h⟩
inductive Oa (fr:List Value) (pl:Array (Nat×Nat)):List Value→List (Nat×Operand)→List Value→Prop where
 | z {cs:List Value}:Oa fr pl cs [] cs
 | o {cs cs1 out:List Value} {i off:Nat} {x:Operand} {v:Value} {xs:List (Nat×Operand)} (gb:pl[i]?=some (off,1)) (a:rb fr x v) (d:Od v=true) (b:decide (off<cs.length)=true) (c:wc cs off v cs1) (t:Oa fr pl cs1 xs out):Oa fr pl cs ((i,x)::xs) out
 | n {cs cs1 out vs:List Value} {i off n:Nat} {x:Operand} {xs:List (Nat×Operand)} (gb:pl[i]?=some (off,n)) (a:rb fr x (.agg ⟨vs⟩)) (e:vs.length=n) (b:decide (off+n≤cs.length)=true) (c:kf cs off vs cs1) (t:Oa fr pl cs1 xs out):Oa fr pl cs ((i,x)::xs) out
theorem Bs:∀ (vs:List Value) (off j:Nat) (cs:List Value),off+j+vs.length≤cs.length →
  ((vs.zipIdx j).foldl (fun (cs:Array Value) (p:Value×Nat)=>cs.setIfInBounds (off+p.2) p.1) ⟨cs⟩)=⟨cs.take (off+j)++vs++cs.drop (off+j+vs.length)⟩
 | [],off,j,cs,_=>by simp
 | v::vs,off,j,cs,h=>by
  have a:off+j<cs.length:=by simp at h;omega
  rw [List.zipIdx_cons,List.foldl_cons];have Sa:(⟨cs⟩:Array Value).setIfInBounds (off+j) v=⟨cs.set (off+j) v⟩:=by simp
  simp only [Sa];rw [Bs vs off (j+1) (cs.set (off+j) v) (by simp at h ⊢;omega)];have b:(cs.set (off+j) v).take (off+(j+1))=cs.take (off+j)++[v]:=by
   rw [show off+(j+1)=off+j+1 by omega,List.take_set,List.take_add_one,List.getElem?_eq_getElem a];rw [List.set_append_right _ _ (by simp;omega)];simp [Nat.min_eq_left (Nat.le_of_lt a)]
  have c:(cs.set (off+j) v).drop (off+(j+1)+vs.length)=cs.drop (off+j+(v::vs).length):=by
   rw [List.drop_set_of_lt (by omega)];congr 1;simp;omega
  rw [b,c];simp
theorem Oa.run {pl:Array (Nat×Nat)}{cs out:List Value}{xs:List (Nat×Operand)}(h:Oa fr pl cs xs out):Instr.fill (pl[·]?) ⟨cs⟩ (xs.map fun p=>(p.1,(F fr ds).eval p.2))=some ⟨out⟩:=by
 induction h with
 | z=>rfl
 | @o cs cs1 out i off x v xs gb b f d a t e =>
  have g:=of_decide_eq_true d;simp only [List.map_cons,Instr.fill,gb,b ds,Vw f];have Sa:¬ ((#[v].size≠1 || off+#[v].size > (⟨cs⟩:Array Value).size)=true):=by simp;omega
  rw [if_neg Sa];have ra:(#[v].zipIdx.foldl (fun cs (c,j)=>cs.setIfInBounds (off+j) c) (⟨cs⟩:Array Value))=⟨cs1⟩:=by
   unfold wc at a;subst a;simp [Array.zipIdx]
  rw [ra];exact e
 | @n cs cs1 out vs i off n x xs gb b k d a t e =>
  have g:=of_decide_eq_true d;simp only [List.map_cons,Instr.fill,gb,b ds];have Sa:¬ (((Value.agg ⟨vs⟩).cells.size≠n || off+(Value.agg ⟨vs⟩).cells.size > (⟨cs⟩:Array Value).size)=true):=by simp [Value.cells,k];omega
  rw [if_neg Sa];have ra:((Value.agg ⟨vs⟩).cells.zipIdx.foldl (fun cs (c,j)=>cs.setIfInBounds (off+j) c) (⟨cs⟩:Array Value))=⟨cs1⟩:=by
   have:=Bs vs off 0 cs (by omega);rw [a.res (by omega)];simp only [Nat.add_zero] at this;rw [← this];rw [← Array.foldl_toList];simp [Value.cells]
  rw [ra];exact e
theorem Nd {pl:Array (Nat×Nat)}{xs:List (Nat×Operand)}{out:List Value}(a:Nc P T Gf Kd n m) (b:hh P T pl) (c:Oa fr pl Kd xs out) (d:tf fr dst (.agg ⟨out⟩) za) (h:K za ds w) :
  Pd P (Oper.mk dst (.build T ⟨xs⟩) ty pos after g) fr ds w K Q:=by
 refine eh (v:=.agg ⟨out⟩) (w':=w) ?_ d h;obtain ⟨z,e,hc⟩:=a.zero (w:=w);have f:=c.run (ds:=ds);obtain ⟨o,j,k⟩:=b.out;have hm:=k w;have l:((⟨xs⟩:Array (Nat×Operand)).map fun (i,x)=>(i,(F fr ds).eval x)).toList=xs.map fun p=>(p.1,(F fr ds).eval p.2):=by simp
 unfold execOp;simp only [Instr.build,Sem.run_bind,e,Result.andThen_ok,run_underlying j];rw [hm];simp only [Result.andThen_ok,hc,l];rw [f];simp
theorem nj {e:TypeId}{x:Operand}{cs:List Value}(k:P.underlying T=some (.slice e)) (j:Nc P e Gf Kd n m) (c:(Kd.length == n && decide (0<n) && decide (n≤1000))=true) (l:rb fr x (.agg ⟨cs⟩)) (d:cs.length=n) (o:Sep S Sd w0 w rs A)
  (h:∀ b w',w.heap.size≤b→Sep S Sd w0 w' (.ba b e cs::rs) A→Rg fr dst (.slice (some ⟨b,0,none⟩) 1 1) fun za=>K za ds w'):Pd P (Oper.mk dst (.buildSlice T 1 #[(0,x)]) ty pos after g) fr ds w K Q:=by
 obtain ⟨za,tb⟩:=Mh fr dst (.slice (some ⟨w.heap.size,0,none⟩) 1 1);refine eh (v:=.slice (some ⟨w.heap.size,0,none⟩) 1 1) (w':=w.alloc (.cells ⟨cs⟩ e)) ?_ tb (h _ _ (Nat.le_refl _) (o.alloc rfl (heap_alloc_new w _)) za tb);obtain ⟨z,p,hc⟩:=j.zero (w:=w);have q:=j.sizeOf (w:=w);simp only [Bool.and_eq_true,beq_iff_eq,decide_eq_true_eq] at c;have r:¬ (1*n > 2 ^ 24):=by have:=c.2;omega
 have s:¬ (1*n=0):=by have:=c.1.2;omega
 have t:∀ a:Array Value,a.size=n→Instr.fill (fun i=>some (i*n,n)) a [(0,Value.agg ⟨cs⟩)]=some ⟨cs⟩:=by
  intro a f;simp only [Instr.fill];have Sa:¬ (((Value.agg ⟨cs⟩).cells.size≠n || 0*n+(Value.agg ⟨cs⟩).cells.size > a.size)=true):=by simp [Value.cells,d,f]
  rw [if_neg Sa];congr 1;have u:=Bs cs (0*n) 0 a.toList (by simp [d,f]);rw [← Array.foldl_toList];have ra:(Value.agg ⟨cs⟩).cells.zipIdx.toList=cs.zipIdx 0:=by simp [Value.cells]
  rw [ra];refine u.trans ?_;rw [List.drop_eq_nil_of_le (by simp [d,f])];simp
 have y:(#[(0,x)].map fun (i,x)=>(i,(F fr ds).eval x)).toList=[(0,Value.agg ⟨cs⟩)]:=by simp [l ds]
 unfold execOp;simp only [Instr.buildSlice,Sem.run_bind,run_underlying k,Result.andThen_ok,q,if_neg r,y,if_neg s,Sem.run_pure,p];rw [t _ (by simp)];simp [newRow]
end
theorem Sep.Re {S Sd:Nat→Prop}{w0 w:World}{rs rs':List Gb}{A:World→Prop}{k:Nat}{r:Gb}(h:Sep S Sd w0 w (rs.set k r) A) (a:wc rs k r rs'):Sep S Sd w0 w rs' A:=by
 unfold wc at a;rw [← a];exact h
theorem Sep.drew {S Sd:Nat→Prop}{w0 w w':World}{rs:List Gb}{A:World→Prop}(h:Sep S Sd w0 w rs A) (a:w'.heap=w.heap) (b:w'.os=w.os) (c:w'.tape=w.tape) (hu:w'.output=w.output):Sep S Sd w0 w' rs A :=
 h.grow ⟨b,c,hu,by rw [a];exact Nat.le_refl _,fun k _ _=>by rw [a]⟩
section
variable {P:Program}{Q:Exit→Act→World→Prop}{K:List Value→List Deferred→World→Prop}{fr za:List Value}{ds:List Deferred}{w:World}
variable {dst:Option Tmp}{ty:TypeId}{pos:String}{after:Array Edge}{g:Option (Nat×Bool)}
variable {T:TypeId}
theorem nx (a b:ByteArray):(a == b)=true ↔ a=b:=by
 obtain ⟨x⟩:=a;obtain ⟨y⟩:=b;constructor
 ·intro h;have e:x=y:=by simpa using (show (x == y)=true from h)
  rw [e]
 ·intro h;cases h;show (x == x)=true;simp
structure bo (P:Program) (m:Nat) (T:TypeId) (v a:Value) (b:Bool):Prop where
 out:∀ d w,m≤d→(Op.equalIn d T v a).run P w=.ok b w
theorem eq_int {k c:IntKind}{a b:Int}(hu:P.underlying T=some (.int k)):bo P 1 T (.int c a) (.int c b) (decide (a=b)):=⟨fun d w tb=>by
 cases d with
 | zero=>omega
 | succ d=>simp [Op.equalIn,run_underlying hu]; by_cases h:a=b <;> simp [h]⟩
theorem SG {a b:List UInt8}(hu:P.underlying T=some .string):bo P 1 T (S a) (S b) (decide (a=b)):=⟨fun d w tb=>by
 cases d with
 | zero=>omega
 | succ d =>
  simp only [Op.equalIn,run_underlying hu,S,Sem.run_bind,Result.andThen_ok,Sem.run_pure];congr 1;rw [Bool.eq_iff_iff,nx];simp⟩
def Yl:List Bool→Bool
 | []=>true
 | [b]=>b
 | b::a=>b && Yl a
theorem Ut (b:Bool) (a:List Bool):Yl (b::a)=(b && Yl a):=by cases a<;>simp [Yl]
inductive Tk (P:Program) (m:Nat) (xs ys:List Value):List Field→List Bool→Prop where
 | z:Tk P m xs ys [] []
 | o {f : Field} {cg : List Field} {v d : Value} {b : Bool} {a : List Bool} {T : TypeId} {off : Nat} {Kd : List Value} {n k : Nat} (e : (f.name == "_") = false) (g : f.type = T) (h : f.offset = off) (i : Nc P T false Kd n k) (j : Bc xs off v) (l : Bc ys off d) (he : bo P m T v d b) (t : Tk P m xs ys cg a) : Tk P m xs ys (f :: cg) (b :: a)
 | n {f : Field} {cg : List Field} {vs c : List Value} {b : Bool} {a : List Bool} {T : TypeId} {off : Nat} {Kd : List Value} {n k : Nat} (e : (f.name == "_") = false) (g : f.type = T) (h : f.offset = off) (i : Nc P T true Kd n k) (j : wg xs off vs) (l : wg ys off c) (p : vs.length = n) (q : c.length = n) (he : bo P m T (.agg ⟨vs⟩) (.agg ⟨c⟩) b) (t : Tk P m xs ys cg a) : Tk P m xs ys (f :: cg) (b :: a)
structure Kv (P:Program) (T:TypeId) (cg:List Field):Prop where
 yz:P.underlying T=some (.struct ⟨cg⟩)
 held:P.stoodInHeld T=false
 guard:P.eqGuardType P.depth T=false
theorem uA {Kd:List Value}{n k off:Nat}{xs:List Value}{v:Value}(b:Nc P T false Kd n k) (a:Bc xs off v):(part T ⟨xs⟩ off).run P w=.ok v w:=by
 unfold Bc at a;simp [part,b.isAgg,a]
theorem wg.extract {cs vs:List Value}{o:Nat}(h:wg cs o vs):(cs.drop o).take vs.length=vs:=by
 induction h with
 | z=>simp
 | @s o v vs a t b =>
  unfold Bc at a;have c:o<cs.length:=(List.getElem?_eq_some_iff.1 a).1;rw [List.drop_eq_getElem_cons c,(List.getElem?_eq_some_iff.1 a).2];simp [b]
theorem vA {Kd:List Value}{n k off:Nat}{xs vs:List Value}(a:Nc P T true Kd n k) (b:wg xs off vs) (c:vs.length=n):(part T ⟨xs⟩ off).run P w=.ok (.agg ⟨vs⟩) w:=by
 have:=b.extract;rw [c] at this;simp [part,a.isAgg,a.sizeOf,this]
theorem Tk.run {m:Nat}{xs ys:List Value}{cg:List Field}{e:List Bool}(h:Tk P m xs ys cg e) (d:Nat) (tb:m≤d) :
  (forIn (⟨cg⟩ : Array Field) ((none, ()) : Option Bool × Unit) (fun f _ => (if f.name ≠ "_" then do
     if !(← Op.equalIn d f.type (← part f.type ⟨xs⟩ f.offset) (← part f.type ⟨ys⟩ f.offset)) then pure (ForInStep.done (some false,())) else pure (ForInStep.yield (none,()))
    else pure (ForInStep.yield (none,())):Sem (ForInStep (Option Bool×Unit))))).run P w=.ok (if Yl e then (none,()) else (some false,())) w:=by
 induction h with
 | z=>simp [Yl]
 | @o f cg v u b e T off Kd n k g i j a l p he t c =>
  subst i; subst j;have q : f.name ≠ "_" := by simpa using g
  simp only [List.forIn_toArray] at c ⊢;rw [List.forIn_cons];simp only [ne_eq,q,not_false_eq_true,if_true,Sem.run_bind,uA a l,uA a p,Result.andThen_ok,he.out d w tb];cases b with
  | true=>simpa [Ut] using c
  | false=>simp [Ut]
 | @n f cg vs x b e T off Kd n k g i j a l p r s he t c =>
  subst i; subst j;have q : f.name ≠ "_" := by simpa using g
  simp only [List.forIn_toArray] at c ⊢;rw [List.forIn_cons];simp only [ne_eq,q,not_false_eq_true,if_true,Sem.run_bind,vA a l r,vA a p s,Result.andThen_ok,he.out d w tb];cases b with
  | true=>simpa [Ut] using c
  | false=>simp [Ut]
theorem TG {m:Nat}{xs ys:List Value}{cg:List Field}{a:List Bool}(b:Kv P T cg) (h:Tk P m xs ys cg a):bo P (m+1) T (.agg ⟨xs⟩) (.agg ⟨ys⟩) (Yl a):=⟨fun d w tb=>by
 cases d with
 | zero=>omega
 | succ d =>
  have:=h.run (w:=w) d (by omega);simp only [Op.equalIn,Sem.run_bind,run_underlying b.yz,Result.andThen_ok];rw [show (program).run P w=.ok P w from rfl];simp only [Result.andThen_ok,b.held,Bool.false_eq_true,if_false,Sem.run_bind];rw [this];cases Yl a<;>rfl⟩
def Zy (v:Value) (n:Nat):Prop:=∃ a c,v=.slice a n c
theorem Og {x:Operand}{t e:TypeId}{v:Value}{n:Nat}(b:P.underlying t=some (.slice e)) (d:rb fr x v) (f:Zy v n):ef P (Oper.mk dst (.call { callee:=.builtin .len,args:=#[x],argTypes:=#[t] }) ty pos after g) fr ((.int .i64 n)):=by
 obtain ⟨a,c,rfl⟩:=f;exact nd b d
theorem jy {x:Operand}{t e:TypeId}{v:Value}{n:Nat}(a:P.underlying t=some (.slice e)) (b:rb fr x v) (c:Zy v n) (d:tf fr dst ((.int .i64 n)) za) (h:K za ds w):Pd P (Oper.mk dst (.call { callee:=.builtin .len,args:=#[x],argTypes:=#[t] }) ty pos after g) fr ds w K Q:=xa (Og a b c) d h
theorem Row.Jg {v:Value}{sz n:Nat}{xs:List Value}(h:Row w v T sz n xs):Zy v n:=by
 rcases h.2 with ⟨rfl,rfl⟩ | ⟨g,o,cap,cur,rfl,-⟩
 ·exact ⟨_,_,rfl⟩
 ·exact ⟨_,_,rfl⟩
theorem Row.Oo {v:Value}{sz n:Nat}{xs:List Value}(h:Row w v T sz n xs) (f:0<n):∃ b o c,v=.slice (some ⟨b,o,none⟩) n c∧bj w b o xs:=by
 rcases h.2 with ⟨rfl,rfl⟩ | ⟨g,o,cap,cur,rfl,d,i,k,l,e⟩
 ·omega
 ·refine ⟨g,o,cap,rfl,fun j u a=>?_⟩;rw [cell_of_row w g (o+j) cur T (0,0) d];rw [← e,List.getElem?_take] at a;split at a
  ·rw [List.getElem?_drop] at a;simpa using a
  ·cases a
end
section
variable {P:Program}{Q:Exit→Act→World→Prop}{K:List Value→List Deferred→World→Prop}{fr za:List Value}{ds:List Deferred}{w:World}
variable {dst:Option Tmp}{ty:TypeId}{pos:String}{after:Array Edge}{g:Option (Nat×Bool)}
variable {T:TypeId}
theorem vE {cg:List Field}{op:BinOp}{x y:Operand}{xs ys:Array Value}(a:Kv P T cg):(eqGuard op T x y (.agg xs) (.agg ys)).run P w=.ok () w:=by
 have b:(program).run P w=.ok P w:=rfl;cases op<;>simp [eqGuard,b,a.guard]
theorem pI {x y:Operand}{t':TypeId}{m:Nat}{xs ys:List Value}{cg:List Field}{a:List Bool}(b:Kv P T cg) (c:rb fr x (.agg ⟨xs⟩)) (d:rb fr y (.agg ⟨ys⟩)) (h:Tk P m xs ys cg a) (hm:(decide (m<1000))=true) :
  ef P (Oper.mk dst (.binOp .neq T x y t') ty pos after g) fr (.bool (!Yl a)):=⟨fun ds w=>by
 have e:=c ds;have f:=d ds;have i:=(TG b h).out Op.maxDepth w (by have:=of_decide_eq_true hm;unfold Op.maxDepth;omega);have j:=vE (w:=w) (op:=.neq) (x:=x) (y:=y) (xs:=⟨xs⟩) (ys:=⟨ys⟩) b;simp [execOp,e,f,j,binOp,Op.equal,i]⟩
end
section
variable {P:Program}{Q:Exit→Act→World→Prop}{K:List Value→List Deferred→World→Prop}{fr za:List Value}{ds:List Deferred}{w:World}
variable {dst:Option Tmp}{ty:TypeId}{pos:String}{after:Array Edge}{g:Option (Nat×Bool)}
variable {S Sd:Nat→Prop}{w0:World}{rs rs':List Gb}{A:World→Prop}
variable {T:TypeId}
end
end Go.vc
namespace Go.vc
open Go.RowKit
theorem Gq {α β:Type}{f g:α→β}{xs:Array α}(h:∀ x ∈ xs,f x=g x):xs.map f=xs.map g:=Array.map_congr_left h
def Bj:Op→Bool
 | .select _ _=>false
 | _=>true
theorem execOp_congr {f g:Operand→Value}(o:Oper) (j:Bj o.op=true) (h:∀ x ∈ o.op.operands,f x=g x):execOp f o=execOp g o:=by
 obtain ⟨dst,op,ty,pos,after,u⟩:=o;have hc:∀ c:Call,(∀ x ∈ c.operands,f x=g x)→resolve f c ty=resolve g c ty:=by
  intro c hc;have k:c.args.map f=c.args.map g:=Gq fun x d=>hc x (by simp [Call.operands,d]);unfold resolve;rw [k];obtain ⟨callee,args,tys⟩:=c;cases callee with
  | value x=>simp only; rw [hc x (by simp [Call.operands])]
  | invoke x m=>simp only; rw [hc x (by simp [Call.operands])]
  | builtin b=>rfl
 cases op<;>simp only [Op.operands,List.mem_toArray,List.mem_cons,List.not_mem_nil,or_false,forall_eq_or_imp,forall_eq,Array.mem_append,List.mem_map] at h<;>simp only [execOp]
 case build t al =>
  have:(al.map fun (i,x)=>(i,f x))=al.map fun (i,x)=>(i,g x):=Gq fun p e=>by simp only;rw [h p.2 ⟨p,by simpa using e,rfl⟩]
  rw [this]
 case buildSlice t n al =>
  have:(al.map fun (i,x)=>(i,f x))=al.map fun (i,x)=>(i,g x):=Gq fun p e=>by simp only;rw [h p.2 ⟨p,by simpa using e,rfl⟩]
  rw [this]
 case makeFunc fn a b =>
  rw [Gq (f:=f) (g:=g) (xs:=a) fun x d=>h x (.inl d),Gq (f:=f) (g:=g) (xs:=b) fun x d=>h x (.inr d)]
 case makeMap t r=>cases r with
  | none=>rfl
  | some x=>simp only [Option.map]; rw [h x (by simp)]
 case slice t x yj gb mg =>
  have d:=h x (by simp);have l:yj.map f=yj.map g:=by cases yj with
   | none=>rfl
   | some y=>simp only [Option.map]; rw [h y (by simp)]
  have q:gb.map f=gb.map g:=by cases gb with
   | none=>rfl
   | some y=>simp only [Option.map]; rw [h y (by simp)]
  have s:mg.map f=mg.map g:=by cases mg with
   | none=>rfl
   | some y=>simp only [Option.map]; rw [h y (by simp)]
  rw [d,l,q,s]
 case call c=>rw [hc c h]
 case go c=>rw [hc c h]
 case defer c=>rw [hc c h]
 case select cs b=>exact absurd j (by simp [Bj])
 all_goals (try (simp only [h]))
def Xj (ops:Array Oper) (i:Nat):List Nat:=match ops[i]? with
 | some o=>(o.after.toList.filter (Region.binds .any)).map (·.on)
 | none=>[]
def enabled (ops:Array Oper) (R:List Nat) (i:Nat):Bool:=R.contains i && (Xj ops i).all fun j=>!R.contains j
inductive ik (ops:Array Oper):List Nat→List Nat→Prop where
 | z:ik ops [] []
 | s {R a:List Nat} {i:Nat} (h:enabled ops R i=true) (t:ik ops (R.erase i) a):ik ops R (i::a)
theorem cl {ops:Array Oper}{R:List Nat}{i:Nat}(h:enabled ops R i=true):i ∈ R:=by
 simp only [enabled,Bool.and_eq_true,List.contains_iff_mem] at h;exact h.1
theorem Qz {ops:Array Oper}{R:List Nat}{i j:Nat}(h:enabled ops R i=true) (a:j ∈ Xj ops i):j ∉ R:=by
 simp only [enabled,Bool.and_eq_true,List.all_eq_true] at h;have:=h.2 j a;simpa using this
def left (n:Nat) (listed:Array Bool):List Nat:=(List.range n).filter fun i=>!listed.getD i true
theorem HD (n:Nat) (listed:Array Bool):(left n listed).Nodup:=List.nodup_range.filter _
theorem JA {n:Nat}{listed:Array Bool}(c:listed.size=n){i:Nat}(gb:i ∈ left n listed):left n (listed.setIfInBounds i true)=(left n listed).erase i:=by
 rw [(HD n listed).erase_eq_filter];unfold left;rw [List.filter_filter];apply List.filter_congr;intro j a;have d:j<n:=List.mem_range.1 a;have b:j<listed.size:=by omega
 simp only [Array.getD_eq_getD_getElem?,Array.getElem?_setIfInBounds];by_cases e:i=j
 ·subst e;simp [b]
 ·simp [e,Ne.symm e]
theorem HB {ops:Array Oper}{n:Nat}(a:(List.range n).all (fun i=>(Xj ops i).all fun j=>decide (j<i))=true){i j:Nat}(gb:i<n) (b:j ∈ Xj ops i):j<i:=by
 simp only [List.all_eq_true,List.mem_range,decide_eq_true_eq] at a;exact a i gb j b
theorem IB {ops:Array Oper}(p:(List.range ops.size).all (fun i=>(Xj ops i).all fun j=>decide (j<i))=true) :
  ∀ (fuel t:Nat) (listed:Array Bool) (acc:List Nat),listed.size=ops.size→(left ops.size listed).length≤fuel→∃ m,Region.linearise.go .any ops fuel t listed acc=acc.reverse++m∧ik ops (left ops.size listed) m
 | 0,t,listed,acc,n,v=>by
  have d:left ops.size listed=[]:=List.eq_nil_of_length_eq_zero (by omega);exact ⟨[],by simp [Region.linearise.go],by rw [d];exact .z⟩
 | fuel+1,t,listed,acc,n,v=>by
  rw [Region.linearise.go];generalize w:(List.filter (fun i=>!listed.getD i true && (Option.map (fun x=>x.after.all fun e=>!Region.binds .any e || listed.getD e.on false) ops[i]?).getD false) (List.range ops.size))=rs;have q:∀ i,i ∈ rs ↔ enabled ops (left ops.size listed) i=true:=by
   intro i;rw [← w];simp only [List.mem_filter,List.mem_range,Bool.and_eq_true,enabled,List.contains_iff_mem,left,Xj];constructor
   ·rintro ⟨b,f,c⟩;refine ⟨⟨b,f⟩,?_⟩;rw [Array.getElem?_eq_getElem b] at c ⊢;simp only [Option.map_some,Option.getD_some,Array.all_eq_true',Bool.or_eq_true,Bool.not_eq_true'] at c;simp only [List.all_eq_true,List.mem_map,List.mem_filter,forall_exists_index,and_imp];rintro j e he g rfl;have:=c e (by simpa using he);rcases this with h | h
    ·rw [h] at g;cases g
    ·simp only [Bool.not_eq_true',List.contains_eq_mem,decide_eq_false_iff_not,List.mem_filter,List.mem_range,not_and,Bool.not_eq_true,Bool.not_eq_false];intro o;have r:e.on<listed.size:=by omega
     simp only [Array.getD,r,dif_pos] at h ⊢;exact h
   ·rintro ⟨⟨b,f⟩,c⟩;refine ⟨b,f,?_⟩;rw [Array.getElem?_eq_getElem b] at c ⊢;simp only [Option.map_some,Option.getD_some,Array.all_eq_true',Bool.or_eq_true,Bool.not_eq_true'];simp only [List.all_eq_true,List.mem_map,List.mem_filter,forall_exists_index,and_imp] at c;intro e he;cases g:Region.binds .any e with
    | false=>exact .inl rfl
    | true =>
     right;have:=c e.on e (by simpa using he) g rfl;simp only [Bool.not_eq_true',List.contains_eq_mem,decide_eq_false_iff_not,List.mem_filter,List.mem_range,not_and,Bool.not_eq_true,Bool.not_eq_false] at this;have o:e.on<i:=HB p b (by
      unfold Xj;rw [Array.getElem?_eq_getElem b];simp only [List.mem_map,List.mem_filter];exact ⟨e,⟨by simpa using he,g⟩,rfl⟩)
     have u:=this (by omega);have r:e.on<listed.size:=by omega
     simp only [Array.getD,r,dif_pos] at u ⊢;exact u
  by_cases d:left ops.size listed=[]
  ·have y:rs=[]:=by
    rw [List.eq_nil_iff_forall_not_mem];intro i gb;have:=cl ((q i).1 gb);rw [d] at this;cases this
   rw [y];simp only [List.length_nil,Nat.mod_zero,List.getElem?_nil];exact ⟨[],by simp,by rw [d];exact .z⟩
  ·-- the least of what is left may be next
   have A:0<rs.length:=by
    obtain ⟨i,gb,B⟩:∃ i,i ∈ left ops.size listed∧∀ j,j<i→j ∉ left ops.size listed:=by
     obtain ⟨a,C⟩:=List.exists_mem_of_ne_nil _ d
     induction a using Nat.strongRecOn with
     | _ a D =>
      by_cases hex:∃ j,j<a∧j ∈ left ops.size listed
      ·obtain ⟨j,k,E⟩:=hex;exact D j k E
      ·exact ⟨a,C,fun j k hm=>hex ⟨j,k,hm⟩⟩
    have l:enabled ops (left ops.size listed) i=true:=by
     simp only [enabled,Bool.and_eq_true,List.contains_iff_mem,List.all_eq_true];refine ⟨gb,fun j k=>?_⟩;have:=B j (HB p (List.mem_range.1 (List.mem_filter.1 gb).1) k);simpa using this
    exact List.length_pos_of_mem ((q i).2 l)
   have o:t % rs.length<rs.length:=Nat.mod_lt _ A;rw [List.getElem?_eq_getElem o];simp only;have l:=(q _).1 (List.getElem_mem o);generalize rs[t % rs.length]=i at l ⊢;have gb:=cl l;obtain ⟨m,b,f⟩:=IB p fuel (t / rs.length) (listed.setIfInBounds i true) (i::acc) (by simpa using n) (by
    rw [JA n gb,List.length_erase_of_mem gb];omega)
   refine ⟨i::m,?_,.s l ?_⟩
   ·rw [b];simp
   ·rw [← JA n gb];exact f
theorem OC {ops:Array Oper}(c:(List.range ops.size).all (fun i=>(Xj ops i).all fun j=>decide (j<i))=true) (t:Nat):ik ops (List.range ops.size) (Region.linearise .any ops t):=by
 have a:left ops.size (Array.replicate ops.size false)=List.range ops.size:=by
  unfold left;rw [List.filter_eq_self];intro i gb;have:=List.mem_range.1 gb;simp [Array.getD,this]
 obtain ⟨e,d,b⟩:=IB c ops.size t (Array.replicate ops.size false) [] (by simp) (by rw [a];simp);unfold Region.linearise;rw [d];rw [a] at b;simpa using b
def Ko:Operand→Option Nat
 | .tmp t=>some t
 | _=>none
def reads (ops:Array Oper) (o:Oper):List Nat :=
 o.op.operands.toList.filterMap Ko++(match o.guard with
  | some (j,_)=>((ops[j]?).bind (·.dst)).toList
  | none=>[])
def quiet:Op→Bool
 | .move _ | .assign _ | .pick _ _ _ | .load _ _ | .fieldAddr _ _ _ | .indexAddr _ _ _ | .index _ _ _ | .field _ _ _ | .extract _ _=>true
 | _=>false
def apart (ops:Array Oper) (rd:Bool) (R:List Nat) (i:Nat):Bool :=
 match ops[i]? with
 | some o=>match o.dst,o.guard with
  | some d,none=>Bj o.op && R.all fun j=>j == i || (Xj ops j).contains i || (match ops[j]? with
    | some p=>Bj p.op && !(reads ops p).contains d && p.dst != some d && (match p.dst with | some e=>!(reads ops o).contains e | none=>true) && (!rd || quiet p.op)
    | none=>true)
  | _,_=>false
 | none=>false
def Kb (P:Program){α:Type}(x:Sem α):Prop:=∀ w b w',x.run P w=.ok b w'→w'=w
section
variable {P:Program}{α β:Type}
theorem Kb.pure (a:α):Kb P (pure a:Sem α):=fun w b w' h=>by simp at h;exact h.2.symm
theorem Kb.bind {x:Sem α}{f:α→Sem β}(h:Kb P x) (k:∀ a,Kb P (f a)):Kb P (x >>= f):=fun w b w' c=>by
 rw [Sem.run_bind] at c;cases d:x.run P w with
 | ok a g =>
  rw [d] at c;have:=h w a g d;subst this;exact k a _ b w' c
 | halt e g=>rw [d] at c; cases c
theorem Kb.stuck (s:String):Kb P (Go.stuck s:Sem α):=fun w b w' h=>by simp [Go.stuck] at h
theorem Kb.unsupported (u:Unsupported):Kb P (Go.unsupported u:Sem α):=fun w b w' h=>by simp [Go.unsupported] at h
theorem Kb.program:Kb P Go.program:=fun w b w' h=>by simp at h;exact h.2.symm
theorem Kb.load (a:Addr) (m:Mode):Kb P (Go.load a m):=fun w b w' h=>by
 unfold Go.load Sem.run at h;split at h
 ·simp [Sem.run] at h;exact h.2.symm
 ·split at h
  ·simp [Sem.run] at h;exact h.2.symm
  ·cases h
theorem Kb.shape (r:Nat):Kb P (Go.shape r):=fun w b w' h=>by simp [Go.shape,Sem.run] at h;exact h.2.symm
theorem Kb.getObj (r:Nat):Kb P (Go.getObj r):=fun w b w' h=>by
 unfold Go.getObj Sem.run at h;split at h
 ·cases h
 ·simp [Sem.run] at h;exact h.2.symm
 ·cases h
def Xh (P:Program){α:Type}(x:Sem α):Prop:=∀ w b w',x.run P w≠.ok b w'
theorem Xh.ro {x:Sem α}(h:Xh P x):Kb P x:=fun w b w' a=>absurd a (h w b w')
theorem Xh.bind {x:Sem α}{f:α→Sem β}(k:∀ a,Xh P (f a)):Xh P (x >>= f):=fun w b w' c=>by
 rw [Sem.run_bind] at c;cases d:x.run P w with
 | ok a g=>rw [d] at c; exact k a _ _ _ c
 | halt e g=>rw [d] at c; cases c
theorem Xh.goPanic (v:Value):Xh P (Go.goPanic v:Sem α):=fun w b w' h=>by simp [Go.goPanic] at h
theorem Xh.runtimePanic (e:RuntimeError):Xh P (Go.runtimePanic e:Sem α):=by
 unfold Go.runtimePanic;refine Xh.bind fun p=>?_;cases e<;>first | exact Xh.goPanic _ | exact Xh.bind fun _=>Xh.bind fun _=>Xh.goPanic _ | exact Xh.bind fun _=>Xh.goPanic _ | skip
 all_goals (simp only;first | exact Xh.goPanic _ | exact Xh.bind fun _=>Xh.bind fun _=>Xh.goPanic _)
theorem Xh.boundsPanic (k:IntKind) (x y:Int) (c:BoundsCode):Xh P (Go.boundsPanic k x y c:Sem α):=by
 unfold Go.boundsPanic;dsimp only;split<;>exact Xh.bind fun _=>Xh.runtimePanic _
theorem Kb.underlying (t:TypeId):Kb P (Go.underlying t):=by
 unfold Go.underlying;refine Kb.bind Kb.program fun p=>?_;split
 ·exact Kb.pure _
 ·exact Kb.stuck _
theorem Kb.typeInfo (t:TypeId):Kb P (Go.typeInfo t):=by
 unfold Go.typeInfo;refine Kb.bind Kb.program fun p=>?_;split
 ·exact Kb.pure _
 ·exact Kb.stuck _
theorem Kb.sizeOf (t:TypeId):Kb P (Go.sizeOf t):=by
 unfold Go.sizeOf;exact Kb.bind (Kb.typeInfo t) fun _=>Kb.pure _
theorem Kb.isAgg (t:TypeId):Kb P (Go.isAgg t):=by
 unfold Go.isAgg;refine Kb.bind (Kb.underlying t) fun d=>?_;split<;>exact Kb.pure _
theorem Kb.loadCellsFrom (a:Addr):∀ (n i:Nat) (acc:Array Value),Kb P (Go.loadCellsFrom a i n acc)
 | 0,_,_=>Kb.pure _
 | n+1,i,_=>Kb.bind (Kb.load _ _) fun v=>Kb.loadCellsFrom a n (i+1) _
theorem Kb.loadVar (t:TypeId) (a:Addr):Kb P (Go.loadVar t a):=by
 unfold Go.loadVar;refine Kb.bind (Kb.isAgg t) fun b=>?_;split
 ·exact Kb.bind (Kb.sizeOf t) fun n=>Kb.bind (Kb.loadCellsFrom a n 0 _) fun _=>Kb.pure _
 ·exact Kb.load _ _
theorem Kb.part (t:TypeId) (cs:Array Value) (off:Nat):Kb P (Go.part t cs off):=by
 unfold Go.part;refine Kb.bind (Kb.isAgg t) fun b=>?_;split
 ·exact Kb.bind (Kb.sizeOf t) fun n=>Kb.pure _
 ·split
  ·exact Kb.pure _
  ·exact Kb.stuck _
theorem Kb.viewAt (r:Nat):Kb P (Go.viewAt r):=by
 unfold Go.viewAt;refine Kb.bind (Kb.shape r) fun s=>?_;split
 ·exact Kb.pure _
 ·refine Kb.bind (Kb.getObj r) fun o=>?_;split<;>exact Kb.pure _
theorem Kb.byteOf (a:Addr):Kb P (Go.byteOf a):=by
 unfold Go.byteOf;split
 ·exact Kb.pure _
 ·refine Kb.bind Kb.program fun p=>?_;refine Kb.bind (by
   unfold noView;refine Kb.bind (Kb.viewAt _) fun v=>?_;split
   ·exact Kb.unsupported _
   ·exact Kb.pure _) fun _=>?_
  refine Kb.bind (Kb.shape _) fun s=>?_;split
  ·dsimp only;split
   ·exact Kb.pure _
   ·split
    ·exact Kb.pure _
    ·exact Kb.stuck _
  ·exact Kb.stuck _
theorem Kb.fieldPlace (a:Addr) (f:Field):Kb P (Go.fieldPlace a f):=by
 unfold Go.fieldPlace;refine Kb.bind (Kb.sizeOf _) fun n=>?_;split
 ·unfold partAt;exact Kb.bind (Kb.byteOf a) fun b=>Kb.bind (Kb.byteOf _) fun _=>Kb.pure _
 ·exact Kb.pure _
theorem Kb.asIntOf (v:Value):Kb P (Go.asIntOf v):=by
 unfold Go.asIntOf;split
 ·exact Kb.pure _
 ·exact Kb.unsupported _
 ·exact Kb.stuck _
theorem Kb.sureAddr (v:Value):Kb P (Instr.sureAddr v):=by
 unfold Instr.sureAddr;split
 ·exact Kb.pure _
 ·exact Kb.stuck _
theorem Gp {f:Operand→Value}{o:Oper}{w w':World}{r:Next}(n:quiet o.op=true) (h:(execOp f o).run P w=.ok r w'):w'=w∧∃ v,r=.value v:=by
 have val:∀ {x:Sem Value},Kb P x→(do pure (.value (← x)):Sem Next).run P w=.ok r w'→w'=w∧∃ v,r=.value v:=by
  clear h;intro x p g;rw [Sem.run_bind] at g;cases j:x.run P w with
  | ok v l =>
   rw [j] at g;have hw:=p w v l j;have q:Result.ok (Next.value v) l=Result.ok r w':=g;cases q;exact ⟨hw,v,rfl⟩
  | halt e l=>rw [j] at g; cases g
 obtain ⟨dst,op,ty,pos,after,s⟩:=o;cases op<;>simp only [quiet,Bool.false_eq_true] at n
 case move x=>simp [execOp] at h;exact ⟨h.2.symm,_,h.1.symm⟩
 case assign x=>simp [execOp] at h;exact ⟨h.2.symm,_,h.1.symm⟩
 case pick c a b =>
  refine val (x:=do pure (if ← asBool (f c) then f a else f b)) ?_ (by simpa [execOp] using h);refine Kb.bind ?_ fun _=>Kb.pure _;unfold asBool;split
  ·exact Kb.pure _
  ·exact Kb.stuck _
 case load t a=>exact val (x:=Instr.loadAt t (f a)) (Kb.bind (Kb.sureAddr _) fun _=>Kb.loadVar _ _) h
 case fieldAddr t x i =>
  refine val (x:=Instr.fieldAt t (f x) i) ?_ h;unfold Instr.fieldAt;refine Kb.bind (Kb.underlying _) fun d=>?_;split
  ·split
   ·exact Kb.bind (Kb.sureAddr _) fun _=>Kb.bind (Kb.fieldPlace _ _) fun _=>Kb.pure _
   ·exact Kb.stuck _
  ·exact Kb.stuck _
 case field t x i =>
  refine val (x:=Instr.field t (f x) i) ?_ h;unfold Instr.field;refine Kb.bind (Kb.underlying _) fun d=>?_;split
  ·split
   ·refine Kb.bind ?_ fun _=>Kb.part _ _ _;unfold asAgg;split
    ·exact Kb.pure _
    ·exact Kb.stuck _
   ·exact Kb.stuck _
  ·exact Kb.stuck _
 case extract x i =>
  refine val (x:=Instr.extract (f x) i) ?_ h;unfold Instr.extract;split
  ·split
   ·exact Kb.pure _
   ·exact Kb.stuck _
  ·exact Kb.stuck _
 case index t x y =>
  refine val (x:=Instr.index t (f x) (f y)) ?_ h;unfold Instr.index;refine Kb.bind (Kb.asIntOf _) fun m=>?_;obtain ⟨k,i⟩:=m;refine Kb.bind (Kb.underlying _) fun d=>?_;split
  ·split
   ·exact Kb.bind (Kb.sizeOf _) fun _=>Kb.part _ _ _
   ·exact (Xh.boundsPanic _ _ _ _).ro
  ·split
   ·exact Kb.pure _
   ·exact (Xh.boundsPanic _ _ _ _).ro
  ·exact Kb.stuck _
 case indexAddr t x y =>
  refine val (x:=Instr.indexAt t (f x) (f y)) ?_ h;unfold Instr.indexAt;refine Kb.bind (Kb.asIntOf _) fun m=>?_;obtain ⟨k,i⟩:=m;refine Kb.bind (Kb.underlying _) fun d=>?_;dsimp only;repeat' first
   | with_reducible exact Kb.pure _
   | with_reducible exact Kb.stuck _
   | with_reducible exact Kb.unsupported _
   | with_reducible exact (Xh.boundsPanic _ _ _ _).ro
   | with_reducible refine Kb.bind (Kb.sureAddr _) fun _=>?_
   | with_reducible refine Kb.bind (Kb.underlying _) fun _=>?_
   | with_reducible refine Kb.bind (Kb.sizeOf _) fun _=>?_
   | with_reducible refine Kb.bind (Kb.pure _) fun _=>?_
   | with_reducible refine Kb.bind (Kb.stuck _) fun _=>?_
   | split
end
section
variable {P:Program}{Q:Exit→Act→World→Prop}{ops:Array Oper}{fr za:List Value}{ds:List Deferred}{w:World}
theorem KA {fr:List Value}{ds ds':List Deferred}{d:Nat}{v:Value}{x:Operand}(h:Ko x≠some d):(F (fr.set d v) ds).eval x=(F fr ds').eval x:=by
 cases x with
 | tmp t =>
  have:d≠t:=fun e=>h (by simp [Ko,e]);simp [F,Act.eval,List.getElem?_set_ne this]
 | const v=>rfl
 | global g=>rfl
 | func f=>rfl
theorem qu {o:Oper}{d:Nat}(h:(reads ops o).contains d=false):∀ x ∈ o.op.operands,Ko x≠some d:=by
 intro x a e;have:d ∈ reads ops o:=by
  unfold reads;exact List.mem_append.2 (.inl (List.mem_filterMap.2 ⟨x,by simpa using a,e⟩))
 rw [List.contains_iff_mem.2 this] at h;cases h
theorem Lp {o:Oper}{d:Nat}{v:Value}{ds':List Deferred}(a:Bj o.op=true) (h:(reads ops o).contains d=false):execOp (F (fr.set d v) ds).eval o=execOp (F fr ds').eval o :=
 execOp_congr o a fun x b=>KA (qu h x b)
theorem Fw {o:Oper}{d:Nat}{v:Value}{ds':List Deferred}(h:(reads ops o).contains d=false):Region.wanted o (yielded ops (F (fr.set d v) ds).tmps)=Region.wanted o (yielded ops (F fr ds').tmps):=by
 unfold Region.wanted;cases a:o.guard with
 | none=>rfl
 | some c =>
  obtain ⟨j,b⟩:=c;simp only;congr 1;unfold yielded;cases f:(ops[j]?).bind (·.dst) with
  | none=>rfl
  | some e =>
   have g:d≠e:=by
    intro he;have:d ∈ reads ops o:=by
     unfold reads;rw [a];exact List.mem_append.2 (.inr (by simp only;rw [f];simp [he]))
    rw [List.contains_iff_mem.2 this] at h;cases h
   simp [F,List.getElem?_set_ne g]
theorem put_eq (fr:List Value) (ds:List Deferred) (dst:Option Tmp) (x:Value):∃ g:List Value→List Value,(∀ fr ds,(F fr ds).put dst x=F (g fr) ds)∧(∀ (fr:List Value) (d:Nat) (v:Value),dst≠some d→g (fr.set d v)=(g fr).set d v)∧(∀ (fr:List Value) (y:Operand) (ds ds':List Deferred),(∀ e,dst=some e→Ko y≠some e)→(F (g fr) ds).eval y=(F fr ds').eval y):=by
 cases dst with
 | none=>exact ⟨id,fun _ _=>rfl,fun _ _ _ _=>rfl,fun fr y ds ds' _=>by cases y <;> rfl⟩
 | some n =>
  refine ⟨fun fr=>fr.set n x,fun fr ds=>ha rfl ds,fun fr d v h=>?_,fun fr y ds ds' h=>KA (h n rfl)⟩;have:d≠n:=fun e=>h (by rw [e]);exact List.set_comm _ _ this
def xh (Q:Exit→Act→World→Prop):Prop:=∀ b a a' w,a.defers=a'.defers→Q (.panic b) a w→Q (.panic b) a' w
theorem zz (q:xh Q){rd:Bool}{i d:Nat}{o:Oper}{v:Value}(z:ops[i]?=some o) (tb:o.dst=some d) (A:o.guard=none){w0:World} :
  ∀ (a b:List Nat) (fr:List Value) (ds:List Deferred) (w:World),
   (∀ j ∈ a,match ops[j]? with
    | some p=>Bj p.op=true∧(reads ops p).contains d=false∧p.dst≠some d∧(∀ e,p.dst=some e→(reads ops o).contains e=false)∧(rd=true→quiet p.op=true)
    | none=>True) →
   (rd=true→w=w0)→Bj o.op=true →
   (∀ ds w,(rd=true→w=w0)→(execOp (F fr ds).eval o).run P w=.ok (.value v) w) →
   wpOps P ops Q (a++b) (F (fr.set d v) ds) w→wpOps P ops Q (a++i::b) (F fr ds) w
 | [],b,fr,ds,w,_,hw,s,t,h=>by
  simp only [List.nil_append] at h ⊢;simp only [wpOps,z];rw [if_pos (by simp [Region.wanted,A])];left;unfold Oper.wp;rw [t ds w hw,Oper.upon_value,tb];rw [show (F fr ds).put (some d) v=F (fr.set d v) ds from ha rfl ds];exact h
 | j::a,b,fr,ds,w,K,hw,s,t,h=>by
  have B:=K j (by simp);have M:∀ k ∈ a,_:=fun k c=>K k (by simp [c]);simp only [List.cons_append,wpOps] at h ⊢;cases N:ops[j]? with
  | none =>
   rw [N] at h;simp only at h ⊢;exact zz q z tb A a b fr ds w M hw s t h
  | some p =>
   rw [N] at h B;simp only at h B ⊢;obtain ⟨O,C,S,T,D⟩:=B;rw [Fw (fr:=fr) (v:=v) (ds:=ds) (ds':=ds) C] at h;have key:∀ (x:Value) (w':World) (ds':List Deferred),(rd=true→w'=w0)→wpOps P ops Q (a++b) ((F (fr.set d v) ds').put p.dst x) w'→wpOps P ops Q (a++i::b) ((F fr ds').put p.dst x) w':=by
    intro x w' ds' l c;obtain ⟨g,g1,g2,g3⟩:=put_eq fr ds' p.dst x;rw [g1] at c ⊢;rw [g2 _ _ _ S] at c;refine zz q z tb A a b (g fr) ds' w' M l s (fun m U W=>?_) c;rw [show execOp (F (g fr) m).eval o=execOp (F fr m).eval o from execOp_congr o s fun y X=>g3 fr y m m fun e he Y=>by
     exact qu (T e he) y X Y]
    exact t m U W
   by_cases R:Region.wanted p (yielded ops (F fr ds).tmps)=true
   ·rw [if_pos R] at h ⊢;rcases h with h | h
    ·left;unfold Oper.wp at h ⊢;rw [Lp (ds':=ds) O C] at h;cases n:(execOp (F fr ds).eval p).run P w with
     | halt e w' =>
      rw [n] at h;cases e<;>first | exact h | exact q _ (F (fr.set d v) ds) _ w' rfl h
     | ok r w' =>
      rw [n] at h;have l:rd=true→w'=w0:=fun e=>(Gp (D e) n).1.trans (hw e);cases r with
      | value x=>exact key x w' ds l h
      | skip=>exact key undef w' ds l h
      | defer Z=>exact key undef w' (Z::ds) l h
      | enter f args =>
       have E:rd=true→False:=fun e=>by obtain ⟨_,x,G⟩:=Gp (D e) n;cases G
       rw [Oper.upon_enter] at h ⊢;refine Calls.mono h fun e u he=>?_;cases e with
       | returned x=>exact key x u ds (fun e=>(E e).elim) he
       | panicked gc=>exact q gc (F (fr.set d v) ds) _ u rfl he
       | outgrown=>exact he
      | row r args =>
       have E:rd=true→False:=fun e=>by obtain ⟨_,x,G⟩:=Gp (D e) n;cases G
       rw [Oper.upon_row] at h ⊢;exact Rows.mono h fun x u he=>key x u ds (fun e=>(E e).elim) he
      | _=>exact h
    ·right;refine ⟨?_,h.2⟩;have H:=h.1;unfold Oper.asks at H ⊢;rw [Lp (ds':=ds) O C] at H;exact H
   ·rw [if_neg R] at h ⊢;exact key undef w ds hw h
structure uf (P:Program) (ops:Array Oper) (Q:Exit→Act→World→Prop) (R:List Nat) (fr:List Value) (ds:List Deferred) (w:World):Prop where
 out:∀ a,ik ops R a→wpOps P ops Q a (F fr ds) w
theorem wy {id:Nat}{l:List Oper}(hm:P.follows .mixedOrders=true) (a:(List.range l.toArray.size).all (fun i=>(Xj l.toArray i).all fun j=>decide (j<i))=true)
  (h:∀ w',w'.heap=w.heap→w'.os=w.os→w'.tape=w.tape→w'.output=w.output→uf P l.toArray Q (List.range l.length) fr ds w'):He P (.region id l.toArray true) Q fr ds w:=by
 constructor;refine wp_region_draw fun t=>?_;have b:Region.schedule (P.follows .mixedOrders) l.toArray t=Region.linearise .any l.toArray t:=by
  unfold Region.schedule;rw [hm];rfl
 rw [b];have c:=OC a t;have:=(h { w with drawn:=w.drawn+1 } rfl rfl rfl rfl).out _ (by simpa using c);exact this
theorem ae (h:Q .normal (F fr ds) w):uf P ops Q [] fr ds w:=⟨fun b a=>by
 cases a with
 | z=>exact h
 | s h _=>exact absurd (cl h) (by simp)⟩
def Po (ops:Array Oper) (R:List Nat):List Nat:=R.filter (enabled ops R)
theorem ky {R:List Nat}(d:R≠[]) (h:∀ i ∈ Po ops R,∃ o,ops[i]?=some o∧if Region.wanted o (yielded ops (F fr ds).tmps) then Pd P o fr ds w (uf P ops Q (R.erase i)) Q else ∃ za,tf fr o.dst undef za∧uf P ops Q (R.erase i) za ds w):uf P ops Q R fr ds w:=⟨fun e f=>by
 cases f with
 | z=>exact absurd rfl d
 | @s _ e i b c =>
  obtain ⟨o,g,gb⟩:=h i (List.mem_filter.2 ⟨cl b,b⟩);simp only [wpOps,g];by_cases hw:Region.wanted o (yielded ops (F fr ds).tmps)=true
  ·rw [if_pos hw] at gb ⊢;exact .inl (gb.out _ fun za ds' w' a=>a.out _ c)
  ·rw [if_neg hw] at gb ⊢;obtain ⟨za,tb,a⟩:=gb;exact tb.rw (a.out _ c)⟩
theorem Jb {R:List Nat}{i:Nat}{Rd:List Nat}{dst:Option Tmp}{op:Op}{ty:TypeId}{pos:String}{after:Array Edge}(b:Po ops R=[i]) (c:R.erase i=Rd) (d:ops[i]?=some ⟨dst,op,ty,pos,after,none⟩)
  (h:Pd P ⟨dst,op,ty,pos,after,none⟩ fr ds w (uf P ops Q Rd) Q):uf P ops Q R fr ds w :=
 ky (by intro e;subst e;cases b) fun j a=>by
  rw [b] at a;simp at a;subst a;refine ⟨_,d,?_⟩;rw [if_pos (by simp [Region.wanted]),c];exact h
theorem ik.split {R l:List Nat}(h:ik ops R l) (n:R.Nodup){i:Nat}(gb:i ∈ R) (o:enabled ops R i=true) :
  ∃ f m,l=f++i::m∧ik ops (R.erase i) (f++m)∧∀ j ∈ f,j ∈ R∧j≠i∧i ∉ Xj ops j:=by
 induction h with
 | z=>cases gb
 | @s R l k g t q =>
  by_cases e:k=i
  ·subst e;exact ⟨[],l,rfl,t,by simp⟩
  ·have p:i ∈ R.erase k:=(n.mem_erase_iff).2 ⟨fun h=>e h.symm,gb⟩;have r:enabled ops (R.erase k) i=true:=by
    simp only [enabled,Bool.and_eq_true,List.contains_iff_mem,List.all_eq_true] at o ⊢;refine ⟨p,fun j d=>?_⟩;have:=o.2 j d;simp only [Bool.not_eq_true',List.contains_eq_mem,decide_eq_false_iff_not] at this ⊢;exact fun hm=>this (List.mem_of_mem_erase hm)
   obtain ⟨f,m,u,v,w⟩:=q (n.erase k) p r;refine ⟨k::f,m,by rw [u];rfl,?_,?_⟩
   ·refine .s ?_ (by rw [List.erase_comm];exact v);simp only [enabled,Bool.and_eq_true,List.contains_iff_mem,List.all_eq_true] at g ⊢;refine ⟨(n.mem_erase_iff).2 ⟨e,g.1⟩,fun j d=>?_⟩;have:=g.2 j d;simp only [Bool.not_eq_true',List.contains_eq_mem,decide_eq_false_iff_not] at this ⊢;exact fun hm=>this (List.mem_of_mem_erase hm)
   ·intro j d;rcases List.mem_cons.1 d with rfl | d
    ·exact ⟨cl g,e,fun tb=>Qz g tb gb⟩
    ·obtain ⟨a,b,c⟩:=w j d;exact ⟨List.mem_of_mem_erase a,b,c⟩
theorem YE {R Rd:List Nat}{i:Nat}{rd:Bool}{dst:Tmp}{op:Op}{ty:TypeId}{pos:String}{after:Array Edge}{v:Value}(o:xh Q) (k:(decide R.Nodup && enabled ops R i && apart ops rd R i)=true) (q:R.erase i=Rd) (l:ops[i]?=some ⟨some dst,op,ty,pos,after,none⟩)
  (r:∀ ds w',(rd=true→w'=w)→(execOp (F fr ds).eval ⟨some dst,op,ty,pos,after,none⟩).run P w'=.ok (.value v) w') (f:wc fr dst v za) (h:uf P ops Q Rd za ds w):uf P ops Q R fr ds w:=⟨fun E s=>by
 simp only [Bool.and_eq_true,decide_eq_true_eq] at k;obtain ⟨⟨t,m⟩,g⟩:=k;obtain ⟨u,x,rfl,y,z⟩:=s.split t (cl m) m;unfold apart at g;simp only [l,Bool.and_eq_true,List.all_eq_true,Bool.or_eq_true,beq_iff_eq,List.contains_iff_mem] at g;unfold wc at f;subst f;subst q;refine zz o l rfl rfl (rd:=rd) (w0:=w) (v:=v) u x fr ds w (fun j A=>?_) (fun _=>rfl) g.1 r (h.out _ y);obtain ⟨a,b,c⟩:=z j A;have:=g.2 j a;rcases this with (h | h) | h
 ·exact absurd h b
 ·exact absurd h c
 ·cases f:ops[j]? with
  | none=>trivial
  | some p =>
   rw [f] at h;simp only [Bool.and_eq_true,Bool.not_eq_true',bne_iff_ne,ne_eq,Bool.or_eq_true] at h;obtain ⟨⟨⟨⟨B,C⟩,D⟩,n⟩,d⟩:=h;refine ⟨B,C,D,fun e he=>?_,fun e=>?_⟩
   ·rw [he] at n;simpa using n
   ·rcases d with d | d
    ·rw [e] at d;cases d
    ·exact d⟩
theorem ke (h:∀ b a w,Q (.panic b) a w→False):xh Q:=fun b a _ w _ c=>(h b a w c).elim
theorem qI {R Rd:List Nat}{i:Nat}{dst:Tmp}{op:Op}{ty:TypeId}{pos:String}{after:Array Edge}{v:Value}(a:xh Q) (b:(decide R.Nodup && enabled ops R i && apart ops false R i)=true) (c:R.erase i=Rd) (d:ops[i]?=some ⟨some dst,op,ty,pos,after,none⟩)
  (e:ef P ⟨some dst,op,ty,pos,after,none⟩ fr v) (f:wc fr dst v za) (h:uf P ops Q Rd za ds w):uf P ops Q R fr ds w :=
 YE a b c d (fun ds w' _=>e.out ds w') f h
end
end Go.vc
