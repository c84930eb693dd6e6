/- Texts of Wk. -/
import Derived.Tactics
import Derived.Defers
import Derived.Recover
import Derived.Lib.Strings
import Derived.Laws.Append
import Derived.Below
import Derived.Laws.AppendOwn
set_option linter.unusedSimpArgs false
set_option linter.unusedVariables false
set_option linter.unusedSectionVars false
namespace Go.yb
open Go.RowKit
def Pb {α:Type}(l:List α) (n:Nat) (v:α):Prop:=l[n]?=some v
def oc {α:Type}(l:List α) (n:Nat) (v:α) (a:List α):Prop:=l.set n v=a
theorem d0 {α:Type}{v:α}{l:List α}:Pb (v::l) 0 v:=rfl
theorem ya {α:Type}{x v:α}{l:List α}:oc (x::l) 0 v (v::l):=rfl
theorem d1 {α:Type}{a0:α}{v:α}{l:List α}:Pb (a0::v::l) 1 v:=rfl
theorem Ia {α:Type}{a0:α}{x v:α}{l:List α}:oc (a0::x::l) 1 v (a0::v::l):=rfl
theorem d2 {α:Type}{a0 pa:α}{v:α}{l:List α}:Pb (a0::pa::v::l) 2 v:=rfl
theorem Ta {α:Type}{a0 pa:α}{x v:α}{l:List α}:oc (a0::pa::x::l) 2 v (a0::pa::v::l):=rfl
theorem d3 {α:Type}{a0 pa a2:α}{v:α}{l:List α}:Pb (a0::pa::a2::v::l) 3 v:=rfl
theorem Qb {α:Type}{a0 pa a2:α}{x v:α}{l:List α}:oc (a0::pa::a2::x::l) 3 v (a0::pa::a2::v::l):=rfl
theorem d4 {α:Type}{a0 pa a2 a3:α}{v:α}{l:List α}:Pb (a0::pa::a2::a3::v::l) 4 v:=rfl
theorem Rb {α:Type}{a0 pa a2 a3:α}{x v:α}{l:List α}:oc (a0::pa::a2::a3::x::l) 4 v (a0::pa::a2::a3::v::l):=rfl
theorem d5 {α:Type}{a0 pa a2 a3 a4:α}{v:α}{l:List α}:Pb (a0::pa::a2::a3::a4::v::l) 5 v:=rfl
theorem Yb {α:Type}{a0 pa a2 a3 a4:α}{x v:α}{l:List α}:oc (a0::pa::a2::a3::a4::x::l) 5 v (a0::pa::a2::a3::a4::v::l):=rfl
theorem d6 {α:Type}{a0 pa a2 a3 a4 a5:α}{v:α}{l:List α}:Pb (a0::pa::a2::a3::a4::a5::v::l) 6 v:=rfl
theorem ec {α:Type}{a0 pa a2 a3 a4 a5:α}{x v:α}{l:List α}:oc (a0::pa::a2::a3::a4::a5::x::l) 6 v (a0::pa::a2::a3::a4::a5::v::l):=rfl
theorem d7 {α:Type}{a0 pa a2 a3 a4 a5 Cb:α}{v:α}{l:List α}:Pb (a0::pa::a2::a3::a4::a5::Cb::v::l) 7 v:=rfl
theorem Ib {α:Type}{a0 pa a2 a3 a4 a5 Cb:α}{x v:α}{l:List α}:oc (a0::pa::a2::a3::a4::a5::Cb::x::l) 7 v (a0::pa::a2::a3::a4::a5::Cb::v::l):=rfl
theorem d8 {α:Type}{a0 pa a2 a3 a4 a5 Cb bc:α}{v:α}{l:List α}:Pb (a0::pa::a2::a3::a4::a5::Cb::bc::v::l) 8 v:=rfl
theorem Dc {α:Type}{a0 pa a2 a3 a4 a5 Cb bc:α}{x v:α}{l:List α}:oc (a0::pa::a2::a3::a4::a5::Cb::bc::x::l) 8 v (a0::pa::a2::a3::a4::a5::Cb::bc::v::l):=rfl
theorem d9 {α:Type}{a0 pa a2 a3 a4 a5 Cb bc eb:α}{v:α}{l:List α}:Pb (a0::pa::a2::a3::a4::a5::Cb::bc::eb::v::l) 9 v:=rfl
theorem cc {α:Type}{a0 pa a2 a3 a4 a5 Cb bc eb:α}{x v:α}{l:List α}:oc (a0::pa::a2::a3::a4::a5::Cb::bc::eb::x::l) 9 v (a0::pa::a2::a3::a4::a5::Cb::bc::eb::v::l):=rfl
def F (fr:List Value) (ds:List Deferred):Act:=⟨⟨fr⟩,ds⟩
def Ya (fr:List Value) (x:Operand) (v:Value):Prop:=∀ ds,(F fr ds).eval x=v
theorem aa {fr:List Value}{n:Nat}{v:Value}(h:Pb fr n v):Ya fr (.tmp n) v:=by
 intro ds;unfold Pb at h;simp [F,Act.eval,h]
theorem Fa {fr:List Value}{v:Value}:Ya fr (.const v) v:=fun _=>rfl
theorem Kd {fr:List Value}{f:Nat}:Ya fr (.func f) (.func (.func f) #[] #[]):=fun _=>rfl
def Xe (fr:List Value) (dst:Option Tmp) (v:Value) (sa:List Value):Prop:=∀ ds,(F fr ds).put dst v=F sa ds
theorem fb {fr:List Value}{v:Value}:Xe fr none v fr:=fun _=>rfl
theorem ia {fr sa:List Value}{n:Nat}{v:Value}(h:oc fr n v sa):Xe fr (some n) v sa:=by
 intro ds;unfold oc at h;subst h;simp [F,Act.put]
theorem Xe.rw {fr sa:List Value}{dst:Option Tmp}{v:Value}(h:Xe fr dst v sa){K:Act→World→Prop}{ds:List Deferred}{w:World}(k:K (F sa ds) w):K ((F fr ds).put dst v) w:=by
 rw [h ds];exact k
def rl (fr:List Value) (xs:List Operand) (vs:List Value):Prop:=∀ ds,xs.map (F fr ds).eval=vs
theorem Hb {fr:List Value}:rl fr [] []:=fun _=>rfl
theorem qa {fr:List Value}{x:Operand}{v:Value}{xs:List Operand}{vs:List Value}(h:Ya fr x v) (hs:rl fr xs vs):rl fr (x::xs) (v::vs):=by
 intro ds;simp [h ds,hs ds]
structure te (P:Program) (c:Code) (Q:Exit→Act→World→Prop) (fr:List Value) (ds:List Deferred) (w:World):Prop where
 out:c.wp P Q (F fr ds) w
structure Af (P:Program) (ops:Array Oper) (Q:Exit→Act→World→Prop) (l:List Oper) (fr:List Value) (ds:List Deferred) (w:World):Prop where
 out:wpList P ops Q l (F fr ds) w
structure Gd (P:Program) (o:Oper) (fr:List Value) (ds:List Deferred) (w:World) (K:List Value→List Deferred→World→Prop) (Q:Exit→Act→World→Prop):Prop where
 out:∀ a:Act→World→Prop,(∀ fr ds w,K fr ds w→a (F fr ds) w)→o.wp P (F fr ds) w a Q
def Wn (P:Program) (c:Code) (Q:Exit→Act→World→Prop):Act→World→Prop:=fun a w=>∃ fr ds,a=F fr ds∧te P c Q fr ds w
section code
variable {P:Program}{Q:Exit→Act→World→Prop}{fr:List Value}{ds:List Deferred}{w:World}
theorem xa {x y:Code}(h:te P x (Exit.then (Wn P y Q) Q) fr ds w):te P (.seq x y) Q fr ds w :=
 ⟨wp_seq (wp_mono h.out fun e a w b=>by
  cases e with
  | normal=>obtain ⟨fr,ds,rfl,h⟩:=b; exact h.out
  | exit id=>exact b
  | goto l=>exact b
  | ret=>exact b
  | panic c=>exact b
  | outgrown=>exact b)⟩
theorem Aa {id:Nat}{l:List Oper}(h:Af P l.toArray Q l fr ds w):te P (.region id l.toArray false) Q fr ds w:=⟨wp_region_lit h.out⟩
theorem Ra (h:Q .normal (F fr ds) w):te P .skip Q fr ds w:=⟨wp_skip h⟩
theorem Xa (h:Q .ret (F fr ds) w):te P .ret Q fr ds w:=⟨wp_ret h⟩
theorem oe {id:Nat}(h:Q (.exit id) (F fr ds) w):te P (.exit id) Q fr ds w:=⟨wp_exit h⟩
theorem Db {id:Nat}{c:Code}(h:te P c (Exit.inBlock id Q) fr ds w):te P (.block id c) Q fr ds w:=⟨wp_block h.out⟩
theorem vA {c:Operand}{x y:Code}{b:Bool}(hc:Ya fr c (.bool b)) (a:b=true→te P x Q fr ds w) (d:b=false→te P y Q fr ds w) :
  te P (.cond c x y) Q fr ds w:=⟨wp_cond_split (hc ds) (fun h=>(a h).out) fun h=>(d h).out⟩
theorem dd {c:Operand}{x y:Code}{p:Prop}[Decidable p] (hc:Ya fr c (.bool (decide p))) (a:p→te P x Q fr ds w) (b:¬ p→te P y Q fr ds w) :
  te P (.cond c x y) Q fr ds w:=vA hc (fun h=>a (of_decide_eq_true h)) (fun h=>b (of_decide_eq_false h))
theorem MK {c:Operand}{x y:Code}{p:Prop}[Decidable p] (hc:Ya fr c (.bool (decide p))) (a:p) (b:te P x Q fr ds w):te P (.cond c x y) Q fr ds w:=dd hc (fun _=>b) fun h=>absurd a h
theorem NK {c:Operand}{x y:Code}{p:Prop}[Decidable p] (hc:Ya fr c (.bool (decide p))) (a:¬ p) (b:te P y Q fr ds w):te P (.cond c x y) Q fr ds w:=dd hc (fun h=>absurd h a) fun _=>b
theorem Pl {c:Operand}{x y:Code}(hc:Ya fr c (.bool true)) (a:te P x Q fr ds w):te P (.cond c x y) Q fr ds w:=⟨wp_cond_true (hc ds) a.out⟩
theorem Ql {c:Operand}{x y:Code}(hc:Ya fr c (.bool false)) (a:te P y Q fr ds w):te P (.cond c x y) Q fr ds w:=⟨wp_cond_false (hc ds) a.out⟩
theorem ma {c:Code}{Q':Exit→Act→World→Prop}(h:te P c Q' fr ds w):Exit.then (Wn P c Q') Q .normal (F fr ds) w:=⟨fr,ds,rfl,h⟩
theorem Ca {n:Act→World→Prop}{a:Act}(h:n a w):Exit.then n Q .normal a w:=h
theorem fc {n:Act→World→Prop}{a:Act}{id:Nat}(h:Q (.exit id) a w):Exit.then n Q (.exit id) a w:=h
theorem Vb {n:Act→World→Prop}{a:Act}(h:Q .ret a w):Exit.then n Q .ret a w:=h
theorem Gb {a:Act}{id:Nat}(h:Q .normal a w):Exit.inBlock id Q .normal a w:=h
theorem Ld {a:Act}{id:Nat}(h:Q .ret a w):Exit.inBlock id Q .ret a w:=h
theorem ue {a:Act}{id:Nat}(h:Q .normal a w):Exit.inBlock id Q (.exit id) a w:=by simpa [Exit.inBlock] using h
theorem Xn {a:Act}{id j:Nat}(b:(j == id)=false) (h:Q (.exit j) a w):Exit.inBlock id Q (.exit j) a w:=by
 have:¬ j=id:=by simpa using b
 simpa [Exit.inBlock,this] using h
inductive ob where
 | k
 | o (n:Nat)
 | i (v:Value)
def hi (t:Nat→Value):List ob→List Value→List Value
 | [],fr=>fr
 | _::_,[]=>[]
 | .k::ms,a::fr=>a::hi t ms fr
 | .o n::ms,_::fr=>t n::hi t ms fr
 | .i v::ms,_::fr=>v::hi t ms fr
def Je (t:Nat→Value) (ms:List ob) (fr sa:List Value):Prop:=hi t ms fr=sa
theorem Eb {t:Nat→Value}{l:List Value}:Je t [] l l:=rfl
theorem mk {t:Nat→Value}{ms:List ob}{a:Value}{l b:List Value}(h:Je t ms l b):Je t (.k::ms) (a::l) (a::b):=by unfold Je at *;rw [hi,h]
theorem Zb {t:Nat→Value}{ms:List ob}{n:Nat}{a:Value}{l b:List Value}(h:Je t ms l b):Je t (.o n::ms) (a::l) (t n::b):=by unfold Je at *;rw [hi,h]
theorem ic {t:Nat→Value}{ms:List ob}{v a:Value}{l b:List Value}(h:Je t ms l b):Je t (.i v::ms) (a::l) (v::b):=by unfold Je at *;rw [hi,h]
theorem Zc {t:Nat→Value}{ms:List ob}{a b:List Value}(e:Je t ms a b) (h:Q .normal (F b ds) w):Q .normal (F (hi t ms a) ds) w:=by rw [show hi t ms a=b from e];exact h
theorem Pe {c:Code}{t:Nat→Value}{ms:List ob}{a b:List Value}(e:Je t ms a b) (h:te P c Q b ds w):te P c Q (hi t ms a) ds w:=by rw [show hi t ms a=b from e];exact h
inductive Be:List ob→List Value→List Value→Prop where
 | z {l:List Value}:Be [] l l
 | k {ms:List ob} {a:Value} {l c:List Value} (h:Be ms l c):Be (.k::ms) (a::l) (a::c)
 | o {ms:List ob} {n:Nat} {a b:Value} {l c:List Value} (h:Be ms l c):Be (.o n::ms) (a::l) (b::c)
 | i {ms:List ob} {v a:Value} {l c:List Value} (h:Be ms l c):Be (.i v::ms) (a::l) (v::c)
def opens:List ob→List Nat
 | []=>[]
 | .o n::ms=>n::opens ms
 | .k::ms=>opens ms
 | .i _::ms=>opens ms
theorem zv {t Lb:Nat→Value}:∀ (ms:List ob) (fr:List Value),(∀ n ∈ opens ms,t n=Lb n)→hi t ms fr=hi Lb ms fr
 | [],_,_=>rfl
 | _::_,[],_=>rfl
 | .k::ms,a::fr,h=>by rw [hi,hi,zv ms fr h]
 | .o n::ms,a::fr,h=>by rw [hi,hi,zv ms fr fun m hm=>h m (by simp [opens,hm]),h n (by simp [opens])]
 | .i v::ms,a::fr,h=>by rw [hi,hi,zv ms fr h]
theorem Be.ex {ms:List ob}{fr sa:List Value}(h:Be ms fr sa) (c:(opens ms).Nodup):∃ t,sa=hi t ms fr:=by
 induction h with
 | z=>exact ⟨fun _=>undef,rfl⟩
 | k _ d=>obtain ⟨t,rfl⟩:=d c; exact ⟨t,rfl⟩
 | @o ms n a b l f _ d =>
  simp only [opens,List.nodup_cons] at c;obtain ⟨t,rfl⟩:=d c.2;refine ⟨fun m=>if m=n then b else t m,?_⟩;rw [hi,if_pos rfl];congr 1;refine zv _ _ fun m hm=>?_;exact (if_neg (fun e:m=n=>c.1 (by rw [← e];exact hm))).symm
 | i _ d=>obtain ⟨t,rfl⟩:=d c; exact ⟨t,rfl⟩
theorem OK {c:Code}{α:Type}(T:List Nat) (m:T.Nodup) (u:α→List ob) (hu:∀ x,opens (u x)=T) (j:α→World→Prop) (Zl:α→World→Nat) (x0:α) (o:Be (u x0) fr fr) (p:j x0 w)
  (round:∀ x t w,j x w→te P c (Exit.then (fun g w'=>∃ h sa,g=F sa ds∧Be (u h) fr sa∧j h w'∧Zl h w'<Zl x w) Q) (hi t (u x) fr) ds w) :
  te P (.loop c) Q fr ds w:=by
 constructor;intro b k cs;have key:∀ n x t w,Zl x w=n→j x w →
   ∃ e g w',Q e g w'∧Arrives P (lone (b.at (F (hi t (u x) fr) ds) (.code c::.inLoop c::k)) cs w) b k cs e g w':=by
  intro n
  induction n using Nat.strongRecOn with
  | _ n q =>
   intro x t w r s;obtain ⟨e,i,f,d,a⟩:=(round x t w s).out b (.inLoop c::k) cs;cases e with
   | normal =>
    obtain ⟨h,sa,rfl,v,y,z⟩:=d;obtain ⟨Lb,A⟩:=v.ex (by rw [hu];exact m);obtain ⟨B,C,D,G,H⟩:=q (Zl h f) (r ▸ z) h Lb f rfl y;rw [A] at a;exact ⟨B,C,D,G,.of_steps (Steps.trans a (.one step_inLoop)) H⟩
   | exit id=>exact ⟨_,i,f,d,.pass (x:=.inLoop c) rfl (fun _ _=>.inl (by simp)) a⟩
   | goto l=>exact ⟨_,i,f,d,.pass (x:=.inLoop c) rfl (fun _ _=>.inl (by simp)) a⟩
   | ret=>exact ⟨_,i,f,d,.pass (x:=.inLoop c) rfl (fun _ _=>.inl (by simp)) a⟩
   | panic L=>exact ⟨_,i,f,d,.pass (x:=.inLoop c) rfl (fun _ _=>.inl (by simp)) a⟩
   | outgrown=>exact ⟨_,i,f,d,.pass (x:=.inLoop c) rfl (fun _ _=>.inl (by simp)) a⟩
 obtain ⟨t0,K⟩:=o.ex (by rw [hu];exact m);obtain ⟨e,g,w',d,a⟩:=key _ x0 t0 w rfl p;rw [← K] at a;exact ⟨e,g,w',d,.of_steps (.one step_loop) a⟩
theorem te.mono {c:Code}{Q':Exit→Act→World→Prop}(h:te P c Q fr ds w) (b:∀ e a w,Q e a w→Q' e a w):te P c Q' fr ds w:=⟨wp_mono h.out b⟩
theorem CF {R R':Act→World→Prop}(h:∀ a w,R a w→R' a w):∀ e a w,Exit.then R Q e a w→Exit.then R' Q e a w:=fun e a w b=>by
 cases e with
 | normal=>exact h a w b
 | exit id=>exact b
 | goto l=>exact b
 | ret=>exact b
 | panic c=>exact b
 | outgrown=>exact b
theorem oc.same {α:Type}{l:List α}{n:Nat}{v:α}{a:List α}(h:Pb l n v) (b:oc l n v a):a=l:=by
 unfold Pb at h;unfold oc at b;subst b;obtain ⟨c,rfl⟩:=List.getElem?_eq_some_iff.1 h;exact List.set_getElem_self c
theorem wA {ops:Array Oper}{l:List Oper}{Wh Xh:List Value}{d:Nat}{b:Bool}(a:Pb fr d (.bool b)) (c:oc fr d (.bool true) Wh) (e:oc fr d (.bool false) Xh)
  (f:b=true→Af P ops Q l Wh ds w) (g:b=false→Af P ops Q l Xh ds w):Af P ops Q l fr ds w:=by
 cases b with
 | true=>have:=f rfl; rw [oc.same a c] at this; exact this
 | false=>have:=g rfl; rw [oc.same a e] at this; exact this
theorem Qg {ops:Array Oper}{l:List Oper}{Wh Xh:List Value}{d:Nat}{p:Prop}[Decidable p] (a:Pb fr d (.bool (decide p))) (b:oc fr d (.bool true) Wh) (c:oc fr d (.bool false) Xh)
  (e:p→Af P ops Q l Wh ds w) (f:¬ p→Af P ops Q l Xh ds w):Af P ops Q l fr ds w :=
 wA a b c (fun h=>e (of_decide_eq_true h)) (fun h=>f (of_decide_eq_false h))
end code
end Go.yb
namespace Go.yb
open Go.RowKit
def S (l:List UInt8):Value:=.string ⟨⟨l⟩⟩
section
variable {P:Program}{Q:Exit→Act→World→Prop}{K:List Value→List Deferred→World→Prop}{fr sa:List Value}{ds:List Deferred}{w:World}{ops:Array Oper}{rest:List Oper}
variable {dst:Option Tmp}{op:Op}{ty:TypeId}{pos:String}{after:Array Edge}{g:Option (Nat×Bool)}
theorem ta (h:Q .normal (F fr ds) w):Af P ops Q [] fr ds w:=⟨h⟩
theorem wl (h:Gd P ⟨dst,op,ty,pos,after,none⟩ fr ds w (Af P ops Q rest) Q):Af P ops Q (⟨dst,op,ty,pos,after,none⟩::rest) fr ds w:=by
 constructor;unfold wpList;rw [if_pos (by simp [Region.wanted])];exact .inl (h.out _ fun _ _ _ k=>k.out)
theorem wc {j d:Nat}{b:Bool}(c:(ops[j]?).bind (·.dst)=some d) (a:Pb fr d (.bool b)) (h:Gd P ⟨dst,op,ty,pos,after,some (j,b)⟩ fr ds w (Af P ops Q rest) Q) :
  Af P ops Q (⟨dst,op,ty,pos,after,some (j,b)⟩::rest) fr ds w:=by
 constructor;unfold wpList;rw [if_pos (by
  unfold Pb at a;simp only [Region.wanted,yielded,c,F];simp [a])]
 exact .inl (h.out _ fun _ _ _ k=>k.out)
theorem wn {j d:Nat}{b jg:Bool}(c:(ops[j]?).bind (·.dst)=some d) (a:Pb fr d (.bool jg)) (e:(jg == b)=false) (f:Xe fr dst undef sa) (h:Af P ops Q rest sa ds w) :
  Af P ops Q (⟨dst,op,ty,pos,after,some (j,b)⟩::rest) fr ds w:=by
 constructor;unfold wpList;rw [if_neg (by
  unfold Pb at a;simp only [Region.wanted,yielded,c,F];simp [a];simpa using e)]
 exact f.rw h.out
theorem Zj {j d:Nat}{b:Bool}(c:(ops[j]?).bind (·.dst)=some d) (a:Pb fr d undef) (e:Xe fr dst undef sa) (h:Af P ops Q rest sa ds w) :
  Af P ops Q (⟨dst,op,ty,pos,after,some (j,b)⟩::rest) fr ds w:=by
 constructor;unfold wpList;rw [if_neg (by
  unfold Pb at a;simp only [Region.wanted,yielded,c,F];simp [a,undef])]
 exact e.rw h.out
theorem Th {o:Oper}{v:Value}{w':World}(a:(execOp (F fr ds).eval o).run P w=.ok (.value v) w') (b:Xe fr o.dst v sa) (h:K sa ds w'):Gd P o fr ds w K Q:=by
 constructor;intro d c;unfold Oper.wp;rw [a,Oper.upon_value];exact b.rw (c _ _ _ h)
theorem mA {o:Oper}{w':World}(a:(execOp (F fr ds).eval o).run P w=.ok .skip w') (b:Xe fr o.dst undef sa) (h:K sa ds w'):Gd P o fr ds w K Q:=by
 constructor;intro d c;unfold Oper.wp;rw [a,Oper.upon_skip];exact b.rw (c _ _ _ h)
structure Ke (P:Program) (o:Oper) (fr:List Value) (v:Value):Prop where
 out:∀ ds w,(execOp (F fr ds).eval o).run P w=.ok (.value v) w
theorem va {o:Oper}{v:Value}(hu:Ke P o fr v) (a:Xe fr o.dst v sa) (h:K sa ds w):Gd P o fr ds w K Q:=Th (hu.out ds w) a h
theorem Mg {x:Operand}{v:Value}(a:Ya fr x v):Ke P (Oper.mk dst (.move x) ty pos after g) fr (v):=⟨fun ds w=>by simp [execOp,a ds]⟩
theorem rh {x:Operand}{v:Value}(a:Ya fr x v) (b:Xe fr dst (v) sa) (h:K sa ds w):Gd P (Oper.mk dst (.move x) ty pos after g) fr ds w K Q:=va (Mg a) b h
theorem Ly {x:Operand}{v:Value}(a:Ya fr x v):Ke P (Oper.mk dst (.assign x) ty pos after g) fr (v):=⟨fun ds w=>by simp [execOp,a ds]⟩
theorem Zi {x:Operand}{v:Value}(a:Ya fr x v) (b:Xe fr dst (v) sa) (h:K sa ds w):Gd P (Oper.mk dst (.assign x) ty pos after g) fr ds w K Q:=va (Ly a) b h
theorem vn {c x y:Operand}{v:Value}(hc:Ya fr c (.bool true)) (a:Ya fr x v):Ke P (Oper.mk dst (.pick c x y) ty pos after g) fr (v):=⟨fun ds w=>by simp [execOp,a ds,hc ds,asBool]⟩
theorem GH {c x y:Operand}{v:Value}(hc:Ya fr c (.bool true)) (a:Ya fr x v) (b:Xe fr dst (v) sa) (h:K sa ds w):Gd P (Oper.mk dst (.pick c x y) ty pos after g) fr ds w K Q:=va (vn hc a) b h
theorem Jt {c x y:Operand}{v:Value}(hc:Ya fr c (.bool false)) (a:Ya fr y v):Ke P (Oper.mk dst (.pick c x y) ty pos after g) fr (v):=⟨fun ds w=>by simp [execOp,a ds,hc ds,asBool]⟩
theorem wr {n:Int}(h:-9223372036854775808≤n∧n≤9223372036854775807):IntKind.i64.wrap n=n:=by
 unfold IntKind.wrap;simp [IntKind.bits,IntKind.signed];omega
theorem pD {x y:Operand}{t Lb:TypeId}{k:IntKind}{a b c:Int}(d:Ya fr x (.int k a)) (e:Ya fr y (.int k b)) (hw:k.wrap (a+b)=c):Ke P (Oper.mk dst (.binOp .add t x y Lb) ty pos after g) fr ((.int k c)):=by
 subst hw;exact ⟨fun ds w=>by simp [execOp,d ds,e ds,eqGuard,binOp,Op.intArith]⟩
theorem Mz {x y:Operand}{t Lb:TypeId}{k:IntKind}{a b c:Int}(d:Ya fr x (.int k a)) (e:Ya fr y (.int k b)) (hw:k.wrap (a - b)=c):Ke P (Oper.mk dst (.binOp .sub t x y Lb) ty pos after g) fr ((.int k c)):=by
 subst hw;exact ⟨fun ds w=>by simp [execOp,d ds,e ds,eqGuard,binOp,Op.intArith]⟩
theorem Nz {x y:Operand}{t Lb:TypeId}{k:IntKind}{a b c:Int}(d:Ya fr x (.int k a)) (e:Ya fr y (.int k b)) (hw:k.wrap (a*b)=c):Ke P (Oper.mk dst (.binOp .mul t x y Lb) ty pos after g) fr ((.int k c)):=by
 subst hw;exact ⟨fun ds w=>by simp [execOp,d ds,e ds,eqGuard,binOp,Op.intArith]⟩
theorem Oz {x y:Operand}{t Lb:TypeId}{k:IntKind}{a b c:Int}(d:Ya fr x (.int k a)) (e:Ya fr y (.int k b)) (f:b≠0) (hw:k.wrap (a.tdiv b)=c):Ke P (Oper.mk dst (.binOp .quo t x y Lb) ty pos after g) fr ((.int k c)):=by
 subst hw;exact ⟨fun ds w=>by simp [execOp,d ds,e ds,eqGuard,binOp,Op.intDiv,f]⟩
theorem Xw {x y:Operand}{t Lb:TypeId}{k:IntKind}{a b c:Int}(d:Ya fr x (.int k a)) (e:Ya fr y (.int k b)) (f:b≠0) (hw:a.tmod b=c):Ke P (Oper.mk dst (.binOp .rem t x y Lb) ty pos after g) fr ((.int k c)):=by
 subst hw;exact ⟨fun ds w=>by simp [execOp,d ds,e ds,eqGuard,binOp,Op.intDiv,f]⟩
theorem du {x y:Operand}{t Lb:TypeId}{k:IntKind}{a b:Int}(c:Ya fr x (.int k a)) (d:Ya fr y (.int k b)):Ke P (Oper.mk dst (.binOp .lss t x y Lb) ty pos after g) fr ((.bool (decide (a<b)))):=⟨fun ds w=>by simp [execOp,c ds,d ds,eqGuard,binOp,Op.intCmp]⟩
theorem qD {x y:Operand}{t Lb:TypeId}{k:IntKind}{a b:Int}(c:Ya fr x (.int k a)) (d:Ya fr y (.int k b)):Ke P (Oper.mk dst (.binOp .leq t x y Lb) ty pos after g) fr ((.bool (decide (a≤b)))):=⟨fun ds w=>by simp [execOp,c ds,d ds,eqGuard,binOp,Op.intCmp]⟩
theorem PK {x y:Operand}{t Lb:TypeId}{k:IntKind}{a b:Int}(c:Ya fr x (.int k a)) (d:Ya fr y (.int k b)) (e:Xe fr dst ((.bool (decide (a≤b)))) sa) (h:K sa ds w):Gd P (Oper.mk dst (.binOp .leq t x y Lb) ty pos after g) fr ds w K Q:=va (qD c d) e h
theorem Lr {x y:Operand}{t Lb:TypeId}{k:IntKind}{a b:Int}(c:Ya fr x (.int k a)) (d:Ya fr y (.int k b)):Ke P (Oper.mk dst (.binOp .gtr t x y Lb) ty pos after g) fr ((.bool (decide (b<a)))):=⟨fun ds w=>by simp [execOp,c ds,d ds,eqGuard,binOp,Op.intCmp]⟩
theorem Pz {x y:Operand}{t Lb:TypeId}{k:IntKind}{a b:Int}(c:Ya fr x (.int k a)) (d:Ya fr y (.int k b)):Ke P (Oper.mk dst (.binOp .geq t x y Lb) ty pos after g) fr ((.bool (decide (b≤a)))):=⟨fun ds w=>by simp [execOp,c ds,d ds,eqGuard,binOp,Op.intCmp]⟩
theorem QK {x y:Operand}{t Lb:TypeId}{k:IntKind}{a b:Int}(c:Ya fr x (.int k a)) (d:Ya fr y (.int k b)) (e:Xe fr dst ((.bool (decide (b≤a)))) sa) (h:K sa ds w):Gd P (Oper.mk dst (.binOp .geq t x y Lb) ty pos after g) fr ds w K Q:=va (Pz c d) e h
theorem Yw {x y:Operand}{t Lb:TypeId}{k:IntKind}{a b:Int}(c:Ya fr x (.int k a)) (d:Ya fr y (.int k b)):Ke P (Oper.mk dst (.binOp .eql t x y Lb) ty pos after g) fr ((.bool (decide (a=b)))):=⟨fun ds w=>by simp [execOp,c ds,d ds,eqGuard,binOp,Op.intCmp];rfl⟩
theorem Kl {x y:Operand}{t Lb:TypeId}{k:IntKind}{a b:Int}(c:Ya fr x (.int k a)) (d:Ya fr y (.int k b)) (e:Xe fr dst ((.bool (decide (a=b)))) sa) (h:K sa ds w):Gd P (Oper.mk dst (.binOp .eql t x y Lb) ty pos after g) fr ds w K Q:=va (Yw c d) e h
theorem rD {x y:Operand}{t Lb:TypeId}{k:IntKind}{a b:Int}(c:Ya fr x (.int k a)) (d:Ya fr y (.int k b)):Ke P (Oper.mk dst (.binOp .neq t x y Lb) ty pos after g) fr ((.bool (decide (a≠b)))):=⟨fun ds w=>by
  simp [execOp,c ds,d ds,eqGuard,binOp,Op.intCmp];by_cases h:a=b<;>simp [h]⟩
theorem SK {x y:Operand}{t Lb:TypeId}{k:IntKind}{a b:Int}(c:Ya fr x (.int k a)) (d:Ya fr y (.int k b)) (e:Xe fr dst ((.bool (decide (a≠b)))) sa) (h:K sa ds w):Gd P (Oper.mk dst (.binOp .neq t x y Lb) ty pos after g) fr ds w K Q:=va (rD c d) e h
theorem TK {x:Operand}{t:TypeId}{k:IntKind}{a c:Int}(b:Ya fr x (.int k a)) (hw:k.wrap (0 - a)=c):Ke P (Oper.mk dst (.unOp .neg t x) ty pos after g) fr ((.int k c)):=by
 subst hw;exact ⟨fun ds w=>by simp [execOp,b ds,Op.unary,Op.intArith]⟩
theorem UK {x:Operand}{t:TypeId}{b:Bool}(a:Ya fr x (.bool b)):Ke P (Oper.mk dst (.unOp .not t x) ty pos after g) fr ((.bool (!b))):=⟨fun ds w=>by simp [execOp,a ds,Op.unary]⟩
theorem VK {x y:Operand}{t Lb:TypeId}{a b:List UInt8}(c:Ya fr x (S a)) (d:Ya fr y (S b)) (l:a.length+b.length≤9223372036854775807):Ke P (Oper.mk dst (.binOp .add t x y Lb) ty pos after g) fr ((S (a++b))):=by
 have e:(ByteArray.mk ⟨a⟩).size=a.length:=rfl;have f:(ByteArray.mk ⟨b⟩).size=b.length:=rfl;have h:¬ (((((ByteArray.mk ⟨a⟩).size+(ByteArray.mk ⟨b⟩).size:Nat):Int)) > IntKind.i64.max):=by
  rw [e,f];unfold IntKind.max;simp [IntKind.bits,IntKind.signed];omega
 have i:ByteArray.mk ⟨a⟩++ByteArray.mk ⟨b⟩=ByteArray.mk ⟨a++b⟩:=by
  apply ByteArray.ext;rw [ByteArray.data_append];simp
 refine ⟨fun ds w=>?_⟩;have j:=c ds;have k:=d ds;simp only [execOp,j,k,S,eqGuard,binOp,Op.stringOp];rw [if_neg h,i];simp
theorem Mr {x y:Operand}{t Lb:TypeId}{a b:List UInt8}(c:Ya fr x (S a)) (d:Ya fr y (S b)):Ke P (Oper.mk dst (.binOp .eql t x y Lb) ty pos after g) fr ((.bool (decide (a=b)))):=by
 refine ⟨fun ds w=>?_⟩;have f:=c ds;have h:=d ds;simp [execOp,f,h,S,eqGuard,binOp,Op.stringOp];by_cases e:a=b<;>simp [e]
theorem Zw {x y:Operand}{t Lb:TypeId}{a b:List UInt8}(c:Ya fr x (S a)) (d:Ya fr y (S b)):Ke P (Oper.mk dst (.binOp .neq t x y Lb) ty pos after g) fr ((.bool (decide (a≠b)))):=by
 refine ⟨fun ds w=>?_⟩;have f:=c ds;have h:=d ds;simp [execOp,f,h,S,eqGuard,binOp,Op.stringOp];by_cases e:a=b<;>simp [e]
theorem il {x:Operand}{t:TypeId}{a:List UInt8}(b:P.underlying t=some .string) (c:Ya fr x (S a)):Ke P (Oper.mk dst (.call { callee:=.builtin .len,args:=#[x],argTypes:=#[t] }) ty pos after g) fr ((.int .i64 a.length)):=by
 refine ⟨fun ds w=>?_⟩;have d:=c ds;have e:(ByteArray.mk ⟨a⟩).size=a.length:=rfl;simp [execOp,d,resolve,invoke,builtin,S,Builtin.len_,run_underlying b,goInt,e]
theorem de {x:Operand}{t e:TypeId}{a:Option Addr}{n c:Nat}(b:P.underlying t=some (.slice e)) (d:Ya fr x (.slice a n c)):Ke P (Oper.mk dst (.call { callee:=.builtin .len,args:=#[x],argTypes:=#[t] }) ty pos after g) fr ((.int .i64 n)):=by
 refine ⟨fun ds w=>?_⟩;have f:=d ds;simp [execOp,f,resolve,invoke,builtin,Builtin.len_,run_underlying b,goInt]
theorem jC {x:Operand}{t e:TypeId}{a:Option Addr}{n c:Nat}(b:P.underlying t=some (.slice e)) (d:Ya fr x (.slice a n c)) (f:Xe fr dst ((.int .i64 n)) sa) (h:K sa ds w):Gd P (Oper.mk dst (.call { callee:=.builtin .len,args:=#[x],argTypes:=#[t] }) ty pos after g) fr ds w K Q:=va (de b d) f h
theorem dJ {x y:Operand}{t:TypeId}{k:IntKind}{a:List UInt8}{i:Int}{c:UInt8}(d:P.underlying t=some .string) (e:Ya fr x (S a)) (f:Ya fr y (.int k i)) (j:0≤i) (hc:a[i.toNat]?=some c):Ke P (Oper.mk dst (.index t x y) ty pos after g) fr ((.int .u8 c.toNat)):=by
 refine ⟨fun ds w=>?_⟩;have l:=e ds;have m:=f ds;have n:(ByteArray.mk ⟨a⟩)[i.toNat]?=some c:=by
  have b:i.toNat<a.length:=by
   rcases Nat.lt_or_ge i.toNat a.length with h | h
   ·exact h
   ·rw [List.getElem?_eq_none h] at hc;cases hc
  rw [getElem?_pos (ByteArray.mk ⟨a⟩) i.toNat (show i.toNat<(ByteArray.mk ⟨a⟩).size from b)];rw [List.getElem?_eq_getElem b] at hc;rw [← hc];rfl
 simp [execOp,l,m,S,Instr.index,run_underlying d,asIntOf,j,n]
theorem tB (a:List UInt8) (i j:Nat):(ByteArray.mk ⟨a⟩).extract i j=ByteArray.mk ⟨(a.take j).drop i⟩:=by
 rw [Lib.extract_eq];simp [List.drop_take]
theorem HH {x zi:Operand}{t:TypeId}{k:IntKind}{a:List UInt8}{i:Int}(b:P.underlying t=some .string) (c:Ya fr x (S a)) (d:Ya fr zi (.int k i))
  (e:0≤i∧i≤a.length):Ke P (Oper.mk dst (.slice t x (some zi) none none) ty pos after g) fr ((S (a.drop i.toNat))):=by
 refine ⟨fun ds w=>?_⟩;have f:=c ds;have h:=d ds;have j:(ByteArray.mk ⟨a⟩).size=a.length:=rfl;simp only [execOp,f,h,S,Option.map,Instr.sliceAt];simp [run_underlying b,Instr.slice,Instr.sliceBounds,Instr.sliceBound,asIntOf,j,e,tB]
theorem IH {x Ua:Operand}{t:TypeId}{b:IntKind}{a:List UInt8}{j:Int}(c:P.underlying t=some .string) (d:Ya fr x (S a)) (e:Ya fr Ua (.int b j))
  (f:0≤j∧j≤a.length):Ke P (Oper.mk dst (.slice t x none (some Ua) none) ty pos after g) fr ((S (a.take j.toNat))):=by
 refine ⟨fun ds w=>?_⟩;have h:=d ds;have i:=e ds;have k:(ByteArray.mk ⟨a⟩).size=a.length:=rfl;simp only [execOp,h,i,S,Option.map,Instr.sliceAt];simp [run_underlying c,Instr.slice,Instr.sliceBounds,Instr.sliceBound,asIntOf,k,f,tB]
theorem eJ {x:Operand}{i:Nat}{vs:List Value}{v:Value}(b:Ya fr x (.tuple ⟨vs⟩)) (a:Pb vs i v):Ke P (Oper.mk dst (.extract x i) ty pos after g) fr (v):=by
 refine ⟨fun ds w=>?_⟩;have c:=b ds;unfold Pb at a;simp [execOp,c,Instr.extract,a]
structure sb (P:Program) (f:FuncId) (args:List Value) (w:World) (R:Value→World→Prop):Prop where
 out:Calls P f ⟨args⟩ w fun e w'=>match e with | .returned v=>R v w' | _=>False
theorem sb.mono {f:FuncId}{args:List Value}{R R':Value→World→Prop}(h:sb P f args w R) (a:∀ v w',R v w'→R' v w'):sb P f args w R' :=
 ⟨Calls.mono h.out fun e w' he=>by
  cases e with
  | returned v=>exact a v w' he
  | panicked c=>exact he.elim
  | outgrown=>exact he.elim⟩
class Fb (P:Program) (f:FuncId):Prop where
 out:∀ args w,(callFunc f args).run P w=.ok (.enter f args) w
theorem JH {f : FuncId} {fn : Func} (a : P.funcs[f]? = some fn) (e : fn.body.isSome = true) (b : (fn.name == "runtime.NumGoroutine") = false) : Fb P f := by
 constructor;intro args w;have c:¬ fn.body=none:=by cases h:fn.body<;>simp_all
 have d : ¬ fn.name = "runtime.NumGoroutine" := by simpa using b
 simp only [callFunc,Sem.run_bind,run_program,Result.andThen_ok,a,beq_iff_eq,if_neg d,Option.isNone_iff_eq_none,if_neg c,Sem.run_pure]
def bh (fr:List Value) (dst:Option Tmp) (v:Value) (K:List Value→Prop):Prop:=∀ sa,Xe fr dst v sa→K sa
theorem Xe.uniq {fr a b:List Value}{dst:Option Tmp}{v:Value}(h:Xe fr dst v a) (k:Xe fr dst v b):a=b:=by
 have:=(h []).symm.trans (k []);unfold F at this;simpa using this
theorem pu {v:Value}{K:List Value→Prop}(a:Xe fr dst v sa) (h:K sa):bh fr dst v K:=fun c b=>by rw [Xe.uniq b a];exact h
theorem Ei (fr:List Value) (dst:Option Tmp) (v:Value):∃ sa,Xe fr dst v sa:=by
 cases dst with
 | none=>exact ⟨fr,fb⟩
 | some n=>exact ⟨fr.set n v,ia rfl⟩
theorem pw {o:Oper}{f:FuncId}{args:List Value}{R:Value→World→Prop}(a:(execOp (F fr ds).eval o).run P w=.ok (.enter f ⟨args⟩) w) (hc:sb P f args w R)
  (h:∀ v w',R v w'→bh fr o.dst v fun sa=>K sa ds w'):Gd P o fr ds w K Q:=by
 constructor;intro d b;unfold Oper.wp;rw [a,Oper.upon_enter];exact Calls.mono hc.out fun e w' he=>by
  cases e with
  | returned v =>
   obtain ⟨sa,Na⟩:=Ei fr o.dst v;exact Na.rw (b _ _ _ (h v w' he sa Na))
  | panicked c=>exact he.elim
  | outgrown=>exact he.elim
theorem MB {f:Operand}{xs:List Operand}{tys:Array TypeId}{k:FuncId}{cap vs:List Value}(a:Fb P k) (b:Ya fr f (.func (.func k) #[] ⟨cap⟩)) (hs:rl fr xs vs) :
  (execOp (F fr ds).eval (Oper.mk dst (.call { callee:=.value f,args:=⟨xs⟩,argTypes:=tys }) ty pos after g)).run P w=.ok (.enter k ⟨vs++cap⟩) w:=by
 have c:=b ds;have d:=hs ds;have e:=a.out ⟨vs++cap⟩ w;simp [execOp,resolve,c,Deferred.ofValue,invoke,d,e]
theorem Wd {f:Operand}{xs:List Operand}{tys:Array TypeId}{k:FuncId}{vs:List Value}{R:Value→World→Prop}(a:Fb P k) (b:Ya fr f (.func (.func k) #[] #[])) (hs:rl fr xs vs)
  (hc:sb P k vs w R) (h:∀ v w',R v w'→bh fr dst v fun sa=>K sa ds w'):Gd P (Oper.mk dst (.call { callee:=.value f,args:=⟨xs⟩,argTypes:=tys }) ty pos after g) fr ds w K Q:=by
 refine pw (args:=vs) ?_ hc h;have:=MB (w:=w) (dst:=dst) (ty:=ty) (pos:=pos) (after:=after) (g:=g) (tys:=tys) (ds:=ds) (cap:=[]) a b hs;simpa using this
theorem Kt {f:Operand}{xs:List Operand}{tys:Array TypeId}{k:FuncId}{cap vs:List Value}{R:Value→World→Prop}(a:Fb P k) (b:Ya fr f (.func (.func k) #[] ⟨cap⟩)) (hs:rl fr xs vs)
  (hc:sb P k (vs++cap) w R) (h:∀ v w',R v w'→bh fr dst v fun sa=>K sa ds w'):Gd P (Oper.mk dst (.call { callee:=.value f,args:=⟨xs⟩,argTypes:=tys }) ty pos after g) fr ds w K Q :=
 pw (MB a b hs) hc h
def Wo (P:Program) (fn:Func) (R:Value→World→Prop):Exit→Act→World→Prop:=bodyPost P fn fun e w'=>match e with | .returned v=>R v w' | _=>False
theorem enter {f:FuncId}{fn:Func}{c:Code}{args frm:List Value}{R:Value→World→Prop}(a:P.funcs[f]?=some fn) (b:fn.body=some c)
  (d:args++List.replicate (fn.ntmps - args.length) undef=frm) (h:te P c (Wo P fn R) frm [] w):sb P f args w R:=by
 refine ⟨calls_of_wp a b ?_⟩;subst d;have:(⟨args⟩:Array Value)++Array.replicate (fn.ntmps - args.length) undef=⟨args++List.replicate (fn.ntmps - args.length) undef⟩:=by
  apply Array.ext';simp
 have h:=h.out;simpa [F,Wo,this] using h
theorem Jb {fn:Func}{R:Value→World→Prop}{t:Tmp}{v:Value}(b:fn.results=#[.tmp t]) (a:Pb fr t v) (h:R v w):Wo P fn R .ret (F fr []) w:=by
 refine bodyPost_ret (v:=v) ?_ rfl h;unfold Pb at a;rw [results_tmp b];simp [F,a]
theorem SL {fn:Func}{R:Value→World→Prop}{t u:Tmp}{v a:Value}(d:fn.results=#[.tmp t,.tmp u]) (b:Pb fr t v) (c:Pb fr u a) (h:R (.tuple #[v,a]) w):Wo P fn R .ret (F fr []) w:=by
 refine bodyPost_ret (v:=.tuple #[v,a]) ?_ rfl h;unfold Pb at b c;rw [results_tmp2 d];simp [F,b,c]
theorem Hg {fn:Func}{R:Value→World→Prop}(a:fn.results=#[]) (h:R (.tuple #[]) w):Wo P fn R .normal (F fr []) w :=
 bodyPost_end (results_none a _ _ _) rfl h
theorem Hn {fn:Func}{R:Value→World→Prop}(a:fn.results=#[]) (h:R (.tuple #[]) w):Wo P fn R .ret (F fr []) w :=
 bodyPost_ret (results_none a _ _ _) rfl h
end
end Go.yb
namespace Go.yb
open Go.RowKit
structure Eh (S:Nat→Prop) (w w':World):Prop where
 os:w'.os=w.os
 tape:w'.tape=w.tape
 output:w'.output=w.output
 size:w.heap.size≤w'.heap.size
 ba:∀ k,k<w.heap.size→S k→w'.heap[k]?=w.heap[k]?
def Grow (w w':World):Prop:=Eh (fun _=>True) w w'
theorem Eh.refl {S:Nat→Prop}(w:World):Eh S w w:=⟨rfl,rfl,rfl,Nat.le_refl _,fun _ _ _=>rfl⟩
theorem Eh.trans {S:Nat→Prop}{a b c:World}(h:Eh S a b) (k:Eh S b c):Eh S a c :=
 ⟨k.os.trans h.os,k.tape.trans h.tape,k.output.trans h.output,Nat.le_trans h.size k.size,fun i Ua hs=>(k.ba i (Nat.lt_of_lt_of_le Ua h.size) hs).trans (h.ba i Ua hs)⟩
theorem Eh.mono {S c:Nat→Prop}{a b:World}(h:Eh S a b) (hs:∀ k,c k→S k):Eh c a b:=⟨h.os,h.tape,h.output,h.size,fun i Ua k=>h.ba i Ua (hs i k)⟩
theorem Grow.keeps {S:Nat→Prop}{a b:World}(h:Grow a b):Eh S a b:=Eh.mono h fun _ _=>trivial
theorem Grow.below {a b:World}(h:Grow a b):Below a.heap.size a b:=⟨h.os,h.tape,h.output,h.size,fun k c=>h.ba k c trivial⟩
theorem Grow.alloc (w:World) (o:Obj):Grow w (w.alloc o):=⟨rfl,rfl,rfl,by simp,fun k a _=>heap_alloc_old w o k a⟩
def lk (S:Nat→Prop) (w:World) (A:World→Prop):Prop:=∀ w',w.heap.size≤w'.heap.size→(∀ k,k<w.heap.size→S k→w'.heap[k]?=w.heap[k]?)→A w'
theorem lk.now {S:Nat→Prop}{w:World}{A:World→Prop}(h:lk S w A):A w:=h w (Nat.le_refl _) fun _ _ _=>rfl
theorem lk.mono {S a:Nat→Prop}{w:World}{A:World→Prop}(h:lk S w A) (hs:∀ k,k<w.heap.size→S k→a k):lk a w A:=fun w' c d=>h w' c fun k b e=>d k b (hs k b e)
theorem lk.and {S:Nat→Prop}{w:World}{A B:World→Prop}(h:lk S w A) (k:lk S w B):lk S w fun w'=>A w'∧B w':=fun w' a b=>⟨h w' a b,k w' a b⟩
theorem lk.keeps {S:Nat→Prop}{w w':World}{A:World→Prop}(h:lk S w A) (k:Eh S w w'):lk S w' A :=
 fun c d e=>h c (Nat.le_trans k.size d) fun b a hs=>(e b (Nat.lt_of_lt_of_le a k.size) hs).trans (k.ba b a hs)
inductive kb where
 | ba (b:Nat) (T:TypeId) (cs:List Value)
 | row (v:Value) (T:TypeId) (sz n:Nat) (xs:List Value)
 | map (b:Nat) (es:List MapEntry) (clock:Nat)
 | Bx (b:Nat) (s:ByteArray) (pos:Nat)
 | ro (b:Nat) (T:TypeId) (cs:List Value)
 | Xk (b m since:Nat) (seen:List Nat) (last:Nat)
def ji (w:World) (b:Nat) (T:TypeId) (cs:List Value):Prop:=w.heap[b]?=some (.cells ⟨cs⟩ T (0,0))
def Row (w:World) (v:Value) (T:TypeId) (sz n:Nat) (xs:List Value):Prop :=
 xs.length=n*sz∧((v=.slice none 0 0∧n=0)∨∃ g o cap cur,v=.slice (some ⟨g,o,none⟩) n cap∧w.heap[g]?=some (.cells cur T (0,0))∧n≤cap∧cap≤maxLen∧o+cap*sz≤cur.size∧(cur.toList.drop o).take (n*sz)=xs)
def kb.block:kb→Option Nat
 | .ba b _ _=>some b
 | .row v _ _ _ _=>v.ownBlock
 | .map b _ _=>some b
 | .Bx b _ _=>some b
 | .ro b _ _=>some b
 | .Xk b _ _ _ _=>some b
def kb.holds (w:World):kb→Prop
 | .ba b T cs=>ji w b T cs
 | .row v T sz n xs=>Row w v T sz n xs
 | .map b es clock=>w.heap[b]?=some (.map ⟨es⟩ clock)
 | .Bx b s pos=>w.heap[b]?=some (.stringIter s pos)
 | .ro b T cs=>∃ z,w.heap[b]?=some (.cells ⟨cs⟩ T z)
 | .Xk b m since seen last=>w.heap[b]?=some (.mapIter (some m) since ⟨seen⟩ last)
def blocks (rs:List kb):List Nat:=rs.filterMap kb.block
structure Sep (S Ad:Nat→Prop) (w0 w:World) (rs:List kb) (A:World→Prop):Prop where
 keeps:Eh S w0 w
 all:∀ r ∈ rs,r.holds w
 ki:(blocks rs).Nodup
 new:∀ b ∈ blocks rs,w0.heap.size≤b∨¬ S b
 Gi:lk (fun b=>(Ad b∨w0.heap.size≤b)∧b ∉ blocks rs) w A
theorem PA {w:World}{r:kb}(h:r.holds w){b:Nat}(a:r.block=some b):b<w.heap.size:=by
 cases r with
 | ba jg T cs=>simp [kb.block] at a; subst a; exact (Array.getElem?_eq_some_iff.1 h).1
 | map jg es d=>simp [kb.block] at a; subst a; exact (Array.getElem?_eq_some_iff.1 h).1
 | Bx jg s p=>simp [kb.block] at a; subst a; exact (Array.getElem?_eq_some_iff.1 h).1
 | Xk jg m s e l=>simp [kb.block] at a; subst a; exact (Array.getElem?_eq_some_iff.1 h).1
 | ro jg T cs=>obtain ⟨z,h⟩:=h; simp [kb.block] at a; subst a; exact (Array.getElem?_eq_some_iff.1 h).1
 | row v T sz n xs =>
  rcases h.2 with ⟨rfl,_⟩ | ⟨g,o,cap,cur,rfl,c,_⟩
  ·simp [kb.block,Value.ownBlock] at a
  ·simp [kb.block,Value.ownBlock] at a;subst a;exact (Array.getElem?_eq_some_iff.1 c).1
theorem holds_of {w w':World}{r:kb}(h:r.holds w) (a:∀ b,r.block=some b→w'.heap[b]?=w.heap[b]?):r.holds w':=by
 cases r with
 | ba jg T cs=>exact (a jg rfl).trans h
 | map jg es d=>exact (a jg rfl).trans h
 | Bx jg s p=>exact (a jg rfl).trans h
 | Xk jg m s e l=>exact (a jg rfl).trans h
 | ro jg T cs=>obtain ⟨z,h⟩:=h; exact ⟨z,(a jg rfl).trans h⟩
 | row v T sz n xs =>
  refine ⟨h.1,?_⟩;rcases h.2 with h | ⟨g,o,cap,cur,rfl,c,h⟩
  ·exact .inl h
  ·exact .inr ⟨g,o,cap,cur,rfl,by rw [a g rfl];exact c,h⟩
section
variable {S Ad:Nat→Prop}{w0 w w':World}{rs rs':List kb}{A B:World→Prop}
theorem Sep.a (h:Sep S Ad w0 w rs A):A w:=h.Gi.now
theorem Sep.start (w:World) (S Ad:Nat→Prop) (a:lk Ad w A):Sep S Ad w w [] A :=
 ⟨.refl w,by simp,by simp [blocks],by simp [blocks],a.mono fun k _ hs=>⟨.inl hs,by simp [blocks]⟩⟩
theorem jo {r:kb}{b:Nat}(a:r ∈ rs) (c:r.block=some b):b ∈ blocks rs:=List.mem_filterMap.2 ⟨r,a,c⟩
theorem Sep.lt (h:Sep S Ad w0 w rs A){b:Nat}(a:b ∈ blocks rs):b<w.heap.size:=by
 obtain ⟨r,c,a⟩:=List.mem_filterMap.1 a;exact PA (h.all r c) a
theorem Sep.grow (h:Sep S Ad w0 w rs A) (a:Grow w w'):Sep S Ad w0 w' rs A where
 keeps:=h.keeps.trans a.keeps
 all r c:=holds_of (h.all r c) fun b d=>a.ba b (h.lt (jo c d)) trivial
 ki:=h.ki
 new:=h.new
 Gi:=h.Gi.keeps a.keeps
theorem Sep.alloc (h:Sep S Ad w0 w rs A){o:Obj}{r:kb}(c:r.block=some w.heap.size) (e:r.holds (w.alloc o)):Sep S Ad w0 (w.alloc o) (r::rs) A where
 keeps:=h.keeps.trans (Grow.alloc w o).keeps
 all r' d:=by
  rcases List.mem_cons.1 d with rfl | d
  ·exact e
  ·exact (h.grow (Grow.alloc w o)).all r' d
 ki:=by
  simp only [blocks,List.filterMap_cons,c,List.nodup_cons];exact ⟨fun hm=>Nat.lt_irrefl _ (h.lt hm),h.ki⟩
 new b a:=by
  simp only [blocks,List.filterMap_cons,c,List.mem_cons] at a;rcases a with rfl | a
  ·exact .inl h.keeps.size
  ·exact h.new b a
 Gi:=fun w' f g=>h.Gi w' (by simp at f;omega) fun k i hs=>by
  have:=g k (by simp;omega) ⟨hs.1,by
   simp only [blocks,List.filterMap_cons,c,List.mem_cons,not_or];exact ⟨by omega,hs.2⟩⟩
  rw [this];exact heap_alloc_old w o k i
theorem Hw {r:kb}{n:Nat}(a:Pb rs n r):r ∈ rs:=List.mem_of_getElem? a
theorem Sep.get (h:Sep S Ad w0 w rs A){n:Nat}{r:kb}(a:Pb rs n r):r.holds w:=h.all r (Hw a)
theorem gB {n:Nat}{r r':kb}(b:Pb rs n r) (c:r'.block=r.block):blocks (rs.set n r')=blocks rs:=by
 unfold Pb at b;unfold blocks
 induction rs generalizing n with
 | nil=>rfl
 | cons a rs d =>
  cases n with
  | zero=>simp at b; subst b; simp [List.filterMap_cons,c]
  | succ n=>simp at b; simp only [List.set_cons_succ,List.filterMap_cons,d b]
theorem QA {n m:Nat}{r f:kb}(Na:(blocks rs).Nodup) (d:Pb rs n r) (hm:Pb rs m f) (i:n≠m){b:Nat}(g:r.block=some b):f.block≠some b:=by
 unfold Pb at d hm;unfold blocks at Na
 induction rs generalizing n m with
 | nil=>simp at d
 | cons a rs j =>
  have k:(List.filterMap kb.block rs).Nodup:=by
   cases h:a.block with
   | none=>simpa [List.filterMap_cons,h] using Na
   | some c=>simp only [List.filterMap_cons,h,List.nodup_cons] at Na; exact Na.2
  cases n with
  | zero =>
   cases m with
   | zero=>exact absurd rfl i
   | succ m =>
    simp at d hm;subst d;intro e;simp only [List.filterMap_cons,g,List.nodup_cons] at Na;exact Na.1 (List.mem_filterMap.2 ⟨f,List.mem_of_getElem? hm,e⟩)
  | succ n =>
   cases m with
   | zero =>
    simp at d hm;subst hm;intro e;simp only [List.filterMap_cons,e,List.nodup_cons] at Na;exact Na.1 (List.mem_filterMap.2 ⟨r,List.mem_of_getElem? d,g⟩)
   | succ m=>simp at d hm; exact j k d hm (by omega)
theorem Sep.put (h:Sep S Ad w0 w rs A){n:Nat}{r r':kb}{b:Nat}(d:Pb rs n r) (f:r.block=some b) (o:r'.block=some b) (j:oc rs n r' rs')
  (p:r'.holds w') (a:Eh (fun k=>k≠b) w w'):Sep S Ad w0 w' rs' A:=by
 unfold oc at j;subst j;have l:=jo (Hw d) f;have g:=gB (r':=r') d (o.trans f.symm);refine ⟨?_,?_,?_,?_,?_⟩
 ·refine ⟨a.os.trans h.keeps.os,a.tape.trans h.keeps.tape,a.output.trans h.keeps.output,Nat.le_trans h.keeps.size a.size,fun k i hs=>?_⟩;rw [a.ba k (Nat.lt_of_lt_of_le i h.keeps.size) (fun e=>by subst e;rcases h.new k l with h | h;exact absurd i (by omega);exact h hs)];exact h.keeps.ba k i hs
 ·intro q s;obtain ⟨m,hm⟩:=List.mem_iff_getElem?.1 s;by_cases e:n=m
  ·subst e;have t:n<rs.length:=(List.getElem?_eq_some_iff.1 d).1;rw [List.getElem?_set_self t] at hm;cases hm;exact p
  ·rw [List.getElem?_set_ne e] at hm;refine holds_of (h.all q (List.mem_of_getElem? hm)) fun c hc=>a.ba c (h.lt (jo (List.mem_of_getElem? hm) hc)) fun u=>?_;subst u;exact QA h.ki d hm e f hc
 ·rw [g];exact h.ki
 ·rw [g];exact h.new
 ·rw [g];exact h.Gi.keeps (a.mono fun k hs e=>hs.2 (by subst e;exact l))
end
def lx:TypeDesc→Bool
 | .struct _ | .array _ _=>true
 | _=>false
class mc (P:Program) (T:TypeId) (Bf:outParam Bool) (sd:outParam (List Value)) (n m:outParam Nat):Prop where
 xA:∃ d,P.underlying T=some d∧lx d=Bf
 inf:∃ i z,P.info? T=some i∧i.zero=some z∧z.cells=⟨sd⟩∧i.size=n∧i.bytes=m
theorem WK {P:Program}{T:TypeId}{d:TypeDesc}{Bf:Bool}{z:Value}{sd:List Value}{n m:Nat}(hu:P.underlying T=some d) (a:lx d=Bf) (h:(P.info? T).map (fun i=>(i.zero,i.size,i.bytes))=some (some z,n,m)) (b:z.cells=⟨sd⟩):mc P T Bf sd n m:=by
 refine ⟨⟨d,hu,a⟩,?_⟩;cases Ua:P.info? T with
 | none=>rw [Ua] at h; cases h
 | some i =>
  rw [Ua] at h;simp only [Option.map_some,Option.some.injEq,Prod.mk.injEq] at h;exact ⟨i,z,rfl,h.1,b,h.2.1,h.2.2⟩
def xe:Value→Bool
 | .agg _ | .tuple _=>false
 | _=>true
section
variable {P:Program}{Q:Exit→Act→World→Prop}{K:List Value→List Deferred→World→Prop}{fr sa:List Value}{ds:List Deferred}{w:World}
variable {dst:Option Tmp}{ty:TypeId}{pos:String}{after:Array Edge}{g:Option (Nat×Bool)}
variable {S Ad:Nat→Prop}{w0:World}{rs rs':List kb}{A:World→Prop}
variable {T:TypeId}{d:TypeDesc}{Bf:Bool}{sd:List Value}{n m:Nat}
theorem DF (h:P.underlying T=some d):(isAgg T).run P w=.ok (lx d) w:=by
 unfold isAgg;simp only [Sem.run_bind,run_underlying h,Result.andThen_ok];cases d<;>rfl
theorem mc.isAgg (h:mc P T Bf sd n m):(Go.isAgg T).run P w=.ok Bf w:=by
 obtain ⟨d,Na,rfl⟩:=h.xA;exact DF Na
theorem mc.sizeOf (h:mc P T Bf sd n m):(Go.sizeOf T).run P w=.ok n w:=by
 obtain ⟨i,z,Ua,b,hc,a,hm⟩:=h.inf;simp [Go.sizeOf,typeInfo,Ua,a]
theorem mc.zero (h:mc P T Bf sd n m):∃ z,(zeroValue T).run P w=.ok z w∧z.cells=⟨sd⟩:=by
 obtain ⟨i,z,Ua,a,hc,b,hm⟩:=h.inf;exact ⟨z,by simp [zeroValue,typeInfo,Ua,a],hc⟩
def aj (w:World) (b o:Nat) (cs:List Value):Prop:=∀ j v,cs[j]?=some v→w.cell? ⟨b,o+j,none⟩=some v
theorem Ij (b o j:Nat):(⟨b,o,none⟩:Addr).add j=⟨b,o+j,none⟩:=by
 unfold Addr.add;split
 ·rename_i h;subst h;rfl
 ·rfl
theorem ji.cell {b:Nat}{cs:List Value}{j:Nat}{v:Value}(h:ji w b T cs) (a:Pb cs j v):w.cell? ⟨b,j,none⟩=some v:=by
 unfold Pb at a;unfold ji at h;simp [World.cell?,h,a]
theorem ji.cells {b:Nat}{cs:List Value}(h:ji w b T cs):aj w b 0 cs:=fun j v a=>by
 rw [Nat.zero_add];exact h.cell a
theorem aj.one {b o:Nat}{cs:List Value}{j:Nat}{v:Value}(h:aj w b o cs) (a:Pb cs j v):w.cell? ⟨b,o+j,none⟩=some v:=h j v a
theorem Qd (a:mc P T Bf sd n m) (c:Sep S Ad w0 w rs A)
  (h:∀ b w',w.heap.size≤b→Sep S Ad w0 w' (.ba b T sd::rs) A→bh fr dst (.pointer (some ⟨b,0,none⟩)) fun sa=>K sa ds w'):Gd P (Oper.mk dst (.alloc T) ty pos after g) fr ds w K Q:=by
 obtain ⟨z,d,hc⟩:=a.zero (w:=w);obtain ⟨sa,Na⟩:=Ei fr dst (.pointer (some ⟨w.heap.size,0,none⟩));refine Th (v:=.pointer (some ⟨w.heap.size,0,none⟩)) (w':=w.alloc (.cells ⟨sd⟩ T)) ?_ Na (h _ _ (Nat.le_refl _) (c.alloc rfl (heap_alloc_new w _)) sa Na);simp [execOp,Instr.alloc,d,newVar,newRow,hc]
theorem ug {x:Operand}{v:Value}{cs:List Value}(a:Ya fr x v) (hc:v.cells=⟨cs⟩) (c:Sep S Ad w0 w rs A)
  (h:∀ b w',w.heap.size≤b→Sep S Ad w0 w' (.ba b T cs::rs) A→bh fr dst (.pointer (some ⟨b,0,none⟩)) fun sa=>K sa ds w'):Gd P (Oper.mk dst (.box T x) ty pos after g) fr ds w K Q:=by
 obtain ⟨sa,Na⟩:=Ei fr dst (.pointer (some ⟨w.heap.size,0,none⟩));refine Th (v:=.pointer (some ⟨w.heap.size,0,none⟩)) (w':=w.alloc (.cells ⟨cs⟩ T)) ?_ Na (h _ _ (Nat.le_refl _) (c.alloc rfl (heap_alloc_new w _)) sa Na);simp [execOp,Instr.box,a ds,newVar,newRow,hc]
structure yl (P:Program) (o:Oper) (fr:List Value) (w:World) (v:Value):Prop where
 out:∀ ds,(execOp (F fr ds).eval o).run P w=.ok (.value v) w
theorem Eu {o:Oper}{v:Value}(hu:yl P o fr w v) (a:Xe fr o.dst v sa) (h:K sa ds w):Gd P o fr ds w K Q:=Th (hu.out ds) a h
theorem Da {x:Operand}{b o:Nat}{v:Value}(a:mc P T false sd n m) (c:Ya fr x (.pointer (some ⟨b,o,none⟩))) (hc:w.cell? ⟨b,o,none⟩=some v):yl P (Oper.mk dst (.load T x) ty pos after g) fr w v :=
 ⟨fun ds=>by simp [execOp,Instr.loadAt,c ds,Instr.sureAddr,loadVar,a.isAgg,hc]⟩
theorem ee {x:Operand}{b o:Nat}{v:Value}(a:mc P T false sd n m) (c:Ya fr x (.pointer (some ⟨b,o,none⟩))) (hc:w.cell? ⟨b,o,none⟩=some v)
  (d:Xe fr dst v sa) (h:K sa ds w):Gd P (Oper.mk dst (.load T x) ty pos after g) fr ds w K Q:=Eu (Da a c hc) d h
theorem vj {x:Operand}{b o:Nat}{cs:List Value}(a:mc P T true sd n m) (d:Ya fr x (.pointer (some ⟨b,o,none⟩))) (hc:aj w b o cs) (e:cs.length=n):yl P (Oper.mk dst (.load T x) ty pos after g) fr w (.agg ⟨cs⟩):=⟨fun ds=>by
 have c:=run_loadCells_list (P:=P) w ⟨b,o,none⟩ cs (fun j v f=>by rw [Ij];exact hc j v f);rw [e] at c;simp [execOp,Instr.loadAt,d ds,Instr.sureAddr,loadVar,a.isAgg,a.sizeOf,c]⟩
theorem Lt {x:Operand}{b o:Nat}{cs:List Value}(a:mc P T true sd n m) (c:Ya fr x (.pointer (some ⟨b,o,none⟩))) (hc:aj w b o cs) (d:cs.length=n)
  (e:Xe fr dst (.agg ⟨cs⟩) sa) (h:K sa ds w):Gd P (Oper.mk dst (.load T x) ty pos after g) fr ds w K Q:=Eu (vj a c hc d) e h
inductive Nh:List Value→Nat→List Value→List Value→Prop where
 | z {cs:List Value} {o:Nat}:Nh cs o [] cs
 | s {cs cs1 a:List Value} {o:Nat} {v:Value} {vs:List Value} (h:oc cs o v cs1) (b:o<cs.length) (k:Nh cs1 (o+1) vs a):Nh cs o (v::vs) a
theorem Nh.eq {cs:List Value}{o:Nat}{vs b:List Value}(h:Nh cs o vs b):o+vs.length≤cs.length∨vs=[]:=by
 induction h with
 | z=>exact .inr rfl
 | @s cs cs1 b o v vs h c k a =>
  left;unfold oc at h;subst h;rcases a with a | rfl
  ·simp at a ⊢;omega
  ·simp;omega
theorem Nh.res {cs:List Value}{o:Nat}{vs a:List Value}(h:Nh cs o vs a) (e:o≤cs.length):a=cs.take o++vs++cs.drop (o+vs.length):=by
 induction h with
 | z=>simp
 | @s cs cs1 a o v vs h b k c =>
  unfold oc at h;subst h;rw [c (by simp;omega)];have qa:(cs.set o v).take (o+1)=cs.take o++[v]:=by
   rw [List.take_set,List.take_add_one,List.getElem?_eq_getElem b];rw [List.set_append_right _ _ (by simp;omega)];simp [Nat.min_eq_left (Nat.le_of_lt b)]
  rw [qa];have d:(cs.set o v).drop (o+1+vs.length)=cs.drop (o+(v::vs).length):=by
   rw [List.drop_set_of_lt (by omega)];congr 1;simp;omega
  rw [d];simp
theorem Qv {v:Value}(h:xe v=true):v.oneCell'=true:=by cases v<;>first | rfl | simp [xe] at h
theorem SE {b:Nat}{cs:List Value}(a:ji w b T cs){o:Nat}{vs c:List Value}(hs:Nh cs o vs c) (d:o≤cs.length) (e:vs.all xe=true) :
  ∃ w',(storeCells ⟨b,o,none⟩ vs).run P w=.ok () w'∧ji w' b T c∧Eh (fun k=>k≠b) w w':=by
 have hle:o+0+vs.length≤(⟨cs⟩:Array Value).size:=by
  rcases hs.eq with h | rfl
  ·simpa using h
  ·simpa using d
 refine ⟨_,run_storeCells_at P b o T vs 0 ⟨cs⟩ w a hle fun v Wa=>Qv (List.all_eq_true.1 e v Wa),?_,?_⟩
 ·rw [hs.res d];exact setRow_heap w b ⟨cs⟩ _ T (0,0) a
 ·exact ⟨rfl,rfl,rfl,by simp [World.setRow],fun k f hs=>setRow_other w b k _ hs⟩
theorem ez {x y:Operand}{b o k:Nat}{v:Value}{cs a vs:List Value}(f:mc P T Bf sd n m) (i:Ya fr x (.pointer (some ⟨b,o,none⟩))) (j:Ya fr y v) (Wa:v.cells=⟨vs⟩) (l:vs.length=n) (p:vs.all xe=true)
  (c:Sep S Ad w0 w rs A) {d:TypeId}(e:Pb rs k (.ba b d cs)) (hs:Nh cs o vs a) (q:(decide (o≤cs.length))=true) (r:oc rs k (.ba b d a) rs')
  (Na:Xe fr dst undef sa) (h:∀ w',Sep S Ad w0 w' rs' A→K sa ds w'):Gd P (Oper.mk dst (.store T x y) ty pos after g) fr ds w K Q:=by
 obtain ⟨w',s,t,u⟩:=SE (P:=P) (c.get e) hs (of_decide_eq_true q) p;refine mA (w':=w') ?_ Na (h w' (c.put e rfl rfl r t u));have qa:v.cells.toList=vs:=by rw [Wa]
 have z:¬ (v.cells.size≠n):=by rw [Wa];simpa using l
 have B:=f.sizeOf (w:=w);simp only [execOp,Instr.storeAt,i ds,j ds,Instr.sureAddr,storeVar,Sem.run_bind,B,Result.andThen_ok,if_neg z,qa,s,Sem.run_pure]
class Uc (P:Program) (T:TypeId) (i:Nat) (off:outParam Nat):Prop where
 out:∀ b o w,(Instr.fieldAt T (.pointer (some ⟨b,o,none⟩)) i).run P w=.ok (.pointer (some ⟨b,o+off,none⟩)) w
theorem ed {fs:Array Field}{i off:Nat}{f:Field}{c:TypeId}{d:List Value}{a e:Nat}{g:Bool}(h:P.underlying T=some (.struct fs)) (j:fs[i]?=some f) (k:f.offset=off) (l:f.type=c) (m:mc P c g d a e) (n:(a == 0)=false):Uc P T i off:=by
 constructor;intro b o w;have p:¬ a=0:=by simpa using n
 simp [Instr.fieldAt,run_underlying h,j,Instr.sureAddr,fieldPlace,l,m.sizeOf,p,Ij,k]
theorem Rg {x:Operand}{b o i off o':Nat}(a:Uc P T i off) (c:Ya fr x (.pointer (some ⟨b,o,none⟩))) (d:o+off=o'):Ke P (Oper.mk dst (.fieldAddr T x i) ty pos after g) fr ((.pointer (some ⟨b,o',none⟩))):=by
 subst d;exact ⟨fun ds w=>by simp [execOp,c ds,a.out]⟩
theorem Jn {x:Operand}{b o i off o':Nat}(a:Uc P T i off) (c:Ya fr x (.pointer (some ⟨b,o,none⟩))) (d:o+off=o') (e:Xe fr dst ((.pointer (some ⟨b,o',none⟩))) sa) (h:K sa ds w):Gd P (Oper.mk dst (.fieldAddr T x i) ty pos after g) fr ds w K Q:=va (Rg a c d) e h
theorem KH {x:Operand}{i off:Nat}{cs:List Value}{v:Value}{fs:Array Field}{f:Field}{a:TypeId}{c:List Value}{d e:Nat}(h:P.underlying T=some (.struct fs)) (j:fs[i]?=some f) (k:f.offset=off) (l:f.type=a) (m:mc P a false c d e)
  (n:Ya fr x (.agg ⟨cs⟩)) (b:Pb cs off v):Ke P (Oper.mk dst (.field T x i) ty pos after g) fr (v):=by
 subst k l;unfold Pb at b;refine ⟨fun ds w=>?_⟩;simp [execOp,n ds,Instr.field,run_underlying h,j,asAgg,part,m.isAgg,b]
theorem qw {x:Operand}{i off:Nat}{cs:List Value}{v:Value}{fs:Array Field}{f:Field}{a:TypeId}{b:List Value}{c d:Nat}(e:P.underlying T=some (.struct fs)) (j:fs[i]?=some f) (k:f.offset=off) (l:f.type=a) (m:mc P a false b c d)
  (n:Ya fr x (.agg ⟨cs⟩)) (o:Pb cs off v) (p:Xe fr dst (v) sa) (h:K sa ds w):Gd P (Oper.mk dst (.field T x i) ty pos after g) fr ds w K Q:=va (KH e j k l m n o) p h
theorem qu {x y:Operand}{b o len cap:Nat}{k:IntKind}{i:Int}{e:TypeId}{o':Nat}(a:P.underlying T=some (.slice e)) (c:mc P e Bf sd n m) (d:Ya fr x (.slice (some ⟨b,o,none⟩) len cap)) (f:Ya fr y (.int k i)) (Ua:0≤i∧i<len) (h:o+i.toNat*n=o'):Ke P (Oper.mk dst (.indexAddr T x y) ty pos after g) fr ((.pointer (some ⟨b,o',none⟩))):=by
 subst h;refine ⟨fun ds w=>?_⟩;simp [execOp,d ds,f ds,Instr.indexAt,asIntOf,run_underlying a,Ua,c.sizeOf,Ij]
theorem Kh {x:Operand}{a:Addr}(b:Ya fr x (.pointer (some a))):Ke P (Oper.mk dst (.nilCheck x) ty pos after g) fr ((.pointer (some a))):=⟨fun ds w=>by simp [execOp,b ds]⟩
theorem zo {x:Operand}{a:Addr}(b:Ya fr x (.pointer (some a))) (c:Xe fr dst ((.pointer (some a))) sa) (h:K sa ds w):Gd P (Oper.mk dst (.nilCheck x) ty pos after g) fr ds w K Q:=va (Kh b) c h
end
end Go.yb
namespace Go.yb
open Go.RowKit
section
variable {P:Program}{Q:Exit→Act→World→Prop}{K:List Value→List Deferred→World→Prop}{fr sa:List Value}{ds:List Deferred}{w:World}
variable {dst:Option Tmp}{ty:TypeId}{pos:String}{after:Array Edge}{g:Option (Nat×Bool)}
variable {S Ad:Nat→Prop}{w0:World}{rs rs':List kb}{A:World→Prop}
variable {T:TypeId}{d:TypeDesc}{Bf:Bool}{sd:List Value}{n m:Nat}
inductive ga:List kb→Nat→List kb→Prop where
 | z {r:kb} {rs:List kb}:ga (r::rs) 0 rs
 | s {r:kb} {rs rs':List kb} {k:Nat} (h:ga rs k rs'):ga (r::rs) (k+1) (r::rs')
theorem ga.mem {k:Nat}(h:ga rs k rs'):∀ r ∈ rs',r ∈ rs:=by
 induction h with
 | z=>intro r a; exact List.mem_cons_of_mem _ a
 | s _ b=>intro r a; rcases List.mem_cons.1 a with rfl | a; exact List.mem_cons_self; exact List.mem_cons_of_mem _ (b r a)
theorem ga.sub {k:Nat}(h:ga rs k rs'):rs'.Sublist rs:=by
 induction h with
 | z=>exact List.sublist_cons_self _ _
 | s _ a=>exact a.cons_cons _
theorem Sep.drop {k:Nat}(h:Sep S Ad w0 w rs A) (a:ga rs k rs'):Sep S Ad w0 w rs' A where
 keeps:=h.keeps
 all r c:=h.all r (a.mem r c)
 ki:=(a.sub.filterMap _).nodup h.ki
 new b d:=h.new b ((a.sub.filterMap _).subset d)
 Gi:=h.Gi.mono fun _ _ hs=>⟨hs.1,fun hm=>hs.2 ((a.sub.filterMap _).subset hm)⟩
theorem Sep.freeze {k:Nat}{r:kb}{B:World→Prop}(h:Sep S Ad w0 w rs A) (a:Pb rs k r) (d:ga rs k rs') (f:∀ b,r.block=some b→Ad b∨w0.heap.size≤b) (g:∀ w,r.holds w→B w) :
  Sep S Ad w0 w rs' fun w=>A w∧B w where
 keeps:=(h.drop d).keeps
 all:=(h.drop d).all
 ki:=(h.drop d).ki
 new:=(h.drop d).new
 Gi:=(h.drop d).Gi.and fun w' l i=>g w' (holds_of (h.get a) fun b e=>i b (h.lt (jo (Hw a) e)) ⟨f b e,by
  intro hm;have:blocks rs'=(blocks rs).erase b∨True:=.inr trivial;clear this;have Na:=h.ki;clear g f l i h;unfold blocks at hm Na;unfold Pb at a
  induction d with
  | z=>simp at a; subst a; simp only [List.filterMap_cons,e,List.nodup_cons] at Na; exact Na.1 hm
  | @s r' rs rs' k d j =>
   simp at a;cases hc:r'.block with
   | none=>simp only [List.filterMap_cons,hc] at hm Na; exact j a hm Na
   | some c =>
    simp only [List.filterMap_cons,hc,List.nodup_cons,List.mem_cons] at hm Na;rcases hm with rfl | hm
    ·exact Na.1 (List.mem_filterMap.2 ⟨r,List.mem_of_getElem? a,e⟩)
    ·exact j a hm Na.2⟩)
inductive Gc (fr:List Value):Nat→List (Nat×Operand)→List Value→Prop where
 | z {i:Nat}:Gc fr i [] []
 | s {i:Nat} {x:Operand} {v:Value} {xs:List (Nat×Operand)} {vs:List Value} (h:Ya fr x v) (hc:xe v=true) (t:Gc fr (i+1) xs vs):Gc fr i ((i,x)::xs) (v::vs)
theorem Gc.eval {i:Nat}{xs:List (Nat×Operand)}{vs:List Value}(h:Gc fr i xs vs):xs.map (fun p=>(p.1,(F fr ds).eval p.2))=(vs.zipIdx i).map fun p=>(p.2,p.1):=by
 induction h with
 | z=>rfl
 | s h _ _ a=>simp [h ds,a]
theorem Gc.cell {i:Nat}{xs:List (Nat×Operand)}{vs:List Value}(h:Gc fr i xs vs):∀ v ∈ vs,xe v=true:=by
 induction h with
 | z=>simp
 | s _ hc _ a=>intro v Wa; rcases List.mem_cons.1 Wa with rfl | Wa; exact hc; exact a v Wa
theorem zy {v:Value}(h:xe v=true):v.cells=#[v]:=by cases v<;>first | rfl | simp [xe] at h
theorem uB (pl:Nat→Option (Nat×Nat)) (a:∀ i,pl i=some (i,1)):∀ (vs:List Value) (i:Nat) (cs:List Value),(∀ v ∈ vs,xe v=true)→i+vs.length≤cs.length →
  Instr.fill pl ⟨cs⟩ ((vs.zipIdx i).map fun p=>(p.2,p.1))=some ⟨cs.take i++vs++cs.drop (i+vs.length)⟩
 | [],i,cs,_,h=>by simp [Instr.fill]
 | v::vs,i,cs,Wa,h=>by
  have hc:=zy (Wa v (by simp));have b:i<cs.length:=by simp at h;omega
  have d:=uB pl a vs (i+1) (cs.set i v) (fun u hu=>Wa u (by simp [hu])) (by simp at h ⊢;omega);simp only [List.zipIdx_cons,List.map_cons,Instr.fill,a,hc];have Hb:¬ ((#[v].size≠1 || i+#[v].size > (⟨cs⟩:Array Value).size)=true):=by simp;omega
  rw [if_neg Hb];have qa:(#[v].zipIdx.foldl (fun cs (c,j)=>cs.setIfInBounds (i+j) c) (⟨cs⟩:Array Value))=⟨cs.set i v⟩:=by
   simp [Array.zipIdx]
  rw [qa,d];have e:(cs.set i v).take (i+1)=cs.take i++[v]:=by
   rw [List.take_set,List.take_add_one,List.getElem?_eq_getElem b];rw [List.set_append_right _ _ (by simp;omega)];simp [Nat.min_eq_left (Nat.le_of_lt b)]
  have f:(cs.set i v).drop (i+1+vs.length)=cs.drop (i+(v::vs).length):=by
   rw [List.drop_set_of_lt (by omega)];congr 1;simp;omega
  rw [e,f];simp
theorem hg {e:TypeId}{len:Nat}{xs:List (Nat×Operand)}{vs:List Value}(l:P.underlying T=some (.slice e)) (a:mc P e Bf sd 1 m) (c:Gc fr 0 xs vs) (d:vs.length=len) (n:(decide (len≤16777216))=true) (o:Sep S Ad w0 w rs A)
  (h:∀ b w',w.heap.size≤b→Sep S Ad w0 w' (.ba b e vs::rs) A→bh fr dst (.slice (some ⟨b,0,none⟩) len len) fun sa=>K sa ds w'):Gd P (Oper.mk dst (.buildSlice T len ⟨xs⟩) ty pos after g) fr ds w K Q:=by
 obtain ⟨sa,Na⟩:=Ei fr dst (.slice (some ⟨w.heap.size,0,none⟩) len len);refine Th (v:=.slice (some ⟨w.heap.size,0,none⟩) len len) (w':=w.alloc (.cells ⟨vs⟩ e)) ?_ Na (h _ _ (Nat.le_refl _) (o.alloc rfl (heap_alloc_new w _)) sa Na);obtain ⟨z,q,hc⟩:=a.zero (w:=w);have r:=a.sizeOf (w:=w);have s:¬ (len*1 > 2 ^ 24):=by have:=of_decide_eq_true n;omega
 have t:=c.eval (ds:=ds);have f:∀ cs:Array Value,cs.size=len→Instr.fill (fun i=>some (i*1,1)) cs ((vs.zipIdx 0).map fun p=>(p.2,p.1))=some ⟨vs⟩:=by
  intro cs j;have:=uB (fun i=>some (i*1,1)) (fun i=>by rw [Nat.mul_one]) vs 0 cs.toList c.cell (by simp [d,j]);rw [this,List.drop_eq_nil_of_le (by simp [d,j])];simp
 have u:((⟨xs⟩:Array (Nat×Operand)).map fun (i,x)=>(i,(F fr ds).eval x)).toList=(vs.zipIdx 0).map fun p=>(p.2,p.1):=by
  simp only [Array.toList_map];exact t
 unfold execOp;simp only [Instr.buildSlice,Sem.run_bind,run_underlying l,Result.andThen_ok,r,if_neg s,u];by_cases k:len*1=0
 ·simp only [if_pos k,Sem.run_bind,Sem.run_pure,Result.andThen_ok];rw [f _ (by simp)];simp [newRow]
 ·simp only [if_neg k,Sem.run_bind,Sem.run_pure,Result.andThen_ok,q];rw [f _ (by simp)];simp [newRow]
theorem Sep.row {k:Nat}{v q:Value}{sz t:Nat}{xs u:List Value}{w':World}(f:Sep S Ad w0 w rs A) (g:Pb rs k (.row v T sz n xs)) (B:oc rs k (.row q T sz t u) rs') (F:Row w' q T sz t u)
  (p:Eh (fun b=>some b≠v.ownBlock) w w') (Wa:q.ownBlock=v.ownBlock∨∃ b,q.ownBlock=some b∧w.heap.size≤b):Sep S Ad w0 w' rs' A:=by
 unfold oc at B;subst B;have x:∀ b,v.ownBlock=some b→b ∈ blocks rs:=fun b d=>jo (Hw g) d;have y:∀ b ∈ blocks (rs.set k (.row q T sz t u)),(b ∈ blocks rs)∨(q.ownBlock=some b∧w.heap.size≤b):=by
  intro b d;obtain ⟨r,s,o⟩:=List.mem_filterMap.1 d;rcases List.mem_or_eq_of_mem_set s with hm | rfl
  ·exact .inl (jo hm o)
  ·rcases Wa with Wa | ⟨c,hc,hle⟩
   ·exact .inl (x b (Wa ▸ o))
   ·have:c=b:=by simpa [kb.block,hc] using o
    subst this;exact .inr ⟨hc,hle⟩
 have G:∀ b ∈ blocks rs,b ∈ blocks (rs.set k (.row q T sz t u))∨v.ownBlock=some b:=by
  intro b d;obtain ⟨r,s,o⟩:=List.mem_filterMap.1 d;obtain ⟨j,z⟩:=List.mem_iff_getElem?.1 s;by_cases e:k=j
  ·subst e;unfold Pb at g;rw [g] at z;cases z;exact .inr o
  ·exact .inl (jo (r:=r) (List.mem_of_getElem? (i:=j) (by rw [List.getElem?_set_ne e];exact z)) o)
 refine ⟨?_,?_,?_,?_,?_⟩
 ·refine ⟨p.os.trans f.keeps.os,p.tape.trans f.keeps.tape,p.output.trans f.keeps.output,Nat.le_trans f.keeps.size p.size,fun b d hs=>?_⟩;rw [p.ba b (Nat.lt_of_lt_of_le d f.keeps.size) (fun e=>by rcases f.new b (x b e.symm) with h | h;exact absurd d (by omega);exact h hs)];exact f.keeps.ba b d hs
 ·intro H K;obtain ⟨j,hm⟩:=List.mem_iff_getElem?.1 K;by_cases e:k=j
  ·subst e;have m:k<rs.length:=(List.getElem?_eq_some_iff.1 g).1;rw [List.getElem?_set_self m] at hm;cases hm;exact F
  ·rw [List.getElem?_set_ne e] at hm;refine holds_of (f.all H (List.mem_of_getElem? hm)) fun c hc=>p.ba c (f.lt (jo (List.mem_of_getElem? hm) hc)) fun L=>?_;exact QA f.ki g hm e (b:=c) L.symm hc
 ·have Na:=f.ki;have m:=fun b (d:b ∈ blocks rs)=>f.lt d;clear y G x;unfold Pb at g
  revert g Na m
  generalize rs=l;unfold blocks;intro g Na m
  induction l generalizing k with
  | nil=>simp at g
  | cons a l C =>
   cases k with
   | zero =>
    simp at g;subst g;simp only [List.set_cons_zero,List.filterMap_cons,kb.block] at Na m ⊢;rcases Wa with Wa | ⟨c,hc,hle⟩
    ·rw [Wa];exact Na
    ·rw [hc];cases d:v.ownBlock with
     | none =>
      rw [d] at Na m;exact List.nodup_cons.2 ⟨fun hm=>by have:=m c hm;omega,Na⟩
     | some b =>
      rw [d] at Na m;exact List.nodup_cons.2 ⟨fun hm=>by have:=m c (List.mem_cons_of_mem _ hm);omega,(List.nodup_cons.1 Na).2⟩
   | succ k =>
    simp at g;simp only [List.set_cons_succ,List.filterMap_cons] at Na m ⊢;cases D:a.block with
    | none=>rw [D] at Na m; exact C g Na m
    | some c =>
     rw [D] at Na m;simp only [List.nodup_cons] at Na ⊢;refine ⟨fun hm=>?_,C g Na.2 fun b d=>m b (List.mem_cons_of_mem _ d)⟩;obtain ⟨r,s,o⟩:=List.mem_filterMap.1 hm;rcases List.mem_or_eq_of_mem_set s with hm | rfl
     ·exact Na.1 (List.mem_filterMap.2 ⟨r,hm,o⟩)
     ·rcases Wa with Wa | ⟨c',M,hle⟩
      ·exact Na.1 (List.mem_filterMap.2 ⟨_,List.mem_of_getElem? g,by rw [← o];exact Wa.symm⟩)
      ·have:c'=c:=by simpa [kb.block,M] using o
       have:=m c (by simp);omega
 ·intro b d;rcases y b d with h | h
  ·exact f.new b h
  ·exact .inl (Nat.le_trans f.keeps.size h.2)
 ·intro N O P;refine f.Gi N (Nat.le_trans p.size O) fun b d hs=>?_;rw [P b (Nat.lt_of_lt_of_le d p.size) ⟨hs.1,fun hm=>by rcases y b hm with h | h;exact hs.2 h;exact absurd d (by omega)⟩];exact p.ba b d fun e=>hs.2 (x b e.symm)
end
section
variable {P:Program}{Q:Exit→Act→World→Prop}{K:List Value→List Deferred→World→Prop}{fr sa:List Value}{ds:List Deferred}{w:World}
variable {dst:Option Tmp}{ty:TypeId}{pos:String}{after:Array Edge}{g:Option (Nat×Bool)}
variable {S Ad:Nat→Prop}{w0:World}{rs rs':List kb}{A:World→Prop}
variable {T:TypeId}{d:TypeDesc}{Bf:Bool}{sd:List Value}{n m:Nat}
theorem eE {t ty:TypeId}{sz bytes:Nat}(q:P.underlying t=some (.slice T)) (L:mc P T Bf sd sz bytes) (M:sd.length=sz) (hc:0<sz)
  {v:Value}{xs:List Value}(l:Row w v T sz n xs) {a:Addr}{m c:Nat}{news:List Value}(f:news.length=m*sz) (s:∀ j u,news[j]?=some u→w.cell? (a.add j)=some u) (N:∀ u ∈ news,u.oneCell'=true)
  (C:n+m≤maxLen) (D:(n+m)*bytes≤140737488355328) :
  ∃ r w',(Builtin.append_ #[t,t] ty #[v,.slice (some a) m c]).run P w=.ok r w'∧Row w' r T sz (n+m) (xs++news)∧Eh (fun b=>some b≠v.ownBlock) w w' ∧
   (r.ownBlock=v.ownBlock∨∃ b,r.ownBlock=some b∧w.heap.size≤b):=by
 obtain ⟨i,z,Ua,F,O,G,Q⟩:=L.inf;have R:z.cells.size=i.size:=by rw [O,G];simpa using M
 subst G;subst Q;have lc:n+m≤9223372036854775807:=by simp only [maxLen] at C;omega
 have hlen:(xs++news).length=(n+m)*i.size:=by rw [List.length_append,l.1,f,Nat.add_mul]
 have grown:∀ (d:Nat),d<n+m→∀ (row:Option Nat),
   Row (w.drew.alloc (.cells (xs.toArray++news.toArray++Builtin.zeroCells z.cells (grownCap w (n+m) d T - (n+m))) T)) (.slice (some ⟨w.heap.size,0,none⟩) (n+m) (grownCap w (n+m) d T)) T i.size (n+m) (xs++news) ∧
   Eh (fun b=>some b≠row) w (w.drew.alloc (.cells (xs.toArray++news.toArray++Builtin.zeroCells z.cells (grownCap w (n+m) d T - (n+m))) T)):=by
  intro d rc row;have S:=grownCap_ge w (n+m) d T;have x:grownCap w (n+m) d T≤maxLen:=grownCap_le_maxLen w (n+m) d T C;refine ⟨⟨hlen,.inr ⟨w.heap.size,0,_,_,rfl,heap_alloc_new w.drew _,S,x,?_,?_⟩⟩,⟨rfl,rfl,rfl,by simp,fun k y _=>heap_alloc_old w.drew _ k y⟩⟩
  ·simp only [Array.size_append,List.size_toArray,size_zeroCells,R,l.1,f,← Nat.add_mul,Nat.zero_add];exact Nat.mul_le_mul_right _ (by omega)
  ·simp only [Array.toList_append,List.append_assoc,List.drop_zero];rw [← List.append_assoc,← hlen];exact List.take_left
 rcases l.2 with ⟨rfl,rfl⟩ | ⟨g,o,cap,cur,rfl,A,fd,x,id,H⟩
 ·have U:xs=[]:=List.eq_nil_of_length_eq_zero (by simpa using l.1);subst U;by_cases hm:m=0
  ·subst hm;have W:news=[]:=List.eq_nil_of_length_eq_zero (by simpa using f);subst W;refine ⟨.slice none 0 0,w,?_,⟨by simp,.inl ⟨rfl,rfl⟩⟩,.refl w,.inl rfl⟩;simp [Builtin.append_,run_underlying q,sizeOf,typeInfo,Ua,Builtin.lenOf,Builtin.firstCells,loadCells,loadCellsFrom]
  ·have p:=run_append_nil (P:=P) w t ty T i z q Ua F a m c news f s (by omega) (by omega) (by have X:=D;simp only [Nat.zero_add] at X;omega);have h:=grown 0 (by omega) (Value.ownBlock (.slice none 0 0));simp only [Nat.zero_add,List.nil_append,Array.empty_append] at h ⊢;exact ⟨_,_,p,h.1,h.2,.inr ⟨_,rfl,Nat.le_refl _⟩⟩
 ·by_cases B:n+m≤cap
  ·have hmul:n*i.size+news.length≤cap*i.size:=by rw [f,← Nat.add_mul];exact Nat.mul_le_mul_right _ B
   have Y:o+n*i.size+news.length≤cur.size:=by omega
   have p:(Builtin.append_ #[t,t] ty #[.slice (some ⟨g,o,none⟩) n cap,.slice (some a) m c]).run P w =
     .ok (.slice (some ⟨g,o,none⟩) (n+m) cap) (w.setRow g (cur.toList.take (o+n*i.size)++news++cur.toList.drop (o+n*i.size+news.length)).toArray):=by
    have Z:=run_firstCells_some (P:=P) w i.size m a m c news f s;have K:=run_storeCells_at P g (o+n*i.size) T news 0 cur w A (by simpa using Y) N;simp only [Nat.add_zero] at K;simp [Builtin.append_,run_underlying q,sizeOf,typeInfo,Ua,Builtin.lenOf,B,Z,Ij,K]
   refine ⟨_,_,p,⟨hlen,.inr ⟨g,o,cap,_,rfl,setRow_heap w g cur _ T _ A,B,x,?_,?_⟩⟩,⟨rfl,rfl,rfl,by simp [World.setRow],fun k _ y=>setRow_other w g k _ (fun e=>y (by simp [Value.ownBlock,e]))⟩,.inl rfl⟩
   ·simp only [List.size_toArray,List.length_append,List.length_take,List.length_drop,Array.length_toList];omega
   ·rw [← hlen,← H];have qa:(cur.toList.take (o+n*i.size)).drop o=(cur.toList.drop o).take (n*i.size):=by
     rw [List.drop_take];congr 1;omega
    have gc:o≤(cur.toList.take (o+n*i.size)).length:=by simp;omega
    rw [List.append_assoc,List.drop_append_of_le_length gc,qa,← List.append_assoc];exact List.take_left
  ·have holds:∀ j u,xs[j]?=some u→w.cell? ((⟨g,o,none⟩:Addr).add j)=some u:=by
    intro j u hu;rw [Ij,cell_of_row w g (o+j) cur T (0,0) A];rw [← H,List.getElem?_take] at hu;split at hu
    ·rw [List.getElem?_drop] at hu;simpa using hu
    ·cases hu
   have p:=run_append_grow (P:=P) w t ty T i z q Ua F ⟨g,o,none⟩ n cap xs l.1 holds a m c news f s (by omega) (by omega) (growslice_fits (by omega) D);have h:=grown cap (by omega) (Value.ownBlock (.slice (some ⟨g,o,none⟩) n cap));exact ⟨_,_,p,h.1,h.2,.inr ⟨_,rfl,Nat.le_refl _⟩⟩
theorem Sep.Sh (h:Sep S Ad w0 w rs A) (T:TypeId) (sz:Nat):Sep S Ad w0 w (.row (.slice none 0 0) T sz 0 []::rs) A where
 keeps:=h.keeps
 all r a:=by
  rcases List.mem_cons.1 a with rfl | a
  ·exact ⟨by simp,.inl ⟨rfl,rfl⟩⟩
  ·exact h.all r a
 ki:=h.ki
 new:=h.new
 Gi:=h.Gi
theorem Hp {t:TypeId}{s x:Operand}{v:Value}{sz bytes k b o zl c:Nat}{xs news:List Value}(m:P.underlying t=some (.slice T)) (p:mc P T Bf sd sz bytes) (e:(sd.length == sz && decide (0<sz))=true)
  (hs:Ya fr s v) (q:Ya fr x (.slice (some ⟨b,o,none⟩) zl c)) (f:Sep S Ad w0 w rs A) (i:Pb rs k (.row v T sz n xs)) (r:aj w b o news) (hlen:news.length=zl*sz) (y:news.all xe=true)
  (l:n+zl≤4294967296∧bytes≤4096)
  (h:∀ d w' rs',oc rs k (.row d T sz (n+zl) (xs++news)) rs'→Sep S Ad w0 w' rs' A→bh fr dst d fun sa=>K sa ds w') :
  Gd P (Oper.mk dst (.call { callee:=.builtin .append,args:=#[s,x],argTypes:=#[t,t] }) ty pos after g) fr ds w K Q:=by
 simp only [Bool.and_eq_true,beq_iff_eq,decide_eq_true_eq] at e;have z:(n+zl)*bytes≤140737488355328:=Nat.le_trans (Nat.mul_le_mul l.1 l.2) (by decide);obtain ⟨d,w',B,C,D,Wa⟩:=eE (P:=P) (ty:=ty) m p e.1 e.2 (f.get i) (a:=⟨b,o,none⟩) (c:=c) hlen (fun j u hu=>by rw [Ij];exact r j u hu) (fun u hu=>Qv (List.all_eq_true.1 y u hu)) (by unfold maxLen;omega) z;obtain ⟨sa,Na⟩:=Ei fr dst d;refine Th (v:=d) (w':=w') ?_ Na (h d w' _ rfl (f.row i rfl C D Wa) sa Na);have qa:=hs ds;have F:=q ds;simp [execOp,resolve,invoke,builtin,qa,F,B]
inductive Bs (P:Program) (fr:List Value) (w:World):ResultVar→Value→Prop where
 | t {n:Nat} {v:Value} (h:Pb fr n v):Bs P fr w (.tmp n) v
 | c {n b o:Nat} {v:Value} {T:TypeId} {sd:List Value} {k m:Nat} (h:Pb fr n (.pointer (some ⟨b,o,none⟩))) (d:mc P T false sd k m) (hc:w.cell? ⟨b,o,none⟩=some v):Bs P fr w (.cell n T) v
 | a {n b o:Nat} {cs:List Value} {T:TypeId} {sd:List Value} {k m:Nat} (h:Pb fr n (.pointer (some ⟨b,o,none⟩))) (d:mc P T true sd k m) (hc:aj w b o cs) (e:cs.length=k):Bs P fr w (.cell n T) (.agg ⟨cs⟩)
inductive nc (P:Program) (fr:List Value) (w:World):List ResultVar→List Value→Prop where
 | z:nc P fr w [] []
 | s {r:ResultVar} {v:Value} {rs:List ResultVar} {vs:List Value} (h:Bs P fr w r v) (t:nc P fr w rs vs):nc P fr w (r::rs) (v::vs)
def zr (tmps:Array Value):ResultVar→Sem Value
 | .tmp t=>pure (tmps.getD t undef)
 | .cell a t=>do loadVar t (← asAddr (tmps.getD a undef))
theorem TE (fn:Func) (tmps:Array Value):results fn tmps=(do
  let vs ← fn.results.mapM (zr tmps)
  pure (if h:vs.size=1 then vs[0] else .tuple vs)):=by
 unfold results;congr 1
theorem Bs.run {r:ResultVar}{v:Value}(h:Bs P fr w r v):(zr (F fr ds).tmps r).run P w=.ok v w:=by
 cases h with
 | t h=>unfold Pb at h; simp [zr,F,h]
 | c h d hc=>unfold Pb at h; simp [zr,F,h,asAddr,loadVar,d.isAgg,hc]
 | a h d hc f =>
  unfold Pb at h;rename_i n b o cs T sd k m;have e:=run_loadCells_list (P:=P) w ⟨b,o,none⟩ cs (fun j v g=>by rw [Ij];exact hc j v g);rw [f] at e;simp [zr,F,h,asAddr,loadVar,d.isAgg,d.sizeOf,e]
theorem nc.run {rs:List ResultVar}{vs:List Value}(h:nc P fr w rs vs):(rs.mapM (zr (F fr ds).tmps)).run P w=.ok vs w:=by
 induction h with
 | z=>simp
 | @s r v rs vs h _ a =>
  have b:=h.run (ds:=ds);simp only [List.mapM_cons,Sem.run_bind];rw [b];simp only [Result.andThen_ok];rw [a];simp
def Yr:List Value→Value
 | [v]=>v
 | vs=>.tuple ⟨vs⟩
theorem RA {fn:Func}{a:List ResultVar}{vs:List Value}(b:fn.results=⟨a⟩) (h:nc P fr w a vs):(results fn (F fr ds).tmps).run P w=.ok (Yr vs) w:=by
 have hm:=h.run (ds:=ds);rw [TE,b];rw [Array.mapM_eq_mapM_toList];simp only [Sem.run_bind,Sem.run_map,hm,Result.andThen_ok]
 match vs with
 | []=>simp [Yr]
 | [v]=>simp [Yr]
 | v::c::vs=>simp [Yr]
theorem Sf {fn:Func}{R:Value→World→Prop}{a:List ResultVar}{vs:List Value}(b:fn.results=⟨a⟩) (Wa:nc P fr w a vs) (h:R (Yr vs) w):Wo P fn R .ret (F fr []) w :=
 bodyPost_ret (RA b Wa) rfl h
end
end Go.yb
namespace Go.yb
open Go.RowKit
section
variable {P:Program}{Q:Exit→Act→World→Prop}{K:List Value→List Deferred→World→Prop}{fr sa:List Value}{ds:List Deferred}{w:World}
variable {dst:Option Tmp}{ty:TypeId}{pos:String}{after:Array Edge}{g:Option (Nat×Bool)}
variable {S Ad:Nat→Prop}{w0:World}{rs rs':List kb}{A:World→Prop}
variable {T:TypeId}{d:TypeDesc}{Bf:Bool}{sd:List Value}{n m:Nat}
theorem Sep.ba {k b:Nat}{cs:List Value}(h:Sep S Ad w0 w rs A) (a:Pb rs k (.ba b T cs)):ji w b T cs:=h.get a
inductive sj:List Value→Nat→List Value→Prop where
 | z {cs:List Value} {o:Nat}:sj cs o []
 | s {cs:List Value} {o:Nat} {v:Value} {vs:List Value} (h:Pb cs o v) (t:sj cs (o+1) vs):sj cs o (v::vs)
theorem sj.at {cs:List Value}{o:Nat}{vs:List Value}(h:sj cs o vs):∀ j v,vs[j]?=some v→cs[o+j]?=some v:=by
 induction h with
 | z=>intro j v h; simp at h
 | @s o v vs h t b =>
  intro j u a;cases j with
  | zero=>simp at a; subst a; exact h
  | succ j=>have:=b j u (by simpa using a); rw [show o+(j+1)=o+1+j by omega]; exact this
theorem ji.fz {b o:Nat}{cs vs:List Value}(h:ji w b T cs) (hs:sj cs o vs):aj w b o vs:=fun j v a=>h.cell (hs.at j v a)
theorem we {x y:Operand}{b o k:Nat}{v:Value}{cs a:List Value}(e:mc P T Bf sd 1 m) (f:Ya fr x (.pointer (some ⟨b,o,none⟩))) (i:Ya fr y v) (Wa:xe v=true)
  (j:Sep S Ad w0 w rs A) {c:TypeId}(l:Pb rs k (.ba b c cs)) (hs:oc cs o v a) (d:(decide (o<cs.length))=true) (n:oc rs k (.ba b c a) rs')
  (Na:Xe fr dst undef sa) (h:∀ w',Sep S Ad w0 w' rs' A→K sa ds w'):Gd P (Oper.mk dst (.store T x y) ty pos after g) fr ds w K Q :=
 ez (vs:=[v]) e f i (zy Wa) rfl (by simp [Wa]) j l (.s hs (of_decide_eq_true d) .z) (decide_eq_true (Nat.le_of_lt (of_decide_eq_true d))) n Na h
structure qh (P:Program) (T:TypeId) (pl:Array (Nat×Nat)):Prop where
 out:∃ fs,P.underlying T=some (.struct fs)∧∀ w,((fs.mapM fun f=>do pure (f.offset,← Go.sizeOf f.type):Sem (Array (Nat×Nat))).run P w)=.ok pl w
theorem Fh {fs:Array Field}{pl:Array (Nat×Nat)}(hu:P.underlying T=some (.struct fs)) (h:∀ w,((fs.mapM fun f=>do pure (f.offset,← Go.sizeOf f.type):Sem (Array (Nat×Nat))).run P w)=.ok pl w):qh P T pl:=⟨fs,hu,h⟩
inductive wb (fr:List Value) (pl:Array (Nat×Nat)):List Value→List (Nat×Operand)→List Value→Prop where
 | z {cs:List Value}:wb fr pl cs [] cs
 | o {cs cs1 out:List Value} {i off:Nat} {x:Operand} {v:Value} {xs:List (Nat×Operand)} (Ua:pl[i]?=some (off,1)) (a:Ya fr x v) (Wa:xe v=true) (b:decide (off<cs.length)=true) (c:oc cs off v cs1) (t:wb fr pl cs1 xs out):wb fr pl cs ((i,x)::xs) out
 | n {cs cs1 out vs:List Value} {i off n:Nat} {x:Operand} {xs:List (Nat×Operand)} (Ua:pl[i]?=some (off,n)) (a:Ya fr x (.agg ⟨vs⟩)) (d:vs.length=n) (b:decide (off+n≤cs.length)=true) (c:Nh cs off vs cs1) (t:wb fr pl cs1 xs out):wb fr pl cs ((i,x)::xs) out
theorem Qu:∀ (vs:List Value) (off j:Nat) (cs:List Value),off+j+vs.length≤cs.length →
  ((vs.zipIdx j).foldl (fun (cs:Array Value) (p:Value×Nat)=>cs.setIfInBounds (off+p.2) p.1) ⟨cs⟩)=⟨cs.take (off+j)++vs++cs.drop (off+j+vs.length)⟩
 | [],off,j,cs,_=>by simp
 | v::vs,off,j,cs,h=>by
  have a:off+j<cs.length:=by simp at h;omega
  rw [List.zipIdx_cons,List.foldl_cons];have Hb:(⟨cs⟩:Array Value).setIfInBounds (off+j) v=⟨cs.set (off+j) v⟩:=by simp
  simp only [Hb];rw [Qu vs off (j+1) (cs.set (off+j) v) (by simp at h ⊢;omega)];have b:(cs.set (off+j) v).take (off+(j+1))=cs.take (off+j)++[v]:=by
   rw [show off+(j+1)=off+j+1 by omega,List.take_set,List.take_add_one,List.getElem?_eq_getElem a];rw [List.set_append_right _ _ (by simp;omega)];simp [Nat.min_eq_left (Nat.le_of_lt a)]
  have c:(cs.set (off+j) v).drop (off+(j+1)+vs.length)=cs.drop (off+j+(v::vs).length):=by
   rw [List.drop_set_of_lt (by omega)];congr 1;simp;omega
  rw [b,c];simp
theorem wb.run {pl:Array (Nat×Nat)}{cs out:List Value}{xs:List (Nat×Operand)}(h:wb fr pl cs xs out):Instr.fill (pl[·]?) ⟨cs⟩ (xs.map fun p=>(p.1,(F fr ds).eval p.2))=some ⟨out⟩:=by
 induction h with
 | z=>rfl
 | @o cs cs1 out i off x v xs Ua b Wa d a t e =>
  have f:=of_decide_eq_true d;simp only [List.map_cons,Instr.fill,Ua,b ds,zy Wa];have Hb:¬ ((#[v].size≠1 || off+#[v].size > (⟨cs⟩:Array Value).size)=true):=by simp;omega
  rw [if_neg Hb];have qa:(#[v].zipIdx.foldl (fun cs (c,j)=>cs.setIfInBounds (off+j) c) (⟨cs⟩:Array Value))=⟨cs1⟩:=by
   unfold oc at a;subst a;simp [Array.zipIdx]
  rw [qa];exact e
 | @n cs cs1 out vs i off n x xs Ua b g d a t e =>
  have f:=of_decide_eq_true d;simp only [List.map_cons,Instr.fill,Ua,b ds];have Hb:¬ (((Value.agg ⟨vs⟩).cells.size≠n || off+(Value.agg ⟨vs⟩).cells.size > (⟨cs⟩:Array Value).size)=true):=by simp [Value.cells,g];omega
  rw [if_neg Hb];have qa:((Value.agg ⟨vs⟩).cells.zipIdx.foldl (fun cs (c,j)=>cs.setIfInBounds (off+j) c) (⟨cs⟩:Array Value))=⟨cs1⟩:=by
   have:=Qu vs off 0 cs (by omega);rw [a.res (by omega)];simp only [Nat.add_zero] at this;rw [← this];rw [← Array.foldl_toList];simp [Value.cells]
  rw [qa];exact e
theorem Se {pl:Array (Nat×Nat)}{xs:List (Nat×Operand)}{out:List Value}(a:mc P T Bf sd n m) (b:qh P T pl) (c:wb fr pl sd xs out) (d:Xe fr dst (.agg ⟨out⟩) sa) (h:K sa ds w) :
  Gd P (Oper.mk dst (.build T ⟨xs⟩) ty pos after g) fr ds w K Q:=by
 refine Th (v:=.agg ⟨out⟩) (w':=w) ?_ d h;obtain ⟨z,e,hc⟩:=a.zero (w:=w);have f:=c.run (ds:=ds);obtain ⟨fs,j,k⟩:=b.out;have hm:=k w;have l:((⟨xs⟩:Array (Nat×Operand)).map fun (i,x)=>(i,(F fr ds).eval x)).toList=xs.map fun p=>(p.1,(F fr ds).eval p.2):=by simp
 unfold execOp;simp only [Instr.build,Sem.run_bind,e,Result.andThen_ok,run_underlying j];rw [hm];simp only [Result.andThen_ok,hc,l];rw [f];simp
theorem Io {e:TypeId}{x:Operand}{cs:List Value}(k:P.underlying T=some (.slice e)) (j:mc P e Bf sd n m) (c:(sd.length == n && decide (0<n) && decide (n≤1000))=true) (l:Ya fr x (.agg ⟨cs⟩)) (d:cs.length=n) (o:Sep S Ad w0 w rs A)
  (h:∀ b w',w.heap.size≤b→Sep S Ad w0 w' (.ba b e cs::rs) A→bh fr dst (.slice (some ⟨b,0,none⟩) 1 1) fun sa=>K sa ds w'):Gd P (Oper.mk dst (.buildSlice T 1 #[(0,x)]) ty pos after g) fr ds w K Q:=by
 obtain ⟨sa,Na⟩:=Ei fr dst (.slice (some ⟨w.heap.size,0,none⟩) 1 1);refine Th (v:=.slice (some ⟨w.heap.size,0,none⟩) 1 1) (w':=w.alloc (.cells ⟨cs⟩ e)) ?_ Na (h _ _ (Nat.le_refl _) (o.alloc rfl (heap_alloc_new w _)) sa Na);obtain ⟨z,p,hc⟩:=j.zero (w:=w);have q:=j.sizeOf (w:=w);simp only [Bool.and_eq_true,beq_iff_eq,decide_eq_true_eq] at c;have r:¬ (1*n > 2 ^ 24):=by have:=c.2;omega
 have s:¬ (1*n=0):=by have:=c.1.2;omega
 have t:∀ a:Array Value,a.size=n→Instr.fill (fun i=>some (i*n,n)) a [(0,Value.agg ⟨cs⟩)]=some ⟨cs⟩:=by
  intro a f;simp only [Instr.fill];have Hb:¬ (((Value.agg ⟨cs⟩).cells.size≠n || 0*n+(Value.agg ⟨cs⟩).cells.size > a.size)=true):=by simp [Value.cells,d,f]
  rw [if_neg Hb];congr 1;have u:=Qu cs (0*n) 0 a.toList (by simp [d,f]);rw [← Array.foldl_toList];have qa:(Value.agg ⟨cs⟩).cells.zipIdx.toList=cs.zipIdx 0:=by simp [Value.cells]
  rw [qa];refine u.trans ?_;rw [List.drop_eq_nil_of_le (by simp [d,f])];simp
 have y:(#[(0,x)].map fun (i,x)=>(i,(F fr ds).eval x)).toList=[(0,Value.agg ⟨cs⟩)]:=by simp [l ds]
 unfold execOp;simp only [Instr.buildSlice,Sem.run_bind,run_underlying k,Result.andThen_ok,q,if_neg r,y,if_neg s,Sem.run_pure,p];rw [t _ (by simp)];simp [newRow]
end
theorem Sep.nf {S Ad:Nat→Prop}{w0 w:World}{rs rs':List kb}{A:World→Prop}{k:Nat}{r:kb}(h:Sep S Ad w0 w (rs.set k r) A) (a:oc rs k r rs'):Sep S Ad w0 w rs' A:=by
 unfold oc at a;rw [← a];exact h
theorem Sep.drew {S Ad:Nat→Prop}{w0 w w':World}{rs:List kb}{A:World→Prop}(h:Sep S Ad w0 w rs A) (a:w'.heap=w.heap) (b:w'.os=w.os) (c:w'.tape=w.tape) (hu:w'.output=w.output):Sep S Ad w0 w' rs A :=
 h.grow ⟨b,c,hu,by rw [a];exact Nat.le_refl _,fun k _ _=>by rw [a]⟩
section
variable {P:Program}{Q:Exit→Act→World→Prop}{K:List Value→List Deferred→World→Prop}{fr sa:List Value}{ds:List Deferred}{w:World}
variable {dst:Option Tmp}{ty:TypeId}{pos:String}{after:Array Edge}{g:Option (Nat×Bool)}
variable {T:TypeId}
theorem My (a b:ByteArray):(a == b)=true ↔ a=b:=by
 obtain ⟨x⟩:=a;obtain ⟨y⟩:=b;constructor
 ·intro h;have e:x=y:=by simpa using (show (x == y)=true from h)
  rw [e]
 ·intro h;cases h;show (x == x)=true;simp
structure Nn (P:Program) (m:Nat) (T:TypeId) (v a:Value) (b:Bool):Prop where
 out:∀ d w,m≤d→(Op.equalIn d T v a).run P w=.ok b w
theorem eq_int {k c:IntKind}{a b:Int}(hu:P.underlying T=some (.int k)):Nn P 1 T (.int c a) (.int c b) (decide (a=b)):=⟨fun d w Na=>by
 cases d with
 | zero=>omega
 | succ d=>simp [Op.equalIn,run_underlying hu]; by_cases h:a=b <;> simp [h]⟩
theorem fJ {a b:List UInt8}(hu:P.underlying T=some .string):Nn P 1 T (S a) (S b) (decide (a=b)):=⟨fun d w Na=>by
 cases d with
 | zero=>omega
 | succ d =>
  simp only [Op.equalIn,run_underlying hu,S,Sem.run_bind,Result.andThen_ok,Sem.run_pure];congr 1;rw [Bool.eq_iff_iff,My];simp⟩
def Wm:List Bool→Bool
 | []=>true
 | [b]=>b
 | b::Ic=>b && Wm Ic
theorem Av (b:Bool) (Ic:List Bool):Wm (b::Ic)=(b && Wm Ic):=by cases Ic<;>simp [Wm]
inductive Rl (P:Program) (m:Nat) (xs ys:List Value):List Field→List Bool→Prop where
 | z:Rl P m xs ys [] []
 | o {f : Field} {Uf : List Field} {v c : Value} {b : Bool} {Ic : List Bool} {T : TypeId} {off : Nat} {sd : List Value} {n k : Nat} (d : (f.name == "_") = false) (e : f.type = T) (g : f.offset = off) (h : mc P T false sd n k) (i : Pb xs off v) (j : Pb ys off c) (he : Nn P m T v c b) (t : Rl P m xs ys Uf Ic) : Rl P m xs ys (f :: Uf) (b :: Ic)
 | n {f : Field} {Uf : List Field} {vs a : List Value} {b : Bool} {Ic : List Bool} {T : TypeId} {off : Nat} {sd : List Value} {n k : Nat} (d : (f.name == "_") = false) (e : f.type = T) (g : f.offset = off) (h : mc P T true sd n k) (i : sj xs off vs) (j : sj ys off a) (l : vs.length = n) (p : a.length = n) (he : Nn P m T (.agg ⟨vs⟩) (.agg ⟨a⟩) b) (t : Rl P m xs ys Uf Ic) : Rl P m xs ys (f :: Uf) (b :: Ic)
structure Lx (P:Program) (T:TypeId) (Uf:List Field):Prop where
 xA:P.underlying T=some (.struct ⟨Uf⟩)
 held:P.stoodInHeld T=false
 guard:P.eqGuardType P.depth T=false
theorem vB {sd:List Value}{n k off:Nat}{xs:List Value}{v:Value}(b:mc P T false sd n k) (a:Pb xs off v):(part T ⟨xs⟩ off).run P w=.ok v w:=by
 unfold Pb at a;simp [part,b.isAgg,a]
theorem sj.extract {cs vs:List Value}{o:Nat}(h:sj cs o vs):(cs.drop o).take vs.length=vs:=by
 induction h with
 | z=>simp
 | @s o v vs Wa t a =>
  unfold Pb at Wa;have b:o<cs.length:=(List.getElem?_eq_some_iff.1 Wa).1;rw [List.drop_eq_getElem_cons b,(List.getElem?_eq_some_iff.1 Wa).2];simp [a]
theorem wB {sd:List Value}{n k off:Nat}{xs vs:List Value}(a:mc P T true sd n k) (b:sj xs off vs) (c:vs.length=n):(part T ⟨xs⟩ off).run P w=.ok (.agg ⟨vs⟩) w:=by
 have:=b.extract;rw [c] at this;simp [part,a.isAgg,a.sizeOf,this]
theorem Rl.run {m:Nat}{xs ys:List Value}{Uf:List Field}{Ic:List Bool}(h:Rl P m xs ys Uf Ic) (d:Nat) (Na:m≤d) :
  (forIn (⟨Uf⟩ : Array Field) ((none, ()) : Option Bool × Unit) (fun f _ => (if f.name ≠ "_" then do
     if !(← Op.equalIn d f.type (← part f.type ⟨xs⟩ f.offset) (← part f.type ⟨ys⟩ f.offset)) then pure (ForInStep.done (some false,())) else pure (ForInStep.yield (none,()))
    else pure (ForInStep.yield (none,())):Sem (ForInStep (Option Bool×Unit))))).run P w=.ok (if Wm Ic then (none,()) else (some false,())) w:=by
 induction h with
 | z=>simp [Wm]
 | @o f Uf v s b Ic T off sd n k e g i a j l he t c =>
  subst g; subst i;have p : f.name ≠ "_" := by simpa using e
  simp only [List.forIn_toArray] at c ⊢;rw [List.forIn_cons];simp only [ne_eq,p,not_false_eq_true,if_true,Sem.run_bind,vB a j,vB a l,Result.andThen_ok,he.out d w Na];cases b with
  | true=>simpa [Av] using c
  | false=>simp [Av]
 | @n f Uf vs u b Ic T off sd n k e g i a j l q r he t c =>
  subst g; subst i;have p : f.name ≠ "_" := by simpa using e
  simp only [List.forIn_toArray] at c ⊢;rw [List.forIn_cons];simp only [ne_eq,p,not_false_eq_true,if_true,Sem.run_bind,wB a j q,wB a l r,Result.andThen_ok,he.out d w Na];cases b with
  | true=>simpa [Av] using c
  | false=>simp [Av]
theorem gJ {m:Nat}{xs ys:List Value}{Uf:List Field}{Ic:List Bool}(a:Lx P T Uf) (h:Rl P m xs ys Uf Ic):Nn P (m+1) T (.agg ⟨xs⟩) (.agg ⟨ys⟩) (Wm Ic):=⟨fun d w Na=>by
 cases d with
 | zero=>omega
 | succ d =>
  have:=h.run (w:=w) d (by omega);simp only [Op.equalIn,Sem.run_bind,run_underlying a.xA,Result.andThen_ok];rw [show (program).run P w=.ok P w from rfl];simp only [Result.andThen_ok,a.held,Bool.false_eq_true,if_false,Sem.run_bind];rw [this];cases Wm Ic<;>rfl⟩
def nA (v:Value) (n:Nat):Prop:=∃ a c,v=.slice a n c
theorem hh {x:Operand}{t e:TypeId}{v:Value}{n:Nat}(b:P.underlying t=some (.slice e)) (d:Ya fr x v) (Wa:nA v n):Ke P (Oper.mk dst (.call { callee:=.builtin .len,args:=#[x],argTypes:=#[t] }) ty pos after g) fr ((.int .i64 n)):=by
 obtain ⟨a,c,rfl⟩:=Wa;exact de b d
theorem tz {x:Operand}{t e:TypeId}{v:Value}{n:Nat}(a:P.underlying t=some (.slice e)) (b:Ya fr x v) (Wa:nA v n) (c:Xe fr dst ((.int .i64 n)) sa) (h:K sa ds w):Gd P (Oper.mk dst (.call { callee:=.builtin .len,args:=#[x],argTypes:=#[t] }) ty pos after g) fr ds w K Q:=va (hh a b Wa) c h
theorem Row.Sg {v:Value}{sz n:Nat}{xs:List Value}(h:Row w v T sz n xs):nA v n:=by
 rcases h.2 with ⟨rfl,rfl⟩ | ⟨g,o,cap,cur,rfl,-⟩
 ·exact ⟨_,_,rfl⟩
 ·exact ⟨_,_,rfl⟩
theorem Row.Bn {v:Value}{sz n:Nat}{xs:List Value}(h:Row w v T sz n xs) (f:0<n):∃ b o c,v=.slice (some ⟨b,o,none⟩) n c∧aj w b o xs:=by
 rcases h.2 with ⟨rfl,rfl⟩ | ⟨g,o,cap,cur,rfl,d,i,k,l,e⟩
 ·omega
 ·refine ⟨g,o,cap,rfl,fun j u a=>?_⟩;rw [cell_of_row w g (o+j) cur T (0,0) d];rw [← e,List.getElem?_take] at a;split at a
  ·rw [List.getElem?_drop] at a;simpa using a
  ·cases a
end
section
variable {P:Program}{Q:Exit→Act→World→Prop}{K:List Value→List Deferred→World→Prop}{fr sa:List Value}{ds:List Deferred}{w:World}
variable {dst:Option Tmp}{ty:TypeId}{pos:String}{after:Array Edge}{g:Option (Nat×Bool)}
variable {T:TypeId}
theorem EF {Uf:List Field}{op:BinOp}{x y:Operand}{xs ys:Array Value}(a:Lx P T Uf):(eqGuard op T x y (.agg xs) (.agg ys)).run P w=.ok () w:=by
 have b:(program).run P w=.ok P w:=rfl;cases op<;>simp [eqGuard,b,a.guard]
theorem XK {x y:Operand}{Lb:TypeId}{m:Nat}{xs ys:List Value}{Uf:List Field}{Ic:List Bool}(a:Lx P T Uf) (b:Ya fr x (.agg ⟨xs⟩)) (c:Ya fr y (.agg ⟨ys⟩)) (h:Rl P m xs ys Uf Ic) (hm:(decide (m<1000))=true) :
  Ke P (Oper.mk dst (.binOp .neq T x y Lb) ty pos after g) fr (.bool (!Wm Ic)):=⟨fun ds w=>by
 have d:=b ds;have e:=c ds;have f:=(gJ a h).out Op.maxDepth w (by have:=of_decide_eq_true hm;unfold Op.maxDepth;omega);have i:=EF (w:=w) (op:=.neq) (x:=x) (y:=y) (xs:=⟨xs⟩) (ys:=⟨ys⟩) a;simp [execOp,d,e,i,binOp,Op.equal,f]⟩
end
section
variable {P:Program}{Q:Exit→Act→World→Prop}{K:List Value→List Deferred→World→Prop}{fr sa:List Value}{ds:List Deferred}{w:World}
variable {dst:Option Tmp}{ty:TypeId}{pos:String}{after:Array Edge}{g:Option (Nat×Bool)}
variable {S Ad:Nat→Prop}{w0:World}{rs rs':List kb}{A:World→Prop}
variable {T:TypeId}
end
end Go.yb
namespace Go.yb
open Go.RowKit
theorem Es {α β:Type}{f g:α→β}{xs:Array α}(h:∀ x ∈ xs,f x=g x):xs.map f=xs.map g:=Array.map_congr_left h
def yk:Op→Bool
 | .select _ _=>false
 | _=>true
theorem execOp_congr {f g:Operand→Value}(o:Oper) (hs:yk o.op=true) (h:∀ x ∈ o.op.operands,f x=g x):execOp f o=execOp g o:=by
 obtain ⟨dst,op,ty,pos,after,s⟩:=o;have hc:∀ c:Call,(∀ x ∈ c.operands,f x=g x)→resolve f c ty=resolve g c ty:=by
  intro c hc;have j:c.args.map f=c.args.map g:=Es fun x d=>hc x (by simp [Call.operands,d]);unfold resolve;rw [j];obtain ⟨callee,args,tys⟩:=c;cases callee with
  | value x=>simp only; rw [hc x (by simp [Call.operands])]
  | invoke x m=>simp only; rw [hc x (by simp [Call.operands])]
  | builtin b=>rfl
 cases op<;>simp only [Op.operands,List.mem_toArray,List.mem_cons,List.not_mem_nil,or_false,forall_eq_or_imp,forall_eq,Array.mem_append,List.mem_map] at h<;>simp only [execOp]
 case build t gd =>
  have:(gd.map fun (i,x)=>(i,f x))=gd.map fun (i,x)=>(i,g x):=Es fun p e=>by simp only;rw [h p.2 ⟨p,by simpa using e,rfl⟩]
  rw [this]
 case buildSlice t n gd =>
  have:(gd.map fun (i,x)=>(i,f x))=gd.map fun (i,x)=>(i,g x):=Es fun p e=>by simp only;rw [h p.2 ⟨p,by simpa using e,rfl⟩]
  rw [this]
 case makeFunc fn a b =>
  rw [Es (f:=f) (g:=g) (xs:=a) fun x d=>h x (.inl d),Es (f:=f) (g:=g) (xs:=b) fun x d=>h x (.inr d)]
 case makeMap t r=>cases r with
  | none=>rfl
  | some x=>simp only [Option.map]; rw [h x (by simp)]
 case slice t x zi Ua kg =>
  have d:=h x (by simp);have k:zi.map f=zi.map g:=by cases zi with
   | none=>rfl
   | some y=>simp only [Option.map]; rw [h y (by simp)]
  have l:Ua.map f=Ua.map g:=by cases Ua with
   | none=>rfl
   | some y=>simp only [Option.map]; rw [h y (by simp)]
  have q:kg.map f=kg.map g:=by cases kg with
   | none=>rfl
   | some y=>simp only [Option.map]; rw [h y (by simp)]
  rw [d,k,l,q]
 case call c=>rw [hc c h]
 case go c=>rw [hc c h]
 case defer c=>rw [hc c h]
 case select cs b=>exact absurd hs (by simp [yk])
 all_goals (try (simp only [h]))
def Uk (ops:Array Oper) (i:Nat):List Nat:=match ops[i]? with
 | some o=>(o.after.toList.filter (Region.binds .any)).map (·.on)
 | none=>[]
def enabled (ops:Array Oper) (R:List Nat) (i:Nat):Bool:=R.contains i && (Uk ops i).all fun j=>!R.contains j
inductive Sk (ops:Array Oper):List Nat→List Nat→Prop where
 | z:Sk ops [] []
 | s {R a:List Nat} {i:Nat} (h:enabled ops R i=true) (t:Sk ops (R.erase i) a):Sk ops R (i::a)
theorem Dm {ops:Array Oper}{R:List Nat}{i:Nat}(h:enabled ops R i=true):i ∈ R:=by
 simp only [enabled,Bool.and_eq_true,List.contains_iff_mem] at h;exact h.1
theorem SA {ops:Array Oper}{R:List Nat}{i j:Nat}(h:enabled ops R i=true) (a:j ∈ Uk ops i):j ∉ R:=by
 simp only [enabled,Bool.and_eq_true,List.all_eq_true] at h;have:=h.2 j a;simpa using this
def left (n:Nat) (listed:Array Bool):List Nat:=(List.range n).filter fun i=>!listed.getD i true
theorem UE (n:Nat) (listed:Array Bool):(left n listed).Nodup:=List.nodup_range.filter _
theorem NB {n:Nat}{listed:Array Bool}(hs:listed.size=n){i:Nat}(Ua:i ∈ left n listed):left n (listed.setIfInBounds i true)=(left n listed).erase i:=by
 rw [(UE n listed).erase_eq_filter];unfold left;rw [List.filter_filter];apply List.filter_congr;intro j a;have c:j<n:=List.mem_range.1 a;have b:j<listed.size:=by omega
 simp only [Array.getD_eq_getD_getElem?,Array.getElem?_setIfInBounds];by_cases e:i=j
 ·subst e;simp [b]
 ·simp [e,Ne.symm e]
theorem MC {ops:Array Oper}{n:Nat}(a:(List.range n).all (fun i=>(Uk ops i).all fun j=>decide (j<i))=true){i j:Nat}(Ua:i<n) (b:j ∈ Uk ops i):j<i:=by
 simp only [List.all_eq_true,List.mem_range,decide_eq_true_eq] at a;exact a i Ua j b
theorem NC {ops:Array Oper}(o:(List.range ops.size).all (fun i=>(Uk ops i).all fun j=>decide (j<i))=true) :
  ∀ (fuel t:Nat) (listed:Array Bool) (acc:List Nat),listed.size=ops.size→(left ops.size listed).length≤fuel→∃ m,Region.linearise.go .any ops fuel t listed acc=acc.reverse++m∧Sk ops (left ops.size listed) m
 | 0,t,listed,acc,hs,u=>by
  have d:left ops.size listed=[]:=List.eq_nil_of_length_eq_zero (by omega);exact ⟨[],by simp [Region.linearise.go],by rw [d];exact .z⟩
 | fuel+1,t,listed,acc,hs,u=>by
  rw [Region.linearise.go];generalize v:(List.filter (fun i=>!listed.getD i true && (Option.map (fun x=>x.after.all fun e=>!Region.binds .any e || listed.getD e.on false) ops[i]?).getD false) (List.range ops.size))=rs;have p:∀ i,i ∈ rs ↔ enabled ops (left ops.size listed) i=true:=by
   intro i;rw [← v];simp only [List.mem_filter,List.mem_range,Bool.and_eq_true,enabled,List.contains_iff_mem,left,Uk];constructor
   ·rintro ⟨b,f,c⟩;refine ⟨⟨b,f⟩,?_⟩;rw [Array.getElem?_eq_getElem b] at c ⊢;simp only [Option.map_some,Option.getD_some,Array.all_eq_true',Bool.or_eq_true,Bool.not_eq_true'] at c;simp only [List.all_eq_true,List.mem_map,List.mem_filter,forall_exists_index,and_imp];rintro j e he g rfl;have:=c e (by simpa using he);rcases this with h | h
    ·rw [h] at g;cases g
    ·simp only [Bool.not_eq_true',List.contains_eq_mem,decide_eq_false_iff_not,List.mem_filter,List.mem_range,not_and,Bool.not_eq_true,Bool.not_eq_false];intro n;have q:e.on<listed.size:=by omega
     simp only [Array.getD,q,dif_pos] at h ⊢;exact h
   ·rintro ⟨⟨b,f⟩,c⟩;refine ⟨b,f,?_⟩;rw [Array.getElem?_eq_getElem b] at c ⊢;simp only [Option.map_some,Option.getD_some,Array.all_eq_true',Bool.or_eq_true,Bool.not_eq_true'];simp only [List.all_eq_true,List.mem_map,List.mem_filter,forall_exists_index,and_imp] at c;intro e he;cases g:Region.binds .any e with
    | false=>exact .inl rfl
    | true =>
     right;have:=c e.on e (by simpa using he) g rfl;simp only [Bool.not_eq_true',List.contains_eq_mem,decide_eq_false_iff_not,List.mem_filter,List.mem_range,not_and,Bool.not_eq_true,Bool.not_eq_false] at this;have n:e.on<i:=MC o b (by
      unfold Uk;rw [Array.getElem?_eq_getElem b];simp only [List.mem_map,List.mem_filter];exact ⟨e,⟨by simpa using he,g⟩,rfl⟩)
     have r:=this (by omega);have q:e.on<listed.size:=by omega
     simp only [Array.getD,q,dif_pos] at r ⊢;exact r
  by_cases d:left ops.size listed=[]
  ·have w:rs=[]:=by
    rw [List.eq_nil_iff_forall_not_mem];intro i Ua;have:=Dm ((p i).1 Ua);rw [d] at this;cases this
   rw [w];simp only [List.length_nil,Nat.mod_zero,List.getElem?_nil];exact ⟨[],by simp,by rw [d];exact .z⟩
  ·-- the least of what is left may be next
   have y:0<rs.length:=by
    obtain ⟨i,Ua,A⟩:∃ i,i ∈ left ops.size listed∧∀ j,j<i→j ∉ left ops.size listed:=by
     obtain ⟨a,B⟩:=List.exists_mem_of_ne_nil _ d
     induction a using Nat.strongRecOn with
     | _ a C =>
      by_cases hex:∃ j,j<a∧j ∈ left ops.size listed
      ·obtain ⟨j,k,D⟩:=hex;exact C j k D
      ·exact ⟨a,B,fun j k hm=>hex ⟨j,k,hm⟩⟩
    have l:enabled ops (left ops.size listed) i=true:=by
     simp only [enabled,Bool.and_eq_true,List.contains_iff_mem,List.all_eq_true];refine ⟨Ua,fun j k=>?_⟩;have:=A j (MC o (List.mem_range.1 (List.mem_filter.1 Ua).1) k);simpa using this
    exact List.length_pos_of_mem ((p i).2 l)
   have n:t % rs.length<rs.length:=Nat.mod_lt _ y;rw [List.getElem?_eq_getElem n];simp only;have l:=(p _).1 (List.getElem_mem n);generalize rs[t % rs.length]=i at l ⊢;have Ua:=Dm l;obtain ⟨m,b,f⟩:=NC o fuel (t / rs.length) (listed.setIfInBounds i true) (i::acc) (by simpa using hs) (by
    rw [NB hs Ua,List.length_erase_of_mem Ua];omega)
   refine ⟨i::m,?_,.s l ?_⟩
   ·rw [b];simp
   ·rw [← NB hs Ua];exact f
theorem fE {ops:Array Oper}(c:(List.range ops.size).all (fun i=>(Uk ops i).all fun j=>decide (j<i))=true) (t:Nat):Sk ops (List.range ops.size) (Region.linearise .any ops t):=by
 have a:left ops.size (Array.replicate ops.size false)=List.range ops.size:=by
  unfold left;rw [List.filter_eq_self];intro i Ua;have:=List.mem_range.1 Ua;simp [Array.getD,this]
 obtain ⟨e,d,b⟩:=NC c ops.size t (Array.replicate ops.size false) [] (by simp) (by rw [a];simp);unfold Region.linearise;rw [d];rw [a] at b;simpa using b
def Qp:Operand→Option Nat
 | .tmp t=>some t
 | _=>none
def reads (ops:Array Oper) (o:Oper):List Nat :=
 o.op.operands.toList.filterMap Qp++(match o.guard with
  | some (j,_)=>((ops[j]?).bind (·.dst)).toList
  | none=>[])
def quiet:Op→Bool
 | .move _ | .assign _ | .pick _ _ _ | .load _ _ | .fieldAddr _ _ _ | .indexAddr _ _ _ | .index _ _ _ | .field _ _ _ | .extract _ _=>true
 | _=>false
def apart (ops:Array Oper) (rd:Bool) (R:List Nat) (i:Nat):Bool :=
 match ops[i]? with
 | some o=>match o.dst,o.guard with
  | some d,none=>yk o.op && R.all fun j=>j == i || (Uk ops j).contains i || (match ops[j]? with
    | some p=>yk p.op && !(reads ops p).contains d && p.dst != some d && (match p.dst with | some e=>!(reads ops o).contains e | none=>true) && (!rd || quiet p.op)
    | none=>true)
  | _,_=>false
 | none=>false
def tb (P:Program){α:Type}(x:Sem α):Prop:=∀ w b w',x.run P w=.ok b w'→w'=w
section
variable {P:Program}{α β:Type}
theorem tb.pure (a:α):tb P (pure a:Sem α):=fun w b w' h=>by simp at h;exact h.2.symm
theorem tb.bind {x:Sem α}{f:α→Sem β}(h:tb P x) (k:∀ a,tb P (f a)):tb P (x >>= f):=fun w b w' c=>by
 rw [Sem.run_bind] at c;cases d:x.run P w with
 | ok a g =>
  rw [d] at c;have:=h w a g d;subst this;exact k a _ b w' c
 | halt e g=>rw [d] at c; cases c
theorem tb.stuck (s:String):tb P (Go.stuck s:Sem α):=fun w b w' h=>by simp [Go.stuck] at h
theorem tb.unsupported (u:Unsupported):tb P (Go.unsupported u:Sem α):=fun w b w' h=>by simp [Go.unsupported] at h
theorem tb.program:tb P Go.program:=fun w b w' h=>by simp at h;exact h.2.symm
theorem tb.load (a:Addr) (m:Mode):tb P (Go.load a m):=fun w b w' h=>by
 unfold Go.load Sem.run at h;split at h
 ·simp [Sem.run] at h;exact h.2.symm
 ·split at h
  ·simp [Sem.run] at h;exact h.2.symm
  ·cases h
theorem tb.shape (r:Nat):tb P (Go.shape r):=fun w b w' h=>by simp [Go.shape,Sem.run] at h;exact h.2.symm
theorem tb.getObj (r:Nat):tb P (Go.getObj r):=fun w b w' h=>by
 unfold Go.getObj Sem.run at h;split at h
 ·cases h
 ·simp [Sem.run] at h;exact h.2.symm
 ·cases h
def Qh (P:Program){α:Type}(x:Sem α):Prop:=∀ w b w',x.run P w≠.ok b w'
theorem Qh.ro {x:Sem α}(h:Qh P x):tb P x:=fun w b w' a=>absurd a (h w b w')
theorem Qh.bind {x:Sem α}{f:α→Sem β}(k:∀ a,Qh P (f a)):Qh P (x >>= f):=fun w b w' c=>by
 rw [Sem.run_bind] at c;cases d:x.run P w with
 | ok a g=>rw [d] at c; exact k a _ _ _ c
 | halt e g=>rw [d] at c; cases c
theorem Qh.goPanic (v:Value):Qh P (Go.goPanic v:Sem α):=fun w b w' h=>by simp [Go.goPanic] at h
theorem Qh.runtimePanic (e:RuntimeError):Qh P (Go.runtimePanic e:Sem α):=by
 unfold Go.runtimePanic;refine Qh.bind fun p=>?_;cases e<;>first | exact Qh.goPanic _ | exact Qh.bind fun _=>Qh.bind fun _=>Qh.goPanic _ | exact Qh.bind fun _=>Qh.goPanic _ | skip
 all_goals (simp only;first | exact Qh.goPanic _ | exact Qh.bind fun _=>Qh.bind fun _=>Qh.goPanic _)
theorem Qh.boundsPanic (k:IntKind) (x y:Int) (c:BoundsCode):Qh P (Go.boundsPanic k x y c:Sem α):=by
 unfold Go.boundsPanic;dsimp only;split<;>exact Qh.bind fun _=>Qh.runtimePanic _
theorem tb.underlying (t:TypeId):tb P (Go.underlying t):=by
 unfold Go.underlying;refine tb.bind tb.program fun p=>?_;split
 ·exact tb.pure _
 ·exact tb.stuck _
theorem tb.typeInfo (t:TypeId):tb P (Go.typeInfo t):=by
 unfold Go.typeInfo;refine tb.bind tb.program fun p=>?_;split
 ·exact tb.pure _
 ·exact tb.stuck _
theorem tb.sizeOf (t:TypeId):tb P (Go.sizeOf t):=by
 unfold Go.sizeOf;exact tb.bind (tb.typeInfo t) fun _=>tb.pure _
theorem tb.isAgg (t:TypeId):tb P (Go.isAgg t):=by
 unfold Go.isAgg;refine tb.bind (tb.underlying t) fun d=>?_;split<;>exact tb.pure _
theorem tb.loadCellsFrom (a:Addr):∀ (n i:Nat) (acc:Array Value),tb P (Go.loadCellsFrom a i n acc)
 | 0,_,_=>tb.pure _
 | n+1,i,_=>tb.bind (tb.load _ _) fun v=>tb.loadCellsFrom a n (i+1) _
theorem tb.loadVar (t:TypeId) (a:Addr):tb P (Go.loadVar t a):=by
 unfold Go.loadVar;refine tb.bind (tb.isAgg t) fun b=>?_;split
 ·exact tb.bind (tb.sizeOf t) fun n=>tb.bind (tb.loadCellsFrom a n 0 _) fun _=>tb.pure _
 ·exact tb.load _ _
theorem tb.part (t:TypeId) (cs:Array Value) (off:Nat):tb P (Go.part t cs off):=by
 unfold Go.part;refine tb.bind (tb.isAgg t) fun b=>?_;split
 ·exact tb.bind (tb.sizeOf t) fun n=>tb.pure _
 ·split
  ·exact tb.pure _
  ·exact tb.stuck _
theorem tb.viewAt (r:Nat):tb P (Go.viewAt r):=by
 unfold Go.viewAt;refine tb.bind (tb.shape r) fun s=>?_;split
 ·exact tb.pure _
 ·refine tb.bind (tb.getObj r) fun o=>?_;split<;>exact tb.pure _
theorem tb.byteOf (a:Addr):tb P (Go.byteOf a):=by
 unfold Go.byteOf;split
 ·exact tb.pure _
 ·refine tb.bind tb.program fun p=>?_;refine tb.bind (by
   unfold noView;refine tb.bind (tb.viewAt _) fun v=>?_;split
   ·exact tb.unsupported _
   ·exact tb.pure _) fun _=>?_
  refine tb.bind (tb.shape _) fun s=>?_;split
  ·dsimp only;split
   ·exact tb.pure _
   ·split
    ·exact tb.pure _
    ·exact tb.stuck _
  ·exact tb.stuck _
theorem tb.fieldPlace (a:Addr) (f:Field):tb P (Go.fieldPlace a f):=by
 unfold Go.fieldPlace;refine tb.bind (tb.sizeOf _) fun n=>?_;split
 ·unfold partAt;exact tb.bind (tb.byteOf a) fun b=>tb.bind (tb.byteOf _) fun _=>tb.pure _
 ·exact tb.pure _
theorem tb.asIntOf (v:Value):tb P (Go.asIntOf v):=by
 unfold Go.asIntOf;split
 ·exact tb.pure _
 ·exact tb.unsupported _
 ·exact tb.stuck _
theorem tb.sureAddr (v:Value):tb P (Instr.sureAddr v):=by
 unfold Instr.sureAddr;split
 ·exact tb.pure _
 ·exact tb.stuck _
theorem Vq {f:Operand→Value}{o:Oper}{w w':World}{r:Next}(n:quiet o.op=true) (h:(execOp f o).run P w=.ok r w'):w'=w∧∃ v,r=.value v:=by
 have val:∀ {x:Sem Value},tb P x→(do pure (.value (← x)):Sem Next).run P w=.ok r w'→w'=w∧∃ v,r=.value v:=by
  clear h;intro x p g;rw [Sem.run_bind] at g;cases j:x.run P w with
  | ok v l =>
   rw [j] at g;have hw:=p w v l j;have q:Result.ok (Next.value v) l=Result.ok r w':=g;cases q;exact ⟨hw,v,rfl⟩
  | halt e l=>rw [j] at g; cases g
 obtain ⟨dst,op,ty,pos,after,s⟩:=o;cases op<;>simp only [quiet,Bool.false_eq_true] at n
 case move x=>simp [execOp] at h;exact ⟨h.2.symm,_,h.1.symm⟩
 case assign x=>simp [execOp] at h;exact ⟨h.2.symm,_,h.1.symm⟩
 case pick c a b =>
  refine val (x:=do pure (if ← asBool (f c) then f a else f b)) ?_ (by simpa [execOp] using h);refine tb.bind ?_ fun _=>tb.pure _;unfold asBool;split
  ·exact tb.pure _
  ·exact tb.stuck _
 case load t a=>exact val (x:=Instr.loadAt t (f a)) (tb.bind (tb.sureAddr _) fun _=>tb.loadVar _ _) h
 case fieldAddr t x i =>
  refine val (x:=Instr.fieldAt t (f x) i) ?_ h;unfold Instr.fieldAt;refine tb.bind (tb.underlying _) fun d=>?_;split
  ·split
   ·exact tb.bind (tb.sureAddr _) fun _=>tb.bind (tb.fieldPlace _ _) fun _=>tb.pure _
   ·exact tb.stuck _
  ·exact tb.stuck _
 case field t x i =>
  refine val (x:=Instr.field t (f x) i) ?_ h;unfold Instr.field;refine tb.bind (tb.underlying _) fun d=>?_;split
  ·split
   ·refine tb.bind ?_ fun _=>tb.part _ _ _;unfold asAgg;split
    ·exact tb.pure _
    ·exact tb.stuck _
   ·exact tb.stuck _
  ·exact tb.stuck _
 case extract x i =>
  refine val (x:=Instr.extract (f x) i) ?_ h;unfold Instr.extract;split
  ·split
   ·exact tb.pure _
   ·exact tb.stuck _
  ·exact tb.stuck _
 case index t x y =>
  refine val (x:=Instr.index t (f x) (f y)) ?_ h;unfold Instr.index;refine tb.bind (tb.asIntOf _) fun m=>?_;obtain ⟨k,i⟩:=m;refine tb.bind (tb.underlying _) fun d=>?_;split
  ·split
   ·exact tb.bind (tb.sizeOf _) fun _=>tb.part _ _ _
   ·exact (Qh.boundsPanic _ _ _ _).ro
  ·split
   ·exact tb.pure _
   ·exact (Qh.boundsPanic _ _ _ _).ro
  ·exact tb.stuck _
 case indexAddr t x y =>
  refine val (x:=Instr.indexAt t (f x) (f y)) ?_ h;unfold Instr.indexAt;refine tb.bind (tb.asIntOf _) fun m=>?_;obtain ⟨k,i⟩:=m;refine tb.bind (tb.underlying _) fun d=>?_;dsimp only;repeat' first
   | with_reducible exact tb.pure _
   | with_reducible exact tb.stuck _
   | with_reducible exact tb.unsupported _
   | with_reducible exact (Qh.boundsPanic _ _ _ _).ro
   | with_reducible refine tb.bind (tb.sureAddr _) fun _=>?_
   | with_reducible refine tb.bind (tb.underlying _) fun _=>?_
   | with_reducible refine tb.bind (tb.sizeOf _) fun _=>?_
   | with_reducible refine tb.bind (tb.pure _) fun _=>?_
   | with_reducible refine tb.bind (tb.stuck _) fun _=>?_
   | split
end
section
variable {P:Program}{Q:Exit→Act→World→Prop}{ops:Array Oper}{fr sa:List Value}{ds:List Deferred}{w:World}
theorem OB {fr:List Value}{ds ds':List Deferred}{d:Nat}{v:Value}{x:Operand}(h:Qp x≠some d):(F (fr.set d v) ds).eval x=(F fr ds').eval x:=by
 cases x with
 | tmp t =>
  have:d≠t:=fun e=>h (by simp [Qp,e]);simp [F,Act.eval,List.getElem?_set_ne this]
 | const v=>rfl
 | global g=>rfl
 | func f=>rfl
theorem Rv {o:Oper}{d:Nat}(h:(reads ops o).contains d=false):∀ x ∈ o.op.operands,Qp x≠some d:=by
 intro x a e;have:d ∈ reads ops o:=by
  unfold reads;exact List.mem_append.2 (.inl (List.mem_filterMap.2 ⟨x,by simpa using a,e⟩))
 rw [List.contains_iff_mem.2 this] at h;cases h
theorem ir {o:Oper}{d:Nat}{v:Value}{ds':List Deferred}(hs:yk o.op=true) (h:(reads ops o).contains d=false):execOp (F (fr.set d v) ds).eval o=execOp (F fr ds').eval o :=
 execOp_congr o hs fun x a=>OB (Rv h x a)
theorem my {o:Oper}{d:Nat}{v:Value}{ds':List Deferred}(h:(reads ops o).contains d=false):Region.wanted o (yielded ops (F (fr.set d v) ds).tmps)=Region.wanted o (yielded ops (F fr ds').tmps):=by
 unfold Region.wanted;cases a:o.guard with
 | none=>rfl
 | some c =>
  obtain ⟨j,b⟩:=c;simp only;congr 1;unfold yielded;cases f:(ops[j]?).bind (·.dst) with
  | none=>rfl
  | some e =>
   have g:d≠e:=by
    intro he;have:d ∈ reads ops o:=by
     unfold reads;rw [a];exact List.mem_append.2 (.inr (by simp only;rw [f];simp [he]))
    rw [List.contains_iff_mem.2 this] at h;cases h
   simp [F,List.getElem?_set_ne g]
theorem put_eq (fr:List Value) (ds:List Deferred) (dst:Option Tmp) (x:Value):∃ g:List Value→List Value,(∀ fr ds,(F fr ds).put dst x=F (g fr) ds)∧(∀ (fr:List Value) (d:Nat) (v:Value),dst≠some d→g (fr.set d v)=(g fr).set d v)∧(∀ (fr:List Value) (y:Operand) (ds ds':List Deferred),(∀ e,dst=some e→Qp y≠some e)→(F (g fr) ds).eval y=(F fr ds').eval y):=by
 cases dst with
 | none=>exact ⟨id,fun _ _=>rfl,fun _ _ _ _=>rfl,fun fr y ds ds' _=>by cases y <;> rfl⟩
 | some n =>
  refine ⟨fun fr=>fr.set n x,fun fr ds=>ia rfl ds,fun fr d v h=>?_,fun fr y ds ds' h=>OB (h n rfl)⟩;have:d≠n:=fun e=>h (by rw [e]);exact List.set_comm _ _ this
def di (Q:Exit→Act→World→Prop) (d:Nat):Prop:=∀ a (fr:List Value) (v:Value) (ds:List Deferred) w,Q (.panic a) (F (fr.set d v) ds) w→Q (.panic a) (F fr ds) w
theorem yA {rd:Bool}{i d:Nat}(q:di Q d){o:Oper}{v:Value}(u:ops[i]?=some o) (Na:o.dst=some d) (z:o.guard=none){w0:World} :
  ∀ (a b:List Nat) (fr:List Value) (ds:List Deferred) (w:World),
   (∀ j ∈ a,match ops[j]? with
    | some p=>yk p.op=true∧(reads ops p).contains d=false∧p.dst≠some d∧(∀ e,p.dst=some e→(reads ops o).contains e=false)∧(rd=true→quiet p.op=true)
    | none=>True) →
   (rd=true→w=w0)→yk o.op=true →
   (∀ ds w,(rd=true→w=w0)→(execOp (F fr ds).eval o).run P w=.ok (.value v) w) →
   wpOps P ops Q (a++b) (F (fr.set d v) ds) w→wpOps P ops Q (a++i::b) (F fr ds) w
 | [],b,fr,ds,w,_,hw,s,t,h=>by
  simp only [List.nil_append] at h ⊢;simp only [wpOps,u];rw [if_pos (by simp [Region.wanted,z])];left;unfold Oper.wp;rw [t ds w hw,Oper.upon_value,Na];rw [show (F fr ds).put (some d) v=F (fr.set d v) ds from ia rfl ds];exact h
 | j::a,b,fr,ds,w,L,hw,s,t,h=>by
  have A:=L j (by simp);have M:∀ k ∈ a,_:=fun k c=>L k (by simp [c]);simp only [List.cons_append,wpOps] at h ⊢;cases N:ops[j]? with
  | none =>
   rw [N] at h;simp only at h ⊢;exact yA q u Na z a b fr ds w M hw s t h
  | some p =>
   rw [N] at h A;simp only at h A ⊢;obtain ⟨O,B,S,T,C⟩:=A;rw [my (fr:=fr) (v:=v) (ds:=ds) (ds':=ds) B] at h;have key:∀ (x:Value) (w':World) (ds':List Deferred),(rd=true→w'=w0)→wpOps P ops Q (a++b) ((F (fr.set d v) ds').put p.dst x) w'→wpOps P ops Q (a++i::b) ((F fr ds').put p.dst x) w':=by
    intro x w' ds' l c;obtain ⟨g,g1,g2,g3⟩:=put_eq fr ds' p.dst x;rw [g1] at c ⊢;rw [g2 _ _ _ S] at c;refine yA q u Na z a b (g fr) ds' w' M l s (fun m U W=>?_) c;rw [show execOp (F (g fr) m).eval o=execOp (F fr m).eval o from execOp_congr o s fun y X=>g3 fr y m m fun e he hs=>by
     exact Rv (T e he) y X hs]
    exact t m U W
   by_cases R:Region.wanted p (yielded ops (F fr ds).tmps)=true
   ·rw [if_pos R] at h ⊢;rcases h with h | h
    ·left;unfold Oper.wp at h ⊢;rw [ir (ds':=ds) O B] at h;cases n:(execOp (F fr ds).eval p).run P w with
     | halt e w' =>
      rw [n] at h;cases e<;>first | exact h | exact q _ _ _ _ _ h
     | ok r w' =>
      rw [n] at h;have l:rd=true→w'=w0:=fun e=>(Vq (C e) n).1.trans (hw e);cases r with
      | value x=>exact key x w' ds l h
      | skip=>exact key undef w' ds l h
      | defer Y=>exact key undef w' (Y::ds) l h
      | enter f args =>
       have D:rd=true→False:=fun e=>by obtain ⟨_,x,G⟩:=Vq (C e) n;cases G
       rw [Oper.upon_enter] at h ⊢;refine Calls.mono h fun e H he=>?_;cases e with
       | returned x=>exact key x H ds (fun e=>(D e).elim) he
       | panicked Z=>exact q _ _ _ _ _ he
       | outgrown=>exact he
      | row r args =>
       have D:rd=true→False:=fun e=>by obtain ⟨_,x,G⟩:=Vq (C e) n;cases G
       rw [Oper.upon_row] at h ⊢;exact Rows.mono h fun x H he=>key x H ds (fun e=>(D e).elim) he
      | _=>exact h
    ·right;refine ⟨?_,h.2⟩;have K:=h.1;unfold Oper.asks at K ⊢;rw [ir (ds':=ds) O B] at K;exact K
   ·rw [if_neg R] at h ⊢;exact key undef w ds hw h
structure Ai (P:Program) (ops:Array Oper) (Q:Exit→Act→World→Prop) (R:List Nat) (fr:List Value) (ds:List Deferred) (w:World):Prop where
 out:∀ a,Sk ops R a→wpOps P ops Q a (F fr ds) w
theorem Qz {id:Nat}{l:List Oper}(hm:P.follows .mixedOrders=true) (a:(List.range l.toArray.size).all (fun i=>(Uk l.toArray i).all fun j=>decide (j<i))=true)
  (h:∀ w',w'.heap=w.heap→w'.os=w.os→w'.tape=w.tape→w'.output=w.output→Ai P l.toArray Q (List.range l.length) fr ds w'):te P (.region id l.toArray true) Q fr ds w:=by
 constructor;refine wp_region_draw fun t=>?_;have hs:Region.schedule (P.follows .mixedOrders) l.toArray t=Region.linearise .any l.toArray t:=by
  unfold Region.schedule;rw [hm];rfl
 rw [hs];have b:=fE a t;have:=(h { w with drawn:=w.drawn+1 } rfl rfl rfl rfl).out _ (by simpa using b);exact this
theorem hJ (h:Q .normal (F fr ds) w):Ai P ops Q [] fr ds w:=⟨fun b a=>by
 cases a with
 | z=>exact h
 | s h _=>exact absurd (Dm h) (by simp)⟩
def eu (ops:Array Oper) (R:List Nat):List Nat:=R.filter (enabled ops R)
theorem iJ {R:List Nat}(d:R≠[]) (h:∀ i ∈ eu ops R,∃ o,ops[i]?=some o∧if Region.wanted o (yielded ops (F fr ds).tmps) then Gd P o fr ds w (Ai P ops Q (R.erase i)) Q else ∃ sa,Xe fr o.dst undef sa∧Ai P ops Q (R.erase i) sa ds w):Ai P ops Q R fr ds w:=⟨fun e f=>by
 cases f with
 | z=>exact absurd rfl d
 | @s _ e i b c =>
  obtain ⟨o,g,Ua⟩:=h i (List.mem_filter.2 ⟨Dm b,b⟩);simp only [wpOps,g];by_cases hw:Region.wanted o (yielded ops (F fr ds).tmps)=true
  ·rw [if_pos hw] at Ua ⊢;exact .inl (Ua.out _ fun sa ds' w' a=>a.out _ c)
  ·rw [if_neg hw] at Ua ⊢;obtain ⟨sa,Na,a⟩:=Ua;exact Na.rw (a.out _ c)⟩
theorem mM {R:List Nat}{i:Nat}{R':List Nat}{dst:Option Tmp}{op:Op}{ty:TypeId}{pos:String}{after:Array Edge}(b:eu ops R=[i]) (c:R.erase i=R') (d:ops[i]?=some ⟨dst,op,ty,pos,after,none⟩)
  (h:Gd P ⟨dst,op,ty,pos,after,none⟩ fr ds w (Ai P ops Q R') Q):Ai P ops Q R fr ds w :=
 iJ (by intro e;subst e;cases b) fun j a=>by
  rw [b] at a;simp at a;subst a;refine ⟨_,d,?_⟩;rw [if_pos (by simp [Region.wanted]),c];exact h
theorem Sk.split {R l:List Nat}(h:Sk ops R l) (n:R.Nodup){i:Nat}(Ua:i ∈ R) (o:enabled ops R i=true) :
  ∃ f m,l=f++i::m∧Sk ops (R.erase i) (f++m)∧∀ j ∈ f,j ∈ R∧j≠i∧i ∉ Uk ops j:=by
 induction h with
 | z=>cases Ua
 | @s R l k g t q =>
  by_cases e:k=i
  ·subst e;exact ⟨[],l,rfl,t,by simp⟩
  ·have p:i ∈ R.erase k:=(n.mem_erase_iff).2 ⟨fun h=>e h.symm,Ua⟩;have r:enabled ops (R.erase k) i=true:=by
    simp only [enabled,Bool.and_eq_true,List.contains_iff_mem,List.all_eq_true] at o ⊢;refine ⟨p,fun j d=>?_⟩;have:=o.2 j d;simp only [Bool.not_eq_true',List.contains_eq_mem,decide_eq_false_iff_not] at this ⊢;exact fun hm=>this (List.mem_of_mem_erase hm)
   obtain ⟨f,m,u,v,w⟩:=q (n.erase k) p r;refine ⟨k::f,m,by rw [u];rfl,?_,?_⟩
   ·refine .s ?_ (by rw [List.erase_comm];exact v);simp only [enabled,Bool.and_eq_true,List.contains_iff_mem,List.all_eq_true] at g ⊢;refine ⟨(n.mem_erase_iff).2 ⟨e,g.1⟩,fun j d=>?_⟩;have:=g.2 j d;simp only [Bool.not_eq_true',List.contains_eq_mem,decide_eq_false_iff_not] at this ⊢;exact fun hm=>this (List.mem_of_mem_erase hm)
   ·intro j d;rcases List.mem_cons.1 d with rfl | d
    ·exact ⟨Dm g,e,fun Na=>SA g Na Ua⟩
    ·obtain ⟨a,b,c⟩:=w j d;exact ⟨List.mem_of_mem_erase a,b,c⟩
theorem vG {R R':List Nat}{i:Nat}{rd:Bool}{dst:Tmp}{op:Op}{ty:TypeId}{pos:String}{after:Array Edge}{v:Value}(o:di Q dst) (k:(decide R.Nodup && enabled ops R i && apart ops rd R i)=true) (q:R.erase i=R') (l:ops[i]?=some ⟨some dst,op,ty,pos,after,none⟩)
  (Wa:∀ ds w',(rd=true→w'=w)→(execOp (F fr ds).eval ⟨some dst,op,ty,pos,after,none⟩).run P w'=.ok (.value v) w') (f:oc fr dst v sa) (h:Ai P ops Q R' sa ds w):Ai P ops Q R fr ds w:=⟨fun D r=>by
 simp only [Bool.and_eq_true,decide_eq_true_eq] at k;obtain ⟨⟨s,m⟩,g⟩:=k;obtain ⟨t,u,rfl,x,y⟩:=r.split s (Dm m) m;unfold apart at g;simp only [l,Bool.and_eq_true,List.all_eq_true,Bool.or_eq_true,beq_iff_eq,List.contains_iff_mem] at g;unfold oc at f;subst f;subst q;refine yA o l rfl rfl (rd:=rd) (w0:=w) (v:=v) t u fr ds w (fun j z=>?_) (fun _=>rfl) g.1 Wa (h.out _ x);obtain ⟨a,b,c⟩:=y j z;have:=g.2 j a;rcases this with (h | h) | h
 ·exact absurd h b
 ·exact absurd h c
 ·cases f:ops[j]? with
  | none=>trivial
  | some p =>
   rw [f] at h;simp only [Bool.and_eq_true,Bool.not_eq_true',bne_iff_ne,ne_eq,Bool.or_eq_true] at h;obtain ⟨⟨⟨⟨A,B⟩,C⟩,n⟩,d⟩:=h;refine ⟨A,B,C,fun e he=>?_,fun e=>?_⟩
   ·rw [he] at n;simpa using n
   ·rcases d with d | d
    ·rw [e] at d;cases d
    ·exact d⟩
theorem Bb {d:Nat}(h:∀ b a w,Q (.panic b) a w→False):di Q d:=fun b fr v ds w c=>(h b _ w c).elim
theorem YK {R R':List Nat}{i:Nat}{dst:Tmp}{op:Op}{ty:TypeId}{pos:String}{after:Array Edge}{v:Value}(a:di Q dst) (b:(decide R.Nodup && enabled ops R i && apart ops false R i)=true) (c:R.erase i=R') (d:ops[i]?=some ⟨some dst,op,ty,pos,after,none⟩)
  (Wa:Ke P ⟨some dst,op,ty,pos,after,none⟩ fr v) (e:oc fr dst v sa) (h:Ai P ops Q R' sa ds w):Ai P ops Q R fr ds w :=
 vG a b c d (fun ds w' _=>Wa.out ds w') e h
end
end Go.yb
