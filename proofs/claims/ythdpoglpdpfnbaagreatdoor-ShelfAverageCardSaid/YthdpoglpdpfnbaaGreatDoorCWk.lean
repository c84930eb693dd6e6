/- The shelf: texts of Wk. -/
import Derived.Tactics
import Derived.Defers
import Derived.Recover
import Derived.Lib.Strings
import Derived.Laws.Append
import Derived.Below
import Derived.Laws.AppendOwn
set_option linter.unusedSimpArgs false
set_option linter.unusedVariables false
set_option linter.unusedSectionVars false
namespace Go.vc
open Go.RowKit
def zc {α:Type}(l:List α) (n:Nat) (v:α):Prop:=l[n]?=some v
def tc {α:Type}(l:List α) (n:Nat) (v:α) (a:List α):Prop:=l.set n v=a
theorem d0 {α:Type}{v:α}{l:List α}:zc (v::l) 0 v:=rfl
theorem ya {α:Type}{x v:α}{l:List α}:tc (x::l) 0 v (v::l):=rfl
theorem d1 {α:Type}{a0:α}{v:α}{l:List α}:zc (a0::v::l) 1 v:=rfl
theorem Ja {α:Type}{a0:α}{x v:α}{l:List α}:tc (a0::x::l) 1 v (a0::v::l):=rfl
theorem d2 {α:Type}{a0 O:α}{v:α}{l:List α}:zc (a0::O::v::l) 2 v:=rfl
theorem Sa {α:Type}{a0 O:α}{x v:α}{l:List α}:tc (a0::O::x::l) 2 v (a0::O::v::l):=rfl
theorem d3 {α:Type}{a0 O a2:α}{v:α}{l:List α}:zc (a0::O::a2::v::l) 3 v:=rfl
theorem yb {α:Type}{a0 O a2:α}{x v:α}{l:List α}:tc (a0::O::a2::x::l) 3 v (a0::O::a2::v::l):=rfl
theorem d4 {α:Type}{a0 O a2 a3:α}{v:α}{l:List α}:zc (a0::O::a2::a3::v::l) 4 v:=rfl
theorem wb {α:Type}{a0 O a2 a3:α}{x v:α}{l:List α}:tc (a0::O::a2::a3::x::l) 4 v (a0::O::a2::a3::v::l):=rfl
theorem d5 {α:Type}{a0 O a2 a3 a4:α}{v:α}{l:List α}:zc (a0::O::a2::a3::a4::v::l) 5 v:=rfl
theorem cc {α:Type}{a0 O a2 a3 a4:α}{x v:α}{l:List α}:tc (a0::O::a2::a3::a4::x::l) 5 v (a0::O::a2::a3::a4::v::l):=rfl
theorem d6 {α:Type}{a0 O a2 a3 a4 a5:α}{v:α}{l:List α}:zc (a0::O::a2::a3::a4::a5::v::l) 6 v:=rfl
theorem ec {α:Type}{a0 O a2 a3 a4 a5:α}{x v:α}{l:List α}:tc (a0::O::a2::a3::a4::a5::x::l) 6 v (a0::O::a2::a3::a4::a5::v::l):=rfl
theorem d7 {α:Type}{a0 O a2 a3 a4 a5 Zb:α}{v:α}{l:List α}:zc (a0::O::a2::a3::a4::a5::Zb::v::l) 7 v:=rfl
theorem Gb {α:Type}{a0 O a2 a3 a4 a5 Zb:α}{x v:α}{l:List α}:tc (a0::O::a2::a3::a4::a5::Zb::x::l) 7 v (a0::O::a2::a3::a4::a5::Zb::v::l):=rfl
theorem d8 {α:Type}{a0 O a2 a3 a4 a5 Zb Ec:α}{v:α}{l:List α}:zc (a0::O::a2::a3::a4::a5::Zb::Ec::v::l) 8 v:=rfl
theorem kc {α:Type}{a0 O a2 a3 a4 a5 Zb Ec:α}{x v:α}{l:List α}:tc (a0::O::a2::a3::a4::a5::Zb::Ec::x::l) 8 v (a0::O::a2::a3::a4::a5::Zb::Ec::v::l):=rfl
theorem d9 {α:Type}{a0 O a2 a3 a4 a5 Zb Ec lb:α}{v:α}{l:List α}:zc (a0::O::a2::a3::a4::a5::Zb::Ec::lb::v::l) 9 v:=rfl
theorem qc {α:Type}{a0 O a2 a3 a4 a5 Zb Ec lb:α}{x v:α}{l:List α}:tc (a0::O::a2::a3::a4::a5::Zb::Ec::lb::x::l) 9 v (a0::O::a2::a3::a4::a5::Zb::Ec::lb::v::l):=rfl
def F (fr:List Value) (ds:List Deferred):Act:=⟨⟨fr⟩,ds⟩
def pb (fr:List Value) (x:Operand) (v:Value):Prop:=∀ ds,(F fr ds).eval x=v
theorem aa {fr:List Value}{n:Nat}{v:Value}(h:zc fr n v):pb fr (.tmp n) v:=by
 intro ds;unfold zc at h;simp [F,Act.eval,h]
theorem xa {fr:List Value}{v:Value}:pb fr (.const v) v:=fun _=>rfl
theorem rb {fr:List Value}{f:Nat}:pb fr (.func f) (.func (.func f) #[] #[]):=fun _=>rfl
def tf (fr:List Value) (dst:Option Tmp) (v:Value) (V:List Value):Prop:=∀ ds,(F fr ds).put dst v=F V ds
theorem La {fr:List Value}{v:Value}:tf fr none v fr:=fun _=>rfl
theorem ha {fr V:List Value}{n:Nat}{v:Value}(h:tc fr n v V):tf fr (some n) v V:=by
 intro ds;unfold tc at h;subst h;simp [F,Act.put]
theorem tf.rw {fr V:List Value}{dst:Option Tmp}{v:Value}(h:tf fr dst v V){K:Act→World→Prop}{ds:List Deferred}{w:World}(k:K (F V ds) w):K ((F fr ds).put dst v) w:=by
 rw [h ds];exact k
def Ak (fr:List Value) (xs:List Operand) (vs:List Value):Prop:=∀ ds,xs.map (F fr ds).eval=vs
theorem Qa {fr:List Value}:Ak fr [] []:=fun _=>rfl
theorem qa {fr:List Value}{x:Operand}{v:Value}{xs:List Operand}{vs:List Value}(h:pb fr x v) (a:Ak fr xs vs):Ak fr (x::xs) (v::vs):=by
 intro ds;simp [h ds,a ds]
structure Fe (P:Program) (c:Code) (Q:Exit→Act→World→Prop) (fr:List Value) (ds:List Deferred) (w:World):Prop where
 out:c.wp P Q (F fr ds) w
structure Kf (P:Program) (ops:Array Oper) (Q:Exit→Act→World→Prop) (l:List Oper) (fr:List Value) (ds:List Deferred) (w:World):Prop where
 out:wpList P ops Q l (F fr ds) w
structure Nd (P:Program) (o:Oper) (fr:List Value) (ds:List Deferred) (w:World) (K:List Value→List Deferred→World→Prop) (Q:Exit→Act→World→Prop):Prop where
 out:∀ a:Act→World→Prop,(∀ fr ds w,K fr ds w→a (F fr ds) w)→o.wp P (F fr ds) w a Q
def Qm (P:Program) (c:Code) (Q:Exit→Act→World→Prop):Act→World→Prop:=fun a w=>∃ fr ds,a=F fr ds∧Fe P c Q fr ds w
section code
variable {P:Program}{Q:Exit→Act→World→Prop}{fr:List Value}{ds:List Deferred}{w:World}
theorem Fa {x y:Code}(h:Fe P x (Exit.then (Qm P y Q) Q) fr ds w):Fe P (.seq x y) Q fr ds w :=
 ⟨wp_seq (wp_mono h.out fun e a w b=>by
  cases e with
  | normal=>obtain ⟨fr,ds,rfl,h⟩:=b; exact h.out
  | exit id=>exact b
  | goto l=>exact b
  | ret=>exact b
  | panic c=>exact b
  | outgrown=>exact b)⟩
theorem Oa {id:Nat}{l:List Oper}(h:Kf P l.toArray Q l fr ds w):Fe P (.region id l.toArray false) Q fr ds w:=⟨wp_region_lit h.out⟩
theorem Na (h:Q .normal (F fr ds) w):Fe P .skip Q fr ds w:=⟨wp_skip h⟩
theorem eb (h:Q .ret (F fr ds) w):Fe P .ret Q fr ds w:=⟨wp_ret h⟩
theorem ee {id:Nat}(h:Q (.exit id) (F fr ds) w):Fe P (.exit id) Q fr ds w:=⟨wp_exit h⟩
theorem xb {id:Nat}{c:Code}(h:Fe P c (Exit.inBlock id Q) fr ds w):Fe P (.block id c) Q fr ds w:=⟨wp_block h.out⟩
theorem nz {c:Operand}{x y:Code}{b:Bool}(hc:pb fr c (.bool b)) (a:b=true→Fe P x Q fr ds w) (d:b=false→Fe P y Q fr ds w) :
  Fe P (.cond c x y) Q fr ds w:=⟨wp_cond_split (hc ds) (fun h=>(a h).out) fun h=>(d h).out⟩
theorem Sb {c:Operand}{x y:Code}{p:Prop}[Decidable p] (hc:pb fr c (.bool (decide p))) (a:p→Fe P x Q fr ds w) (b:¬ p→Fe P y Q fr ds w) :
  Fe P (.cond c x y) Q fr ds w:=nz hc (fun h=>a (of_decide_eq_true h)) (fun h=>b (of_decide_eq_false h))
theorem OH {c:Operand}{x y:Code}{p:Prop}[Decidable p] (hc:pb fr c (.bool (decide p))) (a:p) (b:Fe P x Q fr ds w):Fe P (.cond c x y) Q fr ds w:=Sb hc (fun _=>b) fun h=>absurd a h
theorem PH {c:Operand}{x y:Code}{p:Prop}[Decidable p] (hc:pb fr c (.bool (decide p))) (a:¬ p) (b:Fe P y Q fr ds w):Fe P (.cond c x y) Q fr ds w:=Sb hc (fun h=>absurd h a) fun _=>b
theorem ll {c:Operand}{x y:Code}(hc:pb fr c (.bool true)) (a:Fe P x Q fr ds w):Fe P (.cond c x y) Q fr ds w:=⟨wp_cond_true (hc ds) a.out⟩
theorem ml {c:Operand}{x y:Code}(hc:pb fr c (.bool false)) (a:Fe P y Q fr ds w):Fe P (.cond c x y) Q fr ds w:=⟨wp_cond_false (hc ds) a.out⟩
theorem oa {c:Code}{Q':Exit→Act→World→Prop}(h:Fe P c Q' fr ds w):Exit.then (Qm P c Q') Q .normal (F fr ds) w:=⟨fr,ds,rfl,h⟩
theorem Ba {n:Act→World→Prop}{a:Act}(h:n a w):Exit.then n Q .normal a w:=h
theorem nc {n:Act→World→Prop}{a:Act}{id:Nat}(h:Q (.exit id) a w):Exit.then n Q (.exit id) a w:=h
theorem Tc {n:Act→World→Prop}{a:Act}(h:Q .ret a w):Exit.then n Q .ret a w:=h
theorem Rb {a:Act}{id:Nat}(h:Q .normal a w):Exit.inBlock id Q .normal a w:=h
theorem Od {a:Act}{id:Nat}(h:Q .ret a w):Exit.inBlock id Q .ret a w:=h
theorem me {a:Act}{id:Nat}(h:Q .normal a w):Exit.inBlock id Q (.exit id) a w:=by simpa [Exit.inBlock] using h
theorem xC {a:Act}{id j:Nat}(b:(j == id)=false) (h:Q (.exit j) a w):Exit.inBlock id Q (.exit j) a w:=by
 have:¬ j=id:=by simpa using b
 simpa [Exit.inBlock,this] using h
inductive zb where
 | k
 | o (n:Nat)
 | i (v:Value)
def ji (t:Nat→Value):List zb→List Value→List Value
 | [],fr=>fr
 | _::_,[]=>[]
 | .k::ms,a::fr=>a::ji t ms fr
 | .o n::ms,_::fr=>t n::ji t ms fr
 | .i v::ms,_::fr=>v::ji t ms fr
def Xe (t:Nat→Value) (ms:List zb) (fr V:List Value):Prop:=ji t ms fr=V
theorem Nb {t:Nat→Value}{l:List Value}:Xe t [] l l:=rfl
theorem mk {t:Nat→Value}{ms:List zb}{a:Value}{l b:List Value}(h:Xe t ms l b):Xe t (.k::ms) (a::l) (a::b):=by unfold Xe at *;rw [ji,h]
theorem Kc {t:Nat→Value}{ms:List zb}{n:Nat}{a:Value}{l b:List Value}(h:Xe t ms l b):Xe t (.o n::ms) (a::l) (t n::b):=by unfold Xe at *;rw [ji,h]
theorem Lc {t:Nat→Value}{ms:List zb}{v a:Value}{l b:List Value}(h:Xe t ms l b):Xe t (.i v::ms) (a::l) (v::b):=by unfold Xe at *;rw [ji,h]
theorem sd {t:Nat→Value}{ms:List zb}{a b:List Value}(e:Xe t ms a b) (h:Q .normal (F b ds) w):Q .normal (F (ji t ms a) ds) w:=by rw [show ji t ms a=b from e];exact h
theorem Ce {c:Code}{t:Nat→Value}{ms:List zb}{a b:List Value}(e:Xe t ms a b) (h:Fe P c Q b ds w):Fe P c Q (ji t ms a) ds w:=by rw [show ji t ms a=b from e];exact h
inductive Ie:List zb→List Value→List Value→Prop where
 | z {l:List Value}:Ie [] l l
 | k {ms:List zb} {a:Value} {l c:List Value} (h:Ie ms l c):Ie (.k::ms) (a::l) (a::c)
 | o {ms:List zb} {n:Nat} {a b:Value} {l c:List Value} (h:Ie ms l c):Ie (.o n::ms) (a::l) (b::c)
 | i {ms:List zb} {v a:Value} {l c:List Value} (h:Ie ms l c):Ie (.i v::ms) (a::l) (v::c)
def opens:List zb→List Nat
 | []=>[]
 | .o n::ms=>n::opens ms
 | .k::ms=>opens ms
 | .i _::ms=>opens ms
theorem Lt {t t':Nat→Value}:∀ (ms:List zb) (fr:List Value),(∀ n ∈ opens ms,t n=t' n)→ji t ms fr=ji t' ms fr
 | [],_,_=>rfl
 | _::_,[],_=>rfl
 | .k::ms,a::fr,h=>by rw [ji,ji,Lt ms fr h]
 | .o n::ms,a::fr,h=>by rw [ji,ji,Lt ms fr fun m hm=>h m (by simp [opens,hm]),h n (by simp [opens])]
 | .i v::ms,a::fr,h=>by rw [ji,ji,Lt ms fr h]
theorem Ie.ex {ms:List zb}{fr V:List Value}(h:Ie ms fr V) (c:(opens ms).Nodup):∃ t,V=ji t ms fr:=by
 induction h with
 | z=>exact ⟨fun _=>undef,rfl⟩
 | k _ d=>obtain ⟨t,rfl⟩:=d c; exact ⟨t,rfl⟩
 | @o ms n a b l f _ d =>
  simp only [opens,List.nodup_cons] at c;obtain ⟨t,rfl⟩:=d c.2;refine ⟨fun m=>if m=n then b else t m,?_⟩;rw [ji,if_pos rfl];congr 1;refine Lt _ _ fun m hm=>?_;exact (if_neg (fun e:m=n=>c.1 (by rw [← e];exact hm))).symm
 | i _ d=>obtain ⟨t,rfl⟩:=d c; exact ⟨t,rfl⟩
theorem QH {c:Code}{α:Type}(T:List Nat) (m:T.Nodup) (u:α→List zb) (hu:∀ x,opens (u x)=T) (i:α→World→Prop) (j:α→World→Nat) (x0:α) (o:Ie (u x0) fr fr) (p:i x0 w)
  (round:∀ x t w,i x w→Fe P c (Exit.then (fun a' w'=>∃ g V,a'=F V ds∧Ie (u g) fr V∧i g w'∧j g w'<j x w) Q) (ji t (u x) fr) ds w) :
  Fe P (.loop c) Q fr ds w:=by
 constructor;intro b k cs;have key:∀ n x t w,j x w=n→i x w →
   ∃ e a' w',Q e a' w'∧Arrives P (lone (b.at (F (ji t (u x) fr) ds) (.code c::.inLoop c::k)) cs w) b k cs e a' w':=by
  intro n
  induction n using Nat.strongRecOn with
  | _ n q =>
   intro x t w r s;obtain ⟨e,h,f,d,a⟩:=(round x t w s).out b (.inLoop c::k) cs;cases e with
   | normal =>
    obtain ⟨g,V,rfl,v,y,z⟩:=d;obtain ⟨t',A⟩:=v.ex (by rw [hu];exact m);obtain ⟨B,C,D,G,H⟩:=q (j g f) (r ▸ z) g t' f rfl y;rw [A] at a;exact ⟨B,C,D,G,.of_steps (Steps.trans a (.one step_inLoop)) H⟩
   | exit id=>exact ⟨_,h,f,d,.pass (x:=.inLoop c) rfl (fun _ _=>.inl (by simp)) a⟩
   | goto l=>exact ⟨_,h,f,d,.pass (x:=.inLoop c) rfl (fun _ _=>.inl (by simp)) a⟩
   | ret=>exact ⟨_,h,f,d,.pass (x:=.inLoop c) rfl (fun _ _=>.inl (by simp)) a⟩
   | panic M=>exact ⟨_,h,f,d,.pass (x:=.inLoop c) rfl (fun _ _=>.inl (by simp)) a⟩
   | outgrown=>exact ⟨_,h,f,d,.pass (x:=.inLoop c) rfl (fun _ _=>.inl (by simp)) a⟩
 obtain ⟨t0,K⟩:=o.ex (by rw [hu];exact m);obtain ⟨e,a',w',d,a⟩:=key _ x0 t0 w rfl p;rw [← K] at a;exact ⟨e,a',w',d,.of_steps (.one step_loop) a⟩
theorem Fe.mono {c:Code}{Q':Exit→Act→World→Prop}(h:Fe P c Q fr ds w) (b:∀ e a w,Q e a w→Q' e a w):Fe P c Q' fr ds w:=⟨wp_mono h.out b⟩
theorem iE {R Pd:Act→World→Prop}(h:∀ a w,R a w→Pd a w):∀ e a w,Exit.then R Q e a w→Exit.then Pd Q e a w:=fun e a w b=>by
 cases e with
 | normal=>exact h a w b
 | exit id=>exact b
 | goto l=>exact b
 | ret=>exact b
 | panic c=>exact b
 | outgrown=>exact b
theorem tc.same {α:Type}{l:List α}{n:Nat}{v:α}{a:List α}(h:zc l n v) (b:tc l n v a):a=l:=by
 unfold zc at h;unfold tc at b;subst b;obtain ⟨c,rfl⟩:=List.getElem?_eq_some_iff.1 h;exact List.set_getElem_self c
theorem oz {ops:Array Oper}{l:List Oper}{Wg Xg:List Value}{d:Nat}{b:Bool}(a:zc fr d (.bool b)) (c:tc fr d (.bool true) Wg) (e:tc fr d (.bool false) Xg)
  (f:b=true→Kf P ops Q l Wg ds w) (g:b=false→Kf P ops Q l Xg ds w):Kf P ops Q l fr ds w:=by
 cases b with
 | true=>have:=f rfl; rw [tc.same a c] at this; exact this
 | false=>have:=g rfl; rw [tc.same a e] at this; exact this
theorem Nf {ops:Array Oper}{l:List Oper}{Wg Xg:List Value}{d:Nat}{p:Prop}[Decidable p] (a:zc fr d (.bool (decide p))) (b:tc fr d (.bool true) Wg) (c:tc fr d (.bool false) Xg)
  (e:p→Kf P ops Q l Wg ds w) (f:¬ p→Kf P ops Q l Xg ds w):Kf P ops Q l fr ds w :=
 oz a b c (fun h=>e (of_decide_eq_true h)) (fun h=>f (of_decide_eq_false h))
end code
end Go.vc
namespace Go.vc
open Go.RowKit
def S (l:List UInt8):Value:=.string ⟨⟨l⟩⟩
section
variable {P:Program}{Q:Exit→Act→World→Prop}{K:List Value→List Deferred→World→Prop}{fr V:List Value}{ds:List Deferred}{w:World}{ops:Array Oper}{rest:List Oper}
variable {dst:Option Tmp}{op:Op}{ty:TypeId}{pos:String}{after:Array Edge}{g:Option (Nat×Bool)}
theorem Ha (h:Q .normal (F fr ds) w):Kf P ops Q [] fr ds w:=⟨h⟩
theorem wl (h:Nd P ⟨dst,op,ty,pos,after,none⟩ fr ds w (Kf P ops Q rest) Q):Kf P ops Q (⟨dst,op,ty,pos,after,none⟩::rest) fr ds w:=by
 constructor;unfold wpList;rw [if_pos (by simp [Region.wanted])];exact .inl (h.out _ fun _ _ _ k=>k.out)
theorem Fc {j d:Nat}{b:Bool}(c:(ops[j]?).bind (·.dst)=some d) (a:zc fr d (.bool b)) (h:Nd P ⟨dst,op,ty,pos,after,some (j,b)⟩ fr ds w (Kf P ops Q rest) Q) :
  Kf P ops Q (⟨dst,op,ty,pos,after,some (j,b)⟩::rest) fr ds w:=by
 constructor;unfold wpList;rw [if_pos (by
  unfold zc at a;simp only [Region.wanted,yielded,c,F];simp [a])]
 exact .inl (h.out _ fun _ _ _ k=>k.out)
theorem wn {j d:Nat}{b b':Bool}(c:(ops[j]?).bind (·.dst)=some d) (a:zc fr d (.bool b')) (e:(b' == b)=false) (f:tf fr dst undef V) (h:Kf P ops Q rest V ds w) :
  Kf P ops Q (⟨dst,op,ty,pos,after,some (j,b)⟩::rest) fr ds w:=by
 constructor;unfold wpList;rw [if_neg (by
  unfold zc at a;simp only [Region.wanted,yielded,c,F];simp [a];simpa using e)]
 exact f.rw h.out
theorem Sr {j d:Nat}{b:Bool}(c:(ops[j]?).bind (·.dst)=some d) (a:zc fr d undef) (e:tf fr dst undef V) (h:Kf P ops Q rest V ds w) :
  Kf P ops Q (⟨dst,op,ty,pos,after,some (j,b)⟩::rest) fr ds w:=by
 constructor;unfold wpList;rw [if_neg (by
  unfold zc at a;simp only [Region.wanted,yielded,c,F];simp [a,undef])]
 exact e.rw h.out
theorem bh {o:Oper}{v:Value}{w':World}(a:(execOp (F fr ds).eval o).run P w=.ok (.value v) w') (b:tf fr o.dst v V) (h:K V ds w'):Nd P o fr ds w K Q:=by
 constructor;intro d c;unfold Oper.wp;rw [a,Oper.upon_value];exact b.rw (c _ _ _ h)
theorem Qy {o:Oper}{w':World}(a:(execOp (F fr ds).eval o).run P w=.ok .skip w') (b:tf fr o.dst undef V) (h:K V ds w'):Nd P o fr ds w K Q:=by
 constructor;intro d c;unfold Oper.wp;rw [a,Oper.upon_skip];exact b.rw (c _ _ _ h)
structure cf (P:Program) (o:Oper) (fr:List Value) (v:Value):Prop where
 out:∀ ds w,(execOp (F fr ds).eval o).run P w=.ok (.value v) w
theorem va {o:Oper}{v:Value}(hu:cf P o fr v) (a:tf fr o.dst v V) (h:K V ds w):Nd P o fr ds w K Q:=bh (hu.out ds w) a h
theorem Ki {x:Operand}{v:Value}(a:pb fr x v):cf P (Oper.mk dst (.move x) ty pos after g) fr (v):=⟨fun ds w=>by simp [execOp,a ds]⟩
theorem sh {x:Operand}{v:Value}(a:pb fr x v) (b:tf fr dst (v) V) (h:K V ds w):Nd P (Oper.mk dst (.move x) ty pos after g) fr ds w K Q:=va (Ki a) b h
theorem cx {x:Operand}{v:Value}(a:pb fr x v):cf P (Oper.mk dst (.assign x) ty pos after g) fr (v):=⟨fun ds w=>by simp [execOp,a ds]⟩
theorem Oi {x:Operand}{v:Value}(a:pb fr x v) (b:tf fr dst (v) V) (h:K V ds w):Nd P (Oper.mk dst (.assign x) ty pos after g) fr ds w K Q:=va (cx a) b h
theorem Dx {c x y:Operand}{v:Value}(hc:pb fr c (.bool true)) (a:pb fr x v):cf P (Oper.mk dst (.pick c x y) ty pos after g) fr (v):=⟨fun ds w=>by simp [execOp,a ds,hc ds,asBool]⟩
theorem xF {c x y:Operand}{v:Value}(hc:pb fr c (.bool true)) (a:pb fr x v) (b:tf fr dst (v) V) (h:K V ds w):Nd P (Oper.mk dst (.pick c x y) ty pos after g) fr ds w K Q:=va (Dx hc a) b h
theorem cB {c x y:Operand}{v:Value}(hc:pb fr c (.bool false)) (a:pb fr y v):cf P (Oper.mk dst (.pick c x y) ty pos after g) fr (v):=⟨fun ds w=>by simp [execOp,a ds,hc ds,asBool]⟩
theorem wr {n:Int}(h:-9223372036854775808≤n∧n≤9223372036854775807):IntKind.i64.wrap n=n:=by
 unfold IntKind.wrap;simp [IntKind.bits,IntKind.signed];omega
theorem ly {x y:Operand}{t t':TypeId}{k:IntKind}{a b c:Int}(d:pb fr x (.int k a)) (e:pb fr y (.int k b)) (hw:k.wrap (a+b)=c):cf P (Oper.mk dst (.binOp .add t x y t') ty pos after g) fr ((.int k c)):=by
 subst hw;exact ⟨fun ds w=>by simp [execOp,d ds,e ds,eqGuard,binOp,Op.intArith]⟩
theorem VB {x y:Operand}{t t':TypeId}{k:IntKind}{a b c:Int}(d:pb fr x (.int k a)) (e:pb fr y (.int k b)) (hw:k.wrap (a - b)=c):cf P (Oper.mk dst (.binOp .sub t x y t') ty pos after g) fr ((.int k c)):=by
 subst hw;exact ⟨fun ds w=>by simp [execOp,d ds,e ds,eqGuard,binOp,Op.intArith]⟩
theorem my {x y:Operand}{t t':TypeId}{k:IntKind}{a b c:Int}(d:pb fr x (.int k a)) (e:pb fr y (.int k b)) (hw:k.wrap (a*b)=c):cf P (Oper.mk dst (.binOp .mul t x y t') ty pos after g) fr ((.int k c)):=by
 subst hw;exact ⟨fun ds w=>by simp [execOp,d ds,e ds,eqGuard,binOp,Op.intArith]⟩
theorem av {x y:Operand}{t t':TypeId}{k:IntKind}{a b c:Int}(d:pb fr x (.int k a)) (e:pb fr y (.int k b)) (f:b≠0) (hw:k.wrap (a.tdiv b)=c):cf P (Oper.mk dst (.binOp .quo t x y t') ty pos after g) fr ((.int k c)):=by
 subst hw;exact ⟨fun ds w=>by simp [execOp,d ds,e ds,eqGuard,binOp,Op.intDiv,f]⟩
theorem RH {x y:Operand}{t t':TypeId}{k:IntKind}{a b c:Int}(d:pb fr x (.int k a)) (e:pb fr y (.int k b)) (f:b≠0) (hw:a.tmod b=c):cf P (Oper.mk dst (.binOp .rem t x y t') ty pos after g) fr ((.int k c)):=by
 subst hw;exact ⟨fun ds w=>by simp [execOp,d ds,e ds,eqGuard,binOp,Op.intDiv,f]⟩
theorem vr {x y:Operand}{t t':TypeId}{k:IntKind}{a b:Int}(c:pb fr x (.int k a)) (d:pb fr y (.int k b)):cf P (Oper.mk dst (.binOp .lss t x y t') ty pos after g) fr ((.bool (decide (a<b)))):=⟨fun ds w=>by simp [execOp,c ds,d ds,eqGuard,binOp,Op.intCmp]⟩
theorem WB {x y:Operand}{t t':TypeId}{k:IntKind}{a b:Int}(c:pb fr x (.int k a)) (d:pb fr y (.int k b)):cf P (Oper.mk dst (.binOp .leq t x y t') ty pos after g) fr ((.bool (decide (a≤b)))):=⟨fun ds w=>by simp [execOp,c ds,d ds,eqGuard,binOp,Op.intCmp]⟩
theorem SH {x y:Operand}{t t':TypeId}{k:IntKind}{a b:Int}(c:pb fr x (.int k a)) (d:pb fr y (.int k b)) (e:tf fr dst ((.bool (decide (a≤b)))) V) (h:K V ds w):Nd P (Oper.mk dst (.binOp .leq t x y t') ty pos after g) fr ds w K Q:=va (WB c d) e h
theorem xr {x y:Operand}{t t':TypeId}{k:IntKind}{a b:Int}(c:pb fr x (.int k a)) (d:pb fr y (.int k b)):cf P (Oper.mk dst (.binOp .gtr t x y t') ty pos after g) fr ((.bool (decide (b<a)))):=⟨fun ds w=>by simp [execOp,c ds,d ds,eqGuard,binOp,Op.intCmp]⟩
theorem XB {x y:Operand}{t t':TypeId}{k:IntKind}{a b:Int}(c:pb fr x (.int k a)) (d:pb fr y (.int k b)):cf P (Oper.mk dst (.binOp .geq t x y t') ty pos after g) fr ((.bool (decide (b≤a)))):=⟨fun ds w=>by simp [execOp,c ds,d ds,eqGuard,binOp,Op.intCmp]⟩
theorem TH {x y:Operand}{t t':TypeId}{k:IntKind}{a b:Int}(c:pb fr x (.int k a)) (d:pb fr y (.int k b)) (e:tf fr dst ((.bool (decide (b≤a)))) V) (h:K V ds w):Nd P (Oper.mk dst (.binOp .geq t x y t') ty pos after g) fr ds w K Q:=va (XB c d) e h
theorem cv {x y:Operand}{t t':TypeId}{k:IntKind}{a b:Int}(c:pb fr x (.int k a)) (d:pb fr y (.int k b)):cf P (Oper.mk dst (.binOp .eql t x y t') ty pos after g) fr ((.bool (decide (a=b)))):=⟨fun ds w=>by simp [execOp,c ds,d ds,eqGuard,binOp,Op.intCmp];rfl⟩
theorem Nk {x y:Operand}{t t':TypeId}{k:IntKind}{a b:Int}(c:pb fr x (.int k a)) (d:pb fr y (.int k b)) (e:tf fr dst ((.bool (decide (a=b)))) V) (h:K V ds w):Nd P (Oper.mk dst (.binOp .eql t x y t') ty pos after g) fr ds w K Q:=va (cv c d) e h
theorem YB {x y:Operand}{t t':TypeId}{k:IntKind}{a b:Int}(c:pb fr x (.int k a)) (d:pb fr y (.int k b)):cf P (Oper.mk dst (.binOp .neq t x y t') ty pos after g) fr ((.bool (decide (a≠b)))):=⟨fun ds w=>by
  simp [execOp,c ds,d ds,eqGuard,binOp,Op.intCmp];by_cases h:a=b<;>simp [h]⟩
theorem UH {x y:Operand}{t t':TypeId}{k:IntKind}{a b:Int}(c:pb fr x (.int k a)) (d:pb fr y (.int k b)) (e:tf fr dst ((.bool (decide (a≠b)))) V) (h:K V ds w):Nd P (Oper.mk dst (.binOp .neq t x y t') ty pos after g) fr ds w K Q:=va (YB c d) e h
theorem ZB {x:Operand}{t:TypeId}{k:IntKind}{a c:Int}(b:pb fr x (.int k a)) (hw:k.wrap (0 - a)=c):cf P (Oper.mk dst (.unOp .neg t x) ty pos after g) fr ((.int k c)):=by
 subst hw;exact ⟨fun ds w=>by simp [execOp,b ds,Op.unary,Op.intArith]⟩
theorem VH {x:Operand}{t:TypeId}{b:Bool}(a:pb fr x (.bool b)):cf P (Oper.mk dst (.unOp .not t x) ty pos after g) fr ((.bool (!b))):=⟨fun ds w=>by simp [execOp,a ds,Op.unary]⟩
theorem WH {x y:Operand}{t t':TypeId}{a b:List UInt8}(c:pb fr x (S a)) (d:pb fr y (S b)) (l:a.length+b.length≤9223372036854775807):cf P (Oper.mk dst (.binOp .add t x y t') ty pos after g) fr ((S (a++b))):=by
 have e:(ByteArray.mk ⟨a⟩).size=a.length:=rfl;have f:(ByteArray.mk ⟨b⟩).size=b.length:=rfl;have h:¬ (((((ByteArray.mk ⟨a⟩).size+(ByteArray.mk ⟨b⟩).size:Nat):Int)) > IntKind.i64.max):=by
  rw [e,f];unfold IntKind.max;simp [IntKind.bits,IntKind.signed];omega
 have i:ByteArray.mk ⟨a⟩++ByteArray.mk ⟨b⟩=ByteArray.mk ⟨a++b⟩:=by
  apply ByteArray.ext;rw [ByteArray.data_append];simp
 refine ⟨fun ds w=>?_⟩;have j:=c ds;have k:=d ds;simp only [execOp,j,k,S,eqGuard,binOp,Op.stringOp];rw [if_neg h,i];simp
theorem dv {x y:Operand}{t t':TypeId}{a b:List UInt8}(c:pb fr x (S a)) (d:pb fr y (S b)):cf P (Oper.mk dst (.binOp .eql t x y t') ty pos after g) fr ((.bool (decide (a=b)))):=by
 refine ⟨fun ds w=>?_⟩;have f:=c ds;have h:=d ds;simp [execOp,f,h,S,eqGuard,binOp,Op.stringOp];by_cases e:a=b<;>simp [e]
theorem aC {x y:Operand}{t t':TypeId}{a b:List UInt8}(c:pb fr x (S a)) (d:pb fr y (S b)):cf P (Oper.mk dst (.binOp .neq t x y t') ty pos after g) fr ((.bool (decide (a≠b)))):=by
 refine ⟨fun ds w=>?_⟩;have f:=c ds;have h:=d ds;simp [execOp,f,h,S,eqGuard,binOp,Op.stringOp];by_cases e:a=b<;>simp [e]
theorem rk {x:Operand}{t:TypeId}{a:List UInt8}(b:P.underlying t=some .string) (c:pb fr x (S a)):cf P (Oper.mk dst (.call { callee:=.builtin .len,args:=#[x],argTypes:=#[t] }) ty pos after g) fr ((.int .i64 a.length)):=by
 refine ⟨fun ds w=>?_⟩;have d:=c ds;have e:(ByteArray.mk ⟨a⟩).size=a.length:=rfl;simp [execOp,d,resolve,invoke,builtin,S,Builtin.len_,run_underlying b,goInt,e]
theorem jd {x:Operand}{t e:TypeId}{a:Option Addr}{n c:Nat}(b:P.underlying t=some (.slice e)) (d:pb fr x (.slice a n c)):cf P (Oper.mk dst (.call { callee:=.builtin .len,args:=#[x],argTypes:=#[t] }) ty pos after g) fr ((.int .i64 n)):=by
 refine ⟨fun ds w=>?_⟩;have f:=d ds;simp [execOp,f,resolve,invoke,builtin,Builtin.len_,run_underlying b,goInt]
theorem BG {x y:Operand}{t:TypeId}{k:IntKind}{a:List UInt8}{i:Int}{c:UInt8}(d:P.underlying t=some .string) (e:pb fr x (S a)) (f:pb fr y (.int k i)) (j:0≤i) (hc:a[i.toNat]?=some c):cf P (Oper.mk dst (.index t x y) ty pos after g) fr ((.int .u8 c.toNat)):=by
 refine ⟨fun ds w=>?_⟩;have l:=e ds;have m:=f ds;have n:(ByteArray.mk ⟨a⟩)[i.toNat]?=some c:=by
  have b:i.toNat<a.length:=by
   rcases Nat.lt_or_ge i.toNat a.length with h | h
   ·exact h
   ·rw [List.getElem?_eq_none h] at hc;cases hc
  rw [getElem?_pos (ByteArray.mk ⟨a⟩) i.toNat (show i.toNat<(ByteArray.mk ⟨a⟩).size from b)];rw [List.getElem?_eq_getElem b] at hc;rw [← hc];rfl
 simp [execOp,l,m,S,Instr.index,run_underlying d,asIntOf,j,n]
theorem mA (a:List UInt8) (i j:Nat):(ByteArray.mk ⟨a⟩).extract i j=ByteArray.mk ⟨(a.take j).drop i⟩:=by
 rw [Lib.extract_eq];simp [List.drop_take]
theorem yF {x wj:Operand}{t:TypeId}{k:IntKind}{a:List UInt8}{i:Int}(b:P.underlying t=some .string) (c:pb fr x (S a)) (d:pb fr wj (.int k i))
  (e:0≤i∧i≤a.length):cf P (Oper.mk dst (.slice t x (some wj) none none) ty pos after g) fr ((S (a.drop i.toNat))):=by
 refine ⟨fun ds w=>?_⟩;have f:=c ds;have h:=d ds;have j:(ByteArray.mk ⟨a⟩).size=a.length:=rfl;simp only [execOp,f,h,S,Option.map,Instr.sliceAt];simp [run_underlying b,Instr.slice,Instr.sliceBounds,Instr.sliceBound,asIntOf,j,e,mA]
theorem zF {x fb:Operand}{t:TypeId}{b:IntKind}{a:List UInt8}{j:Int}(c:P.underlying t=some .string) (d:pb fr x (S a)) (e:pb fr fb (.int b j))
  (f:0≤j∧j≤a.length):cf P (Oper.mk dst (.slice t x none (some fb) none) ty pos after g) fr ((S (a.take j.toNat))):=by
 refine ⟨fun ds w=>?_⟩;have h:=d ds;have i:=e ds;have k:(ByteArray.mk ⟨a⟩).size=a.length:=rfl;simp only [execOp,h,i,S,Option.map,Instr.sliceAt];simp [run_underlying c,Instr.slice,Instr.sliceBounds,Instr.sliceBound,asIntOf,k,f,mA]
theorem CG {x:Operand}{i:Nat}{vs:List Value}{v:Value}(b:pb fr x (.tuple ⟨vs⟩)) (a:zc vs i v):cf P (Oper.mk dst (.extract x i) ty pos after g) fr (v):=by
 refine ⟨fun ds w=>?_⟩;have c:=b ds;unfold zc at a;simp [execOp,c,Instr.extract,a]
structure Ab (P:Program) (f:FuncId) (args:List Value) (w:World) (R:Value→World→Prop):Prop where
 out:Calls P f ⟨args⟩ w fun e w'=>match e with | .returned v=>R v w' | _=>False
theorem Ab.mono {f:FuncId}{args:List Value}{R Pd:Value→World→Prop}(h:Ab P f args w R) (a:∀ v w',R v w'→Pd v w'):Ab P f args w Pd :=
 ⟨Calls.mono h.out fun e w' he=>by
  cases e with
  | returned v=>exact a v w' he
  | panicked c=>exact he.elim
  | outgrown=>exact he.elim⟩
class Lb (P:Program) (f:FuncId):Prop where
 out:∀ args w,(callFunc f args).run P w=.ok (.enter f args) w
theorem AF {f : FuncId} {fn : Func} (a : P.funcs[f]? = some fn) (e : fn.body.isSome = true) (b : (fn.name == "runtime.NumGoroutine") = false) : Lb P f := by
 constructor;intro args w;have c:¬ fn.body=none:=by cases h:fn.body<;>simp_all
 have d : ¬ fn.name = "runtime.NumGoroutine" := by simpa using b
 simp only [callFunc,Sem.run_bind,run_program,Result.andThen_ok,a,beq_iff_eq,if_neg d,Option.isNone_iff_eq_none,if_neg c,Sem.run_pure]
def Qg (fr:List Value) (dst:Option Tmp) (v:Value) (K:List Value→Prop):Prop:=∀ V,tf fr dst v V→K V
theorem tf.uniq {fr a b:List Value}{dst:Option Tmp}{v:Value}(h:tf fr dst v a) (k:tf fr dst v b):a=b:=by
 have:=(h []).symm.trans (k []);unfold F at this;simpa using this
theorem pu {v:Value}{K:List Value→Prop}(a:tf fr dst v V) (h:K V):Qg fr dst v K:=fun c b=>by rw [tf.uniq b a];exact h
theorem Jh (fr:List Value) (dst:Option Tmp) (v:Value):∃ V,tf fr dst v V:=by
 cases dst with
 | none=>exact ⟨fr,La⟩
 | some n=>exact ⟨fr.set n v,ha rfl⟩
theorem xu {o:Oper}{f:FuncId}{args:List Value}{R:Value→World→Prop}(a:(execOp (F fr ds).eval o).run P w=.ok (.enter f ⟨args⟩) w) (hc:Ab P f args w R)
  (h:∀ v w',R v w'→Qg fr o.dst v fun V=>K V ds w'):Nd P o fr ds w K Q:=by
 constructor;intro d b;unfold Oper.wp;rw [a,Oper.upon_enter];exact Calls.mono hc.out fun e w' he=>by
  cases e with
  | returned v =>
   obtain ⟨V,sb⟩:=Jh fr o.dst v;exact sb.rw (b _ _ _ (h v w' he V sb))
  | panicked c=>exact he.elim
  | outgrown=>exact he.elim
theorem AA {f:Operand}{xs:List Operand}{tys:Array TypeId}{k:FuncId}{cap vs:List Value}(a:Lb P k) (b:pb fr f (.func (.func k) #[] ⟨cap⟩)) (c:Ak fr xs vs) :
  (execOp (F fr ds).eval (Oper.mk dst (.call { callee:=.value f,args:=⟨xs⟩,argTypes:=tys }) ty pos after g)).run P w=.ok (.enter k ⟨vs++cap⟩) w:=by
 have d:=b ds;have e:=c ds;have h:=a.out ⟨vs++cap⟩ w;simp [execOp,resolve,d,Deferred.ofValue,invoke,e,h]
theorem vb {f:Operand}{xs:List Operand}{tys:Array TypeId}{k:FuncId}{vs:List Value}{R:Value→World→Prop}(a:Lb P k) (b:pb fr f (.func (.func k) #[] #[])) (c:Ak fr xs vs)
  (hc:Ab P k vs w R) (h:∀ v w',R v w'→Qg fr dst v fun V=>K V ds w'):Nd P (Oper.mk dst (.call { callee:=.value f,args:=⟨xs⟩,argTypes:=tys }) ty pos after g) fr ds w K Q:=by
 refine xu (args:=vs) ?_ hc h;have:=AA (w:=w) (dst:=dst) (ty:=ty) (pos:=pos) (after:=after) (g:=g) (tys:=tys) (ds:=ds) (cap:=[]) a b c;simpa using this
theorem yu {f:Operand}{xs:List Operand}{tys:Array TypeId}{k:FuncId}{cap vs:List Value}{R:Value→World→Prop}(a:Lb P k) (b:pb fr f (.func (.func k) #[] ⟨cap⟩)) (c:Ak fr xs vs)
  (hc:Ab P k (vs++cap) w R) (h:∀ v w',R v w'→Qg fr dst v fun V=>K V ds w'):Nd P (Oper.mk dst (.call { callee:=.value f,args:=⟨xs⟩,argTypes:=tys }) ty pos after g) fr ds w K Q :=
 xu (AA a b c) hc h
def Nn (P:Program) (fn:Func) (R:Value→World→Prop):Exit→Act→World→Prop:=bodyPost P fn fun e w'=>match e with | .returned v=>R v w' | _=>False
theorem enter {f:FuncId}{fn:Func}{c:Code}{args frm:List Value}{R:Value→World→Prop}(a:P.funcs[f]?=some fn) (b:fn.body=some c)
  (d:args++List.replicate (fn.ntmps - args.length) undef=frm) (h:Fe P c (Nn P fn R) frm [] w):Ab P f args w R:=by
 refine ⟨calls_of_wp a b ?_⟩;subst d;have:(⟨args⟩:Array Value)++Array.replicate (fn.ntmps - args.length) undef=⟨args++List.replicate (fn.ntmps - args.length) undef⟩:=by
  apply Array.ext';simp
 have h:=h.out;simpa [F,Nn,this] using h
theorem ic {fn:Func}{R:Value→World→Prop}{t:Tmp}{v:Value}(b:fn.results=#[.tmp t]) (a:zc fr t v) (h:R v w):Nn P fn R .ret (F fr []) w:=by
 refine bodyPost_ret (v:=v) ?_ rfl h;unfold zc at a;rw [results_tmp b];simp [F,a]
theorem kv {fn:Func}{R:Value→World→Prop}{t u:Tmp}{v a:Value}(d:fn.results=#[.tmp t,.tmp u]) (b:zc fr t v) (c:zc fr u a) (h:R (.tuple #[v,a]) w):Nn P fn R .ret (F fr []) w:=by
 refine bodyPost_ret (v:=.tuple #[v,a]) ?_ rfl h;unfold zc at b c;rw [results_tmp2 d];simp [F,b,c]
theorem wh {fn:Func}{R:Value→World→Prop}(a:fn.results=#[]) (h:R (.tuple #[]) w):Nn P fn R .normal (F fr []) w :=
 bodyPost_end (results_none a _ _ _) rfl h
theorem jC {fn:Func}{R:Value→World→Prop}(a:fn.results=#[]) (h:R (.tuple #[]) w):Nn P fn R .ret (F fr []) w :=
 bodyPost_ret (results_none a _ _ _) rfl h
end
end Go.vc
namespace Go.vc
open Go.RowKit
structure di (S:Nat→Prop) (w w':World):Prop where
 os:w'.os=w.os
 tape:w'.tape=w.tape
 output:w'.output=w.output
 size:w.heap.size≤w'.heap.size
 ba:∀ k,k<w.heap.size→S k→w'.heap[k]?=w.heap[k]?
def Grow (w w':World):Prop:=di (fun _=>True) w w'
theorem di.refl {S:Nat→Prop}(w:World):di S w w:=⟨rfl,rfl,rfl,Nat.le_refl _,fun _ _ _=>rfl⟩
theorem di.trans {S:Nat→Prop}{a b c:World}(h:di S a b) (k:di S b c):di S a c :=
 ⟨k.os.trans h.os,k.tape.trans h.tape,k.output.trans h.output,Nat.le_trans h.size k.size,fun i fb d=>(k.ba i (Nat.lt_of_lt_of_le fb h.size) d).trans (h.ba i fb d)⟩
theorem di.mono {S c:Nat→Prop}{a b:World}(h:di S a b) (d:∀ k,c k→S k):di c a b:=⟨h.os,h.tape,h.output,h.size,fun i fb k=>h.ba i fb (d i k)⟩
theorem Grow.keeps {S:Nat→Prop}{a b:World}(h:Grow a b):di S a b:=di.mono h fun _ _=>trivial
theorem Grow.below {a b:World}(h:Grow a b):Below a.heap.size a b:=⟨h.os,h.tape,h.output,h.size,fun k c=>h.ba k c trivial⟩
theorem Grow.alloc (w:World) (o:Obj):Grow w (w.alloc o):=⟨rfl,rfl,rfl,by simp,fun k a _=>heap_alloc_old w o k a⟩
def Kj (S:Nat→Prop) (w:World) (A:World→Prop):Prop:=∀ w',w.heap.size≤w'.heap.size→(∀ k,k<w.heap.size→S k→w'.heap[k]?=w.heap[k]?)→A w'
theorem Kj.now {S:Nat→Prop}{w:World}{A:World→Prop}(h:Kj S w A):A w:=h w (Nat.le_refl _) fun _ _ _=>rfl
theorem Kj.mono {S a:Nat→Prop}{w:World}{A:World→Prop}(h:Kj S w A) (c:∀ k,k<w.heap.size→S k→a k):Kj a w A:=fun w' d e=>h w' d fun k b f=>e k b (c k b f)
theorem Kj.and {S:Nat→Prop}{w:World}{A B:World→Prop}(h:Kj S w A) (k:Kj S w B):Kj S w fun w'=>A w'∧B w':=fun w' a b=>⟨h w' a b,k w' a b⟩
theorem Kj.keeps {S:Nat→Prop}{w w':World}{A:World→Prop}(h:Kj S w A) (k:di S w w'):Kj S w' A :=
 fun d e f=>h d (Nat.le_trans k.size e) fun b a c=>(f b (Nat.lt_of_lt_of_le a k.size) c).trans (k.ba b a c)
inductive Fb where
 | ba (b:Nat) (T:TypeId) (cs:List Value)
 | row (v:Value) (T:TypeId) (sz n:Nat) (xs:List Value)
 | map (b:Nat) (es:List MapEntry) (clock:Nat)
 | uv (b:Nat) (s:ByteArray) (pos:Nat)
 | ro (b:Nat) (T:TypeId) (cs:List Value)
 | hj (b m since:Nat) (seen:List Nat) (last:Nat)
def cj (w:World) (b:Nat) (T:TypeId) (cs:List Value):Prop:=w.heap[b]?=some (.cells ⟨cs⟩ T (0,0))
def Row (w:World) (v:Value) (T:TypeId) (sz n:Nat) (xs:List Value):Prop :=
 xs.length=n*sz∧((v=.slice none 0 0∧n=0)∨∃ g o cap cur,v=.slice (some ⟨g,o,none⟩) n cap∧w.heap[g]?=some (.cells cur T (0,0))∧n≤cap∧cap≤maxLen∧o+cap*sz≤cur.size∧(cur.toList.drop o).take (n*sz)=xs)
def Fb.block:Fb→Option Nat
 | .ba b _ _=>some b
 | .row v _ _ _ _=>v.ownBlock
 | .map b _ _=>some b
 | .uv b _ _=>some b
 | .ro b _ _=>some b
 | .hj b _ _ _ _=>some b
def Fb.holds (w:World):Fb→Prop
 | .ba b T cs=>cj w b T cs
 | .row v T sz n xs=>Row w v T sz n xs
 | .map b es clock=>w.heap[b]?=some (.map ⟨es⟩ clock)
 | .uv b s pos=>w.heap[b]?=some (.stringIter s pos)
 | .ro b T cs=>∃ z,w.heap[b]?=some (.cells ⟨cs⟩ T z)
 | .hj b m since seen last=>w.heap[b]?=some (.mapIter (some m) since ⟨seen⟩ last)
def blocks (rs:List Fb):List Nat:=rs.filterMap Fb.block
structure Sep (S Qd:Nat→Prop) (w0 w:World) (rs:List Fb) (A:World→Prop):Prop where
 keeps:di S w0 w
 all:∀ r ∈ rs,r.holds w
 ki:(blocks rs).Nodup
 new:∀ b ∈ blocks rs,w0.heap.size≤b∨¬ S b
 Di:Kj (fun b=>(Qd b∨w0.heap.size≤b)∧b ∉ blocks rs) w A
theorem Fz {w:World}{r:Fb}(h:r.holds w){b:Nat}(a:r.block=some b):b<w.heap.size:=by
 cases r with
 | ba b' T cs=>simp [Fb.block] at a; subst a; exact (Array.getElem?_eq_some_iff.1 h).1
 | map b' es d=>simp [Fb.block] at a; subst a; exact (Array.getElem?_eq_some_iff.1 h).1
 | uv b' s p=>simp [Fb.block] at a; subst a; exact (Array.getElem?_eq_some_iff.1 h).1
 | hj b' m s e l=>simp [Fb.block] at a; subst a; exact (Array.getElem?_eq_some_iff.1 h).1
 | ro b' T cs=>obtain ⟨z,h⟩:=h; simp [Fb.block] at a; subst a; exact (Array.getElem?_eq_some_iff.1 h).1
 | row v T sz n xs =>
  rcases h.2 with ⟨rfl,_⟩ | ⟨g,o,cap,cur,rfl,c,_⟩
  ·simp [Fb.block,Value.ownBlock] at a
  ·simp [Fb.block,Value.ownBlock] at a;subst a;exact (Array.getElem?_eq_some_iff.1 c).1
theorem holds_of {w w':World}{r:Fb}(h:r.holds w) (a:∀ b,r.block=some b→w'.heap[b]?=w.heap[b]?):r.holds w':=by
 cases r with
 | ba b' T cs=>exact (a b' rfl).trans h
 | map b' es d=>exact (a b' rfl).trans h
 | uv b' s p=>exact (a b' rfl).trans h
 | hj b' m s e l=>exact (a b' rfl).trans h
 | ro b' T cs=>obtain ⟨z,h⟩:=h; exact ⟨z,(a b' rfl).trans h⟩
 | row v T sz n xs =>
  refine ⟨h.1,?_⟩;rcases h.2 with h | ⟨g,o,cap,cur,rfl,c,h⟩
  ·exact .inl h
  ·exact .inr ⟨g,o,cap,cur,rfl,by rw [a g rfl];exact c,h⟩
section
variable {S Qd:Nat→Prop}{w0 w w':World}{rs rs':List Fb}{A B:World→Prop}
theorem Sep.a (h:Sep S Qd w0 w rs A):A w:=h.Di.now
theorem Sep.start (w:World) (S Qd:Nat→Prop) (a:Kj Qd w A):Sep S Qd w w [] A :=
 ⟨.refl w,by simp,by simp [blocks],by simp [blocks],a.mono fun k _ b=>⟨.inl b,by simp [blocks]⟩⟩
theorem an {r:Fb}{b:Nat}(a:r ∈ rs) (c:r.block=some b):b ∈ blocks rs:=List.mem_filterMap.2 ⟨r,a,c⟩
theorem Sep.lt (h:Sep S Qd w0 w rs A){b:Nat}(a:b ∈ blocks rs):b<w.heap.size:=by
 obtain ⟨r,c,a⟩:=List.mem_filterMap.1 a;exact Fz (h.all r c) a
theorem Sep.grow (h:Sep S Qd w0 w rs A) (a:Grow w w'):Sep S Qd w0 w' rs A where
 keeps:=h.keeps.trans a.keeps
 all r c:=holds_of (h.all r c) fun b d=>a.ba b (h.lt (an c d)) trivial
 ki:=h.ki
 new:=h.new
 Di:=h.Di.keeps a.keeps
theorem Sep.alloc (h:Sep S Qd w0 w rs A){o:Obj}{r:Fb}(c:r.block=some w.heap.size) (f:r.holds (w.alloc o)):Sep S Qd w0 (w.alloc o) (r::rs) A where
 keeps:=h.keeps.trans (Grow.alloc w o).keeps
 all r' d:=by
  rcases List.mem_cons.1 d with rfl | d
  ·exact f
  ·exact (h.grow (Grow.alloc w o)).all r' d
 ki:=by
  simp only [blocks,List.filterMap_cons,c,List.nodup_cons];exact ⟨fun hm=>Nat.lt_irrefl _ (h.lt hm),h.ki⟩
 new b a:=by
  simp only [blocks,List.filterMap_cons,c,List.mem_cons] at a;rcases a with rfl | a
  ·exact .inl h.keeps.size
  ·exact h.new b a
 Di:=fun w' g i=>h.Di w' (by simp at g;omega) fun k j e=>by
  have:=i k (by simp;omega) ⟨e.1,by
   simp only [blocks,List.filterMap_cons,c,List.mem_cons,not_or];exact ⟨by omega,e.2⟩⟩
  rw [this];exact heap_alloc_old w o k j
theorem Pu {r:Fb}{n:Nat}(a:zc rs n r):r ∈ rs:=List.mem_of_getElem? a
theorem Sep.get (h:Sep S Qd w0 w rs A){n:Nat}{r:Fb}(a:zc rs n r):r.holds w:=h.all r (Pu a)
theorem Xz {n:Nat}{r r':Fb}(b:zc rs n r) (c:r'.block=r.block):blocks (rs.set n r')=blocks rs:=by
 unfold zc at b;unfold blocks
 induction rs generalizing n with
 | nil=>rfl
 | cons a rs d =>
  cases n with
  | zero=>simp at b; subst b; simp [List.filterMap_cons,c]
  | succ n=>simp at b; simp only [List.set_cons_succ,List.filterMap_cons,d b]
theorem Gz {n m:Nat}{r f:Fb}(sb:(blocks rs).Nodup) (d:zc rs n r) (hm:zc rs m f) (i:n≠m){b:Nat}(g:r.block=some b):f.block≠some b:=by
 unfold zc at d hm;unfold blocks at sb
 induction rs generalizing n m with
 | nil=>simp at d
 | cons a rs j =>
  have k:(List.filterMap Fb.block rs).Nodup:=by
   cases h:a.block with
   | none=>simpa [List.filterMap_cons,h] using sb
   | some c=>simp only [List.filterMap_cons,h,List.nodup_cons] at sb; exact sb.2
  cases n with
  | zero =>
   cases m with
   | zero=>exact absurd rfl i
   | succ m =>
    simp at d hm;subst d;intro e;simp only [List.filterMap_cons,g,List.nodup_cons] at sb;exact sb.1 (List.mem_filterMap.2 ⟨f,List.mem_of_getElem? hm,e⟩)
  | succ n =>
   cases m with
   | zero =>
    simp at d hm;subst hm;intro e;simp only [List.filterMap_cons,e,List.nodup_cons] at sb;exact sb.1 (List.mem_filterMap.2 ⟨r,List.mem_of_getElem? d,g⟩)
   | succ m=>simp at d hm; exact j k d hm (by omega)
theorem Sep.put (h:Sep S Qd w0 w rs A){n:Nat}{r r':Fb}{b:Nat}(d:zc rs n r) (g:r.block=some b) (p:r'.block=some b) (l:tc rs n r' rs')
  (q:r'.holds w') (a:di (fun k=>k≠b) w w'):Sep S Qd w0 w' rs' A:=by
 unfold tc at l;subst l;have o:=an (Pu d) g;have i:=Xz (r':=r') d (p.trans g.symm);refine ⟨?_,?_,?_,?_,?_⟩
 ·refine ⟨a.os.trans h.keeps.os,a.tape.trans h.keeps.tape,a.output.trans h.keeps.output,Nat.le_trans h.keeps.size a.size,fun k j f=>?_⟩;rw [a.ba k (Nat.lt_of_lt_of_le j h.keeps.size) (fun e=>by subst e;rcases h.new k o with h | h;exact absurd j (by omega);exact h f)];exact h.keeps.ba k j f
 ·intro s t;obtain ⟨m,hm⟩:=List.mem_iff_getElem?.1 t;by_cases e:n=m
  ·subst e;have u:n<rs.length:=(List.getElem?_eq_some_iff.1 d).1;rw [List.getElem?_set_self u] at hm;cases hm;exact q
  ·rw [List.getElem?_set_ne e] at hm;refine holds_of (h.all s (List.mem_of_getElem? hm)) fun c hc=>a.ba c (h.lt (an (List.mem_of_getElem? hm) hc)) fun v=>?_;subst v;exact Gz h.ki d hm e g hc
 ·rw [i];exact h.ki
 ·rw [i];exact h.new
 ·rw [i];exact h.Di.keeps (a.mono fun k f e=>f.2 (by subst e;exact o))
end
def lv:TypeDesc→Bool
 | .struct _ | .array _ _=>true
 | _=>false
class Mc (P:Program) (T:TypeId) (Ef:outParam Bool) (Hd:outParam (List Value)) (n m:outParam Nat):Prop where
 pz:∃ d,P.underlying T=some d∧lv d=Ef
 inf:∃ i z,P.info? T=some i∧i.zero=some z∧z.cells=⟨Hd⟩∧i.size=n∧i.bytes=m
theorem XH {P:Program}{T:TypeId}{d:TypeDesc}{Ef:Bool}{z:Value}{Hd:List Value}{n m:Nat}(hu:P.underlying T=some d) (a:lv d=Ef) (h:(P.info? T).map (fun i=>(i.zero,i.size,i.bytes))=some (some z,n,m)) (b:z.cells=⟨Hd⟩):Mc P T Ef Hd n m:=by
 refine ⟨⟨d,hu,a⟩,?_⟩;cases fb:P.info? T with
 | none=>rw [fb] at h; cases h
 | some i =>
  rw [fb] at h;simp only [Option.map_some,Option.some.injEq,Prod.mk.injEq] at h;exact ⟨i,z,rfl,h.1,b,h.2.1,h.2.2⟩
def Md:Value→Bool
 | .agg _ | .tuple _=>false
 | _=>true
section
variable {P:Program}{Q:Exit→Act→World→Prop}{K:List Value→List Deferred→World→Prop}{fr V:List Value}{ds:List Deferred}{w:World}
variable {dst:Option Tmp}{ty:TypeId}{pos:String}{after:Array Edge}{g:Option (Nat×Bool)}
variable {S Qd:Nat→Prop}{w0:World}{rs rs':List Fb}{A:World→Prop}
variable {T:TypeId}{d:TypeDesc}{Ef:Bool}{Hd:List Value}{n m:Nat}
theorem jE (h:P.underlying T=some d):(isAgg T).run P w=.ok (lv d) w:=by
 unfold isAgg;simp only [Sem.run_bind,run_underlying h,Result.andThen_ok];cases d<;>rfl
theorem Mc.isAgg (h:Mc P T Ef Hd n m):(Go.isAgg T).run P w=.ok Ef w:=by
 obtain ⟨d,sb,rfl⟩:=h.pz;exact jE sb
theorem Mc.sizeOf (h:Mc P T Ef Hd n m):(Go.sizeOf T).run P w=.ok n w:=by
 obtain ⟨i,z,fb,b,hc,a,hm⟩:=h.inf;simp [Go.sizeOf,typeInfo,fb,a]
theorem Mc.zero (h:Mc P T Ef Hd n m):∃ z,(zeroValue T).run P w=.ok z w∧z.cells=⟨Hd⟩:=by
 obtain ⟨i,z,fb,a,hc,b,hm⟩:=h.inf;exact ⟨z,by simp [zeroValue,typeInfo,fb,a],hc⟩
def Zi (w:World) (b o:Nat) (cs:List Value):Prop:=∀ j v,cs[j]?=some v→w.cell? ⟨b,o+j,none⟩=some v
theorem Zj (b o j:Nat):(⟨b,o,none⟩:Addr).add j=⟨b,o+j,none⟩:=by
 unfold Addr.add;split
 ·rename_i h;subst h;rfl
 ·rfl
theorem cj.cell {b:Nat}{cs:List Value}{j:Nat}{v:Value}(h:cj w b T cs) (a:zc cs j v):w.cell? ⟨b,j,none⟩=some v:=by
 unfold zc at a;unfold cj at h;simp [World.cell?,h,a]
theorem cj.cells {b:Nat}{cs:List Value}(h:cj w b T cs):Zi w b 0 cs:=fun j v a=>by
 rw [Nat.zero_add];exact h.cell a
theorem Zi.one {b o:Nat}{cs:List Value}{j:Nat}{v:Value}(h:Zi w b o cs) (a:zc cs j v):w.cell? ⟨b,o+j,none⟩=some v:=h j v a
theorem Ad (a:Mc P T Ef Hd n m) (c:Sep S Qd w0 w rs A)
  (h:∀ b w',w.heap.size≤b→Sep S Qd w0 w' (.ba b T Hd::rs) A→Qg fr dst (.pointer (some ⟨b,0,none⟩)) fun V=>K V ds w'):Nd P (Oper.mk dst (.alloc T) ty pos after g) fr ds w K Q:=by
 obtain ⟨z,d,hc⟩:=a.zero (w:=w);obtain ⟨V,sb⟩:=Jh fr dst (.pointer (some ⟨w.heap.size,0,none⟩));refine bh (v:=.pointer (some ⟨w.heap.size,0,none⟩)) (w':=w.alloc (.cells ⟨Hd⟩ T)) ?_ sb (h _ _ (Nat.le_refl _) (c.alloc rfl (heap_alloc_new w _)) V sb);simp [execOp,Instr.alloc,d,newVar,newRow,hc]
theorem ug {x:Operand}{v:Value}{cs:List Value}(a:pb fr x v) (hc:v.cells=⟨cs⟩) (c:Sep S Qd w0 w rs A)
  (h:∀ b w',w.heap.size≤b→Sep S Qd w0 w' (.ba b T cs::rs) A→Qg fr dst (.pointer (some ⟨b,0,none⟩)) fun V=>K V ds w'):Nd P (Oper.mk dst (.box T x) ty pos after g) fr ds w K Q:=by
 obtain ⟨V,sb⟩:=Jh fr dst (.pointer (some ⟨w.heap.size,0,none⟩));refine bh (v:=.pointer (some ⟨w.heap.size,0,none⟩)) (w':=w.alloc (.cells ⟨cs⟩ T)) ?_ sb (h _ _ (Nat.le_refl _) (c.alloc rfl (heap_alloc_new w _)) V sb);simp [execOp,Instr.box,a ds,newVar,newRow,hc]
structure Yj (P:Program) (o:Oper) (fr:List Value) (w:World) (v:Value):Prop where
 out:∀ ds,(execOp (F fr ds).eval o).run P w=.ok (.value v) w
theorem sq {o:Oper}{v:Value}(hu:Yj P o fr w v) (a:tf fr o.dst v V) (h:K V ds w):Nd P o fr ds w K Q:=bh (hu.out ds) a h
theorem Ca {x:Operand}{b o:Nat}{v:Value}(a:Mc P T false Hd n m) (c:pb fr x (.pointer (some ⟨b,o,none⟩))) (hc:w.cell? ⟨b,o,none⟩=some v):Yj P (Oper.mk dst (.load T x) ty pos after g) fr w v :=
 ⟨fun ds=>by simp [execOp,Instr.loadAt,c ds,Instr.sureAddr,loadVar,a.isAgg,hc]⟩
theorem Sc {x:Operand}{b o:Nat}{v:Value}(a:Mc P T false Hd n m) (c:pb fr x (.pointer (some ⟨b,o,none⟩))) (hc:w.cell? ⟨b,o,none⟩=some v)
  (d:tf fr dst v V) (h:K V ds w):Nd P (Oper.mk dst (.load T x) ty pos after g) fr ds w K Q:=sq (Ca a c hc) d h
theorem rf {x:Operand}{b o:Nat}{cs:List Value}(a:Mc P T true Hd n m) (d:pb fr x (.pointer (some ⟨b,o,none⟩))) (hc:Zi w b o cs) (e:cs.length=n):Yj P (Oper.mk dst (.load T x) ty pos after g) fr w (.agg ⟨cs⟩):=⟨fun ds=>by
 have c:=run_loadCells_list (P:=P) w ⟨b,o,none⟩ cs (fun j v f=>by rw [Zj];exact hc j v f);rw [e] at c;simp [execOp,Instr.loadAt,d ds,Instr.sureAddr,loadVar,a.isAgg,a.sizeOf,c]⟩
theorem yi {x:Operand}{b o:Nat}{cs:List Value}(a:Mc P T true Hd n m) (c:pb fr x (.pointer (some ⟨b,o,none⟩))) (hc:Zi w b o cs) (d:cs.length=n)
  (e:tf fr dst (.agg ⟨cs⟩) V) (h:K V ds w):Nd P (Oper.mk dst (.load T x) ty pos after g) fr ds w K Q:=sq (rf a c hc d) e h
inductive jf:List Value→Nat→List Value→List Value→Prop where
 | z {cs:List Value} {o:Nat}:jf cs o [] cs
 | s {cs cs1 a:List Value} {o:Nat} {v:Value} {vs:List Value} (h:tc cs o v cs1) (b:o<cs.length) (k:jf cs1 (o+1) vs a):jf cs o (v::vs) a
theorem jf.eq {cs:List Value}{o:Nat}{vs b:List Value}(h:jf cs o vs b):o+vs.length≤cs.length∨vs=[]:=by
 induction h with
 | z=>exact .inr rfl
 | @s cs cs1 b o v vs h c k a =>
  left;unfold tc at h;subst h;rcases a with a | rfl
  ·simp at a ⊢;omega
  ·simp;omega
theorem jf.res {cs:List Value}{o:Nat}{vs a:List Value}(h:jf cs o vs a) (e:o≤cs.length):a=cs.take o++vs++cs.drop (o+vs.length):=by
 induction h with
 | z=>simp
 | @s cs cs1 a o v vs h b k c =>
  unfold tc at h;subst h;rw [c (by simp;omega)];have qa:(cs.set o v).take (o+1)=cs.take o++[v]:=by
   rw [List.take_set,List.take_add_one,List.getElem?_eq_getElem b];rw [List.set_append_right _ _ (by simp;omega)];simp [Nat.min_eq_left (Nat.le_of_lt b)]
  rw [qa];have d:(cs.set o v).drop (o+1+vs.length)=cs.drop (o+(v::vs).length):=by
   rw [List.drop_set_of_lt (by omega)];congr 1;simp;omega
  rw [d];simp
theorem eu {v:Value}(h:Md v=true):v.oneCell'=true:=by cases v<;>first | rfl | simp [Md] at h
theorem xD {b:Nat}{cs:List Value}(c:cj w b T cs){o:Nat}{vs d:List Value}(a:jf cs o vs d) (e:o≤cs.length) (f:vs.all Md=true) :
  ∃ w',(storeCells ⟨b,o,none⟩ vs).run P w=.ok () w'∧cj w' b T d∧di (fun k=>k≠b) w w':=by
 have hle:o+0+vs.length≤(⟨cs⟩:Array Value).size:=by
  rcases a.eq with h | rfl
  ·simpa using h
  ·simpa using e
 refine ⟨_,run_storeCells_at P b o T vs 0 ⟨cs⟩ w c hle fun v g=>eu (List.all_eq_true.1 f v g),?_,?_⟩
 ·rw [a.res e];exact setRow_heap w b ⟨cs⟩ _ T (0,0) c
 ·exact ⟨rfl,rfl,rfl,by simp [World.setRow],fun k i a=>setRow_other w b k _ a⟩
theorem yo {x y:Operand}{b o k:Nat}{v:Value}{cs a vs:List Value}(i:Mc P T Ef Hd n m) (j:pb fr x (.pointer (some ⟨b,o,none⟩))) (l:pb fr y v) (c:v.cells=⟨vs⟩) (p:vs.length=n) (q:vs.all Md=true)
  (d:Sep S Qd w0 w rs A) {e:TypeId}(f:zc rs k (.ba b e cs)) (r:jf cs o vs a) (s:(decide (o≤cs.length))=true) (t:tc rs k (.ba b e a) rs')
  (sb:tf fr dst undef V) (h:∀ w',Sep S Qd w0 w' rs' A→K V ds w'):Nd P (Oper.mk dst (.store T x y) ty pos after g) fr ds w K Q:=by
 obtain ⟨w',u,z,B⟩:=xD (P:=P) (d.get f) r (of_decide_eq_true s) q;refine Qy (w':=w') ?_ sb (h w' (d.put f rfl rfl t z B));have qa:v.cells.toList=vs:=by rw [c]
 have C:¬ (v.cells.size≠n):=by rw [c];simpa using p
 have D:=i.sizeOf (w:=w);simp only [execOp,Instr.storeAt,j ds,l ds,Instr.sureAddr,storeVar,Sem.run_bind,D,Result.andThen_ok,if_neg C,qa,u,Sem.run_pure]
class kd (P:Program) (T:TypeId) (i:Nat) (off:outParam Nat):Prop where
 out:∀ b o w,(Instr.fieldAt T (.pointer (some ⟨b,o,none⟩)) i).run P w=.ok (.pointer (some ⟨b,o+off,none⟩)) w
theorem nd {c:Array Field}{i off:Nat}{f:Field}{d:TypeId}{e:List Value}{a g:Nat}{h:Bool}(j:P.underlying T=some (.struct c)) (k:c[i]?=some f) (l:f.offset=off) (m:f.type=d) (n:Mc P d h e a g) (p:(a == 0)=false):kd P T i off:=by
 constructor;intro b o w;have q:¬ a=0:=by simpa using p
 simp [Instr.fieldAt,run_underlying j,k,Instr.sureAddr,fieldPlace,m,n.sizeOf,q,Zj,l]
theorem Ah {x:Operand}{b o i off a:Nat}(c:kd P T i off) (d:pb fr x (.pointer (some ⟨b,o,none⟩))) (e:o+off=a):cf P (Oper.mk dst (.fieldAddr T x i) ty pos after g) fr ((.pointer (some ⟨b,a,none⟩))):=by
 subst e;exact ⟨fun ds w=>by simp [execOp,d ds,c.out]⟩
theorem Jm {x:Operand}{b o i off a:Nat}(c:kd P T i off) (d:pb fr x (.pointer (some ⟨b,o,none⟩))) (e:o+off=a) (f:tf fr dst ((.pointer (some ⟨b,a,none⟩))) V) (h:K V ds w):Nd P (Oper.mk dst (.fieldAddr T x i) ty pos after g) fr ds w K Q:=va (Ah c d e) f h
theorem BF {x:Operand}{i off:Nat}{cs:List Value}{v:Value}{a:Array Field}{f:Field}{b:TypeId}{d:List Value}{e h:Nat}(j:P.underlying T=some (.struct a)) (k:a[i]?=some f) (l:f.offset=off) (m:f.type=b) (n:Mc P b false d e h)
  (o:pb fr x (.agg ⟨cs⟩)) (c:zc cs off v):cf P (Oper.mk dst (.field T x i) ty pos after g) fr (v):=by
 subst l m;unfold zc at c;refine ⟨fun ds w=>?_⟩;simp [execOp,o ds,Instr.field,run_underlying j,k,asAgg,part,n.isAgg,c]
theorem dB {x:Operand}{i off:Nat}{cs:List Value}{v:Value}{a:Array Field}{f:Field}{b:TypeId}{c:List Value}{d e:Nat}(j:P.underlying T=some (.struct a)) (k:a[i]?=some f) (l:f.offset=off) (m:f.type=b) (n:Mc P b false c d e)
  (o:pb fr x (.agg ⟨cs⟩)) (p:zc cs off v) (q:tf fr dst (v) V) (h:K V ds w):Nd P (Oper.mk dst (.field T x i) ty pos after g) fr ds w K Q:=va (BF j k l m n o p) q h
theorem Ir {x y:Operand}{b o len cap:Nat}{k:IntKind}{i:Int}{e:TypeId}{a:Nat}(c:P.underlying T=some (.slice e)) (d:Mc P e Ef Hd n m) (f:pb fr x (.slice (some ⟨b,o,none⟩) len cap)) (h:pb fr y (.int k i)) (fb:0≤i∧i<len) (j:o+i.toNat*n=a):cf P (Oper.mk dst (.indexAddr T x y) ty pos after g) fr ((.pointer (some ⟨b,a,none⟩))):=by
 subst j;refine ⟨fun ds w=>?_⟩;simp [execOp,f ds,h ds,Instr.indexAt,asIntOf,run_underlying c,fb,d.sizeOf,Zj]
theorem qi {x:Operand}{a:Addr}(b:pb fr x (.pointer (some a))):cf P (Oper.mk dst (.nilCheck x) ty pos after g) fr ((.pointer (some a))):=⟨fun ds w=>by simp [execOp,b ds]⟩
theorem mn {x:Operand}{a:Addr}(b:pb fr x (.pointer (some a))) (c:tf fr dst ((.pointer (some a))) V) (h:K V ds w):Nd P (Oper.mk dst (.nilCheck x) ty pos after g) fr ds w K Q:=va (qi b) c h
end
end Go.vc
namespace Go.vc
open Go.RowKit
section
variable {P:Program}{Q:Exit→Act→World→Prop}{K:List Value→List Deferred→World→Prop}{fr V:List Value}{ds:List Deferred}{w:World}
variable {dst:Option Tmp}{ty:TypeId}{pos:String}{after:Array Edge}{g:Option (Nat×Bool)}
variable {S Qd:Nat→Prop}{w0:World}{rs rs':List Fb}{A:World→Prop}
variable {T:TypeId}{d:TypeDesc}{Ef:Bool}{Hd:List Value}{n m:Nat}
inductive ia:List Fb→Nat→List Fb→Prop where
 | z {r:Fb} {rs:List Fb}:ia (r::rs) 0 rs
 | s {r:Fb} {rs rs':List Fb} {k:Nat} (h:ia rs k rs'):ia (r::rs) (k+1) (r::rs')
theorem ia.mem {k:Nat}(h:ia rs k rs'):∀ r ∈ rs',r ∈ rs:=by
 induction h with
 | z=>intro r a; exact List.mem_cons_of_mem _ a
 | s _ b=>intro r a; rcases List.mem_cons.1 a with rfl | a; exact List.mem_cons_self; exact List.mem_cons_of_mem _ (b r a)
theorem ia.sub {k:Nat}(h:ia rs k rs'):rs'.Sublist rs:=by
 induction h with
 | z=>exact List.sublist_cons_self _ _
 | s _ a=>exact a.cons_cons _
theorem Sep.drop {k:Nat}(h:Sep S Qd w0 w rs A) (a:ia rs k rs'):Sep S Qd w0 w rs' A where
 keeps:=h.keeps
 all r d:=h.all r (a.mem r d)
 ki:=(a.sub.filterMap _).nodup h.ki
 new b e:=h.new b ((a.sub.filterMap _).subset e)
 Di:=h.Di.mono fun _ _ c=>⟨c.1,fun hm=>c.2 ((a.sub.filterMap _).subset hm)⟩
theorem Sep.freeze {k:Nat}{r:Fb}{B:World→Prop}(h:Sep S Qd w0 w rs A) (a:zc rs k r) (d:ia rs k rs') (f:∀ b,r.block=some b→Qd b∨w0.heap.size≤b) (g:∀ w,r.holds w→B w) :
  Sep S Qd w0 w rs' fun w=>A w∧B w where
 keeps:=(h.drop d).keeps
 all:=(h.drop d).all
 ki:=(h.drop d).ki
 new:=(h.drop d).new
 Di:=(h.drop d).Di.and fun w' l i=>g w' (holds_of (h.get a) fun b e=>i b (h.lt (an (Pu a) e)) ⟨f b e,by
  intro hm;have:blocks rs'=(blocks rs).erase b∨True:=.inr trivial;clear this;have sb:=h.ki;clear g f l i h;unfold blocks at hm sb;unfold zc at a
  induction d with
  | z=>simp at a; subst a; simp only [List.filterMap_cons,e,List.nodup_cons] at sb; exact sb.1 hm
  | @s r' rs rs' k d j =>
   simp at a;cases hc:r'.block with
   | none=>simp only [List.filterMap_cons,hc] at hm sb; exact j a hm sb
   | some c =>
    simp only [List.filterMap_cons,hc,List.nodup_cons,List.mem_cons] at hm sb;rcases hm with rfl | hm
    ·exact sb.1 (List.mem_filterMap.2 ⟨r,List.mem_of_getElem? a,e⟩)
    ·exact j a hm sb.2⟩)
inductive Gc (fr:List Value):Nat→List (Nat×Operand)→List Value→Prop where
 | z {i:Nat}:Gc fr i [] []
 | s {i:Nat} {x:Operand} {v:Value} {xs:List (Nat×Operand)} {vs:List Value} (h:pb fr x v) (hc:Md v=true) (t:Gc fr (i+1) xs vs):Gc fr i ((i,x)::xs) (v::vs)
theorem Gc.eval {i:Nat}{xs:List (Nat×Operand)}{vs:List Value}(h:Gc fr i xs vs):xs.map (fun p=>(p.1,(F fr ds).eval p.2))=(vs.zipIdx i).map fun p=>(p.2,p.1):=by
 induction h with
 | z=>rfl
 | s h _ _ a=>simp [h ds,a]
theorem Gc.cell {i:Nat}{xs:List (Nat×Operand)}{vs:List Value}(h:Gc fr i xs vs):∀ v ∈ vs,Md v=true:=by
 induction h with
 | z=>simp
 | s _ hc _ b=>intro v a; rcases List.mem_cons.1 a with rfl | a; exact hc; exact b v a
theorem Mw {v:Value}(h:Md v=true):v.cells=#[v]:=by cases v<;>first | rfl | simp [Md] at h
theorem nA (pl:Nat→Option (Nat×Nat)) (a:∀ i,pl i=some (i,1)):∀ (vs:List Value) (i:Nat) (cs:List Value),(∀ v ∈ vs,Md v=true)→i+vs.length≤cs.length →
  Instr.fill pl ⟨cs⟩ ((vs.zipIdx i).map fun p=>(p.2,p.1))=some ⟨cs.take i++vs++cs.drop (i+vs.length)⟩
 | [],i,cs,_,h=>by simp [Instr.fill]
 | v::vs,i,cs,b,h=>by
  have hc:=Mw (b v (by simp));have d:i<cs.length:=by simp at h;omega
  have e:=nA pl a vs (i+1) (cs.set i v) (fun u hu=>b u (by simp [hu])) (by simp at h ⊢;omega);simp only [List.zipIdx_cons,List.map_cons,Instr.fill,a,hc];have Qa:¬ ((#[v].size≠1 || i+#[v].size > (⟨cs⟩:Array Value).size)=true):=by simp;omega
  rw [if_neg Qa];have qa:(#[v].zipIdx.foldl (fun cs (c,j)=>cs.setIfInBounds (i+j) c) (⟨cs⟩:Array Value))=⟨cs.set i v⟩:=by
   simp [Array.zipIdx]
  rw [qa,e];have f:(cs.set i v).take (i+1)=cs.take i++[v]:=by
   rw [List.take_set,List.take_add_one,List.getElem?_eq_getElem d];rw [List.set_append_right _ _ (by simp;omega)];simp [Nat.min_eq_left (Nat.le_of_lt d)]
  have g:(cs.set i v).drop (i+1+vs.length)=cs.drop (i+(v::vs).length):=by
   rw [List.drop_set_of_lt (by omega)];congr 1;simp;omega
  rw [f,g];simp
theorem Mf {e:TypeId}{len:Nat}{xs:List (Nat×Operand)}{vs:List Value}(l:P.underlying T=some (.slice e)) (a:Mc P e Ef Hd 1 m) (c:Gc fr 0 xs vs) (d:vs.length=len) (n:(decide (len≤16777216))=true) (o:Sep S Qd w0 w rs A)
  (h:∀ b w',w.heap.size≤b→Sep S Qd w0 w' (.ba b e vs::rs) A→Qg fr dst (.slice (some ⟨b,0,none⟩) len len) fun V=>K V ds w'):Nd P (Oper.mk dst (.buildSlice T len ⟨xs⟩) ty pos after g) fr ds w K Q:=by
 obtain ⟨V,sb⟩:=Jh fr dst (.slice (some ⟨w.heap.size,0,none⟩) len len);refine bh (v:=.slice (some ⟨w.heap.size,0,none⟩) len len) (w':=w.alloc (.cells ⟨vs⟩ e)) ?_ sb (h _ _ (Nat.le_refl _) (o.alloc rfl (heap_alloc_new w _)) V sb);obtain ⟨z,q,hc⟩:=a.zero (w:=w);have r:=a.sizeOf (w:=w);have s:¬ (len*1 > 2 ^ 24):=by have:=of_decide_eq_true n;omega
 have t:=c.eval (ds:=ds);have f:∀ cs:Array Value,cs.size=len→Instr.fill (fun i=>some (i*1,1)) cs ((vs.zipIdx 0).map fun p=>(p.2,p.1))=some ⟨vs⟩:=by
  intro cs j;have:=nA (fun i=>some (i*1,1)) (fun i=>by rw [Nat.mul_one]) vs 0 cs.toList c.cell (by simp [d,j]);rw [this,List.drop_eq_nil_of_le (by simp [d,j])];simp
 have u:((⟨xs⟩:Array (Nat×Operand)).map fun (i,x)=>(i,(F fr ds).eval x)).toList=(vs.zipIdx 0).map fun p=>(p.2,p.1):=by
  simp only [Array.toList_map];exact t
 unfold execOp;simp only [Instr.buildSlice,Sem.run_bind,run_underlying l,Result.andThen_ok,r,if_neg s,u];by_cases k:len*1=0
 ·simp only [if_pos k,Sem.run_bind,Sem.run_pure,Result.andThen_ok];rw [f _ (by simp)];simp [newRow]
 ·simp only [if_neg k,Sem.run_bind,Sem.run_pure,Result.andThen_ok,q];rw [f _ (by simp)];simp [newRow]
theorem Sep.row {k:Nat}{v s:Value}{sz x:Nat}{xs y:List Value}{w':World}(f:Sep S Qd w0 w rs A) (g:zc rs k (.row v T sz n xs)) (D:tc rs k (.row s T sz x y) rs') (H:Row w' s T sz x y)
  (p:di (fun b=>some b≠v.ownBlock) w w') (q:s.ownBlock=v.ownBlock∨∃ b,s.ownBlock=some b∧w.heap.size≤b):Sep S Qd w0 w' rs' A:=by
 unfold tc at D;subst D;have z:∀ b,v.ownBlock=some b→b ∈ blocks rs:=fun b d=>an (Pu g) d;have B:∀ b ∈ blocks (rs.set k (.row s T sz x y)),(b ∈ blocks rs)∨(s.ownBlock=some b∧w.heap.size≤b):=by
  intro b d;obtain ⟨r,u,o⟩:=List.mem_filterMap.1 d;rcases List.mem_or_eq_of_mem_set u with hm | rfl
  ·exact .inl (an hm o)
  ·rcases q with q | ⟨c,hc,hle⟩
   ·exact .inl (z b (q ▸ o))
   ·have:c=b:=by simpa [Fb.block,hc] using o
    subst this;exact .inr ⟨hc,hle⟩
 have K:∀ b ∈ blocks rs,b ∈ blocks (rs.set k (.row s T sz x y))∨v.ownBlock=some b:=by
  intro b d;obtain ⟨r,u,o⟩:=List.mem_filterMap.1 d;obtain ⟨j,C⟩:=List.mem_iff_getElem?.1 u;by_cases e:k=j
  ·subst e;unfold zc at g;rw [g] at C;cases C;exact .inr o
  ·exact .inl (an (r:=r) (List.mem_of_getElem? (i:=j) (by rw [List.getElem?_set_ne e];exact C)) o)
 refine ⟨?_,?_,?_,?_,?_⟩
 ·refine ⟨p.os.trans f.keeps.os,p.tape.trans f.keeps.tape,p.output.trans f.keeps.output,Nat.le_trans f.keeps.size p.size,fun b d t=>?_⟩;rw [p.ba b (Nat.lt_of_lt_of_le d f.keeps.size) (fun e=>by rcases f.new b (z b e.symm) with h | h;exact absurd d (by omega);exact h t)];exact f.keeps.ba b d t
 ·intro M N;obtain ⟨j,hm⟩:=List.mem_iff_getElem?.1 N;by_cases e:k=j
  ·subst e;have m:k<rs.length:=(List.getElem?_eq_some_iff.1 g).1;rw [List.getElem?_set_self m] at hm;cases hm;exact H
  ·rw [List.getElem?_set_ne e] at hm;refine holds_of (f.all M (List.mem_of_getElem? hm)) fun c hc=>p.ba c (f.lt (an (List.mem_of_getElem? hm) hc)) fun P=>?_;exact Gz f.ki g hm e (b:=c) P.symm hc
 ·have sb:=f.ki;have m:=fun b (d:b ∈ blocks rs)=>f.lt d;clear B K z;unfold zc at g
  revert g sb m
  generalize rs=l;unfold blocks;intro g sb m
  induction l generalizing k with
  | nil=>simp at g
  | cons a l F =>
   cases k with
   | zero =>
    simp at g;subst g;simp only [List.set_cons_zero,List.filterMap_cons,Fb.block] at sb m ⊢;rcases q with q | ⟨c,hc,hle⟩
    ·rw [q];exact sb
    ·rw [hc];cases d:v.ownBlock with
     | none =>
      rw [d] at sb m;exact List.nodup_cons.2 ⟨fun hm=>by have:=m c hm;omega,sb⟩
     | some b =>
      rw [d] at sb m;exact List.nodup_cons.2 ⟨fun hm=>by have:=m c (List.mem_cons_of_mem _ hm);omega,(List.nodup_cons.1 sb).2⟩
   | succ k =>
    simp at g;simp only [List.set_cons_succ,List.filterMap_cons] at sb m ⊢;cases G:a.block with
    | none=>rw [G] at sb m; exact F g sb m
    | some c =>
     rw [G] at sb m;simp only [List.nodup_cons] at sb ⊢;refine ⟨fun hm=>?_,F g sb.2 fun b d=>m b (List.mem_cons_of_mem _ d)⟩;obtain ⟨r,u,o⟩:=List.mem_filterMap.1 hm;rcases List.mem_or_eq_of_mem_set u with hm | rfl
     ·exact sb.1 (List.mem_filterMap.2 ⟨r,hm,o⟩)
     ·rcases q with q | ⟨c',Q,hle⟩
      ·exact sb.1 (List.mem_filterMap.2 ⟨_,List.mem_of_getElem? g,by rw [← o];exact q.symm⟩)
      ·have:c'=c:=by simpa [Fb.block,Q] using o
       have:=m c (by simp);omega
 ·intro b d;rcases B b d with h | h
  ·exact f.new b h
  ·exact .inl (Nat.le_trans f.keeps.size h.2)
 ·intro R U W;refine f.Di R (Nat.le_trans p.size U) fun b d t=>?_;rw [W b (Nat.lt_of_lt_of_le d p.size) ⟨t.1,fun hm=>by rcases B b hm with h | h;exact t.2 h;exact absurd d (by omega)⟩];exact p.ba b d fun e=>t.2 (z b e.symm)
end
section
variable {P:Program}{Q:Exit→Act→World→Prop}{K:List Value→List Deferred→World→Prop}{fr V:List Value}{ds:List Deferred}{w:World}
variable {dst:Option Tmp}{ty:TypeId}{pos:String}{after:Array Edge}{g:Option (Nat×Bool)}
variable {S Qd:Nat→Prop}{w0:World}{rs rs':List Fb}{A:World→Prop}
variable {T:TypeId}{d:TypeDesc}{Ef:Bool}{Hd:List Value}{n m:Nat}
theorem EC {t ty:TypeId}{sz bytes:Nat}(q:P.underlying t=some (.slice T)) (M:Mc P T Ef Hd sz bytes) (N:Hd.length=sz) (rc:0<sz)
  {v:Value}{xs:List Value}(l:Row w v T sz n xs) {a:Addr}{m c:Nat}{news:List Value}(f:news.length=m*sz) (s:∀ j u,news[j]?=some u→w.cell? (a.add j)=some u) (Q:∀ u ∈ news,u.oneCell'=true)
  (C:n+m≤maxLen) (D:(n+m)*bytes≤140737488355328) :
  ∃ r w',(Builtin.append_ #[t,t] ty #[v,.slice (some a) m c]).run P w=.ok r w'∧Row w' r T sz (n+m) (xs++news)∧di (fun b=>some b≠v.ownBlock) w w' ∧
   (r.ownBlock=v.ownBlock∨∃ b,r.ownBlock=some b∧w.heap.size≤b):=by
 obtain ⟨i,z,fb,F,R,G,S⟩:=M.inf;have U:z.cells.size=i.size:=by rw [R,G];simpa using N
 subst G;subst S;have fd:n+m≤9223372036854775807:=by simp only [maxLen] at C;omega
 have hlen:(xs++news).length=(n+m)*i.size:=by rw [List.length_append,l.1,f,Nat.add_mul]
 have grown:∀ (d:Nat),d<n+m→∀ (row:Option Nat),
   Row (w.drew.alloc (.cells (xs.toArray++news.toArray++Builtin.zeroCells z.cells (grownCap w (n+m) d T - (n+m))) T)) (.slice (some ⟨w.heap.size,0,none⟩) (n+m) (grownCap w (n+m) d T)) T i.size (n+m) (xs++news) ∧
   di (fun b=>some b≠row) w (w.drew.alloc (.cells (xs.toArray++news.toArray++Builtin.zeroCells z.cells (grownCap w (n+m) d T - (n+m))) T)):=by
  intro d id row;have W:=grownCap_ge w (n+m) d T;have x:grownCap w (n+m) d T≤maxLen:=grownCap_le_maxLen w (n+m) d T C;refine ⟨⟨hlen,.inr ⟨w.heap.size,0,_,_,rfl,heap_alloc_new w.drew _,W,x,?_,?_⟩⟩,⟨rfl,rfl,rfl,by simp,fun k y _=>heap_alloc_old w.drew _ k y⟩⟩
  ·simp only [Array.size_append,List.size_toArray,size_zeroCells,U,l.1,f,← Nat.add_mul,Nat.zero_add];exact Nat.mul_le_mul_right _ (by omega)
  ·simp only [Array.toList_append,List.append_assoc,List.drop_zero];rw [← List.append_assoc,← hlen];exact List.take_left
 rcases l.2 with ⟨rfl,rfl⟩ | ⟨g,o,cap,cur,rfl,A,md,x,rd,H⟩
 ·have X:xs=[]:=List.eq_nil_of_length_eq_zero (by simpa using l.1);subst X;by_cases hm:m=0
  ·subst hm;have Y:news=[]:=List.eq_nil_of_length_eq_zero (by simpa using f);subst Y;refine ⟨.slice none 0 0,w,?_,⟨by simp,.inl ⟨rfl,rfl⟩⟩,.refl w,.inl rfl⟩;simp [Builtin.append_,run_underlying q,sizeOf,typeInfo,fb,Builtin.lenOf,Builtin.firstCells,loadCells,loadCellsFrom]
  ·have p:=run_append_nil (P:=P) w t ty T i z q fb F a m c news f s (by omega) (by omega) (by have Z:=D;simp only [Nat.zero_add] at Z;omega);have h:=grown 0 (by omega) (Value.ownBlock (.slice none 0 0));simp only [Nat.zero_add,List.nil_append,Array.empty_append] at h ⊢;exact ⟨_,_,p,h.1,h.2,.inr ⟨_,rfl,Nat.le_refl _⟩⟩
 ·by_cases B:n+m≤cap
  ·have hmul:n*i.size+news.length≤cap*i.size:=by rw [f,← Nat.add_mul];exact Nat.mul_le_mul_right _ B
   have gc:o+n*i.size+news.length≤cur.size:=by omega
   have p:(Builtin.append_ #[t,t] ty #[.slice (some ⟨g,o,none⟩) n cap,.slice (some a) m c]).run P w =
     .ok (.slice (some ⟨g,o,none⟩) (n+m) cap) (w.setRow g (cur.toList.take (o+n*i.size)++news++cur.toList.drop (o+n*i.size+news.length)).toArray):=by
    have hc:=run_firstCells_some (P:=P) w i.size m a m c news f s;have K:=run_storeCells_at P g (o+n*i.size) T news 0 cur w A (by simpa using gc) Q;simp only [Nat.add_zero] at K;simp [Builtin.append_,run_underlying q,sizeOf,typeInfo,fb,Builtin.lenOf,B,hc,Zj,K]
   refine ⟨_,_,p,⟨hlen,.inr ⟨g,o,cap,_,rfl,setRow_heap w g cur _ T _ A,B,x,?_,?_⟩⟩,⟨rfl,rfl,rfl,by simp [World.setRow],fun k _ y=>setRow_other w g k _ (fun e=>y (by simp [Value.ownBlock,e]))⟩,.inl rfl⟩
   ·simp only [List.size_toArray,List.length_append,List.length_take,List.length_drop,Array.length_toList];omega
   ·rw [← hlen,← H];have qa:(cur.toList.take (o+n*i.size)).drop o=(cur.toList.drop o).take (n*i.size):=by
     rw [List.drop_take];congr 1;omega
    have lc:o≤(cur.toList.take (o+n*i.size)).length:=by simp;omega
    rw [List.append_assoc,List.drop_append_of_le_length lc,qa,← List.append_assoc];exact List.take_left
  ·have holds:∀ j u,xs[j]?=some u→w.cell? ((⟨g,o,none⟩:Addr).add j)=some u:=by
    intro j u hu;rw [Zj,cell_of_row w g (o+j) cur T (0,0) A];rw [← H,List.getElem?_take] at hu;split at hu
    ·rw [List.getElem?_drop] at hu;simpa using hu
    ·cases hu
   have p:=run_append_grow (P:=P) w t ty T i z q fb F ⟨g,o,none⟩ n cap xs l.1 holds a m c news f s (by omega) (by omega) (growslice_fits (by omega) D);have h:=grown cap (by omega) (Value.ownBlock (.slice (some ⟨g,o,none⟩) n cap));exact ⟨_,_,p,h.1,h.2,.inr ⟨_,rfl,Nat.le_refl _⟩⟩
theorem Sep.Oh (h:Sep S Qd w0 w rs A) (T:TypeId) (sz:Nat):Sep S Qd w0 w (.row (.slice none 0 0) T sz 0 []::rs) A where
 keeps:=h.keeps
 all r a:=by
  rcases List.mem_cons.1 a with rfl | a
  ·exact ⟨by simp,.inl ⟨rfl,rfl⟩⟩
  ·exact h.all r a
 ki:=h.ki
 new:=h.new
 Di:=h.Di
theorem Xq {t:TypeId}{s x:Operand}{v:Value}{sz bytes k b o e c:Nat}{xs news:List Value}(p:P.underlying t=some (.slice T)) (q:Mc P T Ef Hd sz bytes) (f:(Hd.length == sz && decide (0<sz))=true)
  (r:pb fr s v) (y:pb fr x (.slice (some ⟨b,o,none⟩) e c)) (i:Sep S Qd w0 w rs A) (l:zc rs k (.row v T sz n xs)) (z:Zi w b o news) (hlen:news.length=e*sz) (B:news.all Md=true)
  (m:n+e≤4294967296∧bytes≤4096)
  (h:∀ d w' rs',tc rs k (.row d T sz (n+e) (xs++news)) rs'→Sep S Qd w0 w' rs' A→Qg fr dst d fun V=>K V ds w') :
  Nd P (Oper.mk dst (.call { callee:=.builtin .append,args:=#[s,x],argTypes:=#[t,t] }) ty pos after g) fr ds w K Q:=by
 simp only [Bool.and_eq_true,beq_iff_eq,decide_eq_true_eq] at f;have C:(n+e)*bytes≤140737488355328:=Nat.le_trans (Nat.mul_le_mul m.1 m.2) (by decide);obtain ⟨d,w',D,F,G,H⟩:=EC (P:=P) (ty:=ty) p q f.1 f.2 (i.get l) (a:=⟨b,o,none⟩) (c:=c) hlen (fun j u hu=>by rw [Zj];exact z j u hu) (fun u hu=>eu (List.all_eq_true.1 B u hu)) (by unfold maxLen;omega) C;obtain ⟨V,sb⟩:=Jh fr dst d;refine bh (v:=d) (w':=w') ?_ sb (h d w' _ rfl (i.row l rfl F G H) V sb);have qa:=r ds;have M:=y ds;simp [execOp,resolve,invoke,builtin,qa,M,D]
inductive tq (P:Program) (fr:List Value) (w:World):ResultVar→Value→Prop where
 | t {n:Nat} {v:Value} (h:zc fr n v):tq P fr w (.tmp n) v
 | c {n b o:Nat} {v:Value} {T:TypeId} {Hd:List Value} {k m:Nat} (h:zc fr n (.pointer (some ⟨b,o,none⟩))) (d:Mc P T false Hd k m) (hc:w.cell? ⟨b,o,none⟩=some v):tq P fr w (.cell n T) v
 | a {n b o:Nat} {cs:List Value} {T:TypeId} {Hd:List Value} {k m:Nat} (h:zc fr n (.pointer (some ⟨b,o,none⟩))) (d:Mc P T true Hd k m) (hc:Zi w b o cs) (e:cs.length=k):tq P fr w (.cell n T) (.agg ⟨cs⟩)
inductive Xb (P:Program) (fr:List Value) (w:World):List ResultVar→List Value→Prop where
 | z:Xb P fr w [] []
 | s {r:ResultVar} {v:Value} {rs:List ResultVar} {vs:List Value} (h:tq P fr w r v) (t:Xb P fr w rs vs):Xb P fr w (r::rs) (v::vs)
def Zp (tmps:Array Value):ResultVar→Sem Value
 | .tmp t=>pure (tmps.getD t undef)
 | .cell a t=>do loadVar t (← asAddr (tmps.getD a undef))
theorem yD (fn:Func) (tmps:Array Value):results fn tmps=(do
  let vs ← fn.results.mapM (Zp tmps)
  pure (if h:vs.size=1 then vs[0] else .tuple vs)):=by
 unfold results;congr 1
theorem tq.run {r:ResultVar}{v:Value}(h:tq P fr w r v):(Zp (F fr ds).tmps r).run P w=.ok v w:=by
 cases h with
 | t h=>unfold zc at h; simp [Zp,F,h]
 | c h d hc=>unfold zc at h; simp [Zp,F,h,asAddr,loadVar,d.isAgg,hc]
 | a h d hc f =>
  unfold zc at h;rename_i n b o cs T Hd k m;have e:=run_loadCells_list (P:=P) w ⟨b,o,none⟩ cs (fun j v g=>by rw [Zj];exact hc j v g);rw [f] at e;simp [Zp,F,h,asAddr,loadVar,d.isAgg,d.sizeOf,e]
theorem Xb.run {rs:List ResultVar}{vs:List Value}(h:Xb P fr w rs vs):(rs.mapM (Zp (F fr ds).tmps)).run P w=.ok vs w:=by
 induction h with
 | z=>simp
 | @s r v rs vs h _ a =>
  have b:=h.run (ds:=ds);simp only [List.mapM_cons,Sem.run_bind];rw [b];simp only [Result.andThen_ok];rw [a];simp
def nq:List Value→Value
 | [v]=>v
 | vs=>.tuple ⟨vs⟩
theorem Hz {fn:Func}{a:List ResultVar}{vs:List Value}(b:fn.results=⟨a⟩) (h:Xb P fr w a vs):(results fn (F fr ds).tmps).run P w=.ok (nq vs) w:=by
 have hm:=h.run (ds:=ds);rw [yD,b];rw [Array.mapM_eq_mapM_toList];simp only [Sem.run_bind,Sem.run_map,hm,Result.andThen_ok]
 match vs with
 | []=>simp [nq]
 | [v]=>simp [nq]
 | v::c::vs=>simp [nq]
theorem Jf {fn:Func}{R:Value→World→Prop}{a:List ResultVar}{vs:List Value}(b:fn.results=⟨a⟩) (c:Xb P fr w a vs) (h:R (nq vs) w):Nn P fn R .ret (F fr []) w :=
 bodyPost_ret (Hz b c) rfl h
end
end Go.vc
namespace Go.vc
open Go.RowKit
section
variable {P:Program}{Q:Exit→Act→World→Prop}{K:List Value→List Deferred→World→Prop}{fr V:List Value}{ds:List Deferred}{w:World}
variable {dst:Option Tmp}{ty:TypeId}{pos:String}{after:Array Edge}{g:Option (Nat×Bool)}
variable {S Qd:Nat→Prop}{w0:World}{rs rs':List Fb}{A:World→Prop}
variable {T:TypeId}{d:TypeDesc}{Ef:Bool}{Hd:List Value}{n m:Nat}
theorem Sep.ba {k b:Nat}{cs:List Value}(h:Sep S Qd w0 w rs A) (a:zc rs k (.ba b T cs)):cj w b T cs:=h.get a
inductive tg:List Value→Nat→List Value→Prop where
 | z {cs:List Value} {o:Nat}:tg cs o []
 | s {cs:List Value} {o:Nat} {v:Value} {vs:List Value} (h:zc cs o v) (t:tg cs (o+1) vs):tg cs o (v::vs)
theorem tg.at {cs:List Value}{o:Nat}{vs:List Value}(h:tg cs o vs):∀ j v,vs[j]?=some v→cs[o+j]?=some v:=by
 induction h with
 | z=>intro j v h; simp at h
 | @s o v vs h t b =>
  intro j u a;cases j with
  | zero=>simp at a; subst a; exact h
  | succ j=>have:=b j u (by simpa using a); rw [show o+(j+1)=o+1+j by omega]; exact this
theorem cj.ym {b o:Nat}{cs vs:List Value}(h:cj w b T cs) (a:tg cs o vs):Zi w b o vs:=fun j v c=>h.cell (a.at j v c)
theorem Oe {x y:Operand}{b o k:Nat}{v:Value}{cs a:List Value}(f:Mc P T Ef Hd 1 m) (i:pb fr x (.pointer (some ⟨b,o,none⟩))) (j:pb fr y v) (c:Md v=true)
  (l:Sep S Qd w0 w rs A) {d:TypeId}(n:zc rs k (.ba b d cs)) (p:tc cs o v a) (e:(decide (o<cs.length))=true) (q:tc rs k (.ba b d a) rs')
  (sb:tf fr dst undef V) (h:∀ w',Sep S Qd w0 w' rs' A→K V ds w'):Nd P (Oper.mk dst (.store T x y) ty pos after g) fr ds w K Q :=
 yo (vs:=[v]) f i j (Mw c) rfl (by simp [c]) l n (.s p (of_decide_eq_true e) .z) (decide_eq_true (Nat.le_of_lt (of_decide_eq_true e))) q sb h
structure fh (P:Program) (T:TypeId) (pl:Array (Nat×Nat)):Prop where
 out:∃ a,P.underlying T=some (.struct a)∧∀ w,((a.mapM fun f=>do pure (f.offset,← Go.sizeOf f.type):Sem (Array (Nat×Nat))).run P w)=.ok pl w
theorem uh {a:Array Field}{pl:Array (Nat×Nat)}(hu:P.underlying T=some (.struct a)) (h:∀ w,((a.mapM fun f=>do pure (f.offset,← Go.sizeOf f.type):Sem (Array (Nat×Nat))).run P w)=.ok pl w):fh P T pl:=⟨a,hu,h⟩
inductive Ma (fr:List Value) (pl:Array (Nat×Nat)):List Value→List (Nat×Operand)→List Value→Prop where
 | z {cs:List Value}:Ma fr pl cs [] cs
 | o {cs cs1 out:List Value} {i off:Nat} {x:Operand} {v:Value} {xs:List (Nat×Operand)} (fb:pl[i]?=some (off,1)) (a:pb fr x v) (d:Md v=true) (b:decide (off<cs.length)=true) (c:tc cs off v cs1) (t:Ma fr pl cs1 xs out):Ma fr pl cs ((i,x)::xs) out
 | n {cs cs1 out vs:List Value} {i off n:Nat} {x:Operand} {xs:List (Nat×Operand)} (fb:pl[i]?=some (off,n)) (a:pb fr x (.agg ⟨vs⟩)) (e:vs.length=n) (b:decide (off+n≤cs.length)=true) (c:jf cs off vs cs1) (t:Ma fr pl cs1 xs out):Ma fr pl cs ((i,x)::xs) out
theorem ks:∀ (vs:List Value) (off j:Nat) (cs:List Value),off+j+vs.length≤cs.length →
  ((vs.zipIdx j).foldl (fun (cs:Array Value) (p:Value×Nat)=>cs.setIfInBounds (off+p.2) p.1) ⟨cs⟩)=⟨cs.take (off+j)++vs++cs.drop (off+j+vs.length)⟩
 | [],off,j,cs,_=>by simp
 | v::vs,off,j,cs,h=>by
  have a:off+j<cs.length:=by simp at h;omega
  rw [List.zipIdx_cons,List.foldl_cons];have Qa:(⟨cs⟩:Array Value).setIfInBounds (off+j) v=⟨cs.set (off+j) v⟩:=by simp
  simp only [Qa];rw [ks vs off (j+1) (cs.set (off+j) v) (by simp at h ⊢;omega)];have b:(cs.set (off+j) v).take (off+(j+1))=cs.take (off+j)++[v]:=by
   rw [show off+(j+1)=off+j+1 by omega,List.take_set,List.take_add_one,List.getElem?_eq_getElem a];rw [List.set_append_right _ _ (by simp;omega)];simp [Nat.min_eq_left (Nat.le_of_lt a)]
  have c:(cs.set (off+j) v).drop (off+(j+1)+vs.length)=cs.drop (off+j+(v::vs).length):=by
   rw [List.drop_set_of_lt (by omega)];congr 1;simp;omega
  rw [b,c];simp
theorem Ma.run {pl:Array (Nat×Nat)}{cs out:List Value}{xs:List (Nat×Operand)}(h:Ma fr pl cs xs out):Instr.fill (pl[·]?) ⟨cs⟩ (xs.map fun p=>(p.1,(F fr ds).eval p.2))=some ⟨out⟩:=by
 induction h with
 | z=>rfl
 | @o cs cs1 out i off x v xs fb b f d a t e =>
  have g:=of_decide_eq_true d;simp only [List.map_cons,Instr.fill,fb,b ds,Mw f];have Qa:¬ ((#[v].size≠1 || off+#[v].size > (⟨cs⟩:Array Value).size)=true):=by simp;omega
  rw [if_neg Qa];have qa:(#[v].zipIdx.foldl (fun cs (c,j)=>cs.setIfInBounds (off+j) c) (⟨cs⟩:Array Value))=⟨cs1⟩:=by
   unfold tc at a;subst a;simp [Array.zipIdx]
  rw [qa];exact e
 | @n cs cs1 out vs i off n x xs fb b k d a t e =>
  have g:=of_decide_eq_true d;simp only [List.map_cons,Instr.fill,fb,b ds];have Qa:¬ (((Value.agg ⟨vs⟩).cells.size≠n || off+(Value.agg ⟨vs⟩).cells.size > (⟨cs⟩:Array Value).size)=true):=by simp [Value.cells,k];omega
  rw [if_neg Qa];have qa:((Value.agg ⟨vs⟩).cells.zipIdx.foldl (fun cs (c,j)=>cs.setIfInBounds (off+j) c) (⟨cs⟩:Array Value))=⟨cs1⟩:=by
   have:=ks vs off 0 cs (by omega);rw [a.res (by omega)];simp only [Nat.add_zero] at this;rw [← this];rw [← Array.foldl_toList];simp [Value.cells]
  rw [qa];exact e
theorem Ld {pl:Array (Nat×Nat)}{xs:List (Nat×Operand)}{out:List Value}(a:Mc P T Ef Hd n m) (b:fh P T pl) (c:Ma fr pl Hd xs out) (d:tf fr dst (.agg ⟨out⟩) V) (h:K V ds w) :
  Nd P (Oper.mk dst (.build T ⟨xs⟩) ty pos after g) fr ds w K Q:=by
 refine bh (v:=.agg ⟨out⟩) (w':=w) ?_ d h;obtain ⟨z,e,hc⟩:=a.zero (w:=w);have f:=c.run (ds:=ds);obtain ⟨o,j,k⟩:=b.out;have hm:=k w;have l:((⟨xs⟩:Array (Nat×Operand)).map fun (i,x)=>(i,(F fr ds).eval x)).toList=xs.map fun p=>(p.1,(F fr ds).eval p.2):=by simp
 unfold execOp;simp only [Instr.build,Sem.run_bind,e,Result.andThen_ok,run_underlying j];rw [hm];simp only [Result.andThen_ok,hc,l];rw [f];simp
theorem lj {e:TypeId}{x:Operand}{cs:List Value}(k:P.underlying T=some (.slice e)) (j:Mc P e Ef Hd n m) (c:(Hd.length == n && decide (0<n) && decide (n≤1000))=true) (l:pb fr x (.agg ⟨cs⟩)) (d:cs.length=n) (o:Sep S Qd w0 w rs A)
  (h:∀ b w',w.heap.size≤b→Sep S Qd w0 w' (.ba b e cs::rs) A→Qg fr dst (.slice (some ⟨b,0,none⟩) 1 1) fun V=>K V ds w'):Nd P (Oper.mk dst (.buildSlice T 1 #[(0,x)]) ty pos after g) fr ds w K Q:=by
 obtain ⟨V,sb⟩:=Jh fr dst (.slice (some ⟨w.heap.size,0,none⟩) 1 1);refine bh (v:=.slice (some ⟨w.heap.size,0,none⟩) 1 1) (w':=w.alloc (.cells ⟨cs⟩ e)) ?_ sb (h _ _ (Nat.le_refl _) (o.alloc rfl (heap_alloc_new w _)) V sb);obtain ⟨z,p,hc⟩:=j.zero (w:=w);have q:=j.sizeOf (w:=w);simp only [Bool.and_eq_true,beq_iff_eq,decide_eq_true_eq] at c;have r:¬ (1*n > 2 ^ 24):=by have:=c.2;omega
 have s:¬ (1*n=0):=by have:=c.1.2;omega
 have t:∀ a:Array Value,a.size=n→Instr.fill (fun i=>some (i*n,n)) a [(0,Value.agg ⟨cs⟩)]=some ⟨cs⟩:=by
  intro a f;simp only [Instr.fill];have Qa:¬ (((Value.agg ⟨cs⟩).cells.size≠n || 0*n+(Value.agg ⟨cs⟩).cells.size > a.size)=true):=by simp [Value.cells,d,f]
  rw [if_neg Qa];congr 1;have u:=ks cs (0*n) 0 a.toList (by simp [d,f]);rw [← Array.foldl_toList];have qa:(Value.agg ⟨cs⟩).cells.zipIdx.toList=cs.zipIdx 0:=by simp [Value.cells]
  rw [qa];refine u.trans ?_;rw [List.drop_eq_nil_of_le (by simp [d,f])];simp
 have y:(#[(0,x)].map fun (i,x)=>(i,(F fr ds).eval x)).toList=[(0,Value.agg ⟨cs⟩)]:=by simp [l ds]
 unfold execOp;simp only [Instr.buildSlice,Sem.run_bind,run_underlying k,Result.andThen_ok,q,if_neg r,y,if_neg s,Sem.run_pure,p];rw [t _ (by simp)];simp [newRow]
end
theorem Sep.Pe {S Qd:Nat→Prop}{w0 w:World}{rs rs':List Fb}{A:World→Prop}{k:Nat}{r:Fb}(h:Sep S Qd w0 w (rs.set k r) A) (a:tc rs k r rs'):Sep S Qd w0 w rs' A:=by
 unfold tc at a;rw [← a];exact h
theorem Sep.drew {S Qd:Nat→Prop}{w0 w w':World}{rs:List Fb}{A:World→Prop}(h:Sep S Qd w0 w rs A) (a:w'.heap=w.heap) (b:w'.os=w.os) (c:w'.tape=w.tape) (hu:w'.output=w.output):Sep S Qd w0 w' rs A :=
 h.grow ⟨b,c,hu,by rw [a];exact Nat.le_refl _,fun k _ _=>by rw [a]⟩
section
variable {P:Program}{Q:Exit→Act→World→Prop}{K:List Value→List Deferred→World→Prop}{fr V:List Value}{ds:List Deferred}{w:World}
variable {dst:Option Tmp}{ty:TypeId}{pos:String}{after:Array Edge}{g:Option (Nat×Bool)}
variable {T:TypeId}
theorem dx (a b:ByteArray):(a == b)=true ↔ a=b:=by
 obtain ⟨x⟩:=a;obtain ⟨y⟩:=b;constructor
 ·intro h;have e:x=y:=by simpa using (show (x == y)=true from h)
  rw [e]
 ·intro h;cases h;show (x == x)=true;simp
structure Vn (P:Program) (m:Nat) (T:TypeId) (v a:Value) (b:Bool):Prop where
 out:∀ d w,m≤d→(Op.equalIn d T v a).run P w=.ok b w
theorem eq_int {k c:IntKind}{a b:Int}(hu:P.underlying T=some (.int k)):Vn P 1 T (.int c a) (.int c b) (decide (a=b)):=⟨fun d w sb=>by
 cases d with
 | zero=>omega
 | succ d=>simp [Op.equalIn,run_underlying hu]; by_cases h:a=b <;> simp [h]⟩
theorem DG {a b:List UInt8}(hu:P.underlying T=some .string):Vn P 1 T (S a) (S b) (decide (a=b)):=⟨fun d w sb=>by
 cases d with
 | zero=>omega
 | succ d =>
  simp only [Op.equalIn,run_underlying hu,S,Sem.run_bind,Result.andThen_ok,Sem.run_pure];congr 1;rw [Bool.eq_iff_iff,dx];simp⟩
def Tl:List Bool→Bool
 | []=>true
 | [b]=>b
 | b::a=>b && Tl a
theorem Mt (b:Bool) (a:List Bool):Tl (b::a)=(b && Tl a):=by cases a<;>simp [Tl]
inductive Pk (P:Program) (m:Nat) (xs ys:List Value):List Field→List Bool→Prop where
 | z:Pk P m xs ys [] []
 | o {f : Field} {bg : List Field} {v d : Value} {b : Bool} {a : List Bool} {T : TypeId} {off : Nat} {Hd : List Value} {n k : Nat} (e : (f.name == "_") = false) (g : f.type = T) (h : f.offset = off) (i : Mc P T false Hd n k) (j : zc xs off v) (l : zc ys off d) (he : Vn P m T v d b) (t : Pk P m xs ys bg a) : Pk P m xs ys (f :: bg) (b :: a)
 | n {f : Field} {bg : List Field} {vs c : List Value} {b : Bool} {a : List Bool} {T : TypeId} {off : Nat} {Hd : List Value} {n k : Nat} (e : (f.name == "_") = false) (g : f.type = T) (h : f.offset = off) (i : Mc P T true Hd n k) (j : tg xs off vs) (l : tg ys off c) (p : vs.length = n) (q : c.length = n) (he : Vn P m T (.agg ⟨vs⟩) (.agg ⟨c⟩) b) (t : Pk P m xs ys bg a) : Pk P m xs ys (f :: bg) (b :: a)
structure Bv (P:Program) (T:TypeId) (bg:List Field):Prop where
 pz:P.underlying T=some (.struct ⟨bg⟩)
 held:P.stoodInHeld T=false
 guard:P.eqGuardType P.depth T=false
theorem oA {Hd:List Value}{n k off:Nat}{xs:List Value}{v:Value}(b:Mc P T false Hd n k) (a:zc xs off v):(part T ⟨xs⟩ off).run P w=.ok v w:=by
 unfold zc at a;simp [part,b.isAgg,a]
theorem tg.extract {cs vs:List Value}{o:Nat}(h:tg cs o vs):(cs.drop o).take vs.length=vs:=by
 induction h with
 | z=>simp
 | @s o v vs a t b =>
  unfold zc at a;have c:o<cs.length:=(List.getElem?_eq_some_iff.1 a).1;rw [List.drop_eq_getElem_cons c,(List.getElem?_eq_some_iff.1 a).2];simp [b]
theorem pA {Hd:List Value}{n k off:Nat}{xs vs:List Value}(a:Mc P T true Hd n k) (b:tg xs off vs) (c:vs.length=n):(part T ⟨xs⟩ off).run P w=.ok (.agg ⟨vs⟩) w:=by
 have:=b.extract;rw [c] at this;simp [part,a.isAgg,a.sizeOf,this]
theorem Pk.run {m:Nat}{xs ys:List Value}{bg:List Field}{e:List Bool}(h:Pk P m xs ys bg e) (d:Nat) (sb:m≤d) :
  (forIn (⟨bg⟩ : Array Field) ((none, ()) : Option Bool × Unit) (fun f _ => (if f.name ≠ "_" then do
     if !(← Op.equalIn d f.type (← part f.type ⟨xs⟩ f.offset) (← part f.type ⟨ys⟩ f.offset)) then pure (ForInStep.done (some false,())) else pure (ForInStep.yield (none,()))
    else pure (ForInStep.yield (none,())):Sem (ForInStep (Option Bool×Unit))))).run P w=.ok (if Tl e then (none,()) else (some false,())) w:=by
 induction h with
 | z=>simp [Tl]
 | @o f bg v u b e T off Hd n k g i j a l p he t c =>
  subst i; subst j;have q : f.name ≠ "_" := by simpa using g
  simp only [List.forIn_toArray] at c ⊢;rw [List.forIn_cons];simp only [ne_eq,q,not_false_eq_true,if_true,Sem.run_bind,oA a l,oA a p,Result.andThen_ok,he.out d w sb];cases b with
  | true=>simpa [Mt] using c
  | false=>simp [Mt]
 | @n f bg vs x b e T off Hd n k g i j a l p r s he t c =>
  subst i; subst j;have q : f.name ≠ "_" := by simpa using g
  simp only [List.forIn_toArray] at c ⊢;rw [List.forIn_cons];simp only [ne_eq,q,not_false_eq_true,if_true,Sem.run_bind,pA a l r,pA a p s,Result.andThen_ok,he.out d w sb];cases b with
  | true=>simpa [Mt] using c
  | false=>simp [Mt]
theorem EG {m:Nat}{xs ys:List Value}{bg:List Field}{a:List Bool}(b:Bv P T bg) (h:Pk P m xs ys bg a):Vn P (m+1) T (.agg ⟨xs⟩) (.agg ⟨ys⟩) (Tl a):=⟨fun d w sb=>by
 cases d with
 | zero=>omega
 | succ d =>
  have:=h.run (w:=w) d (by omega);simp only [Op.equalIn,Sem.run_bind,run_underlying b.pz,Result.andThen_ok];rw [show (program).run P w=.ok P w from rfl];simp only [Result.andThen_ok,b.held,Bool.false_eq_true,if_false,Sem.run_bind];rw [this];cases Tl a<;>rfl⟩
def Ry (v:Value) (n:Nat):Prop:=∃ a c,v=.slice a n c
theorem Ng {x:Operand}{t e:TypeId}{v:Value}{n:Nat}(b:P.underlying t=some (.slice e)) (d:pb fr x v) (f:Ry v n):cf P (Oper.mk dst (.call { callee:=.builtin .len,args:=#[x],argTypes:=#[t] }) ty pos after g) fr ((.int .i64 n)):=by
 obtain ⟨a,c,rfl⟩:=f;exact jd b d
theorem Yx {x:Operand}{t e:TypeId}{v:Value}{n:Nat}(a:P.underlying t=some (.slice e)) (b:pb fr x v) (c:Ry v n) (d:tf fr dst ((.int .i64 n)) V) (h:K V ds w):Nd P (Oper.mk dst (.call { callee:=.builtin .len,args:=#[x],argTypes:=#[t] }) ty pos after g) fr ds w K Q:=va (Ng a b c) d h
theorem Row.Hg {v:Value}{sz n:Nat}{xs:List Value}(h:Row w v T sz n xs):Ry v n:=by
 rcases h.2 with ⟨rfl,rfl⟩ | ⟨g,o,cap,cur,rfl,-⟩
 ·exact ⟨_,_,rfl⟩
 ·exact ⟨_,_,rfl⟩
theorem Row.Ho {v:Value}{sz n:Nat}{xs:List Value}(h:Row w v T sz n xs) (f:0<n):∃ b o c,v=.slice (some ⟨b,o,none⟩) n c∧Zi w b o xs:=by
 rcases h.2 with ⟨rfl,rfl⟩ | ⟨g,o,cap,cur,rfl,d,i,k,l,e⟩
 ·omega
 ·refine ⟨g,o,cap,rfl,fun j u a=>?_⟩;rw [cell_of_row w g (o+j) cur T (0,0) d];rw [← e,List.getElem?_take] at a;split at a
  ·rw [List.getElem?_drop] at a;simpa using a
  ·cases a
end
section
variable {P:Program}{Q:Exit→Act→World→Prop}{K:List Value→List Deferred→World→Prop}{fr V:List Value}{ds:List Deferred}{w:World}
variable {dst:Option Tmp}{ty:TypeId}{pos:String}{after:Array Edge}{g:Option (Nat×Bool)}
variable {T:TypeId}
theorem kE {bg:List Field}{op:BinOp}{x y:Operand}{xs ys:Array Value}(a:Bv P T bg):(eqGuard op T x y (.agg xs) (.agg ys)).run P w=.ok () w:=by
 have b:(program).run P w=.ok P w:=rfl;cases op<;>simp [eqGuard,b,a.guard]
theorem YH {x y:Operand}{t':TypeId}{m:Nat}{xs ys:List Value}{bg:List Field}{a:List Bool}(b:Bv P T bg) (c:pb fr x (.agg ⟨xs⟩)) (d:pb fr y (.agg ⟨ys⟩)) (h:Pk P m xs ys bg a) (hm:(decide (m<1000))=true) :
  cf P (Oper.mk dst (.binOp .neq T x y t') ty pos after g) fr (.bool (!Tl a)):=⟨fun ds w=>by
 have e:=c ds;have f:=d ds;have i:=(EG b h).out Op.maxDepth w (by have:=of_decide_eq_true hm;unfold Op.maxDepth;omega);have j:=kE (w:=w) (op:=.neq) (x:=x) (y:=y) (xs:=⟨xs⟩) (ys:=⟨ys⟩) b;simp [execOp,e,f,j,binOp,Op.equal,i]⟩
end
section
variable {P:Program}{Q:Exit→Act→World→Prop}{K:List Value→List Deferred→World→Prop}{fr V:List Value}{ds:List Deferred}{w:World}
variable {dst:Option Tmp}{ty:TypeId}{pos:String}{after:Array Edge}{g:Option (Nat×Bool)}
variable {S Qd:Nat→Prop}{w0:World}{rs rs':List Fb}{A:World→Prop}
variable {T:TypeId}
end
end Go.vc
namespace Go.vc
open Go.RowKit
theorem xq {α β:Type}{f g:α→β}{xs:Array α}(h:∀ x ∈ xs,f x=g x):xs.map f=xs.map g:=Array.map_congr_left h
def zj:Op→Bool
 | .select _ _=>false
 | _=>true
theorem execOp_congr {f g:Operand→Value}(o:Oper) (j:zj o.op=true) (h:∀ x ∈ o.op.operands,f x=g x):execOp f o=execOp g o:=by
 obtain ⟨dst,op,ty,pos,after,u⟩:=o;have hc:∀ c:Call,(∀ x ∈ c.operands,f x=g x)→resolve f c ty=resolve g c ty:=by
  intro c hc;have k:c.args.map f=c.args.map g:=xq fun x d=>hc x (by simp [Call.operands,d]);unfold resolve;rw [k];obtain ⟨callee,args,tys⟩:=c;cases callee with
  | value x=>simp only; rw [hc x (by simp [Call.operands])]
  | invoke x m=>simp only; rw [hc x (by simp [Call.operands])]
  | builtin b=>rfl
 cases op<;>simp only [Op.operands,List.mem_toArray,List.mem_cons,List.not_mem_nil,or_false,forall_eq_or_imp,forall_eq,Array.mem_append,List.mem_map] at h<;>simp only [execOp]
 case build t Wk =>
  have:(Wk.map fun (i,x)=>(i,f x))=Wk.map fun (i,x)=>(i,g x):=xq fun p e=>by simp only;rw [h p.2 ⟨p,by simpa using e,rfl⟩]
  rw [this]
 case buildSlice t n Wk =>
  have:(Wk.map fun (i,x)=>(i,f x))=Wk.map fun (i,x)=>(i,g x):=xq fun p e=>by simp only;rw [h p.2 ⟨p,by simpa using e,rfl⟩]
  rw [this]
 case makeFunc fn a b =>
  rw [xq (f:=f) (g:=g) (xs:=a) fun x d=>h x (.inl d),xq (f:=f) (g:=g) (xs:=b) fun x d=>h x (.inr d)]
 case makeMap t r=>cases r with
  | none=>rfl
  | some x=>simp only [Option.map]; rw [h x (by simp)]
 case slice t x wj fb jg =>
  have d:=h x (by simp);have l:wj.map f=wj.map g:=by cases wj with
   | none=>rfl
   | some y=>simp only [Option.map]; rw [h y (by simp)]
  have q:fb.map f=fb.map g:=by cases fb with
   | none=>rfl
   | some y=>simp only [Option.map]; rw [h y (by simp)]
  have s:jg.map f=jg.map g:=by cases jg with
   | none=>rfl
   | some y=>simp only [Option.map]; rw [h y (by simp)]
  rw [d,l,q,s]
 case call c=>rw [hc c h]
 case go c=>rw [hc c h]
 case defer c=>rw [hc c h]
 case select cs b=>exact absurd j (by simp [zj])
 all_goals (try (simp only [h]))
def Rj (ops:Array Oper) (i:Nat):List Nat:=match ops[i]? with
 | some o=>(o.after.toList.filter (Region.binds .any)).map (·.on)
 | none=>[]
def enabled (ops:Array Oper) (R:List Nat) (i:Nat):Bool:=R.contains i && (Rj ops i).all fun j=>!R.contains j
inductive dk (ops:Array Oper):List Nat→List Nat→Prop where
 | z:dk ops [] []
 | s {R a:List Nat} {i:Nat} (h:enabled ops R i=true) (t:dk ops (R.erase i) a):dk ops R (i::a)
theorem Yk {ops:Array Oper}{R:List Nat}{i:Nat}(h:enabled ops R i=true):i ∈ R:=by
 simp only [enabled,Bool.and_eq_true,List.contains_iff_mem] at h;exact h.1
theorem Iz {ops:Array Oper}{R:List Nat}{i j:Nat}(h:enabled ops R i=true) (a:j ∈ Rj ops i):j ∉ R:=by
 simp only [enabled,Bool.and_eq_true,List.all_eq_true] at h;have:=h.2 j a;simpa using this
def left (n:Nat) (listed:Array Bool):List Nat:=(List.range n).filter fun i=>!listed.getD i true
theorem zD (n:Nat) (listed:Array Bool):(left n listed).Nodup:=List.nodup_range.filter _
theorem BA {n:Nat}{listed:Array Bool}(c:listed.size=n){i:Nat}(fb:i ∈ left n listed):left n (listed.setIfInBounds i true)=(left n listed).erase i:=by
 rw [(zD n listed).erase_eq_filter];unfold left;rw [List.filter_filter];apply List.filter_congr;intro j a;have d:j<n:=List.mem_range.1 a;have b:j<listed.size:=by omega
 simp only [Array.getD_eq_getD_getElem?,Array.getElem?_setIfInBounds];by_cases e:i=j
 ·subst e;simp [b]
 ·simp [e,Ne.symm e]
theorem CB {ops:Array Oper}{n:Nat}(a:(List.range n).all (fun i=>(Rj ops i).all fun j=>decide (j<i))=true){i j:Nat}(fb:i<n) (b:j ∈ Rj ops i):j<i:=by
 simp only [List.all_eq_true,List.mem_range,decide_eq_true_eq] at a;exact a i fb j b
theorem DB {ops:Array Oper}(p:(List.range ops.size).all (fun i=>(Rj ops i).all fun j=>decide (j<i))=true) :
  ∀ (fuel t:Nat) (listed:Array Bool) (acc:List Nat),listed.size=ops.size→(left ops.size listed).length≤fuel→∃ m,Region.linearise.go .any ops fuel t listed acc=acc.reverse++m∧dk ops (left ops.size listed) m
 | 0,t,listed,acc,n,v=>by
  have d:left ops.size listed=[]:=List.eq_nil_of_length_eq_zero (by omega);exact ⟨[],by simp [Region.linearise.go],by rw [d];exact .z⟩
 | fuel+1,t,listed,acc,n,v=>by
  rw [Region.linearise.go];generalize w:(List.filter (fun i=>!listed.getD i true && (Option.map (fun x=>x.after.all fun e=>!Region.binds .any e || listed.getD e.on false) ops[i]?).getD false) (List.range ops.size))=rs;have q:∀ i,i ∈ rs ↔ enabled ops (left ops.size listed) i=true:=by
   intro i;rw [← w];simp only [List.mem_filter,List.mem_range,Bool.and_eq_true,enabled,List.contains_iff_mem,left,Rj];constructor
   ·rintro ⟨b,f,c⟩;refine ⟨⟨b,f⟩,?_⟩;rw [Array.getElem?_eq_getElem b] at c ⊢;simp only [Option.map_some,Option.getD_some,Array.all_eq_true',Bool.or_eq_true,Bool.not_eq_true'] at c;simp only [List.all_eq_true,List.mem_map,List.mem_filter,forall_exists_index,and_imp];rintro j e he g rfl;have:=c e (by simpa using he);rcases this with h | h
    ·rw [h] at g;cases g
    ·simp only [Bool.not_eq_true',List.contains_eq_mem,decide_eq_false_iff_not,List.mem_filter,List.mem_range,not_and,Bool.not_eq_true,Bool.not_eq_false];intro o;have r:e.on<listed.size:=by omega
     simp only [Array.getD,r,dif_pos] at h ⊢;exact h
   ·rintro ⟨⟨b,f⟩,c⟩;refine ⟨b,f,?_⟩;rw [Array.getElem?_eq_getElem b] at c ⊢;simp only [Option.map_some,Option.getD_some,Array.all_eq_true',Bool.or_eq_true,Bool.not_eq_true'];simp only [List.all_eq_true,List.mem_map,List.mem_filter,forall_exists_index,and_imp] at c;intro e he;cases g:Region.binds .any e with
    | false=>exact .inl rfl
    | true =>
     right;have:=c e.on e (by simpa using he) g rfl;simp only [Bool.not_eq_true',List.contains_eq_mem,decide_eq_false_iff_not,List.mem_filter,List.mem_range,not_and,Bool.not_eq_true,Bool.not_eq_false] at this;have o:e.on<i:=CB p b (by
      unfold Rj;rw [Array.getElem?_eq_getElem b];simp only [List.mem_map,List.mem_filter];exact ⟨e,⟨by simpa using he,g⟩,rfl⟩)
     have u:=this (by omega);have r:e.on<listed.size:=by omega
     simp only [Array.getD,r,dif_pos] at u ⊢;exact u
  by_cases d:left ops.size listed=[]
  ·have y:rs=[]:=by
    rw [List.eq_nil_iff_forall_not_mem];intro i fb;have:=Yk ((q i).1 fb);rw [d] at this;cases this
   rw [y];simp only [List.length_nil,Nat.mod_zero,List.getElem?_nil];exact ⟨[],by simp,by rw [d];exact .z⟩
  ·-- the least of what is left may be next
   have A:0<rs.length:=by
    obtain ⟨i,fb,B⟩:∃ i,i ∈ left ops.size listed∧∀ j,j<i→j ∉ left ops.size listed:=by
     obtain ⟨a,C⟩:=List.exists_mem_of_ne_nil _ d
     induction a using Nat.strongRecOn with
     | _ a D =>
      by_cases hex:∃ j,j<a∧j ∈ left ops.size listed
      ·obtain ⟨j,k,F⟩:=hex;exact D j k F
      ·exact ⟨a,C,fun j k hm=>hex ⟨j,k,hm⟩⟩
    have l:enabled ops (left ops.size listed) i=true:=by
     simp only [enabled,Bool.and_eq_true,List.contains_iff_mem,List.all_eq_true];refine ⟨fb,fun j k=>?_⟩;have:=B j (CB p (List.mem_range.1 (List.mem_filter.1 fb).1) k);simpa using this
    exact List.length_pos_of_mem ((q i).2 l)
   have o:t % rs.length<rs.length:=Nat.mod_lt _ A;rw [List.getElem?_eq_getElem o];simp only;have l:=(q _).1 (List.getElem_mem o);generalize rs[t % rs.length]=i at l ⊢;have fb:=Yk l;obtain ⟨m,b,f⟩:=DB p fuel (t / rs.length) (listed.setIfInBounds i true) (i::acc) (by simpa using n) (by
    rw [BA n fb,List.length_erase_of_mem fb];omega)
   refine ⟨i::m,?_,.s l ?_⟩
   ·rw [b];simp
   ·rw [← BA n fb];exact f
theorem GC {ops:Array Oper}(c:(List.range ops.size).all (fun i=>(Rj ops i).all fun j=>decide (j<i))=true) (t:Nat):dk ops (List.range ops.size) (Region.linearise .any ops t):=by
 have a:left ops.size (Array.replicate ops.size false)=List.range ops.size:=by
  unfold left;rw [List.filter_eq_self];intro i fb;have:=List.mem_range.1 fb;simp [Array.getD,this]
 obtain ⟨e,d,b⟩:=DB c ops.size t (Array.replicate ops.size false) [] (by simp) (by rw [a];simp);unfold Region.linearise;rw [d];rw [a] at b;simpa using b
def Bo:Operand→Option Nat
 | .tmp t=>some t
 | _=>none
def reads (ops:Array Oper) (o:Oper):List Nat :=
 o.op.operands.toList.filterMap Bo++(match o.guard with
  | some (j,_)=>((ops[j]?).bind (·.dst)).toList
  | none=>[])
def quiet:Op→Bool
 | .move _ | .assign _ | .pick _ _ _ | .load _ _ | .fieldAddr _ _ _ | .indexAddr _ _ _ | .index _ _ _ | .field _ _ _ | .extract _ _=>true
 | _=>false
def apart (ops:Array Oper) (rd:Bool) (R:List Nat) (i:Nat):Bool :=
 match ops[i]? with
 | some o=>match o.dst,o.guard with
  | some d,none=>zj o.op && R.all fun j=>j == i || (Rj ops j).contains i || (match ops[j]? with
    | some p=>zj p.op && !(reads ops p).contains d && p.dst != some d && (match p.dst with | some e=>!(reads ops o).contains e | none=>true) && (!rd || quiet p.op)
    | none=>true)
  | _,_=>false
 | none=>false
def Jb (P:Program){α:Type}(x:Sem α):Prop:=∀ w b w',x.run P w=.ok b w'→w'=w
section
variable {P:Program}{α β:Type}
theorem Jb.pure (a:α):Jb P (pure a:Sem α):=fun w b w' h=>by simp at h;exact h.2.symm
theorem Jb.bind {x:Sem α}{f:α→Sem β}(h:Jb P x) (k:∀ a,Jb P (f a)):Jb P (x >>= f):=fun w b w' c=>by
 rw [Sem.run_bind] at c;cases d:x.run P w with
 | ok a g =>
  rw [d] at c;have:=h w a g d;subst this;exact k a _ b w' c
 | halt e g=>rw [d] at c; cases c
theorem Jb.stuck (s:String):Jb P (Go.stuck s:Sem α):=fun w b w' h=>by simp [Go.stuck] at h
theorem Jb.unsupported (u:Unsupported):Jb P (Go.unsupported u:Sem α):=fun w b w' h=>by simp [Go.unsupported] at h
theorem Jb.program:Jb P Go.program:=fun w b w' h=>by simp at h;exact h.2.symm
theorem Jb.load (a:Addr) (m:Mode):Jb P (Go.load a m):=fun w b w' h=>by
 unfold Go.load Sem.run at h;split at h
 ·simp [Sem.run] at h;exact h.2.symm
 ·split at h
  ·simp [Sem.run] at h;exact h.2.symm
  ·cases h
theorem Jb.shape (r:Nat):Jb P (Go.shape r):=fun w b w' h=>by simp [Go.shape,Sem.run] at h;exact h.2.symm
theorem Jb.getObj (r:Nat):Jb P (Go.getObj r):=fun w b w' h=>by
 unfold Go.getObj Sem.run at h;split at h
 ·cases h
 ·simp [Sem.run] at h;exact h.2.symm
 ·cases h
def Uh (P:Program){α:Type}(x:Sem α):Prop:=∀ w b w',x.run P w≠.ok b w'
theorem Uh.ro {x:Sem α}(h:Uh P x):Jb P x:=fun w b w' a=>absurd a (h w b w')
theorem Uh.bind {x:Sem α}{f:α→Sem β}(k:∀ a,Uh P (f a)):Uh P (x >>= f):=fun w b w' c=>by
 rw [Sem.run_bind] at c;cases d:x.run P w with
 | ok a g=>rw [d] at c; exact k a _ _ _ c
 | halt e g=>rw [d] at c; cases c
theorem Uh.goPanic (v:Value):Uh P (Go.goPanic v:Sem α):=fun w b w' h=>by simp [Go.goPanic] at h
theorem Uh.runtimePanic (e:RuntimeError):Uh P (Go.runtimePanic e:Sem α):=by
 unfold Go.runtimePanic;refine Uh.bind fun p=>?_;cases e<;>first | exact Uh.goPanic _ | exact Uh.bind fun _=>Uh.bind fun _=>Uh.goPanic _ | exact Uh.bind fun _=>Uh.goPanic _ | skip
 all_goals (simp only;first | exact Uh.goPanic _ | exact Uh.bind fun _=>Uh.bind fun _=>Uh.goPanic _)
theorem Uh.boundsPanic (k:IntKind) (x y:Int) (c:BoundsCode):Uh P (Go.boundsPanic k x y c:Sem α):=by
 unfold Go.boundsPanic;dsimp only;split<;>exact Uh.bind fun _=>Uh.runtimePanic _
theorem Jb.underlying (t:TypeId):Jb P (Go.underlying t):=by
 unfold Go.underlying;refine Jb.bind Jb.program fun p=>?_;split
 ·exact Jb.pure _
 ·exact Jb.stuck _
theorem Jb.typeInfo (t:TypeId):Jb P (Go.typeInfo t):=by
 unfold Go.typeInfo;refine Jb.bind Jb.program fun p=>?_;split
 ·exact Jb.pure _
 ·exact Jb.stuck _
theorem Jb.sizeOf (t:TypeId):Jb P (Go.sizeOf t):=by
 unfold Go.sizeOf;exact Jb.bind (Jb.typeInfo t) fun _=>Jb.pure _
theorem Jb.isAgg (t:TypeId):Jb P (Go.isAgg t):=by
 unfold Go.isAgg;refine Jb.bind (Jb.underlying t) fun d=>?_;split<;>exact Jb.pure _
theorem Jb.loadCellsFrom (a:Addr):∀ (n i:Nat) (acc:Array Value),Jb P (Go.loadCellsFrom a i n acc)
 | 0,_,_=>Jb.pure _
 | n+1,i,_=>Jb.bind (Jb.load _ _) fun v=>Jb.loadCellsFrom a n (i+1) _
theorem Jb.loadVar (t:TypeId) (a:Addr):Jb P (Go.loadVar t a):=by
 unfold Go.loadVar;refine Jb.bind (Jb.isAgg t) fun b=>?_;split
 ·exact Jb.bind (Jb.sizeOf t) fun n=>Jb.bind (Jb.loadCellsFrom a n 0 _) fun _=>Jb.pure _
 ·exact Jb.load _ _
theorem Jb.part (t:TypeId) (cs:Array Value) (off:Nat):Jb P (Go.part t cs off):=by
 unfold Go.part;refine Jb.bind (Jb.isAgg t) fun b=>?_;split
 ·exact Jb.bind (Jb.sizeOf t) fun n=>Jb.pure _
 ·split
  ·exact Jb.pure _
  ·exact Jb.stuck _
theorem Jb.viewAt (r:Nat):Jb P (Go.viewAt r):=by
 unfold Go.viewAt;refine Jb.bind (Jb.shape r) fun s=>?_;split
 ·exact Jb.pure _
 ·refine Jb.bind (Jb.getObj r) fun o=>?_;split<;>exact Jb.pure _
theorem Jb.byteOf (a:Addr):Jb P (Go.byteOf a):=by
 unfold Go.byteOf;split
 ·exact Jb.pure _
 ·refine Jb.bind Jb.program fun p=>?_;refine Jb.bind (by
   unfold noView;refine Jb.bind (Jb.viewAt _) fun v=>?_;split
   ·exact Jb.unsupported _
   ·exact Jb.pure _) fun _=>?_
  refine Jb.bind (Jb.shape _) fun s=>?_;split
  ·dsimp only;split
   ·exact Jb.pure _
   ·split
    ·exact Jb.pure _
    ·exact Jb.stuck _
  ·exact Jb.stuck _
theorem Jb.fieldPlace (a:Addr) (f:Field):Jb P (Go.fieldPlace a f):=by
 unfold Go.fieldPlace;refine Jb.bind (Jb.sizeOf _) fun n=>?_;split
 ·unfold partAt;exact Jb.bind (Jb.byteOf a) fun b=>Jb.bind (Jb.byteOf _) fun _=>Jb.pure _
 ·exact Jb.pure _
theorem Jb.asIntOf (v:Value):Jb P (Go.asIntOf v):=by
 unfold Go.asIntOf;split
 ·exact Jb.pure _
 ·exact Jb.unsupported _
 ·exact Jb.stuck _
theorem Jb.sureAddr (v:Value):Jb P (Instr.sureAddr v):=by
 unfold Instr.sureAddr;split
 ·exact Jb.pure _
 ·exact Jb.stuck _
theorem Ap {f:Operand→Value}{o:Oper}{w w':World}{r:Next}(n:quiet o.op=true) (h:(execOp f o).run P w=.ok r w'):w'=w∧∃ v,r=.value v:=by
 have val:∀ {x:Sem Value},Jb P x→(do pure (.value (← x)):Sem Next).run P w=.ok r w'→w'=w∧∃ v,r=.value v:=by
  clear h;intro x p g;rw [Sem.run_bind] at g;cases j:x.run P w with
  | ok v l =>
   rw [j] at g;have hw:=p w v l j;have q:Result.ok (Next.value v) l=Result.ok r w':=g;cases q;exact ⟨hw,v,rfl⟩
  | halt e l=>rw [j] at g; cases g
 obtain ⟨dst,op,ty,pos,after,s⟩:=o;cases op<;>simp only [quiet,Bool.false_eq_true] at n
 case move x=>simp [execOp] at h;exact ⟨h.2.symm,_,h.1.symm⟩
 case assign x=>simp [execOp] at h;exact ⟨h.2.symm,_,h.1.symm⟩
 case pick c a b =>
  refine val (x:=do pure (if ← asBool (f c) then f a else f b)) ?_ (by simpa [execOp] using h);refine Jb.bind ?_ fun _=>Jb.pure _;unfold asBool;split
  ·exact Jb.pure _
  ·exact Jb.stuck _
 case load t a=>exact val (x:=Instr.loadAt t (f a)) (Jb.bind (Jb.sureAddr _) fun _=>Jb.loadVar _ _) h
 case fieldAddr t x i =>
  refine val (x:=Instr.fieldAt t (f x) i) ?_ h;unfold Instr.fieldAt;refine Jb.bind (Jb.underlying _) fun d=>?_;split
  ·split
   ·exact Jb.bind (Jb.sureAddr _) fun _=>Jb.bind (Jb.fieldPlace _ _) fun _=>Jb.pure _
   ·exact Jb.stuck _
  ·exact Jb.stuck _
 case field t x i =>
  refine val (x:=Instr.field t (f x) i) ?_ h;unfold Instr.field;refine Jb.bind (Jb.underlying _) fun d=>?_;split
  ·split
   ·refine Jb.bind ?_ fun _=>Jb.part _ _ _;unfold asAgg;split
    ·exact Jb.pure _
    ·exact Jb.stuck _
   ·exact Jb.stuck _
  ·exact Jb.stuck _
 case extract x i =>
  refine val (x:=Instr.extract (f x) i) ?_ h;unfold Instr.extract;split
  ·split
   ·exact Jb.pure _
   ·exact Jb.stuck _
  ·exact Jb.stuck _
 case index t x y =>
  refine val (x:=Instr.index t (f x) (f y)) ?_ h;unfold Instr.index;refine Jb.bind (Jb.asIntOf _) fun m=>?_;obtain ⟨k,i⟩:=m;refine Jb.bind (Jb.underlying _) fun d=>?_;split
  ·split
   ·exact Jb.bind (Jb.sizeOf _) fun _=>Jb.part _ _ _
   ·exact (Uh.boundsPanic _ _ _ _).ro
  ·split
   ·exact Jb.pure _
   ·exact (Uh.boundsPanic _ _ _ _).ro
  ·exact Jb.stuck _
 case indexAddr t x y =>
  refine val (x:=Instr.indexAt t (f x) (f y)) ?_ h;unfold Instr.indexAt;refine Jb.bind (Jb.asIntOf _) fun m=>?_;obtain ⟨k,i⟩:=m;refine Jb.bind (Jb.underlying _) fun d=>?_;dsimp only;repeat' first
   | with_reducible exact Jb.pure _
   | with_reducible exact Jb.stuck _
   | with_reducible exact Jb.unsupported _
   | with_reducible exact (Uh.boundsPanic _ _ _ _).ro
   | with_reducible refine Jb.bind (Jb.sureAddr _) fun _=>?_
   | with_reducible refine Jb.bind (Jb.underlying _) fun _=>?_
   | with_reducible refine Jb.bind (Jb.sizeOf _) fun _=>?_
   | with_reducible refine Jb.bind (Jb.pure _) fun _=>?_
   | with_reducible refine Jb.bind (Jb.stuck _) fun _=>?_
   | split
end
section
variable {P:Program}{Q:Exit→Act→World→Prop}{ops:Array Oper}{fr V:List Value}{ds:List Deferred}{w:World}
theorem CA {fr:List Value}{ds ds':List Deferred}{d:Nat}{v:Value}{x:Operand}(h:Bo x≠some d):(F (fr.set d v) ds).eval x=(F fr ds').eval x:=by
 cases x with
 | tmp t =>
  have:d≠t:=fun e=>h (by simp [Bo,e]);simp [F,Act.eval,List.getElem?_set_ne this]
 | const v=>rfl
 | global g=>rfl
 | func f=>rfl
theorem gu {o:Oper}{d:Nat}(h:(reads ops o).contains d=false):∀ x ∈ o.op.operands,Bo x≠some d:=by
 intro x a e;have:d ∈ reads ops o:=by
  unfold reads;exact List.mem_append.2 (.inl (List.mem_filterMap.2 ⟨x,by simpa using a,e⟩))
 rw [List.contains_iff_mem.2 this] at h;cases h
theorem Gp {o:Oper}{d:Nat}{v:Value}{ds':List Deferred}(a:zj o.op=true) (h:(reads ops o).contains d=false):execOp (F (fr.set d v) ds).eval o=execOp (F fr ds').eval o :=
 execOp_congr o a fun x b=>CA (gu h x b)
theorem vw {o:Oper}{d:Nat}{v:Value}{ds':List Deferred}(h:(reads ops o).contains d=false):Region.wanted o (yielded ops (F (fr.set d v) ds).tmps)=Region.wanted o (yielded ops (F fr ds').tmps):=by
 unfold Region.wanted;cases a:o.guard with
 | none=>rfl
 | some c =>
  obtain ⟨j,b⟩:=c;simp only;congr 1;unfold yielded;cases f:(ops[j]?).bind (·.dst) with
  | none=>rfl
  | some e =>
   have g:d≠e:=by
    intro he;have:d ∈ reads ops o:=by
     unfold reads;rw [a];exact List.mem_append.2 (.inr (by simp only;rw [f];simp [he]))
    rw [List.contains_iff_mem.2 this] at h;cases h
   simp [F,List.getElem?_set_ne g]
theorem put_eq (fr:List Value) (ds:List Deferred) (dst:Option Tmp) (x:Value):∃ g:List Value→List Value,(∀ fr ds,(F fr ds).put dst x=F (g fr) ds)∧(∀ (fr:List Value) (d:Nat) (v:Value),dst≠some d→g (fr.set d v)=(g fr).set d v)∧(∀ (fr:List Value) (y:Operand) (ds ds':List Deferred),(∀ e,dst=some e→Bo y≠some e)→(F (g fr) ds).eval y=(F fr ds').eval y):=by
 cases dst with
 | none=>exact ⟨id,fun _ _=>rfl,fun _ _ _ _=>rfl,fun fr y ds ds' _=>by cases y <;> rfl⟩
 | some n =>
  refine ⟨fun fr=>fr.set n x,fun fr ds=>ha rfl ds,fun fr d v h=>?_,fun fr y ds ds' h=>CA (h n rfl)⟩;have:d≠n:=fun e=>h (by rw [e]);exact List.set_comm _ _ this
def vh (Q:Exit→Act→World→Prop):Prop:=∀ b a a' w,a.defers=a'.defers→Q (.panic b) a w→Q (.panic b) a' w
theorem qz (q:vh Q){rd:Bool}{i d:Nat}{o:Oper}{v:Value}(z:ops[i]?=some o) (sb:o.dst=some d) (A:o.guard=none){w0:World} :
  ∀ (a b:List Nat) (fr:List Value) (ds:List Deferred) (w:World),
   (∀ j ∈ a,match ops[j]? with
    | some p=>zj p.op=true∧(reads ops p).contains d=false∧p.dst≠some d∧(∀ e,p.dst=some e→(reads ops o).contains e=false)∧(rd=true→quiet p.op=true)
    | none=>True) →
   (rd=true→w=w0)→zj o.op=true →
   (∀ ds w,(rd=true→w=w0)→(execOp (F fr ds).eval o).run P w=.ok (.value v) w) →
   wpOps P ops Q (a++b) (F (fr.set d v) ds) w→wpOps P ops Q (a++i::b) (F fr ds) w
 | [],b,fr,ds,w,_,hw,s,t,h=>by
  simp only [List.nil_append] at h ⊢;simp only [wpOps,z];rw [if_pos (by simp [Region.wanted,A])];left;unfold Oper.wp;rw [t ds w hw,Oper.upon_value,sb];rw [show (F fr ds).put (some d) v=F (fr.set d v) ds from ha rfl ds];exact h
 | j::a,b,fr,ds,w,M,hw,s,t,h=>by
  have B:=M j (by simp);have N:∀ k ∈ a,_:=fun k c=>M k (by simp [c]);simp only [List.cons_append,wpOps] at h ⊢;cases R:ops[j]? with
  | none =>
   rw [R] at h;simp only at h ⊢;exact qz q z sb A a b fr ds w N hw s t h
  | some p =>
   rw [R] at h B;simp only at h B ⊢;obtain ⟨S,C,U,W,D⟩:=B;rw [vw (fr:=fr) (v:=v) (ds:=ds) (ds':=ds) C] at h;have key:∀ (x:Value) (w':World) (ds':List Deferred),(rd=true→w'=w0)→wpOps P ops Q (a++b) ((F (fr.set d v) ds').put p.dst x) w'→wpOps P ops Q (a++i::b) ((F fr ds').put p.dst x) w':=by
    intro x w' ds' l c;obtain ⟨g,g1,g2,g3⟩:=put_eq fr ds' p.dst x;rw [g1] at c ⊢;rw [g2 _ _ _ U] at c;refine qz q z sb A a b (g fr) ds' w' N l s (fun m X Y=>?_) c;rw [show execOp (F (g fr) m).eval o=execOp (F fr m).eval o from execOp_congr o s fun y Z=>g3 fr y m m fun e he gc=>by
     exact gu (W e he) y Z gc]
    exact t m X Y
   by_cases T:Region.wanted p (yielded ops (F fr ds).tmps)=true
   ·rw [if_pos T] at h ⊢;rcases h with h | h
    ·left;unfold Oper.wp at h ⊢;rw [Gp (ds':=ds) S C] at h;cases n:(execOp (F fr ds).eval p).run P w with
     | halt e w' =>
      rw [n] at h;cases e<;>first | exact h | exact q _ (F (fr.set d v) ds) _ w' rfl h
     | ok r w' =>
      rw [n] at h;have l:rd=true→w'=w0:=fun e=>(Ap (D e) n).1.trans (hw e);cases r with
      | value x=>exact key x w' ds l h
      | skip=>exact key undef w' ds l h
      | defer hc=>exact key undef w' (hc::ds) l h
      | enter f args =>
       have G:rd=true→False:=fun e=>by obtain ⟨_,x,H⟩:=Ap (D e) n;cases H
       rw [Oper.upon_enter] at h ⊢;refine Calls.mono h fun e u he=>?_;cases e with
       | returned x=>exact key x u ds (fun e=>(G e).elim) he
       | panicked lc=>exact q lc (F (fr.set d v) ds) _ u rfl he
       | outgrown=>exact he
      | row r args =>
       have G:rd=true→False:=fun e=>by obtain ⟨_,x,H⟩:=Ap (D e) n;cases H
       rw [Oper.upon_row] at h ⊢;exact Rows.mono h fun x u he=>key x u ds (fun e=>(G e).elim) he
      | _=>exact h
    ·right;refine ⟨?_,h.2⟩;have K:=h.1;unfold Oper.asks at K ⊢;rw [Gp (ds':=ds) S C] at K;exact K
   ·rw [if_neg T] at h ⊢;exact key undef w ds hw h
structure uf (P:Program) (ops:Array Oper) (Q:Exit→Act→World→Prop) (R:List Nat) (fr:List Value) (ds:List Deferred) (w:World):Prop where
 out:∀ a,dk ops R a→wpOps P ops Q a (F fr ds) w
theorem ny {id:Nat}{l:List Oper}(hm:P.follows .mixedOrders=true) (a:(List.range l.toArray.size).all (fun i=>(Rj l.toArray i).all fun j=>decide (j<i))=true)
  (h:∀ w',w'.heap=w.heap→w'.os=w.os→w'.tape=w.tape→w'.output=w.output→uf P l.toArray Q (List.range l.length) fr ds w'):Fe P (.region id l.toArray true) Q fr ds w:=by
 constructor;refine wp_region_draw fun t=>?_;have b:Region.schedule (P.follows .mixedOrders) l.toArray t=Region.linearise .any l.toArray t:=by
  unfold Region.schedule;rw [hm];rfl
 rw [b];have c:=GC a t;have:=(h { w with drawn:=w.drawn+1 } rfl rfl rfl rfl).out _ (by simpa using c);exact this
theorem Yd (h:Q .normal (F fr ds) w):uf P ops Q [] fr ds w:=⟨fun b a=>by
 cases a with
 | z=>exact h
 | s h _=>exact absurd (Yk h) (by simp)⟩
def Io (ops:Array Oper) (R:List Nat):List Nat:=R.filter (enabled ops R)
theorem Zx {R:List Nat}(d:R≠[]) (h:∀ i ∈ Io ops R,∃ o,ops[i]?=some o∧if Region.wanted o (yielded ops (F fr ds).tmps) then Nd P o fr ds w (uf P ops Q (R.erase i)) Q else ∃ V,tf fr o.dst undef V∧uf P ops Q (R.erase i) V ds w):uf P ops Q R fr ds w:=⟨fun e f=>by
 cases f with
 | z=>exact absurd rfl d
 | @s _ e i b c =>
  obtain ⟨o,g,fb⟩:=h i (List.mem_filter.2 ⟨Yk b,b⟩);simp only [wpOps,g];by_cases hw:Region.wanted o (yielded ops (F fr ds).tmps)=true
  ·rw [if_pos hw] at fb ⊢;exact .inl (fb.out _ fun V ds' w' a=>a.out _ c)
  ·rw [if_neg hw] at fb ⊢;obtain ⟨V,sb,a⟩:=fb;exact sb.rw (a.out _ c)⟩
theorem Ib {R:List Nat}{i:Nat}{Pd:List Nat}{dst:Option Tmp}{op:Op}{ty:TypeId}{pos:String}{after:Array Edge}(b:Io ops R=[i]) (c:R.erase i=Pd) (d:ops[i]?=some ⟨dst,op,ty,pos,after,none⟩)
  (h:Nd P ⟨dst,op,ty,pos,after,none⟩ fr ds w (uf P ops Q Pd) Q):uf P ops Q R fr ds w :=
 Zx (by intro e;subst e;cases b) fun j a=>by
  rw [b] at a;simp at a;subst a;refine ⟨_,d,?_⟩;rw [if_pos (by simp [Region.wanted]),c];exact h
theorem dk.split {R l:List Nat}(h:dk ops R l) (n:R.Nodup){i:Nat}(fb:i ∈ R) (o:enabled ops R i=true) :
  ∃ f m,l=f++i::m∧dk ops (R.erase i) (f++m)∧∀ j ∈ f,j ∈ R∧j≠i∧i ∉ Rj ops j:=by
 induction h with
 | z=>cases fb
 | @s R l k g t q =>
  by_cases e:k=i
  ·subst e;exact ⟨[],l,rfl,t,by simp⟩
  ·have p:i ∈ R.erase k:=(n.mem_erase_iff).2 ⟨fun h=>e h.symm,fb⟩;have r:enabled ops (R.erase k) i=true:=by
    simp only [enabled,Bool.and_eq_true,List.contains_iff_mem,List.all_eq_true] at o ⊢;refine ⟨p,fun j d=>?_⟩;have:=o.2 j d;simp only [Bool.not_eq_true',List.contains_eq_mem,decide_eq_false_iff_not] at this ⊢;exact fun hm=>this (List.mem_of_mem_erase hm)
   obtain ⟨f,m,u,v,w⟩:=q (n.erase k) p r;refine ⟨k::f,m,by rw [u];rfl,?_,?_⟩
   ·refine .s ?_ (by rw [List.erase_comm];exact v);simp only [enabled,Bool.and_eq_true,List.contains_iff_mem,List.all_eq_true] at g ⊢;refine ⟨(n.mem_erase_iff).2 ⟨e,g.1⟩,fun j d=>?_⟩;have:=g.2 j d;simp only [Bool.not_eq_true',List.contains_eq_mem,decide_eq_false_iff_not] at this ⊢;exact fun hm=>this (List.mem_of_mem_erase hm)
   ·intro j d;rcases List.mem_cons.1 d with rfl | d
    ·exact ⟨Yk g,e,fun sb=>Iz g sb fb⟩
    ·obtain ⟨a,b,c⟩:=w j d;exact ⟨List.mem_of_mem_erase a,b,c⟩
theorem ME {R Pd:List Nat}{i:Nat}{rd:Bool}{dst:Tmp}{op:Op}{ty:TypeId}{pos:String}{after:Array Edge}{v:Value}(o:vh Q) (k:(decide R.Nodup && enabled ops R i && apart ops rd R i)=true) (q:R.erase i=Pd) (l:ops[i]?=some ⟨some dst,op,ty,pos,after,none⟩)
  (r:∀ ds w',(rd=true→w'=w)→(execOp (F fr ds).eval ⟨some dst,op,ty,pos,after,none⟩).run P w'=.ok (.value v) w') (f:tc fr dst v V) (h:uf P ops Q Pd V ds w):uf P ops Q R fr ds w:=⟨fun G s=>by
 simp only [Bool.and_eq_true,decide_eq_true_eq] at k;obtain ⟨⟨t,m⟩,g⟩:=k;obtain ⟨u,x,rfl,y,z⟩:=s.split t (Yk m) m;unfold apart at g;simp only [l,Bool.and_eq_true,List.all_eq_true,Bool.or_eq_true,beq_iff_eq,List.contains_iff_mem] at g;unfold tc at f;subst f;subst q;refine qz o l rfl rfl (rd:=rd) (w0:=w) (v:=v) u x fr ds w (fun j A=>?_) (fun _=>rfl) g.1 r (h.out _ y);obtain ⟨a,b,c⟩:=z j A;have:=g.2 j a;rcases this with (h | h) | h
 ·exact absurd h b
 ·exact absurd h c
 ·cases f:ops[j]? with
  | none=>trivial
  | some p =>
   rw [f] at h;simp only [Bool.and_eq_true,Bool.not_eq_true',bne_iff_ne,ne_eq,Bool.or_eq_true] at h;obtain ⟨⟨⟨⟨B,C⟩,D⟩,n⟩,d⟩:=h;refine ⟨B,C,D,fun e he=>?_,fun e=>?_⟩
   ·rw [he] at n;simpa using n
   ·rcases d with d | d
    ·rw [e] at d;cases d
    ·exact d⟩
theorem de (h:∀ b a w,Q (.panic b) a w→False):vh Q:=fun b a _ w _ c=>(h b a w c).elim
theorem ZH {R Pd:List Nat}{i:Nat}{dst:Tmp}{op:Op}{ty:TypeId}{pos:String}{after:Array Edge}{v:Value}(a:vh Q) (b:(decide R.Nodup && enabled ops R i && apart ops false R i)=true) (c:R.erase i=Pd) (d:ops[i]?=some ⟨some dst,op,ty,pos,after,none⟩)
  (e:cf P ⟨some dst,op,ty,pos,after,none⟩ fr v) (f:tc fr dst v V) (h:uf P ops Q Pd V ds w):uf P ops Q R fr ds w :=
 ME a b c d (fun ds w' _=>e.out ds w') f h
end
end Go.vc
