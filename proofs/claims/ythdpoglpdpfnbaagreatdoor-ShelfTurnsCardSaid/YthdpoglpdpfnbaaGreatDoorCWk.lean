/- The shelf: texts of Wk. -/
import Derived.Tactics
import Derived.Defers
import Derived.Recover
import Derived.Lib.Strings
import Derived.Laws.Append
import Derived.Below
import Derived.Laws.AppendOwn
set_option linter.unusedSimpArgs false
set_option linter.unusedVariables false
set_option linter.unusedSectionVars false
namespace Go.wc
open Go.RowKit
def yc {α:Type}(l:List α) (n:Nat) (v:α):Prop:=l[n]?=some v
def tc {α:Type}(l:List α) (n:Nat) (v:α) (a:List α):Prop:=l.set n v=a
theorem d0 {α:Type}{v:α}{l:List α}:yc (v::l) 0 v:=rfl
theorem ya {α:Type}{x v:α}{l:List α}:tc (x::l) 0 v (v::l):=rfl
theorem d1 {α:Type}{a0:α}{v:α}{l:List α}:yc (a0::v::l) 1 v:=rfl
theorem Ia {α:Type}{a0:α}{x v:α}{l:List α}:tc (a0::x::l) 1 v (a0::v::l):=rfl
theorem d2 {α:Type}{a0 O:α}{v:α}{l:List α}:yc (a0::O::v::l) 2 v:=rfl
theorem Sa {α:Type}{a0 O:α}{x v:α}{l:List α}:tc (a0::O::x::l) 2 v (a0::O::v::l):=rfl
theorem d3 {α:Type}{a0 O a2:α}{v:α}{l:List α}:yc (a0::O::a2::v::l) 3 v:=rfl
theorem Bb {α:Type}{a0 O a2:α}{x v:α}{l:List α}:tc (a0::O::a2::x::l) 3 v (a0::O::a2::v::l):=rfl
theorem d4 {α:Type}{a0 O a2 a3:α}{v:α}{l:List α}:yc (a0::O::a2::a3::v::l) 4 v:=rfl
theorem wb {α:Type}{a0 O a2 a3:α}{x v:α}{l:List α}:tc (a0::O::a2::a3::x::l) 4 v (a0::O::a2::a3::v::l):=rfl
theorem d5 {α:Type}{a0 O a2 a3 a4:α}{v:α}{l:List α}:yc (a0::O::a2::a3::a4::v::l) 5 v:=rfl
theorem fc {α:Type}{a0 O a2 a3 a4:α}{x v:α}{l:List α}:tc (a0::O::a2::a3::a4::x::l) 5 v (a0::O::a2::a3::a4::v::l):=rfl
theorem d6 {α:Type}{a0 O a2 a3 a4 a5:α}{v:α}{l:List α}:yc (a0::O::a2::a3::a4::a5::v::l) 6 v:=rfl
theorem cc {α:Type}{a0 O a2 a3 a4 a5:α}{x v:α}{l:List α}:tc (a0::O::a2::a3::a4::a5::x::l) 6 v (a0::O::a2::a3::a4::a5::v::l):=rfl
theorem d7 {α:Type}{a0 O a2 a3 a4 a5 bc:α}{v:α}{l:List α}:yc (a0::O::a2::a3::a4::a5::bc::v::l) 7 v:=rfl
theorem Eb {α:Type}{a0 O a2 a3 a4 a5 bc:α}{x v:α}{l:List α}:tc (a0::O::a2::a3::a4::a5::bc::x::l) 7 v (a0::O::a2::a3::a4::a5::bc::v::l):=rfl
theorem d8 {α:Type}{a0 O a2 a3 a4 a5 bc Fc:α}{v:α}{l:List α}:yc (a0::O::a2::a3::a4::a5::bc::Fc::v::l) 8 v:=rfl
theorem nc {α:Type}{a0 O a2 a3 a4 a5 bc Fc:α}{x v:α}{l:List α}:tc (a0::O::a2::a3::a4::a5::bc::Fc::x::l) 8 v (a0::O::a2::a3::a4::a5::bc::Fc::v::l):=rfl
theorem d9 {α:Type}{a0 O a2 a3 a4 a5 bc Fc jb:α}{v:α}{l:List α}:yc (a0::O::a2::a3::a4::a5::bc::Fc::jb::v::l) 9 v:=rfl
theorem oc {α:Type}{a0 O a2 a3 a4 a5 bc Fc jb:α}{x v:α}{l:List α}:tc (a0::O::a2::a3::a4::a5::bc::Fc::jb::x::l) 9 v (a0::O::a2::a3::a4::a5::bc::Fc::jb::v::l):=rfl
def F (fr:List Value) (ds:List Deferred):Act:=⟨⟨fr⟩,ds⟩
def pb (fr:List Value) (x:Operand) (v:Value):Prop:=∀ ds,(F fr ds).eval x=v
theorem aa {fr:List Value}{n:Nat}{v:Value}(h:yc fr n v):pb fr (.tmp n) v:=by
 intro ds;unfold yc at h;simp [F,Act.eval,h]
theorem xa {fr:List Value}{v:Value}:pb fr (.const v) v:=fun _=>rfl
theorem qb {fr:List Value}{f:Nat}:pb fr (.func f) (.func (.func f) #[] #[]):=fun _=>rfl
def rf (fr:List Value) (dst:Option Tmp) (v:Value) (V:List Value):Prop:=∀ ds,(F fr ds).put dst v=F V ds
theorem La {fr:List Value}{v:Value}:rf fr none v fr:=fun _=>rfl
theorem ia {fr V:List Value}{n:Nat}{v:Value}(h:tc fr n v V):rf fr (some n) v V:=by
 intro ds;unfold tc at h;subst h;simp [F,Act.put]
theorem rf.rw {fr V:List Value}{dst:Option Tmp}{v:Value}(h:rf fr dst v V){K:Act→World→Prop}{ds:List Deferred}{w:World}(k:K (F V ds) w):K ((F fr ds).put dst v) w:=by
 rw [h ds];exact k
def Bk (fr:List Value) (xs:List Operand) (vs:List Value):Prop:=∀ ds,xs.map (F fr ds).eval=vs
theorem Qa {fr:List Value}:Bk fr [] []:=fun _=>rfl
theorem qa {fr:List Value}{x:Operand}{v:Value}{xs:List Operand}{vs:List Value}(h:pb fr x v) (a:Bk fr xs vs):Bk fr (x::xs) (v::vs):=by
 intro ds;simp [h ds,a ds]
structure Ce (P:Program) (c:Code) (Q:Exit→Act→World→Prop) (fr:List Value) (ds:List Deferred) (w:World):Prop where
 out:c.wp P Q (F fr ds) w
structure Jf (P:Program) (ops:Array Oper) (Q:Exit→Act→World→Prop) (l:List Oper) (fr:List Value) (ds:List Deferred) (w:World):Prop where
 out:wpList P ops Q l (F fr ds) w
structure Md (P:Program) (o:Oper) (fr:List Value) (ds:List Deferred) (w:World) (K:List Value→List Deferred→World→Prop) (Q:Exit→Act→World→Prop):Prop where
 out:∀ a:Act→World→Prop,(∀ fr ds w,K fr ds w→a (F fr ds) w)→o.wp P (F fr ds) w a Q
def Om (P:Program) (c:Code) (Q:Exit→Act→World→Prop):Act→World→Prop:=fun a w=>∃ fr ds,a=F fr ds∧Ce P c Q fr ds w
section code
variable {P:Program}{Q:Exit→Act→World→Prop}{fr:List Value}{ds:List Deferred}{w:World}
theorem Fa {x y:Code}(h:Ce P x (Exit.then (Om P y Q) Q) fr ds w):Ce P (.seq x y) Q fr ds w :=
 ⟨wp_seq (wp_mono h.out fun e a w b=>by
  cases e with
  | normal=>obtain ⟨fr,ds,rfl,h⟩:=b; exact h.out
  | exit id=>exact b
  | goto l=>exact b
  | ret=>exact b
  | panic c=>exact b
  | outgrown=>exact b)⟩
theorem Oa {id:Nat}{l:List Oper}(h:Jf P l.toArray Q l fr ds w):Ce P (.region id l.toArray false) Q fr ds w:=⟨wp_region_lit h.out⟩
theorem Na (h:Q .normal (F fr ds) w):Ce P .skip Q fr ds w:=⟨wp_skip h⟩
theorem fb (h:Q .ret (F fr ds) w):Ce P .ret Q fr ds w:=⟨wp_ret h⟩
theorem ke {id:Nat}(h:Q (.exit id) (F fr ds) w):Ce P (.exit id) Q fr ds w:=⟨wp_exit h⟩
theorem yb {id:Nat}{c:Code}(h:Ce P c (Exit.inBlock id Q) fr ds w):Ce P (.block id c) Q fr ds w:=⟨wp_block h.out⟩
theorem lz {c:Operand}{x y:Code}{b:Bool}(hc:pb fr c (.bool b)) (a:b=true→Ce P x Q fr ds w) (d:b=false→Ce P y Q fr ds w) :
  Ce P (.cond c x y) Q fr ds w:=⟨wp_cond_split (hc ds) (fun h=>(a h).out) fun h=>(d h).out⟩
theorem Sb {c:Operand}{x y:Code}{p:Prop}[Decidable p] (hc:pb fr c (.bool (decide p))) (a:p→Ce P x Q fr ds w) (b:¬ p→Ce P y Q fr ds w) :
  Ce P (.cond c x y) Q fr ds w:=lz hc (fun h=>a (of_decide_eq_true h)) (fun h=>b (of_decide_eq_false h))
theorem IH {c:Operand}{x y:Code}{p:Prop}[Decidable p] (hc:pb fr c (.bool (decide p))) (a:p) (b:Ce P x Q fr ds w):Ce P (.cond c x y) Q fr ds w:=Sb hc (fun _=>b) fun h=>absurd a h
theorem JH {c:Operand}{x y:Code}{p:Prop}[Decidable p] (hc:pb fr c (.bool (decide p))) (a:¬ p) (b:Ce P y Q fr ds w):Ce P (.cond c x y) Q fr ds w:=Sb hc (fun h=>absurd h a) fun _=>b
theorem kl {c:Operand}{x y:Code}(hc:pb fr c (.bool true)) (a:Ce P x Q fr ds w):Ce P (.cond c x y) Q fr ds w:=⟨wp_cond_true (hc ds) a.out⟩
theorem ll {c:Operand}{x y:Code}(hc:pb fr c (.bool false)) (a:Ce P y Q fr ds w):Ce P (.cond c x y) Q fr ds w:=⟨wp_cond_false (hc ds) a.out⟩
theorem oa {c:Code}{Q':Exit→Act→World→Prop}(h:Ce P c Q' fr ds w):Exit.then (Om P c Q') Q .normal (F fr ds) w:=⟨fr,ds,rfl,h⟩
theorem Ba {n:Act→World→Prop}{a:Act}(h:n a w):Exit.then n Q .normal a w:=h
theorem pc {n:Act→World→Prop}{a:Act}{id:Nat}(h:Q (.exit id) a w):Exit.then n Q (.exit id) a w:=h
theorem ad {n:Act→World→Prop}{a:Act}(h:Q .ret a w):Exit.then n Q .ret a w:=h
theorem Qb {a:Act}{id:Nat}(h:Q .normal a w):Exit.inBlock id Q .normal a w:=h
theorem Rd {a:Act}{id:Nat}(h:Q .ret a w):Exit.inBlock id Q .ret a w:=h
theorem oe {a:Act}{id:Nat}(h:Q .normal a w):Exit.inBlock id Q (.exit id) a w:=by simpa [Exit.inBlock] using h
theorem rC {a:Act}{id j:Nat}(b:(j == id)=false) (h:Q (.exit j) a w):Exit.inBlock id Q (.exit j) a w:=by
 have:¬ j=id:=by simpa using b
 simpa [Exit.inBlock,this] using h
inductive xb where
 | k
 | o (n:Nat)
 | i (v:Value)
def ji (t:Nat→Value):List xb→List Value→List Value
 | [],fr=>fr
 | _::_,[]=>[]
 | .k::ms,a::fr=>a::ji t ms fr
 | .o n::ms,_::fr=>t n::ji t ms fr
 | .i v::ms,_::fr=>v::ji t ms fr
def Ye (t:Nat→Value) (ms:List xb) (fr V:List Value):Prop:=ji t ms fr=V
theorem Rb {t:Nat→Value}{l:List Value}:Ye t [] l l:=rfl
theorem mk {t:Nat→Value}{ms:List xb}{a:Value}{l b:List Value}(h:Ye t ms l b):Ye t (.k::ms) (a::l) (a::b):=by unfold Ye at *;rw [ji,h]
theorem Jc {t:Nat→Value}{ms:List xb}{n:Nat}{a:Value}{l b:List Value}(h:Ye t ms l b):Ye t (.o n::ms) (a::l) (t n::b):=by unfold Ye at *;rw [ji,h]
theorem Nc {t:Nat→Value}{ms:List xb}{v a:Value}{l b:List Value}(h:Ye t ms l b):Ye t (.i v::ms) (a::l) (v::b):=by unfold Ye at *;rw [ji,h]
theorem vd {t:Nat→Value}{ms:List xb}{a b:List Value}(e:Ye t ms a b) (h:Q .normal (F b ds) w):Q .normal (F (ji t ms a) ds) w:=by rw [show ji t ms a=b from e];exact h
theorem Ee {c:Code}{t:Nat→Value}{ms:List xb}{a b:List Value}(e:Ye t ms a b) (h:Ce P c Q b ds w):Ce P c Q (ji t ms a) ds w:=by rw [show ji t ms a=b from e];exact h
inductive Ie:List xb→List Value→List Value→Prop where
 | z {l:List Value}:Ie [] l l
 | k {ms:List xb} {a:Value} {l c:List Value} (h:Ie ms l c):Ie (.k::ms) (a::l) (a::c)
 | o {ms:List xb} {n:Nat} {a b:Value} {l c:List Value} (h:Ie ms l c):Ie (.o n::ms) (a::l) (b::c)
 | i {ms:List xb} {v a:Value} {l c:List Value} (h:Ie ms l c):Ie (.i v::ms) (a::l) (v::c)
def opens:List xb→List Nat
 | []=>[]
 | .o n::ms=>n::opens ms
 | .k::ms=>opens ms
 | .i _::ms=>opens ms
theorem It {t t':Nat→Value}:∀ (ms:List xb) (fr:List Value),(∀ n ∈ opens ms,t n=t' n)→ji t ms fr=ji t' ms fr
 | [],_,_=>rfl
 | _::_,[],_=>rfl
 | .k::ms,a::fr,h=>by rw [ji,ji,It ms fr h]
 | .o n::ms,a::fr,h=>by rw [ji,ji,It ms fr fun m hm=>h m (by simp [opens,hm]),h n (by simp [opens])]
 | .i v::ms,a::fr,h=>by rw [ji,ji,It ms fr h]
theorem Ie.ex {ms:List xb}{fr V:List Value}(h:Ie ms fr V) (c:(opens ms).Nodup):∃ t,V=ji t ms fr:=by
 induction h with
 | z=>exact ⟨fun _=>undef,rfl⟩
 | k _ d=>obtain ⟨t,rfl⟩:=d c; exact ⟨t,rfl⟩
 | @o ms n a b l f _ d =>
  simp only [opens,List.nodup_cons] at c;obtain ⟨t,rfl⟩:=d c.2;refine ⟨fun m=>if m=n then b else t m,?_⟩;rw [ji,if_pos rfl];congr 1;refine It _ _ fun m hm=>?_;exact (if_neg (fun e:m=n=>c.1 (by rw [← e];exact hm))).symm
 | i _ d=>obtain ⟨t,rfl⟩:=d c; exact ⟨t,rfl⟩
theorem KH {c:Code}{α:Type}(T:List Nat) (m:T.Nodup) (u:α→List xb) (hu:∀ x,opens (u x)=T) (i:α→World→Prop) (j:α→World→Nat) (x0:α) (o:Ie (u x0) fr fr) (p:i x0 w)
  (round:∀ x t w,i x w→Ce P c (Exit.then (fun a' w'=>∃ g V,a'=F V ds∧Ie (u g) fr V∧i g w'∧j g w'<j x w) Q) (ji t (u x) fr) ds w) :
  Ce P (.loop c) Q fr ds w:=by
 constructor;intro b k cs;have key:∀ n x t w,j x w=n→i x w →
   ∃ e a' w',Q e a' w'∧Arrives P (lone (b.at (F (ji t (u x) fr) ds) (.code c::.inLoop c::k)) cs w) b k cs e a' w':=by
  intro n
  induction n using Nat.strongRecOn with
  | _ n q =>
   intro x t w r s;obtain ⟨e,h,f,d,a⟩:=(round x t w s).out b (.inLoop c::k) cs;cases e with
   | normal =>
    obtain ⟨g,V,rfl,v,y,z⟩:=d;obtain ⟨t',A⟩:=v.ex (by rw [hu];exact m);obtain ⟨B,C,D,G,H⟩:=q (j g f) (r ▸ z) g t' f rfl y;rw [A] at a;exact ⟨B,C,D,G,.of_steps (Steps.trans a (.one step_inLoop)) H⟩
   | exit id=>exact ⟨_,h,f,d,.pass (x:=.inLoop c) rfl (fun _ _=>.inl (by simp)) a⟩
   | goto l=>exact ⟨_,h,f,d,.pass (x:=.inLoop c) rfl (fun _ _=>.inl (by simp)) a⟩
   | ret=>exact ⟨_,h,f,d,.pass (x:=.inLoop c) rfl (fun _ _=>.inl (by simp)) a⟩
   | panic M=>exact ⟨_,h,f,d,.pass (x:=.inLoop c) rfl (fun _ _=>.inl (by simp)) a⟩
   | outgrown=>exact ⟨_,h,f,d,.pass (x:=.inLoop c) rfl (fun _ _=>.inl (by simp)) a⟩
 obtain ⟨t0,K⟩:=o.ex (by rw [hu];exact m);obtain ⟨e,a',w',d,a⟩:=key _ x0 t0 w rfl p;rw [← K] at a;exact ⟨e,a',w',d,.of_steps (.one step_loop) a⟩
theorem Ce.mono {c:Code}{Q':Exit→Act→World→Prop}(h:Ce P c Q fr ds w) (b:∀ e a w,Q e a w→Q' e a w):Ce P c Q' fr ds w:=⟨wp_mono h.out b⟩
theorem aE {R Nd:Act→World→Prop}(h:∀ a w,R a w→Nd a w):∀ e a w,Exit.then R Q e a w→Exit.then Nd Q e a w:=fun e a w b=>by
 cases e with
 | normal=>exact h a w b
 | exit id=>exact b
 | goto l=>exact b
 | ret=>exact b
 | panic c=>exact b
 | outgrown=>exact b
theorem tc.same {α:Type}{l:List α}{n:Nat}{v:α}{a:List α}(h:yc l n v) (b:tc l n v a):a=l:=by
 unfold yc at h;unfold tc at b;subst b;obtain ⟨c,rfl⟩:=List.getElem?_eq_some_iff.1 h;exact List.set_getElem_self c
theorem mz {ops:Array Oper}{l:List Oper}{Vg Wg:List Value}{d:Nat}{b:Bool}(a:yc fr d (.bool b)) (c:tc fr d (.bool true) Vg) (e:tc fr d (.bool false) Wg)
  (f:b=true→Jf P ops Q l Vg ds w) (g:b=false→Jf P ops Q l Wg ds w):Jf P ops Q l fr ds w:=by
 cases b with
 | true=>have:=f rfl; rw [tc.same a c] at this; exact this
 | false=>have:=g rfl; rw [tc.same a e] at this; exact this
theorem Nf {ops:Array Oper}{l:List Oper}{Vg Wg:List Value}{d:Nat}{p:Prop}[Decidable p] (a:yc fr d (.bool (decide p))) (b:tc fr d (.bool true) Vg) (c:tc fr d (.bool false) Wg)
  (e:p→Jf P ops Q l Vg ds w) (f:¬ p→Jf P ops Q l Wg ds w):Jf P ops Q l fr ds w :=
 mz a b c (fun h=>e (of_decide_eq_true h)) (fun h=>f (of_decide_eq_false h))
end code
end Go.wc
namespace Go.wc
open Go.RowKit
def S (l:List UInt8):Value:=.string ⟨⟨l⟩⟩
section
variable {P:Program}{Q:Exit→Act→World→Prop}{K:List Value→List Deferred→World→Prop}{fr V:List Value}{ds:List Deferred}{w:World}{ops:Array Oper}{rest:List Oper}
variable {dst:Option Tmp}{op:Op}{ty:TypeId}{pos:String}{after:Array Edge}{g:Option (Nat×Bool)}
theorem Ja (h:Q .normal (F fr ds) w):Jf P ops Q [] fr ds w:=⟨h⟩
theorem wl (h:Md P ⟨dst,op,ty,pos,after,none⟩ fr ds w (Jf P ops Q rest) Q):Jf P ops Q (⟨dst,op,ty,pos,after,none⟩::rest) fr ds w:=by
 constructor;unfold wpList;rw [if_pos (by simp [Region.wanted])];exact .inl (h.out _ fun _ _ _ k=>k.out)
theorem Oc {j d:Nat}{b:Bool}(c:(ops[j]?).bind (·.dst)=some d) (a:yc fr d (.bool b)) (h:Md P ⟨dst,op,ty,pos,after,some (j,b)⟩ fr ds w (Jf P ops Q rest) Q) :
  Jf P ops Q (⟨dst,op,ty,pos,after,some (j,b)⟩::rest) fr ds w:=by
 constructor;unfold wpList;rw [if_pos (by
  unfold yc at a;simp only [Region.wanted,yielded,c,F];simp [a])]
 exact .inl (h.out _ fun _ _ _ k=>k.out)
theorem wn {j d:Nat}{b b':Bool}(c:(ops[j]?).bind (·.dst)=some d) (a:yc fr d (.bool b')) (e:(b' == b)=false) (f:rf fr dst undef V) (h:Jf P ops Q rest V ds w) :
  Jf P ops Q (⟨dst,op,ty,pos,after,some (j,b)⟩::rest) fr ds w:=by
 constructor;unfold wpList;rw [if_neg (by
  unfold yc at a;simp only [Region.wanted,yielded,c,F];simp [a];simpa using e)]
 exact f.rw h.out
theorem Pr {j d:Nat}{b:Bool}(c:(ops[j]?).bind (·.dst)=some d) (a:yc fr d undef) (e:rf fr dst undef V) (h:Jf P ops Q rest V ds w) :
  Jf P ops Q (⟨dst,op,ty,pos,after,some (j,b)⟩::rest) fr ds w:=by
 constructor;unfold wpList;rw [if_neg (by
  unfold yc at a;simp only [Region.wanted,yielded,c,F];simp [a,undef])]
 exact e.rw h.out
theorem bh {o:Oper}{v:Value}{w':World}(a:(execOp (F fr ds).eval o).run P w=.ok (.value v) w') (b:rf fr o.dst v V) (h:K V ds w'):Md P o fr ds w K Q:=by
 constructor;intro d c;unfold Oper.wp;rw [a,Oper.upon_value];exact b.rw (c _ _ _ h)
theorem Oy {o:Oper}{w':World}(a:(execOp (F fr ds).eval o).run P w=.ok .skip w') (b:rf fr o.dst undef V) (h:K V ds w'):Md P o fr ds w K Q:=by
 constructor;intro d c;unfold Oper.wp;rw [a,Oper.upon_skip];exact b.rw (c _ _ _ h)
structure bf (P:Program) (o:Oper) (fr:List Value) (v:Value):Prop where
 out:∀ ds w,(execOp (F fr ds).eval o).run P w=.ok (.value v) w
theorem wa {o:Oper}{v:Value}(hu:bf P o fr v) (a:rf fr o.dst v V) (h:K V ds w):Md P o fr ds w K Q:=bh (hu.out ds w) a h
theorem Ji {x:Operand}{v:Value}(a:pb fr x v):bf P (Oper.mk dst (.move x) ty pos after g) fr (v):=⟨fun ds w=>by simp [execOp,a ds]⟩
theorem ph {x:Operand}{v:Value}(a:pb fr x v) (b:rf fr dst (v) V) (h:K V ds w):Md P (Oper.mk dst (.move x) ty pos after g) fr ds w K Q:=wa (Ji a) b h
theorem Zw {x:Operand}{v:Value}(a:pb fr x v):bf P (Oper.mk dst (.assign x) ty pos after g) fr (v):=⟨fun ds w=>by simp [execOp,a ds]⟩
theorem Ni {x:Operand}{v:Value}(a:pb fr x v) (b:rf fr dst (v) V) (h:K V ds w):Md P (Oper.mk dst (.assign x) ty pos after g) fr ds w K Q:=wa (Zw a) b h
theorem Bx {c x y:Operand}{v:Value}(hc:pb fr c (.bool true)) (a:pb fr x v):bf P (Oper.mk dst (.pick c x y) ty pos after g) fr (v):=⟨fun ds w=>by simp [execOp,a ds,hc ds,asBool]⟩
theorem rF {c x y:Operand}{v:Value}(hc:pb fr c (.bool true)) (a:pb fr x v) (b:rf fr dst (v) V) (h:K V ds w):Md P (Oper.mk dst (.pick c x y) ty pos after g) fr ds w K Q:=wa (Bx hc a) b h
theorem XA {c x y:Operand}{v:Value}(hc:pb fr c (.bool false)) (a:pb fr y v):bf P (Oper.mk dst (.pick c x y) ty pos after g) fr (v):=⟨fun ds w=>by simp [execOp,a ds,hc ds,asBool]⟩
theorem wr {n:Int}(h:-9223372036854775808≤n∧n≤9223372036854775807):IntKind.i64.wrap n=n:=by
 unfold IntKind.wrap;simp [IntKind.bits,IntKind.signed];omega
theorem hy {x y:Operand}{t t':TypeId}{k:IntKind}{a b c:Int}(d:pb fr x (.int k a)) (e:pb fr y (.int k b)) (hw:k.wrap (a+b)=c):bf P (Oper.mk dst (.binOp .add t x y t') ty pos after g) fr ((.int k c)):=by
 subst hw;exact ⟨fun ds w=>by simp [execOp,d ds,e ds,eqGuard,binOp,Op.intArith]⟩
theorem iy {x y:Operand}{t t':TypeId}{k:IntKind}{a b c:Int}(d:pb fr x (.int k a)) (e:pb fr y (.int k b)) (hw:k.wrap (a - b)=c):bf P (Oper.mk dst (.binOp .sub t x y t') ty pos after g) fr ((.int k c)):=by
 subst hw;exact ⟨fun ds w=>by simp [execOp,d ds,e ds,eqGuard,binOp,Op.intArith]⟩
theorem jy {x y:Operand}{t t':TypeId}{k:IntKind}{a b c:Int}(d:pb fr x (.int k a)) (e:pb fr y (.int k b)) (hw:k.wrap (a*b)=c):bf P (Oper.mk dst (.binOp .mul t x y t') ty pos after g) fr ((.int k c)):=by
 subst hw;exact ⟨fun ds w=>by simp [execOp,d ds,e ds,eqGuard,binOp,Op.intArith]⟩
theorem ky {x y:Operand}{t t':TypeId}{k:IntKind}{a b c:Int}(d:pb fr x (.int k a)) (e:pb fr y (.int k b)) (f:b≠0) (hw:k.wrap (a.tdiv b)=c):bf P (Oper.mk dst (.binOp .quo t x y t') ty pos after g) fr ((.int k c)):=by
 subst hw;exact ⟨fun ds w=>by simp [execOp,d ds,e ds,eqGuard,binOp,Op.intDiv,f]⟩
theorem SB {x y:Operand}{t t':TypeId}{k:IntKind}{a b c:Int}(d:pb fr x (.int k a)) (e:pb fr y (.int k b)) (f:b≠0) (hw:a.tmod b=c):bf P (Oper.mk dst (.binOp .rem t x y t') ty pos after g) fr ((.int k c)):=by
 subst hw;exact ⟨fun ds w=>by simp [execOp,d ds,e ds,eqGuard,binOp,Op.intDiv,f]⟩
theorem sr {x y:Operand}{t t':TypeId}{k:IntKind}{a b:Int}(c:pb fr x (.int k a)) (d:pb fr y (.int k b)):bf P (Oper.mk dst (.binOp .lss t x y t') ty pos after g) fr ((.bool (decide (a<b)))):=⟨fun ds w=>by simp [execOp,c ds,d ds,eqGuard,binOp,Op.intCmp]⟩
theorem TB {x y:Operand}{t t':TypeId}{k:IntKind}{a b:Int}(c:pb fr x (.int k a)) (d:pb fr y (.int k b)):bf P (Oper.mk dst (.binOp .leq t x y t') ty pos after g) fr ((.bool (decide (a≤b)))):=⟨fun ds w=>by simp [execOp,c ds,d ds,eqGuard,binOp,Op.intCmp]⟩
theorem LH {x y:Operand}{t t':TypeId}{k:IntKind}{a b:Int}(c:pb fr x (.int k a)) (d:pb fr y (.int k b)) (e:rf fr dst ((.bool (decide (a≤b)))) V) (h:K V ds w):Md P (Oper.mk dst (.binOp .leq t x y t') ty pos after g) fr ds w K Q:=wa (TB c d) e h
theorem tr {x y:Operand}{t t':TypeId}{k:IntKind}{a b:Int}(c:pb fr x (.int k a)) (d:pb fr y (.int k b)):bf P (Oper.mk dst (.binOp .gtr t x y t') ty pos after g) fr ((.bool (decide (b<a)))):=⟨fun ds w=>by simp [execOp,c ds,d ds,eqGuard,binOp,Op.intCmp]⟩
theorem UB {x y:Operand}{t t':TypeId}{k:IntKind}{a b:Int}(c:pb fr x (.int k a)) (d:pb fr y (.int k b)):bf P (Oper.mk dst (.binOp .geq t x y t') ty pos after g) fr ((.bool (decide (b≤a)))):=⟨fun ds w=>by simp [execOp,c ds,d ds,eqGuard,binOp,Op.intCmp]⟩
theorem MH {x y:Operand}{t t':TypeId}{k:IntKind}{a b:Int}(c:pb fr x (.int k a)) (d:pb fr y (.int k b)) (e:rf fr dst ((.bool (decide (b≤a)))) V) (h:K V ds w):Md P (Oper.mk dst (.binOp .geq t x y t') ty pos after g) fr ds w K Q:=wa (UB c d) e h
theorem Zu {x y:Operand}{t t':TypeId}{k:IntKind}{a b:Int}(c:pb fr x (.int k a)) (d:pb fr y (.int k b)):bf P (Oper.mk dst (.binOp .eql t x y t') ty pos after g) fr ((.bool (decide (a=b)))):=⟨fun ds w=>by simp [execOp,c ds,d ds,eqGuard,binOp,Op.intCmp];rfl⟩
theorem Nk {x y:Operand}{t t':TypeId}{k:IntKind}{a b:Int}(c:pb fr x (.int k a)) (d:pb fr y (.int k b)) (e:rf fr dst ((.bool (decide (a=b)))) V) (h:K V ds w):Md P (Oper.mk dst (.binOp .eql t x y t') ty pos after g) fr ds w K Q:=wa (Zu c d) e h
theorem VB {x y:Operand}{t t':TypeId}{k:IntKind}{a b:Int}(c:pb fr x (.int k a)) (d:pb fr y (.int k b)):bf P (Oper.mk dst (.binOp .neq t x y t') ty pos after g) fr ((.bool (decide (a≠b)))):=⟨fun ds w=>by
  simp [execOp,c ds,d ds,eqGuard,binOp,Op.intCmp];by_cases h:a=b<;>simp [h]⟩
theorem NH {x y:Operand}{t t':TypeId}{k:IntKind}{a b:Int}(c:pb fr x (.int k a)) (d:pb fr y (.int k b)) (e:rf fr dst ((.bool (decide (a≠b)))) V) (h:K V ds w):Md P (Oper.mk dst (.binOp .neq t x y t') ty pos after g) fr ds w K Q:=wa (VB c d) e h
theorem OH {x:Operand}{t:TypeId}{k:IntKind}{a c:Int}(b:pb fr x (.int k a)) (hw:k.wrap (0 - a)=c):bf P (Oper.mk dst (.unOp .neg t x) ty pos after g) fr ((.int k c)):=by
 subst hw;exact ⟨fun ds w=>by simp [execOp,b ds,Op.unary,Op.intArith]⟩
theorem PH {x:Operand}{t:TypeId}{b:Bool}(a:pb fr x (.bool b)):bf P (Oper.mk dst (.unOp .not t x) ty pos after g) fr ((.bool (!b))):=⟨fun ds w=>by simp [execOp,a ds,Op.unary]⟩
theorem QH {x y:Operand}{t t':TypeId}{a b:List UInt8}(c:pb fr x (S a)) (d:pb fr y (S b)) (l:a.length+b.length≤9223372036854775807):bf P (Oper.mk dst (.binOp .add t x y t') ty pos after g) fr ((S (a++b))):=by
 have e:(ByteArray.mk ⟨a⟩).size=a.length:=rfl;have f:(ByteArray.mk ⟨b⟩).size=b.length:=rfl;have h:¬ (((((ByteArray.mk ⟨a⟩).size+(ByteArray.mk ⟨b⟩).size:Nat):Int)) > IntKind.i64.max):=by
  rw [e,f];unfold IntKind.max;simp [IntKind.bits,IntKind.signed];omega
 have i:ByteArray.mk ⟨a⟩++ByteArray.mk ⟨b⟩=ByteArray.mk ⟨a++b⟩:=by
  apply ByteArray.ext;rw [ByteArray.data_append];simp
 refine ⟨fun ds w=>?_⟩;have j:=c ds;have k:=d ds;simp only [execOp,j,k,S,eqGuard,binOp,Op.stringOp];rw [if_neg h,i];simp
theorem av {x y:Operand}{t t':TypeId}{a b:List UInt8}(c:pb fr x (S a)) (d:pb fr y (S b)):bf P (Oper.mk dst (.binOp .eql t x y t') ty pos after g) fr ((.bool (decide (a=b)))):=by
 refine ⟨fun ds w=>?_⟩;have f:=c ds;have h:=d ds;simp [execOp,f,h,S,eqGuard,binOp,Op.stringOp];by_cases e:a=b<;>simp [e]
theorem WB {x y:Operand}{t t':TypeId}{a b:List UInt8}(c:pb fr x (S a)) (d:pb fr y (S b)):bf P (Oper.mk dst (.binOp .neq t x y t') ty pos after g) fr ((.bool (decide (a≠b)))):=by
 refine ⟨fun ds w=>?_⟩;have f:=c ds;have h:=d ds;simp [execOp,f,h,S,eqGuard,binOp,Op.stringOp];by_cases e:a=b<;>simp [e]
theorem rk {x:Operand}{t:TypeId}{a:List UInt8}(b:P.underlying t=some .string) (c:pb fr x (S a)):bf P (Oper.mk dst (.call { callee:=.builtin .len,args:=#[x],argTypes:=#[t] }) ty pos after g) fr ((.int .i64 a.length)):=by
 refine ⟨fun ds w=>?_⟩;have d:=c ds;have e:(ByteArray.mk ⟨a⟩).size=a.length:=rfl;simp [execOp,d,resolve,invoke,builtin,S,Builtin.len_,run_underlying b,goInt,e]
theorem ld {x:Operand}{t e:TypeId}{a:Option Addr}{n c:Nat}(b:P.underlying t=some (.slice e)) (d:pb fr x (.slice a n c)):bf P (Oper.mk dst (.call { callee:=.builtin .len,args:=#[x],argTypes:=#[t] }) ty pos after g) fr ((.int .i64 n)):=by
 refine ⟨fun ds w=>?_⟩;have f:=d ds;simp [execOp,f,resolve,invoke,builtin,Builtin.len_,run_underlying b,goInt]
theorem vG {x y:Operand}{t:TypeId}{k:IntKind}{a:List UInt8}{i:Int}{c:UInt8}(d:P.underlying t=some .string) (e:pb fr x (S a)) (f:pb fr y (.int k i)) (j:0≤i) (hc:a[i.toNat]?=some c):bf P (Oper.mk dst (.index t x y) ty pos after g) fr ((.int .u8 c.toNat)):=by
 refine ⟨fun ds w=>?_⟩;have l:=e ds;have m:=f ds;have n:(ByteArray.mk ⟨a⟩)[i.toNat]?=some c:=by
  have b:i.toNat<a.length:=by
   rcases Nat.lt_or_ge i.toNat a.length with h | h
   ·exact h
   ·rw [List.getElem?_eq_none h] at hc;cases hc
  rw [getElem?_pos (ByteArray.mk ⟨a⟩) i.toNat (show i.toNat<(ByteArray.mk ⟨a⟩).size from b)];rw [List.getElem?_eq_getElem b] at hc;rw [← hc];rfl
 simp [execOp,l,m,S,Instr.index,run_underlying d,asIntOf,j,n]
theorem kA (a:List UInt8) (i j:Nat):(ByteArray.mk ⟨a⟩).extract i j=ByteArray.mk ⟨(a.take j).drop i⟩:=by
 rw [Lib.extract_eq];simp [List.drop_take]
theorem sF {x uj:Operand}{t:TypeId}{k:IntKind}{a:List UInt8}{i:Int}(b:P.underlying t=some .string) (c:pb fr x (S a)) (d:pb fr uj (.int k i))
  (e:0≤i∧i≤a.length):bf P (Oper.mk dst (.slice t x (some uj) none none) ty pos after g) fr ((S (a.drop i.toNat))):=by
 refine ⟨fun ds w=>?_⟩;have f:=c ds;have h:=d ds;have j:(ByteArray.mk ⟨a⟩).size=a.length:=rfl;simp only [execOp,f,h,S,Option.map,Instr.sliceAt];simp [run_underlying b,Instr.slice,Instr.sliceBounds,Instr.sliceBound,asIntOf,j,e,kA]
theorem tF {x cb:Operand}{t:TypeId}{b:IntKind}{a:List UInt8}{j:Int}(c:P.underlying t=some .string) (d:pb fr x (S a)) (e:pb fr cb (.int b j))
  (f:0≤j∧j≤a.length):bf P (Oper.mk dst (.slice t x none (some cb) none) ty pos after g) fr ((S (a.take j.toNat))):=by
 refine ⟨fun ds w=>?_⟩;have h:=d ds;have i:=e ds;have k:(ByteArray.mk ⟨a⟩).size=a.length:=rfl;simp only [execOp,h,i,S,Option.map,Instr.sliceAt];simp [run_underlying c,Instr.slice,Instr.sliceBounds,Instr.sliceBound,asIntOf,k,f,kA]
theorem wG {x:Operand}{i:Nat}{vs:List Value}{v:Value}(b:pb fr x (.tuple ⟨vs⟩)) (a:yc vs i v):bf P (Oper.mk dst (.extract x i) ty pos after g) fr (v):=by
 refine ⟨fun ds w=>?_⟩;have c:=b ds;unfold yc at a;simp [execOp,c,Instr.extract,a]
structure Ab (P:Program) (f:FuncId) (args:List Value) (w:World) (R:Value→World→Prop):Prop where
 out:Calls P f ⟨args⟩ w fun e w'=>match e with | .returned v=>R v w' | _=>False
theorem Ab.mono {f:FuncId}{args:List Value}{R Nd:Value→World→Prop}(h:Ab P f args w R) (a:∀ v w',R v w'→Nd v w'):Ab P f args w Nd :=
 ⟨Calls.mono h.out fun e w' he=>by
  cases e with
  | returned v=>exact a v w' he
  | panicked c=>exact he.elim
  | outgrown=>exact he.elim⟩
class Lb (P:Program) (f:FuncId):Prop where
 out:∀ args w,(callFunc f args).run P w=.ok (.enter f args) w
theorem uF {f : FuncId} {fn : Func} (a : P.funcs[f]? = some fn) (e : fn.body.isSome = true) (b : (fn.name == "runtime.NumGoroutine") = false) : Lb P f := by
 constructor;intro args w;have c:¬ fn.body=none:=by cases h:fn.body<;>simp_all
 have d : ¬ fn.name = "runtime.NumGoroutine" := by simpa using b
 simp only [callFunc,Sem.run_bind,run_program,Result.andThen_ok,a,beq_iff_eq,if_neg d,Option.isNone_iff_eq_none,if_neg c,Sem.run_pure]
def Og (fr:List Value) (dst:Option Tmp) (v:Value) (K:List Value→Prop):Prop:=∀ V,rf fr dst v V→K V
theorem rf.uniq {fr a b:List Value}{dst:Option Tmp}{v:Value}(h:rf fr dst v a) (k:rf fr dst v b):a=b:=by
 have:=(h []).symm.trans (k []);unfold F at this;simpa using this
theorem pu {v:Value}{K:List Value→Prop}(a:rf fr dst v V) (h:K V):Og fr dst v K:=fun c b=>by rw [rf.uniq b a];exact h
theorem Ih (fr:List Value) (dst:Option Tmp) (v:Value):∃ V,rf fr dst v V:=by
 cases dst with
 | none=>exact ⟨fr,La⟩
 | some n=>exact ⟨fr.set n v,ia rfl⟩
theorem uu {o:Oper}{f:FuncId}{args:List Value}{R:Value→World→Prop}(a:(execOp (F fr ds).eval o).run P w=.ok (.enter f ⟨args⟩) w) (hc:Ab P f args w R)
  (h:∀ v w',R v w'→Og fr o.dst v fun V=>K V ds w'):Md P o fr ds w K Q:=by
 constructor;intro d b;unfold Oper.wp;rw [a,Oper.upon_enter];exact Calls.mono hc.out fun e w' he=>by
  cases e with
  | returned v =>
   obtain ⟨V,rb⟩:=Ih fr o.dst v;exact rb.rw (b _ _ _ (h v w' he V rb))
  | panicked c=>exact he.elim
  | outgrown=>exact he.elim
theorem yA {f:Operand}{xs:List Operand}{tys:Array TypeId}{k:FuncId}{cap vs:List Value}(a:Lb P k) (b:pb fr f (.func (.func k) #[] ⟨cap⟩)) (c:Bk fr xs vs) :
  (execOp (F fr ds).eval (Oper.mk dst (.call { callee:=.value f,args:=⟨xs⟩,argTypes:=tys }) ty pos after g)).run P w=.ok (.enter k ⟨vs++cap⟩) w:=by
 have d:=b ds;have e:=c ds;have h:=a.out ⟨vs++cap⟩ w;simp [execOp,resolve,d,Deferred.ofValue,invoke,e,h]
theorem vb {f:Operand}{xs:List Operand}{tys:Array TypeId}{k:FuncId}{vs:List Value}{R:Value→World→Prop}(a:Lb P k) (b:pb fr f (.func (.func k) #[] #[])) (c:Bk fr xs vs)
  (hc:Ab P k vs w R) (h:∀ v w',R v w'→Og fr dst v fun V=>K V ds w'):Md P (Oper.mk dst (.call { callee:=.value f,args:=⟨xs⟩,argTypes:=tys }) ty pos after g) fr ds w K Q:=by
 refine uu (args:=vs) ?_ hc h;have:=yA (w:=w) (dst:=dst) (ty:=ty) (pos:=pos) (after:=after) (g:=g) (tys:=tys) (ds:=ds) (cap:=[]) a b c;simpa using this
theorem vu {f:Operand}{xs:List Operand}{tys:Array TypeId}{k:FuncId}{cap vs:List Value}{R:Value→World→Prop}(a:Lb P k) (b:pb fr f (.func (.func k) #[] ⟨cap⟩)) (c:Bk fr xs vs)
  (hc:Ab P k (vs++cap) w R) (h:∀ v w',R v w'→Og fr dst v fun V=>K V ds w'):Md P (Oper.mk dst (.call { callee:=.value f,args:=⟨xs⟩,argTypes:=tys }) ty pos after g) fr ds w K Q :=
 uu (yA a b c) hc h
def Ln (P:Program) (fn:Func) (R:Value→World→Prop):Exit→Act→World→Prop:=bodyPost P fn fun e w'=>match e with | .returned v=>R v w' | _=>False
theorem enter {f:FuncId}{fn:Func}{c:Code}{args frm:List Value}{R:Value→World→Prop}(a:P.funcs[f]?=some fn) (b:fn.body=some c)
  (d:args++List.replicate (fn.ntmps - args.length) undef=frm) (h:Ce P c (Ln P fn R) frm [] w):Ab P f args w R:=by
 refine ⟨calls_of_wp a b ?_⟩;subst d;have:(⟨args⟩:Array Value)++Array.replicate (fn.ntmps - args.length) undef=⟨args++List.replicate (fn.ntmps - args.length) undef⟩:=by
  apply Array.ext';simp
 have h:=h.out;simpa [F,Ln,this] using h
theorem jc {fn:Func}{R:Value→World→Prop}{t:Tmp}{v:Value}(b:fn.results=#[.tmp t]) (a:yc fr t v) (h:R v w):Ln P fn R .ret (F fr []) w:=by
 refine bodyPost_ret (v:=v) ?_ rfl h;unfold yc at a;rw [results_tmp b];simp [F,a]
theorem iv {fn:Func}{R:Value→World→Prop}{t u:Tmp}{v a:Value}(d:fn.results=#[.tmp t,.tmp u]) (b:yc fr t v) (c:yc fr u a) (h:R (.tuple #[v,a]) w):Ln P fn R .ret (F fr []) w:=by
 refine bodyPost_ret (v:=.tuple #[v,a]) ?_ rfl h;unfold yc at b c;rw [results_tmp2 d];simp [F,b,c]
theorem th {fn:Func}{R:Value→World→Prop}(a:fn.results=#[]) (h:R (.tuple #[]) w):Ln P fn R .normal (F fr []) w :=
 bodyPost_end (results_none a _ _ _) rfl h
theorem eC {fn:Func}{R:Value→World→Prop}(a:fn.results=#[]) (h:R (.tuple #[]) w):Ln P fn R .ret (F fr []) w :=
 bodyPost_ret (results_none a _ _ _) rfl h
end
end Go.wc
namespace Go.wc
open Go.RowKit
structure di (S:Nat→Prop) (w w':World):Prop where
 os:w'.os=w.os
 tape:w'.tape=w.tape
 output:w'.output=w.output
 size:w.heap.size≤w'.heap.size
 ba:∀ k,k<w.heap.size→S k→w'.heap[k]?=w.heap[k]?
def Grow (w w':World):Prop:=di (fun _=>True) w w'
theorem di.refl {S:Nat→Prop}(w:World):di S w w:=⟨rfl,rfl,rfl,Nat.le_refl _,fun _ _ _=>rfl⟩
theorem di.trans {S:Nat→Prop}{a b c:World}(h:di S a b) (k:di S b c):di S a c :=
 ⟨k.os.trans h.os,k.tape.trans h.tape,k.output.trans h.output,Nat.le_trans h.size k.size,fun i cb d=>(k.ba i (Nat.lt_of_lt_of_le cb h.size) d).trans (h.ba i cb d)⟩
theorem di.mono {S c:Nat→Prop}{a b:World}(h:di S a b) (d:∀ k,c k→S k):di c a b:=⟨h.os,h.tape,h.output,h.size,fun i cb k=>h.ba i cb (d i k)⟩
theorem Grow.keeps {S:Nat→Prop}{a b:World}(h:Grow a b):di S a b:=di.mono h fun _ _=>trivial
theorem Grow.below {a b:World}(h:Grow a b):Below a.heap.size a b:=⟨h.os,h.tape,h.output,h.size,fun k c=>h.ba k c trivial⟩
theorem Grow.alloc (w:World) (o:Obj):Grow w (w.alloc o):=⟨rfl,rfl,rfl,by simp,fun k a _=>heap_alloc_old w o k a⟩
def Kj (S:Nat→Prop) (w:World) (A:World→Prop):Prop:=∀ w',w.heap.size≤w'.heap.size→(∀ k,k<w.heap.size→S k→w'.heap[k]?=w.heap[k]?)→A w'
theorem Kj.now {S:Nat→Prop}{w:World}{A:World→Prop}(h:Kj S w A):A w:=h w (Nat.le_refl _) fun _ _ _=>rfl
theorem Kj.mono {S a:Nat→Prop}{w:World}{A:World→Prop}(h:Kj S w A) (c:∀ k,k<w.heap.size→S k→a k):Kj a w A:=fun w' d e=>h w' d fun k b f=>e k b (c k b f)
theorem Kj.and {S:Nat→Prop}{w:World}{A B:World→Prop}(h:Kj S w A) (k:Kj S w B):Kj S w fun w'=>A w'∧B w':=fun w' a b=>⟨h w' a b,k w' a b⟩
theorem Kj.keeps {S:Nat→Prop}{w w':World}{A:World→Prop}(h:Kj S w A) (k:di S w w'):Kj S w' A :=
 fun d e f=>h d (Nat.le_trans k.size e) fun b a c=>(f b (Nat.lt_of_lt_of_le a k.size) c).trans (k.ba b a c)
inductive Fb where
 | ba (b:Nat) (T:TypeId) (cs:List Value)
 | row (v:Value) (T:TypeId) (sz n:Nat) (xs:List Value)
 | map (b:Nat) (es:List MapEntry) (clock:Nat)
 | rv (b:Nat) (s:ByteArray) (pos:Nat)
 | ro (b:Nat) (T:TypeId) (cs:List Value)
 | hj (b m since:Nat) (seen:List Nat) (last:Nat)
def bj (w:World) (b:Nat) (T:TypeId) (cs:List Value):Prop:=w.heap[b]?=some (.cells ⟨cs⟩ T (0,0))
def Row (w:World) (v:Value) (T:TypeId) (sz n:Nat) (xs:List Value):Prop :=
 xs.length=n*sz∧((v=.slice none 0 0∧n=0)∨∃ g o cap cur,v=.slice (some ⟨g,o,none⟩) n cap∧w.heap[g]?=some (.cells cur T (0,0))∧n≤cap∧cap≤maxLen∧o+cap*sz≤cur.size∧(cur.toList.drop o).take (n*sz)=xs)
def Fb.block:Fb→Option Nat
 | .ba b _ _=>some b
 | .row v _ _ _ _=>v.ownBlock
 | .map b _ _=>some b
 | .rv b _ _=>some b
 | .ro b _ _=>some b
 | .hj b _ _ _ _=>some b
def Fb.holds (w:World):Fb→Prop
 | .ba b T cs=>bj w b T cs
 | .row v T sz n xs=>Row w v T sz n xs
 | .map b es clock=>w.heap[b]?=some (.map ⟨es⟩ clock)
 | .rv b s pos=>w.heap[b]?=some (.stringIter s pos)
 | .ro b T cs=>∃ z,w.heap[b]?=some (.cells ⟨cs⟩ T z)
 | .hj b m since seen last=>w.heap[b]?=some (.mapIter (some m) since ⟨seen⟩ last)
def blocks (rs:List Fb):List Nat:=rs.filterMap Fb.block
structure Sep (S Od:Nat→Prop) (w0 w:World) (rs:List Fb) (A:World→Prop):Prop where
 keeps:di S w0 w
 all:∀ r ∈ rs,r.holds w
 ki:(blocks rs).Nodup
 new:∀ b ∈ blocks rs,w0.heap.size≤b∨¬ S b
 Ci:Kj (fun b=>(Od b∨w0.heap.size≤b)∧b ∉ blocks rs) w A
theorem Dz {w:World}{r:Fb}(h:r.holds w){b:Nat}(a:r.block=some b):b<w.heap.size:=by
 cases r with
 | ba b' T cs=>simp [Fb.block] at a; subst a; exact (Array.getElem?_eq_some_iff.1 h).1
 | map b' es d=>simp [Fb.block] at a; subst a; exact (Array.getElem?_eq_some_iff.1 h).1
 | rv b' s p=>simp [Fb.block] at a; subst a; exact (Array.getElem?_eq_some_iff.1 h).1
 | hj b' m s e l=>simp [Fb.block] at a; subst a; exact (Array.getElem?_eq_some_iff.1 h).1
 | ro b' T cs=>obtain ⟨z,h⟩:=h; simp [Fb.block] at a; subst a; exact (Array.getElem?_eq_some_iff.1 h).1
 | row v T sz n xs =>
  rcases h.2 with ⟨rfl,_⟩ | ⟨g,o,cap,cur,rfl,c,_⟩
  ·simp [Fb.block,Value.ownBlock] at a
  ·simp [Fb.block,Value.ownBlock] at a;subst a;exact (Array.getElem?_eq_some_iff.1 c).1
theorem holds_of {w w':World}{r:Fb}(h:r.holds w) (a:∀ b,r.block=some b→w'.heap[b]?=w.heap[b]?):r.holds w':=by
 cases r with
 | ba b' T cs=>exact (a b' rfl).trans h
 | map b' es d=>exact (a b' rfl).trans h
 | rv b' s p=>exact (a b' rfl).trans h
 | hj b' m s e l=>exact (a b' rfl).trans h
 | ro b' T cs=>obtain ⟨z,h⟩:=h; exact ⟨z,(a b' rfl).trans h⟩
 | row v T sz n xs =>
  refine ⟨h.1,?_⟩;rcases h.2 with h | ⟨g,o,cap,cur,rfl,c,h⟩
  ·exact .inl h
  ·exact .inr ⟨g,o,cap,cur,rfl,by rw [a g rfl];exact c,h⟩
section
variable {S Od:Nat→Prop}{w0 w w':World}{rs rs':List Fb}{A B:World→Prop}
theorem Sep.a (h:Sep S Od w0 w rs A):A w:=h.Ci.now
theorem Sep.start (w:World) (S Od:Nat→Prop) (a:Kj Od w A):Sep S Od w w [] A :=
 ⟨.refl w,by simp,by simp [blocks],by simp [blocks],a.mono fun k _ b=>⟨.inl b,by simp [blocks]⟩⟩
theorem Zm {r:Fb}{b:Nat}(a:r ∈ rs) (c:r.block=some b):b ∈ blocks rs:=List.mem_filterMap.2 ⟨r,a,c⟩
theorem Sep.lt (h:Sep S Od w0 w rs A){b:Nat}(a:b ∈ blocks rs):b<w.heap.size:=by
 obtain ⟨r,c,a⟩:=List.mem_filterMap.1 a;exact Dz (h.all r c) a
theorem Sep.grow (h:Sep S Od w0 w rs A) (a:Grow w w'):Sep S Od w0 w' rs A where
 keeps:=h.keeps.trans a.keeps
 all r c:=holds_of (h.all r c) fun b d=>a.ba b (h.lt (Zm c d)) trivial
 ki:=h.ki
 new:=h.new
 Ci:=h.Ci.keeps a.keeps
theorem Sep.alloc (h:Sep S Od w0 w rs A){o:Obj}{r:Fb}(c:r.block=some w.heap.size) (f:r.holds (w.alloc o)):Sep S Od w0 (w.alloc o) (r::rs) A where
 keeps:=h.keeps.trans (Grow.alloc w o).keeps
 all r' d:=by
  rcases List.mem_cons.1 d with rfl | d
  ·exact f
  ·exact (h.grow (Grow.alloc w o)).all r' d
 ki:=by
  simp only [blocks,List.filterMap_cons,c,List.nodup_cons];exact ⟨fun hm=>Nat.lt_irrefl _ (h.lt hm),h.ki⟩
 new b a:=by
  simp only [blocks,List.filterMap_cons,c,List.mem_cons] at a;rcases a with rfl | a
  ·exact .inl h.keeps.size
  ·exact h.new b a
 Ci:=fun w' g i=>h.Ci w' (by simp at g;omega) fun k j e=>by
  have:=i k (by simp;omega) ⟨e.1,by
   simp only [blocks,List.filterMap_cons,c,List.mem_cons,not_or];exact ⟨by omega,e.2⟩⟩
  rw [this];exact heap_alloc_old w o k j
theorem Nu {r:Fb}{n:Nat}(a:yc rs n r):r ∈ rs:=List.mem_of_getElem? a
theorem Sep.get (h:Sep S Od w0 w rs A){n:Nat}{r:Fb}(a:yc rs n r):r.holds w:=h.all r (Nu a)
theorem Uz {n:Nat}{r r':Fb}(b:yc rs n r) (c:r'.block=r.block):blocks (rs.set n r')=blocks rs:=by
 unfold yc at b;unfold blocks
 induction rs generalizing n with
 | nil=>rfl
 | cons a rs d =>
  cases n with
  | zero=>simp at b; subst b; simp [List.filterMap_cons,c]
  | succ n=>simp at b; simp only [List.set_cons_succ,List.filterMap_cons,d b]
theorem Ez {n m:Nat}{r f:Fb}(rb:(blocks rs).Nodup) (d:yc rs n r) (hm:yc rs m f) (i:n≠m){b:Nat}(g:r.block=some b):f.block≠some b:=by
 unfold yc at d hm;unfold blocks at rb
 induction rs generalizing n m with
 | nil=>simp at d
 | cons a rs j =>
  have k:(List.filterMap Fb.block rs).Nodup:=by
   cases h:a.block with
   | none=>simpa [List.filterMap_cons,h] using rb
   | some c=>simp only [List.filterMap_cons,h,List.nodup_cons] at rb; exact rb.2
  cases n with
  | zero =>
   cases m with
   | zero=>exact absurd rfl i
   | succ m =>
    simp at d hm;subst d;intro e;simp only [List.filterMap_cons,g,List.nodup_cons] at rb;exact rb.1 (List.mem_filterMap.2 ⟨f,List.mem_of_getElem? hm,e⟩)
  | succ n =>
   cases m with
   | zero =>
    simp at d hm;subst hm;intro e;simp only [List.filterMap_cons,e,List.nodup_cons] at rb;exact rb.1 (List.mem_filterMap.2 ⟨r,List.mem_of_getElem? d,g⟩)
   | succ m=>simp at d hm; exact j k d hm (by omega)
theorem Sep.put (h:Sep S Od w0 w rs A){n:Nat}{r r':Fb}{b:Nat}(d:yc rs n r) (g:r.block=some b) (p:r'.block=some b) (l:tc rs n r' rs')
  (q:r'.holds w') (a:di (fun k=>k≠b) w w'):Sep S Od w0 w' rs' A:=by
 unfold tc at l;subst l;have o:=Zm (Nu d) g;have i:=Uz (r':=r') d (p.trans g.symm);refine ⟨?_,?_,?_,?_,?_⟩
 ·refine ⟨a.os.trans h.keeps.os,a.tape.trans h.keeps.tape,a.output.trans h.keeps.output,Nat.le_trans h.keeps.size a.size,fun k j f=>?_⟩;rw [a.ba k (Nat.lt_of_lt_of_le j h.keeps.size) (fun e=>by subst e;rcases h.new k o with h | h;exact absurd j (by omega);exact h f)];exact h.keeps.ba k j f
 ·intro s t;obtain ⟨m,hm⟩:=List.mem_iff_getElem?.1 t;by_cases e:n=m
  ·subst e;have u:n<rs.length:=(List.getElem?_eq_some_iff.1 d).1;rw [List.getElem?_set_self u] at hm;cases hm;exact q
  ·rw [List.getElem?_set_ne e] at hm;refine holds_of (h.all s (List.mem_of_getElem? hm)) fun c hc=>a.ba c (h.lt (Zm (List.mem_of_getElem? hm) hc)) fun v=>?_;subst v;exact Ez h.ki d hm e g hc
 ·rw [i];exact h.ki
 ·rw [i];exact h.new
 ·rw [i];exact h.Ci.keeps (a.mono fun k f e=>f.2 (by subst e;exact o))
end
def jv:TypeDesc→Bool
 | .struct _ | .array _ _=>true
 | _=>false
class Kc (P:Program) (T:TypeId) (Ef:outParam Bool) (Ed:outParam (List Value)) (n m:outParam Nat):Prop where
 nz:∃ d,P.underlying T=some d∧jv d=Ef
 inf:∃ i z,P.info? T=some i∧i.zero=some z∧z.cells=⟨Ed⟩∧i.size=n∧i.bytes=m
theorem RH {P:Program}{T:TypeId}{d:TypeDesc}{Ef:Bool}{z:Value}{Ed:List Value}{n m:Nat}(hu:P.underlying T=some d) (a:jv d=Ef) (h:(P.info? T).map (fun i=>(i.zero,i.size,i.bytes))=some (some z,n,m)) (b:z.cells=⟨Ed⟩):Kc P T Ef Ed n m:=by
 refine ⟨⟨d,hu,a⟩,?_⟩;cases cb:P.info? T with
 | none=>rw [cb] at h; cases h
 | some i =>
  rw [cb] at h;simp only [Option.map_some,Option.some.injEq,Prod.mk.injEq] at h;exact ⟨i,z,rfl,h.1,b,h.2.1,h.2.2⟩
def Kd:Value→Bool
 | .agg _ | .tuple _=>false
 | _=>true
section
variable {P:Program}{Q:Exit→Act→World→Prop}{K:List Value→List Deferred→World→Prop}{fr V:List Value}{ds:List Deferred}{w:World}
variable {dst:Option Tmp}{ty:TypeId}{pos:String}{after:Array Edge}{g:Option (Nat×Bool)}
variable {S Od:Nat→Prop}{w0:World}{rs rs':List Fb}{A:World→Prop}
variable {T:TypeId}{d:TypeDesc}{Ef:Bool}{Ed:List Value}{n m:Nat}
theorem bE (h:P.underlying T=some d):(isAgg T).run P w=.ok (jv d) w:=by
 unfold isAgg;simp only [Sem.run_bind,run_underlying h,Result.andThen_ok];cases d<;>rfl
theorem Kc.isAgg (h:Kc P T Ef Ed n m):(Go.isAgg T).run P w=.ok Ef w:=by
 obtain ⟨d,rb,rfl⟩:=h.nz;exact bE rb
theorem Kc.sizeOf (h:Kc P T Ef Ed n m):(Go.sizeOf T).run P w=.ok n w:=by
 obtain ⟨i,z,cb,b,hc,a,hm⟩:=h.inf;simp [Go.sizeOf,typeInfo,cb,a]
theorem Kc.zero (h:Kc P T Ef Ed n m):∃ z,(zeroValue T).run P w=.ok z w∧z.cells=⟨Ed⟩:=by
 obtain ⟨i,z,cb,a,hc,b,hm⟩:=h.inf;exact ⟨z,by simp [zeroValue,typeInfo,cb,a],hc⟩
def Yi (w:World) (b o:Nat) (cs:List Value):Prop:=∀ j v,cs[j]?=some v→w.cell? ⟨b,o+j,none⟩=some v
theorem ak (b o j:Nat):(⟨b,o,none⟩:Addr).add j=⟨b,o+j,none⟩:=by
 unfold Addr.add;split
 ·rename_i h;subst h;rfl
 ·rfl
theorem bj.cell {b:Nat}{cs:List Value}{j:Nat}{v:Value}(h:bj w b T cs) (a:yc cs j v):w.cell? ⟨b,j,none⟩=some v:=by
 unfold yc at a;unfold bj at h;simp [World.cell?,h,a]
theorem bj.cells {b:Nat}{cs:List Value}(h:bj w b T cs):Yi w b 0 cs:=fun j v a=>by
 rw [Nat.zero_add];exact h.cell a
theorem Yi.one {b o:Nat}{cs:List Value}{j:Nat}{v:Value}(h:Yi w b o cs) (a:yc cs j v):w.cell? ⟨b,o+j,none⟩=some v:=h j v a
theorem zd (a:Kc P T Ef Ed n m) (c:Sep S Od w0 w rs A)
  (h:∀ b w',w.heap.size≤b→Sep S Od w0 w' (.ba b T Ed::rs) A→Og fr dst (.pointer (some ⟨b,0,none⟩)) fun V=>K V ds w'):Md P (Oper.mk dst (.alloc T) ty pos after g) fr ds w K Q:=by
 obtain ⟨z,d,hc⟩:=a.zero (w:=w);obtain ⟨V,rb⟩:=Ih fr dst (.pointer (some ⟨w.heap.size,0,none⟩));refine bh (v:=.pointer (some ⟨w.heap.size,0,none⟩)) (w':=w.alloc (.cells ⟨Ed⟩ T)) ?_ rb (h _ _ (Nat.le_refl _) (c.alloc rfl (heap_alloc_new w _)) V rb);simp [execOp,Instr.alloc,d,newVar,newRow,hc]
theorem ug {x:Operand}{v:Value}{cs:List Value}(a:pb fr x v) (hc:v.cells=⟨cs⟩) (c:Sep S Od w0 w rs A)
  (h:∀ b w',w.heap.size≤b→Sep S Od w0 w' (.ba b T cs::rs) A→Og fr dst (.pointer (some ⟨b,0,none⟩)) fun V=>K V ds w'):Md P (Oper.mk dst (.box T x) ty pos after g) fr ds w K Q:=by
 obtain ⟨V,rb⟩:=Ih fr dst (.pointer (some ⟨w.heap.size,0,none⟩));refine bh (v:=.pointer (some ⟨w.heap.size,0,none⟩)) (w':=w.alloc (.cells ⟨cs⟩ T)) ?_ rb (h _ _ (Nat.le_refl _) (c.alloc rfl (heap_alloc_new w _)) V rb);simp [execOp,Instr.box,a ds,newVar,newRow,hc]
structure Yj (P:Program) (o:Oper) (fr:List Value) (w:World) (v:Value):Prop where
 out:∀ ds,(execOp (F fr ds).eval o).run P w=.ok (.value v) w
theorem rq {o:Oper}{v:Value}(hu:Yj P o fr w v) (a:rf fr o.dst v V) (h:K V ds w):Md P o fr ds w K Q:=bh (hu.out ds) a h
theorem Ca {x:Operand}{b o:Nat}{v:Value}(a:Kc P T false Ed n m) (c:pb fr x (.pointer (some ⟨b,o,none⟩))) (hc:w.cell? ⟨b,o,none⟩=some v):Yj P (Oper.mk dst (.load T x) ty pos after g) fr w v :=
 ⟨fun ds=>by simp [execOp,Instr.loadAt,c ds,Instr.sureAddr,loadVar,a.isAgg,hc]⟩
theorem Sc {x:Operand}{b o:Nat}{v:Value}(a:Kc P T false Ed n m) (c:pb fr x (.pointer (some ⟨b,o,none⟩))) (hc:w.cell? ⟨b,o,none⟩=some v)
  (d:rf fr dst v V) (h:K V ds w):Md P (Oper.mk dst (.load T x) ty pos after g) fr ds w K Q:=rq (Ca a c hc) d h
theorem qf {x:Operand}{b o:Nat}{cs:List Value}(a:Kc P T true Ed n m) (d:pb fr x (.pointer (some ⟨b,o,none⟩))) (hc:Yi w b o cs) (e:cs.length=n):Yj P (Oper.mk dst (.load T x) ty pos after g) fr w (.agg ⟨cs⟩):=⟨fun ds=>by
 have c:=run_loadCells_list (P:=P) w ⟨b,o,none⟩ cs (fun j v f=>by rw [ak];exact hc j v f);rw [e] at c;simp [execOp,Instr.loadAt,d ds,Instr.sureAddr,loadVar,a.isAgg,a.sizeOf,c]⟩
theorem xi {x:Operand}{b o:Nat}{cs:List Value}(a:Kc P T true Ed n m) (c:pb fr x (.pointer (some ⟨b,o,none⟩))) (hc:Yi w b o cs) (d:cs.length=n)
  (e:rf fr dst (.agg ⟨cs⟩) V) (h:K V ds w):Md P (Oper.mk dst (.load T x) ty pos after g) fr ds w K Q:=rq (qf a c hc d) e h
inductive gf:List Value→Nat→List Value→List Value→Prop where
 | z {cs:List Value} {o:Nat}:gf cs o [] cs
 | s {cs cs1 a:List Value} {o:Nat} {v:Value} {vs:List Value} (h:tc cs o v cs1) (b:o<cs.length) (k:gf cs1 (o+1) vs a):gf cs o (v::vs) a
theorem gf.eq {cs:List Value}{o:Nat}{vs b:List Value}(h:gf cs o vs b):o+vs.length≤cs.length∨vs=[]:=by
 induction h with
 | z=>exact .inr rfl
 | @s cs cs1 b o v vs h c k a =>
  left;unfold tc at h;subst h;rcases a with a | rfl
  ·simp at a ⊢;omega
  ·simp;omega
theorem gf.res {cs:List Value}{o:Nat}{vs a:List Value}(h:gf cs o vs a) (e:o≤cs.length):a=cs.take o++vs++cs.drop (o+vs.length):=by
 induction h with
 | z=>simp
 | @s cs cs1 a o v vs h b k c =>
  unfold tc at h;subst h;rw [c (by simp;omega)];have qa:(cs.set o v).take (o+1)=cs.take o++[v]:=by
   rw [List.take_set,List.take_add_one,List.getElem?_eq_getElem b];rw [List.set_append_right _ _ (by simp;omega)];simp [Nat.min_eq_left (Nat.le_of_lt b)]
  rw [qa];have d:(cs.set o v).drop (o+1+vs.length)=cs.drop (o+(v::vs).length):=by
   rw [List.drop_set_of_lt (by omega)];congr 1;simp;omega
  rw [d];simp
theorem bu {v:Value}(h:Kd v=true):v.oneCell'=true:=by cases v<;>first | rfl | simp [Kd] at h
theorem oD {b:Nat}{cs:List Value}(c:bj w b T cs){o:Nat}{vs d:List Value}(a:gf cs o vs d) (e:o≤cs.length) (f:vs.all Kd=true) :
  ∃ w',(storeCells ⟨b,o,none⟩ vs).run P w=.ok () w'∧bj w' b T d∧di (fun k=>k≠b) w w':=by
 have hle:o+0+vs.length≤(⟨cs⟩:Array Value).size:=by
  rcases a.eq with h | rfl
  ·simpa using h
  ·simpa using e
 refine ⟨_,run_storeCells_at P b o T vs 0 ⟨cs⟩ w c hle fun v g=>bu (List.all_eq_true.1 f v g),?_,?_⟩
 ·rw [a.res e];exact setRow_heap w b ⟨cs⟩ _ T (0,0) c
 ·exact ⟨rfl,rfl,rfl,by simp [World.setRow],fun k i a=>setRow_other w b k _ a⟩
theorem wo {x y:Operand}{b o k:Nat}{v:Value}{cs a vs:List Value}(i:Kc P T Ef Ed n m) (j:pb fr x (.pointer (some ⟨b,o,none⟩))) (l:pb fr y v) (c:v.cells=⟨vs⟩) (p:vs.length=n) (q:vs.all Kd=true)
  (d:Sep S Od w0 w rs A) {e:TypeId}(f:yc rs k (.ba b e cs)) (r:gf cs o vs a) (s:(decide (o≤cs.length))=true) (t:tc rs k (.ba b e a) rs')
  (rb:rf fr dst undef V) (h:∀ w',Sep S Od w0 w' rs' A→K V ds w'):Md P (Oper.mk dst (.store T x y) ty pos after g) fr ds w K Q:=by
 obtain ⟨w',u,z,B⟩:=oD (P:=P) (d.get f) r (of_decide_eq_true s) q;refine Oy (w':=w') ?_ rb (h w' (d.put f rfl rfl t z B));have qa:v.cells.toList=vs:=by rw [c]
 have C:¬ (v.cells.size≠n):=by rw [c];simpa using p
 have D:=i.sizeOf (w:=w);simp only [execOp,Instr.storeAt,j ds,l ds,Instr.sureAddr,storeVar,Sem.run_bind,D,Result.andThen_ok,if_neg C,qa,u,Sem.run_pure]
class jd (P:Program) (T:TypeId) (i:Nat) (off:outParam Nat):Prop where
 out:∀ b o w,(Instr.fieldAt T (.pointer (some ⟨b,o,none⟩)) i).run P w=.ok (.pointer (some ⟨b,o+off,none⟩)) w
theorem nd {c:Array Field}{i off:Nat}{f:Field}{d:TypeId}{e:List Value}{a g:Nat}{h:Bool}(j:P.underlying T=some (.struct c)) (k:c[i]?=some f) (l:f.offset=off) (m:f.type=d) (n:Kc P d h e a g) (p:(a == 0)=false):jd P T i off:=by
 constructor;intro b o w;have q:¬ a=0:=by simpa using p
 simp [Instr.fieldAt,run_underlying j,k,Instr.sureAddr,fieldPlace,m,n.sizeOf,q,ak,l]
theorem zh {x:Operand}{b o i off a:Nat}(c:jd P T i off) (d:pb fr x (.pointer (some ⟨b,o,none⟩))) (e:o+off=a):bf P (Oper.mk dst (.fieldAddr T x i) ty pos after g) fr ((.pointer (some ⟨b,a,none⟩))):=by
 subst e;exact ⟨fun ds w=>by simp [execOp,d ds,c.out]⟩
theorem Gm {x:Operand}{b o i off a:Nat}(c:jd P T i off) (d:pb fr x (.pointer (some ⟨b,o,none⟩))) (e:o+off=a) (f:rf fr dst ((.pointer (some ⟨b,a,none⟩))) V) (h:K V ds w):Md P (Oper.mk dst (.fieldAddr T x i) ty pos after g) fr ds w K Q:=wa (zh c d e) f h
theorem vF {x:Operand}{i off:Nat}{cs:List Value}{v:Value}{a:Array Field}{f:Field}{b:TypeId}{d:List Value}{e h:Nat}(j:P.underlying T=some (.struct a)) (k:a[i]?=some f) (l:f.offset=off) (m:f.type=b) (n:Kc P b false d e h)
  (o:pb fr x (.agg ⟨cs⟩)) (c:yc cs off v):bf P (Oper.mk dst (.field T x i) ty pos after g) fr (v):=by
 subst l m;unfold yc at c;refine ⟨fun ds w=>?_⟩;simp [execOp,o ds,Instr.field,run_underlying j,k,asAgg,part,n.isAgg,c]
theorem YA {x:Operand}{i off:Nat}{cs:List Value}{v:Value}{a:Array Field}{f:Field}{b:TypeId}{c:List Value}{d e:Nat}(j:P.underlying T=some (.struct a)) (k:a[i]?=some f) (l:f.offset=off) (m:f.type=b) (n:Kc P b false c d e)
  (o:pb fr x (.agg ⟨cs⟩)) (p:yc cs off v) (q:rf fr dst (v) V) (h:K V ds w):Md P (Oper.mk dst (.field T x i) ty pos after g) fr ds w K Q:=wa (vF j k l m n o p) q h
theorem Er {x y:Operand}{b o len cap:Nat}{k:IntKind}{i:Int}{e:TypeId}{a:Nat}(c:P.underlying T=some (.slice e)) (d:Kc P e Ef Ed n m) (f:pb fr x (.slice (some ⟨b,o,none⟩) len cap)) (h:pb fr y (.int k i)) (cb:0≤i∧i<len) (j:o+i.toNat*n=a):bf P (Oper.mk dst (.indexAddr T x y) ty pos after g) fr ((.pointer (some ⟨b,a,none⟩))):=by
 subst j;refine ⟨fun ds w=>?_⟩;simp [execOp,f ds,h ds,Instr.indexAt,asIntOf,run_underlying c,cb,d.sizeOf,ak]
theorem qi {x:Operand}{a:Addr}(b:pb fr x (.pointer (some a))):bf P (Oper.mk dst (.nilCheck x) ty pos after g) fr ((.pointer (some a))):=⟨fun ds w=>by simp [execOp,b ds]⟩
theorem ln {x:Operand}{a:Addr}(b:pb fr x (.pointer (some a))) (c:rf fr dst ((.pointer (some a))) V) (h:K V ds w):Md P (Oper.mk dst (.nilCheck x) ty pos after g) fr ds w K Q:=wa (qi b) c h
end
end Go.wc
namespace Go.wc
open Go.RowKit
section
variable {P:Program}{Q:Exit→Act→World→Prop}{K:List Value→List Deferred→World→Prop}{fr V:List Value}{ds:List Deferred}{w:World}
variable {dst:Option Tmp}{ty:TypeId}{pos:String}{after:Array Edge}{g:Option (Nat×Bool)}
variable {S Od:Nat→Prop}{w0:World}{rs rs':List Fb}{A:World→Prop}
variable {T:TypeId}{d:TypeDesc}{Ef:Bool}{Ed:List Value}{n m:Nat}
inductive ha:List Fb→Nat→List Fb→Prop where
 | z {r:Fb} {rs:List Fb}:ha (r::rs) 0 rs
 | s {r:Fb} {rs rs':List Fb} {k:Nat} (h:ha rs k rs'):ha (r::rs) (k+1) (r::rs')
theorem ha.mem {k:Nat}(h:ha rs k rs'):∀ r ∈ rs',r ∈ rs:=by
 induction h with
 | z=>intro r a; exact List.mem_cons_of_mem _ a
 | s _ b=>intro r a; rcases List.mem_cons.1 a with rfl | a; exact List.mem_cons_self; exact List.mem_cons_of_mem _ (b r a)
theorem ha.sub {k:Nat}(h:ha rs k rs'):rs'.Sublist rs:=by
 induction h with
 | z=>exact List.sublist_cons_self _ _
 | s _ a=>exact a.cons_cons _
theorem Sep.drop {k:Nat}(h:Sep S Od w0 w rs A) (a:ha rs k rs'):Sep S Od w0 w rs' A where
 keeps:=h.keeps
 all r d:=h.all r (a.mem r d)
 ki:=(a.sub.filterMap _).nodup h.ki
 new b e:=h.new b ((a.sub.filterMap _).subset e)
 Ci:=h.Ci.mono fun _ _ c=>⟨c.1,fun hm=>c.2 ((a.sub.filterMap _).subset hm)⟩
theorem Sep.freeze {k:Nat}{r:Fb}{B:World→Prop}(h:Sep S Od w0 w rs A) (a:yc rs k r) (d:ha rs k rs') (f:∀ b,r.block=some b→Od b∨w0.heap.size≤b) (g:∀ w,r.holds w→B w) :
  Sep S Od w0 w rs' fun w=>A w∧B w where
 keeps:=(h.drop d).keeps
 all:=(h.drop d).all
 ki:=(h.drop d).ki
 new:=(h.drop d).new
 Ci:=(h.drop d).Ci.and fun w' l i=>g w' (holds_of (h.get a) fun b e=>i b (h.lt (Zm (Nu a) e)) ⟨f b e,by
  intro hm;have:blocks rs'=(blocks rs).erase b∨True:=.inr trivial;clear this;have rb:=h.ki;clear g f l i h;unfold blocks at hm rb;unfold yc at a
  induction d with
  | z=>simp at a; subst a; simp only [List.filterMap_cons,e,List.nodup_cons] at rb; exact rb.1 hm
  | @s r' rs rs' k d j =>
   simp at a;cases hc:r'.block with
   | none=>simp only [List.filterMap_cons,hc] at hm rb; exact j a hm rb
   | some c =>
    simp only [List.filterMap_cons,hc,List.nodup_cons,List.mem_cons] at hm rb;rcases hm with rfl | hm
    ·exact rb.1 (List.mem_filterMap.2 ⟨r,List.mem_of_getElem? a,e⟩)
    ·exact j a hm rb.2⟩)
inductive Dc (fr:List Value):Nat→List (Nat×Operand)→List Value→Prop where
 | z {i:Nat}:Dc fr i [] []
 | s {i:Nat} {x:Operand} {v:Value} {xs:List (Nat×Operand)} {vs:List Value} (h:pb fr x v) (hc:Kd v=true) (t:Dc fr (i+1) xs vs):Dc fr i ((i,x)::xs) (v::vs)
theorem Dc.eval {i:Nat}{xs:List (Nat×Operand)}{vs:List Value}(h:Dc fr i xs vs):xs.map (fun p=>(p.1,(F fr ds).eval p.2))=(vs.zipIdx i).map fun p=>(p.2,p.1):=by
 induction h with
 | z=>rfl
 | s h _ _ a=>simp [h ds,a]
theorem Dc.cell {i:Nat}{xs:List (Nat×Operand)}{vs:List Value}(h:Dc fr i xs vs):∀ v ∈ vs,Kd v=true:=by
 induction h with
 | z=>simp
 | s _ hc _ b=>intro v a; rcases List.mem_cons.1 a with rfl | a; exact hc; exact b v a
theorem Kw {v:Value}(h:Kd v=true):v.cells=#[v]:=by cases v<;>first | rfl | simp [Kd] at h
theorem lA (pl:Nat→Option (Nat×Nat)) (a:∀ i,pl i=some (i,1)):∀ (vs:List Value) (i:Nat) (cs:List Value),(∀ v ∈ vs,Kd v=true)→i+vs.length≤cs.length →
  Instr.fill pl ⟨cs⟩ ((vs.zipIdx i).map fun p=>(p.2,p.1))=some ⟨cs.take i++vs++cs.drop (i+vs.length)⟩
 | [],i,cs,_,h=>by simp [Instr.fill]
 | v::vs,i,cs,b,h=>by
  have hc:=Kw (b v (by simp));have d:i<cs.length:=by simp at h;omega
  have e:=lA pl a vs (i+1) (cs.set i v) (fun u hu=>b u (by simp [hu])) (by simp at h ⊢;omega);simp only [List.zipIdx_cons,List.map_cons,Instr.fill,a,hc];have Qa:¬ ((#[v].size≠1 || i+#[v].size > (⟨cs⟩:Array Value).size)=true):=by simp;omega
  rw [if_neg Qa];have qa:(#[v].zipIdx.foldl (fun cs (c,j)=>cs.setIfInBounds (i+j) c) (⟨cs⟩:Array Value))=⟨cs.set i v⟩:=by
   simp [Array.zipIdx]
  rw [qa,e];have f:(cs.set i v).take (i+1)=cs.take i++[v]:=by
   rw [List.take_set,List.take_add_one,List.getElem?_eq_getElem d];rw [List.set_append_right _ _ (by simp;omega)];simp [Nat.min_eq_left (Nat.le_of_lt d)]
  have g:(cs.set i v).drop (i+1+vs.length)=cs.drop (i+(v::vs).length):=by
   rw [List.drop_set_of_lt (by omega)];congr 1;simp;omega
  rw [f,g];simp
theorem Lf {e:TypeId}{len:Nat}{xs:List (Nat×Operand)}{vs:List Value}(l:P.underlying T=some (.slice e)) (a:Kc P e Ef Ed 1 m) (c:Dc fr 0 xs vs) (d:vs.length=len) (n:(decide (len≤16777216))=true) (o:Sep S Od w0 w rs A)
  (h:∀ b w',w.heap.size≤b→Sep S Od w0 w' (.ba b e vs::rs) A→Og fr dst (.slice (some ⟨b,0,none⟩) len len) fun V=>K V ds w'):Md P (Oper.mk dst (.buildSlice T len ⟨xs⟩) ty pos after g) fr ds w K Q:=by
 obtain ⟨V,rb⟩:=Ih fr dst (.slice (some ⟨w.heap.size,0,none⟩) len len);refine bh (v:=.slice (some ⟨w.heap.size,0,none⟩) len len) (w':=w.alloc (.cells ⟨vs⟩ e)) ?_ rb (h _ _ (Nat.le_refl _) (o.alloc rfl (heap_alloc_new w _)) V rb);obtain ⟨z,q,hc⟩:=a.zero (w:=w);have r:=a.sizeOf (w:=w);have s:¬ (len*1 > 2 ^ 24):=by have:=of_decide_eq_true n;omega
 have t:=c.eval (ds:=ds);have f:∀ cs:Array Value,cs.size=len→Instr.fill (fun i=>some (i*1,1)) cs ((vs.zipIdx 0).map fun p=>(p.2,p.1))=some ⟨vs⟩:=by
  intro cs j;have:=lA (fun i=>some (i*1,1)) (fun i=>by rw [Nat.mul_one]) vs 0 cs.toList c.cell (by simp [d,j]);rw [this,List.drop_eq_nil_of_le (by simp [d,j])];simp
 have u:((⟨xs⟩:Array (Nat×Operand)).map fun (i,x)=>(i,(F fr ds).eval x)).toList=(vs.zipIdx 0).map fun p=>(p.2,p.1):=by
  simp only [Array.toList_map];exact t
 unfold execOp;simp only [Instr.buildSlice,Sem.run_bind,run_underlying l,Result.andThen_ok,r,if_neg s,u];by_cases k:len*1=0
 ·simp only [if_pos k,Sem.run_bind,Sem.run_pure,Result.andThen_ok];rw [f _ (by simp)];simp [newRow]
 ·simp only [if_neg k,Sem.run_bind,Sem.run_pure,Result.andThen_ok,q];rw [f _ (by simp)];simp [newRow]
theorem Sep.row {k:Nat}{v s:Value}{sz x:Nat}{xs y:List Value}{w':World}(f:Sep S Od w0 w rs A) (g:yc rs k (.row v T sz n xs)) (D:tc rs k (.row s T sz x y) rs') (H:Row w' s T sz x y)
  (p:di (fun b=>some b≠v.ownBlock) w w') (q:s.ownBlock=v.ownBlock∨∃ b,s.ownBlock=some b∧w.heap.size≤b):Sep S Od w0 w' rs' A:=by
 unfold tc at D;subst D;have z:∀ b,v.ownBlock=some b→b ∈ blocks rs:=fun b d=>Zm (Nu g) d;have B:∀ b ∈ blocks (rs.set k (.row s T sz x y)),(b ∈ blocks rs)∨(s.ownBlock=some b∧w.heap.size≤b):=by
  intro b d;obtain ⟨r,u,o⟩:=List.mem_filterMap.1 d;rcases List.mem_or_eq_of_mem_set u with hm | rfl
  ·exact .inl (Zm hm o)
  ·rcases q with q | ⟨c,hc,hle⟩
   ·exact .inl (z b (q ▸ o))
   ·have:c=b:=by simpa [Fb.block,hc] using o
    subst this;exact .inr ⟨hc,hle⟩
 have K:∀ b ∈ blocks rs,b ∈ blocks (rs.set k (.row s T sz x y))∨v.ownBlock=some b:=by
  intro b d;obtain ⟨r,u,o⟩:=List.mem_filterMap.1 d;obtain ⟨j,C⟩:=List.mem_iff_getElem?.1 u;by_cases e:k=j
  ·subst e;unfold yc at g;rw [g] at C;cases C;exact .inr o
  ·exact .inl (Zm (r:=r) (List.mem_of_getElem? (i:=j) (by rw [List.getElem?_set_ne e];exact C)) o)
 refine ⟨?_,?_,?_,?_,?_⟩
 ·refine ⟨p.os.trans f.keeps.os,p.tape.trans f.keeps.tape,p.output.trans f.keeps.output,Nat.le_trans f.keeps.size p.size,fun b d t=>?_⟩;rw [p.ba b (Nat.lt_of_lt_of_le d f.keeps.size) (fun e=>by rcases f.new b (z b e.symm) with h | h;exact absurd d (by omega);exact h t)];exact f.keeps.ba b d t
 ·intro M N;obtain ⟨j,hm⟩:=List.mem_iff_getElem?.1 N;by_cases e:k=j
  ·subst e;have m:k<rs.length:=(List.getElem?_eq_some_iff.1 g).1;rw [List.getElem?_set_self m] at hm;cases hm;exact H
  ·rw [List.getElem?_set_ne e] at hm;refine holds_of (f.all M (List.mem_of_getElem? hm)) fun c hc=>p.ba c (f.lt (Zm (List.mem_of_getElem? hm) hc)) fun P=>?_;exact Ez f.ki g hm e (b:=c) P.symm hc
 ·have rb:=f.ki;have m:=fun b (d:b ∈ blocks rs)=>f.lt d;clear B K z;unfold yc at g
  revert g rb m
  generalize rs=l;unfold blocks;intro g rb m
  induction l generalizing k with
  | nil=>simp at g
  | cons a l F =>
   cases k with
   | zero =>
    simp at g;subst g;simp only [List.set_cons_zero,List.filterMap_cons,Fb.block] at rb m ⊢;rcases q with q | ⟨c,hc,hle⟩
    ·rw [q];exact rb
    ·rw [hc];cases d:v.ownBlock with
     | none =>
      rw [d] at rb m;exact List.nodup_cons.2 ⟨fun hm=>by have:=m c hm;omega,rb⟩
     | some b =>
      rw [d] at rb m;exact List.nodup_cons.2 ⟨fun hm=>by have:=m c (List.mem_cons_of_mem _ hm);omega,(List.nodup_cons.1 rb).2⟩
   | succ k =>
    simp at g;simp only [List.set_cons_succ,List.filterMap_cons] at rb m ⊢;cases G:a.block with
    | none=>rw [G] at rb m; exact F g rb m
    | some c =>
     rw [G] at rb m;simp only [List.nodup_cons] at rb ⊢;refine ⟨fun hm=>?_,F g rb.2 fun b d=>m b (List.mem_cons_of_mem _ d)⟩;obtain ⟨r,u,o⟩:=List.mem_filterMap.1 hm;rcases List.mem_or_eq_of_mem_set u with hm | rfl
     ·exact rb.1 (List.mem_filterMap.2 ⟨r,hm,o⟩)
     ·rcases q with q | ⟨c',Q,hle⟩
      ·exact rb.1 (List.mem_filterMap.2 ⟨_,List.mem_of_getElem? g,by rw [← o];exact q.symm⟩)
      ·have:c'=c:=by simpa [Fb.block,Q] using o
       have:=m c (by simp);omega
 ·intro b d;rcases B b d with h | h
  ·exact f.new b h
  ·exact .inl (Nat.le_trans f.keeps.size h.2)
 ·intro R U W;refine f.Ci R (Nat.le_trans p.size U) fun b d t=>?_;rw [W b (Nat.lt_of_lt_of_le d p.size) ⟨t.1,fun hm=>by rcases B b hm with h | h;exact t.2 h;exact absurd d (by omega)⟩];exact p.ba b d fun e=>t.2 (z b e.symm)
end
section
variable {P:Program}{Q:Exit→Act→World→Prop}{K:List Value→List Deferred→World→Prop}{fr V:List Value}{ds:List Deferred}{w:World}
variable {dst:Option Tmp}{ty:TypeId}{pos:String}{after:Array Edge}{g:Option (Nat×Bool)}
variable {S Od:Nat→Prop}{w0:World}{rs rs':List Fb}{A:World→Prop}
variable {T:TypeId}{d:TypeDesc}{Ef:Bool}{Ed:List Value}{n m:Nat}
theorem xC {t ty:TypeId}{sz bytes:Nat}(q:P.underlying t=some (.slice T)) (M:Kc P T Ef Ed sz bytes) (N:Ed.length=sz) (rc:0<sz)
  {v:Value}{xs:List Value}(l:Row w v T sz n xs) {a:Addr}{m c:Nat}{news:List Value}(f:news.length=m*sz) (s:∀ j u,news[j]?=some u→w.cell? (a.add j)=some u) (Q:∀ u ∈ news,u.oneCell'=true)
  (C:n+m≤maxLen) (D:(n+m)*bytes≤140737488355328) :
  ∃ r w',(Builtin.append_ #[t,t] ty #[v,.slice (some a) m c]).run P w=.ok r w'∧Row w' r T sz (n+m) (xs++news)∧di (fun b=>some b≠v.ownBlock) w w' ∧
   (r.ownBlock=v.ownBlock∨∃ b,r.ownBlock=some b∧w.heap.size≤b):=by
 obtain ⟨i,z,cb,F,R,G,S⟩:=M.inf;have U:z.cells.size=i.size:=by rw [R,G];simpa using N
 subst G;subst S;have fd:n+m≤9223372036854775807:=by simp only [maxLen] at C;omega
 have hlen:(xs++news).length=(n+m)*i.size:=by rw [List.length_append,l.1,f,Nat.add_mul]
 have grown:∀ (d:Nat),d<n+m→∀ (row:Option Nat),
   Row (w.drew.alloc (.cells (xs.toArray++news.toArray++Builtin.zeroCells z.cells (grownCap w (n+m) d T - (n+m))) T)) (.slice (some ⟨w.heap.size,0,none⟩) (n+m) (grownCap w (n+m) d T)) T i.size (n+m) (xs++news) ∧
   di (fun b=>some b≠row) w (w.drew.alloc (.cells (xs.toArray++news.toArray++Builtin.zeroCells z.cells (grownCap w (n+m) d T - (n+m))) T)):=by
  intro d id row;have W:=grownCap_ge w (n+m) d T;have x:grownCap w (n+m) d T≤maxLen:=grownCap_le_maxLen w (n+m) d T C;refine ⟨⟨hlen,.inr ⟨w.heap.size,0,_,_,rfl,heap_alloc_new w.drew _,W,x,?_,?_⟩⟩,⟨rfl,rfl,rfl,by simp,fun k y _=>heap_alloc_old w.drew _ k y⟩⟩
  ·simp only [Array.size_append,List.size_toArray,size_zeroCells,U,l.1,f,← Nat.add_mul,Nat.zero_add];exact Nat.mul_le_mul_right _ (by omega)
  ·simp only [Array.toList_append,List.append_assoc,List.drop_zero];rw [← List.append_assoc,← hlen];exact List.take_left
 rcases l.2 with ⟨rfl,rfl⟩ | ⟨g,o,cap,cur,rfl,A,md,x,rd,H⟩
 ·have X:xs=[]:=List.eq_nil_of_length_eq_zero (by simpa using l.1);subst X;by_cases hm:m=0
  ·subst hm;have Y:news=[]:=List.eq_nil_of_length_eq_zero (by simpa using f);subst Y;refine ⟨.slice none 0 0,w,?_,⟨by simp,.inl ⟨rfl,rfl⟩⟩,.refl w,.inl rfl⟩;simp [Builtin.append_,run_underlying q,sizeOf,typeInfo,cb,Builtin.lenOf,Builtin.firstCells,loadCells,loadCellsFrom]
  ·have p:=run_append_nil (P:=P) w t ty T i z q cb F a m c news f s (by omega) (by omega) (by have Z:=D;simp only [Nat.zero_add] at Z;omega);have h:=grown 0 (by omega) (Value.ownBlock (.slice none 0 0));simp only [Nat.zero_add,List.nil_append,Array.empty_append] at h ⊢;exact ⟨_,_,p,h.1,h.2,.inr ⟨_,rfl,Nat.le_refl _⟩⟩
 ·by_cases B:n+m≤cap
  ·have hmul:n*i.size+news.length≤cap*i.size:=by rw [f,← Nat.add_mul];exact Nat.mul_le_mul_right _ B
   have gc:o+n*i.size+news.length≤cur.size:=by omega
   have p:(Builtin.append_ #[t,t] ty #[.slice (some ⟨g,o,none⟩) n cap,.slice (some a) m c]).run P w =
     .ok (.slice (some ⟨g,o,none⟩) (n+m) cap) (w.setRow g (cur.toList.take (o+n*i.size)++news++cur.toList.drop (o+n*i.size+news.length)).toArray):=by
    have hc:=run_firstCells_some (P:=P) w i.size m a m c news f s;have K:=run_storeCells_at P g (o+n*i.size) T news 0 cur w A (by simpa using gc) Q;simp only [Nat.add_zero] at K;simp [Builtin.append_,run_underlying q,sizeOf,typeInfo,cb,Builtin.lenOf,B,hc,ak,K]
   refine ⟨_,_,p,⟨hlen,.inr ⟨g,o,cap,_,rfl,setRow_heap w g cur _ T _ A,B,x,?_,?_⟩⟩,⟨rfl,rfl,rfl,by simp [World.setRow],fun k _ y=>setRow_other w g k _ (fun e=>y (by simp [Value.ownBlock,e]))⟩,.inl rfl⟩
   ·simp only [List.size_toArray,List.length_append,List.length_take,List.length_drop,Array.length_toList];omega
   ·rw [← hlen,← H];have qa:(cur.toList.take (o+n*i.size)).drop o=(cur.toList.drop o).take (n*i.size):=by
     rw [List.drop_take];congr 1;omega
    have lc:o≤(cur.toList.take (o+n*i.size)).length:=by simp;omega
    rw [List.append_assoc,List.drop_append_of_le_length lc,qa,← List.append_assoc];exact List.take_left
  ·have holds:∀ j u,xs[j]?=some u→w.cell? ((⟨g,o,none⟩:Addr).add j)=some u:=by
    intro j u hu;rw [ak,cell_of_row w g (o+j) cur T (0,0) A];rw [← H,List.getElem?_take] at hu;split at hu
    ·rw [List.getElem?_drop] at hu;simpa using hu
    ·cases hu
   have p:=run_append_grow (P:=P) w t ty T i z q cb F ⟨g,o,none⟩ n cap xs l.1 holds a m c news f s (by omega) (by omega) (growslice_fits (by omega) D);have h:=grown cap (by omega) (Value.ownBlock (.slice (some ⟨g,o,none⟩) n cap));exact ⟨_,_,p,h.1,h.2,.inr ⟨_,rfl,Nat.le_refl _⟩⟩
theorem Sep.Ph (h:Sep S Od w0 w rs A) (T:TypeId) (sz:Nat):Sep S Od w0 w (.row (.slice none 0 0) T sz 0 []::rs) A where
 keeps:=h.keeps
 all r a:=by
  rcases List.mem_cons.1 a with rfl | a
  ·exact ⟨by simp,.inl ⟨rfl,rfl⟩⟩
  ·exact h.all r a
 ki:=h.ki
 new:=h.new
 Ci:=h.Ci
theorem Uq {t:TypeId}{s x:Operand}{v:Value}{sz bytes k b o e c:Nat}{xs news:List Value}(p:P.underlying t=some (.slice T)) (q:Kc P T Ef Ed sz bytes) (f:(Ed.length == sz && decide (0<sz))=true)
  (r:pb fr s v) (y:pb fr x (.slice (some ⟨b,o,none⟩) e c)) (i:Sep S Od w0 w rs A) (l:yc rs k (.row v T sz n xs)) (z:Yi w b o news) (hlen:news.length=e*sz) (B:news.all Kd=true)
  (m:n+e≤4294967296∧bytes≤4096)
  (h:∀ d w' rs',tc rs k (.row d T sz (n+e) (xs++news)) rs'→Sep S Od w0 w' rs' A→Og fr dst d fun V=>K V ds w') :
  Md P (Oper.mk dst (.call { callee:=.builtin .append,args:=#[s,x],argTypes:=#[t,t] }) ty pos after g) fr ds w K Q:=by
 simp only [Bool.and_eq_true,beq_iff_eq,decide_eq_true_eq] at f;have C:(n+e)*bytes≤140737488355328:=Nat.le_trans (Nat.mul_le_mul m.1 m.2) (by decide);obtain ⟨d,w',D,F,G,H⟩:=xC (P:=P) (ty:=ty) p q f.1 f.2 (i.get l) (a:=⟨b,o,none⟩) (c:=c) hlen (fun j u hu=>by rw [ak];exact z j u hu) (fun u hu=>bu (List.all_eq_true.1 B u hu)) (by unfold maxLen;omega) C;obtain ⟨V,rb⟩:=Ih fr dst d;refine bh (v:=d) (w':=w') ?_ rb (h d w' _ rfl (i.row l rfl F G H) V rb);have qa:=r ds;have M:=y ds;simp [execOp,resolve,invoke,builtin,qa,M,D]
inductive sq (P:Program) (fr:List Value) (w:World):ResultVar→Value→Prop where
 | t {n:Nat} {v:Value} (h:yc fr n v):sq P fr w (.tmp n) v
 | c {n b o:Nat} {v:Value} {T:TypeId} {Ed:List Value} {k m:Nat} (h:yc fr n (.pointer (some ⟨b,o,none⟩))) (d:Kc P T false Ed k m) (hc:w.cell? ⟨b,o,none⟩=some v):sq P fr w (.cell n T) v
 | a {n b o:Nat} {cs:List Value} {T:TypeId} {Ed:List Value} {k m:Nat} (h:yc fr n (.pointer (some ⟨b,o,none⟩))) (d:Kc P T true Ed k m) (hc:Yi w b o cs) (e:cs.length=k):sq P fr w (.cell n T) (.agg ⟨cs⟩)
inductive Xb (P:Program) (fr:List Value) (w:World):List ResultVar→List Value→Prop where
 | z:Xb P fr w [] []
 | s {r:ResultVar} {v:Value} {rs:List ResultVar} {vs:List Value} (h:sq P fr w r v) (t:Xb P fr w rs vs):Xb P fr w (r::rs) (v::vs)
def Xp (tmps:Array Value):ResultVar→Sem Value
 | .tmp t=>pure (tmps.getD t undef)
 | .cell a t=>do loadVar t (← asAddr (tmps.getD a undef))
theorem pD (fn:Func) (tmps:Array Value):results fn tmps=(do
  let vs ← fn.results.mapM (Xp tmps)
  pure (if h:vs.size=1 then vs[0] else .tuple vs)):=by
 unfold results;congr 1
theorem sq.run {r:ResultVar}{v:Value}(h:sq P fr w r v):(Xp (F fr ds).tmps r).run P w=.ok v w:=by
 cases h with
 | t h=>unfold yc at h; simp [Xp,F,h]
 | c h d hc=>unfold yc at h; simp [Xp,F,h,asAddr,loadVar,d.isAgg,hc]
 | a h d hc f =>
  unfold yc at h;rename_i n b o cs T Ed k m;have e:=run_loadCells_list (P:=P) w ⟨b,o,none⟩ cs (fun j v g=>by rw [ak];exact hc j v g);rw [f] at e;simp [Xp,F,h,asAddr,loadVar,d.isAgg,d.sizeOf,e]
theorem Xb.run {rs:List ResultVar}{vs:List Value}(h:Xb P fr w rs vs):(rs.mapM (Xp (F fr ds).tmps)).run P w=.ok vs w:=by
 induction h with
 | z=>simp
 | @s r v rs vs h _ a =>
  have b:=h.run (ds:=ds);simp only [List.mapM_cons,Sem.run_bind];rw [b];simp only [Result.andThen_ok];rw [a];simp
def mq:List Value→Value
 | [v]=>v
 | vs=>.tuple ⟨vs⟩
theorem Fz {fn:Func}{a:List ResultVar}{vs:List Value}(b:fn.results=⟨a⟩) (h:Xb P fr w a vs):(results fn (F fr ds).tmps).run P w=.ok (mq vs) w:=by
 have hm:=h.run (ds:=ds);rw [pD,b];rw [Array.mapM_eq_mapM_toList];simp only [Sem.run_bind,Sem.run_map,hm,Result.andThen_ok]
 match vs with
 | []=>simp [mq]
 | [v]=>simp [mq]
 | v::c::vs=>simp [mq]
theorem Hf {fn:Func}{R:Value→World→Prop}{a:List ResultVar}{vs:List Value}(b:fn.results=⟨a⟩) (c:Xb P fr w a vs) (h:R (mq vs) w):Ln P fn R .ret (F fr []) w :=
 bodyPost_ret (Fz b c) rfl h
end
end Go.wc
namespace Go.wc
open Go.RowKit
section
variable {P:Program}{Q:Exit→Act→World→Prop}{K:List Value→List Deferred→World→Prop}{fr V:List Value}{ds:List Deferred}{w:World}
variable {dst:Option Tmp}{ty:TypeId}{pos:String}{after:Array Edge}{g:Option (Nat×Bool)}
variable {S Od:Nat→Prop}{w0:World}{rs rs':List Fb}{A:World→Prop}
variable {T:TypeId}{d:TypeDesc}{Ef:Bool}{Ed:List Value}{n m:Nat}
theorem Sep.ba {k b:Nat}{cs:List Value}(h:Sep S Od w0 w rs A) (a:yc rs k (.ba b T cs)):bj w b T cs:=h.get a
inductive tg:List Value→Nat→List Value→Prop where
 | z {cs:List Value} {o:Nat}:tg cs o []
 | s {cs:List Value} {o:Nat} {v:Value} {vs:List Value} (h:yc cs o v) (t:tg cs (o+1) vs):tg cs o (v::vs)
theorem tg.at {cs:List Value}{o:Nat}{vs:List Value}(h:tg cs o vs):∀ j v,vs[j]?=some v→cs[o+j]?=some v:=by
 induction h with
 | z=>intro j v h; simp at h
 | @s o v vs h t b =>
  intro j u a;cases j with
  | zero=>simp at a; subst a; exact h
  | succ j=>have:=b j u (by simpa using a); rw [show o+(j+1)=o+1+j by omega]; exact this
theorem bj.vm {b o:Nat}{cs vs:List Value}(h:bj w b T cs) (a:tg cs o vs):Yi w b o vs:=fun j v c=>h.cell (a.at j v c)
theorem Pe {x y:Operand}{b o k:Nat}{v:Value}{cs a:List Value}(f:Kc P T Ef Ed 1 m) (i:pb fr x (.pointer (some ⟨b,o,none⟩))) (j:pb fr y v) (c:Kd v=true)
  (l:Sep S Od w0 w rs A) {d:TypeId}(n:yc rs k (.ba b d cs)) (p:tc cs o v a) (e:(decide (o<cs.length))=true) (q:tc rs k (.ba b d a) rs')
  (rb:rf fr dst undef V) (h:∀ w',Sep S Od w0 w' rs' A→K V ds w'):Md P (Oper.mk dst (.store T x y) ty pos after g) fr ds w K Q :=
 wo (vs:=[v]) f i j (Kw c) rfl (by simp [c]) l n (.s p (of_decide_eq_true e) .z) (decide_eq_true (Nat.le_of_lt (of_decide_eq_true e))) q rb h
structure eh (P:Program) (T:TypeId) (pl:Array (Nat×Nat)):Prop where
 out:∃ a,P.underlying T=some (.struct a)∧∀ w,((a.mapM fun f=>do pure (f.offset,← Go.sizeOf f.type):Sem (Array (Nat×Nat))).run P w)=.ok pl w
theorem rh {a:Array Field}{pl:Array (Nat×Nat)}(hu:P.underlying T=some (.struct a)) (h:∀ w,((a.mapM fun f=>do pure (f.offset,← Go.sizeOf f.type):Sem (Array (Nat×Nat))).run P w)=.ok pl w):eh P T pl:=⟨a,hu,h⟩
inductive Ma (fr:List Value) (pl:Array (Nat×Nat)):List Value→List (Nat×Operand)→List Value→Prop where
 | z {cs:List Value}:Ma fr pl cs [] cs
 | o {cs cs1 out:List Value} {i off:Nat} {x:Operand} {v:Value} {xs:List (Nat×Operand)} (cb:pl[i]?=some (off,1)) (a:pb fr x v) (d:Kd v=true) (b:decide (off<cs.length)=true) (c:tc cs off v cs1) (t:Ma fr pl cs1 xs out):Ma fr pl cs ((i,x)::xs) out
 | n {cs cs1 out vs:List Value} {i off n:Nat} {x:Operand} {xs:List (Nat×Operand)} (cb:pl[i]?=some (off,n)) (a:pb fr x (.agg ⟨vs⟩)) (e:vs.length=n) (b:decide (off+n≤cs.length)=true) (c:gf cs off vs cs1) (t:Ma fr pl cs1 xs out):Ma fr pl cs ((i,x)::xs) out
theorem fs:∀ (vs:List Value) (off j:Nat) (cs:List Value),off+j+vs.length≤cs.length →
  ((vs.zipIdx j).foldl (fun (cs:Array Value) (p:Value×Nat)=>cs.setIfInBounds (off+p.2) p.1) ⟨cs⟩)=⟨cs.take (off+j)++vs++cs.drop (off+j+vs.length)⟩
 | [],off,j,cs,_=>by simp
 | v::vs,off,j,cs,h=>by
  have a:off+j<cs.length:=by simp at h;omega
  rw [List.zipIdx_cons,List.foldl_cons];have Qa:(⟨cs⟩:Array Value).setIfInBounds (off+j) v=⟨cs.set (off+j) v⟩:=by simp
  simp only [Qa];rw [fs vs off (j+1) (cs.set (off+j) v) (by simp at h ⊢;omega)];have b:(cs.set (off+j) v).take (off+(j+1))=cs.take (off+j)++[v]:=by
   rw [show off+(j+1)=off+j+1 by omega,List.take_set,List.take_add_one,List.getElem?_eq_getElem a];rw [List.set_append_right _ _ (by simp;omega)];simp [Nat.min_eq_left (Nat.le_of_lt a)]
  have c:(cs.set (off+j) v).drop (off+(j+1)+vs.length)=cs.drop (off+j+(v::vs).length):=by
   rw [List.drop_set_of_lt (by omega)];congr 1;simp;omega
  rw [b,c];simp
theorem Ma.run {pl:Array (Nat×Nat)}{cs out:List Value}{xs:List (Nat×Operand)}(h:Ma fr pl cs xs out):Instr.fill (pl[·]?) ⟨cs⟩ (xs.map fun p=>(p.1,(F fr ds).eval p.2))=some ⟨out⟩:=by
 induction h with
 | z=>rfl
 | @o cs cs1 out i off x v xs cb b f d a t e =>
  have g:=of_decide_eq_true d;simp only [List.map_cons,Instr.fill,cb,b ds,Kw f];have Qa:¬ ((#[v].size≠1 || off+#[v].size > (⟨cs⟩:Array Value).size)=true):=by simp;omega
  rw [if_neg Qa];have qa:(#[v].zipIdx.foldl (fun cs (c,j)=>cs.setIfInBounds (off+j) c) (⟨cs⟩:Array Value))=⟨cs1⟩:=by
   unfold tc at a;subst a;simp [Array.zipIdx]
  rw [qa];exact e
 | @n cs cs1 out vs i off n x xs cb b k d a t e =>
  have g:=of_decide_eq_true d;simp only [List.map_cons,Instr.fill,cb,b ds];have Qa:¬ (((Value.agg ⟨vs⟩).cells.size≠n || off+(Value.agg ⟨vs⟩).cells.size > (⟨cs⟩:Array Value).size)=true):=by simp [Value.cells,k];omega
  rw [if_neg Qa];have qa:((Value.agg ⟨vs⟩).cells.zipIdx.foldl (fun cs (c,j)=>cs.setIfInBounds (off+j) c) (⟨cs⟩:Array Value))=⟨cs1⟩:=by
   have:=fs vs off 0 cs (by omega);rw [a.res (by omega)];simp only [Nat.add_zero] at this;rw [← this];rw [← Array.foldl_toList];simp [Value.cells]
  rw [qa];exact e
theorem Jd {pl:Array (Nat×Nat)}{xs:List (Nat×Operand)}{out:List Value}(a:Kc P T Ef Ed n m) (b:eh P T pl) (c:Ma fr pl Ed xs out) (d:rf fr dst (.agg ⟨out⟩) V) (h:K V ds w) :
  Md P (Oper.mk dst (.build T ⟨xs⟩) ty pos after g) fr ds w K Q:=by
 refine bh (v:=.agg ⟨out⟩) (w':=w) ?_ d h;obtain ⟨z,e,hc⟩:=a.zero (w:=w);have f:=c.run (ds:=ds);obtain ⟨o,j,k⟩:=b.out;have hm:=k w;have l:((⟨xs⟩:Array (Nat×Operand)).map fun (i,x)=>(i,(F fr ds).eval x)).toList=xs.map fun p=>(p.1,(F fr ds).eval p.2):=by simp
 unfold execOp;simp only [Instr.build,Sem.run_bind,e,Result.andThen_ok,run_underlying j];rw [hm];simp only [Result.andThen_ok,hc,l];rw [f];simp
theorem kj {e:TypeId}{x:Operand}{cs:List Value}(k:P.underlying T=some (.slice e)) (j:Kc P e Ef Ed n m) (c:(Ed.length == n && decide (0<n) && decide (n≤1000))=true) (l:pb fr x (.agg ⟨cs⟩)) (d:cs.length=n) (o:Sep S Od w0 w rs A)
  (h:∀ b w',w.heap.size≤b→Sep S Od w0 w' (.ba b e cs::rs) A→Og fr dst (.slice (some ⟨b,0,none⟩) 1 1) fun V=>K V ds w'):Md P (Oper.mk dst (.buildSlice T 1 #[(0,x)]) ty pos after g) fr ds w K Q:=by
 obtain ⟨V,rb⟩:=Ih fr dst (.slice (some ⟨w.heap.size,0,none⟩) 1 1);refine bh (v:=.slice (some ⟨w.heap.size,0,none⟩) 1 1) (w':=w.alloc (.cells ⟨cs⟩ e)) ?_ rb (h _ _ (Nat.le_refl _) (o.alloc rfl (heap_alloc_new w _)) V rb);obtain ⟨z,p,hc⟩:=j.zero (w:=w);have q:=j.sizeOf (w:=w);simp only [Bool.and_eq_true,beq_iff_eq,decide_eq_true_eq] at c;have r:¬ (1*n > 2 ^ 24):=by have:=c.2;omega
 have s:¬ (1*n=0):=by have:=c.1.2;omega
 have t:∀ a:Array Value,a.size=n→Instr.fill (fun i=>some (i*n,n)) a [(0,Value.agg ⟨cs⟩)]=some ⟨cs⟩:=by
  intro a f;simp only [Instr.fill];have Qa:¬ (((Value.agg ⟨cs⟩).cells.size≠n || 0*n+(Value.agg ⟨cs⟩).cells.size > a.size)=true):=by simp [Value.cells,d,f]
  rw [if_neg Qa];congr 1;have u:=fs cs (0*n) 0 a.toList (by simp [d,f]);rw [← Array.foldl_toList];have qa:(Value.agg ⟨cs⟩).cells.zipIdx.toList=cs.zipIdx 0:=by simp [Value.cells]
  rw [qa];refine u.trans ?_;rw [List.drop_eq_nil_of_le (by simp [d,f])];simp
 have y:(#[(0,x)].map fun (i,x)=>(i,(F fr ds).eval x)).toList=[(0,Value.agg ⟨cs⟩)]:=by simp [l ds]
 unfold execOp;simp only [Instr.buildSlice,Sem.run_bind,run_underlying k,Result.andThen_ok,q,if_neg r,y,if_neg s,Sem.run_pure,p];rw [t _ (by simp)];simp [newRow]
end
theorem Sep.Le {S Od:Nat→Prop}{w0 w:World}{rs rs':List Fb}{A:World→Prop}{k:Nat}{r:Fb}(h:Sep S Od w0 w (rs.set k r) A) (a:tc rs k r rs'):Sep S Od w0 w rs' A:=by
 unfold tc at a;rw [← a];exact h
theorem Sep.drew {S Od:Nat→Prop}{w0 w w':World}{rs:List Fb}{A:World→Prop}(h:Sep S Od w0 w rs A) (a:w'.heap=w.heap) (b:w'.os=w.os) (c:w'.tape=w.tape) (hu:w'.output=w.output):Sep S Od w0 w' rs A :=
 h.grow ⟨b,c,hu,by rw [a];exact Nat.le_refl _,fun k _ _=>by rw [a]⟩
section
variable {P:Program}{Q:Exit→Act→World→Prop}{K:List Value→List Deferred→World→Prop}{fr V:List Value}{ds:List Deferred}{w:World}
variable {dst:Option Tmp}{ty:TypeId}{pos:String}{after:Array Edge}{g:Option (Nat×Bool)}
variable {T:TypeId}
theorem ax (a b:ByteArray):(a == b)=true ↔ a=b:=by
 obtain ⟨x⟩:=a;obtain ⟨y⟩:=b;constructor
 ·intro h;have e:x=y:=by simpa using (show (x == y)=true from h)
  rw [e]
 ·intro h;cases h;show (x == x)=true;simp
structure Tn (P:Program) (m:Nat) (T:TypeId) (v a:Value) (b:Bool):Prop where
 out:∀ d w,m≤d→(Op.equalIn d T v a).run P w=.ok b w
theorem eq_int {k c:IntKind}{a b:Int}(hu:P.underlying T=some (.int k)):Tn P 1 T (.int c a) (.int c b) (decide (a=b)):=⟨fun d w rb=>by
 cases d with
 | zero=>omega
 | succ d=>simp [Op.equalIn,run_underlying hu]; by_cases h:a=b <;> simp [h]⟩
theorem xG {a b:List UInt8}(hu:P.underlying T=some .string):Tn P 1 T (S a) (S b) (decide (a=b)):=⟨fun d w rb=>by
 cases d with
 | zero=>omega
 | succ d =>
  simp only [Op.equalIn,run_underlying hu,S,Sem.run_bind,Result.andThen_ok,Sem.run_pure];congr 1;rw [Bool.eq_iff_iff,ax];simp⟩
def Ul:List Bool→Bool
 | []=>true
 | [b]=>b
 | b::a=>b && Ul a
theorem Jt (b:Bool) (a:List Bool):Ul (b::a)=(b && Ul a):=by cases a<;>simp [Ul]
inductive Pk (P:Program) (m:Nat) (xs ys:List Value):List Field→List Bool→Prop where
 | z:Pk P m xs ys [] []
 | o {f : Field} {Zf : List Field} {v d : Value} {b : Bool} {a : List Bool} {T : TypeId} {off : Nat} {Ed : List Value} {n k : Nat} (e : (f.name == "_") = false) (g : f.type = T) (h : f.offset = off) (i : Kc P T false Ed n k) (j : yc xs off v) (l : yc ys off d) (he : Tn P m T v d b) (t : Pk P m xs ys Zf a) : Pk P m xs ys (f :: Zf) (b :: a)
 | n {f : Field} {Zf : List Field} {vs c : List Value} {b : Bool} {a : List Bool} {T : TypeId} {off : Nat} {Ed : List Value} {n k : Nat} (e : (f.name == "_") = false) (g : f.type = T) (h : f.offset = off) (i : Kc P T true Ed n k) (j : tg xs off vs) (l : tg ys off c) (p : vs.length = n) (q : c.length = n) (he : Tn P m T (.agg ⟨vs⟩) (.agg ⟨c⟩) b) (t : Pk P m xs ys Zf a) : Pk P m xs ys (f :: Zf) (b :: a)
structure yv (P:Program) (T:TypeId) (Zf:List Field):Prop where
 nz:P.underlying T=some (.struct ⟨Zf⟩)
 held:P.stoodInHeld T=false
 guard:P.eqGuardType P.depth T=false
theorem mA {Ed:List Value}{n k off:Nat}{xs:List Value}{v:Value}(b:Kc P T false Ed n k) (a:yc xs off v):(part T ⟨xs⟩ off).run P w=.ok v w:=by
 unfold yc at a;simp [part,b.isAgg,a]
theorem tg.extract {cs vs:List Value}{o:Nat}(h:tg cs o vs):(cs.drop o).take vs.length=vs:=by
 induction h with
 | z=>simp
 | @s o v vs a t b =>
  unfold yc at a;have c:o<cs.length:=(List.getElem?_eq_some_iff.1 a).1;rw [List.drop_eq_getElem_cons c,(List.getElem?_eq_some_iff.1 a).2];simp [b]
theorem nA {Ed:List Value}{n k off:Nat}{xs vs:List Value}(a:Kc P T true Ed n k) (b:tg xs off vs) (c:vs.length=n):(part T ⟨xs⟩ off).run P w=.ok (.agg ⟨vs⟩) w:=by
 have:=b.extract;rw [c] at this;simp [part,a.isAgg,a.sizeOf,this]
theorem Pk.run {m:Nat}{xs ys:List Value}{Zf:List Field}{e:List Bool}(h:Pk P m xs ys Zf e) (d:Nat) (rb:m≤d) :
  (forIn (⟨Zf⟩ : Array Field) ((none, ()) : Option Bool × Unit) (fun f _ => (if f.name ≠ "_" then do
     if !(← Op.equalIn d f.type (← part f.type ⟨xs⟩ f.offset) (← part f.type ⟨ys⟩ f.offset)) then pure (ForInStep.done (some false,())) else pure (ForInStep.yield (none,()))
    else pure (ForInStep.yield (none,())):Sem (ForInStep (Option Bool×Unit))))).run P w=.ok (if Ul e then (none,()) else (some false,())) w:=by
 induction h with
 | z=>simp [Ul]
 | @o f Zf v u b e T off Ed n k g i j a l p he t c =>
  subst i; subst j;have q : f.name ≠ "_" := by simpa using g
  simp only [List.forIn_toArray] at c ⊢;rw [List.forIn_cons];simp only [ne_eq,q,not_false_eq_true,if_true,Sem.run_bind,mA a l,mA a p,Result.andThen_ok,he.out d w rb];cases b with
  | true=>simpa [Jt] using c
  | false=>simp [Jt]
 | @n f Zf vs x b e T off Ed n k g i j a l p r s he t c =>
  subst i; subst j;have q : f.name ≠ "_" := by simpa using g
  simp only [List.forIn_toArray] at c ⊢;rw [List.forIn_cons];simp only [ne_eq,q,not_false_eq_true,if_true,Sem.run_bind,nA a l r,nA a p s,Result.andThen_ok,he.out d w rb];cases b with
  | true=>simpa [Jt] using c
  | false=>simp [Jt]
theorem yG {m:Nat}{xs ys:List Value}{Zf:List Field}{a:List Bool}(b:yv P T Zf) (h:Pk P m xs ys Zf a):Tn P (m+1) T (.agg ⟨xs⟩) (.agg ⟨ys⟩) (Ul a):=⟨fun d w rb=>by
 cases d with
 | zero=>omega
 | succ d =>
  have:=h.run (w:=w) d (by omega);simp only [Op.equalIn,Sem.run_bind,run_underlying b.nz,Result.andThen_ok];rw [show (program).run P w=.ok P w from rfl];simp only [Result.andThen_ok,b.held,Bool.false_eq_true,if_false,Sem.run_bind];rw [this];cases Ul a<;>rfl⟩
def Py (v:Value) (n:Nat):Prop:=∃ a c,v=.slice a n c
theorem Lg {x:Operand}{t e:TypeId}{v:Value}{n:Nat}(b:P.underlying t=some (.slice e)) (d:pb fr x v) (f:Py v n):bf P (Oper.mk dst (.call { callee:=.builtin .len,args:=#[x],argTypes:=#[t] }) ty pos after g) fr ((.int .i64 n)):=by
 obtain ⟨a,c,rfl⟩:=f;exact ld b d
theorem Wx {x:Operand}{t e:TypeId}{v:Value}{n:Nat}(a:P.underlying t=some (.slice e)) (b:pb fr x v) (c:Py v n) (d:rf fr dst ((.int .i64 n)) V) (h:K V ds w):Md P (Oper.mk dst (.call { callee:=.builtin .len,args:=#[x],argTypes:=#[t] }) ty pos after g) fr ds w K Q:=wa (Lg a b c) d h
theorem Row.Gg {v:Value}{sz n:Nat}{xs:List Value}(h:Row w v T sz n xs):Py v n:=by
 rcases h.2 with ⟨rfl,rfl⟩ | ⟨g,o,cap,cur,rfl,-⟩
 ·exact ⟨_,_,rfl⟩
 ·exact ⟨_,_,rfl⟩
theorem Row.Eo {v:Value}{sz n:Nat}{xs:List Value}(h:Row w v T sz n xs) (f:0<n):∃ b o c,v=.slice (some ⟨b,o,none⟩) n c∧Yi w b o xs:=by
 rcases h.2 with ⟨rfl,rfl⟩ | ⟨g,o,cap,cur,rfl,d,i,k,l,e⟩
 ·omega
 ·refine ⟨g,o,cap,rfl,fun j u a=>?_⟩;rw [cell_of_row w g (o+j) cur T (0,0) d];rw [← e,List.getElem?_take] at a;split at a
  ·rw [List.getElem?_drop] at a;simpa using a
  ·cases a
end
section
variable {P:Program}{Q:Exit→Act→World→Prop}{K:List Value→List Deferred→World→Prop}{fr V:List Value}{ds:List Deferred}{w:World}
variable {dst:Option Tmp}{ty:TypeId}{pos:String}{after:Array Edge}{g:Option (Nat×Bool)}
variable {T:TypeId}
theorem cE {Zf:List Field}{op:BinOp}{x y:Operand}{xs ys:Array Value}(a:yv P T Zf):(eqGuard op T x y (.agg xs) (.agg ys)).run P w=.ok () w:=by
 have b:(program).run P w=.ok P w:=rfl;cases op<;>simp [eqGuard,b,a.guard]
theorem SH {x y:Operand}{t':TypeId}{m:Nat}{xs ys:List Value}{Zf:List Field}{a:List Bool}(b:yv P T Zf) (c:pb fr x (.agg ⟨xs⟩)) (d:pb fr y (.agg ⟨ys⟩)) (h:Pk P m xs ys Zf a) (hm:(decide (m<1000))=true) :
  bf P (Oper.mk dst (.binOp .neq T x y t') ty pos after g) fr (.bool (!Ul a)):=⟨fun ds w=>by
 have e:=c ds;have f:=d ds;have i:=(yG b h).out Op.maxDepth w (by have:=of_decide_eq_true hm;unfold Op.maxDepth;omega);have j:=cE (w:=w) (op:=.neq) (x:=x) (y:=y) (xs:=⟨xs⟩) (ys:=⟨ys⟩) b;simp [execOp,e,f,j,binOp,Op.equal,i]⟩
end
section
variable {P:Program}{Q:Exit→Act→World→Prop}{K:List Value→List Deferred→World→Prop}{fr V:List Value}{ds:List Deferred}{w:World}
variable {dst:Option Tmp}{ty:TypeId}{pos:String}{after:Array Edge}{g:Option (Nat×Bool)}
variable {S Od:Nat→Prop}{w0:World}{rs rs':List Fb}{A:World→Prop}
variable {T:TypeId}
end
end Go.wc
namespace Go.wc
open Go.RowKit
theorem wq {α β:Type}{f g:α→β}{xs:Array α}(h:∀ x ∈ xs,f x=g x):xs.map f=xs.map g:=Array.map_congr_left h
def xj:Op→Bool
 | .select _ _=>false
 | _=>true
theorem execOp_congr {f g:Operand→Value}(o:Oper) (j:xj o.op=true) (h:∀ x ∈ o.op.operands,f x=g x):execOp f o=execOp g o:=by
 obtain ⟨dst,op,ty,pos,after,u⟩:=o;have hc:∀ c:Call,(∀ x ∈ c.operands,f x=g x)→resolve f c ty=resolve g c ty:=by
  intro c hc;have k:c.args.map f=c.args.map g:=wq fun x d=>hc x (by simp [Call.operands,d]);unfold resolve;rw [k];obtain ⟨callee,args,tys⟩:=c;cases callee with
  | value x=>simp only; rw [hc x (by simp [Call.operands])]
  | invoke x m=>simp only; rw [hc x (by simp [Call.operands])]
  | builtin b=>rfl
 cases op<;>simp only [Op.operands,List.mem_toArray,List.mem_cons,List.not_mem_nil,or_false,forall_eq_or_imp,forall_eq,Array.mem_append,List.mem_map] at h<;>simp only [execOp]
 case build t Vk =>
  have:(Vk.map fun (i,x)=>(i,f x))=Vk.map fun (i,x)=>(i,g x):=wq fun p e=>by simp only;rw [h p.2 ⟨p,by simpa using e,rfl⟩]
  rw [this]
 case buildSlice t n Vk =>
  have:(Vk.map fun (i,x)=>(i,f x))=Vk.map fun (i,x)=>(i,g x):=wq fun p e=>by simp only;rw [h p.2 ⟨p,by simpa using e,rfl⟩]
  rw [this]
 case makeFunc fn a b =>
  rw [wq (f:=f) (g:=g) (xs:=a) fun x d=>h x (.inl d),wq (f:=f) (g:=g) (xs:=b) fun x d=>h x (.inr d)]
 case makeMap t r=>cases r with
  | none=>rfl
  | some x=>simp only [Option.map]; rw [h x (by simp)]
 case slice t x uj cb ig =>
  have d:=h x (by simp);have l:uj.map f=uj.map g:=by cases uj with
   | none=>rfl
   | some y=>simp only [Option.map]; rw [h y (by simp)]
  have q:cb.map f=cb.map g:=by cases cb with
   | none=>rfl
   | some y=>simp only [Option.map]; rw [h y (by simp)]
  have s:ig.map f=ig.map g:=by cases ig with
   | none=>rfl
   | some y=>simp only [Option.map]; rw [h y (by simp)]
  rw [d,l,q,s]
 case call c=>rw [hc c h]
 case go c=>rw [hc c h]
 case defer c=>rw [hc c h]
 case select cs b=>exact absurd j (by simp [xj])
 all_goals (try (simp only [h]))
def Rj (ops:Array Oper) (i:Nat):List Nat:=match ops[i]? with
 | some o=>(o.after.toList.filter (Region.binds .any)).map (·.on)
 | none=>[]
def enabled (ops:Array Oper) (R:List Nat) (i:Nat):Bool:=R.contains i && (Rj ops i).all fun j=>!R.contains j
inductive ek (ops:Array Oper):List Nat→List Nat→Prop where
 | z:ek ops [] []
 | s {R a:List Nat} {i:Nat} (h:enabled ops R i=true) (t:ek ops (R.erase i) a):ek ops R (i::a)
theorem Xk {ops:Array Oper}{R:List Nat}{i:Nat}(h:enabled ops R i=true):i ∈ R:=by
 simp only [enabled,Bool.and_eq_true,List.contains_iff_mem] at h;exact h.1
theorem Gz {ops:Array Oper}{R:List Nat}{i j:Nat}(h:enabled ops R i=true) (a:j ∈ Rj ops i):j ∉ R:=by
 simp only [enabled,Bool.and_eq_true,List.all_eq_true] at h;have:=h.2 j a;simpa using this
def left (n:Nat) (listed:Array Bool):List Nat:=(List.range n).filter fun i=>!listed.getD i true
theorem qD (n:Nat) (listed:Array Bool):(left n listed).Nodup:=List.nodup_range.filter _
theorem zA {n:Nat}{listed:Array Bool}(c:listed.size=n){i:Nat}(cb:i ∈ left n listed):left n (listed.setIfInBounds i true)=(left n listed).erase i:=by
 rw [(qD n listed).erase_eq_filter];unfold left;rw [List.filter_filter];apply List.filter_congr;intro j a;have d:j<n:=List.mem_range.1 a;have b:j<listed.size:=by omega
 simp only [Array.getD_eq_getD_getElem?,Array.getElem?_setIfInBounds];by_cases e:i=j
 ·subst e;simp [b]
 ·simp [e,Ne.symm e]
theorem wB {ops:Array Oper}{n:Nat}(a:(List.range n).all (fun i=>(Rj ops i).all fun j=>decide (j<i))=true){i j:Nat}(cb:i<n) (b:j ∈ Rj ops i):j<i:=by
 simp only [List.all_eq_true,List.mem_range,decide_eq_true_eq] at a;exact a i cb j b
theorem xB {ops:Array Oper}(p:(List.range ops.size).all (fun i=>(Rj ops i).all fun j=>decide (j<i))=true) :
  ∀ (fuel t:Nat) (listed:Array Bool) (acc:List Nat),listed.size=ops.size→(left ops.size listed).length≤fuel→∃ m,Region.linearise.go .any ops fuel t listed acc=acc.reverse++m∧ek ops (left ops.size listed) m
 | 0,t,listed,acc,n,v=>by
  have d:left ops.size listed=[]:=List.eq_nil_of_length_eq_zero (by omega);exact ⟨[],by simp [Region.linearise.go],by rw [d];exact .z⟩
 | fuel+1,t,listed,acc,n,v=>by
  rw [Region.linearise.go];generalize w:(List.filter (fun i=>!listed.getD i true && (Option.map (fun x=>x.after.all fun e=>!Region.binds .any e || listed.getD e.on false) ops[i]?).getD false) (List.range ops.size))=rs;have q:∀ i,i ∈ rs ↔ enabled ops (left ops.size listed) i=true:=by
   intro i;rw [← w];simp only [List.mem_filter,List.mem_range,Bool.and_eq_true,enabled,List.contains_iff_mem,left,Rj];constructor
   ·rintro ⟨b,f,c⟩;refine ⟨⟨b,f⟩,?_⟩;rw [Array.getElem?_eq_getElem b] at c ⊢;simp only [Option.map_some,Option.getD_some,Array.all_eq_true',Bool.or_eq_true,Bool.not_eq_true'] at c;simp only [List.all_eq_true,List.mem_map,List.mem_filter,forall_exists_index,and_imp];rintro j e he g rfl;have:=c e (by simpa using he);rcases this with h | h
    ·rw [h] at g;cases g
    ·simp only [Bool.not_eq_true',List.contains_eq_mem,decide_eq_false_iff_not,List.mem_filter,List.mem_range,not_and,Bool.not_eq_true,Bool.not_eq_false];intro o;have r:e.on<listed.size:=by omega
     simp only [Array.getD,r,dif_pos] at h ⊢;exact h
   ·rintro ⟨⟨b,f⟩,c⟩;refine ⟨b,f,?_⟩;rw [Array.getElem?_eq_getElem b] at c ⊢;simp only [Option.map_some,Option.getD_some,Array.all_eq_true',Bool.or_eq_true,Bool.not_eq_true'];simp only [List.all_eq_true,List.mem_map,List.mem_filter,forall_exists_index,and_imp] at c;intro e he;cases g:Region.binds .any e with
    | false=>exact .inl rfl
    | true =>
     right;have:=c e.on e (by simpa using he) g rfl;simp only [Bool.not_eq_true',List.contains_eq_mem,decide_eq_false_iff_not,List.mem_filter,List.mem_range,not_and,Bool.not_eq_true,Bool.not_eq_false] at this;have o:e.on<i:=wB p b (by
      unfold Rj;rw [Array.getElem?_eq_getElem b];simp only [List.mem_map,List.mem_filter];exact ⟨e,⟨by simpa using he,g⟩,rfl⟩)
     have u:=this (by omega);have r:e.on<listed.size:=by omega
     simp only [Array.getD,r,dif_pos] at u ⊢;exact u
  by_cases d:left ops.size listed=[]
  ·have y:rs=[]:=by
    rw [List.eq_nil_iff_forall_not_mem];intro i cb;have:=Xk ((q i).1 cb);rw [d] at this;cases this
   rw [y];simp only [List.length_nil,Nat.mod_zero,List.getElem?_nil];exact ⟨[],by simp,by rw [d];exact .z⟩
  ·-- the least of what is left may be next
   have A:0<rs.length:=by
    obtain ⟨i,cb,B⟩:∃ i,i ∈ left ops.size listed∧∀ j,j<i→j ∉ left ops.size listed:=by
     obtain ⟨a,C⟩:=List.exists_mem_of_ne_nil _ d
     induction a using Nat.strongRecOn with
     | _ a D =>
      by_cases hex:∃ j,j<a∧j ∈ left ops.size listed
      ·obtain ⟨j,k,F⟩:=hex;exact D j k F
      ·exact ⟨a,C,fun j k hm=>hex ⟨j,k,hm⟩⟩
    have l:enabled ops (left ops.size listed) i=true:=by
     simp only [enabled,Bool.and_eq_true,List.contains_iff_mem,List.all_eq_true];refine ⟨cb,fun j k=>?_⟩;have:=B j (wB p (List.mem_range.1 (List.mem_filter.1 cb).1) k);simpa using this
    exact List.length_pos_of_mem ((q i).2 l)
   have o:t % rs.length<rs.length:=Nat.mod_lt _ A;rw [List.getElem?_eq_getElem o];simp only;have l:=(q _).1 (List.getElem_mem o);generalize rs[t % rs.length]=i at l ⊢;have cb:=Xk l;obtain ⟨m,b,f⟩:=xB p fuel (t / rs.length) (listed.setIfInBounds i true) (i::acc) (by simpa using n) (by
    rw [zA n cb,List.length_erase_of_mem cb];omega)
   refine ⟨i::m,?_,.s l ?_⟩
   ·rw [b];simp
   ·rw [← zA n cb];exact f
theorem yC {ops:Array Oper}(c:(List.range ops.size).all (fun i=>(Rj ops i).all fun j=>decide (j<i))=true) (t:Nat):ek ops (List.range ops.size) (Region.linearise .any ops t):=by
 have a:left ops.size (Array.replicate ops.size false)=List.range ops.size:=by
  unfold left;rw [List.filter_eq_self];intro i cb;have:=List.mem_range.1 cb;simp [Array.getD,this]
 obtain ⟨e,d,b⟩:=xB c ops.size t (Array.replicate ops.size false) [] (by simp) (by rw [a];simp);unfold Region.linearise;rw [d];rw [a] at b;simpa using b
def zo:Operand→Option Nat
 | .tmp t=>some t
 | _=>none
def reads (ops:Array Oper) (o:Oper):List Nat :=
 o.op.operands.toList.filterMap zo++(match o.guard with
  | some (j,_)=>((ops[j]?).bind (·.dst)).toList
  | none=>[])
def quiet:Op→Bool
 | .move _ | .assign _ | .pick _ _ _ | .load _ _ | .fieldAddr _ _ _ | .indexAddr _ _ _ | .index _ _ _ | .field _ _ _ | .extract _ _=>true
 | _=>false
def apart (ops:Array Oper) (rd:Bool) (R:List Nat) (i:Nat):Bool :=
 match ops[i]? with
 | some o=>match o.dst,o.guard with
  | some d,none=>xj o.op && R.all fun j=>j == i || (Rj ops j).contains i || (match ops[j]? with
    | some p=>xj p.op && !(reads ops p).contains d && p.dst != some d && (match p.dst with | some e=>!(reads ops o).contains e | none=>true) && (!rd || quiet p.op)
    | none=>true)
  | _,_=>false
 | none=>false
def Ib (P:Program){α:Type}(x:Sem α):Prop:=∀ w b w',x.run P w=.ok b w'→w'=w
section
variable {P:Program}{α β:Type}
theorem Ib.pure (a:α):Ib P (pure a:Sem α):=fun w b w' h=>by simp at h;exact h.2.symm
theorem Ib.bind {x:Sem α}{f:α→Sem β}(h:Ib P x) (k:∀ a,Ib P (f a)):Ib P (x >>= f):=fun w b w' c=>by
 rw [Sem.run_bind] at c;cases d:x.run P w with
 | ok a g =>
  rw [d] at c;have:=h w a g d;subst this;exact k a _ b w' c
 | halt e g=>rw [d] at c; cases c
theorem Ib.stuck (s:String):Ib P (Go.stuck s:Sem α):=fun w b w' h=>by simp [Go.stuck] at h
theorem Ib.unsupported (u:Unsupported):Ib P (Go.unsupported u:Sem α):=fun w b w' h=>by simp [Go.unsupported] at h
theorem Ib.program:Ib P Go.program:=fun w b w' h=>by simp at h;exact h.2.symm
theorem Ib.load (a:Addr) (m:Mode):Ib P (Go.load a m):=fun w b w' h=>by
 unfold Go.load Sem.run at h;split at h
 ·simp [Sem.run] at h;exact h.2.symm
 ·split at h
  ·simp [Sem.run] at h;exact h.2.symm
  ·cases h
theorem Ib.shape (r:Nat):Ib P (Go.shape r):=fun w b w' h=>by simp [Go.shape,Sem.run] at h;exact h.2.symm
theorem Ib.getObj (r:Nat):Ib P (Go.getObj r):=fun w b w' h=>by
 unfold Go.getObj Sem.run at h;split at h
 ·cases h
 ·simp [Sem.run] at h;exact h.2.symm
 ·cases h
def Uh (P:Program){α:Type}(x:Sem α):Prop:=∀ w b w',x.run P w≠.ok b w'
theorem Uh.ro {x:Sem α}(h:Uh P x):Ib P x:=fun w b w' a=>absurd a (h w b w')
theorem Uh.bind {x:Sem α}{f:α→Sem β}(k:∀ a,Uh P (f a)):Uh P (x >>= f):=fun w b w' c=>by
 rw [Sem.run_bind] at c;cases d:x.run P w with
 | ok a g=>rw [d] at c; exact k a _ _ _ c
 | halt e g=>rw [d] at c; cases c
theorem Uh.goPanic (v:Value):Uh P (Go.goPanic v:Sem α):=fun w b w' h=>by simp [Go.goPanic] at h
theorem Uh.runtimePanic (e:RuntimeError):Uh P (Go.runtimePanic e:Sem α):=by
 unfold Go.runtimePanic;refine Uh.bind fun p=>?_;cases e<;>first | exact Uh.goPanic _ | exact Uh.bind fun _=>Uh.bind fun _=>Uh.goPanic _ | exact Uh.bind fun _=>Uh.goPanic _ | skip
 all_goals (simp only;first | exact Uh.goPanic _ | exact Uh.bind fun _=>Uh.bind fun _=>Uh.goPanic _)
theorem Uh.boundsPanic (k:IntKind) (x y:Int) (c:BoundsCode):Uh P (Go.boundsPanic k x y c:Sem α):=by
 unfold Go.boundsPanic;dsimp only;split<;>exact Uh.bind fun _=>Uh.runtimePanic _
theorem Ib.underlying (t:TypeId):Ib P (Go.underlying t):=by
 unfold Go.underlying;refine Ib.bind Ib.program fun p=>?_;split
 ·exact Ib.pure _
 ·exact Ib.stuck _
theorem Ib.typeInfo (t:TypeId):Ib P (Go.typeInfo t):=by
 unfold Go.typeInfo;refine Ib.bind Ib.program fun p=>?_;split
 ·exact Ib.pure _
 ·exact Ib.stuck _
theorem Ib.sizeOf (t:TypeId):Ib P (Go.sizeOf t):=by
 unfold Go.sizeOf;exact Ib.bind (Ib.typeInfo t) fun _=>Ib.pure _
theorem Ib.isAgg (t:TypeId):Ib P (Go.isAgg t):=by
 unfold Go.isAgg;refine Ib.bind (Ib.underlying t) fun d=>?_;split<;>exact Ib.pure _
theorem Ib.loadCellsFrom (a:Addr):∀ (n i:Nat) (acc:Array Value),Ib P (Go.loadCellsFrom a i n acc)
 | 0,_,_=>Ib.pure _
 | n+1,i,_=>Ib.bind (Ib.load _ _) fun v=>Ib.loadCellsFrom a n (i+1) _
theorem Ib.loadVar (t:TypeId) (a:Addr):Ib P (Go.loadVar t a):=by
 unfold Go.loadVar;refine Ib.bind (Ib.isAgg t) fun b=>?_;split
 ·exact Ib.bind (Ib.sizeOf t) fun n=>Ib.bind (Ib.loadCellsFrom a n 0 _) fun _=>Ib.pure _
 ·exact Ib.load _ _
theorem Ib.part (t:TypeId) (cs:Array Value) (off:Nat):Ib P (Go.part t cs off):=by
 unfold Go.part;refine Ib.bind (Ib.isAgg t) fun b=>?_;split
 ·exact Ib.bind (Ib.sizeOf t) fun n=>Ib.pure _
 ·split
  ·exact Ib.pure _
  ·exact Ib.stuck _
theorem Ib.viewAt (r:Nat):Ib P (Go.viewAt r):=by
 unfold Go.viewAt;refine Ib.bind (Ib.shape r) fun s=>?_;split
 ·exact Ib.pure _
 ·refine Ib.bind (Ib.getObj r) fun o=>?_;split<;>exact Ib.pure _
theorem Ib.byteOf (a:Addr):Ib P (Go.byteOf a):=by
 unfold Go.byteOf;split
 ·exact Ib.pure _
 ·refine Ib.bind Ib.program fun p=>?_;refine Ib.bind (by
   unfold noView;refine Ib.bind (Ib.viewAt _) fun v=>?_;split
   ·exact Ib.unsupported _
   ·exact Ib.pure _) fun _=>?_
  refine Ib.bind (Ib.shape _) fun s=>?_;split
  ·dsimp only;split
   ·exact Ib.pure _
   ·split
    ·exact Ib.pure _
    ·exact Ib.stuck _
  ·exact Ib.stuck _
theorem Ib.fieldPlace (a:Addr) (f:Field):Ib P (Go.fieldPlace a f):=by
 unfold Go.fieldPlace;refine Ib.bind (Ib.sizeOf _) fun n=>?_;split
 ·unfold partAt;exact Ib.bind (Ib.byteOf a) fun b=>Ib.bind (Ib.byteOf _) fun _=>Ib.pure _
 ·exact Ib.pure _
theorem Ib.asIntOf (v:Value):Ib P (Go.asIntOf v):=by
 unfold Go.asIntOf;split
 ·exact Ib.pure _
 ·exact Ib.unsupported _
 ·exact Ib.stuck _
theorem Ib.sureAddr (v:Value):Ib P (Instr.sureAddr v):=by
 unfold Instr.sureAddr;split
 ·exact Ib.pure _
 ·exact Ib.stuck _
theorem yp {f:Operand→Value}{o:Oper}{w w':World}{r:Next}(n:quiet o.op=true) (h:(execOp f o).run P w=.ok r w'):w'=w∧∃ v,r=.value v:=by
 have val:∀ {x:Sem Value},Ib P x→(do pure (.value (← x)):Sem Next).run P w=.ok r w'→w'=w∧∃ v,r=.value v:=by
  clear h;intro x p g;rw [Sem.run_bind] at g;cases j:x.run P w with
  | ok v l =>
   rw [j] at g;have hw:=p w v l j;have q:Result.ok (Next.value v) l=Result.ok r w':=g;cases q;exact ⟨hw,v,rfl⟩
  | halt e l=>rw [j] at g; cases g
 obtain ⟨dst,op,ty,pos,after,s⟩:=o;cases op<;>simp only [quiet,Bool.false_eq_true] at n
 case move x=>simp [execOp] at h;exact ⟨h.2.symm,_,h.1.symm⟩
 case assign x=>simp [execOp] at h;exact ⟨h.2.symm,_,h.1.symm⟩
 case pick c a b =>
  refine val (x:=do pure (if ← asBool (f c) then f a else f b)) ?_ (by simpa [execOp] using h);refine Ib.bind ?_ fun _=>Ib.pure _;unfold asBool;split
  ·exact Ib.pure _
  ·exact Ib.stuck _
 case load t a=>exact val (x:=Instr.loadAt t (f a)) (Ib.bind (Ib.sureAddr _) fun _=>Ib.loadVar _ _) h
 case fieldAddr t x i =>
  refine val (x:=Instr.fieldAt t (f x) i) ?_ h;unfold Instr.fieldAt;refine Ib.bind (Ib.underlying _) fun d=>?_;split
  ·split
   ·exact Ib.bind (Ib.sureAddr _) fun _=>Ib.bind (Ib.fieldPlace _ _) fun _=>Ib.pure _
   ·exact Ib.stuck _
  ·exact Ib.stuck _
 case field t x i =>
  refine val (x:=Instr.field t (f x) i) ?_ h;unfold Instr.field;refine Ib.bind (Ib.underlying _) fun d=>?_;split
  ·split
   ·refine Ib.bind ?_ fun _=>Ib.part _ _ _;unfold asAgg;split
    ·exact Ib.pure _
    ·exact Ib.stuck _
   ·exact Ib.stuck _
  ·exact Ib.stuck _
 case extract x i =>
  refine val (x:=Instr.extract (f x) i) ?_ h;unfold Instr.extract;split
  ·split
   ·exact Ib.pure _
   ·exact Ib.stuck _
  ·exact Ib.stuck _
 case index t x y =>
  refine val (x:=Instr.index t (f x) (f y)) ?_ h;unfold Instr.index;refine Ib.bind (Ib.asIntOf _) fun m=>?_;obtain ⟨k,i⟩:=m;refine Ib.bind (Ib.underlying _) fun d=>?_;split
  ·split
   ·exact Ib.bind (Ib.sizeOf _) fun _=>Ib.part _ _ _
   ·exact (Uh.boundsPanic _ _ _ _).ro
  ·split
   ·exact Ib.pure _
   ·exact (Uh.boundsPanic _ _ _ _).ro
  ·exact Ib.stuck _
 case indexAddr t x y =>
  refine val (x:=Instr.indexAt t (f x) (f y)) ?_ h;unfold Instr.indexAt;refine Ib.bind (Ib.asIntOf _) fun m=>?_;obtain ⟨k,i⟩:=m;refine Ib.bind (Ib.underlying _) fun d=>?_;dsimp only;repeat' first
   | with_reducible exact Ib.pure _
   | with_reducible exact Ib.stuck _
   | with_reducible exact Ib.unsupported _
   | with_reducible exact (Uh.boundsPanic _ _ _ _).ro
   | with_reducible refine Ib.bind (Ib.sureAddr _) fun _=>?_
   | with_reducible refine Ib.bind (Ib.underlying _) fun _=>?_
   | with_reducible refine Ib.bind (Ib.sizeOf _) fun _=>?_
   | with_reducible refine Ib.bind (Ib.pure _) fun _=>?_
   | with_reducible refine Ib.bind (Ib.stuck _) fun _=>?_
   | split
end
section
variable {P:Program}{Q:Exit→Act→World→Prop}{ops:Array Oper}{fr V:List Value}{ds:List Deferred}{w:World}
theorem AA {fr:List Value}{ds ds':List Deferred}{d:Nat}{v:Value}{x:Operand}(h:zo x≠some d):(F (fr.set d v) ds).eval x=(F fr ds').eval x:=by
 cases x with
 | tmp t =>
  have:d≠t:=fun e=>h (by simp [zo,e]);simp [F,Act.eval,List.getElem?_set_ne this]
 | const v=>rfl
 | global g=>rfl
 | func f=>rfl
theorem cu {o:Oper}{d:Nat}(h:(reads ops o).contains d=false):∀ x ∈ o.op.operands,zo x≠some d:=by
 intro x a e;have:d ∈ reads ops o:=by
  unfold reads;exact List.mem_append.2 (.inl (List.mem_filterMap.2 ⟨x,by simpa using a,e⟩))
 rw [List.contains_iff_mem.2 this] at h;cases h
theorem Dp {o:Oper}{d:Nat}{v:Value}{ds':List Deferred}(a:xj o.op=true) (h:(reads ops o).contains d=false):execOp (F (fr.set d v) ds).eval o=execOp (F fr ds').eval o :=
 execOp_congr o a fun x b=>AA (cu h x b)
theorem tw {o:Oper}{d:Nat}{v:Value}{ds':List Deferred}(h:(reads ops o).contains d=false):Region.wanted o (yielded ops (F (fr.set d v) ds).tmps)=Region.wanted o (yielded ops (F fr ds').tmps):=by
 unfold Region.wanted;cases a:o.guard with
 | none=>rfl
 | some c =>
  obtain ⟨j,b⟩:=c;simp only;congr 1;unfold yielded;cases f:(ops[j]?).bind (·.dst) with
  | none=>rfl
  | some e =>
   have g:d≠e:=by
    intro he;have:d ∈ reads ops o:=by
     unfold reads;rw [a];exact List.mem_append.2 (.inr (by simp only;rw [f];simp [he]))
    rw [List.contains_iff_mem.2 this] at h;cases h
   simp [F,List.getElem?_set_ne g]
theorem put_eq (fr:List Value) (ds:List Deferred) (dst:Option Tmp) (x:Value):∃ g:List Value→List Value,(∀ fr ds,(F fr ds).put dst x=F (g fr) ds)∧(∀ (fr:List Value) (d:Nat) (v:Value),dst≠some d→g (fr.set d v)=(g fr).set d v)∧(∀ (fr:List Value) (y:Operand) (ds ds':List Deferred),(∀ e,dst=some e→zo y≠some e)→(F (g fr) ds).eval y=(F fr ds').eval y):=by
 cases dst with
 | none=>exact ⟨id,fun _ _=>rfl,fun _ _ _ _=>rfl,fun fr y ds ds' _=>by cases y <;> rfl⟩
 | some n =>
  refine ⟨fun fr=>fr.set n x,fun fr ds=>ia rfl ds,fun fr d v h=>?_,fun fr y ds ds' h=>AA (h n rfl)⟩;have:d≠n:=fun e=>h (by rw [e]);exact List.set_comm _ _ this
def sh (Q:Exit→Act→World→Prop):Prop:=∀ b a a' w,a.defers=a'.defers→Q (.panic b) a w→Q (.panic b) a' w
theorem oz (q:sh Q){rd:Bool}{i d:Nat}{o:Oper}{v:Value}(z:ops[i]?=some o) (rb:o.dst=some d) (A:o.guard=none){w0:World} :
  ∀ (a b:List Nat) (fr:List Value) (ds:List Deferred) (w:World),
   (∀ j ∈ a,match ops[j]? with
    | some p=>xj p.op=true∧(reads ops p).contains d=false∧p.dst≠some d∧(∀ e,p.dst=some e→(reads ops o).contains e=false)∧(rd=true→quiet p.op=true)
    | none=>True) →
   (rd=true→w=w0)→xj o.op=true →
   (∀ ds w,(rd=true→w=w0)→(execOp (F fr ds).eval o).run P w=.ok (.value v) w) →
   wpOps P ops Q (a++b) (F (fr.set d v) ds) w→wpOps P ops Q (a++i::b) (F fr ds) w
 | [],b,fr,ds,w,_,hw,s,t,h=>by
  simp only [List.nil_append] at h ⊢;simp only [wpOps,z];rw [if_pos (by simp [Region.wanted,A])];left;unfold Oper.wp;rw [t ds w hw,Oper.upon_value,rb];rw [show (F fr ds).put (some d) v=F (fr.set d v) ds from ia rfl ds];exact h
 | j::a,b,fr,ds,w,M,hw,s,t,h=>by
  have B:=M j (by simp);have N:∀ k ∈ a,_:=fun k c=>M k (by simp [c]);simp only [List.cons_append,wpOps] at h ⊢;cases R:ops[j]? with
  | none =>
   rw [R] at h;simp only at h ⊢;exact oz q z rb A a b fr ds w N hw s t h
  | some p =>
   rw [R] at h B;simp only at h B ⊢;obtain ⟨S,C,U,W,D⟩:=B;rw [tw (fr:=fr) (v:=v) (ds:=ds) (ds':=ds) C] at h;have key:∀ (x:Value) (w':World) (ds':List Deferred),(rd=true→w'=w0)→wpOps P ops Q (a++b) ((F (fr.set d v) ds').put p.dst x) w'→wpOps P ops Q (a++i::b) ((F fr ds').put p.dst x) w':=by
    intro x w' ds' l c;obtain ⟨g,g1,g2,g3⟩:=put_eq fr ds' p.dst x;rw [g1] at c ⊢;rw [g2 _ _ _ U] at c;refine oz q z rb A a b (g fr) ds' w' N l s (fun m X Y=>?_) c;rw [show execOp (F (g fr) m).eval o=execOp (F fr m).eval o from execOp_congr o s fun y Z=>g3 fr y m m fun e he gc=>by
     exact cu (W e he) y Z gc]
    exact t m X Y
   by_cases T:Region.wanted p (yielded ops (F fr ds).tmps)=true
   ·rw [if_pos T] at h ⊢;rcases h with h | h
    ·left;unfold Oper.wp at h ⊢;rw [Dp (ds':=ds) S C] at h;cases n:(execOp (F fr ds).eval p).run P w with
     | halt e w' =>
      rw [n] at h;cases e<;>first | exact h | exact q _ (F (fr.set d v) ds) _ w' rfl h
     | ok r w' =>
      rw [n] at h;have l:rd=true→w'=w0:=fun e=>(yp (D e) n).1.trans (hw e);cases r with
      | value x=>exact key x w' ds l h
      | skip=>exact key undef w' ds l h
      | defer hc=>exact key undef w' (hc::ds) l h
      | enter f args =>
       have G:rd=true→False:=fun e=>by obtain ⟨_,x,H⟩:=yp (D e) n;cases H
       rw [Oper.upon_enter] at h ⊢;refine Calls.mono h fun e u he=>?_;cases e with
       | returned x=>exact key x u ds (fun e=>(G e).elim) he
       | panicked lc=>exact q lc (F (fr.set d v) ds) _ u rfl he
       | outgrown=>exact he
      | row r args =>
       have G:rd=true→False:=fun e=>by obtain ⟨_,x,H⟩:=yp (D e) n;cases H
       rw [Oper.upon_row] at h ⊢;exact Rows.mono h fun x u he=>key x u ds (fun e=>(G e).elim) he
      | _=>exact h
    ·right;refine ⟨?_,h.2⟩;have K:=h.1;unfold Oper.asks at K ⊢;rw [Dp (ds':=ds) S C] at K;exact K
   ·rw [if_neg T] at h ⊢;exact key undef w ds hw h
structure sf (P:Program) (ops:Array Oper) (Q:Exit→Act→World→Prop) (R:List Nat) (fr:List Value) (ds:List Deferred) (w:World):Prop where
 out:∀ a,ek ops R a→wpOps P ops Q a (F fr ds) w
theorem ly {id:Nat}{l:List Oper}(hm:P.follows .mixedOrders=true) (a:(List.range l.toArray.size).all (fun i=>(Rj l.toArray i).all fun j=>decide (j<i))=true)
  (h:∀ w',w'.heap=w.heap→w'.os=w.os→w'.tape=w.tape→w'.output=w.output→sf P l.toArray Q (List.range l.length) fr ds w'):Ce P (.region id l.toArray true) Q fr ds w:=by
 constructor;refine wp_region_draw fun t=>?_;have b:Region.schedule (P.follows .mixedOrders) l.toArray t=Region.linearise .any l.toArray t:=by
  unfold Region.schedule;rw [hm];rfl
 rw [b];have c:=yC a t;have:=(h { w with drawn:=w.drawn+1 } rfl rfl rfl rfl).out _ (by simpa using c);exact this
theorem Xd (h:Q .normal (F fr ds) w):sf P ops Q [] fr ds w:=⟨fun b a=>by
 cases a with
 | z=>exact h
 | s h _=>exact absurd (Xk h) (by simp)⟩
def Fo (ops:Array Oper) (R:List Nat):List Nat:=R.filter (enabled ops R)
theorem Xx {R:List Nat}(d:R≠[]) (h:∀ i ∈ Fo ops R,∃ o,ops[i]?=some o∧if Region.wanted o (yielded ops (F fr ds).tmps) then Md P o fr ds w (sf P ops Q (R.erase i)) Q else ∃ V,rf fr o.dst undef V∧sf P ops Q (R.erase i) V ds w):sf P ops Q R fr ds w:=⟨fun e f=>by
 cases f with
 | z=>exact absurd rfl d
 | @s _ e i b c =>
  obtain ⟨o,g,cb⟩:=h i (List.mem_filter.2 ⟨Xk b,b⟩);simp only [wpOps,g];by_cases hw:Region.wanted o (yielded ops (F fr ds).tmps)=true
  ·rw [if_pos hw] at cb ⊢;exact .inl (cb.out _ fun V ds' w' a=>a.out _ c)
  ·rw [if_neg hw] at cb ⊢;obtain ⟨V,rb,a⟩:=cb;exact rb.rw (a.out _ c)⟩
theorem Hb {R:List Nat}{i:Nat}{Nd:List Nat}{dst:Option Tmp}{op:Op}{ty:TypeId}{pos:String}{after:Array Edge}(b:Fo ops R=[i]) (c:R.erase i=Nd) (d:ops[i]?=some ⟨dst,op,ty,pos,after,none⟩)
  (h:Md P ⟨dst,op,ty,pos,after,none⟩ fr ds w (sf P ops Q Nd) Q):sf P ops Q R fr ds w :=
 Xx (by intro e;subst e;cases b) fun j a=>by
  rw [b] at a;simp at a;subst a;refine ⟨_,d,?_⟩;rw [if_pos (by simp [Region.wanted]),c];exact h
theorem ek.split {R l:List Nat}(h:ek ops R l) (n:R.Nodup){i:Nat}(cb:i ∈ R) (o:enabled ops R i=true) :
  ∃ f m,l=f++i::m∧ek ops (R.erase i) (f++m)∧∀ j ∈ f,j ∈ R∧j≠i∧i ∉ Rj ops j:=by
 induction h with
 | z=>cases cb
 | @s R l k g t q =>
  by_cases e:k=i
  ·subst e;exact ⟨[],l,rfl,t,by simp⟩
  ·have p:i ∈ R.erase k:=(n.mem_erase_iff).2 ⟨fun h=>e h.symm,cb⟩;have r:enabled ops (R.erase k) i=true:=by
    simp only [enabled,Bool.and_eq_true,List.contains_iff_mem,List.all_eq_true] at o ⊢;refine ⟨p,fun j d=>?_⟩;have:=o.2 j d;simp only [Bool.not_eq_true',List.contains_eq_mem,decide_eq_false_iff_not] at this ⊢;exact fun hm=>this (List.mem_of_mem_erase hm)
   obtain ⟨f,m,u,v,w⟩:=q (n.erase k) p r;refine ⟨k::f,m,by rw [u];rfl,?_,?_⟩
   ·refine .s ?_ (by rw [List.erase_comm];exact v);simp only [enabled,Bool.and_eq_true,List.contains_iff_mem,List.all_eq_true] at g ⊢;refine ⟨(n.mem_erase_iff).2 ⟨e,g.1⟩,fun j d=>?_⟩;have:=g.2 j d;simp only [Bool.not_eq_true',List.contains_eq_mem,decide_eq_false_iff_not] at this ⊢;exact fun hm=>this (List.mem_of_mem_erase hm)
   ·intro j d;rcases List.mem_cons.1 d with rfl | d
    ·exact ⟨Xk g,e,fun rb=>Gz g rb cb⟩
    ·obtain ⟨a,b,c⟩:=w j d;exact ⟨List.mem_of_mem_erase a,b,c⟩
theorem EE {R Nd:List Nat}{i:Nat}{rd:Bool}{dst:Tmp}{op:Op}{ty:TypeId}{pos:String}{after:Array Edge}{v:Value}(o:sh Q) (k:(decide R.Nodup && enabled ops R i && apart ops rd R i)=true) (q:R.erase i=Nd) (l:ops[i]?=some ⟨some dst,op,ty,pos,after,none⟩)
  (r:∀ ds w',(rd=true→w'=w)→(execOp (F fr ds).eval ⟨some dst,op,ty,pos,after,none⟩).run P w'=.ok (.value v) w') (f:tc fr dst v V) (h:sf P ops Q Nd V ds w):sf P ops Q R fr ds w:=⟨fun G s=>by
 simp only [Bool.and_eq_true,decide_eq_true_eq] at k;obtain ⟨⟨t,m⟩,g⟩:=k;obtain ⟨u,x,rfl,y,z⟩:=s.split t (Xk m) m;unfold apart at g;simp only [l,Bool.and_eq_true,List.all_eq_true,Bool.or_eq_true,beq_iff_eq,List.contains_iff_mem] at g;unfold tc at f;subst f;subst q;refine oz o l rfl rfl (rd:=rd) (w0:=w) (v:=v) u x fr ds w (fun j A=>?_) (fun _=>rfl) g.1 r (h.out _ y);obtain ⟨a,b,c⟩:=z j A;have:=g.2 j a;rcases this with (h | h) | h
 ·exact absurd h b
 ·exact absurd h c
 ·cases f:ops[j]? with
  | none=>trivial
  | some p =>
   rw [f] at h;simp only [Bool.and_eq_true,Bool.not_eq_true',bne_iff_ne,ne_eq,Bool.or_eq_true] at h;obtain ⟨⟨⟨⟨B,C⟩,D⟩,n⟩,d⟩:=h;refine ⟨B,C,D,fun e he=>?_,fun e=>?_⟩
   ·rw [he] at n;simpa using n
   ·rcases d with d | d
    ·rw [e] at d;cases d
    ·exact d⟩
theorem de (h:∀ b a w,Q (.panic b) a w→False):sh Q:=fun b a _ w _ c=>(h b a w c).elim
theorem TH {R Nd:List Nat}{i:Nat}{dst:Tmp}{op:Op}{ty:TypeId}{pos:String}{after:Array Edge}{v:Value}(a:sh Q) (b:(decide R.Nodup && enabled ops R i && apart ops false R i)=true) (c:R.erase i=Nd) (d:ops[i]?=some ⟨some dst,op,ty,pos,after,none⟩)
  (e:bf P ⟨some dst,op,ty,pos,after,none⟩ fr v) (f:tc fr dst v V) (h:sf P ops Q Nd V ds w):sf P ops Q R fr ds w :=
 EE a b c d (fun ds w' _=>e.out ds w') f h
end
end Go.wc
