/- Texts of Wk. -/
import Derived.Tactics
import Derived.Defers
import Derived.Recover
import Derived.Lib.Strings
import Derived.Laws.Append
import Derived.Below
import Derived.Laws.AppendOwn
set_option linter.unusedSimpArgs false
set_option linter.unusedVariables false
set_option linter.unusedSectionVars false
namespace Go.Rb
open Go.RowKit
def nc {α:Type}(l:List α) (n:Nat) (v:α):Prop:=l[n]?=some v
def uc {α:Type}(l:List α) (n:Nat) (v:α) (a:List α):Prop:=l.set n v=a
theorem d0 {α:Type}{v:α}{l:List α}:nc (v::l) 0 v:=rfl
theorem wa {α:Type}{x v:α}{l:List α}:uc (x::l) 0 v (v::l):=rfl
theorem d1 {α:Type}{a0:α}{v:α}{l:List α}:nc (a0::v::l) 1 v:=rfl
theorem lb {α:Type}{a0:α}{x v:α}{l:List α}:uc (a0::x::l) 1 v (a0::v::l):=rfl
theorem d2 {α:Type}{a0 oa:α}{v:α}{l:List α}:nc (a0::oa::v::l) 2 v:=rfl
theorem xb {α:Type}{a0 oa:α}{x v:α}{l:List α}:uc (a0::oa::x::l) 2 v (a0::oa::v::l):=rfl
theorem d3 {α:Type}{a0 oa a2:α}{v:α}{l:List α}:nc (a0::oa::a2::v::l) 3 v:=rfl
theorem Ub {α:Type}{a0 oa a2:α}{x v:α}{l:List α}:uc (a0::oa::a2::x::l) 3 v (a0::oa::a2::v::l):=rfl
theorem d4 {α:Type}{a0 oa a2 a3:α}{v:α}{l:List α}:nc (a0::oa::a2::a3::v::l) 4 v:=rfl
theorem Zb {α:Type}{a0 oa a2 a3:α}{x v:α}{l:List α}:uc (a0::oa::a2::a3::x::l) 4 v (a0::oa::a2::a3::v::l):=rfl
theorem d5 {α:Type}{a0 oa a2 a3 a4:α}{v:α}{l:List α}:nc (a0::oa::a2::a3::a4::v::l) 5 v:=rfl
theorem yc {α:Type}{a0 oa a2 a3 a4:α}{x v:α}{l:List α}:uc (a0::oa::a2::a3::a4::x::l) 5 v (a0::oa::a2::a3::a4::v::l):=rfl
theorem d6 {α:Type}{a0 oa a2 a3 a4 a5:α}{v:α}{l:List α}:nc (a0::oa::a2::a3::a4::a5::v::l) 6 v:=rfl
theorem jc {α:Type}{a0 oa a2 a3 a4 a5:α}{x v:α}{l:List α}:uc (a0::oa::a2::a3::a4::a5::x::l) 6 v (a0::oa::a2::a3::a4::a5::v::l):=rfl
theorem d7 {α:Type}{a0 oa a2 a3 a4 a5 Sb:α}{v:α}{l:List α}:nc (a0::oa::a2::a3::a4::a5::Sb::v::l) 7 v:=rfl
theorem Cc {α:Type}{a0 oa a2 a3 a4 a5 Sb:α}{x v:α}{l:List α}:uc (a0::oa::a2::a3::a4::a5::Sb::x::l) 7 v (a0::oa::a2::a3::a4::a5::Sb::v::l):=rfl
theorem d8 {α:Type}{a0 oa a2 a3 a4 a5 Sb Jb:α}{v:α}{l:List α}:nc (a0::oa::a2::a3::a4::a5::Sb::Jb::v::l) 8 v:=rfl
theorem Hc {α:Type}{a0 oa a2 a3 a4 a5 Sb Jb:α}{x v:α}{l:List α}:uc (a0::oa::a2::a3::a4::a5::Sb::Jb::x::l) 8 v (a0::oa::a2::a3::a4::a5::Sb::Jb::v::l):=rfl
theorem d9 {α:Type}{a0 oa a2 a3 a4 a5 Sb Jb Pb:α}{v:α}{l:List α}:nc (a0::oa::a2::a3::a4::a5::Sb::Jb::Pb::v::l) 9 v:=rfl
theorem sc {α:Type}{a0 oa a2 a3 a4 a5 Sb Jb Pb:α}{x v:α}{l:List α}:uc (a0::oa::a2::a3::a4::a5::Sb::Jb::Pb::x::l) 9 v (a0::oa::a2::a3::a4::a5::Sb::Jb::Pb::v::l):=rfl
def F (fr:List Value) (ds:List Deferred):Act:=⟨⟨fr⟩,ds⟩
def ob (fr:List Value) (x:Operand) (v:Value):Prop:=∀ ds,(F fr ds).eval x=v
theorem aa {fr:List Value}{n:Nat}{v:Value}(h:nc fr n v):ob fr (.tmp n) v:=by
 intro ds;unfold nc at h;simp [F,Act.eval,h]
theorem Pa {fr:List Value}{v:Value}:ob fr (.const v) v:=fun _=>rfl
theorem Ad {fr:List Value}{f:Nat}:ob fr (.func f) (.func (.func f) #[] #[]):=fun _=>rfl
def lf (fr:List Value) (dst:Option Tmp) (v:Value) (Ga:List Value):Prop:=∀ ds,(F fr ds).put dst v=F Ga ds
theorem Wa {fr:List Value}{v:Value}:lf fr none v fr:=fun _=>rfl
theorem ea {fr Ga:List Value}{n:Nat}{v:Value}(h:uc fr n v Ga):lf fr (some n) v Ga:=by
 intro ds;unfold uc at h;subst h;simp [F,Act.put]
theorem lf.rw {fr Ga:List Value}{dst:Option Tmp}{v:Value}(h:lf fr dst v Ga){K:Act→World→Prop}{ds:List Deferred}{w:World}(k:K (F Ga ds) w):K ((F fr ds).put dst v) w:=by
 rw [h ds];exact k
def Em (fr:List Value) (xs:List Operand) (vs:List Value):Prop:=∀ ds,xs.map (F fr ds).eval=vs
theorem nb {fr:List Value}:Em fr [] []:=fun _=>rfl
theorem qa {fr:List Value}{x:Operand}{v:Value}{xs:List Operand}{vs:List Value}(h:ob fr x v) (a:Em fr xs vs):Em fr (x::xs) (v::vs):=by
 intro ds;simp [h ds,a ds]
structure Ie (P:Program) (c:Code) (Q:Exit→Act→World→Prop) (fr:List Value) (ds:List Deferred) (w:World):Prop where
 out:c.wp P Q (F fr ds) w
structure Sf (P:Program) (ops:Array Oper) (Q:Exit→Act→World→Prop) (l:List Oper) (fr:List Value) (ds:List Deferred) (w:World):Prop where
 out:wpList P ops Q l (F fr ds) w
structure Td (P:Program) (o:Oper) (fr:List Value) (ds:List Deferred) (w:World) (K:List Value→List Deferred→World→Prop) (Q:Exit→Act→World→Prop):Prop where
 out:∀ a:Act→World→Prop,(∀ fr ds w,K fr ds w→a (F fr ds) w)→o.wp P (F fr ds) w a Q
def Po (P:Program) (c:Code) (Q:Exit→Act→World→Prop):Act→World→Prop:=fun a w=>∃ fr ds,a=F fr ds∧Ie P c Q fr ds w
section code
variable {P:Program}{Q:Exit→Act→World→Prop}{fr:List Value}{ds:List Deferred}{w:World}
theorem Fa {x y:Code}(h:Ie P x (Exit.then (Po P y Q) Q) fr ds w):Ie P (.seq x y) Q fr ds w :=
 ⟨wp_seq (wp_mono h.out fun e a w b=>by
  cases e with
  | normal=>obtain ⟨fr,ds,rfl,h⟩:=b; exact h.out
  | exit id=>exact b
  | goto l=>exact b
  | ret=>exact b
  | panic c=>exact b
  | outgrown=>exact b)⟩
theorem gb {id:Nat}{l:List Oper}(h:Sf P l.toArray Q l fr ds w):Ie P (.region id l.toArray false) Q fr ds w:=⟨wp_region_lit h.out⟩
theorem eb (h:Q .normal (F fr ds) w):Ie P .skip Q fr ds w:=⟨wp_skip h⟩
theorem Ka (h:Q .ret (F fr ds) w):Ie P .ret Q fr ds w:=⟨wp_ret h⟩
theorem eg {id:Nat}(h:Q (.exit id) (F fr ds) w):Ie P (.exit id) Q fr ds w:=⟨wp_exit h⟩
theorem yb {id:Nat}{c:Code}(h:Ie P c (Exit.inBlock id Q) fr ds w):Ie P (.block id c) Q fr ds w:=⟨wp_block h.out⟩
theorem tr {c:Operand}{x y:Code}{b:Bool}(a:ob fr c (.bool b)) (d:b=true→Ie P x Q fr ds w) (e:b=false→Ie P y Q fr ds w) :
  Ie P (.cond c x y) Q fr ds w:=⟨wp_cond_split (a ds) (fun h=>(d h).out) fun h=>(e h).out⟩
theorem ui {c:Operand}{x y:Code}{p:Prop}[Decidable p] (a:ob fr c (.bool (decide p))) (b:p→Ie P x Q fr ds w) (d:¬ p→Ie P y Q fr ds w) :
  Ie P (.cond c x y) Q fr ds w:=tr a (fun h=>b (of_decide_eq_true h)) (fun h=>d (of_decide_eq_false h))
theorem Cs {c:Operand}{x y:Code}{p:Prop}[Decidable p] (a:ob fr c (.bool (decide p))) (b:p) (d:Ie P x Q fr ds w):Ie P (.cond c x y) Q fr ds w:=ui a (fun _=>d) fun h=>absurd b h
theorem Kn {c:Operand}{x y:Code}{p:Prop}[Decidable p] (a:ob fr c (.bool (decide p))) (b:¬ p) (d:Ie P y Q fr ds w):Ie P (.cond c x y) Q fr ds w:=ui a (fun h=>absurd h b) fun _=>d
theorem zm {c:Operand}{x y:Code}(a:ob fr c (.bool true)) (b:Ie P x Q fr ds w):Ie P (.cond c x y) Q fr ds w:=⟨wp_cond_true (a ds) b.out⟩
theorem Am {c:Operand}{x y:Code}(a:ob fr c (.bool false)) (b:Ie P y Q fr ds w):Ie P (.cond c x y) Q fr ds w:=⟨wp_cond_false (a ds) b.out⟩
theorem pa {c:Code}{Q':Exit→Act→World→Prop}(h:Ie P c Q' fr ds w):Exit.then (Po P c Q') Q .normal (F fr ds) w:=⟨fr,ds,rfl,h⟩
theorem Ya {n:Act→World→Prop}{a:Act}(h:n a w):Exit.then n Q .normal a w:=h
theorem jd {n:Act→World→Prop}{a:Act}{id:Nat}(h:Q (.exit id) a w):Exit.then n Q (.exit id) a w:=h
theorem Ta {n:Act→World→Prop}{a:Act}(h:Q .ret a w):Exit.then n Q .ret a w:=h
theorem mG {n:Act→World→Prop}{a:Act}{b:List PanicEntry}(h:Q (.panic b) a w):Exit.then n Q (.panic b) a w:=h
theorem kd {a:Act}{id:Nat}(h:Q .normal a w):Exit.inBlock id Q .normal a w:=h
theorem Kb {a:Act}{id:Nat}(h:Q .ret a w):Exit.inBlock id Q .ret a w:=h
theorem kC {a:Act}{id:Nat}{b:List PanicEntry}(h:Q (.panic b) a w):Exit.inBlock id Q (.panic b) a w:=h
theorem hg {a:Act}{id:Nat}(h:Q .normal a w):Exit.inBlock id Q (.exit id) a w:=by simpa [Exit.inBlock] using h
theorem Ji {a:Act}{id j:Nat}(b:(j == id)=false) (h:Q (.exit j) a w):Exit.inBlock id Q (.exit j) a w:=by
 have:¬ j=id:=by simpa using b
 simpa [Exit.inBlock,this] using h
inductive tb where
 | k
 | o (n:Nat)
 | i (v:Value)
def dj (t:Nat→Value):List tb→List Value→List Value
 | [],fr=>fr
 | _::_,[]=>[]
 | .k::ms,a::fr=>a::dj t ms fr
 | .o n::ms,_::fr=>t n::dj t ms fr
 | .i v::ms,_::fr=>v::dj t ms fr
def mf (t:Nat→Value) (ms:List tb) (fr Ga:List Value):Prop:=dj t ms fr=Ga
theorem ic {t:Nat→Value}{l:List Value}:mf t [] l l:=rfl
theorem mk {t:Nat→Value}{ms:List tb}{a:Value}{l b:List Value}(h:mf t ms l b):mf t (.k::ms) (a::l) (a::b):=by unfold mf at *;rw [dj,h]
theorem fb {t:Nat→Value}{ms:List tb}{n:Nat}{a:Value}{l b:List Value}(h:mf t ms l b):mf t (.o n::ms) (a::l) (t n::b):=by unfold mf at *;rw [dj,h]
theorem bd {t:Nat→Value}{ms:List tb}{v a:Value}{l b:List Value}(h:mf t ms l b):mf t (.i v::ms) (a::l) (v::b):=by unfold mf at *;rw [dj,h]
theorem Dd {t:Nat→Value}{ms:List tb}{a b:List Value}(e:mf t ms a b) (h:Q .normal (F b ds) w):Q .normal (F (dj t ms a) ds) w:=by rw [show dj t ms a=b from e];exact h
theorem Lg {c:Code}{t:Nat→Value}{ms:List tb}{a b:List Value}(e:mf t ms a b) (h:Ie P c Q b ds w):Ie P c Q (dj t ms a) ds w:=by rw [show dj t ms a=b from e];exact h
inductive ie:List tb→List Value→List Value→Prop where
 | z {l:List Value}:ie [] l l
 | k {ms:List tb} {a:Value} {l c:List Value} (h:ie ms l c):ie (.k::ms) (a::l) (a::c)
 | o {ms:List tb} {n:Nat} {a b:Value} {l c:List Value} (h:ie ms l c):ie (.o n::ms) (a::l) (b::c)
 | i {ms:List tb} {v a:Value} {l c:List Value} (h:ie ms l c):ie (.i v::ms) (a::l) (v::c)
def opens:List tb→List Nat
 | []=>[]
 | .o n::ms=>n::opens ms
 | .k::ms=>opens ms
 | .i _::ms=>opens ms
theorem Px {t ib:Nat→Value}:∀ (ms:List tb) (fr:List Value),(∀ n ∈ opens ms,t n=ib n)→dj t ms fr=dj ib ms fr
 | [],_,_=>rfl
 | _::_,[],_=>rfl
 | .k::ms,a::fr,h=>by rw [dj,dj,Px ms fr h]
 | .o n::ms,a::fr,h=>by rw [dj,dj,Px ms fr fun m hm=>h m (by simp [opens,hm]),h n (by simp [opens])]
 | .i v::ms,a::fr,h=>by rw [dj,dj,Px ms fr h]
theorem ie.ex {ms:List tb}{fr Ga:List Value}(h:ie ms fr Ga) (c:(opens ms).Nodup):∃ t,Ga=dj t ms fr:=by
 induction h with
 | z=>exact ⟨fun _=>undef,rfl⟩
 | k _ d=>obtain ⟨t,rfl⟩:=d c; exact ⟨t,rfl⟩
 | @o ms n a b l f _ d =>
  simp only [opens,List.nodup_cons] at c;obtain ⟨t,rfl⟩:=d c.2;refine ⟨fun m=>if m=n then b else t m,?_⟩;rw [dj,if_pos rfl];congr 1;refine Px _ _ fun m hm=>?_;exact (if_neg (fun e:m=n=>c.1 (by rw [← e];exact hm))).symm
 | i _ d=>obtain ⟨t,rfl⟩:=d c; exact ⟨t,rfl⟩
theorem JM {c:Code}{α:Type}(T:List Nat) (o:T.Nodup) (u:α→List tb) (hu:∀ x,opens (u x)=T) (j:α→World→Prop) (m:α→World→Nat) (x0:α) (p:ie (u x0) fr fr) (q:j x0 w)
  (round:∀ x t w,j x w→Ie P c (Exit.then (fun g w'=>∃ h Ga,g=F Ga ds∧ie (u h) fr Ga∧j h w'∧m h w'<m x w) Q) (dj t (u x) fr) ds w) :
  Ie P (.loop c) Q fr ds w:=by
 constructor;intro b k cs;have key:∀ n x t w,m x w=n→j x w →
   ∃ e g w',Q e g w'∧Arrives P (lone (b.at (F (dj t (u x) fr) ds) (.code c::.inLoop c::k)) cs w) b k cs e g w':=by
  intro n
  induction n using Nat.strongRecOn with
  | _ n r =>
   intro x t w s v;obtain ⟨e,i,f,d,a⟩:=(round x t w v).out b (.inLoop c::k) cs;cases e with
   | normal =>
    obtain ⟨h,Ga,rfl,y,z,A⟩:=d;obtain ⟨ib,B⟩:=y.ex (by rw [hu];exact o);obtain ⟨C,D,E,G,H⟩:=r (m h f) (s ▸ A) h ib f rfl z;rw [B] at a;exact ⟨C,D,E,G,.of_steps (Steps.trans a (.one step_inLoop)) H⟩
   | exit id=>exact ⟨_,i,f,d,.pass (x:=.inLoop c) rfl (fun _ _=>.inl (by simp)) a⟩
   | goto l=>exact ⟨_,i,f,d,.pass (x:=.inLoop c) rfl (fun _ _=>.inl (by simp)) a⟩
   | ret=>exact ⟨_,i,f,d,.pass (x:=.inLoop c) rfl (fun _ _=>.inl (by simp)) a⟩
   | panic L=>exact ⟨_,i,f,d,.pass (x:=.inLoop c) rfl (fun _ _=>.inl (by simp)) a⟩
   | outgrown=>exact ⟨_,i,f,d,.pass (x:=.inLoop c) rfl (fun _ _=>.inl (by simp)) a⟩
 obtain ⟨t0,K⟩:=p.ex (by rw [hu];exact o);obtain ⟨e,g,w',d,a⟩:=key _ x0 t0 w rfl q;rw [← K] at a;exact ⟨e,g,w',d,.of_steps (.one step_loop) a⟩
theorem Ie.mono {c:Code}{Q':Exit→Act→World→Prop}(h:Ie P c Q fr ds w) (b:∀ e a w,Q e a w→Q' e a w):Ie P c Q' fr ds w:=⟨wp_mono h.out b⟩
theorem VH {R R':Act→World→Prop}(h:∀ a w,R a w→R' a w):∀ e a w,Exit.then R Q e a w→Exit.then R' Q e a w:=fun e a w b=>by
 cases e with
 | normal=>exact h a w b
 | exit id=>exact b
 | goto l=>exact b
 | ret=>exact b
 | panic c=>exact b
 | outgrown=>exact b
theorem uc.same {α:Type}{l:List α}{n:Nat}{v:α}{a:List α}(h:nc l n v) (b:uc l n v a):a=l:=by
 unfold nc at h;unfold uc at b;subst b;obtain ⟨c,rfl⟩:=List.getElem?_eq_some_iff.1 h;exact List.set_getElem_self c
theorem aC {ops:Array Oper}{l:List Oper}{vi wi:List Value}{d:Nat}{b:Bool}(ia:nc fr d (.bool b)) (a:uc fr d (.bool true) vi) (c:uc fr d (.bool false) wi)
  (e:b=true→Sf P ops Q l vi ds w) (f:b=false→Sf P ops Q l wi ds w):Sf P ops Q l fr ds w:=by
 cases b with
 | true=>have:=e rfl; rw [uc.same ia a] at this; exact this
 | false=>have:=f rfl; rw [uc.same ia c] at this; exact this
theorem Uh {ops:Array Oper}{l:List Oper}{vi wi:List Value}{d:Nat}{p:Prop}[Decidable p] (ia:nc fr d (.bool (decide p))) (a:uc fr d (.bool true) vi) (b:uc fr d (.bool false) wi)
  (c:p→Sf P ops Q l vi ds w) (e:¬ p→Sf P ops Q l wi ds w):Sf P ops Q l fr ds w :=
 aC ia a b (fun h=>c (of_decide_eq_true h)) (fun h=>e (of_decide_eq_false h))
end code
end Go.Rb
namespace Go.Rb
open Go.RowKit
def S (l:List UInt8):Value:=.string ⟨⟨l⟩⟩
section
variable {P:Program}{Q:Exit→Act→World→Prop}{K:List Value→List Deferred→World→Prop}{fr Ga:List Value}{ds:List Deferred}{w:World}{ops:Array Oper}{rest:List Oper}
variable {dst:Option Tmp}{op:Op}{ty:TypeId}{pos:String}{after:Array Edge}{g:Option (Nat×Bool)}
theorem Va (h:Q .normal (F fr ds) w):Sf P ops Q [] fr ds w:=⟨h⟩
theorem wl (h:Td P ⟨dst,op,ty,pos,after,none⟩ fr ds w (Sf P ops Q rest) Q):Sf P ops Q (⟨dst,op,ty,pos,after,none⟩::rest) fr ds w:=by
 constructor;unfold wpList;rw [if_pos (by simp [Region.wanted])];exact .inl (h.out _ fun _ _ _ k=>k.out)
theorem tc {j d:Nat}{b:Bool}(a:(ops[j]?).bind (·.dst)=some d) (ia:nc fr d (.bool b)) (h:Td P ⟨dst,op,ty,pos,after,some (j,b)⟩ fr ds w (Sf P ops Q rest) Q) :
  Sf P ops Q (⟨dst,op,ty,pos,after,some (j,b)⟩::rest) fr ds w:=by
 constructor;unfold wpList;rw [if_pos (by
  unfold nc at ia;simp only [Region.wanted,yielded,a,F];simp [ia])]
 exact .inl (h.out _ fun _ _ _ k=>k.out)
theorem wn {j d:Nat}{b Ic:Bool}(a:(ops[j]?).bind (·.dst)=some d) (ia:nc fr d (.bool Ic)) (c:(Ic == b)=false) (e:lf fr dst undef Ga) (h:Sf P ops Q rest Ga ds w) :
  Sf P ops Q (⟨dst,op,ty,pos,after,some (j,b)⟩::rest) fr ds w:=by
 constructor;unfold wpList;rw [if_neg (by
  unfold nc at ia;simp only [Region.wanted,yielded,a,F];simp [ia];simpa using c)]
 exact e.rw h.out
theorem Fl {j d:Nat}{b:Bool}(a:(ops[j]?).bind (·.dst)=some d) (ia:nc fr d undef) (c:lf fr dst undef Ga) (h:Sf P ops Q rest Ga ds w) :
  Sf P ops Q (⟨dst,op,ty,pos,after,some (j,b)⟩::rest) fr ds w:=by
 constructor;unfold wpList;rw [if_neg (by
  unfold nc at ia;simp only [Region.wanted,yielded,a,F];simp [ia,undef])]
 exact c.rw h.out
theorem qi {o:Oper}{v:Value}{w':World}(a:(execOp (F fr ds).eval o).run P w=.ok (.value v) w') (b:lf fr o.dst v Ga) (h:K Ga ds w'):Td P o fr ds w K Q:=by
 constructor;intro d c;unfold Oper.wp;rw [a,Oper.upon_value];exact b.rw (c _ _ _ h)
theorem NB {o:Oper}{w':World}(a:(execOp (F fr ds).eval o).run P w=.ok .skip w') (b:lf fr o.dst undef Ga) (h:K Ga ds w'):Td P o fr ds w K Q:=by
 constructor;intro d c;unfold Oper.wp;rw [a,Oper.upon_skip];exact b.rw (c _ _ _ h)
structure Zf (P:Program) (o:Oper) (fr:List Value) (v:Value):Prop where
 out:∀ ds w,(execOp (F fr ds).eval o).run P w=.ok (.value v) w
theorem Ra {o:Oper}{v:Value}(hu:Zf P o fr v) (a:lf fr o.dst v Ga) (h:K Ga ds w):Td P o fr ds w K Q:=qi (hu.out ds w) a h
theorem bg {x:Operand}{v:Value}(a:ob fr x v):Zf P (Oper.mk dst (.move x) ty pos after g) fr (v):=⟨fun ds w=>by simp [execOp,a ds]⟩
theorem Af {x:Operand}{v:Value}(a:ob fr x v) (b:lf fr dst (v) Ga) (h:K Ga ds w):Td P (Oper.mk dst (.move x) ty pos after g) fr ds w K Q:=Ra (bg a) b h
theorem Xq {x:Operand}{v:Value}(a:ob fr x v):Zf P (Oper.mk dst (.assign x) ty pos after g) fr (v):=⟨fun ds w=>by simp [execOp,a ds]⟩
theorem Dg {x:Operand}{v:Value}(a:ob fr x v) (b:lf fr dst (v) Ga) (h:K Ga ds w):Td P (Oper.mk dst (.assign x) ty pos after g) fr ds w K Q:=Ra (Xq a) b h
theorem iy {c x y:Operand}{v:Value}(a:ob fr c (.bool true)) (b:ob fr x v):Zf P (Oper.mk dst (.pick c x y) ty pos after g) fr (v):=⟨fun ds w=>by simp [execOp,b ds,a ds,asBool]⟩
theorem GA {c x y:Operand}{v:Value}(a:ob fr c (.bool false)) (b:ob fr y v):Zf P (Oper.mk dst (.pick c x y) ty pos after g) fr (v):=⟨fun ds w=>by simp [execOp,b ds,a ds,asBool]⟩
theorem wr {n:Int}(h:-9223372036854775808≤n∧n≤9223372036854775807):IntKind.i64.wrap n=n:=by
 unfold IntKind.wrap;simp [IntKind.bits,IntKind.signed];omega
theorem rB {x y:Operand}{t ib:TypeId}{k:IntKind}{a b c:Int}(d:ob fr x (.int k a)) (e:ob fr y (.int k b)) (hw:k.wrap (a+b)=c):Zf P (Oper.mk dst (.binOp .add t x y ib) ty pos after g) fr ((.int k c)):=by
 subst hw;exact ⟨fun ds w=>by simp [execOp,d ds,e ds,eqGuard,binOp,Op.intArith]⟩
theorem Ly {x y:Operand}{t ib:TypeId}{k:IntKind}{a b c:Int}(d:ob fr x (.int k a)) (e:ob fr y (.int k b)) (hw:k.wrap (a - b)=c):Zf P (Oper.mk dst (.binOp .sub t x y ib) ty pos after g) fr ((.int k c)):=by
 subst hw;exact ⟨fun ds w=>by simp [execOp,d ds,e ds,eqGuard,binOp,Op.intArith]⟩
theorem zF {x y:Operand}{t ib:TypeId}{k:IntKind}{a b c:Int}(d:ob fr x (.int k a)) (e:ob fr y (.int k b)) (hw:k.wrap (a*b)=c):Zf P (Oper.mk dst (.binOp .mul t x y ib) ty pos after g) fr ((.int k c)):=by
 subst hw;exact ⟨fun ds w=>by simp [execOp,d ds,e ds,eqGuard,binOp,Op.intArith]⟩
theorem AF {x y:Operand}{t ib:TypeId}{k:IntKind}{a b c:Int}(d:ob fr x (.int k a)) (e:ob fr y (.int k b)) (f:b≠0) (hw:k.wrap (a.tdiv b)=c):Zf P (Oper.mk dst (.binOp .quo t x y ib) ty pos after g) fr ((.int k c)):=by
 subst hw;exact ⟨fun ds w=>by simp [execOp,d ds,e ds,eqGuard,binOp,Op.intDiv,f]⟩
theorem BF {x y:Operand}{t ib:TypeId}{k:IntKind}{a b c:Int}(d:ob fr x (.int k a)) (e:ob fr y (.int k b)) (f:b≠0) (hw:a.tmod b=c):Zf P (Oper.mk dst (.binOp .rem t x y ib) ty pos after g) fr ((.int k c)):=by
 subst hw;exact ⟨fun ds w=>by simp [execOp,d ds,e ds,eqGuard,binOp,Op.intDiv,f]⟩
theorem CF {x y:Operand}{t ib:TypeId}{k:IntKind}{a b:Int}(c:ob fr x (.int k a)) (d:ob fr y (.int k b)):Zf P (Oper.mk dst (.binOp .lss t x y ib) ty pos after g) fr ((.bool (decide (a<b)))):=⟨fun ds w=>by simp [execOp,c ds,d ds,eqGuard,binOp,Op.intCmp]⟩
theorem mw {x y:Operand}{t ib:TypeId}{k:IntKind}{a b:Int}(c:ob fr x (.int k a)) (d:ob fr y (.int k b)) (e:lf fr dst ((.bool (decide (a<b)))) Ga) (h:K Ga ds w):Td P (Oper.mk dst (.binOp .lss t x y ib) ty pos after g) fr ds w K Q:=Ra (CF c d) e h
theorem KM {x y:Operand}{t ib:TypeId}{k:IntKind}{a b:Int}(c:ob fr x (.int k a)) (d:ob fr y (.int k b)):Zf P (Oper.mk dst (.binOp .leq t x y ib) ty pos after g) fr ((.bool (decide (a≤b)))):=⟨fun ds w=>by simp [execOp,c ds,d ds,eqGuard,binOp,Op.intCmp]⟩
theorem DF {x y:Operand}{t ib:TypeId}{k:IntKind}{a b:Int}(c:ob fr x (.int k a)) (d:ob fr y (.int k b)):Zf P (Oper.mk dst (.binOp .gtr t x y ib) ty pos after g) fr ((.bool (decide (b<a)))):=⟨fun ds w=>by simp [execOp,c ds,d ds,eqGuard,binOp,Op.intCmp]⟩
theorem LM {x y:Operand}{t ib:TypeId}{k:IntKind}{a b:Int}(c:ob fr x (.int k a)) (d:ob fr y (.int k b)) (e:lf fr dst ((.bool (decide (b<a)))) Ga) (h:K Ga ds w):Td P (Oper.mk dst (.binOp .gtr t x y ib) ty pos after g) fr ds w K Q:=Ra (DF c d) e h
theorem MM {x y:Operand}{t ib:TypeId}{k:IntKind}{a b:Int}(c:ob fr x (.int k a)) (d:ob fr y (.int k b)):Zf P (Oper.mk dst (.binOp .geq t x y ib) ty pos after g) fr ((.bool (decide (b≤a)))):=⟨fun ds w=>by simp [execOp,c ds,d ds,eqGuard,binOp,Op.intCmp]⟩
theorem sB {x y:Operand}{t ib:TypeId}{k:IntKind}{a b:Int}(c:ob fr x (.int k a)) (d:ob fr y (.int k b)):Zf P (Oper.mk dst (.binOp .eql t x y ib) ty pos after g) fr ((.bool (decide (a=b)))):=⟨fun ds w=>by simp [execOp,c ds,d ds,eqGuard,binOp,Op.intCmp];rfl⟩
theorem Ql {x y:Operand}{t ib:TypeId}{k:IntKind}{a b:Int}(c:ob fr x (.int k a)) (d:ob fr y (.int k b)) (e:lf fr dst ((.bool (decide (a=b)))) Ga) (h:K Ga ds w):Td P (Oper.mk dst (.binOp .eql t x y ib) ty pos after g) fr ds w K Q:=Ra (sB c d) e h
theorem nw {x y:Operand}{t ib:TypeId}{k:IntKind}{a b:Int}(c:ob fr x (.int k a)) (d:ob fr y (.int k b)):Zf P (Oper.mk dst (.binOp .neq t x y ib) ty pos after g) fr ((.bool (decide (a≠b)))):=⟨fun ds w=>by
  simp [execOp,c ds,d ds,eqGuard,binOp,Op.intCmp];by_cases h:a=b<;>simp [h]⟩
theorem NM {x y:Operand}{t ib:TypeId}{k:IntKind}{a b:Int}(c:ob fr x (.int k a)) (d:ob fr y (.int k b)) (e:lf fr dst ((.bool (decide (a≠b)))) Ga) (h:K Ga ds w):Td P (Oper.mk dst (.binOp .neq t x y ib) ty pos after g) fr ds w K Q:=Ra (nw c d) e h
theorem OM {x:Operand}{t:TypeId}{k:IntKind}{a c:Int}(b:ob fr x (.int k a)) (hw:k.wrap (0 - a)=c):Zf P (Oper.mk dst (.unOp .neg t x) ty pos after g) fr ((.int k c)):=by
 subst hw;exact ⟨fun ds w=>by simp [execOp,b ds,Op.unary,Op.intArith]⟩
theorem EF {x:Operand}{t:TypeId}{b:Bool}(a:ob fr x (.bool b)):Zf P (Oper.mk dst (.unOp .not t x) ty pos after g) fr ((.bool (!b))):=⟨fun ds w=>by simp [execOp,a ds,Op.unary]⟩
theorem PM {x y:Operand}{t ib:TypeId}{a b:List UInt8}(c:ob fr x (S a)) (d:ob fr y (S b)) (l:a.length+b.length≤9223372036854775807):Zf P (Oper.mk dst (.binOp .add t x y ib) ty pos after g) fr ((S (a++b))):=by
 have e:(ByteArray.mk ⟨a⟩).size=a.length:=rfl;have f:(ByteArray.mk ⟨b⟩).size=b.length:=rfl;have h:¬ (((((ByteArray.mk ⟨a⟩).size+(ByteArray.mk ⟨b⟩).size:Nat):Int)) > IntKind.i64.max):=by
  rw [e,f];unfold IntKind.max;simp [IntKind.bits,IntKind.signed];omega
 have i:ByteArray.mk ⟨a⟩++ByteArray.mk ⟨b⟩=ByteArray.mk ⟨a++b⟩:=by
  apply ByteArray.ext;rw [ByteArray.data_append];simp
 refine ⟨fun ds w=>?_⟩;have j:=c ds;have k:=d ds;simp only [execOp,j,k,S,eqGuard,binOp,Op.stringOp];rw [if_neg h,i];simp
theorem tB {x y:Operand}{t ib:TypeId}{a b:List UInt8}(c:ob fr x (S a)) (d:ob fr y (S b)):Zf P (Oper.mk dst (.binOp .eql t x y ib) ty pos after g) fr ((.bool (decide (a=b)))):=by
 refine ⟨fun ds w=>?_⟩;have f:=c ds;have h:=d ds;simp [execOp,f,h,S,eqGuard,binOp,Op.stringOp];by_cases e:a=b<;>simp [e]
theorem uB {x y:Operand}{t ib:TypeId}{a b:List UInt8}(c:ob fr x (S a)) (d:ob fr y (S b)):Zf P (Oper.mk dst (.binOp .neq t x y ib) ty pos after g) fr ((.bool (decide (a≠b)))):=by
 refine ⟨fun ds w=>?_⟩;have f:=c ds;have h:=d ds;simp [execOp,f,h,S,eqGuard,binOp,Op.stringOp];by_cases e:a=b<;>simp [e]
theorem QM {x y:Operand}{t ib:TypeId}{a b:List UInt8}(c:ob fr x (S a)) (d:ob fr y (S b)) (e:lf fr dst ((.bool (decide (a≠b)))) Ga) (h:K Ga ds w):Td P (Oper.mk dst (.binOp .neq t x y ib) ty pos after g) fr ds w K Q:=Ra (uB c d) e h
theorem Hn {x:Operand}{t:TypeId}{a:List UInt8}(b:P.underlying t=some .string) (c:ob fr x (S a)):Zf P (Oper.mk dst (.call { callee:=.builtin .len,args:=#[x],argTypes:=#[t] }) ty pos after g) fr ((.int .i64 a.length)):=by
 refine ⟨fun ds w=>?_⟩;have d:=c ds;have e:(ByteArray.mk ⟨a⟩).size=a.length:=rfl;simp [execOp,d,resolve,invoke,builtin,S,Builtin.len_,run_underlying b,goInt,e]
theorem we {x:Operand}{t e:TypeId}{a:Option Addr}{n c:Nat}(b:P.underlying t=some (.slice e)) (d:ob fr x (.slice a n c)):Zf P (Oper.mk dst (.call { callee:=.builtin .len,args:=#[x],argTypes:=#[t] }) ty pos after g) fr ((.int .i64 n)):=by
 refine ⟨fun ds w=>?_⟩;have f:=d ds;simp [execOp,f,resolve,invoke,builtin,Builtin.len_,run_underlying b,goInt]
theorem kE {x:Operand}{t e:TypeId}{a:Option Addr}{n c:Nat}(b:P.underlying t=some (.slice e)) (d:ob fr x (.slice a n c)) (f:lf fr dst ((.int .i64 n)) Ga) (h:K Ga ds w):Td P (Oper.mk dst (.call { callee:=.builtin .len,args:=#[x],argTypes:=#[t] }) ty pos after g) fr ds w K Q:=Ra (we b d) f h
theorem gL {x y:Operand}{t:TypeId}{k:IntKind}{a:List UInt8}{i:Int}{c:UInt8}(e:P.underlying t=some .string) (f:ob fr x (S a)) (j:ob fr y (.int k i)) (l:0≤i) (b:a[i.toNat]?=some c):Zf P (Oper.mk dst (.index t x y) ty pos after g) fr ((.int .u8 c.toNat)):=by
 refine ⟨fun ds w=>?_⟩;have m:=f ds;have n:=j ds;have o:(ByteArray.mk ⟨a⟩)[i.toNat]?=some c:=by
  have d:i.toNat<a.length:=by
   rcases Nat.lt_or_ge i.toNat a.length with h | h
   ·exact h
   ·rw [List.getElem?_eq_none h] at b;cases b
  rw [getElem?_pos (ByteArray.mk ⟨a⟩) i.toNat (show i.toNat<(ByteArray.mk ⟨a⟩).size from d)];rw [List.getElem?_eq_getElem d] at b;rw [← b];rfl
 simp [execOp,m,n,S,Instr.index,run_underlying e,asIntOf,l,o]
theorem uD (a:List UInt8) (i j:Nat):(ByteArray.mk ⟨a⟩).extract i j=ByteArray.mk ⟨(a.take j).drop i⟩:=by
 rw [Lib.extract_eq];simp [List.drop_take]
theorem NJ {x cl:Operand}{t:TypeId}{k:IntKind}{a:List UInt8}{i:Int}(b:P.underlying t=some .string) (c:ob fr x (S a)) (d:ob fr cl (.int k i))
  (e:0≤i∧i≤a.length):Zf P (Oper.mk dst (.slice t x (some cl) none none) ty pos after g) fr ((S (a.drop i.toNat))):=by
 refine ⟨fun ds w=>?_⟩;have f:=c ds;have h:=d ds;have j:(ByteArray.mk ⟨a⟩).size=a.length:=rfl;simp only [execOp,f,h,S,Option.map,Instr.sliceAt];simp [run_underlying b,Instr.slice,Instr.sliceBounds,Instr.sliceBound,asIntOf,j,e,uD]
theorem OJ {x b:Operand}{t:TypeId}{k':IntKind}{a:List UInt8}{j:Int}(c:P.underlying t=some .string) (d:ob fr x (S a)) (e:ob fr b (.int k' j))
  (f:0≤j∧j≤a.length):Zf P (Oper.mk dst (.slice t x none (some b) none) ty pos after g) fr ((S (a.take j.toNat))):=by
 refine ⟨fun ds w=>?_⟩;have h:=d ds;have i:=e ds;have k:(ByteArray.mk ⟨a⟩).size=a.length:=rfl;simp only [execOp,h,i,S,Option.map,Instr.sliceAt];simp [run_underlying c,Instr.slice,Instr.sliceBounds,Instr.sliceBound,asIntOf,k,f,uD]
theorem wy {x:Operand}{i:Nat}{vs:List Value}{v:Value}(a:ob fr x (.tuple ⟨vs⟩)) (ia:nc vs i v):Zf P (Oper.mk dst (.extract x i) ty pos after g) fr (v):=by
 refine ⟨fun ds w=>?_⟩;have b:=a ds;unfold nc at ia;simp [execOp,b,Instr.extract,ia]
theorem PE {x:Operand}{i:Nat}{vs:List Value}{v:Value}(a:ob fr x (.tuple ⟨vs⟩)) (ia:nc vs i v) (b:lf fr dst (v) Ga) (h:K Ga ds w):Td P (Oper.mk dst (.extract x i) ty pos after g) fr ds w K Q:=Ra (wy a ia) b h
structure wc (P:Program) (f:FuncId) (args:List Value) (w:World) (R:Value→World→Prop):Prop where
 out:Calls P f ⟨args⟩ w fun e w'=>match e with | .returned v=>R v w' | _=>False
theorem wc.mono {f:FuncId}{args:List Value}{R R':Value→World→Prop}(h:wc P f args w R) (a:∀ v w',R v w'→R' v w'):wc P f args w R' :=
 ⟨Calls.mono h.out fun e w' he=>by
  cases e with
  | returned v=>exact a v w' he
  | panicked c=>exact he.elim
  | outgrown=>exact he.elim⟩
def YA (P:Program) (f:FuncId) (args:List Value) (v:Value):Prop:=∀ w,wc P f args w fun a w'=>a=v∧w'=w
class Wb (P:Program) (f:FuncId):Prop where
 out:∀ args w,(callFunc f args).run P w=.ok (.enter f args) w
theorem PJ {f : FuncId} {fn : Func} (a : P.funcs[f]? = some fn) (e : fn.body.isSome = true) (b : (fn.name == "runtime.NumGoroutine") = false) : Wb P f := by
 constructor;intro args w;have c:¬ fn.body=none:=by cases h:fn.body<;>simp_all
 have d : ¬ fn.name = "runtime.NumGoroutine" := by simpa using b
 simp only [callFunc,Sem.run_bind,run_program,Result.andThen_ok,a,beq_iff_eq,if_neg d,Option.isNone_iff_eq_none,if_neg c,Sem.run_pure]
def Hh (fr:List Value) (dst:Option Tmp) (v:Value) (K:List Value→Prop):Prop:=∀ Ga,lf fr dst v Ga→K Ga
theorem lf.uniq {fr a b:List Value}{dst:Option Tmp}{v:Value}(h:lf fr dst v a) (k:lf fr dst v b):a=b:=by
 have:=(h []).symm.trans (k []);unfold F at this;simpa using this
theorem pu {v:Value}{K:List Value→Prop}(a:lf fr dst v Ga) (h:K Ga):Hh fr dst v K:=fun c b=>by rw [lf.uniq b a];exact h
theorem vj (fr:List Value) (dst:Option Tmp) (v:Value):∃ Ga,lf fr dst v Ga:=by
 cases dst with
 | none=>exact ⟨fr,Wa⟩
 | some n=>exact ⟨fr.set n v,ea rfl⟩
theorem HA {o:Oper}{f:FuncId}{args:List Value}{R:Value→World→Prop}(a:(execOp (F fr ds).eval o).run P w=.ok (.enter f ⟨args⟩) w) (b:wc P f args w R)
  (h:∀ v w',R v w'→Hh fr o.dst v fun Ga=>K Ga ds w'):Td P o fr ds w K Q:=by
 constructor;intro g d;unfold Oper.wp;rw [a,Oper.upon_enter];exact Calls.mono b.out fun e w' he=>by
  cases e with
  | returned v =>
   obtain ⟨Ga,xa⟩:=vj fr o.dst v;exact xa.rw (d _ _ _ (h v w' he Ga xa))
  | panicked c=>exact he.elim
  | outgrown=>exact he.elim
theorem qA {f:Operand}{xs:List Operand}{tys:Array TypeId}{k:FuncId}{cap vs:List Value}(a:Wb P k) (b:ob fr f (.func (.func k) #[] ⟨cap⟩)) (c:Em fr xs vs) :
  (execOp (F fr ds).eval (Oper.mk dst (.call { callee:=.value f,args:=⟨xs⟩,argTypes:=tys }) ty pos after g)).run P w=.ok (.enter k ⟨vs++cap⟩) w:=by
 have d:=b ds;have e:=c ds;have h:=a.out ⟨vs++cap⟩ w;simp [execOp,resolve,d,Deferred.ofValue,invoke,e,h]
theorem Qe {f:Operand}{xs:List Operand}{tys:Array TypeId}{k:FuncId}{vs:List Value}{R:Value→World→Prop}(a:Wb P k) (b:ob fr f (.func (.func k) #[] #[])) (c:Em fr xs vs)
  (d:wc P k vs w R) (h:∀ v w',R v w'→Hh fr dst v fun Ga=>K Ga ds w'):Td P (Oper.mk dst (.call { callee:=.value f,args:=⟨xs⟩,argTypes:=tys }) ty pos after g) fr ds w K Q:=by
 refine HA (args:=vs) ?_ d h;have:=qA (w:=w) (dst:=dst) (ty:=ty) (pos:=pos) (after:=after) (g:=g) (tys:=tys) (ds:=ds) (cap:=[]) a b c;simpa using this
theorem Ll {f:Operand}{xs:List Operand}{tys:Array TypeId}{k:FuncId}{vs:List Value}{v:Value}(a:Wb P k) (b:ob fr f (.func (.func k) #[] #[])) (c:Em fr xs vs)
  (d:YA P k vs v) (e:lf fr dst v Ga) (h:K Ga ds w):Td P (Oper.mk dst (.call { callee:=.value f,args:=⟨xs⟩,argTypes:=tys }) ty pos after g) fr ds w K Q :=
 Qe a b c (d w) fun l w' ⟨i,j⟩=>by subst i;subst j;exact pu e h
theorem Zq {f:Operand}{xs:List Operand}{tys:Array TypeId}{k:FuncId}{cap vs:List Value}{R:Value→World→Prop}(a:Wb P k) (b:ob fr f (.func (.func k) #[] ⟨cap⟩)) (c:Em fr xs vs)
  (d:wc P k (vs++cap) w R) (h:∀ v w',R v w'→Hh fr dst v fun Ga=>K Ga ds w'):Td P (Oper.mk dst (.call { callee:=.value f,args:=⟨xs⟩,argTypes:=tys }) ty pos after g) fr ds w K Q :=
 HA (qA a b c) d h
def nr (P:Program) (fn:Func) (R:Value→World→Prop):Exit→Act→World→Prop:=bodyPost P fn fun e w'=>match e with | .returned v=>R v w' | _=>False
theorem enter {f:FuncId}{fn:Func}{c:Code}{args frm:List Value}{R:Value→World→Prop}(a:P.funcs[f]?=some fn) (b:fn.body=some c)
  (d:args++List.replicate (fn.ntmps - args.length) undef=frm) (h:Ie P c (nr P fn R) frm [] w):wc P f args w R:=by
 refine ⟨calls_of_wp a b ?_⟩;subst d;have:(⟨args⟩:Array Value)++Array.replicate (fn.ntmps - args.length) undef=⟨args++List.replicate (fn.ntmps - args.length) undef⟩:=by
  apply Array.ext';simp
 have h:=h.out;simpa [F,nr,this] using h
theorem Ob {fn:Func}{R:Value→World→Prop}{t:Tmp}{v:Value}(a:fn.results=#[.tmp t]) (ia:nc fr t v) (h:R v w):nr P fn R .ret (F fr []) w:=by
 refine bodyPost_ret (v:=v) ?_ rfl h;unfold nc at ia;rw [results_tmp a];simp [F,ia]
theorem pr {fn:Func}{R:Value→World→Prop}{t u:Tmp}{v a:Value}(c:fn.results=#[.tmp t,.tmp u]) (ia:nc fr t v) (b:nc fr u a) (h:R (.tuple #[v,a]) w):nr P fn R .ret (F fr []) w:=by
 refine bodyPost_ret (v:=.tuple #[v,a]) ?_ rfl h;unfold nc at ia b;rw [results_tmp2 c];simp [F,ia,b]
theorem St {fn:Func}{R:Value→World→Prop}(a:fn.results=#[]) (h:R (.tuple #[]) w):nr P fn R .normal (F fr []) w :=
 bodyPost_end (results_none a _ _ _) rfl h
end
end Go.Rb
namespace Go.Rb
open Go.RowKit
structure bj (S:Nat→Prop) (w w':World):Prop where
 os:w'.os=w.os
 tape:w'.tape=w.tape
 output:w'.output=w.output
 size:w.heap.size≤w'.heap.size
 ba:∀ k,k<w.heap.size→S k→w'.heap[k]?=w.heap[k]?
def Grow (w w':World):Prop:=bj (fun _=>True) w w'
theorem bj.refl {S:Nat→Prop}(w:World):bj S w w:=⟨rfl,rfl,rfl,Nat.le_refl _,fun _ _ _=>rfl⟩
theorem bj.trans {S:Nat→Prop}{a b c:World}(h:bj S a b) (k:bj S b c):bj S a c :=
 ⟨k.os.trans h.os,k.tape.trans h.tape,k.output.trans h.output,Nat.le_trans h.size k.size,fun i d e=>(k.ba i (Nat.lt_of_lt_of_le d h.size) e).trans (h.ba i d e)⟩
theorem bj.mono {S c:Nat→Prop}{a b:World}(h:bj S a b) (d:∀ k,c k→S k):bj c a b:=⟨h.os,h.tape,h.output,h.size,fun i e k=>h.ba i e (d i k)⟩
theorem Grow.keeps {S:Nat→Prop}{a b:World}(h:Grow a b):bj S a b:=bj.mono h fun _ _=>trivial
theorem Grow.below {a b:World}(h:Grow a b):Below a.heap.size a b:=⟨h.os,h.tape,h.output,h.size,fun k c=>h.ba k c trivial⟩
theorem Grow.alloc (w:World) (o:Obj):Grow w (w.alloc o):=⟨rfl,rfl,rfl,by simp,fun k a _=>heap_alloc_old w o k a⟩
def Wl (S:Nat→Prop) (w:World) (A:World→Prop):Prop:=∀ w',w.heap.size≤w'.heap.size→(∀ k,k<w.heap.size→S k→w'.heap[k]?=w.heap[k]?)→A w'
theorem Wl.now {S:Nat→Prop}{w:World}{A:World→Prop}(h:Wl S w A):A w:=h w (Nat.le_refl _) fun _ _ _=>rfl
theorem Wl.mono {S a:Nat→Prop}{w:World}{A:World→Prop}(h:Wl S w A) (c:∀ k,k<w.heap.size→S k→a k):Wl a w A:=fun w' d e=>h w' d fun k b f=>e k b (c k b f)
theorem Wl.and {S:Nat→Prop}{w:World}{A B:World→Prop}(h:Wl S w A) (k:Wl S w B):Wl S w fun w'=>A w'∧B w':=fun w' a b=>⟨h w' a b,k w' a b⟩
theorem Wl.keeps {S:Nat→Prop}{w w':World}{A:World→Prop}(h:Wl S w A) (k:bj S w w'):Wl S w' A :=
 fun d e f=>h d (Nat.le_trans k.size e) fun b a c=>(f b (Nat.lt_of_lt_of_le a k.size) c).trans (k.ba b a c)
inductive kb where
 | ba (b:Nat) (T:TypeId) (cs:List Value)
 | row (v:Value) (T:TypeId) (sz n:Nat) (xs:List Value)
 | map (b:Nat) (es:List MapEntry) (clock:Nat)
 | oz (b:Nat) (s:ByteArray) (pos:Nat)
 | ro (b:Nat) (T:TypeId) (cs:List Value)
 | en (b m since:Nat) (seen:List Nat) (last:Nat)
def Qk (w:World) (b:Nat) (T:TypeId) (cs:List Value):Prop:=w.heap[b]?=some (.cells ⟨cs⟩ T (0,0))
def Row (w:World) (v:Value) (T:TypeId) (sz n:Nat) (xs:List Value):Prop :=
 xs.length=n*sz∧((v=.slice none 0 0∧n=0)∨∃ g o cap cur,v=.slice (some ⟨g,o,none⟩) n cap∧w.heap[g]?=some (.cells cur T (0,0))∧n≤cap∧cap≤maxLen∧o+cap*sz≤cur.size∧(cur.toList.drop o).take (n*sz)=xs)
def kb.block:kb→Option Nat
 | .ba b _ _=>some b
 | .row v _ _ _ _=>v.ownBlock
 | .map b _ _=>some b
 | .oz b _ _=>some b
 | .ro b _ _=>some b
 | .en b _ _ _ _=>some b
def kb.holds (w:World):kb→Prop
 | .ba b T cs=>Qk w b T cs
 | .row v T sz n xs=>Row w v T sz n xs
 | .map b es clock=>w.heap[b]?=some (.map ⟨es⟩ clock)
 | .oz b s pos=>w.heap[b]?=some (.stringIter s pos)
 | .ro b T cs=>∃ z,w.heap[b]?=some (.cells ⟨cs⟩ T z)
 | .en b m since seen last=>w.heap[b]?=some (.mapIter (some m) since ⟨seen⟩ last)
def blocks (rs:List kb):List Nat:=rs.filterMap kb.block
structure Sep (S ld:Nat→Prop) (ca w:World) (rs:List kb) (A:World→Prop):Prop where
 keeps:bj S ca w
 all:∀ r ∈ rs,r.holds w
 ej:(blocks rs).Nodup
 new:∀ b ∈ blocks rs,ca.heap.size≤b∨¬ S b
 Yj:Wl (fun b=>(ld b∨ca.heap.size≤b)∧b ∉ blocks rs) w A
theorem OG {w:World}{r:kb}(h:r.holds w){b:Nat}(a:r.block=some b):b<w.heap.size:=by
 cases r with
 | ba Ic T cs=>simp [kb.block] at a; subst a; exact (Array.getElem?_eq_some_iff.1 h).1
 | map Ic es d=>simp [kb.block] at a; subst a; exact (Array.getElem?_eq_some_iff.1 h).1
 | oz Ic s p=>simp [kb.block] at a; subst a; exact (Array.getElem?_eq_some_iff.1 h).1
 | en Ic m s e l=>simp [kb.block] at a; subst a; exact (Array.getElem?_eq_some_iff.1 h).1
 | ro Ic T cs=>obtain ⟨z,h⟩:=h; simp [kb.block] at a; subst a; exact (Array.getElem?_eq_some_iff.1 h).1
 | row v T sz n xs =>
  rcases h.2 with ⟨rfl,_⟩ | ⟨g,o,cap,cur,rfl,c,_⟩
  ·simp [kb.block,Value.ownBlock] at a
  ·simp [kb.block,Value.ownBlock] at a;subst a;exact (Array.getElem?_eq_some_iff.1 c).1
theorem holds_of {w w':World}{r:kb}(h:r.holds w) (a:∀ b,r.block=some b→w'.heap[b]?=w.heap[b]?):r.holds w':=by
 cases r with
 | ba Ic T cs=>exact (a Ic rfl).trans h
 | map Ic es d=>exact (a Ic rfl).trans h
 | oz Ic s p=>exact (a Ic rfl).trans h
 | en Ic m s e l=>exact (a Ic rfl).trans h
 | ro Ic T cs=>obtain ⟨z,h⟩:=h; exact ⟨z,(a Ic rfl).trans h⟩
 | row v T sz n xs =>
  refine ⟨h.1,?_⟩;rcases h.2 with h | ⟨g,o,cap,cur,rfl,c,h⟩
  ·exact .inl h
  ·exact .inr ⟨g,o,cap,cur,rfl,by rw [a g rfl];exact c,h⟩
section
variable {S ld:Nat→Prop}{ca w w':World}{rs rs':List kb}{A B:World→Prop}
theorem Sep.a (h:Sep S ld ca w rs A):A w:=h.Yj.now
theorem Sep.start (w:World) (S ld:Nat→Prop) (a:Wl ld w A):Sep S ld w w [] A :=
 ⟨.refl w,by simp,by simp [blocks],by simp [blocks],a.mono fun k _ b=>⟨.inl b,by simp [blocks]⟩⟩
theorem Sr {r:kb}{b:Nat}(a:r ∈ rs) (c:r.block=some b):b ∈ blocks rs:=List.mem_filterMap.2 ⟨r,a,c⟩
theorem Sep.lt (h:Sep S ld ca w rs A){b:Nat}(a:b ∈ blocks rs):b<w.heap.size:=by
 obtain ⟨r,c,a⟩:=List.mem_filterMap.1 a;exact OG (h.all r c) a
theorem Sep.grow (h:Sep S ld ca w rs A) (a:Grow w w'):Sep S ld ca w' rs A where
 keeps:=h.keeps.trans a.keeps
 all r c:=holds_of (h.all r c) fun b d=>a.ba b (h.lt (Sr c d)) trivial
 ej:=h.ej
 new:=h.new
 Yj:=h.Yj.keeps a.keeps
theorem Sep.alloc (h:Sep S ld ca w rs A){o:Obj}{r:kb}(c:r.block=some w.heap.size) (f:r.holds (w.alloc o)):Sep S ld ca (w.alloc o) (r::rs) A where
 keeps:=h.keeps.trans (Grow.alloc w o).keeps
 all r' d:=by
  rcases List.mem_cons.1 d with rfl | d
  ·exact f
  ·exact (h.grow (Grow.alloc w o)).all r' d
 ej:=by
  simp only [blocks,List.filterMap_cons,c,List.nodup_cons];exact ⟨fun hm=>Nat.lt_irrefl _ (h.lt hm),h.ej⟩
 new b a:=by
  simp only [blocks,List.filterMap_cons,c,List.mem_cons] at a;rcases a with rfl | a
  ·exact .inl h.keeps.size
  ·exact h.new b a
 Yj:=fun w' g i=>h.Yj w' (by simp at g;omega) fun k j e=>by
  have:=i k (by simp;omega) ⟨e.1,by
   simp only [blocks,List.filterMap_cons,c,List.mem_cons,not_or];exact ⟨by omega,e.2⟩⟩
  rw [this];exact heap_alloc_old w o k j
theorem xy {r:kb}{n:Nat}(ia:nc rs n r):r ∈ rs:=List.mem_of_getElem? ia
theorem Sep.get (h:Sep S ld ca w rs A){n:Nat}{r:kb}(ia:nc rs n r):r.holds w:=h.all r (xy ia)
theorem YC {n:Nat}{r r':kb}(ia:nc rs n r) (b:r'.block=r.block):blocks (rs.set n r')=blocks rs:=by
 unfold nc at ia;unfold blocks
 induction rs generalizing n with
 | nil=>rfl
 | cons a rs c =>
  cases n with
  | zero=>simp at ia; subst ia; simp [List.filterMap_cons,b]
  | succ n=>simp at ia; simp only [List.set_cons_succ,List.filterMap_cons,c ia]
theorem BC {n m:Nat}{r d:kb}(xa:(blocks rs).Nodup) (ia:nc rs n r) (hm:nc rs m d) (h:n≠m){b:Nat}(f:r.block=some b):d.block≠some b:=by
 unfold nc at ia hm;unfold blocks at xa
 induction rs generalizing n m with
 | nil=>simp at ia
 | cons a rs i =>
  have j:(List.filterMap kb.block rs).Nodup:=by
   cases g:a.block with
   | none=>simpa [List.filterMap_cons,g] using xa
   | some c=>simp only [List.filterMap_cons,g,List.nodup_cons] at xa; exact xa.2
  cases n with
  | zero =>
   cases m with
   | zero=>exact absurd rfl h
   | succ m =>
    simp at ia hm;subst ia;intro e;simp only [List.filterMap_cons,f,List.nodup_cons] at xa;exact xa.1 (List.mem_filterMap.2 ⟨d,List.mem_of_getElem? hm,e⟩)
  | succ n =>
   cases m with
   | zero =>
    simp at ia hm;subst hm;intro e;simp only [List.filterMap_cons,e,List.nodup_cons] at xa;exact xa.1 (List.mem_filterMap.2 ⟨r,List.mem_of_getElem? ia,f⟩)
   | succ m=>simp at ia hm; exact i j ia hm (by omega)
theorem Sep.put (h:Sep S ld ca w rs A){n:Nat}{r r':kb}{b:Nat}(ia:nc rs n r) (f:r.block=some b) (p:r'.block=some b) (j:uc rs n r' rs')
  (q:r'.holds w') (a:bj (fun k=>k≠b) w w'):Sep S ld ca w' rs' A:=by
 unfold uc at j;subst j;have l:=Sr (xy ia) f;have g:=YC (r':=r') ia (p.trans f.symm);refine ⟨?_,?_,?_,?_,?_⟩
 ·refine ⟨a.os.trans h.keeps.os,a.tape.trans h.keeps.tape,a.output.trans h.keeps.output,Nat.le_trans h.keeps.size a.size,fun k i d=>?_⟩;rw [a.ba k (Nat.lt_of_lt_of_le i h.keeps.size) (fun e=>by subst e;rcases h.new k l with h | h;exact absurd i (by omega);exact h d)];exact h.keeps.ba k i d
 ·intro s t;obtain ⟨m,hm⟩:=List.mem_iff_getElem?.1 t;by_cases e:n=m
  ·subst e;have u:n<rs.length:=(List.getElem?_eq_some_iff.1 ia).1;rw [List.getElem?_set_self u] at hm;cases hm;exact q
  ·rw [List.getElem?_set_ne e] at hm;refine holds_of (h.all s (List.mem_of_getElem? hm)) fun c o=>a.ba c (h.lt (Sr (List.mem_of_getElem? hm) o)) fun v=>?_;subst v;exact BC h.ej ia hm e f o
 ·rw [g];exact h.ej
 ·rw [g];exact h.new
 ·rw [g];exact h.Yj.keeps (a.mono fun k d e=>d.2 (by subst e;exact l))
end
def Vy:TypeDesc→Bool
 | .struct _ | .array _ _=>true
 | _=>false
class Nc (P:Program) (T:TypeId) (td:outParam Bool) (yd:outParam (List Value)) (n m:outParam Nat):Prop where
 bC:∃ d,P.underlying T=some d∧Vy d=td
 inf:∃ i z,P.info? T=some i∧i.zero=some z∧z.cells=⟨yd⟩∧i.size=n∧i.bytes=m
theorem RM {P:Program}{T:TypeId}{d:TypeDesc}{td:Bool}{z:Value}{yd:List Value}{n m:Nat}(hu:P.underlying T=some d) (b:Vy d=td) (h:(P.info? T).map (fun i=>(i.zero,i.size,i.bytes))=some (some z,n,m)) (c:z.cells=⟨yd⟩):Nc P T td yd n m:=by
 refine ⟨⟨d,hu,b⟩,?_⟩;cases a:P.info? T with
 | none=>rw [a] at h; cases h
 | some i =>
  rw [a] at h;simp only [Option.map_some,Option.some.injEq,Prod.mk.injEq] at h;exact ⟨i,z,rfl,h.1,c,h.2.1,h.2.2⟩
def Kg:Value→Bool
 | .agg _ | .tuple _=>false
 | _=>true
section
variable {P:Program}{Q:Exit→Act→World→Prop}{K:List Value→List Deferred→World→Prop}{fr Ga:List Value}{ds:List Deferred}{w:World}
variable {dst:Option Tmp}{ty:TypeId}{pos:String}{after:Array Edge}{g:Option (Nat×Bool)}
variable {S ld:Nat→Prop}{ca:World}{rs rs':List kb}{A:World→Prop}
variable {T:TypeId}{d:TypeDesc}{td:Bool}{yd:List Value}{n m:Nat}
theorem WH (h:P.underlying T=some d):(isAgg T).run P w=.ok (Vy d) w:=by
 unfold isAgg;simp only [Sem.run_bind,run_underlying h,Result.andThen_ok];cases d<;>rfl
theorem Nc.isAgg (h:Nc P T td yd n m):(Go.isAgg T).run P w=.ok td w:=by
 obtain ⟨d,xa,rfl⟩:=h.bC;exact WH xa
theorem Nc.sizeOf (h:Nc P T td yd n m):(Go.sizeOf T).run P w=.ok n w:=by
 obtain ⟨i,z,a,c,d,b,hm⟩:=h.inf;simp [Go.sizeOf,typeInfo,a,b]
theorem Nc.zero (h:Nc P T td yd n m):∃ z,(zeroValue T).run P w=.ok z w∧z.cells=⟨yd⟩:=by
 obtain ⟨i,z,a,b,c,d,hm⟩:=h.inf;exact ⟨z,by simp [zeroValue,typeInfo,a,b],c⟩
def Nj (w:World) (b o:Nat) (cs:List Value):Prop:=∀ j v,cs[j]?=some v→w.cell? ⟨b,o+j,none⟩=some v
theorem Ak (b o j:Nat):(⟨b,o,none⟩:Addr).add j=⟨b,o+j,none⟩:=by
 unfold Addr.add;split
 ·rename_i h;subst h;rfl
 ·rfl
theorem Qk.cell {b:Nat}{cs:List Value}{j:Nat}{v:Value}(h:Qk w b T cs) (ia:nc cs j v):w.cell? ⟨b,j,none⟩=some v:=by
 unfold nc at ia;unfold Qk at h;simp [World.cell?,h,ia]
theorem Qk.cells {b:Nat}{cs:List Value}(h:Qk w b T cs):Nj w b 0 cs:=fun j v ia=>by
 rw [Nat.zero_add];exact h.cell ia
theorem Nj.one {b o:Nat}{cs:List Value}{j:Nat}{v:Value}(h:Nj w b o cs) (ia:nc cs j v):w.cell? ⟨b,o+j,none⟩=some v:=h j v ia
theorem pd (a:Nc P T td yd n m) (c:Sep S ld ca w rs A)
  (h:∀ b w',w.heap.size≤b→Sep S ld ca w' (.ba b T yd::rs) A→Hh fr dst (.pointer (some ⟨b,0,none⟩)) fun Ga=>K Ga ds w'):Td P (Oper.mk dst (.alloc T) ty pos after g) fr ds w K Q:=by
 obtain ⟨z,d,e⟩:=a.zero (w:=w);obtain ⟨Ga,xa⟩:=vj fr dst (.pointer (some ⟨w.heap.size,0,none⟩));refine qi (v:=.pointer (some ⟨w.heap.size,0,none⟩)) (w':=w.alloc (.cells ⟨yd⟩ T)) ?_ xa (h _ _ (Nat.le_refl _) (c.alloc rfl (heap_alloc_new w _)) Ga xa);simp [execOp,Instr.alloc,d,newVar,newRow,e]
theorem bq {x:Operand}{v:Value}{cs:List Value}(a:ob fr x v) (c:v.cells=⟨cs⟩) (d:Sep S ld ca w rs A)
  (h:∀ b w',w.heap.size≤b→Sep S ld ca w' (.ba b T cs::rs) A→Hh fr dst (.pointer (some ⟨b,0,none⟩)) fun Ga=>K Ga ds w'):Td P (Oper.mk dst (.box T x) ty pos after g) fr ds w K Q:=by
 obtain ⟨Ga,xa⟩:=vj fr dst (.pointer (some ⟨w.heap.size,0,none⟩));refine qi (v:=.pointer (some ⟨w.heap.size,0,none⟩)) (w':=w.alloc (.cells ⟨cs⟩ T)) ?_ xa (h _ _ (Nat.le_refl _) (d.alloc rfl (heap_alloc_new w _)) Ga xa);simp [execOp,Instr.box,a ds,newVar,newRow,c]
structure Qo (P:Program) (o:Oper) (fr:List Value) (w:World) (v:Value):Prop where
 out:∀ ds,(execOp (F fr ds).eval o).run P w=.ok (.value v) w
theorem Av {o:Oper}{v:Value}(hu:Qo P o fr w v) (a:lf fr o.dst v Ga) (h:K Ga ds w):Td P o fr ds w K Q:=qi (hu.out ds) a h
theorem qb {x:Operand}{b o:Nat}{v:Value}(a:Nc P T false yd n m) (c:ob fr x (.pointer (some ⟨b,o,none⟩))) (d:w.cell? ⟨b,o,none⟩=some v):Qo P (Oper.mk dst (.load T x) ty pos after g) fr w v :=
 ⟨fun ds=>by simp [execOp,Instr.loadAt,c ds,Instr.sureAddr,loadVar,a.isAgg,d]⟩
theorem Yc {x:Operand}{b o:Nat}{v:Value}(a:Nc P T false yd n m) (c:ob fr x (.pointer (some ⟨b,o,none⟩))) (d:w.cell? ⟨b,o,none⟩=some v)
  (e:lf fr dst v Ga) (h:K Ga ds w):Td P (Oper.mk dst (.load T x) ty pos after g) fr ds w K Q:=Av (qb a c d) e h
theorem Jh {x:Operand}{b o:Nat}{cs:List Value}(a:Nc P T true yd n m) (c:ob fr x (.pointer (some ⟨b,o,none⟩))) (d:Nj w b o cs) (e:cs.length=n):Qo P (Oper.mk dst (.load T x) ty pos after g) fr w (.agg ⟨cs⟩):=⟨fun ds=>by
 have ia:=run_loadCells_list (P:=P) w ⟨b,o,none⟩ cs (fun j v f=>by rw [Ak];exact d j v f);rw [e] at ia;simp [execOp,Instr.loadAt,c ds,Instr.sureAddr,loadVar,a.isAgg,a.sizeOf,ia]⟩
theorem gp {x:Operand}{b o:Nat}{cs:List Value}(a:Nc P T true yd n m) (c:ob fr x (.pointer (some ⟨b,o,none⟩))) (d:Nj w b o cs) (e:cs.length=n)
  (f:lf fr dst (.agg ⟨cs⟩) Ga) (h:K Ga ds w):Td P (Oper.mk dst (.load T x) ty pos after g) fr ds w K Q:=Av (Jh a c d e) f h
inductive Mg:List Value→Nat→List Value→List Value→Prop where
 | z {cs:List Value} {o:Nat}:Mg cs o [] cs
 | s {cs cs1 a:List Value} {o:Nat} {v:Value} {vs:List Value} (h:uc cs o v cs1) (ia:o<cs.length) (k:Mg cs1 (o+1) vs a):Mg cs o (v::vs) a
theorem Mg.eq {cs:List Value}{o:Nat}{vs b:List Value}(h:Mg cs o vs b):o+vs.length≤cs.length∨vs=[]:=by
 induction h with
 | z=>exact .inr rfl
 | @s cs cs1 b o v vs h ia k a =>
  left;unfold uc at h;subst h;rcases a with a | rfl
  ·simp at a ⊢;omega
  ·simp;omega
theorem Mg.res {cs:List Value}{o:Nat}{vs a:List Value}(h:Mg cs o vs a) (ia:o≤cs.length):a=cs.take o++vs++cs.drop (o+vs.length):=by
 induction h with
 | z=>simp
 | @s cs cs1 a o v vs h b k c =>
  unfold uc at h;subst h;rw [c (by simp;omega)];have qa:(cs.set o v).take (o+1)=cs.take o++[v]:=by
   rw [List.take_set,List.take_add_one,List.getElem?_eq_getElem b];rw [List.set_append_right _ _ (by simp;omega)];simp [Nat.min_eq_left (Nat.le_of_lt b)]
  rw [qa];have d:(cs.set o v).drop (o+1+vs.length)=cs.drop (o+(v::vs).length):=by
   rw [List.drop_set_of_lt (by omega)];congr 1;simp;omega
  rw [d];simp
theorem rA {v:Value}(h:Kg v=true):v.oneCell'=true:=by cases v<;>first | rfl | simp [Kg] at h
theorem oH {b:Nat}{cs:List Value}(c:Qk w b T cs){o:Nat}{vs d:List Value}(a:Mg cs o vs d) (e:o≤cs.length) (f:vs.all Kg=true) :
  ∃ w',(storeCells ⟨b,o,none⟩ vs).run P w=.ok () w'∧Qk w' b T d∧bj (fun k=>k≠b) w w':=by
 have hle:o+0+vs.length≤(⟨cs⟩:Array Value).size:=by
  rcases a.eq with h | rfl
  ·simpa using h
  ·simpa using e
 refine ⟨_,run_storeCells_at P b o T vs 0 ⟨cs⟩ w c hle fun v g=>rA (List.all_eq_true.1 f v g),?_,?_⟩
 ·rw [a.res e];exact setRow_heap w b ⟨cs⟩ _ T (0,0) c
 ·exact ⟨rfl,rfl,rfl,by simp [World.setRow],fun k i a=>setRow_other w b k _ a⟩
theorem Yv {x y:Operand}{b o k:Nat}{v:Value}{cs a vs:List Value}(e:Nc P T td yd n m) (f:ob fr x (.pointer (some ⟨b,o,none⟩))) (i:ob fr y v) (c:v.cells=⟨vs⟩) (j:vs.length=n) (l:vs.all Kg=true)
  (d:Sep S ld ca w rs A) {vg:TypeId}(ia:nc rs k (.ba b vg cs)) (p:Mg cs o vs a) (q:(decide (o≤cs.length))=true) (r:uc rs k (.ba b vg a) rs')
  (xa:lf fr dst undef Ga) (h:∀ w',Sep S ld ca w' rs' A→K Ga ds w'):Td P (Oper.mk dst (.store T x y) ty pos after g) fr ds w K Q:=by
 obtain ⟨w',s,t,u⟩:=oH (P:=P) (d.get ia) p (of_decide_eq_true q) l;refine NB (w':=w') ?_ xa (h w' (d.put ia rfl rfl r t u));have qa:v.cells.toList=vs:=by rw [c]
 have z:¬ (v.cells.size≠n):=by rw [c];simpa using j
 have B:=e.sizeOf (w:=w);simp only [execOp,Instr.storeAt,f ds,i ds,Instr.sureAddr,storeVar,Sem.run_bind,B,Result.andThen_ok,if_neg z,qa,s,Sem.run_pure]
class re (P:Program) (T:TypeId) (i:Nat) (off:outParam Nat):Prop where
 out:∀ b o w,(Instr.fieldAt T (.pointer (some ⟨b,o,none⟩)) i).run P w=.ok (.pointer (some ⟨b,o+off,none⟩)) w
theorem Ee {c:Array Field}{i off:Nat}{f:Field}{vg:TypeId}{d:List Value}{a e:Nat}{g:Bool}(h:P.underlying T=some (.struct c)) (j:c[i]?=some f) (k:f.offset=off) (l:f.type=vg) (m:Nc P vg g d a e) (n:(a == 0)=false):re P T i off:=by
 constructor;intro b o w;have p:¬ a=0:=by simpa using n
 simp [Instr.fieldAt,run_underlying h,j,Instr.sureAddr,fieldPlace,l,m.sizeOf,p,Ak,k]
theorem Eg {x:Operand}{b o i off a:Nat}(c:re P T i off) (d:ob fr x (.pointer (some ⟨b,o,none⟩))) (e:o+off=a):Zf P (Oper.mk dst (.fieldAddr T x i) ty pos after g) fr ((.pointer (some ⟨b,a,none⟩))):=by
 subst e;exact ⟨fun ds w=>by simp [execOp,d ds,c.out]⟩
theorem Vh {x:Operand}{b o i off a:Nat}(c:re P T i off) (d:ob fr x (.pointer (some ⟨b,o,none⟩))) (e:o+off=a) (f:lf fr dst ((.pointer (some ⟨b,a,none⟩))) Ga) (h:K Ga ds w):Td P (Oper.mk dst (.fieldAddr T x i) ty pos after g) fr ds w K Q:=Ra (Eg c d e) f h
theorem QJ {x:Operand}{i off:Nat}{cs:List Value}{v:Value}{a:Array Field}{f:Field}{vg:TypeId}{b:List Value}{c d:Nat}(e:P.underlying T=some (.struct a)) (h:a[i]?=some f) (j:f.offset=off) (k:f.type=vg) (l:Nc P vg false b c d)
  (m:ob fr x (.agg ⟨cs⟩)) (ia:nc cs off v):Zf P (Oper.mk dst (.field T x i) ty pos after g) fr (v):=by
 subst j k;unfold nc at ia;refine ⟨fun ds w=>?_⟩;simp [execOp,m ds,Instr.field,run_underlying e,h,asAgg,part,l.isAgg,ia]
theorem lE {x:Operand}{i off:Nat}{cs:List Value}{v:Value}{a:Array Field}{f:Field}{vg:TypeId}{b:List Value}{c d:Nat}(e:P.underlying T=some (.struct a)) (j:a[i]?=some f) (k:f.offset=off) (l:f.type=vg) (m:Nc P vg false b c d)
  (n:ob fr x (.agg ⟨cs⟩)) (ia:nc cs off v) (o:lf fr dst (v) Ga) (h:K Ga ds w):Td P (Oper.mk dst (.field T x i) ty pos after g) fr ds w K Q:=Ra (QJ e j k l m n ia) o h
theorem Ew {x y:Operand}{b o len cap:Nat}{k:IntKind}{i:Int}{e:TypeId}{a:Nat}(c:P.underlying T=some (.slice e)) (d:Nc P e td yd n m) (f:ob fr x (.slice (some ⟨b,o,none⟩) len cap)) (h:ob fr y (.int k i)) (j:0≤i∧i<len) (l:o+i.toNat*n=a):Zf P (Oper.mk dst (.indexAddr T x y) ty pos after g) fr ((.pointer (some ⟨b,a,none⟩))):=by
 subst l;refine ⟨fun ds w=>?_⟩;simp [execOp,f ds,h ds,Instr.indexAt,asIntOf,run_underlying c,j,d.sizeOf,Ak]
theorem fi {x:Operand}{a:Addr}(b:ob fr x (.pointer (some a))):Zf P (Oper.mk dst (.nilCheck x) ty pos after g) fr ((.pointer (some a))):=⟨fun ds w=>by simp [execOp,b ds]⟩
theorem aj {x:Operand}{a:Addr}(b:ob fr x (.pointer (some a))) (c:lf fr dst ((.pointer (some a))) Ga) (h:K Ga ds w):Td P (Oper.mk dst (.nilCheck x) ty pos after g) fr ds w K Q:=Ra (fi b) c h
end
end Go.Rb
namespace Go.Rb
open Go.RowKit
section
variable {P:Program}{Q:Exit→Act→World→Prop}{K:List Value→List Deferred→World→Prop}{fr Ga:List Value}{ds:List Deferred}{w:World}
variable {dst:Option Tmp}{ty:TypeId}{pos:String}{after:Array Edge}{g:Option (Nat×Bool)}
variable {S ld:Nat→Prop}{ca:World}{rs rs':List kb}{A:World→Prop}
variable {T:TypeId}{d:TypeDesc}{td:Bool}{yd:List Value}{n m:Nat}
inductive ta:List kb→Nat→List kb→Prop where
 | z {r:kb} {rs:List kb}:ta (r::rs) 0 rs
 | s {r:kb} {rs rs':List kb} {k:Nat} (h:ta rs k rs'):ta (r::rs) (k+1) (r::rs')
theorem ta.mem {k:Nat}(h:ta rs k rs'):∀ r ∈ rs',r ∈ rs:=by
 induction h with
 | z=>intro r a; exact List.mem_cons_of_mem _ a
 | s _ b=>intro r a; rcases List.mem_cons.1 a with rfl | a; exact List.mem_cons_self; exact List.mem_cons_of_mem _ (b r a)
theorem ta.sub {k:Nat}(h:ta rs k rs'):rs'.Sublist rs:=by
 induction h with
 | z=>exact List.sublist_cons_self _ _
 | s _ a=>exact a.cons_cons _
theorem Sep.drop {k:Nat}(h:Sep S ld ca w rs A) (a:ta rs k rs'):Sep S ld ca w rs' A where
 keeps:=h.keeps
 all r d:=h.all r (a.mem r d)
 ej:=(a.sub.filterMap _).nodup h.ej
 new b e:=h.new b ((a.sub.filterMap _).subset e)
 Yj:=h.Yj.mono fun _ _ c=>⟨c.1,fun hm=>c.2 ((a.sub.filterMap _).subset hm)⟩
theorem Sep.freeze {k:Nat}{r:kb}{B:World→Prop}(h:Sep S ld ca w rs A) (ia:nc rs k r) (a:ta rs k rs') (e:∀ b,r.block=some b→ld b∨ca.heap.size≤b) (hB:∀ w,r.holds w→B w) :
  Sep S ld ca w rs' fun w=>A w∧B w where
 keeps:=(h.drop a).keeps
 all:=(h.drop a).all
 ej:=(h.drop a).ej
 new:=(h.drop a).new
 Yj:=(h.drop a).Yj.and fun w' j f=>hB w' (holds_of (h.get ia) fun b d=>f b (h.lt (Sr (xy ia) d)) ⟨e b d,by
  intro hm;have:blocks rs'=(blocks rs).erase b∨True:=.inr trivial;clear this;have xa:=h.ej;clear hB e j f h;unfold blocks at hm xa;unfold nc at ia
  induction a with
  | z=>simp at ia; subst ia; simp only [List.filterMap_cons,d,List.nodup_cons] at xa; exact xa.1 hm
  | @s r' rs rs' k a g =>
   simp at ia;cases i:r'.block with
   | none=>simp only [List.filterMap_cons,i] at hm xa; exact g ia hm xa
   | some c =>
    simp only [List.filterMap_cons,i,List.nodup_cons,List.mem_cons] at hm xa;rcases hm with rfl | hm
    ·exact xa.1 (List.mem_filterMap.2 ⟨r,List.mem_of_getElem? ia,d⟩)
    ·exact g ia hm xa.2⟩)
inductive Ge (fr:List Value):Nat→List (Nat×Operand)→List Value→Prop where
 | z {i:Nat}:Ge fr i [] []
 | s {i:Nat} {x:Operand} {v:Value} {xs:List (Nat×Operand)} {vs:List Value} (h:ob fr x v) (a:Kg v=true) (t:Ge fr (i+1) xs vs):Ge fr i ((i,x)::xs) (v::vs)
theorem Ge.eval {i:Nat}{xs:List (Nat×Operand)}{vs:List Value}(h:Ge fr i xs vs):xs.map (fun p=>(p.1,(F fr ds).eval p.2))=(vs.zipIdx i).map fun p=>(p.2,p.1):=by
 induction h with
 | z=>rfl
 | s h _ _ a=>simp [h ds,a]
theorem Ge.cell {i:Nat}{xs:List (Nat×Operand)}{vs:List Value}(h:Ge fr i xs vs):∀ v ∈ vs,Kg v=true:=by
 induction h with
 | z=>simp
 | s _ b _ c=>intro v a; rcases List.mem_cons.1 a with rfl | a; exact b; exact c v a
theorem dA {v:Value}(h:Kg v=true):v.cells=#[v]:=by cases v<;>first | rfl | simp [Kg] at h
theorem vD (pl:Nat→Option (Nat×Nat)) (a:∀ i,pl i=some (i,1)):∀ (vs:List Value) (i:Nat) (cs:List Value),(∀ v ∈ vs,Kg v=true)→i+vs.length≤cs.length →
  Instr.fill pl ⟨cs⟩ ((vs.zipIdx i).map fun p=>(p.2,p.1))=some ⟨cs.take i++vs++cs.drop (i+vs.length)⟩
 | [],i,cs,_,h=>by simp [Instr.fill]
 | v::vs,i,cs,b,h=>by
  have e:=dA (b v (by simp));have d:i<cs.length:=by simp at h;omega
  have f:=vD pl a vs (i+1) (cs.set i v) (fun u hu=>b u (by simp [hu])) (by simp at h ⊢;omega);simp only [List.zipIdx_cons,List.map_cons,Instr.fill,a,e];have nb:¬ ((#[v].size≠1 || i+#[v].size > (⟨cs⟩:Array Value).size)=true):=by simp;omega
  rw [if_neg nb];have qa:(#[v].zipIdx.foldl (fun cs (c,j)=>cs.setIfInBounds (i+j) c) (⟨cs⟩:Array Value))=⟨cs.set i v⟩:=by
   simp [Array.zipIdx]
  rw [qa,f];have g:(cs.set i v).take (i+1)=cs.take i++[v]:=by
   rw [List.take_set,List.take_add_one,List.getElem?_eq_getElem d];rw [List.set_append_right _ _ (by simp;omega)];simp [Nat.min_eq_left (Nat.le_of_lt d)]
  have k:(cs.set i v).drop (i+1+vs.length)=cs.drop (i+(v::vs).length):=by
   rw [List.drop_set_of_lt (by omega)];congr 1;simp;omega
  rw [g,k];simp
theorem wj {e:TypeId}{len:Nat}{xs:List (Nat×Operand)}{vs:List Value}(l:P.underlying T=some (.slice e)) (a:Nc P e td yd 1 m) (c:Ge fr 0 xs vs) (d:vs.length=len) (n:(decide (len≤16777216))=true) (o:Sep S ld ca w rs A)
  (h:∀ b w',w.heap.size≤b→Sep S ld ca w' (.ba b e vs::rs) A→Hh fr dst (.slice (some ⟨b,0,none⟩) len len) fun Ga=>K Ga ds w'):Td P (Oper.mk dst (.buildSlice T len ⟨xs⟩) ty pos after g) fr ds w K Q:=by
 obtain ⟨Ga,xa⟩:=vj fr dst (.slice (some ⟨w.heap.size,0,none⟩) len len);refine qi (v:=.slice (some ⟨w.heap.size,0,none⟩) len len) (w':=w.alloc (.cells ⟨vs⟩ e)) ?_ xa (h _ _ (Nat.le_refl _) (o.alloc rfl (heap_alloc_new w _)) Ga xa);obtain ⟨z,q,u⟩:=a.zero (w:=w);have r:=a.sizeOf (w:=w);have s:¬ (len*1 > 2 ^ 24):=by have:=of_decide_eq_true n;omega
 have t:=c.eval (ds:=ds);have f:∀ cs:Array Value,cs.size=len→Instr.fill (fun i=>some (i*1,1)) cs ((vs.zipIdx 0).map fun p=>(p.2,p.1))=some ⟨vs⟩:=by
  intro cs j;have:=vD (fun i=>some (i*1,1)) (fun i=>by rw [Nat.mul_one]) vs 0 cs.toList c.cell (by simp [d,j]);rw [this,List.drop_eq_nil_of_le (by simp [d,j])];simp
 have ia:((⟨xs⟩:Array (Nat×Operand)).map fun (i,x)=>(i,(F fr ds).eval x)).toList=(vs.zipIdx 0).map fun p=>(p.2,p.1):=by
  simp only [Array.toList_map];exact t
 unfold execOp;simp only [Instr.buildSlice,Sem.run_bind,run_underlying l,Result.andThen_ok,r,if_neg s,ia];by_cases k:len*1=0
 ·simp only [if_pos k,Sem.run_bind,Sem.run_pure,Result.andThen_ok];rw [f _ (by simp)];simp [newRow]
 ·simp only [if_neg k,Sem.run_bind,Sem.run_pure,Result.andThen_ok,q];rw [f _ (by simp)];simp [newRow]
theorem Sep.row {k:Nat}{v q:Value}{sz x:Nat}{xs y:List Value}{w':World}(f:Sep S ld ca w rs A) (ia:nc rs k (.row v T sz n xs)) (D:uc rs k (.row q T sz x y) rs') (G:Row w' q T sz x y)
  (o:bj (fun b=>some b≠v.ownBlock) w w') (p:q.ownBlock=v.ownBlock∨∃ b,q.ownBlock=some b∧w.heap.size≤b):Sep S ld ca w' rs' A:=by
 unfold uc at D;subst D;have z:∀ b,v.ownBlock=some b→b ∈ blocks rs:=fun b d=>Sr (xy ia) d;have B:∀ b ∈ blocks (rs.set k (.row q T sz x y)),(b ∈ blocks rs)∨(q.ownBlock=some b∧w.heap.size≤b):=by
  intro b d;obtain ⟨r,u,m⟩:=List.mem_filterMap.1 d;rcases List.mem_or_eq_of_mem_set u with hm | rfl
  ·exact .inl (Sr hm m)
  ·rcases p with p | ⟨c,s,hle⟩
   ·exact .inl (z b (p ▸ m))
   ·have:c=b:=by simpa [kb.block,s] using m
    subst this;exact .inr ⟨s,hle⟩
 have H:∀ b ∈ blocks rs,b ∈ blocks (rs.set k (.row q T sz x y))∨v.ownBlock=some b:=by
  intro b d;obtain ⟨r,u,m⟩:=List.mem_filterMap.1 d;obtain ⟨j,C⟩:=List.mem_iff_getElem?.1 u;by_cases e:k=j
  ·subst e;unfold nc at ia;rw [ia] at C;cases C;exact .inr m
  ·exact .inl (Sr (r:=r) (List.mem_of_getElem? (i:=j) (by rw [List.getElem?_set_ne e];exact C)) m)
 refine ⟨?_,?_,?_,?_,?_⟩
 ·refine ⟨o.os.trans f.keeps.os,o.tape.trans f.keeps.tape,o.output.trans f.keeps.output,Nat.le_trans f.keeps.size o.size,fun b d t=>?_⟩;rw [o.ba b (Nat.lt_of_lt_of_le d f.keeps.size) (fun e=>by rcases f.new b (z b e.symm) with h | h;exact absurd d (by omega);exact h t)];exact f.keeps.ba b d t
 ·intro K L;obtain ⟨j,hm⟩:=List.mem_iff_getElem?.1 L;by_cases e:k=j
  ·subst e;have g:k<rs.length:=(List.getElem?_eq_some_iff.1 ia).1;rw [List.getElem?_set_self g] at hm;cases hm;exact G
  ·rw [List.getElem?_set_ne e] at hm;refine holds_of (f.all K (List.mem_of_getElem? hm)) fun c s=>o.ba c (f.lt (Sr (List.mem_of_getElem? hm) s)) fun M=>?_;exact BC f.ej ia hm e (b:=c) M.symm s
 ·have xa:=f.ej;have g:=fun b (d:b ∈ blocks rs)=>f.lt d;clear B H z;unfold nc at ia
  revert ia xa g
  generalize rs=l;unfold blocks;intro ia xa g
  induction l generalizing k with
  | nil=>simp at ia
  | cons a l E =>
   cases k with
   | zero =>
    simp at ia;subst ia;simp only [List.set_cons_zero,List.filterMap_cons,kb.block] at xa g ⊢;rcases p with p | ⟨c,s,hle⟩
    ·rw [p];exact xa
    ·rw [s];cases d:v.ownBlock with
     | none =>
      rw [d] at xa g;exact List.nodup_cons.2 ⟨fun hm=>by have:=g c hm;omega,xa⟩
     | some b =>
      rw [d] at xa g;exact List.nodup_cons.2 ⟨fun hm=>by have:=g c (List.mem_cons_of_mem _ hm);omega,(List.nodup_cons.1 xa).2⟩
   | succ k =>
    simp at ia;simp only [List.set_cons_succ,List.filterMap_cons] at xa g ⊢;cases F:a.block with
    | none=>rw [F] at xa g; exact E ia xa g
    | some c =>
     rw [F] at xa g;simp only [List.nodup_cons] at xa ⊢;refine ⟨fun hm=>?_,E ia xa.2 fun b d=>g b (List.mem_cons_of_mem _ d)⟩;obtain ⟨r,u,m⟩:=List.mem_filterMap.1 hm;rcases List.mem_or_eq_of_mem_set u with hm | rfl
     ·exact xa.1 (List.mem_filterMap.2 ⟨r,hm,m⟩)
     ·rcases p with p | ⟨c',N,hle⟩
      ·exact xa.1 (List.mem_filterMap.2 ⟨_,List.mem_of_getElem? ia,by rw [← m];exact p.symm⟩)
      ·have:c'=c:=by simpa [kb.block,N] using m
       have:=g c (by simp);omega
 ·intro b d;rcases B b d with h | h
  ·exact f.new b h
  ·exact .inl (Nat.le_trans f.keeps.size h.2)
 ·intro O P Q;refine f.Yj O (Nat.le_trans o.size P) fun b d t=>?_;rw [Q b (Nat.lt_of_lt_of_le d o.size) ⟨t.1,fun hm=>by rcases B b hm with h | h;exact t.2 h;exact absurd d (by omega)⟩];exact o.ba b d fun e=>t.2 (z b e.symm)
end
section
variable {P:Program}{Q:Exit→Act→World→Prop}{K:List Value→List Deferred→World→Prop}{fr Ga:List Value}{ds:List Deferred}{w:World}
variable {dst:Option Tmp}{ty:TypeId}{pos:String}{after:Array Edge}{g:Option (Nat×Bool)}
variable {S ld:Nat→Prop}{ca:World}{rs rs':List kb}{A:World→Prop}
variable {T:TypeId}{d:TypeDesc}{td:Bool}{yd:List Value}{n m:Nat}
theorem pC {t ty:TypeId}{sz bytes:Nat}(p:P.underlying t=some (.slice T)) (K:Nc P T td yd sz bytes) (L:yd.length=sz) (Z:0<sz)
  {v:Value}{xs:List Value}(h:Row w v T sz n xs) {a:Addr}{m c:Nat}{news:List Value}(ia:news.length=m*sz) (s:∀ j u,news[j]?=some u→w.cell? (a.add j)=some u) (M:∀ u ∈ news,u.oneCell'=true)
  (C:n+m≤maxLen) (D:(n+m)*bytes≤140737488355328) :
  ∃ q w',(Builtin.append_ #[t,t] ty #[v,.slice (some a) m c]).run P w=.ok q w'∧Row w' q T sz (n+m) (xs++news)∧bj (fun b=>some b≠v.ownBlock) w w' ∧
   (q.ownBlock=v.ownBlock∨∃ b,q.ownBlock=some b∧w.heap.size≤b):=by
 obtain ⟨i,z,r,E,N,F,O⟩:=K.inf;have Q:z.cells.size=i.size:=by rw [N,F];simpa using L
 subst F;subst O;have bb:n+m≤9223372036854775807:=by simp only [maxLen] at C;omega
 have hlen:(xs++news).length=(n+m)*i.size:=by rw [List.length_append,h.1,ia,Nat.add_mul]
 have grown:∀ (d:Nat),d<n+m→∀ (row:Option Nat),
   Row (w.drew.alloc (.cells (xs.toArray++news.toArray++Builtin.zeroCells z.cells (grownCap w (n+m) d T - (n+m))) T)) (.slice (some ⟨w.heap.size,0,none⟩) (n+m) (grownCap w (n+m) d T)) T i.size (n+m) (xs++news) ∧
   bj (fun b=>some b≠row) w (w.drew.alloc (.cells (xs.toArray++news.toArray++Builtin.zeroCells z.cells (grownCap w (n+m) d T - (n+m))) T)):=by
  intro d Gb row;have R:=grownCap_ge w (n+m) d T;have x:grownCap w (n+m) d T≤maxLen:=grownCap_le_maxLen w (n+m) d T C;refine ⟨⟨hlen,.inr ⟨w.heap.size,0,_,_,rfl,heap_alloc_new w.drew _,R,x,?_,?_⟩⟩,⟨rfl,rfl,rfl,by simp,fun k y _=>heap_alloc_old w.drew _ k y⟩⟩
  ·simp only [Array.size_append,List.size_toArray,size_zeroCells,Q,h.1,ia,← Nat.add_mul,Nat.zero_add];exact Nat.mul_le_mul_right _ (by omega)
  ·simp only [Array.toList_append,List.append_assoc,List.drop_zero];rw [← List.append_assoc,← hlen];exact List.take_left
 rcases h.2 with ⟨rfl,rfl⟩ | ⟨g,o,cap,cur,rfl,A,gc,x,lc,G⟩
 ·have S:xs=[]:=List.eq_nil_of_length_eq_zero (by simpa using h.1);subst S;by_cases hm:m=0
  ·subst hm;have U:news=[]:=List.eq_nil_of_length_eq_zero (by simpa using ia);subst U;refine ⟨.slice none 0 0,w,?_,⟨by simp,.inl ⟨rfl,rfl⟩⟩,.refl w,.inl rfl⟩;simp [Builtin.append_,run_underlying p,sizeOf,typeInfo,r,Builtin.lenOf,Builtin.firstCells,loadCells,loadCellsFrom]
  ·have l:=run_append_nil (P:=P) w t ty T i z p r E a m c news ia s (by omega) (by omega) (by have V:=D;simp only [Nat.zero_add] at V;omega);have f:=grown 0 (by omega) (Value.ownBlock (.slice none 0 0));simp only [Nat.zero_add,List.nil_append,Array.empty_append] at f ⊢;exact ⟨_,_,l,f.1,f.2,.inr ⟨_,rfl,Nat.le_refl _⟩⟩
 ·by_cases B:n+m≤cap
  ·have hmul:n*i.size+news.length≤cap*i.size:=by rw [ia,← Nat.add_mul];exact Nat.mul_le_mul_right _ B
   have W:o+n*i.size+news.length≤cur.size:=by omega
   have l:(Builtin.append_ #[t,t] ty #[.slice (some ⟨g,o,none⟩) n cap,.slice (some a) m c]).run P w =
     .ok (.slice (some ⟨g,o,none⟩) (n+m) cap) (w.setRow g (cur.toList.take (o+n*i.size)++news++cur.toList.drop (o+n*i.size+news.length)).toArray):=by
    have X:=run_firstCells_some (P:=P) w i.size m a m c news ia s;have H:=run_storeCells_at P g (o+n*i.size) T news 0 cur w A (by simpa using W) M;simp only [Nat.add_zero] at H;simp [Builtin.append_,run_underlying p,sizeOf,typeInfo,r,Builtin.lenOf,B,X,Ak,H]
   refine ⟨_,_,l,⟨hlen,.inr ⟨g,o,cap,_,rfl,setRow_heap w g cur _ T _ A,B,x,?_,?_⟩⟩,⟨rfl,rfl,rfl,by simp [World.setRow],fun k _ y=>setRow_other w g k _ (fun e=>y (by simp [Value.ownBlock,e]))⟩,.inl rfl⟩
   ·simp only [List.size_toArray,List.length_append,List.length_take,List.length_drop,Array.length_toList];omega
   ·rw [← hlen,← G];have qa:(cur.toList.take (o+n*i.size)).drop o=(cur.toList.drop o).take (n*i.size):=by
     rw [List.drop_take];congr 1;omega
    have Y:o≤(cur.toList.take (o+n*i.size)).length:=by simp;omega
    rw [List.append_assoc,List.drop_append_of_le_length Y,qa,← List.append_assoc];exact List.take_left
  ·have holds:∀ j u,xs[j]?=some u→w.cell? ((⟨g,o,none⟩:Addr).add j)=some u:=by
    intro j u hu;rw [Ak,cell_of_row w g (o+j) cur T (0,0) A];rw [← G,List.getElem?_take] at hu;split at hu
    ·rw [List.getElem?_drop] at hu;simpa using hu
    ·cases hu
   have l:=run_append_grow (P:=P) w t ty T i z p r E ⟨g,o,none⟩ n cap xs h.1 holds a m c news ia s (by omega) (by omega) (growslice_fits (by omega) D);have f:=grown cap (by omega) (Value.ownBlock (.slice (some ⟨g,o,none⟩) n cap));exact ⟨_,_,l,f.1,f.2,.inr ⟨_,rfl,Nat.le_refl _⟩⟩
theorem Sep.Ml (h:Sep S ld ca w rs A) (T:TypeId) (sz:Nat):Sep S ld ca w (.row (.slice none 0 0) T sz 0 []::rs) A where
 keeps:=h.keeps
 all r a:=by
  rcases List.mem_cons.1 a with rfl | a
  ·exact ⟨by simp,.inl ⟨rfl,rfl⟩⟩
  ·exact h.all r a
 ej:=h.ej
 new:=h.new
 Yj:=h.Yj
theorem Xx {t:TypeId}{s x:Operand}{v:Value}{sz bytes k b o e c:Nat}{xs news:List Value}(m:P.underlying t=some (.slice T)) (p:Nc P T td yd sz bytes) (f:(yd.length == sz && decide (0<sz))=true)
  (q:ob fr s v) (r:ob fr x (.slice (some ⟨b,o,none⟩) e c)) (i:Sep S ld ca w rs A) (ia:nc rs k (.row v T sz n xs)) (y:Nj w b o news) (hlen:news.length=e*sz) (z:news.all Kg=true)
  (l:n+e≤4294967296∧bytes≤4096)
  (h:∀ d w' rs',uc rs k (.row d T sz (n+e) (xs++news)) rs'→Sep S ld ca w' rs' A→Hh fr dst d fun Ga=>K Ga ds w') :
  Td P (Oper.mk dst (.call { callee:=.builtin .append,args:=#[s,x],argTypes:=#[t,t] }) ty pos after g) fr ds w K Q:=by
 simp only [Bool.and_eq_true,beq_iff_eq,decide_eq_true_eq] at f;have B:(n+e)*bytes≤140737488355328:=Nat.le_trans (Nat.mul_le_mul l.1 l.2) (by decide);obtain ⟨d,w',C,D,E,F⟩:=pC (P:=P) (ty:=ty) m p f.1 f.2 (i.get ia) (a:=⟨b,o,none⟩) (c:=c) hlen (fun j u hu=>by rw [Ak];exact y j u hu) (fun u hu=>rA (List.all_eq_true.1 z u hu)) (by unfold maxLen;omega) B;obtain ⟨Ga,xa⟩:=vj fr dst d;refine qi (v:=d) (w':=w') ?_ xa (h d w' _ rfl (i.row ia rfl D E F) Ga xa);have qa:=q ds;have G:=r ds;simp [execOp,resolve,invoke,builtin,qa,G,C]
inductive Bv (P:Program) (fr:List Value) (w:World):ResultVar→Value→Prop where
 | t {n:Nat} {v:Value} (h:nc fr n v):Bv P fr w (.tmp n) v
 | c {n b o:Nat} {v:Value} {T:TypeId} {yd:List Value} {k m:Nat} (h:nc fr n (.pointer (some ⟨b,o,none⟩))) (d:Nc P T false yd k m) (e:w.cell? ⟨b,o,none⟩=some v):Bv P fr w (.cell n T) v
 | a {n b o:Nat} {cs:List Value} {T:TypeId} {yd:List Value} {k m:Nat} (h:nc fr n (.pointer (some ⟨b,o,none⟩))) (d:Nc P T true yd k m) (e:Nj w b o cs) (f:cs.length=k):Bv P fr w (.cell n T) (.agg ⟨cs⟩)
inductive Cb (P:Program) (fr:List Value) (w:World):List ResultVar→List Value→Prop where
 | z:Cb P fr w [] []
 | s {r:ResultVar} {v:Value} {rs:List ResultVar} {vs:List Value} (h:Bv P fr w r v) (t:Cb P fr w rs vs):Cb P fr w (r::rs) (v::vs)
def Ho (tmps:Array Value):ResultVar→Sem Value
 | .tmp t=>pure (tmps.getD t undef)
 | .cell a t=>do loadVar t (← asAddr (tmps.getD a undef))
theorem Pz (fn:Func) (tmps:Array Value):results fn tmps=(do
  let vs ← fn.results.mapM (Ho tmps)
  pure (if h:vs.size=1 then vs[0] else .tuple vs)):=by
 unfold results;congr 1
theorem Bv.run {r:ResultVar}{v:Value}(h:Bv P fr w r v):(Ho (F fr ds).tmps r).run P w=.ok v w:=by
 cases h with
 | t h=>unfold nc at h; simp [Ho,F,h]
 | c h d e=>unfold nc at h; simp [Ho,F,h,asAddr,loadVar,d.isAgg,e]
 | a h d e f =>
  unfold nc at h;rename_i n b o cs T yd k m;have ia:=run_loadCells_list (P:=P) w ⟨b,o,none⟩ cs (fun j v g=>by rw [Ak];exact e j v g);rw [f] at ia;simp [Ho,F,h,asAddr,loadVar,d.isAgg,d.sizeOf,ia]
theorem Cb.run {rs:List ResultVar}{vs:List Value}(h:Cb P fr w rs vs):(rs.mapM (Ho (F fr ds).tmps)).run P w=.ok vs w:=by
 induction h with
 | z=>simp
 | @s r v rs vs h _ a =>
  have b:=h.run (ds:=ds);simp only [List.mapM_cons,Sem.run_bind];rw [b];simp only [Result.andThen_ok];rw [a];simp
def Tt:List Value→Value
 | [v]=>v
 | vs=>.tuple ⟨vs⟩
theorem CC {fn:Func}{a:List ResultVar}{vs:List Value}(b:fn.results=⟨a⟩) (h:Cb P fr w a vs):(results fn (F fr ds).tmps).run P w=.ok (Tt vs) w:=by
 have hm:=h.run (ds:=ds);rw [Pz,b];rw [Array.mapM_eq_mapM_toList];simp only [Sem.run_bind,Sem.run_map,hm,Result.andThen_ok]
 match vs with
 | []=>simp [Tt]
 | [v]=>simp [Tt]
 | v::c::vs=>simp [Tt]
theorem Vf {fn:Func}{R:Value→World→Prop}{a:List ResultVar}{vs:List Value}(b:fn.results=⟨a⟩) (c:Cb P fr w a vs) (h:R (Tt vs) w):nr P fn R .ret (F fr []) w :=
 bodyPost_ret (CC b c) rfl h
end
end Go.Rb
namespace Go.Rb
open Go.RowKit
section
variable {P:Program}{Q:Exit→Act→World→Prop}{K:List Value→List Deferred→World→Prop}{fr Ga:List Value}{ds:List Deferred}{w:World}
variable {dst:Option Tmp}{ty:TypeId}{pos:String}{after:Array Edge}{g:Option (Nat×Bool)}
variable {S ld:Nat→Prop}{ca:World}{rs rs':List kb}{A:World→Prop}
variable {T:TypeId}{d:TypeDesc}{td:Bool}{yd:List Value}{n m:Nat}
theorem Sep.ba {k b:Nat}{cs:List Value}(h:Sep S ld ca w rs A) (ia:nc rs k (.ba b T cs)):Qk w b T cs:=h.get ia
inductive Og:List Value→Nat→List Value→Prop where
 | z {cs:List Value} {o:Nat}:Og cs o []
 | s {cs:List Value} {o:Nat} {v:Value} {vs:List Value} (h:nc cs o v) (t:Og cs (o+1) vs):Og cs o (v::vs)
theorem Og.at {cs:List Value}{o:Nat}{vs:List Value}(h:Og cs o vs):∀ j v,vs[j]?=some v→cs[o+j]?=some v:=by
 induction h with
 | z=>intro j v h; simp at h
 | @s o v vs h t b =>
  intro j u a;cases j with
  | zero=>simp at a; subst a; exact h
  | succ j=>have:=b j u (by simpa using a); rw [show o+(j+1)=o+1+j by omega]; exact this
theorem Qk.Up {b o:Nat}{cs vs:List Value}(h:Qk w b T cs) (a:Og cs o vs):Nj w b o vs:=fun j v c=>h.cell (a.at j v c)
theorem ud {x y:Operand}{b o k:Nat}{v:Value}{cs a:List Value}(e:Nc P T td yd 1 m) (f:ob fr x (.pointer (some ⟨b,o,none⟩))) (i:ob fr y v) (c:Kg v=true)
  (j:Sep S ld ca w rs A) {vg:TypeId}(ia:nc rs k (.ba b vg cs)) (l:uc cs o v a) (d:(decide (o<cs.length))=true) (n:uc rs k (.ba b vg a) rs')
  (xa:lf fr dst undef Ga) (h:∀ w',Sep S ld ca w' rs' A→K Ga ds w'):Td P (Oper.mk dst (.store T x y) ty pos after g) fr ds w K Q :=
 Yv (vs:=[v]) e f i (dA c) rfl (by simp [c]) j ia (.s l (of_decide_eq_true d) .z) (decide_eq_true (Nat.le_of_lt (of_decide_eq_true d))) n xa h
structure Vi (P:Program) (T:TypeId) (pl:Array (Nat×Nat)):Prop where
 out:∃ a,P.underlying T=some (.struct a)∧∀ w,((a.mapM fun f=>do pure (f.offset,← Go.sizeOf f.type):Sem (Array (Nat×Nat))).run P w)=.ok pl w
theorem xj {a:Array Field}{pl:Array (Nat×Nat)}(hu:P.underlying T=some (.struct a)) (h:∀ w,((a.mapM fun f=>do pure (f.offset,← Go.sizeOf f.type):Sem (Array (Nat×Nat))).run P w)=.ok pl w):Vi P T pl:=⟨a,hu,h⟩
inductive Lb (fr:List Value) (pl:Array (Nat×Nat)):List Value→List (Nat×Operand)→List Value→Prop where
 | z {cs:List Value}:Lb fr pl cs [] cs
 | o {cs cs1 out:List Value} {i off:Nat} {x:Operand} {v:Value} {xs:List (Nat×Operand)} (a:pl[i]?=some (off,1)) (b:ob fr x v) (e:Kg v=true) (c:decide (off<cs.length)=true) (d:uc cs off v cs1) (t:Lb fr pl cs1 xs out):Lb fr pl cs ((i,x)::xs) out
 | n {cs cs1 out vs:List Value} {i off n:Nat} {x:Operand} {xs:List (Nat×Operand)} (a:pl[i]?=some (off,n)) (b:ob fr x (.agg ⟨vs⟩)) (f:vs.length=n) (c:decide (off+n≤cs.length)=true) (d:Mg cs off vs cs1) (t:Lb fr pl cs1 xs out):Lb fr pl cs ((i,x)::xs) out
theorem px:∀ (vs:List Value) (off j:Nat) (cs:List Value),off+j+vs.length≤cs.length →
  ((vs.zipIdx j).foldl (fun (cs:Array Value) (p:Value×Nat)=>cs.setIfInBounds (off+p.2) p.1) ⟨cs⟩)=⟨cs.take (off+j)++vs++cs.drop (off+j+vs.length)⟩
 | [],off,j,cs,_=>by simp
 | v::vs,off,j,cs,h=>by
  have a:off+j<cs.length:=by simp at h;omega
  rw [List.zipIdx_cons,List.foldl_cons];have nb:(⟨cs⟩:Array Value).setIfInBounds (off+j) v=⟨cs.set (off+j) v⟩:=by simp
  simp only [nb];rw [px vs off (j+1) (cs.set (off+j) v) (by simp at h ⊢;omega)];have b:(cs.set (off+j) v).take (off+(j+1))=cs.take (off+j)++[v]:=by
   rw [show off+(j+1)=off+j+1 by omega,List.take_set,List.take_add_one,List.getElem?_eq_getElem a];rw [List.set_append_right _ _ (by simp;omega)];simp [Nat.min_eq_left (Nat.le_of_lt a)]
  have c:(cs.set (off+j) v).drop (off+(j+1)+vs.length)=cs.drop (off+j+(v::vs).length):=by
   rw [List.drop_set_of_lt (by omega)];congr 1;simp;omega
  rw [b,c];simp
theorem Lb.run {pl:Array (Nat×Nat)}{cs out:List Value}{xs:List (Nat×Operand)}(h:Lb fr pl cs xs out):Instr.fill (pl[·]?) ⟨cs⟩ (xs.map fun p=>(p.1,(F fr ds).eval p.2))=some ⟨out⟩:=by
 induction h with
 | z=>rfl
 | @o cs cs1 out i off x v xs b d g e a t f =>
  have k:=of_decide_eq_true e;simp only [List.map_cons,Instr.fill,b,d ds,dA g];have nb:¬ ((#[v].size≠1 || off+#[v].size > (⟨cs⟩:Array Value).size)=true):=by simp;omega
  rw [if_neg nb];have qa:(#[v].zipIdx.foldl (fun cs (c,j)=>cs.setIfInBounds (off+j) c) (⟨cs⟩:Array Value))=⟨cs1⟩:=by
   unfold uc at a;subst a;simp [Array.zipIdx]
  rw [qa];exact f
 | @n cs cs1 out vs i off n x xs b d l e a t f =>
  have k:=of_decide_eq_true e;simp only [List.map_cons,Instr.fill,b,d ds];have nb:¬ (((Value.agg ⟨vs⟩).cells.size≠n || off+(Value.agg ⟨vs⟩).cells.size > (⟨cs⟩:Array Value).size)=true):=by simp [Value.cells,l];omega
  rw [if_neg nb];have qa:((Value.agg ⟨vs⟩).cells.zipIdx.foldl (fun cs (c,j)=>cs.setIfInBounds (off+j) c) (⟨cs⟩:Array Value))=⟨cs1⟩:=by
   have:=px vs off 0 cs (by omega);rw [a.res (by omega)];simp only [Nat.add_zero] at this;rw [← this];rw [← Array.foldl_toList];simp [Value.cells]
  rw [qa];exact f
theorem mg {pl:Array (Nat×Nat)}{xs:List (Nat×Operand)}{out:List Value}(a:Nc P T td yd n m) (b:Vi P T pl) (c:Lb fr pl yd xs out) (d:lf fr dst (.agg ⟨out⟩) Ga) (h:K Ga ds w) :
  Td P (Oper.mk dst (.build T ⟨xs⟩) ty pos after g) fr ds w K Q:=by
 refine qi (v:=.agg ⟨out⟩) (w':=w) ?_ d h;obtain ⟨z,e,f⟩:=a.zero (w:=w);have j:=c.run (ds:=ds);obtain ⟨o,k,l⟩:=b.out;have hm:=l w;have ia:((⟨xs⟩:Array (Nat×Operand)).map fun (i,x)=>(i,(F fr ds).eval x)).toList=xs.map fun p=>(p.1,(F fr ds).eval p.2):=by simp
 unfold execOp;simp only [Instr.build,Sem.run_bind,e,Result.andThen_ok,run_underlying k];rw [hm];simp only [Result.andThen_ok,f,ia];rw [j];simp
theorem ar {e:TypeId}{x:Operand}{cs:List Value}(k:P.underlying T=some (.slice e)) (j:Nc P e td yd n m) (c:(yd.length == n && decide (0<n) && decide (n≤1000))=true) (l:ob fr x (.agg ⟨cs⟩)) (d:cs.length=n) (o:Sep S ld ca w rs A)
  (h:∀ b w',w.heap.size≤b→Sep S ld ca w' (.ba b e cs::rs) A→Hh fr dst (.slice (some ⟨b,0,none⟩) 1 1) fun Ga=>K Ga ds w'):Td P (Oper.mk dst (.buildSlice T 1 #[(0,x)]) ty pos after g) fr ds w K Q:=by
 obtain ⟨Ga,xa⟩:=vj fr dst (.slice (some ⟨w.heap.size,0,none⟩) 1 1);refine qi (v:=.slice (some ⟨w.heap.size,0,none⟩) 1 1) (w':=w.alloc (.cells ⟨cs⟩ e)) ?_ xa (h _ _ (Nat.le_refl _) (o.alloc rfl (heap_alloc_new w _)) Ga xa);obtain ⟨z,p,y⟩:=j.zero (w:=w);have q:=j.sizeOf (w:=w);simp only [Bool.and_eq_true,beq_iff_eq,decide_eq_true_eq] at c;have r:¬ (1*n > 2 ^ 24):=by have:=c.2;omega
 have s:¬ (1*n=0):=by have:=c.1.2;omega
 have t:∀ a:Array Value,a.size=n→Instr.fill (fun i=>some (i*n,n)) a [(0,Value.agg ⟨cs⟩)]=some ⟨cs⟩:=by
  intro a f;simp only [Instr.fill];have nb:¬ (((Value.agg ⟨cs⟩).cells.size≠n || 0*n+(Value.agg ⟨cs⟩).cells.size > a.size)=true):=by simp [Value.cells,d,f]
  rw [if_neg nb];congr 1;have u:=px cs (0*n) 0 a.toList (by simp [d,f]);rw [← Array.foldl_toList];have qa:(Value.agg ⟨cs⟩).cells.zipIdx.toList=cs.zipIdx 0:=by simp [Value.cells]
  rw [qa];refine u.trans ?_;rw [List.drop_eq_nil_of_le (by simp [d,f])];simp
 have ia:(#[(0,x)].map fun (i,x)=>(i,(F fr ds).eval x)).toList=[(0,Value.agg ⟨cs⟩)]:=by simp [l ds]
 unfold execOp;simp only [Instr.buildSlice,Sem.run_bind,run_underlying k,Result.andThen_ok,q,if_neg r,ia,if_neg s,Sem.run_pure,p];rw [t _ (by simp)];simp [newRow]
end
theorem Sep.fg {S ld:Nat→Prop}{ca w:World}{rs rs':List kb}{A:World→Prop}{k:Nat}{r:kb}(h:Sep S ld ca w (rs.set k r) A) (a:uc rs k r rs'):Sep S ld ca w rs' A:=by
 unfold uc at a;rw [← a];exact h
theorem Sep.drew {S ld:Nat→Prop}{ca w w':World}{rs:List kb}{A:World→Prop}(h:Sep S ld ca w rs A) (a:w'.heap=w.heap) (b:w'.os=w.os) (c:w'.tape=w.tape) (hu:w'.output=w.output):Sep S ld ca w' rs A :=
 h.grow ⟨b,c,hu,by rw [a];exact Nat.le_refl _,fun k _ _=>by rw [a]⟩
section
variable {P:Program}{Q:Exit→Act→World→Prop}{K:List Value→List Deferred→World→Prop}{fr Ga:List Value}{ds:List Deferred}{w:World}
variable {dst:Option Tmp}{ty:TypeId}{pos:String}{after:Array Edge}{g:Option (Nat×Bool)}
variable {T:TypeId}
theorem sA (a b:ByteArray):(a == b)=true ↔ a=b:=by
 obtain ⟨x⟩:=a;obtain ⟨y⟩:=b;constructor
 ·intro h;have e:x=y:=by simpa using (show (x == y)=true from h)
  rw [e]
 ·intro h;cases h;show (x == x)=true;simp
structure qv (P:Program) (m:Nat) (T:TypeId) (v a:Value) (b:Bool):Prop where
 out:∀ d w,m≤d→(Op.equalIn d T v a).run P w=.ok b w
theorem eq_int {k k':IntKind}{a b:Int}(hu:P.underlying T=some (.int k)):qv P 1 T (.int k' a) (.int k' b) (decide (a=b)):=⟨fun d w xa=>by
 cases d with
 | zero=>omega
 | succ d=>simp [Op.equalIn,run_underlying hu]; by_cases h:a=b <;> simp [h]⟩
theorem QE {a b:List UInt8}(hu:P.underlying T=some .string):qv P 1 T (S a) (S b) (decide (a=b)):=⟨fun d w xa=>by
 cases d with
 | zero=>omega
 | succ d =>
  simp only [Op.equalIn,run_underlying hu,S,Sem.run_bind,Result.andThen_ok,Sem.run_pure];congr 1;rw [Bool.eq_iff_iff,sA];simp⟩
def jk:List Bool→Bool
 | []=>true
 | [b]=>b
 | b::bs=>b && jk bs
theorem Qx (b:Bool) (bs:List Bool):jk (b::bs)=(b && jk bs):=by cases bs<;>simp [jk]
inductive lk (P:Program) (m:Nat) (xs ys:List Value):List Field→List Bool→Prop where
 | z:lk P m xs ys [] []
 | o {f : Field} {a : List Field} {v d : Value} {b : Bool} {bs : List Bool} {T : TypeId} {off : Nat} {yd : List Value} {n k : Nat} (e : (f.name == "_") = false) (g : f.type = T) (h : f.offset = off) (i : Nc P T false yd n k) (j : nc xs off v) (l : nc ys off d) (he : qv P m T v d b) (t : lk P m xs ys a bs) : lk P m xs ys (f :: a) (b :: bs)
 | n {f : Field} {a : List Field} {vs c : List Value} {b : Bool} {bs : List Bool} {T : TypeId} {off : Nat} {yd : List Value} {n k : Nat} (e : (f.name == "_") = false) (g : f.type = T) (h : f.offset = off) (i : Nc P T true yd n k) (j : Og xs off vs) (l : Og ys off c) (ia : vs.length = n) (p : c.length = n) (he : qv P m T (.agg ⟨vs⟩) (.agg ⟨c⟩) b) (t : lk P m xs ys a bs) : lk P m xs ys (f :: a) (b :: bs)
structure Gj (P:Program) (T:TypeId) (a:List Field):Prop where
 bC:P.underlying T=some (.struct ⟨a⟩)
 held:P.stoodInHeld T=false
 guard:P.eqGuardType P.depth T=false
theorem wD {yd:List Value}{n k off:Nat}{xs:List Value}{v:Value}(b:Nc P T false yd n k) (a:nc xs off v):(part T ⟨xs⟩ off).run P w=.ok v w:=by
 unfold nc at a;simp [part,b.isAgg,a]
theorem Og.extract {cs vs:List Value}{o:Nat}(h:Og cs o vs):(cs.drop o).take vs.length=vs:=by
 induction h with
 | z=>simp
 | @s o v vs a t b =>
  unfold nc at a;have c:o<cs.length:=(List.getElem?_eq_some_iff.1 a).1;rw [List.drop_eq_getElem_cons c,(List.getElem?_eq_some_iff.1 a).2];simp [b]
theorem xD {yd:List Value}{n k off:Nat}{xs vs:List Value}(a:Nc P T true yd n k) (b:Og xs off vs) (c:vs.length=n):(part T ⟨xs⟩ off).run P w=.ok (.agg ⟨vs⟩) w:=by
 have:=b.extract;rw [c] at this;simp [part,a.isAgg,a.sizeOf,this]
theorem lk.run {m:Nat}{xs ys:List Value}{e:List Field}{bs:List Bool}(h:lk P m xs ys e bs) (d:Nat) (xa:m≤d) :
  (forIn (⟨e⟩ : Array Field) ((none, ()) : Option Bool × Unit) (fun f _ => (if f.name ≠ "_" then do
     if !(← Op.equalIn d f.type (← part f.type ⟨xs⟩ f.offset) (← part f.type ⟨ys⟩ f.offset)) then pure (ForInStep.done (some false,())) else pure (ForInStep.yield (none,()))
    else pure (ForInStep.yield (none,())):Sem (ForInStep (Option Bool×Unit))))).run P w=.ok (if jk bs then (none,()) else (some false,())) w:=by
 induction h with
 | z=>simp [jk]
 | @o f e v s b bs T off yd n k g i j a l p he t c =>
  subst i; subst j;have q : f.name ≠ "_" := by simpa using g
  simp only [List.forIn_toArray] at c ⊢;rw [List.forIn_cons];simp only [ne_eq,q,not_false_eq_true,if_true,Sem.run_bind,wD a l,wD a p,Result.andThen_ok,he.out d w xa];cases b with
  | true=>simpa [Qx] using c
  | false=>simp [Qx]
 | @n f e vs u b bs T off yd n k g i j a l p ia r he t c =>
  subst i; subst j;have q : f.name ≠ "_" := by simpa using g
  simp only [List.forIn_toArray] at c ⊢;rw [List.forIn_cons];simp only [ne_eq,q,not_false_eq_true,if_true,Sem.run_bind,xD a l ia,xD a p r,Result.andThen_ok,he.out d w xa];cases b with
  | true=>simpa [Qx] using c
  | false=>simp [Qx]
theorem RE {m:Nat}{xs ys:List Value}{a:List Field}{bs:List Bool}(b:Gj P T a) (h:lk P m xs ys a bs):qv P (m+1) T (.agg ⟨xs⟩) (.agg ⟨ys⟩) (jk bs):=⟨fun d w xa=>by
 cases d with
 | zero=>omega
 | succ d =>
  have:=h.run (w:=w) d (by omega);simp only [Op.equalIn,Sem.run_bind,run_underlying b.bC,Result.andThen_ok];rw [show (program).run P w=.ok P w from rfl];simp only [Result.andThen_ok,b.held,Bool.false_eq_true,if_false,Sem.run_bind];rw [this];cases jk bs<;>rfl⟩
def OB (v:Value) (n:Nat):Prop:=∃ a c,v=.slice a n c
theorem Yp {x:Operand}{t e:TypeId}{v:Value}{n:Nat}(b:P.underlying t=some (.slice e)) (d:ob fr x v) (f:OB v n):Zf P (Oper.mk dst (.call { callee:=.builtin .len,args:=#[x],argTypes:=#[t] }) ty pos after g) fr ((.int .i64 n)):=by
 obtain ⟨a,c,rfl⟩:=f;exact we b d
theorem bw {x:Operand}{t e:TypeId}{v:Value}{n:Nat}(a:P.underlying t=some (.slice e)) (b:ob fr x v) (c:OB v n) (d:lf fr dst ((.int .i64 n)) Ga) (h:K Ga ds w):Td P (Oper.mk dst (.call { callee:=.builtin .len,args:=#[x],argTypes:=#[t] }) ty pos after g) fr ds w K Q:=Ra (Yp a b c) d h
theorem Row.bn {v:Value}{sz n:Nat}{xs:List Value}(h:Row w v T sz n xs):OB v n:=by
 rcases h.2 with ⟨rfl,rfl⟩ | ⟨g,o,cap,cur,rfl,-⟩
 ·exact ⟨_,_,rfl⟩
 ·exact ⟨_,_,rfl⟩
theorem Row.Mt {v:Value}{sz n:Nat}{xs:List Value}(h:Row w v T sz n xs) (f:0<n):∃ b o c,v=.slice (some ⟨b,o,none⟩) n c∧Nj w b o xs:=by
 rcases h.2 with ⟨rfl,rfl⟩ | ⟨g,o,cap,cur,rfl,d,i,k,l,e⟩
 ·omega
 ·refine ⟨g,o,cap,rfl,fun j u a=>?_⟩;rw [cell_of_row w g (o+j) cur T (0,0) d];rw [← e,List.getElem?_take] at a;split at a
  ·rw [List.getElem?_drop] at a;simpa using a
  ·cases a
end
section
variable {P:Program}{Q:Exit→Act→World→Prop}{K:List Value→List Deferred→World→Prop}{fr Ga:List Value}{ds:List Deferred}{w:World}
variable {dst:Option Tmp}{ty:TypeId}{pos:String}{after:Array Edge}{g:Option (Nat×Bool)}
variable {T:TypeId}
theorem yD {a:List Field}{op:BinOp}{x y:Operand}{xs ys:Array Value}(b:Gj P T a):(eqGuard op T x y (.agg xs) (.agg ys)).run P w=.ok () w:=by
 have c:(program).run P w=.ok P w:=rfl;cases op<;>simp [eqGuard,c,b.guard]
theorem SM {x y:Operand}{ib:TypeId}{m:Nat}{xs ys:List Value}{a:List Field}{bs:List Bool}(b:Gj P T a) (c:ob fr x (.agg ⟨xs⟩)) (d:ob fr y (.agg ⟨ys⟩)) (h:lk P m xs ys a bs) (hm:(decide (m<1000))=true) :
  Zf P (Oper.mk dst (.binOp .eql T x y ib) ty pos after g) fr (.bool (jk bs)):=⟨fun ds w=>by
 have e:=c ds;have f:=d ds;have i:=(RE b h).out Op.maxDepth w (by have:=of_decide_eq_true hm;unfold Op.maxDepth;omega);have j:=yD (w:=w) (op:=.eql) (x:=x) (y:=y) (xs:=⟨xs⟩) (ys:=⟨ys⟩) b;simp [execOp,e,f,j,binOp,Op.equal,i]⟩
theorem FF {x y:Operand}{ib:TypeId}{m:Nat}{xs ys:List Value}{a:List Field}{bs:List Bool}(b:Gj P T a) (c:ob fr x (.agg ⟨xs⟩)) (d:ob fr y (.agg ⟨ys⟩)) (h:lk P m xs ys a bs) (hm:(decide (m<1000))=true) :
  Zf P (Oper.mk dst (.binOp .neq T x y ib) ty pos after g) fr (.bool (!jk bs)):=⟨fun ds w=>by
 have e:=c ds;have f:=d ds;have i:=(RE b h).out Op.maxDepth w (by have:=of_decide_eq_true hm;unfold Op.maxDepth;omega);have j:=yD (w:=w) (op:=.neq) (x:=x) (y:=y) (xs:=⟨xs⟩) (ys:=⟨ys⟩) b;simp [execOp,e,f,j,binOp,Op.equal,i]⟩
theorem TM {x y:Operand}{ib:TypeId}{m:Nat}{xs ys:List Value}{a:List Field}{bs:List Bool}(b:Gj P T a) (c:ob fr x (.agg ⟨xs⟩)) (d:ob fr y (.agg ⟨ys⟩)) (he:lk P m xs ys a bs) (hm:(decide (m<1000))=true)
  (e:lf fr dst (.bool (jk bs)) Ga) (h:K Ga ds w):Td P (Oper.mk dst (.binOp .eql T x y ib) ty pos after g) fr ds w K Q:=Ra (SM b c d he hm) e h
theorem UM {x y:Operand}{ib:TypeId}{m:Nat}{xs ys:List Value}{a:List Field}{bs:List Bool}(b:Gj P T a) (c:ob fr x (.agg ⟨xs⟩)) (d:ob fr y (.agg ⟨ys⟩)) (he:lk P m xs ys a bs) (hm:(decide (m<1000))=true)
  (e:lf fr dst (.bool (!jk bs)) Ga) (h:K Ga ds w):Td P (Oper.mk dst (.binOp .neq T x y ib) ty pos after g) fr ds w K Q:=Ra (FF b c d he hm) e h
end
section
variable {P:Program}{Q:Exit→Act→World→Prop}{K:List Value→List Deferred→World→Prop}{fr Ga:List Value}{ds:List Deferred}{w:World}
variable {dst:Option Tmp}{ty:TypeId}{pos:String}{after:Array Edge}{g:Option (Nat×Bool)}
variable {S ld:Nat→Prop}{ca:World}{rs rs':List kb}{A:World→Prop}
variable {T:TypeId}
end
end Go.Rb
namespace Go.Rb
open Go.RowKit
theorem Hv {α β:Type}{f g:α→β}{xs:Array α}(h:∀ x ∈ xs,f x=g x):xs.map f=xs.map g:=Array.map_congr_left h
def Nt:Op→Bool
 | .select _ _=>false
 | _=>true
theorem execOp_congr {f g:Operand→Value}(o:Oper) (l:Nt o.op=true) (h:∀ x ∈ o.op.operands,f x=g x):execOp f o=execOp g o:=by
 obtain ⟨dst,op,ty,pos,after,w⟩:=o;have d:∀ c:Call,(∀ x ∈ c.operands,f x=g x)→resolve f c ty=resolve g c ty:=by
  intro c d;have q:c.args.map f=c.args.map g:=Hv fun x e=>d x (by simp [Call.operands,e]);unfold resolve;rw [q];obtain ⟨callee,args,tys⟩:=c;cases callee with
  | value x=>simp only; rw [d x (by simp [Call.operands])]
  | invoke x m=>simp only; rw [d x (by simp [Call.operands])]
  | builtin b=>rfl
 cases op<;>simp only [Op.operands,List.mem_toArray,List.mem_cons,List.not_mem_nil,or_false,forall_eq_or_imp,forall_eq,Array.mem_append,List.mem_map] at h<;>simp only [execOp]
 case build t Nf =>
  have:(Nf.map fun (i,x)=>(i,f x))=Nf.map fun (i,x)=>(i,g x):=Hv fun p j=>by simp only;rw [h p.2 ⟨p,by simpa using j,rfl⟩]
  rw [this]
 case buildSlice t n Nf =>
  have:(Nf.map fun (i,x)=>(i,f x))=Nf.map fun (i,x)=>(i,g x):=Hv fun p j=>by simp only;rw [h p.2 ⟨p,by simpa using j,rfl⟩]
  rw [this]
 case makeFunc fn a b =>
  rw [Hv (f:=f) (g:=g) (xs:=a) fun x e=>h x (.inl e),Hv (f:=f) (g:=g) (xs:=b) fun x e=>h x (.inr e)]
 case makeMap t r=>cases r with
  | none=>rfl
  | some x=>simp only [Option.map]; rw [h x (by simp)]
 case slice t x cl k vc =>
  have e:=h x (by simp);have s:cl.map f=cl.map g:=by cases cl with
   | none=>rfl
   | some y=>simp only [Option.map]; rw [h y (by simp)]
  have u:k.map f=k.map g:=by cases k with
   | none=>rfl
   | some y=>simp only [Option.map]; rw [h y (by simp)]
  have v:vc.map f=vc.map g:=by cases vc with
   | none=>rfl
   | some y=>simp only [Option.map]; rw [h y (by simp)]
  rw [e,s,u,v]
 case call c=>rw [d c h]
 case go c=>rw [d c h]
 case defer c=>rw [d c h]
 case select cs b=>exact absurd l (by simp [Nt])
 all_goals (try (simp only [h]))
def Pn (ops:Array Oper) (i:Nat):List Nat:=match ops[i]? with
 | some o=>(o.after.toList.filter (Region.binds .any)).map (·.on)
 | none=>[]
def enabled (ops:Array Oper) (R:List Nat) (i:Nat):Bool:=R.contains i && (Pn ops i).all fun j=>!R.contains j
inductive Jn (ops:Array Oper):List Nat→List Nat→Prop where
 | z:Jn ops [] []
 | s {R a:List Nat} {i:Nat} (h:enabled ops R i=true) (t:Jn ops (R.erase i) a):Jn ops R (i::a)
theorem Cu {ops:Array Oper}{R:List Nat}{i:Nat}(h:enabled ops R i=true):i ∈ R:=by
 simp only [enabled,Bool.and_eq_true,List.contains_iff_mem] at h;exact h.1
theorem DC {ops:Array Oper}{R:List Nat}{i j:Nat}(h:enabled ops R i=true) (a:j ∈ Pn ops i):j ∉ R:=by
 simp only [enabled,Bool.and_eq_true,List.all_eq_true] at h;have:=h.2 j a;simpa using this
def left (n:Nat) (listed:Array Bool):List Nat:=(List.range n).filter fun i=>!listed.getD i true
theorem pH (n:Nat) (listed:Array Bool):(left n listed).Nodup:=List.nodup_range.filter _
theorem LD {n:Nat}{listed:Array Bool}(c:listed.size=n){i:Nat}(d:i ∈ left n listed):left n (listed.setIfInBounds i true)=(left n listed).erase i:=by
 rw [(pH n listed).erase_eq_filter];unfold left;rw [List.filter_filter];apply List.filter_congr;intro j a;have f:j<n:=List.mem_range.1 a;have b:j<listed.size:=by omega
 simp only [Array.getD_eq_getD_getElem?,Array.getElem?_setIfInBounds];by_cases e:i=j
 ·subst e;simp [b]
 ·simp [e,Ne.symm e]
theorem SE {ops:Array Oper}{n:Nat}(a:(List.range n).all (fun i=>(Pn ops i).all fun j=>decide (j<i))=true){i j:Nat}(b:i<n) (c:j ∈ Pn ops i):j<i:=by
 simp only [List.all_eq_true,List.mem_range,decide_eq_true_eq] at a;exact a i b j c
theorem TE {ops:Array Oper}(q:(List.range ops.size).all (fun i=>(Pn ops i).all fun j=>decide (j<i))=true) :
  ∀ (fuel t:Nat) (listed:Array Bool) (acc:List Nat),listed.size=ops.size→(left ops.size listed).length≤fuel→∃ n,Region.linearise.go .any ops fuel t listed acc=acc.reverse++n∧Jn ops (left ops.size listed) n
 | 0,t,listed,acc,o,w=>by
  have f:left ops.size listed=[]:=List.eq_nil_of_length_eq_zero (by omega);exact ⟨[],by simp [Region.linearise.go],by rw [f];exact .z⟩
 | fuel+1,t,listed,acc,o,w=>by
  rw [Region.linearise.go];generalize y:(List.filter (fun i=>!listed.getD i true && (Option.map (fun x=>x.after.all fun e=>!Region.binds .any e || listed.getD e.on false) ops[i]?).getD false) (List.range ops.size))=rs;have r:∀ i,i ∈ rs ↔ enabled ops (left ops.size listed) i=true:=by
   intro i;rw [← y];simp only [List.mem_filter,List.mem_range,Bool.and_eq_true,enabled,List.contains_iff_mem,left,Pn];constructor
   ·rintro ⟨b,g,d⟩;refine ⟨⟨b,g⟩,?_⟩;rw [Array.getElem?_eq_getElem b] at d ⊢;simp only [Option.map_some,Option.getD_some,Array.all_eq_true',Bool.or_eq_true,Bool.not_eq_true'] at d;simp only [List.all_eq_true,List.mem_map,List.mem_filter,forall_exists_index,and_imp];rintro j e he k rfl;have:=d e (by simpa using he);rcases this with h | h
    ·rw [h] at k;cases k
    ·simp only [Bool.not_eq_true',List.contains_eq_mem,decide_eq_false_iff_not,List.mem_filter,List.mem_range,not_and,Bool.not_eq_true,Bool.not_eq_false];intro p;have u:e.on<listed.size:=by omega
     simp only [Array.getD,u,dif_pos] at h ⊢;exact h
   ·rintro ⟨⟨b,g⟩,d⟩;refine ⟨b,g,?_⟩;rw [Array.getElem?_eq_getElem b] at d ⊢;simp only [Option.map_some,Option.getD_some,Array.all_eq_true',Bool.or_eq_true,Bool.not_eq_true'];simp only [List.all_eq_true,List.mem_map,List.mem_filter,forall_exists_index,and_imp] at d;intro e he;cases k:Region.binds .any e with
    | false=>exact .inl rfl
    | true =>
     right;have:=d e.on e (by simpa using he) k rfl;simp only [Bool.not_eq_true',List.contains_eq_mem,decide_eq_false_iff_not,List.mem_filter,List.mem_range,not_and,Bool.not_eq_true,Bool.not_eq_false] at this;have p:e.on<i:=SE q b (by
      unfold Pn;rw [Array.getElem?_eq_getElem b];simp only [List.mem_map,List.mem_filter];exact ⟨e,⟨by simpa using he,k⟩,rfl⟩)
     have v:=this (by omega);have u:e.on<listed.size:=by omega
     simp only [Array.getD,u,dif_pos] at v ⊢;exact v
  by_cases f:left ops.size listed=[]
  ·have A:rs=[]:=by
    rw [List.eq_nil_iff_forall_not_mem];intro i c;have:=Cu ((r i).1 c);rw [f] at this;cases this
   rw [A];simp only [List.length_nil,Nat.mod_zero,List.getElem?_nil];exact ⟨[],by simp,by rw [f];exact .z⟩
  ·-- the least of what is left may be next
   have B:0<rs.length:=by
    obtain ⟨i,c,C⟩:∃ i,i ∈ left ops.size listed∧∀ j,j<i→j ∉ left ops.size listed:=by
     obtain ⟨a,D⟩:=List.exists_mem_of_ne_nil _ f
     induction a using Nat.strongRecOn with
     | _ a E =>
      by_cases hex:∃ j,j<a∧j ∈ left ops.size listed
      ·obtain ⟨j,l,F⟩:=hex;exact E j l F
      ·exact ⟨a,D,fun j l hm=>hex ⟨j,l,hm⟩⟩
    have m:enabled ops (left ops.size listed) i=true:=by
     simp only [enabled,Bool.and_eq_true,List.contains_iff_mem,List.all_eq_true];refine ⟨c,fun j l=>?_⟩;have:=C j (SE q (List.mem_range.1 (List.mem_filter.1 c).1) l);simpa using this
    exact List.length_pos_of_mem ((r i).2 m)
   have p:t % rs.length<rs.length:=Nat.mod_lt _ B;rw [List.getElem?_eq_getElem p];simp only;have m:=(r _).1 (List.getElem_mem p);generalize rs[t % rs.length]=i at m ⊢;have c:=Cu m;obtain ⟨n,b,g⟩:=TE q fuel (t / rs.length) (listed.setIfInBounds i true) (i::acc) (by simpa using o) (by
    rw [LD o c,List.length_erase_of_mem c];omega)
   refine ⟨i::n,?_,.s m ?_⟩
   ·rw [b];simp
   ·rw [← LD o c];exact g
theorem wG {ops:Array Oper}(b:(List.range ops.size).all (fun i=>(Pn ops i).all fun j=>decide (j<i))=true) (t:Nat):Jn ops (List.range ops.size) (Region.linearise .any ops t):=by
 have ia:left ops.size (Array.replicate ops.size false)=List.range ops.size:=by
  unfold left;rw [List.filter_eq_self];intro i c;have:=List.mem_range.1 c;simp [Array.getD,this]
 obtain ⟨e,d,a⟩:=TE b ops.size t (Array.replicate ops.size false) [] (by simp) (by rw [ia];simp);unfold Region.linearise;rw [d];rw [ia] at a;simpa using a
def Ht:Operand→Option Nat
 | .tmp t=>some t
 | _=>none
def reads (ops:Array Oper) (o:Oper):List Nat :=
 o.op.operands.toList.filterMap Ht++(match o.guard with
  | some (j,_)=>((ops[j]?).bind (·.dst)).toList
  | none=>[])
section
variable {P:Program}{α β:Type}
end
section
variable {P:Program}{Q:Exit→Act→World→Prop}{ops:Array Oper}{fr Ga:List Value}{ds:List Deferred}{w:World}
theorem MD {fr:List Value}{ds ds':List Deferred}{d:Nat}{v:Value}{x:Operand}(h:Ht x≠some d):(F (fr.set d v) ds).eval x=(F fr ds').eval x:=by
 cases x with
 | tmp t =>
  have:d≠t:=fun e=>h (by simp [Ht,e]);simp [F,Act.eval,List.getElem?_set_ne this]
 | const v=>rfl
 | global g=>rfl
 | func f=>rfl
theorem ND {o:Oper}{d:Nat}(h:(reads ops o).contains d=false):∀ x ∈ o.op.operands,Ht x≠some d:=by
 intro x a e;have:d ∈ reads ops o:=by
  unfold reads;exact List.mem_append.2 (.inl (List.mem_filterMap.2 ⟨x,by simpa using a,e⟩))
 rw [List.contains_iff_mem.2 this] at h;cases h
theorem OD {o:Oper}{d:Nat}{v:Value}{ds':List Deferred}(a:Nt o.op=true) (h:(reads ops o).contains d=false):execOp (F (fr.set d v) ds).eval o=execOp (F fr ds').eval o :=
 execOp_congr o a fun x b=>MD (ND h x b)
theorem qH {o:Oper}{d:Nat}{v:Value}{ds':List Deferred}(h:(reads ops o).contains d=false):Region.wanted o (yielded ops (F (fr.set d v) ds).tmps)=Region.wanted o (yielded ops (F fr ds').tmps):=by
 unfold Region.wanted;cases a:o.guard with
 | none=>rfl
 | some c =>
  obtain ⟨j,b⟩:=c;simp only;congr 1;unfold yielded;cases f:(ops[j]?).bind (·.dst) with
  | none=>rfl
  | some e =>
   have g:d≠e:=by
    intro he;have:d ∈ reads ops o:=by
     unfold reads;rw [a];exact List.mem_append.2 (.inr (by simp only;rw [f];simp [he]))
    rw [List.contains_iff_mem.2 this] at h;cases h
   simp [F,List.getElem?_set_ne g]
theorem put_eq (fr:List Value) (ds:List Deferred) (dst:Option Tmp) (x:Value):∃ g:List Value→List Value,(∀ fr ds,(F fr ds).put dst x=F (g fr) ds)∧(∀ (fr:List Value) (d:Nat) (v:Value),dst≠some d→g (fr.set d v)=(g fr).set d v)∧(∀ (fr:List Value) (y:Operand) (ds ds':List Deferred),(∀ e,dst=some e→Ht y≠some e)→(F (g fr) ds).eval y=(F fr ds').eval y):=by
 cases dst with
 | none=>exact ⟨id,fun _ _=>rfl,fun _ _ _ _=>rfl,fun fr y ds ds' _=>by cases y <;> rfl⟩
 | some n =>
  refine ⟨fun fr=>fr.set n x,fun fr ds=>ea rfl ds,fun fr d v h=>?_,fun fr y ds ds' h=>MD (h n rfl)⟩;have:d≠n:=fun e=>h (by rw [e]);exact List.set_comm _ _ this
def Xk (Q:Exit→Act→World→Prop) (d:Nat):Prop:=∀ a (fr:List Value) (v:Value) (ds:List Deferred) w,Q (.panic a) (F (fr.set d v) ds) w→Q (.panic a) (F fr ds) w
structure lC (P:Program) (ops:Array Oper) (Q:Exit→Act→World→Prop) (R:List Nat) (fr:List Value) (ds:List Deferred) (w:World):Prop where
 out:∀ a,Jn ops R a→wpOps P ops Q a (F fr ds) w
theorem xm {id:Nat}{l:List Oper}(hm:P.follows .mixedOrders=true) (a:(List.range l.toArray.size).all (fun i=>(Pn l.toArray i).all fun j=>decide (j<i))=true)
  (h:∀ w',w'.heap=w.heap→w'.os=w.os→w'.tape=w.tape→w'.output=w.output→lC P l.toArray Q (List.range l.length) fr ds w'):Ie P (.region id l.toArray true) Q fr ds w:=by
 constructor;refine wp_region_draw fun t=>?_;have b:Region.schedule (P.follows .mixedOrders) l.toArray t=Region.linearise .any l.toArray t:=by
  unfold Region.schedule;rw [hm];rfl
 rw [b];have ia:=wG a t;have:=(h { w with drawn:=w.drawn+1 } rfl rfl rfl rfl).out _ (by simpa using ia);exact this
def My (ops:Array Oper) (R:List Nat):List Nat:=R.filter (enabled ops R)
theorem Jn.split {R l:List Nat}(h:Jn ops R l) (n:R.Nodup){i:Nat}(o:i ∈ R) (p:enabled ops R i=true) :
  ∃ f m,l=f++i::m∧Jn ops (R.erase i) (f++m)∧∀ j ∈ f,j ∈ R∧j≠i∧i ∉ Pn ops j:=by
 induction h with
 | z=>cases o
 | @s R l k g t r =>
  by_cases e:k=i
  ·subst e;exact ⟨[],l,rfl,t,by simp⟩
  ·have q:i ∈ R.erase k:=(n.mem_erase_iff).2 ⟨fun h=>e h.symm,o⟩;have u:enabled ops (R.erase k) i=true:=by
    simp only [enabled,Bool.and_eq_true,List.contains_iff_mem,List.all_eq_true] at p ⊢;refine ⟨q,fun j d=>?_⟩;have:=p.2 j d;simp only [Bool.not_eq_true',List.contains_eq_mem,decide_eq_false_iff_not] at this ⊢;exact fun hm=>this (List.mem_of_mem_erase hm)
   obtain ⟨f,m,v,w,x⟩:=r (n.erase k) q u;refine ⟨k::f,m,by rw [v];rfl,?_,?_⟩
   ·refine .s ?_ (by rw [List.erase_comm];exact w);simp only [enabled,Bool.and_eq_true,List.contains_iff_mem,List.all_eq_true] at g ⊢;refine ⟨(n.mem_erase_iff).2 ⟨e,g.1⟩,fun j d=>?_⟩;have:=g.2 j d;simp only [Bool.not_eq_true',List.contains_eq_mem,decide_eq_false_iff_not] at this ⊢;exact fun hm=>this (List.mem_of_mem_erase hm)
   ·intro j d;rcases List.mem_cons.1 d with rfl | d
    ·exact ⟨Cu g,e,fun xa=>DC g xa o⟩
    ·obtain ⟨a,b,c⟩:=x j d;exact ⟨List.mem_of_mem_erase a,b,c⟩
theorem Wc {d:Nat}(h:∀ b a w,Q (.panic b) a w→False):Xk Q d:=fun b fr v ds w c=>(h b _ w c).elim
end
end Go.Rb
