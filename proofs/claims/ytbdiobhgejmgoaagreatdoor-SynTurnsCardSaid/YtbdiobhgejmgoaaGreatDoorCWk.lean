/- Texts of Wk. -/
import Derived.Tactics
import Derived.Defers
import Derived.Recover
import Derived.Lib.Strings
import Derived.Laws.Append
import Derived.Below
import Derived.Laws.AppendOwn
set_option linter.unusedSimpArgs false
set_option linter.unusedVariables false
set_option linter.unusedSectionVars false
namespace Go.Sb
open Go.RowKit
def Xb {α:Type}(l:List α) (n:Nat) (v:α):Prop:=l[n]?=some v
def hc {α:Type}(l:List α) (n:Nat) (v:α) (a:List α):Prop:=l.set n v=a
theorem d0 {α:Type}{v:α}{l:List α}:Xb (v::l) 0 v:=rfl
theorem qa {α:Type}{x v:α}{l:List α}:hc (x::l) 0 v (v::l):=rfl
theorem d1 {α:Type}{a0:α}{v:α}{l:List α}:Xb (a0::v::l) 1 v:=rfl
theorem ua {α:Type}{a0:α}{x v:α}{l:List α}:hc (a0::x::l) 1 v (a0::v::l):=rfl
theorem d2 {α:Type}{a0 a:α}{v:α}{l:List α}:Xb (a0::a::v::l) 2 v:=rfl
theorem sa {α:Type}{a0 a:α}{x v:α}{l:List α}:hc (a0::a::x::l) 2 v (a0::a::v::l):=rfl
theorem d3 {α:Type}{a0 a a2:α}{v:α}{l:List α}:Xb (a0::a::a2::v::l) 3 v:=rfl
theorem Ba {α:Type}{a0 a a2:α}{x v:α}{l:List α}:hc (a0::a::a2::x::l) 3 v (a0::a::a2::v::l):=rfl
theorem d4 {α:Type}{a0 a a2 a3:α}{v:α}{l:List α}:Xb (a0::a::a2::a3::v::l) 4 v:=rfl
theorem va {α:Type}{a0 a a2 a3:α}{x v:α}{l:List α}:hc (a0::a::a2::a3::x::l) 4 v (a0::a::a2::a3::v::l):=rfl
theorem d5 {α:Type}{a0 a a2 a3 a4:α}{v:α}{l:List α}:Xb (a0::a::a2::a3::a4::v::l) 5 v:=rfl
theorem Da {α:Type}{a0 a a2 a3 a4:α}{x v:α}{l:List α}:hc (a0::a::a2::a3::a4::x::l) 5 v (a0::a::a2::a3::a4::v::l):=rfl
theorem d6 {α:Type}{a0 a a2 a3 a4 a5:α}{v:α}{l:List α}:Xb (a0::a::a2::a3::a4::a5::v::l) 6 v:=rfl
theorem Aa {α:Type}{a0 a a2 a3 a4 a5:α}{x v:α}{l:List α}:hc (a0::a::a2::a3::a4::a5::x::l) 6 v (a0::a::a2::a3::a4::a5::v::l):=rfl
theorem d7 {α:Type}{a0 a a2 a3 a4 a5 b:α}{v:α}{l:List α}:Xb (a0::a::a2::a3::a4::a5::b::v::l) 7 v:=rfl
theorem Ga {α:Type}{a0 a a2 a3 a4 a5 b:α}{x v:α}{l:List α}:hc (a0::a::a2::a3::a4::a5::b::x::l) 7 v (a0::a::a2::a3::a4::a5::b::v::l):=rfl
theorem d8 {α:Type}{a0 a a2 a3 a4 a5 b c:α}{v:α}{l:List α}:Xb (a0::a::a2::a3::a4::a5::b::c::v::l) 8 v:=rfl
theorem Ia {α:Type}{a0 a a2 a3 a4 a5 b c:α}{x v:α}{l:List α}:hc (a0::a::a2::a3::a4::a5::b::c::x::l) 8 v (a0::a::a2::a3::a4::a5::b::c::v::l):=rfl
theorem d9 {α:Type}{a0 a a2 a3 a4 a5 b c d:α}{v:α}{l:List α}:Xb (a0::a::a2::a3::a4::a5::b::c::d::v::l) 9 v:=rfl
theorem Ja {α:Type}{a0 a a2 a3 a4 a5 b c d:α}{x v:α}{l:List α}:hc (a0::a::a2::a3::a4::a5::b::c::d::x::l) 9 v (a0::a::a2::a3::a4::a5::b::c::d::v::l):=rfl
def F (fr:List Value) (ds:List Deferred):Act:=⟨⟨fr⟩,ds⟩
def qb (fr:List Value) (x:Operand) (v:Value):Prop:=∀ ds,(F fr ds).eval x=v
theorem aa {fr:List Value}{n:Nat}{v:Value}(h:Xb fr n v):qb fr (.tmp n) v:=by
 intro ds;unfold Xb at h;simp [F,Act.eval,h]
theorem ka {fr:List Value}{v:Value}:qb fr (.const v) v:=fun _=>rfl
theorem Ha {fr:List Value}{f:Nat}:qb fr (.func f) (.func (.func f) #[] #[]):=fun _=>rfl
def Wc (fr:List Value) (dst:Option Tmp) (v:Value) (Va:List Value):Prop:=∀ ds,(F fr ds).put dst v=F Va ds
theorem xb {fr:List Value}{v:Value}:Wc fr none v fr:=fun _=>rfl
theorem ba {fr Va:List Value}{n:Nat}{v:Value}(h:hc fr n v Va):Wc fr (some n) v Va:=by
 intro ds;unfold hc at h;subst h;simp [F,Act.put]
theorem Wc.rw {fr Va:List Value}{dst:Option Tmp}{v:Value}(h:Wc fr dst v Va){K:Act→World→Prop}{ds:List Deferred}{w:World}(k:K (F Va ds) w):K ((F fr ds).put dst v) w:=by
 rw [h ds];exact k
def kl (fr:List Value) (xs:List Operand) (vs:List Value):Prop:=∀ ds,xs.map (F fr ds).eval=vs
theorem ta {fr:List Value}:kl fr [] []:=fun _=>rfl
theorem ea {fr:List Value}{x:Operand}{v:Value}{xs:List Operand}{vs:List Value}(h:qb fr x v) (a:kl fr xs vs):kl fr (x::xs) (v::vs):=by
 intro ds;simp [h ds,a ds]
structure Td (P:Program) (c:Code) (Q:Exit→Act→World→Prop) (fr:List Value) (ds:List Deferred) (w:World):Prop where
 out:c.wp P Q (F fr ds) w
structure wh (P:Program) (ops:Array Oper) (Q:Exit→Act→World→Prop) (l:List Oper) (fr:List Value) (ds:List Deferred) (w:World):Prop where
 out:wpList P ops Q l (F fr ds) w
structure xc (P:Program) (o:Oper) (fr:List Value) (ds:List Deferred) (w:World) (K:List Value→List Deferred→World→Prop) (Q:Exit→Act→World→Prop):Prop where
 out:∀ a:Act→World→Prop,(∀ fr ds w,K fr ds w→a (F fr ds) w)→o.wp P (F fr ds) w a Q
def Az (P:Program) (c:Code) (Q:Exit→Act→World→Prop):Act→World→Prop:=fun a w=>∃ fr ds,a=F fr ds∧Td P c Q fr ds w
section code
variable {P:Program}{Q:Exit→Act→World→Prop}{fr:List Value}{ds:List Deferred}{w:World}
theorem ha {x y:Code}(h:Td P x (Exit.then (Az P y Q) Q) fr ds w):Td P (.seq x y) Q fr ds w :=
 ⟨wp_seq (wp_mono h.out fun e a w b=>by
  cases e with
  | normal=>obtain ⟨fr,ds,rfl,h⟩:=b; exact h.out
  | exit id=>exact b
  | goto l=>exact b
  | ret=>exact b
  | panic c=>exact b
  | outgrown=>exact b)⟩
theorem la {id:Nat}{l:List Oper}(h:wh P l.toArray Q l fr ds w):Td P (.region id l.toArray false) Q fr ds w:=⟨wp_region_lit h.out⟩
theorem Gb (h:Q .normal (F fr ds) w):Td P .skip Q fr ds w:=⟨wp_skip h⟩
theorem Bb (h:Q .ret (F fr ds) w):Td P .ret Q fr ds w:=⟨wp_ret h⟩
theorem Ye {id:Nat}(h:Q (.exit id) (F fr ds) w):Td P (.exit id) Q fr ds w:=⟨wp_exit h⟩
theorem Bc {id:Nat}{c:Code}(h:Td P c (Exit.inBlock id Q) fr ds w):Td P (.block id c) Q fr ds w:=⟨wp_block h.out⟩
theorem Uv {c:Operand}{x y:Code}{b:Bool}(a:qb fr c (.bool b)) (d:b=true→Td P x Q fr ds w) (e:b=false→Td P y Q fr ds w) :
  Td P (.cond c x y) Q fr ds w:=⟨wp_cond_split (a ds) (fun h=>(d h).out) fun h=>(e h).out⟩
theorem Ub {c:Operand}{x y:Code}{p:Prop}[Decidable p] (a:qb fr c (.bool (decide p))) (b:p→Td P x Q fr ds w) (d:¬ p→Td P y Q fr ds w) :
  Td P (.cond c x y) Q fr ds w:=Uv a (fun h=>b (of_decide_eq_true h)) (fun h=>d (of_decide_eq_false h))
theorem ho {c:Operand}{x y:Code}(a:qb fr c (.bool true)) (b:Td P x Q fr ds w):Td P (.cond c x y) Q fr ds w:=⟨wp_cond_true (a ds) b.out⟩
theorem Aq {c:Operand}{x y:Code}(a:qb fr c (.bool false)) (b:Td P y Q fr ds w):Td P (.cond c x y) Q fr ds w:=⟨wp_cond_false (a ds) b.out⟩
theorem fa {c:Code}{Q':Exit→Act→World→Prop}(h:Td P c Q' fr ds w):Exit.then (Az P c Q') Q .normal (F fr ds) w:=⟨fr,ds,rfl,h⟩
theorem kb {n:Act→World→Prop}{a:Act}(h:n a w):Exit.then n Q .normal a w:=h
theorem Zc {n:Act→World→Prop}{a:Act}{id:Nat}(h:Q (.exit id) a w):Exit.then n Q (.exit id) a w:=h
theorem Hb {n:Act→World→Prop}{a:Act}(h:Q .ret a w):Exit.then n Q .ret a w:=h
theorem yc {a:Act}{id:Nat}(h:Q .normal a w):Exit.inBlock id Q .normal a w:=h
theorem Oc {a:Act}{id:Nat}(h:Q .ret a w):Exit.inBlock id Q .ret a w:=h
theorem ef {a:Act}{id:Nat}(h:Q .normal a w):Exit.inBlock id Q (.exit id) a w:=by simpa [Exit.inBlock] using h
theorem Bz {a:Act}{id j:Nat}(b:(j == id)=false) (h:Q (.exit j) a w):Exit.inBlock id Q (.exit j) a w:=by
 have:¬ j=id:=by simpa using b
 simpa [Exit.inBlock,this] using h
inductive Db where
 | k
 | o (n:Nat)
 | i (v:Value)
def Ig (t:Nat→Value):List Db→List Value→List Value
 | [],fr=>fr
 | _::_,[]=>[]
 | .k::ms,a::fr=>a::Ig t ms fr
 | .o n::ms,_::fr=>t n::Ig t ms fr
 | .i v::ms,_::fr=>v::Ig t ms fr
def sd (t:Nat→Value) (ms:List Db) (fr Va:List Value):Prop:=Ig t ms fr=Va
theorem Zb {t:Nat→Value}{l:List Value}:sd t [] l l:=rfl
theorem mk {t:Nat→Value}{ms:List Db}{a:Value}{l b:List Value}(h:sd t ms l b):sd t (.k::ms) (a::l) (a::b):=by unfold sd at *;rw [Ig,h]
theorem Pb {t:Nat→Value}{ms:List Db}{n:Nat}{a:Value}{l b:List Value}(h:sd t ms l b):sd t (.o n::ms) (a::l) (t n::b):=by unfold sd at *;rw [Ig,h]
theorem Rc {t:Nat→Value}{ms:List Db}{v a:Value}{l b:List Value}(h:sd t ms l b):sd t (.i v::ms) (a::l) (v::b):=by unfold sd at *;rw [Ig,h]
theorem Gc {t:Nat→Value}{ms:List Db}{a b:List Value}(e:sd t ms a b) (h:Q .normal (F b ds) w):Q .normal (F (Ig t ms a) ds) w:=by rw [show Ig t ms a=b from e];exact h
theorem Df {c:Code}{t:Nat→Value}{ms:List Db}{a b:List Value}(e:sd t ms a b) (h:Td P c Q b ds w):Td P c Q (Ig t ms a) ds w:=by rw [show Ig t ms a=b from e];exact h
inductive kd:List Db→List Value→List Value→Prop where
 | z {l:List Value}:kd [] l l
 | k {ms:List Db} {a:Value} {l c:List Value} (h:kd ms l c):kd (.k::ms) (a::l) (a::c)
 | o {ms:List Db} {n:Nat} {a b:Value} {l c:List Value} (h:kd ms l c):kd (.o n::ms) (a::l) (b::c)
 | i {ms:List Db} {v a:Value} {l c:List Value} (h:kd ms l c):kd (.i v::ms) (a::l) (v::c)
def opens:List Db→List Nat
 | []=>[]
 | .o n::ms=>n::opens ms
 | .k::ms=>opens ms
 | .i _::ms=>opens ms
theorem Ls {t b:Nat→Value}:∀ (ms:List Db) (fr:List Value),(∀ n ∈ opens ms,t n=b n)→Ig t ms fr=Ig b ms fr
 | [],_,_=>rfl
 | _::_,[],_=>rfl
 | .k::ms,a::fr,h=>by rw [Ig,Ig,Ls ms fr h]
 | .o n::ms,a::fr,h=>by rw [Ig,Ig,Ls ms fr fun m hm=>h m (by simp [opens,hm]),h n (by simp [opens])]
 | .i v::ms,a::fr,h=>by rw [Ig,Ig,Ls ms fr h]
theorem kd.ex {ms:List Db}{fr Va:List Value}(h:kd ms fr Va) (c:(opens ms).Nodup):∃ t,Va=Ig t ms fr:=by
 induction h with
 | z=>exact ⟨fun _=>undef,rfl⟩
 | k _ d=>obtain ⟨t,rfl⟩:=d c; exact ⟨t,rfl⟩
 | @o ms n a b l f _ d =>
  simp only [opens,List.nodup_cons] at c;obtain ⟨t,rfl⟩:=d c.2;refine ⟨fun m=>if m=n then b else t m,?_⟩;rw [Ig,if_pos rfl];congr 1;refine Ls _ _ fun m hm=>?_;exact (if_neg (fun e:m=n=>c.1 (by rw [← e];exact hm))).symm
 | i _ d=>obtain ⟨t,rfl⟩:=d c; exact ⟨t,rfl⟩
theorem eF {c:Code}{α:Type}(T:List Nat) (o:T.Nodup) (u:α→List Db) (hu:∀ x,opens (u x)=T) (j:α→World→Prop) (m:α→World→Nat) (x0:α) (p:kd (u x0) fr fr) (q:j x0 w)
  (round:∀ x t w,j x w→Td P c (Exit.then (fun g w'=>∃ h Va,g=F Va ds∧kd (u h) fr Va∧j h w'∧m h w'<m x w) Q) (Ig t (u x) fr) ds w) :
  Td P (.loop c) Q fr ds w:=by
 constructor;intro b k cs;have key:∀ n x t w,m x w=n→j x w →
   ∃ e g w',Q e g w'∧Arrives P (lone (b.at (F (Ig t (u x) fr) ds) (.code c::.inLoop c::k)) cs w) b k cs e g w':=by
  intro n
  induction n using Nat.strongRecOn with
  | _ n r =>
   intro x t w s v;obtain ⟨e,i,f,d,a⟩:=(round x t w v).out b (.inLoop c::k) cs;cases e with
   | normal =>
    obtain ⟨h,Va,rfl,y,z,A⟩:=d;obtain ⟨B,C⟩:=y.ex (by rw [hu];exact o);obtain ⟨D,E,G,H,K⟩:=r (m h f) (s ▸ A) h B f rfl z;rw [C] at a;exact ⟨D,E,G,H,.of_steps (Steps.trans a (.one step_inLoop)) K⟩
   | exit id=>exact ⟨_,i,f,d,.pass (x:=.inLoop c) rfl (fun _ _=>.inl (by simp)) a⟩
   | goto l=>exact ⟨_,i,f,d,.pass (x:=.inLoop c) rfl (fun _ _=>.inl (by simp)) a⟩
   | ret=>exact ⟨_,i,f,d,.pass (x:=.inLoop c) rfl (fun _ _=>.inl (by simp)) a⟩
   | panic M=>exact ⟨_,i,f,d,.pass (x:=.inLoop c) rfl (fun _ _=>.inl (by simp)) a⟩
   | outgrown=>exact ⟨_,i,f,d,.pass (x:=.inLoop c) rfl (fun _ _=>.inl (by simp)) a⟩
 obtain ⟨t0,L⟩:=p.ex (by rw [hu];exact o);obtain ⟨e,g,w',d,a⟩:=key _ x0 t0 w rfl q;rw [← L] at a;exact ⟨e,g,w',d,.of_steps (.one step_loop) a⟩
theorem Td.mono {c:Code}{Q':Exit→Act→World→Prop}(h:Td P c Q fr ds w) (b:∀ e a w,Q e a w→Q' e a w):Td P c Q' fr ds w:=⟨wp_mono h.out b⟩
theorem PA {R R':Act→World→Prop}(h:∀ a w,R a w→R' a w):∀ e a w,Exit.then R Q e a w→Exit.then R' Q e a w:=fun e a w b=>by
 cases e with
 | normal=>exact h a w b
 | exit id=>exact b
 | goto l=>exact b
 | ret=>exact b
 | panic c=>exact b
 | outgrown=>exact b
theorem hc.same {α:Type}{l:List α}{n:Nat}{v:α}{a:List α}(h:Xb l n v) (b:hc l n v a):a=l:=by
 unfold Xb at h;unfold hc at b;subst b;obtain ⟨c,rfl⟩:=List.getElem?_eq_some_iff.1 h;exact List.set_getElem_self c
theorem Vv {ops:Array Oper}{l:List Oper}{a c:List Value}{d:Nat}{b:Bool}(e:Xb fr d (.bool b)) (f:hc fr d (.bool true) a) (g:hc fr d (.bool false) c)
  (h:b=true→wh P ops Q l a ds w) (i:b=false→wh P ops Q l c ds w):wh P ops Q l fr ds w:=by
 cases b with
 | true=>have:=h rfl; rw [hc.same e f] at this; exact this
 | false=>have:=i rfl; rw [hc.same e g] at this; exact this
theorem ud {ops:Array Oper}{l:List Oper}{a b:List Value}{d:Nat}{p:Prop}[Decidable p] (c:Xb fr d (.bool (decide p))) (e:hc fr d (.bool true) a) (f:hc fr d (.bool false) b)
  (g:p→wh P ops Q l a ds w) (i:¬ p→wh P ops Q l b ds w):wh P ops Q l fr ds w :=
 Vv c e f (fun h=>g (of_decide_eq_true h)) (fun h=>i (of_decide_eq_false h))
end code
end Go.Sb
namespace Go.Sb
open Go.RowKit
def S (l:List UInt8):Value:=.string ⟨⟨l⟩⟩
section
variable {P:Program}{Q:Exit→Act→World→Prop}{K:List Value→List Deferred→World→Prop}{fr Va:List Value}{ds:List Deferred}{w:World}{ops:Array Oper}{rest:List Oper}
variable {dst:Option Tmp}{op:Op}{ty:TypeId}{pos:String}{after:Array Edge}{g:Option (Nat×Bool)}
theorem ja (h:Q .normal (F fr ds) w):wh P ops Q [] fr ds w:=⟨h⟩
theorem wl (h:xc P ⟨dst,op,ty,pos,after,none⟩ fr ds w (wh P ops Q rest) Q):wh P ops Q (⟨dst,op,ty,pos,after,none⟩::rest) fr ds w:=by
 constructor;unfold wpList;rw [if_pos (by simp [Region.wanted])];exact .inl (h.out _ fun _ _ _ k=>k.out)
theorem Ra {j d:Nat}{b:Bool}(c:(ops[j]?).bind (·.dst)=some d) (a:Xb fr d (.bool b)) (h:xc P ⟨dst,op,ty,pos,after,some (j,b)⟩ fr ds w (wh P ops Q rest) Q) :
  wh P ops Q (⟨dst,op,ty,pos,after,some (j,b)⟩::rest) fr ds w:=by
 constructor;unfold wpList;rw [if_pos (by
  unfold Xb at a;simp only [Region.wanted,yielded,c,F];simp [a])]
 exact .inl (h.out _ fun _ _ _ k=>k.out)
theorem wn {j d:Nat}{b a:Bool}(e:(ops[j]?).bind (·.dst)=some d) (c:Xb fr d (.bool a)) (f:(a == b)=false) (g:Wc fr dst undef Va) (h:wh P ops Q rest Va ds w) :
  wh P ops Q (⟨dst,op,ty,pos,after,some (j,b)⟩::rest) fr ds w:=by
 constructor;unfold wpList;rw [if_neg (by
  unfold Xb at c;simp only [Region.wanted,yielded,e,F];simp [c];simpa using f)]
 exact g.rw h.out
theorem Xr {j d:Nat}{b:Bool}(c:(ops[j]?).bind (·.dst)=some d) (a:Xb fr d undef) (e:Wc fr dst undef Va) (h:wh P ops Q rest Va ds w) :
  wh P ops Q (⟨dst,op,ty,pos,after,some (j,b)⟩::rest) fr ds w:=by
 constructor;unfold wpList;rw [if_neg (by
  unfold Xb at a;simp only [Region.wanted,yielded,c,F];simp [a,undef])]
 exact e.rw h.out
theorem Pe {o:Oper}{v:Value}{w':World}(a:(execOp (F fr ds).eval o).run P w=.ok (.value v) w') (b:Wc fr o.dst v Va) (h:K Va ds w'):xc P o fr ds w K Q:=by
 constructor;intro d c;unfold Oper.wp;rw [a,Oper.upon_value];exact b.rw (c _ _ _ h)
theorem iz {o:Oper}{w':World}(a:(execOp (F fr ds).eval o).run P w=.ok .skip w') (b:Wc fr o.dst undef Va) (h:K Va ds w'):xc P o fr ds w K Q:=by
 constructor;intro d c;unfold Oper.wp;rw [a,Oper.upon_skip];exact b.rw (c _ _ _ h)
structure we (P:Program) (o:Oper) (fr:List Value) (v:Value):Prop where
 out:∀ ds w,(execOp (F fr ds).eval o).run P w=.ok (.value v) w
theorem pf {o:Oper}{v:Value}(hu:we P o fr v) (a:Wc fr o.dst v Va) (h:K Va ds w):xc P o fr ds w K Q:=Pe (hu.out ds w) a h
theorem od {x:Operand}{v:Value}(a:qb fr x v):we P (Oper.mk dst (.move x) ty pos after g) fr (v):=⟨fun ds w=>by simp [execOp,a ds]⟩
theorem ia {x:Operand}{v:Value}(a:qb fr x v) (b:Wc fr dst (v) Va) (h:K Va ds w):xc P (Oper.mk dst (.move x) ty pos after g) fr ds w K Q:=pf (od a) b h
theorem Ws {x:Operand}{v:Value}(a:qb fr x v):we P (Oper.mk dst (.assign x) ty pos after g) fr (v):=⟨fun ds w=>by simp [execOp,a ds]⟩
theorem Oa {x:Operand}{v:Value}(a:qb fr x v) (b:Wc fr dst (v) Va) (h:K Va ds w):xc P (Oper.mk dst (.assign x) ty pos after g) fr ds w K Q:=pf (Ws a) b h
theorem Dl {c x y:Operand}{v:Value}(a:qb fr c (.bool true)) (b:qb fr x v):we P (Oper.mk dst (.pick c x y) ty pos after g) fr (v):=⟨fun ds w=>by simp [execOp,b ds,a ds,asBool]⟩
theorem kc {c x y:Operand}{v:Value}(a:qb fr c (.bool true)) (b:qb fr x v) (d:Wc fr dst (v) Va) (h:K Va ds w):xc P (Oper.mk dst (.pick c x y) ty pos after g) fr ds w K Q:=pf (Dl a b) d h
theorem gr {c x y:Operand}{v:Value}(a:qb fr c (.bool false)) (b:qb fr y v):we P (Oper.mk dst (.pick c x y) ty pos after g) fr (v):=⟨fun ds w=>by simp [execOp,b ds,a ds,asBool]⟩
theorem Tc {c x y:Operand}{v:Value}(a:qb fr c (.bool false)) (b:qb fr y v) (d:Wc fr dst (v) Va) (h:K Va ds w):xc P (Oper.mk dst (.pick c x y) ty pos after g) fr ds w K Q:=pf (gr a b) d h
theorem wr {n:Int}(h:-9223372036854775808≤n∧n≤9223372036854775807):IntKind.i64.wrap n=n:=by
 unfold IntKind.wrap;simp [IntKind.bits,IntKind.signed];omega
theorem fF {x y:Operand}{t d:TypeId}{k:IntKind}{a b c:Int}(e:qb fr x (.int k a)) (f:qb fr y (.int k b)) (hw:k.wrap (a+b)=c):we P (Oper.mk dst (.binOp .add t x y d) ty pos after g) fr ((.int k c)):=by
 subst hw;exact ⟨fun ds w=>by simp [execOp,e ds,f ds,eqGuard,binOp,Op.intArith]⟩
theorem Ry {x y:Operand}{t d:TypeId}{k:IntKind}{a b c:Int}(e:qb fr x (.int k a)) (f:qb fr y (.int k b)) (hw:k.wrap (a - b)=c):we P (Oper.mk dst (.binOp .sub t x y d) ty pos after g) fr ((.int k c)):=by
 subst hw;exact ⟨fun ds w=>by simp [execOp,e ds,f ds,eqGuard,binOp,Op.intArith]⟩
theorem gF {x y:Operand}{t d:TypeId}{k:IntKind}{a b c:Int}(e:qb fr x (.int k a)) (f:qb fr y (.int k b)) (hw:k.wrap (a - b)=c) (i:Wc fr dst ((.int k c)) Va) (h:K Va ds w):xc P (Oper.mk dst (.binOp .sub t x y d) ty pos after g) fr ds w K Q:=pf (Ry e f hw) i h
theorem hF {x y:Operand}{t c:TypeId}{k:IntKind}{a b:Int}(d:qb fr x (.int k a)) (e:qb fr y (.int k b)):we P (Oper.mk dst (.binOp .lss t x y c) ty pos after g) fr ((.bool (decide (a<b)))):=⟨fun ds w=>by simp [execOp,d ds,e ds,eqGuard,binOp,Op.intCmp]⟩
theorem Ue {x y:Operand}{t c:TypeId}{k:IntKind}{a b:Int}(d:qb fr x (.int k a)) (e:qb fr y (.int k b)) (f:Wc fr dst ((.bool (decide (a<b)))) Va) (h:K Va ds w):xc P (Oper.mk dst (.binOp .lss t x y c) ty pos after g) fr ds w K Q:=pf (hF d e) f h
theorem iF {x y:Operand}{t c:TypeId}{k:IntKind}{a b:Int}(d:qb fr x (.int k a)) (e:qb fr y (.int k b)):we P (Oper.mk dst (.binOp .leq t x y c) ty pos after g) fr ((.bool (decide (a≤b)))):=⟨fun ds w=>by simp [execOp,d ds,e ds,eqGuard,binOp,Op.intCmp]⟩
theorem zr {x y:Operand}{t c:TypeId}{k:IntKind}{a b:Int}(d:qb fr x (.int k a)) (e:qb fr y (.int k b)) (f:Wc fr dst ((.bool (decide (a≤b)))) Va) (h:K Va ds w):xc P (Oper.mk dst (.binOp .leq t x y c) ty pos after g) fr ds w K Q:=pf (iF d e) f h
theorem jF {x y:Operand}{t c:TypeId}{k:IntKind}{a b:Int}(d:qb fr x (.int k a)) (e:qb fr y (.int k b)):we P (Oper.mk dst (.binOp .gtr t x y c) ty pos after g) fr ((.bool (decide (b<a)))):=⟨fun ds w=>by simp [execOp,d ds,e ds,eqGuard,binOp,Op.intCmp]⟩
theorem Nf {x y:Operand}{t c:TypeId}{k:IntKind}{a b:Int}(d:qb fr x (.int k a)) (e:qb fr y (.int k b)) (f:Wc fr dst ((.bool (decide (b<a)))) Va) (h:K Va ds w):xc P (Oper.mk dst (.binOp .gtr t x y c) ty pos after g) fr ds w K Q:=pf (jF d e) f h
theorem kF {x y:Operand}{t c:TypeId}{k:IntKind}{a b:Int}(d:qb fr x (.int k a)) (e:qb fr y (.int k b)):we P (Oper.mk dst (.binOp .geq t x y c) ty pos after g) fr ((.bool (decide (b≤a)))):=⟨fun ds w=>by simp [execOp,d ds,e ds,eqGuard,binOp,Op.intCmp]⟩
theorem Ot {x y:Operand}{t c:TypeId}{k:IntKind}{a b:Int}(d:qb fr x (.int k a)) (e:qb fr y (.int k b)) (f:Wc fr dst ((.bool (decide (b≤a)))) Va) (h:K Va ds w):xc P (Oper.mk dst (.binOp .geq t x y c) ty pos after g) fr ds w K Q:=pf (kF d e) f h
theorem lF {x y:Operand}{t c:TypeId}{k:IntKind}{a b:Int}(d:qb fr x (.int k a)) (e:qb fr y (.int k b)):we P (Oper.mk dst (.binOp .eql t x y c) ty pos after g) fr ((.bool (decide (a=b)))):=⟨fun ds w=>by simp [execOp,d ds,e ds,eqGuard,binOp,Op.intCmp];rfl⟩
theorem jc {x y:Operand}{t c:TypeId}{k:IntKind}{a b:Int}(d:qb fr x (.int k a)) (e:qb fr y (.int k b)) (f:Wc fr dst ((.bool (decide (a=b)))) Va) (h:K Va ds w):xc P (Oper.mk dst (.binOp .eql t x y c) ty pos after g) fr ds w K Q:=pf (lF d e) f h
theorem Sy {x y:Operand}{t c:TypeId}{k:IntKind}{a b:Int}(d:qb fr x (.int k a)) (e:qb fr y (.int k b)):we P (Oper.mk dst (.binOp .neq t x y c) ty pos after g) fr ((.bool (decide (a≠b)))):=⟨fun ds w=>by
  simp [execOp,d ds,e ds,eqGuard,binOp,Op.intCmp];by_cases h:a=b<;>simp [h]⟩
theorem Ke {x y:Operand}{t c:TypeId}{k:IntKind}{a b:Int}(d:qb fr x (.int k a)) (e:qb fr y (.int k b)) (f:Wc fr dst ((.bool (decide (a≠b)))) Va) (h:K Va ds w):xc P (Oper.mk dst (.binOp .neq t x y c) ty pos after g) fr ds w K Q:=pf (Sy d e) f h
theorem Ar {x:Operand}{t:TypeId}{b:Bool}(a:qb fr x (.bool b)):we P (Oper.mk dst (.unOp .not t x) ty pos after g) fr ((.bool (!b))):=⟨fun ds w=>by simp [execOp,a ds,Op.unary]⟩
theorem Uh {x:Operand}{t:TypeId}{b:Bool}(a:qb fr x (.bool b)) (c:Wc fr dst ((.bool (!b))) Va) (h:K Va ds w):xc P (Oper.mk dst (.unOp .not t x) ty pos after g) fr ds w K Q:=pf (Ar a) c h
theorem mF {x y:Operand}{t c:TypeId}{a b:List UInt8}(d:qb fr x (S a)) (e:qb fr y (S b)) (m:a.length+b.length≤9223372036854775807):we P (Oper.mk dst (.binOp .add t x y c) ty pos after g) fr ((S (a++b))):=by
 have f:(ByteArray.mk ⟨a⟩).size=a.length:=rfl;have h:(ByteArray.mk ⟨b⟩).size=b.length:=rfl;have i:¬ (((((ByteArray.mk ⟨a⟩).size+(ByteArray.mk ⟨b⟩).size:Nat):Int)) > IntKind.i64.max):=by
  rw [f,h];unfold IntKind.max;simp [IntKind.bits,IntKind.signed];omega
 have j:ByteArray.mk ⟨a⟩++ByteArray.mk ⟨b⟩=ByteArray.mk ⟨a++b⟩:=by
  apply ByteArray.ext;rw [ByteArray.data_append];simp
 refine ⟨fun ds w=>?_⟩;have k:=d ds;have l:=e ds;simp only [execOp,k,l,S,eqGuard,binOp,Op.stringOp];rw [if_neg i,j];simp
theorem nF {x y:Operand}{t c:TypeId}{a b:List UInt8}(d:qb fr x (S a)) (f:qb fr y (S b)):we P (Oper.mk dst (.binOp .eql t x y c) ty pos after g) fr ((.bool (decide (a=b)))):=by
 refine ⟨fun ds w=>?_⟩;have h:=d ds;have i:=f ds;simp [execOp,h,i,S,eqGuard,binOp,Op.stringOp];by_cases e:a=b<;>simp [e]
theorem zv {x y:Operand}{t c:TypeId}{a b:List UInt8}(d:qb fr x (S a)) (e:qb fr y (S b)) (f:Wc fr dst ((.bool (decide (a=b)))) Va) (h:K Va ds w):xc P (Oper.mk dst (.binOp .eql t x y c) ty pos after g) fr ds w K Q:=pf (nF d e) f h
theorem Ty {x y:Operand}{t c:TypeId}{a b:List UInt8}(d:qb fr x (S a)) (f:qb fr y (S b)):we P (Oper.mk dst (.binOp .neq t x y c) ty pos after g) fr ((.bool (decide (a≠b)))):=by
 refine ⟨fun ds w=>?_⟩;have h:=d ds;have i:=f ds;simp [execOp,h,i,S,eqGuard,binOp,Op.stringOp];by_cases e:a=b<;>simp [e]
theorem Uy {x y:Operand}{t c:TypeId}{a b:List UInt8}(d:qb fr x (S a)) (e:qb fr y (S b)) (f:Wc fr dst ((.bool (decide (a≠b)))) Va) (h:K Va ds w):xc P (Oper.mk dst (.binOp .neq t x y c) ty pos after g) fr ds w K Q:=pf (Ty d e) f h
theorem yD {x:Operand}{t:TypeId}{a:List UInt8}(b:P.underlying t=some .string) (c:qb fr x (S a)):we P (Oper.mk dst (.call { callee:=.builtin .len,args:=#[x],argTypes:=#[t] }) ty pos after g) fr ((.int .i64 a.length)):=by
 refine ⟨fun ds w=>?_⟩;have d:=c ds;have e:(ByteArray.mk ⟨a⟩).size=a.length:=rfl;simp [execOp,d,resolve,invoke,builtin,S,Builtin.len_,run_underlying b,goInt,e]
theorem Uj {x:Operand}{t:TypeId}{a:List UInt8}(b:P.underlying t=some .string) (c:qb fr x (S a)) (d:Wc fr dst ((.int .i64 a.length)) Va) (h:K Va ds w):xc P (Oper.mk dst (.call { callee:=.builtin .len,args:=#[x],argTypes:=#[t] }) ty pos after g) fr ds w K Q:=pf (yD b c) d h
theorem Ru {x:Operand}{t e:TypeId}{a:Option Addr}{n c:Nat}(b:P.underlying t=some (.slice e)) (d:qb fr x (.slice a n c)):we P (Oper.mk dst (.call { callee:=.builtin .len,args:=#[x],argTypes:=#[t] }) ty pos after g) fr ((.int .i64 n)):=by
 refine ⟨fun ds w=>?_⟩;have f:=d ds;simp [execOp,f,resolve,invoke,builtin,Builtin.len_,run_underlying b,goInt]
theorem ie {x:Operand}{t e:TypeId}{a:Option Addr}{n c:Nat}(b:P.underlying t=some (.slice e)) (d:qb fr x (.slice a n c)) (f:Wc fr dst ((.int .i64 n)) Va) (h:K Va ds w):xc P (Oper.mk dst (.call { callee:=.builtin .len,args:=#[x],argTypes:=#[t] }) ty pos after g) fr ds w K Q:=pf (Ru b d) f h
theorem zD {x y:Operand}{t:TypeId}{k:IntKind}{a:List UInt8}{i:Int}{c:UInt8}(e:P.underlying t=some .string) (f:qb fr x (S a)) (j:qb fr y (.int k i)) (l:0≤i) (b:a[i.toNat]?=some c):we P (Oper.mk dst (.index t x y) ty pos after g) fr ((.int .u8 c.toNat)):=by
 refine ⟨fun ds w=>?_⟩;have m:=f ds;have n:=j ds;have o:(ByteArray.mk ⟨a⟩)[i.toNat]?=some c:=by
  have d:i.toNat<a.length:=by
   rcases Nat.lt_or_ge i.toNat a.length with h | h
   ·exact h
   ·rw [List.getElem?_eq_none h] at b;cases b
  rw [getElem?_pos (ByteArray.mk ⟨a⟩) i.toNat (show i.toNat<(ByteArray.mk ⟨a⟩).size from d)];rw [List.getElem?_eq_getElem d] at b;rw [← b];rfl
 simp [execOp,m,n,S,Instr.index,run_underlying e,asIntOf,l,o]
theorem Ow (a:List UInt8) (i j:Nat):(ByteArray.mk ⟨a⟩).extract i j=ByteArray.mk ⟨(a.take j).drop i⟩:=by
 rw [Lib.extract_eq];simp [List.drop_take]
theorem yC {x b:Operand}{t:TypeId}{k:IntKind}{a:List UInt8}{i:Int}(c:P.underlying t=some .string) (d:qb fr x (S a)) (e:qb fr b (.int k i))
  (f:0≤i∧i≤a.length):we P (Oper.mk dst (.slice t x (some b) none none) ty pos after g) fr ((S (a.drop i.toNat))):=by
 refine ⟨fun ds w=>?_⟩;have h:=d ds;have j:=e ds;have l:(ByteArray.mk ⟨a⟩).size=a.length:=rfl;simp only [execOp,h,j,S,Option.map,Instr.sliceAt];simp [run_underlying c,Instr.slice,Instr.sliceBounds,Instr.sliceBound,asIntOf,l,f,Ow]
theorem zC {x b:Operand}{t:TypeId}{c:IntKind}{a:List UInt8}{j:Int}(d:P.underlying t=some .string) (e:qb fr x (S a)) (f:qb fr b (.int c j))
  (h:0≤j∧j≤a.length):we P (Oper.mk dst (.slice t x none (some b) none) ty pos after g) fr ((S (a.take j.toNat))):=by
 refine ⟨fun ds w=>?_⟩;have i:=e ds;have k:=f ds;have l:(ByteArray.mk ⟨a⟩).size=a.length:=rfl;simp only [execOp,i,k,S,Option.map,Instr.sliceAt];simp [run_underlying d,Instr.slice,Instr.sliceBounds,Instr.sliceBound,asIntOf,l,h,Ow]
theorem AD {x:Operand}{i:Nat}{vs:List Value}{v:Value}(b:qb fr x (.tuple ⟨vs⟩)) (a:Xb vs i v):we P (Oper.mk dst (.extract x i) ty pos after g) fr (v):=by
 refine ⟨fun ds w=>?_⟩;have c:=b ds;unfold Xb at a;simp [execOp,c,Instr.extract,a]
theorem Je {x:Operand}{i:Nat}{vs:List Value}{v:Value}(a:qb fr x (.tuple ⟨vs⟩)) (b:Xb vs i v) (c:Wc fr dst (v) Va) (h:K Va ds w):xc P (Oper.mk dst (.extract x i) ty pos after g) fr ds w K Q:=pf (AD a b) c h
structure Pc (P:Program) (f:FuncId) (args:List Value) (w:World) (R:Value→World→Prop):Prop where
 out:Calls P f ⟨args⟩ w fun e w'=>match e with | .returned v=>R v w' | _=>False
theorem Pc.mono {f:FuncId}{args:List Value}{R R':Value→World→Prop}(h:Pc P f args w R) (a:∀ v w',R v w'→R' v w'):Pc P f args w R' :=
 ⟨Calls.mono h.out fun e w' he=>by
  cases e with
  | returned v=>exact a v w' he
  | panicked c=>exact he.elim
  | outgrown=>exact he.elim⟩
class Ic (P:Program) (f:FuncId):Prop where
 out:∀ args w,(callFunc f args).run P w=.ok (.enter f args) w
theorem BC {f : FuncId} {fn : Func} (a : P.funcs[f]? = some fn) (e : fn.body.isSome = true) (b : (fn.name == "runtime.NumGoroutine") = false) : Ic P f := by
 constructor;intro args w;have c:¬ fn.body=none:=by cases h:fn.body<;>simp_all
 have d : ¬ fn.name = "runtime.NumGoroutine" := by simpa using b
 simp only [callFunc,Sem.run_bind,run_program,Result.andThen_ok,a,beq_iff_eq,if_neg d,Option.isNone_iff_eq_none,if_neg c,Sem.run_pure]
def Jg (fr:List Value) (dst:Option Tmp) (v:Value) (K:List Value→Prop):Prop:=∀ Va,Wc fr dst v Va→K Va
theorem Wc.uniq {fr a b:List Value}{dst:Option Tmp}{v:Value}(h:Wc fr dst v a) (k:Wc fr dst v b):a=b:=by
 have:=(h []).symm.trans (k []);unfold F at this;simpa using this
theorem pu {v:Value}{K:List Value→Prop}(a:Wc fr dst v Va) (h:K Va):Jg fr dst v K:=fun c b=>by rw [Wc.uniq b a];exact h
theorem Fg (fr:List Value) (dst:Option Tmp) (v:Value):∃ Va,Wc fr dst v Va:=by
 cases dst with
 | none=>exact ⟨fr,xb⟩
 | some n=>exact ⟨fr.set n v,ba rfl⟩
theorem Lx {o:Oper}{f:FuncId}{args:List Value}{R:Value→World→Prop}(a:(execOp (F fr ds).eval o).run P w=.ok (.enter f ⟨args⟩) w) (b:Pc P f args w R)
  (h:∀ v w',R v w'→Jg fr o.dst v fun Va=>K Va ds w'):xc P o fr ds w K Q:=by
 constructor;intro g d;unfold Oper.wp;rw [a,Oper.upon_enter];exact Calls.mono b.out fun e w' he=>by
  cases e with
  | returned v =>
   obtain ⟨Va,Ua⟩:=Fg fr o.dst v;exact Ua.rw (d _ _ _ (h v w' he Va Ua))
  | panicked c=>exact he.elim
  | outgrown=>exact he.elim
theorem Du {f:Operand}{xs:List Operand}{tys:Array TypeId}{k:FuncId}{cap vs:List Value}(a:Ic P k) (b:qb fr f (.func (.func k) #[] ⟨cap⟩)) (c:kl fr xs vs) :
  (execOp (F fr ds).eval (Oper.mk dst (.call { callee:=.value f,args:=⟨xs⟩,argTypes:=tys }) ty pos after g)).run P w=.ok (.enter k ⟨vs++cap⟩) w:=by
 have d:=b ds;have e:=c ds;have h:=a.out ⟨vs++cap⟩ w;simp [execOp,resolve,d,Deferred.ofValue,invoke,e,h]
theorem Za {f:Operand}{xs:List Operand}{tys:Array TypeId}{k:FuncId}{vs:List Value}{R:Value→World→Prop}(a:Ic P k) (b:qb fr f (.func (.func k) #[] #[])) (c:kl fr xs vs)
  (d:Pc P k vs w R) (h:∀ v w',R v w'→Jg fr dst v fun Va=>K Va ds w'):xc P (Oper.mk dst (.call { callee:=.value f,args:=⟨xs⟩,argTypes:=tys }) ty pos after g) fr ds w K Q:=by
 refine Lx (args:=vs) ?_ d h;have:=Du (w:=w) (dst:=dst) (ty:=ty) (pos:=pos) (after:=after) (g:=g) (tys:=tys) (ds:=ds) (cap:=[]) a b c;simpa using this
theorem CC {f:Operand}{xs:List Operand}{tys:Array TypeId}{k:FuncId}{cap vs:List Value}{R:Value→World→Prop}(a:Ic P k) (b:qb fr f (.func (.func k) #[] ⟨cap⟩)) (c:kl fr xs vs)
  (d:Pc P k (vs++cap) w R) (h:∀ v w',R v w'→Jg fr dst v fun Va=>K Va ds w'):xc P (Oper.mk dst (.call { callee:=.value f,args:=⟨xs⟩,argTypes:=tys }) ty pos after g) fr ds w K Q :=
 Lx (Du a b c) d h
def Jm (P:Program) (fn:Func) (R:Value→World→Prop):Exit→Act→World→Prop:=bodyPost P fn fun e w'=>match e with | .returned v=>R v w' | _=>False
theorem enter {f:FuncId}{fn:Func}{c:Code}{args frm:List Value}{R:Value→World→Prop}(a:P.funcs[f]?=some fn) (b:fn.body=some c)
  (d:args++List.replicate (fn.ntmps - args.length) undef=frm) (h:Td P c (Jm P fn R) frm [] w):Pc P f args w R:=by
 refine ⟨calls_of_wp a b ?_⟩;subst d;have:(⟨args⟩:Array Value)++Array.replicate (fn.ntmps - args.length) undef=⟨args++List.replicate (fn.ntmps - args.length) undef⟩:=by
  apply Array.ext';simp
 have h:=h.out;simpa [F,Jm,this] using h
theorem fc {fn:Func}{R:Value→World→Prop}{t:Tmp}{v:Value}(b:fn.results=#[.tmp t]) (a:Xb fr t v) (h:R v w):Jm P fn R .ret (F fr []) w:=by
 refine bodyPost_ret (v:=v) ?_ rfl h;unfold Xb at a;rw [results_tmp b];simp [F,a]
theorem Lr {fn:Func}{R:Value→World→Prop}{t u:Tmp}{v a:Value}(d:fn.results=#[.tmp t,.tmp u]) (b:Xb fr t v) (c:Xb fr u a) (h:R (.tuple #[v,a]) w):Jm P fn R .ret (F fr []) w:=by
 refine bodyPost_ret (v:=.tuple #[v,a]) ?_ rfl h;unfold Xb at b c;rw [results_tmp2 d];simp [F,b,c]
theorem Pl {fn:Func}{R:Value→World→Prop}(a:fn.results=#[]) (h:R (.tuple #[]) w):Jm P fn R .normal (F fr []) w :=
 bodyPost_end (results_none a _ _ _) rfl h
theorem Jv {fn:Func}{R:Value→World→Prop}(a:fn.results=#[]) (h:R (.tuple #[]) w):Jm P fn R .ret (F fr []) w :=
 bodyPost_ret (results_none a _ _ _) rfl h
end
end Go.Sb
namespace Go.Sb
open Go.RowKit
structure Qg (S:Nat→Prop) (w w':World):Prop where
 os:w'.os=w.os
 tape:w'.tape=w.tape
 output:w'.output=w.output
 size:w.heap.size≤w'.heap.size
 na:∀ k,k<w.heap.size→S k→w'.heap[k]?=w.heap[k]?
def Grow (w w':World):Prop:=Qg (fun _=>True) w w'
theorem Qg.refl {S:Nat→Prop}(w:World):Qg S w w:=⟨rfl,rfl,rfl,Nat.le_refl _,fun _ _ _=>rfl⟩
theorem Qg.trans {S:Nat→Prop}{a b c:World}(h:Qg S a b) (k:Qg S b c):Qg S a c :=
 ⟨k.os.trans h.os,k.tape.trans h.tape,k.output.trans h.output,Nat.le_trans h.size k.size,fun i d e=>(k.na i (Nat.lt_of_lt_of_le d h.size) e).trans (h.na i d e)⟩
theorem Qg.mono {S c:Nat→Prop}{a b:World}(h:Qg S a b) (d:∀ k,c k→S k):Qg c a b:=⟨h.os,h.tape,h.output,h.size,fun i e k=>h.na i e (d i k)⟩
theorem Grow.keeps {S:Nat→Prop}{a b:World}(h:Grow a b):Qg S a b:=Qg.mono h fun _ _=>trivial
theorem Grow.below {a b:World}(h:Grow a b):Below a.heap.size a b:=⟨h.os,h.tape,h.output,h.size,fun k c=>h.na k c trivial⟩
theorem Grow.alloc (w:World) (o:Obj):Grow w (w.alloc o):=⟨rfl,rfl,rfl,by simp,fun k a _=>heap_alloc_old w o k a⟩
def Fi (S:Nat→Prop) (w:World) (A:World→Prop):Prop:=∀ w',w.heap.size≤w'.heap.size→(∀ k,k<w.heap.size→S k→w'.heap[k]?=w.heap[k]?)→A w'
theorem Fi.now {S:Nat→Prop}{w:World}{A:World→Prop}(h:Fi S w A):A w:=h w (Nat.le_refl _) fun _ _ _=>rfl
theorem Fi.mono {S a:Nat→Prop}{w:World}{A:World→Prop}(h:Fi S w A) (c:∀ k,k<w.heap.size→S k→a k):Fi a w A:=fun w' d e=>h w' d fun k b f=>e k b (c k b f)
theorem Fi.and {S:Nat→Prop}{w:World}{A B:World→Prop}(h:Fi S w A) (k:Fi S w B):Fi S w fun w'=>A w'∧B w':=fun w' a b=>⟨h w' a b,k w' a b⟩
theorem Fi.keeps {S:Nat→Prop}{w w':World}{A:World→Prop}(h:Fi S w A) (k:Qg S w w'):Fi S w' A :=
 fun d e f=>h d (Nat.le_trans k.size e) fun b a c=>(f b (Nat.lt_of_lt_of_le a k.size) c).trans (k.na b a c)
inductive wb where
 | na (b:Nat) (T:TypeId) (cs:List Value)
 | row (v:Value) (T:TypeId) (Jb n:Nat) (xs:List Value)
 | map (b:Nat) (es:List MapEntry) (clock:Nat)
 | Yt (b:Nat) (s:ByteArray) (pos:Nat)
 | ro (b:Nat) (T:TypeId) (cs:List Value)
 | Xh (b m since:Nat) (seen:List Nat) (last:Nat)
def Ck (w:World) (b:Nat) (T:TypeId) (cs:List Value):Prop:=w.heap[b]?=some (.cells ⟨cs⟩ T (0,0))
def Row (w:World) (v:Value) (T:TypeId) (Jb n:Nat) (xs:List Value):Prop :=
 xs.length=n*Jb∧((v=.slice none 0 0∧n=0)∨∃ g o cap cur,v=.slice (some ⟨g,o,none⟩) n cap∧w.heap[g]?=some (.cells cur T (0,0))∧n≤cap∧cap≤maxLen∧o+cap*Jb≤cur.size∧(cur.toList.drop o).take (n*Jb)=xs)
def wb.block:wb→Option Nat
 | .na b _ _=>some b
 | .row v _ _ _ _=>v.ownBlock
 | .map b _ _=>some b
 | .Yt b _ _=>some b
 | .ro b _ _=>some b
 | .Xh b _ _ _ _=>some b
def wb.holds (w:World):wb→Prop
 | .na b T cs=>Ck w b T cs
 | .row v T Jb n xs=>Row w v T Jb n xs
 | .map b es clock=>w.heap[b]?=some (.map ⟨es⟩ clock)
 | .Yt b s pos=>w.heap[b]?=some (.stringIter s pos)
 | .ro b T cs=>∃ z,w.heap[b]?=some (.cells ⟨cs⟩ T z)
 | .Xh b m since seen last=>w.heap[b]?=some (.mapIter (some m) since ⟨seen⟩ last)
def blocks (rs:List wb):List Nat:=rs.filterMap wb.block
structure Sep (S ld:Nat→Prop) (J w:World) (rs:List wb) (A:World→Prop):Prop where
 keeps:Qg S J w
 all:∀ r ∈ rs,r.holds w
 Yh:(blocks rs).Nodup
 new:∀ b ∈ blocks rs,J.heap.size≤b∨¬ S b
 Gi:Fi (fun b=>(ld b∨J.heap.size≤b)∧b ∉ blocks rs) w A
theorem Uz {w:World}{r:wb}(h:r.holds w){b:Nat}(a:r.block=some b):b<w.heap.size:=by
 cases r with
 | na c T cs=>simp [wb.block] at a; subst a; exact (Array.getElem?_eq_some_iff.1 h).1
 | map c es f=>simp [wb.block] at a; subst a; exact (Array.getElem?_eq_some_iff.1 h).1
 | Yt c s p=>simp [wb.block] at a; subst a; exact (Array.getElem?_eq_some_iff.1 h).1
 | Xh c m s e l=>simp [wb.block] at a; subst a; exact (Array.getElem?_eq_some_iff.1 h).1
 | ro c T cs=>obtain ⟨z,h⟩:=h; simp [wb.block] at a; subst a; exact (Array.getElem?_eq_some_iff.1 h).1
 | row v T Jb n xs =>
  rcases h.2 with ⟨rfl,_⟩ | ⟨g,o,cap,cur,rfl,d,_⟩
  ·simp [wb.block,Value.ownBlock] at a
  ·simp [wb.block,Value.ownBlock] at a;subst a;exact (Array.getElem?_eq_some_iff.1 d).1
theorem holds_of {w w':World}{r:wb}(h:r.holds w) (c:∀ b,r.block=some b→w'.heap[b]?=w.heap[b]?):r.holds w':=by
 cases r with
 | na a T cs=>exact (c a rfl).trans h
 | map a es f=>exact (c a rfl).trans h
 | Yt a s p=>exact (c a rfl).trans h
 | Xh a m s e l=>exact (c a rfl).trans h
 | ro a T cs=>obtain ⟨z,h⟩:=h; exact ⟨z,(c a rfl).trans h⟩
 | row v T Jb n xs =>
  refine ⟨h.1,?_⟩;rcases h.2 with h | ⟨g,o,cap,cur,rfl,d,h⟩
  ·exact .inl h
  ·exact .inr ⟨g,o,cap,cur,rfl,by rw [c g rfl];exact d,h⟩
section
variable {S ld:Nat→Prop}{J w w':World}{rs mc:List wb}{A B:World→Prop}
theorem Sep.a (h:Sep S ld J w rs A):A w:=h.Gi.now
theorem Sep.start (w:World) (S ld:Nat→Prop) (a:Fi ld w A):Sep S ld w w [] A :=
 ⟨.refl w,by simp,by simp [blocks],by simp [blocks],a.mono fun k _ b=>⟨.inl b,by simp [blocks]⟩⟩
theorem Kn {r:wb}{b:Nat}(a:r ∈ rs) (c:r.block=some b):b ∈ blocks rs:=List.mem_filterMap.2 ⟨r,a,c⟩
theorem Sep.lt (h:Sep S ld J w rs A){b:Nat}(a:b ∈ blocks rs):b<w.heap.size:=by
 obtain ⟨r,c,a⟩:=List.mem_filterMap.1 a;exact Uz (h.all r c) a
theorem Sep.grow (h:Sep S ld J w rs A) (a:Grow w w'):Sep S ld J w' rs A where
 keeps:=h.keeps.trans a.keeps
 all r c:=holds_of (h.all r c) fun b d=>a.na b (h.lt (Kn c d)) trivial
 Yh:=h.Yh
 new:=h.new
 Gi:=h.Gi.keeps a.keeps
theorem Sep.alloc (h:Sep S ld J w rs A){o:Obj}{r:wb}(c:r.block=some w.heap.size) (f:r.holds (w.alloc o)):Sep S ld J (w.alloc o) (r::rs) A where
 keeps:=h.keeps.trans (Grow.alloc w o).keeps
 all r' d:=by
  rcases List.mem_cons.1 d with rfl | d
  ·exact f
  ·exact (h.grow (Grow.alloc w o)).all r' d
 Yh:=by
  simp only [blocks,List.filterMap_cons,c,List.nodup_cons];exact ⟨fun hm=>Nat.lt_irrefl _ (h.lt hm),h.Yh⟩
 new b a:=by
  simp only [blocks,List.filterMap_cons,c,List.mem_cons] at a;rcases a with rfl | a
  ·exact .inl h.keeps.size
  ·exact h.new b a
 Gi:=fun w' g i=>h.Gi w' (by simp at g;omega) fun k j e=>by
  have:=i k (by simp;omega) ⟨e.1,by
   simp only [blocks,List.filterMap_cons,c,List.mem_cons,not_or];exact ⟨by omega,e.2⟩⟩
  rw [this];exact heap_alloc_old w o k j
theorem zt {r:wb}{n:Nat}(a:Xb rs n r):r ∈ rs:=List.mem_of_getElem? a
theorem Sep.get (h:Sep S ld J w rs A){n:Nat}{r:wb}(a:Xb rs n r):r.holds w:=h.all r (zt a)
theorem gA {n:Nat}{r r':wb}(b:Xb rs n r) (c:r'.block=r.block):blocks (rs.set n r')=blocks rs:=by
 unfold Xb at b;unfold blocks
 induction rs generalizing n with
 | nil=>rfl
 | cons a rs d =>
  cases n with
  | zero=>simp at b; subst b; simp [List.filterMap_cons,c]
  | succ n=>simp at b; simp only [List.set_cons_succ,List.filterMap_cons,d b]
theorem ow {n m:Nat}{r f:wb}(Ua:(blocks rs).Nodup) (d:Xb rs n r) (hm:Xb rs m f) (i:n≠m){b:Nat}(g:r.block=some b):f.block≠some b:=by
 unfold Xb at d hm;unfold blocks at Ua
 induction rs generalizing n m with
 | nil=>simp at d
 | cons a rs j =>
  have k:(List.filterMap wb.block rs).Nodup:=by
   cases h:a.block with
   | none=>simpa [List.filterMap_cons,h] using Ua
   | some c=>simp only [List.filterMap_cons,h,List.nodup_cons] at Ua; exact Ua.2
  cases n with
  | zero =>
   cases m with
   | zero=>exact absurd rfl i
   | succ m =>
    simp at d hm;subst d;intro e;simp only [List.filterMap_cons,g,List.nodup_cons] at Ua;exact Ua.1 (List.mem_filterMap.2 ⟨f,List.mem_of_getElem? hm,e⟩)
  | succ n =>
   cases m with
   | zero =>
    simp at d hm;subst hm;intro e;simp only [List.filterMap_cons,e,List.nodup_cons] at Ua;exact Ua.1 (List.mem_filterMap.2 ⟨r,List.mem_of_getElem? d,g⟩)
   | succ m=>simp at d hm; exact j k d hm (by omega)
theorem Sep.put (h:Sep S ld J w rs A){n:Nat}{r r':wb}{b:Nat}(d:Xb rs n r) (g:r.block=some b) (q:r'.block=some b) (l:hc rs n r' mc)
  (s:r'.holds w') (a:Qg (fun k=>k≠b) w w'):Sep S ld J w' mc A:=by
 unfold hc at l;subst l;have o:=Kn (zt d) g;have i:=gA (r':=r') d (q.trans g.symm);refine ⟨?_,?_,?_,?_,?_⟩
 ·refine ⟨a.os.trans h.keeps.os,a.tape.trans h.keeps.tape,a.output.trans h.keeps.output,Nat.le_trans h.keeps.size a.size,fun k j f=>?_⟩;rw [a.na k (Nat.lt_of_lt_of_le j h.keeps.size) (fun e=>by subst e;rcases h.new k o with h | h;exact absurd j (by omega);exact h f)];exact h.keeps.na k j f
 ·intro t u;obtain ⟨m,hm⟩:=List.mem_iff_getElem?.1 u;by_cases e:n=m
  ·subst e;have v:n<rs.length:=(List.getElem?_eq_some_iff.1 d).1;rw [List.getElem?_set_self v] at hm;cases hm;exact s
  ·rw [List.getElem?_set_ne e] at hm;refine holds_of (h.all t (List.mem_of_getElem? hm)) fun c p=>a.na c (h.lt (Kn (List.mem_of_getElem? hm) p)) fun e2=>?_;subst e2;exact ow h.Yh d hm e g p
 ·rw [i];exact h.Yh
 ·rw [i];exact h.new
 ·rw [i];exact h.Gi.keeps (a.mono fun k f e=>f.2 (by subst e;exact o))
end
def St:TypeDesc→Bool
 | .struct _ | .array _ _=>true
 | _=>false
class ad (P:Program) (T:TypeId) (xe:outParam Bool) (Sc:outParam (List Value)) (n m:outParam Nat):Prop where
 Wv:∃ d,P.underlying T=some d∧St d=xe
 inf:∃ i z,P.info? T=some i∧i.zero=some z∧z.cells=⟨Sc⟩∧i.size=n∧i.bytes=m
theorem oF {P:Program}{T:TypeId}{d:TypeDesc}{xe:Bool}{z:Value}{Sc:List Value}{n m:Nat}(hu:P.underlying T=some d) (b:St d=xe) (h:(P.info? T).map (fun i=>(i.zero,i.size,i.bytes))=some (some z,n,m)) (c:z.cells=⟨Sc⟩):ad P T xe Sc n m:=by
 refine ⟨⟨d,hu,b⟩,?_⟩;cases a:P.info? T with
 | none=>rw [a] at h; cases h
 | some i =>
  rw [a] at h;simp only [Option.map_some,Option.some.injEq,Prod.mk.injEq] at h;exact ⟨i,z,rfl,h.1,c,h.2.1,h.2.2⟩
def Zf:Value→Bool
 | .agg _ | .tuple _=>false
 | _=>true
section
variable {P:Program}{Q:Exit→Act→World→Prop}{K:List Value→List Deferred→World→Prop}{fr Va:List Value}{ds:List Deferred}{w:World}
variable {dst:Option Tmp}{ty:TypeId}{pos:String}{after:Array Edge}{g:Option (Nat×Bool)}
variable {S ld:Nat→Prop}{J:World}{rs mc:List wb}{A:World→Prop}
variable {T:TypeId}{d:TypeDesc}{xe:Bool}{Sc:List Value}{n m:Nat}
theorem QA (h:P.underlying T=some d):(isAgg T).run P w=.ok (St d) w:=by
 unfold isAgg;simp only [Sem.run_bind,run_underlying h,Result.andThen_ok];cases d<;>rfl
theorem ad.isAgg (h:ad P T xe Sc n m):(Go.isAgg T).run P w=.ok xe w:=by
 obtain ⟨d,Ua,rfl⟩:=h.Wv;exact QA Ua
theorem ad.sizeOf (h:ad P T xe Sc n m):(Go.sizeOf T).run P w=.ok n w:=by
 obtain ⟨i,z,a,c,d,b,hm⟩:=h.inf;simp [Go.sizeOf,typeInfo,a,b]
theorem ad.zero (h:ad P T xe Sc n m):∃ z,(zeroValue T).run P w=.ok z w∧z.cells=⟨Sc⟩:=by
 obtain ⟨i,z,a,b,c,d,hm⟩:=h.inf;exact ⟨z,by simp [zeroValue,typeInfo,a,b],c⟩
def uj (w:World) (b o:Nat) (cs:List Value):Prop:=∀ j v,cs[j]?=some v→w.cell? ⟨b,o+j,none⟩=some v
theorem gi (b o j:Nat):(⟨b,o,none⟩:Addr).add j=⟨b,o+j,none⟩:=by
 unfold Addr.add;split
 ·rename_i h;subst h;rfl
 ·rfl
theorem Ck.cell {b:Nat}{cs:List Value}{j:Nat}{v:Value}(h:Ck w b T cs) (a:Xb cs j v):w.cell? ⟨b,j,none⟩=some v:=by
 unfold Xb at a;unfold Ck at h;simp [World.cell?,h,a]
theorem Ck.cells {b:Nat}{cs:List Value}(h:Ck w b T cs):uj w b 0 cs:=fun j v a=>by
 rw [Nat.zero_add];exact h.cell a
theorem uj.one {b o:Nat}{cs:List Value}{j:Nat}{v:Value}(h:uj w b o cs) (a:Xb cs j v):w.cell? ⟨b,o+j,none⟩=some v:=h j v a
theorem je (a:ad P T xe Sc n m) (c:Sep S ld J w rs A)
  (h:∀ b w',w.heap.size≤b→Sep S ld J w' (.na b T Sc::rs) A→Jg fr dst (.pointer (some ⟨b,0,none⟩)) fun Va=>K Va ds w'):xc P (Oper.mk dst (.alloc T) ty pos after g) fr ds w K Q:=by
 obtain ⟨z,d,e⟩:=a.zero (w:=w);obtain ⟨Va,Ua⟩:=Fg fr dst (.pointer (some ⟨w.heap.size,0,none⟩));refine Pe (v:=.pointer (some ⟨w.heap.size,0,none⟩)) (w':=w.alloc (.cells ⟨Sc⟩ T)) ?_ Ua (h _ _ (Nat.le_refl _) (c.alloc rfl (heap_alloc_new w _)) Va Ua);simp [execOp,Instr.alloc,d,newVar,newRow,e]
theorem Hm {x:Operand}{v:Value}{cs:List Value}(a:qb fr x v) (c:v.cells=⟨cs⟩) (d:Sep S ld J w rs A)
  (h:∀ b w',w.heap.size≤b→Sep S ld J w' (.na b T cs::rs) A→Jg fr dst (.pointer (some ⟨b,0,none⟩)) fun Va=>K Va ds w'):xc P (Oper.mk dst (.box T x) ty pos after g) fr ds w K Q:=by
 obtain ⟨Va,Ua⟩:=Fg fr dst (.pointer (some ⟨w.heap.size,0,none⟩));refine Pe (v:=.pointer (some ⟨w.heap.size,0,none⟩)) (w':=w.alloc (.cells ⟨cs⟩ T)) ?_ Ua (h _ _ (Nat.le_refl _) (d.alloc rfl (heap_alloc_new w _)) Va Ua);simp [execOp,Instr.box,a ds,newVar,newRow,c]
structure kp (P:Program) (o:Oper) (fr:List Value) (w:World) (v:Value):Prop where
 out:∀ ds,(execOp (F fr ds).eval o).run P w=.ok (.value v) w
theorem Iq {o:Oper}{v:Value}(hu:kp P o fr w v) (a:Wc fr o.dst v Va) (h:K Va ds w):xc P o fr ds w K Q:=Pe (hu.out ds) a h
theorem qd {x:Operand}{b o:Nat}{v:Value}(a:ad P T false Sc n m) (c:qb fr x (.pointer (some ⟨b,o,none⟩))) (d:w.cell? ⟨b,o,none⟩=some v):kp P (Oper.mk dst (.load T x) ty pos after g) fr w v :=
 ⟨fun ds=>by simp [execOp,Instr.loadAt,c ds,Instr.sureAddr,loadVar,a.isAgg,d]⟩
theorem nb {x:Operand}{b o:Nat}{v:Value}(a:ad P T false Sc n m) (c:qb fr x (.pointer (some ⟨b,o,none⟩))) (d:w.cell? ⟨b,o,none⟩=some v)
  (e:Wc fr dst v Va) (h:K Va ds w):xc P (Oper.mk dst (.load T x) ty pos after g) fr ds w K Q:=Iq (qd a c d) e h
theorem rf {x:Operand}{b o:Nat}{cs:List Value}(a:ad P T true Sc n m) (d:qb fr x (.pointer (some ⟨b,o,none⟩))) (e:uj w b o cs) (f:cs.length=n):kp P (Oper.mk dst (.load T x) ty pos after g) fr w (.agg ⟨cs⟩):=⟨fun ds=>by
 have c:=run_loadCells_list (P:=P) w ⟨b,o,none⟩ cs (fun j v h=>by rw [gi];exact e j v h);rw [f] at c;simp [execOp,Instr.loadAt,d ds,Instr.sureAddr,loadVar,a.isAgg,a.sizeOf,c]⟩
theorem mf {x:Operand}{b o:Nat}{cs:List Value}(a:ad P T true Sc n m) (c:qb fr x (.pointer (some ⟨b,o,none⟩))) (d:uj w b o cs) (e:cs.length=n)
  (f:Wc fr dst (.agg ⟨cs⟩) Va) (h:K Va ds w):xc P (Oper.mk dst (.load T x) ty pos after g) fr ds w K Q:=Iq (rf a c d e) f h
inductive Jc:List Value→Nat→List Value→List Value→Prop where
 | z {cs:List Value} {o:Nat}:Jc cs o [] cs
 | s {cs cs1 a:List Value} {o:Nat} {v:Value} {vs:List Value} (h:hc cs o v cs1) (b:o<cs.length) (k:Jc cs1 (o+1) vs a):Jc cs o (v::vs) a
theorem Jc.eq {cs:List Value}{o:Nat}{vs b:List Value}(h:Jc cs o vs b):o+vs.length≤cs.length∨vs=[]:=by
 induction h with
 | z=>exact .inr rfl
 | @s cs cs1 b o v vs h c k a =>
  left;unfold hc at h;subst h;rcases a with a | rfl
  ·simp at a ⊢;omega
  ·simp;omega
theorem Jc.res {cs:List Value}{o:Nat}{vs a:List Value}(h:Jc cs o vs a) (d:o≤cs.length):a=cs.take o++vs++cs.drop (o+vs.length):=by
 induction h with
 | z=>simp
 | @s cs cs1 a o v vs h b k c =>
  unfold hc at h;subst h;rw [c (by simp;omega)];have ea:(cs.set o v).take (o+1)=cs.take o++[v]:=by
   rw [List.take_set,List.take_add_one,List.getElem?_eq_getElem b];rw [List.set_append_right _ _ (by simp;omega)];simp [Nat.min_eq_left (Nat.le_of_lt b)]
  rw [ea];have e2:(cs.set o v).drop (o+1+vs.length)=cs.drop (o+(v::vs).length):=by
   rw [List.drop_set_of_lt (by omega)];congr 1;simp;omega
  rw [e2];simp
theorem Eu {v:Value}(h:Zf v=true):v.oneCell'=true:=by cases v<;>first | rfl | simp [Zf] at h
theorem hA {b:Nat}{cs:List Value}(c:Ck w b T cs){o:Nat}{vs d:List Value}(a:Jc cs o vs d) (e:o≤cs.length) (f:vs.all Zf=true) :
  ∃ w',(storeCells ⟨b,o,none⟩ vs).run P w=.ok () w'∧Ck w' b T d∧Qg (fun k=>k≠b) w w':=by
 have hle:o+0+vs.length≤(⟨cs⟩:Array Value).size:=by
  rcases a.eq with h | rfl
  ·simpa using h
  ·simpa using e
 refine ⟨_,run_storeCells_at P b o T vs 0 ⟨cs⟩ w c hle fun v g=>Eu (List.all_eq_true.1 f v g),?_,?_⟩
 ·rw [a.res e];exact setRow_heap w b ⟨cs⟩ _ T (0,0) c
 ·exact ⟨rfl,rfl,rfl,by simp [World.setRow],fun k i a=>setRow_other w b k _ a⟩
theorem om {x y:Operand}{b o k:Nat}{v:Value}{cs a vs:List Value}(i:ad P T xe Sc n m) (j:qb fr x (.pointer (some ⟨b,o,none⟩))) (l:qb fr y v) (c:v.cells=⟨vs⟩) (p:vs.length=n) (q:vs.all Zf=true)
  (d:Sep S ld J w rs A) {e:TypeId}(f:Xb rs k (.na b e cs)) (r:Jc cs o vs a) (s:(decide (o≤cs.length))=true) (t:hc rs k (.na b e a) mc)
  (Ua:Wc fr dst undef Va) (h:∀ w',Sep S ld J w' mc A→K Va ds w'):xc P (Oper.mk dst (.store T x y) ty pos after g) fr ds w K Q:=by
 obtain ⟨w',u,z,B⟩:=hA (P:=P) (d.get f) r (of_decide_eq_true s) q;refine iz (w':=w') ?_ Ua (h w' (d.put f rfl rfl t z B));have ea:v.cells.toList=vs:=by rw [c]
 have e2:¬ (v.cells.size≠n):=by rw [c];simpa using p
 have C:=i.sizeOf (w:=w);simp only [execOp,Instr.storeAt,j ds,l ds,Instr.sureAddr,storeVar,Sem.run_bind,C,Result.andThen_ok,if_neg e2,ea,u,Sem.run_pure]
class Le (P:Program) (T:TypeId) (i:Nat) (off:outParam Nat):Prop where
 out:∀ b o w,(Instr.fieldAt T (.pointer (some ⟨b,o,none⟩)) i).run P w=.ok (.pointer (some ⟨b,o+off,none⟩)) w
theorem Ze {c:Array Field}{i off:Nat}{f:Field}{d:TypeId}{e:List Value}{a g:Nat}{h:Bool}(j:P.underlying T=some (.struct c)) (k:c[i]?=some f) (l:f.offset=off) (m:f.type=d) (n:ad P d h e a g) (p:(a == 0)=false):Le P T i off:=by
 constructor;intro b o w;have q:¬ a=0:=by simpa using p
 simp [Instr.fieldAt,run_underlying j,k,Instr.sureAddr,fieldPlace,m,n.sizeOf,q,gi,l]
theorem ze {x:Operand}{b o i off a:Nat}(c:Le P T i off) (d:qb fr x (.pointer (some ⟨b,o,none⟩))) (e:o+off=a):we P (Oper.mk dst (.fieldAddr T x i) ty pos after g) fr ((.pointer (some ⟨b,a,none⟩))):=by
 subst e;exact ⟨fun ds w=>by simp [execOp,d ds,c.out]⟩
theorem bb {x:Operand}{b o i off a:Nat}(c:Le P T i off) (d:qb fr x (.pointer (some ⟨b,o,none⟩))) (e:o+off=a) (f:Wc fr dst ((.pointer (some ⟨b,a,none⟩))) Va) (h:K Va ds w):xc P (Oper.mk dst (.fieldAddr T x i) ty pos after g) fr ds w K Q:=pf (ze c d e) f h
theorem DC {x:Operand}{i off:Nat}{cs:List Value}{v:Value}{a:Array Field}{f:Field}{b:TypeId}{d:List Value}{e h:Nat}(j:P.underlying T=some (.struct a)) (k:a[i]?=some f) (l:f.offset=off) (m:f.type=b) (n:ad P b false d e h)
  (o:qb fr x (.agg ⟨cs⟩)) (c:Xb cs off v):we P (Oper.mk dst (.field T x i) ty pos after g) fr (v):=by
 subst l m;unfold Xb at c;refine ⟨fun ds w=>?_⟩;simp [execOp,o ds,Instr.field,run_underlying j,k,asAgg,part,n.isAgg,c]
theorem EC {x:Operand}{i off:Nat}{cs:List Value}{v:Value}{a:Array Field}{f:Field}{b:TypeId}{c:List Value}{d e:Nat}(j:P.underlying T=some (.struct a)) (k:a[i]?=some f) (l:f.offset=off) (m:f.type=b) (n:ad P b false c d e)
  (o:qb fr x (.agg ⟨cs⟩)) (p:Xb cs off v) (q:Wc fr dst (v) Va) (h:K Va ds w):xc P (Oper.mk dst (.field T x i) ty pos after g) fr ds w K Q:=pf (DC j k l m n o p) q h
theorem XF {x y:Operand}{b o len cap:Nat}{k:IntKind}{i:Int}{e:TypeId}{a:Nat}(c:P.underlying T=some (.slice e)) (d:ad P e xe Sc n m) (f:qb fr x (.slice (some ⟨b,o,none⟩) len cap)) (h:qb fr y (.int k i)) (j:0≤i∧i<len) (l:o+i.toNat*n=a):we P (Oper.mk dst (.indexAddr T x y) ty pos after g) fr ((.pointer (some ⟨b,a,none⟩))):=by
 subst l;refine ⟨fun ds w=>?_⟩;simp [execOp,f ds,h ds,Instr.indexAt,asIntOf,run_underlying c,j,d.sizeOf,gi]
theorem jn {x:Operand}{a:Addr}(b:qb fr x (.pointer (some a))):we P (Oper.mk dst (.nilCheck x) ty pos after g) fr ((.pointer (some a))):=⟨fun ds w=>by simp [execOp,b ds]⟩
theorem Eb {x:Operand}{a:Addr}(b:qb fr x (.pointer (some a))) (c:Wc fr dst ((.pointer (some a))) Va) (h:K Va ds w):xc P (Oper.mk dst (.nilCheck x) ty pos after g) fr ds w K Q:=pf (jn b) c h
end
end Go.Sb
namespace Go.Sb
open Go.RowKit
section
variable {P:Program}{Q:Exit→Act→World→Prop}{K:List Value→List Deferred→World→Prop}{fr Va:List Value}{ds:List Deferred}{w:World}
variable {dst:Option Tmp}{ty:TypeId}{pos:String}{after:Array Edge}{g:Option (Nat×Bool)}
variable {S ld:Nat→Prop}{J:World}{rs mc:List wb}{A:World→Prop}
variable {T:TypeId}{d:TypeDesc}{xe:Bool}{Sc:List Value}{n m:Nat}
inductive cb:List wb→Nat→List wb→Prop where
 | z {r:wb} {rs:List wb}:cb (r::rs) 0 rs
 | s {r:wb} {rs mc:List wb} {k:Nat} (h:cb rs k mc):cb (r::rs) (k+1) (r::mc)
theorem cb.mem {k:Nat}(h:cb rs k mc):∀ r ∈ mc,r ∈ rs:=by
 induction h with
 | z=>intro r a; exact List.mem_cons_of_mem _ a
 | s _ b=>intro r a; rcases List.mem_cons.1 a with rfl | a; exact List.mem_cons_self; exact List.mem_cons_of_mem _ (b r a)
theorem cb.sub {k:Nat}(h:cb rs k mc):mc.Sublist rs:=by
 induction h with
 | z=>exact List.sublist_cons_self _ _
 | s _ a=>exact a.cons_cons _
theorem Sep.drop {k:Nat}(h:Sep S ld J w rs A) (a:cb rs k mc):Sep S ld J w mc A where
 keeps:=h.keeps
 all r d:=h.all r (a.mem r d)
 Yh:=(a.sub.filterMap _).nodup h.Yh
 new b e:=h.new b ((a.sub.filterMap _).subset e)
 Gi:=h.Gi.mono fun _ _ c=>⟨c.1,fun hm=>c.2 ((a.sub.filterMap _).subset hm)⟩
theorem Sep.freeze {k:Nat}{r:wb}{B:World→Prop}(h:Sep S ld J w rs A) (a:Xb rs k r) (d:cb rs k mc) (f:∀ b,r.block=some b→ld b∨J.heap.size≤b) (g:∀ w,r.holds w→B w) :
  Sep S ld J w mc fun w=>A w∧B w where
 keeps:=(h.drop d).keeps
 all:=(h.drop d).all
 Yh:=(h.drop d).Yh
 new:=(h.drop d).new
 Gi:=(h.drop d).Gi.and fun w' m i=>g w' (holds_of (h.get a) fun b e=>i b (h.lt (Kn (zt a) e)) ⟨f b e,by
  intro hm;have:blocks mc=(blocks rs).erase b∨True:=.inr trivial;clear this;have Ua:=h.Yh;clear g f m i h;unfold blocks at hm Ua;unfold Xb at a
  induction d with
  | z=>simp at a; subst a; simp only [List.filterMap_cons,e,List.nodup_cons] at Ua; exact Ua.1 hm
  | @s r' rs mc k d j =>
   simp at a;cases l:r'.block with
   | none=>simp only [List.filterMap_cons,l] at hm Ua; exact j a hm Ua
   | some c =>
    simp only [List.filterMap_cons,l,List.nodup_cons,List.mem_cons] at hm Ua;rcases hm with rfl | hm
    ·exact Ua.1 (List.mem_filterMap.2 ⟨r,List.mem_of_getElem? a,e⟩)
    ·exact j a hm Ua.2⟩)
inductive rb (fr:List Value):Nat→List (Nat×Operand)→List Value→Prop where
 | z {i:Nat}:rb fr i [] []
 | s {i:Nat} {x:Operand} {v:Value} {xs:List (Nat×Operand)} {vs:List Value} (h:qb fr x v) (a:Zf v=true) (t:rb fr (i+1) xs vs):rb fr i ((i,x)::xs) (v::vs)
theorem rb.eval {i:Nat}{xs:List (Nat×Operand)}{vs:List Value}(h:rb fr i xs vs):xs.map (fun p=>(p.1,(F fr ds).eval p.2))=(vs.zipIdx i).map fun p=>(p.2,p.1):=by
 induction h with
 | z=>rfl
 | s h _ _ a=>simp [h ds,a]
theorem rb.cell {i:Nat}{xs:List (Nat×Operand)}{vs:List Value}(h:rb fr i xs vs):∀ v ∈ vs,Zf v=true:=by
 induction h with
 | z=>simp
 | s _ b _ c=>intro v a; rcases List.mem_cons.1 a with rfl | a; exact b; exact c v a
theorem xu {v:Value}(h:Zf v=true):v.cells=#[v]:=by cases v<;>first | rfl | simp [Zf] at h
theorem Pw (pl:Nat→Option (Nat×Nat)) (a:∀ i,pl i=some (i,1)):∀ (vs:List Value) (i:Nat) (cs:List Value),(∀ v ∈ vs,Zf v=true)→i+vs.length≤cs.length →
  Instr.fill pl ⟨cs⟩ ((vs.zipIdx i).map fun p=>(p.2,p.1))=some ⟨cs.take i++vs++cs.drop (i+vs.length)⟩
 | [],i,cs,_,h=>by simp [Instr.fill]
 | v::vs,i,cs,b,h=>by
  have e:=xu (b v (by simp));have d:i<cs.length:=by simp at h;omega
  have f:=Pw pl a vs (i+1) (cs.set i v) (fun u hu=>b u (by simp [hu])) (by simp at h ⊢;omega);simp only [List.zipIdx_cons,List.map_cons,Instr.fill,a,e];have ta:¬ ((#[v].size≠1 || i+#[v].size > (⟨cs⟩:Array Value).size)=true):=by simp;omega
  rw [if_neg ta];have ea:(#[v].zipIdx.foldl (fun cs (c,j)=>cs.setIfInBounds (i+j) c) (⟨cs⟩:Array Value))=⟨cs.set i v⟩:=by
   simp [Array.zipIdx]
  rw [ea,f];have e2:(cs.set i v).take (i+1)=cs.take i++[v]:=by
   rw [List.take_set,List.take_add_one,List.getElem?_eq_getElem d];rw [List.set_append_right _ _ (by simp;omega)];simp [Nat.min_eq_left (Nat.le_of_lt d)]
  have g:(cs.set i v).drop (i+1+vs.length)=cs.drop (i+(v::vs).length):=by
   rw [List.drop_set_of_lt (by omega)];congr 1;simp;omega
  rw [e2,g];simp
theorem hd {e:TypeId}{len:Nat}{xs:List (Nat×Operand)}{vs:List Value}(l:P.underlying T=some (.slice e)) (a:ad P e xe Sc 1 m) (c:rb fr 0 xs vs) (d:vs.length=len) (n:(decide (len≤16777216))=true) (o:Sep S ld J w rs A)
  (h:∀ b w',w.heap.size≤b→Sep S ld J w' (.na b e vs::rs) A→Jg fr dst (.slice (some ⟨b,0,none⟩) len len) fun Va=>K Va ds w'):xc P (Oper.mk dst (.buildSlice T len ⟨xs⟩) ty pos after g) fr ds w K Q:=by
 obtain ⟨Va,Ua⟩:=Fg fr dst (.slice (some ⟨w.heap.size,0,none⟩) len len);refine Pe (v:=.slice (some ⟨w.heap.size,0,none⟩) len len) (w':=w.alloc (.cells ⟨vs⟩ e)) ?_ Ua (h _ _ (Nat.le_refl _) (o.alloc rfl (heap_alloc_new w _)) Va Ua);obtain ⟨z,q,y⟩:=a.zero (w:=w);have r:=a.sizeOf (w:=w);have s:¬ (len*1 > 2 ^ 24):=by have:=of_decide_eq_true n;omega
 have t:=c.eval (ds:=ds);have f:∀ cs:Array Value,cs.size=len→Instr.fill (fun i=>some (i*1,1)) cs ((vs.zipIdx 0).map fun p=>(p.2,p.1))=some ⟨vs⟩:=by
  intro cs j;have:=Pw (fun i=>some (i*1,1)) (fun i=>by rw [Nat.mul_one]) vs 0 cs.toList c.cell (by simp [d,j]);rw [this,List.drop_eq_nil_of_le (by simp [d,j])];simp
 have u:((⟨xs⟩:Array (Nat×Operand)).map fun (i,x)=>(i,(F fr ds).eval x)).toList=(vs.zipIdx 0).map fun p=>(p.2,p.1):=by
  simp only [Array.toList_map];exact t
 unfold execOp;simp only [Instr.buildSlice,Sem.run_bind,run_underlying l,Result.andThen_ok,r,if_neg s,u];by_cases k:len*1=0
 ·simp only [if_pos k,Sem.run_bind,Sem.run_pure,Result.andThen_ok];rw [f _ (by simp)];simp [newRow]
 ·simp only [if_neg k,Sem.run_bind,Sem.run_pure,Result.andThen_ok,q];rw [f _ (by simp)];simp [newRow]
theorem Sep.row {k:Nat}{v s:Value}{Jb y:Nat}{xs z:List Value}{w':World}(f:Sep S ld J w rs A) (g:Xb rs k (.row v T Jb n xs)) (E:hc rs k (.row s T Jb y z) mc) (H:Row w' s T Jb y z)
  (p:Qg (fun b=>some b≠v.ownBlock) w w') (q:s.ownBlock=v.ownBlock∨∃ b,s.ownBlock=some b∧w.heap.size≤b):Sep S ld J w' mc A:=by
 unfold hc at E;subst E;have B:∀ b,v.ownBlock=some b→b ∈ blocks rs:=fun b d=>Kn (zt g) d;have C:∀ b ∈ blocks (rs.set k (.row s T Jb y z)),(b ∈ blocks rs)∨(s.ownBlock=some b∧w.heap.size≤b):=by
  intro b d;obtain ⟨r,x,o⟩:=List.mem_filterMap.1 d;rcases List.mem_or_eq_of_mem_set x with hm | rfl
  ·exact .inl (Kn hm o)
  ·rcases q with q | ⟨c,t,hle⟩
   ·exact .inl (B b (q ▸ o))
   ·have:c=b:=by simpa [wb.block,t] using o
    subst this;exact .inr ⟨t,hle⟩
 have K:∀ b ∈ blocks rs,b ∈ blocks (rs.set k (.row s T Jb y z))∨v.ownBlock=some b:=by
  intro b d;obtain ⟨r,x,o⟩:=List.mem_filterMap.1 d;obtain ⟨j,D⟩:=List.mem_iff_getElem?.1 x;by_cases e:k=j
  ·subst e;unfold Xb at g;rw [g] at D;cases D;exact .inr o
  ·exact .inl (Kn (r:=r) (List.mem_of_getElem? (i:=j) (by rw [List.getElem?_set_ne e];exact D)) o)
 refine ⟨?_,?_,?_,?_,?_⟩
 ·refine ⟨p.os.trans f.keeps.os,p.tape.trans f.keeps.tape,p.output.trans f.keeps.output,Nat.le_trans f.keeps.size p.size,fun b d u=>?_⟩;rw [p.na b (Nat.lt_of_lt_of_le d f.keeps.size) (fun e=>by rcases f.new b (B b e.symm) with h | h;exact absurd d (by omega);exact h u)];exact f.keeps.na b d u
 ·intro L M;obtain ⟨j,hm⟩:=List.mem_iff_getElem?.1 M;by_cases e:k=j
  ·subst e;have m:k<rs.length:=(List.getElem?_eq_some_iff.1 g).1;rw [List.getElem?_set_self m] at hm;cases hm;exact H
  ·rw [List.getElem?_set_ne e] at hm;refine holds_of (f.all L (List.mem_of_getElem? hm)) fun c t=>p.na c (f.lt (Kn (List.mem_of_getElem? hm) t)) fun e2=>?_;exact ow f.Yh g hm e (b:=c) e2.symm t
 ·have Ua:=f.Yh;have m:=fun b (d:b ∈ blocks rs)=>f.lt d;clear C K B;unfold Xb at g
  revert g Ua m
  generalize rs=l;unfold blocks;intro g Ua m
  induction l generalizing k with
  | nil=>simp at g
  | cons a l F =>
   cases k with
   | zero =>
    simp at g;subst g;simp only [List.set_cons_zero,List.filterMap_cons,wb.block] at Ua m ⊢;rcases q with q | ⟨c,t,hle⟩
    ·rw [q];exact Ua
    ·rw [t];cases d:v.ownBlock with
     | none =>
      rw [d] at Ua m;exact List.nodup_cons.2 ⟨fun hm=>by have:=m c hm;omega,Ua⟩
     | some b =>
      rw [d] at Ua m;exact List.nodup_cons.2 ⟨fun hm=>by have:=m c (List.mem_cons_of_mem _ hm);omega,(List.nodup_cons.1 Ua).2⟩
   | succ k =>
    simp at g;simp only [List.set_cons_succ,List.filterMap_cons] at Ua m ⊢;cases G:a.block with
    | none=>rw [G] at Ua m; exact F g Ua m
    | some c =>
     rw [G] at Ua m;simp only [List.nodup_cons] at Ua ⊢;refine ⟨fun hm=>?_,F g Ua.2 fun b d=>m b (List.mem_cons_of_mem _ d)⟩;obtain ⟨r,x,o⟩:=List.mem_filterMap.1 hm;rcases List.mem_or_eq_of_mem_set x with hm | rfl
     ·exact Ua.1 (List.mem_filterMap.2 ⟨r,hm,o⟩)
     ·rcases q with q | ⟨N,P,hle⟩
      ·exact Ua.1 (List.mem_filterMap.2 ⟨_,List.mem_of_getElem? g,by rw [← o];exact q.symm⟩)
      ·have:N=c:=by simpa [wb.block,P] using o
       have:=m c (by simp);omega
 ·intro b d;rcases C b d with h | h
  ·exact f.new b h
  ·exact .inl (Nat.le_trans f.keeps.size h.2)
 ·intro Q R V;refine f.Gi Q (Nat.le_trans p.size R) fun b d u=>?_;rw [V b (Nat.lt_of_lt_of_le d p.size) ⟨u.1,fun hm=>by rcases C b hm with h | h;exact u.2 h;exact absurd d (by omega)⟩];exact p.na b d fun e=>u.2 (B b e.symm)
end
section
variable {P:Program}{Q:Exit→Act→World→Prop}{K:List Value→List Deferred→World→Prop}{fr Va:List Value}{ds:List Deferred}{w:World}
variable {dst:Option Tmp}{ty:TypeId}{pos:String}{after:Array Edge}{g:Option (Nat×Bool)}
variable {S ld:Nat→Prop}{J:World}{rs mc:List wb}{A:World→Prop}
variable {T:TypeId}{d:TypeDesc}{xe:Bool}{Sc:List Value}{n m:Nat}
theorem gw {t ty:TypeId}{Jb bytes:Nat}(q:P.underlying t=some (.slice T)) (L:ad P T xe Sc Jb bytes) (M:Sc.length=Jb) (rc:0<Jb)
  {v:Value}{xs:List Value}(l:Row w v T Jb n xs) {a:Addr}{m c:Nat}{news:List Value}(f:news.length=m*Jb) (x:∀ j u,news[j]?=some u→w.cell? (a.add j)=some u) (N:∀ u ∈ news,u.oneCell'=true)
  (D:n+m≤maxLen) (E:(n+m)*bytes≤140737488355328) :
  ∃ r w',(Builtin.append_ #[t,t] ty #[v,.slice (some a) m c]).run P w=.ok r w'∧Row w' r T Jb (n+m) (xs++news)∧Qg (fun b=>some b≠v.ownBlock) w w' ∧
   (r.ownBlock=v.ownBlock∨∃ b,r.ownBlock=some b∧w.heap.size≤b):=by
 obtain ⟨i,z,s,F,Q,G,R⟩:=L.inf;have S:z.cells.size=i.size:=by rw [Q,G];simpa using M
 subst G;subst R;have fd:n+m≤9223372036854775807:=by simp only [maxLen] at D;omega
 have hlen:(xs++news).length=(n+m)*i.size:=by rw [List.length_append,l.1,f,Nat.add_mul]
 have grown:∀ (d:Nat),d<n+m→∀ (row:Option Nat),
   Row (w.drew.alloc (.cells (xs.toArray++news.toArray++Builtin.zeroCells z.cells (grownCap w (n+m) d T - (n+m))) T)) (.slice (some ⟨w.heap.size,0,none⟩) (n+m) (grownCap w (n+m) d T)) T i.size (n+m) (xs++news) ∧
   Qg (fun b=>some b≠row) w (w.drew.alloc (.cells (xs.toArray++news.toArray++Builtin.zeroCells z.cells (grownCap w (n+m) d T - (n+m))) T)):=by
  intro d id row;have V:=grownCap_ge w (n+m) d T;have y:grownCap w (n+m) d T≤maxLen:=grownCap_le_maxLen w (n+m) d T D;refine ⟨⟨hlen,.inr ⟨w.heap.size,0,_,_,rfl,heap_alloc_new w.drew _,V,y,?_,?_⟩⟩,⟨rfl,rfl,rfl,by simp,fun k A _=>heap_alloc_old w.drew _ k A⟩⟩
  ·simp only [Array.size_append,List.size_toArray,size_zeroCells,S,l.1,f,← Nat.add_mul,Nat.zero_add];exact Nat.mul_le_mul_right _ (by omega)
  ·simp only [Array.toList_append,List.append_assoc,List.drop_zero];rw [← List.append_assoc,← hlen];exact List.take_left
 rcases l.2 with ⟨rfl,rfl⟩ | ⟨g,o,cap,cur,rfl,B,md,y,rd,H⟩
 ·have W:xs=[]:=List.eq_nil_of_length_eq_zero (by simpa using l.1);subst W;by_cases hm:m=0
  ·subst hm;have X:news=[]:=List.eq_nil_of_length_eq_zero (by simpa using f);subst X;refine ⟨.slice none 0 0,w,?_,⟨by simp,.inl ⟨rfl,rfl⟩⟩,.refl w,.inl rfl⟩;simp [Builtin.append_,run_underlying q,sizeOf,typeInfo,s,Builtin.lenOf,Builtin.firstCells,loadCells,loadCellsFrom]
  ·have p:=run_append_nil (P:=P) w t ty T i z q s F a m c news f x (by omega) (by omega) (by have Y:=E;simp only [Nat.zero_add] at Y;omega);have h:=grown 0 (by omega) (Value.ownBlock (.slice none 0 0));simp only [Nat.zero_add,List.nil_append,Array.empty_append] at h ⊢;exact ⟨_,_,p,h.1,h.2,.inr ⟨_,rfl,Nat.le_refl _⟩⟩
 ·by_cases C:n+m≤cap
  ·have hmul:n*i.size+news.length≤cap*i.size:=by rw [f,← Nat.add_mul];exact Nat.mul_le_mul_right _ C
   have Z:o+n*i.size+news.length≤cur.size:=by omega
   have p:(Builtin.append_ #[t,t] ty #[.slice (some ⟨g,o,none⟩) n cap,.slice (some a) m c]).run P w =
     .ok (.slice (some ⟨g,o,none⟩) (n+m) cap) (w.setRow g (cur.toList.take (o+n*i.size)++news++cur.toList.drop (o+n*i.size+news.length)).toArray):=by
    have gc:=run_firstCells_some (P:=P) w i.size m a m c news f x;have K:=run_storeCells_at P g (o+n*i.size) T news 0 cur w B (by simpa using Z) N;simp only [Nat.add_zero] at K;simp [Builtin.append_,run_underlying q,sizeOf,typeInfo,s,Builtin.lenOf,C,gc,gi,K]
   refine ⟨_,_,p,⟨hlen,.inr ⟨g,o,cap,_,rfl,setRow_heap w g cur _ T _ B,C,y,?_,?_⟩⟩,⟨rfl,rfl,rfl,by simp [World.setRow],fun k _ A=>setRow_other w g k _ (fun e=>A (by simp [Value.ownBlock,e]))⟩,.inl rfl⟩
   ·simp only [List.size_toArray,List.length_append,List.length_take,List.length_drop,Array.length_toList];omega
   ·rw [← hlen,← H];have ea:(cur.toList.take (o+n*i.size)).drop o=(cur.toList.drop o).take (n*i.size):=by
     rw [List.drop_take];congr 1;omega
    have lc:o≤(cur.toList.take (o+n*i.size)).length:=by simp;omega
    rw [List.append_assoc,List.drop_append_of_le_length lc,ea,← List.append_assoc];exact List.take_left
  ·have holds:∀ j u,xs[j]?=some u→w.cell? ((⟨g,o,none⟩:Addr).add j)=some u:=by
    intro j u hu;rw [gi,cell_of_row w g (o+j) cur T (0,0) B];rw [← H,List.getElem?_take] at hu;split at hu
    ·rw [List.getElem?_drop] at hu;simpa using hu
    ·cases hu
   have p:=run_append_grow (P:=P) w t ty T i z q s F ⟨g,o,none⟩ n cap xs l.1 holds a m c news f x (by omega) (by omega) (growslice_fits (by omega) E);have h:=grown cap (by omega) (Value.ownBlock (.slice (some ⟨g,o,none⟩) n cap));exact ⟨_,_,p,h.1,h.2,.inr ⟨_,rfl,Nat.le_refl _⟩⟩
theorem Sep.al (h:Sep S ld J w rs A) (T:TypeId) (Jb:Nat):Sep S ld J w (.row (.slice none 0 0) T Jb 0 []::rs) A where
 keeps:=h.keeps
 all r a:=by
  rcases List.mem_cons.1 a with rfl | a
  ·exact ⟨by simp,.inl ⟨rfl,rfl⟩⟩
  ·exact h.all r a
 Yh:=h.Yh
 new:=h.new
 Gi:=h.Gi
theorem EB {t:TypeId}{s x:Operand}{v:Value}{Jb bytes k b o e c:Nat}{xs news:List Value}(p:P.underlying t=some (.slice T)) (q:ad P T xe Sc Jb bytes) (f:(Sc.length == Jb && decide (0<Jb))=true)
  (r:qb fr s v) (y:qb fr x (.slice (some ⟨b,o,none⟩) e c)) (i:Sep S ld J w rs A) (l:Xb rs k (.row v T Jb n xs)) (z:uj w b o news) (hlen:news.length=e*Jb) (B:news.all Zf=true)
  (m:n+e≤4294967296∧bytes≤4096)
  (h:∀ d w' mc,hc rs k (.row d T Jb (n+e) (xs++news)) mc→Sep S ld J w' mc A→Jg fr dst d fun Va=>K Va ds w') :
  xc P (Oper.mk dst (.call { callee:=.builtin .append,args:=#[s,x],argTypes:=#[t,t] }) ty pos after g) fr ds w K Q:=by
 simp only [Bool.and_eq_true,beq_iff_eq,decide_eq_true_eq] at f;have C:(n+e)*bytes≤140737488355328:=Nat.le_trans (Nat.mul_le_mul m.1 m.2) (by decide);obtain ⟨d,w',D,E,F,G⟩:=gw (P:=P) (ty:=ty) p q f.1 f.2 (i.get l) (a:=⟨b,o,none⟩) (c:=c) hlen (fun j u hu=>by rw [gi];exact z j u hu) (fun u hu=>Eu (List.all_eq_true.1 B u hu)) (by unfold maxLen;omega) C;obtain ⟨Va,Ua⟩:=Fg fr dst d;refine Pe (v:=d) (w':=w') ?_ Ua (h d w' _ rfl (i.row l rfl E F G) Va Ua);have ea:=r ds;have e2:=y ds;simp [execOp,resolve,invoke,builtin,ea,e2,D]
inductive Jq (P:Program) (fr:List Value) (w:World):ResultVar→Value→Prop where
 | t {n:Nat} {v:Value} (h:Xb fr n v):Jq P fr w (.tmp n) v
 | c {n b o:Nat} {v:Value} {T:TypeId} {Sc:List Value} {k m:Nat} (h:Xb fr n (.pointer (some ⟨b,o,none⟩))) (d:ad P T false Sc k m) (e:w.cell? ⟨b,o,none⟩=some v):Jq P fr w (.cell n T) v
 | a {n b o:Nat} {cs:List Value} {T:TypeId} {Sc:List Value} {k m:Nat} (h:Xb fr n (.pointer (some ⟨b,o,none⟩))) (d:ad P T true Sc k m) (e:uj w b o cs) (f:cs.length=k):Jq P fr w (.cell n T) (.agg ⟨cs⟩)
inductive Ib (P:Program) (fr:List Value) (w:World):List ResultVar→List Value→Prop where
 | z:Ib P fr w [] []
 | s {r:ResultVar} {v:Value} {rs:List ResultVar} {vs:List Value} (h:Jq P fr w r v) (t:Ib P fr w rs vs):Ib P fr w (r::rs) (v::vs)
def bl (tmps:Array Value):ResultVar→Sem Value
 | .tmp t=>pure (tmps.getD t undef)
 | .cell a t=>do loadVar t (← asAddr (tmps.getD a undef))
theorem nu (fn:Func) (tmps:Array Value):results fn tmps=(do
  let vs ← fn.results.mapM (bl tmps)
  pure (if h:vs.size=1 then vs[0] else .tuple vs)):=by
 unfold results;congr 1
theorem Jq.run {r:ResultVar}{v:Value}(h:Jq P fr w r v):(bl (F fr ds).tmps r).run P w=.ok v w:=by
 cases h with
 | t h=>unfold Xb at h; simp [bl,F,h]
 | c h d e=>unfold Xb at h; simp [bl,F,h,asAddr,loadVar,d.isAgg,e]
 | a h d e g =>
  unfold Xb at h;rename_i n b o cs T Sc k m;have f:=run_loadCells_list (P:=P) w ⟨b,o,none⟩ cs (fun j v i=>by rw [gi];exact e j v i);rw [g] at f;simp [bl,F,h,asAddr,loadVar,d.isAgg,d.sizeOf,f]
theorem Ib.run {rs:List ResultVar}{vs:List Value}(h:Ib P fr w rs vs):(rs.mapM (bl (F fr ds).tmps)).run P w=.ok vs w:=by
 induction h with
 | z=>simp
 | @s r v rs vs h _ a =>
  have b:=h.run (ds:=ds);simp only [List.mapM_cons,Sem.run_bind];rw [b];simp only [Result.andThen_ok];rw [a];simp
def Bq:List Value→Value
 | [v]=>v
 | vs=>.tuple ⟨vs⟩
theorem pw {fn:Func}{a:List ResultVar}{vs:List Value}(b:fn.results=⟨a⟩) (h:Ib P fr w a vs):(results fn (F fr ds).tmps).run P w=.ok (Bq vs) w:=by
 have hm:=h.run (ds:=ds);rw [nu,b];rw [Array.mapM_eq_mapM_toList];simp only [Sem.run_bind,Sem.run_map,hm,Result.andThen_ok]
 match vs with
 | []=>simp [Bq]
 | [v]=>simp [Bq]
 | v::c::vs=>simp [Bq]
theorem Ve {fn:Func}{R:Value→World→Prop}{a:List ResultVar}{vs:List Value}(b:fn.results=⟨a⟩) (c:Ib P fr w a vs) (h:R (Bq vs) w):Jm P fn R .ret (F fr []) w :=
 bodyPost_ret (pw b c) rfl h
end
end Go.Sb
namespace Go.Sb
open Go.RowKit
section
variable {P:Program}{Q:Exit→Act→World→Prop}{K:List Value→List Deferred→World→Prop}{fr Va:List Value}{ds:List Deferred}{w:World}
variable {dst:Option Tmp}{ty:TypeId}{pos:String}{after:Array Edge}{g:Option (Nat×Bool)}
variable {S ld:Nat→Prop}{J:World}{rs mc:List wb}{A:World→Prop}
variable {T:TypeId}{d:TypeDesc}{xe:Bool}{Sc:List Value}{n m:Nat}
theorem Sep.na {k b:Nat}{cs:List Value}(h:Sep S ld J w rs A) (a:Xb rs k (.na b T cs)):Ck w b T cs:=h.get a
inductive Pd:List Value→Nat→List Value→Prop where
 | z {cs:List Value} {o:Nat}:Pd cs o []
 | s {cs:List Value} {o:Nat} {v:Value} {vs:List Value} (h:Xb cs o v) (t:Pd cs (o+1) vs):Pd cs o (v::vs)
theorem Pd.at {cs:List Value}{o:Nat}{vs:List Value}(h:Pd cs o vs):∀ j v,vs[j]?=some v→cs[o+j]?=some v:=by
 induction h with
 | z=>intro j v h; simp at h
 | @s o v vs h t b =>
  intro j u a;cases j with
  | zero=>simp at a; subst a; exact h
  | succ j=>have:=b j u (by simpa using a); rw [show o+(j+1)=o+1+j by omega]; exact this
theorem Ck.qm {b o:Nat}{cs vs:List Value}(h:Ck w b T cs) (a:Pd cs o vs):uj w b o vs:=fun j v c=>h.cell (a.at j v c)
theorem Ee {x y:Operand}{b o k:Nat}{v:Value}{cs a:List Value}(f:ad P T xe Sc 1 m) (i:qb fr x (.pointer (some ⟨b,o,none⟩))) (j:qb fr y v) (c:Zf v=true)
  (l:Sep S ld J w rs A) {d:TypeId}(n:Xb rs k (.na b d cs)) (p:hc cs o v a) (e:(decide (o<cs.length))=true) (q:hc rs k (.na b d a) mc)
  (Ua:Wc fr dst undef Va) (h:∀ w',Sep S ld J w' mc A→K Va ds w'):xc P (Oper.mk dst (.store T x y) ty pos after g) fr ds w K Q :=
 om (vs:=[v]) f i j (xu c) rfl (by simp [c]) l n (.s p (of_decide_eq_true e) .z) (decide_eq_true (Nat.le_of_lt (of_decide_eq_true e))) q Ua h
structure Ej (P:Program) (T:TypeId) (pl:Array (Nat×Nat)):Prop where
 out:∃ a,P.underlying T=some (.struct a)∧∀ w,((a.mapM fun f=>do pure (f.offset,← Go.sizeOf f.type):Sem (Array (Nat×Nat))).run P w)=.ok pl w
theorem hl {a:Array Field}{pl:Array (Nat×Nat)}(hu:P.underlying T=some (.struct a)) (h:∀ w,((a.mapM fun f=>do pure (f.offset,← Go.sizeOf f.type):Sem (Array (Nat×Nat))).run P w)=.ok pl w):Ej P T pl:=⟨a,hu,h⟩
inductive Ab (fr:List Value) (pl:Array (Nat×Nat)):List Value→List (Nat×Operand)→List Value→Prop where
 | z {cs:List Value}:Ab fr pl cs [] cs
 | o {cs cs1 out:List Value} {i off:Nat} {x:Operand} {v:Value} {xs:List (Nat×Operand)} (a:pl[i]?=some (off,1)) (b:qb fr x v) (e:Zf v=true) (c:decide (off<cs.length)=true) (d:hc cs off v cs1) (t:Ab fr pl cs1 xs out):Ab fr pl cs ((i,x)::xs) out
 | n {cs cs1 out vs:List Value} {i off n:Nat} {x:Operand} {xs:List (Nat×Operand)} (a:pl[i]?=some (off,n)) (b:qb fr x (.agg ⟨vs⟩)) (f:vs.length=n) (c:decide (off+n≤cs.length)=true) (d:Jc cs off vs cs1) (t:Ab fr pl cs1 xs out):Ab fr pl cs ((i,x)::xs) out
theorem fs:∀ (vs:List Value) (off j:Nat) (cs:List Value),off+j+vs.length≤cs.length →
  ((vs.zipIdx j).foldl (fun (cs:Array Value) (p:Value×Nat)=>cs.setIfInBounds (off+p.2) p.1) ⟨cs⟩)=⟨cs.take (off+j)++vs++cs.drop (off+j+vs.length)⟩
 | [],off,j,cs,_=>by simp
 | v::vs,off,j,cs,h=>by
  have a:off+j<cs.length:=by simp at h;omega
  rw [List.zipIdx_cons,List.foldl_cons];have ta:(⟨cs⟩:Array Value).setIfInBounds (off+j) v=⟨cs.set (off+j) v⟩:=by simp
  simp only [ta];rw [fs vs off (j+1) (cs.set (off+j) v) (by simp at h ⊢;omega)];have e2:(cs.set (off+j) v).take (off+(j+1))=cs.take (off+j)++[v]:=by
   rw [show off+(j+1)=off+j+1 by omega,List.take_set,List.take_add_one,List.getElem?_eq_getElem a];rw [List.set_append_right _ _ (by simp;omega)];simp [Nat.min_eq_left (Nat.le_of_lt a)]
  have b:(cs.set (off+j) v).drop (off+(j+1)+vs.length)=cs.drop (off+j+(v::vs).length):=by
   rw [List.drop_set_of_lt (by omega)];congr 1;simp;omega
  rw [e2,b];simp
theorem Ab.run {pl:Array (Nat×Nat)}{cs out:List Value}{xs:List (Nat×Operand)}(h:Ab fr pl cs xs out):Instr.fill (pl[·]?) ⟨cs⟩ (xs.map fun p=>(p.1,(F fr ds).eval p.2))=some ⟨out⟩:=by
 induction h with
 | z=>rfl
 | @o cs cs1 out i off x v xs b d g e a t f =>
  have k:=of_decide_eq_true e;simp only [List.map_cons,Instr.fill,b,d ds,xu g];have ta:¬ ((#[v].size≠1 || off+#[v].size > (⟨cs⟩:Array Value).size)=true):=by simp;omega
  rw [if_neg ta];have ea:(#[v].zipIdx.foldl (fun cs (c,j)=>cs.setIfInBounds (off+j) c) (⟨cs⟩:Array Value))=⟨cs1⟩:=by
   unfold hc at a;subst a;simp [Array.zipIdx]
  rw [ea];exact f
 | @n cs cs1 out vs i off n x xs b d l e a t f =>
  have k:=of_decide_eq_true e;simp only [List.map_cons,Instr.fill,b,d ds];have ta:¬ (((Value.agg ⟨vs⟩).cells.size≠n || off+(Value.agg ⟨vs⟩).cells.size > (⟨cs⟩:Array Value).size)=true):=by simp [Value.cells,l];omega
  rw [if_neg ta];have ea:((Value.agg ⟨vs⟩).cells.zipIdx.foldl (fun cs (c,j)=>cs.setIfInBounds (off+j) c) (⟨cs⟩:Array Value))=⟨cs1⟩:=by
   have:=fs vs off 0 cs (by omega);rw [a.res (by omega)];simp only [Nat.add_zero] at this;rw [← this];rw [← Array.foldl_toList];simp [Value.cells]
  rw [ea];exact f
theorem Jd {pl:Array (Nat×Nat)}{xs:List (Nat×Operand)}{out:List Value}(a:ad P T xe Sc n m) (b:Ej P T pl) (c:Ab fr pl Sc xs out) (d:Wc fr dst (.agg ⟨out⟩) Va) (h:K Va ds w) :
  xc P (Oper.mk dst (.build T ⟨xs⟩) ty pos after g) fr ds w K Q:=by
 refine Pe (v:=.agg ⟨out⟩) (w':=w) ?_ d h;obtain ⟨z,e,f⟩:=a.zero (w:=w);have j:=c.run (ds:=ds);obtain ⟨q,k,l⟩:=b.out;have hm:=l w;have o:((⟨xs⟩:Array (Nat×Operand)).map fun (i,x)=>(i,(F fr ds).eval x)).toList=xs.map fun p=>(p.1,(F fr ds).eval p.2):=by simp
 unfold execOp;simp only [Instr.build,Sem.run_bind,e,Result.andThen_ok,run_underlying k];rw [hm];simp only [Result.andThen_ok,f,o];rw [j];simp
theorem Vj {e:TypeId}{x:Operand}{cs:List Value}(k:P.underlying T=some (.slice e)) (j:ad P e xe Sc n m) (c:(Sc.length == n && decide (0<n) && decide (n≤1000))=true) (l:qb fr x (.agg ⟨cs⟩)) (d:cs.length=n) (o:Sep S ld J w rs A)
  (h:∀ b w',w.heap.size≤b→Sep S ld J w' (.na b e cs::rs) A→Jg fr dst (.slice (some ⟨b,0,none⟩) 1 1) fun Va=>K Va ds w'):xc P (Oper.mk dst (.buildSlice T 1 #[(0,x)]) ty pos after g) fr ds w K Q:=by
 obtain ⟨Va,Ua⟩:=Fg fr dst (.slice (some ⟨w.heap.size,0,none⟩) 1 1);refine Pe (v:=.slice (some ⟨w.heap.size,0,none⟩) 1 1) (w':=w.alloc (.cells ⟨cs⟩ e)) ?_ Ua (h _ _ (Nat.le_refl _) (o.alloc rfl (heap_alloc_new w _)) Va Ua);obtain ⟨z,p,B⟩:=j.zero (w:=w);have q:=j.sizeOf (w:=w);simp only [Bool.and_eq_true,beq_iff_eq,decide_eq_true_eq] at c;have r:¬ (1*n > 2 ^ 24):=by have:=c.2;omega
 have s:¬ (1*n=0):=by have:=c.1.2;omega
 have t:∀ a:Array Value,a.size=n→Instr.fill (fun i=>some (i*n,n)) a [(0,Value.agg ⟨cs⟩)]=some ⟨cs⟩:=by
  intro a f;simp only [Instr.fill];have ta:¬ (((Value.agg ⟨cs⟩).cells.size≠n || 0*n+(Value.agg ⟨cs⟩).cells.size > a.size)=true):=by simp [Value.cells,d,f]
  rw [if_neg ta];congr 1;have u:=fs cs (0*n) 0 a.toList (by simp [d,f]);rw [← Array.foldl_toList];have ea:(Value.agg ⟨cs⟩).cells.zipIdx.toList=cs.zipIdx 0:=by simp [Value.cells]
  rw [ea];refine u.trans ?_;rw [List.drop_eq_nil_of_le (by simp [d,f])];simp
 have y:(#[(0,x)].map fun (i,x)=>(i,(F fr ds).eval x)).toList=[(0,Value.agg ⟨cs⟩)]:=by simp [l ds]
 unfold execOp;simp only [Instr.buildSlice,Sem.run_bind,run_underlying k,Result.andThen_ok,q,if_neg r,y,if_neg s,Sem.run_pure,p];rw [t _ (by simp)];simp [newRow]
end
theorem Sep.ue {S ld:Nat→Prop}{J w:World}{rs mc:List wb}{A:World→Prop}{k:Nat}{r:wb}(h:Sep S ld J w (rs.set k r) A) (a:hc rs k r mc):Sep S ld J w mc A:=by
 unfold hc at a;rw [← a];exact h
theorem Sep.drew {S ld:Nat→Prop}{J w w':World}{rs:List wb}{A:World→Prop}(h:Sep S ld J w rs A) (a:w'.heap=w.heap) (b:w'.os=w.os) (c:w'.tape=w.tape) (hu:w'.output=w.output):Sep S ld J w' rs A :=
 h.grow ⟨b,c,hu,by rw [a];exact Nat.le_refl _,fun k _ _=>by rw [a]⟩
section
variable {P:Program}{Q:Exit→Act→World→Prop}{K:List Value→List Deferred→World→Prop}{fr Va:List Value}{ds:List Deferred}{w:World}
variable {dst:Option Tmp}{ty:TypeId}{pos:String}{after:Array Edge}{g:Option (Nat×Bool)}
variable {T:TypeId}
theorem Fu (a b:ByteArray):(a == b)=true ↔ a=b:=by
 obtain ⟨x⟩:=a;obtain ⟨y⟩:=b;constructor
 ·intro h;have e:x=y:=by simpa using (show (x == y)=true from h)
  rw [e]
 ·intro h;cases h;show (x == x)=true;simp
structure Pm (P:Program) (m:Nat) (T:TypeId) (v a:Value) (b:Bool):Prop where
 out:∀ d w,m≤d→(Op.equalIn d T v a).run P w=.ok b w
theorem eq_int {k c:IntKind}{a b:Int}(hu:P.underlying T=some (.int k)):Pm P 1 T (.int c a) (.int c b) (decide (a=b)):=⟨fun d w Ua=>by
 cases d with
 | zero=>omega
 | succ d=>simp [Op.equalIn,run_underlying hu]; by_cases h:a=b <;> simp [h]⟩
theorem At {a b:List UInt8}(hu:P.underlying T=some .string):Pm P 1 T (S a) (S b) (decide (a=b)):=⟨fun d w Ua=>by
 cases d with
 | zero=>omega
 | succ d =>
  simp only [Op.equalIn,run_underlying hu,S,Sem.run_bind,Result.andThen_ok,Sem.run_pure];congr 1;rw [Bool.eq_iff_iff,Fu];simp⟩
def bj:List Bool→Bool
 | []=>true
 | [b]=>b
 | b::a=>b && bj a
theorem Ms (b:Bool) (a:List Bool):bj (b::a)=(b && bj a):=by cases a<;>simp [bj]
inductive rh (P:Program) (m:Nat) (xs ys:List Value):List Field→List Bool→Prop where
 | z:rh P m xs ys [] []
 | o {f : Field} {a : List Field} {v e : Value} {b : Bool} {c : List Bool} {T : TypeId} {off : Nat} {Sc : List Value} {n k : Nat} (g : (f.name == "_") = false) (h : f.type = T) (i : f.offset = off) (j : ad P T false Sc n k) (l : Xb xs off v) (p : Xb ys off e) (he : Pm P m T v e b) (t : rh P m xs ys a c) : rh P m xs ys (f :: a) (b :: c)
 | n {f : Field} {a : List Field} {vs d : List Value} {b : Bool} {c : List Bool} {T : TypeId} {off : Nat} {Sc : List Value} {n k : Nat} (g : (f.name == "_") = false) (h : f.type = T) (i : f.offset = off) (j : ad P T true Sc n k) (l : Pd xs off vs) (p : Pd ys off d) (q : vs.length = n) (r : d.length = n) (he : Pm P m T (.agg ⟨vs⟩) (.agg ⟨d⟩) b) (t : rh P m xs ys a c) : rh P m xs ys (f :: a) (b :: c)
structure po (P:Program) (T:TypeId) (a:List Field):Prop where
 Wv:P.underlying T=some (.struct ⟨a⟩)
 held:P.stoodInHeld T=false
 guard:P.eqGuardType P.depth T=false
theorem Qw {Sc:List Value}{n k off:Nat}{xs:List Value}{v:Value}(b:ad P T false Sc n k) (a:Xb xs off v):(part T ⟨xs⟩ off).run P w=.ok v w:=by
 unfold Xb at a;simp [part,b.isAgg,a]
theorem Pd.extract {cs vs:List Value}{o:Nat}(h:Pd cs o vs):(cs.drop o).take vs.length=vs:=by
 induction h with
 | z=>simp
 | @s o v vs a t b =>
  unfold Xb at a;have c:o<cs.length:=(List.getElem?_eq_some_iff.1 a).1;rw [List.drop_eq_getElem_cons c,(List.getElem?_eq_some_iff.1 a).2];simp [b]
theorem Rw {Sc:List Value}{n k off:Nat}{xs vs:List Value}(a:ad P T true Sc n k) (b:Pd xs off vs) (c:vs.length=n):(part T ⟨xs⟩ off).run P w=.ok (.agg ⟨vs⟩) w:=by
 have:=b.extract;rw [c] at this;simp [part,a.isAgg,a.sizeOf,this]
theorem rh.run {m:Nat}{xs ys:List Value}{e:List Field}{g:List Bool}(h:rh P m xs ys e g) (d:Nat) (Ua:m≤d) :
  (forIn (⟨e⟩ : Array Field) ((none, ()) : Option Bool × Unit) (fun f _ => (if f.name ≠ "_" then do
     if !(← Op.equalIn d f.type (← part f.type ⟨xs⟩ f.offset) (← part f.type ⟨ys⟩ f.offset)) then pure (ForInStep.done (some false,())) else pure (ForInStep.yield (none,()))
    else pure (ForInStep.yield (none,())):Sem (ForInStep (Option Bool×Unit))))).run P w=.ok (if bj g then (none,()) else (some false,())) w:=by
 induction h with
 | z=>simp [bj]
 | @o f e v x b g T off Sc n k i j l a p q he t c =>
  subst j; subst l;have r : f.name ≠ "_" := by simpa using i
  simp only [List.forIn_toArray] at c ⊢;rw [List.forIn_cons];simp only [ne_eq,r,not_false_eq_true,if_true,Sem.run_bind,Qw a p,Qw a q,Result.andThen_ok,he.out d w Ua];cases b with
  | true=>simpa [Ms] using c
  | false=>simp [Ms]
 | @n f e vs y b g T off Sc n k i j l a p q s u he t c =>
  subst j; subst l;have r : f.name ≠ "_" := by simpa using i
  simp only [List.forIn_toArray] at c ⊢;rw [List.forIn_cons];simp only [ne_eq,r,not_false_eq_true,if_true,Sem.run_bind,Rw a p s,Rw a q u,Result.andThen_ok,he.out d w Ua];cases b with
  | true=>simpa [Ms] using c
  | false=>simp [Ms]
theorem ny {m:Nat}{xs ys:List Value}{b:List Field}{a:List Bool}(c:po P T b) (h:rh P m xs ys b a):Pm P (m+1) T (.agg ⟨xs⟩) (.agg ⟨ys⟩) (bj a):=⟨fun d w Ua=>by
 cases d with
 | zero=>omega
 | succ d =>
  have:=h.run (w:=w) d (by omega);simp only [Op.equalIn,Sem.run_bind,run_underlying c.Wv,Result.andThen_ok];rw [show (program).run P w=.ok P w from rfl];simp only [Result.andThen_ok,c.held,Bool.false_eq_true,if_false,Sem.run_bind];rw [this];cases bj a<;>rfl⟩
def Kv (v:Value) (n:Nat):Prop:=∃ a c,v=.slice a n c
theorem BD {x:Operand}{t e:TypeId}{v:Value}{n:Nat}(b:P.underlying t=some (.slice e)) (d:qb fr x v) (f:Kv v n):we P (Oper.mk dst (.call { callee:=.builtin .len,args:=#[x],argTypes:=#[t] }) ty pos after g) fr ((.int .i64 n)):=by
 obtain ⟨a,c,rfl⟩:=f;exact Ru b d
theorem Lo {x:Operand}{t e:TypeId}{v:Value}{n:Nat}(a:P.underlying t=some (.slice e)) (b:qb fr x v) (c:Kv v n) (d:Wc fr dst ((.int .i64 n)) Va) (h:K Va ds w):xc P (Oper.mk dst (.call { callee:=.builtin .len,args:=#[x],argTypes:=#[t] }) ty pos after g) fr ds w K Q:=pf (BD a b c) d h
theorem Row.bp {v:Value}{Jb n:Nat}{xs:List Value}(h:Row w v T Jb n xs):Kv v n:=by
 rcases h.2 with ⟨rfl,rfl⟩ | ⟨g,o,cap,cur,rfl,-⟩
 ·exact ⟨_,_,rfl⟩
 ·exact ⟨_,_,rfl⟩
theorem Row.pF {v:Value}{Jb n:Nat}{xs:List Value}(h:Row w v T Jb n xs) (f:0<n):∃ b o c,v=.slice (some ⟨b,o,none⟩) n c∧uj w b o xs:=by
 rcases h.2 with ⟨rfl,rfl⟩ | ⟨g,o,cap,cur,rfl,d,i,k,l,e⟩
 ·omega
 ·refine ⟨g,o,cap,rfl,fun j u a=>?_⟩;rw [cell_of_row w g (o+j) cur T (0,0) d];rw [← e,List.getElem?_take] at a;split at a
  ·rw [List.getElem?_drop] at a;simpa using a
  ·cases a
end
section
variable {P:Program}{Q:Exit→Act→World→Prop}{K:List Value→List Deferred→World→Prop}{fr Va:List Value}{ds:List Deferred}{w:World}
variable {dst:Option Tmp}{ty:TypeId}{pos:String}{after:Array Edge}{g:Option (Nat×Bool)}
variable {T:TypeId}
theorem RA {a:List Field}{op:BinOp}{x y:Operand}{xs ys:Array Value}(b:po P T a):(eqGuard op T x y (.agg xs) (.agg ys)).run P w=.ok () w:=by
 have c:(program).run P w=.ok P w:=rfl;cases op<;>simp [eqGuard,c,b.guard]
theorem Vy {x y:Operand}{d:TypeId}{m:Nat}{xs ys:List Value}{a:List Field}{b:List Bool}(c:po P T a) (e:qb fr x (.agg ⟨xs⟩)) (f:qb fr y (.agg ⟨ys⟩)) (h:rh P m xs ys a b) (hm:(decide (m<1000))=true) :
  we P (Oper.mk dst (.binOp .neq T x y d) ty pos after g) fr (.bool (!bj b)):=⟨fun ds w=>by
 have i:=e ds;have j:=f ds;have k:=(ny c h).out Op.maxDepth w (by have:=of_decide_eq_true hm;unfold Op.maxDepth;omega);have l:=RA (w:=w) (op:=.neq) (x:=x) (y:=y) (xs:=⟨xs⟩) (ys:=⟨ys⟩) c;simp [execOp,i,j,l,binOp,Op.equal,k]⟩
theorem Wy {x y:Operand}{c:TypeId}{m:Nat}{xs ys:List Value}{a:List Field}{b:List Bool}(d:po P T a) (e:qb fr x (.agg ⟨xs⟩)) (f:qb fr y (.agg ⟨ys⟩)) (he:rh P m xs ys a b) (hm:(decide (m<1000))=true)
  (i:Wc fr dst (.bool (!bj b)) Va) (h:K Va ds w):xc P (Oper.mk dst (.binOp .neq T x y c) ty pos after g) fr ds w K Q:=pf (Vy d e f he hm) i h
end
section
variable {P:Program}{Q:Exit→Act→World→Prop}{K:List Value→List Deferred→World→Prop}{fr Va:List Value}{ds:List Deferred}{w:World}
variable {dst:Option Tmp}{ty:TypeId}{pos:String}{after:Array Edge}{g:Option (Nat×Bool)}
variable {S ld:Nat→Prop}{J:World}{rs mc:List wb}{A:World→Prop}
variable {T:TypeId}
end
end Go.Sb
namespace Go.Sb
open Go.RowKit
theorem Rq {α β:Type}{f g:α→β}{xs:Array α}(h:∀ x ∈ xs,f x=g x):xs.map f=xs.map g:=Array.map_congr_left h
def Vo:Op→Bool
 | .select _ _=>false
 | _=>true
theorem execOp_congr {f g:Operand→Value}(o:Oper) (s:Vo o.op=true) (h:∀ x ∈ o.op.operands,f x=g x):execOp f o=execOp g o:=by
 obtain ⟨dst,op,ty,pos,after,A⟩:=o;have d:∀ c:Call,(∀ x ∈ c.operands,f x=g x)→resolve f c ty=resolve g c ty:=by
  intro c d;have u:c.args.map f=c.args.map g:=Rq fun x e=>d x (by simp [Call.operands,e]);unfold resolve;rw [u];obtain ⟨callee,args,tys⟩:=c;cases callee with
  | value x=>simp only; rw [d x (by simp [Call.operands])]
  | invoke x m=>simp only; rw [d x (by simp [Call.operands])]
  | builtin b=>rfl
 cases op<;>simp only [Op.operands,List.mem_toArray,List.mem_cons,List.not_mem_nil,or_false,forall_eq_or_imp,forall_eq,Array.mem_append,List.mem_map] at h<;>simp only [execOp]
 case build t Xd =>
  have:(Xd.map fun (i,x)=>(i,f x))=Xd.map fun (i,x)=>(i,g x):=Rq fun p j=>by simp only;rw [h p.2 ⟨p,by simpa using j,rfl⟩]
  rw [this]
 case buildSlice t n Xd =>
  have:(Xd.map fun (i,x)=>(i,f x))=Xd.map fun (i,x)=>(i,g x):=Rq fun p j=>by simp only;rw [h p.2 ⟨p,by simpa using j,rfl⟩]
  rw [this]
 case makeFunc fn a b =>
  rw [Rq (f:=f) (g:=g) (xs:=a) fun x e=>h x (.inl e),Rq (f:=f) (g:=g) (xs:=b) fun x e=>h x (.inr e)]
 case makeMap t r=>cases r with
  | none=>rfl
  | some x=>simp only [Option.map]; rw [h x (by simp)]
 case slice t x k l q =>
  have e:=h x (by simp);have v:k.map f=k.map g:=by cases k with
   | none=>rfl
   | some y=>simp only [Option.map]; rw [h y (by simp)]
  have w:l.map f=l.map g:=by cases l with
   | none=>rfl
   | some y=>simp only [Option.map]; rw [h y (by simp)]
  have z:q.map f=q.map g:=by cases q with
   | none=>rfl
   | some y=>simp only [Option.map]; rw [h y (by simp)]
  rw [e,v,w,z]
 case call c=>rw [d c h]
 case go c=>rw [d c h]
 case defer c=>rw [d c h]
 case select cs b=>exact absurd s (by simp [Vo])
 all_goals (try (simp only [h]))
def jl (ops:Array Oper) (i:Nat):List Nat:=match ops[i]? with
 | some o=>(o.after.toList.filter (Region.binds .any)).map (·.on)
 | none=>[]
def enabled (ops:Array Oper) (R:List Nat) (i:Nat):Bool:=R.contains i && (jl ops i).all fun j=>!R.contains j
inductive zk (ops:Array Oper):List Nat→List Nat→Prop where
 | z:zk ops [] []
 | s {R a:List Nat} {i:Nat} (h:enabled ops R i=true) (t:zk ops (R.erase i) a):zk ops R (i::a)
theorem xp {ops:Array Oper}{R:List Nat}{i:Nat}(h:enabled ops R i=true):i ∈ R:=by
 simp only [enabled,Bool.and_eq_true,List.contains_iff_mem] at h;exact h.1
theorem qw {ops:Array Oper}{R:List Nat}{i j:Nat}(h:enabled ops R i=true) (a:j ∈ jl ops i):j ∉ R:=by
 simp only [enabled,Bool.and_eq_true,List.all_eq_true] at h;have:=h.2 j a;simpa using this
def left (n:Nat) (listed:Array Bool):List Nat:=(List.range n).filter fun i=>!listed.getD i true
theorem iA (n:Nat) (listed:Array Bool):(left n listed).Nodup:=List.nodup_range.filter _
theorem kx {n:Nat}{listed:Array Bool}(c:listed.size=n){i:Nat}(d:i ∈ left n listed):left n (listed.setIfInBounds i true)=(left n listed).erase i:=by
 rw [(iA n listed).erase_eq_filter];unfold left;rw [List.filter_filter];apply List.filter_congr;intro j a;have f:j<n:=List.mem_range.1 a;have b:j<listed.size:=by omega
 simp only [Array.getD_eq_getD_getElem?,Array.getElem?_setIfInBounds];by_cases e:i=j
 ·subst e;simp [b]
 ·simp [e,Ne.symm e]
theorem oy {ops:Array Oper}{n:Nat}(a:(List.range n).all (fun i=>(jl ops i).all fun j=>decide (j<i))=true){i j:Nat}(b:i<n) (c:j ∈ jl ops i):j<i:=by
 simp only [List.all_eq_true,List.mem_range,decide_eq_true_eq] at a;exact a i b j c
theorem py {ops:Array Oper}(q:(List.range ops.size).all (fun i=>(jl ops i).all fun j=>decide (j<i))=true) :
  ∀ (fuel t:Nat) (listed:Array Bool) (acc:List Nat),listed.size=ops.size→(left ops.size listed).length≤fuel→∃ n,Region.linearise.go .any ops fuel t listed acc=acc.reverse++n∧zk ops (left ops.size listed) n
 | 0,t,listed,acc,o,w=>by
  have f:left ops.size listed=[]:=List.eq_nil_of_length_eq_zero (by omega);exact ⟨[],by simp [Region.linearise.go],by rw [f];exact .z⟩
 | fuel+1,t,listed,acc,o,w=>by
  rw [Region.linearise.go];generalize y:(List.filter (fun i=>!listed.getD i true && (Option.map (fun x=>x.after.all fun e=>!Region.binds .any e || listed.getD e.on false) ops[i]?).getD false) (List.range ops.size))=rs;have r:∀ i,i ∈ rs ↔ enabled ops (left ops.size listed) i=true:=by
   intro i;rw [← y];simp only [List.mem_filter,List.mem_range,Bool.and_eq_true,enabled,List.contains_iff_mem,left,jl];constructor
   ·rintro ⟨b,g,d⟩;refine ⟨⟨b,g⟩,?_⟩;rw [Array.getElem?_eq_getElem b] at d ⊢;simp only [Option.map_some,Option.getD_some,Array.all_eq_true',Bool.or_eq_true,Bool.not_eq_true'] at d;simp only [List.all_eq_true,List.mem_map,List.mem_filter,forall_exists_index,and_imp];rintro j e he k rfl;have:=d e (by simpa using he);rcases this with h | h
    ·rw [h] at k;cases k
    ·simp only [Bool.not_eq_true',List.contains_eq_mem,decide_eq_false_iff_not,List.mem_filter,List.mem_range,not_and,Bool.not_eq_true,Bool.not_eq_false];intro p;have u:e.on<listed.size:=by omega
     simp only [Array.getD,u,dif_pos] at h ⊢;exact h
   ·rintro ⟨⟨b,g⟩,d⟩;refine ⟨b,g,?_⟩;rw [Array.getElem?_eq_getElem b] at d ⊢;simp only [Option.map_some,Option.getD_some,Array.all_eq_true',Bool.or_eq_true,Bool.not_eq_true'];simp only [List.all_eq_true,List.mem_map,List.mem_filter,forall_exists_index,and_imp] at d;intro e he;cases k:Region.binds .any e with
    | false=>exact .inl rfl
    | true =>
     right;have:=d e.on e (by simpa using he) k rfl;simp only [Bool.not_eq_true',List.contains_eq_mem,decide_eq_false_iff_not,List.mem_filter,List.mem_range,not_and,Bool.not_eq_true,Bool.not_eq_false] at this;have p:e.on<i:=oy q b (by
      unfold jl;rw [Array.getElem?_eq_getElem b];simp only [List.mem_map,List.mem_filter];exact ⟨e,⟨by simpa using he,k⟩,rfl⟩)
     have v:=this (by omega);have u:e.on<listed.size:=by omega
     simp only [Array.getD,u,dif_pos] at v ⊢;exact v
  by_cases f:left ops.size listed=[]
  ·have A:rs=[]:=by
    rw [List.eq_nil_iff_forall_not_mem];intro i c;have:=xp ((r i).1 c);rw [f] at this;cases this
   rw [A];simp only [List.length_nil,Nat.mod_zero,List.getElem?_nil];exact ⟨[],by simp,by rw [f];exact .z⟩
  ·-- the least of what is left may be next
   have B:0<rs.length:=by
    obtain ⟨i,c,C⟩:∃ i,i ∈ left ops.size listed∧∀ j,j<i→j ∉ left ops.size listed:=by
     obtain ⟨a,D⟩:=List.exists_mem_of_ne_nil _ f
     induction a using Nat.strongRecOn with
     | _ a E =>
      by_cases hex:∃ j,j<a∧j ∈ left ops.size listed
      ·obtain ⟨j,l,F⟩:=hex;exact E j l F
      ·exact ⟨a,D,fun j l hm=>hex ⟨j,l,hm⟩⟩
    have m:enabled ops (left ops.size listed) i=true:=by
     simp only [enabled,Bool.and_eq_true,List.contains_iff_mem,List.all_eq_true];refine ⟨c,fun j l=>?_⟩;have:=C j (oy q (List.mem_range.1 (List.mem_filter.1 c).1) l);simpa using this
    exact List.length_pos_of_mem ((r i).2 m)
   have p:t % rs.length<rs.length:=Nat.mod_lt _ B;rw [List.getElem?_eq_getElem p];simp only;have m:=(r _).1 (List.getElem_mem p);generalize rs[t % rs.length]=i at m ⊢;have c:=xp m;obtain ⟨n,b,g⟩:=py q fuel (t / rs.length) (listed.setIfInBounds i true) (i::acc) (by simpa using o) (by
    rw [kx o c,List.length_erase_of_mem c];omega)
   refine ⟨i::n,?_,.s m ?_⟩
   ·rw [b];simp
   ·rw [← kx o c];exact g
theorem Jz {ops:Array Oper}(c:(List.range ops.size).all (fun i=>(jl ops i).all fun j=>decide (j<i))=true) (t:Nat):zk ops (List.range ops.size) (Region.linearise .any ops t):=by
 have a:left ops.size (Array.replicate ops.size false)=List.range ops.size:=by
  unfold left;rw [List.filter_eq_self];intro i d;have:=List.mem_range.1 d;simp [Array.getD,this]
 obtain ⟨f,e,b⟩:=py c ops.size t (Array.replicate ops.size false) [] (by simp) (by rw [a];simp);unfold Region.linearise;rw [e];rw [a] at b;simpa using b
def Mo:Operand→Option Nat
 | .tmp t=>some t
 | _=>none
def reads (ops:Array Oper) (o:Oper):List Nat :=
 o.op.operands.toList.filterMap Mo++(match o.guard with
  | some (j,_)=>((ops[j]?).bind (·.dst)).toList
  | none=>[])
section
variable {P:Program}{α β:Type}
end
section
variable {P:Program}{Q:Exit→Act→World→Prop}{ops:Array Oper}{fr Va:List Value}{ds:List Deferred}{w:World}
theorem lx {fr:List Value}{ds ds':List Deferred}{d:Nat}{v:Value}{x:Operand}(h:Mo x≠some d):(F (fr.set d v) ds).eval x=(F fr ds').eval x:=by
 cases x with
 | tmp t =>
  have:d≠t:=fun e=>h (by simp [Mo,e]);simp [F,Act.eval,List.getElem?_set_ne this]
 | const v=>rfl
 | global g=>rfl
 | func f=>rfl
theorem mx {o:Oper}{d:Nat}(h:(reads ops o).contains d=false):∀ x ∈ o.op.operands,Mo x≠some d:=by
 intro x a e;have:d ∈ reads ops o:=by
  unfold reads;exact List.mem_append.2 (.inl (List.mem_filterMap.2 ⟨x,by simpa using a,e⟩))
 rw [List.contains_iff_mem.2 this] at h;cases h
theorem nx {o:Oper}{d:Nat}{v:Value}{ds':List Deferred}(a:Vo o.op=true) (h:(reads ops o).contains d=false):execOp (F (fr.set d v) ds).eval o=execOp (F fr ds').eval o :=
 execOp_congr o a fun x b=>lx (mx h x b)
theorem jA {o:Oper}{d:Nat}{v:Value}{ds':List Deferred}(h:(reads ops o).contains d=false):Region.wanted o (yielded ops (F (fr.set d v) ds).tmps)=Region.wanted o (yielded ops (F fr ds').tmps):=by
 unfold Region.wanted;cases a:o.guard with
 | none=>rfl
 | some c =>
  obtain ⟨j,b⟩:=c;simp only;congr 1;unfold yielded;cases f:(ops[j]?).bind (·.dst) with
  | none=>rfl
  | some e =>
   have g:d≠e:=by
    intro he;have:d ∈ reads ops o:=by
     unfold reads;rw [a];exact List.mem_append.2 (.inr (by simp only;rw [f];simp [he]))
    rw [List.contains_iff_mem.2 this] at h;cases h
   simp [F,List.getElem?_set_ne g]
theorem put_eq (fr:List Value) (ds:List Deferred) (dst:Option Tmp) (x:Value):∃ g:List Value→List Value,(∀ fr ds,(F fr ds).put dst x=F (g fr) ds)∧(∀ (fr:List Value) (d:Nat) (v:Value),dst≠some d→g (fr.set d v)=(g fr).set d v)∧(∀ (fr:List Value) (y:Operand) (ds ds':List Deferred),(∀ e,dst=some e→Mo y≠some e)→(F (g fr) ds).eval y=(F fr ds').eval y):=by
 cases dst with
 | none=>exact ⟨id,fun _ _=>rfl,fun _ _ _ _=>rfl,fun fr y ds ds' _=>by cases y <;> rfl⟩
 | some n =>
  refine ⟨fun fr=>fr.set n x,fun fr ds=>ba rfl ds,fun fr d v h=>?_,fun fr y ds ds' h=>lx (h n rfl)⟩;have:d≠n:=fun e=>h (by rw [e]);exact List.set_comm _ _ this
def bo (Q:Exit→Act→World→Prop) (d:Nat):Prop:=∀ a (fr:List Value) (v:Value) (ds:List Deferred) w,Q (.panic a) (F (fr.set d v) ds) w→Q (.panic a) (F fr ds) w
structure Cz (P:Program) (ops:Array Oper) (Q:Exit→Act→World→Prop) (R:List Nat) (fr:List Value) (ds:List Deferred) (w:World):Prop where
 out:∀ a,zk ops R a→wpOps P ops Q a (F fr ds) w
theorem qh {id:Nat}{l:List Oper}(hm:P.follows .mixedOrders=true) (a:(List.range l.toArray.size).all (fun i=>(jl l.toArray i).all fun j=>decide (j<i))=true)
  (h:∀ w',w'.heap=w.heap→w'.os=w.os→w'.tape=w.tape→w'.output=w.output→Cz P l.toArray Q (List.range l.length) fr ds w'):Td P (.region id l.toArray true) Q fr ds w:=by
 constructor;refine wp_region_draw fun t=>?_;have b:Region.schedule (P.follows .mixedOrders) l.toArray t=Region.linearise .any l.toArray t:=by
  unfold Region.schedule;rw [hm];rfl
 rw [b];have c:=Jz a t;have:=(h { w with drawn:=w.drawn+1 } rfl rfl rfl rfl).out _ (by simpa using c);exact this
def Av (ops:Array Oper) (R:List Nat):List Nat:=R.filter (enabled ops R)
theorem zk.split {R g:List Nat}(h:zk ops R g) (m:R.Nodup){i:Nat}(n:i ∈ R) (o:enabled ops R i=true) :
  ∃ l1 l,g=l1++i::l∧zk ops (R.erase i) (l1++l)∧∀ j ∈ l1,j ∈ R∧j≠i∧i ∉ jl ops j:=by
 induction h with
 | z=>cases n
 | @s R g k f t q =>
  by_cases e:k=i
  ·subst e;exact ⟨[],g,rfl,t,by simp⟩
  ·have p:i ∈ R.erase k:=(m.mem_erase_iff).2 ⟨fun h=>e h.symm,n⟩;have r:enabled ops (R.erase k) i=true:=by
    simp only [enabled,Bool.and_eq_true,List.contains_iff_mem,List.all_eq_true] at o ⊢;refine ⟨p,fun j d=>?_⟩;have:=o.2 j d;simp only [Bool.not_eq_true',List.contains_eq_mem,decide_eq_false_iff_not] at this ⊢;exact fun hm=>this (List.mem_of_mem_erase hm)
   obtain ⟨l1,l,u,v,w⟩:=q (m.erase k) p r;refine ⟨k::l1,l,by rw [u];rfl,?_,?_⟩
   ·refine .s ?_ (by rw [List.erase_comm];exact v);simp only [enabled,Bool.and_eq_true,List.contains_iff_mem,List.all_eq_true] at f ⊢;refine ⟨(m.mem_erase_iff).2 ⟨e,f.1⟩,fun j d=>?_⟩;have:=f.2 j d;simp only [Bool.not_eq_true',List.contains_eq_mem,decide_eq_false_iff_not] at this ⊢;exact fun hm=>this (List.mem_of_mem_erase hm)
   ·intro j d;rcases List.mem_cons.1 d with rfl | d
    ·exact ⟨xp f,e,fun Ua=>qw f Ua n⟩
    ·obtain ⟨a,b,c⟩:=w j d;exact ⟨List.mem_of_mem_erase a,b,c⟩
theorem Wa {d:Nat}(h:∀ b a w,Q (.panic b) a w→False):bo Q d:=fun b fr v ds w c=>(h b _ w c).elim
end
end Go.Sb
