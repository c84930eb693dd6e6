/- Texts of Wk. -/
import Derived.Tactics
import Derived.Defers
import Derived.Recover
import Derived.Lib.Strings
import Derived.Laws.Append
import Derived.Below
import Derived.Laws.AppendOwn
set_option linter.unusedSimpArgs false
set_option linter.unusedVariables false
set_option linter.unusedSectionVars false
namespace Go.bc
open Go.RowKit
def oc {α:Type}(l:List α) (n:Nat) (v:α):Prop:=l[n]?=some v
def sc {α:Type}(l:List α) (n:Nat) (v:α) (a:List α):Prop:=l.set n v=a
theorem d0 {α:Type}{v:α}{l:List α}:oc (v::l) 0 v:=rfl
theorem ra {α:Type}{x v:α}{l:List α}:sc (x::l) 0 v (v::l):=rfl
theorem d1 {α:Type}{a0:α}{v:α}{l:List α}:oc (a0::v::l) 1 v:=rfl
theorem Na {α:Type}{a0:α}{x v:α}{l:List α}:sc (a0::x::l) 1 v (a0::v::l):=rfl
theorem d2 {α:Type}{a0 O:α}{v:α}{l:List α}:oc (a0::O::v::l) 2 v:=rfl
theorem fb {α:Type}{a0 O:α}{x v:α}{l:List α}:sc (a0::O::x::l) 2 v (a0::O::v::l):=rfl
theorem d3 {α:Type}{a0 O a2:α}{v:α}{l:List α}:oc (a0::O::a2::v::l) 3 v:=rfl
theorem tb {α:Type}{a0 O a2:α}{x v:α}{l:List α}:sc (a0::O::a2::x::l) 3 v (a0::O::a2::v::l):=rfl
theorem d4 {α:Type}{a0 O a2 a3:α}{v:α}{l:List α}:oc (a0::O::a2::a3::v::l) 4 v:=rfl
theorem Fb {α:Type}{a0 O a2 a3:α}{x v:α}{l:List α}:sc (a0::O::a2::a3::x::l) 4 v (a0::O::a2::a3::v::l):=rfl
theorem d5 {α:Type}{a0 O a2 a3 a4:α}{v:α}{l:List α}:oc (a0::O::a2::a3::a4::v::l) 5 v:=rfl
theorem Db {α:Type}{a0 O a2 a3 a4:α}{x v:α}{l:List α}:sc (a0::O::a2::a3::a4::x::l) 5 v (a0::O::a2::a3::a4::v::l):=rfl
theorem d6 {α:Type}{a0 O a2 a3 a4 a5:α}{v:α}{l:List α}:oc (a0::O::a2::a3::a4::a5::v::l) 6 v:=rfl
theorem Lb {α:Type}{a0 O a2 a3 a4 a5:α}{x v:α}{l:List α}:sc (a0::O::a2::a3::a4::a5::x::l) 6 v (a0::O::a2::a3::a4::a5::v::l):=rfl
theorem d7 {α:Type}{a0 O a2 a3 a4 a5 Hb:α}{v:α}{l:List α}:oc (a0::O::a2::a3::a4::a5::Hb::v::l) 7 v:=rfl
theorem xb {α:Type}{a0 O a2 a3 a4 a5 Hb:α}{x v:α}{l:List α}:sc (a0::O::a2::a3::a4::a5::Hb::x::l) 7 v (a0::O::a2::a3::a4::a5::Hb::v::l):=rfl
theorem d8 {α:Type}{a0 O a2 a3 a4 a5 Hb ic:α}{v:α}{l:List α}:oc (a0::O::a2::a3::a4::a5::Hb::ic::v::l) 8 v:=rfl
theorem jc {α:Type}{a0 O a2 a3 a4 a5 Hb ic:α}{x v:α}{l:List α}:sc (a0::O::a2::a3::a4::a5::Hb::ic::x::l) 8 v (a0::O::a2::a3::a4::a5::Hb::ic::v::l):=rfl
theorem d9 {α:Type}{a0 O a2 a3 a4 a5 Hb ic hb:α}{v:α}{l:List α}:oc (a0::O::a2::a3::a4::a5::Hb::ic::hb::v::l) 9 v:=rfl
theorem Vb {α:Type}{a0 O a2 a3 a4 a5 Hb ic hb:α}{x v:α}{l:List α}:sc (a0::O::a2::a3::a4::a5::Hb::ic::hb::x::l) 9 v (a0::O::a2::a3::a4::a5::Hb::ic::hb::v::l):=rfl
def F (fr:List Value) (ds:List Deferred):Act:=⟨⟨fr⟩,ds⟩
def db (fr:List Value) (x:Operand) (v:Value):Prop:=∀ ds,(F fr ds).eval x=v
theorem aa {fr:List Value}{n:Nat}{v:Value}(h:oc fr n v):db fr (.tmp n) v:=by
 intro ds;unfold oc at h;simp [F,Act.eval,h]
theorem ua {fr:List Value}{v:Value}:db fr (.const v) v:=fun _=>rfl
theorem jd {fr:List Value}{f:Nat}:db fr (.func f) (.func (.func f) #[] #[]):=fun _=>rfl
def Ze (fr:List Value) (dst:Option Tmp) (v:Value) (U:List Value):Prop:=∀ ds,(F fr ds).put dst v=F U ds
theorem Ua {fr:List Value}{v:Value}:Ze fr none v fr:=fun _=>rfl
theorem ia {fr U:List Value}{n:Nat}{v:Value}(h:sc fr n v U):Ze fr (some n) v U:=by
 intro ds;unfold sc at h;subst h;simp [F,Act.put]
theorem Ze.rw {fr U:List Value}{dst:Option Tmp}{v:Value}(h:Ze fr dst v U){K:Act→World→Prop}{ds:List Deferred}{w:World}(k:K (F U ds) w):K ((F fr ds).put dst v) w:=by
 rw [h ds];exact k
def uk (fr:List Value) (xs:List Operand) (vs:List Value):Prop:=∀ ds,xs.map (F fr ds).eval=vs
theorem nc {fr:List Value}:uk fr [] []:=fun _=>rfl
theorem Ya {fr:List Value}{x:Operand}{v:Value}{xs:List Operand}{vs:List Value}(h:db fr x v) (a:uk fr xs vs):uk fr (x::xs) (v::vs):=by
 intro ds;simp [h ds,a ds]
structure Ee (P:Program) (c:Code) (Q:Exit→Act→World→Prop) (fr:List Value) (ds:List Deferred) (w:World):Prop where
 out:c.wp P Q (F fr ds) w
structure Gf (P:Program) (ops:Array Oper) (Q:Exit→Act→World→Prop) (l:List Oper) (fr:List Value) (ds:List Deferred) (w:World):Prop where
 out:wpList P ops Q l (F fr ds) w
structure Ed (P:Program) (o:Oper) (fr:List Value) (ds:List Deferred) (w:World) (K:List Value→List Deferred→World→Prop) (Q:Exit→Act→World→Prop):Prop where
 out:∀ a:Act→World→Prop,(∀ fr ds w,K fr ds w→a (F fr ds) w)→o.wp P (F fr ds) w a Q
def rm (P:Program) (c:Code) (Q:Exit→Act→World→Prop):Act→World→Prop:=fun a w=>∃ fr ds,a=F fr ds∧Ee P c Q fr ds w
section code
variable {P:Program}{Q:Exit→Act→World→Prop}{fr:List Value}{ds:List Deferred}{w:World}
theorem ya {x y:Code}(h:Ee P x (Exit.then (rm P y Q) Q) fr ds w):Ee P (.seq x y) Q fr ds w :=
 ⟨wp_seq (wp_mono h.out fun e a w b=>by
  cases e with
  | normal=>obtain ⟨fr,ds,rfl,h⟩:=b; exact h.out
  | exit id=>exact b
  | goto l=>exact b
  | ret=>exact b
  | panic c=>exact b
  | outgrown=>exact b)⟩
theorem Ba {id:Nat}{l:List Oper}(h:Gf P l.toArray Q l fr ds w):Ee P (.region id l.toArray false) Q fr ds w:=⟨wp_region_lit h.out⟩
theorem Oa (h:Q .normal (F fr ds) w):Ee P .skip Q fr ds w:=⟨wp_skip h⟩
theorem Sa (h:Q .ret (F fr ds) w):Ee P .ret Q fr ds w:=⟨wp_ret h⟩
theorem me {id:Nat}(h:Q (.exit id) (F fr ds) w):Ee P (.exit id) Q fr ds w:=⟨wp_exit h⟩
theorem vb {id:Nat}{c:Code}(h:Ee P c (Exit.inBlock id Q) fr ds w):Ee P (.block id c) Q fr ds w:=⟨wp_block h.out⟩
theorem kz {c:Operand}{x y:Code}{b:Bool}(hc:db fr c (.bool b)) (a:b=true→Ee P x Q fr ds w) (d:b=false→Ee P y Q fr ds w) :
  Ee P (.cond c x y) Q fr ds w:=⟨wp_cond_split (hc ds) (fun h=>(a h).out) fun h=>(d h).out⟩
theorem Jc {c:Operand}{x y:Code}{p:Prop}[Decidable p] (hc:db fr c (.bool (decide p))) (a:p→Ee P x Q fr ds w) (b:¬ p→Ee P y Q fr ds w) :
  Ee P (.cond c x y) Q fr ds w:=kz hc (fun h=>a (of_decide_eq_true h)) (fun h=>b (of_decide_eq_false h))
theorem yH {c:Operand}{x y:Code}{p:Prop}[Decidable p] (hc:db fr c (.bool (decide p))) (a:p) (b:Ee P x Q fr ds w):Ee P (.cond c x y) Q fr ds w:=Jc hc (fun _=>b) fun h=>absurd a h
theorem zH {c:Operand}{x y:Code}{p:Prop}[Decidable p] (hc:db fr c (.bool (decide p))) (a:¬ p) (b:Ee P y Q fr ds w):Ee P (.cond c x y) Q fr ds w:=Jc hc (fun h=>absurd h a) fun _=>b
theorem rk {c:Operand}{x y:Code}(hc:db fr c (.bool true)) (a:Ee P x Q fr ds w):Ee P (.cond c x y) Q fr ds w:=⟨wp_cond_true (hc ds) a.out⟩
theorem cl {c:Operand}{x y:Code}(hc:db fr c (.bool false)) (a:Ee P y Q fr ds w):Ee P (.cond c x y) Q fr ds w:=⟨wp_cond_false (hc ds) a.out⟩
theorem ma {c:Code}{Q':Exit→Act→World→Prop}(h:Ee P c Q' fr ds w):Exit.then (rm P c Q') Q .normal (F fr ds) w:=⟨fr,ds,rfl,h⟩
theorem za {n:Act→World→Prop}{a:Act}(h:n a w):Exit.then n Q .normal a w:=h
theorem Xb {n:Act→World→Prop}{a:Act}{id:Nat}(h:Q (.exit id) a w):Exit.then n Q (.exit id) a w:=h
theorem Ib {n:Act→World→Prop}{a:Act}(h:Q .ret a w):Exit.then n Q .ret a w:=h
theorem ub {a:Act}{id:Nat}(h:Q .normal a w):Exit.inBlock id Q .normal a w:=h
theorem dd {a:Act}{id:Nat}(h:Q .ret a w):Exit.inBlock id Q .ret a w:=h
theorem oe {a:Act}{id:Nat}(h:Q .normal a w):Exit.inBlock id Q (.exit id) a w:=by simpa [Exit.inBlock] using h
theorem hn {a:Act}{id j:Nat}(b:(j == id)=false) (h:Q (.exit j) a w):Exit.inBlock id Q (.exit j) a w:=by
 have:¬ j=id:=by simpa using b
 simpa [Exit.inBlock,this] using h
inductive lb where
 | k
 | o (n:Nat)
 | i (v:Value)
def Wh (t:Nat→Value):List lb→List Value→List Value
 | [],fr=>fr
 | _::_,[]=>[]
 | .k::ms,a::fr=>a::Wh t ms fr
 | .o n::ms,_::fr=>t n::Wh t ms fr
 | .i v::ms,_::fr=>v::Wh t ms fr
def Se (t:Nat→Value) (ms:List lb) (fr U:List Value):Prop:=Wh t ms fr=U
theorem rb {t:Nat→Value}{l:List Value}:Se t [] l l:=rfl
theorem mk {t:Nat→Value}{ms:List lb}{a:Value}{l b:List Value}(h:Se t ms l b):Se t (.k::ms) (a::l) (a::b):=by unfold Se at *;rw [Wh,h]
theorem dc {t:Nat→Value}{ms:List lb}{n:Nat}{a:Value}{l b:List Value}(h:Se t ms l b):Se t (.o n::ms) (a::l) (t n::b):=by unfold Se at *;rw [Wh,h]
theorem Wb {t:Nat→Value}{ms:List lb}{v a:Value}{l b:List Value}(h:Se t ms l b):Se t (.i v::ms) (a::l) (v::b):=by unfold Se at *;rw [Wh,h]
theorem Hc {t:Nat→Value}{ms:List lb}{a b:List Value}(e:Se t ms a b) (h:Q .normal (F b ds) w):Q .normal (F (Wh t ms a) ds) w:=by rw [show Wh t ms a=b from e];exact h
theorem Ke {c:Code}{t:Nat→Value}{ms:List lb}{a b:List Value}(e:Se t ms a b) (h:Ee P c Q b ds w):Ee P c Q (Wh t ms a) ds w:=by rw [show Wh t ms a=b from e];exact h
inductive Fe:List lb→List Value→List Value→Prop where
 | z {l:List Value}:Fe [] l l
 | k {ms:List lb} {a:Value} {l c:List Value} (h:Fe ms l c):Fe (.k::ms) (a::l) (a::c)
 | o {ms:List lb} {n:Nat} {a b:Value} {l c:List Value} (h:Fe ms l c):Fe (.o n::ms) (a::l) (b::c)
 | i {ms:List lb} {v a:Value} {l c:List Value} (h:Fe ms l c):Fe (.i v::ms) (a::l) (v::c)
def opens:List lb→List Nat
 | []=>[]
 | .o n::ms=>n::opens ms
 | .k::ms=>opens ms
 | .i _::ms=>opens ms
theorem Ks {t Wc:Nat→Value}:∀ (ms:List lb) (fr:List Value),(∀ n ∈ opens ms,t n=Wc n)→Wh t ms fr=Wh Wc ms fr
 | [],_,_=>rfl
 | _::_,[],_=>rfl
 | .k::ms,a::fr,h=>by rw [Wh,Wh,Ks ms fr h]
 | .o n::ms,a::fr,h=>by rw [Wh,Wh,Ks ms fr fun m hm=>h m (by simp [opens,hm]),h n (by simp [opens])]
 | .i v::ms,a::fr,h=>by rw [Wh,Wh,Ks ms fr h]
theorem Fe.ex {ms:List lb}{fr U:List Value}(h:Fe ms fr U) (c:(opens ms).Nodup):∃ t,U=Wh t ms fr:=by
 induction h with
 | z=>exact ⟨fun _=>undef,rfl⟩
 | k _ d=>obtain ⟨t,rfl⟩:=d c; exact ⟨t,rfl⟩
 | @o ms n a b l f _ d =>
  simp only [opens,List.nodup_cons] at c;obtain ⟨t,rfl⟩:=d c.2;refine ⟨fun m=>if m=n then b else t m,?_⟩;rw [Wh,if_pos rfl];congr 1;refine Ks _ _ fun m hm=>?_;exact (if_neg (fun e:m=n=>c.1 (by rw [← e];exact hm))).symm
 | i _ d=>obtain ⟨t,rfl⟩:=d c; exact ⟨t,rfl⟩
theorem AH {c:Code}{α:Type}(T:List Nat) (o:T.Nodup) (u:α→List lb) (hu:∀ x,opens (u x)=T) (j:α→World→Prop) (m:α→World→Nat) (x0:α) (p:Fe (u x0) fr fr) (q:j x0 w)
  (round:∀ x t w,j x w→Ee P c (Exit.then (fun g w'=>∃ h U,g=F U ds∧Fe (u h) fr U∧j h w'∧m h w'<m x w) Q) (Wh t (u x) fr) ds w) :
  Ee P (.loop c) Q fr ds w:=by
 constructor;intro b k cs;have key:∀ n x t w,m x w=n→j x w →
   ∃ e g w',Q e g w'∧Arrives P (lone (b.at (F (Wh t (u x) fr) ds) (.code c::.inLoop c::k)) cs w) b k cs e g w':=by
  intro n
  induction n using Nat.strongRecOn with
  | _ n r =>
   intro x t w s v;obtain ⟨e,i,f,d,a⟩:=(round x t w v).out b (.inLoop c::k) cs;cases e with
   | normal =>
    obtain ⟨h,U,rfl,y,z,A⟩:=d;obtain ⟨Wc,B⟩:=y.ex (by rw [hu];exact o);obtain ⟨C,D,G,H,K⟩:=r (m h f) (s ▸ A) h Wc f rfl z;rw [B] at a;exact ⟨C,D,G,H,.of_steps (Steps.trans a (.one step_inLoop)) K⟩
   | exit id=>exact ⟨_,i,f,d,.pass (x:=.inLoop c) rfl (fun _ _=>.inl (by simp)) a⟩
   | goto l=>exact ⟨_,i,f,d,.pass (x:=.inLoop c) rfl (fun _ _=>.inl (by simp)) a⟩
   | ret=>exact ⟨_,i,f,d,.pass (x:=.inLoop c) rfl (fun _ _=>.inl (by simp)) a⟩
   | panic N=>exact ⟨_,i,f,d,.pass (x:=.inLoop c) rfl (fun _ _=>.inl (by simp)) a⟩
   | outgrown=>exact ⟨_,i,f,d,.pass (x:=.inLoop c) rfl (fun _ _=>.inl (by simp)) a⟩
 obtain ⟨t0,M⟩:=p.ex (by rw [hu];exact o);obtain ⟨e,g,w',d,a⟩:=key _ x0 t0 w rfl q;rw [← M] at a;exact ⟨e,g,w',d,.of_steps (.one step_loop) a⟩
theorem Ee.mono {c:Code}{Q':Exit→Act→World→Prop}(h:Ee P c Q fr ds w) (b:∀ e a w,Q e a w→Q' e a w):Ee P c Q' fr ds w:=⟨wp_mono h.out b⟩
theorem bE {R R':Act→World→Prop}(h:∀ a w,R a w→R' a w):∀ e a w,Exit.then R Q e a w→Exit.then R' Q e a w:=fun e a w b=>by
 cases e with
 | normal=>exact h a w b
 | exit id=>exact b
 | goto l=>exact b
 | ret=>exact b
 | panic c=>exact b
 | outgrown=>exact b
theorem sc.same {α:Type}{l:List α}{n:Nat}{v:α}{a:List α}(h:oc l n v) (b:sc l n v a):a=l:=by
 unfold oc at h;unfold sc at b;subst b;obtain ⟨c,rfl⟩:=List.getElem?_eq_some_iff.1 h;exact List.set_getElem_self c
theorem lz {ops:Array Oper}{l:List Oper}{Oh Ph:List Value}{d:Nat}{b:Bool}(a:oc fr d (.bool b)) (c:sc fr d (.bool true) Oh) (e:sc fr d (.bool false) Ph)
  (f:b=true→Gf P ops Q l Oh ds w) (g:b=false→Gf P ops Q l Ph ds w):Gf P ops Q l fr ds w:=by
 cases b with
 | true=>have:=f rfl; rw [sc.same a c] at this; exact this
 | false=>have:=g rfl; rw [sc.same a e] at this; exact this
theorem oh {ops:Array Oper}{l:List Oper}{Oh Ph:List Value}{d:Nat}{p:Prop}[Decidable p] (a:oc fr d (.bool (decide p))) (b:sc fr d (.bool true) Oh) (c:sc fr d (.bool false) Ph)
  (e:p→Gf P ops Q l Oh ds w) (f:¬ p→Gf P ops Q l Ph ds w):Gf P ops Q l fr ds w :=
 lz a b c (fun h=>e (of_decide_eq_true h)) (fun h=>f (of_decide_eq_false h))
end code
end Go.bc
namespace Go.bc
open Go.RowKit
def S (l:List UInt8):Value:=.string ⟨⟨l⟩⟩
section
variable {P:Program}{Q:Exit→Act→World→Prop}{K:List Value→List Deferred→World→Prop}{fr U:List Value}{ds:List Deferred}{w:World}{ops:Array Oper}{rest:List Oper}
variable {dst:Option Tmp}{op:Op}{ty:TypeId}{pos:String}{after:Array Edge}{g:Option (Nat×Bool)}
theorem va (h:Q .normal (F fr ds) w):Gf P ops Q [] fr ds w:=⟨h⟩
theorem wl (h:Ed P ⟨dst,op,ty,pos,after,none⟩ fr ds w (Gf P ops Q rest) Q):Gf P ops Q (⟨dst,op,ty,pos,after,none⟩::rest) fr ds w:=by
 constructor;unfold wpList;rw [if_pos (by simp [Region.wanted])];exact .inl (h.out _ fun _ _ _ k=>k.out)
theorem Ob {j d:Nat}{b:Bool}(c:(ops[j]?).bind (·.dst)=some d) (a:oc fr d (.bool b)) (h:Ed P ⟨dst,op,ty,pos,after,some (j,b)⟩ fr ds w (Gf P ops Q rest) Q) :
  Gf P ops Q (⟨dst,op,ty,pos,after,some (j,b)⟩::rest) fr ds w:=by
 constructor;unfold wpList;rw [if_pos (by
  unfold oc at a;simp only [Region.wanted,yielded,c,F];simp [a])]
 exact .inl (h.out _ fun _ _ _ k=>k.out)
theorem wn {j d:Nat}{b kg:Bool}(c:(ops[j]?).bind (·.dst)=some d) (a:oc fr d (.bool kg)) (e:(kg == b)=false) (f:Ze fr dst undef U) (h:Gf P ops Q rest U ds w) :
  Gf P ops Q (⟨dst,op,ty,pos,after,some (j,b)⟩::rest) fr ds w:=by
 constructor;unfold wpList;rw [if_neg (by
  unfold oc at a;simp only [Region.wanted,yielded,c,F];simp [a];simpa using e)]
 exact f.rw h.out
theorem jl {j d:Nat}{b:Bool}(c:(ops[j]?).bind (·.dst)=some d) (a:oc fr d undef) (e:Ze fr dst undef U) (h:Gf P ops Q rest U ds w) :
  Gf P ops Q (⟨dst,op,ty,pos,after,some (j,b)⟩::rest) fr ds w:=by
 constructor;unfold wpList;rw [if_neg (by
  unfold oc at a;simp only [Region.wanted,yielded,c,F];simp [a,undef])]
 exact e.rw h.out
theorem Bh {o:Oper}{v:Value}{w':World}(a:(execOp (F fr ds).eval o).run P w=.ok (.value v) w') (b:Ze fr o.dst v U) (h:K U ds w'):Ed P o fr ds w K Q:=by
 constructor;intro d c;unfold Oper.wp;rw [a,Oper.upon_value];exact b.rw (c _ _ _ h)
theorem Sy {o:Oper}{w':World}(a:(execOp (F fr ds).eval o).run P w=.ok .skip w') (b:Ze fr o.dst undef U) (h:K U ds w'):Ed P o fr ds w K Q:=by
 constructor;intro d c;unfold Oper.wp;rw [a,Oper.upon_skip];exact b.rw (c _ _ _ h)
structure Xe (P:Program) (o:Oper) (fr:List Value) (v:Value):Prop where
 out:∀ ds w,(execOp (F fr ds).eval o).run P w=.ok (.value v) w
theorem sa {o:Oper}{v:Value}(hu:Xe P o fr v) (a:Ze fr o.dst v U) (h:K U ds w):Ed P o fr ds w K Q:=Bh (hu.out ds w) a h
theorem Kg {x:Operand}{v:Value}(a:db fr x v):Xe P (Oper.mk dst (.move x) ty pos after g) fr (v):=⟨fun ds w=>by simp [execOp,a ds]⟩
theorem kh {x:Operand}{v:Value}(a:db fr x v) (b:Ze fr dst (v) U) (h:K U ds w):Ed P (Oper.mk dst (.move x) ty pos after g) fr ds w K Q:=sa (Kg a) b h
theorem vw {x:Operand}{v:Value}(a:db fr x v):Xe P (Oper.mk dst (.assign x) ty pos after g) fr (v):=⟨fun ds w=>by simp [execOp,a ds]⟩
theorem Ci {x:Operand}{v:Value}(a:db fr x v) (b:Ze fr dst (v) U) (h:K U ds w):Ed P (Oper.mk dst (.assign x) ty pos after g) fr ds w K Q:=sa (vw a) b h
theorem Vl {c x y:Operand}{v:Value}(hc:db fr c (.bool true)) (a:db fr x v):Xe P (Oper.mk dst (.pick c x y) ty pos after g) fr (v):=⟨fun ds w=>by simp [execOp,a ds,hc ds,asBool]⟩
theorem rF {c x y:Operand}{v:Value}(hc:db fr c (.bool true)) (a:db fr x v) (b:Ze fr dst (v) U) (h:K U ds w):Ed P (Oper.mk dst (.pick c x y) ty pos after g) fr ds w K Q:=sa (Vl hc a) b h
theorem Xp {c x y:Operand}{v:Value}(hc:db fr c (.bool false)) (a:db fr y v):Xe P (Oper.mk dst (.pick c x y) ty pos after g) fr (v):=⟨fun ds w=>by simp [execOp,a ds,hc ds,asBool]⟩
theorem wr {n:Int}(h:-9223372036854775808≤n∧n≤9223372036854775807):IntKind.i64.wrap n=n:=by
 unfold IntKind.wrap;simp [IntKind.bits,IntKind.signed];omega
theorem OB {x y:Operand}{t Wc:TypeId}{k:IntKind}{a b c:Int}(d:db fr x (.int k a)) (e:db fr y (.int k b)) (hw:k.wrap (a+b)=c):Xe P (Oper.mk dst (.binOp .add t x y Wc) ty pos after g) fr ((.int k c)):=by
 subst hw;exact ⟨fun ds w=>by simp [execOp,d ds,e ds,eqGuard,binOp,Op.intArith]⟩
theorem ey {x y:Operand}{t Wc:TypeId}{k:IntKind}{a b c:Int}(d:db fr x (.int k a)) (e:db fr y (.int k b)) (hw:k.wrap (a - b)=c):Xe P (Oper.mk dst (.binOp .sub t x y Wc) ty pos after g) fr ((.int k c)):=by
 subst hw;exact ⟨fun ds w=>by simp [execOp,d ds,e ds,eqGuard,binOp,Op.intArith]⟩
theorem fy {x y:Operand}{t Wc:TypeId}{k:IntKind}{a b c:Int}(d:db fr x (.int k a)) (e:db fr y (.int k b)) (hw:k.wrap (a*b)=c):Xe P (Oper.mk dst (.binOp .mul t x y Wc) ty pos after g) fr ((.int k c)):=by
 subst hw;exact ⟨fun ds w=>by simp [execOp,d ds,e ds,eqGuard,binOp,Op.intArith]⟩
theorem gy {x y:Operand}{t Wc:TypeId}{k:IntKind}{a b c:Int}(d:db fr x (.int k a)) (e:db fr y (.int k b)) (f:b≠0) (hw:k.wrap (a.tdiv b)=c):Xe P (Oper.mk dst (.binOp .quo t x y Wc) ty pos after g) fr ((.int k c)):=by
 subst hw;exact ⟨fun ds w=>by simp [execOp,d ds,e ds,eqGuard,binOp,Op.intDiv,f]⟩
theorem lu {x y:Operand}{t Wc:TypeId}{k:IntKind}{a b c:Int}(d:db fr x (.int k a)) (e:db fr y (.int k b)) (f:b≠0) (hw:a.tmod b=c):Xe P (Oper.mk dst (.binOp .rem t x y Wc) ty pos after g) fr ((.int k c)):=by
 subst hw;exact ⟨fun ds w=>by simp [execOp,d ds,e ds,eqGuard,binOp,Op.intDiv,f]⟩
theorem mq {x y:Operand}{t Wc:TypeId}{k:IntKind}{a b:Int}(c:db fr x (.int k a)) (d:db fr y (.int k b)):Xe P (Oper.mk dst (.binOp .lss t x y Wc) ty pos after g) fr ((.bool (decide (a<b)))):=⟨fun ds w=>by simp [execOp,c ds,d ds,eqGuard,binOp,Op.intCmp]⟩
theorem PB {x y:Operand}{t Wc:TypeId}{k:IntKind}{a b:Int}(c:db fr x (.int k a)) (d:db fr y (.int k b)):Xe P (Oper.mk dst (.binOp .leq t x y Wc) ty pos after g) fr ((.bool (decide (a≤b)))):=⟨fun ds w=>by simp [execOp,c ds,d ds,eqGuard,binOp,Op.intCmp]⟩
theorem BH {x y:Operand}{t Wc:TypeId}{k:IntKind}{a b:Int}(c:db fr x (.int k a)) (d:db fr y (.int k b)) (e:Ze fr dst ((.bool (decide (a≤b)))) U) (h:K U ds w):Ed P (Oper.mk dst (.binOp .leq t x y Wc) ty pos after g) fr ds w K Q:=sa (PB c d) e h
theorem Mo {x y:Operand}{t Wc:TypeId}{k:IntKind}{a b:Int}(c:db fr x (.int k a)) (d:db fr y (.int k b)):Xe P (Oper.mk dst (.binOp .gtr t x y Wc) ty pos after g) fr ((.bool (decide (b<a)))):=⟨fun ds w=>by simp [execOp,c ds,d ds,eqGuard,binOp,Op.intCmp]⟩
theorem hy {x y:Operand}{t Wc:TypeId}{k:IntKind}{a b:Int}(c:db fr x (.int k a)) (d:db fr y (.int k b)):Xe P (Oper.mk dst (.binOp .geq t x y Wc) ty pos after g) fr ((.bool (decide (b≤a)))):=⟨fun ds w=>by simp [execOp,c ds,d ds,eqGuard,binOp,Op.intCmp]⟩
theorem CH {x y:Operand}{t Wc:TypeId}{k:IntKind}{a b:Int}(c:db fr x (.int k a)) (d:db fr y (.int k b)) (e:Ze fr dst ((.bool (decide (b≤a)))) U) (h:K U ds w):Ed P (Oper.mk dst (.binOp .geq t x y Wc) ty pos after g) fr ds w K Q:=sa (hy c d) e h
theorem mu {x y:Operand}{t Wc:TypeId}{k:IntKind}{a b:Int}(c:db fr x (.int k a)) (d:db fr y (.int k b)):Xe P (Oper.mk dst (.binOp .eql t x y Wc) ty pos after g) fr ((.bool (decide (a=b)))):=⟨fun ds w=>by simp [execOp,c ds,d ds,eqGuard,binOp,Op.intCmp];rfl⟩
theorem Jk {x y:Operand}{t Wc:TypeId}{k:IntKind}{a b:Int}(c:db fr x (.int k a)) (d:db fr y (.int k b)) (e:Ze fr dst ((.bool (decide (a=b)))) U) (h:K U ds w):Ed P (Oper.mk dst (.binOp .eql t x y Wc) ty pos after g) fr ds w K Q:=sa (mu c d) e h
theorem QB {x y:Operand}{t Wc:TypeId}{k:IntKind}{a b:Int}(c:db fr x (.int k a)) (d:db fr y (.int k b)):Xe P (Oper.mk dst (.binOp .neq t x y Wc) ty pos after g) fr ((.bool (decide (a≠b)))):=⟨fun ds w=>by
  simp [execOp,c ds,d ds,eqGuard,binOp,Op.intCmp];by_cases h:a=b<;>simp [h]⟩
theorem DH {x y:Operand}{t Wc:TypeId}{k:IntKind}{a b:Int}(c:db fr x (.int k a)) (d:db fr y (.int k b)) (e:Ze fr dst ((.bool (decide (a≠b)))) U) (h:K U ds w):Ed P (Oper.mk dst (.binOp .neq t x y Wc) ty pos after g) fr ds w K Q:=sa (QB c d) e h
theorem EH {x:Operand}{t:TypeId}{k:IntKind}{a c:Int}(b:db fr x (.int k a)) (hw:k.wrap (0 - a)=c):Xe P (Oper.mk dst (.unOp .neg t x) ty pos after g) fr ((.int k c)):=by
 subst hw;exact ⟨fun ds w=>by simp [execOp,b ds,Op.unary,Op.intArith]⟩
theorem FH {x:Operand}{t:TypeId}{b:Bool}(a:db fr x (.bool b)):Xe P (Oper.mk dst (.unOp .not t x) ty pos after g) fr ((.bool (!b))):=⟨fun ds w=>by simp [execOp,a ds,Op.unary]⟩
theorem GH {x y:Operand}{t Wc:TypeId}{a b:List UInt8}(c:db fr x (S a)) (d:db fr y (S b)) (l:a.length+b.length≤9223372036854775807):Xe P (Oper.mk dst (.binOp .add t x y Wc) ty pos after g) fr ((S (a++b))):=by
 have e:(ByteArray.mk ⟨a⟩).size=a.length:=rfl;have f:(ByteArray.mk ⟨b⟩).size=b.length:=rfl;have h:¬ (((((ByteArray.mk ⟨a⟩).size+(ByteArray.mk ⟨b⟩).size:Nat):Int)) > IntKind.i64.max):=by
  rw [e,f];unfold IntKind.max;simp [IntKind.bits,IntKind.signed];omega
 have i:ByteArray.mk ⟨a⟩++ByteArray.mk ⟨b⟩=ByteArray.mk ⟨a++b⟩:=by
  apply ByteArray.ext;rw [ByteArray.data_append];simp
 refine ⟨fun ds w=>?_⟩;have j:=c ds;have k:=d ds;simp only [execOp,j,k,S,eqGuard,binOp,Op.stringOp];rw [if_neg h,i];simp
theorem nu {x y:Operand}{t Wc:TypeId}{a b:List UInt8}(c:db fr x (S a)) (d:db fr y (S b)):Xe P (Oper.mk dst (.binOp .eql t x y Wc) ty pos after g) fr ((.bool (decide (a=b)))):=by
 refine ⟨fun ds w=>?_⟩;have f:=c ds;have h:=d ds;simp [execOp,f,h,S,eqGuard,binOp,Op.stringOp];by_cases e:a=b<;>simp [e]
theorem RB {x y:Operand}{t Wc:TypeId}{a b:List UInt8}(c:db fr x (S a)) (d:db fr y (S b)):Xe P (Oper.mk dst (.binOp .neq t x y Wc) ty pos after g) fr ((.bool (decide (a≠b)))):=by
 refine ⟨fun ds w=>?_⟩;have f:=c ds;have h:=d ds;simp [execOp,f,h,S,eqGuard,binOp,Op.stringOp];by_cases e:a=b<;>simp [e]
theorem nk {x:Operand}{t:TypeId}{a:List UInt8}(b:P.underlying t=some .string) (c:db fr x (S a)):Xe P (Oper.mk dst (.call { callee:=.builtin .len,args:=#[x],argTypes:=#[t] }) ty pos after g) fr ((.int .i64 a.length)):=by
 refine ⟨fun ds w=>?_⟩;have d:=c ds;have e:(ByteArray.mk ⟨a⟩).size=a.length:=rfl;simp [execOp,d,resolve,invoke,builtin,S,Builtin.len_,run_underlying b,goInt,e]
theorem Md {x:Operand}{t e:TypeId}{a:Option Addr}{n c:Nat}(b:P.underlying t=some (.slice e)) (d:db fr x (.slice a n c)):Xe P (Oper.mk dst (.call { callee:=.builtin .len,args:=#[x],argTypes:=#[t] }) ty pos after g) fr ((.int .i64 n)):=by
 refine ⟨fun ds w=>?_⟩;have f:=d ds;simp [execOp,f,resolve,invoke,builtin,Builtin.len_,run_underlying b,goInt]
theorem TA {x:Operand}{t e:TypeId}{a:Option Addr}{n c:Nat}(b:P.underlying t=some (.slice e)) (d:db fr x (.slice a n c)) (f:Ze fr dst ((.int .i64 n)) U) (h:K U ds w):Ed P (Oper.mk dst (.call { callee:=.builtin .len,args:=#[x],argTypes:=#[t] }) ty pos after g) fr ds w K Q:=sa (Md b d) f h
theorem AG {x y:Operand}{t:TypeId}{k:IntKind}{a:List UInt8}{i:Int}{c:UInt8}(d:P.underlying t=some .string) (e:db fr x (S a)) (f:db fr y (.int k i)) (j:0≤i) (hc:a[i.toNat]?=some c):Xe P (Oper.mk dst (.index t x y) ty pos after g) fr ((.int .u8 c.toNat)):=by
 refine ⟨fun ds w=>?_⟩;have l:=e ds;have m:=f ds;have n:(ByteArray.mk ⟨a⟩)[i.toNat]?=some c:=by
  have b:i.toNat<a.length:=by
   rcases Nat.lt_or_ge i.toNat a.length with h | h
   ·exact h
   ·rw [List.getElem?_eq_none h] at hc;cases hc
  rw [getElem?_pos (ByteArray.mk ⟨a⟩) i.toNat (show i.toNat<(ByteArray.mk ⟨a⟩).size from b)];rw [List.getElem?_eq_getElem b] at hc;rw [← hc];rfl
 simp [execOp,l,m,S,Instr.index,run_underlying d,asIntOf,j,n]
theorem jA (a:List UInt8) (i j:Nat):(ByteArray.mk ⟨a⟩).extract i j=ByteArray.mk ⟨(a.take j).drop i⟩:=by
 rw [Lib.extract_eq];simp [List.drop_take]
theorem sF {x b:Operand}{t:TypeId}{k:IntKind}{a:List UInt8}{i:Int}(c:P.underlying t=some .string) (d:db fr x (S a)) (e:db fr b (.int k i))
  (f:0≤i∧i≤a.length):Xe P (Oper.mk dst (.slice t x (some b) none none) ty pos after g) fr ((S (a.drop i.toNat))):=by
 refine ⟨fun ds w=>?_⟩;have h:=d ds;have j:=e ds;have l:(ByteArray.mk ⟨a⟩).size=a.length:=rfl;simp only [execOp,h,j,S,Option.map,Instr.sliceAt];simp [run_underlying c,Instr.slice,Instr.sliceBounds,Instr.sliceBound,asIntOf,l,f,jA]
theorem tF {x b:Operand}{t:TypeId}{c:IntKind}{a:List UInt8}{j:Int}(d:P.underlying t=some .string) (e:db fr x (S a)) (f:db fr b (.int c j))
  (h:0≤j∧j≤a.length):Xe P (Oper.mk dst (.slice t x none (some b) none) ty pos after g) fr ((S (a.take j.toNat))):=by
 refine ⟨fun ds w=>?_⟩;have i:=e ds;have k:=f ds;have l:(ByteArray.mk ⟨a⟩).size=a.length:=rfl;simp only [execOp,i,k,S,Option.map,Instr.sliceAt];simp [run_underlying d,Instr.slice,Instr.sliceBounds,Instr.sliceBound,asIntOf,l,h,jA]
theorem BG {x:Operand}{i:Nat}{vs:List Value}{v:Value}(b:db fr x (.tuple ⟨vs⟩)) (a:oc vs i v):Xe P (Oper.mk dst (.extract x i) ty pos after g) fr (v):=by
 refine ⟨fun ds w=>?_⟩;have c:=b ds;unfold oc at a;simp [execOp,c,Instr.extract,a]
structure nb (P:Program) (f:FuncId) (args:List Value) (w:World) (R:Value→World→Prop):Prop where
 out:Calls P f ⟨args⟩ w fun e w'=>match e with | .returned v=>R v w' | _=>False
theorem nb.mono {f:FuncId}{args:List Value}{R R':Value→World→Prop}(h:nb P f args w R) (a:∀ v w',R v w'→R' v w'):nb P f args w R' :=
 ⟨Calls.mono h.out fun e w' he=>by
  cases e with
  | returned v=>exact a v w' he
  | panicked c=>exact he.elim
  | outgrown=>exact he.elim⟩
class wb (P:Program) (f:FuncId):Prop where
 out:∀ args w,(callFunc f args).run P w=.ok (.enter f args) w
theorem uF {f : FuncId} {fn : Func} (a : P.funcs[f]? = some fn) (e : fn.body.isSome = true) (b : (fn.name == "runtime.NumGoroutine") = false) : wb P f := by
 constructor;intro args w;have c:¬ fn.body=none:=by cases h:fn.body<;>simp_all
 have d : ¬ fn.name = "runtime.NumGoroutine" := by simpa using b
 simp only [callFunc,Sem.run_bind,run_program,Result.andThen_ok,a,beq_iff_eq,if_neg d,Option.isNone_iff_eq_none,if_neg c,Sem.run_pure]
def Ng (fr:List Value) (dst:Option Tmp) (v:Value) (K:List Value→Prop):Prop:=∀ U,Ze fr dst v U→K U
theorem Ze.uniq {fr a b:List Value}{dst:Option Tmp}{v:Value}(h:Ze fr dst v a) (k:Ze fr dst v b):a=b:=by
 have:=(h []).symm.trans (k []);unfold F at this;simpa using this
theorem pu {v:Value}{K:List Value→Prop}(a:Ze fr dst v U) (h:K U):Ng fr dst v K:=fun c b=>by rw [Ze.uniq b a];exact h
theorem Sh (fr:List Value) (dst:Option Tmp) (v:Value):∃ U,Ze fr dst v U:=by
 cases dst with
 | none=>exact ⟨fr,Ua⟩
 | some n=>exact ⟨fr.set n v,ia rfl⟩
theorem Ft {o:Oper}{f:FuncId}{args:List Value}{R:Value→World→Prop}(a:(execOp (F fr ds).eval o).run P w=.ok (.enter f ⟨args⟩) w) (hc:nb P f args w R)
  (h:∀ v w',R v w'→Ng fr o.dst v fun U=>K U ds w'):Ed P o fr ds w K Q:=by
 constructor;intro d b;unfold Oper.wp;rw [a,Oper.upon_enter];exact Calls.mono hc.out fun e w' he=>by
  cases e with
  | returned v =>
   obtain ⟨U,pb⟩:=Sh fr o.dst v;exact pb.rw (b _ _ _ (h v w' he U pb))
  | panicked c=>exact he.elim
  | outgrown=>exact he.elim
theorem AA {f:Operand}{xs:List Operand}{tys:Array TypeId}{k:FuncId}{cap vs:List Value}(a:wb P k) (b:db fr f (.func (.func k) #[] ⟨cap⟩)) (c:uk fr xs vs) :
  (execOp (F fr ds).eval (Oper.mk dst (.call { callee:=.value f,args:=⟨xs⟩,argTypes:=tys }) ty pos after g)).run P w=.ok (.enter k ⟨vs++cap⟩) w:=by
 have d:=b ds;have e:=c ds;have h:=a.out ⟨vs++cap⟩ w;simp [execOp,resolve,d,Deferred.ofValue,invoke,e,h]
theorem nd {f:Operand}{xs:List Operand}{tys:Array TypeId}{k:FuncId}{vs:List Value}{R:Value→World→Prop}(a:wb P k) (b:db fr f (.func (.func k) #[] #[])) (c:uk fr xs vs)
  (hc:nb P k vs w R) (h:∀ v w',R v w'→Ng fr dst v fun U=>K U ds w'):Ed P (Oper.mk dst (.call { callee:=.value f,args:=⟨xs⟩,argTypes:=tys }) ty pos after g) fr ds w K Q:=by
 refine Ft (args:=vs) ?_ hc h;have:=AA (w:=w) (dst:=dst) (ty:=ty) (pos:=pos) (after:=after) (g:=g) (tys:=tys) (ds:=ds) (cap:=[]) a b c;simpa using this
theorem Gt {f:Operand}{xs:List Operand}{tys:Array TypeId}{k:FuncId}{cap vs:List Value}{R:Value→World→Prop}(a:wb P k) (b:db fr f (.func (.func k) #[] ⟨cap⟩)) (c:uk fr xs vs)
  (hc:nb P k (vs++cap) w R) (h:∀ v w',R v w'→Ng fr dst v fun U=>K U ds w'):Ed P (Oper.mk dst (.call { callee:=.value f,args:=⟨xs⟩,argTypes:=tys }) ty pos after g) fr ds w K Q :=
 Ft (AA a b c) hc h
def Vm (P:Program) (fn:Func) (R:Value→World→Prop):Exit→Act→World→Prop:=bodyPost P fn fun e w'=>match e with | .returned v=>R v w' | _=>False
theorem enter {f:FuncId}{fn:Func}{c:Code}{args frm:List Value}{R:Value→World→Prop}(a:P.funcs[f]?=some fn) (b:fn.body=some c)
  (d:args++List.replicate (fn.ntmps - args.length) undef=frm) (h:Ee P c (Vm P fn R) frm [] w):nb P f args w R:=by
 refine ⟨calls_of_wp a b ?_⟩;subst d;have:(⟨args⟩:Array Value)++Array.replicate (fn.ntmps - args.length) undef=⟨args++List.replicate (fn.ntmps - args.length) undef⟩:=by
  apply Array.ext';simp
 have h:=h.out;simpa [F,Vm,this] using h
theorem yb {fn:Func}{R:Value→World→Prop}{t:Tmp}{v:Value}(b:fn.results=#[.tmp t]) (a:oc fr t v) (h:R v w):Vm P fn R .ret (F fr []) w:=by
 refine bodyPost_ret (v:=v) ?_ rfl h;unfold oc at a;rw [results_tmp b];simp [F,a]
theorem fC {fn:Func}{R:Value→World→Prop}{t u:Tmp}{v a:Value}(d:fn.results=#[.tmp t,.tmp u]) (b:oc fr t v) (c:oc fr u a) (h:R (.tuple #[v,a]) w):Vm P fn R .ret (F fr []) w:=by
 refine bodyPost_ret (v:=.tuple #[v,a]) ?_ rfl h;unfold oc at b c;rw [results_tmp2 d];simp [F,b,c]
theorem mg {fn:Func}{R:Value→World→Prop}(a:fn.results=#[]) (h:R (.tuple #[]) w):Vm P fn R .normal (F fr []) w :=
 bodyPost_end (results_none a _ _ _) rfl h
theorem fl {fn:Func}{R:Value→World→Prop}(a:fn.results=#[]) (h:R (.tuple #[]) w):Vm P fn R .ret (F fr []) w :=
 bodyPost_ret (results_none a _ _ _) rfl h
end
end Go.bc
namespace Go.bc
open Go.RowKit
structure Th (S:Nat→Prop) (w w':World):Prop where
 os:w'.os=w.os
 tape:w'.tape=w.tape
 output:w'.output=w.output
 size:w.heap.size≤w'.heap.size
 ba:∀ k,k<w.heap.size→S k→w'.heap[k]?=w.heap[k]?
def Grow (w w':World):Prop:=Th (fun _=>True) w w'
theorem Th.refl {S:Nat→Prop}(w:World):Th S w w:=⟨rfl,rfl,rfl,Nat.le_refl _,fun _ _ _=>rfl⟩
theorem Th.trans {S:Nat→Prop}{a b c:World}(h:Th S a b) (k:Th S b c):Th S a c :=
 ⟨k.os.trans h.os,k.tape.trans h.tape,k.output.trans h.output,Nat.le_trans h.size k.size,fun i d e=>(k.ba i (Nat.lt_of_lt_of_le d h.size) e).trans (h.ba i d e)⟩
theorem Th.mono {S c:Nat→Prop}{a b:World}(h:Th S a b) (d:∀ k,c k→S k):Th c a b:=⟨h.os,h.tape,h.output,h.size,fun i e k=>h.ba i e (d i k)⟩
theorem Grow.keeps {S:Nat→Prop}{a b:World}(h:Grow a b):Th S a b:=Th.mono h fun _ _=>trivial
theorem Grow.below {a b:World}(h:Grow a b):Below a.heap.size a b:=⟨h.os,h.tape,h.output,h.size,fun k c=>h.ba k c trivial⟩
theorem Grow.alloc (w:World) (o:Obj):Grow w (w.alloc o):=⟨rfl,rfl,rfl,by simp,fun k a _=>heap_alloc_old w o k a⟩
def Ej (S:Nat→Prop) (w:World) (A:World→Prop):Prop:=∀ w',w.heap.size≤w'.heap.size→(∀ k,k<w.heap.size→S k→w'.heap[k]?=w.heap[k]?)→A w'
theorem Ej.now {S:Nat→Prop}{w:World}{A:World→Prop}(h:Ej S w A):A w:=h w (Nat.le_refl _) fun _ _ _=>rfl
theorem Ej.mono {S a:Nat→Prop}{w:World}{A:World→Prop}(h:Ej S w A) (c:∀ k,k<w.heap.size→S k→a k):Ej a w A:=fun w' d e=>h w' d fun k b f=>e k b (c k b f)
theorem Ej.and {S:Nat→Prop}{w:World}{A B:World→Prop}(h:Ej S w A) (k:Ej S w B):Ej S w fun w'=>A w'∧B w':=fun w' a b=>⟨h w' a b,k w' a b⟩
theorem Ej.keeps {S:Nat→Prop}{w w':World}{A:World→Prop}(h:Ej S w A) (k:Th S w w'):Ej S w' A :=
 fun d e f=>h d (Nat.le_trans k.size e) fun b a c=>(f b (Nat.lt_of_lt_of_le a k.size) c).trans (k.ba b a c)
inductive jb where
 | ba (b:Nat) (T:TypeId) (cs:List Value)
 | row (v:Value) (T:TypeId) (sz n:Nat) (xs:List Value)
 | map (b:Nat) (es:List MapEntry) (clock:Nat)
 | Cu (b:Nat) (s:ByteArray) (pos:Nat)
 | ro (b:Nat) (T:TypeId) (cs:List Value)
 | dk (b m since:Nat) (seen:List Nat) (last:Nat)
def Mi (w:World) (b:Nat) (T:TypeId) (cs:List Value):Prop:=w.heap[b]?=some (.cells ⟨cs⟩ T (0,0))
def Row (w:World) (v:Value) (T:TypeId) (sz n:Nat) (xs:List Value):Prop :=
 xs.length=n*sz∧((v=.slice none 0 0∧n=0)∨∃ g o cap cur,v=.slice (some ⟨g,o,none⟩) n cap∧w.heap[g]?=some (.cells cur T (0,0))∧n≤cap∧cap≤maxLen∧o+cap*sz≤cur.size∧(cur.toList.drop o).take (n*sz)=xs)
def jb.block:jb→Option Nat
 | .ba b _ _=>some b
 | .row v _ _ _ _=>v.ownBlock
 | .map b _ _=>some b
 | .Cu b _ _=>some b
 | .ro b _ _=>some b
 | .dk b _ _ _ _=>some b
def jb.holds (w:World):jb→Prop
 | .ba b T cs=>Mi w b T cs
 | .row v T sz n xs=>Row w v T sz n xs
 | .map b es clock=>w.heap[b]?=some (.map ⟨es⟩ clock)
 | .Cu b s pos=>w.heap[b]?=some (.stringIter s pos)
 | .ro b T cs=>∃ z,w.heap[b]?=some (.cells ⟨cs⟩ T z)
 | .dk b m since seen last=>w.heap[b]?=some (.mapIter (some m) since ⟨seen⟩ last)
def blocks (rs:List jb):List Nat:=rs.filterMap jb.block
structure Sep (S Gd:Nat→Prop) (w0 w:World) (rs:List jb) (A:World→Prop):Prop where
 keeps:Th S w0 w
 all:∀ r ∈ rs,r.holds w
 Xh:(blocks rs).Nodup
 new:∀ b ∈ blocks rs,w0.heap.size≤b∨¬ S b
 si:Ej (fun b=>(Gd b∨w0.heap.size≤b)∧b ∉ blocks rs) w A
theorem Dz {w:World}{r:jb}(h:r.holds w){b:Nat}(a:r.block=some b):b<w.heap.size:=by
 cases r with
 | ba kg T cs=>simp [jb.block] at a; subst a; exact (Array.getElem?_eq_some_iff.1 h).1
 | map kg es d=>simp [jb.block] at a; subst a; exact (Array.getElem?_eq_some_iff.1 h).1
 | Cu kg s p=>simp [jb.block] at a; subst a; exact (Array.getElem?_eq_some_iff.1 h).1
 | dk kg m s e l=>simp [jb.block] at a; subst a; exact (Array.getElem?_eq_some_iff.1 h).1
 | ro kg T cs=>obtain ⟨z,h⟩:=h; simp [jb.block] at a; subst a; exact (Array.getElem?_eq_some_iff.1 h).1
 | row v T sz n xs =>
  rcases h.2 with ⟨rfl,_⟩ | ⟨g,o,cap,cur,rfl,c,_⟩
  ·simp [jb.block,Value.ownBlock] at a
  ·simp [jb.block,Value.ownBlock] at a;subst a;exact (Array.getElem?_eq_some_iff.1 c).1
theorem holds_of {w w':World}{r:jb}(h:r.holds w) (a:∀ b,r.block=some b→w'.heap[b]?=w.heap[b]?):r.holds w':=by
 cases r with
 | ba kg T cs=>exact (a kg rfl).trans h
 | map kg es d=>exact (a kg rfl).trans h
 | Cu kg s p=>exact (a kg rfl).trans h
 | dk kg m s e l=>exact (a kg rfl).trans h
 | ro kg T cs=>obtain ⟨z,h⟩:=h; exact ⟨z,(a kg rfl).trans h⟩
 | row v T sz n xs =>
  refine ⟨h.1,?_⟩;rcases h.2 with h | ⟨g,o,cap,cur,rfl,c,h⟩
  ·exact .inl h
  ·exact .inr ⟨g,o,cap,cur,rfl,by rw [a g rfl];exact c,h⟩
section
variable {S Gd:Nat→Prop}{w0 w w':World}{rs rs':List jb}{A B:World→Prop}
theorem Sep.a (h:Sep S Gd w0 w rs A):A w:=h.si.now
theorem Sep.start (w:World) (S Gd:Nat→Prop) (a:Ej Gd w A):Sep S Gd w w [] A :=
 ⟨.refl w,by simp,by simp [blocks],by simp [blocks],a.mono fun k _ b=>⟨.inl b,by simp [blocks]⟩⟩
theorem ym {r:jb}{b:Nat}(a:r ∈ rs) (c:r.block=some b):b ∈ blocks rs:=List.mem_filterMap.2 ⟨r,a,c⟩
theorem Sep.lt (h:Sep S Gd w0 w rs A){b:Nat}(a:b ∈ blocks rs):b<w.heap.size:=by
 obtain ⟨r,c,a⟩:=List.mem_filterMap.1 a;exact Dz (h.all r c) a
theorem Sep.grow (h:Sep S Gd w0 w rs A) (a:Grow w w'):Sep S Gd w0 w' rs A where
 keeps:=h.keeps.trans a.keeps
 all r c:=holds_of (h.all r c) fun b d=>a.ba b (h.lt (ym c d)) trivial
 Xh:=h.Xh
 new:=h.new
 si:=h.si.keeps a.keeps
theorem Sep.alloc (h:Sep S Gd w0 w rs A){o:Obj}{r:jb}(c:r.block=some w.heap.size) (f:r.holds (w.alloc o)):Sep S Gd w0 (w.alloc o) (r::rs) A where
 keeps:=h.keeps.trans (Grow.alloc w o).keeps
 all r' d:=by
  rcases List.mem_cons.1 d with rfl | d
  ·exact f
  ·exact (h.grow (Grow.alloc w o)).all r' d
 Xh:=by
  simp only [blocks,List.filterMap_cons,c,List.nodup_cons];exact ⟨fun hm=>Nat.lt_irrefl _ (h.lt hm),h.Xh⟩
 new b a:=by
  simp only [blocks,List.filterMap_cons,c,List.mem_cons] at a;rcases a with rfl | a
  ·exact .inl h.keeps.size
  ·exact h.new b a
 si:=fun w' g i=>h.si w' (by simp at g;omega) fun k j e=>by
  have:=i k (by simp;omega) ⟨e.1,by
   simp only [blocks,List.filterMap_cons,c,List.mem_cons,not_or];exact ⟨by omega,e.2⟩⟩
  rw [this];exact heap_alloc_old w o k j
theorem Xt {r:jb}{n:Nat}(a:oc rs n r):r ∈ rs:=List.mem_of_getElem? a
theorem Sep.get (h:Sep S Gd w0 w rs A){n:Nat}{r:jb}(a:oc rs n r):r.holds w:=h.all r (Xt a)
theorem Vz {n:Nat}{r r':jb}(b:oc rs n r) (c:r'.block=r.block):blocks (rs.set n r')=blocks rs:=by
 unfold oc at b;unfold blocks
 induction rs generalizing n with
 | nil=>rfl
 | cons a rs d =>
  cases n with
  | zero=>simp at b; subst b; simp [List.filterMap_cons,c]
  | succ n=>simp at b; simp only [List.set_cons_succ,List.filterMap_cons,d b]
theorem Ez {n m:Nat}{r f:jb}(pb:(blocks rs).Nodup) (d:oc rs n r) (hm:oc rs m f) (i:n≠m){b:Nat}(g:r.block=some b):f.block≠some b:=by
 unfold oc at d hm;unfold blocks at pb
 induction rs generalizing n m with
 | nil=>simp at d
 | cons a rs j =>
  have k:(List.filterMap jb.block rs).Nodup:=by
   cases h:a.block with
   | none=>simpa [List.filterMap_cons,h] using pb
   | some c=>simp only [List.filterMap_cons,h,List.nodup_cons] at pb; exact pb.2
  cases n with
  | zero =>
   cases m with
   | zero=>exact absurd rfl i
   | succ m =>
    simp at d hm;subst d;intro e;simp only [List.filterMap_cons,g,List.nodup_cons] at pb;exact pb.1 (List.mem_filterMap.2 ⟨f,List.mem_of_getElem? hm,e⟩)
  | succ n =>
   cases m with
   | zero =>
    simp at d hm;subst hm;intro e;simp only [List.filterMap_cons,e,List.nodup_cons] at pb;exact pb.1 (List.mem_filterMap.2 ⟨r,List.mem_of_getElem? d,g⟩)
   | succ m=>simp at d hm; exact j k d hm (by omega)
theorem Sep.put (h:Sep S Gd w0 w rs A){n:Nat}{r r':jb}{b:Nat}(d:oc rs n r) (g:r.block=some b) (p:r'.block=some b) (l:sc rs n r' rs')
  (q:r'.holds w') (a:Th (fun k=>k≠b) w w'):Sep S Gd w0 w' rs' A:=by
 unfold sc at l;subst l;have o:=ym (Xt d) g;have i:=Vz (r':=r') d (p.trans g.symm);refine ⟨?_,?_,?_,?_,?_⟩
 ·refine ⟨a.os.trans h.keeps.os,a.tape.trans h.keeps.tape,a.output.trans h.keeps.output,Nat.le_trans h.keeps.size a.size,fun k j f=>?_⟩;rw [a.ba k (Nat.lt_of_lt_of_le j h.keeps.size) (fun e=>by subst e;rcases h.new k o with h | h;exact absurd j (by omega);exact h f)];exact h.keeps.ba k j f
 ·intro s t;obtain ⟨m,hm⟩:=List.mem_iff_getElem?.1 t;by_cases e:n=m
  ·subst e;have u:n<rs.length:=(List.getElem?_eq_some_iff.1 d).1;rw [List.getElem?_set_self u] at hm;cases hm;exact q
  ·rw [List.getElem?_set_ne e] at hm;refine holds_of (h.all s (List.mem_of_getElem? hm)) fun c hc=>a.ba c (h.lt (ym (List.mem_of_getElem? hm) hc)) fun v=>?_;subst v;exact Ez h.Xh d hm e g hc
 ·rw [i];exact h.Xh
 ·rw [i];exact h.new
 ·rw [i];exact h.si.keeps (a.mono fun k f e=>f.2 (by subst e;exact o))
end
def su:TypeDesc→Bool
 | .struct _ | .array _ _=>true
 | _=>false
class kc (P:Program) (T:TypeId) (zf:outParam Bool) (td:outParam (List Value)) (n m:outParam Nat):Prop where
 mz:∃ d,P.underlying T=some d∧su d=zf
 inf:∃ i z,P.info? T=some i∧i.zero=some z∧z.cells=⟨td⟩∧i.size=n∧i.bytes=m
theorem HH {P:Program}{T:TypeId}{d:TypeDesc}{zf:Bool}{z:Value}{td:List Value}{n m:Nat}(hu:P.underlying T=some d) (b:su d=zf) (h:(P.info? T).map (fun i=>(i.zero,i.size,i.bytes))=some (some z,n,m)) (c:z.cells=⟨td⟩):kc P T zf td n m:=by
 refine ⟨⟨d,hu,b⟩,?_⟩;cases a:P.info? T with
 | none=>rw [a] at h; cases h
 | some i =>
  rw [a] at h;simp only [Option.map_some,Option.some.injEq,Prod.mk.injEq] at h;exact ⟨i,z,rfl,h.1,c,h.2.1,h.2.2⟩
def ee:Value→Bool
 | .agg _ | .tuple _=>false
 | _=>true
section
variable {P:Program}{Q:Exit→Act→World→Prop}{K:List Value→List Deferred→World→Prop}{fr U:List Value}{ds:List Deferred}{w:World}
variable {dst:Option Tmp}{ty:TypeId}{pos:String}{after:Array Edge}{g:Option (Nat×Bool)}
variable {S Gd:Nat→Prop}{w0:World}{rs rs':List jb}{A:World→Prop}
variable {T:TypeId}{d:TypeDesc}{zf:Bool}{td:List Value}{n m:Nat}
theorem cE (h:P.underlying T=some d):(isAgg T).run P w=.ok (su d) w:=by
 unfold isAgg;simp only [Sem.run_bind,run_underlying h,Result.andThen_ok];cases d<;>rfl
theorem kc.isAgg (h:kc P T zf td n m):(Go.isAgg T).run P w=.ok zf w:=by
 obtain ⟨d,pb,rfl⟩:=h.mz;exact cE pb
theorem kc.sizeOf (h:kc P T zf td n m):(Go.sizeOf T).run P w=.ok n w:=by
 obtain ⟨i,z,a,c,hc,b,hm⟩:=h.inf;simp [Go.sizeOf,typeInfo,a,b]
theorem kc.zero (h:kc P T zf td n m):∃ z,(zeroValue T).run P w=.ok z w∧z.cells=⟨td⟩:=by
 obtain ⟨i,z,a,b,hc,c,hm⟩:=h.inf;exact ⟨z,by simp [zeroValue,typeInfo,a,b],hc⟩
def ui (w:World) (b o:Nat) (cs:List Value):Prop:=∀ j v,cs[j]?=some v→w.cell? ⟨b,o+j,none⟩=some v
theorem Tj (b o j:Nat):(⟨b,o,none⟩:Addr).add j=⟨b,o+j,none⟩:=by
 unfold Addr.add;split
 ·rename_i h;subst h;rfl
 ·rfl
theorem Mi.cell {b:Nat}{cs:List Value}{j:Nat}{v:Value}(h:Mi w b T cs) (a:oc cs j v):w.cell? ⟨b,j,none⟩=some v:=by
 unfold oc at a;unfold Mi at h;simp [World.cell?,h,a]
theorem Mi.cells {b:Nat}{cs:List Value}(h:Mi w b T cs):ui w b 0 cs:=fun j v a=>by
 rw [Nat.zero_add];exact h.cell a
theorem ui.one {b o:Nat}{cs:List Value}{j:Nat}{v:Value}(h:ui w b o cs) (a:oc cs j v):w.cell? ⟨b,o+j,none⟩=some v:=h j v a
theorem kd (a:kc P T zf td n m) (c:Sep S Gd w0 w rs A)
  (h:∀ b w',w.heap.size≤b→Sep S Gd w0 w' (.ba b T td::rs) A→Ng fr dst (.pointer (some ⟨b,0,none⟩)) fun U=>K U ds w'):Ed P (Oper.mk dst (.alloc T) ty pos after g) fr ds w K Q:=by
 obtain ⟨z,d,hc⟩:=a.zero (w:=w);obtain ⟨U,pb⟩:=Sh fr dst (.pointer (some ⟨w.heap.size,0,none⟩));refine Bh (v:=.pointer (some ⟨w.heap.size,0,none⟩)) (w':=w.alloc (.cells ⟨td⟩ T)) ?_ pb (h _ _ (Nat.le_refl _) (c.alloc rfl (heap_alloc_new w _)) U pb);simp [execOp,Instr.alloc,d,newVar,newRow,hc]
theorem fg {x:Operand}{v:Value}{cs:List Value}(a:db fr x v) (hc:v.cells=⟨cs⟩) (c:Sep S Gd w0 w rs A)
  (h:∀ b w',w.heap.size≤b→Sep S Gd w0 w' (.ba b T cs::rs) A→Ng fr dst (.pointer (some ⟨b,0,none⟩)) fun U=>K U ds w'):Ed P (Oper.mk dst (.box T x) ty pos after g) fr ds w K Q:=by
 obtain ⟨U,pb⟩:=Sh fr dst (.pointer (some ⟨w.heap.size,0,none⟩));refine Bh (v:=.pointer (some ⟨w.heap.size,0,none⟩)) (w':=w.alloc (.cells ⟨cs⟩ T)) ?_ pb (h _ _ (Nat.le_refl _) (c.alloc rfl (heap_alloc_new w _)) U pb);simp [execOp,Instr.box,a ds,newVar,newRow,hc]
structure Ak (P:Program) (o:Oper) (fr:List Value) (w:World) (v:Value):Prop where
 out:∀ ds,(execOp (F fr ds).eval o).run P w=.ok (.value v) w
theorem bp {o:Oper}{v:Value}(hu:Ak P o fr w v) (a:Ze fr o.dst v U) (h:K U ds w):Ed P o fr ds w K Q:=Bh (hu.out ds) a h
theorem Aa {x:Operand}{b o:Nat}{v:Value}(a:kc P T false td n m) (c:db fr x (.pointer (some ⟨b,o,none⟩))) (hc:w.cell? ⟨b,o,none⟩=some v):Ak P (Oper.mk dst (.load T x) ty pos after g) fr w v :=
 ⟨fun ds=>by simp [execOp,Instr.loadAt,c ds,Instr.sureAddr,loadVar,a.isAgg,hc]⟩
theorem ud {x:Operand}{b o:Nat}{v:Value}(a:kc P T false td n m) (c:db fr x (.pointer (some ⟨b,o,none⟩))) (hc:w.cell? ⟨b,o,none⟩=some v)
  (d:Ze fr dst v U) (h:K U ds w):Ed P (Oper.mk dst (.load T x) ty pos after g) fr ds w K Q:=bp (Aa a c hc) d h
theorem fi {x:Operand}{b o:Nat}{cs:List Value}(a:kc P T true td n m) (d:db fr x (.pointer (some ⟨b,o,none⟩))) (hc:ui w b o cs) (e:cs.length=n):Ak P (Oper.mk dst (.load T x) ty pos after g) fr w (.agg ⟨cs⟩):=⟨fun ds=>by
 have c:=run_loadCells_list (P:=P) w ⟨b,o,none⟩ cs (fun j v f=>by rw [Tj];exact hc j v f);rw [e] at c;simp [execOp,Instr.loadAt,d ds,Instr.sureAddr,loadVar,a.isAgg,a.sizeOf,c]⟩
theorem Gm {x:Operand}{b o:Nat}{cs:List Value}(a:kc P T true td n m) (c:db fr x (.pointer (some ⟨b,o,none⟩))) (hc:ui w b o cs) (d:cs.length=n)
  (e:Ze fr dst (.agg ⟨cs⟩) U) (h:K U ds w):Ed P (Oper.mk dst (.load T x) ty pos after g) fr ds w K Q:=bp (fi a c hc d) e h
inductive pf:List Value→Nat→List Value→List Value→Prop where
 | z {cs:List Value} {o:Nat}:pf cs o [] cs
 | s {cs cs1 a:List Value} {o:Nat} {v:Value} {vs:List Value} (h:sc cs o v cs1) (b:o<cs.length) (k:pf cs1 (o+1) vs a):pf cs o (v::vs) a
theorem pf.eq {cs:List Value}{o:Nat}{vs b:List Value}(h:pf cs o vs b):o+vs.length≤cs.length∨vs=[]:=by
 induction h with
 | z=>exact .inr rfl
 | @s cs cs1 b o v vs h c k a =>
  left;unfold sc at h;subst h;rcases a with a | rfl
  ·simp at a ⊢;omega
  ·simp;omega
theorem pf.res {cs:List Value}{o:Nat}{vs a:List Value}(h:pf cs o vs a) (e:o≤cs.length):a=cs.take o++vs++cs.drop (o+vs.length):=by
 induction h with
 | z=>simp
 | @s cs cs1 a o v vs h b k c =>
  unfold sc at h;subst h;rw [c (by simp;omega)];have Ya:(cs.set o v).take (o+1)=cs.take o++[v]:=by
   rw [List.take_set,List.take_add_one,List.getElem?_eq_getElem b];rw [List.set_append_right _ _ (by simp;omega)];simp [Nat.min_eq_left (Nat.le_of_lt b)]
  rw [Ya];have d:(cs.set o v).drop (o+1+vs.length)=cs.drop (o+(v::vs).length):=by
   rw [List.drop_set_of_lt (by omega)];congr 1;simp;omega
  rw [d];simp
theorem jt {v:Value}(h:ee v=true):v.oneCell'=true:=by cases v<;>first | rfl | simp [ee] at h
theorem pD {b:Nat}{cs:List Value}(c:Mi w b T cs){o:Nat}{vs d:List Value}(a:pf cs o vs d) (e:o≤cs.length) (f:vs.all ee=true) :
  ∃ w',(storeCells ⟨b,o,none⟩ vs).run P w=.ok () w'∧Mi w' b T d∧Th (fun k=>k≠b) w w':=by
 have hle:o+0+vs.length≤(⟨cs⟩:Array Value).size:=by
  rcases a.eq with h | rfl
  ·simpa using h
  ·simpa using e
 refine ⟨_,run_storeCells_at P b o T vs 0 ⟨cs⟩ w c hle fun v Nb=>jt (List.all_eq_true.1 f v Nb),?_,?_⟩
 ·rw [a.res e];exact setRow_heap w b ⟨cs⟩ _ T (0,0) c
 ·exact ⟨rfl,rfl,rfl,by simp [World.setRow],fun k g a=>setRow_other w b k _ a⟩
theorem Yp {x y:Operand}{b o k:Nat}{v:Value}{cs a vs:List Value}(f:kc P T zf td n m) (i:db fr x (.pointer (some ⟨b,o,none⟩))) (j:db fr y v) (Nb:v.cells=⟨vs⟩) (l:vs.length=n) (p:vs.all ee=true)
  (c:Sep S Gd w0 w rs A) {d:TypeId}(e:oc rs k (.ba b d cs)) (q:pf cs o vs a) (r:(decide (o≤cs.length))=true) (s:sc rs k (.ba b d a) rs')
  (pb:Ze fr dst undef U) (h:∀ w',Sep S Gd w0 w' rs' A→K U ds w'):Ed P (Oper.mk dst (.store T x y) ty pos after g) fr ds w K Q:=by
 obtain ⟨w',t,u,z⟩:=pD (P:=P) (c.get e) q (of_decide_eq_true r) p;refine Sy (w':=w') ?_ pb (h w' (c.put e rfl rfl s u z));have Ya:v.cells.toList=vs:=by rw [Nb]
 have B:¬ (v.cells.size≠n):=by rw [Nb];simpa using l
 have C:=f.sizeOf (w:=w);simp only [execOp,Instr.storeAt,i ds,j ds,Instr.sureAddr,storeVar,Sem.run_bind,C,Result.andThen_ok,if_neg B,Ya,t,Sem.run_pure]
class Sc (P:Program) (T:TypeId) (i:Nat) (off:outParam Nat):Prop where
 out:∀ b o w,(Instr.fieldAt T (.pointer (some ⟨b,o,none⟩)) i).run P w=.ok (.pointer (some ⟨b,o+off,none⟩)) w
theorem Uc {c:Array Field}{i off:Nat}{f:Field}{d:TypeId}{e:List Value}{a g:Nat}{h:Bool}(j:P.underlying T=some (.struct c)) (k:c[i]?=some f) (l:f.offset=off) (m:f.type=d) (n:kc P d h e a g) (p:(a == 0)=false):Sc P T i off:=by
 constructor;intro b o w;have q:¬ a=0:=by simpa using p
 simp [Instr.fieldAt,run_underlying j,k,Instr.sureAddr,fieldPlace,m,n.sizeOf,q,Tj,l]
theorem Qg {x:Operand}{b o i off a:Nat}(c:Sc P T i off) (d:db fr x (.pointer (some ⟨b,o,none⟩))) (e:o+off=a):Xe P (Oper.mk dst (.fieldAddr T x i) ty pos after g) fr ((.pointer (some ⟨b,a,none⟩))):=by
 subst e;exact ⟨fun ds w=>by simp [execOp,d ds,c.out]⟩
theorem jm {x:Operand}{b o i off a:Nat}(c:Sc P T i off) (d:db fr x (.pointer (some ⟨b,o,none⟩))) (e:o+off=a) (f:Ze fr dst ((.pointer (some ⟨b,a,none⟩))) U) (h:K U ds w):Ed P (Oper.mk dst (.fieldAddr T x i) ty pos after g) fr ds w K Q:=sa (Qg c d e) f h
theorem vF {x:Operand}{i off:Nat}{cs:List Value}{v:Value}{a:Array Field}{f:Field}{b:TypeId}{d:List Value}{e h:Nat}(j:P.underlying T=some (.struct a)) (k:a[i]?=some f) (l:f.offset=off) (m:f.type=b) (n:kc P b false d e h)
  (o:db fr x (.agg ⟨cs⟩)) (c:oc cs off v):Xe P (Oper.mk dst (.field T x i) ty pos after g) fr (v):=by
 subst l m;unfold oc at c;refine ⟨fun ds w=>?_⟩;simp [execOp,o ds,Instr.field,run_underlying j,k,asAgg,part,n.isAgg,c]
theorem Ht {x:Operand}{i off:Nat}{cs:List Value}{v:Value}{a:Array Field}{f:Field}{b:TypeId}{c:List Value}{d e:Nat}(j:P.underlying T=some (.struct a)) (k:a[i]?=some f) (l:f.offset=off) (m:f.type=b) (n:kc P b false c d e)
  (o:db fr x (.agg ⟨cs⟩)) (p:oc cs off v) (q:Ze fr dst (v) U) (h:K U ds w):Ed P (Oper.mk dst (.field T x i) ty pos after g) fr ds w K Q:=sa (vF j k l m n o p) q h
theorem yq {x y:Operand}{b o len cap:Nat}{k:IntKind}{i:Int}{e:TypeId}{a:Nat}(c:P.underlying T=some (.slice e)) (d:kc P e zf td n m) (f:db fr x (.slice (some ⟨b,o,none⟩) len cap)) (h:db fr y (.int k i)) (j:0≤i∧i<len) (l:o+i.toNat*n=a):Xe P (Oper.mk dst (.indexAddr T x y) ty pos after g) fr ((.pointer (some ⟨b,a,none⟩))):=by
 subst l;refine ⟨fun ds w=>?_⟩;simp [execOp,f ds,h ds,Instr.indexAt,asIntOf,run_underlying c,j,d.sizeOf,Tj]
theorem Gh {x:Operand}{a:Addr}(b:db fr x (.pointer (some a))):Xe P (Oper.mk dst (.nilCheck x) ty pos after g) fr ((.pointer (some a))):=⟨fun ds w=>by simp [execOp,b ds]⟩
theorem Hm {x:Operand}{a:Addr}(b:db fr x (.pointer (some a))) (c:Ze fr dst ((.pointer (some a))) U) (h:K U ds w):Ed P (Oper.mk dst (.nilCheck x) ty pos after g) fr ds w K Q:=sa (Gh b) c h
end
end Go.bc
namespace Go.bc
open Go.RowKit
section
variable {P:Program}{Q:Exit→Act→World→Prop}{K:List Value→List Deferred→World→Prop}{fr U:List Value}{ds:List Deferred}{w:World}
variable {dst:Option Tmp}{ty:TypeId}{pos:String}{after:Array Edge}{g:Option (Nat×Bool)}
variable {S Gd:Nat→Prop}{w0:World}{rs rs':List jb}{A:World→Prop}
variable {T:TypeId}{d:TypeDesc}{zf:Bool}{td:List Value}{n m:Nat}
inductive ha:List jb→Nat→List jb→Prop where
 | z {r:jb} {rs:List jb}:ha (r::rs) 0 rs
 | s {r:jb} {rs rs':List jb} {k:Nat} (h:ha rs k rs'):ha (r::rs) (k+1) (r::rs')
theorem ha.mem {k:Nat}(h:ha rs k rs'):∀ r ∈ rs',r ∈ rs:=by
 induction h with
 | z=>intro r a; exact List.mem_cons_of_mem _ a
 | s _ b=>intro r a; rcases List.mem_cons.1 a with rfl | a; exact List.mem_cons_self; exact List.mem_cons_of_mem _ (b r a)
theorem ha.sub {k:Nat}(h:ha rs k rs'):rs'.Sublist rs:=by
 induction h with
 | z=>exact List.sublist_cons_self _ _
 | s _ a=>exact a.cons_cons _
theorem Sep.drop {k:Nat}(h:Sep S Gd w0 w rs A) (a:ha rs k rs'):Sep S Gd w0 w rs' A where
 keeps:=h.keeps
 all r d:=h.all r (a.mem r d)
 Xh:=(a.sub.filterMap _).nodup h.Xh
 new b e:=h.new b ((a.sub.filterMap _).subset e)
 si:=h.si.mono fun _ _ c=>⟨c.1,fun hm=>c.2 ((a.sub.filterMap _).subset hm)⟩
theorem Sep.freeze {k:Nat}{r:jb}{B:World→Prop}(h:Sep S Gd w0 w rs A) (a:oc rs k r) (d:ha rs k rs') (f:∀ b,r.block=some b→Gd b∨w0.heap.size≤b) (g:∀ w,r.holds w→B w) :
  Sep S Gd w0 w rs' fun w=>A w∧B w where
 keeps:=(h.drop d).keeps
 all:=(h.drop d).all
 Xh:=(h.drop d).Xh
 new:=(h.drop d).new
 si:=(h.drop d).si.and fun w' l i=>g w' (holds_of (h.get a) fun b e=>i b (h.lt (ym (Xt a) e)) ⟨f b e,by
  intro hm;have:blocks rs'=(blocks rs).erase b∨True:=.inr trivial;clear this;have pb:=h.Xh;clear g f l i h;unfold blocks at hm pb;unfold oc at a
  induction d with
  | z=>simp at a; subst a; simp only [List.filterMap_cons,e,List.nodup_cons] at pb; exact pb.1 hm
  | @s r' rs rs' k d j =>
   simp at a;cases hc:r'.block with
   | none=>simp only [List.filterMap_cons,hc] at hm pb; exact j a hm pb
   | some c =>
    simp only [List.filterMap_cons,hc,List.nodup_cons,List.mem_cons] at hm pb;rcases hm with rfl | hm
    ·exact pb.1 (List.mem_filterMap.2 ⟨r,List.mem_of_getElem? a,e⟩)
    ·exact j a hm pb.2⟩)
inductive Rb (fr:List Value):Nat→List (Nat×Operand)→List Value→Prop where
 | z {i:Nat}:Rb fr i [] []
 | s {i:Nat} {x:Operand} {v:Value} {xs:List (Nat×Operand)} {vs:List Value} (h:db fr x v) (hc:ee v=true) (t:Rb fr (i+1) xs vs):Rb fr i ((i,x)::xs) (v::vs)
theorem Rb.eval {i:Nat}{xs:List (Nat×Operand)}{vs:List Value}(h:Rb fr i xs vs):xs.map (fun p=>(p.1,(F fr ds).eval p.2))=(vs.zipIdx i).map fun p=>(p.2,p.1):=by
 induction h with
 | z=>rfl
 | s h _ _ a=>simp [h ds,a]
theorem Rb.cell {i:Nat}{xs:List (Nat×Operand)}{vs:List Value}(h:Rb fr i xs vs):∀ v ∈ vs,ee v=true:=by
 induction h with
 | z=>simp
 | s _ hc _ a=>intro v Nb; rcases List.mem_cons.1 Nb with rfl | Nb; exact hc; exact a v Nb
theorem Xv {v:Value}(h:ee v=true):v.cells=#[v]:=by cases v<;>first | rfl | simp [ee] at h
theorem kA (pl:Nat→Option (Nat×Nat)) (a:∀ i,pl i=some (i,1)):∀ (vs:List Value) (i:Nat) (cs:List Value),(∀ v ∈ vs,ee v=true)→i+vs.length≤cs.length →
  Instr.fill pl ⟨cs⟩ ((vs.zipIdx i).map fun p=>(p.2,p.1))=some ⟨cs.take i++vs++cs.drop (i+vs.length)⟩
 | [],i,cs,_,h=>by simp [Instr.fill]
 | v::vs,i,cs,Nb,h=>by
  have hc:=Xv (Nb v (by simp));have b:i<cs.length:=by simp at h;omega
  have d:=kA pl a vs (i+1) (cs.set i v) (fun u hu=>Nb u (by simp [hu])) (by simp at h ⊢;omega);simp only [List.zipIdx_cons,List.map_cons,Instr.fill,a,hc];have nc:¬ ((#[v].size≠1 || i+#[v].size > (⟨cs⟩:Array Value).size)=true):=by simp;omega
  rw [if_neg nc];have Ya:(#[v].zipIdx.foldl (fun cs (c,j)=>cs.setIfInBounds (i+j) c) (⟨cs⟩:Array Value))=⟨cs.set i v⟩:=by
   simp [Array.zipIdx]
  rw [Ya,d];have e:(cs.set i v).take (i+1)=cs.take i++[v]:=by
   rw [List.take_set,List.take_add_one,List.getElem?_eq_getElem b];rw [List.set_append_right _ _ (by simp;omega)];simp [Nat.min_eq_left (Nat.le_of_lt b)]
  have f:(cs.set i v).drop (i+1+vs.length)=cs.drop (i+(v::vs).length):=by
   rw [List.drop_set_of_lt (by omega)];congr 1;simp;omega
  rw [e,f];simp
theorem Ff {e:TypeId}{len:Nat}{xs:List (Nat×Operand)}{vs:List Value}(l:P.underlying T=some (.slice e)) (a:kc P e zf td 1 m) (c:Rb fr 0 xs vs) (d:vs.length=len) (n:(decide (len≤16777216))=true) (o:Sep S Gd w0 w rs A)
  (h:∀ b w',w.heap.size≤b→Sep S Gd w0 w' (.ba b e vs::rs) A→Ng fr dst (.slice (some ⟨b,0,none⟩) len len) fun U=>K U ds w'):Ed P (Oper.mk dst (.buildSlice T len ⟨xs⟩) ty pos after g) fr ds w K Q:=by
 obtain ⟨U,pb⟩:=Sh fr dst (.slice (some ⟨w.heap.size,0,none⟩) len len);refine Bh (v:=.slice (some ⟨w.heap.size,0,none⟩) len len) (w':=w.alloc (.cells ⟨vs⟩ e)) ?_ pb (h _ _ (Nat.le_refl _) (o.alloc rfl (heap_alloc_new w _)) U pb);obtain ⟨z,q,hc⟩:=a.zero (w:=w);have r:=a.sizeOf (w:=w);have s:¬ (len*1 > 2 ^ 24):=by have:=of_decide_eq_true n;omega
 have t:=c.eval (ds:=ds);have f:∀ cs:Array Value,cs.size=len→Instr.fill (fun i=>some (i*1,1)) cs ((vs.zipIdx 0).map fun p=>(p.2,p.1))=some ⟨vs⟩:=by
  intro cs j;have:=kA (fun i=>some (i*1,1)) (fun i=>by rw [Nat.mul_one]) vs 0 cs.toList c.cell (by simp [d,j]);rw [this,List.drop_eq_nil_of_le (by simp [d,j])];simp
 have u:((⟨xs⟩:Array (Nat×Operand)).map fun (i,x)=>(i,(F fr ds).eval x)).toList=(vs.zipIdx 0).map fun p=>(p.2,p.1):=by
  simp only [Array.toList_map];exact t
 unfold execOp;simp only [Instr.buildSlice,Sem.run_bind,run_underlying l,Result.andThen_ok,r,if_neg s,u];by_cases k:len*1=0
 ·simp only [if_pos k,Sem.run_bind,Sem.run_pure,Result.andThen_ok];rw [f _ (by simp)];simp [newRow]
 ·simp only [if_neg k,Sem.run_bind,Sem.run_pure,Result.andThen_ok,q];rw [f _ (by simp)];simp [newRow]
theorem Sep.row {k:Nat}{v q:Value}{sz u:Nat}{xs x:List Value}{w':World}(f:Sep S Gd w0 w rs A) (g:oc rs k (.row v T sz n xs)) (C:sc rs k (.row q T sz u x) rs') (G:Row w' q T sz u x)
  (p:Th (fun b=>some b≠v.ownBlock) w w') (Nb:q.ownBlock=v.ownBlock∨∃ b,q.ownBlock=some b∧w.heap.size≤b):Sep S Gd w0 w' rs' A:=by
 unfold sc at C;subst C;have y:∀ b,v.ownBlock=some b→b ∈ blocks rs:=fun b d=>ym (Xt g) d;have z:∀ b ∈ blocks (rs.set k (.row q T sz u x)),(b ∈ blocks rs)∨(q.ownBlock=some b∧w.heap.size≤b):=by
  intro b d;obtain ⟨r,t,o⟩:=List.mem_filterMap.1 d;rcases List.mem_or_eq_of_mem_set t with hm | rfl
  ·exact .inl (ym hm o)
  ·rcases Nb with Nb | ⟨c,hc,hle⟩
   ·exact .inl (y b (Nb ▸ o))
   ·have:c=b:=by simpa [jb.block,hc] using o
    subst this;exact .inr ⟨hc,hle⟩
 have H:∀ b ∈ blocks rs,b ∈ blocks (rs.set k (.row q T sz u x))∨v.ownBlock=some b:=by
  intro b d;obtain ⟨r,t,o⟩:=List.mem_filterMap.1 d;obtain ⟨j,B⟩:=List.mem_iff_getElem?.1 t;by_cases e:k=j
  ·subst e;unfold oc at g;rw [g] at B;cases B;exact .inr o
  ·exact .inl (ym (r:=r) (List.mem_of_getElem? (i:=j) (by rw [List.getElem?_set_ne e];exact B)) o)
 refine ⟨?_,?_,?_,?_,?_⟩
 ·refine ⟨p.os.trans f.keeps.os,p.tape.trans f.keeps.tape,p.output.trans f.keeps.output,Nat.le_trans f.keeps.size p.size,fun b d s=>?_⟩;rw [p.ba b (Nat.lt_of_lt_of_le d f.keeps.size) (fun e=>by rcases f.new b (y b e.symm) with h | h;exact absurd d (by omega);exact h s)];exact f.keeps.ba b d s
 ·intro K M;obtain ⟨j,hm⟩:=List.mem_iff_getElem?.1 M;by_cases e:k=j
  ·subst e;have m:k<rs.length:=(List.getElem?_eq_some_iff.1 g).1;rw [List.getElem?_set_self m] at hm;cases hm;exact G
  ·rw [List.getElem?_set_ne e] at hm;refine holds_of (f.all K (List.mem_of_getElem? hm)) fun c hc=>p.ba c (f.lt (ym (List.mem_of_getElem? hm) hc)) fun N=>?_;exact Ez f.Xh g hm e (b:=c) N.symm hc
 ·have pb:=f.Xh;have m:=fun b (d:b ∈ blocks rs)=>f.lt d;clear z H y;unfold oc at g
  revert g pb m
  generalize rs=l;unfold blocks;intro g pb m
  induction l generalizing k with
  | nil=>simp at g
  | cons a l D =>
   cases k with
   | zero =>
    simp at g;subst g;simp only [List.set_cons_zero,List.filterMap_cons,jb.block] at pb m ⊢;rcases Nb with Nb | ⟨c,hc,hle⟩
    ·rw [Nb];exact pb
    ·rw [hc];cases d:v.ownBlock with
     | none =>
      rw [d] at pb m;exact List.nodup_cons.2 ⟨fun hm=>by have:=m c hm;omega,pb⟩
     | some b =>
      rw [d] at pb m;exact List.nodup_cons.2 ⟨fun hm=>by have:=m c (List.mem_cons_of_mem _ hm);omega,(List.nodup_cons.1 pb).2⟩
   | succ k =>
    simp at g;simp only [List.set_cons_succ,List.filterMap_cons] at pb m ⊢;cases F:a.block with
    | none=>rw [F] at pb m; exact D g pb m
    | some c =>
     rw [F] at pb m;simp only [List.nodup_cons] at pb ⊢;refine ⟨fun hm=>?_,D g pb.2 fun b d=>m b (List.mem_cons_of_mem _ d)⟩;obtain ⟨r,t,o⟩:=List.mem_filterMap.1 hm;rcases List.mem_or_eq_of_mem_set t with hm | rfl
     ·exact pb.1 (List.mem_filterMap.2 ⟨r,hm,o⟩)
     ·rcases Nb with Nb | ⟨P,Q,hle⟩
      ·exact pb.1 (List.mem_filterMap.2 ⟨_,List.mem_of_getElem? g,by rw [← o];exact Nb.symm⟩)
      ·have:P=c:=by simpa [jb.block,Q] using o
       have:=m c (by simp);omega
 ·intro b d;rcases z b d with h | h
  ·exact f.new b h
  ·exact .inl (Nat.le_trans f.keeps.size h.2)
 ·intro R V W;refine f.si R (Nat.le_trans p.size V) fun b d s=>?_;rw [W b (Nat.lt_of_lt_of_le d p.size) ⟨s.1,fun hm=>by rcases z b hm with h | h;exact s.2 h;exact absurd d (by omega)⟩];exact p.ba b d fun e=>s.2 (y b e.symm)
end
section
variable {P:Program}{Q:Exit→Act→World→Prop}{K:List Value→List Deferred→World→Prop}{fr U:List Value}{ds:List Deferred}{w:World}
variable {dst:Option Tmp}{ty:TypeId}{pos:String}{after:Array Edge}{g:Option (Nat×Bool)}
variable {S Gd:Nat→Prop}{w0:World}{rs rs':List jb}{A:World→Prop}
variable {T:TypeId}{d:TypeDesc}{zf:Bool}{td:List Value}{n m:Nat}
theorem zC {t ty:TypeId}{sz bytes:Nat}(q:P.underlying t=some (.slice T)) (N:kc P T zf td sz bytes) (Q:td.length=sz) (fd:0<sz)
  {v:Value}{xs:List Value}(l:Row w v T sz n xs) {a:Addr}{m c:Nat}{news:List Value}(f:news.length=m*sz) (x:∀ j u,news[j]?=some u→w.cell? (a.add j)=some u) (R:∀ u ∈ news,u.oneCell'=true)
  (D:n+m≤maxLen) (F:(n+m)*bytes≤140737488355328) :
  ∃ r w',(Builtin.append_ #[t,t] ty #[v,.slice (some a) m c]).run P w=.ok r w'∧Row w' r T sz (n+m) (xs++news)∧Th (fun b=>some b≠v.ownBlock) w w' ∧
   (r.ownBlock=v.ownBlock∨∃ b,r.ownBlock=some b∧w.heap.size≤b):=by
 obtain ⟨i,z,s,G,S,H,V⟩:=N.inf;have W:z.cells.size=i.size:=by rw [S,H];simpa using Q
 subst H;subst V;have id:n+m≤9223372036854775807:=by simp only [maxLen] at D;omega
 have hlen:(xs++news).length=(n+m)*i.size:=by rw [List.length_append,l.1,f,Nat.add_mul]
 have grown:∀ (d:Nat),d<n+m→∀ (row:Option Nat),
   Row (w.drew.alloc (.cells (xs.toArray++news.toArray++Builtin.zeroCells z.cells (grownCap w (n+m) d T - (n+m))) T)) (.slice (some ⟨w.heap.size,0,none⟩) (n+m) (grownCap w (n+m) d T)) T i.size (n+m) (xs++news) ∧
   Th (fun b=>some b≠row) w (w.drew.alloc (.cells (xs.toArray++news.toArray++Builtin.zeroCells z.cells (grownCap w (n+m) d T - (n+m))) T)):=by
  intro d md row;have X:=grownCap_ge w (n+m) d T;have y:grownCap w (n+m) d T≤maxLen:=grownCap_le_maxLen w (n+m) d T D;refine ⟨⟨hlen,.inr ⟨w.heap.size,0,_,_,rfl,heap_alloc_new w.drew _,X,y,?_,?_⟩⟩,⟨rfl,rfl,rfl,by simp,fun k A _=>heap_alloc_old w.drew _ k A⟩⟩
  ·simp only [Array.size_append,List.size_toArray,size_zeroCells,W,l.1,f,← Nat.add_mul,Nat.zero_add];exact Nat.mul_le_mul_right _ (by omega)
  ·simp only [Array.toList_append,List.append_assoc,List.drop_zero];rw [← List.append_assoc,← hlen];exact List.take_left
 rcases l.2 with ⟨rfl,rfl⟩ | ⟨g,o,cap,cur,rfl,B,rd,y,wd,K⟩
 ·have Y:xs=[]:=List.eq_nil_of_length_eq_zero (by simpa using l.1);subst Y;by_cases hm:m=0
  ·subst hm;have Z:news=[]:=List.eq_nil_of_length_eq_zero (by simpa using f);subst Z;refine ⟨.slice none 0 0,w,?_,⟨by simp,.inl ⟨rfl,rfl⟩⟩,.refl w,.inl rfl⟩;simp [Builtin.append_,run_underlying q,sizeOf,typeInfo,s,Builtin.lenOf,Builtin.firstCells,loadCells,loadCellsFrom]
  ·have p:=run_append_nil (P:=P) w t ty T i z q s G a m c news f x (by omega) (by omega) (by have gc:=F;simp only [Nat.zero_add] at gc;omega);have h:=grown 0 (by omega) (Value.ownBlock (.slice none 0 0));simp only [Nat.zero_add,List.nil_append,Array.empty_append] at h ⊢;exact ⟨_,_,p,h.1,h.2,.inr ⟨_,rfl,Nat.le_refl _⟩⟩
 ·by_cases C:n+m≤cap
  ·have hmul:n*i.size+news.length≤cap*i.size:=by rw [f,← Nat.add_mul];exact Nat.mul_le_mul_right _ C
   have hc:o+n*i.size+news.length≤cur.size:=by omega
   have p:(Builtin.append_ #[t,t] ty #[.slice (some ⟨g,o,none⟩) n cap,.slice (some a) m c]).run P w =
     .ok (.slice (some ⟨g,o,none⟩) (n+m) cap) (w.setRow g (cur.toList.take (o+n*i.size)++news++cur.toList.drop (o+n*i.size+news.length)).toArray):=by
    have lc:=run_firstCells_some (P:=P) w i.size m a m c news f x;have M:=run_storeCells_at P g (o+n*i.size) T news 0 cur w B (by simpa using hc) R;simp only [Nat.add_zero] at M;simp [Builtin.append_,run_underlying q,sizeOf,typeInfo,s,Builtin.lenOf,C,lc,Tj,M]
   refine ⟨_,_,p,⟨hlen,.inr ⟨g,o,cap,_,rfl,setRow_heap w g cur _ T _ B,C,y,?_,?_⟩⟩,⟨rfl,rfl,rfl,by simp [World.setRow],fun k _ A=>setRow_other w g k _ (fun e=>A (by simp [Value.ownBlock,e]))⟩,.inl rfl⟩
   ·simp only [List.size_toArray,List.length_append,List.length_take,List.length_drop,Array.length_toList];omega
   ·rw [← hlen,← K];have Ya:(cur.toList.take (o+n*i.size)).drop o=(cur.toList.drop o).take (n*i.size):=by
     rw [List.drop_take];congr 1;omega
    have rc:o≤(cur.toList.take (o+n*i.size)).length:=by simp;omega
    rw [List.append_assoc,List.drop_append_of_le_length rc,Ya,← List.append_assoc];exact List.take_left
  ·have holds:∀ j u,xs[j]?=some u→w.cell? ((⟨g,o,none⟩:Addr).add j)=some u:=by
    intro j u hu;rw [Tj,cell_of_row w g (o+j) cur T (0,0) B];rw [← K,List.getElem?_take] at hu;split at hu
    ·rw [List.getElem?_drop] at hu;simpa using hu
    ·cases hu
   have p:=run_append_grow (P:=P) w t ty T i z q s G ⟨g,o,none⟩ n cap xs l.1 holds a m c news f x (by omega) (by omega) (growslice_fits (by omega) F);have h:=grown cap (by omega) (Value.ownBlock (.slice (some ⟨g,o,none⟩) n cap));exact ⟨_,_,p,h.1,h.2,.inr ⟨_,rfl,Nat.le_refl _⟩⟩
theorem Sep.yh (h:Sep S Gd w0 w rs A) (T:TypeId) (sz:Nat):Sep S Gd w0 w (.row (.slice none 0 0) T sz 0 []::rs) A where
 keeps:=h.keeps
 all r a:=by
  rcases List.mem_cons.1 a with rfl | a
  ·exact ⟨by simp,.inl ⟨rfl,rfl⟩⟩
  ·exact h.all r a
 Xh:=h.Xh
 new:=h.new
 si:=h.si
theorem qn {t:TypeId}{s x:Operand}{v:Value}{sz bytes k b o e c:Nat}{xs news:List Value}(p:P.underlying t=some (.slice T)) (q:kc P T zf td sz bytes) (f:(td.length == sz && decide (0<sz))=true)
  (r:db fr s v) (y:db fr x (.slice (some ⟨b,o,none⟩) e c)) (i:Sep S Gd w0 w rs A) (l:oc rs k (.row v T sz n xs)) (z:ui w b o news) (hlen:news.length=e*sz) (B:news.all ee=true)
  (m:n+e≤4294967296∧bytes≤4096)
  (h:∀ d w' rs',sc rs k (.row d T sz (n+e) (xs++news)) rs'→Sep S Gd w0 w' rs' A→Ng fr dst d fun U=>K U ds w') :
  Ed P (Oper.mk dst (.call { callee:=.builtin .append,args:=#[s,x],argTypes:=#[t,t] }) ty pos after g) fr ds w K Q:=by
 simp only [Bool.and_eq_true,beq_iff_eq,decide_eq_true_eq] at f;have C:(n+e)*bytes≤140737488355328:=Nat.le_trans (Nat.mul_le_mul m.1 m.2) (by decide);obtain ⟨d,w',D,F,G,Nb⟩:=zC (P:=P) (ty:=ty) p q f.1 f.2 (i.get l) (a:=⟨b,o,none⟩) (c:=c) hlen (fun j u hu=>by rw [Tj];exact z j u hu) (fun u hu=>jt (List.all_eq_true.1 B u hu)) (by unfold maxLen;omega) C;obtain ⟨U,pb⟩:=Sh fr dst d;refine Bh (v:=d) (w':=w') ?_ pb (h d w' _ rfl (i.row l rfl F G Nb) U pb);have Ya:=r ds;have H:=y ds;simp [execOp,resolve,invoke,builtin,Ya,H,D]
inductive cp (P:Program) (fr:List Value) (w:World):ResultVar→Value→Prop where
 | t {n:Nat} {v:Value} (h:oc fr n v):cp P fr w (.tmp n) v
 | c {n b o:Nat} {v:Value} {T:TypeId} {td:List Value} {k m:Nat} (h:oc fr n (.pointer (some ⟨b,o,none⟩))) (d:kc P T false td k m) (hc:w.cell? ⟨b,o,none⟩=some v):cp P fr w (.cell n T) v
 | a {n b o:Nat} {cs:List Value} {T:TypeId} {td:List Value} {k m:Nat} (h:oc fr n (.pointer (some ⟨b,o,none⟩))) (d:kc P T true td k m) (hc:ui w b o cs) (e:cs.length=k):cp P fr w (.cell n T) (.agg ⟨cs⟩)
inductive Bb (P:Program) (fr:List Value) (w:World):List ResultVar→List Value→Prop where
 | z:Bb P fr w [] []
 | s {r:ResultVar} {v:Value} {rs:List ResultVar} {vs:List Value} (h:cp P fr w r v) (t:Bb P fr w rs vs):Bb P fr w (r::rs) (v::vs)
def Eo (tmps:Array Value):ResultVar→Sem Value
 | .tmp t=>pure (tmps.getD t undef)
 | .cell a t=>do loadVar t (← asAddr (tmps.getD a undef))
theorem qD (fn:Func) (tmps:Array Value):results fn tmps=(do
  let vs ← fn.results.mapM (Eo tmps)
  pure (if h:vs.size=1 then vs[0] else .tuple vs)):=by
 unfold results;congr 1
theorem cp.run {r:ResultVar}{v:Value}(h:cp P fr w r v):(Eo (F fr ds).tmps r).run P w=.ok v w:=by
 cases h with
 | t h=>unfold oc at h; simp [Eo,F,h]
 | c h d hc=>unfold oc at h; simp [Eo,F,h,asAddr,loadVar,d.isAgg,hc]
 | a h d hc f =>
  unfold oc at h;rename_i n b o cs T td k m;have e:=run_loadCells_list (P:=P) w ⟨b,o,none⟩ cs (fun j v g=>by rw [Tj];exact hc j v g);rw [f] at e;simp [Eo,F,h,asAddr,loadVar,d.isAgg,d.sizeOf,e]
theorem Bb.run {rs:List ResultVar}{vs:List Value}(h:Bb P fr w rs vs):(rs.mapM (Eo (F fr ds).tmps)).run P w=.ok vs w:=by
 induction h with
 | z=>simp
 | @s r v rs vs h _ a =>
  have b:=h.run (ds:=ds);simp only [List.mapM_cons,Sem.run_bind];rw [b];simp only [Result.andThen_ok];rw [a];simp
def Xo:List Value→Value
 | [v]=>v
 | vs=>.tuple ⟨vs⟩
theorem Fz {fn:Func}{a:List ResultVar}{vs:List Value}(b:fn.results=⟨a⟩) (h:Bb P fr w a vs):(results fn (F fr ds).tmps).run P w=.ok (Xo vs) w:=by
 have hm:=h.run (ds:=ds);rw [qD,b];rw [Array.mapM_eq_mapM_toList];simp only [Sem.run_bind,Sem.run_map,hm,Result.andThen_ok]
 match vs with
 | []=>simp [Xo]
 | [v]=>simp [Xo]
 | v::c::vs=>simp [Xo]
theorem Qe {fn:Func}{R:Value→World→Prop}{a:List ResultVar}{vs:List Value}(b:fn.results=⟨a⟩) (Nb:Bb P fr w a vs) (h:R (Xo vs) w):Vm P fn R .ret (F fr []) w :=
 bodyPost_ret (Fz b Nb) rfl h
end
end Go.bc
namespace Go.bc
open Go.RowKit
section
variable {P:Program}{Q:Exit→Act→World→Prop}{K:List Value→List Deferred→World→Prop}{fr U:List Value}{ds:List Deferred}{w:World}
variable {dst:Option Tmp}{ty:TypeId}{pos:String}{after:Array Edge}{g:Option (Nat×Bool)}
variable {S Gd:Nat→Prop}{w0:World}{rs rs':List jb}{A:World→Prop}
variable {T:TypeId}{d:TypeDesc}{zf:Bool}{td:List Value}{n m:Nat}
theorem Sep.ba {k b:Nat}{cs:List Value}(h:Sep S Gd w0 w rs A) (a:oc rs k (.ba b T cs)):Mi w b T cs:=h.get a
inductive Lh:List Value→Nat→List Value→Prop where
 | z {cs:List Value} {o:Nat}:Lh cs o []
 | s {cs:List Value} {o:Nat} {v:Value} {vs:List Value} (h:oc cs o v) (t:Lh cs (o+1) vs):Lh cs o (v::vs)
theorem Lh.at {cs:List Value}{o:Nat}{vs:List Value}(h:Lh cs o vs):∀ j v,vs[j]?=some v→cs[o+j]?=some v:=by
 induction h with
 | z=>intro j v h; simp at h
 | @s o v vs h t b =>
  intro j u a;cases j with
  | zero=>simp at a; subst a; exact h
  | succ j=>have:=b j u (by simpa using a); rw [show o+(j+1)=o+1+j by omega]; exact this
theorem Mi.It {b o:Nat}{cs vs:List Value}(h:Mi w b T cs) (a:Lh cs o vs):ui w b o vs:=fun j v c=>h.cell (a.at j v c)
theorem se {x y:Operand}{b o k:Nat}{v:Value}{cs a:List Value}(e:kc P T zf td 1 m) (f:db fr x (.pointer (some ⟨b,o,none⟩))) (i:db fr y v) (Nb:ee v=true)
  (j:Sep S Gd w0 w rs A) {c:TypeId}(l:oc rs k (.ba b c cs)) (n:sc cs o v a) (d:(decide (o<cs.length))=true) (p:sc rs k (.ba b c a) rs')
  (pb:Ze fr dst undef U) (h:∀ w',Sep S Gd w0 w' rs' A→K U ds w'):Ed P (Oper.mk dst (.store T x y) ty pos after g) fr ds w K Q :=
 Yp (vs:=[v]) e f i (Xv Nb) rfl (by simp [Nb]) j l (.s n (of_decide_eq_true d) .z) (decide_eq_true (Nat.le_of_lt (of_decide_eq_true d))) p pb h
structure Ig (P:Program) (T:TypeId) (pl:Array (Nat×Nat)):Prop where
 out:∃ a,P.underlying T=some (.struct a)∧∀ w,((a.mapM fun f=>do pure (f.offset,← Go.sizeOf f.type):Sem (Array (Nat×Nat))).run P w)=.ok pl w
theorem Yg {a:Array Field}{pl:Array (Nat×Nat)}(hu:P.underlying T=some (.struct a)) (h:∀ w,((a.mapM fun f=>do pure (f.offset,← Go.sizeOf f.type):Sem (Array (Nat×Nat))).run P w)=.ok pl w):Ig P T pl:=⟨a,hu,h⟩
inductive Ia (fr:List Value) (pl:Array (Nat×Nat)):List Value→List (Nat×Operand)→List Value→Prop where
 | z {cs:List Value}:Ia fr pl cs [] cs
 | o {cs cs1 out:List Value} {i off:Nat} {x:Operand} {v:Value} {xs:List (Nat×Operand)} (a:pl[i]?=some (off,1)) (b:db fr x v) (Nb:ee v=true) (c:decide (off<cs.length)=true) (d:sc cs off v cs1) (t:Ia fr pl cs1 xs out):Ia fr pl cs ((i,x)::xs) out
 | n {cs cs1 out vs:List Value} {i off n:Nat} {x:Operand} {xs:List (Nat×Operand)} (a:pl[i]?=some (off,n)) (b:db fr x (.agg ⟨vs⟩)) (e:vs.length=n) (c:decide (off+n≤cs.length)=true) (d:pf cs off vs cs1) (t:Ia fr pl cs1 xs out):Ia fr pl cs ((i,x)::xs) out
theorem br:∀ (vs:List Value) (off j:Nat) (cs:List Value),off+j+vs.length≤cs.length →
  ((vs.zipIdx j).foldl (fun (cs:Array Value) (p:Value×Nat)=>cs.setIfInBounds (off+p.2) p.1) ⟨cs⟩)=⟨cs.take (off+j)++vs++cs.drop (off+j+vs.length)⟩
 | [],off,j,cs,_=>by simp
 | v::vs,off,j,cs,h=>by
  have a:off+j<cs.length:=by simp at h;omega
  rw [List.zipIdx_cons,List.foldl_cons];have nc:(⟨cs⟩:Array Value).setIfInBounds (off+j) v=⟨cs.set (off+j) v⟩:=by simp
  simp only [nc];rw [br vs off (j+1) (cs.set (off+j) v) (by simp at h ⊢;omega)];have b:(cs.set (off+j) v).take (off+(j+1))=cs.take (off+j)++[v]:=by
   rw [show off+(j+1)=off+j+1 by omega,List.take_set,List.take_add_one,List.getElem?_eq_getElem a];rw [List.set_append_right _ _ (by simp;omega)];simp [Nat.min_eq_left (Nat.le_of_lt a)]
  have c:(cs.set (off+j) v).drop (off+(j+1)+vs.length)=cs.drop (off+j+(v::vs).length):=by
   rw [List.drop_set_of_lt (by omega)];congr 1;simp;omega
  rw [b,c];simp
theorem Ia.run {pl:Array (Nat×Nat)}{cs out:List Value}{xs:List (Nat×Operand)}(h:Ia fr pl cs xs out):Instr.fill (pl[·]?) ⟨cs⟩ (xs.map fun p=>(p.1,(F fr ds).eval p.2))=some ⟨out⟩:=by
 induction h with
 | z=>rfl
 | @o cs cs1 out i off x v xs b d Nb e a t f =>
  have g:=of_decide_eq_true e;simp only [List.map_cons,Instr.fill,b,d ds,Xv Nb];have nc:¬ ((#[v].size≠1 || off+#[v].size > (⟨cs⟩:Array Value).size)=true):=by simp;omega
  rw [if_neg nc];have Ya:(#[v].zipIdx.foldl (fun cs (c,j)=>cs.setIfInBounds (off+j) c) (⟨cs⟩:Array Value))=⟨cs1⟩:=by
   unfold sc at a;subst a;simp [Array.zipIdx]
  rw [Ya];exact f
 | @n cs cs1 out vs i off n x xs b d k e a t f =>
  have g:=of_decide_eq_true e;simp only [List.map_cons,Instr.fill,b,d ds];have nc:¬ (((Value.agg ⟨vs⟩).cells.size≠n || off+(Value.agg ⟨vs⟩).cells.size > (⟨cs⟩:Array Value).size)=true):=by simp [Value.cells,k];omega
  rw [if_neg nc];have Ya:((Value.agg ⟨vs⟩).cells.zipIdx.foldl (fun cs (c,j)=>cs.setIfInBounds (off+j) c) (⟨cs⟩:Array Value))=⟨cs1⟩:=by
   have:=br vs off 0 cs (by omega);rw [a.res (by omega)];simp only [Nat.add_zero] at this;rw [← this];rw [← Array.foldl_toList];simp [Value.cells]
  rw [Ya];exact f
theorem bd {pl:Array (Nat×Nat)}{xs:List (Nat×Operand)}{out:List Value}(a:kc P T zf td n m) (b:Ig P T pl) (c:Ia fr pl td xs out) (d:Ze fr dst (.agg ⟨out⟩) U) (h:K U ds w) :
  Ed P (Oper.mk dst (.build T ⟨xs⟩) ty pos after g) fr ds w K Q:=by
 refine Bh (v:=.agg ⟨out⟩) (w':=w) ?_ d h;obtain ⟨z,e,hc⟩:=a.zero (w:=w);have f:=c.run (ds:=ds);obtain ⟨o,j,k⟩:=b.out;have hm:=k w;have l:((⟨xs⟩:Array (Nat×Operand)).map fun (i,x)=>(i,(F fr ds).eval x)).toList=xs.map fun p=>(p.1,(F fr ds).eval p.2):=by simp
 unfold execOp;simp only [Instr.build,Sem.run_bind,e,Result.andThen_ok,run_underlying j];rw [hm];simp only [Result.andThen_ok,hc,l];rw [f];simp
theorem Bl {e:TypeId}{x:Operand}{cs:List Value}(k:P.underlying T=some (.slice e)) (j:kc P e zf td n m) (c:(td.length == n && decide (0<n) && decide (n≤1000))=true) (l:db fr x (.agg ⟨cs⟩)) (d:cs.length=n) (o:Sep S Gd w0 w rs A)
  (h:∀ b w',w.heap.size≤b→Sep S Gd w0 w' (.ba b e cs::rs) A→Ng fr dst (.slice (some ⟨b,0,none⟩) 1 1) fun U=>K U ds w'):Ed P (Oper.mk dst (.buildSlice T 1 #[(0,x)]) ty pos after g) fr ds w K Q:=by
 obtain ⟨U,pb⟩:=Sh fr dst (.slice (some ⟨w.heap.size,0,none⟩) 1 1);refine Bh (v:=.slice (some ⟨w.heap.size,0,none⟩) 1 1) (w':=w.alloc (.cells ⟨cs⟩ e)) ?_ pb (h _ _ (Nat.le_refl _) (o.alloc rfl (heap_alloc_new w _)) U pb);obtain ⟨z,p,hc⟩:=j.zero (w:=w);have q:=j.sizeOf (w:=w);simp only [Bool.and_eq_true,beq_iff_eq,decide_eq_true_eq] at c;have r:¬ (1*n > 2 ^ 24):=by have:=c.2;omega
 have s:¬ (1*n=0):=by have:=c.1.2;omega
 have t:∀ a:Array Value,a.size=n→Instr.fill (fun i=>some (i*n,n)) a [(0,Value.agg ⟨cs⟩)]=some ⟨cs⟩:=by
  intro a f;simp only [Instr.fill];have nc:¬ (((Value.agg ⟨cs⟩).cells.size≠n || 0*n+(Value.agg ⟨cs⟩).cells.size > a.size)=true):=by simp [Value.cells,d,f]
  rw [if_neg nc];congr 1;have u:=br cs (0*n) 0 a.toList (by simp [d,f]);rw [← Array.foldl_toList];have Ya:(Value.agg ⟨cs⟩).cells.zipIdx.toList=cs.zipIdx 0:=by simp [Value.cells]
  rw [Ya];refine u.trans ?_;rw [List.drop_eq_nil_of_le (by simp [d,f])];simp
 have y:(#[(0,x)].map fun (i,x)=>(i,(F fr ds).eval x)).toList=[(0,Value.agg ⟨cs⟩)]:=by simp [l ds]
 unfold execOp;simp only [Instr.buildSlice,Sem.run_bind,run_underlying k,Result.andThen_ok,q,if_neg r,y,if_neg s,Sem.run_pure,p];rw [t _ (by simp)];simp [newRow]
end
theorem Sep.Ve {S Gd:Nat→Prop}{w0 w:World}{rs rs':List jb}{A:World→Prop}{k:Nat}{r:jb}(h:Sep S Gd w0 w (rs.set k r) A) (a:sc rs k r rs'):Sep S Gd w0 w rs' A:=by
 unfold sc at a;rw [← a];exact h
theorem Sep.drew {S Gd:Nat→Prop}{w0 w w':World}{rs:List jb}{A:World→Prop}(h:Sep S Gd w0 w rs A) (a:w'.heap=w.heap) (b:w'.os=w.os) (c:w'.tape=w.tape) (hu:w'.output=w.output):Sep S Gd w0 w' rs A :=
 h.grow ⟨b,c,hu,by rw [a];exact Nat.le_refl _,fun k _ _=>by rw [a]⟩
section
variable {P:Program}{Q:Exit→Act→World→Prop}{K:List Value→List Deferred→World→Prop}{fr U:List Value}{ds:List Deferred}{w:World}
variable {dst:Option Tmp}{ty:TypeId}{pos:String}{after:Array Edge}{g:Option (Nat×Bool)}
variable {T:TypeId}
theorem xw (a b:ByteArray):(a == b)=true ↔ a=b:=by
 obtain ⟨x⟩:=a;obtain ⟨y⟩:=b;constructor
 ·intro h;have e:x=y:=by simpa using (show (x == y)=true from h)
  rw [e]
 ·intro h;cases h;show (x == x)=true;simp
structure mm (P:Program) (m:Nat) (T:TypeId) (v a:Value) (b:Bool):Prop where
 out:∀ d w,m≤d→(Op.equalIn d T v a).run P w=.ok b w
theorem eq_int {k c:IntKind}{a b:Int}(hu:P.underlying T=some (.int k)):mm P 1 T (.int c a) (.int c b) (decide (a=b)):=⟨fun d w pb=>by
 cases d with
 | zero=>omega
 | succ d=>simp [Op.equalIn,run_underlying hu]; by_cases h:a=b <;> simp [h]⟩
theorem tB {a b:List UInt8}(hu:P.underlying T=some .string):mm P 1 T (S a) (S b) (decide (a=b)):=⟨fun d w pb=>by
 cases d with
 | zero=>omega
 | succ d =>
  simp only [Op.equalIn,run_underlying hu,S,Sem.run_bind,Result.andThen_ok,Sem.run_pure];congr 1;rw [Bool.eq_iff_iff,xw];simp⟩
def Mk:List Bool→Bool
 | []=>true
 | [b]=>b
 | b::Tc=>b && Mk Tc
theorem Ls (b:Bool) (Tc:List Bool):Mk (b::Tc)=(b && Mk Tc):=by cases Tc<;>simp [Mk]
inductive yj (P:Program) (m:Nat) (xs ys:List Value):List Field→List Bool→Prop where
 | z:yj P m xs ys [] []
 | o {f : Field} {a : List Field} {v d : Value} {b : Bool} {Tc : List Bool} {T : TypeId} {off : Nat} {td : List Value} {n k : Nat} (e : (f.name == "_") = false) (g : f.type = T) (h : f.offset = off) (i : kc P T false td n k) (j : oc xs off v) (l : oc ys off d) (he : mm P m T v d b) (t : yj P m xs ys a Tc) : yj P m xs ys (f :: a) (b :: Tc)
 | n {f : Field} {a : List Field} {vs c : List Value} {b : Bool} {Tc : List Bool} {T : TypeId} {off : Nat} {td : List Value} {n k : Nat} (e : (f.name == "_") = false) (g : f.type = T) (h : f.offset = off) (i : kc P T true td n k) (j : Lh xs off vs) (l : Lh ys off c) (p : vs.length = n) (q : c.length = n) (he : mm P m T (.agg ⟨vs⟩) (.agg ⟨c⟩) b) (t : yj P m xs ys a Tc) : yj P m xs ys (f :: a) (b :: Tc)
structure dp (P:Program) (T:TypeId) (a:List Field):Prop where
 mz:P.underlying T=some (.struct ⟨a⟩)
 held:P.stoodInHeld T=false
 guard:P.eqGuardType P.depth T=false
theorem lA {td:List Value}{n k off:Nat}{xs:List Value}{v:Value}(b:kc P T false td n k) (a:oc xs off v):(part T ⟨xs⟩ off).run P w=.ok v w:=by
 unfold oc at a;simp [part,b.isAgg,a]
theorem Lh.extract {cs vs:List Value}{o:Nat}(h:Lh cs o vs):(cs.drop o).take vs.length=vs:=by
 induction h with
 | z=>simp
 | @s o v vs Nb t a =>
  unfold oc at Nb;have b:o<cs.length:=(List.getElem?_eq_some_iff.1 Nb).1;rw [List.drop_eq_getElem_cons b,(List.getElem?_eq_some_iff.1 Nb).2];simp [a]
theorem mA {td:List Value}{n k off:Nat}{xs vs:List Value}(a:kc P T true td n k) (b:Lh xs off vs) (c:vs.length=n):(part T ⟨xs⟩ off).run P w=.ok (.agg ⟨vs⟩) w:=by
 have:=b.extract;rw [c] at this;simp [part,a.isAgg,a.sizeOf,this]
theorem yj.run {m:Nat}{xs ys:List Value}{e:List Field}{Tc:List Bool}(h:yj P m xs ys e Tc) (d:Nat) (pb:m≤d) :
  (forIn (⟨e⟩ : Array Field) ((none, ()) : Option Bool × Unit) (fun f _ => (if f.name ≠ "_" then do
     if !(← Op.equalIn d f.type (← part f.type ⟨xs⟩ f.offset) (← part f.type ⟨ys⟩ f.offset)) then pure (ForInStep.done (some false,())) else pure (ForInStep.yield (none,()))
    else pure (ForInStep.yield (none,())):Sem (ForInStep (Option Bool×Unit))))).run P w=.ok (if Mk Tc then (none,()) else (some false,())) w:=by
 induction h with
 | z=>simp [Mk]
 | @o f e v u b Tc T off td n k g i j a l p he t c =>
  subst i; subst j;have q : f.name ≠ "_" := by simpa using g
  simp only [List.forIn_toArray] at c ⊢;rw [List.forIn_cons];simp only [ne_eq,q,not_false_eq_true,if_true,Sem.run_bind,lA a l,lA a p,Result.andThen_ok,he.out d w pb];cases b with
  | true=>simpa [Ls] using c
  | false=>simp [Ls]
 | @n f e vs x b Tc T off td n k g i j a l p r s he t c =>
  subst i; subst j;have q : f.name ≠ "_" := by simpa using g
  simp only [List.forIn_toArray] at c ⊢;rw [List.forIn_cons];simp only [ne_eq,q,not_false_eq_true,if_true,Sem.run_bind,mA a l r,mA a p s,Result.andThen_ok,he.out d w pb];cases b with
  | true=>simpa [Ls] using c
  | false=>simp [Ls]
theorem CG {m:Nat}{xs ys:List Value}{a:List Field}{Tc:List Bool}(b:dp P T a) (h:yj P m xs ys a Tc):mm P (m+1) T (.agg ⟨xs⟩) (.agg ⟨ys⟩) (Mk Tc):=⟨fun d w pb=>by
 cases d with
 | zero=>omega
 | succ d =>
  have:=h.run (w:=w) d (by omega);simp only [Op.equalIn,Sem.run_bind,run_underlying b.mz,Result.andThen_ok];rw [show (program).run P w=.ok P w from rfl];simp only [Result.andThen_ok,b.held,Bool.false_eq_true,if_false,Sem.run_bind];rw [this];cases Mk Tc<;>rfl⟩
def Ty (v:Value) (n:Nat):Prop:=∃ a c,v=.slice a n c
theorem og {x:Operand}{t e:TypeId}{v:Value}{n:Nat}(b:P.underlying t=some (.slice e)) (d:db fr x v) (Nb:Ty v n):Xe P (Oper.mk dst (.call { callee:=.builtin .len,args:=#[x],argTypes:=#[t] }) ty pos after g) fr ((.int .i64 n)):=by
 obtain ⟨a,c,rfl⟩:=Nb;exact Md b d
theorem Hx {x:Operand}{t e:TypeId}{v:Value}{n:Nat}(a:P.underlying t=some (.slice e)) (b:db fr x v) (Nb:Ty v n) (c:Ze fr dst ((.int .i64 n)) U) (h:K U ds w):Ed P (Oper.mk dst (.call { callee:=.builtin .len,args:=#[x],argTypes:=#[t] }) ty pos after g) fr ds w K Q:=sa (og a b Nb) c h
theorem Row.gg {v:Value}{sz n:Nat}{xs:List Value}(h:Row w v T sz n xs):Ty v n:=by
 rcases h.2 with ⟨rfl,rfl⟩ | ⟨g,o,cap,cur,rfl,-⟩
 ·exact ⟨_,_,rfl⟩
 ·exact ⟨_,_,rfl⟩
theorem Row.Xk {v:Value}{sz n:Nat}{xs:List Value}(h:Row w v T sz n xs) (f:0<n):∃ b o c,v=.slice (some ⟨b,o,none⟩) n c∧ui w b o xs:=by
 rcases h.2 with ⟨rfl,rfl⟩ | ⟨g,o,cap,cur,rfl,d,i,k,l,e⟩
 ·omega
 ·refine ⟨g,o,cap,rfl,fun j u a=>?_⟩;rw [cell_of_row w g (o+j) cur T (0,0) d];rw [← e,List.getElem?_take] at a;split at a
  ·rw [List.getElem?_drop] at a;simpa using a
  ·cases a
end
section
variable {P:Program}{Q:Exit→Act→World→Prop}{K:List Value→List Deferred→World→Prop}{fr U:List Value}{ds:List Deferred}{w:World}
variable {dst:Option Tmp}{ty:TypeId}{pos:String}{after:Array Edge}{g:Option (Nat×Bool)}
variable {T:TypeId}
theorem dE {a:List Field}{op:BinOp}{x y:Operand}{xs ys:Array Value}(b:dp P T a):(eqGuard op T x y (.agg xs) (.agg ys)).run P w=.ok () w:=by
 have c:(program).run P w=.ok P w:=rfl;cases op<;>simp [eqGuard,c,b.guard]
theorem SB {x y:Operand}{Wc:TypeId}{m:Nat}{xs ys:List Value}{a:List Field}{Tc:List Bool}(b:dp P T a) (c:db fr x (.agg ⟨xs⟩)) (d:db fr y (.agg ⟨ys⟩)) (h:yj P m xs ys a Tc) (hm:(decide (m<1000))=true) :
  Xe P (Oper.mk dst (.binOp .neq T x y Wc) ty pos after g) fr (.bool (!Mk Tc)):=⟨fun ds w=>by
 have e:=c ds;have f:=d ds;have i:=(CG b h).out Op.maxDepth w (by have:=of_decide_eq_true hm;unfold Op.maxDepth;omega);have j:=dE (w:=w) (op:=.neq) (x:=x) (y:=y) (xs:=⟨xs⟩) (ys:=⟨ys⟩) b;simp [execOp,e,f,j,binOp,Op.equal,i]⟩
theorem IH {x y:Operand}{Wc:TypeId}{m:Nat}{xs ys:List Value}{a:List Field}{Tc:List Bool}(b:dp P T a) (c:db fr x (.agg ⟨xs⟩)) (d:db fr y (.agg ⟨ys⟩)) (he:yj P m xs ys a Tc) (hm:(decide (m<1000))=true)
  (e:Ze fr dst (.bool (!Mk Tc)) U) (h:K U ds w):Ed P (Oper.mk dst (.binOp .neq T x y Wc) ty pos after g) fr ds w K Q:=sa (SB b c d he hm) e h
end
section
variable {P:Program}{Q:Exit→Act→World→Prop}{K:List Value→List Deferred→World→Prop}{fr U:List Value}{ds:List Deferred}{w:World}
variable {dst:Option Tmp}{ty:TypeId}{pos:String}{after:Array Edge}{g:Option (Nat×Bool)}
variable {S Gd:Nat→Prop}{w0:World}{rs rs':List jb}{A:World→Prop}
variable {T:TypeId}
end
end Go.bc
namespace Go.bc
open Go.RowKit
theorem hp {α β:Type}{f g:α→β}{xs:Array α}(h:∀ x ∈ xs,f x=g x):xs.map f=xs.map g:=Array.map_congr_left h
def Lj:Op→Bool
 | .select _ _=>false
 | _=>true
theorem execOp_congr {f g:Operand→Value}(o:Oper) (l:Lj o.op=true) (h:∀ x ∈ o.op.operands,f x=g x):execOp f o=execOp g o:=by
 obtain ⟨dst,op,ty,pos,after,w⟩:=o;have hc:∀ c:Call,(∀ x ∈ c.operands,f x=g x)→resolve f c ty=resolve g c ty:=by
  intro c hc;have q:c.args.map f=c.args.map g:=hp fun x d=>hc x (by simp [Call.operands,d]);unfold resolve;rw [q];obtain ⟨callee,args,tys⟩:=c;cases callee with
  | value x=>simp only; rw [hc x (by simp [Call.operands])]
  | invoke x m=>simp only; rw [hc x (by simp [Call.operands])]
  | builtin b=>rfl
 cases op<;>simp only [Op.operands,List.mem_toArray,List.mem_cons,List.not_mem_nil,or_false,forall_eq_or_imp,forall_eq,Array.mem_append,List.mem_map] at h<;>simp only [execOp]
 case build t Vk =>
  have:(Vk.map fun (i,x)=>(i,f x))=Vk.map fun (i,x)=>(i,g x):=hp fun p e=>by simp only;rw [h p.2 ⟨p,by simpa using e,rfl⟩]
  rw [this]
 case buildSlice t n Vk =>
  have:(Vk.map fun (i,x)=>(i,f x))=Vk.map fun (i,x)=>(i,g x):=hp fun p e=>by simp only;rw [h p.2 ⟨p,by simpa using e,rfl⟩]
  rw [this]
 case makeFunc fn a b =>
  rw [hp (f:=f) (g:=g) (xs:=a) fun x d=>h x (.inl d),hp (f:=f) (g:=g) (xs:=b) fun x d=>h x (.inr d)]
 case makeMap t r=>cases r with
  | none=>rfl
  | some x=>simp only [Option.map]; rw [h x (by simp)]
 case slice t x j k jh =>
  have d:=h x (by simp);have s:j.map f=j.map g:=by cases j with
   | none=>rfl
   | some y=>simp only [Option.map]; rw [h y (by simp)]
  have u:k.map f=k.map g:=by cases k with
   | none=>rfl
   | some y=>simp only [Option.map]; rw [h y (by simp)]
  have v:jh.map f=jh.map g:=by cases jh with
   | none=>rfl
   | some y=>simp only [Option.map]; rw [h y (by simp)]
  rw [d,s,u,v]
 case call c=>rw [hc c h]
 case go c=>rw [hc c h]
 case defer c=>rw [hc c h]
 case select cs b=>exact absurd l (by simp [Lj])
 all_goals (try (simp only [h]))
def bk (ops:Array Oper) (i:Nat):List Nat:=match ops[i]? with
 | some o=>(o.after.toList.filter (Region.binds .any)).map (·.on)
 | none=>[]
def enabled (ops:Array Oper) (R:List Nat) (i:Nat):Bool:=R.contains i && (bk ops i).all fun j=>!R.contains j
inductive Xj (ops:Array Oper):List Nat→List Nat→Prop where
 | z:Xj ops [] []
 | s {R a:List Nat} {i:Nat} (h:enabled ops R i=true) (t:Xj ops (R.erase i) a):Xj ops R (i::a)
theorem ql {ops:Array Oper}{R:List Nat}{i:Nat}(h:enabled ops R i=true):i ∈ R:=by
 simp only [enabled,Bool.and_eq_true,List.contains_iff_mem] at h;exact h.1
theorem Gz {ops:Array Oper}{R:List Nat}{i j:Nat}(h:enabled ops R i=true) (a:j ∈ bk ops i):j ∉ R:=by
 simp only [enabled,Bool.and_eq_true,List.all_eq_true] at h;have:=h.2 j a;simpa using this
def left (n:Nat) (listed:Array Bool):List Nat:=(List.range n).filter fun i=>!listed.getD i true
theorem rD (n:Nat) (listed:Array Bool):(left n listed).Nodup:=List.nodup_range.filter _
theorem BA {n:Nat}{listed:Array Bool}(c:listed.size=n){i:Nat}(d:i ∈ left n listed):left n (listed.setIfInBounds i true)=(left n listed).erase i:=by
 rw [(rD n listed).erase_eq_filter];unfold left;rw [List.filter_filter];apply List.filter_congr;intro j a;have f:j<n:=List.mem_range.1 a;have b:j<listed.size:=by omega
 simp only [Array.getD_eq_getD_getElem?,Array.getElem?_setIfInBounds];by_cases e:i=j
 ·subst e;simp [b]
 ·simp [e,Ne.symm e]
theorem uB {ops:Array Oper}{n:Nat}(a:(List.range n).all (fun i=>(bk ops i).all fun j=>decide (j<i))=true){i j:Nat}(b:i<n) (c:j ∈ bk ops i):j<i:=by
 simp only [List.all_eq_true,List.mem_range,decide_eq_true_eq] at a;exact a i b j c
theorem vB {ops:Array Oper}(q:(List.range ops.size).all (fun i=>(bk ops i).all fun j=>decide (j<i))=true) :
  ∀ (fuel t:Nat) (listed:Array Bool) (acc:List Nat),listed.size=ops.size→(left ops.size listed).length≤fuel→∃ n,Region.linearise.go .any ops fuel t listed acc=acc.reverse++n∧Xj ops (left ops.size listed) n
 | 0,t,listed,acc,o,w=>by
  have f:left ops.size listed=[]:=List.eq_nil_of_length_eq_zero (by omega);exact ⟨[],by simp [Region.linearise.go],by rw [f];exact .z⟩
 | fuel+1,t,listed,acc,o,w=>by
  rw [Region.linearise.go];generalize y:(List.filter (fun i=>!listed.getD i true && (Option.map (fun x=>x.after.all fun e=>!Region.binds .any e || listed.getD e.on false) ops[i]?).getD false) (List.range ops.size))=rs;have r:∀ i,i ∈ rs ↔ enabled ops (left ops.size listed) i=true:=by
   intro i;rw [← y];simp only [List.mem_filter,List.mem_range,Bool.and_eq_true,enabled,List.contains_iff_mem,left,bk];constructor
   ·rintro ⟨b,g,d⟩;refine ⟨⟨b,g⟩,?_⟩;rw [Array.getElem?_eq_getElem b] at d ⊢;simp only [Option.map_some,Option.getD_some,Array.all_eq_true',Bool.or_eq_true,Bool.not_eq_true'] at d;simp only [List.all_eq_true,List.mem_map,List.mem_filter,forall_exists_index,and_imp];rintro j e he k rfl;have:=d e (by simpa using he);rcases this with h | h
    ·rw [h] at k;cases k
    ·simp only [Bool.not_eq_true',List.contains_eq_mem,decide_eq_false_iff_not,List.mem_filter,List.mem_range,not_and,Bool.not_eq_true,Bool.not_eq_false];intro p;have u:e.on<listed.size:=by omega
     simp only [Array.getD,u,dif_pos] at h ⊢;exact h
   ·rintro ⟨⟨b,g⟩,d⟩;refine ⟨b,g,?_⟩;rw [Array.getElem?_eq_getElem b] at d ⊢;simp only [Option.map_some,Option.getD_some,Array.all_eq_true',Bool.or_eq_true,Bool.not_eq_true'];simp only [List.all_eq_true,List.mem_map,List.mem_filter,forall_exists_index,and_imp] at d;intro e he;cases k:Region.binds .any e with
    | false=>exact .inl rfl
    | true =>
     right;have:=d e.on e (by simpa using he) k rfl;simp only [Bool.not_eq_true',List.contains_eq_mem,decide_eq_false_iff_not,List.mem_filter,List.mem_range,not_and,Bool.not_eq_true,Bool.not_eq_false] at this;have p:e.on<i:=uB q b (by
      unfold bk;rw [Array.getElem?_eq_getElem b];simp only [List.mem_map,List.mem_filter];exact ⟨e,⟨by simpa using he,k⟩,rfl⟩)
     have v:=this (by omega);have u:e.on<listed.size:=by omega
     simp only [Array.getD,u,dif_pos] at v ⊢;exact v
  by_cases f:left ops.size listed=[]
  ·have A:rs=[]:=by
    rw [List.eq_nil_iff_forall_not_mem];intro i c;have:=ql ((r i).1 c);rw [f] at this;cases this
   rw [A];simp only [List.length_nil,Nat.mod_zero,List.getElem?_nil];exact ⟨[],by simp,by rw [f];exact .z⟩
  ·-- the least of what is left may be next
   have B:0<rs.length:=by
    obtain ⟨i,c,C⟩:∃ i,i ∈ left ops.size listed∧∀ j,j<i→j ∉ left ops.size listed:=by
     obtain ⟨a,D⟩:=List.exists_mem_of_ne_nil _ f
     induction a using Nat.strongRecOn with
     | _ a F =>
      by_cases hex:∃ j,j<a∧j ∈ left ops.size listed
      ·obtain ⟨j,l,G⟩:=hex;exact F j l G
      ·exact ⟨a,D,fun j l hm=>hex ⟨j,l,hm⟩⟩
    have m:enabled ops (left ops.size listed) i=true:=by
     simp only [enabled,Bool.and_eq_true,List.contains_iff_mem,List.all_eq_true];refine ⟨c,fun j l=>?_⟩;have:=C j (uB q (List.mem_range.1 (List.mem_filter.1 c).1) l);simpa using this
    exact List.length_pos_of_mem ((r i).2 m)
   have p:t % rs.length<rs.length:=Nat.mod_lt _ B;rw [List.getElem?_eq_getElem p];simp only;have m:=(r _).1 (List.getElem_mem p);generalize rs[t % rs.length]=i at m ⊢;have c:=ql m;obtain ⟨n,b,g⟩:=vB q fuel (t / rs.length) (listed.setIfInBounds i true) (i::acc) (by simpa using o) (by
    rw [BA o c,List.length_erase_of_mem c];omega)
   refine ⟨i::n,?_,.s m ?_⟩
   ·rw [b];simp
   ·rw [← BA o c];exact g
theorem BC {ops:Array Oper}(c:(List.range ops.size).all (fun i=>(bk ops i).all fun j=>decide (j<i))=true) (t:Nat):Xj ops (List.range ops.size) (Region.linearise .any ops t):=by
 have a:left ops.size (Array.replicate ops.size false)=List.range ops.size:=by
  unfold left;rw [List.filter_eq_self];intro i d;have:=List.mem_range.1 d;simp [Array.getD,this]
 obtain ⟨f,e,b⟩:=vB c ops.size t (Array.replicate ops.size false) [] (by simp) (by rw [a];simp);unfold Region.linearise;rw [e];rw [a] at b;simpa using b
def vn:Operand→Option Nat
 | .tmp t=>some t
 | _=>none
def reads (ops:Array Oper) (o:Oper):List Nat :=
 o.op.operands.toList.filterMap vn++(match o.guard with
  | some (j,_)=>((ops[j]?).bind (·.dst)).toList
  | none=>[])
def quiet:Op→Bool
 | .move _ | .assign _ | .pick _ _ _ | .load _ _ | .fieldAddr _ _ _ | .indexAddr _ _ _ | .index _ _ _ | .field _ _ _ | .extract _ _=>true
 | _=>false
def apart (ops:Array Oper) (rd:Bool) (R:List Nat) (i:Nat):Bool :=
 match ops[i]? with
 | some o=>match o.dst,o.guard with
  | some d,none=>Lj o.op && R.all fun j=>j == i || (bk ops j).contains i || (match ops[j]? with
    | some p=>Lj p.op && !(reads ops p).contains d && p.dst != some d && (match p.dst with | some e=>!(reads ops o).contains e | none=>true) && (!rd || quiet p.op)
    | none=>true)
  | _,_=>false
 | none=>false
def zb (P:Program){α:Type}(x:Sem α):Prop:=∀ w b w',x.run P w=.ok b w'→w'=w
section
variable {P:Program}{α β:Type}
theorem zb.pure (a:α):zb P (pure a:Sem α):=fun w b w' h=>by simp at h;exact h.2.symm
theorem zb.bind {x:Sem α}{f:α→Sem β}(h:zb P x) (k:∀ a,zb P (f a)):zb P (x >>= f):=fun w b w' c=>by
 rw [Sem.run_bind] at c;cases d:x.run P w with
 | ok a g =>
  rw [d] at c;have:=h w a g d;subst this;exact k a _ b w' c
 | halt e g=>rw [d] at c; cases c
theorem zb.stuck (s:String):zb P (Go.stuck s:Sem α):=fun w b w' h=>by simp [Go.stuck] at h
theorem zb.unsupported (u:Unsupported):zb P (Go.unsupported u:Sem α):=fun w b w' h=>by simp [Go.unsupported] at h
theorem zb.program:zb P Go.program:=fun w b w' h=>by simp at h;exact h.2.symm
theorem zb.load (a:Addr) (m:Mode):zb P (Go.load a m):=fun w b w' h=>by
 unfold Go.load Sem.run at h;split at h
 ·simp [Sem.run] at h;exact h.2.symm
 ·split at h
  ·simp [Sem.run] at h;exact h.2.symm
  ·cases h
theorem zb.shape (r:Nat):zb P (Go.shape r):=fun w b w' h=>by simp [Go.shape,Sem.run] at h;exact h.2.symm
theorem zb.getObj (r:Nat):zb P (Go.getObj r):=fun w b w' h=>by
 unfold Go.getObj Sem.run at h;split at h
 ·cases h
 ·simp [Sem.run] at h;exact h.2.symm
 ·cases h
def Mh (P:Program){α:Type}(x:Sem α):Prop:=∀ w b w',x.run P w≠.ok b w'
theorem Mh.ro {x:Sem α}(h:Mh P x):zb P x:=fun w b w' a=>absurd a (h w b w')
theorem Mh.bind {x:Sem α}{f:α→Sem β}(k:∀ a,Mh P (f a)):Mh P (x >>= f):=fun w b w' c=>by
 rw [Sem.run_bind] at c;cases d:x.run P w with
 | ok a g=>rw [d] at c; exact k a _ _ _ c
 | halt e g=>rw [d] at c; cases c
theorem Mh.goPanic (v:Value):Mh P (Go.goPanic v:Sem α):=fun w b w' h=>by simp [Go.goPanic] at h
theorem Mh.runtimePanic (e:RuntimeError):Mh P (Go.runtimePanic e:Sem α):=by
 unfold Go.runtimePanic;refine Mh.bind fun p=>?_;cases e<;>first | exact Mh.goPanic _ | exact Mh.bind fun _=>Mh.bind fun _=>Mh.goPanic _ | exact Mh.bind fun _=>Mh.goPanic _ | skip
 all_goals (simp only;first | exact Mh.goPanic _ | exact Mh.bind fun _=>Mh.bind fun _=>Mh.goPanic _)
theorem Mh.boundsPanic (k:IntKind) (x y:Int) (c:BoundsCode):Mh P (Go.boundsPanic k x y c:Sem α):=by
 unfold Go.boundsPanic;dsimp only;split<;>exact Mh.bind fun _=>Mh.runtimePanic _
theorem zb.underlying (t:TypeId):zb P (Go.underlying t):=by
 unfold Go.underlying;refine zb.bind zb.program fun p=>?_;split
 ·exact zb.pure _
 ·exact zb.stuck _
theorem zb.typeInfo (t:TypeId):zb P (Go.typeInfo t):=by
 unfold Go.typeInfo;refine zb.bind zb.program fun p=>?_;split
 ·exact zb.pure _
 ·exact zb.stuck _
theorem zb.sizeOf (t:TypeId):zb P (Go.sizeOf t):=by
 unfold Go.sizeOf;exact zb.bind (zb.typeInfo t) fun _=>zb.pure _
theorem zb.isAgg (t:TypeId):zb P (Go.isAgg t):=by
 unfold Go.isAgg;refine zb.bind (zb.underlying t) fun d=>?_;split<;>exact zb.pure _
theorem zb.loadCellsFrom (a:Addr):∀ (n i:Nat) (acc:Array Value),zb P (Go.loadCellsFrom a i n acc)
 | 0,_,_=>zb.pure _
 | n+1,i,_=>zb.bind (zb.load _ _) fun v=>zb.loadCellsFrom a n (i+1) _
theorem zb.loadVar (t:TypeId) (a:Addr):zb P (Go.loadVar t a):=by
 unfold Go.loadVar;refine zb.bind (zb.isAgg t) fun b=>?_;split
 ·exact zb.bind (zb.sizeOf t) fun n=>zb.bind (zb.loadCellsFrom a n 0 _) fun _=>zb.pure _
 ·exact zb.load _ _
theorem zb.part (t:TypeId) (cs:Array Value) (off:Nat):zb P (Go.part t cs off):=by
 unfold Go.part;refine zb.bind (zb.isAgg t) fun b=>?_;split
 ·exact zb.bind (zb.sizeOf t) fun n=>zb.pure _
 ·split
  ·exact zb.pure _
  ·exact zb.stuck _
theorem zb.viewAt (r:Nat):zb P (Go.viewAt r):=by
 unfold Go.viewAt;refine zb.bind (zb.shape r) fun s=>?_;split
 ·exact zb.pure _
 ·refine zb.bind (zb.getObj r) fun o=>?_;split<;>exact zb.pure _
theorem zb.byteOf (a:Addr):zb P (Go.byteOf a):=by
 unfold Go.byteOf;split
 ·exact zb.pure _
 ·refine zb.bind zb.program fun p=>?_;refine zb.bind (by
   unfold noView;refine zb.bind (zb.viewAt _) fun v=>?_;split
   ·exact zb.unsupported _
   ·exact zb.pure _) fun _=>?_
  refine zb.bind (zb.shape _) fun s=>?_;split
  ·dsimp only;split
   ·exact zb.pure _
   ·split
    ·exact zb.pure _
    ·exact zb.stuck _
  ·exact zb.stuck _
theorem zb.fieldPlace (a:Addr) (f:Field):zb P (Go.fieldPlace a f):=by
 unfold Go.fieldPlace;refine zb.bind (zb.sizeOf _) fun n=>?_;split
 ·unfold partAt;exact zb.bind (zb.byteOf a) fun b=>zb.bind (zb.byteOf _) fun _=>zb.pure _
 ·exact zb.pure _
theorem zb.asIntOf (v:Value):zb P (Go.asIntOf v):=by
 unfold Go.asIntOf;split
 ·exact zb.pure _
 ·exact zb.unsupported _
 ·exact zb.stuck _
theorem zb.sureAddr (v:Value):zb P (Instr.sureAddr v):=by
 unfold Instr.sureAddr;split
 ·exact zb.pure _
 ·exact zb.stuck _
theorem jo {f:Operand→Value}{o:Oper}{w w':World}{r:Next}(n:quiet o.op=true) (h:(execOp f o).run P w=.ok r w'):w'=w∧∃ v,r=.value v:=by
 have val:∀ {x:Sem Value},zb P x→(do pure (.value (← x)):Sem Next).run P w=.ok r w'→w'=w∧∃ v,r=.value v:=by
  clear h;intro x p g;rw [Sem.run_bind] at g;cases j:x.run P w with
  | ok v l =>
   rw [j] at g;have hw:=p w v l j;have q:Result.ok (Next.value v) l=Result.ok r w':=g;cases q;exact ⟨hw,v,rfl⟩
  | halt e l=>rw [j] at g; cases g
 obtain ⟨dst,op,ty,pos,after,s⟩:=o;cases op<;>simp only [quiet,Bool.false_eq_true] at n
 case move x=>simp [execOp] at h;exact ⟨h.2.symm,_,h.1.symm⟩
 case assign x=>simp [execOp] at h;exact ⟨h.2.symm,_,h.1.symm⟩
 case pick c a b =>
  refine val (x:=do pure (if ← asBool (f c) then f a else f b)) ?_ (by simpa [execOp] using h);refine zb.bind ?_ fun _=>zb.pure _;unfold asBool;split
  ·exact zb.pure _
  ·exact zb.stuck _
 case load t a=>exact val (x:=Instr.loadAt t (f a)) (zb.bind (zb.sureAddr _) fun _=>zb.loadVar _ _) h
 case fieldAddr t x i =>
  refine val (x:=Instr.fieldAt t (f x) i) ?_ h;unfold Instr.fieldAt;refine zb.bind (zb.underlying _) fun d=>?_;split
  ·split
   ·exact zb.bind (zb.sureAddr _) fun _=>zb.bind (zb.fieldPlace _ _) fun _=>zb.pure _
   ·exact zb.stuck _
  ·exact zb.stuck _
 case field t x i =>
  refine val (x:=Instr.field t (f x) i) ?_ h;unfold Instr.field;refine zb.bind (zb.underlying _) fun d=>?_;split
  ·split
   ·refine zb.bind ?_ fun _=>zb.part _ _ _;unfold asAgg;split
    ·exact zb.pure _
    ·exact zb.stuck _
   ·exact zb.stuck _
  ·exact zb.stuck _
 case extract x i =>
  refine val (x:=Instr.extract (f x) i) ?_ h;unfold Instr.extract;split
  ·split
   ·exact zb.pure _
   ·exact zb.stuck _
  ·exact zb.stuck _
 case index t x y =>
  refine val (x:=Instr.index t (f x) (f y)) ?_ h;unfold Instr.index;refine zb.bind (zb.asIntOf _) fun m=>?_;obtain ⟨k,i⟩:=m;refine zb.bind (zb.underlying _) fun d=>?_;split
  ·split
   ·exact zb.bind (zb.sizeOf _) fun _=>zb.part _ _ _
   ·exact (Mh.boundsPanic _ _ _ _).ro
  ·split
   ·exact zb.pure _
   ·exact (Mh.boundsPanic _ _ _ _).ro
  ·exact zb.stuck _
 case indexAddr t x y =>
  refine val (x:=Instr.indexAt t (f x) (f y)) ?_ h;unfold Instr.indexAt;refine zb.bind (zb.asIntOf _) fun m=>?_;obtain ⟨k,i⟩:=m;refine zb.bind (zb.underlying _) fun d=>?_;dsimp only;repeat' first
   | with_reducible exact zb.pure _
   | with_reducible exact zb.stuck _
   | with_reducible exact zb.unsupported _
   | with_reducible exact (Mh.boundsPanic _ _ _ _).ro
   | with_reducible refine zb.bind (zb.sureAddr _) fun _=>?_
   | with_reducible refine zb.bind (zb.underlying _) fun _=>?_
   | with_reducible refine zb.bind (zb.sizeOf _) fun _=>?_
   | with_reducible refine zb.bind (zb.pure _) fun _=>?_
   | with_reducible refine zb.bind (zb.stuck _) fun _=>?_
   | split
end
section
variable {P:Program}{Q:Exit→Act→World→Prop}{ops:Array Oper}{fr U:List Value}{ds:List Deferred}{w:World}
theorem CA {fr:List Value}{ds ds':List Deferred}{d:Nat}{v:Value}{x:Operand}(h:vn x≠some d):(F (fr.set d v) ds).eval x=(F fr ds').eval x:=by
 cases x with
 | tmp t =>
  have:d≠t:=fun e=>h (by simp [vn,e]);simp [F,Act.eval,List.getElem?_set_ne this]
 | const v=>rfl
 | global g=>rfl
 | func f=>rfl
theorem kt {o:Oper}{d:Nat}(h:(reads ops o).contains d=false):∀ x ∈ o.op.operands,vn x≠some d:=by
 intro x a e;have:d ∈ reads ops o:=by
  unfold reads;exact List.mem_append.2 (.inl (List.mem_filterMap.2 ⟨x,by simpa using a,e⟩))
 rw [List.contains_iff_mem.2 this] at h;cases h
theorem po {o:Oper}{d:Nat}{v:Value}{ds':List Deferred}(a:Lj o.op=true) (h:(reads ops o).contains d=false):execOp (F (fr.set d v) ds).eval o=execOp (F fr ds').eval o :=
 execOp_congr o a fun x b=>CA (kt h x b)
theorem yv {o:Oper}{d:Nat}{v:Value}{ds':List Deferred}(h:(reads ops o).contains d=false):Region.wanted o (yielded ops (F (fr.set d v) ds).tmps)=Region.wanted o (yielded ops (F fr ds').tmps):=by
 unfold Region.wanted;cases a:o.guard with
 | none=>rfl
 | some c =>
  obtain ⟨j,b⟩:=c;simp only;congr 1;unfold yielded;cases f:(ops[j]?).bind (·.dst) with
  | none=>rfl
  | some e =>
   have g:d≠e:=by
    intro he;have:d ∈ reads ops o:=by
     unfold reads;rw [a];exact List.mem_append.2 (.inr (by simp only;rw [f];simp [he]))
    rw [List.contains_iff_mem.2 this] at h;cases h
   simp [F,List.getElem?_set_ne g]
theorem put_eq (fr:List Value) (ds:List Deferred) (dst:Option Tmp) (x:Value):∃ g:List Value→List Value,(∀ fr ds,(F fr ds).put dst x=F (g fr) ds)∧(∀ (fr:List Value) (d:Nat) (v:Value),dst≠some d→g (fr.set d v)=(g fr).set d v)∧(∀ (fr:List Value) (y:Operand) (ds ds':List Deferred),(∀ e,dst=some e→vn y≠some e)→(F (g fr) ds).eval y=(F fr ds').eval y):=by
 cases dst with
 | none=>exact ⟨id,fun _ _=>rfl,fun _ _ _ _=>rfl,fun fr y ds ds' _=>by cases y <;> rfl⟩
 | some n =>
  refine ⟨fun fr=>fr.set n x,fun fr ds=>ia rfl ds,fun fr d v h=>?_,fun fr y ds ds' h=>CA (h n rfl)⟩;have:d≠n:=fun e=>h (by rw [e]);exact List.set_comm _ _ this
def Uh (Q:Exit→Act→World→Prop) (d:Nat):Prop:=∀ a (fr:List Value) (v:Value) (ds:List Deferred) w,Q (.panic a) (F (fr.set d v) ds) w→Q (.panic a) (F fr ds) w
theorem nz {rd:Bool}{i d:Nat}(q:Uh Q d){o:Oper}{v:Value}(u:ops[i]?=some o) (pb:o.dst=some d) (z:o.guard=none){w0:World} :
  ∀ (a b:List Nat) (fr:List Value) (ds:List Deferred) (w:World),
   (∀ j ∈ a,match ops[j]? with
    | some p=>Lj p.op=true∧(reads ops p).contains d=false∧p.dst≠some d∧(∀ e,p.dst=some e→(reads ops o).contains e=false)∧(rd=true→quiet p.op=true)
    | none=>True) →
   (rd=true→w=w0)→Lj o.op=true →
   (∀ ds w,(rd=true→w=w0)→(execOp (F fr ds).eval o).run P w=.ok (.value v) w) →
   wpOps P ops Q (a++b) (F (fr.set d v) ds) w→wpOps P ops Q (a++i::b) (F fr ds) w
 | [],b,fr,ds,w,_,hw,s,t,h=>by
  simp only [List.nil_append] at h ⊢;simp only [wpOps,u];rw [if_pos (by simp [Region.wanted,z])];left;unfold Oper.wp;rw [t ds w hw,Oper.upon_value,pb];rw [show (F fr ds).put (some d) v=F (fr.set d v) ds from ia rfl ds];exact h
 | j::a,b,fr,ds,w,M,hw,s,t,h=>by
  have A:=M j (by simp);have N:∀ k ∈ a,_:=fun k c=>M k (by simp [c]);simp only [List.cons_append,wpOps] at h ⊢;cases R:ops[j]? with
  | none =>
   rw [R] at h;simp only at h ⊢;exact nz q u pb z a b fr ds w N hw s t h
  | some p =>
   rw [R] at h A;simp only at h A ⊢;obtain ⟨S,B,V,W,C⟩:=A;rw [yv (fr:=fr) (v:=v) (ds:=ds) (ds':=ds) B] at h;have key:∀ (x:Value) (w':World) (ds':List Deferred),(rd=true→w'=w0)→wpOps P ops Q (a++b) ((F (fr.set d v) ds').put p.dst x) w'→wpOps P ops Q (a++i::b) ((F fr ds').put p.dst x) w':=by
    intro x w' ds' l c;obtain ⟨g,g1,g2,g3⟩:=put_eq fr ds' p.dst x;rw [g1] at c ⊢;rw [g2 _ _ _ V] at c;refine nz q u pb z a b (g fr) ds' w' N l s (fun m X Y=>?_) c;rw [show execOp (F (g fr) m).eval o=execOp (F fr m).eval o from execOp_congr o s fun y Z=>g3 fr y m m fun e he gc=>by
     exact kt (W e he) y Z gc]
    exact t m X Y
   by_cases T:Region.wanted p (yielded ops (F fr ds).tmps)=true
   ·rw [if_pos T] at h ⊢;rcases h with h | h
    ·left;unfold Oper.wp at h ⊢;rw [po (ds':=ds) S B] at h;cases n:(execOp (F fr ds).eval p).run P w with
     | halt e w' =>
      rw [n] at h;cases e<;>first | exact h | exact q _ _ _ _ _ h
     | ok r w' =>
      rw [n] at h;have l:rd=true→w'=w0:=fun e=>(jo (C e) n).1.trans (hw e);cases r with
      | value x=>exact key x w' ds l h
      | skip=>exact key undef w' ds l h
      | defer hc=>exact key undef w' (hc::ds) l h
      | enter f args =>
       have D:rd=true→False:=fun e=>by obtain ⟨_,x,G⟩:=jo (C e) n;cases G
       rw [Oper.upon_enter] at h ⊢;refine Calls.mono h fun e H he=>?_;cases e with
       | returned x=>exact key x H ds (fun e=>(D e).elim) he
       | panicked lc=>exact q _ _ _ _ _ he
       | outgrown=>exact he
      | row r args =>
       have D:rd=true→False:=fun e=>by obtain ⟨_,x,G⟩:=jo (C e) n;cases G
       rw [Oper.upon_row] at h ⊢;exact Rows.mono h fun x H he=>key x H ds (fun e=>(D e).elim) he
      | _=>exact h
    ·right;refine ⟨?_,h.2⟩;have K:=h.1;unfold Oper.asks at K ⊢;rw [po (ds':=ds) S B] at K;exact K
   ·rw [if_neg T] at h ⊢;exact key undef w ds hw h
structure ni (P:Program) (ops:Array Oper) (Q:Exit→Act→World→Prop) (R:List Nat) (fr:List Value) (ds:List Deferred) (w:World):Prop where
 out:∀ a,Xj ops R a→wpOps P ops Q a (F fr ds) w
theorem iy {id:Nat}{l:List Oper}(hm:P.follows .mixedOrders=true) (a:(List.range l.toArray.size).all (fun i=>(bk l.toArray i).all fun j=>decide (j<i))=true)
  (h:∀ w',w'.heap=w.heap→w'.os=w.os→w'.tape=w.tape→w'.output=w.output→ni P l.toArray Q (List.range l.length) fr ds w'):Ee P (.region id l.toArray true) Q fr ds w:=by
 constructor;refine wp_region_draw fun t=>?_;have b:Region.schedule (P.follows .mixedOrders) l.toArray t=Region.linearise .any l.toArray t:=by
  unfold Region.schedule;rw [hm];rfl
 rw [b];have c:=BC a t;have:=(h { w with drawn:=w.drawn+1 } rfl rfl rfl rfl).out _ (by simpa using c);exact this
theorem DG (h:Q .normal (F fr ds) w):ni P ops Q [] fr ds w:=⟨fun b a=>by
 cases a with
 | z=>exact h
 | s h _=>exact absurd (ql h) (by simp)⟩
def nq (ops:Array Oper) (R:List Nat):List Nat:=R.filter (enabled ops R)
theorem EG {R:List Nat}(e:R≠[]) (h:∀ i ∈ nq ops R,∃ o,ops[i]?=some o∧if Region.wanted o (yielded ops (F fr ds).tmps) then Ed P o fr ds w (ni P ops Q (R.erase i)) Q else ∃ U,Ze fr o.dst undef U∧ni P ops Q (R.erase i) U ds w):ni P ops Q R fr ds w:=⟨fun f g=>by
 cases g with
 | z=>exact absurd rfl e
 | @s _ f i c d =>
  obtain ⟨o,j,a⟩:=h i (List.mem_filter.2 ⟨ql c,c⟩);simp only [wpOps,j];by_cases hw:Region.wanted o (yielded ops (F fr ds).tmps)=true
  ·rw [if_pos hw] at a ⊢;exact .inl (a.out _ fun U ds' w' b=>b.out _ d)
  ·rw [if_neg hw] at a ⊢;obtain ⟨U,pb,b⟩:=a;exact pb.rw (b.out _ d)⟩
theorem EI {R:List Nat}{i:Nat}{R':List Nat}{dst:Option Tmp}{op:Op}{ty:TypeId}{pos:String}{after:Array Edge}(b:nq ops R=[i]) (c:R.erase i=R') (d:ops[i]?=some ⟨dst,op,ty,pos,after,none⟩)
  (h:Ed P ⟨dst,op,ty,pos,after,none⟩ fr ds w (ni P ops Q R') Q):ni P ops Q R fr ds w :=
 EG (by intro e;subst e;cases b) fun j a=>by
  rw [b] at a;simp at a;subst a;refine ⟨_,d,?_⟩;rw [if_pos (by simp [Region.wanted]),c];exact h
theorem Xj.split {R l:List Nat}(h:Xj ops R l) (n:R.Nodup){i:Nat}(o:i ∈ R) (p:enabled ops R i=true) :
  ∃ f m,l=f++i::m∧Xj ops (R.erase i) (f++m)∧∀ j ∈ f,j ∈ R∧j≠i∧i ∉ bk ops j:=by
 induction h with
 | z=>cases o
 | @s R l k g t r =>
  by_cases e:k=i
  ·subst e;exact ⟨[],l,rfl,t,by simp⟩
  ·have q:i ∈ R.erase k:=(n.mem_erase_iff).2 ⟨fun h=>e h.symm,o⟩;have u:enabled ops (R.erase k) i=true:=by
    simp only [enabled,Bool.and_eq_true,List.contains_iff_mem,List.all_eq_true] at p ⊢;refine ⟨q,fun j d=>?_⟩;have:=p.2 j d;simp only [Bool.not_eq_true',List.contains_eq_mem,decide_eq_false_iff_not] at this ⊢;exact fun hm=>this (List.mem_of_mem_erase hm)
   obtain ⟨f,m,v,w,x⟩:=r (n.erase k) q u;refine ⟨k::f,m,by rw [v];rfl,?_,?_⟩
   ·refine .s ?_ (by rw [List.erase_comm];exact w);simp only [enabled,Bool.and_eq_true,List.contains_iff_mem,List.all_eq_true] at g ⊢;refine ⟨(n.mem_erase_iff).2 ⟨e,g.1⟩,fun j d=>?_⟩;have:=g.2 j d;simp only [Bool.not_eq_true',List.contains_eq_mem,decide_eq_false_iff_not] at this ⊢;exact fun hm=>this (List.mem_of_mem_erase hm)
   ·intro j d;rcases List.mem_cons.1 d with rfl | d
    ·exact ⟨ql g,e,fun pb=>Gz g pb o⟩
    ·obtain ⟨a,b,c⟩:=x j d;exact ⟨List.mem_of_mem_erase a,b,c⟩
theorem IE {R R':List Nat}{i:Nat}{rd:Bool}{dst:Tmp}{op:Op}{ty:TypeId}{pos:String}{after:Array Edge}{v:Value}(o:Uh Q dst) (k:(decide R.Nodup && enabled ops R i && apart ops rd R i)=true) (q:R.erase i=R') (l:ops[i]?=some ⟨some dst,op,ty,pos,after,none⟩)
  (Nb:∀ ds w',(rd=true→w'=w)→(execOp (F fr ds).eval ⟨some dst,op,ty,pos,after,none⟩).run P w'=.ok (.value v) w') (f:sc fr dst v U) (h:ni P ops Q R' U ds w):ni P ops Q R fr ds w:=⟨fun D r=>by
 simp only [Bool.and_eq_true,decide_eq_true_eq] at k;obtain ⟨⟨s,m⟩,g⟩:=k;obtain ⟨t,u,rfl,x,y⟩:=r.split s (ql m) m;unfold apart at g;simp only [l,Bool.and_eq_true,List.all_eq_true,Bool.or_eq_true,beq_iff_eq,List.contains_iff_mem] at g;unfold sc at f;subst f;subst q;refine nz o l rfl rfl (rd:=rd) (w0:=w) (v:=v) t u fr ds w (fun j z=>?_) (fun _=>rfl) g.1 Nb (h.out _ x);obtain ⟨a,b,c⟩:=y j z;have:=g.2 j a;rcases this with (h | h) | h
 ·exact absurd h b
 ·exact absurd h c
 ·cases f:ops[j]? with
  | none=>trivial
  | some p =>
   rw [f] at h;simp only [Bool.and_eq_true,Bool.not_eq_true',bne_iff_ne,ne_eq,Bool.or_eq_true] at h;obtain ⟨⟨⟨⟨A,B⟩,C⟩,n⟩,d⟩:=h;refine ⟨A,B,C,fun e he=>?_,fun e=>?_⟩
   ·rw [he] at n;simpa using n
   ·rcases d with d | d
    ·rw [e] at d;cases d
    ·exact d⟩
theorem Eb {d:Nat}(h:∀ b a w,Q (.panic b) a w→False):Uh Q d:=fun b fr v ds w c=>(h b _ w c).elim
theorem JH {R R':List Nat}{i:Nat}{dst:Tmp}{op:Op}{ty:TypeId}{pos:String}{after:Array Edge}{v:Value}(a:Uh Q dst) (b:(decide R.Nodup && enabled ops R i && apart ops false R i)=true) (c:R.erase i=R') (d:ops[i]?=some ⟨some dst,op,ty,pos,after,none⟩)
  (Nb:Xe P ⟨some dst,op,ty,pos,after,none⟩ fr v) (e:sc fr dst v U) (h:ni P ops Q R' U ds w):ni P ops Q R fr ds w :=
 IE a b c d (fun ds w' _=>Nb.out ds w') e h
end
end Go.bc
