/- Texts of Wk. -/
import Derived.Tactics
import Derived.Defers
import Derived.Recover
import Derived.Lib.Strings
import Derived.Laws.Append
import Derived.Below
import Derived.Laws.AppendOwn
set_option linter.unusedSimpArgs false
set_option linter.unusedVariables false
set_option linter.unusedSectionVars false
namespace Go.Bc
open Go.RowKit
def Zb {α:Type}(l:List α) (n:Nat) (v:α):Prop:=l[n]?=some v
def Xb {α:Type}(l:List α) (n:Nat) (v:α) (Aa:List α):Prop:=l.set n v=Aa
theorem d0 {α:Type}{v:α}{l:List α}:Zb (v::l) 0 v:=rfl
theorem Ba {α:Type}{x v:α}{l:List α}:Xb (x::l) 0 v (v::l):=rfl
theorem d1 {α:Type}{a:α}{v:α}{l:List α}:Zb (a::v::l) 1 v:=rfl
theorem pb {α:Type}{a:α}{x v:α}{l:List α}:Xb (a::x::l) 1 v (a::v::l):=rfl
theorem d2 {α:Type}{a pa:α}{v:α}{l:List α}:Zb (a::pa::v::l) 2 v:=rfl
theorem Fb {α:Type}{a pa:α}{x v:α}{l:List α}:Xb (a::pa::x::l) 2 v (a::pa::v::l):=rfl
theorem d3 {α:Type}{a pa b:α}{v:α}{l:List α}:Zb (a::pa::b::v::l) 3 v:=rfl
theorem pc {α:Type}{a pa b:α}{x v:α}{l:List α}:Xb (a::pa::b::x::l) 3 v (a::pa::b::v::l):=rfl
theorem d4 {α:Type}{a pa b c:α}{v:α}{l:List α}:Zb (a::pa::b::c::v::l) 4 v:=rfl
theorem Yc {α:Type}{a pa b c:α}{x v:α}{l:List α}:Xb (a::pa::b::c::x::l) 4 v (a::pa::b::c::v::l):=rfl
theorem d5 {α:Type}{a pa b c d:α}{v:α}{l:List α}:Zb (a::pa::b::c::d::v::l) 5 v:=rfl
theorem td {α:Type}{a pa b c d:α}{x v:α}{l:List α}:Xb (a::pa::b::c::d::x::l) 5 v (a::pa::b::c::d::v::l):=rfl
theorem d6 {α:Type}{a pa b c d a5:α}{v:α}{l:List α}:Zb (a::pa::b::c::d::a5::v::l) 6 v:=rfl
theorem Md {α:Type}{a pa b c d a5:α}{x v:α}{l:List α}:Xb (a::pa::b::c::d::a5::x::l) 6 v (a::pa::b::c::d::a5::v::l):=rfl
theorem d7 {α:Type}{a pa b c d a5 zb:α}{v:α}{l:List α}:Zb (a::pa::b::c::d::a5::zb::v::l) 7 v:=rfl
theorem Td {α:Type}{a pa b c d a5 zb:α}{x v:α}{l:List α}:Xb (a::pa::b::c::d::a5::zb::x::l) 7 v (a::pa::b::c::d::a5::zb::v::l):=rfl
theorem d8 {α:Type}{a pa b c d a5 zb Ab:α}{v:α}{l:List α}:Zb (a::pa::b::c::d::a5::zb::Ab::v::l) 8 v:=rfl
theorem Zd {α:Type}{a pa b c d a5 zb Ab:α}{x v:α}{l:List α}:Xb (a::pa::b::c::d::a5::zb::Ab::x::l) 8 v (a::pa::b::c::d::a5::zb::Ab::v::l):=rfl
theorem d9 {α:Type}{a pa b c d a5 zb Ab mb:α}{v:α}{l:List α}:Zb (a::pa::b::c::d::a5::zb::Ab::mb::v::l) 9 v:=rfl
theorem Nd {α:Type}{a pa b c d a5 zb Ab mb:α}{x v:α}{l:List α}:Xb (a::pa::b::c::d::a5::zb::Ab::mb::x::l) 9 v (a::pa::b::c::d::a5::zb::Ab::mb::v::l):=rfl
def F (fr:List Value) (ds:List Deferred):Act:=⟨⟨fr⟩,ds⟩
def ab (fr:List Value) (x:Operand) (v:Value):Prop:=∀ ds,(F fr ds).eval x=v
theorem ba {fr:List Value}{n:Nat}{v:Value}(h:Zb fr n v):ab fr (.tmp n) v:=by
 intro ds;unfold Zb at h;simp [F,Act.eval,h]
theorem db {fr:List Value}{v:Value}:ab fr (.const v) v:=λ_=>rfl
theorem Cc {fr:List Value}{f:Nat}:ab fr (.func f) (.func (.func f) #[] #[]):=λ_=>rfl
def zf (fr:List Value) (dst:Option Tmp) (v:Value) (ya:List Value):Prop:=∀ ds,(F fr ds).put dst v=F ya ds
theorem Ia {fr:List Value}{v:Value}:zf fr none v fr:=λ_=>rfl
theorem wa {fr ya:List Value}{n:Nat}{v:Value}(h:Xb fr n v ya):zf fr (some n) v ya:=by
 intro ds;unfold Xb at h;subst h;simp [F,Act.put]
theorem zf.rw {fr ya:List Value}{dst:Option Tmp}{v:Value}(h:zf fr dst v ya){K:Act->World->Prop}{ds:List Deferred}{w:World}(k:K (F ya ds) w):K ((F fr ds).put dst v) w:=by
 rw [h ds];exact k
def Om (fr:List Value) (xs:List Operand) (vs:List Value):Prop:=∀ ds,xs.map (F fr ds).eval=vs
theorem lb {fr:List Value}:Om fr [] []:=λ_=>rfl
theorem sa {fr:List Value}{x:Operand}{v:Value}{xs:List Operand}{vs:List Value}(h:ab fr x v) (a:Om fr xs vs):Om fr (x::xs) (v::vs):=by
 intro ds;simp [h ds,a ds]
structure ud (P:Program) (c:Code) (Q:Exit->Act->World->Prop) (fr:List Value) (ds:List Deferred) (w:World):Prop where
 out:c.wp P Q (F fr ds) w
structure Ee (P:Program) (ops:Array Oper) (Q:Exit->Act->World->Prop) (l:List Oper) (fr:List Value) (ds:List Deferred) (w:World):Prop where
 out:wpList P ops Q l (F fr ds) w
structure pd (P:Program) (o:Oper) (fr:List Value) (ds:List Deferred) (w:World) (K:List Value->List Deferred->World->Prop) (Q:Exit->Act->World->Prop):Prop where
 out:∀ a:Act->World->Prop,(∀ fr ds w,K fr ds w->a (F fr ds) w)->o.wp P (F fr ds) w a Q
def Gp (P:Program) (c:Code) (Q:Exit->Act->World->Prop):Act->World->Prop:=λa w=>∃ fr ds,a=F fr ds/\ud P c Q fr ds w
section code
variable {P:Program}{Q:Exit->Act->World->Prop}{fr:List Value}{ds:List Deferred}{w:World}
theorem ma {x y:Code}(h:ud P x (Exit.then (Gp P y Q) Q) fr ds w):ud P (.seq x y) Q fr ds w :=
 ⟨wp_seq (wp_mono h.out λe a w b=>by
  cases e with
  | normal=>obtain ⟨fr,ds,rfl,h⟩:=b; exact h.out
  | exit id=>exact b
  | goto l=>exact b
  | ret=>exact b
  | panic c=>exact b
  | outgrown=>exact b)⟩
theorem Nh {id:Nat}{l:List Oper}(h:Ee P l.toArray Q l fr ds w):ud P (.region id l.toArray false) Q fr ds w:=⟨wp_region_lit h.out⟩
theorem Ei (h:Q .normal (F fr ds) w):ud P .skip Q fr ds w:=⟨wp_skip h⟩
theorem Pn (h:Q .ret (F fr ds) w):ud P .ret Q fr ds w:=⟨wp_ret h⟩
theorem ht {id:Nat}(h:Q (.exit id) (F fr ds) w):ud P (.exit id) Q fr ds w:=⟨wp_exit h⟩
theorem Ra {id:Nat}{c:Code}(h:ud P c (Exit.inBlock id Q) fr ds w):ud P (.block id c) Q fr ds w:=⟨wp_block h.out⟩
theorem Br {c:Operand}{x y:Code}{b:Bool}(a:ab fr c (.bool b)) (d:b=true->ud P x Q fr ds w) (e:b=false->ud P y Q fr ds w) :
  ud P (.cond c x y) Q fr ds w:=⟨wp_cond_split (a ds) (λh=>(d h).out) λh=>(e h).out⟩
theorem Qb {c:Operand}{x y:Code}{p:Prop}[Decidable p] (a:ab fr c (.bool (decide p))) (b:p->ud P x Q fr ds w) (d:¬ p->ud P y Q fr ds w) :
  ud P (.cond c x y) Q fr ds w:=Br a (λh=>b (of_decide_eq_true h)) (λh=>d (of_decide_eq_false h))
theorem Le {c:Operand}{x y:Code}{p:Prop}[Decidable p] (a:ab fr c (.bool (decide p))) (b:p) (d:ud P x Q fr ds w):ud P (.cond c x y) Q fr ds w:=Qb a (λ_=>d) λh=>absurd b h
theorem Ka {c:Operand}{x y:Code}{p:Prop}[Decidable p] (a:ab fr c (.bool (decide p))) (b:¬ p) (d:ud P y Q fr ds w):ud P (.cond c x y) Q fr ds w:=Qb a (λh=>absurd h b) λ_=>d
theorem kl {c:Operand}{x y:Code}(a:ab fr c (.bool true)) (b:ud P x Q fr ds w):ud P (.cond c x y) Q fr ds w:=⟨wp_cond_true (a ds) b.out⟩
theorem ek {c:Operand}{x y:Code}(a:ab fr c (.bool false)) (b:ud P y Q fr ds w):ud P (.cond c x y) Q fr ds w:=⟨wp_cond_false (a ds) b.out⟩
theorem ag {c:Code}{Q':Exit->Act->World->Prop}(h:ud P c Q' fr ds w):Exit.then (Gp P c Q') Q .normal (F fr ds) w:=⟨fr,ds,rfl,h⟩
theorem aj {n:Act->World->Prop}{a:Act}(h:n a w):Exit.then n Q .normal a w:=h
theorem Ko {n:Act->World->Prop}{a:Act}{id:Nat}(h:Q (.exit id) a w):Exit.then n Q (.exit id) a w:=h
theorem Bq {n:Act->World->Prop}{a:Act}(h:Q .ret a w):Exit.then n Q .ret a w:=h
theorem LL {n:Act->World->Prop}{a:Act}{b:List PanicEntry}(h:Q (.panic b) a w):Exit.then n Q (.panic b) a w:=h
theorem Ym {a:Act}{id:Nat}(h:Q .normal a w):Exit.inBlock id Q .normal a w:=h
theorem Yt {a:Act}{id:Nat}(h:Q .ret a w):Exit.inBlock id Q .ret a w:=h
theorem VG {a:Act}{id:Nat}{b:List PanicEntry}(h:Q (.panic b) a w):Exit.inBlock id Q (.panic b) a w:=h
theorem Zt {a:Act}{id:Nat}(h:Q .normal a w):Exit.inBlock id Q (.exit id) a w:=by simpa [Exit.inBlock] using h
theorem wh {a:Act}{id j:Nat}(b:(j == id)=false) (h:Q (.exit j) a w):Exit.inBlock id Q (.exit j) a w:=by
 have:¬ j=id:=by simpa using b
 simpa [Exit.inBlock,this] using h
inductive hb where
 | k
 | o (n:Nat)
 | i (v:Value)
def ni (t:Nat->Value):List hb->List Value->List Value
 | [],fr=>fr
 | _::_,[]=>[]
 | .k::ms,a::fr=>a::ni t ms fr
 | .o n::ms,_::fr=>t n::ni t ms fr
 | .i v::ms,_::fr=>v::ni t ms fr
def Df (t:Nat->Value) (ms:List hb) (fr ya:List Value):Prop:=ni t ms fr=ya
theorem Dl {t:Nat->Value}{l:List Value}:Df t [] l l:=rfl
theorem mk {t:Nat->Value}{ms:List hb}{a:Value}{l Aa:List Value}(h:Df t ms l Aa):Df t (.k::ms) (a::l) (a::Aa):=by unfold Df at *;rw [ni,h]
theorem nb {t:Nat->Value}{ms:List hb}{n:Nat}{a:Value}{l Aa:List Value}(h:Df t ms l Aa):Df t (.o n::ms) (a::l) (t n::Aa):=by unfold Df at *;rw [ni,h]
theorem Pw {t:Nat->Value}{ms:List hb}{v a:Value}{l Aa:List Value}(h:Df t ms l Aa):Df t (.i v::ms) (a::l) (v::Aa):=by unfold Df at *;rw [ni,h]
theorem Pm {t:Nat->Value}{ms:List hb}{a b:List Value}(e:Df t ms a b) (h:Q .normal (F b ds) w):Q .normal (F (ni t ms a) ds) w:=by rw [show ni t ms a=b from e];exact h
theorem oG {c:Code}{t:Nat->Value}{ms:List hb}{a b:List Value}(e:Df t ms a b) (h:ud P c Q b ds w):ud P c Q (ni t ms a) ds w:=by rw [show ni t ms a=b from e];exact h
inductive We:List hb->List Value->List Value->Prop where
 | z {l:List Value}:We [] l l
 | k {ms:List hb} {a:Value} {l Aa:List Value} (h:We ms l Aa):We (.k::ms) (a::l) (a::Aa)
 | o {ms:List hb} {n:Nat} {a b:Value} {l Aa:List Value} (h:We ms l Aa):We (.o n::ms) (a::l) (b::Aa)
 | i {ms:List hb} {v a:Value} {l Aa:List Value} (h:We ms l Aa):We (.i v::ms) (a::l) (v::Aa)
def opens:List hb->List Nat
 | []=>[]
 | .o n::ms=>n::opens ms
 | .k::ms=>opens ms
 | .i _::ms=>opens ms
theorem bA {t cb:Nat->Value}:∀ (ms:List hb) (fr:List Value),(∀ n ∈ opens ms,t n=cb n)->ni t ms fr=ni cb ms fr
 | [],_,_=>rfl
 | _::_,[],_=>rfl
 | .k::ms,a::fr,h=>by rw [ni,ni,bA ms fr h]
 | .o n::ms,a::fr,h=>by rw [ni,ni,bA ms fr λm b=>h m (by simp [opens,b]),h n (by simp [opens])]
 | .i v::ms,a::fr,h=>by rw [ni,ni,bA ms fr h]
theorem We.ex {ms:List hb}{fr ya:List Value}(h:We ms fr ya) (c:(opens ms).Nodup):∃ t,ya=ni t ms fr:=by
 induction h with
 | z=>exact ⟨λ_=>undef,rfl⟩
 | k _ d=>obtain ⟨t,rfl⟩:=d c; exact ⟨t,rfl⟩
 | @o ms n a b l Aa _ d =>
  simp only [opens,List.nodup_cons] at c;obtain ⟨t,rfl⟩:=d c.2;refine ⟨λm=>if m=n then b else t m,?_⟩;rw [ni,if_pos rfl];congr 1;refine bA _ _ λm f=>?_;exact (if_neg (λe:m=n=>c.1 (by rw [<- e];exact f))).symm
 | i _ d=>obtain ⟨t,rfl⟩:=d c; exact ⟨t,rfl⟩
theorem mU {c:Code}{α:Type}(T:List Nat) (o:T.Nodup) (u:α->List hb) (p:∀ x,opens (u x)=T) (j:α->World->Prop) (m:α->World->Nat) (x0:α) (q:We (u x0) fr fr) (r:j x0 w)
  (round:∀ x t w,j x w->ud P c (Exit.then (λg w'=>∃ h ya,g=F ya ds/\We (u h) fr ya/\j h w'/\m h w'<m x w) Q) (ni t (u x) fr) ds w) :
  ud P (.loop c) Q fr ds w:=by
 constructor;intro b k cs;have key:∀ n x t w,m x w=n->j x w ->
   ∃ e g w',Q e g w'/\Arrives P (lone (b.at (F (ni t (u x) fr) ds) (.code c::.inLoop c::k)) cs w) b k cs e g w':=by
  intro n
  induction n using Nat.strongRecOn with
  | _ n s =>
   intro x t w v y;obtain ⟨e,i,f,d,a⟩:=(round x t w y).out b (.inLoop c::k) cs;cases e with
   | normal =>
    obtain ⟨h,ya,rfl,z,A,B⟩:=d;obtain ⟨cb,C⟩:=z.ex (by rw [p];exact o);obtain ⟨D,E,G,H,K⟩:=s (m h f) (v ▸ B) h cb f rfl A;rw [C] at a;exact ⟨D,E,G,H,.of_steps (Steps.trans a<|.one step_inLoop) K⟩
   | exit id=>exact ⟨_,i,f,d,.pass (x:=.inLoop c) rfl (λ_ _=>.inl (by simp)) a⟩
   | goto l=>exact ⟨_,i,f,d,.pass (x:=.inLoop c) rfl (λ_ _=>.inl (by simp)) a⟩
   | ret=>exact ⟨_,i,f,d,.pass (x:=.inLoop c) rfl (λ_ _=>.inl (by simp)) a⟩
   | panic M=>exact ⟨_,i,f,d,.pass (x:=.inLoop c) rfl (λ_ _=>.inl (by simp)) a⟩
   | outgrown=>exact ⟨_,i,f,d,.pass (x:=.inLoop c) rfl (λ_ _=>.inl (by simp)) a⟩
 obtain ⟨t0,L⟩:=q.ex (by rw [p];exact o);obtain ⟨e,g,w',d,a⟩:=key _ x0 t0 w rfl r;rw [<- L] at a;exact ⟨e,g,w',d,.of_steps (.one step_loop) a⟩
theorem ud.mono {c:Code}{Q':Exit->Act->World->Prop}(h:ud P c Q fr ds w) (b:∀ e a w,Q e a w->Q' e a w):ud P c Q' fr ds w:=⟨wp_mono h.out b⟩
theorem ZN {R R':Act->World->Prop}(h:∀ a w,R a w->R' a w):∀ e a w,Exit.then R Q e a w->Exit.then R' Q e a w:=λe a w b=>by
 cases e with
 | normal=>exact h a w b
 | exit id=>exact b
 | goto l=>exact b
 | ret=>exact b
 | panic c=>exact b
 | outgrown=>exact b
theorem Xb.same {α:Type}{l:List α}{n:Nat}{v:α}{Aa:List α}(h:Zb l n v) (a:Xb l n v Aa):Aa=l:=by
 unfold Zb at h;unfold Xb at a;subst a;obtain ⟨b,rfl⟩:=List.getElem?_eq_some_iff.1 h;exact List.set_getElem_self b
theorem DG {ops:Array Oper}{l:List Oper}{xi yi:List Value}{d:Nat}{b:Bool}(la:Zb fr d (.bool b)) (a:Xb fr d (.bool true) xi) (c:Xb fr d (.bool false) yi)
  (e:b=true->Ee P ops Q l xi ds w) (f:b=false->Ee P ops Q l yi ds w):Ee P ops Q l fr ds w:=by
 cases b with
 | true=>have:=e rfl; rw [Xb.same la a] at this; exact this
 | false=>have:=f rfl; rw [Xb.same la c] at this; exact this
theorem cf {ops:Array Oper}{l:List Oper}{xi yi:List Value}{d:Nat}{p:Prop}[Decidable p] (la:Zb fr d (.bool (decide p))) (a:Xb fr d (.bool true) xi) (b:Xb fr d (.bool false) yi)
  (c:p->Ee P ops Q l xi ds w) (e:¬ p->Ee P ops Q l yi ds w):Ee P ops Q l fr ds w :=
 DG la a b (λh=>c (of_decide_eq_true h)) (λh=>e (of_decide_eq_false h))
end code
def S (l:List UInt8):Value:=.string ⟨⟨l⟩⟩
section
variable {P:Program}{Q:Exit->Act->World->Prop}{K:List Value->List Deferred->World->Prop}{fr ya:List Value}{ds:List Deferred}{w:World}{ops:Array Oper}{rest:List Oper}
variable {dst:Option Tmp}{op:Op}{ty:TypeId}{pos:String}{after:Array Edge}{g:Option (Nat×Bool)}
theorem Yg (h:Q .normal (F fr ds) w):Ee P ops Q [] fr ds w:=⟨h⟩
theorem wl (h:pd P ⟨dst,op,ty,pos,after,none⟩ fr ds w (Ee P ops Q rest) Q):Ee P ops Q (⟨dst,op,ty,pos,after,none⟩::rest) fr ds w:=by
 constructor;unfold wpList;rw [if_pos (by simp [Region.wanted])];exact .inl<|h.out _ λ_ _ _ k=>k.out
theorem mg {j d:Nat}{b:Bool}(a:(ops[j]?).bind (·.dst)=some d) (la:Zb fr d (.bool b)) (h:pd P ⟨dst,op,ty,pos,after,some (j,b)⟩ fr ds w (Ee P ops Q rest) Q) :
  Ee P ops Q (⟨dst,op,ty,pos,after,some (j,b)⟩::rest) fr ds w:=by
 constructor;unfold wpList;rw [if_pos (by
  unfold Zb at la;simp only [Region.wanted,yielded,a,F];simp [la])]
 exact .inl<|h.out _ λ_ _ _ k=>k.out
theorem wn {j d:Nat}{b Rc:Bool}(a:(ops[j]?).bind (·.dst)=some d) (la:Zb fr d (.bool Rc)) (c:(Rc == b)=false) (e:zf fr dst undef ya) (h:Ee P ops Q rest ya ds w) :
  Ee P ops Q (⟨dst,op,ty,pos,after,some (j,b)⟩::rest) fr ds w:=by
 constructor;unfold wpList;rw [if_neg (by
  unfold Zb at la;simp only [Region.wanted,yielded,a,F];simp [la];simpa using c)]
 exact e.rw h.out
theorem El {j d:Nat}{b:Bool}(a:(ops[j]?).bind (·.dst)=some d) (la:Zb fr d undef) (c:zf fr dst undef ya) (h:Ee P ops Q rest ya ds w) :
  Ee P ops Q (⟨dst,op,ty,pos,after,some (j,b)⟩::rest) fr ds w:=by
 constructor;unfold wpList;rw [if_neg (by
  unfold Zb at la;simp only [Region.wanted,yielded,a,F];simp [la,undef])]
 exact c.rw h.out
theorem Fh {o:Oper}{v:Value}{w':World}(a:(execOp (F fr ds).eval o).run P w=.ok (.value v) w') (b:zf fr o.dst v ya) (h:K ya ds w'):pd P o fr ds w K Q:=by
 constructor;intro d c;unfold Oper.wp;rw [a,Oper.upon_value];exact b.rw<|c _ _ _ h
theorem sB {o:Oper}{w':World}(a:(execOp (F fr ds).eval o).run P w=.ok .skip w') (b:zf fr o.dst undef ya) (h:K ya ds w'):pd P o fr ds w K Q:=by
 constructor;intro d c;unfold Oper.wp;rw [a,Oper.upon_skip];exact b.rw<|c _ _ _ h
structure Af (P:Program) (o:Oper) (fr:List Value) (v:Value):Prop where
 out:∀ ds w,(execOp (F fr ds).eval o).run P w=.ok (.value v) w
theorem Ob {o:Oper}{v:Value}(a:Af P o fr v) (b:zf fr o.dst v ya) (h:K ya ds w):pd P o fr ds w K Q:=Fh (a.out ds w) b h
theorem Sl {x:Operand}{v:Value}(a:ab fr x v):Af P (Oper.mk dst (.move x) ty pos after g) fr (v):=⟨λds w=>by simp [execOp,a ds]⟩
theorem ui {x:Operand}{v:Value}(a:ab fr x v) (b:zf fr dst (v) ya) (h:K ya ds w):pd P (Oper.mk dst (.move x) ty pos after g) fr ds w K Q:=Ob (Sl a) b h
theorem XD {x:Operand}{v:Value}(a:ab fr x v):Af P (Oper.mk dst (.assign x) ty pos after g) fr (v):=⟨λds w=>by simp [execOp,a ds]⟩
theorem br {x:Operand}{v:Value}(a:ab fr x v) (b:zf fr dst (v) ya) (h:K ya ds w):pd P (Oper.mk dst (.assign x) ty pos after g) fr ds w K Q:=Ob (XD a) b h
theorem FQ {c x y:Operand}{v:Value}(a:ab fr c (.bool true)) (b:ab fr x v):Af P (Oper.mk dst (.pick c x y) ty pos after g) fr (v):=⟨λds w=>by simp [execOp,b ds,a ds,asBool]⟩
theorem HQ {c x y:Operand}{v:Value}(a:ab fr c (.bool false)) (b:ab fr y v):Af P (Oper.mk dst (.pick c x y) ty pos after g) fr (v):=⟨λds w=>by simp [execOp,b ds,a ds,asBool]⟩
theorem wr {n:Int}(h:-9223372036854775808<=n/\n<=9223372036854775807):IntKind.i64.wrap n=n:=by
 unfold IntKind.wrap;simp [IntKind.bits,IntKind.signed];omega
theorem bB {x y:Operand}{t cb:TypeId}{k:IntKind}{a b c:Int}(d:ab fr x (.int k a)) (e:ab fr y (.int k b)) (f:k.wrap (a+b)=c):Af P (Oper.mk dst (.binOp .add t x y cb) ty pos after g) fr ((.int k c)):=by
 subst f;exact ⟨λds w=>by simp [execOp,d ds,e ds,eqGuard,binOp,Op.intArith]⟩
theorem cB {x y:Operand}{t cb:TypeId}{k:IntKind}{a b c:Int}(d:ab fr x (.int k a)) (e:ab fr y (.int k b)) (f:k.wrap (a - b)=c):Af P (Oper.mk dst (.binOp .sub t x y cb) ty pos after g) fr ((.int k c)):=by
 subst f;exact ⟨λds w=>by simp [execOp,d ds,e ds,eqGuard,binOp,Op.intArith]⟩
theorem BK {x y:Operand}{t cb:TypeId}{k:IntKind}{a b c:Int}(d:ab fr x (.int k a)) (e:ab fr y (.int k b)) (f:k.wrap (a*b)=c):Af P (Oper.mk dst (.binOp .mul t x y cb) ty pos after g) fr ((.int k c)):=by
 subst f;exact ⟨λds w=>by simp [execOp,d ds,e ds,eqGuard,binOp,Op.intArith]⟩
theorem PF {x y:Operand}{t cb:TypeId}{k:IntKind}{a b c:Int}(d:ab fr x (.int k a)) (e:ab fr y (.int k b)) (f:b≠0) (h:k.wrap (a.tdiv b)=c):Af P (Oper.mk dst (.binOp .quo t x y cb) ty pos after g) fr ((.int k c)):=by
 subst h;exact ⟨λds w=>by simp [execOp,d ds,e ds,eqGuard,binOp,Op.intDiv,f]⟩
theorem dB {x y:Operand}{t cb:TypeId}{k:IntKind}{a b c:Int}(d:ab fr x (.int k a)) (e:ab fr y (.int k b)) (f:b≠0) (h:a.tmod b=c):Af P (Oper.mk dst (.binOp .rem t x y cb) ty pos after g) fr ((.int k c)):=by
 subst h;exact ⟨λds w=>by simp [execOp,d ds,e ds,eqGuard,binOp,Op.intDiv,f]⟩
theorem CK {x y:Operand}{t cb:TypeId}{k:IntKind}{a b:Int}(c:ab fr x (.int k a)) (d:ab fr y (.int k b)):Af P (Oper.mk dst (.binOp .lss t x y cb) ty pos after g) fr ((.bool (decide (a<b)))):=⟨λds w=>by simp [execOp,c ds,d ds,eqGuard,binOp,Op.intCmp]⟩
theorem nU {x y:Operand}{t cb:TypeId}{k:IntKind}{a b:Int}(c:ab fr x (.int k a)) (d:ab fr y (.int k b)) (e:zf fr dst ((.bool (decide (a<b)))) ya) (h:K ya ds w):pd P (Oper.mk dst (.binOp .lss t x y cb) ty pos after g) fr ds w K Q:=Ob (CK c d) e h
theorem oU {x y:Operand}{t cb:TypeId}{k:IntKind}{a b:Int}(c:ab fr x (.int k a)) (d:ab fr y (.int k b)):Af P (Oper.mk dst (.binOp .leq t x y cb) ty pos after g) fr ((.bool (decide (a<=b)))):=⟨λds w=>by simp [execOp,c ds,d ds,eqGuard,binOp,Op.intCmp]⟩
theorem pU {x y:Operand}{t cb:TypeId}{k:IntKind}{a b:Int}(c:ab fr x (.int k a)) (d:ab fr y (.int k b)):Af P (Oper.mk dst (.binOp .gtr t x y cb) ty pos after g) fr ((.bool (decide (b<a)))):=⟨λds w=>by simp [execOp,c ds,d ds,eqGuard,binOp,Op.intCmp]⟩
theorem qU {x y:Operand}{t cb:TypeId}{k:IntKind}{a b:Int}(c:ab fr x (.int k a)) (d:ab fr y (.int k b)):Af P (Oper.mk dst (.binOp .geq t x y cb) ty pos after g) fr ((.bool (decide (b<=a)))):=⟨λds w=>by simp [execOp,c ds,d ds,eqGuard,binOp,Op.intCmp]⟩
theorem rU {x y:Operand}{t cb:TypeId}{k:IntKind}{a b:Int}(c:ab fr x (.int k a)) (d:ab fr y (.int k b)):Af P (Oper.mk dst (.binOp .eql t x y cb) ty pos after g) fr ((.bool (decide (a=b)))):=⟨λds w=>by simp [execOp,c ds,d ds,eqGuard,binOp,Op.intCmp];rfl⟩
theorem sU {x y:Operand}{t cb:TypeId}{k:IntKind}{a b:Int}(c:ab fr x (.int k a)) (d:ab fr y (.int k b)):Af P (Oper.mk dst (.binOp .neq t x y cb) ty pos after g) fr ((.bool (decide (a≠b)))):=⟨λds w=>by
  simp [execOp,c ds,d ds,eqGuard,binOp,Op.intCmp];by_cases h:a=b<;>simp [h]⟩
theorem tU {x:Operand}{t:TypeId}{k:IntKind}{a c:Int}(b:ab fr x (.int k a)) (d:k.wrap (0 - a)=c):Af P (Oper.mk dst (.unOp .neg t x) ty pos after g) fr ((.int k c)):=by
 subst d;exact ⟨λds w=>by simp [execOp,b ds,Op.unary,Op.intArith]⟩
theorem uU {x:Operand}{t:TypeId}{b:Bool}(a:ab fr x (.bool b)):Af P (Oper.mk dst (.unOp .not t x) ty pos after g) fr ((.bool (!b))):=⟨λds w=>by simp [execOp,a ds,Op.unary]⟩
theorem vU {x y:Operand}{t cb:TypeId}{a b:List UInt8}(c:ab fr x (S a)) (d:ab fr y (S b)) (l:a.length+b.length<=9223372036854775807):Af P (Oper.mk dst (.binOp .add t x y cb) ty pos after g) fr ((S (a++b))):=by
 have e:(ByteArray.mk ⟨a⟩).size=a.length:=rfl;have f:(ByteArray.mk ⟨b⟩).size=b.length:=rfl;have h:¬ (((((ByteArray.mk ⟨a⟩).size+(ByteArray.mk ⟨b⟩).size:Nat):Int)) > IntKind.i64.max):=by
  rw [e,f];unfold IntKind.max;simp [IntKind.bits,IntKind.signed];omega
 have i:ByteArray.mk ⟨a⟩++ByteArray.mk ⟨b⟩=ByteArray.mk ⟨a++b⟩:=by
  apply ByteArray.ext;rw [ByteArray.data_append];simp
 refine ⟨λds w=>?_⟩;have j:=c ds;have k:=d ds;simp only [execOp,j,k,S,eqGuard,binOp,Op.stringOp];rw [if_neg h,i];simp
theorem wU {x y:Operand}{t cb:TypeId}{a b:List UInt8}(c:ab fr x (S a)) (d:ab fr y (S b)):Af P (Oper.mk dst (.binOp .eql t x y cb) ty pos after g) fr ((.bool (decide (a=b)))):=by
 refine ⟨λds w=>?_⟩;have f:=c ds;have h:=d ds;simp [execOp,f,h,S,eqGuard,binOp,Op.stringOp];by_cases e:a=b<;>simp [e]
theorem xU {x y:Operand}{t cb:TypeId}{a b:List UInt8}(c:ab fr x (S a)) (d:ab fr y (S b)):Af P (Oper.mk dst (.binOp .neq t x y cb) ty pos after g) fr ((.bool (decide (a≠b)))):=by
 refine ⟨λds w=>?_⟩;have f:=c ds;have h:=d ds;simp [execOp,f,h,S,eqGuard,binOp,Op.stringOp];by_cases e:a=b<;>simp [e]
theorem sS {x:Operand}{t:TypeId}{a:List UInt8}(b:P.underlying t=some .string) (c:ab fr x (S a)):Af P (Oper.mk dst (.call { callee:=.builtin .len,args:=#[x],argTypes:=#[t] }) ty pos after g) fr ((.int .i64 a.length)):=by
 refine ⟨λds w=>?_⟩;have d:=c ds;have e:(ByteArray.mk ⟨a⟩).size=a.length:=rfl;simp [execOp,d,resolve,invoke,builtin,S,Builtin.len_,run_underlying b,goInt,e]
theorem Tv {x:Operand}{t e:TypeId}{a:Option Addr}{n c:Nat}(b:P.underlying t=some (.slice e)) (d:ab fr x (.slice a n c)):Af P (Oper.mk dst (.call { callee:=.builtin .len,args:=#[x],argTypes:=#[t] }) ty pos after g) fr ((.int .i64 n)):=by
 refine ⟨λds w=>?_⟩;have f:=d ds;simp [execOp,f,resolve,invoke,builtin,Builtin.len_,run_underlying b,goInt]
theorem IQ {x:Operand}{t e:TypeId}{a:Option Addr}{n c:Nat}(b:P.underlying t=some (.slice e)) (d:ab fr x (.slice a n c)) (f:zf fr dst ((.int .i64 n)) ya) (h:K ya ds w):pd P (Oper.mk dst (.call { callee:=.builtin .len,args:=#[x],argTypes:=#[t] }) ty pos after g) fr ds w K Q:=Ob (Tv b d) f h
theorem tS {x y:Operand}{t:TypeId}{k:IntKind}{a:List UInt8}{i:Int}{c:UInt8}(e:P.underlying t=some .string) (f:ab fr x (S a)) (j:ab fr y (.int k i)) (l:0<=i) (b:a[i.toNat]?=some c):Af P (Oper.mk dst (.index t x y) ty pos after g) fr ((.int .u8 c.toNat)):=by
 refine ⟨λds w=>?_⟩;have m:=f ds;have n:=j ds;have o:(ByteArray.mk ⟨a⟩)[i.toNat]?=some c:=by
  have d:i.toNat<a.length:=by
   rcases Nat.lt_or_ge i.toNat a.length with h | h
   ·exact h
   ·rw [List.getElem?_eq_none h] at b;cases b
  rw [getElem?_pos (ByteArray.mk ⟨a⟩) i.toNat (show i.toNat<(ByteArray.mk ⟨a⟩).size from d)];rw [List.getElem?_eq_getElem d] at b;rw [<- b];rfl
 simp [execOp,m,n,S,Instr.index,run_underlying e,asIntOf,l,o]
theorem nI (a:List UInt8) (i j:Nat):(ByteArray.mk ⟨a⟩).extract i j=ByteArray.mk ⟨(a.take j).drop i⟩:=by
 rw [Lib.extract_eq];simp [List.drop_take]
theorem JQ {x jk:Operand}{t:TypeId}{k:IntKind}{a:List UInt8}{i:Int}(b:P.underlying t=some .string) (c:ab fr x (S a)) (d:ab fr jk (.int k i))
  (e:0<=i/\i<=a.length):Af P (Oper.mk dst (.slice t x (some jk) none none) ty pos after g) fr ((S (a.drop i.toNat))):=by
 refine ⟨λds w=>?_⟩;have f:=c ds;have h:=d ds;have j:(ByteArray.mk ⟨a⟩).size=a.length:=rfl;simp only [execOp,f,h,S,Option.map,Instr.sliceAt];simp [run_underlying b,Instr.slice,Instr.sliceBounds,Instr.sliceBound,asIntOf,j,e,nI]
theorem KQ {x b:Operand}{t:TypeId}{k':IntKind}{a:List UInt8}{j:Int}(c:P.underlying t=some .string) (d:ab fr x (S a)) (e:ab fr b (.int k' j))
  (f:0<=j/\j<=a.length):Af P (Oper.mk dst (.slice t x none (some b) none) ty pos after g) fr ((S (a.take j.toNat))):=by
 refine ⟨λds w=>?_⟩;have h:=d ds;have i:=e ds;have k:(ByteArray.mk ⟨a⟩).size=a.length:=rfl;simp only [execOp,h,i,S,Option.map,Instr.sliceAt];simp [run_underlying c,Instr.slice,Instr.sliceBounds,Instr.sliceBound,asIntOf,k,f,nI]
theorem kF {x:Operand}{i:Nat}{vs:List Value}{v:Value}(a:ab fr x (.tuple ⟨vs⟩)) (la:Zb vs i v):Af P (Oper.mk dst (.extract x i) ty pos after g) fr (v):=by
 refine ⟨λds w=>?_⟩;have b:=a ds;unfold Zb at la;simp [execOp,b,Instr.extract,la]
structure kb (P:Program) (f:FuncId) (args:List Value) (w:World) (R:Value->World->Prop):Prop where
 out:Calls P f ⟨args⟩ w λe w'=>match e with | .returned v=>R v w' | _=>False
theorem kb.mono {f:FuncId}{args:List Value}{R R':Value->World->Prop}(h:kb P f args w R) (b:∀ v w',R v w'->R' v w'):kb P f args w R' :=
 ⟨Calls.mono h.out λe w' a=>by
  cases e with
  | returned v=>exact b v w' a
  | panicked c=>exact a.elim
  | outgrown=>exact a.elim⟩
def lF (P:Program) (f:FuncId) (args:List Value) (v:Value):Prop:=∀ w,kb P f args w λa w'=>a=v/\w'=w
class fb (P:Program) (f:FuncId):Prop where
 out:∀ args w,(callFunc f args).run P w=.ok (.enter f args) w
theorem LQ {f : FuncId} {fn : Func} (a : P.funcs[f]? = some fn) (e : fn.body.isSome = true) (b : (fn.name == "runtime.NumGoroutine") = false) : fb P f := by
 constructor;intro args w;have c:¬ fn.body=none:=by cases h:fn.body<;>simp_all
 have d : ¬ fn.name = "runtime.NumGoroutine" := by simpa using b
 simp only [callFunc,Sem.run_bind,run_program,Result.andThen_ok,a,beq_iff_eq,if_neg d,Option.isNone_iff_eq_none,if_neg c,Sem.run_pure]
def Hg (fr:List Value) (dst:Option Tmp) (v:Value) (K:List Value->Prop):Prop:=∀ ya,zf fr dst v ya->K ya
theorem zf.uniq {fr a b:List Value}{dst:Option Tmp}{v:Value}(h:zf fr dst v a) (k:zf fr dst v b):a=b:=by
 have:=(h []).symm.trans (k []);unfold F at this;simpa using this
theorem pu {v:Value}{K:List Value->Prop}(a:zf fr dst v ya) (h:K ya):Hg fr dst v K:=λc b=>by rw [zf.uniq b a];exact h
theorem Fi (fr:List Value) (dst:Option Tmp) (v:Value):∃ ya,zf fr dst v ya:=by
 cases dst with
 | none=>exact ⟨fr,Ia⟩
 | some n=>exact ⟨fr.set n v,wa rfl⟩
theorem FA {o:Oper}{f:FuncId}{args:List Value}{R:Value->World->Prop}(b:(execOp (F fr ds).eval o).run P w=.ok (.enter f ⟨args⟩) w) (d:kb P f args w R)
  (h:∀ v w',R v w'->Hg fr o.dst v λya=>K ya ds w'):pd P o fr ds w K Q:=by
 constructor;intro i g;unfold Oper.wp;rw [b,Oper.upon_enter];exact Calls.mono d.out λe w' a=>by
  cases e with
  | returned v =>
   obtain ⟨ya,Ca⟩:=Fi fr o.dst v;exact Ca.rw<|g _ _ _<|h v w' a ya Ca
  | panicked c=>exact a.elim
  | outgrown=>exact a.elim
theorem YD {f:Operand}{xs:List Operand}{tys:Array TypeId}{k:FuncId}{cap vs:List Value}(a:fb P k) (b:ab fr f (.func (.func k) #[] ⟨cap⟩)) (c:Om fr xs vs) :
  (execOp (F fr ds).eval (Oper.mk dst (.call { callee:=.value f,args:=⟨xs⟩,argTypes:=tys }) ty pos after g)).run P w=.ok (.enter k ⟨vs++cap⟩) w:=by
 have d:=b ds;have e:=c ds;have h:=a.out ⟨vs++cap⟩ w;simp [execOp,resolve,d,Deferred.ofValue,invoke,e,h]
theorem od {f:Operand}{xs:List Operand}{tys:Array TypeId}{k:FuncId}{vs:List Value}{R:Value->World->Prop}(a:fb P k) (b:ab fr f (.func (.func k) #[] #[])) (c:Om fr xs vs)
  (d:kb P k vs w R) (h:∀ v w',R v w'->Hg fr dst v λya=>K ya ds w'):pd P (Oper.mk dst (.call { callee:=.value f,args:=⟨xs⟩,argTypes:=tys }) ty pos after g) fr ds w K Q:=by
 refine FA (args:=vs) ?_ d h;have:=YD (w:=w) (dst:=dst) (ty:=ty) (pos:=pos) (after:=after) (g:=g) (tys:=tys) (ds:=ds) (cap:=[]) a b c;simpa using this
theorem Rl {f:Operand}{xs:List Operand}{tys:Array TypeId}{k:FuncId}{vs:List Value}{v:Value}(a:fb P k) (b:ab fr f (.func (.func k) #[] #[])) (c:Om fr xs vs)
  (d:lF P k vs v) (e:zf fr dst v ya) (h:K ya ds w):pd P (Oper.mk dst (.call { callee:=.value f,args:=⟨xs⟩,argTypes:=tys }) ty pos after g) fr ds w K Q :=
 od a b c (d w) λl w' ⟨i,j⟩=>by subst i;subst j;exact pu e h
theorem Xo {f:Operand}{xs:List Operand}{tys:Array TypeId}{k:FuncId}{cap vs:List Value}{R:Value->World->Prop}(a:fb P k) (b:ab fr f (.func (.func k) #[] ⟨cap⟩)) (c:Om fr xs vs)
  (d:kb P k (vs++cap) w R) (h:∀ v w',R v w'->Hg fr dst v λya=>K ya ds w'):pd P (Oper.mk dst (.call { callee:=.value f,args:=⟨xs⟩,argTypes:=tys }) ty pos after g) fr ds w K Q :=
 FA (YD a b c) d h
def lq (P:Program) (fn:Func) (R:Value->World->Prop):Exit->Act->World->Prop:=bodyPost P fn λe w'=>match e with | .returned v=>R v w' | _=>False
theorem enter {f:FuncId}{fn:Func}{c:Code}{args frm:List Value}{R:Value->World->Prop}(a:P.funcs[f]?=some fn) (b:fn.body=some c)
  (d:args++List.replicate (fn.ntmps - args.length) undef=frm) (h:ud P c (lq P fn R) frm [] w):kb P f args w R:=by
 refine ⟨calls_of_wp a b ?_⟩;subst d;have:(⟨args⟩:Array Value)++Array.replicate (fn.ntmps - args.length) undef=⟨args++List.replicate (fn.ntmps - args.length) undef⟩:=by
  apply Array.ext';simp
 have h:=h.out;simpa [F,lq,this] using h
theorem Hd {fn:Func}{R:Value->World->Prop}{t:Tmp}{v:Value}(a:fn.results=#[.tmp t]) (la:Zb fr t v) (h:R v w):lq P fn R .ret (F fr []) w:=by
 refine bodyPost_ret (v:=v) ?_ rfl h;unfold Zb at la;rw [results_tmp a];simp [F,la]
theorem sr {fn:Func}{R:Value->World->Prop}{t u:Tmp}{v a:Value}(c:fn.results=#[.tmp t,.tmp u]) (la:Zb fr t v) (b:Zb fr u a) (h:R (.tuple #[v,a]) w):lq P fn R .ret (F fr []) w:=by
 refine bodyPost_ret (v:=.tuple #[v,a]) ?_ rfl h;unfold Zb at la b;rw [results_tmp2 c];simp [F,la,b]
theorem yk {fn:Func}{R:Value->World->Prop}(a:fn.results=#[]) (h:R (.tuple #[]) w):lq P fn R .normal (F fr []) w :=
 bodyPost_end (results_none a _ _ _) rfl h
theorem cL {fn:Func}{R:Value->World->Prop}(a:fn.results=#[]) (h:R (.tuple #[]) w):lq P fn R .ret (F fr []) w :=
 bodyPost_ret (results_none a _ _ _) rfl h
end
structure Ui (S:Nat->Prop) (w w':World):Prop where
 os:w'.os=w.os
 tape:w'.tape=w.tape
 output:w'.output=w.output
 size:w.heap.size<=w'.heap.size
 ea:∀ k,k<w.heap.size->S k->w'.heap[k]?=w.heap[k]?
def Grow (w w':World):Prop:=Ui (λ_=>True) w w'
theorem Ui.refl {S:Nat->Prop}(w:World):Ui S w w:=⟨rfl,rfl,rfl,Nat.le_refl _,λ_ _ _=>rfl⟩
theorem Ui.trans {S:Nat->Prop}{a b c:World}(h:Ui S a b) (k:Ui S b c):Ui S a c :=
 ⟨k.os.trans h.os,k.tape.trans h.tape,k.output.trans h.output,Nat.le_trans h.size k.size,λi d e=>(k.ea i (Nat.lt_of_lt_of_le d h.size) e).trans (h.ea i d e)⟩
theorem Ui.mono {S c:Nat->Prop}{a b:World}(h:Ui S a b) (d:∀ k,c k->S k):Ui c a b:=⟨h.os,h.tape,h.output,h.size,λi e k=>h.ea i e (d i k)⟩
theorem Grow.keeps {S:Nat->Prop}{a b:World}(h:Grow a b):Ui S a b:=Ui.mono h λ_ _=>trivial
theorem Grow.below {a b:World}(h:Grow a b):Below a.heap.size a b:=⟨h.os,h.tape,h.output,h.size,λk c=>h.ea k c trivial⟩
theorem Grow.alloc (w:World) (o:Obj):Grow w (w.alloc o):=⟨rfl,rfl,rfl,by simp,λk a _=>heap_alloc_old w o k a⟩
def dm (S:Nat->Prop) (w:World) (A:World->Prop):Prop:=∀ w',w.heap.size<=w'.heap.size->(∀ k,k<w.heap.size->S k->w'.heap[k]?=w.heap[k]?)->A w'
theorem dm.now {S:Nat->Prop}{w:World}{A:World->Prop}(h:dm S w A):A w:=h w (Nat.le_refl _) λ_ _ _=>rfl
theorem dm.mono {S a:Nat->Prop}{w:World}{A:World->Prop}(h:dm S w A) (c:∀ k,k<w.heap.size->S k->a k):dm a w A:=λw' d e=>h w' d λk b f=>e k b (c k b f)
theorem dm.and {S:Nat->Prop}{w:World}{A B:World->Prop}(h:dm S w A) (k:dm S w B):dm S w λw'=>A w'/\B w':=λw' a b=>⟨h w' a b,k w' a b⟩
theorem dm.keeps {S:Nat->Prop}{w w':World}{A:World->Prop}(h:dm S w A) (k:Ui S w w'):dm S w' A :=
 λd e f=>h d (Nat.le_trans k.size e) λb a c=>(f b (Nat.lt_of_lt_of_le a k.size) c).trans (k.ea b a c)
inductive Ha where
 | ea (b:Nat) (T:TypeId) (cs:List Value)
 | row (v:Value) (T:TypeId) (sz n:Nat) (xs:List Value)
 | map (b:Nat) (es:List MapEntry) (clock:Nat)
 | TB (b:Nat) (s:ByteArray) (pos:Nat)
 | ro (b:Nat) (T:TypeId) (cs:List Value)
 | nn (b m since:Nat) (seen:List Nat) (last:Nat)
def Ck (w:World) (b:Nat) (T:TypeId) (cs:List Value):Prop:=w.heap[b]?=some (.cells ⟨cs⟩ T (0,0))
def Row (w:World) (v:Value) (T:TypeId) (sz n:Nat) (xs:List Value):Prop :=
 xs.length=n*sz/\((v=.slice none 0 0/\n=0)\/∃ g o cap cur,v=.slice (some ⟨g,o,none⟩) n cap/\w.heap[g]?=some (.cells cur T (0,0))/\n<=cap/\cap<=maxLen/\o+cap*sz<=cur.size/\(cur.toList.drop o).take (n*sz)=xs)
def Ha.block:Ha->Option Nat
 | .ea b _ _=>some b
 | .row v _ _ _ _=>v.ownBlock
 | .map b _ _=>some b
 | .TB b _ _=>some b
 | .ro b _ _=>some b
 | .nn b _ _ _ _=>some b
def Ha.holds (w:World):Ha->Prop
 | .ea b T cs=>Ck w b T cs
 | .row v T sz n xs=>Row w v T sz n xs
 | .map b es clock=>w.heap[b]?=some (.map ⟨es⟩ clock)
 | .TB b s pos=>w.heap[b]?=some (.stringIter s pos)
 | .ro b T cs=>∃ z,w.heap[b]?=some (.cells ⟨cs⟩ T z)
 | .nn b m since seen last=>w.heap[b]?=some (.mapIter (some m) since ⟨seen⟩ last)
def blocks (rs:List Ha):List Nat:=rs.filterMap Ha.block
structure Sep (S Jc:Nat->Prop) (da w:World) (rs:List Ha) (A:World->Prop):Prop where
 keeps:Ui S da w
 all:∀ r ∈ rs,r.holds w
 oi:(blocks rs).Nodup
 new:∀ b ∈ blocks rs,da.heap.size<=b\/¬ S b
 Xi:dm (λb=>(Jc b\/da.heap.size<=b)/\b ∉ blocks rs) w A
theorem sH {w:World}{r:Ha}(h:r.holds w){b:Nat}(a:r.block=some b):b<w.heap.size:=by
 cases r with
 | ea Rc T cs=>simp [Ha.block] at a; subst a; exact (Array.getElem?_eq_some_iff.1 h).1
 | map Rc es d=>simp [Ha.block] at a; subst a; exact (Array.getElem?_eq_some_iff.1 h).1
 | TB Rc s p=>simp [Ha.block] at a; subst a; exact (Array.getElem?_eq_some_iff.1 h).1
 | nn Rc m s e l=>simp [Ha.block] at a; subst a; exact (Array.getElem?_eq_some_iff.1 h).1
 | ro Rc T cs=>obtain ⟨z,h⟩:=h; simp [Ha.block] at a; subst a; exact (Array.getElem?_eq_some_iff.1 h).1
 | row v T sz n xs =>
  rcases h.2 with ⟨rfl,_⟩ | ⟨g,o,cap,cur,rfl,c,_⟩
  ·simp [Ha.block,Value.ownBlock] at a
  ·simp [Ha.block,Value.ownBlock] at a;subst a;exact (Array.getElem?_eq_some_iff.1 c).1
theorem holds_of {w w':World}{r:Ha}(h:r.holds w) (a:∀ b,r.block=some b->w'.heap[b]?=w.heap[b]?):r.holds w':=by
 cases r with
 | ea Rc T cs=>exact (a Rc rfl).trans h
 | map Rc es d=>exact (a Rc rfl).trans h
 | TB Rc s p=>exact (a Rc rfl).trans h
 | nn Rc m s e l=>exact (a Rc rfl).trans h
 | ro Rc T cs=>obtain ⟨z,h⟩:=h; exact ⟨z,(a Rc rfl).trans h⟩
 | row v T sz n xs =>
  refine ⟨h.1,?_⟩;rcases h.2 with h | ⟨g,o,cap,cur,rfl,c,h⟩
  ·exact .inl h
  ·exact .inr ⟨g,o,cap,cur,rfl,by rw [a g rfl];exact c,h⟩
section
variable {S Jc:Nat->Prop}{da w w':World}{rs rs':List Ha}{A B:World->Prop}
theorem Sep.a (h:Sep S Jc da w rs A):A w:=h.Xi.now
theorem Sep.start (w:World) (S Jc:Nat->Prop) (a:dm Jc w A):Sep S Jc w w [] A :=
 ⟨.refl w,by simp,by simp [blocks],by simp [blocks],a.mono λk _ b=>⟨.inl b,by simp [blocks]⟩⟩
theorem As {r:Ha}{b:Nat}(a:r ∈ rs) (c:r.block=some b):b ∈ blocks rs:=List.mem_filterMap.2 ⟨r,a,c⟩
theorem Sep.lt (h:Sep S Jc da w rs A){b:Nat}(a:b ∈ blocks rs):b<w.heap.size:=by
 obtain ⟨r,c,a⟩:=List.mem_filterMap.1 a;exact sH (h.all r c) a
theorem Sep.grow (h:Sep S Jc da w rs A) (a:Grow w w'):Sep S Jc da w' rs A where
 keeps:=h.keeps.trans a.keeps
 all r c:=holds_of (h.all r c) λb d=>a.ea b (h.lt (As c d)) trivial
 oi:=h.oi
 new:=h.new
 Xi:=h.Xi.keeps a.keeps
theorem Sep.alloc (h:Sep S Jc da w rs A){o:Obj}{r:Ha}(c:r.block=some w.heap.size) (f:r.holds (w.alloc o)):Sep S Jc da (w.alloc o) (r::rs) A where
 keeps:=h.keeps.trans (Grow.alloc w o).keeps
 all r' d:=by
  rcases List.mem_cons.1 d with rfl | d
  ·exact f
  ·exact (h.grow<|Grow.alloc w o).all r' d
 oi:=by
  simp only [blocks,List.filterMap_cons,c,List.nodup_cons];exact ⟨λg=>Nat.lt_irrefl _<|h.lt g,h.oi⟩
 new b a:=by
  simp only [blocks,List.filterMap_cons,c,List.mem_cons] at a;rcases a with rfl | a
  ·exact .inl h.keeps.size
  ·exact h.new b a
 Xi:=λw' i j=>h.Xi w' (by simp at i;omega) λk l e=>by
  have:=j k (by simp;omega) ⟨e.1,by
   simp only [blocks,List.filterMap_cons,c,List.mem_cons,not_or];exact ⟨by omega,e.2⟩⟩
  rw [this];exact heap_alloc_old w o k l
theorem PA {r:Ha}{n:Nat}(la:Zb rs n r):r ∈ rs:=List.mem_of_getElem? la
theorem Sep.get (h:Sep S Jc da w rs A){n:Nat}{r:Ha}(la:Zb rs n r):r.holds w:=h.all r (PA la)
theorem NH {n:Nat}{r r':Ha}(la:Zb rs n r) (b:r'.block=r.block):blocks (rs.set n r')=blocks rs:=by
 unfold Zb at la;unfold blocks
 induction rs generalizing n with
 | nil=>rfl
 | cons a rs c =>
  cases n with
  | zero=>simp at la; subst la; simp [List.filterMap_cons,b]
  | succ n=>simp at la; simp only [List.set_cons_succ,List.filterMap_cons,c la]
theorem tH {n m:Nat}{r f:Ha}(Ca:(blocks rs).Nodup) (la:Zb rs n r) (d:Zb rs m f) (i:n≠m){b:Nat}(g:r.block=some b):f.block≠some b:=by
 unfold Zb at la d;unfold blocks at Ca
 induction rs generalizing n m with
 | nil=>simp at la
 | cons a rs j =>
  have k:(List.filterMap Ha.block rs).Nodup:=by
   cases h:a.block with
   | none=>simpa [List.filterMap_cons,h] using Ca
   | some c=>simp only [List.filterMap_cons,h,List.nodup_cons] at Ca; exact Ca.2
  cases n with
  | zero =>
   cases m with
   | zero=>exact absurd rfl i
   | succ m =>
    simp at la d;subst la;intro e;simp only [List.filterMap_cons,g,List.nodup_cons] at Ca;exact Ca.1<|List.mem_filterMap.2 ⟨f,List.mem_of_getElem? d,e⟩
  | succ n =>
   cases m with
   | zero =>
    simp at la d;subst d;intro e;simp only [List.filterMap_cons,e,List.nodup_cons] at Ca;exact Ca.1<|List.mem_filterMap.2 ⟨r,List.mem_of_getElem? la,g⟩
   | succ m=>simp at la d; exact j k la d (by omega)
theorem Sep.put (h:Sep S Jc da w rs A){n:Nat}{r r':Ha}{b:Nat}(la:Zb rs n r) (f:r.block=some b) (p:r'.block=some b) (j:Xb rs n r' rs')
  (q:r'.holds w') (a:Ui (λk=>k≠b) w w'):Sep S Jc da w' rs' A:=by
 unfold Xb at j;subst j;have l:=As (PA la) f;have g:=NH (r':=r') la (p.trans f.symm);refine ⟨?_,?_,?_,?_,?_⟩
 ·refine ⟨a.os.trans h.keeps.os,a.tape.trans h.keeps.tape,a.output.trans h.keeps.output,Nat.le_trans h.keeps.size a.size,λk i d=>?_⟩;rw [a.ea k (Nat.lt_of_lt_of_le i h.keeps.size) (λe=>by subst e;rcases h.new k l with h | h;exact absurd i (by omega);exact h d)];exact h.keeps.ea k i d
 ·intro s t;obtain ⟨m,hm⟩:=List.mem_iff_getElem?.1 t;by_cases e:n=m
  ·subst e;have u:n<rs.length:=(List.getElem?_eq_some_iff.1 la).1;rw [List.getElem?_set_self u] at hm;cases hm;exact q
  ·rw [List.getElem?_set_ne e] at hm;refine holds_of (h.all s<|List.mem_of_getElem? hm) λc o=>a.ea c (h.lt<|As (List.mem_of_getElem? hm) o) λv=>?_;subst v;exact tH h.oi la hm e f o
 ·rw [g];exact h.oi
 ·rw [g];exact h.new
 ·rw [g];exact h.Xi.keeps<|a.mono λk d e=>d.2 (by subst e;exact l)
end
def tB:TypeDesc->Bool
 | .struct _ | .array _ _=>true
 | _=>false
class wb (P:Program) (T:TypeId) (mc:outParam Bool) (zc:outParam (List Value)) (n m:outParam Nat):Prop where
 EG:∃ d,P.underlying T=some d/\tB d=mc
 inf:∃ i z,P.info? T=some i/\i.zero=some z/\z.cells=⟨zc⟩/\i.size=n/\i.bytes=m
theorem yU {P:Program}{T:TypeId}{d:TypeDesc}{mc:Bool}{z:Value}{zc:List Value}{n m:Nat}(b:P.underlying T=some d) (c:tB d=mc) (h:(P.info? T).map (λi=>(i.zero,i.size,i.bytes))=some (some z,n,m)) (e:z.cells=⟨zc⟩):wb P T mc zc n m:=by
 refine ⟨⟨d,b,c⟩,?_⟩;cases a:P.info? T with
 | none=>rw [a] at h; cases h
 | some i =>
  rw [a] at h;simp only [Option.map_some,Option.some.injEq,Prod.mk.injEq] at h;exact ⟨i,z,rfl,h.1,e,h.2.1,h.2.2⟩
def ae:Value->Bool
 | .agg _ | .tuple _=>false
 | _=>true
section
variable {P:Program}{Q:Exit->Act->World->Prop}{K:List Value->List Deferred->World->Prop}{fr ya:List Value}{ds:List Deferred}{w:World}
variable {dst:Option Tmp}{ty:TypeId}{pos:String}{after:Array Edge}{g:Option (Nat×Bool)}
variable {S Jc:Nat->Prop}{da:World}{rs rs':List Ha}{A:World->Prop}
variable {T:TypeId}{d:TypeDesc}{mc:Bool}{zc:List Value}{n m:Nat}
theorem aO (h:P.underlying T=some d):(isAgg T).run P w=.ok (tB d) w:=by
 unfold isAgg;simp only [Sem.run_bind,run_underlying h,Result.andThen_ok];cases d<;>rfl
theorem wb.isAgg (h:wb P T mc zc n m):(Go.isAgg T).run P w=.ok mc w:=by
 obtain ⟨d,Ca,rfl⟩:=h.EG;exact aO Ca
theorem wb.sizeOf (h:wb P T mc zc n m):(Go.sizeOf T).run P w=.ok n w:=by
 obtain ⟨i,z,a,c,d,b,hm⟩:=h.inf;simp [Go.sizeOf,typeInfo,a,b]
theorem wb.zero (h:wb P T mc zc n m):∃ z,(zeroValue T).run P w=.ok z w/\z.cells=⟨zc⟩:=by
 obtain ⟨i,z,a,b,c,d,hm⟩:=h.inf;exact ⟨z,by simp [zeroValue,typeInfo,a,b],c⟩
def dj (w:World) (b o:Nat) (cs:List Value):Prop:=∀ j v,cs[j]?=some v->w.cell? ⟨b,o+j,none⟩=some v
theorem tk (b o j:Nat):(⟨b,o,none⟩:Addr).add j=⟨b,o+j,none⟩:=by
 unfold Addr.add;split
 ·rename_i h;subst h;rfl
 ·rfl
theorem Ck.cell {b:Nat}{cs:List Value}{j:Nat}{v:Value}(h:Ck w b T cs) (la:Zb cs j v):w.cell? ⟨b,j,none⟩=some v:=by
 unfold Zb at la;unfold Ck at h;simp [World.cell?,h,la]
theorem Ck.cells {b:Nat}{cs:List Value}(h:Ck w b T cs):dj w b 0 cs:=λj v la=>by
 rw [Nat.zero_add];exact h.cell la
theorem dj.one {b o:Nat}{cs:List Value}{j:Nat}{v:Value}(h:dj w b o cs) (la:Zb cs j v):w.cell? ⟨b,o+j,none⟩=some v:=h j v la
theorem oc (a:wb P T mc zc n m) (c:Sep S Jc da w rs A)
  (h:∀ b w',w.heap.size<=b->Sep S Jc da w' (.ea b T zc::rs) A->Hg fr dst (.pointer (some ⟨b,0,none⟩)) λya=>K ya ds w'):pd P (Oper.mk dst (.alloc T) ty pos after g) fr ds w K Q:=by
 obtain ⟨z,d,e⟩:=a.zero (w:=w);obtain ⟨ya,Ca⟩:=Fi fr dst (.pointer (some ⟨w.heap.size,0,none⟩));refine Fh (v:=.pointer (some ⟨w.heap.size,0,none⟩)) (w':=w.alloc (.cells ⟨zc⟩ T)) ?_ Ca<|h _ _ (Nat.le_refl _) (c.alloc rfl<|heap_alloc_new w _) ya Ca;simp [execOp,Instr.alloc,d,newVar,newRow,e]
theorem Kn {x:Operand}{v:Value}{cs:List Value}(a:ab fr x v) (c:v.cells=⟨cs⟩) (d:Sep S Jc da w rs A)
  (h:∀ b w',w.heap.size<=b->Sep S Jc da w' (.ea b T cs::rs) A->Hg fr dst (.pointer (some ⟨b,0,none⟩)) λya=>K ya ds w'):pd P (Oper.mk dst (.box T x) ty pos after g) fr ds w K Q:=by
 obtain ⟨ya,Ca⟩:=Fi fr dst (.pointer (some ⟨w.heap.size,0,none⟩));refine Fh (v:=.pointer (some ⟨w.heap.size,0,none⟩)) (w':=w.alloc (.cells ⟨cs⟩ T)) ?_ Ca<|h _ _ (Nat.le_refl _) (d.alloc rfl<|heap_alloc_new w _) ya Ca;simp [execOp,Instr.box,a ds,newVar,newRow,c]
structure lk (P:Program) (o:Oper) (fr:List Value) (w:World) (v:Value):Prop where
 out:∀ ds,(execOp (F fr ds).eval o).run P w=.ok (.value v) w
theorem Qw {o:Oper}{v:Value}(a:lk P o fr w v) (b:zf fr o.dst v ya) (h:K ya ds w):pd P o fr ds w K Q:=Fh (a.out ds) b h
theorem Yd {x:Operand}{b o:Nat}{v:Value}(a:wb P T false zc n m) (c:ab fr x (.pointer (some ⟨b,o,none⟩))) (d:w.cell? ⟨b,o,none⟩=some v):lk P (Oper.mk dst (.load T x) ty pos after g) fr w v :=
 ⟨λds=>by simp [execOp,Instr.loadAt,c ds,Instr.sureAddr,loadVar,a.isAgg,d]⟩
theorem bp {x:Operand}{b o:Nat}{v:Value}(a:wb P T false zc n m) (c:ab fr x (.pointer (some ⟨b,o,none⟩))) (d:w.cell? ⟨b,o,none⟩=some v)
  (e:zf fr dst v ya) (h:K ya ds w):pd P (Oper.mk dst (.load T x) ty pos after g) fr ds w K Q:=Qw (Yd a c d) e h
theorem Vg {x:Operand}{b o:Nat}{cs:List Value}(a:wb P T true zc n m) (c:ab fr x (.pointer (some ⟨b,o,none⟩))) (d:dj w b o cs) (e:cs.length=n):lk P (Oper.mk dst (.load T x) ty pos after g) fr w (.agg ⟨cs⟩):=⟨λds=>by
 have la:=run_loadCells_list (P:=P) w ⟨b,o,none⟩ cs (λj v f=>by rw [tk];exact d j v f);rw [e] at la;simp [execOp,Instr.loadAt,c ds,Instr.sureAddr,loadVar,a.isAgg,a.sizeOf,la]⟩
theorem Yo {x:Operand}{b o:Nat}{cs:List Value}(a:wb P T true zc n m) (c:ab fr x (.pointer (some ⟨b,o,none⟩))) (d:dj w b o cs) (e:cs.length=n)
  (f:zf fr dst (.agg ⟨cs⟩) ya) (h:K ya ds w):pd P (Oper.mk dst (.load T x) ty pos after g) fr ds w K Q:=Qw (Vg a c d e) f h
inductive Zg:List Value->Nat->List Value->List Value->Prop where
 | z {cs:List Value} {o:Nat}:Zg cs o [] cs
 | s {cs cs1 a:List Value} {o:Nat} {v:Value} {vs:List Value} (h:Xb cs o v cs1) (la:o<cs.length) (k:Zg cs1 (o+1) vs a):Zg cs o (v::vs) a
theorem Zg.eq {cs:List Value}{o:Nat}{vs b:List Value}(h:Zg cs o vs b):o+vs.length<=cs.length\/vs=[]:=by
 induction h with
 | z=>exact .inr rfl
 | @s cs cs1 b o v vs h la k a =>
  left;unfold Xb at h;subst h;rcases a with a | rfl
  ·simp at a ⊢;omega
  ·simp;omega
theorem Zg.res {cs:List Value}{o:Nat}{vs a:List Value}(h:Zg cs o vs a) (la:o<=cs.length):a=cs.take o++vs++cs.drop (o+vs.length):=by
 induction h with
 | z=>simp
 | @s cs cs1 a o v vs h b k c =>
  unfold Xb at h;subst h;rw [c (by simp;omega)];have sa:(cs.set o v).take (o+1)=cs.take o++[v]:=by
   rw [List.take_set,List.take_add_one,List.getElem?_eq_getElem b];rw [List.set_append_right _ _ (by simp;omega)];simp [Nat.min_eq_left (Nat.le_of_lt b)]
  rw [sa];have d:(cs.set o v).drop (o+1+vs.length)=cs.drop (o+(v::vs).length):=by
   rw [List.drop_set_of_lt (by omega)];congr 1;simp;omega
  rw [d];simp
theorem oA {v:Value}(h:ae v=true):v.oneCell'=true:=by cases v<;>first | rfl | simp [ae] at h
theorem bN {b:Nat}{cs:List Value}(c:Ck w b T cs){o:Nat}{vs d:List Value}(a:Zg cs o vs d) (e:o<=cs.length) (f:vs.all ae=true) :
  ∃ w',(storeCells ⟨b,o,none⟩ vs).run P w=.ok () w'/\Ck w' b T d/\Ui (λk=>k≠b) w w':=by
 have hle:o+0+vs.length<=(⟨cs⟩:Array Value).size:=by
  rcases a.eq with h | rfl
  ·simpa using h
  ·simpa using e
 refine ⟨_,run_storeCells_at P b o T vs 0 ⟨cs⟩ w c hle λv Oa=>oA (List.all_eq_true.1 f v Oa),?_,?_⟩
 ·rw [a.res e];exact setRow_heap w b ⟨cs⟩ _ T (0,0) c
 ·exact ⟨rfl,rfl,rfl,by simp [World.setRow],λk g a=>setRow_other w b k _ a⟩
theorem EE {x y:Operand}{b o k:Nat}{v:Value}{cs a vs:List Value}(d:wb P T mc zc n m) (e:ab fr x (.pointer (some ⟨b,o,none⟩))) (f:ab fr y v) (Oa:v.cells=⟨vs⟩) (i:vs.length=n) (j:vs.all ae=true)
  (c:Sep S Jc da w rs A) {Ef:TypeId}(la:Zb rs k (.ea b Ef cs)) (l:Zg cs o vs a) (p:(decide (o<=cs.length))=true) (q:Xb rs k (.ea b Ef a) rs')
  (Ca:zf fr dst undef ya) (h:∀ w',Sep S Jc da w' rs' A->K ya ds w'):pd P (Oper.mk dst (.store T x y) ty pos after g) fr ds w K Q:=by
 obtain ⟨w',r,s,t⟩:=bN (P:=P) (c.get la) l (of_decide_eq_true p) j;refine sB (w':=w') ?_ Ca<|h w'<|c.put la rfl rfl q s t;have sa:v.cells.toList=vs:=by rw [Oa]
 have u:¬ (v.cells.size≠n):=by rw [Oa];simpa using i
 have z:=d.sizeOf (w:=w);simp only [execOp,Instr.storeAt,e ds,f ds,Instr.sureAddr,storeVar,Sem.run_bind,z,Result.andThen_ok,if_neg u,sa,r,Sem.run_pure]
class Vb (P:Program) (T:TypeId) (i:Nat) (off:outParam Nat):Prop where
 out:∀ b o w,(Instr.fieldAt T (.pointer (some ⟨b,o,none⟩)) i).run P w=.ok (.pointer (some ⟨b,o+off,none⟩)) w
theorem Yb {c:Array Field}{i off:Nat}{f:Field}{Ef:TypeId}{d:List Value}{a e:Nat}{g:Bool}(h:P.underlying T=some (.struct c)) (j:c[i]?=some f) (k:f.offset=off) (l:f.type=Ef) (m:wb P Ef g d a e) (n:(a == 0)=false):Vb P T i off:=by
 constructor;intro b o w;have p:¬ a=0:=by simpa using n
 simp [Instr.fieldAt,run_underlying h,j,Instr.sureAddr,fieldPlace,l,m.sizeOf,p,tk,k]
theorem Xl {x:Operand}{b o i off a:Nat}(c:Vb P T i off) (d:ab fr x (.pointer (some ⟨b,o,none⟩))) (e:o+off=a):Af P (Oper.mk dst (.fieldAddr T x i) ty pos after g) fr ((.pointer (some ⟨b,a,none⟩))):=by
 subst e;exact ⟨λds w=>by simp [execOp,d ds,c.out]⟩
theorem Ou {x:Operand}{b o i off a:Nat}(c:Vb P T i off) (d:ab fr x (.pointer (some ⟨b,o,none⟩))) (e:o+off=a) (f:zf fr dst ((.pointer (some ⟨b,a,none⟩))) ya) (h:K ya ds w):pd P (Oper.mk dst (.fieldAddr T x i) ty pos after g) fr ds w K Q:=Ob (Xl c d e) f h
theorem MQ {x:Operand}{i off:Nat}{cs:List Value}{v:Value}{a:Array Field}{f:Field}{Ef:TypeId}{b:List Value}{c d:Nat}(e:P.underlying T=some (.struct a)) (h:a[i]?=some f) (j:f.offset=off) (k:f.type=Ef) (l:wb P Ef false b c d)
  (m:ab fr x (.agg ⟨cs⟩)) (la:Zb cs off v):Af P (Oper.mk dst (.field T x i) ty pos after g) fr (v):=by
 subst j k;unfold Zb at la;refine ⟨λds w=>?_⟩;simp [execOp,m ds,Instr.field,run_underlying e,h,asAgg,part,l.isAgg,la]
theorem FE {x:Operand}{i off:Nat}{cs:List Value}{v:Value}{a:Array Field}{f:Field}{Ef:TypeId}{b:List Value}{c d:Nat}(e:P.underlying T=some (.struct a)) (j:a[i]?=some f) (k:f.offset=off) (l:f.type=Ef) (m:wb P Ef false b c d)
  (n:ab fr x (.agg ⟨cs⟩)) (la:Zb cs off v) (o:zf fr dst (v) ya) (h:K ya ds w):pd P (Oper.mk dst (.field T x i) ty pos after g) fr ds w K Q:=Ob (MQ e j k l m n la) o h
theorem Cy {x y:Operand}{b o len cap:Nat}{k:IntKind}{i:Int}{e:TypeId}{a:Nat}(c:P.underlying T=some (.slice e)) (d:wb P e mc zc n m) (f:ab fr x (.slice (some ⟨b,o,none⟩) len cap)) (h:ab fr y (.int k i)) (j:0<=i/\i<len) (l:o+i.toNat*n=a):Af P (Oper.mk dst (.indexAddr T x y) ty pos after g) fr ((.pointer (some ⟨b,a,none⟩))):=by
 subst l;refine ⟨λds w=>?_⟩;simp [execOp,f ds,h ds,Instr.indexAt,asIntOf,run_underlying c,j,d.sizeOf,tk]
theorem Wp {x:Operand}{a:Addr}(b:ab fr x (.pointer (some a))):Af P (Oper.mk dst (.nilCheck x) ty pos after g) fr ((.pointer (some a))):=⟨λds w=>by simp [execOp,b ds]⟩
theorem Ux {x:Operand}{a:Addr}(b:ab fr x (.pointer (some a))) (c:zf fr dst ((.pointer (some a))) ya) (h:K ya ds w):pd P (Oper.mk dst (.nilCheck x) ty pos after g) fr ds w K Q:=Ob (Wp b) c h
end
section
variable {P:Program}{Q:Exit->Act->World->Prop}{K:List Value->List Deferred->World->Prop}{fr ya:List Value}{ds:List Deferred}{w:World}
variable {dst:Option Tmp}{ty:TypeId}{pos:String}{after:Array Edge}{g:Option (Nat×Bool)}
variable {S Jc:Nat->Prop}{da:World}{rs rs':List Ha}{A:World->Prop}
variable {T:TypeId}{d:TypeDesc}{mc:Bool}{zc:List Value}{n m:Nat}
inductive ja:List Ha->Nat->List Ha->Prop where
 | z {r:Ha} {rs:List Ha}:ja (r::rs) 0 rs
 | s {r:Ha} {rs rs':List Ha} {k:Nat} (h:ja rs k rs'):ja (r::rs) (k+1) (r::rs')
theorem ja.mem {k:Nat}(h:ja rs k rs'):∀ r ∈ rs',r ∈ rs:=by
 induction h with
 | z=>intro r a; exact List.mem_cons_of_mem _ a
 | s _ b=>intro r a; rcases List.mem_cons.1 a with rfl | a; exact List.mem_cons_self; exact List.mem_cons_of_mem _<|b r a
theorem ja.sub {k:Nat}(h:ja rs k rs'):rs'.Sublist rs:=by
 induction h with
 | z=>exact List.sublist_cons_self _ _
 | s _ a=>exact a.cons_cons _
theorem Sep.drop {k:Nat}(h:Sep S Jc da w rs A) (a:ja rs k rs'):Sep S Jc da w rs' A where
 keeps:=h.keeps
 all r d:=h.all r (a.mem r d)
 oi:=(a.sub.filterMap _).nodup h.oi
 new b e:=h.new b ((a.sub.filterMap _).subset e)
 Xi:=h.Xi.mono λ_ _ c=>⟨c.1,λf=>c.2 ((a.sub.filterMap _).subset f)⟩
theorem Sep.freeze {k:Nat}{r:Ha}{B:World->Prop}(h:Sep S Jc da w rs A) (la:Zb rs k r) (d:ja rs k rs') (f:∀ b,r.block=some b->Jc b\/da.heap.size<=b) (hB:∀ w,r.holds w->B w) :
  Sep S Jc da w rs' λw=>A w/\B w where
 keeps:=(h.drop d).keeps
 all:=(h.drop d).all
 oi:=(h.drop d).oi
 new:=(h.drop d).new
 Xi:=(h.drop d).Xi.and λw' l g=>hB w' (holds_of (h.get la) λb e=>g b (h.lt (As (PA la) e)) ⟨f b e,by
  intro a;have:blocks rs'=(blocks rs).erase b\/True:=.inr trivial;clear this;have Ca:=h.oi;clear hB f l g h;unfold blocks at a Ca;unfold Zb at la
  induction d with
  | z=>simp at la; subst la; simp only [List.filterMap_cons,e,List.nodup_cons] at Ca; exact Ca.1 a
  | @s r' rs rs' k d i =>
   simp at la;cases j:r'.block with
   | none=>simp only [List.filterMap_cons,j] at a Ca; exact i la a Ca
   | some c =>
    simp only [List.filterMap_cons,j,List.nodup_cons,List.mem_cons] at a Ca;rcases a with rfl | a
    ·exact Ca.1<|List.mem_filterMap.2 ⟨r,List.mem_of_getElem? la,e⟩
    ·exact i la a Ca.2⟩)
inductive Dc (fr:List Value):Nat->List (Nat×Operand)->List Value->Prop where
 | z {i:Nat}:Dc fr i [] []
 | s {i:Nat} {x:Operand} {v:Value} {xs:List (Nat×Operand)} {vs:List Value} (h:ab fr x v) (a:ae v=true) (t:Dc fr (i+1) xs vs):Dc fr i ((i,x)::xs) (v::vs)
theorem Dc.eval {i:Nat}{xs:List (Nat×Operand)}{vs:List Value}(h:Dc fr i xs vs):xs.map (λp=>(p.1,(F fr ds).eval p.2))=(vs.zipIdx i).map λp=>(p.2,p.1):=by
 induction h with
 | z=>rfl
 | s h _ _ a=>simp [h ds,a]
theorem Dc.cell {i:Nat}{xs:List (Nat×Operand)}{vs:List Value}(h:Dc fr i xs vs):∀ v ∈ vs,ae v=true:=by
 induction h with
 | z=>simp
 | s _ a _ b=>intro v Oa; rcases List.mem_cons.1 Oa with rfl | Oa; exact a; exact b v Oa
theorem DD {v:Value}(h:ae v=true):v.cells=#[v]:=by cases v<;>first | rfl | simp [ae] at h
theorem oI (pl:Nat->Option (Nat×Nat)) (a:∀ i,pl i=some (i,1)):∀ (vs:List Value) (i:Nat) (cs:List Value),(∀ v ∈ vs,ae v=true)->i+vs.length<=cs.length ->
  Instr.fill pl ⟨cs⟩ ((vs.zipIdx i).map λp=>(p.2,p.1))=some ⟨cs.take i++vs++cs.drop (i+vs.length)⟩
 | [],i,cs,_,h=>by simp [Instr.fill]
 | v::vs,i,cs,Oa,h=>by
  have d:=DD (Oa v (by simp));have b:i<cs.length:=by simp at h;omega
  have e:=oI pl a vs (i+1) (cs.set i v) (λu f=>Oa u (by simp [f])) (by simp at h ⊢;omega);simp only [List.zipIdx_cons,List.map_cons,Instr.fill,a,d];have lb:¬ ((#[v].size≠1 || i+#[v].size > (⟨cs⟩:Array Value).size)=true):=by simp;omega
  rw [if_neg lb];have sa:(#[v].zipIdx.foldl (λcs (c,j)=>cs.setIfInBounds (i+j) c) (⟨cs⟩:Array Value))=⟨cs.set i v⟩:=by
   simp [Array.zipIdx]
  rw [sa,e];have g:(cs.set i v).take (i+1)=cs.take i++[v]:=by
   rw [List.take_set,List.take_add_one,List.getElem?_eq_getElem b];rw [List.set_append_right _ _ (by simp;omega)];simp [Nat.min_eq_left (Nat.le_of_lt b)]
  have k:(cs.set i v).drop (i+1+vs.length)=cs.drop (i+(v::vs).length):=by
   rw [List.drop_set_of_lt (by omega)];congr 1;simp;omega
  rw [g,k];simp
theorem Qg {e:TypeId}{len:Nat}{xs:List (Nat×Operand)}{vs:List Value}(l:P.underlying T=some (.slice e)) (a:wb P e mc zc 1 m) (c:Dc fr 0 xs vs) (d:vs.length=len) (n:(decide (len<=16777216))=true) (o:Sep S Jc da w rs A)
  (h:∀ b w',w.heap.size<=b->Sep S Jc da w' (.ea b e vs::rs) A->Hg fr dst (.slice (some ⟨b,0,none⟩) len len) λya=>K ya ds w'):pd P (Oper.mk dst (.buildSlice T len ⟨xs⟩) ty pos after g) fr ds w K Q:=by
 obtain ⟨ya,Ca⟩:=Fi fr dst (.slice (some ⟨w.heap.size,0,none⟩) len len);refine Fh (v:=.slice (some ⟨w.heap.size,0,none⟩) len len) (w':=w.alloc (.cells ⟨vs⟩ e)) ?_ Ca<|h _ _ (Nat.le_refl _) (o.alloc rfl<|heap_alloc_new w _) ya Ca;obtain ⟨z,q,u⟩:=a.zero (w:=w);have r:=a.sizeOf (w:=w);have s:¬ (len*1 > 2 ^ 24):=by have:=of_decide_eq_true n;omega
 have t:=c.eval (ds:=ds);have f:∀ cs:Array Value,cs.size=len->Instr.fill (λi=>some (i*1,1)) cs ((vs.zipIdx 0).map λp=>(p.2,p.1))=some ⟨vs⟩:=by
  intro cs j;have:=oI (λi=>some (i*1,1)) (λi=>by rw [Nat.mul_one]) vs 0 cs.toList c.cell (by simp [d,j]);rw [this,List.drop_eq_nil_of_le (by simp [d,j])];simp
 have la:((⟨xs⟩:Array (Nat×Operand)).map λ(i,x)=>(i,(F fr ds).eval x)).toList=(vs.zipIdx 0).map λp=>(p.2,p.1):=by
  simp only [Array.toList_map];exact t
 unfold execOp;simp only [Instr.buildSlice,Sem.run_bind,run_underlying l,Result.andThen_ok,r,if_neg s,la];by_cases k:len*1=0
 ·simp only [if_pos k,Sem.run_bind,Sem.run_pure,Result.andThen_ok];rw [f _ (by simp)];simp [newRow]
 ·simp only [if_neg k,Sem.run_bind,Sem.run_pure,Result.andThen_ok,q];rw [f _ (by simp)];simp [newRow]
theorem Sep.row {k:Nat}{v q:Value}{sz x:Nat}{xs y:List Value}{w':World}(g:Sep S Jc da w rs A) (la:Zb rs k (.row v T sz n xs)) (D:Xb rs k (.row q T sz x y) rs') (G:Row w' q T sz x y)
  (p:Ui (λb=>some b≠v.ownBlock) w w') (Oa:q.ownBlock=v.ownBlock\/∃ b,q.ownBlock=some b/\w.heap.size<=b):Sep S Jc da w' rs' A:=by
 unfold Xb at D;subst D;have z:∀ b,v.ownBlock=some b->b ∈ blocks rs:=λb d=>As (PA la) d;have B:∀ b ∈ blocks (rs.set k (.row q T sz x y)),(b ∈ blocks rs)\/(q.ownBlock=some b/\w.heap.size<=b):=by
  intro b d;obtain ⟨r,u,o⟩:=List.mem_filterMap.1 d;rcases List.mem_or_eq_of_mem_set u with f | rfl
  ·exact .inl<|As f o
  ·rcases Oa with Oa | ⟨c,s,hle⟩
   ·exact .inl<|z b<|Oa ▸ o
   ·have:c=b:=by simpa [Ha.block,s] using o
    subst this;exact .inr ⟨s,hle⟩
 have H:∀ b ∈ blocks rs,b ∈ blocks (rs.set k (.row q T sz x y))\/v.ownBlock=some b:=by
  intro b d;obtain ⟨r,u,o⟩:=List.mem_filterMap.1 d;obtain ⟨j,C⟩:=List.mem_iff_getElem?.1 u;by_cases e:k=j
  ·subst e;unfold Zb at la;rw [la] at C;cases C;exact .inr o
  ·exact .inl<|As (r:=r) (List.mem_of_getElem? (i:=j) (by rw [List.getElem?_set_ne e];exact C)) o
 refine ⟨?_,?_,?_,?_,?_⟩
 ·refine ⟨p.os.trans g.keeps.os,p.tape.trans g.keeps.tape,p.output.trans g.keeps.output,Nat.le_trans g.keeps.size p.size,λb d t=>?_⟩;rw [p.ea b (Nat.lt_of_lt_of_le d g.keeps.size) (λe=>by rcases g.new b (z b e.symm) with h | h;exact absurd d (by omega);exact h t)];exact g.keeps.ea b d t
 ·intro K L;obtain ⟨j,f⟩:=List.mem_iff_getElem?.1 L;by_cases e:k=j
  ·subst e;have m:k<rs.length:=(List.getElem?_eq_some_iff.1 la).1;rw [List.getElem?_set_self m] at f;cases f;exact G
  ·rw [List.getElem?_set_ne e] at f;refine holds_of (g.all K<|List.mem_of_getElem? f) λc s=>p.ea c (g.lt<|As (List.mem_of_getElem? f) s) λM=>?_;exact tH g.oi la f e (b:=c) M.symm s
 ·have Ca:=g.oi;have m:=λb (d:b ∈ blocks rs)=>g.lt d;clear B H z;unfold Zb at la
  revert la Ca m
  generalize rs=l;unfold blocks;intro la Ca m
  induction l generalizing k with
  | nil=>simp at la
  | cons a l E =>
   cases k with
   | zero =>
    simp at la;subst la;simp only [List.set_cons_zero,List.filterMap_cons,Ha.block] at Ca m ⊢;rcases Oa with Oa | ⟨c,s,hle⟩
    ·rw [Oa];exact Ca
    ·rw [s];cases d:v.ownBlock with
     | none =>
      rw [d] at Ca m;exact List.nodup_cons.2 ⟨λf=>by have:=m c f;omega,Ca⟩
     | some b =>
      rw [d] at Ca m;exact List.nodup_cons.2 ⟨λf=>by have:=m c (List.mem_cons_of_mem _ f);omega,(List.nodup_cons.1 Ca).2⟩
   | succ k =>
    simp at la;simp only [List.set_cons_succ,List.filterMap_cons] at Ca m ⊢;cases F:a.block with
    | none=>rw [F] at Ca m; exact E la Ca m
    | some c =>
     rw [F] at Ca m;simp only [List.nodup_cons] at Ca ⊢;refine ⟨λf=>?_,E la Ca.2 λb d=>m b (List.mem_cons_of_mem _ d)⟩;obtain ⟨r,u,o⟩:=List.mem_filterMap.1 f;rcases List.mem_or_eq_of_mem_set u with f | rfl
     ·exact Ca.1<|List.mem_filterMap.2 ⟨r,f,o⟩
     ·rcases Oa with Oa | ⟨c',N,hle⟩
      ·exact Ca.1<|List.mem_filterMap.2 ⟨_,List.mem_of_getElem? la,by rw [<- o];exact Oa.symm⟩
      ·have:c'=c:=by simpa [Ha.block,N] using o
       have:=m c (by simp);omega
 ·intro b d;rcases B b d with h | h
  ·exact g.new b h
  ·exact .inl<|Nat.le_trans g.keeps.size h.2
 ·intro O P Q;refine g.Xi O (Nat.le_trans p.size P) λb d t=>?_;rw [Q b (Nat.lt_of_lt_of_le d p.size) ⟨t.1,λf=>by rcases B b f with h | h;exact t.2 h;exact absurd d (by omega)⟩];exact p.ea b d λe=>t.2 (z b e.symm)
end
section
variable {P:Program}{Q:Exit->Act->World->Prop}{K:List Value->List Deferred->World->Prop}{fr ya:List Value}{ds:List Deferred}{w:World}
variable {dst:Option Tmp}{ty:TypeId}{pos:String}{after:Array Edge}{g:Option (Nat×Bool)}
variable {S Jc:Nat->Prop}{da:World}{rs rs':List Ha}{A:World->Prop}
variable {T:TypeId}{d:TypeDesc}{mc:Bool}{zc:List Value}{n m:Nat}
theorem gH {t ty:TypeId}{sz bytes:Nat}(q:P.underlying t=some (.slice T)) (M:wb P T mc zc sz bytes) (N:zc.length=sz) (Gb:0<sz)
  {v:Value}{xs:List Value}(h:Row w v T sz n xs) {a:Addr}{m c:Nat}{news:List Value}(la:news.length=m*sz) (y:∀ j u,news[j]?=some u->w.cell? (a.add j)=some u) (O:∀ u ∈ news,u.oneCell'=true)
  (E:n+m<=maxLen) (F:(n+m)*bytes<=140737488355328) :
  ∃ r w',(Builtin.append_ #[t,t] ty #[v,.slice (some a) m c]).run P w=.ok r w'/\Row w' r T sz (n+m) (xs++news)/\Ui (λb=>some b≠v.ownBlock) w w' /\
   (r.ownBlock=v.ownBlock\/∃ b,r.ownBlock=some b/\w.heap.size<=b):=by
 obtain ⟨i,z,s,G,Q,H,R⟩:=M.inf;have S:z.cells.size=i.size:=by rw [Q,H];simpa using N
 subst H;subst R;have gc:n+m<=9223372036854775807:=by simp only [maxLen] at E;omega
 have x:(xs++news).length=(n+m)*i.size:=by rw [List.length_append,h.1,la,Nat.add_mul]
 have grown:∀ (d:Nat),d<n+m->∀ (row:Option Nat),
   Row (w.drew.alloc (.cells (xs.toArray++news.toArray++Builtin.zeroCells z.cells (grownCap w (n+m) d T - (n+m))) T)) (.slice (some ⟨w.heap.size,0,none⟩) (n+m) (grownCap w (n+m) d T)) T i.size (n+m) (xs++news) /\
   Ui (λb=>some b≠row) w (w.drew.alloc (.cells (xs.toArray++news.toArray++Builtin.zeroCells z.cells (grownCap w (n+m) d T - (n+m))) T)):=by
  intro d lc row;have U:=grownCap_ge w (n+m) d T;have A:grownCap w (n+m) d T<=maxLen:=grownCap_le_maxLen w (n+m) d T E;refine ⟨⟨x,.inr ⟨w.heap.size,0,_,_,rfl,heap_alloc_new w.drew _,U,A,?_,?_⟩⟩,⟨rfl,rfl,rfl,by simp,λk B _=>heap_alloc_old w.drew _ k B⟩⟩
  ·simp only [Array.size_append,List.size_toArray,size_zeroCells,S,h.1,la,<- Nat.add_mul,Nat.zero_add];exact Nat.mul_le_mul_right _ (by omega)
  ·simp only [Array.toList_append,List.append_assoc,List.drop_zero];rw [<- List.append_assoc,<- x];exact List.take_left
 rcases h.2 with ⟨rfl,rfl⟩ | ⟨g,o,cap,cur,rfl,C,rc,A,fd,K⟩
 ·have V:xs=[]:=List.eq_nil_of_length_eq_zero (by simpa using h.1);subst V;by_cases hm:m=0
  ·subst hm;have W:news=[]:=List.eq_nil_of_length_eq_zero (by simpa using la);subst W;refine ⟨.slice none 0 0,w,?_,⟨by simp,.inl ⟨rfl,rfl⟩⟩,.refl w,.inl rfl⟩;simp [Builtin.append_,run_underlying q,sizeOf,typeInfo,s,Builtin.lenOf,Builtin.firstCells,loadCells,loadCellsFrom]
  ·have l:=run_append_nil (P:=P) w t ty T i z q s G a m c news la y (by omega) (by omega) (by have X:=F;simp only [Nat.zero_add] at X;omega);have f:=grown 0 (by omega) (Value.ownBlock (.slice none 0 0));simp only [Nat.zero_add,List.nil_append,Array.empty_append] at f ⊢;exact ⟨_,_,l,f.1,f.2,.inr ⟨_,rfl,Nat.le_refl _⟩⟩
 ·by_cases D:n+m<=cap
  ·have hmul:n*i.size+news.length<=cap*i.size:=by rw [la,<- Nat.add_mul];exact Nat.mul_le_mul_right _ D
   have Y:o+n*i.size+news.length<=cur.size:=by omega
   have l:(Builtin.append_ #[t,t] ty #[.slice (some ⟨g,o,none⟩) n cap,.slice (some a) m c]).run P w =
     .ok (.slice (some ⟨g,o,none⟩) (n+m) cap) (w.setRow g (cur.toList.take (o+n*i.size)++news++cur.toList.drop (o+n*i.size+news.length)).toArray):=by
    have Z:=run_firstCells_some (P:=P) w i.size m a m c news la y;have L:=run_storeCells_at P g (o+n*i.size) T news 0 cur w C (by simpa using Y) O;simp only [Nat.add_zero] at L;simp [Builtin.append_,run_underlying q,sizeOf,typeInfo,s,Builtin.lenOf,D,Z,tk,L]
   refine ⟨_,_,l,⟨x,.inr ⟨g,o,cap,_,rfl,setRow_heap w g cur _ T _ C,D,A,?_,?_⟩⟩,⟨rfl,rfl,rfl,by simp [World.setRow],λk _ B=>setRow_other w g k _ (λe=>B (by simp [Value.ownBlock,e]))⟩,.inl rfl⟩
   ·simp only [List.size_toArray,List.length_append,List.length_take,List.length_drop,Array.length_toList];omega
   ·rw [<- x,<- K];have sa:(cur.toList.take (o+n*i.size)).drop o=(cur.toList.drop o).take (n*i.size):=by
     rw [List.drop_take];congr 1;omega
    have bb:o<=(cur.toList.take (o+n*i.size)).length:=by simp;omega
    rw [List.append_assoc,List.drop_append_of_le_length bb,sa,<- List.append_assoc];exact List.take_left
  ·have holds:∀ j u,xs[j]?=some u->w.cell? ((⟨g,o,none⟩:Addr).add j)=some u:=by
    intro j u p;rw [tk,cell_of_row w g (o+j) cur T (0,0) C];rw [<- K,List.getElem?_take] at p;split at p
    ·rw [List.getElem?_drop] at p;simpa using p
    ·cases p
   have l:=run_append_grow (P:=P) w t ty T i z q s G ⟨g,o,none⟩ n cap xs h.1 holds a m c news la y (by omega) (by omega) (growslice_fits (by omega) F);have f:=grown cap (by omega) (Value.ownBlock (.slice (some ⟨g,o,none⟩) n cap));exact ⟨_,_,l,f.1,f.2,.inr ⟨_,rfl,Nat.le_refl _⟩⟩
theorem Sep.mi (h:Sep S Jc da w rs A) (T:TypeId) (sz:Nat):Sep S Jc da w (.row (.slice none 0 0) T sz 0 []::rs) A where
 keeps:=h.keeps
 all r a:=by
  rcases List.mem_cons.1 a with rfl | a
  ·exact ⟨by simp,.inl ⟨rfl,rfl⟩⟩
  ·exact h.all r a
 oi:=h.oi
 new:=h.new
 Xi:=h.Xi
theorem su {t:TypeId}{s x:Operand}{v:Value}{sz bytes k b o e c:Nat}{xs news:List Value}(p:P.underlying t=some (.slice T)) (q:wb P T mc zc sz bytes) (f:(zc.length == sz && decide (0<sz))=true)
  (r:ab fr s v) (y:ab fr x (.slice (some ⟨b,o,none⟩) e c)) (l:Sep S Jc da w rs A) (la:Zb rs k (.row v T sz n xs)) (z:dj w b o news) (B:news.length=e*sz) (C:news.all ae=true)
  (m:n+e<=4294967296/\bytes<=4096)
  (h:∀ d w' rs',Xb rs k (.row d T sz (n+e) (xs++news)) rs'->Sep S Jc da w' rs' A->Hg fr dst d λya=>K ya ds w') :
  pd P (Oper.mk dst (.call { callee:=.builtin .append,args:=#[s,x],argTypes:=#[t,t] }) ty pos after g) fr ds w K Q:=by
 simp only [Bool.and_eq_true,beq_iff_eq,decide_eq_true_eq] at f;have D:(n+e)*bytes<=140737488355328:=Nat.le_trans (Nat.mul_le_mul m.1 m.2) (by decide);obtain ⟨d,w',E,F,G,Oa⟩:=gH (P:=P) (ty:=ty) p q f.1 f.2 (l.get la) (a:=⟨b,o,none⟩) (c:=c) B (λj u i=>by rw [tk];exact z j u i) (λu i=>oA (List.all_eq_true.1 C u i)) (by unfold maxLen;omega) D;obtain ⟨ya,Ca⟩:=Fi fr dst d;refine Fh (v:=d) (w':=w') ?_ Ca<|h d w' _ rfl (l.row la rfl F G Oa) ya Ca;have sa:=r ds;have H:=y ds;simp [execOp,resolve,invoke,builtin,sa,H,E]
inductive Rw (P:Program) (fr:List Value) (w:World):ResultVar->Value->Prop where
 | t {n:Nat} {v:Value} (h:Zb fr n v):Rw P fr w (.tmp n) v
 | c {n b o:Nat} {v:Value} {T:TypeId} {zc:List Value} {k m:Nat} (h:Zb fr n (.pointer (some ⟨b,o,none⟩))) (d:wb P T false zc k m) (e:w.cell? ⟨b,o,none⟩=some v):Rw P fr w (.cell n T) v
 | a {n b o:Nat} {cs:List Value} {T:TypeId} {zc:List Value} {k m:Nat} (h:Zb fr n (.pointer (some ⟨b,o,none⟩))) (d:wb P T true zc k m) (e:dj w b o cs) (f:cs.length=k):Rw P fr w (.cell n T) (.agg ⟨cs⟩)
inductive ib (P:Program) (fr:List Value) (w:World):List ResultVar->List Value->Prop where
 | z:ib P fr w [] []
 | s {r:ResultVar} {v:Value} {rs:List ResultVar} {vs:List Value} (h:Rw P fr w r v) (t:ib P fr w rs vs):ib P fr w (r::rs) (v::vs)
def po (tmps:Array Value):ResultVar->Sem Value
 | .tmp t=>pure (tmps.getD t undef)
 | .cell a t=>do loadVar t (<- asAddr (tmps.getD a undef))
theorem fD (fn:Func) (tmps:Array Value):results fn tmps=(do
  let vs <- fn.results.mapM (po tmps)
  pure (if h:vs.size=1 then vs[0] else .tuple vs)):=by
 unfold results;congr 1
theorem Rw.run {r:ResultVar}{v:Value}(h:Rw P fr w r v):(po (F fr ds).tmps r).run P w=.ok v w:=by
 cases h with
 | t h=>unfold Zb at h; simp [po,F,h]
 | c h d e=>unfold Zb at h; simp [po,F,h,asAddr,loadVar,d.isAgg,e]
 | a h d e f =>
  unfold Zb at h;rename_i n b o cs T zc k m;have la:=run_loadCells_list (P:=P) w ⟨b,o,none⟩ cs (λj v g=>by rw [tk];exact e j v g);rw [f] at la;simp [po,F,h,asAddr,loadVar,d.isAgg,d.sizeOf,la]
theorem ib.run {rs:List ResultVar}{vs:List Value}(h:ib P fr w rs vs):(rs.mapM (po (F fr ds).tmps)).run P w=.ok vs w:=by
 induction h with
 | z=>simp
 | @s r v rs vs h _ a =>
  have b:=h.run (ds:=ds);simp only [List.mapM_cons,Sem.run_bind];rw [b];simp only [Result.andThen_ok];rw [a];simp
def Pu:List Value->Value
 | [v]=>v
 | vs=>.tuple ⟨vs⟩
theorem uH {fn:Func}{a:List ResultVar}{vs:List Value}(b:fn.results=⟨a⟩) (h:ib P fr w a vs):(results fn (F fr ds).tmps).run P w=.ok (Pu vs) w:=by
 have c:=h.run (ds:=ds);rw [fD,b];rw [Array.mapM_eq_mapM_toList];simp only [Sem.run_bind,Sem.run_map,c,Result.andThen_ok]
 match vs with
 | []=>simp [Pu]
 | [v]=>simp [Pu]
 | v::d::vs=>simp [Pu]
theorem Se {fn:Func}{R:Value->World->Prop}{a:List ResultVar}{vs:List Value}(b:fn.results=⟨a⟩) (Oa:ib P fr w a vs) (h:R (Pu vs) w):lq P fn R .ret (F fr []) w :=
 bodyPost_ret (uH b Oa) rfl h
end
section
variable {P:Program}{Q:Exit->Act->World->Prop}{K:List Value->List Deferred->World->Prop}{fr ya:List Value}{ds:List Deferred}{w:World}
variable {dst:Option Tmp}{ty:TypeId}{pos:String}{after:Array Edge}{g:Option (Nat×Bool)}
variable {S Jc:Nat->Prop}{da:World}{rs rs':List Ha}{A:World->Prop}
variable {T:TypeId}{d:TypeDesc}{mc:Bool}{zc:List Value}{n m:Nat}
theorem Sep.ea {k b:Nat}{cs:List Value}(h:Sep S Jc da w rs A) (la:Zb rs k (.ea b T cs)):Ck w b T cs:=h.get la
inductive ch:List Value->Nat->List Value->Prop where
 | z {cs:List Value} {o:Nat}:ch cs o []
 | s {cs:List Value} {o:Nat} {v:Value} {vs:List Value} (h:Zb cs o v) (t:ch cs (o+1) vs):ch cs o (v::vs)
theorem ch.at {cs:List Value}{o:Nat}{vs:List Value}(h:ch cs o vs):∀ j v,vs[j]?=some v->cs[o+j]?=some v:=by
 induction h with
 | z=>intro j v h; simp at h
 | @s o v vs h t b =>
  intro j u a;cases j with
  | zero=>simp at a; subst a; exact h
  | succ j=>have:=b j u (by simpa using a); rw [show o+(j+1)=o+1+j by omega]; exact this
theorem Ck.Qs {b o:Nat}{cs vs:List Value}(h:Ck w b T cs) (a:ch cs o vs):dj w b o vs:=λj v c=>h.cell (a.at j v c)
theorem yc {x y:Operand}{b o k:Nat}{v:Value}{cs a:List Value}(d:wb P T mc zc 1 m) (e:ab fr x (.pointer (some ⟨b,o,none⟩))) (f:ab fr y v) (Oa:ae v=true)
  (i:Sep S Jc da w rs A) {Ef:TypeId}(la:Zb rs k (.ea b Ef cs)) (j:Xb cs o v a) (c:(decide (o<cs.length))=true) (l:Xb rs k (.ea b Ef a) rs')
  (Ca:zf fr dst undef ya) (h:∀ w',Sep S Jc da w' rs' A->K ya ds w'):pd P (Oper.mk dst (.store T x y) ty pos after g) fr ds w K Q :=
 EE (vs:=[v]) d e f (DD Oa) rfl (by simp [Oa]) i la (.s j (of_decide_eq_true c) .z) (decide_eq_true (Nat.le_of_lt (of_decide_eq_true c))) l Ca h
structure Jg (P:Program) (T:TypeId) (pl:Array (Nat×Nat)):Prop where
 out:∃ a,P.underlying T=some (.struct a)/\∀ w,((a.mapM λf=>do pure (f.offset,<- Go.sizeOf f.type):Sem (Array (Nat×Nat))).run P w)=.ok pl w
theorem Wg {a:Array Field}{pl:Array (Nat×Nat)}(b:P.underlying T=some (.struct a)) (h:∀ w,((a.mapM λf=>do pure (f.offset,<- Go.sizeOf f.type):Sem (Array (Nat×Nat))).run P w)=.ok pl w):Jg P T pl:=⟨a,b,h⟩
inductive eb (fr:List Value) (pl:Array (Nat×Nat)):List Value->List (Nat×Operand)->List Value->Prop where
 | z {cs:List Value}:eb fr pl cs [] cs
 | o {cs cs1 out:List Value} {i off:Nat} {x:Operand} {v:Value} {xs:List (Nat×Operand)} (a:pl[i]?=some (off,1)) (b:ab fr x v) (Oa:ae v=true) (c:decide (off<cs.length)=true) (d:Xb cs off v cs1) (t:eb fr pl cs1 xs out):eb fr pl cs ((i,x)::xs) out
 | n {cs cs1 out vs:List Value} {i off n:Nat} {x:Operand} {xs:List (Nat×Operand)} (a:pl[i]?=some (off,n)) (b:ab fr x (.agg ⟨vs⟩)) (e:vs.length=n) (c:decide (off+n<=cs.length)=true) (d:Zg cs off vs cs1) (t:eb fr pl cs1 xs out):eb fr pl cs ((i,x)::xs) out
theorem pz:∀ (vs:List Value) (off j:Nat) (cs:List Value),off+j+vs.length<=cs.length ->
  ((vs.zipIdx j).foldl (λ(cs:Array Value) (p:Value×Nat)=>cs.setIfInBounds (off+p.2) p.1) ⟨cs⟩)=⟨cs.take (off+j)++vs++cs.drop (off+j+vs.length)⟩
 | [],off,j,cs,_=>by simp
 | v::vs,off,j,cs,h=>by
  have a:off+j<cs.length:=by simp at h;omega
  rw [List.zipIdx_cons,List.foldl_cons];have lb:(⟨cs⟩:Array Value).setIfInBounds (off+j) v=⟨cs.set (off+j) v⟩:=by simp
  simp only [lb];rw [pz vs off (j+1) (cs.set (off+j) v) (by simp at h ⊢;omega)];have b:(cs.set (off+j) v).take (off+(j+1))=cs.take (off+j)++[v]:=by
   rw [show off+(j+1)=off+j+1 by omega,List.take_set,List.take_add_one,List.getElem?_eq_getElem a];rw [List.set_append_right _ _ (by simp;omega)];simp [Nat.min_eq_left (Nat.le_of_lt a)]
  have c:(cs.set (off+j) v).drop (off+(j+1)+vs.length)=cs.drop (off+j+(v::vs).length):=by
   rw [List.drop_set_of_lt (by omega)];congr 1;simp;omega
  rw [b,c];simp
theorem eb.run {pl:Array (Nat×Nat)}{cs out:List Value}{xs:List (Nat×Operand)}(h:eb fr pl cs xs out):Instr.fill (pl[·]?) ⟨cs⟩ (xs.map λp=>(p.1,(F fr ds).eval p.2))=some ⟨out⟩:=by
 induction h with
 | z=>rfl
 | @o cs cs1 out i off x v xs b d Oa e a t f =>
  have g:=of_decide_eq_true e;simp only [List.map_cons,Instr.fill,b,d ds,DD Oa];have lb:¬ ((#[v].size≠1 || off+#[v].size > (⟨cs⟩:Array Value).size)=true):=by simp;omega
  rw [if_neg lb];have sa:(#[v].zipIdx.foldl (λcs (c,j)=>cs.setIfInBounds (off+j) c) (⟨cs⟩:Array Value))=⟨cs1⟩:=by
   unfold Xb at a;subst a;simp [Array.zipIdx]
  rw [sa];exact f
 | @n cs cs1 out vs i off n x xs b d k e a t f =>
  have g:=of_decide_eq_true e;simp only [List.map_cons,Instr.fill,b,d ds];have lb:¬ (((Value.agg ⟨vs⟩).cells.size≠n || off+(Value.agg ⟨vs⟩).cells.size > (⟨cs⟩:Array Value).size)=true):=by simp [Value.cells,k];omega
  rw [if_neg lb];have sa:((Value.agg ⟨vs⟩).cells.zipIdx.foldl (λcs (c,j)=>cs.setIfInBounds (off+j) c) (⟨cs⟩:Array Value))=⟨cs1⟩:=by
   have:=pz vs off 0 cs (by omega);rw [a.res (by omega)];simp only [Nat.add_zero] at this;rw [<- this];rw [<- Array.foldl_toList];simp [Value.cells]
  rw [sa];exact f
theorem Ke {pl:Array (Nat×Nat)}{xs:List (Nat×Operand)}{out:List Value}(a:wb P T mc zc n m) (b:Jg P T pl) (c:eb fr pl zc xs out) (d:zf fr dst (.agg ⟨out⟩) ya) (h:K ya ds w) :
  pd P (Oper.mk dst (.build T ⟨xs⟩) ty pos after g) fr ds w K Q:=by
 refine Fh (v:=.agg ⟨out⟩) (w':=w) ?_ d h;obtain ⟨z,e,f⟩:=a.zero (w:=w);have j:=c.run (ds:=ds);obtain ⟨q,k,l⟩:=b.out;have o:=l w;have la:((⟨xs⟩:Array (Nat×Operand)).map λ(i,x)=>(i,(F fr ds).eval x)).toList=xs.map λp=>(p.1,(F fr ds).eval p.2):=by simp
 unfold execOp;simp only [Instr.build,Sem.run_bind,e,Result.andThen_ok,run_underlying k];rw [o];simp only [Result.andThen_ok,f,la];rw [j];simp
theorem cp {e:TypeId}{x:Operand}{cs:List Value}(k:P.underlying T=some (.slice e)) (j:wb P e mc zc n m) (c:(zc.length == n && decide (0<n) && decide (n<=1000))=true) (l:ab fr x (.agg ⟨cs⟩)) (d:cs.length=n) (o:Sep S Jc da w rs A)
  (h:∀ b w',w.heap.size<=b->Sep S Jc da w' (.ea b e cs::rs) A->Hg fr dst (.slice (some ⟨b,0,none⟩) 1 1) λya=>K ya ds w'):pd P (Oper.mk dst (.buildSlice T 1 #[(0,x)]) ty pos after g) fr ds w K Q:=by
 obtain ⟨ya,Ca⟩:=Fi fr dst (.slice (some ⟨w.heap.size,0,none⟩) 1 1);refine Fh (v:=.slice (some ⟨w.heap.size,0,none⟩) 1 1) (w':=w.alloc (.cells ⟨cs⟩ e)) ?_ Ca<|h _ _ (Nat.le_refl _) (o.alloc rfl<|heap_alloc_new w _) ya Ca;obtain ⟨z,p,y⟩:=j.zero (w:=w);have q:=j.sizeOf (w:=w);simp only [Bool.and_eq_true,beq_iff_eq,decide_eq_true_eq] at c;have r:¬ (1*n > 2 ^ 24):=by have:=c.2;omega
 have s:¬ (1*n=0):=by have:=c.1.2;omega
 have t:∀ a:Array Value,a.size=n->Instr.fill (λi=>some (i*n,n)) a [(0,Value.agg ⟨cs⟩)]=some ⟨cs⟩:=by
  intro a f;simp only [Instr.fill];have lb:¬ (((Value.agg ⟨cs⟩).cells.size≠n || 0*n+(Value.agg ⟨cs⟩).cells.size > a.size)=true):=by simp [Value.cells,d,f]
  rw [if_neg lb];congr 1;have u:=pz cs (0*n) 0 a.toList (by simp [d,f]);rw [<- Array.foldl_toList];have sa:(Value.agg ⟨cs⟩).cells.zipIdx.toList=cs.zipIdx 0:=by simp [Value.cells]
  rw [sa];refine u.trans ?_;rw [List.drop_eq_nil_of_le (by simp [d,f])];simp
 have la:(#[(0,x)].map λ(i,x)=>(i,(F fr ds).eval x)).toList=[(0,Value.agg ⟨cs⟩)]:=by simp [l ds]
 unfold execOp;simp only [Instr.buildSlice,Sem.run_bind,run_underlying k,Result.andThen_ok,q,if_neg r,la,if_neg s,Sem.run_pure,p];rw [t _ (by simp)];simp [newRow]
end
theorem Sep.Be {S Jc:Nat->Prop}{da w:World}{rs rs':List Ha}{A:World->Prop}{k:Nat}{r:Ha}(h:Sep S Jc da w (rs.set k r) A) (a:Xb rs k r rs'):Sep S Jc da w rs' A:=by
 unfold Xb at a;rw [<- a];exact h
theorem Sep.drew {S Jc:Nat->Prop}{da w w':World}{rs:List Ha}{A:World->Prop}(h:Sep S Jc da w rs A) (a:w'.heap=w.heap) (b:w'.os=w.os) (c:w'.tape=w.tape) (d:w'.output=w.output):Sep S Jc da w' rs A :=
 h.grow ⟨b,c,d,by rw [a];exact Nat.le_refl _,λk _ _=>by rw [a]⟩
section
variable {P:Program}{Q:Exit->Act->World->Prop}{K:List Value->List Deferred->World->Prop}{fr ya:List Value}{ds:List Deferred}{w:World}
variable {dst:Option Tmp}{ty:TypeId}{pos:String}{after:Array Edge}{g:Option (Nat×Bool)}
variable {T:TypeId}
theorem ZD (a b:ByteArray):(a == b)=true ↔ a=b:=by
 obtain ⟨x⟩:=a;obtain ⟨y⟩:=b;constructor
 ·intro h;have e:x=y:=by simpa using (show (x == y)=true from h)
  rw [e]
 ·intro h;cases h;show (x == x)=true;simp
structure Cr (P:Program) (m:Nat) (T:TypeId) (v a:Value) (b:Bool):Prop where
 out:∀ d w,m<=d->(Op.equalIn d T v a).run P w=.ok b w
theorem eq_int {k k':IntKind}{a b:Int}(c:P.underlying T=some (.int k)):Cr P 1 T (.int k' a) (.int k' b) (decide (a=b)):=⟨λd w Ca=>by
 cases d with
 | zero=>omega
 | succ d=>simp [Op.equalIn,run_underlying c]; by_cases h:a=b <;> simp [h]⟩
theorem PJ {a b:List UInt8}(c:P.underlying T=some .string):Cr P 1 T (S a) (S b) (decide (a=b)):=⟨λd w Ca=>by
 cases d with
 | zero=>omega
 | succ d =>
  simp only [Op.equalIn,run_underlying c,S,Sem.run_bind,Result.andThen_ok,Sem.run_pure];congr 1;rw [Bool.eq_iff_iff,ZD];simp⟩
def Fm:List Bool->Bool
 | []=>true
 | [b]=>b
 | b::bs=>b && Fm bs
theorem cA (b:Bool) (bs:List Bool):Fm (b::bs)=(b && Fm bs):=by cases bs<;>simp [Fm]
inductive Yl (P:Program) (m:Nat) (xs ys:List Value):List Field->List Bool->Prop where
 | z:Yl P m xs ys [] []
 | o {f : Field} {a : List Field} {v d : Value} {b : Bool} {bs : List Bool} {T : TypeId} {off : Nat} {zc : List Value} {n k : Nat} (e : (f.name == "_") = false) (g : f.type = T) (h : f.offset = off) (i : wb P T false zc n k) (j : Zb xs off v) (l : Zb ys off d) (he : Cr P m T v d b) (t : Yl P m xs ys a bs) : Yl P m xs ys (f :: a) (b :: bs)
 | n {f : Field} {a : List Field} {vs c : List Value} {b : Bool} {bs : List Bool} {T : TypeId} {off : Nat} {zc : List Value} {n k : Nat} (e : (f.name == "_") = false) (g : f.type = T) (h : f.offset = off) (i : wb P T true zc n k) (j : ch xs off vs) (l : ch ys off c) (la : vs.length = n) (p : c.length = n) (he : Cr P m T (.agg ⟨vs⟩) (.agg ⟨c⟩) b) (t : Yl P m xs ys a bs) : Yl P m xs ys (f :: a) (b :: bs)
structure Sw (P:Program) (T:TypeId) (a:List Field):Prop where
 EG:P.underlying T=some (.struct ⟨a⟩)
 held:P.stoodInHeld T=false
 guard:P.eqGuardType P.depth T=false
theorem pI {zc:List Value}{n k off:Nat}{xs:List Value}{v:Value}(b:wb P T false zc n k) (a:Zb xs off v):(part T ⟨xs⟩ off).run P w=.ok v w:=by
 unfold Zb at a;simp [part,b.isAgg,a]
theorem ch.extract {cs vs:List Value}{o:Nat}(h:ch cs o vs):(cs.drop o).take vs.length=vs:=by
 induction h with
 | z=>simp
 | @s o v vs Oa t a =>
  unfold Zb at Oa;have b:o<cs.length:=(List.getElem?_eq_some_iff.1 Oa).1;rw [List.drop_eq_getElem_cons b,(List.getElem?_eq_some_iff.1 Oa).2];simp [a]
theorem qI {zc:List Value}{n k off:Nat}{xs vs:List Value}(a:wb P T true zc n k) (b:ch xs off vs) (c:vs.length=n):(part T ⟨xs⟩ off).run P w=.ok (.agg ⟨vs⟩) w:=by
 have:=b.extract;rw [c] at this;simp [part,a.isAgg,a.sizeOf,this]
theorem Yl.run {m:Nat}{xs ys:List Value}{e:List Field}{bs:List Bool}(h:Yl P m xs ys e bs) (d:Nat) (Ca:m<=d) :
  (forIn (⟨e⟩ : Array Field) ((none, ()) : Option Bool × Unit) (fun f _ => (if f.name ≠ "_" then do
     if !(<- Op.equalIn d f.type (<- part f.type ⟨xs⟩ f.offset) (<- part f.type ⟨ys⟩ f.offset)) then pure (ForInStep.done (some false,())) else pure (ForInStep.yield (none,()))
    else pure (ForInStep.yield (none,())):Sem (ForInStep (Option Bool×Unit))))).run P w=.ok (if Fm bs then (none,()) else (some false,())) w:=by
 induction h with
 | z=>simp [Fm]
 | @o f e v s b bs T off zc n k g i j a l p he t c =>
  subst i; subst j;have q : f.name ≠ "_" := by simpa using g
  simp only [List.forIn_toArray] at c ⊢;rw [List.forIn_cons];simp only [ne_eq,q,not_false_eq_true,if_true,Sem.run_bind,pI a l,pI a p,Result.andThen_ok,he.out d w Ca];cases b with
  | true=>simpa [cA] using c
  | false=>simp [cA]
 | @n f e vs u b bs T off zc n k g i j a l p la r he t c =>
  subst i; subst j;have q : f.name ≠ "_" := by simpa using g
  simp only [List.forIn_toArray] at c ⊢;rw [List.forIn_cons];simp only [ne_eq,q,not_false_eq_true,if_true,Sem.run_bind,qI a l la,qI a p r,Result.andThen_ok,he.out d w Ca];cases b with
  | true=>simpa [cA] using c
  | false=>simp [cA]
theorem uS {m:Nat}{xs ys:List Value}{a:List Field}{bs:List Bool}(b:Sw P T a) (h:Yl P m xs ys a bs):Cr P (m+1) T (.agg ⟨xs⟩) (.agg ⟨ys⟩) (Fm bs):=⟨λd w Ca=>by
 cases d with
 | zero=>omega
 | succ d =>
  have:=h.run (w:=w) d (by omega);simp only [Op.equalIn,Sem.run_bind,run_underlying b.EG,Result.andThen_ok];rw [show (program).run P w=.ok P w from rfl];simp only [Result.andThen_ok,b.held,Bool.false_eq_true,if_false,Sem.run_bind];rw [this];cases Fm bs<;>rfl⟩
def uB (v:Value) (n:Nat):Prop:=∃ a c,v=.slice a n c
theorem Zp {x:Operand}{t e:TypeId}{v:Value}{n:Nat}(b:P.underlying t=some (.slice e)) (d:ab fr x v) (Oa:uB v n):Af P (Oper.mk dst (.call { callee:=.builtin .len,args:=#[x],argTypes:=#[t] }) ty pos after g) fr ((.int .i64 n)):=by
 obtain ⟨a,c,rfl⟩:=Oa;exact Tv b d
theorem mF {x:Operand}{t e:TypeId}{v:Value}{n:Nat}(a:P.underlying t=some (.slice e)) (b:ab fr x v) (Oa:uB v n) (c:zf fr dst ((.int .i64 n)) ya) (h:K ya ds w):pd P (Oper.mk dst (.call { callee:=.builtin .len,args:=#[x],argTypes:=#[t] }) ty pos after g) fr ds w K Q:=Ob (Zp a b Oa) c h
theorem Row.lp {v:Value}{sz n:Nat}{xs:List Value}(h:Row w v T sz n xs):uB v n:=by
 rcases h.2 with ⟨rfl,rfl⟩ | ⟨g,o,cap,cur,rfl,-⟩
 ·exact ⟨_,_,rfl⟩
 ·exact ⟨_,_,rfl⟩
theorem Row.Ln {v:Value}{sz n:Nat}{xs:List Value}(h:Row w v T sz n xs) (f:0<n):∃ b o c,v=.slice (some ⟨b,o,none⟩) n c/\dj w b o xs:=by
 rcases h.2 with ⟨rfl,rfl⟩ | ⟨g,o,cap,cur,rfl,d,i,k,l,e⟩
 ·omega
 ·refine ⟨g,o,cap,rfl,λj u a=>?_⟩;rw [cell_of_row w g (o+j) cur T (0,0) d];rw [<- e,List.getElem?_take] at a;split at a
  ·rw [List.getElem?_drop] at a;simpa using a
  ·cases a
end
section
variable {P:Program}{Q:Exit->Act->World->Prop}{K:List Value->List Deferred->World->Prop}{fr ya:List Value}{ds:List Deferred}{w:World}
variable {dst:Option Tmp}{ty:TypeId}{pos:String}{after:Array Edge}{g:Option (Nat×Bool)}
variable {T:TypeId}
theorem bO {a:List Field}{op:BinOp}{x y:Operand}{xs ys:Array Value}(b:Sw P T a):(eqGuard op T x y (.agg xs) (.agg ys)).run P w=.ok () w:=by
 have c:(program).run P w=.ok P w:=rfl;cases op<;>simp [eqGuard,c,b.guard]
theorem DK {x y:Operand}{cb:TypeId}{m:Nat}{xs ys:List Value}{a:List Field}{bs:List Bool}(b:Sw P T a) (c:ab fr x (.agg ⟨xs⟩)) (d:ab fr y (.agg ⟨ys⟩)) (h:Yl P m xs ys a bs) (e:(decide (m<1000))=true) :
  Af P (Oper.mk dst (.binOp .neq T x y cb) ty pos after g) fr (.bool (!Fm bs)):=⟨λds w=>by
 have f:=c ds;have i:=d ds;have j:=(uS b h).out Op.maxDepth w (by have:=of_decide_eq_true e;unfold Op.maxDepth;omega);have k:=bO (w:=w) (op:=.neq) (x:=x) (y:=y) (xs:=⟨xs⟩) (ys:=⟨ys⟩) b;simp [execOp,f,i,k,binOp,Op.equal,j]⟩
theorem zU {x y:Operand}{cb:TypeId}{m:Nat}{xs ys:List Value}{a:List Field}{bs:List Bool}(b:Sw P T a) (c:ab fr x (.agg ⟨xs⟩)) (d:ab fr y (.agg ⟨ys⟩)) (e:Yl P m xs ys a bs) (f:(decide (m<1000))=true)
  (i:zf fr dst (.bool (!Fm bs)) ya) (h:K ya ds w):pd P (Oper.mk dst (.binOp .neq T x y cb) ty pos after g) fr ds w K Q:=Ob (DK b c d e f) i h
end
section
variable {P:Program}{Q:Exit->Act->World->Prop}{K:List Value->List Deferred->World->Prop}{fr ya:List Value}{ds:List Deferred}{w:World}
variable {dst:Option Tmp}{ty:TypeId}{pos:String}{after:Array Edge}{g:Option (Nat×Bool)}
variable {S Jc:Nat->Prop}{da:World}{rs rs':List Ha}{A:World->Prop}
variable {T:TypeId}
end
theorem jx {α β:Type}{f g:α->β}{xs:Array α}(h:∀ x ∈ xs,f x=g x):xs.map f=xs.map g:=Array.map_congr_left h
def lr:Op->Bool
 | .select _ _=>false
 | _=>true
theorem execOp_congr {f g:Operand->Value}(o:Oper) (l:lr o.op=true) (h:∀ x ∈ o.op.operands,f x=g x):execOp f o=execOp g o:=by
 obtain ⟨dst,op,ty,pos,after,w⟩:=o;have d:∀ c:Call,(∀ x ∈ c.operands,f x=g x)->resolve f c ty=resolve g c ty:=by
  intro c d;have q:c.args.map f=c.args.map g:=jx λx e=>d x (by simp [Call.operands,e]);unfold resolve;rw [q];obtain ⟨callee,args,tys⟩:=c;cases callee with
  | value x=>simp only; rw [d x (by simp [Call.operands])]
  | invoke x m=>simp only; rw [d x (by simp [Call.operands])]
  | builtin b=>rfl
 cases op<;>simp only [Op.operands,List.mem_toArray,List.mem_cons,List.not_mem_nil,or_false,forall_eq_or_imp,forall_eq,Array.mem_append,List.mem_map] at h<;>simp only [execOp]
 case build t zg =>
  have:(zg.map λ(i,x)=>(i,f x))=zg.map λ(i,x)=>(i,g x):=jx λp j=>by simp only;rw [h p.2 ⟨p,by simpa using j,rfl⟩]
  rw [this]
 case buildSlice t n zg =>
  have:(zg.map λ(i,x)=>(i,f x))=zg.map λ(i,x)=>(i,g x):=jx λp j=>by simp only;rw [h p.2 ⟨p,by simpa using j,rfl⟩]
  rw [this]
 case makeFunc fn a b =>
  rw [jx (f:=f) (g:=g) (xs:=a) λx e=>h x (.inl e),jx (f:=f) (g:=g) (xs:=b) λx e=>h x (.inr e)]
 case makeMap t r=>cases r with
  | none=>rfl
  | some x=>simp only [Option.map]; rw [h x (by simp)]
 case slice t x jk k Tb =>
  have e:=h x (by simp);have s:jk.map f=jk.map g:=by cases jk with
   | none=>rfl
   | some y=>simp only [Option.map]; rw [h y (by simp)]
  have u:k.map f=k.map g:=by cases k with
   | none=>rfl
   | some y=>simp only [Option.map]; rw [h y (by simp)]
  have v:Tb.map f=Tb.map g:=by cases Tb with
   | none=>rfl
   | some y=>simp only [Option.map]; rw [h y (by simp)]
  rw [e,s,u,v]
 case call c=>rw [d c h]
 case go c=>rw [d c h]
 case defer c=>rw [d c h]
 case select cs b=>exact absurd l (by simp [lr])
 all_goals (try (simp only [h]))
def nj (ops:Array Oper) (i:Nat):List Nat:=match ops[i]? with
 | some o=>(o.after.toList.filter (Region.binds .any)).map (·.on)
 | none=>[]
def enabled (ops:Array Oper) (R:List Nat) (i:Nat):Bool:=R.contains i && (nj ops i).all λj=>!R.contains j
inductive Tl (ops:Array Oper):List Nat->List Nat->Prop where
 | z:Tl ops [] []
 | s {R a:List Nat} {i:Nat} (h:enabled ops R i=true) (t:Tl ops (R.erase i) a):Tl ops R (i::a)
theorem Cv {ops:Array Oper}{R:List Nat}{i:Nat}(h:enabled ops R i=true):i ∈ R:=by
 simp only [enabled,Bool.and_eq_true,List.contains_iff_mem] at h;exact h.1
theorem vH {ops:Array Oper}{R:List Nat}{i j:Nat}(h:enabled ops R i=true) (a:j ∈ nj ops i):j ∉ R:=by
 simp only [enabled,Bool.and_eq_true,List.all_eq_true] at h;have:=h.2 j a;simpa using this
def left (n:Nat) (listed:Array Bool):List Nat:=(List.range n).filter λi=>!listed.getD i true
theorem cN (n:Nat) (listed:Array Bool):(left n listed).Nodup:=List.nodup_range.filter _
theorem JI {n:Nat}{listed:Array Bool}(c:listed.size=n){i:Nat}(d:i ∈ left n listed):left n (listed.setIfInBounds i true)=(left n listed).erase i:=by
 rw [(cN n listed).erase_eq_filter];unfold left;rw [List.filter_filter];apply List.filter_congr;intro j a;have f:j<n:=List.mem_range.1 a;have b:j<listed.size:=by omega
 simp only [Array.getD_eq_getD_getElem?,Array.getElem?_setIfInBounds];by_cases e:i=j
 ·subst e;simp [b]
 ·simp [e,Ne.symm e]
theorem QJ {ops:Array Oper}{n:Nat}(a:(List.range n).all (λi=>(nj ops i).all λj=>decide (j<i))=true){i j:Nat}(b:i<n) (c:j ∈ nj ops i):j<i:=by
 simp only [List.all_eq_true,List.mem_range,decide_eq_true_eq] at a;exact a i b j c
theorem RJ {ops:Array Oper}(r:(List.range ops.size).all (λi=>(nj ops i).all λj=>decide (j<i))=true) :
  ∀ (fuel t:Nat) (listed:Array Bool) (acc:List Nat),listed.size=ops.size->(left ops.size listed).length<=fuel->∃ n,Region.linearise.go .any ops fuel t listed acc=acc.reverse++n/\Tl ops (left ops.size listed) n
 | 0,t,listed,acc,o,y=>by
  have f:left ops.size listed=[]:=List.eq_nil_of_length_eq_zero (by omega);exact ⟨[],by simp [Region.linearise.go],by rw [f];exact .z⟩
 | fuel+1,t,listed,acc,o,y=>by
  rw [Region.linearise.go];generalize A:(List.filter (λi=>!listed.getD i true && (Option.map (λx=>x.after.all λe=>!Region.binds .any e || listed.getD e.on false) ops[i]?).getD false) (List.range ops.size))=rs;have u:∀ i,i ∈ rs ↔ enabled ops (left ops.size listed) i=true:=by
   intro i;rw [<- A];simp only [List.mem_filter,List.mem_range,Bool.and_eq_true,enabled,List.contains_iff_mem,left,nj];constructor
   ·rintro ⟨b,g,d⟩;refine ⟨⟨b,g⟩,?_⟩;rw [Array.getElem?_eq_getElem b] at d ⊢;simp only [Option.map_some,Option.getD_some,Array.all_eq_true',Bool.or_eq_true,Bool.not_eq_true'] at d;simp only [List.all_eq_true,List.mem_map,List.mem_filter,forall_exists_index,and_imp];rintro j e p k rfl;have:=d e (by simpa using p);rcases this with h | h
    ·rw [h] at k;cases k
    ·simp only [Bool.not_eq_true',List.contains_eq_mem,decide_eq_false_iff_not,List.mem_filter,List.mem_range,not_and,Bool.not_eq_true,Bool.not_eq_false];intro q;have v:e.on<listed.size:=by omega
     simp only [Array.getD,v,dif_pos] at h ⊢;exact h
   ·rintro ⟨⟨b,g⟩,d⟩;refine ⟨b,g,?_⟩;rw [Array.getElem?_eq_getElem b] at d ⊢;simp only [Option.map_some,Option.getD_some,Array.all_eq_true',Bool.or_eq_true,Bool.not_eq_true'];simp only [List.all_eq_true,List.mem_map,List.mem_filter,forall_exists_index,and_imp] at d;intro e p;cases k:Region.binds .any e with
    | false=>exact .inl rfl
    | true =>
     right;have:=d e.on e (by simpa using p) k rfl;simp only [Bool.not_eq_true',List.contains_eq_mem,decide_eq_false_iff_not,List.mem_filter,List.mem_range,not_and,Bool.not_eq_true,Bool.not_eq_false] at this;have q:e.on<i:=QJ r b (by
      unfold nj;rw [Array.getElem?_eq_getElem b];simp only [List.mem_map,List.mem_filter];exact ⟨e,⟨by simpa using p,k⟩,rfl⟩)
     have w:=this (by omega);have v:e.on<listed.size:=by omega
     simp only [Array.getD,v,dif_pos] at w ⊢;exact w
  by_cases f:left ops.size listed=[]
  ·have B:rs=[]:=by
    rw [List.eq_nil_iff_forall_not_mem];intro i c;have:=Cv ((u i).1 c);rw [f] at this;cases this
   rw [B];simp only [List.length_nil,Nat.mod_zero,List.getElem?_nil];exact ⟨[],by simp,by rw [f];exact .z⟩
  ·-- the least of what is left may be next
   have C:0<rs.length:=by
    obtain ⟨i,c,D⟩:∃ i,i ∈ left ops.size listed/\∀ j,j<i->j ∉ left ops.size listed:=by
     obtain ⟨a,E⟩:=List.exists_mem_of_ne_nil _ f
     induction a using Nat.strongRecOn with
     | _ a F =>
      by_cases hex:∃ j,j<a/\j ∈ left ops.size listed
      ·obtain ⟨j,l,G⟩:=hex;exact F j l G
      ·exact ⟨a,E,λj l H=>hex ⟨j,l,H⟩⟩
    have m:enabled ops (left ops.size listed) i=true:=by
     simp only [enabled,Bool.and_eq_true,List.contains_iff_mem,List.all_eq_true];refine ⟨c,λj l=>?_⟩;have:=D j (QJ r (List.mem_range.1 (List.mem_filter.1 c).1) l);simpa using this
    exact List.length_pos_of_mem<|(u i).2 m
   have q:t % rs.length<rs.length:=Nat.mod_lt _ C;rw [List.getElem?_eq_getElem q];simp only;have m:=(u _).1 (List.getElem_mem q);generalize rs[t % rs.length]=i at m ⊢;have c:=Cv m;obtain ⟨n,b,g⟩:=RJ r fuel (t / rs.length) (listed.setIfInBounds i true) (i::acc) (by simpa using o) (by
    rw [JI o c,List.length_erase_of_mem c];omega)
   refine ⟨i::n,?_,.s m ?_⟩
   ·rw [b];simp
   ·rw [<- JI o c];exact g
theorem dM {ops:Array Oper}(b:(List.range ops.size).all (λi=>(nj ops i).all λj=>decide (j<i))=true) (t:Nat):Tl ops (List.range ops.size) (Region.linearise .any ops t):=by
 have la:left ops.size (Array.replicate ops.size false)=List.range ops.size:=by
  unfold left;rw [List.filter_eq_self];intro i c;have:=List.mem_range.1 c;simp [Array.getD,this]
 obtain ⟨e,d,a⟩:=RJ b ops.size t (Array.replicate ops.size false) [] (by simp) (by rw [la];simp);unfold Region.linearise;rw [d];rw [la] at a;simpa using a
def Du:Operand->Option Nat
 | .tmp t=>some t
 | _=>none
def reads (ops:Array Oper) (o:Oper):List Nat :=
 o.op.operands.toList.filterMap Du++(match o.guard with
  | some (j,_)=>((ops[j]?).bind (·.dst)).toList
  | none=>[])
section
variable {P:Program}{α β:Type}
end
section
variable {P:Program}{Q:Exit->Act->World->Prop}{ops:Array Oper}{fr ya:List Value}{ds:List Deferred}{w:World}
theorem KI {fr:List Value}{ds ds':List Deferred}{d:Nat}{v:Value}{x:Operand}(h:Du x≠some d):(F (fr.set d v) ds).eval x=(F fr ds').eval x:=by
 cases x with
 | tmp t =>
  have:d≠t:=λe=>h (by simp [Du,e]);simp [F,Act.eval,List.getElem?_set_ne this]
 | const v=>rfl
 | global g=>rfl
 | func f=>rfl
theorem LI {o:Oper}{d:Nat}(h:(reads ops o).contains d=false):∀ x ∈ o.op.operands,Du x≠some d:=by
 intro x a e;have:d ∈ reads ops o:=by
  unfold reads;exact List.mem_append.2<|.inl<|List.mem_filterMap.2 ⟨x,by simpa using a,e⟩
 rw [List.contains_iff_mem.2 this] at h;cases h
theorem MI {o:Oper}{d:Nat}{v:Value}{ds':List Deferred}(a:lr o.op=true) (h:(reads ops o).contains d=false):execOp (F (fr.set d v) ds).eval o=execOp (F fr ds').eval o :=
 execOp_congr o a λx b=>KI (LI h x b)
theorem dN {o:Oper}{d:Nat}{v:Value}{ds':List Deferred}(h:(reads ops o).contains d=false):Region.wanted o (yielded ops (F (fr.set d v) ds).tmps)=Region.wanted o (yielded ops (F fr ds').tmps):=by
 unfold Region.wanted;cases a:o.guard with
 | none=>rfl
 | some c =>
  obtain ⟨j,b⟩:=c;simp only;congr 1;unfold yielded;cases f:(ops[j]?).bind (·.dst) with
  | none=>rfl
  | some e =>
   have g:d≠e:=by
    intro i;have:d ∈ reads ops o:=by
     unfold reads;rw [a];exact List.mem_append.2<|.inr (by simp only;rw [f];simp [i])
    rw [List.contains_iff_mem.2 this] at h;cases h
   simp [F,List.getElem?_set_ne g]
theorem put_eq (fr:List Value) (ds:List Deferred) (dst:Option Tmp) (x:Value):∃ g:List Value->List Value,(∀ fr ds,(F fr ds).put dst x=F (g fr) ds)/\(∀ (fr:List Value) (d:Nat) (v:Value),dst≠some d->g (fr.set d v)=(g fr).set d v)/\(∀ (fr:List Value) (y:Operand) (ds ds':List Deferred),(∀ e,dst=some e->Du y≠some e)->(F (g fr) ds).eval y=(F fr ds').eval y):=by
 cases dst with
 | none=>exact ⟨id,λ_ _=>rfl,λ_ _ _ _=>rfl,λfr y ds ds' _=>by cases y <;> rfl⟩
 | some n =>
  refine ⟨λfr=>fr.set n x,λfr ds=>wa rfl ds,λfr d v h=>?_,λfr y ds ds' h=>KI<|h n rfl⟩;have:d≠n:=λe=>h (by rw [e]);exact List.set_comm _ _ this
def gl (Q:Exit->Act->World->Prop) (d:Nat):Prop:=∀ a (fr:List Value) (v:Value) (ds:List Deferred) w,Q (.panic a) (F (fr.set d v) ds) w->Q (.panic a) (F fr ds) w
structure WG (P:Program) (ops:Array Oper) (Q:Exit->Act->World->Prop) (R:List Nat) (fr:List Value) (ds:List Deferred) (w:World):Prop where
 out:∀ a,Tl ops R a->wpOps P ops Q a (F fr ds) w
theorem AU {id:Nat}{l:List Oper}(a:P.follows .mixedOrders=true) (b:(List.range l.toArray.size).all (λi=>(nj l.toArray i).all λj=>decide (j<i))=true)
  (h:∀ w',w'.heap=w.heap->w'.os=w.os->w'.tape=w.tape->w'.output=w.output->WG P l.toArray Q (List.range l.length) fr ds w'):ud P (.region id l.toArray true) Q fr ds w:=by
 constructor;refine wp_region_draw λt=>?_;have c:Region.schedule (P.follows .mixedOrders) l.toArray t=Region.linearise .any l.toArray t:=by
  unfold Region.schedule;rw [a];rfl
 rw [c];have la:=dM b t;have:=(h { w with drawn:=w.drawn+1 } rfl rfl rfl rfl).out _ (by simpa using la);exact this
def eB (ops:Array Oper) (R:List Nat):List Nat:=R.filter (enabled ops R)
theorem Tl.split {R l:List Nat}(h:Tl ops R l) (n:R.Nodup){i:Nat}(o:i ∈ R) (q:enabled ops R i=true) :
  ∃ f m,l=f++i::m/\Tl ops (R.erase i) (f++m)/\∀ j ∈ f,j ∈ R/\j≠i/\i ∉ nj ops j:=by
 induction h with
 | z=>cases o
 | @s R l k g t u =>
  by_cases e:k=i
  ·subst e;exact ⟨[],l,rfl,t,by simp⟩
  ·have r:i ∈ R.erase k:=(n.mem_erase_iff).2 ⟨λh=>e h.symm,o⟩;have v:enabled ops (R.erase k) i=true:=by
    simp only [enabled,Bool.and_eq_true,List.contains_iff_mem,List.all_eq_true] at q ⊢;refine ⟨r,λj d=>?_⟩;have:=q.2 j d;simp only [Bool.not_eq_true',List.contains_eq_mem,decide_eq_false_iff_not] at this ⊢;exact λp=>this<|List.mem_of_mem_erase p
   obtain ⟨f,m,w,x,y⟩:=u (n.erase k) r v;refine ⟨k::f,m,by rw [w];rfl,?_,?_⟩
   ·refine .s ?_ (by rw [List.erase_comm];exact x);simp only [enabled,Bool.and_eq_true,List.contains_iff_mem,List.all_eq_true] at g ⊢;refine ⟨(n.mem_erase_iff).2 ⟨e,g.1⟩,λj d=>?_⟩;have:=g.2 j d;simp only [Bool.not_eq_true',List.contains_eq_mem,decide_eq_false_iff_not] at this ⊢;exact λp=>this<|List.mem_of_mem_erase p
   ·intro j d;rcases List.mem_cons.1 d with rfl | d
    ·exact ⟨Cv g,e,λCa=>vH g Ca o⟩
    ·obtain ⟨a,b,c⟩:=y j d;exact ⟨List.mem_of_mem_erase a,b,c⟩
theorem Gk {d:Nat}(h:∀ b a w,Q (.panic b) a w->False):gl Q d:=λb fr v ds w c=>(h b _ w c).elim
end
end Go.Bc
