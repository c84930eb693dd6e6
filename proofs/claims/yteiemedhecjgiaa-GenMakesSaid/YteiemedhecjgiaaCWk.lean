/- Texts of Wk. -/
import Derived.Tactics
import Derived.Defers
import Derived.Recover
import Derived.Lib.Strings
import Derived.Laws.Append
import Derived.Below
import Derived.Laws.AppendOwn
set_option linter.unusedSimpArgs false
set_option linter.unusedVariables false
set_option linter.unusedSectionVars false
namespace Go.pc
open Go.RowKit
def Pc {α:Type}(l:List α) (n:Nat) (v:α):Prop:=l[n]?=some v
def Xc {α:Type}(l:List α) (n:Nat) (v:α) (ab:List α):Prop:=l.set n v=ab
theorem d0 {α:Type}{v:α}{l:List α}:Pc (v::l) 0 v:=rfl
theorem Wa {α:Type}{x v:α}{l:List α}:Xc (x::l) 0 v (v::l):=rfl
theorem d1 {α:Type}{a0:α}{v:α}{l:List α}:Pc (a0::v::l) 1 v:=rfl
theorem Cb {α:Type}{a0:α}{x v:α}{l:List α}:Xc (a0::x::l) 1 v (a0::v::l):=rfl
theorem d2 {α:Type}{a0 Da:α}{v:α}{l:List α}:Pc (a0::Da::v::l) 2 v:=rfl
theorem Tb {α:Type}{a0 Da:α}{x v:α}{l:List α}:Xc (a0::Da::x::l) 2 v (a0::Da::v::l):=rfl
theorem d3 {α:Type}{a0 Da a2:α}{v:α}{l:List α}:Pc (a0::Da::a2::v::l) 3 v:=rfl
theorem sc {α:Type}{a0 Da a2:α}{x v:α}{l:List α}:Xc (a0::Da::a2::x::l) 3 v (a0::Da::a2::v::l):=rfl
theorem d4 {α:Type}{a0 Da a2 a3:α}{v:α}{l:List α}:Pc (a0::Da::a2::a3::v::l) 4 v:=rfl
theorem sd {α:Type}{a0 Da a2 a3:α}{x v:α}{l:List α}:Xc (a0::Da::a2::a3::x::l) 4 v (a0::Da::a2::a3::v::l):=rfl
theorem d5 {α:Type}{a0 Da a2 a3 a4:α}{v:α}{l:List α}:Pc (a0::Da::a2::a3::a4::v::l) 5 v:=rfl
theorem Mc {α:Type}{a0 Da a2 a3 a4:α}{x v:α}{l:List α}:Xc (a0::Da::a2::a3::a4::x::l) 5 v (a0::Da::a2::a3::a4::v::l):=rfl
theorem d6 {α:Type}{a0 Da a2 a3 a4 a5:α}{v:α}{l:List α}:Pc (a0::Da::a2::a3::a4::a5::v::l) 6 v:=rfl
theorem Tc {α:Type}{a0 Da a2 a3 a4 a5:α}{x v:α}{l:List α}:Xc (a0::Da::a2::a3::a4::a5::x::l) 6 v (a0::Da::a2::a3::a4::a5::v::l):=rfl
theorem d7 {α:Type}{a0 Da a2 a3 a4 a5 Yb:α}{v:α}{l:List α}:Pc (a0::Da::a2::a3::a4::a5::Yb::v::l) 7 v:=rfl
theorem Gd {α:Type}{a0 Da a2 a3 a4 a5 Yb:α}{x v:α}{l:List α}:Xc (a0::Da::a2::a3::a4::a5::Yb::x::l) 7 v (a0::Da::a2::a3::a4::a5::Yb::v::l):=rfl
theorem d8 {α:Type}{a0 Da a2 a3 a4 a5 Yb Eb:α}{v:α}{l:List α}:Pc (a0::Da::a2::a3::a4::a5::Yb::Eb::v::l) 8 v:=rfl
theorem Md {α:Type}{a0 Da a2 a3 a4 a5 Yb Eb:α}{x v:α}{l:List α}:Xc (a0::Da::a2::a3::a4::a5::Yb::Eb::x::l) 8 v (a0::Da::a2::a3::a4::a5::Yb::Eb::v::l):=rfl
theorem d9 {α:Type}{a0 Da a2 a3 a4 a5 Yb Eb ed:α}{v:α}{l:List α}:Pc (a0::Da::a2::a3::a4::a5::Yb::Eb::ed::v::l) 9 v:=rfl
theorem Bd {α:Type}{a0 Da a2 a3 a4 a5 Yb Eb ed:α}{x v:α}{l:List α}:Xc (a0::Da::a2::a3::a4::a5::Yb::Eb::ed::x::l) 9 v (a0::Da::a2::a3::a4::a5::Yb::Eb::ed::v::l):=rfl
def F (fr:List Value) (ds:List Deferred):Act:=⟨⟨fr⟩,ds⟩
def cc (fr:List Value) (x:Operand) (v:Value):Prop:=∀ ds,(F fr ds).eval x=v
theorem aa {fr:List Value}{n:Nat}{v:Value}(h:Pc fr n v):cc fr (.tmp n) v:=by
 intro ds;unfold Pc at h;simp [F,Act.eval,h]
theorem Ma {fr:List Value}{v:Value}:cc fr (.const v) v:=fun _=>rfl
theorem Dc {fr:List Value}{f:Nat}:cc fr (.func f) (.func (.func f) #[] #[]):=fun _=>rfl
def Hg (fr:List Value) (dst:Option Tmp) (v:Value) (db:List Value):Prop:=∀ ds,(F fr ds).put dst v=F db ds
theorem nb {fr:List Value}{v:Value}:Hg fr none v fr:=fun _=>rfl
theorem ka {fr db:List Value}{n:Nat}{v:Value}(h:Xc fr n v db):Hg fr (some n) v db:=by
 intro ds;unfold Xc at h;subst h;simp [F,Act.put]
theorem Hg.rw {fr db:List Value}{dst:Option Tmp}{v:Value}(h:Hg fr dst v db){K:Act→World→Prop}{ds:List Deferred}{w:World}(k:K (F db ds) w):K ((F fr ds).put dst v) w:=by
 rw [h ds];exact k
def xn (fr:List Value) (xs:List Operand) (vs:List Value):Prop:=∀ ds,xs.map (F fr ds).eval=vs
theorem bb {fr:List Value}:xn fr [] []:=fun _=>rfl
theorem ma {fr:List Value}{x:Operand}{v:Value}{xs:List Operand}{vs:List Value}(h:cc fr x v) (a:xn fr xs vs):xn fr (x::xs) (v::vs):=by
 intro ds;simp [h ds,a ds]
structure ef (P:Program) (c:Code) (Q:Exit→Act→World→Prop) (fr:List Value) (ds:List Deferred) (w:World):Prop where
 out:c.wp P Q (F fr ds) w
structure Rf (P:Program) (ops:Array Oper) (Q:Exit→Act→World→Prop) (l:List Oper) (fr:List Value) (ds:List Deferred) (w:World):Prop where
 out:wpList P ops Q l (F fr ds) w
structure lf (P:Program) (o:Oper) (fr:List Value) (ds:List Deferred) (w:World) (K:List Value→List Deferred→World→Prop) (Q:Exit→Act→World→Prop):Prop where
 out:∀ a:Act→World→Prop,(∀ fr ds w,K fr ds w→a (F fr ds) w)→o.wp P (F fr ds) w a Q
def zq (P:Program) (c:Code) (Q:Exit→Act→World→Prop):Act→World→Prop:=fun a w=>∃ fr ds,a=F fr ds∧ef P c Q fr ds w
section code
variable {P:Program}{Q:Exit→Act→World→Prop}{fr:List Value}{ds:List Deferred}{w:World}
theorem Sa {x y:Code}(h:ef P x (Exit.then (zq P y Q) Q) fr ds w):ef P (.seq x y) Q fr ds w :=
 ⟨wp_seq (wp_mono h.out fun e a w b=>by
  cases e with
  | normal=>obtain ⟨fr,ds,rfl,h⟩:=b; exact h.out
  | exit id=>exact b
  | goto l=>exact b
  | ret=>exact b
  | panic c=>exact b
  | outgrown=>exact b)⟩
theorem kb {id:Nat}{l:List Oper}(h:Rf P l.toArray Q l fr ds w):ef P (.region id l.toArray false) Q fr ds w:=⟨wp_region_lit h.out⟩
theorem Ka (h:Q .normal (F fr ds) w):ef P .skip Q fr ds w:=⟨wp_skip h⟩
theorem Ia (h:Q .ret (F fr ds) w):ef P .ret Q fr ds w:=⟨wp_ret h⟩
theorem Wd {id:Nat}(h:Q (.exit id) (F fr ds) w):ef P (.exit id) Q fr ds w:=⟨wp_exit h⟩
theorem Nb {id:Nat}{c:Code}(h:ef P c (Exit.inBlock id Q) fr ds w):ef P (.block id c) Q fr ds w:=⟨wp_block h.out⟩
theorem oz {c:Operand}{x y:Code}{b:Bool}(a:cc fr c (.bool b)) (d:b=true→ef P x Q fr ds w) (e:b=false→ef P y Q fr ds w) :
  ef P (.cond c x y) Q fr ds w:=⟨wp_cond_split (a ds) (fun h=>(d h).out) fun h=>(e h).out⟩
theorem QC {c:Operand}{x y:Code}{p:Prop}[Decidable p] (a:cc fr c (.bool (decide p))) (b:p→ef P x Q fr ds w) (d:¬ p→ef P y Q fr ds w) :
  ef P (.cond c x y) Q fr ds w:=oz a (fun h=>b (of_decide_eq_true h)) (fun h=>d (of_decide_eq_false h))
theorem Yt {c:Operand}{x y:Code}(a:cc fr c (.bool true)) (b:ef P x Q fr ds w):ef P (.cond c x y) Q fr ds w:=⟨wp_cond_true (a ds) b.out⟩
theorem cx {c:Operand}{x y:Code}(a:cc fr c (.bool false)) (b:ef P y Q fr ds w):ef P (.cond c x y) Q fr ds w:=⟨wp_cond_false (a ds) b.out⟩
theorem pa {c:Code}{Q':Exit→Act→World→Prop}(h:ef P c Q' fr ds w):Exit.then (zq P c Q') Q .normal (F fr ds) w:=⟨fr,ds,rfl,h⟩
theorem va {n:Act→World→Prop}{a:Act}(h:n a w):Exit.then n Q .normal a w:=h
theorem Rb {n:Act→World→Prop}{a:Act}{id:Nat}(h:Q (.exit id) a w):Exit.then n Q (.exit id) a w:=h
theorem sa {n:Act→World→Prop}{a:Act}(h:Q .ret a w):Exit.then n Q .ret a w:=h
theorem Sb {a:Act}{id:Nat}(h:Q .normal a w):Exit.inBlock id Q .normal a w:=h
theorem Xa {a:Act}{id:Nat}(h:Q .ret a w):Exit.inBlock id Q .ret a w:=h
theorem Xd {a:Act}{id:Nat}(h:Q .normal a w):Exit.inBlock id Q (.exit id) a w:=by simpa [Exit.inBlock] using h
theorem hJ {a:Act}{id j:Nat}(b:(j == id)=false) (h:Q (.exit j) a w):Exit.inBlock id Q (.exit j) a w:=by
 have:¬ j=id:=by simpa using b
 simpa [Exit.inBlock,this] using h
inductive Db where
 | k
 | o (n:Nat)
 | i (v:Value)
def ei (t:Nat→Value):List Db→List Value→List Value
 | [],fr=>fr
 | _::_,[]=>[]
 | .k::ms,a::fr=>a::ei t ms fr
 | .o n::ms,_::fr=>t n::ei t ms fr
 | .i v::ms,_::fr=>v::ei t ms fr
def Se (t:Nat→Value) (ms:List Db) (fr db:List Value):Prop:=ei t ms fr=db
theorem jb {t:Nat→Value}{l:List Value}:Se t [] l l:=rfl
theorem mk {t:Nat→Value}{ms:List Db}{a:Value}{l ab:List Value}(h:Se t ms l ab):Se t (.k::ms) (a::l) (a::ab):=by unfold Se at *;rw [ei,h]
theorem xc {t:Nat→Value}{ms:List Db}{n:Nat}{a:Value}{l ab:List Value}(h:Se t ms l ab):Se t (.o n::ms) (a::l) (t n::ab):=by unfold Se at *;rw [ei,h]
theorem zb {t:Nat→Value}{ms:List Db}{v a:Value}{l ab:List Value}(h:Se t ms l ab):Se t (.i v::ms) (a::l) (v::ab):=by unfold Se at *;rw [ei,h]
theorem Lb {t:Nat→Value}{ms:List Db}{a b:List Value}(e:Se t ms a b) (h:Q .normal (F b ds) w):Q .normal (F (ei t ms a) ds) w:=by rw [show ei t ms a=b from e];exact h
theorem xe {c:Code}{t:Nat→Value}{ms:List Db}{a b:List Value}(e:Se t ms a b) (h:ef P c Q b ds w):ef P c Q (ei t ms a) ds w:=by rw [show ei t ms a=b from e];exact h
inductive Fe:List Db→List Value→List Value→Prop where
 | z {l:List Value}:Fe [] l l
 | k {ms:List Db} {a:Value} {l ab:List Value} (h:Fe ms l ab):Fe (.k::ms) (a::l) (a::ab)
 | o {ms:List Db} {n:Nat} {a b:Value} {l ab:List Value} (h:Fe ms l ab):Fe (.o n::ms) (a::l) (b::ab)
 | i {ms:List Db} {v a:Value} {l ab:List Value} (h:Fe ms l ab):Fe (.i v::ms) (a::l) (v::ab)
def opens:List Db→List Nat
 | []=>[]
 | .o n::ms=>n::opens ms
 | .k::ms=>opens ms
 | .i _::ms=>opens ms
theorem jw {t Rd:Nat→Value}:∀ (ms:List Db) (fr:List Value),(∀ n ∈ opens ms,t n=Rd n)→ei t ms fr=ei Rd ms fr
 | [],_,_=>rfl
 | _::_,[],_=>rfl
 | .k::ms,a::fr,h=>by rw [ei,ei,jw ms fr h]
 | .o n::ms,a::fr,h=>by rw [ei,ei,jw ms fr fun m hm=>h m (by simp [opens,hm]),h n (by simp [opens])]
 | .i v::ms,a::fr,h=>by rw [ei,ei,jw ms fr h]
theorem Fe.ex {ms:List Db}{fr db:List Value}(h:Fe ms fr db) (c:(opens ms).Nodup):∃ t,db=ei t ms fr:=by
 induction h with
 | z=>exact ⟨fun _=>undef,rfl⟩
 | k _ d=>obtain ⟨t,rfl⟩:=d c; exact ⟨t,rfl⟩
 | @o ms n a b l ab _ d =>
  simp only [opens,List.nodup_cons] at c;obtain ⟨t,rfl⟩:=d c.2;refine ⟨fun m=>if m=n then b else t m,?_⟩;rw [ei,if_pos rfl];congr 1;refine jw _ _ fun m hm=>?_;exact (if_neg (fun e:m=n=>c.1 (by rw [← e];exact hm))).symm
 | i _ d=>obtain ⟨t,rfl⟩:=d c; exact ⟨t,rfl⟩
theorem JH {c:Code}{α:Type}(T:List Nat) (o:T.Nodup) (u:α→List Db) (hu:∀ x,opens (u x)=T) (We:α→World→Prop) (j:α→World→Nat) (m:α) (p:Fe (u m) fr fr) (q:We m w)
  (round:∀ x t w,We x w→ef P c (Exit.then (fun g w'=>∃ h db,g=F db ds∧Fe (u h) fr db∧We h w'∧j h w'<j x w) Q) (ei t (u x) fr) ds w) :
  ef P (.loop c) Q fr ds w:=by
 constructor;intro b k cs;have key:∀ n x t w,j x w=n→We x w →
   ∃ e g w',Q e g w'∧Arrives P (lone (b.at (F (ei t (u x) fr) ds) (.code c::.inLoop c::k)) cs w) b k cs e g w':=by
  intro n
  induction n using Nat.strongRecOn with
  | _ n r =>
   intro x t w s v;obtain ⟨e,i,f,d,a⟩:=(round x t w v).out b (.inLoop c::k) cs;cases e with
   | normal =>
    obtain ⟨h,db,rfl,y,z,A⟩:=d;obtain ⟨Rd,B⟩:=y.ex (by rw [hu];exact o);obtain ⟨C,D,E,G,H⟩:=r (j h f) (s ▸ A) h Rd f rfl z;rw [B] at a;exact ⟨C,D,E,G,.of_steps (Steps.trans a (.one step_inLoop)) H⟩
   | exit id=>exact ⟨_,i,f,d,.pass (x:=.inLoop c) rfl (fun _ _=>.inl (by simp)) a⟩
   | goto l=>exact ⟨_,i,f,d,.pass (x:=.inLoop c) rfl (fun _ _=>.inl (by simp)) a⟩
   | ret=>exact ⟨_,i,f,d,.pass (x:=.inLoop c) rfl (fun _ _=>.inl (by simp)) a⟩
   | panic L=>exact ⟨_,i,f,d,.pass (x:=.inLoop c) rfl (fun _ _=>.inl (by simp)) a⟩
   | outgrown=>exact ⟨_,i,f,d,.pass (x:=.inLoop c) rfl (fun _ _=>.inl (by simp)) a⟩
 obtain ⟨t0,K⟩:=p.ex (by rw [hu];exact o);obtain ⟨e,g,w',d,a⟩:=key _ m t0 w rfl q;rw [← K] at a;exact ⟨e,g,w',d,.of_steps (.one step_loop) a⟩
theorem ef.mono {c:Code}{Q':Exit→Act→World→Prop}(h:ef P c Q fr ds w) (b:∀ e a w,Q e a w→Q' e a w):ef P c Q' fr ds w:=⟨wp_mono h.out b⟩
theorem eF {R lg:Act→World→Prop}(h:∀ a w,R a w→lg a w):∀ e a w,Exit.then R Q e a w→Exit.then lg Q e a w:=fun e a w b=>by
 cases e with
 | normal=>exact h a w b
 | exit id=>exact b
 | goto l=>exact b
 | ret=>exact b
 | panic c=>exact b
 | outgrown=>exact b
theorem Xc.same {α:Type}{l:List α}{n:Nat}{v:α}{ab:List α}(h:Pc l n v) (a:Xc l n v ab):ab=l:=by
 unfold Pc at h;unfold Xc at a;subst a;obtain ⟨b,rfl⟩:=List.getElem?_eq_some_iff.1 h;exact List.set_getElem_self b
theorem pz {ops:Array Oper}{l:List Oper}{Dh Eh:List Value}{d:Nat}{b:Bool}(za:Pc fr d (.bool b)) (a:Xc fr d (.bool true) Dh) (c:Xc fr d (.bool false) Eh)
  (e:b=true→Rf P ops Q l Dh ds w) (f:b=false→Rf P ops Q l Eh ds w):Rf P ops Q l fr ds w:=by
 cases b with
 | true=>have:=e rfl; rw [Xc.same za a] at this; exact this
 | false=>have:=f rfl; rw [Xc.same za c] at this; exact this
theorem CI {ops:Array Oper}{l:List Oper}{Dh Eh:List Value}{d:Nat}{p:Prop}[Decidable p] (za:Pc fr d (.bool (decide p))) (a:Xc fr d (.bool true) Dh) (b:Xc fr d (.bool false) Eh)
  (c:p→Rf P ops Q l Dh ds w) (e:¬ p→Rf P ops Q l Eh ds w):Rf P ops Q l fr ds w :=
 pz za a b (fun h=>c (of_decide_eq_true h)) (fun h=>e (of_decide_eq_false h))
end code
end Go.pc
namespace Go.pc
open Go.RowKit
def S (l:List UInt8):Value:=.string ⟨⟨l⟩⟩
section
variable {P:Program}{Q:Exit→Act→World→Prop}{K:List Value→List Deferred→World→Prop}{fr db:List Value}{ds:List Deferred}{w:World}{ops:Array Oper}{rest:List Oper}
variable {dst:Option Tmp}{op:Op}{ty:TypeId}{pos:String}{after:Array Edge}{g:Option (Nat×Bool)}
theorem Fa (h:Q .normal (F fr ds) w):Rf P ops Q [] fr ds w:=⟨h⟩
theorem wl (h:lf P ⟨dst,op,ty,pos,after,none⟩ fr ds w (Rf P ops Q rest) Q):Rf P ops Q (⟨dst,op,ty,pos,after,none⟩::rest) fr ds w:=by
 constructor;unfold wpList;rw [if_pos (by simp [Region.wanted])];exact .inl (h.out _ fun _ _ _ k=>k.out)
theorem vb {j d:Nat}{b:Bool}(a:(ops[j]?).bind (·.dst)=some d) (za:Pc fr d (.bool b)) (h:lf P ⟨dst,op,ty,pos,after,some (j,b)⟩ fr ds w (Rf P ops Q rest) Q) :
  Rf P ops Q (⟨dst,op,ty,pos,after,some (j,b)⟩::rest) fr ds w:=by
 constructor;unfold wpList;rw [if_pos (by
  unfold Pc at za;simp only [Region.wanted,yielded,a,F];simp [za])]
 exact .inl (h.out _ fun _ _ _ k=>k.out)
theorem wn {j d:Nat}{b Te:Bool}(a:(ops[j]?).bind (·.dst)=some d) (za:Pc fr d (.bool Te)) (c:(Te == b)=false) (e:Hg fr dst undef db) (h:Rf P ops Q rest db ds w) :
  Rf P ops Q (⟨dst,op,ty,pos,after,some (j,b)⟩::rest) fr ds w:=by
 constructor;unfold wpList;rw [if_neg (by
  unfold Pc at za;simp only [Region.wanted,yielded,a,F];simp [za];simpa using c)]
 exact e.rw h.out
theorem Ze {j d:Nat}{b:Bool}(a:(ops[j]?).bind (·.dst)=some d) (za:Pc fr d undef) (c:Hg fr dst undef db) (h:Rf P ops Q rest db ds w) :
  Rf P ops Q (⟨dst,op,ty,pos,after,some (j,b)⟩::rest) fr ds w:=by
 constructor;unfold wpList;rw [if_neg (by
  unfold Pc at za;simp only [Region.wanted,yielded,a,F];simp [za,undef])]
 exact c.rw h.out
theorem mi {o:Oper}{v:Value}{w':World}(a:(execOp (F fr ds).eval o).run P w=.ok (.value v) w') (b:Hg fr o.dst v db) (h:K db ds w'):lf P o fr ds w K Q:=by
 constructor;intro d c;unfold Oper.wp;rw [a,Oper.upon_value];exact b.rw (c _ _ _ h)
theorem cz {o:Oper}{w':World}(a:(execOp (F fr ds).eval o).run P w=.ok .skip w') (b:Hg fr o.dst undef db) (h:K db ds w'):lf P o fr ds w K Q:=by
 constructor;intro d c;unfold Oper.wp;rw [a,Oper.upon_skip];exact b.rw (c _ _ _ h)
structure hg (P:Program) (o:Oper) (fr:List Value) (v:Value):Prop where
 out:∀ ds w,(execOp (F fr ds).eval o).run P w=.ok (.value v) w
theorem Ea {o:Oper}{v:Value}(hu:hg P o fr v) (a:Hg fr o.dst v db) (h:K db ds w):lf P o fr ds w K Q:=mi (hu.out ds w) a h
theorem Kt {x:Operand}{v:Value}(a:cc fr x v):hg P (Oper.mk dst (.move x) ty pos after g) fr (v):=⟨fun ds w=>by simp [execOp,a ds]⟩
theorem DF {x:Operand}{v:Value}(a:cc fr x v):hg P (Oper.mk dst (.assign x) ty pos after g) fr (v):=⟨fun ds w=>by simp [execOp,a ds]⟩
theorem kG {c x y:Operand}{v:Value}(a:cc fr c (.bool true)) (b:cc fr x v):hg P (Oper.mk dst (.pick c x y) ty pos after g) fr (v):=⟨fun ds w=>by simp [execOp,b ds,a ds,asBool]⟩
theorem lG {c x y:Operand}{v:Value}(a:cc fr c (.bool false)) (b:cc fr y v):hg P (Oper.mk dst (.pick c x y) ty pos after g) fr (v):=⟨fun ds w=>by simp [execOp,b ds,a ds,asBool]⟩
theorem wr {n:Int}(h:-9223372036854775808≤n∧n≤9223372036854775807):IntKind.i64.wrap n=n:=by
 unfold IntKind.wrap;simp [IntKind.bits,IntKind.signed];omega
theorem KH {x y:Operand}{t Rd:TypeId}{k:IntKind}{a b c:Int}(d:cc fr x (.int k a)) (e:cc fr y (.int k b)) (hw:k.wrap (a+b)=c):hg P (Oper.mk dst (.binOp .add t x y Rd) ty pos after g) fr ((.int k c)):=by
 subst hw;exact ⟨fun ds w=>by simp [execOp,d ds,e ds,eqGuard,binOp,Op.intArith]⟩
theorem LH {x y:Operand}{t Rd:TypeId}{k:IntKind}{a b c:Int}(d:cc fr x (.int k a)) (e:cc fr y (.int k b)) (hw:k.wrap (a - b)=c):hg P (Oper.mk dst (.binOp .sub t x y Rd) ty pos after g) fr ((.int k c)):=by
 subst hw;exact ⟨fun ds w=>by simp [execOp,d ds,e ds,eqGuard,binOp,Op.intArith]⟩
theorem MH {x y:Operand}{t Rd:TypeId}{k:IntKind}{a b:Int}(c:cc fr x (.int k a)) (d:cc fr y (.int k b)):hg P (Oper.mk dst (.binOp .lss t x y Rd) ty pos after g) fr ((.bool (decide (a<b)))):=⟨fun ds w=>by simp [execOp,c ds,d ds,eqGuard,binOp,Op.intCmp]⟩
theorem NH {x y:Operand}{t Rd:TypeId}{k:IntKind}{a b:Int}(c:cc fr x (.int k a)) (d:cc fr y (.int k b)):hg P (Oper.mk dst (.binOp .leq t x y Rd) ty pos after g) fr ((.bool (decide (a≤b)))):=⟨fun ds w=>by simp [execOp,c ds,d ds,eqGuard,binOp,Op.intCmp]⟩
theorem OH {x y:Operand}{t Rd:TypeId}{k:IntKind}{a b:Int}(c:cc fr x (.int k a)) (d:cc fr y (.int k b)):hg P (Oper.mk dst (.binOp .gtr t x y Rd) ty pos after g) fr ((.bool (decide (b<a)))):=⟨fun ds w=>by simp [execOp,c ds,d ds,eqGuard,binOp,Op.intCmp]⟩
theorem PH {x y:Operand}{t Rd:TypeId}{k:IntKind}{a b:Int}(c:cc fr x (.int k a)) (d:cc fr y (.int k b)):hg P (Oper.mk dst (.binOp .geq t x y Rd) ty pos after g) fr ((.bool (decide (b≤a)))):=⟨fun ds w=>by simp [execOp,c ds,d ds,eqGuard,binOp,Op.intCmp]⟩
theorem CC {x y:Operand}{t Rd:TypeId}{k:IntKind}{a b:Int}(c:cc fr x (.int k a)) (d:cc fr y (.int k b)):hg P (Oper.mk dst (.binOp .eql t x y Rd) ty pos after g) fr ((.bool (decide (a=b)))):=⟨fun ds w=>by simp [execOp,c ds,d ds,eqGuard,binOp,Op.intCmp];rfl⟩
theorem QH {x y:Operand}{t Rd:TypeId}{k:IntKind}{a b:Int}(c:cc fr x (.int k a)) (d:cc fr y (.int k b)):hg P (Oper.mk dst (.binOp .neq t x y Rd) ty pos after g) fr ((.bool (decide (a≠b)))):=⟨fun ds w=>by
  simp [execOp,c ds,d ds,eqGuard,binOp,Op.intCmp];by_cases h:a=b<;>simp [h]⟩
theorem DC {x:Operand}{t:TypeId}{b:Bool}(a:cc fr x (.bool b)):hg P (Oper.mk dst (.unOp .not t x) ty pos after g) fr ((.bool (!b))):=⟨fun ds w=>by simp [execOp,a ds,Op.unary]⟩
theorem RH {x y:Operand}{t Rd:TypeId}{a b:List UInt8}(c:cc fr x (S a)) (d:cc fr y (S b)) (l:a.length+b.length≤9223372036854775807):hg P (Oper.mk dst (.binOp .add t x y Rd) ty pos after g) fr ((S (a++b))):=by
 have e:(ByteArray.mk ⟨a⟩).size=a.length:=rfl;have f:(ByteArray.mk ⟨b⟩).size=b.length:=rfl;have h:¬ (((((ByteArray.mk ⟨a⟩).size+(ByteArray.mk ⟨b⟩).size:Nat):Int)) > IntKind.i64.max):=by
  rw [e,f];unfold IntKind.max;simp [IntKind.bits,IntKind.signed];omega
 have i:ByteArray.mk ⟨a⟩++ByteArray.mk ⟨b⟩=ByteArray.mk ⟨a++b⟩:=by
  apply ByteArray.ext;rw [ByteArray.data_append];simp
 refine ⟨fun ds w=>?_⟩;have j:=c ds;have k:=d ds;simp only [execOp,j,k,S,eqGuard,binOp,Op.stringOp];rw [if_neg h,i];simp
theorem xm {x y:Operand}{t Rd:TypeId}{a b:List UInt8}(c:cc fr x (S a)) (d:cc fr y (S b)):hg P (Oper.mk dst (.binOp .eql t x y Rd) ty pos after g) fr ((.bool (decide (a=b)))):=by
 refine ⟨fun ds w=>?_⟩;have f:=c ds;have h:=d ds;simp [execOp,f,h,S,eqGuard,binOp,Op.stringOp];by_cases e:a=b<;>simp [e]
theorem vp {x y:Operand}{t Rd:TypeId}{a b:List UInt8}(c:cc fr x (S a)) (d:cc fr y (S b)):hg P (Oper.mk dst (.binOp .neq t x y Rd) ty pos after g) fr ((.bool (decide (a≠b)))):=by
 refine ⟨fun ds w=>?_⟩;have f:=c ds;have h:=d ds;simp [execOp,f,h,S,eqGuard,binOp,Op.stringOp];by_cases e:a=b<;>simp [e]
theorem Lt {x:Operand}{t:TypeId}{a:List UInt8}(b:P.underlying t=some .string) (c:cc fr x (S a)):hg P (Oper.mk dst (.call { callee:=.builtin .len,args:=#[x],argTypes:=#[t] }) ty pos after g) fr ((.int .i64 a.length)):=by
 refine ⟨fun ds w=>?_⟩;have d:=c ds;have e:(ByteArray.mk ⟨a⟩).size=a.length:=rfl;simp [execOp,d,resolve,invoke,builtin,S,Builtin.len_,run_underlying b,goInt,e]
theorem Ed {x:Operand}{t e:TypeId}{a:Option Addr}{n c:Nat}(b:P.underlying t=some (.slice e)) (d:cc fr x (.slice a n c)):hg P (Oper.mk dst (.call { callee:=.builtin .len,args:=#[x],argTypes:=#[t] }) ty pos after g) fr ((.int .i64 n)):=by
 refine ⟨fun ds w=>?_⟩;have f:=d ds;simp [execOp,f,resolve,invoke,builtin,Builtin.len_,run_underlying b,goInt]
theorem NG {x y:Operand}{t:TypeId}{k:IntKind}{a:List UInt8}{i:Int}{c:UInt8}(e:P.underlying t=some .string) (f:cc fr x (S a)) (j:cc fr y (.int k i)) (l:0≤i) (b:a[i.toNat]?=some c):hg P (Oper.mk dst (.index t x y) ty pos after g) fr ((.int .u8 c.toNat)):=by
 refine ⟨fun ds w=>?_⟩;have m:=f ds;have n:=j ds;have o:(ByteArray.mk ⟨a⟩)[i.toNat]?=some c:=by
  have d:i.toNat<a.length:=by
   rcases Nat.lt_or_ge i.toNat a.length with h | h
   ·exact h
   ·rw [List.getElem?_eq_none h] at b;cases b
  rw [getElem?_pos (ByteArray.mk ⟨a⟩) i.toNat (show i.toNat<(ByteArray.mk ⟨a⟩).size from d)];rw [List.getElem?_eq_getElem d] at b;rw [← b];rfl
 simp [execOp,m,n,S,Instr.index,run_underlying e,asIntOf,l,o]
theorem fF (a:List UInt8) (i j:Nat):(ByteArray.mk ⟨a⟩).extract i j=ByteArray.mk ⟨(a.take j).drop i⟩:=by
 rw [Lib.extract_eq];simp [List.drop_take]
theorem mG {x ri:Operand}{t:TypeId}{k:IntKind}{a:List UInt8}{i:Int}(b:P.underlying t=some .string) (c:cc fr x (S a)) (d:cc fr ri (.int k i))
  (e:0≤i∧i≤a.length):hg P (Oper.mk dst (.slice t x (some ri) none none) ty pos after g) fr ((S (a.drop i.toNat))):=by
 refine ⟨fun ds w=>?_⟩;have f:=c ds;have h:=d ds;have j:(ByteArray.mk ⟨a⟩).size=a.length:=rfl;simp only [execOp,f,h,S,Option.map,Instr.sliceAt];simp [run_underlying b,Instr.slice,Instr.sliceBounds,Instr.sliceBound,asIntOf,j,e,fF]
theorem OG {x:Operand}{i:Nat}{vs:List Value}{v:Value}(a:cc fr x (.tuple ⟨vs⟩)) (za:Pc vs i v):hg P (Oper.mk dst (.extract x i) ty pos after g) fr (v):=by
 refine ⟨fun ds w=>?_⟩;have b:=a ds;unfold Pc at za;simp [execOp,b,Instr.extract,za]
structure nc (P:Program) (f:FuncId) (args:List Value) (w:World) (R:Value→World→Prop):Prop where
 out:Calls P f ⟨args⟩ w fun e w'=>match e with | .returned v=>R v w' | _=>False
theorem nc.mono {f:FuncId}{args:List Value}{R lg:Value→World→Prop}(h:nc P f args w R) (a:∀ v w',R v w'→lg v w'):nc P f args w lg :=
 ⟨Calls.mono h.out fun e w' he=>by
  cases e with
  | returned v=>exact a v w' he
  | panicked c=>exact he.elim
  | outgrown=>exact he.elim⟩
class kd (P:Program) (f:FuncId):Prop where
 out:∀ args w,(callFunc f args).run P w=.ok (.enter f args) w
theorem nG {f : FuncId} {fn : Func} (a : P.funcs[f]? = some fn) (e : fn.body.isSome = true) (b : (fn.name == "runtime.NumGoroutine") = false) : kd P f := by
 constructor;intro args w;have c:¬ fn.body=none:=by cases h:fn.body<;>simp_all
 have d : ¬ fn.name = "runtime.NumGoroutine" := by simpa using b
 simp only [callFunc,Sem.run_bind,run_program,Result.andThen_ok,a,beq_iff_eq,if_neg d,Option.isNone_iff_eq_none,if_neg c,Sem.run_pure]
def yh (fr:List Value) (dst:Option Tmp) (v:Value) (K:List Value→Prop):Prop:=∀ db,Hg fr dst v db→K db
theorem Hg.uniq {fr a b:List Value}{dst:Option Tmp}{v:Value}(h:Hg fr dst v a) (k:Hg fr dst v b):a=b:=by
 have:=(h []).symm.trans (k []);unfold F at this;simpa using this
theorem pu {v:Value}{K:List Value→Prop}(a:Hg fr dst v db) (h:K db):yh fr dst v K:=fun c b=>by rw [Hg.uniq b a];exact h
theorem Ji (fr:List Value) (dst:Option Tmp) (v:Value):∃ db,Hg fr dst v db:=by
 cases dst with
 | none=>exact ⟨fr,nb⟩
 | some n=>exact ⟨fr.set n v,ka rfl⟩
theorem vy {o:Oper}{f:FuncId}{args:List Value}{R:Value→World→Prop}(a:(execOp (F fr ds).eval o).run P w=.ok (.enter f ⟨args⟩) w) (b:nc P f args w R)
  (h:∀ v w',R v w'→yh fr o.dst v fun db=>K db ds w'):lf P o fr ds w K Q:=by
 constructor;intro g d;unfold Oper.wp;rw [a,Oper.upon_enter];exact Calls.mono b.out fun e w' he=>by
  cases e with
  | returned v =>
   obtain ⟨db,Ba⟩:=Ji fr o.dst v;exact Ba.rw (d _ _ _ (h v w' he db Ba))
  | panicked c=>exact he.elim
  | outgrown=>exact he.elim
theorem eB {f:Operand}{xs:List Operand}{tys:Array TypeId}{k:FuncId}{cap vs:List Value}(a:kd P k) (b:cc fr f (.func (.func k) #[] ⟨cap⟩)) (c:xn fr xs vs) :
  (execOp (F fr ds).eval (Oper.mk dst (.call { callee:=.value f,args:=⟨xs⟩,argTypes:=tys }) ty pos after g)).run P w=.ok (.enter k ⟨vs++cap⟩) w:=by
 have d:=b ds;have e:=c ds;have h:=a.out ⟨vs++cap⟩ w;simp [execOp,resolve,d,Deferred.ofValue,invoke,e,h]
theorem Ic {f:Operand}{xs:List Operand}{tys:Array TypeId}{k:FuncId}{vs:List Value}{R:Value→World→Prop}(a:kd P k) (b:cc fr f (.func (.func k) #[] #[])) (c:xn fr xs vs)
  (d:nc P k vs w R) (h:∀ v w',R v w'→yh fr dst v fun db=>K db ds w'):lf P (Oper.mk dst (.call { callee:=.value f,args:=⟨xs⟩,argTypes:=tys }) ty pos after g) fr ds w K Q:=by
 refine vy (args:=vs) ?_ d h;have:=eB (w:=w) (dst:=dst) (ty:=ty) (pos:=pos) (after:=after) (g:=g) (tys:=tys) (ds:=ds) (cap:=[]) a b c;simpa using this
theorem Yh {f:Operand}{xs:List Operand}{tys:Array TypeId}{k:FuncId}{cap vs:List Value}{R:Value→World→Prop}(a:kd P k) (b:cc fr f (.func (.func k) #[] ⟨cap⟩)) (c:xn fr xs vs)
  (d:nc P k (vs++cap) w R) (h:∀ v w',R v w'→yh fr dst v fun db=>K db ds w'):lf P (Oper.mk dst (.call { callee:=.value f,args:=⟨xs⟩,argTypes:=tys }) ty pos after g) fr ds w K Q :=
 vy (eB a b c) d h
def sq (P:Program) (fn:Func) (R:Value→World→Prop):Exit→Act→World→Prop:=bodyPost P fn fun e w'=>match e with | .returned v=>R v w' | _=>False
theorem enter {f:FuncId}{fn:Func}{c:Code}{args frm:List Value}{R:Value→World→Prop}(a:P.funcs[f]?=some fn) (b:fn.body=some c)
  (d:args++List.replicate (fn.ntmps - args.length) undef=frm) (h:ef P c (sq P fn R) frm [] w):nc P f args w R:=by
 refine ⟨calls_of_wp a b ?_⟩;subst d;have:(⟨args⟩:Array Value)++Array.replicate (fn.ntmps - args.length) undef=⟨args++List.replicate (fn.ntmps - args.length) undef⟩:=by
  apply Array.ext';simp
 have h:=h.out;simpa [F,sq,this] using h
theorem tb {fn:Func}{R:Value→World→Prop}{t:Tmp}{v:Value}(a:fn.results=#[.tmp t]) (za:Pc fr t v) (h:R v w):sq P fn R .ret (F fr []) w:=by
 refine bodyPost_ret (v:=v) ?_ rfl h;unfold Pc at za;rw [results_tmp a];simp [F,za]
theorem Of {fn:Func}{R:Value→World→Prop}{t u:Tmp}{v a:Value}(c:fn.results=#[.tmp t,.tmp u]) (za:Pc fr t v) (b:Pc fr u a) (h:R (.tuple #[v,a]) w):sq P fn R .ret (F fr []) w:=by
 refine bodyPost_ret (v:=.tuple #[v,a]) ?_ rfl h;unfold Pc at za b;rw [results_tmp2 c];simp [F,za,b]
theorem sn {fn:Func}{R:Value→World→Prop}(a:fn.results=#[]) (h:R (.tuple #[]) w):sq P fn R .normal (F fr []) w :=
 bodyPost_end (results_none a _ _ _) rfl h
theorem dz {fn:Func}{R:Value→World→Prop}(a:fn.results=#[]) (h:R (.tuple #[]) w):sq P fn R .ret (F fr []) w :=
 bodyPost_ret (results_none a _ _ _) rfl h
end
end Go.pc
namespace Go.pc
open Go.RowKit
structure Zh (S:Nat→Prop) (w w':World):Prop where
 os:w'.os=w.os
 tape:w'.tape=w.tape
 output:w'.output=w.output
 size:w.heap.size≤w'.heap.size
 ba:∀ k,k<w.heap.size→S k→w'.heap[k]?=w.heap[k]?
def yo (w w':World):Prop:=Zh (fun _=>True) w w'
theorem Zh.refl {S:Nat→Prop}(w:World):Zh S w w:=⟨rfl,rfl,rfl,Nat.le_refl _,fun _ _ _=>rfl⟩
theorem Zh.trans {S:Nat→Prop}{a b c:World}(h:Zh S a b) (k:Zh S b c):Zh S a c :=
 ⟨k.os.trans h.os,k.tape.trans h.tape,k.output.trans h.output,Nat.le_trans h.size k.size,fun i d e=>(k.ba i (Nat.lt_of_lt_of_le d h.size) e).trans (h.ba i d e)⟩
theorem Zh.mono {S c:Nat→Prop}{a b:World}(h:Zh S a b) (d:∀ k,c k→S k):Zh c a b:=⟨h.os,h.tape,h.output,h.size,fun i e k=>h.ba i e (d i k)⟩
theorem yo.keeps {S:Nat→Prop}{a b:World}(h:yo a b):Zh S a b:=Zh.mono h fun _ _=>trivial
theorem yo.below {a b:World}(h:yo a b):Below a.heap.size a b:=⟨h.os,h.tape,h.output,h.size,fun k c=>h.ba k c trivial⟩
theorem yo.alloc (w:World) (o:Obj):yo w (w.alloc o):=⟨rfl,rfl,rfl,by simp,fun k a _=>heap_alloc_old w o k a⟩
def vk (S:Nat→Prop) (w:World) (A:World→Prop):Prop:=∀ w',w.heap.size≤w'.heap.size→(∀ k,k<w.heap.size→S k→w'.heap[k]?=w.heap[k]?)→A w'
theorem vk.now {S:Nat→Prop}{w:World}{A:World→Prop}(h:vk S w A):A w:=h w (Nat.le_refl _) fun _ _ _=>rfl
theorem vk.mono {S a:Nat→Prop}{w:World}{A:World→Prop}(h:vk S w A) (c:∀ k,k<w.heap.size→S k→a k):vk a w A:=fun w' d e=>h w' d fun k b f=>e k b (c k b f)
theorem vk.and {S:Nat→Prop}{w:World}{A B:World→Prop}(h:vk S w A) (k:vk S w B):vk S w fun w'=>A w'∧B w':=fun w' a b=>⟨h w' a b,k w' a b⟩
theorem vk.keeps {S:Nat→Prop}{w w':World}{A:World→Prop}(h:vk S w A) (k:Zh S w w'):vk S w' A :=
 fun d e f=>h d (Nat.le_trans k.size e) fun b a c=>(f b (Nat.lt_of_lt_of_le a k.size) c).trans (k.ba b a c)
inductive yc where
 | ba (b:Nat) (T:TypeId) (cs:List Value)
 | row (v:Value) (T:TypeId) (sz n:Nat) (xs:List Value)
 | map (b:Nat) (es:List MapEntry) (clock:Nat)
 | Dp (b:Nat) (s:ByteArray) (pos:Nat)
 | ro (b:Nat) (T:TypeId) (cs:List Value)
 | Ep (b m since:Nat) (seen:List Nat) (last:Nat)
def wk (w:World) (b:Nat) (T:TypeId) (cs:List Value):Prop:=w.heap[b]?=some (.cells ⟨cs⟩ T (0,0))
def Row (w:World) (v:Value) (T:TypeId) (sz n:Nat) (xs:List Value):Prop :=
 xs.length=n*sz∧((v=.slice none 0 0∧n=0)∨∃ g o cap cur,v=.slice (some ⟨g,o,none⟩) n cap∧w.heap[g]?=some (.cells cur T (0,0))∧n≤cap∧cap≤maxLen∧o+cap*sz≤cur.size∧(cur.toList.drop o).take (n*sz)=xs)
def yc.block:yc→Option Nat
 | .ba b _ _=>some b
 | .row v _ _ _ _=>v.ownBlock
 | .map b _ _=>some b
 | .Dp b _ _=>some b
 | .ro b _ _=>some b
 | .Ep b _ _ _ _=>some b
def yc.holds (w:World):yc→Prop
 | .ba b T cs=>wk w b T cs
 | .row v T sz n xs=>Row w v T sz n xs
 | .map b es clock=>w.heap[b]?=some (.map ⟨es⟩ clock)
 | .Dp b s pos=>w.heap[b]?=some (.stringIter s pos)
 | .ro b T cs=>∃ z,w.heap[b]?=some (.cells ⟨cs⟩ T z)
 | .Ep b m since seen last=>w.heap[b]?=some (.mapIter (some m) since ⟨seen⟩ last)
def blocks (rs:List yc):List Nat:=rs.filterMap yc.block
structure Sep (S Ud:Nat→Prop) (J w:World) (rs:List yc) (A:World→Prop):Prop where
 keeps:Zh S J w
 all:∀ r ∈ rs,r.holds w
 Xi:(blocks rs).Nodup
 new:∀ b ∈ blocks rs,J.heap.size≤b∨¬ S b
 jj:vk (fun b=>(Ud b∨J.heap.size≤b)∧b ∉ blocks rs) w A
theorem Nz {w:World}{r:yc}(h:r.holds w){b:Nat}(a:r.block=some b):b<w.heap.size:=by
 cases r with
 | ba Te T cs=>simp [yc.block] at a; subst a; exact (Array.getElem?_eq_some_iff.1 h).1
 | map Te es d=>simp [yc.block] at a; subst a; exact (Array.getElem?_eq_some_iff.1 h).1
 | Dp Te s p=>simp [yc.block] at a; subst a; exact (Array.getElem?_eq_some_iff.1 h).1
 | Ep Te m s e l=>simp [yc.block] at a; subst a; exact (Array.getElem?_eq_some_iff.1 h).1
 | ro Te T cs=>obtain ⟨z,h⟩:=h; simp [yc.block] at a; subst a; exact (Array.getElem?_eq_some_iff.1 h).1
 | row v T sz n xs =>
  rcases h.2 with ⟨rfl,_⟩ | ⟨g,o,cap,cur,rfl,c,_⟩
  ·simp [yc.block,Value.ownBlock] at a
  ·simp [yc.block,Value.ownBlock] at a;subst a;exact (Array.getElem?_eq_some_iff.1 c).1
theorem holds_of {w w':World}{r:yc}(h:r.holds w) (a:∀ b,r.block=some b→w'.heap[b]?=w.heap[b]?):r.holds w':=by
 cases r with
 | ba Te T cs=>exact (a Te rfl).trans h
 | map Te es d=>exact (a Te rfl).trans h
 | Dp Te s p=>exact (a Te rfl).trans h
 | Ep Te m s e l=>exact (a Te rfl).trans h
 | ro Te T cs=>obtain ⟨z,h⟩:=h; exact ⟨z,(a Te rfl).trans h⟩
 | row v T sz n xs =>
  refine ⟨h.1,?_⟩;rcases h.2 with h | ⟨g,o,cap,cur,rfl,c,h⟩
  ·exact .inl h
  ·exact .inr ⟨g,o,cap,cur,rfl,by rw [a g rfl];exact c,h⟩
section
variable {S Ud:Nat→Prop}{J w w':World}{rs ld:List yc}{A B:World→Prop}
theorem Sep.a (h:Sep S Ud J w rs A):A w:=h.jj.now
theorem Sep.start (w:World) (S Ud:Nat→Prop) (a:vk Ud w A):Sep S Ud w w [] A :=
 ⟨.refl w,by simp,by simp [blocks],by simp [blocks],a.mono fun k _ b=>⟨.inl b,by simp [blocks]⟩⟩
theorem Yp {r:yc}{b:Nat}(a:r ∈ rs) (c:r.block=some b):b ∈ blocks rs:=List.mem_filterMap.2 ⟨r,a,c⟩
theorem Sep.lt (h:Sep S Ud J w rs A){b:Nat}(a:b ∈ blocks rs):b<w.heap.size:=by
 obtain ⟨r,c,a⟩:=List.mem_filterMap.1 a;exact Nz (h.all r c) a
theorem Sep.grow (h:Sep S Ud J w rs A) (a:yo w w'):Sep S Ud J w' rs A where
 keeps:=h.keeps.trans a.keeps
 all r c:=holds_of (h.all r c) fun b d=>a.ba b (h.lt (Yp c d)) trivial
 Xi:=h.Xi
 new:=h.new
 jj:=h.jj.keeps a.keeps
theorem Sep.alloc (h:Sep S Ud J w rs A){o:Obj}{r:yc}(c:r.block=some w.heap.size) (f:r.holds (w.alloc o)):Sep S Ud J (w.alloc o) (r::rs) A where
 keeps:=h.keeps.trans (yo.alloc w o).keeps
 all r' d:=by
  rcases List.mem_cons.1 d with rfl | d
  ·exact f
  ·exact (h.grow (yo.alloc w o)).all r' d
 Xi:=by
  simp only [blocks,List.filterMap_cons,c,List.nodup_cons];exact ⟨fun hm=>Nat.lt_irrefl _ (h.lt hm),h.Xi⟩
 new b a:=by
  simp only [blocks,List.filterMap_cons,c,List.mem_cons] at a;rcases a with rfl | a
  ·exact .inl h.keeps.size
  ·exact h.new b a
 jj:=fun w' g i=>h.jj w' (by simp at g;omega) fun k j e=>by
  have:=i k (by simp;omega) ⟨e.1,by
   simp only [blocks,List.filterMap_cons,c,List.mem_cons,not_or];exact ⟨by omega,e.2⟩⟩
  rw [this];exact heap_alloc_old w o k j
theorem Gw {r:yc}{n:Nat}(za:Pc rs n r):r ∈ rs:=List.mem_of_getElem? za
theorem Sep.get (h:Sep S Ud J w rs A){n:Nat}{r:yc}(za:Pc rs n r):r.holds w:=h.all r (Gw za)
theorem nA {n:Nat}{r r':yc}(za:Pc rs n r) (b:r'.block=r.block):blocks (rs.set n r')=blocks rs:=by
 unfold Pc at za;unfold blocks
 induction rs generalizing n with
 | nil=>rfl
 | cons a rs c =>
  cases n with
  | zero=>simp at za; subst za; simp [List.filterMap_cons,b]
  | succ n=>simp at za; simp only [List.set_cons_succ,List.filterMap_cons,c za]
theorem Oz {n m:Nat}{r d:yc}(Ba:(blocks rs).Nodup) (za:Pc rs n r) (hm:Pc rs m d) (h:n≠m){b:Nat}(f:r.block=some b):d.block≠some b:=by
 unfold Pc at za hm;unfold blocks at Ba
 induction rs generalizing n m with
 | nil=>simp at za
 | cons a rs i =>
  have j:(List.filterMap yc.block rs).Nodup:=by
   cases g:a.block with
   | none=>simpa [List.filterMap_cons,g] using Ba
   | some c=>simp only [List.filterMap_cons,g,List.nodup_cons] at Ba; exact Ba.2
  cases n with
  | zero =>
   cases m with
   | zero=>exact absurd rfl h
   | succ m =>
    simp at za hm;subst za;intro e;simp only [List.filterMap_cons,f,List.nodup_cons] at Ba;exact Ba.1 (List.mem_filterMap.2 ⟨d,List.mem_of_getElem? hm,e⟩)
  | succ n =>
   cases m with
   | zero =>
    simp at za hm;subst hm;intro e;simp only [List.filterMap_cons,e,List.nodup_cons] at Ba;exact Ba.1 (List.mem_filterMap.2 ⟨r,List.mem_of_getElem? za,f⟩)
   | succ m=>simp at za hm; exact i j za hm (by omega)
theorem Sep.put (h:Sep S Ud J w rs A){n:Nat}{r r':yc}{b:Nat}(za:Pc rs n r) (f:r.block=some b) (p:r'.block=some b) (j:Xc rs n r' ld)
  (q:r'.holds w') (a:Zh (fun k=>k≠b) w w'):Sep S Ud J w' ld A:=by
 unfold Xc at j;subst j;have l:=Yp (Gw za) f;have g:=nA (r':=r') za (p.trans f.symm);refine ⟨?_,?_,?_,?_,?_⟩
 ·refine ⟨a.os.trans h.keeps.os,a.tape.trans h.keeps.tape,a.output.trans h.keeps.output,Nat.le_trans h.keeps.size a.size,fun k i d=>?_⟩;rw [a.ba k (Nat.lt_of_lt_of_le i h.keeps.size) (fun e=>by subst e;rcases h.new k l with h | h;exact absurd i (by omega);exact h d)];exact h.keeps.ba k i d
 ·intro s t;obtain ⟨m,hm⟩:=List.mem_iff_getElem?.1 t;by_cases e:n=m
  ·subst e;have u:n<rs.length:=(List.getElem?_eq_some_iff.1 za).1;rw [List.getElem?_set_self u] at hm;cases hm;exact q
  ·rw [List.getElem?_set_ne e] at hm;refine holds_of (h.all s (List.mem_of_getElem? hm)) fun c o=>a.ba c (h.lt (Yp (List.mem_of_getElem? hm) o)) fun v=>?_;subst v;exact Oz h.Xi za hm e f o
 ·rw [g];exact h.Xi
 ·rw [g];exact h.new
 ·rw [g];exact h.jj.keeps (a.mono fun k d e=>d.2 (by subst e;exact l))
end
def dx:TypeDesc→Bool
 | .struct _ | .array _ _=>true
 | _=>false
class Dd (P:Program) (T:TypeId) (ag:outParam Bool) (ae:outParam (List Value)) (n m:outParam Nat):Prop where
 qz:∃ d,P.underlying T=some d∧dx d=ag
 inf:∃ i z,P.info? T=some i∧i.zero=some z∧z.cells=⟨ae⟩∧i.size=n∧i.bytes=m
theorem SH {P:Program}{T:TypeId}{d:TypeDesc}{ag:Bool}{z:Value}{ae:List Value}{n m:Nat}(hu:P.underlying T=some d) (b:dx d=ag) (h:(P.info? T).map (fun i=>(i.zero,i.size,i.bytes))=some (some z,n,m)) (c:z.cells=⟨ae⟩):Dd P T ag ae n m:=by
 refine ⟨⟨d,hu,b⟩,?_⟩;cases a:P.info? T with
 | none=>rw [a] at h; cases h
 | some i =>
  rw [a] at h;simp only [Option.map_some,Option.some.injEq,Prod.mk.injEq] at h;exact ⟨i,z,rfl,h.1,c,h.2.1,h.2.2⟩
def Ce:Value→Bool
 | .agg _ | .tuple _=>false
 | _=>true
section
variable {P:Program}{Q:Exit→Act→World→Prop}{K:List Value→List Deferred→World→Prop}{fr db:List Value}{ds:List Deferred}{w:World}
variable {dst:Option Tmp}{ty:TypeId}{pos:String}{after:Array Edge}{g:Option (Nat×Bool)}
variable {S Ud:Nat→Prop}{J:World}{rs ld:List yc}{A:World→Prop}
variable {T:TypeId}{d:TypeDesc}{ag:Bool}{ae:List Value}{n m:Nat}
theorem gF (h:P.underlying T=some d):(isAgg T).run P w=.ok (dx d) w:=by
 unfold isAgg;simp only [Sem.run_bind,run_underlying h,Result.andThen_ok];cases d<;>rfl
theorem Dd.isAgg (h:Dd P T ag ae n m):(Go.isAgg T).run P w=.ok ag w:=by
 obtain ⟨d,Ba,rfl⟩:=h.qz;exact gF Ba
theorem Dd.sizeOf (h:Dd P T ag ae n m):(Go.sizeOf T).run P w=.ok n w:=by
 obtain ⟨i,z,a,c,d,b,hm⟩:=h.inf;simp [Go.sizeOf,typeInfo,a,b]
theorem Dd.zero (h:Dd P T ag ae n m):∃ z,(zeroValue T).run P w=.ok z w∧z.cells=⟨ae⟩:=by
 obtain ⟨i,z,a,b,c,d,hm⟩:=h.inf;exact ⟨z,by simp [zeroValue,typeInfo,a,b],c⟩
def tj (w:World) (b o:Nat) (cs:List Value):Prop:=∀ j v,cs[j]?=some v→w.cell? ⟨b,o+j,none⟩=some v
theorem Dj (b o j:Nat):(⟨b,o,none⟩:Addr).add j=⟨b,o+j,none⟩:=by
 unfold Addr.add;split
 ·rename_i h;subst h;rfl
 ·rfl
theorem wk.cell {b:Nat}{cs:List Value}{j:Nat}{v:Value}(h:wk w b T cs) (za:Pc cs j v):w.cell? ⟨b,j,none⟩=some v:=by
 unfold Pc at za;unfold wk at h;simp [World.cell?,h,za]
theorem wk.cells {b:Nat}{cs:List Value}(h:wk w b T cs):tj w b 0 cs:=fun j v za=>by
 rw [Nat.zero_add];exact h.cell za
theorem tj.one {b o:Nat}{cs:List Value}{j:Nat}{v:Value}(h:tj w b o cs) (za:Pc cs j v):w.cell? ⟨b,o+j,none⟩=some v:=h j v za
theorem Qc (a:Dd P T ag ae n m) (c:Sep S Ud J w rs A)
  (h:∀ b w',w.heap.size≤b→Sep S Ud J w' (.ba b T ae::rs) A→yh fr dst (.pointer (some ⟨b,0,none⟩)) fun db=>K db ds w'):lf P (Oper.mk dst (.alloc T) ty pos after g) fr ds w K Q:=by
 obtain ⟨z,d,e⟩:=a.zero (w:=w);obtain ⟨db,Ba⟩:=Ji fr dst (.pointer (some ⟨w.heap.size,0,none⟩));refine mi (v:=.pointer (some ⟨w.heap.size,0,none⟩)) (w':=w.alloc (.cells ⟨ae⟩ T)) ?_ Ba (h _ _ (Nat.le_refl _) (c.alloc rfl (heap_alloc_new w _)) db Ba);simp [execOp,Instr.alloc,d,newVar,newRow,e]
theorem Mg {x:Operand}{v:Value}{cs:List Value}(a:cc fr x v) (c:v.cells=⟨cs⟩) (d:Sep S Ud J w rs A)
  (h:∀ b w',w.heap.size≤b→Sep S Ud J w' (.ba b T cs::rs) A→yh fr dst (.pointer (some ⟨b,0,none⟩)) fun db=>K db ds w'):lf P (Oper.mk dst (.box T x) ty pos after g) fr ds w K Q:=by
 obtain ⟨db,Ba⟩:=Ji fr dst (.pointer (some ⟨w.heap.size,0,none⟩));refine mi (v:=.pointer (some ⟨w.heap.size,0,none⟩)) (w':=w.alloc (.cells ⟨cs⟩ T)) ?_ Ba (h _ _ (Nat.le_refl _) (d.alloc rfl (heap_alloc_new w _)) db Ba);simp [execOp,Instr.box,a ds,newVar,newRow,c]
structure Bn (P:Program) (o:Oper) (fr:List Value) (w:World) (v:Value):Prop where
 out:∀ ds,(execOp (F fr ds).eval o).run P w=.ok (.value v) w
theorem tl {o:Oper}{v:Value}(hu:Bn P o fr w v) (a:Hg fr o.dst v db) (h:K db ds w):lf P o fr ds w K Q:=mi (hu.out ds) a h
theorem ob {x:Operand}{b o:Nat}{v:Value}(a:Dd P T false ae n m) (c:cc fr x (.pointer (some ⟨b,o,none⟩))) (d:w.cell? ⟨b,o,none⟩=some v):Bn P (Oper.mk dst (.load T x) ty pos after g) fr w v :=
 ⟨fun ds=>by simp [execOp,Instr.loadAt,c ds,Instr.sureAddr,loadVar,a.isAgg,d]⟩
theorem Kc {x:Operand}{b o:Nat}{v:Value}(a:Dd P T false ae n m) (c:cc fr x (.pointer (some ⟨b,o,none⟩))) (d:w.cell? ⟨b,o,none⟩=some v)
  (e:Hg fr dst v db) (h:K db ds w):lf P (Oper.mk dst (.load T x) ty pos after g) fr ds w K Q:=tl (ob a c d) e h
theorem ve {x:Operand}{b o:Nat}{cs:List Value}(a:Dd P T true ae n m) (c:cc fr x (.pointer (some ⟨b,o,none⟩))) (d:tj w b o cs) (e:cs.length=n):Bn P (Oper.mk dst (.load T x) ty pos after g) fr w (.agg ⟨cs⟩):=⟨fun ds=>by
 have za:=run_loadCells_list (P:=P) w ⟨b,o,none⟩ cs (fun j v f=>by rw [Dj];exact d j v f);rw [e] at za;simp [execOp,Instr.loadAt,c ds,Instr.sureAddr,loadVar,a.isAgg,a.sizeOf,za]⟩
theorem Fl {x:Operand}{b o:Nat}{cs:List Value}(a:Dd P T true ae n m) (c:cc fr x (.pointer (some ⟨b,o,none⟩))) (d:tj w b o cs) (e:cs.length=n)
  (f:Hg fr dst (.agg ⟨cs⟩) db) (h:K db ds w):lf P (Oper.mk dst (.load T x) ty pos after g) fr ds w K Q:=tl (ve a c d e) f h
inductive fh:List Value→Nat→List Value→List Value→Prop where
 | z {cs:List Value} {o:Nat}:fh cs o [] cs
 | s {cs cs1 a:List Value} {o:Nat} {v:Value} {vs:List Value} (h:Xc cs o v cs1) (za:o<cs.length) (k:fh cs1 (o+1) vs a):fh cs o (v::vs) a
theorem fh.eq {cs:List Value}{o:Nat}{vs b:List Value}(h:fh cs o vs b):o+vs.length≤cs.length∨vs=[]:=by
 induction h with
 | z=>exact .inr rfl
 | @s cs cs1 b o v vs h za k a =>
  left;unfold Xc at h;subst h;rcases a with a | rfl
  ·simp at a ⊢;omega
  ·simp;omega
theorem fh.res {cs:List Value}{o:Nat}{vs a:List Value}(h:fh cs o vs a) (za:o≤cs.length):a=cs.take o++vs++cs.drop (o+vs.length):=by
 induction h with
 | z=>simp
 | @s cs cs1 a o v vs h b k c =>
  unfold Xc at h;subst h;rw [c (by simp;omega)];have ma:(cs.set o v).take (o+1)=cs.take o++[v]:=by
   rw [List.take_set,List.take_add_one,List.getElem?_eq_getElem b];rw [List.set_append_right _ _ (by simp;omega)];simp [Nat.min_eq_left (Nat.le_of_lt b)]
  rw [ma];have d:(cs.set o v).drop (o+1+vs.length)=cs.drop (o+(v::vs).length):=by
   rw [List.drop_set_of_lt (by omega)];congr 1;simp;omega
  rw [d];simp
theorem uw {v:Value}(h:Ce v=true):v.oneCell'=true:=by cases v<;>first | rfl | simp [Ce] at h
theorem qE {b:Nat}{cs:List Value}(c:wk w b T cs){o:Nat}{vs d:List Value}(a:fh cs o vs d) (e:o≤cs.length) (f:vs.all Ce=true) :
  ∃ w',(storeCells ⟨b,o,none⟩ vs).run P w=.ok () w'∧wk w' b T d∧Zh (fun k=>k≠b) w w':=by
 have hle:o+0+vs.length≤(⟨cs⟩:Array Value).size:=by
  rcases a.eq with h | rfl
  ·simpa using h
  ·simpa using e
 refine ⟨_,run_storeCells_at P b o T vs 0 ⟨cs⟩ w c hle fun v g=>uw (List.all_eq_true.1 f v g),?_,?_⟩
 ·rw [a.res e];exact setRow_heap w b ⟨cs⟩ _ T (0,0) c
 ·exact ⟨rfl,rfl,rfl,by simp [World.setRow],fun k i a=>setRow_other w b k _ a⟩
theorem wy {x y:Operand}{b o k:Nat}{v:Value}{cs a vs:List Value}(f:Dd P T ag ae n m) (i:cc fr x (.pointer (some ⟨b,o,none⟩))) (j:cc fr y v) (c:v.cells=⟨vs⟩) (l:vs.length=n) (p:vs.all Ce=true)
  (d:Sep S Ud J w rs A) {e:TypeId}(za:Pc rs k (.ba b e cs)) (q:fh cs o vs a) (r:(decide (o≤cs.length))=true) (s:Xc rs k (.ba b e a) ld)
  (Ba:Hg fr dst undef db) (h:∀ w',Sep S Ud J w' ld A→K db ds w'):lf P (Oper.mk dst (.store T x y) ty pos after g) fr ds w K Q:=by
 obtain ⟨w',t,u,z⟩:=qE (P:=P) (d.get za) q (of_decide_eq_true r) p;refine cz (w':=w') ?_ Ba (h w' (d.put za rfl rfl s u z));have ma:v.cells.toList=vs:=by rw [c]
 have B:¬ (v.cells.size≠n):=by rw [c];simpa using l
 have C:=f.sizeOf (w:=w);simp only [execOp,Instr.storeAt,i ds,j ds,Instr.sureAddr,storeVar,Sem.run_bind,C,Result.andThen_ok,if_neg B,ma,t,Sem.run_pure]
class Oe (P:Program) (T:TypeId) (i:Nat) (off:outParam Nat):Prop where
 out:∀ b o w,(Instr.fieldAt T (.pointer (some ⟨b,o,none⟩)) i).run P w=.ok (.pointer (some ⟨b,o+off,none⟩)) w
theorem Xe {c:Array Field}{i off:Nat}{f:Field}{d:TypeId}{e:List Value}{a g:Nat}{h:Bool}(j:P.underlying T=some (.struct c)) (k:c[i]?=some f) (l:f.offset=off) (m:f.type=d) (n:Dd P d h e a g) (p:(a == 0)=false):Oe P T i off:=by
 constructor;intro b o w;have q:¬ a=0:=by simpa using p
 simp [Instr.fieldAt,run_underlying j,k,Instr.sureAddr,fieldPlace,m,n.sizeOf,q,Dj,l]
theorem fx {x:Operand}{b o i off a:Nat}(c:Oe P T i off) (d:cc fr x (.pointer (some ⟨b,o,none⟩))) (e:o+off=a):hg P (Oper.mk dst (.fieldAddr T x i) ty pos after g) fr ((.pointer (some ⟨b,a,none⟩))):=by
 subst e;exact ⟨fun ds w=>by simp [execOp,d ds,c.out]⟩
theorem oG {x:Operand}{i off:Nat}{cs:List Value}{v:Value}{a:Array Field}{f:Field}{b:TypeId}{c:List Value}{d e:Nat}(h:P.underlying T=some (.struct a)) (j:a[i]?=some f) (k:f.offset=off) (l:f.type=b) (m:Dd P b false c d e)
  (n:cc fr x (.agg ⟨cs⟩)) (za:Pc cs off v):hg P (Oper.mk dst (.field T x i) ty pos after g) fr (v):=by
 subst k l;unfold Pc at za;refine ⟨fun ds w=>?_⟩;simp [execOp,n ds,Instr.field,run_underlying h,j,asAgg,part,m.isAgg,za]
theorem HB {x:Operand}{i off:Nat}{cs:List Value}{v:Value}{a:Array Field}{f:Field}{b:TypeId}{c:List Value}{d e:Nat}(j:P.underlying T=some (.struct a)) (k:a[i]?=some f) (l:f.offset=off) (m:f.type=b) (n:Dd P b false c d e)
  (o:cc fr x (.agg ⟨cs⟩)) (za:Pc cs off v) (p:Hg fr dst (v) db) (h:K db ds w):lf P (Oper.mk dst (.field T x i) ty pos after g) fr ds w K Q:=Ea (oG j k l m n o za) p h
theorem fB {x:Operand}{i off:Nat}{cs vs:List Value}{a:Array Field}{f:Field}{b:TypeId}{e:List Value}{c h:Nat}(j:P.underlying T=some (.struct a)) (k:a[i]?=some f) (l:f.offset=off) (m:f.type=b) (d:Dd P b true e c h)
  (n:cc fr x (.agg ⟨cs⟩)) (za:(cs.drop off).take c=vs):hg P (Oper.mk dst (.field T x i) ty pos after g) fr ((.agg ⟨vs⟩)):=by
 subst l m za;refine ⟨fun ds w=>?_⟩;simp [execOp,n ds,Instr.field,run_underlying j,k,asAgg,part,d.isAgg,d.sizeOf]
theorem gv {x y:Operand}{b o len cap:Nat}{k:IntKind}{i:Int}{e:TypeId}{a:Nat}(c:P.underlying T=some (.slice e)) (d:Dd P e ag ae n m) (f:cc fr x (.slice (some ⟨b,o,none⟩) len cap)) (h:cc fr y (.int k i)) (j:0≤i∧i<len) (l:o+i.toNat*n=a):hg P (Oper.mk dst (.indexAddr T x y) ty pos after g) fr ((.pointer (some ⟨b,a,none⟩))):=by
 subst l;refine ⟨fun ds w=>?_⟩;simp [execOp,f ds,h ds,Instr.indexAt,asIntOf,run_underlying c,j,d.sizeOf,Dj]
theorem IB {x:Operand}{a:Addr}(b:cc fr x (.pointer (some a))):hg P (Oper.mk dst (.nilCheck x) ty pos after g) fr ((.pointer (some a))):=⟨fun ds w=>by simp [execOp,b ds]⟩
end
end Go.pc
namespace Go.pc
open Go.RowKit
section
variable {P:Program}{Q:Exit→Act→World→Prop}{K:List Value→List Deferred→World→Prop}{fr db:List Value}{ds:List Deferred}{w:World}
variable {dst:Option Tmp}{ty:TypeId}{pos:String}{after:Array Edge}{g:Option (Nat×Bool)}
variable {S Ud:Nat→Prop}{J:World}{rs ld:List yc}{A:World→Prop}
variable {T:TypeId}{d:TypeDesc}{ag:Bool}{ae:List Value}{n m:Nat}
inductive ca:List yc→Nat→List yc→Prop where
 | z {r:yc} {rs:List yc}:ca (r::rs) 0 rs
 | s {r:yc} {rs ld:List yc} {k:Nat} (h:ca rs k ld):ca (r::rs) (k+1) (r::ld)
theorem ca.mem {k:Nat}(h:ca rs k ld):∀ r ∈ ld,r ∈ rs:=by
 induction h with
 | z=>intro r a; exact List.mem_cons_of_mem _ a
 | s _ b=>intro r a; rcases List.mem_cons.1 a with rfl | a; exact List.mem_cons_self; exact List.mem_cons_of_mem _ (b r a)
theorem ca.sub {k:Nat}(h:ca rs k ld):ld.Sublist rs:=by
 induction h with
 | z=>exact List.sublist_cons_self _ _
 | s _ a=>exact a.cons_cons _
theorem Sep.drop {k:Nat}(h:Sep S Ud J w rs A) (a:ca rs k ld):Sep S Ud J w ld A where
 keeps:=h.keeps
 all r d:=h.all r (a.mem r d)
 Xi:=(a.sub.filterMap _).nodup h.Xi
 new b e:=h.new b ((a.sub.filterMap _).subset e)
 jj:=h.jj.mono fun _ _ c=>⟨c.1,fun hm=>c.2 ((a.sub.filterMap _).subset hm)⟩
theorem Sep.freeze {k:Nat}{r:yc}{B:World→Prop}(h:Sep S Ud J w rs A) (za:Pc rs k r) (a:ca rs k ld) (e:∀ b,r.block=some b→Ud b∨J.heap.size≤b) (f:∀ w,r.holds w→B w) :
  Sep S Ud J w ld fun w=>A w∧B w where
 keeps:=(h.drop a).keeps
 all:=(h.drop a).all
 Xi:=(h.drop a).Xi
 new:=(h.drop a).new
 jj:=(h.drop a).jj.and fun w' l g=>f w' (holds_of (h.get za) fun b d=>g b (h.lt (Yp (Gw za) d)) ⟨e b d,by
  intro hm;have:blocks ld=(blocks rs).erase b∨True:=.inr trivial;clear this;have Ba:=h.Xi;clear f e l g h;unfold blocks at hm Ba;unfold Pc at za
  induction a with
  | z=>simp at za; subst za; simp only [List.filterMap_cons,d,List.nodup_cons] at Ba; exact Ba.1 hm
  | @s r' rs ld k a i =>
   simp at za;cases j:r'.block with
   | none=>simp only [List.filterMap_cons,j] at hm Ba; exact i za hm Ba
   | some c =>
    simp only [List.filterMap_cons,j,List.nodup_cons,List.mem_cons] at hm Ba;rcases hm with rfl | hm
    ·exact Ba.1 (List.mem_filterMap.2 ⟨r,List.mem_of_getElem? za,d⟩)
    ·exact i za hm Ba.2⟩)
inductive Cd (fr:List Value):Nat→List (Nat×Operand)→List Value→Prop where
 | z {i:Nat}:Cd fr i [] []
 | s {i:Nat} {x:Operand} {v:Value} {xs:List (Nat×Operand)} {vs:List Value} (h:cc fr x v) (a:Ce v=true) (t:Cd fr (i+1) xs vs):Cd fr i ((i,x)::xs) (v::vs)
theorem Cd.eval {i:Nat}{xs:List (Nat×Operand)}{vs:List Value}(h:Cd fr i xs vs):xs.map (fun p=>(p.1,(F fr ds).eval p.2))=(vs.zipIdx i).map fun p=>(p.2,p.1):=by
 induction h with
 | z=>rfl
 | s h _ _ a=>simp [h ds,a]
theorem Cd.cell {i:Nat}{xs:List (Nat×Operand)}{vs:List Value}(h:Cd fr i xs vs):∀ v ∈ vs,Ce v=true:=by
 induction h with
 | z=>simp
 | s _ b _ c=>intro v a; rcases List.mem_cons.1 a with rfl | a; exact b; exact c v a
theorem ey {v:Value}(h:Ce v=true):v.cells=#[v]:=by cases v<;>first | rfl | simp [Ce] at h
theorem LA (pl:Nat→Option (Nat×Nat)) (a:∀ i,pl i=some (i,1)):∀ (vs:List Value) (i:Nat) (cs:List Value),(∀ v ∈ vs,Ce v=true)→i+vs.length≤cs.length →
  Instr.fill pl ⟨cs⟩ ((vs.zipIdx i).map fun p=>(p.2,p.1))=some ⟨cs.take i++vs++cs.drop (i+vs.length)⟩
 | [],i,cs,_,h=>by simp [Instr.fill]
 | v::vs,i,cs,b,h=>by
  have e:=ey (b v (by simp));have d:i<cs.length:=by simp at h;omega
  have f:=LA pl a vs (i+1) (cs.set i v) (fun u hu=>b u (by simp [hu])) (by simp at h ⊢;omega);simp only [List.zipIdx_cons,List.map_cons,Instr.fill,a,e];have bb:¬ ((#[v].size≠1 || i+#[v].size > (⟨cs⟩:Array Value).size)=true):=by simp;omega
  rw [if_neg bb];have ma:(#[v].zipIdx.foldl (fun cs (c,j)=>cs.setIfInBounds (i+j) c) (⟨cs⟩:Array Value))=⟨cs.set i v⟩:=by
   simp [Array.zipIdx]
  rw [ma,f];have g:(cs.set i v).take (i+1)=cs.take i++[v]:=by
   rw [List.take_set,List.take_add_one,List.getElem?_eq_getElem d];rw [List.set_append_right _ _ (by simp;omega)];simp [Nat.min_eq_left (Nat.le_of_lt d)]
  have k:(cs.set i v).drop (i+1+vs.length)=cs.drop (i+(v::vs).length):=by
   rw [List.drop_set_of_lt (by omega)];congr 1;simp;omega
  rw [g,k];simp
theorem Gj {e:TypeId}{len:Nat}{xs:List (Nat×Operand)}{vs:List Value}(l:P.underlying T=some (.slice e)) (a:Dd P e ag ae 1 m) (c:Cd fr 0 xs vs) (d:vs.length=len) (n:(decide (len≤16777216))=true) (o:Sep S Ud J w rs A)
  (h:∀ b w',w.heap.size≤b→Sep S Ud J w' (.ba b e vs::rs) A→yh fr dst (.slice (some ⟨b,0,none⟩) len len) fun db=>K db ds w'):lf P (Oper.mk dst (.buildSlice T len ⟨xs⟩) ty pos after g) fr ds w K Q:=by
 obtain ⟨db,Ba⟩:=Ji fr dst (.slice (some ⟨w.heap.size,0,none⟩) len len);refine mi (v:=.slice (some ⟨w.heap.size,0,none⟩) len len) (w':=w.alloc (.cells ⟨vs⟩ e)) ?_ Ba (h _ _ (Nat.le_refl _) (o.alloc rfl (heap_alloc_new w _)) db Ba);obtain ⟨z,q,u⟩:=a.zero (w:=w);have r:=a.sizeOf (w:=w);have s:¬ (len*1 > 2 ^ 24):=by have:=of_decide_eq_true n;omega
 have t:=c.eval (ds:=ds);have f:∀ cs:Array Value,cs.size=len→Instr.fill (fun i=>some (i*1,1)) cs ((vs.zipIdx 0).map fun p=>(p.2,p.1))=some ⟨vs⟩:=by
  intro cs j;have:=LA (fun i=>some (i*1,1)) (fun i=>by rw [Nat.mul_one]) vs 0 cs.toList c.cell (by simp [d,j]);rw [this,List.drop_eq_nil_of_le (by simp [d,j])];simp
 have za:((⟨xs⟩:Array (Nat×Operand)).map fun (i,x)=>(i,(F fr ds).eval x)).toList=(vs.zipIdx 0).map fun p=>(p.2,p.1):=by
  simp only [Array.toList_map];exact t
 unfold execOp;simp only [Instr.buildSlice,Sem.run_bind,run_underlying l,Result.andThen_ok,r,if_neg s,za];by_cases k:len*1=0
 ·simp only [if_pos k,Sem.run_bind,Sem.run_pure,Result.andThen_ok];rw [f _ (by simp)];simp [newRow]
 ·simp only [if_neg k,Sem.run_bind,Sem.run_pure,Result.andThen_ok,q];rw [f _ (by simp)];simp [newRow]
theorem Sep.row {k:Nat}{v q:Value}{sz x:Nat}{xs y:List Value}{w':World}(f:Sep S Ud J w rs A) (za:Pc rs k (.row v T sz n xs)) (D:Xc rs k (.row q T sz x y) ld) (G:Row w' q T sz x y)
  (o:Zh (fun b=>some b≠v.ownBlock) w w') (p:q.ownBlock=v.ownBlock∨∃ b,q.ownBlock=some b∧w.heap.size≤b):Sep S Ud J w' ld A:=by
 unfold Xc at D;subst D;have z:∀ b,v.ownBlock=some b→b ∈ blocks rs:=fun b d=>Yp (Gw za) d;have B:∀ b ∈ blocks (rs.set k (.row q T sz x y)),(b ∈ blocks rs)∨(q.ownBlock=some b∧w.heap.size≤b):=by
  intro b d;obtain ⟨r,u,m⟩:=List.mem_filterMap.1 d;rcases List.mem_or_eq_of_mem_set u with hm | rfl
  ·exact .inl (Yp hm m)
  ·rcases p with p | ⟨c,s,hle⟩
   ·exact .inl (z b (p ▸ m))
   ·have:c=b:=by simpa [yc.block,s] using m
    subst this;exact .inr ⟨s,hle⟩
 have H:∀ b ∈ blocks rs,b ∈ blocks (rs.set k (.row q T sz x y))∨v.ownBlock=some b:=by
  intro b d;obtain ⟨r,u,m⟩:=List.mem_filterMap.1 d;obtain ⟨j,C⟩:=List.mem_iff_getElem?.1 u;by_cases e:k=j
  ·subst e;unfold Pc at za;rw [za] at C;cases C;exact .inr m
  ·exact .inl (Yp (r:=r) (List.mem_of_getElem? (i:=j) (by rw [List.getElem?_set_ne e];exact C)) m)
 refine ⟨?_,?_,?_,?_,?_⟩
 ·refine ⟨o.os.trans f.keeps.os,o.tape.trans f.keeps.tape,o.output.trans f.keeps.output,Nat.le_trans f.keeps.size o.size,fun b d t=>?_⟩;rw [o.ba b (Nat.lt_of_lt_of_le d f.keeps.size) (fun e=>by rcases f.new b (z b e.symm) with h | h;exact absurd d (by omega);exact h t)];exact f.keeps.ba b d t
 ·intro K L;obtain ⟨j,hm⟩:=List.mem_iff_getElem?.1 L;by_cases e:k=j
  ·subst e;have g:k<rs.length:=(List.getElem?_eq_some_iff.1 za).1;rw [List.getElem?_set_self g] at hm;cases hm;exact G
  ·rw [List.getElem?_set_ne e] at hm;refine holds_of (f.all K (List.mem_of_getElem? hm)) fun c s=>o.ba c (f.lt (Yp (List.mem_of_getElem? hm) s)) fun M=>?_;exact Oz f.Xi za hm e (b:=c) M.symm s
 ·have Ba:=f.Xi;have g:=fun b (d:b ∈ blocks rs)=>f.lt d;clear B H z;unfold Pc at za
  revert za Ba g
  generalize rs=l;unfold blocks;intro za Ba g
  induction l generalizing k with
  | nil=>simp at za
  | cons a l E =>
   cases k with
   | zero =>
    simp at za;subst za;simp only [List.set_cons_zero,List.filterMap_cons,yc.block] at Ba g ⊢;rcases p with p | ⟨c,s,hle⟩
    ·rw [p];exact Ba
    ·rw [s];cases d:v.ownBlock with
     | none =>
      rw [d] at Ba g;exact List.nodup_cons.2 ⟨fun hm=>by have:=g c hm;omega,Ba⟩
     | some b =>
      rw [d] at Ba g;exact List.nodup_cons.2 ⟨fun hm=>by have:=g c (List.mem_cons_of_mem _ hm);omega,(List.nodup_cons.1 Ba).2⟩
   | succ k =>
    simp at za;simp only [List.set_cons_succ,List.filterMap_cons] at Ba g ⊢;cases F:a.block with
    | none=>rw [F] at Ba g; exact E za Ba g
    | some c =>
     rw [F] at Ba g;simp only [List.nodup_cons] at Ba ⊢;refine ⟨fun hm=>?_,E za Ba.2 fun b d=>g b (List.mem_cons_of_mem _ d)⟩;obtain ⟨r,u,m⟩:=List.mem_filterMap.1 hm;rcases List.mem_or_eq_of_mem_set u with hm | rfl
     ·exact Ba.1 (List.mem_filterMap.2 ⟨r,hm,m⟩)
     ·rcases p with p | ⟨Fc,N,hle⟩
      ·exact Ba.1 (List.mem_filterMap.2 ⟨_,List.mem_of_getElem? za,by rw [← m];exact p.symm⟩)
      ·have:Fc=c:=by simpa [yc.block,N] using m
       have:=g c (by simp);omega
 ·intro b d;rcases B b d with h | h
  ·exact f.new b h
  ·exact .inl (Nat.le_trans f.keeps.size h.2)
 ·intro O P Q;refine f.jj O (Nat.le_trans o.size P) fun b d t=>?_;rw [Q b (Nat.lt_of_lt_of_le d o.size) ⟨t.1,fun hm=>by rcases B b hm with h | h;exact t.2 h;exact absurd d (by omega)⟩];exact o.ba b d fun e=>t.2 (z b e.symm)
end
section
variable {P:Program}{Q:Exit→Act→World→Prop}{K:List Value→List Deferred→World→Prop}{fr db:List Value}{ds:List Deferred}{w:World}
variable {dst:Option Tmp}{ty:TypeId}{pos:String}{after:Array Edge}{g:Option (Nat×Bool)}
variable {S Ud:Nat→Prop}{J:World}{rs ld:List yc}{A:World→Prop}
variable {T:TypeId}{d:TypeDesc}{ag:Bool}{ae:List Value}{n m:Nat}
theorem Bz {t ty:TypeId}{sz bytes:Nat}(l:P.underlying t=some (.slice T)) (H:Dd P T ag ae sz bytes) (K:ae.length=sz) (Z:0<sz)
  {v:Value}{xs:List Value}(f:Row w v T sz n xs) {a:Addr}{m c:Nat}{news:List Value}(za:news.length=m*sz) (r:∀ j u,news[j]?=some u→w.cell? (a.add j)=some u) (L:∀ u ∈ news,u.oneCell'=true)
  (B:n+m≤maxLen) (C:(n+m)*bytes≤140737488355328) :
  ∃ p w',(Builtin.append_ #[t,t] ty #[v,.slice (some a) m c]).run P w=.ok p w'∧Row w' p T sz (n+m) (xs++news)∧Zh (fun b=>some b≠v.ownBlock) w w' ∧
   (p.ownBlock=v.ownBlock∨∃ b,p.ownBlock=some b∧w.heap.size≤b):=by
 obtain ⟨i,z,q,D,M,E,N⟩:=H.inf;have O:z.cells.size=i.size:=by rw [M,E];simpa using K
 subst E;subst N;have gc:n+m≤9223372036854775807:=by simp only [maxLen] at B;omega
 have hlen:(xs++news).length=(n+m)*i.size:=by rw [List.length_append,f.1,za,Nat.add_mul]
 have grown:∀ (wq:Nat),wq<n+m→∀ (row:Option Nat),
   Row (w.drew.alloc (.cells (xs.toArray++news.toArray++Builtin.zeroCells z.cells (grownCap w (n+m) wq T - (n+m))) T)) (.slice (some ⟨w.heap.size,0,none⟩) (n+m) (grownCap w (n+m) wq T)) T i.size (n+m) (xs++news) ∧
   Zh (fun b=>some b≠row) w (w.drew.alloc (.cells (xs.toArray++news.toArray++Builtin.zeroCells z.cells (grownCap w (n+m) wq T - (n+m))) T)):=by
  intro wq lc row;have Q:=grownCap_ge w (n+m) wq T;have s:grownCap w (n+m) wq T≤maxLen:=grownCap_le_maxLen w (n+m) wq T B;refine ⟨⟨hlen,.inr ⟨w.heap.size,0,_,_,rfl,heap_alloc_new w.drew _,Q,s,?_,?_⟩⟩,⟨rfl,rfl,rfl,by simp,fun k x _=>heap_alloc_old w.drew _ k x⟩⟩
  ·simp only [Array.size_append,List.size_toArray,size_zeroCells,O,f.1,za,← Nat.add_mul,Nat.zero_add];exact Nat.mul_le_mul_right _ (by omega)
  ·simp only [Array.toList_append,List.append_assoc,List.drop_zero];rw [← List.append_assoc,← hlen];exact List.take_left
 rcases f.2 with ⟨rfl,rfl⟩ | ⟨g,o,cap,cur,rfl,y,rc,s,fd,F⟩
 ·have R:xs=[]:=List.eq_nil_of_length_eq_zero (by simpa using f.1);subst R;by_cases hm:m=0
  ·subst hm;have S:news=[]:=List.eq_nil_of_length_eq_zero (by simpa using za);subst S;refine ⟨.slice none 0 0,w,?_,⟨by simp,.inl ⟨rfl,rfl⟩⟩,.refl w,.inl rfl⟩;simp [Builtin.append_,run_underlying l,sizeOf,typeInfo,q,Builtin.lenOf,Builtin.firstCells,loadCells,loadCellsFrom]
  ·have h:=run_append_nil (P:=P) w t ty T i z l q D a m c news za r (by omega) (by omega) (by have V:=C;simp only [Nat.zero_add] at V;omega);have d:=grown 0 (by omega) (Value.ownBlock (.slice none 0 0));simp only [Nat.zero_add,List.nil_append,Array.empty_append] at d ⊢;exact ⟨_,_,h,d.1,d.2,.inr ⟨_,rfl,Nat.le_refl _⟩⟩
 ·by_cases A:n+m≤cap
  ·have hmul:n*i.size+news.length≤cap*i.size:=by rw [za,← Nat.add_mul];exact Nat.mul_le_mul_right _ A
   have W:o+n*i.size+news.length≤cur.size:=by omega
   have h:(Builtin.append_ #[t,t] ty #[.slice (some ⟨g,o,none⟩) n cap,.slice (some a) m c]).run P w =
     .ok (.slice (some ⟨g,o,none⟩) (n+m) cap) (w.setRow g (cur.toList.take (o+n*i.size)++news++cur.toList.drop (o+n*i.size+news.length)).toArray):=by
    have X:=run_firstCells_some (P:=P) w i.size m a m c news za r;have G:=run_storeCells_at P g (o+n*i.size) T news 0 cur w y (by simpa using W) L;simp only [Nat.add_zero] at G;simp [Builtin.append_,run_underlying l,sizeOf,typeInfo,q,Builtin.lenOf,A,X,Dj,G]
   refine ⟨_,_,h,⟨hlen,.inr ⟨g,o,cap,_,rfl,setRow_heap w g cur _ T _ y,A,s,?_,?_⟩⟩,⟨rfl,rfl,rfl,by simp [World.setRow],fun k _ x=>setRow_other w g k _ (fun e=>x (by simp [Value.ownBlock,e]))⟩,.inl rfl⟩
   ·simp only [List.size_toArray,List.length_append,List.length_take,List.length_drop,Array.length_toList];omega
   ·rw [← hlen,← F];have ma:(cur.toList.take (o+n*i.size)).drop o=(cur.toList.drop o).take (n*i.size):=by
     rw [List.drop_take];congr 1;omega
    have Y:o≤(cur.toList.take (o+n*i.size)).length:=by simp;omega
    rw [List.append_assoc,List.drop_append_of_le_length Y,ma,← List.append_assoc];exact List.take_left
  ·have holds:∀ j u,xs[j]?=some u→w.cell? ((⟨g,o,none⟩:Addr).add j)=some u:=by
    intro j u hu;rw [Dj,cell_of_row w g (o+j) cur T (0,0) y];rw [← F,List.getElem?_take] at hu;split at hu
    ·rw [List.getElem?_drop] at hu;simpa using hu
    ·cases hu
   have h:=run_append_grow (P:=P) w t ty T i z l q D ⟨g,o,none⟩ n cap xs f.1 holds a m c news za r (by omega) (by omega) (growslice_fits (by omega) C);have d:=grown cap (by omega) (Value.ownBlock (.slice (some ⟨g,o,none⟩) n cap));exact ⟨_,_,h,d.1,d.2,.inr ⟨_,rfl,Nat.le_refl _⟩⟩
theorem Sep.Bh (h:Sep S Ud J w rs A) (T:TypeId) (sz:Nat):Sep S Ud J w (.row (.slice none 0 0) T sz 0 []::rs) A where
 keeps:=h.keeps
 all r a:=by
  rcases List.mem_cons.1 a with rfl | a
  ·exact ⟨by simp,.inl ⟨rfl,rfl⟩⟩
  ·exact h.all r a
 Xi:=h.Xi
 new:=h.new
 jj:=h.jj
theorem my {t:TypeId}{s x:Operand}{v:Value}{sz bytes k b o e c:Nat}{xs news:List Value}(m:P.underlying t=some (.slice T)) (p:Dd P T ag ae sz bytes) (f:(ae.length == sz && decide (0<sz))=true)
  (q:cc fr s v) (r:cc fr x (.slice (some ⟨b,o,none⟩) e c)) (i:Sep S Ud J w rs A) (za:Pc rs k (.row v T sz n xs)) (y:tj w b o news) (hlen:news.length=e*sz) (z:news.all Ce=true)
  (l:n+e≤4294967296∧bytes≤4096)
  (h:∀ d w' ld,Xc rs k (.row d T sz (n+e) (xs++news)) ld→Sep S Ud J w' ld A→yh fr dst d fun db=>K db ds w') :
  lf P (Oper.mk dst (.call { callee:=.builtin .append,args:=#[s,x],argTypes:=#[t,t] }) ty pos after g) fr ds w K Q:=by
 simp only [Bool.and_eq_true,beq_iff_eq,decide_eq_true_eq] at f;have B:(n+e)*bytes≤140737488355328:=Nat.le_trans (Nat.mul_le_mul l.1 l.2) (by decide);obtain ⟨d,w',C,D,E,F⟩:=Bz (P:=P) (ty:=ty) m p f.1 f.2 (i.get za) (a:=⟨b,o,none⟩) (c:=c) hlen (fun j u hu=>by rw [Dj];exact y j u hu) (fun u hu=>uw (List.all_eq_true.1 z u hu)) (by unfold maxLen;omega) B;obtain ⟨db,Ba⟩:=Ji fr dst d;refine mi (v:=d) (w':=w') ?_ Ba (h d w' _ rfl (i.row za rfl D E F) db Ba);have ma:=q ds;have G:=r ds;simp [execOp,resolve,invoke,builtin,ma,G,C]
inductive ju (P:Program) (fr:List Value) (w:World):ResultVar→Value→Prop where
 | t {n:Nat} {v:Value} (h:Pc fr n v):ju P fr w (.tmp n) v
 | c {n b o:Nat} {v:Value} {T:TypeId} {ae:List Value} {k m:Nat} (h:Pc fr n (.pointer (some ⟨b,o,none⟩))) (d:Dd P T false ae k m) (e:w.cell? ⟨b,o,none⟩=some v):ju P fr w (.cell n T) v
 | a {n b o:Nat} {cs:List Value} {T:TypeId} {ae:List Value} {k m:Nat} (h:Pc fr n (.pointer (some ⟨b,o,none⟩))) (d:Dd P T true ae k m) (e:tj w b o cs) (f:cs.length=k):ju P fr w (.cell n T) (.agg ⟨cs⟩)
inductive sb (P:Program) (fr:List Value) (w:World):List ResultVar→List Value→Prop where
 | z:sb P fr w [] []
 | s {r:ResultVar} {v:Value} {rs:List ResultVar} {vs:List Value} (h:ju P fr w r v) (t:sb P fr w rs vs):sb P fr w (r::rs) (v::vs)
def Mt (tmps:Array Value):ResultVar→Sem Value
 | .tmp t=>pure (tmps.getD t undef)
 | .cell a t=>do loadVar t (← asAddr (tmps.getD a undef))
theorem rE (fn:Func) (tmps:Array Value):results fn tmps=(do
  let vs ← fn.results.mapM (Mt tmps)
  pure (if h:vs.size=1 then vs[0] else .tuple vs)):=by
 unfold results;congr 1
theorem ju.run {r:ResultVar}{v:Value}(h:ju P fr w r v):(Mt (F fr ds).tmps r).run P w=.ok v w:=by
 cases h with
 | t h=>unfold Pc at h; simp [Mt,F,h]
 | c h d e=>unfold Pc at h; simp [Mt,F,h,asAddr,loadVar,d.isAgg,e]
 | a h d e f =>
  unfold Pc at h;rename_i n b o cs T ae k m;have za:=run_loadCells_list (P:=P) w ⟨b,o,none⟩ cs (fun j v g=>by rw [Dj];exact e j v g);rw [f] at za;simp [Mt,F,h,asAddr,loadVar,d.isAgg,d.sizeOf,za]
theorem sb.run {rs:List ResultVar}{vs:List Value}(h:sb P fr w rs vs):(rs.mapM (Mt (F fr ds).tmps)).run P w=.ok vs w:=by
 induction h with
 | z=>simp
 | @s r v rs vs h _ a =>
  have b:=h.run (ds:=ds);simp only [List.mapM_cons,Sem.run_bind];rw [b];simp only [Result.andThen_ok];rw [a];simp
def Zt:List Value→Value
 | [v]=>v
 | vs=>.tuple ⟨vs⟩
theorem Pz {fn:Func}{a:List ResultVar}{vs:List Value}(b:fn.results=⟨a⟩) (h:sb P fr w a vs):(results fn (F fr ds).tmps).run P w=.ok (Zt vs) w:=by
 have hm:=h.run (ds:=ds);rw [rE,b];rw [Array.mapM_eq_mapM_toList];simp only [Sem.run_bind,Sem.run_map,hm,Result.andThen_ok]
 match vs with
 | []=>simp [Zt]
 | [v]=>simp [Zt]
 | v::c::vs=>simp [Zt]
theorem te {fn:Func}{R:Value→World→Prop}{a:List ResultVar}{vs:List Value}(b:fn.results=⟨a⟩) (c:sb P fr w a vs) (h:R (Zt vs) w):sq P fn R .ret (F fr []) w :=
 bodyPost_ret (Pz b c) rfl h
end
end Go.pc
namespace Go.pc
open Go.RowKit
section
variable {P:Program}{Q:Exit→Act→World→Prop}{K:List Value→List Deferred→World→Prop}{fr db:List Value}{ds:List Deferred}{w:World}
variable {dst:Option Tmp}{ty:TypeId}{pos:String}{after:Array Edge}{g:Option (Nat×Bool)}
variable {S Ud:Nat→Prop}{J:World}{rs ld:List yc}{A:World→Prop}
variable {T:TypeId}{d:TypeDesc}{ag:Bool}{ae:List Value}{n m:Nat}
theorem Sep.ba {k b:Nat}{cs:List Value}(h:Sep S Ud J w rs A) (za:Pc rs k (.ba b T cs)):wk w b T cs:=h.get za
inductive Fb:List Value→Nat→List Value→Prop where
 | z {cs:List Value} {o:Nat}:Fb cs o []
 | s {cs:List Value} {o:Nat} {v:Value} {vs:List Value} (h:Pc cs o v) (t:Fb cs (o+1) vs):Fb cs o (v::vs)
theorem Fb.at {cs:List Value}{o:Nat}{vs:List Value}(h:Fb cs o vs):∀ j v,vs[j]?=some v→cs[o+j]?=some v:=by
 induction h with
 | z=>intro j v h; simp at h
 | @s o v vs h t b =>
  intro j u a;cases j with
  | zero=>simp at a; subst a; exact h
  | succ j=>have:=b j u (by simpa using a); rw [show o+(j+1)=o+1+j by omega]; exact this
theorem wk.qg {b o:Nat}{cs vs:List Value}(h:wk w b T cs) (a:Fb cs o vs):tj w b o vs:=fun j v c=>h.cell (a.at j v c)
theorem Nf {x y:Operand}{b o k:Nat}{v:Value}{cs a:List Value}(f:Dd P T ag ae 1 m) (i:cc fr x (.pointer (some ⟨b,o,none⟩))) (j:cc fr y v) (c:Ce v=true)
  (l:Sep S Ud J w rs A) {d:TypeId}(za:Pc rs k (.ba b d cs)) (n:Xc cs o v a) (e:(decide (o<cs.length))=true) (p:Xc rs k (.ba b d a) ld)
  (Ba:Hg fr dst undef db) (h:∀ w',Sep S Ud J w' ld A→K db ds w'):lf P (Oper.mk dst (.store T x y) ty pos after g) fr ds w K Q :=
 wy (vs:=[v]) f i j (ey c) rfl (by simp [c]) l za (.s n (of_decide_eq_true e) .z) (decide_eq_true (Nat.le_of_lt (of_decide_eq_true e))) p Ba h
structure Si (P:Program) (T:TypeId) (pl:Array (Nat×Nat)):Prop where
 out:∃ a,P.underlying T=some (.struct a)∧∀ w,((a.mapM fun f=>do pure (f.offset,← Go.sizeOf f.type):Sem (Array (Nat×Nat))).run P w)=.ok pl w
theorem vj {a:Array Field}{pl:Array (Nat×Nat)}(hu:P.underlying T=some (.struct a)) (h:∀ w,((a.mapM fun f=>do pure (f.offset,← Go.sizeOf f.type):Sem (Array (Nat×Nat))).run P w)=.ok pl w):Si P T pl:=⟨a,hu,h⟩
inductive Wb (fr:List Value) (pl:Array (Nat×Nat)):List Value→List (Nat×Operand)→List Value→Prop where
 | z {cs:List Value}:Wb fr pl cs [] cs
 | o {cs cs1 out:List Value} {i off:Nat} {x:Operand} {v:Value} {xs:List (Nat×Operand)} (a:pl[i]?=some (off,1)) (b:cc fr x v) (e:Ce v=true) (c:decide (off<cs.length)=true) (d:Xc cs off v cs1) (t:Wb fr pl cs1 xs out):Wb fr pl cs ((i,x)::xs) out
 | n {cs cs1 out vs:List Value} {i off n:Nat} {x:Operand} {xs:List (Nat×Operand)} (a:pl[i]?=some (off,n)) (b:cc fr x (.agg ⟨vs⟩)) (f:vs.length=n) (c:decide (off+n≤cs.length)=true) (d:fh cs off vs cs1) (t:Wb fr pl cs1 xs out):Wb fr pl cs ((i,x)::xs) out
theorem Bv:∀ (vs:List Value) (off j:Nat) (cs:List Value),off+j+vs.length≤cs.length →
  ((vs.zipIdx j).foldl (fun (cs:Array Value) (p:Value×Nat)=>cs.setIfInBounds (off+p.2) p.1) ⟨cs⟩)=⟨cs.take (off+j)++vs++cs.drop (off+j+vs.length)⟩
 | [],off,j,cs,_=>by simp
 | v::vs,off,j,cs,h=>by
  have a:off+j<cs.length:=by simp at h;omega
  rw [List.zipIdx_cons,List.foldl_cons];have bb:(⟨cs⟩:Array Value).setIfInBounds (off+j) v=⟨cs.set (off+j) v⟩:=by simp
  simp only [bb];rw [Bv vs off (j+1) (cs.set (off+j) v) (by simp at h ⊢;omega)];have b:(cs.set (off+j) v).take (off+(j+1))=cs.take (off+j)++[v]:=by
   rw [show off+(j+1)=off+j+1 by omega,List.take_set,List.take_add_one,List.getElem?_eq_getElem a];rw [List.set_append_right _ _ (by simp;omega)];simp [Nat.min_eq_left (Nat.le_of_lt a)]
  have c:(cs.set (off+j) v).drop (off+(j+1)+vs.length)=cs.drop (off+j+(v::vs).length):=by
   rw [List.drop_set_of_lt (by omega)];congr 1;simp;omega
  rw [b,c];simp
theorem Wb.run {pl:Array (Nat×Nat)}{cs out:List Value}{xs:List (Nat×Operand)}(h:Wb fr pl cs xs out):Instr.fill (pl[·]?) ⟨cs⟩ (xs.map fun p=>(p.1,(F fr ds).eval p.2))=some ⟨out⟩:=by
 induction h with
 | z=>rfl
 | @o cs cs1 out i off x v xs b d g e a t f =>
  have k:=of_decide_eq_true e;simp only [List.map_cons,Instr.fill,b,d ds,ey g];have bb:¬ ((#[v].size≠1 || off+#[v].size > (⟨cs⟩:Array Value).size)=true):=by simp;omega
  rw [if_neg bb];have ma:(#[v].zipIdx.foldl (fun cs (c,j)=>cs.setIfInBounds (off+j) c) (⟨cs⟩:Array Value))=⟨cs1⟩:=by
   unfold Xc at a;subst a;simp [Array.zipIdx]
  rw [ma];exact f
 | @n cs cs1 out vs i off n x xs b d l e a t f =>
  have k:=of_decide_eq_true e;simp only [List.map_cons,Instr.fill,b,d ds];have bb:¬ (((Value.agg ⟨vs⟩).cells.size≠n || off+(Value.agg ⟨vs⟩).cells.size > (⟨cs⟩:Array Value).size)=true):=by simp [Value.cells,l];omega
  rw [if_neg bb];have ma:((Value.agg ⟨vs⟩).cells.zipIdx.foldl (fun cs (c,j)=>cs.setIfInBounds (off+j) c) (⟨cs⟩:Array Value))=⟨cs1⟩:=by
   have:=Bv vs off 0 cs (by omega);rw [a.res (by omega)];simp only [Nat.add_zero] at this;rw [← this];rw [← Array.foldl_toList];simp [Value.cells]
  rw [ma];exact f
theorem ff {pl:Array (Nat×Nat)}{xs:List (Nat×Operand)}{out:List Value}(a:Dd P T ag ae n m) (b:Si P T pl) (c:Wb fr pl ae xs out) (d:Hg fr dst (.agg ⟨out⟩) db) (h:K db ds w) :
  lf P (Oper.mk dst (.build T ⟨xs⟩) ty pos after g) fr ds w K Q:=by
 refine mi (v:=.agg ⟨out⟩) (w':=w) ?_ d h;obtain ⟨z,e,f⟩:=a.zero (w:=w);have j:=c.run (ds:=ds);obtain ⟨o,k,l⟩:=b.out;have hm:=l w;have za:((⟨xs⟩:Array (Nat×Operand)).map fun (i,x)=>(i,(F fr ds).eval x)).toList=xs.map fun p=>(p.1,(F fr ds).eval p.2):=by simp
 unfold execOp;simp only [Instr.build,Sem.run_bind,e,Result.andThen_ok,run_underlying k];rw [hm];simp only [Result.andThen_ok,f,za];rw [j];simp
theorem th {e:TypeId}{x:Operand}{cs:List Value}(k:P.underlying T=some (.slice e)) (j:Dd P e ag ae n m) (c:(ae.length == n && decide (0<n) && decide (n≤1000))=true) (l:cc fr x (.agg ⟨cs⟩)) (d:cs.length=n) (o:Sep S Ud J w rs A)
  (h:∀ b w',w.heap.size≤b→Sep S Ud J w' (.ba b e cs::rs) A→yh fr dst (.slice (some ⟨b,0,none⟩) 1 1) fun db=>K db ds w'):lf P (Oper.mk dst (.buildSlice T 1 #[(0,x)]) ty pos after g) fr ds w K Q:=by
 obtain ⟨db,Ba⟩:=Ji fr dst (.slice (some ⟨w.heap.size,0,none⟩) 1 1);refine mi (v:=.slice (some ⟨w.heap.size,0,none⟩) 1 1) (w':=w.alloc (.cells ⟨cs⟩ e)) ?_ Ba (h _ _ (Nat.le_refl _) (o.alloc rfl (heap_alloc_new w _)) db Ba);obtain ⟨z,p,y⟩:=j.zero (w:=w);have q:=j.sizeOf (w:=w);simp only [Bool.and_eq_true,beq_iff_eq,decide_eq_true_eq] at c;have r:¬ (1*n > 2 ^ 24):=by have:=c.2;omega
 have s:¬ (1*n=0):=by have:=c.1.2;omega
 have t:∀ a:Array Value,a.size=n→Instr.fill (fun i=>some (i*n,n)) a [(0,Value.agg ⟨cs⟩)]=some ⟨cs⟩:=by
  intro a f;simp only [Instr.fill];have bb:¬ (((Value.agg ⟨cs⟩).cells.size≠n || 0*n+(Value.agg ⟨cs⟩).cells.size > a.size)=true):=by simp [Value.cells,d,f]
  rw [if_neg bb];congr 1;have u:=Bv cs (0*n) 0 a.toList (by simp [d,f]);rw [← Array.foldl_toList];have ma:(Value.agg ⟨cs⟩).cells.zipIdx.toList=cs.zipIdx 0:=by simp [Value.cells]
  rw [ma];refine u.trans ?_;rw [List.drop_eq_nil_of_le (by simp [d,f])];simp
 have za:(#[(0,x)].map fun (i,x)=>(i,(F fr ds).eval x)).toList=[(0,Value.agg ⟨cs⟩)]:=by simp [l ds]
 unfold execOp;simp only [Instr.buildSlice,Sem.run_bind,run_underlying k,Result.andThen_ok,q,if_neg r,za,if_neg s,Sem.run_pure,p];rw [t _ (by simp)];simp [newRow]
end
theorem Sep.gf {S Ud:Nat→Prop}{J w:World}{rs ld:List yc}{A:World→Prop}{k:Nat}{r:yc}(h:Sep S Ud J w (rs.set k r) A) (a:Xc rs k r ld):Sep S Ud J w ld A:=by
 unfold Xc at a;rw [← a];exact h
theorem Sep.drew {S Ud:Nat→Prop}{J w w':World}{rs:List yc}{A:World→Prop}(h:Sep S Ud J w rs A) (a:w'.heap=w.heap) (b:w'.os=w.os) (c:w'.tape=w.tape) (hu:w'.output=w.output):Sep S Ud J w' rs A :=
 h.grow ⟨b,c,hu,by rw [a];exact Nat.le_refl _,fun k _ _=>by rw [a]⟩
section
variable {P:Program}{Q:Exit→Act→World→Prop}{K:List Value→List Deferred→World→Prop}{fr db:List Value}{ds:List Deferred}{w:World}
variable {dst:Option Tmp}{ty:TypeId}{pos:String}{after:Array Edge}{g:Option (Nat×Bool)}
variable {T:TypeId}
theorem ny (a b:ByteArray):(a == b)=true ↔ a=b:=by
 obtain ⟨x⟩:=a;obtain ⟨y⟩:=b;constructor
 ·intro h;have e:x=y:=by simpa using (show (x == y)=true from h)
  rw [e]
 ·intro h;cases h;show (x == x)=true;simp
structure ov (P:Program) (m:Nat) (T:TypeId) (v a:Value) (b:Bool):Prop where
 out:∀ d w,m≤d→(Op.equalIn d T v a).run P w=.ok b w
theorem eq_int {k c:IntKind}{a b:Int}(hu:P.underlying T=some (.int k)):ov P 1 T (.int c a) (.int c b) (decide (a=b)):=⟨fun d w Ba=>by
 cases d with
 | zero=>omega
 | succ d=>simp [Op.equalIn,run_underlying hu]; by_cases h:a=b <;> simp [h]⟩
theorem hC {a b:List UInt8}(hu:P.underlying T=some .string):ov P 1 T (S a) (S b) (decide (a=b)):=⟨fun d w Ba=>by
 cases d with
 | zero=>omega
 | succ d =>
  simp only [Op.equalIn,run_underlying hu,S,Sem.run_bind,Result.andThen_ok,Sem.run_pure];congr 1;rw [Bool.eq_iff_iff,ny];simp⟩
def yi:List Bool→Bool
 | []=>true
 | [b]=>b
 | b::a=>b && yi a
theorem mw (b:Bool) (a:List Bool):yi (b::a)=(b && yi a):=by cases a<;>simp [yi]
inductive Ch (P:Program) (m:Nat) (xs ys:List Value):List Field→List Bool→Prop where
 | z:Ch P m xs ys [] []
 | o {f : Field} {a : List Field} {v e : Value} {b : Bool} {c : List Bool} {T : TypeId} {off : Nat} {ae : List Value} {n k : Nat} (g : (f.name == "_") = false) (h : f.type = T) (i : f.offset = off) (j : Dd P T false ae n k) (l : Pc xs off v) (p : Pc ys off e) (he : ov P m T v e b) (t : Ch P m xs ys a c) : Ch P m xs ys (f :: a) (b :: c)
 | n {f : Field} {a : List Field} {vs d : List Value} {b : Bool} {c : List Bool} {T : TypeId} {off : Nat} {ae : List Value} {n k : Nat} (g : (f.name == "_") = false) (h : f.type = T) (i : f.offset = off) (j : Dd P T true ae n k) (l : Fb xs off vs) (p : Fb ys off d) (za : vs.length = n) (q : d.length = n) (he : ov P m T (.agg ⟨vs⟩) (.agg ⟨d⟩) b) (t : Ch P m xs ys a c) : Ch P m xs ys (f :: a) (b :: c)
structure Cn (P:Program) (T:TypeId) (a:List Field):Prop where
 qz:P.underlying T=some (.struct ⟨a⟩)
 held:P.stoodInHeld T=false
 guard:P.eqGuardType P.depth T=false
theorem MA {ae:List Value}{n k off:Nat}{xs:List Value}{v:Value}(b:Dd P T false ae n k) (a:Pc xs off v):(part T ⟨xs⟩ off).run P w=.ok v w:=by
 unfold Pc at a;simp [part,b.isAgg,a]
theorem Fb.extract {cs vs:List Value}{o:Nat}(h:Fb cs o vs):(cs.drop o).take vs.length=vs:=by
 induction h with
 | z=>simp
 | @s o v vs a t b =>
  unfold Pc at a;have c:o<cs.length:=(List.getElem?_eq_some_iff.1 a).1;rw [List.drop_eq_getElem_cons c,(List.getElem?_eq_some_iff.1 a).2];simp [b]
theorem NA {ae:List Value}{n k off:Nat}{xs vs:List Value}(a:Dd P T true ae n k) (b:Fb xs off vs) (c:vs.length=n):(part T ⟨xs⟩ off).run P w=.ok (.agg ⟨vs⟩) w:=by
 have:=b.extract;rw [c] at this;simp [part,a.isAgg,a.sizeOf,this]
theorem Ch.run {m:Nat}{xs ys:List Value}{e:List Field}{g:List Bool}(h:Ch P m xs ys e g) (d:Nat) (Ba:m≤d) :
  (forIn (⟨e⟩ : Array Field) ((none, ()) : Option Bool × Unit) (fun f _ => (if f.name ≠ "_" then do
     if !(← Op.equalIn d f.type (← part f.type ⟨xs⟩ f.offset) (← part f.type ⟨ys⟩ f.offset)) then pure (ForInStep.done (some false,())) else pure (ForInStep.yield (none,()))
    else pure (ForInStep.yield (none,())):Sem (ForInStep (Option Bool×Unit))))).run P w=.ok (if yi g then (none,()) else (some false,())) w:=by
 induction h with
 | z=>simp [yi]
 | @o f e v u b g T off ae n k i j l a p q he t c =>
  subst j; subst l;have r : f.name ≠ "_" := by simpa using i
  simp only [List.forIn_toArray] at c ⊢;rw [List.forIn_cons];simp only [ne_eq,r,not_false_eq_true,if_true,Sem.run_bind,MA a p,MA a q,Result.andThen_ok,he.out d w Ba];cases b with
  | true=>simpa [mw] using c
  | false=>simp [mw]
 | @n f e vs x b g T off ae n k i j l a p q za s he t c =>
  subst j; subst l;have r : f.name ≠ "_" := by simpa using i
  simp only [List.forIn_toArray] at c ⊢;rw [List.forIn_cons];simp only [ne_eq,r,not_false_eq_true,if_true,Sem.run_bind,NA a p za,NA a q s,Result.andThen_ok,he.out d w Ba];cases b with
  | true=>simpa [mw] using c
  | false=>simp [mw]
theorem iC {m:Nat}{xs ys:List Value}{b:List Field}{a:List Bool}(c:Cn P T b) (h:Ch P m xs ys b a):ov P (m+1) T (.agg ⟨xs⟩) (.agg ⟨ys⟩) (yi a):=⟨fun d w Ba=>by
 cases d with
 | zero=>omega
 | succ d =>
  have:=h.run (w:=w) d (by omega);simp only [Op.equalIn,Sem.run_bind,run_underlying c.qz,Result.andThen_ok];rw [show (program).run P w=.ok P w from rfl];simp only [Result.andThen_ok,c.held,Bool.false_eq_true,if_false,Sem.run_bind];rw [this];cases yi a<;>rfl⟩
def RC (v:Value) (n:Nat):Prop:=∃ a c,v=.slice a n c
theorem Ii {x:Operand}{t e:TypeId}{v:Value}{n:Nat}(b:P.underlying t=some (.slice e)) (d:cc fr x v) (f:RC v n):hg P (Oper.mk dst (.call { callee:=.builtin .len,args:=#[x],argTypes:=#[t] }) ty pos after g) fr ((.int .i64 n)):=by
 obtain ⟨a,c,rfl⟩:=f;exact Ed b d
theorem Row.Ki {v:Value}{sz n:Nat}{xs:List Value}(h:Row w v T sz n xs):RC v n:=by
 rcases h.2 with ⟨rfl,rfl⟩ | ⟨g,o,cap,cur,rfl,-⟩
 ·exact ⟨_,_,rfl⟩
 ·exact ⟨_,_,rfl⟩
theorem Row.Wt {v:Value}{sz n:Nat}{xs:List Value}(h:Row w v T sz n xs) (f:0<n):∃ b o c,v=.slice (some ⟨b,o,none⟩) n c∧tj w b o xs:=by
 rcases h.2 with ⟨rfl,rfl⟩ | ⟨g,o,cap,cur,rfl,d,i,k,l,e⟩
 ·omega
 ·refine ⟨g,o,cap,rfl,fun j u a=>?_⟩;rw [cell_of_row w g (o+j) cur T (0,0) d];rw [← e,List.getElem?_take] at a;split at a
  ·rw [List.getElem?_drop] at a;simpa using a
  ·cases a
end
section
variable {P:Program}{Q:Exit→Act→World→Prop}{K:List Value→List Deferred→World→Prop}{fr db:List Value}{ds:List Deferred}{w:World}
variable {dst:Option Tmp}{ty:TypeId}{pos:String}{after:Array Edge}{g:Option (Nat×Bool)}
variable {T:TypeId}
theorem OA {a:List Field}{op:BinOp}{x y:Operand}{xs ys:Array Value}(b:Cn P T a):(eqGuard op T x y (.agg xs) (.agg ys)).run P w=.ok () w:=by
 have c:(program).run P w=.ok P w:=rfl;cases op<;>simp [eqGuard,c,b.guard]
theorem TH {x y:Operand}{Rd:TypeId}{m:Nat}{xs ys:List Value}{a:List Field}{b:List Bool}(c:Cn P T a) (d:cc fr x (.agg ⟨xs⟩)) (e:cc fr y (.agg ⟨ys⟩)) (h:Ch P m xs ys a b) (hm:(decide (m<1000))=true) :
  hg P (Oper.mk dst (.binOp .eql T x y Rd) ty pos after g) fr (.bool (yi b)):=⟨fun ds w=>by
 have f:=d ds;have i:=e ds;have j:=(iC c h).out Op.maxDepth w (by have:=of_decide_eq_true hm;unfold Op.maxDepth;omega);have k:=OA (w:=w) (op:=.eql) (x:=x) (y:=y) (xs:=⟨xs⟩) (ys:=⟨ys⟩) c;simp [execOp,f,i,k,binOp,Op.equal,j]⟩
theorem Rw {x y:Operand}{Rd:TypeId}{m:Nat}{xs ys:List Value}{a:List Field}{b:List Bool}(c:Cn P T a) (d:cc fr x (.agg ⟨xs⟩)) (e:cc fr y (.agg ⟨ys⟩)) (h:Ch P m xs ys a b) (hm:(decide (m<1000))=true) :
  hg P (Oper.mk dst (.binOp .neq T x y Rd) ty pos after g) fr (.bool (!yi b)):=⟨fun ds w=>by
 have f:=d ds;have i:=e ds;have j:=(iC c h).out Op.maxDepth w (by have:=of_decide_eq_true hm;unfold Op.maxDepth;omega);have k:=OA (w:=w) (op:=.neq) (x:=x) (y:=y) (xs:=⟨xs⟩) (ys:=⟨ys⟩) c;simp [execOp,f,i,k,binOp,Op.equal,j]⟩
theorem UH {x y:Operand}{Rd:TypeId}{m:Nat}{xs ys:List Value}{a:List Field}{b:List Bool}(c:Cn P T a) (d:cc fr x (.agg ⟨xs⟩)) (e:cc fr y (.agg ⟨ys⟩)) (he:Ch P m xs ys a b) (hm:(decide (m<1000))=true)
  (f:Hg fr dst (.bool (yi b)) db) (h:K db ds w):lf P (Oper.mk dst (.binOp .eql T x y Rd) ty pos after g) fr ds w K Q:=Ea (TH c d e he hm) f h
theorem VH {x y:Operand}{Rd:TypeId}{m:Nat}{xs ys:List Value}{a:List Field}{b:List Bool}(c:Cn P T a) (d:cc fr x (.agg ⟨xs⟩)) (e:cc fr y (.agg ⟨ys⟩)) (he:Ch P m xs ys a b) (hm:(decide (m<1000))=true)
  (f:Hg fr dst (.bool (!yi b)) db) (h:K db ds w):lf P (Oper.mk dst (.binOp .neq T x y Rd) ty pos after g) fr ds w K Q:=Ea (Rw c d e he hm) f h
end
section
variable {P:Program}{Q:Exit→Act→World→Prop}{K:List Value→List Deferred→World→Prop}{fr db:List Value}{ds:List Deferred}{w:World}
variable {dst:Option Tmp}{ty:TypeId}{pos:String}{after:Array Edge}{g:Option (Nat×Bool)}
variable {S Ud:Nat→Prop}{J:World}{rs ld:List yc}{A:World→Prop}
variable {T:TypeId}
theorem pG {x:Operand}{l:List UInt8}(a:P.underlying T=some .string) (c:cc fr x (pc.S l)) (d:Sep S Ud J w rs A)
  (h:∀ b w',w.heap.size≤b→Sep S Ud J w' (.Dp b ⟨⟨l⟩⟩ 0::rs) A→yh fr dst (.pointer (some ⟨b,0,none⟩)) fun db=>K db ds w'):lf P (Oper.mk dst (.range T x) ty pos after g) fr ds w K Q:=by
 obtain ⟨db,Ba⟩:=Ji fr dst (.pointer (some ⟨w.heap.size,0,none⟩));refine mi (v:=.pointer (some ⟨w.heap.size,0,none⟩)) (w':=w.alloc (.stringIter ⟨⟨l⟩⟩ 0)) ?_ Ba (h _ _ (Nat.le_refl _) (d.alloc rfl (heap_alloc_new w _)) db Ba);simp [execOp,c ds,pc.S,Instr.range,run_underlying a]
theorem PG {x:Operand}{l:List UInt8}{b p k:Nat}(d:cc fr x (.pointer (some ⟨b,0,none⟩))) (e:Sep S Ud J w rs A) (za:Pc rs k (.Dp b ⟨⟨l⟩⟩ p))
  (f:p<l.length→∀ w' ld,Xc rs k (.Dp b ⟨⟨l⟩⟩ (p+(Utf8.decode ⟨⟨l⟩⟩ p).2)) ld→Sep S Ud J w' ld A→yh fr dst (.tuple #[.bool true,.int .i64 (p:Nat),.int .i32 (Utf8.decode ⟨⟨l⟩⟩ p).1]) fun db=>K db ds w')
  (i:¬ p<l.length→yh fr dst (.tuple #[.bool false]) fun db=>K db ds w):lf P (Oper.mk dst (.next x true) ty pos after g) fr ds w K Q:=by
 have a:w.heap[b]?=some (.stringIter ⟨⟨l⟩⟩ p):=e.get za;have m:b<w.heap.size:=(Array.getElem?_eq_some_iff.1 a).1;by_cases h:p<l.length
 ·have c:p<(⟨⟨l⟩⟩:ByteArray).size:=h
  let w':World:={ w with heap:=w.heap.setIfInBounds b (.stringIter ⟨⟨l⟩⟩ (p+(Utf8.decode ⟨⟨l⟩⟩ p).2)) }
  have n:Zh (fun k=>k≠b) w w':=⟨rfl,rfl,rfl,by simp [w'],fun j _ o=>by simp [w',Array.getElem?_setIfInBounds,Ne.symm o]⟩;obtain ⟨db,Ba⟩:=Ji fr dst (.tuple #[.bool true,.int .i64 (p:Nat),.int .i32 (Utf8.decode ⟨⟨l⟩⟩ p).1]);refine mi (w':=w') ?_ Ba (f h w' _ rfl (e.put (b:=b) za rfl rfl rfl (by show w'.heap[b]?=_;simp [w',m]) n) db Ba);simp [execOp,d ds,Instr.next,getObj,setObj,Sem.run,a,c,goInt,Result.andThen,w']
 ·have c:¬ p<(⟨⟨l⟩⟩:ByteArray).size:=h;obtain ⟨db,Ba⟩:=Ji fr dst (.tuple #[.bool false]);refine mi (w':=w) ?_ Ba (i h db Ba);simp [execOp,d ds,Instr.next,getObj,Sem.run,a,c,Result.andThen]
end
end Go.pc
namespace Go.pc
open Go.RowKit
theorem lu {α β:Type}{f g:α→β}{xs:Array α}(h:∀ x ∈ xs,f x=g x):xs.map f=xs.map g:=Array.map_congr_left h
def vr:Op→Bool
 | .select _ _=>false
 | _=>true
theorem execOp_congr {f g:Operand→Value}(o:Oper) (q:vr o.op=true) (h:∀ x ∈ o.op.operands,f x=g x):execOp f o=execOp g o:=by
 obtain ⟨dst,op,ty,pos,after,z⟩:=o;have d:∀ c:Call,(∀ x ∈ c.operands,f x=g x)→resolve f c ty=resolve g c ty:=by
  intro c d;have s:c.args.map f=c.args.map g:=lu fun x e=>d x (by simp [Call.operands,e]);unfold resolve;rw [s];obtain ⟨callee,args,tys⟩:=c;cases callee with
  | value x=>simp only; rw [d x (by simp [Call.operands])]
  | invoke x m=>simp only; rw [d x (by simp [Call.operands])]
  | builtin b=>rfl
 cases op<;>simp only [Op.operands,List.mem_toArray,List.mem_cons,List.not_mem_nil,or_false,forall_eq_or_imp,forall_eq,Array.mem_append,List.mem_map] at h<;>simp only [execOp]
 case build t qh =>
  have:(qh.map fun (i,x)=>(i,f x))=qh.map fun (i,x)=>(i,g x):=lu fun p j=>by simp only;rw [h p.2 ⟨p,by simpa using j,rfl⟩]
  rw [this]
 case buildSlice t n qh =>
  have:(qh.map fun (i,x)=>(i,f x))=qh.map fun (i,x)=>(i,g x):=lu fun p j=>by simp only;rw [h p.2 ⟨p,by simpa using j,rfl⟩]
  rw [this]
 case makeFunc fn a b =>
  rw [lu (f:=f) (g:=g) (xs:=a) fun x e=>h x (.inl e),lu (f:=f) (g:=g) (xs:=b) fun x e=>h x (.inr e)]
 case makeMap t r=>cases r with
  | none=>rfl
  | some x=>simp only [Option.map]; rw [h x (by simp)]
 case slice t x ri k l =>
  have e:=h x (by simp);have u:ri.map f=ri.map g:=by cases ri with
   | none=>rfl
   | some y=>simp only [Option.map]; rw [h y (by simp)]
  have v:k.map f=k.map g:=by cases k with
   | none=>rfl
   | some y=>simp only [Option.map]; rw [h y (by simp)]
  have w:l.map f=l.map g:=by cases l with
   | none=>rfl
   | some y=>simp only [Option.map]; rw [h y (by simp)]
  rw [e,u,v,w]
 case call c=>rw [d c h]
 case go c=>rw [d c h]
 case defer c=>rw [d c h]
 case select cs b=>exact absurd q (by simp [vr])
 all_goals (try (simp only [h]))
def Ol (ops:Array Oper) (i:Nat):List Nat:=match ops[i]? with
 | some o=>(o.after.toList.filter (Region.binds .any)).map (·.on)
 | none=>[]
def enabled (ops:Array Oper) (R:List Nat) (i:Nat):Bool:=R.contains i && (Ol ops i).all fun j=>!R.contains j
inductive Il (ops:Array Oper):List Nat→List Nat→Prop where
 | z:Il ops [] []
 | s {R a:List Nat} {i:Nat} (h:enabled ops R i=true) (t:Il ops (R.erase i) a):Il ops R (i::a)
theorem Bs {ops:Array Oper}{R:List Nat}{i:Nat}(h:enabled ops R i=true):i ∈ R:=by
 simp only [enabled,Bool.and_eq_true,List.contains_iff_mem] at h;exact h.1
theorem Qz {ops:Array Oper}{R:List Nat}{i j:Nat}(h:enabled ops R i=true) (a:j ∈ Ol ops i):j ∉ R:=by
 simp only [enabled,Bool.and_eq_true,List.all_eq_true] at h;have:=h.2 j a;simpa using this
def left (n:Nat) (listed:Array Bool):List Nat:=(List.range n).filter fun i=>!listed.getD i true
theorem sE (n:Nat) (listed:Array Bool):(left n listed).Nodup:=List.nodup_range.filter _
theorem gB {n:Nat}{listed:Array Bool}(c:listed.size=n){i:Nat}(d:i ∈ left n listed):left n (listed.setIfInBounds i true)=(left n listed).erase i:=by
 rw [(sE n listed).erase_eq_filter];unfold left;rw [List.filter_filter];apply List.filter_congr;intro j a;have f:j<n:=List.mem_range.1 a;have b:j<listed.size:=by omega
 simp only [Array.getD_eq_getD_getElem?,Array.getElem?_setIfInBounds];by_cases e:i=j
 ·subst e;simp [b]
 ·simp [e,Ne.symm e]
theorem jC {ops:Array Oper}{n:Nat}(a:(List.range n).all (fun i=>(Ol ops i).all fun j=>decide (j<i))=true){i j:Nat}(b:i<n) (c:j ∈ Ol ops i):j<i:=by
 simp only [List.all_eq_true,List.mem_range,decide_eq_true_eq] at a;exact a i b j c
theorem kC {ops:Array Oper}(q:(List.range ops.size).all (fun i=>(Ol ops i).all fun j=>decide (j<i))=true) :
  ∀ (fuel t:Nat) (listed:Array Bool) (acc:List Nat),listed.size=ops.size→(left ops.size listed).length≤fuel→∃ n,Region.linearise.go .any ops fuel t listed acc=acc.reverse++n∧Il ops (left ops.size listed) n
 | 0,t,listed,acc,o,w=>by
  have f:left ops.size listed=[]:=List.eq_nil_of_length_eq_zero (by omega);exact ⟨[],by simp [Region.linearise.go],by rw [f];exact .z⟩
 | fuel+1,t,listed,acc,o,w=>by
  rw [Region.linearise.go];generalize y:(List.filter (fun i=>!listed.getD i true && (Option.map (fun x=>x.after.all fun e=>!Region.binds .any e || listed.getD e.on false) ops[i]?).getD false) (List.range ops.size))=rs;have r:∀ i,i ∈ rs ↔ enabled ops (left ops.size listed) i=true:=by
   intro i;rw [← y];simp only [List.mem_filter,List.mem_range,Bool.and_eq_true,enabled,List.contains_iff_mem,left,Ol];constructor
   ·rintro ⟨b,g,d⟩;refine ⟨⟨b,g⟩,?_⟩;rw [Array.getElem?_eq_getElem b] at d ⊢;simp only [Option.map_some,Option.getD_some,Array.all_eq_true',Bool.or_eq_true,Bool.not_eq_true'] at d;simp only [List.all_eq_true,List.mem_map,List.mem_filter,forall_exists_index,and_imp];rintro j e he k rfl;have:=d e (by simpa using he);rcases this with h | h
    ·rw [h] at k;cases k
    ·simp only [Bool.not_eq_true',List.contains_eq_mem,decide_eq_false_iff_not,List.mem_filter,List.mem_range,not_and,Bool.not_eq_true,Bool.not_eq_false];intro p;have u:e.on<listed.size:=by omega
     simp only [Array.getD,u,dif_pos] at h ⊢;exact h
   ·rintro ⟨⟨b,g⟩,d⟩;refine ⟨b,g,?_⟩;rw [Array.getElem?_eq_getElem b] at d ⊢;simp only [Option.map_some,Option.getD_some,Array.all_eq_true',Bool.or_eq_true,Bool.not_eq_true'];simp only [List.all_eq_true,List.mem_map,List.mem_filter,forall_exists_index,and_imp] at d;intro e he;cases k:Region.binds .any e with
    | false=>exact .inl rfl
    | true =>
     right;have:=d e.on e (by simpa using he) k rfl;simp only [Bool.not_eq_true',List.contains_eq_mem,decide_eq_false_iff_not,List.mem_filter,List.mem_range,not_and,Bool.not_eq_true,Bool.not_eq_false] at this;have p:e.on<i:=jC q b (by
      unfold Ol;rw [Array.getElem?_eq_getElem b];simp only [List.mem_map,List.mem_filter];exact ⟨e,⟨by simpa using he,k⟩,rfl⟩)
     have v:=this (by omega);have u:e.on<listed.size:=by omega
     simp only [Array.getD,u,dif_pos] at v ⊢;exact v
  by_cases f:left ops.size listed=[]
  ·have A:rs=[]:=by
    rw [List.eq_nil_iff_forall_not_mem];intro i c;have:=Bs ((r i).1 c);rw [f] at this;cases this
   rw [A];simp only [List.length_nil,Nat.mod_zero,List.getElem?_nil];exact ⟨[],by simp,by rw [f];exact .z⟩
  ·-- the least of what is left may be next
   have B:0<rs.length:=by
    obtain ⟨i,c,C⟩:∃ i,i ∈ left ops.size listed∧∀ j,j<i→j ∉ left ops.size listed:=by
     obtain ⟨a,D⟩:=List.exists_mem_of_ne_nil _ f
     induction a using Nat.strongRecOn with
     | _ a E =>
      by_cases hex:∃ j,j<a∧j ∈ left ops.size listed
      ·obtain ⟨j,l,F⟩:=hex;exact E j l F
      ·exact ⟨a,D,fun j l hm=>hex ⟨j,l,hm⟩⟩
    have m:enabled ops (left ops.size listed) i=true:=by
     simp only [enabled,Bool.and_eq_true,List.contains_iff_mem,List.all_eq_true];refine ⟨c,fun j l=>?_⟩;have:=C j (jC q (List.mem_range.1 (List.mem_filter.1 c).1) l);simpa using this
    exact List.length_pos_of_mem ((r i).2 m)
   have p:t % rs.length<rs.length:=Nat.mod_lt _ B;rw [List.getElem?_eq_getElem p];simp only;have m:=(r _).1 (List.getElem_mem p);generalize rs[t % rs.length]=i at m ⊢;have c:=Bs m;obtain ⟨n,b,g⟩:=kC q fuel (t / rs.length) (listed.setIfInBounds i true) (i::acc) (by simpa using o) (by
    rw [gB o c,List.length_erase_of_mem c];omega)
   refine ⟨i::n,?_,.s m ?_⟩
   ·rw [b];simp
   ·rw [← gB o c];exact g
theorem vD {ops:Array Oper}(b:(List.range ops.size).all (fun i=>(Ol ops i).all fun j=>decide (j<i))=true) (t:Nat):Il ops (List.range ops.size) (Region.linearise .any ops t):=by
 have za:left ops.size (Array.replicate ops.size false)=List.range ops.size:=by
  unfold left;rw [List.filter_eq_self];intro i c;have:=List.mem_range.1 c;simp [Array.getD,this]
 obtain ⟨e,d,a⟩:=kC b ops.size t (Array.replicate ops.size false) [] (by simp) (by rw [za];simp);unfold Region.linearise;rw [d];rw [za] at a;simpa using a
def pr:Operand→Option Nat
 | .tmp t=>some t
 | _=>none
def reads (ops:Array Oper) (o:Oper):List Nat :=
 o.op.operands.toList.filterMap pr++(match o.guard with
  | some (j,_)=>((ops[j]?).bind (·.dst)).toList
  | none=>[])
section
variable {P:Program}{α β:Type}
end
section
variable {P:Program}{Q:Exit→Act→World→Prop}{ops:Array Oper}{fr db:List Value}{ds:List Deferred}{w:World}
theorem hB {fr:List Value}{ds ds':List Deferred}{d:Nat}{v:Value}{x:Operand}(h:pr x≠some d):(F (fr.set d v) ds).eval x=(F fr ds').eval x:=by
 cases x with
 | tmp t =>
  have:d≠t:=fun e=>h (by simp [pr,e]);simp [F,Act.eval,List.getElem?_set_ne this]
 | const v=>rfl
 | global g=>rfl
 | func f=>rfl
theorem iB {o:Oper}{d:Nat}(h:(reads ops o).contains d=false):∀ x ∈ o.op.operands,pr x≠some d:=by
 intro x a e;have:d ∈ reads ops o:=by
  unfold reads;exact List.mem_append.2 (.inl (List.mem_filterMap.2 ⟨x,by simpa using a,e⟩))
 rw [List.contains_iff_mem.2 this] at h;cases h
theorem jB {o:Oper}{d:Nat}{v:Value}{ds':List Deferred}(a:vr o.op=true) (h:(reads ops o).contains d=false):execOp (F (fr.set d v) ds).eval o=execOp (F fr ds').eval o :=
 execOp_congr o a fun x b=>hB (iB h x b)
theorem tE {o:Oper}{d:Nat}{v:Value}{ds':List Deferred}(h:(reads ops o).contains d=false):Region.wanted o (yielded ops (F (fr.set d v) ds).tmps)=Region.wanted o (yielded ops (F fr ds').tmps):=by
 unfold Region.wanted;cases a:o.guard with
 | none=>rfl
 | some Ti =>
  obtain ⟨j,b⟩:=Ti;simp only;congr 1;unfold yielded;cases c:(ops[j]?).bind (·.dst) with
  | none=>rfl
  | some e =>
   have f:d≠e:=by
    intro he;have:d ∈ reads ops o:=by
     unfold reads;rw [a];exact List.mem_append.2 (.inr (by simp only;rw [c];simp [he]))
    rw [List.contains_iff_mem.2 this] at h;cases h
   simp [F,List.getElem?_set_ne f]
theorem put_eq (fr:List Value) (ds:List Deferred) (dst:Option Tmp) (x:Value):∃ g:List Value→List Value,(∀ fr ds,(F fr ds).put dst x=F (g fr) ds)∧(∀ (fr:List Value) (d:Nat) (v:Value),dst≠some d→g (fr.set d v)=(g fr).set d v)∧(∀ (fr:List Value) (y:Operand) (ds ds':List Deferred),(∀ e,dst=some e→pr y≠some e)→(F (g fr) ds).eval y=(F fr ds').eval y):=by
 cases dst with
 | none=>exact ⟨id,fun _ _=>rfl,fun _ _ _ _=>rfl,fun fr y ds ds' _=>by cases y <;> rfl⟩
 | some n =>
  refine ⟨fun fr=>fr.set n x,fun fr ds=>ka rfl ds,fun fr d v h=>?_,fun fr y ds ds' h=>hB (h n rfl)⟩;have:d≠n:=fun e=>h (by rw [e]);exact List.set_comm _ _ this
def fl (Q:Exit→Act→World→Prop):Prop:=∀ b a c w,a.defers=c.defers→Q (.panic b) a w→Q (.panic b) c w
structure yz (P:Program) (ops:Array Oper) (Q:Exit→Act→World→Prop) (R:List Nat) (fr:List Value) (ds:List Deferred) (w:World):Prop where
 out:∀ a,Il ops R a→wpOps P ops Q a (F fr ds) w
theorem WH {id:Nat}{l:List Oper}(hm:P.follows .mixedOrders=true) (a:(List.range l.toArray.size).all (fun i=>(Ol l.toArray i).all fun j=>decide (j<i))=true)
  (h:∀ w',w'.heap=w.heap→w'.os=w.os→w'.tape=w.tape→w'.output=w.output→yz P l.toArray Q (List.range l.length) fr ds w'):ef P (.region id l.toArray true) Q fr ds w:=by
 constructor;refine wp_region_draw fun t=>?_;have b:Region.schedule (P.follows .mixedOrders) l.toArray t=Region.linearise .any l.toArray t:=by
  unfold Region.schedule;rw [hm];rfl
 rw [b];have za:=vD a t;have:=(h { w with drawn:=w.drawn+1 } rfl rfl rfl rfl).out _ (by simpa using za);exact this
def Wy (ops:Array Oper) (R:List Nat):List Nat:=R.filter (enabled ops R)
theorem Il.split {R l:List Nat}(h:Il ops R l) (n:R.Nodup){i:Nat}(o:i ∈ R) (p:enabled ops R i=true) :
  ∃ f m,l=f++i::m∧Il ops (R.erase i) (f++m)∧∀ j ∈ f,j ∈ R∧j≠i∧i ∉ Ol ops j:=by
 induction h with
 | z=>cases o
 | @s R l k g t r =>
  by_cases e:k=i
  ·subst e;exact ⟨[],l,rfl,t,by simp⟩
  ·have q:i ∈ R.erase k:=(n.mem_erase_iff).2 ⟨fun h=>e h.symm,o⟩;have u:enabled ops (R.erase k) i=true:=by
    simp only [enabled,Bool.and_eq_true,List.contains_iff_mem,List.all_eq_true] at p ⊢;refine ⟨q,fun j d=>?_⟩;have:=p.2 j d;simp only [Bool.not_eq_true',List.contains_eq_mem,decide_eq_false_iff_not] at this ⊢;exact fun hm=>this (List.mem_of_mem_erase hm)
   obtain ⟨f,m,v,w,x⟩:=r (n.erase k) q u;refine ⟨k::f,m,by rw [v];rfl,?_,?_⟩
   ·refine .s ?_ (by rw [List.erase_comm];exact w);simp only [enabled,Bool.and_eq_true,List.contains_iff_mem,List.all_eq_true] at g ⊢;refine ⟨(n.mem_erase_iff).2 ⟨e,g.1⟩,fun j d=>?_⟩;have:=g.2 j d;simp only [Bool.not_eq_true',List.contains_eq_mem,decide_eq_false_iff_not] at this ⊢;exact fun hm=>this (List.mem_of_mem_erase hm)
   ·intro j d;rcases List.mem_cons.1 d with rfl | d
    ·exact ⟨Bs g,e,fun Ba=>Qz g Ba o⟩
    ·obtain ⟨a,b,c⟩:=x j d;exact ⟨List.mem_of_mem_erase a,b,c⟩
theorem Ej (h:∀ b a w,Q (.panic b) a w→False):fl Q:=fun b a _ w _ c=>(h b a w c).elim
end
end Go.pc
