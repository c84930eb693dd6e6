/- Texts of Wk. -/
import Derived.Tactics
import Derived.Defers
import Derived.Recover
import Derived.Lib.Strings
import Derived.Laws.Append
import Derived.Below
import Derived.Laws.AppendOwn
set_option linter.unusedSimpArgs false
set_option linter.unusedVariables false
set_option linter.unusedSectionVars false
namespace Go.Mc
open Go.RowKit
def fc {α:Type}(l:List α) (n:Nat) (v:α):Prop:=l[n]?=some v
def Zb {α:Type}(l:List α) (n:Nat) (v:α) (Ba:List α):Prop:=l.set n v=Ba
theorem d0 {α:Type}{v:α}{l:List α}:fc (v::l) 0 v:=rfl
theorem za {α:Type}{x v:α}{l:List α}:Zb (x::l) 0 v (v::l):=rfl
theorem d1 {α:Type}{a:α}{v:α}{l:List α}:fc (a::v::l) 1 v:=rfl
theorem ob {α:Type}{a:α}{x v:α}{l:List α}:Zb (a::x::l) 1 v (a::v::l):=rfl
theorem d2 {α:Type}{a oa:α}{v:α}{l:List α}:fc (a::oa::v::l) 2 v:=rfl
theorem Eb {α:Type}{a oa:α}{x v:α}{l:List α}:Zb (a::oa::x::l) 2 v (a::oa::v::l):=rfl
theorem d3 {α:Type}{a oa b:α}{v:α}{l:List α}:fc (a::oa::b::v::l) 3 v:=rfl
theorem nc {α:Type}{a oa b:α}{x v:α}{l:List α}:Zb (a::oa::b::x::l) 3 v (a::oa::b::v::l):=rfl
theorem d4 {α:Type}{a oa b c:α}{v:α}{l:List α}:fc (a::oa::b::c::v::l) 4 v:=rfl
theorem Xc {α:Type}{a oa b c:α}{x v:α}{l:List α}:Zb (a::oa::b::c::x::l) 4 v (a::oa::b::c::v::l):=rfl
theorem d5 {α:Type}{a oa b c d:α}{v:α}{l:List α}:fc (a::oa::b::c::d::v::l) 5 v:=rfl
theorem qd {α:Type}{a oa b c d:α}{x v:α}{l:List α}:Zb (a::oa::b::c::d::x::l) 5 v (a::oa::b::c::d::v::l):=rfl
theorem d6 {α:Type}{a oa b c d a5:α}{v:α}{l:List α}:fc (a::oa::b::c::d::a5::v::l) 6 v:=rfl
theorem Vd {α:Type}{a oa b c d a5:α}{x v:α}{l:List α}:Zb (a::oa::b::c::d::a5::x::l) 6 v (a::oa::b::c::d::a5::v::l):=rfl
theorem d7 {α:Type}{a oa b c d a5 zb:α}{v:α}{l:List α}:fc (a::oa::b::c::d::a5::zb::v::l) 7 v:=rfl
theorem Wd {α:Type}{a oa b c d a5 zb:α}{x v:α}{l:List α}:Zb (a::oa::b::c::d::a5::zb::x::l) 7 v (a::oa::b::c::d::a5::zb::v::l):=rfl
theorem d8 {α:Type}{a oa b c d a5 zb Cb:α}{v:α}{l:List α}:fc (a::oa::b::c::d::a5::zb::Cb::v::l) 8 v:=rfl
theorem Qd {α:Type}{a oa b c d a5 zb Cb:α}{x v:α}{l:List α}:Zb (a::oa::b::c::d::a5::zb::Cb::x::l) 8 v (a::oa::b::c::d::a5::zb::Cb::v::l):=rfl
theorem d9 {α:Type}{a oa b c d a5 zb Cb lb:α}{v:α}{l:List α}:fc (a::oa::b::c::d::a5::zb::Cb::lb::v::l) 9 v:=rfl
theorem Td {α:Type}{a oa b c d a5 zb Cb lb:α}{x v:α}{l:List α}:Zb (a::oa::b::c::d::a5::zb::Cb::lb::x::l) 9 v (a::oa::b::c::d::a5::zb::Cb::lb::v::l):=rfl
def F (fr:List Value) (ds:List Deferred):Act:=⟨⟨fr⟩,ds⟩
def ab (fr:List Value) (x:Operand) (v:Value):Prop:=∀ ds,(F fr ds).eval x=v
theorem ba {fr:List Value}{n:Nat}{v:Value}(h:fc fr n v):ab fr (.tmp n) v:=by
 intro ds;unfold fc at h;simp [F,Act.eval,h]
theorem db {fr:List Value}{v:Value}:ab fr (.const v) v:=λ_=>rfl
variable {c W:Nat}
theorem yc {fr:List Value}:ab fr (.func c) (.func (.func c) #[] #[]):=λ_=>rfl
def Bf (fr:List Value) (dst:Option Tmp) (v:Value) (Aa:List Value):Prop:=∀ ds,(F fr ds).put dst v=F Aa ds
variable {f:Value}
theorem Ia {fr:List Value}:Bf fr none f fr:=λ_=>rfl
theorem wa {fr Aa:List Value}{n:Nat}{v:Value}(h:Zb fr n v Aa):Bf fr (some n) v Aa:=by
 intro ds;unfold Zb at h;subst h;simp [F,Act.put]
theorem Bf.rw {fr Aa:List Value}{dst:Option Tmp}{v:Value}(h:Bf fr dst v Aa){K:Act->World->Prop}{ds:List Deferred}{w:World}(k:K (F Aa ds) w):K ((F fr ds).put dst v) w:=by
 rw [h ds];exact k
def Pm (fr:List Value) (xs:List Operand) (vs:List Value):Prop:=∀ ds,xs.map (F fr ds).eval=vs
theorem qb {fr:List Value}:Pm fr [] []:=λ_=>rfl
variable {b D:Operand}
theorem ua {fr:List Value}  {v:Value}{xs:List Operand}{vs:List Value}(h:ab fr b v) (a:Pm fr xs vs):Pm fr (b::xs) (v::vs):=by
 intro ds;simp [h ds,a ds]
structure xd (P:Program) (c:Code) (Q:Exit->Act->World->Prop) (fr:List Value) (ds:List Deferred) (w:World):Prop where
 out:c.wp P Q (F fr ds) w
structure He (P:Program) (ops:Array Oper) (Q:Exit->Act->World->Prop) (l:List Oper) (fr:List Value) (ds:List Deferred) (w:World):Prop where
 out:wpList P ops Q l (F fr ds) w
structure yd (P:Program) (o:Oper) (fr:List Value) (ds:List Deferred) (w:World) (K:List Value->List Deferred->World->Prop) (Q:Exit->Act->World->Prop):Prop where
 out:∀ a:Act->World->Prop,(∀ fr ds w,K fr ds w->a (F fr ds) w)->o.wp P (F fr ds) w a Q
def Mp (P:Program) (c:Code) (Q:Exit->Act->World->Prop):Act->World->Prop:=λa w=>∃ fr ds,a=F fr ds/\xd P c Q fr ds w
section code
variable {P:Program}{Q:Exit->Act->World->Prop}{fr:List Value}{ds:List Deferred}{w:World}
variable {r Z:Code}
theorem la (h:xd P r (Exit.then (Mp P Z Q) Q) fr ds w):xd P (.seq r Z) Q fr ds w :=
 ⟨wp_seq (wp_mono h.out λe a w b=>by
  cases e with
  | normal=>obtain ⟨fr,ds,rfl,h⟩:=b; exact h.out
  | exit id=>exact b
  | goto l=>exact b
  | ret=>exact b
  | panic c=>exact b
  | outgrown=>exact b)⟩
theorem Ph {id:Nat}{l:List Oper}(h:He P l.toArray Q l fr ds w):xd P (.region id l.toArray false) Q fr ds w:=⟨wp_region_lit h.out⟩
theorem Ni (h:Q .normal (F fr ds) w):xd P .skip Q fr ds w:=⟨wp_skip h⟩
theorem Tn (h:Q .ret (F fr ds) w):xd P .ret Q fr ds w:=⟨wp_ret h⟩
theorem Ft {id:Nat}(h:Q (.exit id) (F fr ds) w):xd P (.exit id) Q fr ds w:=⟨wp_exit h⟩
theorem Qa {id:Nat}{c:Code}(h:xd P c (Exit.inBlock id Q) fr ds w):xd P (.block id c) Q fr ds w:=⟨wp_block h.out⟩
variable {v:Bool}
theorem Qr (a:ab fr b (.bool v)) (c:v=true->xd P r Q fr ds w) (d:v=false->xd P Z Q fr ds w) :
  xd P (.cond b r Z) Q fr ds w:=⟨wp_cond_split (a ds) (λh=>(c h).out) λh=>(d h).out⟩
theorem Rb {c:Operand}  {p:Prop}[Decidable p] (a:ab fr c (.bool (decide p))) (b:p->xd P r Q fr ds w) (d:¬ p->xd P Z Q fr ds w) :
  xd P (.cond c r Z) Q fr ds w:=Qr a (λh=>b (of_decide_eq_true h)) (λh=>d (of_decide_eq_false h))
variable {X:Prop}
theorem Me [Decidable X] (a:ab fr b (.bool (decide X))) (c:X) (d:xd P r Q fr ds w):xd P (.cond b r Z) Q fr ds w:=Rb a (λ_=>d) λh=>absurd c h
theorem Ja [Decidable X] (a:ab fr b (.bool (decide X))) (c:¬ X) (d:xd P Z Q fr ds w):xd P (.cond b r Z) Q fr ds w:=Rb a (λh=>absurd h c) λ_=>d
theorem tl {c:Operand}  (a:ab fr c (.bool true)) (b:xd P r Q fr ds w):xd P (.cond c r Z) Q fr ds w:=⟨wp_cond_true (a ds) b.out⟩
theorem fk {c:Operand}  (a:ab fr c (.bool false)) (b:xd P Z Q fr ds w):xd P (.cond c r Z) Q fr ds w:=⟨wp_cond_false (a ds) b.out⟩
theorem gg {c:Code}{Q':Exit->Act->World->Prop}(h:xd P c Q' fr ds w):Exit.then (Mp P c Q') Q .normal (F fr ds) w:=⟨fr,ds,rfl,h⟩
variable {t:Act}
theorem dj {n:Act->World->Prop}  (h:n t w):Exit.then n Q .normal t w:=h
variable {y:Act->World->Prop}
theorem Oo {id:Nat}(h:Q (.exit id) t w):Exit.then y Q (.exit id) t w:=h
theorem Nq (h:Q .ret t w):Exit.then y Q .ret t w:=h
variable {G:List PanicEntry}
theorem WL (h:Q (.panic G) t w):Exit.then y Q (.panic G) t w:=h
theorem bn {id:Nat}(h:Q .normal t w):Exit.inBlock id Q .normal t w:=h
theorem ru {id:Nat}(h:Q .ret t w):Exit.inBlock id Q .ret t w:=h
theorem fH {id:Nat}  (h:Q (.panic G) t w):Exit.inBlock id Q (.panic G) t w:=h
theorem su {id:Nat}(h:Q .normal t w):Exit.inBlock id Q (.exit id) t w:=by simpa [Exit.inBlock] using h
theorem zh {id j:Nat}(a:(j == id)=false) (h:Q (.exit j) t w):Exit.inBlock id Q (.exit j) t w:=by
 have:¬ j=id:=by simpa using a
 simpa [Exit.inBlock,this] using h
inductive gb where
 | k
 | o (n:Nat)
 | i (v:Value)
def si (t:Nat->Value):List gb->List Value->List Value
 | [],fr=>fr
 | _::_,[]=>[]
 | .k::ms,a::fr=>a::si t ms fr
 | .o n::ms,_::fr=>t n::si t ms fr
 | .i v::ms,_::fr=>v::si t ms fr
def Jf (t:Nat->Value) (ms:List gb) (fr Aa:List Value):Prop:=si t ms fr=Aa
variable {s:Nat->Value}
theorem Hl {l:List Value}:Jf s [] l l:=rfl
theorem mk {ms:List gb}{a:Value}{l Ba:List Value}(h:Jf s ms l Ba):Jf s (.k::ms) (a::l) (a::Ba):=by unfold Jf at *;rw [si,h]
variable {i:List Value}
theorem nb {ms:List gb}  {a:Value}{Ba:List Value}(h:Jf s ms i Ba):Jf s (.o c::ms) (a::i) (s c::Ba):=by unfold Jf at *;rw [si,h]
theorem gx {ms:List gb}{a:Value}{l Ba:List Value}(h:Jf s ms l Ba):Jf s (.i f::ms) (a::l) (f::Ba):=by unfold Jf at *;rw [si,h]
theorem Qm {ms:List gb}{a:List Value}(e:Jf s ms a i) (h:Q .normal (F i ds) w):Q .normal (F (si s ms a) ds) w:=by rw [show si s ms a=i from e];exact h
theorem CG {ms:List gb}{b:List Value}(e:Jf s ms i b) (h:xd P r Q b ds w):xd P r Q (si s ms i) ds w:=by rw [show si s ms i=b from e];exact h
inductive We:List gb->List Value->List Value->Prop where
 | z {l:List Value}:We [] l l
 | k {ms:List gb} {a:Value} {l Ba:List Value} (h:We ms l Ba):We (.k::ms) (a::l) (a::Ba)
 | o {ms:List gb} {n:Nat} {a b:Value} {l Ba:List Value} (h:We ms l Ba):We (.o n::ms) (a::l) (b::Ba)
 | i {ms:List gb} {v a:Value} {l Ba:List Value} (h:We ms l Ba):We (.i v::ms) (a::l) (v::Ba)
def opens:List gb->List Nat
 | []=>[]
 | .o n::ms=>n::opens ms
 | .k::ms=>opens ms
 | .i _::ms=>opens ms
theorem kA {t hb:Nat->Value}:∀ (ms:List gb) (fr:List Value),(∀ n ∈ opens ms,t n=hb n)->si t ms fr=si hb ms fr
 | [],_,_=>rfl
 | _::_,[],_=>rfl
 | .k::ms,a::fr,h=>by rw [si,si,kA ms fr h]
 | .o n::ms,a::fr,h=>by rw [si,si,kA ms fr λm b=>h m (by simp [opens,b]),h n (by simp [opens])]
 | .i v::ms,a::fr,h=>by rw [si,si,kA ms fr h]
theorem We.ex {ms:List gb}{fr Aa:List Value}(h:We ms fr Aa) (c:(opens ms).Nodup):∃ t,Aa=si t ms fr:=by
 induction h with
 | z=>exact ⟨λ_=>undef,rfl⟩
 | k _ d=>obtain ⟨t,rfl⟩:=d c; exact ⟨t,rfl⟩
 | @o ms n a b l Ba _ d =>
  simp only [opens,List.nodup_cons] at c;obtain ⟨t,rfl⟩:=d c.2;refine ⟨λm=>if m=n then b else t m,?_⟩;rw [si,if_pos rfl];congr 1;refine kA _ _ λm f=>?_;exact (if_neg (λe:m=n=>c.1 (by rw [<- e];exact f))).symm
 | i _ d=>obtain ⟨t,rfl⟩:=d c; exact ⟨t,rfl⟩
theorem oU {α:Type}(T:List Nat) (m:T.Nodup) (u:α->List gb) (o:∀ x,opens (u x)=T) (i:α->World->Prop) (j:α->World->Nat) (x0:α) (p:We (u x0) fr fr) (q:i x0 w)
  (round:∀ x t w,i x w->xd P r (Exit.then (λf w'=>∃ g Aa,f=F Aa ds/\We (u g) fr Aa/\i g w'/\j g w'<j x w) Q) (si t (u x) fr) ds w) :
  xd P (.loop r) Q fr ds w:=by
 constructor;intro b k cs;have key:∀ n x t w,j x w=n->i x w ->
   ∃ e f w',Q e f w'/\Arrives P (lone (b.at (F (si t (u x) fr) ds) (.code r::.inLoop r::k)) cs w) b k cs e f w':=by
  intro n
  induction n using Nat.strongRecOn with
  | _ n s =>
   intro x t w v y;obtain ⟨e,h,d,c,a⟩:=(round x t w y).out b (.inLoop r::k) cs;cases e with
   | normal =>
    obtain ⟨g,Aa,rfl,z,A,B⟩:=c;obtain ⟨hb,C⟩:=z.ex (by rw [o];exact m);obtain ⟨D,E,G,H,K⟩:=s (j g d) (v ▸ B) g hb d rfl A;rw [C] at a;exact ⟨D,E,G,H,.of_steps (Steps.trans a<|.one step_inLoop) K⟩
   | exit id=>exact ⟨_,h,d,c,.pass (x:=.inLoop r) rfl (λ_ _=>.inl (by simp)) a⟩
   | goto l=>exact ⟨_,h,d,c,.pass (x:=.inLoop r) rfl (λ_ _=>.inl (by simp)) a⟩
   | ret=>exact ⟨_,h,d,c,.pass (x:=.inLoop r) rfl (λ_ _=>.inl (by simp)) a⟩
   | panic M=>exact ⟨_,h,d,c,.pass (x:=.inLoop r) rfl (λ_ _=>.inl (by simp)) a⟩
   | outgrown=>exact ⟨_,h,d,c,.pass (x:=.inLoop r) rfl (λ_ _=>.inl (by simp)) a⟩
 obtain ⟨t0,L⟩:=p.ex (by rw [o];exact m);obtain ⟨e,f,w',c,a⟩:=key _ x0 t0 w rfl q;rw [<- L] at a;exact ⟨e,f,w',c,.of_steps (.one step_loop) a⟩
theorem xd.mono {Q':Exit->Act->World->Prop}(h:xd P r Q fr ds w) (b:∀ e a w,Q e a w->Q' e a w):xd P r Q' fr ds w:=⟨wp_mono h.out b⟩
theorem pO {R R':Act->World->Prop}(h:∀ a w,R a w->R' a w):∀ e a w,Exit.then R Q e a w->Exit.then R' Q e a w:=λe a w b=>by
 cases e with
 | normal=>exact h a w b
 | exit id=>exact b
 | goto l=>exact b
 | ret=>exact b
 | panic c=>exact b
 | outgrown=>exact b
theorem Zb.same {α:Type}{l:List α}  {v:α}{Ba:List α}(h:fc l c v) (a:Zb l c v Ba):Ba=l:=by
 unfold fc at h;unfold Zb at a;subst a;obtain ⟨b,rfl⟩:=List.getElem?_eq_some_iff.1 h;exact List.set_getElem_self b
variable {O:List Oper}
theorem QG {ops:Array Oper}  {Fi Gi:List Value}   (ma:fc fr c (.bool v)) (a:Zb fr c (.bool true) Fi) (b:Zb fr c (.bool false) Gi)
  (d:v=true->He P ops Q O Fi ds w) (e:v=false->He P ops Q O Gi ds w):He P ops Q O fr ds w:=by
 cases v with
 | true=>have:=d rfl; rw [Zb.same ma a] at this; exact this
 | false=>have:=e rfl; rw [Zb.same ma b] at this; exact this
theorem gf {ops:Array Oper}{l:List Oper}{Fi Gi:List Value}  {p:Prop}[Decidable p] (ma:fc fr c (.bool (decide p))) (a:Zb fr c (.bool true) Fi) (b:Zb fr c (.bool false) Gi)
  (d:p->He P ops Q l Fi ds w) (e:¬ p->He P ops Q l Gi ds w):He P ops Q l fr ds w :=
 QG ma a b (λh=>d (of_decide_eq_true h)) (λh=>e (of_decide_eq_false h))
end code
def S (l:List UInt8):Value:=.string ⟨⟨l⟩⟩
section
variable {P:Program}{Q:Exit->Act->World->Prop}{K:List Value->List Deferred->World->Prop}{fr Aa:List Value}{ds:List Deferred}{w:World}{ops:Array Oper}{rest:List Oper}
variable {dst:Option Tmp}{op:Op}{ty:TypeId}{pos:String}{after:Array Edge}{g:Option (Nat×Bool)}
theorem ah (h:Q .normal (F fr ds) w):He P ops Q [] fr ds w:=⟨h⟩
theorem wl (h:yd P ⟨dst,op,ty,pos,after,none⟩ fr ds w (He P ops Q rest) Q):He P ops Q (⟨dst,op,ty,pos,after,none⟩::rest) fr ds w:=by
 constructor;unfold wpList;rw [if_pos (by simp [Region.wanted])];exact .inl<|h.out _ λ_ _ _ k=>k.out
variable {v:Bool}
theorem lg {j:Nat}  (a:(ops[j]?).bind (·.dst)=some c) (ma:fc fr c (.bool v)) (h:yd P ⟨dst,op,ty,pos,after,some (j,v)⟩ fr ds w (He P ops Q rest) Q) :
  He P ops Q (⟨dst,op,ty,pos,after,some (j,v)⟩::rest) fr ds w:=by
 constructor;unfold wpList;rw [if_pos (by
  unfold fc at ma;simp only [Region.wanted,yielded,a,F];simp [ma])]
 exact .inl<|h.out _ λ_ _ _ k=>k.out
theorem wn {j:Nat}{Qc:Bool}(a:(ops[j]?).bind (·.dst)=some c) (ma:fc fr c (.bool Qc)) (b:(Qc == v)=false) (d:Bf fr dst undef Aa) (h:He P ops Q rest Aa ds w) :
  He P ops Q (⟨dst,op,ty,pos,after,some (j,v)⟩::rest) fr ds w:=by
 constructor;unfold wpList;rw [if_neg (by
  unfold fc at ma;simp only [Region.wanted,yielded,a,F];simp [ma];simpa using b)]
 exact d.rw h.out
theorem Il {j:Nat}  (a:(ops[j]?).bind (·.dst)=some c) (ma:fc fr c undef) (b:Bf fr dst undef Aa) (h:He P ops Q rest Aa ds w) :
  He P ops Q (⟨dst,op,ty,pos,after,some (j,v)⟩::rest) fr ds w:=by
 constructor;unfold wpList;rw [if_neg (by
  unfold fc at ma;simp only [Region.wanted,yielded,a,F];simp [ma,undef])]
 exact b.rw h.out
theorem Qh {o:Oper}{v:Value}{w':World}(a:(execOp (F fr ds).eval o).run P w=.ok (.value v) w') (b:Bf fr o.dst v Aa) (h:K Aa ds w'):yd P o fr ds w K Q:=by
 constructor;intro d c;unfold Oper.wp;rw [a,Oper.upon_value];exact b.rw<|c _ _ _ h
theorem CB {o:Oper}{w':World}(a:(execOp (F fr ds).eval o).run P w=.ok .skip w') (b:Bf fr o.dst undef Aa) (h:K Aa ds w'):yd P o fr ds w K Q:=by
 constructor;intro d c;unfold Oper.wp;rw [a,Oper.upon_skip];exact b.rw<|c _ _ _ h
structure Cf (P:Program) (o:Oper) (fr:List Value) (v:Value):Prop where
 out:∀ ds w,(execOp (F fr ds).eval o).run P w=.ok (.value v) w
theorem Pb {o:Oper}{v:Value}(a:Cf P o fr v) (b:Bf fr o.dst v Aa) (h:K Aa ds w):yd P o fr ds w K Q:=Qh (a.out ds w) b h
theorem Vl (a:ab fr b f):Cf P (Oper.mk dst (.move b) ty pos after g) fr (f):=⟨λds w=>by simp [execOp,a ds]⟩
theorem Ai (a:ab fr b f) (c:Bf fr dst (f) Aa) (h:K Aa ds w):yd P (Oper.mk dst (.move b) ty pos after g) fr ds w K Q:=Pb (Vl a) c h
theorem gE (a:ab fr b f):Cf P (Oper.mk dst (.assign b) ty pos after g) fr (f):=⟨λds w=>by simp [execOp,a ds]⟩
theorem nr (a:ab fr b f) (c:Bf fr dst (f) Aa) (h:K Aa ds w):yd P (Oper.mk dst (.assign b) ty pos after g) fr ds w K Q:=Pb (gE a) c h
theorem QQ {y:Operand}  (a:ab fr b (.bool true)) (c:ab fr D f):Cf P (Oper.mk dst (.pick b D y) ty pos after g) fr (f):=⟨λds w=>by simp [execOp,c ds,a ds,asBool]⟩
theorem RQ {y:Operand}  (a:ab fr b (.bool false)) (c:ab fr y f):Cf P (Oper.mk dst (.pick b D y) ty pos after g) fr (f):=⟨λds w=>by simp [execOp,c ds,a ds,asBool]⟩
theorem wr {n:Int}(h:-9223372036854775808<=n/\n<=9223372036854775807):IntKind.i64.wrap n=n:=by
 unfold IntKind.wrap;simp [IntKind.bits,IntKind.signed];omega
variable {e:TypeId}{h:IntKind}{k V:Int}
theorem mB {hb:TypeId}  {c:Int}(a:ab fr b (.int h k)) (d:ab fr D (.int h V)) (f:h.wrap (k+V)=c):Cf P (Oper.mk dst (.binOp .add e b D hb) ty pos after g) fr ((.int h c)):=by
 subst f;exact ⟨λds w=>by simp [execOp,a ds,d ds,eqGuard,binOp,Op.intArith]⟩
theorem nB {hb:TypeId}  {c:Int}(a:ab fr b (.int h k)) (d:ab fr D (.int h V)) (f:h.wrap (k - V)=c):Cf P (Oper.mk dst (.binOp .sub e b D hb) ty pos after g) fr ((.int h c)):=by
 subst f;exact ⟨λds w=>by simp [execOp,a ds,d ds,eqGuard,binOp,Op.intArith]⟩
theorem MK {hb:TypeId}  {c:Int}(a:ab fr b (.int h k)) (d:ab fr D (.int h V)) (f:h.wrap (k*V)=c):Cf P (Oper.mk dst (.binOp .mul e b D hb) ty pos after g) fr ((.int h c)):=by
 subst f;exact ⟨λds w=>by simp [execOp,a ds,d ds,eqGuard,binOp,Op.intArith]⟩
theorem bG {hb:TypeId}  {c:Int}(a:ab fr b (.int h k)) (d:ab fr D (.int h V)) (f:V≠0) (i:h.wrap (k.tdiv V)=c):Cf P (Oper.mk dst (.binOp .quo e b D hb) ty pos after g) fr ((.int h c)):=by
 subst i;exact ⟨λds w=>by simp [execOp,a ds,d ds,eqGuard,binOp,Op.intDiv,f]⟩
theorem oB {hb:TypeId}  {c:Int}(a:ab fr b (.int h k)) (d:ab fr D (.int h V)) (f:V≠0) (i:k.tmod V=c):Cf P (Oper.mk dst (.binOp .rem e b D hb) ty pos after g) fr ((.int h c)):=by
 subst i;exact ⟨λds w=>by simp [execOp,a ds,d ds,eqGuard,binOp,Op.intDiv,f]⟩
theorem NK {hb:TypeId}   (a:ab fr b (.int h k)) (c:ab fr D (.int h V)):Cf P (Oper.mk dst (.binOp .lss e b D hb) ty pos after g) fr ((.bool (decide (k<V)))):=⟨λds w=>by simp [execOp,a ds,c ds,eqGuard,binOp,Op.intCmp]⟩
theorem pU {y:Operand}{hb:TypeId}{k:IntKind}{b:Int}(a:ab fr D (.int k V)) (c:ab fr y (.int k b)) (d:Bf fr dst ((.bool (decide (V<b)))) Aa) (h:K Aa ds w):yd P (Oper.mk dst (.binOp .lss e D y hb) ty pos after g) fr ds w K Q:=Pb (NK a c) d h
theorem qU {hb:TypeId}   (a:ab fr b (.int h k)) (c:ab fr D (.int h V)):Cf P (Oper.mk dst (.binOp .leq e b D hb) ty pos after g) fr ((.bool (decide (k<=V)))):=⟨λds w=>by simp [execOp,a ds,c ds,eqGuard,binOp,Op.intCmp]⟩
theorem rU {hb:TypeId}   (a:ab fr b (.int h k)) (c:ab fr D (.int h V)):Cf P (Oper.mk dst (.binOp .gtr e b D hb) ty pos after g) fr ((.bool (decide (V<k)))):=⟨λds w=>by simp [execOp,a ds,c ds,eqGuard,binOp,Op.intCmp]⟩
theorem sU {hb:TypeId}   (a:ab fr b (.int h k)) (c:ab fr D (.int h V)):Cf P (Oper.mk dst (.binOp .geq e b D hb) ty pos after g) fr ((.bool (decide (V<=k)))):=⟨λds w=>by simp [execOp,a ds,c ds,eqGuard,binOp,Op.intCmp]⟩
theorem tU {hb:TypeId}   (a:ab fr b (.int h k)) (c:ab fr D (.int h V)):Cf P (Oper.mk dst (.binOp .eql e b D hb) ty pos after g) fr ((.bool (decide (k=V)))):=⟨λds w=>by simp [execOp,a ds,c ds,eqGuard,binOp,Op.intCmp];rfl⟩
theorem uU {y:Operand}{hb:TypeId}{k:IntKind}{b:Int}(a:ab fr D (.int k V)) (c:ab fr y (.int k b)):Cf P (Oper.mk dst (.binOp .neq e D y hb) ty pos after g) fr ((.bool (decide (V≠b)))):=⟨λds w=>by
  simp [execOp,a ds,c ds,eqGuard,binOp,Op.intCmp];by_cases h:V=b<;>simp [h]⟩
theorem vU (a:ab fr b (.int h k)) (c:h.wrap (0 - k)=V):Cf P (Oper.mk dst (.unOp .neg e b) ty pos after g) fr ((.int h V)):=by
 subst c;exact ⟨λds w=>by simp [execOp,a ds,Op.unary,Op.intArith]⟩
theorem wU (a:ab fr b (.bool v)):Cf P (Oper.mk dst (.unOp .not e b) ty pos after g) fr ((.bool (!v))):=⟨λds w=>by simp [execOp,a ds,Op.unary]⟩
variable {l:List UInt8}
theorem xU {y:Operand}{hb:TypeId}{b:List UInt8}(a:ab fr D (S l)) (c:ab fr y (S b)) (m:l.length+b.length<=9223372036854775807):Cf P (Oper.mk dst (.binOp .add e D y hb) ty pos after g) fr ((S (l++b))):=by
 have d:(ByteArray.mk ⟨l⟩).size=l.length:=rfl;have f:(ByteArray.mk ⟨b⟩).size=b.length:=rfl;have h:¬ (((((ByteArray.mk ⟨l⟩).size+(ByteArray.mk ⟨b⟩).size:Nat):Int)) > IntKind.i64.max):=by
  rw [d,f];unfold IntKind.max;simp [IntKind.bits,IntKind.signed];omega
 have i:ByteArray.mk ⟨l⟩++ByteArray.mk ⟨b⟩=ByteArray.mk ⟨l++b⟩:=by
  apply ByteArray.ext;rw [ByteArray.data_append];simp
 refine ⟨λds w=>?_⟩;have j:=a ds;have k:=c ds;simp only [execOp,j,k,S,eqGuard,binOp,Op.stringOp];rw [if_neg h,i];simp
theorem yU {y:Operand}{t hb:TypeId}{b:List UInt8}(a:ab fr D (S l)) (c:ab fr y (S b)):Cf P (Oper.mk dst (.binOp .eql t D y hb) ty pos after g) fr ((.bool (decide (l=b)))):=by
 refine ⟨λds w=>?_⟩;have d:=a ds;have f:=c ds;simp [execOp,d,f,S,eqGuard,binOp,Op.stringOp];by_cases e:l=b<;>simp [e]
theorem zU {y:Operand}{t hb:TypeId}{b:List UInt8}(a:ab fr D (S l)) (c:ab fr y (S b)):Cf P (Oper.mk dst (.binOp .neq t D y hb) ty pos after g) fr ((.bool (decide (l≠b)))):=by
 refine ⟨λds w=>?_⟩;have d:=a ds;have f:=c ds;simp [execOp,d,f,S,eqGuard,binOp,Op.stringOp];by_cases e:l=b<;>simp [e]
theorem AS (a:P.underlying e=some .string) (c:ab fr b (S l)):Cf P (Oper.mk dst (.call { callee:=.builtin .len,args:=#[b],argTypes:=#[e] }) ty pos after g) fr ((.int .i64 l.length)):=by
 refine ⟨λds w=>?_⟩;have d:=c ds;have f:(ByteArray.mk ⟨l⟩).size=l.length:=rfl;simp [execOp,d,resolve,invoke,builtin,S,Builtin.len_,run_underlying a,goInt,f]
variable {L:Option Addr}
theorem ew {t e:TypeId}  {c:Nat}(a:P.underlying t=some (.slice e)) (d:ab fr b (.slice L W c)):Cf P (Oper.mk dst (.call { callee:=.builtin .len,args:=#[b],argTypes:=#[t] }) ty pos after g) fr ((.int .i64 W)):=by
 refine ⟨λds w=>?_⟩;have f:=d ds;simp [execOp,f,resolve,invoke,builtin,Builtin.len_,run_underlying a,goInt]
theorem SQ {t e:TypeId}  {n:Nat}(a:P.underlying t=some (.slice e)) (d:ab fr b (.slice L n c)) (f:Bf fr dst ((.int .i64 n)) Aa) (h:K Aa ds w):yd P (Oper.mk dst (.call { callee:=.builtin .len,args:=#[b],argTypes:=#[t] }) ty pos after g) fr ds w K Q:=Pb (ew a d) f h
theorem BS {k:IntKind}   {c:UInt8}(f:P.underlying e=some .string) (i:ab fr b (S l)) (j:ab fr D (.int k V)) (m:0<=V) (a:l[V.toNat]?=some c):Cf P (Oper.mk dst (.index e b D) ty pos after g) fr ((.int .u8 c.toNat)):=by
 refine ⟨λds w=>?_⟩;have n:=i ds;have o:=j ds;have p:(ByteArray.mk ⟨l⟩)[V.toNat]?=some c:=by
  have d:V.toNat<l.length:=by
   rcases Nat.lt_or_ge V.toNat l.length with h | h
   ·exact h
   ·rw [List.getElem?_eq_none h] at a;cases a
  rw [getElem?_pos (ByteArray.mk ⟨l⟩) V.toNat (show V.toNat<(ByteArray.mk ⟨l⟩).size from d)];rw [List.getElem?_eq_getElem d] at a;rw [<- a];rfl
 simp [execOp,n,o,S,Instr.index,run_underlying f,asIntOf,m,p]
theorem vI (a:List UInt8) (i j:Nat):(ByteArray.mk ⟨a⟩).extract i j=ByteArray.mk ⟨(a.take j).drop i⟩:=by
 rw [Lib.extract_eq];simp [List.drop_take]
theorem TQ {jk:Operand}     (a:P.underlying e=some .string) (c:ab fr b (S l)) (d:ab fr jk (.int h k))
  (f:0<=k/\k<=l.length):Cf P (Oper.mk dst (.slice e b (some jk) none none) ty pos after g) fr ((S (l.drop k.toNat))):=by
 refine ⟨λds w=>?_⟩;have i:=c ds;have j:=d ds;have m:(ByteArray.mk ⟨l⟩).size=l.length:=rfl;simp only [execOp,i,j,S,Option.map,Instr.sliceAt];simp [run_underlying a,Instr.slice,Instr.sliceBounds,Instr.sliceBound,asIntOf,m,f,vI]
theorem UQ {k':IntKind}  {j:Int}(a:P.underlying e=some .string) (c:ab fr b (S l)) (d:ab fr D (.int k' j))
  (f:0<=j/\j<=l.length):Cf P (Oper.mk dst (.slice e b none (some D) none) ty pos after g) fr ((S (l.take j.toNat))):=by
 refine ⟨λds w=>?_⟩;have h:=c ds;have i:=d ds;have k:(ByteArray.mk ⟨l⟩).size=l.length:=rfl;simp only [execOp,h,i,S,Option.map,Instr.sliceAt];simp [run_underlying a,Instr.slice,Instr.sliceBounds,Instr.sliceBound,asIntOf,k,f,vI]
theorem vF {i:Nat}{vs:List Value}  (a:ab fr b (.tuple ⟨vs⟩)) (ma:fc vs i f):Cf P (Oper.mk dst (.extract b i) ty pos after g) fr (f):=by
 refine ⟨λds w=>?_⟩;have c:=a ds;unfold fc at ma;simp [execOp,c,Instr.extract,ma]
structure kb (P:Program) (f:FuncId) (args:List Value) (w:World) (R:Value->World->Prop):Prop where
 out:Calls P f ⟨args⟩ w λe w'=>match e with | .returned v=>R v w' | _=>False
theorem kb.mono {f:FuncId}{args:List Value}{R R':Value->World->Prop}(h:kb P f args w R) (b:∀ v w',R v w'->R' v w'):kb P f args w R' :=
 ⟨Calls.mono h.out λe w' a=>by
  cases e with
  | returned v=>exact b v w' a
  | panicked c=>exact a.elim
  | outgrown=>exact a.elim⟩
def wF (P:Program) (f:FuncId) (args:List Value) (v:Value):Prop:=∀ w,kb P f args w λa w'=>a=v/\w'=w
class fb (P:Program) (f:FuncId):Prop where
 out:∀ args w,(callFunc f args).run P w=.ok (.enter f args) w
theorem VQ {f : FuncId} {fn : Func} (a : P.funcs[f]? = some fn) (e : fn.body.isSome = true) (b : (fn.name == "runtime.NumGoroutine") = false) : fb P f := by
 constructor;intro args w;have c:¬ fn.body=none:=by cases h:fn.body<;>simp_all
 have d : ¬ fn.name = "runtime.NumGoroutine" := by simpa using b
 simp only [callFunc,Sem.run_bind,run_program,Result.andThen_ok,a,beq_iff_eq,if_neg d,Option.isNone_iff_eq_none,if_neg c,Sem.run_pure]
def Rg (fr:List Value) (dst:Option Tmp) (v:Value) (K:List Value->Prop):Prop:=∀ Aa,Bf fr dst v Aa->K Aa
theorem Bf.uniq {fr a b:List Value}{dst:Option Tmp}  (h:Bf fr dst f a) (k:Bf fr dst f b):a=b:=by
 have:=(h []).symm.trans (k []);unfold F at this;simpa using this
theorem pu {K:List Value->Prop}(a:Bf fr dst f Aa) (h:K Aa):Rg fr dst f K:=λc b=>by rw [Bf.uniq b a];exact h
theorem Xi (fr:List Value) (dst:Option Tmp) (v:Value):∃ Aa,Bf fr dst v Aa:=by
 cases dst with
 | none=>exact ⟨fr,Ia⟩
 | some n=>exact ⟨fr.set n v,wa rfl⟩
variable {z:FuncId}
theorem OA {o:Oper}  {args:List Value}{R:Value->World->Prop}(b:(execOp (F fr ds).eval o).run P w=.ok (.enter z ⟨args⟩) w) (d:kb P z args w R)
  (h:∀ v w',R v w'->Rg fr o.dst v λAa=>K Aa ds w'):yd P o fr ds w K Q:=by
 constructor;intro g f;unfold Oper.wp;rw [b,Oper.upon_enter];exact Calls.mono d.out λe w' a=>by
  cases e with
  | returned v =>
   obtain ⟨Aa,Ea⟩:=Xi fr o.dst v;exact Ea.rw<|f _ _ _<|h v w' a Aa Ea
  | panicked c=>exact a.elim
  | outgrown=>exact a.elim
theorem hE {xs:List Operand}{tys:Array TypeId}  {cap vs:List Value}(a:fb P z) (c:ab fr b (.func (.func z) #[] ⟨cap⟩)) (d:Pm fr xs vs) :
  (execOp (F fr ds).eval (Oper.mk dst (.call { callee:=.value b,args:=⟨xs⟩,argTypes:=tys }) ty pos after g)).run P w=.ok (.enter z ⟨vs++cap⟩) w:=by
 have e:=c ds;have f:=d ds;have h:=a.out ⟨vs++cap⟩ w;simp [execOp,resolve,e,Deferred.ofValue,invoke,f,h]
theorem jd {xs:List Operand}{tys:Array TypeId}{k:FuncId}{vs:List Value}{R:Value->World->Prop}(a:fb P k) (c:ab fr b (.func (.func k) #[] #[])) (d:Pm fr xs vs)
  (e:kb P k vs w R) (h:∀ v w',R v w'->Rg fr dst v λAa=>K Aa ds w'):yd P (Oper.mk dst (.call { callee:=.value b,args:=⟨xs⟩,argTypes:=tys }) ty pos after g) fr ds w K Q:=by
 refine OA (args:=vs) ?_ e h;have:=hE (w:=w) (dst:=dst) (ty:=ty) (pos:=pos) (after:=after) (g:=g) (tys:=tys) (ds:=ds) (cap:=[]) a c d;simpa using this
theorem Tl {xs:List Operand}{tys:Array TypeId}  {vs:List Value}  (a:fb P z) (c:ab fr b (.func (.func z) #[] #[])) (d:Pm fr xs vs)
  (e:wF P z vs f) (i:Bf fr dst f Aa) (h:K Aa ds w):yd P (Oper.mk dst (.call { callee:=.value b,args:=⟨xs⟩,argTypes:=tys }) ty pos after g) fr ds w K Q :=
 jd a c d (e w) λl w' ⟨j,k⟩=>by subst j;subst k;exact pu i h
theorem ep {xs:List Operand}{tys:Array TypeId}  {cap vs:List Value}{R:Value->World->Prop}(a:fb P z) (c:ab fr b (.func (.func z) #[] ⟨cap⟩)) (d:Pm fr xs vs)
  (e:kb P z (vs++cap) w R) (h:∀ v w',R v w'->Rg fr dst v λAa=>K Aa ds w'):yd P (Oper.mk dst (.call { callee:=.value b,args:=⟨xs⟩,argTypes:=tys }) ty pos after g) fr ds w K Q :=
 OA (hE a c d) e h
def sq (P:Program) (fn:Func) (R:Value->World->Prop):Exit->Act->World->Prop:=bodyPost P fn λe w'=>match e with | .returned v=>R v w' | _=>False
theorem enter {fn:Func}{c:Code}{args frm:List Value}{R:Value->World->Prop}(a:P.funcs[z]?=some fn) (b:fn.body=some c)
  (d:args++List.replicate (fn.ntmps - args.length) undef=frm) (h:xd P c (sq P fn R) frm [] w):kb P z args w R:=by
 refine ⟨calls_of_wp a b ?_⟩;subst d;have:(⟨args⟩:Array Value)++Array.replicate (fn.ntmps - args.length) undef=⟨args++List.replicate (fn.ntmps - args.length) undef⟩:=by
  apply Array.ext';simp
 have h:=h.out;simpa [F,sq,this] using h
theorem Od {fn:Func}{R:Value->World->Prop}{t:Tmp}{v:Value}(a:fn.results=#[.tmp t]) (ma:fc fr t v) (h:R v w):sq P fn R .ret (F fr []) w:=by
 refine bodyPost_ret (v:=v) ?_ rfl h;unfold fc at ma;rw [results_tmp a];simp [F,ma]
theorem Dr {fn:Func}{R:Value->World->Prop}{t u:Tmp}{v:Value}(b:fn.results=#[.tmp t,.tmp u]) (ma:fc fr t v) (a:fc fr u f) (h:R (.tuple #[v,f]) w):sq P fn R .ret (F fr []) w:=by
 refine bodyPost_ret (v:=.tuple #[v,f]) ?_ rfl h;unfold fc at ma a;rw [results_tmp2 b];simp [F,ma,a]
theorem wk {fn:Func}{R:Value->World->Prop}(a:fn.results=#[]) (h:R (.tuple #[]) w):sq P fn R .normal (F fr []) w :=
 bodyPost_end (results_none a _ _ _) rfl h
theorem oL {fn:Func}{R:Value->World->Prop}(a:fn.results=#[]) (h:R (.tuple #[]) w):sq P fn R .ret (F fr []) w :=
 bodyPost_ret (results_none a _ _ _) rfl h
end
structure Yi (S:Nat->Prop) (w w':World):Prop where
 os:w'.os=w.os
 tape:w'.tape=w.tape
 output:w'.output=w.output
 size:w.heap.size<=w'.heap.size
 ea:∀ k,k<w.heap.size->S k->w'.heap[k]?=w.heap[k]?
def Grow (w w':World):Prop:=Yi (λ_=>True) w w'
variable {p:Nat->Prop}
theorem Yi.refl (w:World):Yi p w w:=⟨rfl,rfl,rfl,Nat.le_refl _,λ_ _ _=>rfl⟩
theorem Yi.trans {S:Nat->Prop}{a b c:World}(h:Yi S a b) (k:Yi S b c):Yi S a c :=
 ⟨k.os.trans h.os,k.tape.trans h.tape,k.output.trans h.output,Nat.le_trans h.size k.size,λi d e=>(k.ea i (Nat.lt_of_lt_of_le d h.size) e).trans (h.ea i d e)⟩
variable {q:World}
theorem Yi.mono {a:Nat->Prop}{b:World}(h:Yi p q b) (c:∀ k,a k->p k):Yi a q b:=⟨h.os,h.tape,h.output,h.size,λi d k=>h.ea i d (c i k)⟩
theorem Grow.keeps {b:World}(h:Grow q b):Yi p q b:=Yi.mono h λ_ _=>trivial
theorem Grow.below {b:World}(h:Grow q b):Below q.heap.size q b:=⟨h.os,h.tape,h.output,h.size,λk a=>h.ea k a trivial⟩
theorem Grow.alloc (w:World) (o:Obj):Grow w (w.alloc o):=⟨rfl,rfl,rfl,by simp,λk a _=>heap_alloc_old w o k a⟩
def jm (S:Nat->Prop) (w:World) (A:World->Prop):Prop:=∀ w',w.heap.size<=w'.heap.size->(∀ k,k<w.heap.size->S k->w'.heap[k]?=w.heap[k]?)->A w'
variable {E:World->Prop}
theorem jm.now {w:World}  (h:jm p w E):E w:=h w (Nat.le_refl _) λ_ _ _=>rfl
theorem jm.mono {a:Nat->Prop}{w:World}{A:World->Prop}(h:jm p w A) (c:∀ k,k<w.heap.size->p k->a k):jm a w A:=λw' d e=>h w' d λk b f=>e k b (c k b f)
theorem jm.and {B:World->Prop}(h:jm p q E) (k:jm p q B):jm p q λw'=>E w'/\B w':=λw' a b=>⟨h w' a b,k w' a b⟩
theorem jm.keeps {w':World}{A:World->Prop}(h:jm p q A) (k:Yi p q w'):jm p w' A :=
 λd e f=>h d (Nat.le_trans k.size e) λb a c=>(f b (Nat.lt_of_lt_of_le a k.size) c).trans (k.ea b a c)
inductive Ha where
 | ea (b:Nat) (T:TypeId) (cs:List Value)
 | row (v:Value) (T:TypeId) (sz n:Nat) (xs:List Value)
 | map (b:Nat) (es:List MapEntry) (clock:Nat)
 | cC (b:Nat) (s:ByteArray) (pos:Nat)
 | ro (b:Nat) (T:TypeId) (cs:List Value)
 | qn (b m since:Nat) (seen:List Nat) (last:Nat)
def Ak (w:World) (b:Nat) (T:TypeId) (cs:List Value):Prop:=w.heap[b]?=some (.cells ⟨cs⟩ T (0,0))
def Row (w:World) (v:Value) (T:TypeId) (sz n:Nat) (xs:List Value):Prop :=
 xs.length=n*sz/\((v=.slice none 0 0/\n=0)\/∃ g o cap cur,v=.slice (some ⟨g,o,none⟩) n cap/\w.heap[g]?=some (.cells cur T (0,0))/\n<=cap/\cap<=maxLen/\o+cap*sz<=cur.size/\(cur.toList.drop o).take (n*sz)=xs)
def Ha.block:Ha->Option Nat
 | .ea b _ _=>some b
 | .row v _ _ _ _=>v.ownBlock
 | .map b _ _=>some b
 | .cC b _ _=>some b
 | .ro b _ _=>some b
 | .qn b _ _ _ _=>some b
def Ha.holds (w:World):Ha->Prop
 | .ea b T cs=>Ak w b T cs
 | .row v T sz n xs=>Row w v T sz n xs
 | .map b es clock=>w.heap[b]?=some (.map ⟨es⟩ clock)
 | .cC b s pos=>w.heap[b]?=some (.stringIter s pos)
 | .ro b T cs=>∃ z,w.heap[b]?=some (.cells ⟨cs⟩ T z)
 | .qn b m since seen last=>w.heap[b]?=some (.mapIter (some m) since ⟨seen⟩ last)
def blocks (rs:List Ha):List Nat:=rs.filterMap Ha.block
structure Sep (S Ic:Nat->Prop) (da w:World) (rs:List Ha) (A:World->Prop):Prop where
 keeps:Yi S da w
 all:∀ r ∈ rs,r.holds w
 ti:(blocks rs).Nodup
 new:∀ b ∈ blocks rs,da.heap.size<=b\/¬ S b
 bj:jm (λb=>(Ic b\/da.heap.size<=b)/\b ∉ blocks rs) w A
variable {M:Ha}
theorem BH (h:M.holds q)  (a:M.block=some c):c<q.heap.size:=by
 cases M with
 | ea Qc T cs=>simp [Ha.block] at a; subst a; exact (Array.getElem?_eq_some_iff.1 h).1
 | map Qc es d=>simp [Ha.block] at a; subst a; exact (Array.getElem?_eq_some_iff.1 h).1
 | cC Qc s p=>simp [Ha.block] at a; subst a; exact (Array.getElem?_eq_some_iff.1 h).1
 | qn Qc m s e l=>simp [Ha.block] at a; subst a; exact (Array.getElem?_eq_some_iff.1 h).1
 | ro Qc T cs=>obtain ⟨z,h⟩:=h; simp [Ha.block] at a; subst a; exact (Array.getElem?_eq_some_iff.1 h).1
 | row v T sz n xs =>
  rcases h.2 with ⟨rfl,_⟩ | ⟨g,o,cap,cur,rfl,b,_⟩
  ·simp [Ha.block,Value.ownBlock] at a
  ·simp [Ha.block,Value.ownBlock] at a;subst a;exact (Array.getElem?_eq_some_iff.1 b).1
theorem holds_of {w':World}{r:Ha}(h:r.holds q) (a:∀ b,r.block=some b->w'.heap[b]?=q.heap[b]?):r.holds w':=by
 cases r with
 | ea Qc T cs=>exact (a Qc rfl).trans h
 | map Qc es d=>exact (a Qc rfl).trans h
 | cC Qc s p=>exact (a Qc rfl).trans h
 | qn Qc m s e l=>exact (a Qc rfl).trans h
 | ro Qc T cs=>obtain ⟨z,h⟩:=h; exact ⟨z,(a Qc rfl).trans h⟩
 | row v T sz n xs =>
  refine ⟨h.1,?_⟩;rcases h.2 with h | ⟨g,o,cap,cur,rfl,c,h⟩
  ·exact .inl h
  ·exact .inr ⟨g,o,cap,cur,rfl,by rw [a g rfl];exact c,h⟩
section
variable {S Ic:Nat->Prop}{da w w':World}{rs rs':List Ha}{A B:World->Prop}
theorem Sep.a (h:Sep S Ic da w rs A):A w:=h.bj.now
theorem Sep.start (w:World) (S Ic:Nat->Prop) (a:jm Ic w A):Sep S Ic w w [] A :=
 ⟨.refl w,by simp,by simp [blocks],by simp [blocks],a.mono λk _ b=>⟨.inl b,by simp [blocks]⟩⟩
theorem Ts {r:Ha}{b:Nat}(a:r ∈ rs) (c:r.block=some b):b ∈ blocks rs:=List.mem_filterMap.2 ⟨r,a,c⟩
theorem Sep.lt (h:Sep S Ic da w rs A){b:Nat}(a:b ∈ blocks rs):b<w.heap.size:=by
 obtain ⟨r,c,a⟩:=List.mem_filterMap.1 a;exact BH (h.all r c) a
theorem Sep.grow (h:Sep S Ic da w rs A) (a:Grow w w'):Sep S Ic da w' rs A where
 keeps:=h.keeps.trans a.keeps
 all r c:=holds_of (h.all r c) λb d=>a.ea b (h.lt (Ts c d)) trivial
 ti:=h.ti
 new:=h.new
 bj:=h.bj.keeps a.keeps
theorem Sep.alloc (h:Sep S Ic da w rs A){o:Obj}{r:Ha}(c:r.block=some w.heap.size) (f:r.holds (w.alloc o)):Sep S Ic da (w.alloc o) (r::rs) A where
 keeps:=h.keeps.trans (Grow.alloc w o).keeps
 all r' d:=by
  rcases List.mem_cons.1 d with rfl | d
  ·exact f
  ·exact (h.grow<|Grow.alloc w o).all r' d
 ti:=by
  simp only [blocks,List.filterMap_cons,c,List.nodup_cons];exact ⟨λg=>Nat.lt_irrefl _<|h.lt g,h.ti⟩
 new b a:=by
  simp only [blocks,List.filterMap_cons,c,List.mem_cons] at a;rcases a with rfl | a
  ·exact .inl h.keeps.size
  ·exact h.new b a
 bj:=λw' i j=>h.bj w' (by simp at i;omega) λk l e=>by
  have:=j k (by simp;omega) ⟨e.1,by
   simp only [blocks,List.filterMap_cons,c,List.mem_cons,not_or];exact ⟨by omega,e.2⟩⟩
  rw [this];exact heap_alloc_old w o k l
theorem aB {r:Ha}  (ma:fc rs c r):r ∈ rs:=List.mem_of_getElem? ma
theorem Sep.get (h:Sep S Ic da w rs A){n:Nat}{r:Ha}(ma:fc rs n r):r.holds w:=h.all r (aB ma)
theorem WH {r r':Ha}(ma:fc rs c r) (b:r'.block=r.block):blocks (rs.set c r')=blocks rs:=by
 unfold fc at ma;unfold blocks
 induction rs generalizing c with
 | nil=>rfl
 | cons a rs d =>
  cases c with
  | zero=>simp at ma; subst ma; simp [List.filterMap_cons,b]
  | succ c=>simp at ma; simp only [List.set_cons_succ,List.filterMap_cons,d ma]
theorem CH {m:Nat}{r:Ha}(Ea:(blocks rs).Nodup) (ma:fc rs W r) (d:fc rs m M) (h:W≠m){b:Nat}(f:r.block=some b):M.block≠some b:=by
 unfold fc at ma d;unfold blocks at Ea
 induction rs generalizing W m with
 | nil=>simp at ma
 | cons a rs i =>
  have j:(List.filterMap Ha.block rs).Nodup:=by
   cases g:a.block with
   | none=>simpa [List.filterMap_cons,g] using Ea
   | some c=>simp only [List.filterMap_cons,g,List.nodup_cons] at Ea; exact Ea.2
  cases W with
  | zero =>
   cases m with
   | zero=>exact absurd rfl h
   | succ m =>
    simp at ma d;subst ma;intro e;simp only [List.filterMap_cons,f,List.nodup_cons] at Ea;exact Ea.1<|List.mem_filterMap.2 ⟨M,List.mem_of_getElem? d,e⟩
  | succ W =>
   cases m with
   | zero =>
    simp at ma d;subst d;intro e;simp only [List.filterMap_cons,e,List.nodup_cons] at Ea;exact Ea.1<|List.mem_filterMap.2 ⟨r,List.mem_of_getElem? ma,f⟩
   | succ m=>simp at ma d; exact i j ma d (by omega)
theorem Sep.put (h:Sep S Ic da w rs A){n:Nat}{r r':Ha}{b:Nat}(ma:fc rs n r) (f:r.block=some b) (p:r'.block=some b) (j:Zb rs n r' rs')
  (q:r'.holds w') (a:Yi (λk=>k≠b) w w'):Sep S Ic da w' rs' A:=by
 unfold Zb at j;subst j;have l:=Ts (aB ma) f;have g:=WH (r':=r') ma (p.trans f.symm);refine ⟨?_,?_,?_,?_,?_⟩
 ·refine ⟨a.os.trans h.keeps.os,a.tape.trans h.keeps.tape,a.output.trans h.keeps.output,Nat.le_trans h.keeps.size a.size,λk i d=>?_⟩;rw [a.ea k (Nat.lt_of_lt_of_le i h.keeps.size) (λe=>by subst e;rcases h.new k l with h | h;exact absurd i (by omega);exact h d)];exact h.keeps.ea k i d
 ·intro s t;obtain ⟨m,hm⟩:=List.mem_iff_getElem?.1 t;by_cases e:n=m
  ·subst e;have u:n<rs.length:=(List.getElem?_eq_some_iff.1 ma).1;rw [List.getElem?_set_self u] at hm;cases hm;exact q
  ·rw [List.getElem?_set_ne e] at hm;refine holds_of (h.all s<|List.mem_of_getElem? hm) λc o=>a.ea c (h.lt<|Ts (List.mem_of_getElem? hm) o) λv=>?_;subst v;exact CH h.ti ma hm e f o
 ·rw [g];exact h.ti
 ·rw [g];exact h.new
 ·rw [g];exact h.bj.keeps<|a.mono λk d e=>d.2 (by subst e;exact l)
end
def DB:TypeDesc->Bool
 | .struct _ | .array _ _=>true
 | _=>false
class wb (P:Program) (T:TypeId) (pc:outParam Bool) (Dc:outParam (List Value)) (n m:outParam Nat):Prop where
 RG:∃ d,P.underlying T=some d/\DB d=pc
 inf:∃ i z,P.info? T=some i/\i.zero=some z/\z.cells=⟨Dc⟩/\i.size=n/\i.bytes=m
variable {e:TypeId}
theorem AU {P:Program}  {d:TypeDesc}{pc:Bool}  {Dc:List Value}{m:Nat}(b:P.underlying e=some d) (g:DB d=pc) (h:(P.info? e).map (λi=>(i.zero,i.size,i.bytes))=some (some f,c,m)) (j:f.cells=⟨Dc⟩):wb P e pc Dc c m:=by
 refine ⟨⟨d,b,g⟩,?_⟩;cases a:P.info? e with
 | none=>rw [a] at h; cases h
 | some i =>
  rw [a] at h;simp only [Option.map_some,Option.some.injEq,Prod.mk.injEq] at h;exact ⟨i,f,rfl,h.1,j,h.2.1,h.2.2⟩
def ee:Value->Bool
 | .agg _ | .tuple _=>false
 | _=>true
section
variable {P:Program}{Q:Exit->Act->World->Prop}{K:List Value->List Deferred->World->Prop}{fr Aa:List Value}{ds:List Deferred}{w:World}
variable {dst:Option Tmp}{ty:TypeId}{pos:String}{after:Array Edge}{g:Option (Nat×Bool)}
variable {S Ic:Nat->Prop}{da:World}{rs rs':List Ha}{A:World->Prop}
variable {T:TypeId}{d:TypeDesc}{pc:Bool}{Dc:List Value}{n m:Nat}
theorem qO (h:P.underlying T=some d):(isAgg T).run P w=.ok (DB d) w:=by
 unfold isAgg;simp only [Sem.run_bind,run_underlying h,Result.andThen_ok];cases d<;>rfl
theorem wb.isAgg (h:wb P T pc Dc n m):(Go.isAgg T).run P w=.ok pc w:=by
 obtain ⟨d,Ea,rfl⟩:=h.RG;exact qO Ea
theorem wb.sizeOf (h:wb P T pc Dc n m):(Go.sizeOf T).run P w=.ok n w:=by
 obtain ⟨i,z,a,c,d,b,hm⟩:=h.inf;simp [Go.sizeOf,typeInfo,a,b]
theorem wb.zero (h:wb P T pc Dc n m):∃ z,(zeroValue T).run P w=.ok z w/\z.cells=⟨Dc⟩:=by
 obtain ⟨i,z,a,b,c,d,hm⟩:=h.inf;exact ⟨z,by simp [zeroValue,typeInfo,a,b],c⟩
def lj (w:World) (b o:Nat) (cs:List Value):Prop:=∀ j v,cs[j]?=some v->w.cell? ⟨b,o+j,none⟩=some v
theorem il (b o j:Nat):(⟨b,o,none⟩:Addr).add j=⟨b,o+j,none⟩:=by
 unfold Addr.add;split
 ·rename_i h;subst h;rfl
 ·rfl
theorem Ak.cell {cs:List Value}{j:Nat}{v:Value}(h:Ak w c T cs) (ma:fc cs j v):w.cell? ⟨c,j,none⟩=some v:=by
 unfold fc at ma;unfold Ak at h;simp [World.cell?,h,ma]
theorem Ak.cells {b:Nat}{cs:List Value}(h:Ak w b T cs):lj w b 0 cs:=λj v ma=>by
 rw [Nat.zero_add];exact h.cell ma
theorem lj.one {o:Nat}{cs:List Value}{j:Nat}{v:Value}(h:lj w c o cs) (ma:fc cs j v):w.cell? ⟨c,o+j,none⟩=some v:=h j v ma
theorem oc (a:wb P T pc Dc n m) (c:Sep S Ic da w rs A)
  (h:∀ b w',w.heap.size<=b->Sep S Ic da w' (.ea b T Dc::rs) A->Rg fr dst (.pointer (some ⟨b,0,none⟩)) λAa=>K Aa ds w'):yd P (Oper.mk dst (.alloc T) ty pos after g) fr ds w K Q:=by
 obtain ⟨z,d,e⟩:=a.zero (w:=w);obtain ⟨Aa,Ea⟩:=Xi fr dst (.pointer (some ⟨w.heap.size,0,none⟩));refine Qh (v:=.pointer (some ⟨w.heap.size,0,none⟩)) (w':=w.alloc (.cells ⟨Dc⟩ T)) ?_ Ea<|h _ _ (Nat.le_refl _) (c.alloc rfl<|heap_alloc_new w _) Aa Ea;simp [execOp,Instr.alloc,d,newVar,newRow,e]
theorem On {v:Value}{cs:List Value}(a:ab fr D v) (c:v.cells=⟨cs⟩) (d:Sep S Ic da w rs A)
  (h:∀ b w',w.heap.size<=b->Sep S Ic da w' (.ea b T cs::rs) A->Rg fr dst (.pointer (some ⟨b,0,none⟩)) λAa=>K Aa ds w'):yd P (Oper.mk dst (.box T D) ty pos after g) fr ds w K Q:=by
 obtain ⟨Aa,Ea⟩:=Xi fr dst (.pointer (some ⟨w.heap.size,0,none⟩));refine Qh (v:=.pointer (some ⟨w.heap.size,0,none⟩)) (w':=w.alloc (.cells ⟨cs⟩ T)) ?_ Ea<|h _ _ (Nat.le_refl _) (d.alloc rfl<|heap_alloc_new w _) Aa Ea;simp [execOp,Instr.box,a ds,newVar,newRow,c]
structure lk (P:Program) (o:Oper) (fr:List Value) (w:World) (v:Value):Prop where
 out:∀ ds,(execOp (F fr ds).eval o).run P w=.ok (.value v) w
theorem hx {o:Oper}  (a:lk P o fr w f) (b:Bf fr o.dst f Aa) (h:K Aa ds w):yd P o fr ds w K Q:=Qh (a.out ds) b h
theorem Md {o:Nat}{v:Value}(a:wb P T false Dc n m) (d:ab fr b (.pointer (some ⟨c,o,none⟩))) (e:w.cell? ⟨c,o,none⟩=some v):lk P (Oper.mk dst (.load T b) ty pos after g) fr w v :=
 ⟨λds=>by simp [execOp,Instr.loadAt,d ds,Instr.sureAddr,loadVar,a.isAgg,e]⟩
theorem hp {o:Nat}  (a:wb P T false Dc n m) (d:ab fr b (.pointer (some ⟨c,o,none⟩))) (e:w.cell? ⟨c,o,none⟩=some f)
  (i:Bf fr dst f Aa) (h:K Aa ds w):yd P (Oper.mk dst (.load T b) ty pos after g) fr ds w K Q:=hx (Md a d e) i h
theorem Xg {o:Nat}{cs:List Value}(a:wb P T true Dc n m) (d:ab fr b (.pointer (some ⟨c,o,none⟩))) (e:lj w c o cs) (f:cs.length=n):lk P (Oper.mk dst (.load T b) ty pos after g) fr w (.agg ⟨cs⟩):=⟨λds=>by
 have ma:=run_loadCells_list (P:=P) w ⟨c,o,none⟩ cs (λj v h=>by rw [il];exact e j v h);rw [f] at ma;simp [execOp,Instr.loadAt,d ds,Instr.sureAddr,loadVar,a.isAgg,a.sizeOf,ma]⟩
theorem fp {o:Nat}{cs:List Value}(a:wb P T true Dc n m) (d:ab fr b (.pointer (some ⟨c,o,none⟩))) (e:lj w c o cs) (f:cs.length=n)
  (i:Bf fr dst (.agg ⟨cs⟩) Aa) (h:K Aa ds w):yd P (Oper.mk dst (.load T b) ty pos after g) fr ds w K Q:=hx (Xg a d e f) i h
inductive bh:List Value->Nat->List Value->List Value->Prop where
 | z {cs:List Value} {o:Nat}:bh cs o [] cs
 | s {cs cs1 a:List Value} {o:Nat} {v:Value} {vs:List Value} (h:Zb cs o v cs1) (ma:o<cs.length) (k:bh cs1 (o+1) vs a):bh cs o (v::vs) a
variable {i:List Value}
theorem bh.eq {cs:List Value}{o:Nat}{vs:List Value}(h:bh cs o vs i):o+vs.length<=cs.length\/vs=[]:=by
 induction h with
 | z=>exact .inr rfl
 | @s cs cs1 i o v vs h ma k a =>
  left;unfold Zb at h;subst h;rcases a with a | rfl
  ·simp at a ⊢;omega
  ·simp;omega
theorem bh.res {cs:List Value}{o:Nat}{vs:List Value}(h:bh cs o vs i) (ma:o<=cs.length):i=cs.take o++vs++cs.drop (o+vs.length):=by
 induction h with
 | z=>simp
 | @s cs cs1 i o v vs h a k b =>
  unfold Zb at h;subst h;rw [b (by simp;omega)];have ua:(cs.set o v).take (o+1)=cs.take o++[v]:=by
   rw [List.take_set,List.take_add_one,List.getElem?_eq_getElem a];rw [List.set_append_right _ _ (by simp;omega)];simp [Nat.min_eq_left (Nat.le_of_lt a)]
  rw [ua];have c:(cs.set o v).drop (o+1+vs.length)=cs.drop (o+(v::vs).length):=by
   rw [List.drop_set_of_lt (by omega)];congr 1;simp;omega
  rw [c];simp
theorem iE {v:Value}(h:ee v=true):v.oneCell'=true:=by cases v<;>first | rfl | simp [ee] at h
theorem sN {cs:List Value}(b:Ak w c T cs){o:Nat}{vs:List Value}(a:bh cs o vs i) (d:o<=cs.length) (e:vs.all ee=true) :
  ∃ w',(storeCells ⟨c,o,none⟩ vs).run P w=.ok () w'/\Ak w' c T i/\Yi (λk=>k≠c) w w':=by
 have hle:o+0+vs.length<=(⟨cs⟩:Array Value).size:=by
  rcases a.eq with h | rfl
  ·simpa using h
  ·simpa using d
 refine ⟨_,run_storeCells_at P c o T vs 0 ⟨cs⟩ w b hle λv Pa=>iE (List.all_eq_true.1 e v Pa),?_,?_⟩
 ·rw [a.res d];exact setRow_heap w c ⟨cs⟩ _ T (0,0) b
 ·exact ⟨rfl,rfl,rfl,by simp [World.setRow],λk f a=>setRow_other w c k _ a⟩
theorem TE {o k:Nat}  {cs vs:List Value}(d:wb P T pc Dc n m) (e:ab fr b (.pointer (some ⟨c,o,none⟩))) (j:ab fr D f) (Pa:f.cells=⟨vs⟩) (l:vs.length=n) (p:vs.all ee=true)
  (a:Sep S Ic da w rs A) {vf:TypeId}(ma:fc rs k (.ea c vf cs)) (q:bh cs o vs i) (r:(decide (o<=cs.length))=true) (s:Zb rs k (.ea c vf i) rs')
  (Ea:Bf fr dst undef Aa) (h:∀ w',Sep S Ic da w' rs' A->K Aa ds w'):yd P (Oper.mk dst (.store T b D) ty pos after g) fr ds w K Q:=by
 obtain ⟨w',t,u,v⟩:=sN (P:=P) (a.get ma) q (of_decide_eq_true r) p;refine CB (w':=w') ?_ Ea<|h w'<|a.put ma rfl rfl s u v;have ua:f.cells.toList=vs:=by rw [Pa]
 have x:¬ (f.cells.size≠n):=by rw [Pa];simpa using l
 have y:=d.sizeOf (w:=w);simp only [execOp,Instr.storeAt,e ds,j ds,Instr.sureAddr,storeVar,Sem.run_bind,y,Result.andThen_ok,if_neg x,ua,t,Sem.run_pure]
class Wb (P:Program) (T:TypeId) (i:Nat) (off:outParam Nat):Prop where
 out:∀ b o w,(Instr.fieldAt T (.pointer (some ⟨b,o,none⟩)) i).run P w=.ok (.pointer (some ⟨b,o+off,none⟩)) w
variable {u:Array Field}{N:Field}{v:Bool}
theorem cc {off:Nat}  {vf:TypeId}  {a:Nat}  (d:P.underlying T=some (.struct u)) (e:u[c]?=some N) (f:N.offset=off) (g:N.type=vf) (h:wb P vf v i W a) (j:(W == 0)=false):Wb P T c off:=by
 constructor;intro b o w;have k:¬ W=0:=by simpa using j
 simp [Instr.fieldAt,run_underlying d,e,Instr.sureAddr,fieldPlace,g,h.sizeOf,k,il,f]
theorem bm {o i off:Nat}(a:Wb P T i off) (d:ab fr b (.pointer (some ⟨c,o,none⟩))) (e:o+off=W):Cf P (Oper.mk dst (.fieldAddr T b i) ty pos after g) fr ((.pointer (some ⟨c,W,none⟩))):=by
 subst e;exact ⟨λds w=>by simp [execOp,d ds,a.out]⟩
theorem av {o off a:Nat}(d:Wb P T W off) (e:ab fr b (.pointer (some ⟨c,o,none⟩))) (f:o+off=a) (i:Bf fr dst ((.pointer (some ⟨c,a,none⟩))) Aa) (h:K Aa ds w):yd P (Oper.mk dst (.fieldAddr T b W) ty pos after g) fr ds w K Q:=Pb (bm d e f) i h
theorem WQ {off:Nat}{cs:List Value}    {vf:TypeId}  {a:Nat}(d:P.underlying T=some (.struct u)) (e:u[c]?=some N) (h:N.offset=off) (j:N.type=vf) (k:wb P vf false i W a)
  (l:ab fr b (.agg ⟨cs⟩)) (ma:fc cs off f):Cf P (Oper.mk dst (.field T b c) ty pos after g) fr (f):=by
 subst h j;unfold fc at ma;refine ⟨λds w=>?_⟩;simp [execOp,l ds,Instr.field,run_underlying d,e,asAgg,part,k.isAgg,ma]
theorem fw {off:Nat}{cs:List Value}    {vf:TypeId}  {a:Nat}(d:P.underlying T=some (.struct u)) (e:u[c]?=some N) (j:N.offset=off) (k:N.type=vf) (l:wb P vf false i W a)
  (m:ab fr b (.agg ⟨cs⟩)) (ma:fc cs off f) (n:Bf fr dst (f) Aa) (h:K Aa ds w):yd P (Oper.mk dst (.field T b c) ty pos after g) fr ds w K Q:=Pb (WQ d e j k l m ma) n h
variable {k V:Int}
theorem Oy {o len cap:Nat}{k:IntKind}    (a:P.underlying T=some (.slice e)) (d:wb P e pc Dc n m) (f:ab fr b (.slice (some ⟨c,o,none⟩) len cap)) (h:ab fr D (.int k V)) (i:0<=V/\V<len) (j:o+V.toNat*n=W):Cf P (Oper.mk dst (.indexAddr T b D) ty pos after g) fr ((.pointer (some ⟨c,W,none⟩))):=by
 subst j;refine ⟨λds w=>?_⟩;simp [execOp,f ds,h ds,Instr.indexAt,asIntOf,run_underlying a,i,d.sizeOf,il]
variable {Y:Addr}
theorem bq (a:ab fr b (.pointer (some Y))):Cf P (Oper.mk dst (.nilCheck b) ty pos after g) fr ((.pointer (some Y))):=⟨λds w=>by simp [execOp,a ds]⟩
theorem iy (a:ab fr b (.pointer (some Y))) (c:Bf fr dst ((.pointer (some Y))) Aa) (h:K Aa ds w):yd P (Oper.mk dst (.nilCheck b) ty pos after g) fr ds w K Q:=Pb (bq a) c h
end
section
variable {P:Program}{Q:Exit->Act->World->Prop}{K:List Value->List Deferred->World->Prop}{fr Aa:List Value}{ds:List Deferred}{w:World}
variable {dst:Option Tmp}{ty:TypeId}{pos:String}{after:Array Edge}{g:Option (Nat×Bool)}
variable {S Ic:Nat->Prop}{da:World}{rs rs':List Ha}{A:World->Prop}
variable {T:TypeId}{d:TypeDesc}{pc:Bool}{Dc:List Value}{n m:Nat}
inductive ja:List Ha->Nat->List Ha->Prop where
 | z {r:Ha} {rs:List Ha}:ja (r::rs) 0 rs
 | s {r:Ha} {rs rs':List Ha} {k:Nat} (h:ja rs k rs'):ja (r::rs) (k+1) (r::rs')
theorem ja.mem (h:ja rs c rs'):∀ r ∈ rs',r ∈ rs:=by
 induction h with
 | z=>intro r a; exact List.mem_cons_of_mem _ a
 | s _ b=>intro r a; rcases List.mem_cons.1 a with rfl | a; exact List.mem_cons_self; exact List.mem_cons_of_mem _<|b r a
theorem ja.sub (h:ja rs c rs'):rs'.Sublist rs:=by
 induction h with
 | z=>exact List.sublist_cons_self _ _
 | s _ a=>exact a.cons_cons _
theorem Sep.drop {k:Nat}(h:Sep S Ic da w rs A) (a:ja rs k rs'):Sep S Ic da w rs' A where
 keeps:=h.keeps
 all r d:=h.all r (a.mem r d)
 ti:=(a.sub.filterMap _).nodup h.ti
 new b e:=h.new b ((a.sub.filterMap _).subset e)
 bj:=h.bj.mono λ_ _ c=>⟨c.1,λf=>c.2 ((a.sub.filterMap _).subset f)⟩
theorem Sep.freeze (h:Sep S Ic da w rs A) (ma:fc rs W M) (d:ja rs W rs') (f:∀ b,M.block=some b->Ic b\/da.heap.size<=b) (hB:∀ w,M.holds w->E w) :
  Sep S Ic da w rs' λw=>A w/\E w where
 keeps:=(h.drop d).keeps
 all:=(h.drop d).all
 ti:=(h.drop d).ti
 new:=(h.drop d).new
 bj:=(h.drop d).bj.and λw' k g=>hB w' (holds_of (h.get ma) λb e=>g b (h.lt (Ts (aB ma) e)) ⟨f b e,by
  intro a;have:blocks rs'=(blocks rs).erase b\/True:=.inr trivial;clear this;have Ea:=h.ti;clear hB f k g h;unfold blocks at a Ea;unfold fc at ma
  induction d with
  | z=>simp at ma; subst ma; simp only [List.filterMap_cons,e,List.nodup_cons] at Ea; exact Ea.1 a
  | @s r' rs rs' W d i =>
   simp at ma;cases j:r'.block with
   | none=>simp only [List.filterMap_cons,j] at a Ea; exact i ma a Ea
   | some c =>
    simp only [List.filterMap_cons,j,List.nodup_cons,List.mem_cons] at a Ea;rcases a with rfl | a
    ·exact Ea.1<|List.mem_filterMap.2 ⟨M,List.mem_of_getElem? ma,e⟩
    ·exact i ma a Ea.2⟩)
inductive Bc (fr:List Value):Nat->List (Nat×Operand)->List Value->Prop where
 | z {i:Nat}:Bc fr i [] []
 | s {i:Nat} {x:Operand} {v:Value} {xs:List (Nat×Operand)} {vs:List Value} (h:ab fr x v) (a:ee v=true) (t:Bc fr (i+1) xs vs):Bc fr i ((i,x)::xs) (v::vs)
theorem Bc.eval {i:Nat}{xs:List (Nat×Operand)}{vs:List Value}(h:Bc fr i xs vs):xs.map (λp=>(p.1,(F fr ds).eval p.2))=(vs.zipIdx i).map λp=>(p.2,p.1):=by
 induction h with
 | z=>rfl
 | s h _ _ a=>simp [h ds,a]
theorem Bc.cell {i:Nat}{xs:List (Nat×Operand)}{vs:List Value}(h:Bc fr i xs vs):∀ v ∈ vs,ee v=true:=by
 induction h with
 | z=>simp
 | s _ a _ b=>intro v Pa; rcases List.mem_cons.1 Pa with rfl | Pa; exact a; exact b v Pa
theorem KD (h:ee f=true):f.cells=#[f]:=by cases f<;>first | rfl | simp [ee] at h
theorem wI (pl:Nat->Option (Nat×Nat)) (a:∀ i,pl i=some (i,1)):∀ (vs:List Value) (i:Nat) (cs:List Value),(∀ v ∈ vs,ee v=true)->i+vs.length<=cs.length ->
  Instr.fill pl ⟨cs⟩ ((vs.zipIdx i).map λp=>(p.2,p.1))=some ⟨cs.take i++vs++cs.drop (i+vs.length)⟩
 | [],i,cs,_,h=>by simp [Instr.fill]
 | v::vs,i,cs,Pa,h=>by
  have d:=KD (Pa v (by simp));have b:i<cs.length:=by simp at h;omega
  have e:=wI pl a vs (i+1) (cs.set i v) (λu f=>Pa u (by simp [f])) (by simp at h ⊢;omega);simp only [List.zipIdx_cons,List.map_cons,Instr.fill,a,d];have qb:¬ ((#[v].size≠1 || i+#[v].size > (⟨cs⟩:Array Value).size)=true):=by simp;omega
  rw [if_neg qb];have ua:(#[v].zipIdx.foldl (λcs (c,j)=>cs.setIfInBounds (i+j) c) (⟨cs⟩:Array Value))=⟨cs.set i v⟩:=by
   simp [Array.zipIdx]
  rw [ua,e];have g:(cs.set i v).take (i+1)=cs.take i++[v]:=by
   rw [List.take_set,List.take_add_one,List.getElem?_eq_getElem b];rw [List.set_append_right _ _ (by simp;omega)];simp [Nat.min_eq_left (Nat.le_of_lt b)]
  have k:(cs.set i v).drop (i+1+vs.length)=cs.drop (i+(v::vs).length):=by
   rw [List.drop_set_of_lt (by omega)];congr 1;simp;omega
  rw [g,k];simp
theorem Pg {e:TypeId}{len:Nat}{xs:List (Nat×Operand)}{vs:List Value}(l:P.underlying T=some (.slice e)) (a:wb P e pc Dc 1 m) (c:Bc fr 0 xs vs) (d:vs.length=len) (n:(decide (len<=16777216))=true) (o:Sep S Ic da w rs A)
  (h:∀ b w',w.heap.size<=b->Sep S Ic da w' (.ea b e vs::rs) A->Rg fr dst (.slice (some ⟨b,0,none⟩) len len) λAa=>K Aa ds w'):yd P (Oper.mk dst (.buildSlice T len ⟨xs⟩) ty pos after g) fr ds w K Q:=by
 obtain ⟨Aa,Ea⟩:=Xi fr dst (.slice (some ⟨w.heap.size,0,none⟩) len len);refine Qh (v:=.slice (some ⟨w.heap.size,0,none⟩) len len) (w':=w.alloc (.cells ⟨vs⟩ e)) ?_ Ea<|h _ _ (Nat.le_refl _) (o.alloc rfl<|heap_alloc_new w _) Aa Ea;obtain ⟨z,q,u⟩:=a.zero (w:=w);have r:=a.sizeOf (w:=w);have s:¬ (len*1 > 2 ^ 24):=by have:=of_decide_eq_true n;omega
 have t:=c.eval (ds:=ds);have f:∀ cs:Array Value,cs.size=len->Instr.fill (λi=>some (i*1,1)) cs ((vs.zipIdx 0).map λp=>(p.2,p.1))=some ⟨vs⟩:=by
  intro cs j;have:=wI (λi=>some (i*1,1)) (λi=>by rw [Nat.mul_one]) vs 0 cs.toList c.cell (by simp [d,j]);rw [this,List.drop_eq_nil_of_le (by simp [d,j])];simp
 have ma:((⟨xs⟩:Array (Nat×Operand)).map λ(i,x)=>(i,(F fr ds).eval x)).toList=(vs.zipIdx 0).map λp=>(p.2,p.1):=by
  simp only [Array.toList_map];exact t
 unfold execOp;simp only [Instr.buildSlice,Sem.run_bind,run_underlying l,Result.andThen_ok,r,if_neg s,ma];by_cases k:len*1=0
 ·simp only [if_pos k,Sem.run_bind,Sem.run_pure,Result.andThen_ok];rw [f _ (by simp)];simp [newRow]
 ·simp only [if_neg k,Sem.run_bind,Sem.run_pure,Result.andThen_ok,q];rw [f _ (by simp)];simp [newRow]
theorem Sep.row {k:Nat}{v q:Value}{sz x:Nat}{xs y:List Value}{w':World}(g:Sep S Ic da w rs A) (ma:fc rs k (.row v T sz n xs)) (D:Zb rs k (.row q T sz x y) rs') (G:Row w' q T sz x y)
  (p:Yi (λb=>some b≠v.ownBlock) w w') (Pa:q.ownBlock=v.ownBlock\/∃ b,q.ownBlock=some b/\w.heap.size<=b):Sep S Ic da w' rs' A:=by
 unfold Zb at D;subst D;have z:∀ b,v.ownBlock=some b->b ∈ blocks rs:=λb d=>Ts (aB ma) d;have B:∀ b ∈ blocks (rs.set k (.row q T sz x y)),(b ∈ blocks rs)\/(q.ownBlock=some b/\w.heap.size<=b):=by
  intro b d;obtain ⟨r,u,o⟩:=List.mem_filterMap.1 d;rcases List.mem_or_eq_of_mem_set u with f | rfl
  ·exact .inl<|Ts f o
  ·rcases Pa with Pa | ⟨c,s,hle⟩
   ·exact .inl<|z b<|Pa ▸ o
   ·have:c=b:=by simpa [Ha.block,s] using o
    subst this;exact .inr ⟨s,hle⟩
 have H:∀ b ∈ blocks rs,b ∈ blocks (rs.set k (.row q T sz x y))\/v.ownBlock=some b:=by
  intro b d;obtain ⟨r,u,o⟩:=List.mem_filterMap.1 d;obtain ⟨j,C⟩:=List.mem_iff_getElem?.1 u;by_cases e:k=j
  ·subst e;unfold fc at ma;rw [ma] at C;cases C;exact .inr o
  ·exact .inl<|Ts (r:=r) (List.mem_of_getElem? (i:=j) (by rw [List.getElem?_set_ne e];exact C)) o
 refine ⟨?_,?_,?_,?_,?_⟩
 ·refine ⟨p.os.trans g.keeps.os,p.tape.trans g.keeps.tape,p.output.trans g.keeps.output,Nat.le_trans g.keeps.size p.size,λb d t=>?_⟩;rw [p.ea b (Nat.lt_of_lt_of_le d g.keeps.size) (λe=>by rcases g.new b (z b e.symm) with h | h;exact absurd d (by omega);exact h t)];exact g.keeps.ea b d t
 ·intro K L;obtain ⟨j,f⟩:=List.mem_iff_getElem?.1 L;by_cases e:k=j
  ·subst e;have m:k<rs.length:=(List.getElem?_eq_some_iff.1 ma).1;rw [List.getElem?_set_self m] at f;cases f;exact G
  ·rw [List.getElem?_set_ne e] at f;refine holds_of (g.all K<|List.mem_of_getElem? f) λc s=>p.ea c (g.lt<|Ts (List.mem_of_getElem? f) s) λM=>?_;exact CH g.ti ma f e (b:=c) M.symm s
 ·have Ea:=g.ti;have m:=λb (d:b ∈ blocks rs)=>g.lt d;clear B H z;unfold fc at ma
  revert ma Ea m
  generalize rs=l;unfold blocks;intro ma Ea m
  induction l generalizing k with
  | nil=>simp at ma
  | cons a l E =>
   cases k with
   | zero =>
    simp at ma;subst ma;simp only [List.set_cons_zero,List.filterMap_cons,Ha.block] at Ea m ⊢;rcases Pa with Pa | ⟨c,s,hle⟩
    ·rw [Pa];exact Ea
    ·rw [s];cases d:v.ownBlock with
     | none =>
      rw [d] at Ea m;exact List.nodup_cons.2 ⟨λf=>by have:=m c f;omega,Ea⟩
     | some b =>
      rw [d] at Ea m;exact List.nodup_cons.2 ⟨λf=>by have:=m c (List.mem_cons_of_mem _ f);omega,(List.nodup_cons.1 Ea).2⟩
   | succ k =>
    simp at ma;simp only [List.set_cons_succ,List.filterMap_cons] at Ea m ⊢;cases F:a.block with
    | none=>rw [F] at Ea m; exact E ma Ea m
    | some c =>
     rw [F] at Ea m;simp only [List.nodup_cons] at Ea ⊢;refine ⟨λf=>?_,E ma Ea.2 λb d=>m b (List.mem_cons_of_mem _ d)⟩;obtain ⟨r,u,o⟩:=List.mem_filterMap.1 f;rcases List.mem_or_eq_of_mem_set u with f | rfl
     ·exact Ea.1<|List.mem_filterMap.2 ⟨r,f,o⟩
     ·rcases Pa with Pa | ⟨c',N,hle⟩
      ·exact Ea.1<|List.mem_filterMap.2 ⟨_,List.mem_of_getElem? ma,by rw [<- o];exact Pa.symm⟩
      ·have:c'=c:=by simpa [Ha.block,N] using o
       have:=m c (by simp);omega
 ·intro b d;rcases B b d with h | h
  ·exact g.new b h
  ·exact .inl<|Nat.le_trans g.keeps.size h.2
 ·intro O P Q;refine g.bj O (Nat.le_trans p.size P) λb d t=>?_;rw [Q b (Nat.lt_of_lt_of_le d p.size) ⟨t.1,λf=>by rcases B b f with h | h;exact t.2 h;exact absurd d (by omega)⟩];exact p.ea b d λe=>t.2 (z b e.symm)
end
section
variable {P:Program}{Q:Exit->Act->World->Prop}{K:List Value->List Deferred->World->Prop}{fr Aa:List Value}{ds:List Deferred}{w:World}
variable {dst:Option Tmp}{ty:TypeId}{pos:String}{after:Array Edge}{g:Option (Nat×Bool)}
variable {S Ic:Nat->Prop}{da:World}{rs rs':List Ha}{A:World->Prop}
variable {T:TypeId}{d:TypeDesc}{pc:Bool}{Dc:List Value}{n m:Nat}
theorem rM {t ty:TypeId}{sz bytes:Nat}(p:P.underlying t=some (.slice T)) (L:wb P T pc Dc sz bytes) (M:Dc.length=sz) (Gb:0<sz)
  {v:Value}{xs:List Value}(h:Row w v T sz n xs) {a:Addr}{c:Nat}{news:List Value}(ma:news.length=W*sz) (x:∀ j u,news[j]?=some u->w.cell? (a.add j)=some u) (N:∀ u ∈ news,u.oneCell'=true)
  (D:n+W<=maxLen) (E:(n+W)*bytes<=140737488355328) :
  ∃ q w',(Builtin.append_ #[t,t] ty #[v,.slice (some a) W c]).run P w=.ok q w'/\Row w' q T sz (n+W) (xs++news)/\Yi (λb=>some b≠v.ownBlock) w w' /\
   (q.ownBlock=v.ownBlock\/∃ b,q.ownBlock=some b/\w.heap.size<=b):=by
 obtain ⟨i,z,r,F,O,G,Q⟩:=L.inf;have R:z.cells.size=i.size:=by rw [O,G];simpa using M
 subst G;subst Q;have gc:n+W<=9223372036854775807:=by simp only [maxLen] at D;omega
 have s:(xs++news).length=(n+W)*i.size:=by rw [List.length_append,h.1,ma,Nat.add_mul]
 have grown:∀ (d:Nat),d<n+W->∀ (row:Option Nat),
   Row (w.drew.alloc (.cells (xs.toArray++news.toArray++Builtin.zeroCells z.cells (grownCap w (n+W) d T - (n+W))) T)) (.slice (some ⟨w.heap.size,0,none⟩) (n+W) (grownCap w (n+W) d T)) T i.size (n+W) (xs++news) /\
   Yi (λb=>some b≠row) w (w.drew.alloc (.cells (xs.toArray++news.toArray++Builtin.zeroCells z.cells (grownCap w (n+W) d T - (n+W))) T)):=by
  intro d lc row;have S:=grownCap_ge w (n+W) d T;have y:grownCap w (n+W) d T<=maxLen:=grownCap_le_maxLen w (n+W) d T D;refine ⟨⟨s,.inr ⟨w.heap.size,0,_,_,rfl,heap_alloc_new w.drew _,S,y,?_,?_⟩⟩,⟨rfl,rfl,rfl,by simp,λk A _=>heap_alloc_old w.drew _ k A⟩⟩
  ·simp only [Array.size_append,List.size_toArray,size_zeroCells,R,h.1,ma,<- Nat.add_mul,Nat.zero_add];exact Nat.mul_le_mul_right _ (by omega)
  ·simp only [Array.toList_append,List.append_assoc,List.drop_zero];rw [<- List.append_assoc,<- s];exact List.take_left
 rcases h.2 with ⟨rfl,rfl⟩ | ⟨g,o,cap,cur,rfl,B,rc,y,fd,H⟩
 ·have U:xs=[]:=List.eq_nil_of_length_eq_zero (by simpa using h.1);subst U;by_cases hm:W=0
  ·subst hm;have V:news=[]:=List.eq_nil_of_length_eq_zero (by simpa using ma);subst V;refine ⟨.slice none 0 0,w,?_,⟨by simp,.inl ⟨rfl,rfl⟩⟩,.refl w,.inl rfl⟩;simp [Builtin.append_,run_underlying p,sizeOf,typeInfo,r,Builtin.lenOf,Builtin.firstCells,loadCells,loadCellsFrom]
  ·have l:=run_append_nil (P:=P) w t ty T i z p r F a W c news ma x (by omega) (by omega) (by have X:=E;simp only [Nat.zero_add] at X;omega);have f:=grown 0 (by omega) (Value.ownBlock (.slice none 0 0));simp only [Nat.zero_add,List.nil_append,Array.empty_append] at f ⊢;exact ⟨_,_,l,f.1,f.2,.inr ⟨_,rfl,Nat.le_refl _⟩⟩
 ·by_cases C:n+W<=cap
  ·have hmul:n*i.size+news.length<=cap*i.size:=by rw [ma,<- Nat.add_mul];exact Nat.mul_le_mul_right _ C
   have Y:o+n*i.size+news.length<=cur.size:=by omega
   have l:(Builtin.append_ #[t,t] ty #[.slice (some ⟨g,o,none⟩) n cap,.slice (some a) W c]).run P w =
     .ok (.slice (some ⟨g,o,none⟩) (n+W) cap) (w.setRow g (cur.toList.take (o+n*i.size)++news++cur.toList.drop (o+n*i.size+news.length)).toArray):=by
    have Z:=run_firstCells_some (P:=P) w i.size W a W c news ma x;have K:=run_storeCells_at P g (o+n*i.size) T news 0 cur w B (by simpa using Y) N;simp only [Nat.add_zero] at K;simp [Builtin.append_,run_underlying p,sizeOf,typeInfo,r,Builtin.lenOf,C,Z,il,K]
   refine ⟨_,_,l,⟨s,.inr ⟨g,o,cap,_,rfl,setRow_heap w g cur _ T _ B,C,y,?_,?_⟩⟩,⟨rfl,rfl,rfl,by simp [World.setRow],λk _ A=>setRow_other w g k _ (λe=>A (by simp [Value.ownBlock,e]))⟩,.inl rfl⟩
   ·simp only [List.size_toArray,List.length_append,List.length_take,List.length_drop,Array.length_toList];omega
   ·rw [<- s,<- H];have ua:(cur.toList.take (o+n*i.size)).drop o=(cur.toList.drop o).take (n*i.size):=by
     rw [List.drop_take];congr 1;omega
    have bb:o<=(cur.toList.take (o+n*i.size)).length:=by simp;omega
    rw [List.append_assoc,List.drop_append_of_le_length bb,ua,<- List.append_assoc];exact List.take_left
  ·have holds:∀ j u,xs[j]?=some u->w.cell? ((⟨g,o,none⟩:Addr).add j)=some u:=by
    intro j u m;rw [il,cell_of_row w g (o+j) cur T (0,0) B];rw [<- H,List.getElem?_take] at m;split at m
    ·rw [List.getElem?_drop] at m;simpa using m
    ·cases m
   have l:=run_append_grow (P:=P) w t ty T i z p r F ⟨g,o,none⟩ n cap xs h.1 holds a W c news ma x (by omega) (by omega) (growslice_fits (by omega) E);have f:=grown cap (by omega) (Value.ownBlock (.slice (some ⟨g,o,none⟩) n cap));exact ⟨_,_,l,f.1,f.2,.inr ⟨_,rfl,Nat.le_refl _⟩⟩
theorem Sep.ri (h:Sep S Ic da w rs A) (T:TypeId) (sz:Nat):Sep S Ic da w (.row (.slice none 0 0) T sz 0 []::rs) A where
 keeps:=h.keeps
 all r a:=by
  rcases List.mem_cons.1 a with rfl | a
  ·exact ⟨by simp,.inl ⟨rfl,rfl⟩⟩
  ·exact h.all r a
 ti:=h.ti
 new:=h.new
 bj:=h.bj
theorem Gu {v:Value}{sz bytes k o f c:Nat}{xs news:List Value}(q:P.underlying e=some (.slice T)) (r:wb P T pc Dc sz bytes) (i:(Dc.length == sz && decide (0<sz))=true)
  (s:ab fr b v) (t:ab fr D (.slice (some ⟨W,o,none⟩) f c)) (m:Sep S Ic da w rs A) (ma:fc rs k (.row v T sz n xs)) (x:lj w W o news) (y:news.length=f*sz) (z:news.all ee=true)
  (p:n+f<=4294967296/\bytes<=4096)
  (h:∀ d w' rs',Zb rs k (.row d T sz (n+f) (xs++news)) rs'->Sep S Ic da w' rs' A->Rg fr dst d λAa=>K Aa ds w') :
  yd P (Oper.mk dst (.call { callee:=.builtin .append,args:=#[b,D],argTypes:=#[e,e] }) ty pos after g) fr ds w K Q:=by
 simp only [Bool.and_eq_true,beq_iff_eq,decide_eq_true_eq] at i;have B:(n+f)*bytes<=140737488355328:=Nat.le_trans (Nat.mul_le_mul p.1 p.2) (by decide);obtain ⟨d,w',C,E,F,Pa⟩:=rM (P:=P) (ty:=ty) q r i.1 i.2 (m.get ma) (a:=⟨W,o,none⟩) (c:=c) y (λj u l=>by rw [il];exact x j u l) (λu l=>iE (List.all_eq_true.1 z u l)) (by unfold maxLen;omega) B;obtain ⟨Aa,Ea⟩:=Xi fr dst d;refine Qh (v:=d) (w':=w') ?_ Ea<|h d w' _ rfl (m.row ma rfl E F Pa) Aa Ea;have ua:=s ds;have G:=t ds;simp [execOp,resolve,invoke,builtin,ua,G,C]
inductive ix (P:Program) (fr:List Value) (w:World):ResultVar->Value->Prop where
 | t {n:Nat} {v:Value} (h:fc fr n v):ix P fr w (.tmp n) v
 | c {n b o:Nat} {v:Value} {T:TypeId} {Dc:List Value} {k m:Nat} (h:fc fr n (.pointer (some ⟨b,o,none⟩))) (d:wb P T false Dc k m) (e:w.cell? ⟨b,o,none⟩=some v):ix P fr w (.cell n T) v
 | a {n b o:Nat} {cs:List Value} {T:TypeId} {Dc:List Value} {k m:Nat} (h:fc fr n (.pointer (some ⟨b,o,none⟩))) (d:wb P T true Dc k m) (e:lj w b o cs) (f:cs.length=k):ix P fr w (.cell n T) (.agg ⟨cs⟩)
inductive jb (P:Program) (fr:List Value) (w:World):List ResultVar->List Value->Prop where
 | z:jb P fr w [] []
 | s {r:ResultVar} {v:Value} {rs:List ResultVar} {vs:List Value} (h:ix P fr w r v) (t:jb P fr w rs vs):jb P fr w (r::rs) (v::vs)
def vo (tmps:Array Value):ResultVar->Sem Value
 | .tmp t=>pure (tmps.getD t undef)
 | .cell a t=>do loadVar t (<- asAddr (tmps.getD a undef))
theorem mD (fn:Func) (tmps:Array Value):results fn tmps=(do
  let vs <- fn.results.mapM (vo tmps)
  pure (if h:vs.size=1 then vs[0] else .tuple vs)):=by
 unfold results;congr 1
theorem ix.run {r:ResultVar}{v:Value}(h:ix P fr w r v):(vo (F fr ds).tmps r).run P w=.ok v w:=by
 cases h with
 | t h=>unfold fc at h; simp [vo,F,h]
 | c h d e=>unfold fc at h; simp [vo,F,h,asAddr,loadVar,d.isAgg,e]
 | a h d e f =>
  unfold fc at h;rename_i n b o cs T Dc k m;have ma:=run_loadCells_list (P:=P) w ⟨b,o,none⟩ cs (λj v g=>by rw [il];exact e j v g);rw [f] at ma;simp [vo,F,h,asAddr,loadVar,d.isAgg,d.sizeOf,ma]
theorem jb.run {rs:List ResultVar}{vs:List Value}(h:jb P fr w rs vs):(rs.mapM (vo (F fr ds).tmps)).run P w=.ok vs w:=by
 induction h with
 | z=>simp
 | @s r v rs vs h _ a =>
  have b:=h.run (ds:=ds);simp only [List.mapM_cons,Sem.run_bind];rw [b];simp only [Result.andThen_ok];rw [a];simp
def cv:List Value->Value
 | [v]=>v
 | vs=>.tuple ⟨vs⟩
variable {H:List ResultVar}
theorem DH {fn:Func}  {vs:List Value}(a:fn.results=⟨H⟩) (h:jb P fr w H vs):(results fn (F fr ds).tmps).run P w=.ok (cv vs) w:=by
 have b:=h.run (ds:=ds);rw [mD,a];rw [Array.mapM_eq_mapM_toList];simp only [Sem.run_bind,Sem.run_map,b,Result.andThen_ok]
 match vs with
 | []=>simp [cv]
 | [v]=>simp [cv]
 | v::c::vs=>simp [cv]
theorem Se {fn:Func}{R:Value->World->Prop}  {vs:List Value}(a:fn.results=⟨H⟩) (Pa:jb P fr w H vs) (h:R (cv vs) w):sq P fn R .ret (F fr []) w :=
 bodyPost_ret (DH a Pa) rfl h
end
section
variable {P:Program}{Q:Exit->Act->World->Prop}{K:List Value->List Deferred->World->Prop}{fr Aa:List Value}{ds:List Deferred}{w:World}
variable {dst:Option Tmp}{ty:TypeId}{pos:String}{after:Array Edge}{g:Option (Nat×Bool)}
variable {S Ic:Nat->Prop}{da:World}{rs rs':List Ha}{A:World->Prop}
variable {T:TypeId}{d:TypeDesc}{pc:Bool}{Dc:List Value}{n m:Nat}
theorem Sep.ea {k b:Nat}{cs:List Value}(h:Sep S Ic da w rs A) (ma:fc rs k (.ea b T cs)):Ak w b T cs:=h.get ma
inductive dh:List Value->Nat->List Value->Prop where
 | z {cs:List Value} {o:Nat}:dh cs o []
 | s {cs:List Value} {o:Nat} {v:Value} {vs:List Value} (h:fc cs o v) (t:dh cs (o+1) vs):dh cs o (v::vs)
theorem dh.at {cs:List Value}{o:Nat}{vs:List Value}(h:dh cs o vs):∀ j v,vs[j]?=some v->cs[o+j]?=some v:=by
 induction h with
 | z=>intro j v h; simp at h
 | @s o v vs h t b =>
  intro j u a;cases j with
  | zero=>simp at a; subst a; exact h
  | succ j=>have:=b j u (by simpa using a); rw [show o+(j+1)=o+1+j by omega]; exact this
theorem Ak.nt {o:Nat}{cs vs:List Value}(h:Ak w c T cs) (a:dh cs o vs):lj w c o vs:=λj v b=>h.cell (a.at j v b)
variable {i:List Value}
theorem zc {o k:Nat}  {cs:List Value}(d:wb P T pc Dc 1 m) (e:ab fr b (.pointer (some ⟨c,o,none⟩))) (j:ab fr D f) (Pa:ee f=true)
  (l:Sep S Ic da w rs A) {vf:TypeId}(ma:fc rs k (.ea c vf cs)) (n:Zb cs o f i) (a:(decide (o<cs.length))=true) (p:Zb rs k (.ea c vf i) rs')
  (Ea:Bf fr dst undef Aa) (h:∀ w',Sep S Ic da w' rs' A->K Aa ds w'):yd P (Oper.mk dst (.store T b D) ty pos after g) fr ds w K Q :=
 TE (vs:=[f]) d e j (KD Pa) rfl (by simp [Pa]) l ma (.s n (of_decide_eq_true a) .z) (decide_eq_true (Nat.le_of_lt (of_decide_eq_true a))) p Ea h
structure Re (P:Program) (T:TypeId) (pl:Array (Nat×Nat)):Prop where
 out:∃ a,P.underlying T=some (.struct a)/\∀ w,((a.mapM λf=>do pure (f.offset,<- Go.sizeOf f.type):Sem (Array (Nat×Nat))).run P w)=.ok pl w
variable {u:Array Field}
theorem Yg {pl:Array (Nat×Nat)}(a:P.underlying T=some (.struct u)) (h:∀ w,((u.mapM λf=>do pure (f.offset,<- Go.sizeOf f.type):Sem (Array (Nat×Nat))).run P w)=.ok pl w):Re P T pl:=⟨u,a,h⟩
inductive cb (fr:List Value) (pl:Array (Nat×Nat)):List Value->List (Nat×Operand)->List Value->Prop where
 | z {cs:List Value}:cb fr pl cs [] cs
 | o {cs cs1 out:List Value} {i off:Nat} {x:Operand} {v:Value} {xs:List (Nat×Operand)} (a:pl[i]?=some (off,1)) (b:ab fr x v) (Pa:ee v=true) (c:decide (off<cs.length)=true) (d:Zb cs off v cs1) (t:cb fr pl cs1 xs out):cb fr pl cs ((i,x)::xs) out
 | n {cs cs1 out vs:List Value} {i off n:Nat} {x:Operand} {xs:List (Nat×Operand)} (a:pl[i]?=some (off,n)) (b:ab fr x (.agg ⟨vs⟩)) (e:vs.length=n) (c:decide (off+n<=cs.length)=true) (d:bh cs off vs cs1) (t:cb fr pl cs1 xs out):cb fr pl cs ((i,x)::xs) out
theorem Az:∀ (vs:List Value) (off j:Nat) (cs:List Value),off+j+vs.length<=cs.length ->
  ((vs.zipIdx j).foldl (λ(cs:Array Value) (p:Value×Nat)=>cs.setIfInBounds (off+p.2) p.1) ⟨cs⟩)=⟨cs.take (off+j)++vs++cs.drop (off+j+vs.length)⟩
 | [],off,j,cs,_=>by simp
 | v::vs,off,j,cs,h=>by
  have a:off+j<cs.length:=by simp at h;omega
  rw [List.zipIdx_cons,List.foldl_cons];have qb:(⟨cs⟩:Array Value).setIfInBounds (off+j) v=⟨cs.set (off+j) v⟩:=by simp
  simp only [qb];rw [Az vs off (j+1) (cs.set (off+j) v) (by simp at h ⊢;omega)];have b:(cs.set (off+j) v).take (off+(j+1))=cs.take (off+j)++[v]:=by
   rw [show off+(j+1)=off+j+1 by omega,List.take_set,List.take_add_one,List.getElem?_eq_getElem a];rw [List.set_append_right _ _ (by simp;omega)];simp [Nat.min_eq_left (Nat.le_of_lt a)]
  have c:(cs.set (off+j) v).drop (off+(j+1)+vs.length)=cs.drop (off+j+(v::vs).length):=by
   rw [List.drop_set_of_lt (by omega)];congr 1;simp;omega
  rw [b,c];simp
theorem cb.run {pl:Array (Nat×Nat)}{cs out:List Value}{xs:List (Nat×Operand)}(h:cb fr pl cs xs out):Instr.fill (pl[·]?) ⟨cs⟩ (xs.map λp=>(p.1,(F fr ds).eval p.2))=some ⟨out⟩:=by
 induction h with
 | z=>rfl
 | @o cs cs1 out i off x v xs b d Pa e a t f =>
  have g:=of_decide_eq_true e;simp only [List.map_cons,Instr.fill,b,d ds,KD Pa];have qb:¬ ((#[v].size≠1 || off+#[v].size > (⟨cs⟩:Array Value).size)=true):=by simp;omega
  rw [if_neg qb];have ua:(#[v].zipIdx.foldl (λcs (c,j)=>cs.setIfInBounds (off+j) c) (⟨cs⟩:Array Value))=⟨cs1⟩:=by
   unfold Zb at a;subst a;simp [Array.zipIdx]
  rw [ua];exact f
 | @n cs cs1 out vs i off n x xs b d k e a t f =>
  have g:=of_decide_eq_true e;simp only [List.map_cons,Instr.fill,b,d ds];have qb:¬ (((Value.agg ⟨vs⟩).cells.size≠n || off+(Value.agg ⟨vs⟩).cells.size > (⟨cs⟩:Array Value).size)=true):=by simp [Value.cells,k];omega
  rw [if_neg qb];have ua:((Value.agg ⟨vs⟩).cells.zipIdx.foldl (λcs (c,j)=>cs.setIfInBounds (off+j) c) (⟨cs⟩:Array Value))=⟨cs1⟩:=by
   have:=Az vs off 0 cs (by omega);rw [a.res (by omega)];simp only [Nat.add_zero] at this;rw [<- this];rw [<- Array.foldl_toList];simp [Value.cells]
  rw [ua];exact f
theorem Le {pl:Array (Nat×Nat)}{xs:List (Nat×Operand)}{out:List Value}(a:wb P T pc Dc n m) (b:Re P T pl) (c:cb fr pl Dc xs out) (d:Bf fr dst (.agg ⟨out⟩) Aa) (h:K Aa ds w) :
  yd P (Oper.mk dst (.build T ⟨xs⟩) ty pos after g) fr ds w K Q:=by
 refine Qh (v:=.agg ⟨out⟩) (w':=w) ?_ d h;obtain ⟨z,e,f⟩:=a.zero (w:=w);have j:=c.run (ds:=ds);obtain ⟨q,k,l⟩:=b.out;have o:=l w;have ma:((⟨xs⟩:Array (Nat×Operand)).map λ(i,x)=>(i,(F fr ds).eval x)).toList=xs.map λp=>(p.1,(F fr ds).eval p.2):=by simp
 unfold execOp;simp only [Instr.build,Sem.run_bind,e,Result.andThen_ok,run_underlying k];rw [o];simp only [Result.andThen_ok,f,ma];rw [j];simp
theorem kp {cs:List Value}(k:P.underlying T=some (.slice e)) (j:wb P e pc Dc n m) (c:(Dc.length == n && decide (0<n) && decide (n<=1000))=true) (l:ab fr D (.agg ⟨cs⟩)) (d:cs.length=n) (o:Sep S Ic da w rs A)
  (h:∀ b w',w.heap.size<=b->Sep S Ic da w' (.ea b e cs::rs) A->Rg fr dst (.slice (some ⟨b,0,none⟩) 1 1) λAa=>K Aa ds w'):yd P (Oper.mk dst (.buildSlice T 1 #[(0,D)]) ty pos after g) fr ds w K Q:=by
 obtain ⟨Aa,Ea⟩:=Xi fr dst (.slice (some ⟨w.heap.size,0,none⟩) 1 1);refine Qh (v:=.slice (some ⟨w.heap.size,0,none⟩) 1 1) (w':=w.alloc (.cells ⟨cs⟩ e)) ?_ Ea<|h _ _ (Nat.le_refl _) (o.alloc rfl<|heap_alloc_new w _) Aa Ea;obtain ⟨z,p,x⟩:=j.zero (w:=w);have q:=j.sizeOf (w:=w);simp only [Bool.and_eq_true,beq_iff_eq,decide_eq_true_eq] at c;have r:¬ (1*n > 2 ^ 24):=by have:=c.2;omega
 have s:¬ (1*n=0):=by have:=c.1.2;omega
 have t:∀ a:Array Value,a.size=n->Instr.fill (λi=>some (i*n,n)) a [(0,Value.agg ⟨cs⟩)]=some ⟨cs⟩:=by
  intro a f;simp only [Instr.fill];have qb:¬ (((Value.agg ⟨cs⟩).cells.size≠n || 0*n+(Value.agg ⟨cs⟩).cells.size > a.size)=true):=by simp [Value.cells,d,f]
  rw [if_neg qb];congr 1;have u:=Az cs (0*n) 0 a.toList (by simp [d,f]);rw [<- Array.foldl_toList];have ua:(Value.agg ⟨cs⟩).cells.zipIdx.toList=cs.zipIdx 0:=by simp [Value.cells]
  rw [ua];refine u.trans ?_;rw [List.drop_eq_nil_of_le (by simp [d,f])];simp
 have ma:(#[(0,D)].map λ(i,D)=>(i,(F fr ds).eval D)).toList=[(0,Value.agg ⟨cs⟩)]:=by simp [l ds]
 unfold execOp;simp only [Instr.buildSlice,Sem.run_bind,run_underlying k,Result.andThen_ok,q,if_neg r,ma,if_neg s,Sem.run_pure,p];rw [t _ (by simp)];simp [newRow]
end
theorem Sep.pe {Ic:Nat->Prop}{da:World}{rs rs':List Ha}{A:World->Prop}{k:Nat}  (h:Sep p Ic da q (rs.set k M) A) (a:Zb rs k M rs'):Sep p Ic da q rs' A:=by
 unfold Zb at a;rw [<- a];exact h
theorem Sep.drew {Ic:Nat->Prop}{da w':World}{rs:List Ha}{A:World->Prop}(h:Sep p Ic da q rs A) (a:w'.heap=q.heap) (b:w'.os=q.os) (c:w'.tape=q.tape) (d:w'.output=q.output):Sep p Ic da w' rs A :=
 h.grow ⟨b,c,d,by rw [a];exact Nat.le_refl _,λk _ _=>by rw [a]⟩
section
variable {P:Program}{Q:Exit->Act->World->Prop}{K:List Value->List Deferred->World->Prop}{fr Aa:List Value}{ds:List Deferred}{w:World}
variable {dst:Option Tmp}{ty:TypeId}{pos:String}{after:Array Edge}{g:Option (Nat×Bool)}
variable {T:TypeId}
theorem jE (a b:ByteArray):(a == b)=true ↔ a=b:=by
 obtain ⟨x⟩:=a;obtain ⟨y⟩:=b;constructor
 ·intro h;have e:x=y:=by simpa using (show (x == y)=true from h)
  rw [e]
 ·intro h;cases h;show (x == x)=true;simp
structure Rr (P:Program) (m:Nat) (T:TypeId) (v a:Value) (b:Bool):Prop where
 out:∀ d w,m<=d->(Op.equalIn d T v a).run P w=.ok b w
variable {k V:Int}
theorem eq_int {k k':IntKind}{a:Int}(b:P.underlying T=some (.int k)):Rr P 1 T (.int k' a) (.int k' V) (decide (a=V)):=⟨λd w Ea=>by
 cases d with
 | zero=>omega
 | succ d=>simp [Op.equalIn,run_underlying b]; by_cases h:a=V <;> simp [h]⟩
variable {l:List UInt8}
theorem ZJ {a:List UInt8}(b:P.underlying T=some .string):Rr P 1 T (S a) (S l) (decide (a=l)):=⟨λd w Ea=>by
 cases d with
 | zero=>omega
 | succ d =>
  simp only [Op.equalIn,run_underlying b,S,Sem.run_bind,Result.andThen_ok,Sem.run_pure];congr 1;rw [Bool.eq_iff_iff,jE];simp⟩
def Jm:List Bool->Bool
 | []=>true
 | [b]=>b
 | b::bs=>b && Jm bs
theorem lA (b:Bool) (bs:List Bool):Jm (b::bs)=(b && Jm bs):=by cases bs<;>simp [Jm]
inductive cm (P:Program) (m:Nat) (xs ys:List Value):List Field->List Bool->Prop where
 | z:cm P m xs ys [] []
 | o {f : Field} {a : List Field} {v d : Value} {b : Bool} {bs : List Bool} {T : TypeId} {off : Nat} {Dc : List Value} {n k : Nat} (e : (f.name == "_") = false) (g : f.type = T) (h : f.offset = off) (i : wb P T false Dc n k) (j : fc xs off v) (l : fc ys off d) (he : Rr P m T v d b) (t : cm P m xs ys a bs) : cm P m xs ys (f :: a) (b :: bs)
 | n {f : Field} {a : List Field} {vs c : List Value} {b : Bool} {bs : List Bool} {T : TypeId} {off : Nat} {Dc : List Value} {n k : Nat} (e : (f.name == "_") = false) (g : f.type = T) (h : f.offset = off) (i : wb P T true Dc n k) (j : dh xs off vs) (l : dh ys off c) (ma : vs.length = n) (p : c.length = n) (he : Rr P m T (.agg ⟨vs⟩) (.agg ⟨c⟩) b) (t : cm P m xs ys a bs) : cm P m xs ys (f :: a) (b :: bs)
structure jx (P:Program) (T:TypeId) (a:List Field):Prop where
 RG:P.underlying T=some (.struct ⟨a⟩)
 held:P.stoodInHeld T=false
 guard:P.eqGuardType P.depth T=false
theorem xI {Dc:List Value}{off:Nat}{xs:List Value}  (b:wb P T false Dc c W) (a:fc xs off f):(part T ⟨xs⟩ off).run P w=.ok f w:=by
 unfold fc at a;simp [part,b.isAgg,a]
theorem dh.extract {cs vs:List Value}{o:Nat}(h:dh cs o vs):(cs.drop o).take vs.length=vs:=by
 induction h with
 | z=>simp
 | @s o v vs Pa t a =>
  unfold fc at Pa;have b:o<cs.length:=(List.getElem?_eq_some_iff.1 Pa).1;rw [List.drop_eq_getElem_cons b,(List.getElem?_eq_some_iff.1 Pa).2];simp [a]
theorem yI {Dc:List Value}{off:Nat}{xs vs:List Value}(a:wb P T true Dc c W) (b:dh xs off vs) (d:vs.length=c):(part T ⟨xs⟩ off).run P w=.ok (.agg ⟨vs⟩) w:=by
 have:=b.extract;rw [d] at this;simp [part,a.isAgg,a.sizeOf,this]
theorem cm.run {m:Nat}{xs ys:List Value}{e:List Field}{bs:List Bool}(h:cm P m xs ys e bs) (d:Nat) (Ea:m<=d) :
  (forIn (⟨e⟩ : Array Field) ((none, ()) : Option Bool × Unit) (fun f _ => (if f.name ≠ "_" then do
     if !(<- Op.equalIn d f.type (<- part f.type ⟨xs⟩ f.offset) (<- part f.type ⟨ys⟩ f.offset)) then pure (ForInStep.done (some false,())) else pure (ForInStep.yield (none,()))
    else pure (ForInStep.yield (none,())):Sem (ForInStep (Option Bool×Unit))))).run P w=.ok (if Jm bs then (none,()) else (some false,())) w:=by
 induction h with
 | z=>simp [Jm]
 | @o f e v s b bs T off Dc n k g i j a l p he t c =>
  subst i; subst j;have q : f.name ≠ "_" := by simpa using g
  simp only [List.forIn_toArray] at c ⊢;rw [List.forIn_cons];simp only [ne_eq,q,not_false_eq_true,if_true,Sem.run_bind,xI a l,xI a p,Result.andThen_ok,he.out d w Ea];cases b with
  | true=>simpa [lA] using c
  | false=>simp [lA]
 | @n f e vs u b bs T off Dc n k g i j a l p ma r he t c =>
  subst i; subst j;have q : f.name ≠ "_" := by simpa using g
  simp only [List.forIn_toArray] at c ⊢;rw [List.forIn_cons];simp only [ne_eq,q,not_false_eq_true,if_true,Sem.run_bind,yI a l ma,yI a p r,Result.andThen_ok,he.out d w Ea];cases b with
  | true=>simpa [lA] using c
  | false=>simp [lA]
variable {x:List Field}
theorem CS {xs ys:List Value}  {bs:List Bool}(a:jx P T x) (h:cm P c xs ys x bs):Rr P (c+1) T (.agg ⟨xs⟩) (.agg ⟨ys⟩) (Jm bs):=⟨λd w Ea=>by
 cases d with
 | zero=>omega
 | succ d =>
  have:=h.run (w:=w) d (by omega);simp only [Op.equalIn,Sem.run_bind,run_underlying a.RG,Result.andThen_ok];rw [show (program).run P w=.ok P w from rfl];simp only [Result.andThen_ok,a.held,Bool.false_eq_true,if_false,Sem.run_bind];rw [this];cases Jm bs<;>rfl⟩
def EB (v:Value) (n:Nat):Prop:=∃ a c,v=.slice a n c
theorem fq {t e:TypeId}  {n:Nat}(d:P.underlying t=some (.slice e)) (h:ab fr b f) (Pa:EB f n):Cf P (Oper.mk dst (.call { callee:=.builtin .len,args:=#[b],argTypes:=#[t] }) ty pos after g) fr ((.int .i64 n)):=by
 obtain ⟨a,c,rfl⟩:=Pa;exact ew d h
theorem xF {t e:TypeId}  {n:Nat}(a:P.underlying t=some (.slice e)) (c:ab fr b f) (Pa:EB f n) (d:Bf fr dst ((.int .i64 n)) Aa) (h:K Aa ds w):yd P (Oper.mk dst (.call { callee:=.builtin .len,args:=#[b],argTypes:=#[t] }) ty pos after g) fr ds w K Q:=Pb (fq a c Pa) d h
theorem Row.vp {sz n:Nat}{xs:List Value}(h:Row w f T sz n xs):EB f n:=by
 rcases h.2 with ⟨rfl,rfl⟩ | ⟨g,o,cap,cur,rfl,-⟩
 ·exact ⟨_,_,rfl⟩
 ·exact ⟨_,_,rfl⟩
theorem Row.Pn {sz:Nat}{xs:List Value}(h:Row w f T sz W xs) (i:0<W):∃ b o c,f=.slice (some ⟨b,o,none⟩) W c/\lj w b o xs:=by
 rcases h.2 with ⟨rfl,rfl⟩ | ⟨g,o,cap,cur,rfl,d,k,l,m,e⟩
 ·omega
 ·refine ⟨g,o,cap,rfl,λj u a=>?_⟩;rw [cell_of_row w g (o+j) cur T (0,0) d];rw [<- e,List.getElem?_take] at a;split at a
  ·rw [List.getElem?_drop] at a;simpa using a
  ·cases a
end
section
variable {P:Program}{Q:Exit->Act->World->Prop}{K:List Value->List Deferred->World->Prop}{fr Aa:List Value}{ds:List Deferred}{w:World}
variable {dst:Option Tmp}{ty:TypeId}{pos:String}{after:Array Edge}{g:Option (Nat×Bool)}
variable {T:TypeId}
theorem rO {a:List Field}{op:BinOp}{x y:Operand}{xs ys:Array Value}(b:jx P T a):(eqGuard op T x y (.agg xs) (.agg ys)).run P w=.ok () w:=by
 have c:(program).run P w=.ok P w:=rfl;cases op<;>simp [eqGuard,c,b.guard]
theorem OK {x y:Operand}{hb:TypeId}  {xs ys:List Value}{a:List Field}{bs:List Bool}(b:jx P T a) (d:ab fr x (.agg ⟨xs⟩)) (e:ab fr y (.agg ⟨ys⟩)) (h:cm P c xs ys a bs) (f:(decide (c<1000))=true) :
  Cf P (Oper.mk dst (.binOp .neq T x y hb) ty pos after g) fr (.bool (!Jm bs)):=⟨λds w=>by
 have i:=d ds;have j:=e ds;have k:=(CS b h).out Op.maxDepth w (by have:=of_decide_eq_true f;unfold Op.maxDepth;omega);have l:=rO (w:=w) (op:=.neq) (x:=x) (y:=y) (xs:=⟨xs⟩) (ys:=⟨ys⟩) b;simp [execOp,i,j,l,binOp,Op.equal,k]⟩
variable {x:List Field}
theorem BU {hb:TypeId}  {xs ys:List Value}  {bs:List Bool}(a:jx P T x) (d:ab fr b (.agg ⟨xs⟩)) (e:ab fr D (.agg ⟨ys⟩)) (f:cm P c xs ys x bs) (i:(decide (c<1000))=true)
  (j:Bf fr dst (.bool (!Jm bs)) Aa) (h:K Aa ds w):yd P (Oper.mk dst (.binOp .neq T b D hb) ty pos after g) fr ds w K Q:=Pb (OK a d e f i) j h
end
section
variable {P:Program}{Q:Exit->Act->World->Prop}{K:List Value->List Deferred->World->Prop}{fr Aa:List Value}{ds:List Deferred}{w:World}
variable {dst:Option Tmp}{ty:TypeId}{pos:String}{after:Array Edge}{g:Option (Nat×Bool)}
variable {S Ic:Nat->Prop}{da:World}{rs rs':List Ha}{A:World->Prop}
variable {T:TypeId}
end
theorem Ax {α β:Type}{f g:α->β}{xs:Array α}(h:∀ x ∈ xs,f x=g x):xs.map f=xs.map g:=Array.map_congr_left h
def zr:Op->Bool
 | .select _ _=>false
 | _=>true
theorem execOp_congr {f g:Operand->Value}(o:Oper) (l:zr o.op=true) (h:∀ x ∈ o.op.operands,f x=g x):execOp f o=execOp g o:=by
 obtain ⟨dst,op,ty,pos,after,w⟩:=o;have d:∀ c:Call,(∀ x ∈ c.operands,f x=g x)->resolve f c ty=resolve g c ty:=by
  intro c d;have q:c.args.map f=c.args.map g:=Ax λx e=>d x (by simp [Call.operands,e]);unfold resolve;rw [q];obtain ⟨callee,args,tys⟩:=c;cases callee with
  | value x=>simp only; rw [d x (by simp [Call.operands])]
  | invoke x m=>simp only; rw [d x (by simp [Call.operands])]
  | builtin b=>rfl
 cases op<;>simp only [Op.operands,List.mem_toArray,List.mem_cons,List.not_mem_nil,or_false,forall_eq_or_imp,forall_eq,Array.mem_append,List.mem_map] at h<;>simp only [execOp]
 case build t Hg =>
  have:(Hg.map λ(i,x)=>(i,f x))=Hg.map λ(i,x)=>(i,g x):=Ax λp j=>by simp only;rw [h p.2 ⟨p,by simpa using j,rfl⟩]
  rw [this]
 case buildSlice t n Hg =>
  have:(Hg.map λ(i,x)=>(i,f x))=Hg.map λ(i,x)=>(i,g x):=Ax λp j=>by simp only;rw [h p.2 ⟨p,by simpa using j,rfl⟩]
  rw [this]
 case makeFunc fn a b =>
  rw [Ax (f:=f) (g:=g) (xs:=a) λx e=>h x (.inl e),Ax (f:=f) (g:=g) (xs:=b) λx e=>h x (.inr e)]
 case makeMap t r=>cases r with
  | none=>rfl
  | some x=>simp only [Option.map]; rw [h x (by simp)]
 case slice t x jk k Tb =>
  have e:=h x (by simp);have s:jk.map f=jk.map g:=by cases jk with
   | none=>rfl
   | some y=>simp only [Option.map]; rw [h y (by simp)]
  have u:k.map f=k.map g:=by cases k with
   | none=>rfl
   | some y=>simp only [Option.map]; rw [h y (by simp)]
  have v:Tb.map f=Tb.map g:=by cases Tb with
   | none=>rfl
   | some y=>simp only [Option.map]; rw [h y (by simp)]
  rw [e,s,u,v]
 case call c=>rw [d c h]
 case go c=>rw [d c h]
 case defer c=>rw [d c h]
 case select cs b=>exact absurd l (by simp [zr])
 all_goals (try (simp only [h]))
def pj (ops:Array Oper) (i:Nat):List Nat:=match ops[i]? with
 | some o=>(o.after.toList.filter (Region.binds .any)).map (·.on)
 | none=>[]
def enabled (ops:Array Oper) (R:List Nat) (i:Nat):Bool:=R.contains i && (pj ops i).all λj=>!R.contains j
inductive Wl (ops:Array Oper):List Nat->List Nat->Prop where
 | z:Wl ops [] []
 | s {R a:List Nat} {i:Nat} (h:enabled ops R i=true) (t:Wl ops (R.erase i) a):Wl ops R (i::a)
theorem Ov {ops:Array Oper}{R:List Nat}  (h:enabled ops R c=true):c ∈ R:=by
 simp only [enabled,Bool.and_eq_true,List.contains_iff_mem] at h;exact h.1
theorem EH {ops:Array Oper}{R:List Nat}{j:Nat}(h:enabled ops R c=true) (a:j ∈ pj ops c):j ∉ R:=by
 simp only [enabled,Bool.and_eq_true,List.all_eq_true] at h;have:=h.2 j a;simpa using this
def left (n:Nat) (listed:Array Bool):List Nat:=(List.range n).filter λi=>!listed.getD i true
theorem tN (n:Nat) (listed:Array Bool):(left n listed).Nodup:=List.nodup_range.filter _
theorem QI {n:Nat}{listed:Array Bool}(c:listed.size=n){i:Nat}(d:i ∈ left n listed):left n (listed.setIfInBounds i true)=(left n listed).erase i:=by
 rw [(tN n listed).erase_eq_filter];unfold left;rw [List.filter_filter];apply List.filter_congr;intro j a;have f:j<n:=List.mem_range.1 a;have b:j<listed.size:=by omega
 simp only [Array.getD_eq_getD_getElem?,Array.getElem?_setIfInBounds];by_cases e:i=j
 ·subst e;simp [b]
 ·simp [e,Ne.symm e]
theorem aK {ops:Array Oper}  (a:(List.range c).all (λi=>(pj ops i).all λj=>decide (j<i))=true){i j:Nat}(b:i<c) (d:j ∈ pj ops i):j<i:=by
 simp only [List.all_eq_true,List.mem_range,decide_eq_true_eq] at a;exact a i b j d
theorem bK {ops:Array Oper}(r:(List.range ops.size).all (λi=>(pj ops i).all λj=>decide (j<i))=true) :
  ∀ (fuel t:Nat) (listed:Array Bool) (acc:List Nat),listed.size=ops.size->(left ops.size listed).length<=fuel->∃ n,Region.linearise.go .any ops fuel t listed acc=acc.reverse++n/\Wl ops (left ops.size listed) n
 | 0,t,listed,acc,o,y=>by
  have f:left ops.size listed=[]:=List.eq_nil_of_length_eq_zero (by omega);exact ⟨[],by simp [Region.linearise.go],by rw [f];exact .z⟩
 | fuel+1,t,listed,acc,o,y=>by
  rw [Region.linearise.go];generalize A:(List.filter (λi=>!listed.getD i true && (Option.map (λx=>x.after.all λe=>!Region.binds .any e || listed.getD e.on false) ops[i]?).getD false) (List.range ops.size))=rs;have u:∀ i,i ∈ rs ↔ enabled ops (left ops.size listed) i=true:=by
   intro i;rw [<- A];simp only [List.mem_filter,List.mem_range,Bool.and_eq_true,enabled,List.contains_iff_mem,left,pj];constructor
   ·rintro ⟨b,g,d⟩;refine ⟨⟨b,g⟩,?_⟩;rw [Array.getElem?_eq_getElem b] at d ⊢;simp only [Option.map_some,Option.getD_some,Array.all_eq_true',Bool.or_eq_true,Bool.not_eq_true'] at d;simp only [List.all_eq_true,List.mem_map,List.mem_filter,forall_exists_index,and_imp];rintro j e p k rfl;have:=d e (by simpa using p);rcases this with h | h
    ·rw [h] at k;cases k
    ·simp only [Bool.not_eq_true',List.contains_eq_mem,decide_eq_false_iff_not,List.mem_filter,List.mem_range,not_and,Bool.not_eq_true,Bool.not_eq_false];intro q;have v:e.on<listed.size:=by omega
     simp only [Array.getD,v,dif_pos] at h ⊢;exact h
   ·rintro ⟨⟨b,g⟩,d⟩;refine ⟨b,g,?_⟩;rw [Array.getElem?_eq_getElem b] at d ⊢;simp only [Option.map_some,Option.getD_some,Array.all_eq_true',Bool.or_eq_true,Bool.not_eq_true'];simp only [List.all_eq_true,List.mem_map,List.mem_filter,forall_exists_index,and_imp] at d;intro e p;cases k:Region.binds .any e with
    | false=>exact .inl rfl
    | true =>
     right;have:=d e.on e (by simpa using p) k rfl;simp only [Bool.not_eq_true',List.contains_eq_mem,decide_eq_false_iff_not,List.mem_filter,List.mem_range,not_and,Bool.not_eq_true,Bool.not_eq_false] at this;have q:e.on<i:=aK r b (by
      unfold pj;rw [Array.getElem?_eq_getElem b];simp only [List.mem_map,List.mem_filter];exact ⟨e,⟨by simpa using p,k⟩,rfl⟩)
     have w:=this (by omega);have v:e.on<listed.size:=by omega
     simp only [Array.getD,v,dif_pos] at w ⊢;exact w
  by_cases f:left ops.size listed=[]
  ·have B:rs=[]:=by
    rw [List.eq_nil_iff_forall_not_mem];intro i c;have:=Ov ((u i).1 c);rw [f] at this;cases this
   rw [B];simp only [List.length_nil,Nat.mod_zero,List.getElem?_nil];exact ⟨[],by simp,by rw [f];exact .z⟩
  ·-- the least of what is left may be next
   have C:0<rs.length:=by
    obtain ⟨i,c,D⟩:∃ i,i ∈ left ops.size listed/\∀ j,j<i->j ∉ left ops.size listed:=by
     obtain ⟨a,E⟩:=List.exists_mem_of_ne_nil _ f
     induction a using Nat.strongRecOn with
     | _ a F =>
      by_cases hex:∃ j,j<a/\j ∈ left ops.size listed
      ·obtain ⟨j,l,G⟩:=hex;exact F j l G
      ·exact ⟨a,E,λj l H=>hex ⟨j,l,H⟩⟩
    have m:enabled ops (left ops.size listed) i=true:=by
     simp only [enabled,Bool.and_eq_true,List.contains_iff_mem,List.all_eq_true];refine ⟨c,λj l=>?_⟩;have:=D j (aK r (List.mem_range.1 (List.mem_filter.1 c).1) l);simpa using this
    exact List.length_pos_of_mem<|(u i).2 m
   have q:t % rs.length<rs.length:=Nat.mod_lt _ C;rw [List.getElem?_eq_getElem q];simp only;have m:=(u _).1 (List.getElem_mem q);generalize rs[t % rs.length]=i at m ⊢;have c:=Ov m;obtain ⟨n,b,g⟩:=bK r fuel (t / rs.length) (listed.setIfInBounds i true) (i::acc) (by simpa using o) (by
    rw [QI o c,List.length_erase_of_mem c];omega)
   refine ⟨i::n,?_,.s m ?_⟩
   ·rw [b];simp
   ·rw [<- QI o c];exact g
theorem tM {ops:Array Oper}(b:(List.range ops.size).all (λi=>(pj ops i).all λj=>decide (j<i))=true) (t:Nat):Wl ops (List.range ops.size) (Region.linearise .any ops t):=by
 have ma:left ops.size (Array.replicate ops.size false)=List.range ops.size:=by
  unfold left;rw [List.filter_eq_self];intro i c;have:=List.mem_range.1 c;simp [Array.getD,this]
 obtain ⟨e,d,a⟩:=bK b ops.size t (Array.replicate ops.size false) [] (by simp) (by rw [ma];simp);unfold Region.linearise;rw [d];rw [ma] at a;simpa using a
def Su:Operand->Option Nat
 | .tmp t=>some t
 | _=>none
def reads (ops:Array Oper) (o:Oper):List Nat :=
 o.op.operands.toList.filterMap Su++(match o.guard with
  | some (j,_)=>((ops[j]?).bind (·.dst)).toList
  | none=>[])
section
variable {P:Program}{α β:Type}
end
section
variable {P:Program}{Q:Exit->Act->World->Prop}{ops:Array Oper}{fr Aa:List Value}{ds:List Deferred}{w:World}
theorem RI {fr:List Value}{ds ds':List Deferred}  {v:Value}{x:Operand}(h:Su x≠some c):(F (fr.set c v) ds).eval x=(F fr ds').eval x:=by
 cases x with
 | tmp t =>
  have:c≠t:=λe=>h (by simp [Su,e]);simp [F,Act.eval,List.getElem?_set_ne this]
 | const v=>rfl
 | global g=>rfl
 | func f=>rfl
theorem SI {o:Oper}{d:Nat}(h:(reads ops o).contains d=false):∀ x ∈ o.op.operands,Su x≠some d:=by
 intro x a e;have:d ∈ reads ops o:=by
  unfold reads;exact List.mem_append.2<|.inl<|List.mem_filterMap.2 ⟨x,by simpa using a,e⟩
 rw [List.contains_iff_mem.2 this] at h;cases h
theorem TI {o:Oper}  {v:Value}{ds':List Deferred}(a:zr o.op=true) (h:(reads ops o).contains c=false):execOp (F (fr.set c v) ds).eval o=execOp (F fr ds').eval o :=
 execOp_congr o a λx b=>RI (SI h x b)
theorem uN {o:Oper}  {v:Value}{ds':List Deferred}(h:(reads ops o).contains c=false):Region.wanted o (yielded ops (F (fr.set c v) ds).tmps)=Region.wanted o (yielded ops (F fr ds').tmps):=by
 unfold Region.wanted;cases a:o.guard with
 | none=>rfl
 | some d =>
  obtain ⟨j,b⟩:=d;simp only;congr 1;unfold yielded;cases f:(ops[j]?).bind (·.dst) with
  | none=>rfl
  | some e =>
   have g:c≠e:=by
    intro i;have:c ∈ reads ops o:=by
     unfold reads;rw [a];exact List.mem_append.2<|.inr (by simp only;rw [f];simp [i])
    rw [List.contains_iff_mem.2 this] at h;cases h
   simp [F,List.getElem?_set_ne g]
theorem put_eq (fr:List Value) (ds:List Deferred) (dst:Option Tmp) (x:Value):∃ g:List Value->List Value,(∀ fr ds,(F fr ds).put dst x=F (g fr) ds)/\(∀ (fr:List Value) (d:Nat) (v:Value),dst≠some d->g (fr.set d v)=(g fr).set d v)/\(∀ (fr:List Value) (y:Operand) (ds ds':List Deferred),(∀ e,dst=some e->Su y≠some e)->(F (g fr) ds).eval y=(F fr ds').eval y):=by
 cases dst with
 | none=>exact ⟨id,λ_ _=>rfl,λ_ _ _ _=>rfl,λfr y ds ds' _=>by cases y <;> rfl⟩
 | some n =>
  refine ⟨λfr=>fr.set n x,λfr ds=>wa rfl ds,λfr d v h=>?_,λfr y ds ds' h=>RI<|h n rfl⟩;have:d≠n:=λe=>h (by rw [e]);exact List.set_comm _ _ this
def ml (Q:Exit->Act->World->Prop) (d:Nat):Prop:=∀ a (fr:List Value) (v:Value) (ds:List Deferred) w,Q (.panic a) (F (fr.set d v) ds) w->Q (.panic a) (F fr ds) w
structure gH (P:Program) (ops:Array Oper) (Q:Exit->Act->World->Prop) (R:List Nat) (fr:List Value) (ds:List Deferred) (w:World):Prop where
 out:∀ a,Wl ops R a->wpOps P ops Q a (F fr ds) w
variable {O:List Oper}
theorem CU {id:Nat}  (a:P.follows .mixedOrders=true) (b:(List.range O.toArray.size).all (λi=>(pj O.toArray i).all λj=>decide (j<i))=true)
  (h:∀ w',w'.heap=w.heap->w'.os=w.os->w'.tape=w.tape->w'.output=w.output->gH P O.toArray Q (List.range O.length) fr ds w'):xd P (.region id O.toArray true) Q fr ds w:=by
 constructor;refine wp_region_draw λt=>?_;have c:Region.schedule (P.follows .mixedOrders) O.toArray t=Region.linearise .any O.toArray t:=by
  unfold Region.schedule;rw [a];rfl
 rw [c];have ma:=tM b t;have:=(h { w with drawn:=w.drawn+1 } rfl rfl rfl rfl).out _ (by simpa using ma);exact this
def pB (ops:Array Oper) (R:List Nat):List Nat:=R.filter (enabled ops R)
theorem Wl.split {R i:List Nat}(h:Wl ops R i) (m:R.Nodup)  (n:W ∈ R) (p:enabled ops R W=true) :
  ∃ f l,i=f++W::l/\Wl ops (R.erase W) (f++l)/\∀ j ∈ f,j ∈ R/\j≠W/\W ∉ pj ops j:=by
 induction h with
 | z=>cases n
 | @s R i k g t r =>
  by_cases e:k=W
  ·subst e;exact ⟨[],i,rfl,t,by simp⟩
  ·have q:W ∈ R.erase k:=(m.mem_erase_iff).2 ⟨λh=>e h.symm,n⟩;have u:enabled ops (R.erase k) W=true:=by
    simp only [enabled,Bool.and_eq_true,List.contains_iff_mem,List.all_eq_true] at p ⊢;refine ⟨q,λj d=>?_⟩;have:=p.2 j d;simp only [Bool.not_eq_true',List.contains_eq_mem,decide_eq_false_iff_not] at this ⊢;exact λo=>this<|List.mem_of_mem_erase o
   obtain ⟨f,l,v,w,x⟩:=r (m.erase k) q u;refine ⟨k::f,l,by rw [v];rfl,?_,?_⟩
   ·refine .s ?_ (by rw [List.erase_comm];exact w);simp only [enabled,Bool.and_eq_true,List.contains_iff_mem,List.all_eq_true] at g ⊢;refine ⟨(m.mem_erase_iff).2 ⟨e,g.1⟩,λj d=>?_⟩;have:=g.2 j d;simp only [Bool.not_eq_true',List.contains_eq_mem,decide_eq_false_iff_not] at this ⊢;exact λo=>this<|List.mem_of_mem_erase o
   ·intro j d;rcases List.mem_cons.1 d with rfl | d
    ·exact ⟨Ov g,e,λEa=>EH g Ea n⟩
    ·obtain ⟨a,b,c⟩:=x j d;exact ⟨List.mem_of_mem_erase a,b,c⟩
theorem Ek {d:Nat}(h:∀ b a w,Q (.panic b) a w->False):ml Q d:=λb fr v ds w c=>(h b _ w c).elim
end
end Go.Mc
