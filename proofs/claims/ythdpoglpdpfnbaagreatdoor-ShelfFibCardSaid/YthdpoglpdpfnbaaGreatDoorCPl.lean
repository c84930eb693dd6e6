/- The shelf: texts of ShelfFib Pl. -/
import Derived.Test.YthdpoglpdpfnbaaGreatDoorCMd
import Derived.ProofKit
set_option linter.unusedSimpArgs false
set_option linter.unusedVariables false
set_option linter.unusedSectionVars false
namespace Go.Y
open Go.vc Go.hd
def Ep (p_1:List Int) (a:List Int):Nat→Int→Option Bool
 | 0,_=>none
 | n+1,i26 =>
  if i26<(p_1.length:Int) then
   (at_ p_1 i26).bind fun b =>
   (at_ a i26).bind fun c =>
   if b≠c then
    some false
   else
    (i64 (i26+1)).bind fun i65 =>
    Ep p_1 a n i65
  else
   some true
def sr  (p_1:List Int) (a:List Int):Option Bool :=
 if (p_1.length:Int)≠(a.length:Int) then
  some false
 else
  Ep p_1 a (p_1.length+1) 0
def Jq (i17:Int) (a:Int→Option Bool) (Qg:Bool):Option Bool :=
 if Qg=true then
  some false
 else
  (i64 (i17+1)).bind fun i44 =>
  a i44
def cn (p_1:List Int) (a:Int):Nat→Int→Option Bool
 | 0,_=>none
 | n+1,i17 =>
  if i17<(p_1.length:Int) then
   (at_ p_1 i17).bind fun b =>
   if b<(Ag (0 - a)) then
    Jq i17 (cn p_1 a n) true
   else
    Jq i17 (cn p_1 a n) (decide (a<b))
  else
   some true
def ar  (p_1:List Int) (a:Int):Option Bool :=
 if (12:Int)<(p_1.length:Int) then
  some false
 else
  cn p_1 a (p_1.length+1) 0
def Vp (fu:Nat)  (p_1:List UInt8) (b:List Int) (c:List (List Int)):Option Bool :=
 (dv fu p_1 c).bind fun a =>
 if a.2=0 then
  if a.1.State=3 then
   (sr a.1.Out b).bind fun d =>
   some d
  else
   some false
 else
  some false
def vo (i49:Int) (a:Int→Int→Int→(List Int)→Option Bool):Nat→Int→Int→Int→(List Int)→Option Bool
 | 0,_,_,_,_=>none
 | n+1,i110,i111,i112,b =>
  if (0:Int)<i112 then
   (app b [i110]).bind fun c =>
   vo i49 a n i111 (Ag (i110+i111)) (Ag (i112 - 1)) c
  else
   (i64 (i49+1)).bind fun i134 =>
   a i110 i111 i134 b
def wo (fu:Nat) (p_1:List Int):Nat→Int→Int→Int→(List Int)→Option Bool
 | 0,_,_,_,_=>none
 | n+1,i47,i48,i49,a =>
  if i49<(p_1.length:Int) then
   (at_ p_1 i49).bind fun b =>
   vo i49 (wo fu p_1 n) fu i47 i48 b a
  else
   (Vp fu [102,105,98] a [p_1]).bind fun c =>
   some c
def tr (fu:Nat)  (p_1:List Int):Option Bool :=
 (ar p_1 6).bind fun a =>
 if a=true then
  wo fu p_1 (p_1.length+1) 0 1 0 []
 else
  some true
end Go.Y
namespace Go.Y
open Go.vc Go.hd
structure Fr where
 u:Nat
 Wc:Nat
 loc:List Int
 st:List Int
structure Sd where
 u:Nat
 Wc:Nat
 loc:List Int
 st:List Int
 low:List Fr
 wr:Nat
 fr:Nat
 ins:List (List Int)
 out:List Int
def ck (p:Prop) [Decidable p]:Int:=if p then 1 else 0
def two (op a b:Int):Option Int :=
 if op=8 then some (Ag (a+b)) else if op=9 then some (Ag (a - b)) else if op=10 then some (Ag (a*b))
 else if op=11 then (if b=0 then none else some (Ag (a.tdiv b))) else if op=12 then (if b=0 then none else some (a.tmod b))
 else if op=13 then some (ck (a=b)) else if op=14 then some (ck (a≠b)) else if op=15 then some (ck (a<b)) else if op=16 then some (ck (a≤b))
 else if op=17 then some (ck (b<a)) else none
def Sd.push (a:Sd) (v:Int):Option Sd :=
 match a.wr with
 | 0=>none
 | k+1=>some { a with st:=v::a.st,wr:=k }
def Qn (M:Sc) (a:Sd) (i:Jc):Option Sd :=
 if i.Op=1 then a.push i.N
 else if i.Op=2 then a.push i.A
 else if i.Op=3 then (a.loc[i.A.toNat]?).bind a.push
 else if i.Op=4 then (match a.st with | v::r=>if i.A.toNat<a.loc.length then some { a with st:=r,wr:=a.wr+1,loc:=a.loc.set i.A.toNat v } else none | []=>none)
 else if 8≤i.Op∧i.Op≤18 then (match a.st with | y::x::r=>(two i.Op x y).bind fun z=>some { a with st:=z::r,wr:=a.wr+1 } | _=>none)
 else if i.Op=21 then some { a with Wc:=i.A.toNat }
 else if i.Op=22 then (match a.st with | v::r=>some { a with st:=r,wr:=a.wr+1,Wc:=if v=0 then i.A.toNat else a.Wc } | []=>none)
 else if i.Op=23 then (M.Kd[i.A.toNat]?).bind fun u=>match a.fr with
  | 0=>none
  | f+1=>if a.st.length<u.Params.toNat∨a.wr<u.od.length - u.Params.toNat then none
   else some { a with u:=i.A.toNat,Wc:=0,loc:=(a.st.take u.Params.toNat).reverse++List.replicate (u.od.length - u.Params.toNat) 0,st:=[],low:=⟨a.u,a.Wc,a.loc,a.st.drop u.Params.toNat⟩::a.low,fr:=f,wr:=a.wr - (u.od.length - u.Params.toNat) }
 else if i.Op=24 then (match a.st,a.low with
  | v::r,f::b=>some { a with u:=f.u,Wc:=f.Wc,loc:=f.loc,st:=v::f.st,low:=b,fr:=a.fr+1,wr:=a.wr+r.length+a.loc.length }
  | _,_=>none)
 else if i.Op=27 then (match a.ins[i.A.toNat]? with
  | some (x::r)=>({ a with ins:=a.ins.set i.A.toNat r }:Sd).push x
  | _=>none)
 else if i.Op=28 then (match a.st with | v::r=>some { a with st:=r,wr:=a.wr+1,out:=a.out++[v] } | []=>none)
 else none
def Sd.code (M:Sc) (a:Sd):Option Jc:=(M.Kd[a.u]?).bind fun u=>u.Code[a.Wc]?
end Go.Y
namespace Go.Y
def Zl:Sc:=⟨[⟨1,20⟩],[⟨3,0,[1,1,1],1,2,[⟨1,0,0⟩,⟨4,0,0⟩,⟨1,0,1⟩,⟨4,1,0⟩,⟨3,0,0⟩,⟨31,0,0⟩,⟨22,16,0⟩,⟨3,0,0⟩,⟨3,1,0⟩,⟨8,0,0⟩,⟨4,2,0⟩,⟨3,1,0⟩,⟨4,0,0⟩,⟨3,2,0⟩,⟨4,1,0⟩,⟨21,4,0⟩,⟨25,0,0⟩]⟩,⟨4,0,[10,1],0,0,[⟨29,0,0⟩,⟨4,0,0⟩,⟨2,1,0⟩,⟨22,20,0⟩,⟨27,0,0⟩,⟨4,1,0⟩,⟨3,1,0⟩,⟨1,0,0⟩,⟨17,0,0⟩,⟨22,19,0⟩,⟨3,0,0⟩,⟨2,1,0⟩,⟨30,0,0⟩,⟨28,0,0⟩,⟨3,1,0⟩,⟨1,0,1⟩,⟨9,0,0⟩,⟨4,1,0⟩,⟨21,6,0⟩,⟨21,2,0⟩,⟨25,0,0⟩]⟩]⟩
end Go.Y
namespace Go.Y
open Go.vc Go.hd
structure yi where
 u:Nat
 Wc:Nat
 loc:List Int
 st:List Int
 low:List Fr
 wr:Nat
 fr:Nat
structure Jj where
 state:Nat
 up:Option Nat
 Qb:yi
structure ib where
 k:Nat
 cs:List Jj
 ins:List (List Int)
 out:List Int
def yi.am (t:yi) (ins:List (List Int)) (out:List Int):Sd:=⟨t.u,t.Wc,t.loc,t.st,t.low,t.wr,t.fr,ins,out⟩
def Sd.Qb (a:Sd):yi:=⟨a.u,a.Wc,a.loc,a.st,a.low,a.wr,a.fr⟩
def yi.push (t:yi) (v:Int):Option yi :=
 match t.wr with
 | 0=>none
 | k+1=>some { t with st:=v::t.st,wr:=k }
def ib.to (g:ib) (cs:List Jj) (j:Nat) (v:Int):Option ib :=
 (cs[j]?).bind fun c=>(c.Qb.push v).bind fun t=>some { g with k:=j,cs:=cs.set j { c with Qb:=t } }
def zq (M:Sc) (g:ib) (c:Jj) (t:yi) (i:Jc):Option ib :=
 if i.Op=29 then (M.Kd[i.A.toNat]?).bind fun u =>
  if t.st.length<u.Params.toNat∨30<g.cs.length∨400<u.od.length∨u.od.length<u.Params.toNat then none else
  g.to (g.cs.set g.k { c with Qb:={ t with st:=t.st.drop u.Params.toNat,wr:=t.wr+u.Params.toNat } }++[⟨0,none,⟨i.A.toNat,0,(t.st.take u.Params.toNat).reverse++List.replicate (u.od.length - u.Params.toNat) 0,[],[],400 - u.od.length,39⟩⟩]) g.k (g.cs.length:Int)
 else if i.Op=30 then (match t.st with
  | v::j::r=>(g.cs[j.toNat]?).bind fun d =>
   if j.toNat=g.k∨j<0 then none else
   let cs:=(g.cs.set g.k { c with Qb:={ t with st:=r,wr:=t.wr+2 } }).set j.toNat { d with state:=2,up:=some g.k }
   if d.state=0 then some { g with k:=j.toNat,cs:=cs } else if d.state=1 then g.to cs j.toNat v else none
  | _=>none)
 else if i.Op=31 then (match t.st,c.up with
  | v::r,some j=>g.to (g.cs.set g.k { c with state:=1,up:=none,Qb:={ t with st:=r,wr:=t.wr+1 } }) j v
  | _,_=>none)
 else if i.Op=25 then (match c.up with
  | some j=>g.to (g.cs.set g.k { c with state:=3,up:=none,Qb:=t }) j 0
  | none=>none)
 else if i.Op=5 then (match t.st with
  | v::r=>some { g with cs:=g.cs.set g.k { c with Qb:={ t with st:=r,wr:=t.wr+1 } } }
  | _=>none)
 else if i.Op=6 then (match t.st with
  | v::r=>some { g with cs:=g.cs.set g.k { c with Qb:={ t with st:=Ag (-v)::r } } }
  | _=>none)
 else if i.Op=32 then (match t.st with
  | j::r=>if j<0 then none else (g.cs[j.toNat]?).bind fun d=>g.to (g.cs.set g.k { c with Qb:={ t with st:=r,wr:=t.wr+1 } }) g.k (if d.state=3 then 0 else 1)
  | _=>none)
 else none
def Dn (o:Int):Bool:=o=5 || o=6 || o=25 || o=29 || o=30 || o=31 || o=32
def Mr (M:Sc) (g:ib):Option ib :=
 (g.cs[g.k]?).bind fun c=>((c.Qb.am g.ins g.out).code M).bind fun i =>
  if Dn i.Op then zq M g c { c.Qb with Wc:=c.Qb.Wc+1 } i
  else (Qn M { c.Qb.am g.ins g.out with Wc:=c.Qb.Wc+1 } i).bind fun a=>some { g with cs:=g.cs.set g.k { c with Qb:=a.Qb },ins:=a.ins,out:=a.out }
def Ej (M:Sc):Nat→ib→Option ib
 | 0,a=>some a
 | n+1,a=>(Mr M a).bind (Ej M n)
theorem Ix (M:Sc):∀ (n m:Nat) (a b:ib),Ej M n a=some b→Ej M (n+m) a=Ej M m b
 | 0,m,a,b,h=>by cases h; rw [Nat.zero_add]
 | n+1,m,a,b,h=>by
  rw [show n+1+m=(n+m)+1 by omega];simp only [Ej] at h ⊢;cases d:Mr M a with
  | none=>rw [d] at h; cases h
  | some c=>rw [d] at h; exact Ix M n m c b h
def ib.waits (M:Sc) (g:ib):Prop:=∃ c i,g.cs[g.k]?=some c∧(c.Qb.am g.ins g.out).code M=some i∧i.Op=27∧0≤i.A∧g.ins[i.A.toNat]?=some []
def Fj (M:Sc) (a:ib) (o:List Int) (k:Nat):Prop:=∃ n b,n≤k∧Ej M n a=some b∧b.waits M∧b.out=o
theorem Fj.go {M:Sc}{a b:ib}{o:List Int}{n k:Nat}(h:Ej M n a=some b) (e:Fj M b o k):Fj M a o (n+k):=by
 obtain ⟨m,c,i,d,f,g⟩:=e;exact ⟨n+m,c,by omega,by rw [Ix M n m a b h];exact d,f,g⟩
theorem Fj.to {M:Sc}{a:ib}{o b:List Int}{k d:Nat}(e:Fj M a o k) (f:o=b) (h:k≤d):Fj M a b d:=by
 subst f;obtain ⟨m,c,l,g,i,j⟩:=e;exact ⟨m,c,by omega,g,i,j⟩
theorem Fj.wait {M:Sc}{a b:ib}{c:Jj}{o:List Int}{n:Nat}{A:Int}(h:Ej M n a=some b) (d:b.cs[b.k]?=some c) (hc:(c.Qb.am b.ins b.out).code M=some ⟨27,A,0⟩) (e:0≤A) (eb:b.ins[A.toNat]?=some []) (f:b.out=o):Fj M a o n :=
 ⟨n,b,Nat.le_refl _,h,⟨_,_,d,hc,rfl,e,eb⟩,f⟩
def zl (M:Sc) (a b:ib) (k:Nat):Prop:=∃ n,n≤k∧Ej M n a=some b
theorem zl.go {M:Sc}{a b c:ib}{n k:Nat}(h:Ej M n a=some b) (e:zl M b c k):zl M a c (n+k):=by
 obtain ⟨m,f,d⟩:=e;exact ⟨n+m,by omega,by rw [Ix M n m a b h];exact d⟩
theorem zl.of {M:Sc}{a b:ib}{n:Nat}(h:Ej M n a=some b):zl M a b n:=⟨n,Nat.le_refl _,h⟩
theorem zl.to {M:Sc}{a b b':ib}{k c:Nat}(e:zl M a b k) (d:b=b') (h:k≤c):zl M a b' c:=by
 subst d;obtain ⟨n,g,f⟩:=e;exact ⟨n,by omega,f⟩
theorem Fj.goes {M:Sc}{a b:ib}{o:List Int}{n k:Nat}(h:zl M a b n) (e:Fj M b o k):Fj M a o (n+k):=by
 obtain ⟨i,d,c⟩:=h;exact (Fj.go c e).to rfl (by omega)
def g0 (u n:Nat) (ins:List (List Int)):ib:=⟨0,[⟨2,none,⟨u,0,List.replicate n 0,[],[],400 - n,39⟩⟩],ins,[]⟩
end Go.Y
namespace Go.Y
open Go.vc Go.hd
def Al:Nat→Int→Int→List Int
 | 0,_,_=>[]
 | n+1,x,y=>x::Al n y (Ag (x+y))
def Dk:Nat→Int→Int→Int×Int
 | 0,x,y=>(x,y)
 | n+1,x,y=>Dk n y (Ag (x+y))
inductive jo:Int→Int→Jj→Prop where
 | fresh:jo 0 1 ⟨0,none,⟨0,0,[0,0,0],[],[],397,39⟩⟩
 | held (a b c:Int):jo b (Ag (a+b)) ⟨1,none,⟨0,6,[a,b,c],[],[],397,39⟩⟩
def Ek (n:Int) (F:Jj) (l o:List Int):ib:=⟨0,[⟨2,none,⟨1,6,[1,n],[],[],398,39⟩⟩,F],[l],o⟩
theorem BC {p:Prop}[Decidable p] (h:p):ck p=1:=if_pos h
theorem CC {p:Prop}[Decidable p] (h:¬ p):ck p=0:=if_neg h
theorem yG {x y:Int}{F:Jj}(h:jo x y F) (n:Int) (d:0<n) (l o:List Int):∃ e,jo y (Ag (x+y)) e∧zl Zl (Ek n F l o) (Ek (Ag (n - 1)) e l (o++[x])) 26:=by
 cases h with
 | fresh =>
  have h:Ej Zl 3 (Ek n ⟨0,none,⟨0,0,[0,0,0],[],[],397,39⟩⟩ l o)=some ⟨0,[⟨2,none,⟨1,9,[1,n],[ck (0<n)],[],397,39⟩⟩,⟨0,none,⟨0,0,[0,0,0],[],[],397,39⟩⟩],[l],o⟩:=by kernel_rfl
  rw [BC d] at h;refine ⟨⟨1,none,⟨0,6,[0,1,0],[],[],397,39⟩⟩,.held 0 1 0,?_⟩;exact .to (.go h (.of (n:=16) (b:=Ek (Ag (n - 1)) ⟨1,none,⟨0,6,[0,1,0],[],[],397,39⟩⟩ l (o++[0])) (by kernel_rfl))) rfl (by decide)
 | held a _ c =>
  have h:Ej Zl 3 (Ek n ⟨1,none,⟨0,6,[a,x,c],[],[],397,39⟩⟩ l o)=some ⟨0,[⟨2,none,⟨1,9,[1,n],[ck (0<n)],[],397,39⟩⟩,⟨1,none,⟨0,6,[a,x,c],[],[],397,39⟩⟩],[l],o⟩:=by kernel_rfl
  rw [BC d] at h;refine ⟨⟨1,none,⟨0,6,[x,Ag (a+x),Ag (a+x)],[],[],397,39⟩⟩,  .held x (Ag (a+x)) (Ag (a+x)),?_⟩;exact .to (.go h (.of (n:=22) (b:=Ek (Ag (n - 1)) ⟨1,none,⟨0,6,[x,Ag (a+x),Ag (a+x)],[],[],397,39⟩⟩ l (o++[x])) (by kernel_rfl))) rfl (by decide)
theorem Jx:∀ (k:Nat){x y:Int}{F:Jj}(h:jo x y F) (n:Int),n.toNat=k→n≤100→∀ (l o:List Int),∃ b a,jo (Dk k x y).1 (Dk k x y).2 b∧a≤0∧zl Zl (Ek n F l o) (Ek a b l (o++Al k x y)) (26*k)
 | 0,x,y,F,h,n,d,e,l,o=>⟨F,n,h,by omega,0,Nat.zero_le _,by simp [Ej,Al]⟩
 | k+1,x,y,F,h,n,d,e,l,o=>by
  obtain ⟨q,f,m,qa,c⟩:=yG h n (by omega) l o;have hw:Ag (n - 1)=n - 1:=by simp only [Ag,IntKind.wrap_i64];omega
  rw [hw] at c;obtain ⟨g,a,i,j,p⟩:=Jx k f (n - 1) (by omega) (by omega) l (o++[x]);exact ⟨g,a,i,j,.to (.go c p) (by simp [Al]) (by omega)⟩
def Fk:List Int→Int→Int→List Int
 | [],_,_=>[]
 | n::l,x,y=>Al n.toNat x y++Fk l (Dk n.toNat x y).1 (Dk n.toNat x y).2
theorem XA:∀ (l:List Int){x y:Int}{F:Jj}(h:jo x y F) (n:Int) (o:List Int),(∀ v ∈ l,v≤6)→n≤0→Fj Zl (Ek n F l o) (o++Fk l x y) (165*l.length+7)
 | [],x,y,F,h,n,o,a,c=>by
  have h:Ej Zl 3 (Ek n F [] o)=some ⟨0,[⟨2,none,⟨1,9,[1,n],[ck (0<n)],[],397,39⟩⟩,F],[[]],o⟩:=by kernel_rfl
  rw [CC (by omega)] at h;exact .to (.go h (.wait (n:=4) (b:=⟨0,[⟨2,none,⟨1,4,[1,n],[],[],398,39⟩⟩,F],[[]],o⟩) (A:=0) (by kernel_rfl) rfl (by kernel_rfl) (by decide) rfl rfl)) (by simp [Fk]) (by simp)
 | v::l,x,y,F,h,n,o,a,c=>by
  have j:=a v (by simp);have e:Ej Zl 3 (Ek n F (v::l) o)=some ⟨0,[⟨2,none,⟨1,9,[1,n],[ck (0<n)],[],397,39⟩⟩,F],[v::l],o⟩:=by kernel_rfl
  rw [CC (by omega)] at e;obtain ⟨k,d,f,g,i⟩:=Jx v.toNat h v rfl (by omega) l o;exact .to (.go e (.go (n:=6) (b:=Ek v F l o) (by kernel_rfl) (.goes i (XA l f d _ (fun w hw=>a w (by simp [hw])) g)))) (by simp [Fk]) (by simp;omega)
theorem uF (l:List Int) (a:∀ v ∈ l,v≤6):Fj Zl (g0 1 2 [l]) (Fk l 0 1) (165*l.length+25):=by
 cases l with
 | nil=>exact .to (.wait (n:=4) (b:=⟨0,[⟨2,none,⟨1,4,[1,0],[],[],398,39⟩⟩,⟨0,none,⟨0,0,[0,0,0],[],[],397,39⟩⟩],[[]],[]⟩) (A:=0) (by kernel_rfl) rfl (by kernel_rfl) (by decide) rfl rfl) (by simp [Fk]) (by simp)
 | cons v l =>
  have g:=a v (by simp);obtain ⟨h,c,d,e,f⟩:=Jx v.toNat jo.fresh v rfl (by omega) l [];exact .to (.go (n:=6) (b:=Ek v ⟨0,none,⟨0,0,[0,0,0],[],[],397,39⟩⟩ l []) (by kernel_rfl) (.goes f (XA l d c _ (fun w hw=>a w (by simp [hw])) e))) (by simp [Fk]) (by simp;omega)
end Go.Y
namespace Go.Y
open Go.vc Go.hd
theorem Ih {n:Int}(h:-9223372036854775808≤n∧n≤9223372036854775807):i64 n=some n:=if_pos h
theorem Lb {α β:Type}{x:α}{f:α→Option β}:Option.bind (some x) f=f x:=rfl
theorem lj {α:Type}{l:List α}{i:Nat}:at_ l (i:Int)=l[i]?:=by simp [at_]
theorem Rm {α:Type}{l:List α}{z:Int}(h:0≤z):at_ l z=l[z.toNat]?:=if_pos h
theorem gv {n:Int}(h:-9223372036854775808≤n∧n≤9223372036854775807):Ag n=n:=by simp only [Ag,IntKind.wrap_i64];omega
structure Zh (l:List Int) (live:Int) (ws:List Int):Prop where
 uj:8≤l.length
 eb:l.length≤400
 live:live=ws.length
 le:ws.length≤l.length
 take:l.take ws.length=ws
theorem Zh.get {l ws:List Int}{live v:Int}{k:Nat}(h:Zh l live ws) (a:ws[k]?=some v):at_ l (k:Int)=some v:=by
 rw [lj];rw [← h.take,List.getElem?_take] at a;split at a
 ·exact a
 ·cases a
theorem Zh.set {l ws:List Int}{live v:Int}{k:Nat}(h:Zh l live ws):Zh (l.set k v) live (ws.set k v) where
 uj:=by simpa using h.uj
 eb:=by simpa using h.eb
 live:=by simpa using h.live
 le:=by simpa using h.le
 take:=by
  rw [List.length_set,List.take_set,h.take]
theorem YA {l ws:List Int}{live:Int}{k:Nat}(h:Zh l live ws) (c:8≤k) (d:k≤400) (b:ws.length≤k):∃ a,Rp l live 8 400 (k:Int)=some (a,live,8,400)∧Zh a live ws∧a.length=k:=by
 have hc:cut l 0 live=some ws:=by
  unfold cut;have:=h.le;have:=h.live;rw [if_pos (by omega)];rw [h.live];simp [h.take]
 have hm:Uk (k:Int)=some k:=by
  unfold Uk;rw [if_pos (by omega)];simp
 have e:Yo (List.replicate k (0:Int)) ws=ws++List.replicate (k - ws.length) 0:=by
  simp [Yo,List.take_of_length_le b]
 refine ⟨_,by rw [Rp,hm,Lb,hc,Lb],?_,?_⟩
 ·rw [e];exact ⟨by simp;omega,by simp;omega,h.live,by simp,by simp⟩
 ·rw [e];simp;omega
theorem ZA {l ws:List Int}{live v:Int}(h:Zh l live ws) (hw:ws.length<400):∃ f,Yp l live 8 400 v=some (true,f,live+1,8,400)∧Zh f (live+1) (ws++[v]):=by
 have g:=h.live;have hle:=h.le;have j:=h.uj;have m:=h.eb;have fin:∀ a,Zh a live ws→ws.length<a.length→Cp v live 8 400 a=some (true,a.set live.toNat v,live+1,8,400)∧Zh (a.set live.toNat v) (live+1) (ws++[v]):=by
  intro a b d;have i:at_ a live=some a[ws.length]:=by
   rw [g,lj];exact List.getElem?_eq_getElem d
  refine ⟨by rw [Cp,i,Lb,Ih (by omega),Lb],?_⟩;have e:live.toNat=ws.length:=by omega
  rw [e];refine ⟨by simpa using b.uj,by simpa using b.eb,by simp [g],by simp;omega,?_⟩;rw [List.length_append,List.length_singleton,List.take_succ_eq_append_getElem (by simpa using d)];simp [List.take_set,b.take,List.set_eq_of_length_le]
 rw [Yp,if_neg (by omega),Ht];by_cases c:live=(l.length:Int)
 ·rw [if_pos c,Ih (by omega),Lb];obtain ⟨a,qa,b,d⟩:=YA (k:=min (2*l.length) 400) h (by omega) (by omega) (by omega);have e:min (2*(l.length:Int)) 400=((min (2*l.length) 400:Nat):Int):=by omega
  rw [e,qa,Lb];obtain ⟨f1,f2⟩:=fin a b (by omega);exact ⟨_,f1,f2⟩
 ·rw [if_neg c];obtain ⟨f1,f2⟩:=fin l h (by omega);exact ⟨_,f1,f2⟩
theorem cy {l ws:List Int}{live s bx t v:Int}(h:Zh l live ws) (hw:ws.length<400):∃ a,gk s bx t l live 8 400 v=some (s,bx,t,a,live+1,8,400)∧Zh a (live+1) (ws++[v]):=by
 obtain ⟨a,k1,b⟩:=ZA (v:=v) h hw;exact ⟨a,by rw [gk,k1,Lb];rfl,b⟩
theorem dy {l ws vs:List Int}{live:Int}(h:Zh l live (ws++vs)):∃ f,Lo l live 8 400 (vs.length:Int)=some (f,live - vs.length,8,400)∧Zh f (live - vs.length) ws:=by
 have g:=h.live;have hle:=h.le;have i:=h.uj;have j:=h.eb;rw [List.length_append] at g hle;have m:quo (l.length:Int) 4=some ((l.length / 4:Nat):Int):=by
  rw [quo,if_neg (by omega),gv (by rw [Int.tdiv_eq_ediv_of_nonneg (by omega)];omega),Int.tdiv_eq_ediv_of_nonneg (by omega)];rfl
 have n:quo (l.length:Int) 2=some ((l.length / 2:Nat):Int):=by
  rw [quo,if_neg (by omega),gv (by rw [Int.tdiv_eq_ediv_of_nonneg (by omega)];omega),Int.tdiv_eq_ediv_of_nonneg (by omega)];rfl
 have a:Zh l (live - vs.length) ws:=⟨i,j,by omega,by omega,by
  have:=h.take;have e:(ws++vs).take ws.length=ws:=by simp
  rw [← e,← this,List.take_take];simp⟩
 rw [Lo,Ih (by omega),Lb,m,Lb];have small:∀ b,b=false→Ip l 8 400 (live - vs.length) b=some (l,live - vs.length,8,400):=by
  intro b o;subst o;rfl
 by_cases c:live - vs.length≤((l.length / 4:Nat):Int)
 ·rw [if_pos c];by_cases d:(8:Int)<l.length
  ·rw [decide_eq_true d,Ip,if_pos rfl,n,Lb];obtain ⟨p,qa,q,r⟩:=YA (k:=max (l.length / 2) 8) a (by omega) (by omega) (by omega);have e:max ((l.length / 2:Nat):Int) 8=((max (l.length / 2) 8:Nat):Int):=by omega
   rw [e,qa,Lb];exact ⟨p,rfl,q⟩
  ·rw [decide_eq_false d];exact ⟨l,small _ rfl,a⟩
 ·rw [if_neg c];exact ⟨l,small _ rfl,a⟩
theorem TH {l ws:List Int}{live s bx t v:Int}(h:Zh l live (ws++[v])):∃ a,ik s bx t l live 8 400=some (v,s,bx,t,a,live - 1,8,400)∧Zh a (live - 1) ws:=by
 have b:=h.live;have hle:=h.le;have f:=h.eb;rw [List.length_append,List.length_singleton] at b hle;obtain ⟨a,e,c⟩:=dy (vs:=[v]) h;refine ⟨a,?_,c⟩;have d:at_ l (live - 1)=some v:=by
  have e:live - 1=(ws.length:Int):=by omega
  rw [e];exact h.get (by simp)
 rw [ik,Sl,Lb,Ih (by omega),Lb,d,Lb];rw [show ((([v]:List Int).length:Nat):Int)=1 from rfl] at e;rw [e,Lb]
def og:List Fr→List Int
 | []=>[]
 | f::a=>og a++(f.loc++f.st.reverse)
def km:List Fr→List Ic
 | []=>[]
 | f::a=>km a++[⟨f.u,f.Wc,(og a).length⟩]
def Sd.ws (a:Sd):List Int:=og a.low++(a.loc++a.st.reverse)
def Sd.ak (a:Sd):List Ic:=km a.low++[⟨a.u,a.Wc,(og a.low).length⟩]
def Kk (M:Sc):Bool:=M.Kd.all fun u=>decide (0≤u.Params) && decide (u.Params≤u.od.length) && decide (u.od.length≤300) && decide (u.Code.length≤4000) && u.Code.all fun i=>decide (0≤i.A∧i.A≤4000∧i.Op≠26)
structure ia (Wb:List (List Int)) (a:Sd) (Xc:List Int) (fr:List Ic) (l:List Int) (live:Int):Prop where
 fr:fr=a.ak
 st:Zh l live a.ws
 wr:a.wr+a.ws.length=400
 ag:a.fr+(a.low.length+1)=40
 al:Xc.length=Wb.length
 nm:a.ins.length=Wb.length
 Xc:∀ (i:Nat) (f:List Int),Wb[i]?=some f→∃ t:Nat,Xc[i]?=some (t:Int)∧t≤f.length∧a.ins[i]?=some (f.drop t)
 Wk:∀ f ∈ Wb,f.length≤65536
theorem cq:∀ (l:List Fr),(km l).length=l.length
 | []=>rfl
 | f::a=>by simp [km,cq a]
theorem ey (a:Sd):a.ak.length=a.low.length+1:=by simp [Sd.ak,cq]
theorem Su (a:Sd):at_ a.ak ((a.low.length:Nat):Int)=some ⟨a.u,a.Wc,(og a.low).length⟩:=by
 rw [lj,Sd.ak];simp [cq]
theorem fy (a:Sd) (x:Ic):a.ak.set a.low.length x=km a.low++[x]:=by
 rw [Sd.ak,List.set_append_right _ _ (by rw [cq];exact Nat.le_refl _)];simp [cq]
theorem Wp {M:Sc}{n:Nat}{u:ff}(h:Kk M=true) (hu:M.Kd[n]?=some u):(0≤u.Params∧u.Params≤u.od.length∧u.od.length≤300∧u.Code.length≤4000)∧∀ (k:Nat) (i:Jc),u.Code[k]?=some i→0≤i.A∧i.A≤4000∧i.Op≠26:=by
 have:=List.all_eq_true.1 h u (List.mem_of_getElem? hu);simp only [Bool.and_eq_true,decide_eq_true_eq,List.all_eq_true] at this;obtain ⟨⟨⟨⟨a,b⟩,c⟩,d⟩,e⟩:=this;exact ⟨⟨a,b,c,d⟩,fun k i eb=>e i (List.mem_of_getElem? eb)⟩
theorem Pt {M:Sc}{a:Sd}{i:Jc}(h:a.code M=some i):∃ u,M.Kd[a.u]?=some u∧u.Code[a.Wc]?=some i:=by
 unfold Sd.code at h;exact Option.bind_eq_some_iff.1 h
def Sd.stuck (a:Sd) (i:Jc):Bool:=decide (i.Op=27) && decide (a.ins[i.A.toNat]?=some [])
theorem ur {M:Sc}{Wb sent:List (List Int)}{a:Sd}{Xc:List Int}{fr:List Ic}{l:List Int}{live s bx:Int}{i:Jc}(j:Kk M=true) (b:ia Wb a Xc fr l live) (k:s≤3) (hc:a.code M=some i) (m:i.Op=27→i.A.toNat<a.ins.length) :
  zn M s bx 0 Wb Xc sent fr=some (if a.stuck i then 3 else 1,if a.stuck i then i.A else 0,0,Wb,Xc,sent,fr):=by
 obtain ⟨u,hu,eb⟩:=Pt hc;obtain ⟨⟨r,v,w,x⟩,n⟩:=Wp j hu;have d:=n _ _ eb;have y:=b.ag;have g:=b.fr;have e:((fr.length:Int) - 1)=((a.low.length:Nat):Int):=by rw [g,ey];omega
 have h:at_ fr ((a.low.length:Nat):Int)=some ⟨a.u,a.Wc,(og a.low).length⟩:=by rw [g];exact Su a
 rw [zn,if_pos k,e,Ih (by omega),Lb,h,Lb,It,h,Lb];rw [show at_ M.Kd ((a.u:Nat):Int)=some u by rw [lj,hu],Lb];rw [show at_ u.Code ((a.Wc:Nat):Int)=some i by rw [lj,eb],Lb];have hw:ir s bx 0 Wb Xc sent i=some (decide ((if a.stuck i then (3:Int) else 1)≠1),if a.stuck i then 3 else 1,if a.stuck i then i.A else 0,0,Wb,Xc,sent):=by
  rw [ir,if_neg d.2.2];by_cases c:i.Op=27
  ·rw [if_pos c];have f:=m c;rw [b.nm] at f;obtain ⟨t,o,z,p⟩:=b.Xc i.A.toNat _ (List.getElem?_eq_getElem f);have B:i.A=((i.A.toNat:Nat):Int):=by omega
   have q:hr Wb Xc sent i.A=some (a.stuck i,Wb,Xc,sent):=by
    rw [hr,show at_ Wb i.A=some Wb[i.A.toNat] from (Rm d.1).trans (List.getElem?_eq_getElem f),Lb,show at_ Xc i.A=some (t:Int) from (Rm d.1).trans o,Lb];have:decide ((t:Int)=(Wb[i.A.toNat].length:Int))=a.stuck i:=by
     rw [Sd.stuck,p,decide_eq_true c,Bool.true_and];apply decide_eq_decide.2;simp only [Option.some.injEq,List.drop_eq_nil_iff];omega
    rw [this]
   rw [q,Lb];simp only [Qq,jt,Pq];cases a.stuck i<;>rfl
  ·rw [if_neg c];have:a.stuck i=false:=by simp [Sd.stuck,c]
   rw [this];rfl
 rw [hw,Lb]
end Go.Y
namespace Go.Y
open Go.vc Go.hd
theorem Xp (p:Prop) [Decidable p]:hl (decide p)=some (ck p):=by
 unfold hl ck;by_cases h:p<;>simp [h]
theorem UH {op a b z:Int}(h:two op a b=some z):xr op a b=some z∧(op=11∨op=12→b≠0):=by
 unfold two at h;unfold xr;by_cases Xi:op=8
 ·subst Xi;exact ⟨by simpa using h,by omega⟩
 by_cases c9:op=9
 ·subst c9;exact ⟨by simpa using h,by omega⟩
 by_cases Sj:op=10
 ·subst Sj;exact ⟨by simpa using h,by omega⟩
 rw [if_neg Xi,if_neg c9,if_neg Sj] at h ⊢;by_cases g:op=11
 ·subst g;simp only [if_true] at h ⊢;by_cases d:b=0
  ·rw [if_pos d] at h;cases h
  ·rw [if_neg d] at h;refine ⟨?_,fun _=>d⟩;obtain rfl:=Option.some.inj h;rw [decide_true,zo,if_pos rfl];have gen:∀ q,q=false→ln 11 a b q=some (Ag (a.tdiv b)):=by
    intro q i;subst i;rw [ln,if_neg (by decide),if_pos rfl,quo,if_neg d,Lb]
   by_cases e:a=-9223372036854775808
   ·rw [if_pos e];by_cases f:b=-1
    ·subst e;subst f;decide +kernel
    ·rw [decide_eq_false f];exact gen _ rfl
   ·rw [if_neg e];exact gen _ rfl
 by_cases c12:op=12
 ·subst c12;simp only [if_true] at h ⊢;by_cases d:b=0
  ·simp [d] at h
  ·simp only [if_neg d] at h;refine ⟨?_,fun _=>d⟩;have j:a.tmod b=z:=by simpa using h
   subst j;rw [if_neg (by decide),decide_true,zo,if_pos rfl];have gen:∀ q,q=false→ln 12 a b q=some (a.tmod b):=by
    intro q i;subst i;rw [ln,if_neg (by decide),if_neg (by decide),tv,if_neg d,Lb]
   by_cases e:a=-9223372036854775808
   ·rw [if_pos e];by_cases f:b=-1
    ·subst e;subst f;decide +kernel
    ·rw [decide_eq_false f];exact gen _ rfl
   ·rw [if_neg e];exact gen _ rfl
 rw [if_neg g,if_neg c12] at h;refine ⟨?_,fun k=>by omega⟩;rw [if_neg g,decide_eq_false c12,zo,if_neg (by decide)];by_cases c:op=13
 ·rw [if_pos c] at h ⊢;rw [Xp,Lb];exact h
 rw [if_neg c] at h ⊢;clear c;by_cases c:op=14
 ·rw [if_pos c] at h ⊢;rw [Xp,Lb];exact h
 rw [if_neg c] at h ⊢;clear c;by_cases c:op=15
 ·rw [if_pos c] at h ⊢;rw [Xp,Lb];exact h
 rw [if_neg c] at h ⊢;clear c;by_cases c:op=16
 ·rw [if_pos c] at h ⊢;rw [Xp,Lb];exact h
 rw [if_neg c] at h ⊢;clear c;by_cases c:op=17
 ·rw [if_pos c] at h ⊢;rw [Xp,Lb];exact h
 rw [if_neg c] at h;cases h
section
variable {M:Sc}{Wb sent:List (List Int)}{a b:Sd}{Xc:List Int}{fr:List Ic}{l:List Int}{live s bx cst:Int}
theorem ia.to {a':Sd}{V:List Ic}{c:List Int}{d:Int}(b:ia Wb a Xc fr l live) (e:V=a'.ak) (f:Zh c d a'.ws) (hw:a'.wr+a'.ws.length=400) (g:a'.fr+(a'.low.length+1)=40) (eb:a'.ins=a.ins):ia Wb a' Xc V c d where
 fr:=e
 st:=f
 wr:=hw
 ag:=g
 al:=b.al
 nm:=by rw [eb];exact b.nm
 Xc:=by rw [eb];exact b.Xc
 Wk:=b.Wk
theorem BB (a:Sd) (v:Int) (k:Nat):({ a with st:=v::a.st,wr:=k }:Sd).ws=a.ws++[v]:=by simp [Sd.ws]
theorem ia.push {v:Int}(c:ia Wb a Xc fr l live) (h:a.push v=some b) (s bx t:Int):∃ d,gk s bx t l live 8 400 v=some (s,bx,t,d,live+1,8,400)∧ia Wb b Xc fr d (live+1)∧b.out=a.out:=by
 unfold Sd.push at h;have g:=c.wr;split at h
 ·cases h
 ·rename_i k i;obtain rfl:=Option.some.inj h;obtain ⟨d,e,f⟩:=cy (s:=s) (bx:=bx) (t:=t) (v:=v) c.st (by omega);refine ⟨d,e,c.to (a':={ a with st:=v::a.st,wr:=k }) ?_ ?_ ?_ ?_ rfl,rfl⟩
  ·exact c.fr
  ·rw [BB];exact f
  ·rw [BB,List.length_append,List.length_singleton];simp only;omega
  ·exact c.ag
theorem ia.pop {v:Int}{r:List Int}(b:ia Wb a Xc fr l live) (h:a.st=v::r) (s bx t:Int):∃ c,ik s bx t l live 8 400=some (v,s,bx,t,c,live - 1,8,400)∧ia Wb { a with st:=r,wr:=a.wr+1 } Xc fr c (live - 1):=by
 have g:a.ws=({ a with st:=r,wr:=a.wr+1 }:Sd).ws++[v]:=by simp [Sd.ws,h]
 have f:=b.st;have d:=b.wr;rw [g] at f d;obtain ⟨c,e,i⟩:=TH (s:=s) (bx:=bx) (t:=t) f;refine ⟨c,e,b.to b.fr i ?_ b.ag rfl⟩;rw [List.length_append,List.length_singleton] at d;simp only at d ⊢;omega
theorem JI (a:Kk M=true){i:Jc}(c:ia Wb b Xc fr l live) (d:s≤3) (hc:b.code M=some i) (e:i.Op=27→i.A.toNat<b.ins.length) :
  dj M s bx 0 b.out Wb sent Xc cst fr live 8 400 l=some (true,if b.stuck i then 3 else 1,if b.stuck i then i.A else 0,0,b.out,Wb,Xc,sent,cst,fr,l,live,8,400):=by
 rw [dj,ur a c d hc e,Lb]
theorem ia.Wc (b:ia Wb a Xc fr l live) (p:Nat):ia Wb { a with Wc:=p } Xc (fr.set a.low.length ⟨a.u,p,(og a.low).length⟩) l live :=
 b.to (by rw [b.fr,fy];rfl) b.st b.wr b.ag rfl
theorem aB:∀ (n:Nat) (j:Int) (k:Nat) (l ws:List Int) (live s bx t i72:Int) (a:List Ic),Zh l live ws→ws.length+n≤400→0≤j→i72=j+n→i72≤1000→n<k →
  ∃ b,po a i72 k j s bx t live 8 400 l=some (s,bx,t,a,b,live+n,8,400)∧Zh b (live+n) (ws++List.replicate n 0)
 | 0,j,k+1,l,ws,live,s,bx,t,i72,a,c,f,g,h,d,i=>by
  rw [po,if_neg (by omega)];exact ⟨l,by simp,by simpa using c⟩
 | n+1,j,k+1,l,ws,live,s,bx,t,i72,a,c,f,g,h,d,i=>by
  obtain ⟨b,e,o⟩:=cy (s:=s) (bx:=bx) (t:=t) (v:=0) c (by omega);obtain ⟨p,q,m⟩:=aB n (j+1) k b (ws++[0]) (live+1) s bx t i72 a o (by simp;omega) (by omega) (by omega) d (by omega);rw [po,if_pos (by omega),e,Lb,Ih (by omega),Lb];refine ⟨p,?_,?_⟩
  ·rw [q];have:live+1+(n:Int)=live+((n+1:Nat):Int):=by omega
   rw [this]
  ·have:live+1+(n:Int)=live+((n+1:Nat):Int):=by omega
   rw [this] at m;rw [List.replicate_succ];simpa using m
 | n,j,0,l,ws,live,s,bx,t,i72,a,c,f,g,h,d,i=>by omega
end
end Go.Y
namespace Go.Y
open Go.vc Go.hd
section
variable {M:Sc}{Wb sent:List (List Int)}{a b:Sd}{Xc:List Int}{fr:List Ic}{l:List Int}{live s bx cst:Int}
theorem Xy (a:Sd):((a.ak.length:Int) - 1)=((a.low.length:Nat):Int):=by rw [ey];omega
def Lm (M:Sc) (a:Sd) (i:Jc):Option Sd :=
 if i.Op=5 then (match a.st with | _::r=>some { a with st:=r,wr:=a.wr+1 } | []=>none)
 else if i.Op=6 then (match a.st with | v::r=>some { a with st:=Ag (-v)::r } | []=>none)
 else Qn M a i
set_option maxHeartbeats 1000000 in
theorem zG (Z:Kk M=true) (Q:ia Wb a Xc fr l live) (ul:s≤3) (wl:a.out.length≤100000){i:Jc}(hc:a.code M=some i) (d:Lm M { a with Wc:=a.Wc+1 } i=some b){i':Jc}(am:b.code M=some i') (em:i'.Op=27→i'.A.toNat<b.ins.length) :
  ∃ C V n D,An M s bx 0 a.out Wb Xc sent cst fr l live 8 400=some (true,(if b.stuck i' then 3 else 1),(if b.stuck i' then i'.A else 0),0,b.out,Wb,C,sent,cst,V,n,D,8,400)∧ia Wb b C V n D:=by
 obtain ⟨u,hu,eb⟩:=Pt hc;obtain ⟨⟨pp,sp,up,wp⟩,hm⟩:=Wp Z hu;have gc:=hm _ _ eb;have eq:a.Wc<u.Code.length:=(List.getElem?_eq_some_iff.1 eb).1;have Eq:=Q.ag;have dg:a.stuck i=false∧(i.Op=27→i.A.toNat<a.ins.length):=by
  by_cases c:i.Op=27
  ·have R:=d;unfold Lm Qn at R;rw [if_neg (by omega),if_neg (by omega),if_neg (by omega),if_neg (by omega),if_neg (by omega),if_neg (by omega),if_neg (by omega),if_neg (by omega),if_neg (by omega),if_neg (by omega),if_neg (by omega),if_pos c] at R;simp only at R;split at R
   ·rename_i x r S;refine ⟨by simp [Sd.stuck,S],fun _=>(List.getElem?_eq_some_iff.1 S).1⟩
   ·cases R
  ·exact ⟨by simp [Sd.stuck,c],fun lm=>absurd lm c⟩
 have id:=ur (sent:=sent) (bx:=bx) Z Q ul hc dg.2;simp only [dg.1,Bool.false_eq_true,if_false] at id;have T:=Q.fr;have rg:((fr.length:Int) - 1)=((a.low.length:Nat):Int):=by rw [T];exact Xy a
 have md:at_ fr ((a.low.length:Nat):Int)=some ⟨a.u,a.Wc,(og a.low).length⟩:=by rw [T];exact Su a
 have bi:i64 ((a.Wc:Int)+1)=some (((a.Wc+1:Nat):Int)):=Ih (by omega);have g:=Q.Wc (a.Wc+1);have G:fr.set a.low.length ⟨a.u,((a.Wc+1:Nat):Int),(og a.low).length⟩=km a.low++[⟨a.u,((a.Wc+1:Nat):Int),(og a.low).length⟩]:=by rw [T,fy]
 rw [G] at g;generalize or:km a.low++[⟨a.u,((a.Wc+1:Nat):Int),(og a.low).length⟩]=o at g G;have pm:at_ o ((a.low.length:Nat):Int)=some ⟨a.u,((a.Wc+1:Nat):Int),(og a.low).length⟩:=by
  rw [g.fr];exact Su { a with Wc:=a.Wc+1 }
 have sm:∀ p:Nat,fr.set a.low.length ⟨a.u,(p:Int),(og a.low).length⟩=({ a with Wc:=p }:Sd).ak:=by
  intro p;rw [T];exact fy a _
 rw [An,id,Lb,if_neg (by simp)];simp only [rg];rw [Ih (by omega),Lb,md,Lb,Mt];simp only [md,Lb,show at_ M.Kd ((a.u:Nat):Int)=some u by rw [lj,hu],show at_ u.Code ((a.Wc:Nat):Int)=some i by rw [lj,eb],bi,Int.toNat_natCast,G];clear id md bi rg T Q hc hu eb;generalize H:({ a with Wc:=a.Wc+1 }:Sd)=O at g d;have Nm:O.out=a.out:=by rw [← H]
 have K:O.low=a.low:=by rw [← H]
 have qr:O.loc=a.loc:=by rw [← H]
 have Fr:O.Wc=a.Wc+1:=by rw [← H]
 have Or:O.u=a.u:=by rw [← H]
 rw [← Nm] at wl ⊢;have cs:O.ws.length≤400:=by have:=g.wr;omega
 have fin:∀ {b':Sd}{C:List Int}{V:List Ic}{n:List Int}{D:Int},ia Wb b' C V n D→b'=b→b'.out=b.out→∃ ci ii N li,dj M 1 0 0 b'.out Wb sent C cst V D 8 400 n=some (true,(if b.stuck i' then 3 else 1),(if b.stuck i' then i'.A else 0),0,b.out,Wb,ci,sent,cst,ii,N,li,8,400)∧ia Wb b ci ii N li:=by
  intro b' C V n D k e _;subst e;exact ⟨C,V,n,D,JI Z k (by decide) am em,k⟩
 unfold Lm at d;by_cases c5:i.Op=5
 ·rw [if_pos c5] at d;rw [if_neg (by omega),if_neg (by omega),if_neg (by omega),if_neg (by omega),if_pos c5];cases m:O.st with
  | nil=>rw [m] at d; cases d
  | cons v r =>
   rw [m] at d;obtain ⟨n,e,k⟩:=g.pop m 1 0 0;rw [e,Lb];exact fin (b':={ O with st:=r,wr:=O.wr+1 }) k (Option.some.inj d) (by rw [← Option.some.inj d])
 rw [if_neg c5] at d;by_cases zd:i.Op=6
 ·rw [if_pos zd] at d;rw [if_neg (by omega),if_neg (by omega),if_neg (by omega),if_neg (by omega),if_neg c5,if_pos zd];cases m:O.st with
  | nil=>rw [m] at d; cases d
  | cons v r =>
   rw [m] at d;obtain ⟨n,e,k⟩:=g.pop m 1 0 0;obtain ⟨N,F,U,w⟩:=k.push (v:=Ag (0 - v)) (b:={ O with st:=Ag (0 - v)::r }) rfl 1 0 0;rw [e,Lb];simp only;rw [F,Lb];exact fin (b':={ O with st:=Ag (0 - v)::r }) U (by rw [← Option.some.inj d,Int.zero_sub]) (by rw [← Option.some.inj d])
 rw [if_neg zd] at d;unfold Qn at d;by_cases c:i.Op=1
 ·rw [if_pos c] at d ⊢;obtain ⟨n,e,k,w⟩:=g.push d 1 0 0;rw [e,Lb];rw [← w];exact fin k rfl rfl
 rw [if_neg c] at d ⊢;by_cases c:i.Op=2
 ·rw [if_pos c] at d ⊢;obtain ⟨n,e,k,w⟩:=g.push d 1 0 0;rw [e,Lb];rw [← w];exact fin k rfl rfl
 rw [if_neg c] at d ⊢;by_cases c:i.Op=3
 ·rw [if_pos c] at d ⊢;obtain ⟨v,pi,fn⟩:=Option.bind_eq_some_iff.1 d;obtain ⟨n,e,k,w⟩:=g.push fn 1 0 0;have rd:i.A.toNat<O.loc.length:=(List.getElem?_eq_some_iff.1 pi).1;have Pi:O.ws[(og a.low).length+i.A.toNat]?=some v:=by
   rw [Sd.ws,K,List.getElem?_append_right (by omega),Nat.add_sub_cancel_left,List.getElem?_append_left rd];exact pi
  have wd:((og a.low).length:Int)+i.A=(((og a.low).length+i.A.toNat:Nat):Int):=by omega
  have B:(og a.low).length+i.A.toNat<O.ws.length:=(List.getElem?_eq_some_iff.1 Pi).1;rw [Ih (by omega),Lb,wd,g.st.get Pi,Lb,e,Lb];simp only [Kt,Int.toNat_natCast,G];rw [← w];exact fin k rfl rfl
 rw [if_neg c] at d ⊢;have kk:i.A=((i.A.toNat:Nat):Int):=by omega
 have mk:fr.set a.low.length ⟨a.u,i.A,(og a.low).length⟩=({ O with Wc:=i.A.toNat }:Sd).ak:=by
  have:=sm i.A.toNat
  rw [← kk] at this;rw [this,← H]
 by_cases c:i.Op=4
 ·rw [if_pos c] at d ⊢;cases m:O.st with
  | nil=>rw [m] at d; cases d
  | cons v r =>
   rw [m] at d;simp only at d;split at d
   ·rename_i rd;obtain rfl:=Option.some.inj d;obtain ⟨n,e,k⟩:=g.pop m 1 0 0;have W:({ O with st:=r,wr:=O.wr+1 }:Sd).ws=og a.low++(O.loc++r.reverse):=by simp only [Sd.ws,K]
    have hlen:(og a.low).length+i.A.toNat<({ O with st:=r,wr:=O.wr+1 }:Sd).ws.length:=by rw [W];simp;omega
    have ds:=k.st.le;have wd:((og a.low).length:Int)+i.A=(((og a.low).length+i.A.toNat:Nat):Int):=by omega
    have B:(og a.low).length+i.A.toNat<O.ws.length:=by rw [Sd.ws,K];simp [m];omega
    rw [e,Lb,Ih (by omega),Lb,wd];simp only [lj,Int.toNat_natCast];rw [List.getElem?_eq_getElem (by omega),Lb];simp only [Lt,Int.toNat_natCast,G];refine fin (b':={ O with st:=r,wr:=O.wr+1,loc:=O.loc.set i.A.toNat v }) (k.to k.fr ?_ ?_ k.ag rfl) rfl rfl
    ·have F:({ O with st:=r,wr:=O.wr+1,loc:=O.loc.set i.A.toNat v }:Sd).ws=({ O with st:=r,wr:=O.wr+1 }:Sd).ws.set ((og a.low).length+i.A.toNat) v:=by
      rw [W,List.set_append_right _ _ (by omega),Nat.add_sub_cancel_left,List.set_append_left _ _ rd];simp only [Sd.ws,K]
     rw [F];exact k.st.set
    ·have:=k.wr;simp only [Sd.ws,List.length_append,List.length_set] at this ⊢;exact this
   ·cases d
 rw [if_neg c] at d ⊢;by_cases es:i.Op=5∨i.Op=6∨i.Op=7
 ·rw [if_neg (by omega),if_neg (by omega),if_neg (by omega),if_neg (by omega),if_neg (by omega),if_neg (by omega),if_neg (by omega)] at d;cases d
 rw [if_neg (by omega),if_neg (by omega),if_neg (by omega)];by_cases c:8≤i.Op∧i.Op≤18
 ·rw [if_pos c] at d;rw [if_pos c.1,if_pos (by omega)]
  match m:O.st,d with
  | [],d=>cases d
  | [y],d=>cases d
  | y::x::r,d =>
   obtain ⟨z,on,ok⟩:=Option.bind_eq_some_iff.1 d;obtain ⟨un,dl⟩:=UH on;obtain ⟨n,e,k⟩:=g.pop m 1 0 0;obtain ⟨N,F,U⟩:=k.pop (v:=x) (r:=r) rfl 1 0 0;obtain ⟨Fd,Id,be,w⟩:=U.push (v:=z) (b:={ O with st:=z::r,wr:=O.wr+1 }) rfl 1 0 0;rw [e,Lb,F,Lb];have ce:∀ q,q=false→qo M O.out cst (1,0,0,Wb,Xc,sent,fr) (a.low.length:Int) ⟨a.u,a.Wc,(og a.low).length⟩ i ((a.Wc+1:Nat):Int) (y,1,0,0,n,live - 1,8,400) (x,1,0,0,N,live - 1 - 1,8,400) q=dj M 1 0 0 O.out Wb sent Xc cst o (live - 1 - 1+1) 8 400 Fd:=by
    intro q wn;subst wn;rw [qo,if_neg (by decide)];simp only [un,Lb,Id,Int.toNat_natCast,G]
   have ge:=fin (b':={ O with st:=z::r,wr:=O.wr+1 }) be (Option.some.inj ok) (by rw [← Option.some.inj ok]);by_cases he:i.Op=11
   ·rw [if_pos he,ce _ (decide_eq_false (dl (.inl he)))];exact ge
   ·rw [if_neg he];by_cases c12:i.Op=12
    ·rw [if_pos c12,ce _ (decide_eq_false (dl (.inr c12)))];exact ge
    ·rw [if_neg c12,ce _ rfl];exact ge
 rw [if_neg c] at d;by_cases c21:i.Op<21
 ·rw [if_neg (by omega),if_neg (by omega),if_neg (by omega),if_neg (by omega),if_neg (by omega),if_neg (by omega)] at d;cases d
 rw [if_pos (by omega),if_neg (by omega)];clear c;by_cases c:i.Op=21
 ·rw [if_pos c] at d ⊢;obtain rfl:=Option.some.inj d;refine fin (b':={ O with Wc:=i.A.toNat }) (g.to mk g.st g.wr g.ag rfl) rfl rfl
 rw [if_neg c] at d ⊢;by_cases c:i.Op=22
 ·rw [if_pos c] at d ⊢;cases m:O.st with
  | nil=>rw [m] at d; cases d
  | cons v r =>
   rw [m] at d;obtain ⟨n,e,k⟩:=g.pop m 1 0 0;rw [e,Lb];have P:=Option.some.inj d;by_cases Rg:v=0
   ·rw [if_pos Rg] at P;rw [if_pos Rg];exact fin (b':={ O with st:=r,wr:=O.wr+1,Wc:=i.A.toNat }) (k.to mk k.st k.wr k.ag rfl) P (by rw [← P])
   ·rw [if_neg Rg] at P;rw [if_neg Rg];exact fin (b':={ O with st:=r,wr:=O.wr+1 }) k (by rw [← P]) (by rw [← P])
 rw [if_neg c] at d ⊢;by_cases Fn:i.Op=26
 ·rw [if_neg (by omega),if_neg (by omega),if_neg (by omega),if_neg (by omega)] at d;cases d
 rw [if_neg Fn];by_cases c:i.Op=27
 ·rw [if_neg (by omega),if_neg (by omega),if_pos c] at d;rw [if_pos c];split at d
  ·rename_i x r S;have B:i.A.toNat<Wb.length:=by rw [← g.nm];exact (List.getElem?_eq_some_iff.1 S).1
   obtain ⟨t,In,gs,el⟩:=g.Xc i.A.toNat _ (List.getElem?_eq_getElem B);rw [S] at el;have lc:Wb[i.A.toNat].drop t=x::r:=(Option.some.inj el).symm;have is:t<Wb[i.A.toNat].length:=by
    rcases Nat.lt_or_ge t Wb[i.A.toNat].length with h | h
    ·exact h
    ·rw [List.drop_eq_nil_of_le h] at lc;cases lc
   have ls:=g.Wk _ (List.getElem_mem B);have co:Wb[i.A.toNat][t]?=some x:=by
    have:=congrArg (·[0]?) lc;simpa [List.getElem?_drop] using this
   have nl:i.A.toNat<Xc.length:=by rw [g.al];exact B
   have U:ia Wb { O with ins:=O.ins.set i.A.toNat r } (Xc.set i.A.toNat ((t:Int)+1)) o l live:={
    fr:=g.fr
    st:=g.st
    wr:=g.wr
    ag:=g.ag
    al:=by simpa using g.al
    nm:=by simpa using g.nm
    Xc:=by
     intro j f rc;by_cases e:j=i.A.toNat
     ·subst e;rw [List.getElem?_eq_getElem B] at rc;obtain rfl:=Option.some.inj rc;refine ⟨t+1,by rw [List.getElem?_set_self nl];rfl,by omega,?_⟩;have go:i.A.toNat<O.ins.length:=by rw [g.nm];exact B
      simp only;rw [List.getElem?_set_self go,← List.drop_drop,lc];rfl
     ·obtain ⟨t',io,no,ro⟩:=g.Xc j f rc;refine ⟨t',?_,no,?_⟩
      ·rw [List.getElem?_set_ne (Ne.symm e)];exact io
      ·simp only;rw [List.getElem?_set_ne (Ne.symm e)];exact ro
    Wk:=g.Wk }
   obtain ⟨n,e,be,w⟩:=U.push d 1 0 0;have aa:mr Wb Xc sent i.A=some (x,Wb,Xc.set i.A.toNat ((t:Int)+1),sent):=by
    rw [mr,Rm gc.1,In,Lb,Ih (by omega),Lb,Lb,Rm gc.1,List.getElem?_set_self nl,Lb,Ih (by omega),Lb,Rm gc.1,List.getElem?_eq_getElem B,Lb];rw [show (t:Int)+1 - 1=(t:Int) by omega,lj,co,Lb]
   rw [aa,Lb];simp only [yn,Lb,e];rw [show O.out=b.out from w.symm];exact fin be rfl rfl
  ·cases d
 rw [if_neg c];by_cases c28:i.Op=28
 ·rw [if_neg (by omega),if_neg (by omega),if_neg (by omega),if_pos c28] at d;rw [if_pos c28];cases m:O.st with
  | nil=>rw [m] at d; cases d
  | cons v r =>
   rw [m] at d;obtain ⟨n,e,k⟩:=g.pop m 1 0 0;rw [e,Lb];have Do:app O.out [v]=some (O.out++[v]):=by
    unfold app;rw [if_pos (by simp;omega)]
   simp only [Do,Lb,yn];exact fin (b':={ O with st:=r,wr:=O.wr+1,out:=O.out++[v] }) (k.to k.fr k.st k.wr k.ag rfl) (Option.some.inj d) (by rw [← Option.some.inj d])
 rw [if_neg c28];by_cases sj:i.Op=23
 ·rw [if_pos sj] at d;rw [jr,if_pos sj];obtain ⟨xc,ol,d⟩:=Option.bind_eq_some_iff.1 d;obtain ⟨⟨Ja,Ta,Bb,xb⟩,dc⟩:=Wp Z ol;split at d
  ·cases d
  ·rename_i f rc;split at d
   ·cases d
   ·rename_i ms;have d:=Option.some.inj d;have fd:=g.st.live;have os:=g.wr;have rs:xc.Params.toNat≤O.st.length:=by omega
    have us:xc.od.length - xc.Params.toNat≤O.wr:=by omega
    have vs:O.st.length≤O.ws.length:=by simp [Sd.ws];omega
    have ne:=g.ag;have of:(o.length:Int)=((O.low.length+1:Nat):Int):=by rw [g.fr,ey]
    obtain ⟨n,e,Go⟩:=aB (xc.od.length - xc.Params.toNat) 0 ((((xc.od.length:Int) - xc.Params - 0).toNat)+1) l O.ws live 1 0 0 ((xc.od.length:Int) - xc.Params) (o++[⟨i.A,0,live - xc.Params⟩]) g.st (by omega) (by omega) (by omega) (by omega) (by omega);have xa:nr M 1 0 0 o l live 8 400 i.A=some (1,0,0,o++[⟨i.A,0,live - xc.Params⟩],n,live+((xc.od.length - xc.Params.toNat:Nat):Int),8,400):=by
     rw [nr,Rm gc.1,ol,Lb,Sl,Lb,Ih (by omega),Lb,Jt,if_neg (by omega)];rw [show app o [(⟨i.A,0,live - xc.Params⟩:Ic)]=some (o++[⟨i.A,0,live - xc.Params⟩]) by unfold app;rw [if_pos (by simp;omega)],Lb,Ih (by omega),Lb];exact e
    rw [xa,Lb,Lb];have X:b.ws=O.ws++List.replicate (xc.od.length - xc.Params.toNat) 0:=by
     rw [← d];simp only [Sd.ws,og,List.reverse_nil,List.append_nil];have:O.st.reverse=(O.st.drop xc.Params.toNat).reverse++(O.st.take xc.Params.toNat).reverse:=by
      rw [← List.reverse_append,List.take_append_drop]
     rw [this];simp only [List.append_assoc]
    have wf:b.out=O.out:=by rw [← d]
    rw [← wf];refine fin (b':=b) (g.to ?_ ?_ ?_ ?_ ?_) rfl rfl
    ·rw [← d];simp only [Sd.ak,km,og];rw [g.fr,Sd.ak,← kk];have:((og O.low++(O.loc++(List.drop xc.Params.toNat O.st).reverse)).length:Int)=live - xc.Params:=by
      rw [fd,Sd.ws];simp only [List.length_append,List.length_reverse,List.length_drop];omega
     rw [this];rfl
    ·rw [X];exact Go
    ·rw [X,← d];simp only [List.length_append,List.length_replicate];omega
    ·rw [← d];simp only [List.length_cons];omega
    ·rw [← d]
 rw [if_neg sj] at d;rw [if_neg c28] at d;by_cases c24:i.Op=24
 ·rw [if_pos c24] at d;rw [jr,if_neg sj,if_pos c24]
  match m:O.st,If:O.low,d with
  | [],_,d=>cases d
  | _::_,[],d=>cases d
  | v::r,f::xs,d =>
   have d:=Option.some.inj d;obtain ⟨n,e,k⟩:=g.pop m 1 0 0;have ne:=g.ag;have of:((o.length:Int) - 1)=((O.low.length:Nat):Int):=by rw [g.fr,Xy]
   have Y:=k.st;have fd:=Y.live;have W:({ O with st:=r,wr:=O.wr+1 }:Sd).ws=og O.low++(O.loc++r.reverse):=rfl;rw [W] at Y fd;have hle:=Y.le;have ys:=Y.eb;obtain ⟨N,F,ap⟩:=dy Y;have pl:=k.wr;rw [W] at pl;simp only [List.length_append,List.length_reverse] at fd hle pl;obtain ⟨Fd,Id,ip⟩:=cy (s:=1) (bx:=0) (t:=0) (v:=v) ap (by omega);have jp:cut o 0 ((O.low.length:Nat):Int)=some (km O.low):=by
    unfold cut;rw [if_pos (by omega),g.fr];simp [Sd.ak,← cq O.low]
   have mp:(Rq cst o (v,1,0,0,n,live - 1,8,400) (a.u:Int) ((a.Wc+1:Nat):Int) ((og a.low).length:Int))=some (1,0,0,cst,km O.low,Fd,live - 1 - ((O.loc++r.reverse).length:Nat)+1,8,400):=by
    rw [Rq,of,Ih (by omega),Lb,jp,Lb,nt];simp only [Sl,Lb];rw [show live - 1 - ((og a.low).length:Int)=(((O.loc++r.reverse).length:Nat):Int) by rw [← K];simp;omega,Ih (by simp;omega),Lb,F,Lb,kt];simp only [Id,Lb]
   have op:at_ o ((O.low.length:Nat):Int)=some ⟨a.u,((a.Wc+1:Nat):Int),(og a.low).length⟩:=by rw [K];exact pm
   rw [e,Lb,of,Ih (by omega),Lb,op,Lb,mp,Lb];have X:b.ws=og O.low++[v]:=by
    rw [← d,If];simp [Sd.ws,og]
   have wf:b.out=O.out:=by rw [← d]
   rw [← wf];refine fin (b':=b) (g.to ?_ ?_ ?_ ?_ ?_) rfl rfl
   ·rw [← d,If];rfl
   ·rw [X];exact ip
   ·rw [X,← d];simp only [List.length_append,List.length_singleton];omega
   ·rw [← d];rw [If] at ne;simp only [List.length_cons] at ne;simp only;omega
   ·rw [← d]
 rw [if_neg c24,if_neg c] at d;cases d
end
end Go.Y
namespace Go.Y
open Go.vc Go.hd
structure Xk (c:Jj) (t:Yh):Prop where
 st:t.state=c.state
 up:t.up=c.up
 fr:t.fr=(c.Qb.am [] []).ak
 Aq:Zh t.l t.live (c.Qb.am [] []).ws
 wr:c.Qb.wr+(c.Qb.am [] []).ws.length=400
 ag:c.Qb.fr+(c.Qb.low.length+1)=40
 Cg:t.Cg=8
 jg:t.jg=400
structure vq (Wb ins:List (List Int)) (Xc:List Int):Prop where
 al:Xc.length=Wb.length
 nm:ins.length=Wb.length
 Xc:∀ (i:Nat) (f:List Int),Wb[i]?=some f→∃ t:Nat,Xc[i]?=some (t:Int)∧t≤f.length∧ins[i]?=some (f.drop t)
 Wk:∀ f ∈ Wb,f.length≤65536
section
variable {M:Sc}{Wb sent ins:List (List Int)}{Xc:List Int}{c c':Jj}{t t':Yh}{g Sg:ib}{p Ig:ed}{out:List Int}
theorem Xk.ep (h:Xk c t) (i:vq Wb ins Xc) (out:List Int):ia Wb (c.Qb.am ins out) Xc t.fr t.l t.live:=⟨h.fr,h.Aq,h.wr,h.ag,i.al,i.nm,i.Xc,i.Wk⟩
theorem Xk.of {a:Sd}{fr:List Ic}{l:List Int}{live st:Int}{u:Option Nat}(h:ia Wb a Xc fr l live):Xk ⟨c.state,c.up,a.Qb⟩ ⟨c.state,c.up,fr,l,live,8,400⟩:=⟨rfl,rfl,h.fr,h.st,h.wr,h.ag,rfl,rfl⟩
theorem vq.of {a:Sd}{fr:List Ic}{l:List Int}{live:Int}(h:ia Wb a Xc fr l live):vq Wb a.ins Xc:=⟨h.al,h.nm,h.Xc,h.Wk⟩
structure Fg (Wb:List (List Int)) (g:ib) (Xc:List Int) (p:ed):Prop where
 now:p.now=g.k
 len:p.cs.length=g.cs.length
 co:∀ (i:Nat) (c:Jj),g.cs[i]?=some c→∃ t,p.cs[i]?=some t∧Xk c t
 Yk:vq Wb g.ins Xc
theorem Fg.set (h:Fg Wb g Xc p){j:Nat}(n:Nat) (a:Xk c' t'):Fg Wb { g with k:=n,cs:=g.cs.set j c' } Xc ⟨p.cs.set j t',n⟩ where
 now:=rfl
 len:=by simpa using h.len
 co i c eb:=by
  simp only at eb;rw [List.getElem?_set] at eb;split at eb
  ·rename_i e;subst e;split at eb
   ·rename_i b;obtain rfl:=Option.some.inj eb;exact ⟨t',by simp [h.len,b],a⟩
   ·cases eb
  ·rename_i e;obtain ⟨t,d,f⟩:=h.co i c eb;exact ⟨t,by simp only;rw [List.getElem?_set_ne e];exact d,f⟩
 Yk:=h.Yk
theorem Fg.io (h:Fg Wb g Xc p){a:List (List Int)}{b:List Int}(eb:vq Wb a b) (o:List Int):Fg Wb { g with ins:=a,out:=o } b p:=⟨h.now,h.len,h.co,eb⟩
theorem AG {Qb a:yi}{v:Int}(h:Qb.push v=some a) (ins:List (List Int)) (out:List Int):(Qb.am ins out).push v=some (a.am ins out):=by
 unfold yi.push at h;unfold Sd.push;show (match Qb.wr with | 0=>none | k+1=>some _)=_;split at h
 ·cases h
 ·rename_i k b;(try rw [b]);obtain rfl:=Option.some.inj h;rfl
theorem ov {cs:List Jj}{j:Nat}{v:Int}(h:Fg Wb { g with cs:=cs,k:=j } Xc p) (e:g.to cs j v=some Sg):∃ Ig,Bn p 1 0 0 v=some (Ig,1,0,0)∧Fg Wb Sg Xc Ig∧Sg.ins=g.ins∧Sg.out=g.out:=by
 obtain ⟨c,hc,e⟩:=da e;obtain ⟨Qb,f,e⟩:=da e;obtain rfl:=Option.some.inj e;obtain ⟨t,i,a⟩:=h.co j c hc;obtain ⟨m,qa,b,-⟩:=(a.ep h.Yk []).push (AG f g.ins []) 1 0 0;have d:p.now=j:=h.now;refine ⟨⟨p.cs.set j { t with l:=m,live:=t.live+1 },j⟩,?_,?_,rfl,rfl⟩
 ·rw [Bn,d,i,Lb,a.Cg,a.jg,qa,Lb];simp only [ed.put,d]
 ·exact h.set j (c':={ c with Qb:=Qb }) ⟨a.st,a.up,b.fr,b.st,b.wr,b.ag,a.Cg,a.jg⟩
theorem aJ {v:Int}{r:List Int}(h:Fg Wb g Xc p) (hc:g.cs[g.k]?=some c) (d:c.Qb.st=v::r):∃ Ig,Kn p 1 0 0=some (v,Ig,1,0,0)∧Fg Wb { g with cs:=g.cs.set g.k { c with Qb:={ c.Qb with st:=r,wr:=c.Qb.wr+1 } } } Xc Ig:=by
 obtain ⟨t,e,a⟩:=h.co g.k c hc;obtain ⟨f,qa,b⟩:=(a.ep h.Yk []).pop (v:=v) (r:=r) d 1 0 0;refine ⟨⟨p.cs.set g.k { t with l:=f,live:=t.live - 1 },g.k⟩,?_,?_⟩
 ·rw [Kn,h.now,e,Lb,a.Cg,a.jg,qa,Lb];simp only [ed.put,h.now]
 ·exact h.set g.k (c':={ c with Qb:={ c.Qb with st:=r,wr:=c.Qb.wr+1 } }) ⟨a.st,a.up,b.fr,b.st,b.wr,b.ag,a.Cg,a.jg⟩
theorem BG {l:List Int}(h:l.length≤4294967296):app ([]:List Int) l=some l:=by
 unfold app;rw [if_pos (by simpa using h)];rfl
theorem KI {n:Nat}(h:Fg Wb g Xc p) (hc:g.cs[g.k]?=some c) (r:n≤c.Qb.st.length):∃ Ig,Ku p 1 0 0 (n:Int)=some ((c.Qb.st.take n).reverse,Ig,1,0,0)∧Fg Wb { g with cs:=g.cs.set g.k { c with Qb:={ c.Qb with st:=c.Qb.st.drop n,wr:=c.Qb.wr+n } } } Xc Ig:=by
 obtain ⟨t,f,a⟩:=h.co g.k c hc;have b:(c.Qb.am [] []).ws=(({ c.Qb with st:=c.Qb.st.drop n,wr:=c.Qb.wr+n }:yi).am [] []).ws++(c.Qb.st.take n).reverse:=by
  simp only [Sd.ws,yi.am];have:c.Qb.st.reverse=(c.Qb.st.drop n).reverse++(c.Qb.st.take n).reverse:=by rw [← List.reverse_append,List.take_append_drop]
  rw [this];simp only [List.append_assoc]
 have d:=a.Aq;have hlen:((c.Qb.st.take n).reverse).length=n:=by simp;omega
 have s:c.Qb.st.length≤(c.Qb.am [] []).ws.length:=by simp [Sd.ws,yi.am];omega
 have i:=a.wr;have j:=d.live;have hle:=d.le;rw [b] at d;obtain ⟨m,qa,e⟩:=dy d;rw [hlen] at qa e;have o:cut t.l 0 t.live=some (c.Qb.am [] []).ws:=by
  unfold cut;rw [if_pos (by omega),j];have:=a.Aq.take;simp [this]
 have q:cut (c.Qb.am [] []).ws (t.live - n) ((c.Qb.am [] []).ws.length:Int)=some (c.Qb.st.take n).reverse:=by
  have u:(c.Qb.am [] []).ws.length=(({ c.Qb with st:=c.Qb.st.drop n,wr:=c.Qb.wr+n }:yi).am [] []).ws.length+n:=by rw [b,List.length_append,hlen]
  unfold cut;rw [if_pos (by omega)];rw [show (t.live - n).toNat=(({ c.Qb with st:=c.Qb.st.drop n,wr:=c.Qb.wr+n }:yi).am [] []).ws.length by omega,Int.toNat_natCast,List.take_length,b,List.drop_left]
 refine ⟨⟨p.cs.set g.k { t with l:=m,live:=t.live - n },g.k⟩,?_,?_⟩
 ·rw [Ku,h.now,f,Lb,Ju,yu,a.Cg,a.jg,o,Lb,BG (by omega),Lb,Lb,Sl,Lb,Ih (by omega),Lb,q,Lb,qa,Lb,Lb];simp only [ed.put,h.now]
 ·refine h.set g.k (c':={ c with Qb:={ c.Qb with st:=c.Qb.st.drop n,wr:=c.Qb.wr+n } }) ⟨a.st,a.up,a.fr,e,?_,a.ag,a.Cg,a.jg⟩;rw [b,List.length_append,hlen] at i;show c.Qb.wr+n+(({ c.Qb with st:=c.Qb.st.drop n,wr:=c.Qb.wr+n }:yi).am [] []).ws.length=400;omega
theorem CB {u:Int}{args:List Int}{U:ff}(g:U.od.length≤400) (h:args.length≤U.od.length):∀ (n i:Nat) (l:List Int) (live:Int),i≤U.od.length→U.od.length<n+i→Zh l live ((args++List.replicate (U.od.length - args.length) 0).take i) →
  ∃ b,om u args U n (i:Int) live 8 400 l=some (0,[⟨u,0,0⟩],b,(U.od.length:Int),8,400)∧Zh b (U.od.length:Int) (args++List.replicate (U.od.length - args.length) 0)
 | 0,i,l,live,j,k,a=>by omega
 | n+1,i,l,live,j,k,a=>by
  have hlen:(args++List.replicate (U.od.length - args.length) (0:Int)).length=U.od.length:=by simp;omega
  have m:live=i:=by
   have:=a.live;rw [List.length_take,hlen] at this;omega
  rw [om];by_cases c:i<U.od.length
  ·rw [if_pos (by omega)];obtain ⟨o,qa,e⟩:=ZA (v:=(args++List.replicate (U.od.length - args.length) 0)[i]'(by omega)) a (by rw [List.length_take];omega);have p:(args++List.replicate (U.od.length - args.length) 0).take i++[(args++List.replicate (U.od.length - args.length) 0)[i]'(by omega)]=(args++List.replicate (U.od.length - args.length) 0).take (i+1):=(List.take_succ_eq_append_getElem (by omega)).symm;rw [p] at e;obtain ⟨f,q,r⟩:=CB g h n (i+1) o (live+1) c (by omega) e;have key:∀ x,x=(args++List.replicate (U.od.length - args.length) 0)[i]'(by omega)→zp (i:Int) live 8 400 l (om u args U n) x=some (0,[⟨u,0,0⟩],f,(U.od.length:Int),8,400):=by
    intro x s;subst s;rw [zp,qa,Lb,Ih (by omega),Lb];exact q
   refine ⟨f,?_,r⟩;by_cases d:i<args.length
   ·rw [if_pos (by omega),lj,List.getElem?_eq_getElem d,Lb];exact key _ (by rw [List.getElem_append_left d])
   ·rw [if_neg (by omega)];exact key _ (by rw [List.getElem_append_right (by omega)];simp)
  ·rw [if_neg (by omega)];obtain rfl:i=U.od.length:=by omega
   rw [show (args++List.replicate (U.od.length - args.length) (0:Int)).take U.od.length=args++List.replicate (U.od.length - args.length) 0 from List.take_of_length_le (by omega)] at a;subst m;exact ⟨l,rfl,a⟩
theorem vF {u:Int}{args:List Int}{U:ff}(hu:at_ M.Kd u=some U) (b:U.od.length≤400) (c:args.length≤U.od.length) :
  ∃ a,Sp M u args=some (0,[⟨u,0,0⟩],a,(U.od.length:Int),8,400)∧Zh a (U.od.length:Int) (args++List.replicate (U.od.length - args.length) 0):=by
 have Qa:av 8 400=some (List.replicate 8 0,0,8,400):=rfl;rw [Sp,Qa,Lb,hu,Lb];exact CB b c _ 0 _ 0 (by omega) (by omega) ⟨by simp,by simp,by simp,by simp,by simp⟩
end
end Go.Y
namespace Go.Y
open Go.vc Go.hd
section
variable {M:Sc}{Wb sent ins:List (List Int)}{Xc:List Int}{c c' d:Jj}{t t':Yh}{g Sg:ib}{p Ig:ed}{out:List Int}{Qb:yi}
theorem Fg.bJ (h:Fg Wb { g with cs:=g.cs.set g.k c } Xc p) (n:Nat) (a:Xk c' t'):Fg Wb { g with k:=n,cs:=g.cs.set g.k c' } Xc ⟨p.cs.set g.k t',n⟩:=by
 have:=h.set (j:=g.k) n a;simpa only [List.set_set] using this
theorem Fg.at (h:Fg Wb { g with cs:=g.cs.set g.k c } Xc p) (a:g.k<g.cs.length):∃ t,p.cs[g.k]?=some t∧Xk c t:=h.co g.k c (by simp [a])
theorem DB {j st:Nat}{v:Int}(b:g.k<g.cs.length) (h:Fg Wb { g with cs:=g.cs.set g.k { c with Qb:=Qb } } Xc p) (hu:c.up=some j) (e:g.to (g.cs.set g.k { c with state:=st,up:=none,Qb:=Qb }) j v=some Sg) :
  ∃ q,Io p 1 0 0 (st:Int) v=some (q,1,0,0)∧Fg Wb Sg Xc q∧Sg.ins=g.ins∧Sg.out=g.out:=by
 obtain ⟨t,d,a⟩:=h.at b;have f:=h.bJ (c':={ c with state:=st,up:=none,Qb:=Qb }) (t':={ t with state:=(st:Int),up:=none }) j ⟨rfl,rfl,a.fr,a.Aq,a.wr,a.ag,a.Cg,a.jg⟩;obtain ⟨q,qa,i,l⟩:=ov (g:=g) f e;refine ⟨q,?_,i,l⟩;have m:p.now=g.k:=h.now;have n:t.up=some j:=a.up.trans hu;rw [Io,m,d,Lb,n,Lb];exact qa
theorem Tu {v:Int}{r:List Int}(a:g.k<g.cs.length) (h:Fg Wb { g with cs:=g.cs.set g.k { c with Qb:=Qb } } Xc p) (b:Qb.st=v::r) :
  ∃ q,Kn p 1 0 0=some (v,q,1,0,0)∧Fg Wb { g with cs:=g.cs.set g.k { c with Qb:={ Qb with st:=r,wr:=Qb.wr+1 } } } Xc q:=by
 obtain ⟨q,qa,d⟩:=aJ (c:={ c with Qb:=Qb }) h (by simp [a]) b;exact ⟨q,qa,by simpa only [List.set_set] using d⟩
theorem Fg.add (h:Fg Wb g Xc p) (b:Xk c' t'):Fg Wb { g with cs:=g.cs++[c'] } Xc ⟨p.cs++[t'],p.now⟩ where
 now:=h.now
 len:=by simpa using h.len
 co i c eb:=by
  simp only at eb;rcases Nat.lt_trichotomy i g.cs.length with a | a | a
  ·rw [List.getElem?_append_left a] at eb;obtain ⟨t,d,e⟩:=h.co i c eb;exact ⟨t,by simp only;rw [List.getElem?_append_left (by rw [h.len];exact a)];exact d,e⟩
  ·subst a;rw [List.getElem?_append_right (Nat.le_refl _),Nat.sub_self] at eb;obtain rfl:=Option.some.inj eb;exact ⟨t',by simp only;rw [← h.len,List.getElem?_append_right (Nat.le_refl _),Nat.sub_self];rfl,b⟩
  ·rw [List.getElem?_append_right (by omega),List.getElem?_eq_none (by simp;omega)] at eb;cases eb
 Yk:=h.Yk
theorem wF (gc:Kk M=true){i:Jc}(f:g.k<g.cs.length) (hc:g.cs[g.k]?=some c) (h:Fg Wb { g with cs:=g.cs.set g.k { c with Qb:=Qb } } Xc p) (z:0≤i.A∧i.A≤4000) (e:zq M g c Qb i=some Sg) (Id:i.Op=25∨(29≤i.Op∧i.Op≤32)) :
  ∃ q,oi M p 1 0 0 i=some (q,1,0,0)∧Fg Wb Sg Xc q∧Sg.ins=g.ins∧Sg.out=g.out:=by
 unfold zq at e;by_cases B:i.Op=29
 ·rw [if_pos B] at e;rw [oi,if_neg (by omega),if_pos B,Ex];obtain ⟨u,hu,e⟩:=da e;obtain ⟨⟨be,ce,ge,he⟩,-⟩:=Wp gc hu;split at e
  ·cases e
  ·rename_i S;have lc:u.Params=((u.Params.toNat:Nat):Int):=by omega
   have rc:({ g with cs:=g.cs.set g.k { c with Qb:=Qb } }:ib).cs[({ g with cs:=g.cs.set g.k { c with Qb:=Qb } }:ib).k]?=some { c with Qb:=Qb }:=by simp [f]
   obtain ⟨q,qa,a⟩:=KI (n:=u.Params.toNat) h rc (by simp only;omega);rw [← lc] at qa;simp only [List.set_set] at a;obtain ⟨T,s,W⟩:=vF (M:=M) (u:=i.A) (args:=(Qb.st.take u.Params.toNat).reverse) (U:=u) ((Rm z.1).trans hu) (by omega) (by simp;omega);have X:q.cs.length=g.cs.length:=by have:=a.len;simpa using this
   have fd:((Qb.st.take u.Params.toNat).reverse).length=u.Params.toNat:=by simp;omega
   have l:=a.add (c':=⟨0,none,⟨i.A.toNat,0,(Qb.st.take u.Params.toNat).reverse++List.replicate (u.od.length - u.Params.toNat) 0,[],[],400 - u.od.length,39⟩⟩) (t':=⟨0,none,[⟨i.A,0,0⟩],T,(u.od.length:Int),8,400⟩)
    ⟨rfl,rfl,by show [(⟨i.A,0,0⟩:Ic)]=[⟨((i.A.toNat:Nat):Int),((0:Nat):Int),((og []).length:Int)⟩];rw [Int.toNat_of_nonneg z.1];rfl,by rw [fd] at W;simpa [Sd.ws,yi.am,og] using W,by simp [Sd.ws,yi.am,og];omega,rfl,rfl,rfl⟩
   obtain ⟨m,t,o,w⟩:=ov (g:=g) (j:=g.k) l e;refine ⟨m,?_,o,w⟩;rw [Rm z.1,hu,Lb,qa,Lb,if_neg (by rw [ed.length,X];omega),s,Lb,yn,Lb];have C:(((q.cs++[Yh.mk 0 none [⟨i.A,0,0⟩] T (u.od.length:Int) 8 400]).length:Int) - 1)=(g.cs.length:Int):=by
    rw [List.length_append,X];simp
   rw [C,Ih (by omega),Lb];exact t
 rw [if_neg B] at e;by_cases D:i.Op=30
 ·rw [if_pos D] at e;rw [oi,if_neg (by omega),if_neg (by omega),if_pos D]
  match x:Qb.st,e with
  | [],e=>cases e
  | [_],e=>cases e
  | v::j::r,e =>
   simp only at e;obtain ⟨d,rb,e⟩:=da e;split at e
   ·cases e
   ·rename_i S;obtain ⟨Y,qa,a⟩:=Tu f h x;obtain ⟨m,s,l⟩:=Tu (r:=r) f a rfl;rw [qa,Lb,s,Lb,if_neg (by omega),Xq,if_neg (by rw [show m.now=g.k from l.now];omega)];have id:g.k≠j.toNat:=by omega
    obtain ⟨F,G,b⟩:=l.co j.toNat d (by simp only;rw [List.getElem?_set_ne id];exact rb);have md:m.now=g.k:=l.now;have o:=l.set (j:=j.toNat) (c':={ d with state:=2,up:=some g.k }) (t':={ F with state:=2,up:=some m.now }) j.toNat ⟨rfl,by rw [md],b.fr,b.Aq,b.wr,b.ag,b.Cg,b.jg⟩;rw [G,Lb,b.st];by_cases le:d.state=0
    ·rw [if_pos (by omega)] at e ⊢;obtain rfl:=Option.some.inj e;exact ⟨_,rfl,o,rfl,rfl⟩
    ·rw [if_neg (by omega)] at e ⊢;by_cases ne:d.state=1
     ·rw [if_pos (by omega)] at e ⊢;obtain ⟨H,t,w,K⟩:=ov (g:=g) o e;exact ⟨H,t,w,K⟩
     ·rw [if_neg (by omega)] at e;cases e
 rw [if_neg D] at e;by_cases N:i.Op=31
 ·rw [if_pos N] at e;rw [oi,if_neg (by omega),if_neg (by omega),if_neg (by omega),if_pos N]
  match x:Qb.st,P:c.up,e with
  | [],_,e=>cases e
  | _::_,none,e=>cases e
  | v::r,some j,e =>
   obtain ⟨Y,qa,a⟩:=Tu f h x;obtain ⟨m,s,l⟩:=DB f a P e;rw [qa,Lb];exact ⟨m,s,l⟩
 rw [if_neg N] at e;by_cases Q:i.Op=25
 ·rw [if_pos Q] at e;rw [oi,if_pos Q]
  match P:c.up,e with
  | none,e=>cases e
  | some j,e=>exact DB f h P e
 rw [if_neg Q,if_neg (by omega),if_neg (by omega)] at e;by_cases R:i.Op=32
 ·rw [if_pos R] at e;rw [oi,if_neg (by omega),if_neg (by omega),if_neg (by omega),if_neg (by omega),if_pos R]
  match x:Qb.st,e with
  | [],e=>cases e
  | j::r,e =>
   simp only at e;split at e
   ·cases e
   ·rename_i S;obtain ⟨d,rb,e⟩:=da e;obtain ⟨Y,qa,a⟩:=Tu f h x;rw [qa,Lb,if_neg (by omega)];have rd:∃ y,(g.cs.set g.k { c with Qb:={ Qb with st:=r,wr:=Qb.wr+1 } })[j.toNat]?=some y∧y.state=d.state:=by
     by_cases Z:g.k=j.toNat
     ·rw [← Z] at rb ⊢;rw [hc] at rb;obtain rfl:=Option.some.inj rb;exact ⟨_,List.getElem?_set_self f,rfl⟩
     ·exact ⟨d,by rw [List.getElem?_set_ne Z];exact rb,rfl⟩
    obtain ⟨y,wd,Fd⟩:=rd;obtain ⟨F,G,b⟩:=a.co j.toNat y wd;have C:(ck (F.state≠3))=if d.state=3 then 0 else 1:=by
     rw [b.st,Fd];unfold ck;by_cases o:(d.state:Int)=3
     ·rw [if_neg (by omega),if_pos (by omega)]
     ·rw [if_pos o,if_neg (by omega)]
    rw [G,Lb,Xp,Lb,C];obtain ⟨H,t,w,K⟩:=ov (g:=g) a e;exact ⟨H,t,w,K⟩
 rw [if_neg R] at e;cases e
end
end Go.Y
namespace Go.Y
open Go.vc Go.hd
section
variable {M:Sc}{Wb sent:List (List Int)}{Xc:List Int}{c c' d:Jj}{t t':Yh}{g Sg:ib}{p Ig:ed}{s bx:Int}
def ib.cp (M:Sc) (g:ib) (i:Jc):Prop:=∃ c,g.cs[g.k]?=some c∧(c.Qb.am g.ins g.out).code M=some i∧(i.Op=27→i.A.toNat<g.ins.length)
def ib.tk (g:ib) (i:Jc):Bool:=decide (i.Op=27) && decide (g.ins[i.A.toNat]?=some [])
theorem bB (b:Kk M=true) (h:Fg Wb g Xc p) (d:s≤3){i:Jc}(f:g.cp M i) :
  ∃ Ig,Zp M p s bx 0 Wb Xc sent=some (Ig,if g.tk i then 3 else 1,if g.tk i then i.A else 0,0,Wb,Xc,sent)∧Fg Wb g Xc Ig:=by
 obtain ⟨c,hc,eb,l⟩:=f;obtain ⟨t,m,a⟩:=h.co g.k c hc;have e:=ur (sent:=sent) (bx:=bx) b (a.ep h.Yk g.out) d eb l;refine ⟨⟨p.cs.set g.k t,g.k⟩,?_,?_⟩
 ·rw [Zp,h.now,m,Lb,e,Lb];simp only [ed.put,h.now];rfl
 ·have:=h.set (j:=g.k) g.k a;rwa [show g.cs.set g.k c=g.cs by
   obtain ⟨o,n⟩:=List.getElem?_eq_some_iff.1 hc;rw [← n,List.set_getElem_self]] at this
theorem gy (j:Kk M=true) (h:Fg Wb g Xc p) (r:s≤3) (hc:g.cs[g.k]?=some c){i:Jc}(eb:(c.Qb.am g.ins g.out).code M=some i) (v:i.Op=27→i.A.toNat<g.ins.length) (out:List Int) :
  ∃ t,p.cs[g.k]?=some t∧Xk c t∧((g.tk i=true→Ln M p s bx 0 out Wb Xc sent=none) ∧
   (g.tk i=false→∃ P,Fg Wb { g with cs:=g.cs.set g.k { c with Qb:={ c.Qb with Wc:=c.Qb.Wc+1 } } } Xc P ∧
    Ln M p s bx 0 out Wb Xc sent=(oi M P 1 0 0 i).bind fun q=>(Zp M q.1 q.2.1 q.2.2.1 q.2.2.2 Wb Xc sent).bind fun z=>some (true,z.1,z.2.1,z.2.2.1,z.2.2.2.1,out,z.2.2.2.2.1,z.2.2.2.2.2.1,z.2.2.2.2.2.2))):=by
 obtain ⟨t,d,a⟩:=h.co g.k c hc;have l:=a.ep h.Yk g.out;have e:=ur (sent:=sent) (bx:=bx) j l r eb v;have w:(c.Qb.am g.ins g.out).stuck i=g.tk i:=rfl;rw [w] at e;refine ⟨t,d,a,fun f=>?_,fun f=>?_⟩
 ·rw [Ln,h.now,d,Lb,e,Lb,f];rfl
 ·obtain ⟨u,hu,m⟩:=Pt eb;obtain ⟨⟨C,D,F,G⟩,H⟩:=Wp j hu;have x:(c.Qb.am g.ins g.out).Wc<u.Code.length:=(List.getElem?_eq_some_iff.1 m).1;have K:=a.ag;have n:=l.fr;have y:((t.fr.length:Int) - 1)=((c.Qb.low.length:Nat):Int):=by rw [n];exact Xy _
  have o:at_ t.fr ((c.Qb.low.length:Nat):Int)=some ⟨c.Qb.u,c.Qb.Wc,(og c.Qb.low).length⟩:=by rw [n];exact Su _
  have N:c.Qb.Wc<u.Code.length:=x;have B:i64 ((c.Qb.Wc:Int)+1)=some (((c.Qb.Wc+1:Nat):Int)):=Ih (by omega);refine ⟨⟨p.cs.set g.k { t with fr:=t.fr.set c.Qb.low.length ⟨c.Qb.u,((c.Qb.Wc+1:Nat):Int),(og c.Qb.low).length⟩ },g.k⟩,?_,?_⟩
  ·have b:=(a.ep h.Yk []).Wc (c.Qb.Wc+1);exact h.set g.k (c':={ c with Qb:={ c.Qb with Wc:=c.Qb.Wc+1 } }) ⟨a.st,a.up,b.fr,b.st,b.wr,b.ag,a.Cg,a.jg⟩
  ·rw [Ln,h.now,d,Lb,e,Lb,f];simp only [Bool.false_eq_true,if_false];rw [if_neg (by simp),y,Ih (by omega),Lb,o,Lb,eu];simp only [o,Lb];rw [show at_ M.Kd ((c.Qb.u:Nat):Int)=some u by rw [lj];exact hu,Lb];rw [show at_ u.Code ((c.Qb.Wc:Nat):Int)=some i by rw [lj];exact m,Lb,B,Lb];simp only [ed.put,h.now,Int.toNat_natCast]
theorem gE {i:Jc}(c:¬ (i.Op=25∨(29≤i.Op∧i.Op≤32))) (a b e:Int):oi M p a b e i=none:=by
 rw [oi,if_neg (by omega),if_neg (by omega),if_neg (by omega),if_neg (by omega),if_neg (by omega)]
theorem CG (b:Kk M=true){a:Sd}{i:Jc}(eb:a.code M=some i):0≤i.A∧i.A≤4000:=by
 obtain ⟨u,hu,c⟩:=Pt eb;have:=(Wp b hu).2 _ _ c;exact ⟨this.1,this.2.1⟩
theorem cB (m:Kk M=true) (h:Fg Wb g Xc p) (n:s≤3) (y:g.out.length≤100000) (hc:g.cs[g.k]?=some c){i:Jc}(eb:(c.Qb.am g.ins g.out).code M=some i) (z:¬ (i.Op=25∨(29≤i.Op∧i.Op≤32))){b:Sd}
  (B:Lm M { c.Qb.am g.ins g.out with Wc:=c.Qb.Wc+1 } i=some b) (C:i.Op=27→i.A.toNat<g.ins.length) {i':Jc}(D:({ g with cs:=g.cs.set g.k { c with Qb:=b.Qb },ins:=b.ins,out:=b.out }:ib).cp M i') :
  ∃ Ig d o F,Cn M p s bx 0 g.out Wb Xc sent=some (true,Ig,o,F,0,b.out,Wb,d,sent)∧Fg Wb { g with cs:=g.cs.set g.k { c with Qb:=b.Qb },ins:=b.ins,out:=b.out } d Ig∧o≤3:=by
 obtain ⟨t,G,a,H,K⟩:=gy (sent:=sent) (bx:=bx) m h n hc eb C g.out;have N:Ln M p s bx 0 g.out Wb Xc sent=none:=by
  cases q:g.tk i with
  | true=>exact H q
  | false =>
   obtain ⟨P,-,e⟩:=K q;rw [e,gE z];rfl
 have Q:g.k<g.cs.length:=(List.getElem?_eq_some_iff.1 hc).1;obtain ⟨c2,r,R,S⟩:=D;simp only [List.getElem?_set_self Q,Option.some.injEq] at r;subst r;obtain ⟨d,V,v,w,e,x⟩:=zG (sent:=sent) (cst:=t.state) (bx:=bx) m (a.ep h.Yk g.out) n y eb B (i':=i') R S;have f:=Xk.of (c:=c) (st:=0) (u:=none) x;have T:Xk { c with Qb:=b.Qb } { t with fr:=V,l:=v,live:=w }:=⟨a.st,a.up,f.fr,f.Aq,f.wr,f.ag,a.Cg,a.jg⟩;have U:=(h.set (j:=g.k) g.k T).io (vq.of x) b.out;refine ⟨_,d,(if b.stuck i' then 3 else 1),(if b.stuck i' then i'.A else 0),?_,U,by split<;>omega⟩;rw [Cn,N];simp only;have W:An M s bx 0 g.out Wb Xc sent t.state t.fr t.l t.live 8 400=some (true,(if b.stuck i' then 3 else 1),(if b.stuck i' then i'.A else 0),0,b.out,Wb,d,sent,t.state,V,v,w,8,400):=e;rw [zu,h.now,G,Lb,a.Cg,a.jg,W,Lb];simp only [ed.put,h.now]
theorem xF (d:Kk M=true) (h:Fg Wb g Xc p) (l:s≤3) (o:g.out.length≤100000) (e:Mr M g=some Sg){i':Jc}(m:Sg.cp M i') :
  ∃ Ig u w C,Cn M p s bx 0 g.out Wb Xc sent=some (true,Ig,w,C,0,Sg.out,Wb,u,sent)∧Fg Wb Sg u Ig∧w≤3:=by
 obtain ⟨c,hc,e⟩:=da e;obtain ⟨i,eb,e⟩:=da e;have D:=CG d eb;have F:g.k<g.cs.length:=(List.getElem?_eq_some_iff.1 hc).1;by_cases n:i.Op=25∨(29≤i.Op∧i.Op≤32)
 ·have f:Dn i.Op=true:=by
   unfold Dn;have:i.Op=25∨i.Op=29∨i.Op=30∨i.Op=31∨i.Op=32:=by omega
   rcases this with h | h | h | h | h<;>rw [h]<;>rfl
  rw [if_pos f] at e;obtain ⟨t,X,Y,Z,G⟩:=gy (sent:=sent) (bx:=bx) d h l hc eb (by omega) g.out;have j:g.tk i=false:=by
   have:i.Op≠27:=by omega
   simp [ib.tk,this]
  obtain ⟨P,H,K⟩:=G j;obtain ⟨q,qa,N,gc,Q⟩:=wF d F hc H D e n;obtain ⟨Ig,R,S⟩:=bB (sent:=sent) (s:=1) (bx:=0) d N (by decide) m;refine ⟨Ig,Xc,(if Sg.tk i' then 3 else 1),(if Sg.tk i' then i'.A else 0),?_,S,by split<;>omega⟩;rw [Cn,K,qa,Lb];simp only [R,Lb,Q]
 ·by_cases y:i.Op=5∨i.Op=6
  ·have f:Dn i.Op=true:=by
    unfold Dn;rcases y with h | h<;>rw [h]<;>rfl
   rw [if_pos f] at e;unfold zq at e;rw [if_neg (by omega),if_neg (by omega),if_neg (by omega),if_neg (by omega)] at e;have key:∃ b,Lm M { c.Qb.am g.ins g.out with Wc:=c.Qb.Wc+1 } i=some b∧Sg={ g with cs:=g.cs.set g.k { c with Qb:=b.Qb },ins:=b.ins,out:=b.out }:=by
    rcases y with z | B
    ·rw [if_pos z] at e;unfold Lm;rw [if_pos z];show ∃ b,(match c.Qb.st with | _::r=>some _ | []=>none)=some b∧_;simp only at e;split at e
     ·rename_i v r j;rw [j];exact ⟨_,rfl,(Option.some.inj e).symm⟩
     ·cases e
    ·rw [if_neg (by omega),if_pos B] at e;unfold Lm;rw [if_neg (by omega),if_pos B];show ∃ b,(match c.Qb.st with | v::r=>some _ | []=>none)=some b∧_;simp only at e;split at e
     ·rename_i v r j;rw [j];exact ⟨_,rfl,(Option.some.inj e).symm⟩
     ·cases e
   obtain ⟨b,a,rfl⟩:=key;exact cB d h l o hc eb n a (by omega) m
  ·have f:Dn i.Op=false:=by
    unfold Dn;simp only [Bool.or_eq_false_iff,decide_eq_false_iff_not];omega
   rw [f] at e;simp only [Bool.false_eq_true,if_false] at e;obtain ⟨b,a,e⟩:=da e;obtain rfl:=Option.some.inj e;have T:Lm M { c.Qb.am g.ins g.out with Wc:=c.Qb.Wc+1 } i=some b:=by
    unfold Lm;rw [if_neg (by omega),if_neg (by omega)];exact a
   refine cB d h l o hc eb n T (fun U=>?_) m;unfold Qn at a;rw [if_neg (by omega),if_neg (by omega),if_neg (by omega),if_neg (by omega),if_neg (by omega),if_neg (by omega),if_neg (by omega),if_neg (by omega),if_neg (by omega),if_pos U] at a;simp only at a;split at a
   ·rename_i x r W;exact (List.getElem?_eq_some_iff.1 W).1
   ·cases a
end
end Go.Y
namespace Go.Y
open Go.vc Go.hd
theorem Bu {b c:Sd}{v:Int}(a:c.push v=some b):b.out=c.out:=by
 unfold Sd.push at a;split at a
 ·cases a
 ·rw [← Option.some.inj a]
theorem KE {M:Sc}{b c:Sd}{i:Jc}(h:Qn M c i=some b):b.out.length≤c.out.length+1:=by
 unfold Qn at h;by_cases d:i.Op=1
 ·rw [if_pos d] at h;rw [Bu h];omega
 rw [if_neg d] at h;clear d;by_cases d:i.Op=2
 ·rw [if_pos d] at h;rw [Bu h];omega
 rw [if_neg d] at h;clear d;by_cases d:i.Op=3
 ·rw [if_pos d] at h;obtain ⟨v,-,a⟩:=Option.bind_eq_some_iff.1 h;rw [Bu a];omega
 rw [if_neg d] at h;clear d;by_cases d:i.Op=4
 ·rw [if_pos d] at h;split at h
  ·split at h
   ·rw [← Option.some.inj h];simp
   ·cases h
  ·cases h
 rw [if_neg d] at h;clear d;by_cases d:8≤i.Op∧i.Op≤18
 ·rw [if_pos d] at h;split at h
  ·obtain ⟨v,-,a⟩:=Option.bind_eq_some_iff.1 h;rw [← Option.some.inj a];simp
  ·cases h
 rw [if_neg d] at h;clear d;by_cases d:i.Op=21
 ·rw [if_pos d] at h;rw [← Option.some.inj h];simp
 rw [if_neg d] at h;clear d;by_cases d:i.Op=22
 ·rw [if_pos d] at h;split at h
  ·rw [← Option.some.inj h];simp
  ·cases h
 rw [if_neg d] at h;clear d;by_cases d:i.Op=23
 ·rw [if_pos d] at h;obtain ⟨v,-,a⟩:=Option.bind_eq_some_iff.1 h;split at a
  ·cases a
  ·split at a
   ·cases a
   ·rw [← Option.some.inj a];simp
 rw [if_neg d] at h;clear d;by_cases d:i.Op=24
 ·rw [if_pos d] at h;split at h
  ·rw [← Option.some.inj h];simp
  ·cases h
 rw [if_neg d] at h;clear d;by_cases d:i.Op=27
 ·rw [if_pos d] at h;split at h
  ·rw [Bu h];simp
  ·cases h
 rw [if_neg d] at h;clear d;by_cases d:i.Op=28
 ·rw [if_pos d] at h;split at h
  ·rw [← Option.some.inj h];simp
  ·cases h
 rw [if_neg d] at h;cases h
theorem Ar {g Sg:ib}{cs:List Jj}{j:Nat}{v:Int}(e:g.to cs j v=some Sg):Sg.out=g.out:=by
 obtain ⟨c,hc,e⟩:=da e;obtain ⟨Qb,a,e⟩:=da e;obtain rfl:=Option.some.inj e;rfl
theorem VH {M:Sc}{g Sg:ib}{c:Jj}{Qb:yi}{i:Jc}(e:zq M g c Qb i=some Sg):Sg.out=g.out:=by
 unfold zq at e;by_cases d:i.Op=29
 ·rw [if_pos d] at e;obtain ⟨u,-,e⟩:=da e;split at e
  ·cases e
  ·exact Ar e
 rw [if_neg d] at e;clear d;by_cases d:i.Op=30
 ·rw [if_pos d] at e;split at e
  ·obtain ⟨a,-,e⟩:=da e;split at e
   ·cases e
   ·simp only at e;split at e
    ·rw [← Option.some.inj e]
    ·split at e
     ·exact Ar e
     ·cases e
  ·cases e
 rw [if_neg d] at e;clear d;by_cases d:i.Op=31
 ·rw [if_pos d] at e;split at e
  ·exact Ar e
  ·cases e
 rw [if_neg d] at e;clear d;by_cases d:i.Op=25
 ·rw [if_pos d] at e;split at e
  ·exact Ar e
  ·cases e
 rw [if_neg d] at e;clear d;by_cases d:i.Op=5
 ·rw [if_pos d] at e;split at e
  ·rw [← Option.some.inj e]
  ·cases e
 rw [if_neg d] at e;clear d;by_cases d:i.Op=6
 ·rw [if_pos d] at e;split at e
  ·rw [← Option.some.inj e]
  ·cases e
 rw [if_neg d] at e;clear d;by_cases d:i.Op=32
 ·rw [if_pos d] at e;split at e
  ·split at e
   ·cases e
   ·obtain ⟨a,-,e⟩:=da e;exact Ar e
  ·cases e
 rw [if_neg d] at e;cases e
theorem hE {M:Sc}{g Sg:ib}(e:Mr M g=some Sg):Sg.out.length≤g.out.length+1:=by
 obtain ⟨c,hc,e⟩:=da e;obtain ⟨i,eb,e⟩:=da e;split at e
 ·rw [VH e];omega
 ·obtain ⟨b,a,e⟩:=da e;obtain rfl:=Option.some.inj e;exact KE (c:={ c.Qb.am g.ins g.out with Wc:=c.Qb.Wc+1 }) a
section
variable {M:Sc}{Wb sent:List (List Int)}
theorem ME {g Sg:ib}(e:Mr M g=some Sg):∃ i,g.cp M i:=by
 obtain ⟨c,hc,e⟩:=da e;obtain ⟨i,eb,e⟩:=da e;refine ⟨i,c,hc,eb,fun d=>?_⟩;have f:Dn i.Op=false:=by rw [d];rfl
 rw [f] at e;simp only [Bool.false_eq_true,if_false] at e;obtain ⟨b,a,e⟩:=da e;unfold Qn at a;rw [if_neg (by omega),if_neg (by omega),if_neg (by omega),if_neg (by omega),if_neg (by omega),if_neg (by omega),if_neg (by omega),if_neg (by omega),if_neg (by omega),if_pos d] at a;simp only at a;split at a
 ·rename_i x r h;exact (List.getElem?_eq_some_iff.1 h).1
 ·cases a
theorem EB (r:Kk M=true):∀ (n:Nat) (g b:ib) (i':Jc) (Xc:List Int) (p:ed) (s bx i:Int) (k:Nat),Fg Wb g Xc p→s≤3→g.out.length+n≤100000→Ej M n g=some b→b.cp M i'→0≤i→i+n≤5000 →
  ∃ a f e Ig,tm M 5000 (k+n) i s bx 0 p g.out Xc Wb sent=tm M 5000 k (i+n) a f 0 Ig b.out e Wb sent∧Fg Wb b e Ig∧a≤3
 | 0,g,b,i',Xc,p,s,bx,i,k,l,m,t,h,o,u,v=>by
  cases h;exact ⟨s,bx,Xc,p,by simp,l,m⟩
 | n+1,g,b,i',Xc,p,s,bx,i,k,l,m,t,h,o,u,v=>by
  obtain ⟨c,hc,q⟩:=da h;have w:∃ j,c.cp M j:=by
   cases n with
   | zero=>cases q; exact ⟨i',o⟩
   | succ n =>
    obtain ⟨d,rb,-⟩:=da q;exact ME rb
  obtain ⟨j,x⟩:=w;obtain ⟨Ja,y,s1,z,qa,A,B⟩:=xF (sent:=sent) (bx:=bx) r l m (by omega) hc x;have G:=hE hc;obtain ⟨a,f,e,Ig,C,D,F⟩:=EB r n c b i' y Ja s1 z (i+1) k A B (by omega) q o (by omega) (by omega);refine ⟨a,f,e,Ig,?_,D,F⟩;rw [show k+(n+1)=(k+n)+1 by omega,tm,if_pos (by omega),qa,Lb];simp only [if_true];rw [Ih (by omega),Lb,C];congr 1;omega
theorem yF (a:Kk M=true){g:ib}{o:List Int}{n:Nat}{Xc:List Int}{p:ed}{s bx:Int}{k:Nat}(z:Fg Wb g Xc p) (B:s≤3) (C:g.out=[]) (e:Fj M g o n) (R:n<5000) (S:5000≤k) :
  ∃ r:Uj,tm M 5000 k 0 s bx 0 p g.out Xc Wb sent=some (r,0)∧r.State=3∧r.Out=o:=by
 obtain ⟨m,b,hm,D,⟨c,i,hc,eb,F,T,u⟩,G⟩:=e;have d:i.A.toNat<b.ins.length:=(List.getElem?_eq_some_iff.1 u).1;obtain ⟨H,f,v,Ig,qa,h,w⟩:=EB (sent:=sent) a m g b i Xc p s bx 0 (k - m) z B (by rw [C];simp;omega) D ⟨c,hc,eb,fun _=>d⟩ (by omega) (by omega);rw [show k=(k - m)+m by omega,qa];obtain ⟨x,K⟩:∃ x,k - m=x+1:=⟨k - m - 1,by omega⟩;obtain ⟨t,N,j,P,U⟩:=gy (sent:=sent) (bx:=f) a h w hc eb (fun _=>d) b.out;have y:b.tk i=true:=by simp [ib.tk,F,u]
 have q:=ur (sent:=sent) (bx:=f) a (j.ep h.Yk b.out) w eb (fun _=>d);rw [show (c.Qb.am b.ins b.out).stuck i=true from y] at q;simp only [if_true] at q;have Q:An M H f 0 b.out Wb v sent t.state t.fr t.l t.live 8 400=some (false,3,i.A,0,b.out,Wb,v,sent,t.state,t.fr,t.l,t.live,8,400):=by
  rw [An,q,Lb,if_pos (by simp)]
 rw [K,tm,if_pos (by omega),Cn,P y];simp only;rw [zu,h.now,N,Lb,j.Cg,j.jg,Q,Lb,Lb,if_neg (by simp)];exact ⟨_,rfl,rfl,G⟩
structure wq (M:Sc) (Wb:List (List Int)):Prop where
 n:Wb.length=M.Re.length
 Cz:Wb.length≤1000
 Wk:∀ f ∈ Wb,f.length≤65536
 ty:∀ (i:Nat) (f:List Int) (b:Yj),Wb[i]?=some f→M.Re[i]?=some b→b.ue=2→∀ v ∈ f,v=0∨v=1
theorem FA (a:wq M Wb){i:Nat}{f:List Int}(eb:Wb[i]?=some f) (K:Int→Option (Uj×Int)):∀ (k j:Nat),j≤f.length→f.length<k+j→Jl M (i:Int) f K k (j:Int)=K ((i:Int)+1)
 | 0,j,d,e=>by omega
 | k+1,j,d,e=>by
  have g:i<Wb.length:=(List.getElem?_eq_some_iff.1 eb).1;have m:=a.Cz;have o:=a.Wk f (List.mem_of_getElem? eb);rw [Jl];by_cases c:j<f.length
  ·rw [if_pos (by omega),lj,List.getElem?_eq_getElem c,Lb,lj];have b:i<M.Re.length:=by rw [← a.n];exact g
   rw [List.getElem?_eq_getElem b,Lb];have go:∀ q,q=false→so (j:Int) (Jl M (i:Int) f K k) q=K ((i:Int)+1):=by
    intro q h;subst h;rw [so,if_neg (by decide),Ih (by omega),Lb];exact FA a eb K k (j+1) c (by omega)
   split
   ·rename_i l;have:=a.ty i f _ eb (List.getElem?_eq_getElem b) l f[j] (List.getElem_mem c);split
    ·rename_i p;exact go _ (decide_eq_false (by omega))
    ·exact go _ rfl
   ·exact go _ rfl
  ·rw [if_neg (by omega),Ih (by omega),Lb]
theorem dB (fu:Nat) (Ta xb:Int) (a:List Int) (b:wq M Wb):∀ (k i:Nat),i≤Wb.length→Wb.length<k+i →
  um fu M Ta Wb xb a k (i:Int)=Uq fu M Ta Wb xb a (List.replicate Wb.length 0) (List.replicate Wb.length [])
 | 0,i,d,e=>by omega
 | k+1,i,d,e=>by
  have f:=b.Cz;rw [um];by_cases c:i<Wb.length
  ·rw [if_pos (by omega),lj,List.getElem?_eq_getElem c,Lb];have:=FA b (List.getElem?_eq_getElem c) (um fu M Ta Wb xb a k) (Wb[i].length+1) 0 (by omega) (by omega);rw [show ((0:Nat):Int)=0 from rfl] at this;rw [this];exact dB fu Ta xb a b k (i+1) c (by omega)
  ·rw [if_neg (by omega)];have:Uk (Wb.length:Int)=some Wb.length:=by
    unfold Uk;rw [if_pos (by omega)];simp
   rw [this,Lb,Lb]
structure Dz (fu:Nat) (M:Sc) (un nl:Nat):Prop where
 ok:Kk M=true
 jJ:(du fu M).map (fun w=>w.Th)=some 0
 Jv:(xu M).bind (fun l=>l[0]?)=some (un:Int)
 ka:cv M (un:Int)=some (⟨[⟨2,none,[(⟨(un:Int),0,0⟩:Ic)],List.replicate 8 (0:Int),(nl:Int),8,400⟩],0⟩,1,0,0,[])
 nl:nl≤8
 kJ:∃ u,M.Kd[un]?=some u∧∃ i,u.Code[0]?=some i∧(i.Op=27→i.A.toNat<M.Re.length)
theorem DG {un nl:Nat}(a:nl≤8) (b:wq M Wb):Fg Wb (g0 un nl Wb) (List.replicate Wb.length (0:Int)) ⟨[⟨2,none,[(⟨(un:Int),0,0⟩:Ic)],List.replicate 8 (0:Int),(nl:Int),8,400⟩],0⟩ where
 now:=rfl
 len:=rfl
 co i c eb:=by
  have d:i<1:=by simpa [g0] using (List.getElem?_eq_some_iff.1 eb).1
  obtain rfl:i=0:=by omega
  obtain rfl:=Option.some.inj eb;refine ⟨_,rfl,⟨rfl,rfl,rfl,⟨by simp,by simp,by simp [Sd.ws,yi.am,og],by simp [Sd.ws,yi.am,og];omega,?_⟩,by simp [Sd.ws,yi.am,og];omega,rfl,rfl,rfl⟩⟩;simp only [Sd.ws,yi.am,og,List.reverse_nil,List.append_nil,List.nil_append,List.length_replicate,List.take_replicate];rw [Nat.min_eq_left a]
 Yk:=⟨by simp,rfl,fun i f h=>⟨0,by
  have:i<Wb.length:=(List.getElem?_eq_some_iff.1 h).1;simp [this],by omega,by simpa [g0] using h⟩,b.Wk⟩
theorem wD {fu:Nat}{un nl n:Nat}{o:List Int}(a:Dz fu M un nl) (b:wq M Wb) (v:5001≤fu) (e:Fj M (g0 un nl Wb) o n) (f:n<5000) :
  ∃ r:Uj,pr fu M 0 Wb 5000=some (r,0)∧r.State=3∧r.Out=o:=by
 obtain ⟨w,g,hw⟩:=Option.map_eq_some_iff.1 a.jJ;obtain ⟨Jv,h,d⟩:=Option.bind_eq_some_iff.1 a.Jv;have x:0<Jv.length:=(List.getElem?_eq_some_iff.1 d).1;obtain ⟨u,hu,i,eb,j⟩:=a.kJ;have l:=DG (un:=un) a.nl b;have m:(g0 un nl Wb).cp M i:=by
  refine ⟨_,rfl,?_,fun c=>by show _<Wb.length;rw [b.n];exact j c⟩;show (M.Kd[un]?).bind (fun u=>u.Code[0]?)=some i;rw [hu];exact eb
 obtain ⟨Ig,p,q⟩:=bB (sent:=List.replicate Wb.length []) (s:=1) (bx:=0) a.ok l (by decide) m;obtain ⟨r,qa,t⟩:=yF (sent:=List.replicate Wb.length []) (bx:=if (g0 un nl Wb).tk i=true then i.A else 0) a.ok q (s:=if (g0 un nl Wb).tk i=true then 3 else 1) (by split<;>omega) rfl e f (k:=fu) (by omega);refine ⟨r,?_,t⟩;rw [pr,g,Lb,if_neg (by simp [hw]),h,Lb,if_neg (by decide),if_neg (by omega),if_neg (by decide),if_neg (by decide),if_neg (by rw [b.n];simp)];have:=dB fu 0 5000 Jv b (Wb.length+1) 0 (by omega) (by omega);rw [show ((0:Nat):Int)=0 from rfl] at this;rw [this,Uq,Rm (by decide)];simp only [Int.toNat_zero];rw [d,Lb,a.ka,Lb];simp only [p,Lb];exact qa
end
theorem FB (l:List Int) (a:l.length≤65536):∀ (n i:Nat),i≤l.length→l.length<n+i→Ep l l n (i:Int)=some true
 | 0,i,b,d=>by omega
 | n+1,i,b,d=>by
  rw [Ep];by_cases c:i<l.length
  ·rw [if_pos (by omega),lj,List.getElem?_eq_getElem c,Lb,Lb,if_neg (by simp),Ih (by omega),Lb];exact FB l a n (i+1) c (by omega)
  ·rw [if_neg (by omega)]
theorem EG (l:List Int) (a:l.length≤65536):sr l l=some true:=by
 rw [sr,if_neg (by simp)];exact FB l a _ 0 (by omega) (by omega)
theorem zF {fu:Nat}{name:List UInt8}{M:Sc}{un nl n:Nat}{Wb:List (List Int)}{o:List Int}(hm:Yq fu name=some (M,0)) (a:Dz fu M un nl) (b:wq M Wb) (c:5001≤fu)
  (e:Fj M (g0 un nl Wb) o n) (d:n<5000) (f:o.length≤65536):Vp fu name o Wb=some true:=by
 obtain ⟨r,g,h,i⟩:=wD a b c e d;rw [Vp,dv,hm,Lb,if_neg (by simp),g,Lb,Lb,if_pos rfl,if_pos h,i,EG o f,Lb]
theorem cJ {M:Sc}{l:List Int}{c:Int}(d:M.Re=[⟨1,c⟩]) (e:l.length≤65536):wq M [l] where
 n:=by rw [d];rfl
 Cz:=by simp
 Wk f g:=by obtain rfl:=List.mem_singleton.1 g;exact e
 ty i f b j a h:=by
  rw [d] at a;have eb:i<1:=by simpa using (List.getElem?_eq_some_iff.1 a).1
  obtain rfl:i=0:=by omega
  cases a;cases h
theorem WH {l xs:List Int}(h:l.length+xs.length≤4294967296):app l xs=some (l++xs):=if_pos h
end Go.Y
namespace Go.Y
open Go.vc Go.hd
theorem eB (l:List Int) (m:Int) (hm:0≤m∧m≤9223372036854775807) (f:l.length≤12):∀ (n i:Nat),i≤l.length→l.length<n+i→∃ b,cn l m n (i:Int)=some b∧(b=true→∀ x ∈ l.drop i,-m≤x∧x≤m)
 | 0,i,g,h=>by omega
 | n+1,i,g,h=>by
  rw [cn];by_cases c:i<l.length
  ·rw [if_pos (by omega),lj,List.getElem?_eq_getElem c,Lb,gv (by omega)];obtain ⟨b,qa,j⟩:=eB l m hm f n (i+1) c (by omega);by_cases d:l[i]<0 - m
   ·rw [if_pos d];exact ⟨false,rfl,by simp⟩
   ·rw [if_neg d,Jq];by_cases e:m<l[i]
    ·rw [decide_eq_true e];exact ⟨false,rfl,by simp⟩
    ·rw [decide_eq_false e,if_neg (by decide),Ih (by omega),Lb];refine ⟨b,qa,fun k x a=>?_⟩;rw [List.drop_eq_getElem_cons c] at a;rcases List.mem_cons.1 a with rfl | a
     ·omega
     ·exact j k x a
  ·rw [if_neg (by omega)];exact ⟨true,rfl,fun _ x a=>by rw [List.drop_eq_nil_of_le (by omega)] at a;simp at a⟩
theorem AF (l:List Int) (m:Int) (hm:0≤m∧m≤9223372036854775807):∃ b,ar l m=some b∧(b=true→l.length≤12∧∀ x ∈ l,-m≤x∧x≤m):=by
 rw [ar];by_cases c:(12:Int)<l.length
 ·rw [if_pos c];exact ⟨false,rfl,by simp⟩
 ·rw [if_neg c];obtain ⟨b,qa,a⟩:=eB l m hm (by omega) (l.length+1) 0 (by omega) (by omega);exact ⟨b,qa,fun d=>⟨by omega,by simpa using a d⟩⟩
end Go.Y
namespace Go.Y
open Go.vc Go.hd
theorem FG:Dz 60001 Zl 1 2:=⟨by decide +kernel,by decide +kernel,by decide +kernel,by kernel_rfl,by decide,⟨_,rfl,_,rfl,by decide⟩⟩
theorem GG:Yq 60001 [102,105,98]=some (Zl,0):=by decide +kernel
theorem Kx:∀ (n:Nat) (x y:Int),(Al n x y).length=n
 | 0,x,y=>rfl
 | n+1,x,y=>by simp [Al,Kx n]
theorem ZB (i:Int) (K:Int→Int→Int→List Int→Option Bool):∀ (m n:Nat) (x a b:Int) (acc:List Int),x.toNat=m→x≤100→m<n→acc.length+m≤10000→vo i K n a b x acc=Option.bind (i64 (i+1)) fun j=>K (Dk m a b).1 (Dk m a b).2 j (acc++Al m a b)
 | m,0,x,a,b,acc,c,d,e,f=>by omega
 | 0,n+1,x,a,b,acc,c,d,e,f=>by
  rw [vo,if_neg (by omega)];simp only [Dk,Al,List.append_nil]
 | m+1,n+1,x,a,b,acc,c,d,e,f=>by
  rw [vo,if_pos (by omega),WH (by simp;omega),Lb,gv (n:=x - 1) (by omega),ZB i K m n (x - 1) b (Ag (a+b)) (acc++[a]) (by omega) (by omega) (by omega) (by simp;omega)];simp only [Dk,Al,List.append_assoc,List.singleton_append]
theorem aC (l:List Int) (e:l.length≤12) (d:∀ v ∈ l,v≤6):∀ (n i:Nat) (a b:Int) (acc:List Int),i≤l.length→l.length<n+i→acc.length≤6*i →
  wo 60001 l n a b (i:Int) acc=Option.bind (Vp 60001 [102,105,98] (acc++Fk (l.drop i) a b) [l]) fun r=>some r
 | 0,i,a,b,acc,f,g,h=>by omega
 | n+1,i,a,b,acc,f,g,h=>by
  rw [wo];by_cases c:i<l.length
  ·have j:=d l[i] (List.getElem_mem c);rw [if_pos (by omega),lj,List.getElem?_eq_getElem c,Lb,ZB _ _ l[i].toNat 60001 l[i] a b acc rfl (by omega) (by omega) (by omega),Ih (by omega),Lb];have:=aC l e d n (i+1) (Dk l[i].toNat a b).1 (Dk l[i].toNat a b).2 (acc++Al l[i].toNat a b) c (by omega) (by rw [List.length_append,Kx];omega);rw [show ((i:Int)+1)=((i+1:Nat):Int) by omega,this,List.drop_eq_getElem_cons c,Fk,List.append_assoc]
  ·rw [if_neg (by omega),List.drop_eq_nil_of_le (by omega),Fk,List.append_nil]
theorem fB:∀ (l:List Int) (x y:Int),(∀ v ∈ l,v≤6)→(Fk l x y).length≤6*l.length
 | [],x,y,h=>by simp [Fk]
 | v::l,x,y,h=>by
  have a:=h v (by simp);have b:=fB l (Dk v.toNat x y).1 (Dk v.toNat x y).2 fun w hw=>h w (by simp [hw]);rw [Fk,List.length_append,Kx,List.length_cons];omega
theorem iE (l:List Int):tr 60001 l=some true:=by
 obtain ⟨b,qa,c⟩:=AF l 6 (by decide);rw [tr,qa,Lb];cases b with
 | false=>rfl
 | true =>
  obtain ⟨d,e⟩:=c rfl;have a:∀ v ∈ l,v≤6:=fun v a=>(e v a).2;have h:=aC l d a (l.length+1) 0 0 1 [] (by omega) (by omega) (by simp);rw [show ((0:Nat):Int)=0 from rfl] at h;have f:=fB l 0 1 a;rw [if_pos rfl,h,List.drop_zero,List.nil_append,zF (n:=165*l.length+25) GG FG (cJ rfl (by omega)) (by decide) (uF l a) (by omega) (by omega),Lb]
end Go.Y
