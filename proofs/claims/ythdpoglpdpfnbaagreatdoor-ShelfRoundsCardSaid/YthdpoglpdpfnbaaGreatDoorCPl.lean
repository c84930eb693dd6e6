/- The shelf: texts of ShelfRounds Pl. -/
import Derived.Test.YthdpoglpdpfnbaaGreatDoorCMd
import Derived.ProofKit
set_option linter.unusedSimpArgs false
set_option linter.unusedVariables false
set_option linter.unusedSectionVars false
namespace Go.Y
open Go.vc Go.jd
def Fp (p_1:List Int) (a:List Int):Nat→Int→Option Bool
 | 0,_=>none
 | n+1,i26 =>
  if i26<(p_1.length:Int) then
   (at_ p_1 i26).bind fun b =>
   (at_ a i26).bind fun c =>
   if b≠c then
    some false
   else
    (i64 (i26+1)).bind fun i65 =>
    Fp p_1 a n i65
  else
   some true
def xr  (p_1:List Int) (a:List Int):Option Bool :=
 if (p_1.length:Int)≠(a.length:Int) then
  some false
 else
  Fp p_1 a (p_1.length+1) 0
def Mq (i17:Int) (a:Int→Option Bool) (Tg:Bool):Option Bool :=
 if Tg=true then
  some false
 else
  (i64 (i17+1)).bind fun i44 =>
  a i44
def dn (p_1:List Int) (a:Int):Nat→Int→Option Bool
 | 0,_=>none
 | n+1,i17 =>
  if i17<(p_1.length:Int) then
   (at_ p_1 i17).bind fun b =>
   if b<(Nf (0 - a)) then
    Mq i17 (dn p_1 a n) true
   else
    Mq i17 (dn p_1 a n) (decide (a<b))
  else
   some true
def er  (p_1:List Int) (a:Int):Option Bool :=
 if (12:Int)<(p_1.length:Int) then
  some false
 else
  dn p_1 a (p_1.length+1) 0
def Wp (fu:Nat)  (p_1:List UInt8) (b:List Int) (c:List (List Int)):Option Bool :=
 (gv fu p_1 c).bind fun a =>
 if a.2=0 then
  if a.1.State=3 then
   (xr a.1.Out b).bind fun d =>
   some d
  else
   some false
 else
  some false
def cn (i28:Int) (a:List Int) (b:Int) (c:Int→(List Int)→Option Bool):Nat→Int→Int→Option Bool
 | 0,_,_=>none
 | n+1,i63,i65 =>
  if i65<b then
   cn i28 a b c n (Nf (i63+i65)) (Nf (i65+1))
  else
   (app a [i63]).bind fun d =>
   (i64 (i28+1)).bind fun i75 =>
   c i75 d
def oo (fu:Nat) (p_1:List Int):Nat→Int→(List Int)→Option Bool
 | 0,_,_=>none
 | n+1,i28,a =>
  if i28<(p_1.length:Int) then
   (at_ p_1 i28).bind fun b =>
   cn i28 a b (oo fu p_1 n) fu 0 0
  else
   (Wp fu [114,111,117,110,100,115] a [p_1]).bind fun c =>
   some c
def Zq (fu:Nat)  (p_1:List Int):Option Bool :=
 (er p_1 12).bind fun a =>
 if a=true then
  oo fu p_1 (p_1.length+1) 0 []
 else
  some true
end Go.Y
namespace Go.Y
open Go.vc Go.jd
structure Fr where
 u:Nat
 Vc:Nat
 loc:List Int
 st:List Int
structure Ud where
 u:Nat
 Vc:Nat
 loc:List Int
 st:List Int
 low:List Fr
 wr:Nat
 fr:Nat
 ins:List (List Int)
 out:List Int
def Kk (p:Prop) [Decidable p]:Int:=if p then 1 else 0
def two (op a b:Int):Option Int :=
 if op=8 then some (Nf (a+b)) else if op=9 then some (Nf (a - b)) else if op=10 then some (Nf (a*b))
 else if op=11 then (if b=0 then none else some (Nf (a.tdiv b))) else if op=12 then (if b=0 then none else some (a.tmod b))
 else if op=13 then some (Kk (a=b)) else if op=14 then some (Kk (a≠b)) else if op=15 then some (Kk (a<b)) else if op=16 then some (Kk (a≤b))
 else if op=17 then some (Kk (b<a)) else none
def Ud.push (a:Ud) (v:Int):Option Ud :=
 match a.wr with
 | 0=>none
 | k+1=>some { a with st:=v::a.st,wr:=k }
def Sn (M:Uc) (a:Ud) (i:Kc):Option Ud :=
 if i.Op=1 then a.push i.N
 else if i.Op=2 then a.push i.A
 else if i.Op=3 then (a.loc[i.A.toNat]?).bind a.push
 else if i.Op=4 then (match a.st with | v::r=>if i.A.toNat<a.loc.length then some { a with st:=r,wr:=a.wr+1,loc:=a.loc.set i.A.toNat v } else none | []=>none)
 else if 8≤i.Op∧i.Op≤18 then (match a.st with | y::x::r=>(two i.Op x y).bind fun z=>some { a with st:=z::r,wr:=a.wr+1 } | _=>none)
 else if i.Op=21 then some { a with Vc:=i.A.toNat }
 else if i.Op=22 then (match a.st with | v::r=>some { a with st:=r,wr:=a.wr+1,Vc:=if v=0 then i.A.toNat else a.Vc } | []=>none)
 else if i.Op=23 then (M.Ld[i.A.toNat]?).bind fun u=>match a.fr with
  | 0=>none
  | f+1=>if a.st.length<u.Params.toNat∨a.wr<u.qd.length - u.Params.toNat then none
   else some { a with u:=i.A.toNat,Vc:=0,loc:=(a.st.take u.Params.toNat).reverse++List.replicate (u.qd.length - u.Params.toNat) 0,st:=[],low:=⟨a.u,a.Vc,a.loc,a.st.drop u.Params.toNat⟩::a.low,fr:=f,wr:=a.wr - (u.qd.length - u.Params.toNat) }
 else if i.Op=24 then (match a.st,a.low with
  | v::r,f::b=>some { a with u:=f.u,Vc:=f.Vc,loc:=f.loc,st:=v::f.st,low:=b,fr:=a.fr+1,wr:=a.wr+r.length+a.loc.length }
  | _,_=>none)
 else if i.Op=27 then (match a.ins[i.A.toNat]? with
  | some (x::r)=>({ a with ins:=a.ins.set i.A.toNat r }:Ud).push x
  | _=>none)
 else if i.Op=28 then (match a.st with | v::r=>some { a with st:=r,wr:=a.wr+1,out:=a.out++[v] } | []=>none)
 else none
def Ud.code (M:Uc) (a:Ud):Option Kc:=(M.Ld[a.u]?).bind fun u=>u.Code[a.Vc]?
end Go.Y
namespace Go.Y
def Nk:Uc:=⟨[⟨1,20⟩],[⟨3,1,[1,1],1,2,[⟨1,0,0⟩,⟨4,1,0⟩,⟨3,1,0⟩,⟨3,0,0⟩,⟨15,0,0⟩,⟨22,14,0⟩,⟨3,1,0⟩,⟨31,0,0⟩,⟨5,0,0⟩,⟨3,1,0⟩,⟨1,0,1⟩,⟨8,0,0⟩,⟨4,1,0⟩,⟨21,2,0⟩,⟨25,0,0⟩]⟩,⟨3,0,[1,10,1],1,1,[⟨1,0,0⟩,⟨31,0,0⟩,⟨4,0,0⟩,⟨2,1,0⟩,⟨22,24,0⟩,⟨3,0,0⟩,⟨29,0,0⟩,⟨4,1,0⟩,⟨1,0,0⟩,⟨4,2,0⟩,⟨3,1,0⟩,⟨32,0,0⟩,⟨22,20,0⟩,⟨3,2,0⟩,⟨3,1,0⟩,⟨2,1,0⟩,⟨30,0,0⟩,⟨8,0,0⟩,⟨4,2,0⟩,⟨21,10,0⟩,⟨3,2,0⟩,⟨31,0,0⟩,⟨4,0,0⟩,⟨21,3,0⟩,⟨25,0,0⟩]⟩,⟨4,0,[11],0,0,[⟨29,1,0⟩,⟨4,0,0⟩,⟨3,0,0⟩,⟨1,0,0⟩,⟨30,0,0⟩,⟨5,0,0⟩,⟨2,1,0⟩,⟨22,13,0⟩,⟨3,0,0⟩,⟨27,0,0⟩,⟨30,0,0⟩,⟨28,0,0⟩,⟨21,6,0⟩,⟨25,0,0⟩]⟩]⟩
end Go.Y
namespace Go.Y
open Go.vc Go.jd
structure Bi where
 u:Nat
 Vc:Nat
 loc:List Int
 st:List Int
 low:List Fr
 wr:Nat
 fr:Nat
structure Dh where
 state:Nat
 up:Option Nat
 Sb:Bi
structure hb where
 k:Nat
 cs:List Dh
 ins:List (List Int)
 out:List Int
def Bi.am (t:Bi) (ins:List (List Int)) (out:List Int):Ud:=⟨t.u,t.Vc,t.loc,t.st,t.low,t.wr,t.fr,ins,out⟩
def Ud.Sb (a:Ud):Bi:=⟨a.u,a.Vc,a.loc,a.st,a.low,a.wr,a.fr⟩
def Bi.push (t:Bi) (v:Int):Option Bi :=
 match t.wr with
 | 0=>none
 | k+1=>some { t with st:=v::t.st,wr:=k }
def hb.to (g:hb) (cs:List Dh) (j:Nat) (v:Int):Option hb :=
 (cs[j]?).bind fun c=>(c.Sb.push v).bind fun t=>some { g with k:=j,cs:=cs.set j { c with Sb:=t } }
def Bq (M:Uc) (g:hb) (c:Dh) (t:Bi) (i:Kc):Option hb :=
 if i.Op=29 then (M.Ld[i.A.toNat]?).bind fun u =>
  if t.st.length<u.Params.toNat∨30<g.cs.length∨400<u.qd.length∨u.qd.length<u.Params.toNat then none else
  g.to (g.cs.set g.k { c with Sb:={ t with st:=t.st.drop u.Params.toNat,wr:=t.wr+u.Params.toNat } }++[⟨0,none,⟨i.A.toNat,0,(t.st.take u.Params.toNat).reverse++List.replicate (u.qd.length - u.Params.toNat) 0,[],[],400 - u.qd.length,39⟩⟩]) g.k (g.cs.length:Int)
 else if i.Op=30 then (match t.st with
  | v::j::r=>(g.cs[j.toNat]?).bind fun d =>
   if j.toNat=g.k∨j<0 then none else
   let cs:=(g.cs.set g.k { c with Sb:={ t with st:=r,wr:=t.wr+2 } }).set j.toNat { d with state:=2,up:=some g.k }
   if d.state=0 then some { g with k:=j.toNat,cs:=cs } else if d.state=1 then g.to cs j.toNat v else none
  | _=>none)
 else if i.Op=31 then (match t.st,c.up with
  | v::r,some j=>g.to (g.cs.set g.k { c with state:=1,up:=none,Sb:={ t with st:=r,wr:=t.wr+1 } }) j v
  | _,_=>none)
 else if i.Op=25 then (match c.up with
  | some j=>g.to (g.cs.set g.k { c with state:=3,up:=none,Sb:=t }) j 0
  | none=>none)
 else if i.Op=5 then (match t.st with
  | v::r=>some { g with cs:=g.cs.set g.k { c with Sb:={ t with st:=r,wr:=t.wr+1 } } }
  | _=>none)
 else if i.Op=6 then (match t.st with
  | v::r=>some { g with cs:=g.cs.set g.k { c with Sb:={ t with st:=Nf (-v)::r } } }
  | _=>none)
 else if i.Op=32 then (match t.st with
  | j::r=>if j<0 then none else (g.cs[j.toNat]?).bind fun d=>g.to (g.cs.set g.k { c with Sb:={ t with st:=r,wr:=t.wr+1 } }) g.k (if d.state=3 then 0 else 1)
  | _=>none)
 else none
def En (o:Int):Bool:=o=5 || o=6 || o=25 || o=29 || o=30 || o=31 || o=32
def Qr (M:Uc) (g:hb):Option hb :=
 (g.cs[g.k]?).bind fun c=>((c.Sb.am g.ins g.out).code M).bind fun i =>
  if En i.Op then Bq M g c { c.Sb with Vc:=c.Sb.Vc+1 } i
  else (Sn M { c.Sb.am g.ins g.out with Vc:=c.Sb.Vc+1 } i).bind fun a=>some { g with cs:=g.cs.set g.k { c with Sb:=a.Sb },ins:=a.ins,out:=a.out }
def Ij (M:Uc):Nat→hb→Option hb
 | 0,a=>some a
 | n+1,a=>(Qr M a).bind (Ij M n)
theorem Mx (M:Uc):∀ (n m:Nat) (a b:hb),Ij M n a=some b→Ij M (n+m) a=Ij M m b
 | 0,m,a,b,h=>by cases h; rw [Nat.zero_add]
 | n+1,m,a,b,h=>by
  rw [show n+1+m=(n+m)+1 by omega];simp only [Ij] at h ⊢;cases d:Qr M a with
  | none=>rw [d] at h; cases h
  | some c=>rw [d] at h; exact Mx M n m c b h
def hb.waits (M:Uc) (g:hb):Prop:=∃ c i,g.cs[g.k]?=some c∧(c.Sb.am g.ins g.out).code M=some i∧i.Op=27∧0≤i.A∧g.ins[i.A.toNat]?=some []
def Jj (M:Uc) (a:hb) (o:List Int) (k:Nat):Prop:=∃ n b,n≤k∧Ij M n a=some b∧b.waits M∧b.out=o
theorem Jj.go {M:Uc}{a b:hb}{o:List Int}{n k:Nat}(h:Ij M n a=some b) (e:Jj M b o k):Jj M a o (n+k):=by
 obtain ⟨m,c,i,d,f,g⟩:=e;exact ⟨n+m,c,by omega,by rw [Mx M n m a b h];exact d,f,g⟩
theorem Jj.to {M:Uc}{a:hb}{o b:List Int}{k d:Nat}(e:Jj M a o k) (f:o=b) (h:k≤d):Jj M a b d:=by
 subst f;obtain ⟨m,c,l,g,i,j⟩:=e;exact ⟨m,c,by omega,g,i,j⟩
theorem Jj.wait {M:Uc}{a b:hb}{c:Dh}{o:List Int}{n:Nat}{A:Int}(h:Ij M n a=some b) (d:b.cs[b.k]?=some c) (hc:(c.Sb.am b.ins b.out).code M=some ⟨27,A,0⟩) (e:0≤A) (gb:b.ins[A.toNat]?=some []) (f:b.out=o):Jj M a o n :=
 ⟨n,b,Nat.le_refl _,h,⟨_,_,d,hc,rfl,e,gb⟩,f⟩
def Uk (M:Uc) (a b:hb) (k:Nat):Prop:=∃ n,n≤k∧Ij M n a=some b
theorem Uk.go {M:Uc}{a b c:hb}{n k:Nat}(h:Ij M n a=some b) (e:Uk M b c k):Uk M a c (n+k):=by
 obtain ⟨m,f,d⟩:=e;exact ⟨n+m,by omega,by rw [Mx M n m a b h];exact d⟩
theorem Uk.of {M:Uc}{a b:hb}{n:Nat}(h:Ij M n a=some b):Uk M a b n:=⟨n,Nat.le_refl _,h⟩
theorem Uk.to {M:Uc}{a b b':hb}{k c:Nat}(e:Uk M a b k) (d:b=b') (h:k≤c):Uk M a b' c:=by
 subst d;obtain ⟨n,g,f⟩:=e;exact ⟨n,by omega,f⟩
theorem Jj.goes {M:Uc}{a b:hb}{o:List Int}{n k:Nat}(h:Uk M a b n) (e:Jj M b o k):Jj M a o (n+k):=by
 obtain ⟨i,d,c⟩:=h;exact (Jj.go c e).to rfl (by omega)
def g0 (u n:Nat) (ins:List (List Int)):hb:=⟨0,[⟨2,none,⟨u,0,List.replicate n 0,[],[],400 - n,39⟩⟩],ins,[]⟩
end Go.Y
namespace Go.Y
open Go.vc Go.jd
theorem FC {p:Prop}[Decidable p] (h:p):Kk p=1:=if_pos h
theorem GC {p:Prop}[Decidable p] (h:¬ p):Kk p=0:=if_neg h
end Go.Y
namespace Go.Y
open Go.vc Go.jd
def lo:Nat→Int→Int→Int→Int
 | 0,x,i,s=>s
 | f+1,x,i,s=>if Nf (i+1)<x then lo f x (Nf (i+1)) (Nf (s+Nf (i+1))) else Nf (s+0)
def Qm (x:Int):Int:=if 0<x then lo 13 x 0 (Nf (0+0)) else Nf (0+0)
inductive Cq:Dh→Prop where
 | first (a b c:Int):Cq ⟨1,none,⟨1,2,[a,b,c],[],[],397,39⟩⟩
 | more (a b c:Int):Cq ⟨1,none,⟨1,22,[a,b,c],[],[],397,39⟩⟩
def wq (O:Dh) (E:List Dh) (l o:List Int):hb:=⟨0,⟨2,none,⟨2,6,[1],[],[],399,39⟩⟩::O::E,[l],o⟩
def im (Vc:Nat) (st:List Int) (E:List Dh) (x s:Int) (a:Dh) (l o:List Int):hb:=⟨1,⟨2,none,⟨2,11,[1],[],[],399,39⟩⟩::⟨2,some 0,⟨1,Vc,[x,((E.length+2:Nat):Int),s],st,[],397 - st.length,39⟩⟩::(E++[a]),[l],o⟩
def Jv (E:List Dh) (Vc:Nat) (x i s:Int) (st:List Int) (l o:List Int):hb:=⟨E.length+2,⟨2,none,⟨2,11,[1],[],[],399,39⟩⟩::⟨2,some 0,⟨1,17,[x,((E.length+2:Nat):Int),s],[s],[],396,39⟩⟩::(E++[⟨2,some 1,⟨0,Vc,[x,i],st,[],398 - st.length,39⟩⟩]),[l],o⟩
theorem CF {O:Dh}(h:Cq O) (E:List Dh) (p:E.length≤12) (x:Int) (l o:List Int):Uk Nk (wq O E (x::l) o) (im 10 [] E x 0 ⟨0,none,⟨0,0,[x,0],[],[],398,39⟩⟩ l o) 14:=by
 cases h with
 | first a0 r c0 =>
  refine .to (.of (n:=13) (b:=im 10 [] E x 0 ⟨0,none,⟨0,0,[x,0],[],[],398,39⟩⟩ l o) ?_) rfl (by decide);rcases E with _ | ⟨a,_ | ⟨b,_ | ⟨c,_ | ⟨d,_ | ⟨e,_ | ⟨f,_ | ⟨g,_ | ⟨h,_ | ⟨i,_ | ⟨j,_ | ⟨k,_ | ⟨m,_ | ⟨q,E⟩⟩⟩⟩⟩⟩⟩⟩⟩⟩⟩⟩⟩;iterate 13 kernel_rfl
  exact absurd p (by simp)
 | more a0 r c0 =>
  refine .to (.of (n:=14) (b:=im 10 [] E x 0 ⟨0,none,⟨0,0,[x,0],[],[],398,39⟩⟩ l o) ?_) rfl (by decide);rcases E with _ | ⟨a,_ | ⟨b,_ | ⟨c,_ | ⟨d,_ | ⟨e,_ | ⟨f,_ | ⟨g,_ | ⟨h,_ | ⟨i,_ | ⟨j,_ | ⟨k,_ | ⟨m,_ | ⟨q,E⟩⟩⟩⟩⟩⟩⟩⟩⟩⟩⟩⟩⟩;iterate 13 kernel_rfl
  exact absurd p (by simp)
theorem DF (E:List Dh) (n:E.length≤12) (x s:Int) (l o:List Int):Ij Nk 12 (im 10 [] E x s ⟨0,none,⟨0,0,[x,0],[],[],398,39⟩⟩ l o)=some (Jv E 5 x 0 s [Kk (0<x)] l o):=by
 rcases E with _ | ⟨a,_ | ⟨b,_ | ⟨c,_ | ⟨d,_ | ⟨e,_ | ⟨f,_ | ⟨g,_ | ⟨h,_ | ⟨i,_ | ⟨j,_ | ⟨k,_ | ⟨m,_ | ⟨q,E⟩⟩⟩⟩⟩⟩⟩⟩⟩⟩⟩⟩⟩;iterate 13 kernel_rfl
 exact absurd n (by simp)
theorem HG (E:List Dh) (n:E.length≤12) (x i s:Int) (l o:List Int):Ij Nk 16 (im 10 [] E x s ⟨1,none,⟨0,8,[x,i],[],[],398,39⟩⟩ l o)=some (Jv E 5 x (Nf (i+1)) s [Kk (Nf (i+1)<x)] l o):=by
 rcases E with _ | ⟨a,_ | ⟨b,_ | ⟨c,_ | ⟨d,_ | ⟨e,_ | ⟨f,_ | ⟨g,_ | ⟨h,_ | ⟨i,_ | ⟨j,_ | ⟨k,_ | ⟨m,_ | ⟨q,E⟩⟩⟩⟩⟩⟩⟩⟩⟩⟩⟩⟩⟩;iterate 13 kernel_rfl
 exact absurd n (by simp)
theorem aC (E:List Dh) (n:E.length≤12) (x i s:Int) (l o:List Int):Ij Nk 6 (Jv E 5 x i s [1] l o)=some (im 10 [] E x (Nf (s+i)) ⟨1,none,⟨0,8,[x,i],[],[],398,39⟩⟩ l o):=by
 rcases E with _ | ⟨a,_ | ⟨b,_ | ⟨c,_ | ⟨d,_ | ⟨e,_ | ⟨f,_ | ⟨g,_ | ⟨h,_ | ⟨i,_ | ⟨j,_ | ⟨k,_ | ⟨m,_ | ⟨q,E⟩⟩⟩⟩⟩⟩⟩⟩⟩⟩⟩⟩⟩;iterate 13 kernel_rfl
 exact absurd n (by simp)
theorem pC (E:List Dh) (n:E.length≤12) (x i s:Int) (l o:List Int):Ij Nk 5 (Jv E 5 x i s [0] l o)=some (im 10 [] E x (Nf (s+0)) ⟨3,none,⟨0,15,[x,i],[],[],398,39⟩⟩ l o):=by
 rcases E with _ | ⟨a,_ | ⟨b,_ | ⟨c,_ | ⟨d,_ | ⟨e,_ | ⟨f,_ | ⟨g,_ | ⟨h,_ | ⟨i,_ | ⟨j,_ | ⟨k,_ | ⟨m,_ | ⟨q,E⟩⟩⟩⟩⟩⟩⟩⟩⟩⟩⟩⟩⟩;iterate 13 kernel_rfl
 exact absurd n (by simp)
theorem bC (E:List Dh) (n:E.length≤12) (x i s:Int) (l o:List Int):Ij Nk 7 (im 10 [] E x s ⟨3,none,⟨0,15,[x,i],[],[],398,39⟩⟩ l o)=some (wq ⟨1,none,⟨1,22,[x,((E.length+2:Nat):Int),s],[],[],397,39⟩⟩ (E++[⟨3,none,⟨0,15,[x,i],[],[],398,39⟩⟩]) l (o++[s])):=by
 rcases E with _ | ⟨a,_ | ⟨b,_ | ⟨c,_ | ⟨d,_ | ⟨e,_ | ⟨f,_ | ⟨g,_ | ⟨h,_ | ⟨i,_ | ⟨j,_ | ⟨k,_ | ⟨m,_ | ⟨q,E⟩⟩⟩⟩⟩⟩⟩⟩⟩⟩⟩⟩⟩;iterate 13 kernel_rfl
 exact absurd n (by simp)
theorem qC (E:List Dh) (a:E.length≤12) (l o:List Int):∀ (f:Nat) (x i s:Int),0≤i→i≤100→x≤100→x - i≤f→1≤f→∃ i',Uk Nk (im 10 [] E x s ⟨1,none,⟨0,8,[x,i],[],[],398,39⟩⟩ l o) (im 10 [] E x (lo f x i s) ⟨3,none,⟨0,15,[x,i'],[],[],398,39⟩⟩ l o) (22*f)
 | 0,x,i,s,d,e,b,j,k=>by omega
 | f+1,x,i,s,d,e,b,j,k=>by
  have hw:Nf (i+1)=i+1:=by simp only [Nf,IntKind.wrap_i64];omega
  have h:=HG E a x i s l o;by_cases c:Nf (i+1)<x
  ·rw [FC c] at h;obtain ⟨i',g⟩:=qC E a l o f x (Nf (i+1)) (Nf (s+Nf (i+1))) (by omega) (by omega) b (by omega) (by omega);refine ⟨i',.to (.go h (.go (aC E a x (Nf (i+1)) s l o) g)) ?_ (by omega)⟩;rw [lo,if_pos c]
  ·rw [GC c] at h;refine ⟨Nf (i+1),.to (.go h (.of (pC E a x (Nf (i+1)) s l o))) ?_ (by omega)⟩;rw [lo,if_neg c]
theorem aI {O:Dh}(h:Cq O) (E:List Dh) (a:E.length≤12) (x:Int) (i:x≤12) (l o:List Int):∃ d e,Cq d∧Uk Nk (wq O E (x::l) o) (wq d (E++[e]) l (o++[Qm x])) 330:=by
 obtain ⟨j,k,ra⟩:=CF h E a x l o;have b:=DF E a x 0 l o;by_cases c:0<x
 ·rw [FC c] at b;obtain ⟨i',g⟩:=qC E a l o 13 x 0 (Nf (0+0)) (by omega) (by omega) (by omega) (by omega) (by omega);obtain ⟨m,n,f⟩:=g;rw [Qm,if_pos c];exact ⟨_,⟨3,none,⟨0,15,[x,i'],[],[],398,39⟩⟩,.more x ((E.length+2:Nat):Int) (lo 13 x 0 (Nf (0+0))),.to (.go ra (.go b (.go (aC E a x 0 0 l o) (.go f (.of (bC E a x i' _ l o)))))) rfl (by omega)⟩
 ·rw [GC c] at b;rw [Qm,if_neg c];exact ⟨_,⟨3,none,⟨0,15,[x,0],[],[],398,39⟩⟩,.more x ((E.length+2:Nat):Int) (Nf (0+0)),.to (.go ra (.go b (.go (pC E a x 0 0 l o) (.of (bC E a x 0 _ l o))))) rfl (by omega)⟩
theorem BB:∀ (l:List Int){O:Dh}(_:Cq O) (E:List Dh) (o:List Int),E.length+l.length≤12→(∀ x ∈ l,x≤12)→Jj Nk (wq O E l o) (o++l.map Qm) (330*l.length+3)
 | [],O,h,E,o,a,c=>.to (.wait (n:=3) (b:=⟨0,⟨2,none,⟨2,9,[1],[1],[],398,39⟩⟩::O::E,[[]],o⟩) (A:=0) (by kernel_rfl) rfl (by kernel_rfl) (by decide) rfl rfl) (by simp) (by simp)
 | x::l,O,h,E,o,a,c=>by
  obtain ⟨i,d,f,e⟩:=aI h E (by simp at a;omega) x (c x (by simp)) l o;exact .to (.goes e (BB l f (E++[d]) _ (by simp at a ⊢;omega) fun y g=>c y (by simp [g]))) (by simp) (by simp;omega)
theorem CD (l:List Int) (a:l.length≤12) (c:∀ x ∈ l,x≤12):Jj Nk (g0 2 1 [l]) (l.map Qm) (330*l.length+20):=
 .to (.go (n:=8) (b:=wq ⟨1,none,⟨1,2,[0,0,0],[],[],397,39⟩⟩ [] l []) (by kernel_rfl) (BB l (.first 0 0 0) [] [] (by simpa using a) c)) (by simp) (by omega)
end Go.Y
namespace Go.Y
open Go.vc Go.jd
theorem Lh {n:Int}(h:-9223372036854775808≤n∧n≤9223372036854775807):i64 n=some n:=if_pos h
theorem Nb {α β:Type}{x:α}{f:α→Option β}:Option.bind (some x) f=f x:=rfl
theorem oj {α:Type}{l:List α}{i:Nat}:at_ l (i:Int)=l[i]?:=by simp [at_]
theorem Rm {α:Type}{l:List α}{z:Int}(h:0≤z):at_ l z=l[z.toNat]?:=if_pos h
theorem Nn {n:Int}(h:-9223372036854775808≤n∧n≤9223372036854775807):Nf n=n:=by simp only [Nf,IntKind.wrap_i64];omega
structure ei (l:List Int) (live:Int) (ws:List Int):Prop where
 yj:8≤l.length
 gb:l.length≤400
 live:live=ws.length
 le:ws.length≤l.length
 take:l.take ws.length=ws
theorem ei.get {l ws:List Int}{live v:Int}{k:Nat}(h:ei l live ws) (a:ws[k]?=some v):at_ l (k:Int)=some v:=by
 rw [oj];rw [← h.take,List.getElem?_take] at a;split at a
 ·exact a
 ·cases a
theorem ei.set {l ws:List Int}{live v:Int}{k:Nat}(h:ei l live ws):ei (l.set k v) live (ws.set k v) where
 yj:=by simpa using h.yj
 gb:=by simpa using h.gb
 live:=by simpa using h.live
 le:=by simpa using h.le
 take:=by
  rw [List.length_set,List.take_set,h.take]
theorem ZA {l ws:List Int}{live:Int}{k:Nat}(h:ei l live ws) (c:8≤k) (d:k≤400) (b:ws.length≤k):∃ a,Sp l live 8 400 (k:Int)=some (a,live,8,400)∧ei a live ws∧a.length=k:=by
 have hc:cut l 0 live=some ws:=by
  unfold cut;have:=h.le;have:=h.live;rw [if_pos (by omega)];rw [h.live];simp [h.take]
 have hm:Vk (k:Int)=some k:=by
  unfold Vk;rw [if_pos (by omega)];simp
 have e:Zo (List.replicate k (0:Int)) ws=ws++List.replicate (k - ws.length) 0:=by
  simp [Zo,List.take_of_length_le b]
 refine ⟨_,by rw [Sp,hm,Nb,hc,Nb],?_,?_⟩
 ·rw [e];exact ⟨by simp;omega,by simp;omega,h.live,by simp,by simp⟩
 ·rw [e];simp;omega
theorem aB {l ws:List Int}{live v:Int}(h:ei l live ws) (hw:ws.length<400):∃ f,Zp l live 8 400 v=some (true,f,live+1,8,400)∧ei f (live+1) (ws++[v]):=by
 have g:=h.live;have hle:=h.le;have j:=h.yj;have m:=h.gb;have fin:∀ a,ei a live ws→ws.length<a.length→Dp v live 8 400 a=some (true,a.set live.toNat v,live+1,8,400)∧ei (a.set live.toNat v) (live+1) (ws++[v]):=by
  intro a b d;have i:at_ a live=some a[ws.length]:=by
   rw [g,oj];exact List.getElem?_eq_getElem d
  refine ⟨by rw [Dp,i,Nb,Lh (by omega),Nb],?_⟩;have e:live.toNat=ws.length:=by omega
  rw [e];refine ⟨by simpa using b.yj,by simpa using b.gb,by simp [g],by simp;omega,?_⟩;rw [List.length_append,List.length_singleton,List.take_succ_eq_append_getElem (by simpa using d)];simp [List.take_set,b.take,List.set_eq_of_length_le]
 rw [Zp,if_neg (by omega),Kt];by_cases c:live=(l.length:Int)
 ·rw [if_pos c,Lh (by omega),Nb];obtain ⟨a,ra,b,d⟩:=ZA (k:=min (2*l.length) 400) h (by omega) (by omega) (by omega);have e:min (2*(l.length:Int)) 400=((min (2*l.length) 400:Nat):Int):=by omega
  rw [e,ra,Nb];obtain ⟨f1,f2⟩:=fin a b (by omega);exact ⟨_,f1,f2⟩
 ·rw [if_neg c];obtain ⟨f1,f2⟩:=fin l h (by omega);exact ⟨_,f1,f2⟩
theorem ey {l ws:List Int}{live s bx t v:Int}(h:ei l live ws) (hw:ws.length<400):∃ a,hk s bx t l live 8 400 v=some (s,bx,t,a,live+1,8,400)∧ei a (live+1) (ws++[v]):=by
 obtain ⟨a,k1,b⟩:=aB (v:=v) h hw;exact ⟨a,by rw [hk,k1,Nb];rfl,b⟩
theorem fy {l ws vs:List Int}{live:Int}(h:ei l live (ws++vs)):∃ f,Mo l live 8 400 (vs.length:Int)=some (f,live - vs.length,8,400)∧ei f (live - vs.length) ws:=by
 have g:=h.live;have hle:=h.le;have i:=h.yj;have j:=h.gb;rw [List.length_append] at g hle;have m:quo (l.length:Int) 4=some ((l.length / 4:Nat):Int):=by
  rw [quo,if_neg (by omega),Nn (by rw [Int.tdiv_eq_ediv_of_nonneg (by omega)];omega),Int.tdiv_eq_ediv_of_nonneg (by omega)];rfl
 have n:quo (l.length:Int) 2=some ((l.length / 2:Nat):Int):=by
  rw [quo,if_neg (by omega),Nn (by rw [Int.tdiv_eq_ediv_of_nonneg (by omega)];omega),Int.tdiv_eq_ediv_of_nonneg (by omega)];rfl
 have a:ei l (live - vs.length) ws:=⟨i,j,by omega,by omega,by
  have:=h.take;have e:(ws++vs).take ws.length=ws:=by simp
  rw [← e,← this,List.take_take];simp⟩
 rw [Mo,Lh (by omega),Nb,m,Nb];have small:∀ b,b=false→Jp l 8 400 (live - vs.length) b=some (l,live - vs.length,8,400):=by
  intro b o;subst o;rfl
 by_cases c:live - vs.length≤((l.length / 4:Nat):Int)
 ·rw [if_pos c];by_cases d:(8:Int)<l.length
  ·rw [decide_eq_true d,Jp,if_pos rfl,n,Nb];obtain ⟨p,ra,q,r⟩:=ZA (k:=max (l.length / 2) 8) a (by omega) (by omega) (by omega);have e:max ((l.length / 2:Nat):Int) 8=((max (l.length / 2) 8:Nat):Int):=by omega
   rw [e,ra,Nb];exact ⟨p,rfl,q⟩
  ·rw [decide_eq_false d];exact ⟨l,small _ rfl,a⟩
 ·rw [if_neg c];exact ⟨l,small _ rfl,a⟩
theorem bI {l ws:List Int}{live s bx t v:Int}(h:ei l live (ws++[v])):∃ a,jk s bx t l live 8 400=some (v,s,bx,t,a,live - 1,8,400)∧ei a (live - 1) ws:=by
 have b:=h.live;have hle:=h.le;have f:=h.gb;rw [List.length_append,List.length_singleton] at b hle;obtain ⟨a,e,c⟩:=fy (vs:=[v]) h;refine ⟨a,?_,c⟩;have d:at_ l (live - 1)=some v:=by
  have e:live - 1=(ws.length:Int):=by omega
  rw [e];exact h.get (by simp)
 rw [jk,Rl,Nb,Lh (by omega),Nb,d,Nb];rw [show ((([v]:List Int).length:Nat):Int)=1 from rfl] at e;rw [e,Nb]
def sg:List Fr→List Int
 | []=>[]
 | f::a=>sg a++(f.loc++f.st.reverse)
def jm:List Fr→List Jc
 | []=>[]
 | f::a=>jm a++[⟨f.u,f.Vc,(sg a).length⟩]
def Ud.ws (a:Ud):List Int:=sg a.low++(a.loc++a.st.reverse)
def Ud.ck (a:Ud):List Jc:=jm a.low++[⟨a.u,a.Vc,(sg a.low).length⟩]
def Ik (M:Uc):Bool:=M.Ld.all fun u=>decide (0≤u.Params) && decide (u.Params≤u.qd.length) && decide (u.qd.length≤300) && decide (u.Code.length≤4000) && u.Code.all fun i=>decide (0≤i.A∧i.A≤4000∧i.Op≠26)
structure ia (Yb:List (List Int)) (a:Ud) (Zc:List Int) (fr:List Jc) (l:List Int) (live:Int):Prop where
 fr:fr=a.ck
 st:ei l live a.ws
 wr:a.wr+a.ws.length=400
 cg:a.fr+(a.low.length+1)=40
 bl:Zc.length=Yb.length
 mm:a.ins.length=Yb.length
 Zc:∀ (i:Nat) (f:List Int),Yb[i]?=some f→∃ t:Nat,Zc[i]?=some (t:Int)∧t≤f.length∧a.ins[i]?=some (f.drop t)
 Xk:∀ f ∈ Yb,f.length≤65536
theorem dq:∀ (l:List Fr),(jm l).length=l.length
 | []=>rfl
 | f::a=>by simp [jm,dq a]
theorem gy (a:Ud):a.ck.length=a.low.length+1:=by simp [Ud.ck,dq]
theorem Vu (a:Ud):at_ a.ck ((a.low.length:Nat):Int)=some ⟨a.u,a.Vc,(sg a.low).length⟩:=by
 rw [oj,Ud.ck];simp [dq]
theorem hy (a:Ud) (x:Jc):a.ck.set a.low.length x=jm a.low++[x]:=by
 rw [Ud.ck,List.set_append_right _ _ (by rw [dq];exact Nat.le_refl _)];simp [dq]
theorem Xp {M:Uc}{n:Nat}{u:hf}(h:Ik M=true) (hu:M.Ld[n]?=some u):(0≤u.Params∧u.Params≤u.qd.length∧u.qd.length≤300∧u.Code.length≤4000)∧∀ (k:Nat) (i:Kc),u.Code[k]?=some i→0≤i.A∧i.A≤4000∧i.Op≠26:=by
 have:=List.all_eq_true.1 h u (List.mem_of_getElem? hu);simp only [Bool.and_eq_true,decide_eq_true_eq,List.all_eq_true] at this;obtain ⟨⟨⟨⟨a,b⟩,c⟩,d⟩,e⟩:=this;exact ⟨⟨a,b,c,d⟩,fun k i gb=>e i (List.mem_of_getElem? gb)⟩
theorem St {M:Uc}{a:Ud}{i:Kc}(h:a.code M=some i):∃ u,M.Ld[a.u]?=some u∧u.Code[a.Vc]?=some i:=by
 unfold Ud.code at h;exact Option.bind_eq_some_iff.1 h
def Ud.stuck (a:Ud) (i:Kc):Bool:=decide (i.Op=27) && decide (a.ins[i.A.toNat]?=some [])
theorem yr {M:Uc}{Yb sent:List (List Int)}{a:Ud}{Zc:List Int}{fr:List Jc}{l:List Int}{live s bx:Int}{i:Kc}(j:Ik M=true) (b:ia Yb a Zc fr l live) (k:s≤3) (hc:a.code M=some i) (m:i.Op=27→i.A.toNat<a.ins.length) :
  An M s bx 0 Yb Zc sent fr=some (if a.stuck i then 3 else 1,if a.stuck i then i.A else 0,0,Yb,Zc,sent,fr):=by
 obtain ⟨u,hu,gb⟩:=St hc;obtain ⟨⟨r,v,w,x⟩,n⟩:=Xp j hu;have d:=n _ _ gb;have y:=b.cg;have g:=b.fr;have e:((fr.length:Int) - 1)=((a.low.length:Nat):Int):=by rw [g,gy];omega
 have h:at_ fr ((a.low.length:Nat):Int)=some ⟨a.u,a.Vc,(sg a.low).length⟩:=by rw [g];exact Vu a
 rw [An,if_pos k,e,Lh (by omega),Nb,h,Nb,Lt,h,Nb];rw [show at_ M.Ld ((a.u:Nat):Int)=some u by rw [oj,hu],Nb];rw [show at_ u.Code ((a.Vc:Nat):Int)=some i by rw [oj,gb],Nb];have hw:mr s bx 0 Yb Zc sent i=some (decide ((if a.stuck i then (3:Int) else 1)≠1),if a.stuck i then 3 else 1,if a.stuck i then i.A else 0,0,Yb,Zc,sent):=by
  rw [mr,if_neg d.2.2];by_cases c:i.Op=27
  ·rw [if_pos c];have f:=m c;rw [b.mm] at f;obtain ⟨t,o,z,p⟩:=b.Zc i.A.toNat _ (List.getElem?_eq_getElem f);have B:i.A=((i.A.toNat:Nat):Int):=by omega
   have q:lr Yb Zc sent i.A=some (a.stuck i,Yb,Zc,sent):=by
    rw [lr,show at_ Yb i.A=some Yb[i.A.toNat] from (Rm d.1).trans (List.getElem?_eq_getElem f),Nb,show at_ Zc i.A=some (t:Int) from (Rm d.1).trans o,Nb];have:decide ((t:Int)=(Yb[i.A.toNat].length:Int))=a.stuck i:=by
     rw [Ud.stuck,p,decide_eq_true c,Bool.true_and];apply decide_eq_decide.2;simp only [Option.some.injEq,List.drop_eq_nil_iff];omega
    rw [this]
   rw [q,Nb];simp only [Tq,ot,Sq];cases a.stuck i<;>rfl
  ·rw [if_neg c];have:a.stuck i=false:=by simp [Ud.stuck,c]
   rw [this];rfl
 rw [hw,Nb]
end Go.Y
namespace Go.Y
open Go.vc Go.jd
theorem Yp (p:Prop) [Decidable p]:il (decide p)=some (Kk p):=by
 unfold il Kk;by_cases h:p<;>simp [h]
theorem cI {op a b z:Int}(h:two op a b=some z):Ar op a b=some z∧(op=11∨op=12→b≠0):=by
 unfold two at h;unfold Ar;by_cases aj:op=8
 ·subst aj;exact ⟨by simpa using h,by omega⟩
 by_cases c9:op=9
 ·subst c9;exact ⟨by simpa using h,by omega⟩
 by_cases Uj:op=10
 ·subst Uj;exact ⟨by simpa using h,by omega⟩
 rw [if_neg aj,if_neg c9,if_neg Uj] at h ⊢;by_cases g:op=11
 ·subst g;simp only [if_true] at h ⊢;by_cases d:b=0
  ·rw [if_pos d] at h;cases h
  ·rw [if_neg d] at h;refine ⟨?_,fun _=>d⟩;obtain rfl:=Option.some.inj h;rw [decide_true,Ao,if_pos rfl];have gen:∀ q,q=false→mn 11 a b q=some (Nf (a.tdiv b)):=by
    intro q i;subst i;rw [mn,if_neg (by decide),if_pos rfl,quo,if_neg d,Nb]
   by_cases e:a=-9223372036854775808
   ·rw [if_pos e];by_cases f:b=-1
    ·subst e;subst f;decide +kernel
    ·rw [decide_eq_false f];exact gen _ rfl
   ·rw [if_neg e];exact gen _ rfl
 by_cases c12:op=12
 ·subst c12;simp only [if_true] at h ⊢;by_cases d:b=0
  ·simp [d] at h
  ·simp only [if_neg d] at h;refine ⟨?_,fun _=>d⟩;have j:a.tmod b=z:=by simpa using h
   subst j;rw [if_neg (by decide),decide_true,Ao,if_pos rfl];have gen:∀ q,q=false→mn 12 a b q=some (a.tmod b):=by
    intro q i;subst i;rw [mn,if_neg (by decide),if_neg (by decide),wv,if_neg d,Nb]
   by_cases e:a=-9223372036854775808
   ·rw [if_pos e];by_cases f:b=-1
    ·subst e;subst f;decide +kernel
    ·rw [decide_eq_false f];exact gen _ rfl
   ·rw [if_neg e];exact gen _ rfl
 rw [if_neg g,if_neg c12] at h;refine ⟨?_,fun k=>by omega⟩;rw [if_neg g,decide_eq_false c12,Ao,if_neg (by decide)];by_cases c:op=13
 ·rw [if_pos c] at h ⊢;rw [Yp,Nb];exact h
 rw [if_neg c] at h ⊢;clear c;by_cases c:op=14
 ·rw [if_pos c] at h ⊢;rw [Yp,Nb];exact h
 rw [if_neg c] at h ⊢;clear c;by_cases c:op=15
 ·rw [if_pos c] at h ⊢;rw [Yp,Nb];exact h
 rw [if_neg c] at h ⊢;clear c;by_cases c:op=16
 ·rw [if_pos c] at h ⊢;rw [Yp,Nb];exact h
 rw [if_neg c] at h ⊢;clear c;by_cases c:op=17
 ·rw [if_pos c] at h ⊢;rw [Yp,Nb];exact h
 rw [if_neg c] at h;cases h
section
variable {M:Uc}{Yb sent:List (List Int)}{a b:Ud}{Zc:List Int}{fr:List Jc}{l:List Int}{live s bx cst:Int}
theorem ia.to {a':Ud}{za:List Jc}{c:List Int}{d:Int}(b:ia Yb a Zc fr l live) (e:za=a'.ck) (f:ei c d a'.ws) (hw:a'.wr+a'.ws.length=400) (g:a'.fr+(a'.low.length+1)=40) (gb:a'.ins=a.ins):ia Yb a' Zc za c d where
 fr:=e
 st:=f
 wr:=hw
 cg:=g
 bl:=b.bl
 mm:=by rw [gb];exact b.mm
 Zc:=by rw [gb];exact b.Zc
 Xk:=b.Xk
theorem CB (a:Ud) (v:Int) (k:Nat):({ a with st:=v::a.st,wr:=k }:Ud).ws=a.ws++[v]:=by simp [Ud.ws]
theorem ia.push {v:Int}(c:ia Yb a Zc fr l live) (h:a.push v=some b) (s bx t:Int):∃ d,hk s bx t l live 8 400 v=some (s,bx,t,d,live+1,8,400)∧ia Yb b Zc fr d (live+1)∧b.out=a.out:=by
 unfold Ud.push at h;have g:=c.wr;split at h
 ·cases h
 ·rename_i k i;obtain rfl:=Option.some.inj h;obtain ⟨d,e,f⟩:=ey (s:=s) (bx:=bx) (t:=t) (v:=v) c.st (by omega);refine ⟨d,e,c.to (a':={ a with st:=v::a.st,wr:=k }) ?_ ?_ ?_ ?_ rfl,rfl⟩
  ·exact c.fr
  ·rw [CB];exact f
  ·rw [CB,List.length_append,List.length_singleton];simp only;omega
  ·exact c.cg
theorem ia.pop {v:Int}{r:List Int}(b:ia Yb a Zc fr l live) (h:a.st=v::r) (s bx t:Int):∃ c,jk s bx t l live 8 400=some (v,s,bx,t,c,live - 1,8,400)∧ia Yb { a with st:=r,wr:=a.wr+1 } Zc fr c (live - 1):=by
 have g:a.ws=({ a with st:=r,wr:=a.wr+1 }:Ud).ws++[v]:=by simp [Ud.ws,h]
 have f:=b.st;have d:=b.wr;rw [g] at f d;obtain ⟨c,e,i⟩:=bI (s:=s) (bx:=bx) (t:=t) f;refine ⟨c,e,b.to b.fr i ?_ b.cg rfl⟩;rw [List.length_append,List.length_singleton] at d;simp only at d ⊢;omega
theorem RI (a:Ik M=true){i:Kc}(c:ia Yb b Zc fr l live) (d:s≤3) (hc:b.code M=some i) (e:i.Op=27→i.A.toNat<b.ins.length) :
  hj M s bx 0 b.out Yb sent Zc cst fr live 8 400 l=some (true,if b.stuck i then 3 else 1,if b.stuck i then i.A else 0,0,b.out,Yb,Zc,sent,cst,fr,l,live,8,400):=by
 rw [hj,yr a c d hc e,Nb]
theorem ia.Vc (b:ia Yb a Zc fr l live) (p:Nat):ia Yb { a with Vc:=p } Zc (fr.set a.low.length ⟨a.u,p,(sg a.low).length⟩) l live :=
 b.to (by rw [b.fr,hy];rfl) b.st b.wr b.cg rfl
theorem bB:∀ (n:Nat) (j:Int) (k:Nat) (l ws:List Int) (live s bx t i72:Int) (a:List Jc),ei l live ws→ws.length+n≤400→0≤j→i72=j+n→i72≤1000→n<k →
  ∃ b,uo a i72 k j s bx t live 8 400 l=some (s,bx,t,a,b,live+n,8,400)∧ei b (live+n) (ws++List.replicate n 0)
 | 0,j,k+1,l,ws,live,s,bx,t,i72,a,c,f,g,h,d,i=>by
  rw [uo,if_neg (by omega)];exact ⟨l,by simp,by simpa using c⟩
 | n+1,j,k+1,l,ws,live,s,bx,t,i72,a,c,f,g,h,d,i=>by
  obtain ⟨b,e,o⟩:=ey (s:=s) (bx:=bx) (t:=t) (v:=0) c (by omega);obtain ⟨p,q,m⟩:=bB n (j+1) k b (ws++[0]) (live+1) s bx t i72 a o (by simp;omega) (by omega) (by omega) d (by omega);rw [uo,if_pos (by omega),e,Nb,Lh (by omega),Nb];refine ⟨p,?_,?_⟩
  ·rw [q];have:live+1+(n:Int)=live+((n+1:Nat):Int):=by omega
   rw [this]
  ·have:live+1+(n:Int)=live+((n+1:Nat):Int):=by omega
   rw [this] at m;rw [List.replicate_succ];simpa using m
 | n,j,0,l,ws,live,s,bx,t,i72,a,c,f,g,h,d,i=>by omega
end
end Go.Y
namespace Go.Y
open Go.vc Go.jd
section
variable {M:Uc}{Yb sent:List (List Int)}{a b:Ud}{Zc:List Int}{fr:List Jc}{l:List Int}{live s bx cst:Int}
theorem Xy (a:Ud):((a.ck.length:Int) - 1)=((a.low.length:Nat):Int):=by rw [gy];omega
def Km (M:Uc) (a:Ud) (i:Kc):Option Ud :=
 if i.Op=5 then (match a.st with | _::r=>some { a with st:=r,wr:=a.wr+1 } | []=>none)
 else if i.Op=6 then (match a.st with | v::r=>some { a with st:=Nf (-v)::r } | []=>none)
 else Sn M a i
set_option maxHeartbeats 1000000 in
theorem IG (X:Ik M=true) (O:ia Yb a Zc fr l live) (ol:s≤3) (pl:a.out.length≤100000){i:Kc}(hc:a.code M=some i) (d:Km M { a with Vc:=a.Vc+1 } i=some b){i':Kc}(ul:b.code M=some i') (wl:i'.Op=27→i'.A.toNat<b.ins.length) :
  ∃ C za n D,Bn M s bx 0 a.out Yb Zc sent cst fr l live 8 400=some (true,(if b.stuck i' then 3 else 1),(if b.stuck i' then i'.A else 0),0,b.out,Yb,C,sent,cst,za,n,D,8,400)∧ia Yb b C za n D:=by
 obtain ⟨u,hu,gb⟩:=St hc;obtain ⟨⟨mp,op,pp,sp⟩,am⟩:=Xp X hu;have Y:=am _ _ gb;have up:a.Vc<u.Code.length:=(List.getElem?_eq_some_iff.1 gb).1;have wp:=O.cg;have wf:a.stuck i=false∧(i.Op=27→i.A.toNat<a.ins.length):=by
  by_cases c:i.Op=27
  ·have P:=d;unfold Km Sn at P;rw [if_neg (by omega),if_neg (by omega),if_neg (by omega),if_neg (by omega),if_neg (by omega),if_neg (by omega),if_neg (by omega),if_neg (by omega),if_neg (by omega),if_neg (by omega),if_neg (by omega),if_pos c] at P;simp only at P;split at P
   ·rename_i x r Q;refine ⟨by simp [Ud.stuck,Q],fun _=>(List.getElem?_eq_some_iff.1 Q).1⟩
   ·cases P
  ·exact ⟨by simp [Ud.stuck,c],fun em=>absurd em c⟩
 have rc:=yr (sent:=sent) (bx:=bx) X O ol hc wf.2;simp only [wf.1,Bool.false_eq_true,if_false] at rc;have R:=O.fr;have If:((fr.length:Int) - 1)=((a.low.length:Nat):Int):=by rw [R];exact Xy a
 have fd:at_ fr ((a.low.length:Nat):Int)=some ⟨a.u,a.Vc,(sg a.low).length⟩:=by rw [R];exact Vu a
 have dg:i64 ((a.Vc:Int)+1)=some (((a.Vc+1:Nat):Int)):=Lh (by omega);have g:=O.Vc (a.Vc+1);have F:fr.set a.low.length ⟨a.u,((a.Vc+1:Nat):Int),(sg a.low).length⟩=jm a.low++[⟨a.u,((a.Vc+1:Nat):Int),(sg a.low).length⟩]:=by rw [R,hy]
 rw [F] at g;generalize eq:jm a.low++[⟨a.u,((a.Vc+1:Nat):Int),(sg a.low).length⟩]=o at g F;have hm:at_ o ((a.low.length:Nat):Int)=some ⟨a.u,((a.Vc+1:Nat):Int),(sg a.low).length⟩:=by
  rw [g.fr];exact Vu { a with Vc:=a.Vc+1 }
 have lm:∀ p:Nat,fr.set a.low.length ⟨a.u,(p:Int),(sg a.low).length⟩=({ a with Vc:=p }:Ud).ck:=by
  intro p;rw [R];exact hy a _
 rw [Bn,rc,Nb,if_neg (by simp)];simp only [If];rw [Lh (by omega),Nb,fd,Nb,Pt];simp only [fd,Nb,show at_ M.Ld ((a.u:Nat):Int)=some u by rw [oj,hu],show at_ u.Code ((a.Vc:Nat):Int)=some i by rw [oj,gb],dg,Int.toNat_natCast,F];clear rc fd dg If R O hc hu gb;generalize G:({ a with Vc:=a.Vc+1 }:Ud)=pa at g d;have pm:pa.out=a.out:=by rw [← G]
 have H:pa.low=a.low:=by rw [← G]
 have Eq:pa.loc=a.loc:=by rw [← G]
 have or:pa.Vc=a.Vc+1:=by rw [← G]
 have qr:pa.u=a.u:=by rw [← G]
 rw [← pm] at pl ⊢;have Fr:pa.ws.length≤400:=by have:=g.wr;omega
 have fin:∀ {b':Ud}{C:List Int}{za:List Jc}{n:List Int}{D:Int},ia Yb b' C za n D→b'=b→b'.out=b.out→∃ rg bi K ci,hj M 1 0 0 b'.out Yb sent C cst za D 8 400 n=some (true,(if b.stuck i' then 3 else 1),(if b.stuck i' then i'.A else 0),0,b.out,Yb,rg,sent,cst,bi,K,ci,8,400)∧ia Yb b rg bi K ci:=by
  intro b' C za n D k e _;subst e;exact ⟨C,za,n,D,RI X k (by decide) ul wl,k⟩
 unfold Km at d;by_cases c5:i.Op=5
 ·rw [if_pos c5] at d;rw [if_neg (by omega),if_neg (by omega),if_neg (by omega),if_neg (by omega),if_pos c5];cases m:pa.st with
  | nil=>rw [m] at d; cases d
  | cons v r =>
   rw [m] at d;obtain ⟨n,e,k⟩:=g.pop m 1 0 0;rw [e,Nb];exact fin (b':={ pa with st:=r,wr:=pa.wr+1 }) k (Option.some.inj d) (by rw [← Option.some.inj d])
 rw [if_neg c5] at d;by_cases Bd:i.Op=6
 ·rw [if_pos Bd] at d;rw [if_neg (by omega),if_neg (by omega),if_neg (by omega),if_neg (by omega),if_neg c5,if_pos Bd];cases m:pa.st with
  | nil=>rw [m] at d; cases d
  | cons v r =>
   rw [m] at d;obtain ⟨n,e,k⟩:=g.pop m 1 0 0;obtain ⟨K,E,S,w⟩:=k.push (v:=Nf (0 - v)) (b:={ pa with st:=Nf (0 - v)::r }) rfl 1 0 0;rw [e,Nb];simp only;rw [E,Nb];exact fin (b':={ pa with st:=Nf (0 - v)::r }) S (by rw [← Option.some.inj d,Int.zero_sub]) (by rw [← Option.some.inj d])
 rw [if_neg Bd] at d;unfold Sn at d;by_cases c:i.Op=1
 ·rw [if_pos c] at d ⊢;obtain ⟨n,e,k,w⟩:=g.push d 1 0 0;rw [e,Nb];rw [← w];exact fin k rfl rfl
 rw [if_neg c] at d ⊢;by_cases c:i.Op=2
 ·rw [if_pos c] at d ⊢;obtain ⟨n,e,k,w⟩:=g.push d 1 0 0;rw [e,Nb];rw [← w];exact fin k rfl rfl
 rw [if_neg c] at d ⊢;by_cases c:i.Op=3
 ·rw [if_pos c] at d ⊢;obtain ⟨v,ii,sm⟩:=Option.bind_eq_some_iff.1 d;obtain ⟨n,e,k,w⟩:=g.push sm 1 0 0;have id:i.A.toNat<pa.loc.length:=(List.getElem?_eq_some_iff.1 ii).1;have li:pa.ws[(sg a.low).length+i.A.toNat]?=some v:=by
   rw [Ud.ws,H,List.getElem?_append_right (by omega),Nat.add_sub_cancel_left,List.getElem?_append_left id];exact ii
  have md:((sg a.low).length:Int)+i.A=(((sg a.low).length+i.A.toNat:Nat):Int):=by omega
  have B:(sg a.low).length+i.A.toNat<pa.ws.length:=(List.getElem?_eq_some_iff.1 li).1;rw [Lh (by omega),Nb,md,g.st.get li,Nb,e,Nb];simp only [Nt,Int.toNat_natCast,F];rw [← w];exact fin k rfl rfl
 rw [if_neg c] at d ⊢;have pi:i.A=((i.A.toNat:Nat):Int):=by omega
 have Pi:fr.set a.low.length ⟨a.u,i.A,(sg a.low).length⟩=({ pa with Vc:=i.A.toNat }:Ud).ck:=by
  have:=lm i.A.toNat
  rw [← pi] at this;rw [this,← G]
 by_cases c:i.Op=4
 ·rw [if_pos c] at d ⊢;cases m:pa.st with
  | nil=>rw [m] at d; cases d
  | cons v r =>
   rw [m] at d;simp only at d;split at d
   ·rename_i id;obtain rfl:=Option.some.inj d;obtain ⟨n,e,k⟩:=g.pop m 1 0 0;have T:({ pa with st:=r,wr:=pa.wr+1 }:Ud).ws=sg a.low++(pa.loc++r.reverse):=by simp only [Ud.ws,H]
    have hlen:(sg a.low).length+i.A.toNat<({ pa with st:=r,wr:=pa.wr+1 }:Ud).ws.length:=by rw [T];simp;omega
    have Or:=k.st.le;have md:((sg a.low).length:Int)+i.A=(((sg a.low).length+i.A.toNat:Nat):Int):=by omega
    have B:(sg a.low).length+i.A.toNat<pa.ws.length:=by rw [Ud.ws,H];simp [m];omega
    rw [e,Nb,Lh (by omega),Nb,md];simp only [oj,Int.toNat_natCast];rw [List.getElem?_eq_getElem (by omega),Nb];simp only [Ot,Int.toNat_natCast,F];refine fin (b':={ pa with st:=r,wr:=pa.wr+1,loc:=pa.loc.set i.A.toNat v }) (k.to k.fr ?_ ?_ k.cg rfl) rfl rfl
    ·have E:({ pa with st:=r,wr:=pa.wr+1,loc:=pa.loc.set i.A.toNat v }:Ud).ws=({ pa with st:=r,wr:=pa.wr+1 }:Ud).ws.set ((sg a.low).length+i.A.toNat) v:=by
      rw [T,List.set_append_right _ _ (by omega),Nat.add_sub_cancel_left,List.set_append_left _ _ id];simp only [Ud.ws,H]
     rw [E];exact k.st.set
    ·have:=k.wr;simp only [Ud.ws,List.length_append,List.length_set] at this ⊢;exact this
   ·cases d
 rw [if_neg c] at d ⊢;by_cases cs:i.Op=5∨i.Op=6∨i.Op=7
 ·rw [if_neg (by omega),if_neg (by omega),if_neg (by omega),if_neg (by omega),if_neg (by omega),if_neg (by omega),if_neg (by omega)] at d;cases d
 rw [if_neg (by omega),if_neg (by omega),if_neg (by omega)];by_cases c:8≤i.Op∧i.Op≤18
 ·rw [if_pos c] at d;rw [if_pos c.1,if_pos (by omega)]
  match m:pa.st,d with
  | [],d=>cases d
  | [y],d=>cases d
  | y::x::r,d =>
   obtain ⟨z,Nm,kk⟩:=Option.bind_eq_some_iff.1 d;obtain ⟨fn,mk⟩:=cI Nm;obtain ⟨n,e,k⟩:=g.pop m 1 0 0;obtain ⟨K,E,S⟩:=k.pop (v:=x) (r:=r) rfl 1 0 0;obtain ⟨rd,wd,Fd,w⟩:=S.push (v:=z) (b:={ pa with st:=z::r,wr:=pa.wr+1 }) rfl 1 0 0;rw [e,Nb,E,Nb];have Id:∀ q,q=false→vo M pa.out cst (1,0,0,Yb,Zc,sent,fr) (a.low.length:Int) ⟨a.u,a.Vc,(sg a.low).length⟩ i ((a.Vc+1:Nat):Int) (y,1,0,0,n,live - 1,8,400) (x,1,0,0,K,live - 1 - 1,8,400) q=hj M 1 0 0 pa.out Yb sent Zc cst o (live - 1 - 1+1) 8 400 rd:=by
    intro q on;subst on;rw [vo,if_neg (by decide)];simp only [fn,Nb,wd,Int.toNat_natCast,F]
   have be:=fin (b':={ pa with st:=z::r,wr:=pa.wr+1 }) Fd (Option.some.inj kk) (by rw [← Option.some.inj kk]);by_cases ce:i.Op=11
   ·rw [if_pos ce,Id _ (decide_eq_false (mk (.inl ce)))];exact be
   ·rw [if_neg ce];by_cases c12:i.Op=12
    ·rw [if_pos c12,Id _ (decide_eq_false (mk (.inr c12)))];exact be
    ·rw [if_neg c12,Id _ rfl];exact be
 rw [if_neg c] at d;by_cases c21:i.Op<21
 ·rw [if_neg (by omega),if_neg (by omega),if_neg (by omega),if_neg (by omega),if_neg (by omega),if_neg (by omega)] at d;cases d
 rw [if_pos (by omega),if_neg (by omega)];clear c;by_cases c:i.Op=21
 ·rw [if_pos c] at d ⊢;obtain rfl:=Option.some.inj d;refine fin (b':={ pa with Vc:=i.A.toNat }) (g.to Pi g.st g.wr g.cg rfl) rfl rfl
 rw [if_neg c] at d ⊢;by_cases c:i.Op=22
 ·rw [if_pos c] at d ⊢;cases m:pa.st with
  | nil=>rw [m] at d; cases d
  | cons v r =>
   rw [m] at d;obtain ⟨n,e,k⟩:=g.pop m 1 0 0;rw [e,Nb];have N:=Option.some.inj d;by_cases Ug:v=0
   ·rw [if_pos Ug] at N;rw [if_pos Ug];exact fin (b':={ pa with st:=r,wr:=pa.wr+1,Vc:=i.A.toNat }) (k.to Pi k.st k.wr k.cg rfl) N (by rw [← N])
   ·rw [if_neg Ug] at N;rw [if_neg Ug];exact fin (b':={ pa with st:=r,wr:=pa.wr+1 }) k (by rw [← N]) (by rw [← N])
 rw [if_neg c] at d ⊢;by_cases un:i.Op=26
 ·rw [if_neg (by omega),if_neg (by omega),if_neg (by omega),if_neg (by omega)] at d;cases d
 rw [if_neg un];by_cases c:i.Op=27
 ·rw [if_neg (by omega),if_neg (by omega),if_pos c] at d;rw [if_pos c];split at d
  ·rename_i x r Q;have B:i.A.toNat<Yb.length:=by rw [← g.mm];exact (List.getElem?_eq_some_iff.1 Q).1
   obtain ⟨t,wn,ds,ok⟩:=g.Zc i.A.toNat _ (List.getElem?_eq_getElem B);rw [Q] at ok;have Z:Yb[i.A.toNat].drop t=x::r:=(Option.some.inj ok).symm;have es:t<Yb[i.A.toNat].length:=by
    rcases Nat.lt_or_ge t Yb[i.A.toNat].length with h | h
    ·exact h
    ·rw [List.drop_eq_nil_of_le h] at Z;cases Z
   have gs:=g.Xk _ (List.getElem_mem B);have Fn:Yb[i.A.toNat][t]?=some x:=by
    have:=congrArg (·[0]?) Z;simpa [List.getElem?_drop] using this
   have dl:i.A.toNat<Zc.length:=by rw [g.bl];exact B
   have S:ia Yb { pa with ins:=pa.ins.set i.A.toNat r } (Zc.set i.A.toNat ((t:Int)+1)) o l live:={
    fr:=g.fr
    st:=g.st
    wr:=g.wr
    cg:=g.cg
    bl:=by simpa using g.bl
    mm:=by simpa using g.mm
    Zc:=by
     intro j f gc;by_cases e:j=i.A.toNat
     ·subst e;rw [List.getElem?_eq_getElem B] at gc;obtain rfl:=Option.some.inj gc;refine ⟨t+1,by rw [List.getElem?_set_self dl];rfl,by omega,?_⟩;have In:i.A.toNat<pa.ins.length:=by rw [g.mm];exact B
      simp only;rw [List.getElem?_set_self In,← List.drop_drop,Z];rfl
     ·obtain ⟨t',co,go,io⟩:=g.Zc j f gc;refine ⟨t',?_,go,?_⟩
      ·rw [List.getElem?_set_ne (Ne.symm e)];exact co
      ·simp only;rw [List.getElem?_set_ne (Ne.symm e)];exact io
    Xk:=g.Xk }
   obtain ⟨n,e,Fd,w⟩:=S.push d 1 0 0;have aa:sr Yb Zc sent i.A=some (x,Yb,Zc.set i.A.toNat ((t:Int)+1),sent):=by
    rw [sr,Rm Y.1,wn,Nb,Lh (by omega),Nb,Nb,Rm Y.1,List.getElem?_set_self dl,Nb,Lh (by omega),Nb,Rm Y.1,List.getElem?_eq_getElem B,Nb];rw [show (t:Int)+1 - 1=(t:Int) by omega,oj,Fn,Nb]
   rw [aa,Nb];simp only [zn,Nb,e];rw [show pa.out=b.out from w.symm];exact fin Fd rfl rfl
  ·cases d
 rw [if_neg c];by_cases c28:i.Op=28
 ·rw [if_neg (by omega),if_neg (by omega),if_neg (by omega),if_pos c28] at d;rw [if_pos c28];cases m:pa.st with
  | nil=>rw [m] at d; cases d
  | cons v r =>
   rw [m] at d;obtain ⟨n,e,k⟩:=g.pop m 1 0 0;rw [e,Nb];have no:app pa.out [v]=some (pa.out++[v]):=by
    unfold app;rw [if_pos (by simp;omega)]
   simp only [no,Nb,zn];exact fin (b':={ pa with st:=r,wr:=pa.wr+1,out:=pa.out++[v] }) (k.to k.fr k.st k.wr k.cg rfl) (Option.some.inj d) (by rw [← Option.some.inj d])
 rw [if_neg c28];by_cases wj:i.Op=23
 ·rw [if_pos wj] at d;rw [nr,if_pos wj];obtain ⟨zc,el,d⟩:=Option.bind_eq_some_iff.1 d;obtain ⟨⟨La,Va,Db,zb⟩,fc⟩:=Xp X el;split at d
  ·cases d
  ·rename_i f gc;split at d
   ·cases d
   ·rename_i is;have d:=Option.some.inj d;have lc:=g.st.live;have ls:=g.wr;have ms:zc.Params.toNat≤pa.st.length:=by omega
    have os:zc.qd.length - zc.Params.toNat≤pa.wr:=by omega
    have rs:pa.st.length≤pa.ws.length:=by simp [Ud.ws];omega
    have ge:=g.cg;have he:(o.length:Int)=((pa.low.length+1:Nat):Int):=by rw [g.fr,gy]
    obtain ⟨n,e,ro⟩:=bB (zc.qd.length - zc.Params.toNat) 0 ((((zc.qd.length:Int) - zc.Params - 0).toNat)+1) l pa.ws live 1 0 0 ((zc.qd.length:Int) - zc.Params) (o++[⟨i.A,0,live - zc.Params⟩]) g.st (by omega) (by omega) (by omega) (by omega) (by omega);have ya:tr M 1 0 0 o l live 8 400 i.A=some (1,0,0,o++[⟨i.A,0,live - zc.Params⟩],n,live+((zc.qd.length - zc.Params.toNat:Nat):Int),8,400):=by
     rw [tr,Rm Y.1,el,Nb,Rl,Nb,Lh (by omega),Nb,Mt,if_neg (by omega)];rw [show app o [(⟨i.A,0,live - zc.Params⟩:Jc)]=some (o++[⟨i.A,0,live - zc.Params⟩]) by unfold app;rw [if_pos (by simp;omega)],Nb,Lh (by omega),Nb];exact e
    rw [ya,Nb,Nb];have U:b.ws=pa.ws++List.replicate (zc.qd.length - zc.Params.toNat) 0:=by
     rw [← d];simp only [Ud.ws,sg,List.reverse_nil,List.append_nil];have:pa.st.reverse=(pa.st.drop zc.Params.toNat).reverse++(pa.st.take zc.Params.toNat).reverse:=by
      rw [← List.reverse_append,List.take_append_drop]
     rw [this];simp only [List.append_assoc]
    have ne:b.out=pa.out:=by rw [← d]
    rw [← ne];refine fin (b':=b) (g.to ?_ ?_ ?_ ?_ ?_) rfl rfl
    ·rw [← d];simp only [Ud.ck,jm,sg];rw [g.fr,Ud.ck,← pi];have:((sg pa.low++(pa.loc++(List.drop zc.Params.toNat pa.st).reverse)).length:Int)=live - zc.Params:=by
      rw [lc,Ud.ws];simp only [List.length_append,List.length_reverse,List.length_drop];omega
     rw [this];rfl
    ·rw [U];exact ro
    ·rw [U,← d];simp only [List.length_append,List.length_replicate];omega
    ·rw [← d];simp only [List.length_cons];omega
    ·rw [← d]
 rw [if_neg wj] at d;rw [if_neg c28] at d;by_cases c24:i.Op=24
 ·rw [if_pos c24] at d;rw [nr,if_neg wj,if_pos c24]
  match m:pa.st,of:pa.low,d with
  | [],_,d=>cases d
  | _::_,[],d=>cases d
  | v::r,f::us,d =>
   have d:=Option.some.inj d;obtain ⟨n,e,k⟩:=g.pop m 1 0 0;have ge:=g.cg;have he:((o.length:Int) - 1)=((pa.low.length:Nat):Int):=by rw [g.fr,Xy]
   have W:=k.st;have lc:=W.live;have T:({ pa with st:=r,wr:=pa.wr+1 }:Ud).ws=sg pa.low++(pa.loc++r.reverse):=rfl;rw [T] at W lc;have hle:=W.le;have vs:=W.gb;obtain ⟨K,E,Do⟩:=fy W;have nl:=k.wr;rw [T] at nl;simp only [List.length_append,List.length_reverse] at lc hle nl;obtain ⟨rd,wd,Go⟩:=ey (s:=1) (bx:=0) (t:=0) (v:=v) Do (by omega);have ap:cut o 0 ((pa.low.length:Nat):Int)=some (jm pa.low):=by
    unfold cut;rw [if_pos (by omega),g.fr];simp [Ud.ck,← dq pa.low]
   have ip:(Uq cst o (v,1,0,0,n,live - 1,8,400) (a.u:Int) ((a.Vc+1:Nat):Int) ((sg a.low).length:Int))=some (1,0,0,cst,jm pa.low,rd,live - 1 - ((pa.loc++r.reverse).length:Nat)+1,8,400):=by
    rw [Uq,he,Lh (by omega),Nb,ap,Nb,qt];simp only [Rl,Nb];rw [show live - 1 - ((sg a.low).length:Int)=(((pa.loc++r.reverse).length:Nat):Int) by rw [← H];simp;omega,Lh (by simp;omega),Nb,E,Nb,pt];simp only [wd,Nb]
   have jp:at_ o ((pa.low.length:Nat):Int)=some ⟨a.u,((a.Vc+1:Nat):Int),(sg a.low).length⟩:=by rw [H];exact hm
   rw [e,Nb,he,Lh (by omega),Nb,jp,Nb,ip,Nb];have U:b.ws=sg pa.low++[v]:=by
    rw [← d,of];simp [Ud.ws,sg]
   have ne:b.out=pa.out:=by rw [← d]
   rw [← ne];refine fin (b':=b) (g.to ?_ ?_ ?_ ?_ ?_) rfl rfl
   ·rw [← d,of];rfl
   ·rw [U];exact Go
   ·rw [U,← d];simp only [List.length_append,List.length_singleton];omega
   ·rw [← d];rw [of] at ge;simp only [List.length_cons] at ge;simp only;omega
   ·rw [← d]
 rw [if_neg c24,if_neg c] at d;cases d
end
end Go.Y
namespace Go.Y
open Go.vc Go.jd
structure Yk (c:Dh) (t:di):Prop where
 st:t.state=c.state
 up:t.up=c.up
 fr:t.fr=(c.Sb.am [] []).ck
 Dq:ei t.l t.live (c.Sb.am [] []).ws
 wr:c.Sb.wr+(c.Sb.am [] []).ws.length=400
 cg:c.Sb.fr+(c.Sb.low.length+1)=40
 Eg:t.Eg=8
 mg:t.mg=400
structure xq (Yb ins:List (List Int)) (Zc:List Int):Prop where
 bl:Zc.length=Yb.length
 mm:ins.length=Yb.length
 Zc:∀ (i:Nat) (f:List Int),Yb[i]?=some f→∃ t:Nat,Zc[i]?=some (t:Int)∧t≤f.length∧ins[i]?=some (f.drop t)
 Xk:∀ f ∈ Yb,f.length≤65536
section
variable {M:Uc}{Yb sent ins:List (List Int)}{Zc:List Int}{c c':Dh}{t t':di}{g Vg:hb}{p Kg:gd}{out:List Int}
theorem Yk.fp (h:Yk c t) (i:xq Yb ins Zc) (out:List Int):ia Yb (c.Sb.am ins out) Zc t.fr t.l t.live:=⟨h.fr,h.Dq,h.wr,h.cg,i.bl,i.mm,i.Zc,i.Xk⟩
theorem Yk.of {a:Ud}{fr:List Jc}{l:List Int}{live st:Int}{u:Option Nat}(h:ia Yb a Zc fr l live):Yk ⟨c.state,c.up,a.Sb⟩ ⟨c.state,c.up,fr,l,live,8,400⟩:=⟨rfl,rfl,h.fr,h.st,h.wr,h.cg,rfl,rfl⟩
theorem xq.of {a:Ud}{fr:List Jc}{l:List Int}{live:Int}(h:ia Yb a Zc fr l live):xq Yb a.ins Zc:=⟨h.bl,h.mm,h.Zc,h.Xk⟩
structure Hg (Yb:List (List Int)) (g:hb) (Zc:List Int) (p:gd):Prop where
 now:p.now=g.k
 len:p.cs.length=g.cs.length
 co:∀ (i:Nat) (c:Dh),g.cs[i]?=some c→∃ t,p.cs[i]?=some t∧Yk c t
 Zk:xq Yb g.ins Zc
theorem Hg.set (h:Hg Yb g Zc p){j:Nat}(n:Nat) (a:Yk c' t'):Hg Yb { g with k:=n,cs:=g.cs.set j c' } Zc ⟨p.cs.set j t',n⟩ where
 now:=rfl
 len:=by simpa using h.len
 co i c gb:=by
  simp only at gb;rw [List.getElem?_set] at gb;split at gb
  ·rename_i e;subst e;split at gb
   ·rename_i b;obtain rfl:=Option.some.inj gb;exact ⟨t',by simp [h.len,b],a⟩
   ·cases gb
  ·rename_i e;obtain ⟨t,d,f⟩:=h.co i c gb;exact ⟨t,by simp only;rw [List.getElem?_set_ne e];exact d,f⟩
 Zk:=h.Zk
theorem Hg.io (h:Hg Yb g Zc p){a:List (List Int)}{b:List Int}(gb:xq Yb a b) (o:List Int):Hg Yb { g with ins:=a,out:=o } b p:=⟨h.now,h.len,h.co,gb⟩
theorem JG {Sb a:Bi}{v:Int}(h:Sb.push v=some a) (ins:List (List Int)) (out:List Int):(Sb.am ins out).push v=some (a.am ins out):=by
 unfold Bi.push at h;unfold Ud.push;show (match Sb.wr with | 0=>none | k+1=>some _)=_;split at h
 ·cases h
 ·rename_i k b;(try rw [b]);obtain rfl:=Option.some.inj h;rfl
theorem rv {cs:List Dh}{j:Nat}{v:Int}(h:Hg Yb { g with cs:=cs,k:=j } Zc p) (e:g.to cs j v=some Vg):∃ Kg,Cn p 1 0 0 v=some (Kg,1,0,0)∧Hg Yb Vg Zc Kg∧Vg.ins=g.ins∧Vg.out=g.out:=by
 obtain ⟨c,hc,e⟩:=da e;obtain ⟨Sb,f,e⟩:=da e;obtain rfl:=Option.some.inj e;obtain ⟨t,i,a⟩:=h.co j c hc;obtain ⟨m,ra,b,-⟩:=(a.fp h.Zk []).push (JG f g.ins []) 1 0 0;have d:p.now=j:=h.now;refine ⟨⟨p.cs.set j { t with l:=m,live:=t.live+1 },j⟩,?_,?_,rfl,rfl⟩
 ·rw [Cn,d,i,Nb,a.Eg,a.mg,ra,Nb];simp only [gd.put,d]
 ·exact h.set j (c':={ c with Sb:=Sb }) ⟨a.st,a.up,b.fr,b.st,b.wr,b.cg,a.Eg,a.mg⟩
theorem iJ {v:Int}{r:List Int}(h:Hg Yb g Zc p) (hc:g.cs[g.k]?=some c) (d:c.Sb.st=v::r):∃ Kg,Ln p 1 0 0=some (v,Kg,1,0,0)∧Hg Yb { g with cs:=g.cs.set g.k { c with Sb:={ c.Sb with st:=r,wr:=c.Sb.wr+1 } } } Zc Kg:=by
 obtain ⟨t,e,a⟩:=h.co g.k c hc;obtain ⟨f,ra,b⟩:=(a.fp h.Zk []).pop (v:=v) (r:=r) d 1 0 0;refine ⟨⟨p.cs.set g.k { t with l:=f,live:=t.live - 1 },g.k⟩,?_,?_⟩
 ·rw [Ln,h.now,e,Nb,a.Eg,a.mg,ra,Nb];simp only [gd.put,h.now]
 ·exact h.set g.k (c':={ c with Sb:={ c.Sb with st:=r,wr:=c.Sb.wr+1 } }) ⟨a.st,a.up,b.fr,b.st,b.wr,b.cg,a.Eg,a.mg⟩
theorem KG {l:List Int}(h:l.length≤4294967296):app ([]:List Int) l=some l:=by
 unfold app;rw [if_pos (by simpa using h)];rfl
theorem SI {n:Nat}(h:Hg Yb g Zc p) (hc:g.cs[g.k]?=some c) (r:n≤c.Sb.st.length):∃ Kg,Nu p 1 0 0 (n:Int)=some ((c.Sb.st.take n).reverse,Kg,1,0,0)∧Hg Yb { g with cs:=g.cs.set g.k { c with Sb:={ c.Sb with st:=c.Sb.st.drop n,wr:=c.Sb.wr+n } } } Zc Kg:=by
 obtain ⟨t,f,a⟩:=h.co g.k c hc;have b:(c.Sb.am [] []).ws=(({ c.Sb with st:=c.Sb.st.drop n,wr:=c.Sb.wr+n }:Bi).am [] []).ws++(c.Sb.st.take n).reverse:=by
  simp only [Ud.ws,Bi.am];have:c.Sb.st.reverse=(c.Sb.st.drop n).reverse++(c.Sb.st.take n).reverse:=by rw [← List.reverse_append,List.take_append_drop]
  rw [this];simp only [List.append_assoc]
 have d:=a.Dq;have hlen:((c.Sb.st.take n).reverse).length=n:=by simp;omega
 have s:c.Sb.st.length≤(c.Sb.am [] []).ws.length:=by simp [Ud.ws,Bi.am];omega
 have i:=a.wr;have j:=d.live;have hle:=d.le;rw [b] at d;obtain ⟨m,ra,e⟩:=fy d;rw [hlen] at ra e;have o:cut t.l 0 t.live=some (c.Sb.am [] []).ws:=by
  unfold cut;rw [if_pos (by omega),j];have:=a.Dq.take;simp [this]
 have q:cut (c.Sb.am [] []).ws (t.live - n) ((c.Sb.am [] []).ws.length:Int)=some (c.Sb.st.take n).reverse:=by
  have u:(c.Sb.am [] []).ws.length=(({ c.Sb with st:=c.Sb.st.drop n,wr:=c.Sb.wr+n }:Bi).am [] []).ws.length+n:=by rw [b,List.length_append,hlen]
  unfold cut;rw [if_pos (by omega)];rw [show (t.live - n).toNat=(({ c.Sb with st:=c.Sb.st.drop n,wr:=c.Sb.wr+n }:Bi).am [] []).ws.length by omega,Int.toNat_natCast,List.take_length,b,List.drop_left]
 refine ⟨⟨p.cs.set g.k { t with l:=m,live:=t.live - n },g.k⟩,?_,?_⟩
 ·rw [Nu,h.now,f,Nb,Mu,Bu,a.Eg,a.mg,o,Nb,KG (by omega),Nb,Nb,Rl,Nb,Lh (by omega),Nb,q,Nb,ra,Nb,Nb];simp only [gd.put,h.now]
 ·refine h.set g.k (c':={ c with Sb:={ c.Sb with st:=c.Sb.st.drop n,wr:=c.Sb.wr+n } }) ⟨a.st,a.up,a.fr,e,?_,a.cg,a.Eg,a.mg⟩;rw [b,List.length_append,hlen] at i;show c.Sb.wr+n+(({ c.Sb with st:=c.Sb.st.drop n,wr:=c.Sb.wr+n }:Bi).am [] []).ws.length=400;omega
theorem DB {u:Int}{args:List Int}{U:hf}(g:U.qd.length≤400) (h:args.length≤U.qd.length):∀ (n i:Nat) (l:List Int) (live:Int),i≤U.qd.length→U.qd.length<n+i→ei l live ((args++List.replicate (U.qd.length - args.length) 0).take i) →
  ∃ b,nm u args U n (i:Int) live 8 400 l=some (0,[⟨u,0,0⟩],b,(U.qd.length:Int),8,400)∧ei b (U.qd.length:Int) (args++List.replicate (U.qd.length - args.length) 0)
 | 0,i,l,live,j,k,a=>by omega
 | n+1,i,l,live,j,k,a=>by
  have hlen:(args++List.replicate (U.qd.length - args.length) (0:Int)).length=U.qd.length:=by simp;omega
  have m:live=i:=by
   have:=a.live;rw [List.length_take,hlen] at this;omega
  rw [nm];by_cases c:i<U.qd.length
  ·rw [if_pos (by omega)];obtain ⟨o,ra,e⟩:=aB (v:=(args++List.replicate (U.qd.length - args.length) 0)[i]'(by omega)) a (by rw [List.length_take];omega);have p:(args++List.replicate (U.qd.length - args.length) 0).take i++[(args++List.replicate (U.qd.length - args.length) 0)[i]'(by omega)]=(args++List.replicate (U.qd.length - args.length) 0).take (i+1):=(List.take_succ_eq_append_getElem (by omega)).symm;rw [p] at e;obtain ⟨f,q,r⟩:=DB g h n (i+1) o (live+1) c (by omega) e;have key:∀ x,x=(args++List.replicate (U.qd.length - args.length) 0)[i]'(by omega)→Ap (i:Int) live 8 400 l (nm u args U n) x=some (0,[⟨u,0,0⟩],f,(U.qd.length:Int),8,400):=by
    intro x s;subst s;rw [Ap,ra,Nb,Lh (by omega),Nb];exact q
   refine ⟨f,?_,r⟩;by_cases d:i<args.length
   ·rw [if_pos (by omega),oj,List.getElem?_eq_getElem d,Nb];exact key _ (by rw [List.getElem_append_left d])
   ·rw [if_neg (by omega)];exact key _ (by rw [List.getElem_append_right (by omega)];simp)
  ·rw [if_neg (by omega)];obtain rfl:i=U.qd.length:=by omega
   rw [show (args++List.replicate (U.qd.length - args.length) (0:Int)).take U.qd.length=args++List.replicate (U.qd.length - args.length) 0 from List.take_of_length_le (by omega)] at a;subst m;exact ⟨l,rfl,a⟩
theorem EF {u:Int}{args:List Int}{U:hf}(hu:at_ M.Ld u=some U) (b:U.qd.length≤400) (c:args.length≤U.qd.length) :
  ∃ a,Tp M u args=some (0,[⟨u,0,0⟩],a,(U.qd.length:Int),8,400)∧ei a (U.qd.length:Int) (args++List.replicate (U.qd.length - args.length) 0):=by
 have Sa:ev 8 400=some (List.replicate 8 0,0,8,400):=rfl;rw [Tp,Sa,Nb,hu,Nb];exact DB b c _ 0 _ 0 (by omega) (by omega) ⟨by simp,by simp,by simp,by simp,by simp⟩
end
end Go.Y
namespace Go.Y
open Go.vc Go.jd
section
variable {M:Uc}{Yb sent ins:List (List Int)}{Zc:List Int}{c c' d:Dh}{t t':di}{g Vg:hb}{p Kg:gd}{out:List Int}{Sb:Bi}
theorem Hg.jJ (h:Hg Yb { g with cs:=g.cs.set g.k c } Zc p) (n:Nat) (a:Yk c' t'):Hg Yb { g with k:=n,cs:=g.cs.set g.k c' } Zc ⟨p.cs.set g.k t',n⟩:=by
 have:=h.set (j:=g.k) n a;simpa only [List.set_set] using this
theorem Hg.at (h:Hg Yb { g with cs:=g.cs.set g.k c } Zc p) (a:g.k<g.cs.length):∃ t,p.cs[g.k]?=some t∧Yk c t:=h.co g.k c (by simp [a])
theorem EB {j st:Nat}{v:Int}(b:g.k<g.cs.length) (h:Hg Yb { g with cs:=g.cs.set g.k { c with Sb:=Sb } } Zc p) (hu:c.up=some j) (e:g.to (g.cs.set g.k { c with state:=st,up:=none,Sb:=Sb }) j v=some Vg) :
  ∃ q,Jo p 1 0 0 (st:Int) v=some (q,1,0,0)∧Hg Yb Vg Zc q∧Vg.ins=g.ins∧Vg.out=g.out:=by
 obtain ⟨t,d,a⟩:=h.at b;have f:=h.jJ (c':={ c with state:=st,up:=none,Sb:=Sb }) (t':={ t with state:=(st:Int),up:=none }) j ⟨rfl,rfl,a.fr,a.Dq,a.wr,a.cg,a.Eg,a.mg⟩;obtain ⟨q,ra,i,l⟩:=rv (g:=g) f e;refine ⟨q,?_,i,l⟩;have m:p.now=g.k:=h.now;have n:t.up=some j:=a.up.trans hu;rw [Jo,m,d,Nb,n,Nb];exact ra
theorem Wu {v:Int}{r:List Int}(a:g.k<g.cs.length) (h:Hg Yb { g with cs:=g.cs.set g.k { c with Sb:=Sb } } Zc p) (b:Sb.st=v::r) :
  ∃ q,Ln p 1 0 0=some (v,q,1,0,0)∧Hg Yb { g with cs:=g.cs.set g.k { c with Sb:={ Sb with st:=r,wr:=Sb.wr+1 } } } Zc q:=by
 obtain ⟨q,ra,d⟩:=iJ (c:={ c with Sb:=Sb }) h (by simp [a]) b;exact ⟨q,ra,by simpa only [List.set_set] using d⟩
theorem Hg.add (h:Hg Yb g Zc p) (b:Yk c' t'):Hg Yb { g with cs:=g.cs++[c'] } Zc ⟨p.cs++[t'],p.now⟩ where
 now:=h.now
 len:=by simpa using h.len
 co i c gb:=by
  simp only at gb;rcases Nat.lt_trichotomy i g.cs.length with a | a | a
  ·rw [List.getElem?_append_left a] at gb;obtain ⟨t,d,e⟩:=h.co i c gb;exact ⟨t,by simp only;rw [List.getElem?_append_left (by rw [h.len];exact a)];exact d,e⟩
  ·subst a;rw [List.getElem?_append_right (Nat.le_refl _),Nat.sub_self] at gb;obtain rfl:=Option.some.inj gb;exact ⟨t',by simp only;rw [← h.len,List.getElem?_append_right (Nat.le_refl _),Nat.sub_self];rfl,b⟩
  ·rw [List.getElem?_append_right (by omega),List.getElem?_eq_none (by simp;omega)] at gb;cases gb
 Zk:=h.Zk
theorem FF (Y:Ik M=true){i:Kc}(f:g.k<g.cs.length) (hc:g.cs[g.k]?=some c) (h:Hg Yb { g with cs:=g.cs.set g.k { c with Sb:=Sb } } Zc p) (z:0≤i.A∧i.A≤4000) (e:Bq M g c Sb i=some Vg) (wd:i.Op=25∨(29≤i.Op∧i.Op≤32)) :
  ∃ q,ti M p 1 0 0 i=some (q,1,0,0)∧Hg Yb Vg Zc q∧Vg.ins=g.ins∧Vg.out=g.out:=by
 unfold Bq at e;by_cases B:i.Op=29
 ·rw [if_pos B] at e;rw [ti,if_neg (by omega),if_pos B,Ix];obtain ⟨u,hu,e⟩:=da e;obtain ⟨⟨Fd,Id,be,ce⟩,-⟩:=Xp Y hu;split at e
  ·cases e
  ·rename_i Q;have Z:u.Params=((u.Params.toNat:Nat):Int):=by omega
   have gc:({ g with cs:=g.cs.set g.k { c with Sb:=Sb } }:hb).cs[({ g with cs:=g.cs.set g.k { c with Sb:=Sb } }:hb).k]?=some { c with Sb:=Sb }:=by simp [f]
   obtain ⟨q,ra,a⟩:=SI (n:=u.Params.toNat) h gc (by simp only;omega);rw [← Z] at ra;simp only [List.set_set] at a;obtain ⟨R,s,S⟩:=EF (M:=M) (u:=i.A) (args:=(Sb.st.take u.Params.toNat).reverse) (U:=u) ((Rm z.1).trans hu) (by omega) (by simp;omega);have T:q.cs.length=g.cs.length:=by have:=a.len;simpa using this
   have lc:((Sb.st.take u.Params.toNat).reverse).length=u.Params.toNat:=by simp;omega
   have l:=a.add (c':=⟨0,none,⟨i.A.toNat,0,(Sb.st.take u.Params.toNat).reverse++List.replicate (u.qd.length - u.Params.toNat) 0,[],[],400 - u.qd.length,39⟩⟩) (t':=⟨0,none,[⟨i.A,0,0⟩],R,(u.qd.length:Int),8,400⟩)
    ⟨rfl,rfl,by show [(⟨i.A,0,0⟩:Jc)]=[⟨((i.A.toNat:Nat):Int),((0:Nat):Int),((sg []).length:Int)⟩];rw [Int.toNat_of_nonneg z.1];rfl,by rw [lc] at S;simpa [Ud.ws,Bi.am,sg] using S,by simp [Ud.ws,Bi.am,sg];omega,rfl,rfl,rfl⟩
   obtain ⟨m,t,o,w⟩:=rv (g:=g) (j:=g.k) l e;refine ⟨m,?_,o,w⟩;rw [Rm z.1,hu,Nb,ra,Nb,if_neg (by rw [gd.length,T];omega),s,Nb,zn,Nb];have C:(((q.cs++[di.mk 0 none [⟨i.A,0,0⟩] R (u.qd.length:Int) 8 400]).length:Int) - 1)=(g.cs.length:Int):=by
    rw [List.length_append,T];simp
   rw [C,Lh (by omega),Nb];exact t
 rw [if_neg B] at e;by_cases D:i.Op=30
 ·rw [if_pos D] at e;rw [ti,if_neg (by omega),if_neg (by omega),if_pos D]
  match x:Sb.st,e with
  | [],e=>cases e
  | [_],e=>cases e
  | v::j::r,e =>
   simp only at e;obtain ⟨d,tb,e⟩:=da e;split at e
   ·cases e
   ·rename_i Q;obtain ⟨W,ra,a⟩:=Wu f h x;obtain ⟨m,s,l⟩:=Wu (r:=r) f a rfl;rw [ra,Nb,s,Nb,if_neg (by omega),br,if_neg (by rw [show m.now=g.k from l.now];omega)];have rc:g.k≠j.toNat:=by omega
    obtain ⟨E,F,b⟩:=l.co j.toNat d (by simp only;rw [List.getElem?_set_ne rc];exact tb);have fd:m.now=g.k:=l.now;have o:=l.set (j:=j.toNat) (c':={ d with state:=2,up:=some g.k }) (t':={ E with state:=2,up:=some m.now }) j.toNat ⟨rfl,by rw [fd],b.fr,b.Dq,b.wr,b.cg,b.Eg,b.mg⟩;rw [F,Nb,b.st];by_cases ge:d.state=0
    ·rw [if_pos (by omega)] at e ⊢;obtain rfl:=Option.some.inj e;exact ⟨_,rfl,o,rfl,rfl⟩
    ·rw [if_neg (by omega)] at e ⊢;by_cases he:d.state=1
     ·rw [if_pos (by omega)] at e ⊢;obtain ⟨G,t,w,H⟩:=rv (g:=g) o e;exact ⟨G,t,w,H⟩
     ·rw [if_neg (by omega)] at e;cases e
 rw [if_neg D] at e;by_cases K:i.Op=31
 ·rw [if_pos K] at e;rw [ti,if_neg (by omega),if_neg (by omega),if_neg (by omega),if_pos K]
  match x:Sb.st,N:c.up,e with
  | [],_,e=>cases e
  | _::_,none,e=>cases e
  | v::r,some j,e =>
   obtain ⟨W,ra,a⟩:=Wu f h x;obtain ⟨m,s,l⟩:=EB f a N e;rw [ra,Nb];exact ⟨m,s,l⟩
 rw [if_neg K] at e;by_cases O:i.Op=25
 ·rw [if_pos O] at e;rw [ti,if_pos O]
  match N:c.up,e with
  | none,e=>cases e
  | some j,e=>exact EB f h N e
 rw [if_neg O,if_neg (by omega),if_neg (by omega)] at e;by_cases P:i.Op=32
 ·rw [if_pos P] at e;rw [ti,if_neg (by omega),if_neg (by omega),if_neg (by omega),if_neg (by omega),if_pos P]
  match x:Sb.st,e with
  | [],e=>cases e
  | j::r,e =>
   simp only at e;split at e
   ·cases e
   ·rename_i Q;obtain ⟨d,tb,e⟩:=da e;obtain ⟨W,ra,a⟩:=Wu f h x;rw [ra,Nb,if_neg (by omega)];have id:∃ y,(g.cs.set g.k { c with Sb:={ Sb with st:=r,wr:=Sb.wr+1 } })[j.toNat]?=some y∧y.state=d.state:=by
     by_cases X:g.k=j.toNat
     ·rw [← X] at tb ⊢;rw [hc] at tb;obtain rfl:=Option.some.inj tb;exact ⟨_,List.getElem?_set_self f,rfl⟩
     ·exact ⟨d,by rw [List.getElem?_set_ne X];exact tb,rfl⟩
    obtain ⟨y,md,rd⟩:=id;obtain ⟨E,F,b⟩:=a.co j.toNat y md;have C:(Kk (E.state≠3))=if d.state=3 then 0 else 1:=by
     rw [b.st,rd];unfold Kk;by_cases o:(d.state:Int)=3
     ·rw [if_neg (by omega),if_pos (by omega)]
     ·rw [if_pos o,if_neg (by omega)]
    rw [F,Nb,Yp,Nb,C];obtain ⟨G,t,w,H⟩:=rv (g:=g) a e;exact ⟨G,t,w,H⟩
 rw [if_neg P] at e;cases e
end
end Go.Y
namespace Go.Y
open Go.vc Go.jd
section
variable {M:Uc}{Yb sent:List (List Int)}{Zc:List Int}{c c' d:Dh}{t t':di}{g Vg:hb}{p Kg:gd}{s bx:Int}
def hb.dp (M:Uc) (g:hb) (i:Kc):Prop:=∃ c,g.cs[g.k]?=some c∧(c.Sb.am g.ins g.out).code M=some i∧(i.Op=27→i.A.toNat<g.ins.length)
def hb.uk (g:hb) (i:Kc):Bool:=decide (i.Op=27) && decide (g.ins[i.A.toNat]?=some [])
theorem cB (b:Ik M=true) (h:Hg Yb g Zc p) (d:s≤3){i:Kc}(f:g.dp M i) :
  ∃ Kg,aq M p s bx 0 Yb Zc sent=some (Kg,if g.uk i then 3 else 1,if g.uk i then i.A else 0,0,Yb,Zc,sent)∧Hg Yb g Zc Kg:=by
 obtain ⟨c,hc,gb,l⟩:=f;obtain ⟨t,m,a⟩:=h.co g.k c hc;have e:=yr (sent:=sent) (bx:=bx) b (a.fp h.Zk g.out) d gb l;refine ⟨⟨p.cs.set g.k t,g.k⟩,?_,?_⟩
 ·rw [aq,h.now,m,Nb,e,Nb];simp only [gd.put,h.now];rfl
 ·have:=h.set (j:=g.k) g.k a;rwa [show g.cs.set g.k c=g.cs by
   obtain ⟨o,n⟩:=List.getElem?_eq_some_iff.1 hc;rw [← n,List.set_getElem_self]] at this
theorem iy (j:Ik M=true) (h:Hg Yb g Zc p) (r:s≤3) (hc:g.cs[g.k]?=some c){i:Kc}(gb:(c.Sb.am g.ins g.out).code M=some i) (v:i.Op=27→i.A.toNat<g.ins.length) (out:List Int) :
  ∃ t,p.cs[g.k]?=some t∧Yk c t∧((g.uk i=true→Mn M p s bx 0 out Yb Zc sent=none) ∧
   (g.uk i=false→∃ P,Hg Yb { g with cs:=g.cs.set g.k { c with Sb:={ c.Sb with Vc:=c.Sb.Vc+1 } } } Zc P ∧
    Mn M p s bx 0 out Yb Zc sent=(ti M P 1 0 0 i).bind fun q=>(aq M q.1 q.2.1 q.2.2.1 q.2.2.2 Yb Zc sent).bind fun z=>some (true,z.1,z.2.1,z.2.2.1,z.2.2.2.1,out,z.2.2.2.2.1,z.2.2.2.2.2.1,z.2.2.2.2.2.2))):=by
 obtain ⟨t,d,a⟩:=h.co g.k c hc;have l:=a.fp h.Zk g.out;have e:=yr (sent:=sent) (bx:=bx) j l r gb v;have w:(c.Sb.am g.ins g.out).stuck i=g.uk i:=rfl;rw [w] at e;refine ⟨t,d,a,fun f=>?_,fun f=>?_⟩
 ·rw [Mn,h.now,d,Nb,e,Nb,f];rfl
 ·obtain ⟨u,hu,m⟩:=St gb;obtain ⟨⟨C,D,E,F⟩,G⟩:=Xp j hu;have x:(c.Sb.am g.ins g.out).Vc<u.Code.length:=(List.getElem?_eq_some_iff.1 m).1;have H:=a.cg;have n:=l.fr;have y:((t.fr.length:Int) - 1)=((c.Sb.low.length:Nat):Int):=by rw [n];exact Xy _
  have o:at_ t.fr ((c.Sb.low.length:Nat):Int)=some ⟨c.Sb.u,c.Sb.Vc,(sg c.Sb.low).length⟩:=by rw [n];exact Vu _
  have K:c.Sb.Vc<u.Code.length:=x;have B:i64 ((c.Sb.Vc:Int)+1)=some (((c.Sb.Vc+1:Nat):Int)):=Lh (by omega);refine ⟨⟨p.cs.set g.k { t with fr:=t.fr.set c.Sb.low.length ⟨c.Sb.u,((c.Sb.Vc+1:Nat):Int),(sg c.Sb.low).length⟩ },g.k⟩,?_,?_⟩
  ·have b:=(a.fp h.Zk []).Vc (c.Sb.Vc+1);exact h.set g.k (c':={ c with Sb:={ c.Sb with Vc:=c.Sb.Vc+1 } }) ⟨a.st,a.up,b.fr,b.st,b.wr,b.cg,a.Eg,a.mg⟩
  ·rw [Mn,h.now,d,Nb,e,Nb,f];simp only [Bool.false_eq_true,if_false];rw [if_neg (by simp),y,Lh (by omega),Nb,o,Nb,ju];simp only [o,Nb];rw [show at_ M.Ld ((c.Sb.u:Nat):Int)=some u by rw [oj];exact hu,Nb];rw [show at_ u.Code ((c.Sb.Vc:Nat):Int)=some i by rw [oj];exact m,Nb,B,Nb];simp only [gd.put,h.now,Int.toNat_natCast]
theorem nE {i:Kc}(c:¬ (i.Op=25∨(29≤i.Op∧i.Op≤32))) (a b e:Int):ti M p a b e i=none:=by
 rw [ti,if_neg (by omega),if_neg (by omega),if_neg (by omega),if_neg (by omega),if_neg (by omega)]
theorem LG (b:Ik M=true){a:Ud}{i:Kc}(gb:a.code M=some i):0≤i.A∧i.A≤4000:=by
 obtain ⟨u,hu,c⟩:=St gb;have:=(Xp b hu).2 _ _ c;exact ⟨this.1,this.2.1⟩
theorem dB (m:Ik M=true) (h:Hg Yb g Zc p) (n:s≤3) (y:g.out.length≤100000) (hc:g.cs[g.k]?=some c){i:Kc}(gb:(c.Sb.am g.ins g.out).code M=some i) (z:¬ (i.Op=25∨(29≤i.Op∧i.Op≤32))){b:Ud}
  (B:Km M { c.Sb.am g.ins g.out with Vc:=c.Sb.Vc+1 } i=some b) (C:i.Op=27→i.A.toNat<g.ins.length) {i':Kc}(D:({ g with cs:=g.cs.set g.k { c with Sb:=b.Sb },ins:=b.ins,out:=b.out }:hb).dp M i') :
  ∃ Kg d o E,Dn M p s bx 0 g.out Yb Zc sent=some (true,Kg,o,E,0,b.out,Yb,d,sent)∧Hg Yb { g with cs:=g.cs.set g.k { c with Sb:=b.Sb },ins:=b.ins,out:=b.out } d Kg∧o≤3:=by
 obtain ⟨t,F,a,G,H⟩:=iy (sent:=sent) (bx:=bx) m h n hc gb C g.out;have K:Mn M p s bx 0 g.out Yb Zc sent=none:=by
  cases q:g.uk i with
  | true=>exact G q
  | false =>
   obtain ⟨P,-,e⟩:=H q;rw [e,nE z];rfl
 have N:g.k<g.cs.length:=(List.getElem?_eq_some_iff.1 hc).1;obtain ⟨c2,r,O,Q⟩:=D;simp only [List.getElem?_set_self N,Option.some.injEq] at r;subst r;obtain ⟨d,za,v,w,e,x⟩:=IG (sent:=sent) (cst:=t.state) (bx:=bx) m (a.fp h.Zk g.out) n y gb B (i':=i') O Q;have f:=Yk.of (c:=c) (st:=0) (u:=none) x;have R:Yk { c with Sb:=b.Sb } { t with fr:=za,l:=v,live:=w }:=⟨a.st,a.up,f.fr,f.Dq,f.wr,f.cg,a.Eg,a.mg⟩;have S:=(h.set (j:=g.k) g.k R).io (xq.of x) b.out;refine ⟨_,d,(if b.stuck i' then 3 else 1),(if b.stuck i' then i'.A else 0),?_,S,by split<;>omega⟩;rw [Dn,K];simp only;have T:Bn M s bx 0 g.out Yb Zc sent t.state t.fr t.l t.live 8 400=some (true,(if b.stuck i' then 3 else 1),(if b.stuck i' then i'.A else 0),0,b.out,Yb,d,sent,t.state,za,v,w,8,400):=e;rw [Cu,h.now,F,Nb,a.Eg,a.mg,T,Nb];simp only [gd.put,h.now]
theorem GF (d:Ik M=true) (h:Hg Yb g Zc p) (l:s≤3) (o:g.out.length≤100000) (e:Qr M g=some Vg){i':Kc}(m:Vg.dp M i') :
  ∃ Kg u w C,Dn M p s bx 0 g.out Yb Zc sent=some (true,Kg,w,C,0,Vg.out,Yb,u,sent)∧Hg Yb Vg u Kg∧w≤3:=by
 obtain ⟨c,hc,e⟩:=da e;obtain ⟨i,gb,e⟩:=da e;have D:=LG d gb;have E:g.k<g.cs.length:=(List.getElem?_eq_some_iff.1 hc).1;by_cases n:i.Op=25∨(29≤i.Op∧i.Op≤32)
 ·have f:En i.Op=true:=by
   unfold En;have:i.Op=25∨i.Op=29∨i.Op=30∨i.Op=31∨i.Op=32:=by omega
   rcases this with h | h | h | h | h<;>rw [h]<;>rfl
  rw [if_pos f] at e;obtain ⟨t,U,W,X,F⟩:=iy (sent:=sent) (bx:=bx) d h l hc gb (by omega) g.out;have j:g.uk i=false:=by
   have:i.Op≠27:=by omega
   simp [hb.uk,this]
  obtain ⟨P,G,H⟩:=F j;obtain ⟨q,ra,K,Y,N⟩:=FF d E hc G D e n;obtain ⟨Kg,O,Q⟩:=cB (sent:=sent) (s:=1) (bx:=0) d K (by decide) m;refine ⟨Kg,Zc,(if Vg.uk i' then 3 else 1),(if Vg.uk i' then i'.A else 0),?_,Q,by split<;>omega⟩;rw [Dn,H,ra,Nb];simp only [O,Nb,N]
 ·by_cases y:i.Op=5∨i.Op=6
  ·have f:En i.Op=true:=by
    unfold En;rcases y with h | h<;>rw [h]<;>rfl
   rw [if_pos f] at e;unfold Bq at e;rw [if_neg (by omega),if_neg (by omega),if_neg (by omega),if_neg (by omega)] at e;have key:∃ b,Km M { c.Sb.am g.ins g.out with Vc:=c.Sb.Vc+1 } i=some b∧Vg={ g with cs:=g.cs.set g.k { c with Sb:=b.Sb },ins:=b.ins,out:=b.out }:=by
    rcases y with z | B
    ·rw [if_pos z] at e;unfold Km;rw [if_pos z];show ∃ b,(match c.Sb.st with | _::r=>some _ | []=>none)=some b∧_;simp only at e;split at e
     ·rename_i v r j;rw [j];exact ⟨_,rfl,(Option.some.inj e).symm⟩
     ·cases e
    ·rw [if_neg (by omega),if_pos B] at e;unfold Km;rw [if_neg (by omega),if_pos B];show ∃ b,(match c.Sb.st with | v::r=>some _ | []=>none)=some b∧_;simp only at e;split at e
     ·rename_i v r j;rw [j];exact ⟨_,rfl,(Option.some.inj e).symm⟩
     ·cases e
   obtain ⟨b,a,rfl⟩:=key;exact dB d h l o hc gb n a (by omega) m
  ·have f:En i.Op=false:=by
    unfold En;simp only [Bool.or_eq_false_iff,decide_eq_false_iff_not];omega
   rw [f] at e;simp only [Bool.false_eq_true,if_false] at e;obtain ⟨b,a,e⟩:=da e;obtain rfl:=Option.some.inj e;have R:Km M { c.Sb.am g.ins g.out with Vc:=c.Sb.Vc+1 } i=some b:=by
    unfold Km;rw [if_neg (by omega),if_neg (by omega)];exact a
   refine dB d h l o hc gb n R (fun S=>?_) m;unfold Sn at a;rw [if_neg (by omega),if_neg (by omega),if_neg (by omega),if_neg (by omega),if_neg (by omega),if_neg (by omega),if_neg (by omega),if_neg (by omega),if_neg (by omega),if_pos S] at a;simp only at a;split at a
   ·rename_i x r T;exact (List.getElem?_eq_some_iff.1 T).1
   ·cases a
end
end Go.Y
namespace Go.Y
open Go.vc Go.jd
theorem Eu {b c:Ud}{v:Int}(a:c.push v=some b):b.out=c.out:=by
 unfold Ud.push at a;split at a
 ·cases a
 ·rw [← Option.some.inj a]
theorem VE {M:Uc}{b c:Ud}{i:Kc}(h:Sn M c i=some b):b.out.length≤c.out.length+1:=by
 unfold Sn at h;by_cases d:i.Op=1
 ·rw [if_pos d] at h;rw [Eu h];omega
 rw [if_neg d] at h;clear d;by_cases d:i.Op=2
 ·rw [if_pos d] at h;rw [Eu h];omega
 rw [if_neg d] at h;clear d;by_cases d:i.Op=3
 ·rw [if_pos d] at h;obtain ⟨v,-,a⟩:=Option.bind_eq_some_iff.1 h;rw [Eu a];omega
 rw [if_neg d] at h;clear d;by_cases d:i.Op=4
 ·rw [if_pos d] at h;split at h
  ·split at h
   ·rw [← Option.some.inj h];simp
   ·cases h
  ·cases h
 rw [if_neg d] at h;clear d;by_cases d:8≤i.Op∧i.Op≤18
 ·rw [if_pos d] at h;split at h
  ·obtain ⟨v,-,a⟩:=Option.bind_eq_some_iff.1 h;rw [← Option.some.inj a];simp
  ·cases h
 rw [if_neg d] at h;clear d;by_cases d:i.Op=21
 ·rw [if_pos d] at h;rw [← Option.some.inj h];simp
 rw [if_neg d] at h;clear d;by_cases d:i.Op=22
 ·rw [if_pos d] at h;split at h
  ·rw [← Option.some.inj h];simp
  ·cases h
 rw [if_neg d] at h;clear d;by_cases d:i.Op=23
 ·rw [if_pos d] at h;obtain ⟨v,-,a⟩:=Option.bind_eq_some_iff.1 h;split at a
  ·cases a
  ·split at a
   ·cases a
   ·rw [← Option.some.inj a];simp
 rw [if_neg d] at h;clear d;by_cases d:i.Op=24
 ·rw [if_pos d] at h;split at h
  ·rw [← Option.some.inj h];simp
  ·cases h
 rw [if_neg d] at h;clear d;by_cases d:i.Op=27
 ·rw [if_pos d] at h;split at h
  ·rw [Eu h];simp
  ·cases h
 rw [if_neg d] at h;clear d;by_cases d:i.Op=28
 ·rw [if_pos d] at h;split at h
  ·rw [← Option.some.inj h];simp
  ·cases h
 rw [if_neg d] at h;cases h
theorem Dr {g Vg:hb}{cs:List Dh}{j:Nat}{v:Int}(e:g.to cs j v=some Vg):Vg.out=g.out:=by
 obtain ⟨c,hc,e⟩:=da e;obtain ⟨Sb,a,e⟩:=da e;obtain rfl:=Option.some.inj e;rfl
theorem dI {M:Uc}{g Vg:hb}{c:Dh}{Sb:Bi}{i:Kc}(e:Bq M g c Sb i=some Vg):Vg.out=g.out:=by
 unfold Bq at e;by_cases d:i.Op=29
 ·rw [if_pos d] at e;obtain ⟨u,-,e⟩:=da e;split at e
  ·cases e
  ·exact Dr e
 rw [if_neg d] at e;clear d;by_cases d:i.Op=30
 ·rw [if_pos d] at e;split at e
  ·obtain ⟨a,-,e⟩:=da e;split at e
   ·cases e
   ·simp only at e;split at e
    ·rw [← Option.some.inj e]
    ·split at e
     ·exact Dr e
     ·cases e
  ·cases e
 rw [if_neg d] at e;clear d;by_cases d:i.Op=31
 ·rw [if_pos d] at e;split at e
  ·exact Dr e
  ·cases e
 rw [if_neg d] at e;clear d;by_cases d:i.Op=25
 ·rw [if_pos d] at e;split at e
  ·exact Dr e
  ·cases e
 rw [if_neg d] at e;clear d;by_cases d:i.Op=5
 ·rw [if_pos d] at e;split at e
  ·rw [← Option.some.inj e]
  ·cases e
 rw [if_neg d] at e;clear d;by_cases d:i.Op=6
 ·rw [if_pos d] at e;split at e
  ·rw [← Option.some.inj e]
  ·cases e
 rw [if_neg d] at e;clear d;by_cases d:i.Op=32
 ·rw [if_pos d] at e;split at e
  ·split at e
   ·cases e
   ·obtain ⟨a,-,e⟩:=da e;exact Dr e
  ·cases e
 rw [if_neg d] at e;cases e
theorem oE {M:Uc}{g Vg:hb}(e:Qr M g=some Vg):Vg.out.length≤g.out.length+1:=by
 obtain ⟨c,hc,e⟩:=da e;obtain ⟨i,gb,e⟩:=da e;split at e
 ·rw [dI e];omega
 ·obtain ⟨b,a,e⟩:=da e;obtain rfl:=Option.some.inj e;exact VE (c:={ c.Sb.am g.ins g.out with Vc:=c.Sb.Vc+1 }) a
section
variable {M:Uc}{Yb sent:List (List Int)}
theorem WE {g Vg:hb}(e:Qr M g=some Vg):∃ i,g.dp M i:=by
 obtain ⟨c,hc,e⟩:=da e;obtain ⟨i,gb,e⟩:=da e;refine ⟨i,c,hc,gb,fun d=>?_⟩;have f:En i.Op=false:=by rw [d];rfl
 rw [f] at e;simp only [Bool.false_eq_true,if_false] at e;obtain ⟨b,a,e⟩:=da e;unfold Sn at a;rw [if_neg (by omega),if_neg (by omega),if_neg (by omega),if_neg (by omega),if_neg (by omega),if_neg (by omega),if_neg (by omega),if_neg (by omega),if_neg (by omega),if_pos d] at a;simp only at a;split at a
 ·rename_i x r h;exact (List.getElem?_eq_some_iff.1 h).1
 ·cases a
theorem FB (r:Ik M=true):∀ (n:Nat) (g b:hb) (i':Kc) (Zc:List Int) (p:gd) (s bx i:Int) (k:Nat),Hg Yb g Zc p→s≤3→g.out.length+n≤100000→Ij M n g=some b→b.dp M i'→0≤i→i+n≤5000 →
  ∃ a f e Kg,rm M 5000 (k+n) i s bx 0 p g.out Zc Yb sent=rm M 5000 k (i+n) a f 0 Kg b.out e Yb sent∧Hg Yb b e Kg∧a≤3
 | 0,g,b,i',Zc,p,s,bx,i,k,l,m,t,h,o,u,v=>by
  cases h;exact ⟨s,bx,Zc,p,by simp,l,m⟩
 | n+1,g,b,i',Zc,p,s,bx,i,k,l,m,t,h,o,u,v=>by
  obtain ⟨c,hc,q⟩:=da h;have w:∃ j,c.dp M j:=by
   cases n with
   | zero=>cases q; exact ⟨i',o⟩
   | succ n =>
    obtain ⟨d,tb,-⟩:=da q;exact WE tb
  obtain ⟨j,x⟩:=w;obtain ⟨La,y,s1,z,ra,A,B⟩:=GF (sent:=sent) (bx:=bx) r l m (by omega) hc x;have F:=oE hc;obtain ⟨a,f,e,Kg,C,D,E⟩:=FB r n c b i' y La s1 z (i+1) k A B (by omega) q o (by omega) (by omega);refine ⟨a,f,e,Kg,?_,D,E⟩;rw [show k+(n+1)=(k+n)+1 by omega,rm,if_pos (by omega),ra,Nb];simp only [if_true];rw [Lh (by omega),Nb,C];congr 1;omega
theorem HF (a:Ik M=true){g:hb}{o:List Int}{n:Nat}{Zc:List Int}{p:gd}{s bx:Int}{k:Nat}(z:Hg Yb g Zc p) (B:s≤3) (C:g.out=[]) (e:Jj M g o n) (P:n<5000) (Q:5000≤k) :
  ∃ r:Wj,rm M 5000 k 0 s bx 0 p g.out Zc Yb sent=some (r,0)∧r.State=3∧r.Out=o:=by
 obtain ⟨m,b,hm,D,⟨c,i,hc,gb,E,R,u⟩,F⟩:=e;have d:i.A.toNat<b.ins.length:=(List.getElem?_eq_some_iff.1 u).1;obtain ⟨G,f,v,Kg,ra,h,w⟩:=FB (sent:=sent) a m g b i Zc p s bx 0 (k - m) z B (by rw [C];simp;omega) D ⟨c,hc,gb,fun _=>d⟩ (by omega) (by omega);rw [show k=(k - m)+m by omega,ra];obtain ⟨x,H⟩:∃ x,k - m=x+1:=⟨k - m - 1,by omega⟩;obtain ⟨t,K,j,N,S⟩:=iy (sent:=sent) (bx:=f) a h w hc gb (fun _=>d) b.out;have y:b.uk i=true:=by simp [hb.uk,E,u]
 have q:=yr (sent:=sent) (bx:=f) a (j.fp h.Zk b.out) w gb (fun _=>d);rw [show (c.Sb.am b.ins b.out).stuck i=true from y] at q;simp only [if_true] at q;have O:Bn M G f 0 b.out Yb v sent t.state t.fr t.l t.live 8 400=some (false,3,i.A,0,b.out,Yb,v,sent,t.state,t.fr,t.l,t.live,8,400):=by
  rw [Bn,q,Nb,if_pos (by simp)]
 rw [H,rm,if_pos (by omega),Dn,N y];simp only;rw [Cu,h.now,K,Nb,j.Eg,j.mg,O,Nb,Nb,if_neg (by simp)];exact ⟨_,rfl,rfl,F⟩
structure yq (M:Uc) (Yb:List (List Int)):Prop where
 n:Yb.length=M.Se.length
 Cz:Yb.length≤1000
 Xk:∀ f ∈ Yb,f.length≤65536
 ty:∀ (i:Nat) (f:List Int) (b:ak),Yb[i]?=some f→M.Se[i]?=some b→b.we=2→∀ v ∈ f,v=0∨v=1
theorem FA (a:yq M Yb){i:Nat}{f:List Int}(gb:Yb[i]?=some f) (K:Int→Option (Wj×Int)):∀ (k j:Nat),j≤f.length→f.length<k+j→Il M (i:Int) f K k (j:Int)=K ((i:Int)+1)
 | 0,j,d,e=>by omega
 | k+1,j,d,e=>by
  have g:i<Yb.length:=(List.getElem?_eq_some_iff.1 gb).1;have m:=a.Cz;have o:=a.Xk f (List.mem_of_getElem? gb);rw [Il];by_cases c:j<f.length
  ·rw [if_pos (by omega),oj,List.getElem?_eq_getElem c,Nb,oj];have b:i<M.Se.length:=by rw [← a.n];exact g
   rw [List.getElem?_eq_getElem b,Nb];have go:∀ q,q=false→wo (j:Int) (Il M (i:Int) f K k) q=K ((i:Int)+1):=by
    intro q h;subst h;rw [wo,if_neg (by decide),Lh (by omega),Nb];exact FA a gb K k (j+1) c (by omega)
   split
   ·rename_i l;have:=a.ty i f _ gb (List.getElem?_eq_getElem b) l f[j] (List.getElem_mem c);split
    ·rename_i p;exact go _ (decide_eq_false (by omega))
    ·exact go _ rfl
   ·exact go _ rfl
  ·rw [if_neg (by omega),Lh (by omega),Nb]
theorem eB (fu:Nat) (Va zb:Int) (a:List Int) (b:yq M Yb):∀ (k i:Nat),i≤Yb.length→Yb.length<k+i →
  tm fu M Va Yb zb a k (i:Int)=Xq fu M Va Yb zb a (List.replicate Yb.length 0) (List.replicate Yb.length [])
 | 0,i,d,e=>by omega
 | k+1,i,d,e=>by
  have f:=b.Cz;rw [tm];by_cases c:i<Yb.length
  ·rw [if_pos (by omega),oj,List.getElem?_eq_getElem c,Nb];have:=FA b (List.getElem?_eq_getElem c) (tm fu M Va Yb zb a k) (Yb[i].length+1) 0 (by omega) (by omega);rw [show ((0:Nat):Int)=0 from rfl] at this;rw [this];exact eB fu Va zb a b k (i+1) c (by omega)
  ·rw [if_neg (by omega)];have:Vk (Yb.length:Int)=some Yb.length:=by
    unfold Vk;rw [if_pos (by omega)];simp
   rw [this,Nb,Nb]
structure Dz (fu:Nat) (M:Uc) (un nl:Nat):Prop where
 ok:Ik M=true
 rJ:(iu fu M).map (fun w=>w.Wh)=some 0
 Nv:(Au M).bind (fun l=>l[0]?)=some (un:Int)
 ka:fv M (un:Int)=some (⟨[⟨2,none,[(⟨(un:Int),0,0⟩:Jc)],List.replicate 8 (0:Int),(nl:Int),8,400⟩],0⟩,1,0,0,[])
 nl:nl≤8
 sJ:∃ u,M.Ld[un]?=some u∧∃ i,u.Code[0]?=some i∧(i.Op=27→i.A.toNat<M.Se.length)
theorem MG {un nl:Nat}(a:nl≤8) (b:yq M Yb):Hg Yb (g0 un nl Yb) (List.replicate Yb.length (0:Int)) ⟨[⟨2,none,[(⟨(un:Int),0,0⟩:Jc)],List.replicate 8 (0:Int),(nl:Int),8,400⟩],0⟩ where
 now:=rfl
 len:=rfl
 co i c gb:=by
  have d:i<1:=by simpa [g0] using (List.getElem?_eq_some_iff.1 gb).1
  obtain rfl:i=0:=by omega
  obtain rfl:=Option.some.inj gb;refine ⟨_,rfl,⟨rfl,rfl,rfl,⟨by simp,by simp,by simp [Ud.ws,Bi.am,sg],by simp [Ud.ws,Bi.am,sg];omega,?_⟩,by simp [Ud.ws,Bi.am,sg];omega,rfl,rfl,rfl⟩⟩;simp only [Ud.ws,Bi.am,sg,List.reverse_nil,List.append_nil,List.nil_append,List.length_replicate,List.take_replicate];rw [Nat.min_eq_left a]
 Zk:=⟨by simp,rfl,fun i f h=>⟨0,by
  have:i<Yb.length:=(List.getElem?_eq_some_iff.1 h).1;simp [this],by omega,by simpa [g0] using h⟩,b.Xk⟩
theorem DD {fu:Nat}{un nl n:Nat}{o:List Int}(a:Dz fu M un nl) (b:yq M Yb) (v:5001≤fu) (e:Jj M (g0 un nl Yb) o n) (f:n<5000) :
  ∃ r:Wj,ur fu M 0 Yb 5000=some (r,0)∧r.State=3∧r.Out=o:=by
 obtain ⟨w,g,hw⟩:=Option.map_eq_some_iff.1 a.rJ;obtain ⟨Nv,h,d⟩:=Option.bind_eq_some_iff.1 a.Nv;have x:0<Nv.length:=(List.getElem?_eq_some_iff.1 d).1;obtain ⟨u,hu,i,gb,j⟩:=a.sJ;have l:=MG (un:=un) a.nl b;have m:(g0 un nl Yb).dp M i:=by
  refine ⟨_,rfl,?_,fun c=>by show _<Yb.length;rw [b.n];exact j c⟩;show (M.Ld[un]?).bind (fun u=>u.Code[0]?)=some i;rw [hu];exact gb
 obtain ⟨Kg,p,q⟩:=cB (sent:=List.replicate Yb.length []) (s:=1) (bx:=0) a.ok l (by decide) m;obtain ⟨r,ra,t⟩:=HF (sent:=List.replicate Yb.length []) (bx:=if (g0 un nl Yb).uk i=true then i.A else 0) a.ok q (s:=if (g0 un nl Yb).uk i=true then 3 else 1) (by split<;>omega) rfl e f (k:=fu) (by omega);refine ⟨r,?_,t⟩;rw [ur,g,Nb,if_neg (by simp [hw]),h,Nb,if_neg (by decide),if_neg (by omega),if_neg (by decide),if_neg (by decide),if_neg (by rw [b.n];simp)];have:=eB fu 0 5000 Nv b (Yb.length+1) 0 (by omega) (by omega);rw [show ((0:Nat):Int)=0 from rfl] at this;rw [this,Xq,Rm (by decide)];simp only [Int.toNat_zero];rw [d,Nb,a.ka,Nb];simp only [p,Nb];exact ra
end
theorem GB (l:List Int) (a:l.length≤65536):∀ (n i:Nat),i≤l.length→l.length<n+i→Fp l l n (i:Int)=some true
 | 0,i,b,d=>by omega
 | n+1,i,b,d=>by
  rw [Fp];by_cases c:i<l.length
  ·rw [if_pos (by omega),oj,List.getElem?_eq_getElem c,Nb,Nb,if_neg (by simp),Lh (by omega),Nb];exact GB l a n (i+1) c (by omega)
  ·rw [if_neg (by omega)]
theorem NG (l:List Int) (a:l.length≤65536):xr l l=some true:=by
 rw [xr,if_neg (by simp)];exact GB l a _ 0 (by omega) (by omega)
theorem IF {fu:Nat}{name:List UInt8}{M:Uc}{un nl n:Nat}{Yb:List (List Int)}{o:List Int}(hm:cr fu name=some (M,0)) (a:Dz fu M un nl) (b:yq M Yb) (c:5001≤fu)
  (e:Jj M (g0 un nl Yb) o n) (d:n<5000) (f:o.length≤65536):Wp fu name o Yb=some true:=by
 obtain ⟨r,g,h,i⟩:=DD a b c e d;rw [Wp,gv,hm,Nb,if_neg (by simp),g,Nb,Nb,if_pos rfl,if_pos h,i,NG o f,Nb]
theorem kJ {M:Uc}{l:List Int}{c:Int}(d:M.Se=[⟨1,c⟩]) (e:l.length≤65536):yq M [l] where
 n:=by rw [d];rfl
 Cz:=by simp
 Xk f g:=by obtain rfl:=List.mem_singleton.1 g;exact e
 ty i f b j a h:=by
  rw [d] at a;have gb:i<1:=by simpa using (List.getElem?_eq_some_iff.1 a).1
  obtain rfl:i=0:=by omega
  cases a;cases h
theorem eI {l xs:List Int}(h:l.length+xs.length≤4294967296):app l xs=some (l++xs):=if_pos h
end Go.Y
namespace Go.Y
open Go.vc Go.jd
theorem fB (l:List Int) (m:Int) (hm:0≤m∧m≤9223372036854775807) (f:l.length≤12):∀ (n i:Nat),i≤l.length→l.length<n+i→∃ b,dn l m n (i:Int)=some b∧(b=true→∀ x ∈ l.drop i,-m≤x∧x≤m)
 | 0,i,g,h=>by omega
 | n+1,i,g,h=>by
  rw [dn];by_cases c:i<l.length
  ·rw [if_pos (by omega),oj,List.getElem?_eq_getElem c,Nb,Nn (by omega)];obtain ⟨b,ra,j⟩:=fB l m hm f n (i+1) c (by omega);by_cases d:l[i]<0 - m
   ·rw [if_pos d];exact ⟨false,rfl,by simp⟩
   ·rw [if_neg d,Mq];by_cases e:m<l[i]
    ·rw [decide_eq_true e];exact ⟨false,rfl,by simp⟩
    ·rw [decide_eq_false e,if_neg (by decide),Lh (by omega),Nb];refine ⟨b,ra,fun k x a=>?_⟩;rw [List.drop_eq_getElem_cons c] at a;rcases List.mem_cons.1 a with rfl | a
     ·omega
     ·exact j k x a
  ·rw [if_neg (by omega)];exact ⟨true,rfl,fun _ x a=>by rw [List.drop_eq_nil_of_le (by omega)] at a;simp at a⟩
theorem JF (l:List Int) (m:Int) (hm:0≤m∧m≤9223372036854775807):∃ b,er l m=some b∧(b=true→l.length≤12∧∀ x ∈ l,-m≤x∧x≤m):=by
 rw [er];by_cases c:(12:Int)<l.length
 ·rw [if_pos c];exact ⟨false,rfl,by simp⟩
 ·rw [if_neg c];obtain ⟨b,ra,a⟩:=fB l m hm (by omega) (l.length+1) 0 (by omega) (by omega);exact ⟨b,ra,fun d=>⟨by omega,by simpa using a d⟩⟩
end Go.Y
namespace Go.Y
open Go.vc Go.jd
theorem pE:Dz 60001 Nk 2 1:=⟨by decide +kernel,by decide +kernel,by decide +kernel,by kernel_rfl,by decide,⟨_,rfl,_,rfl,by decide⟩⟩
theorem qE:cr 60001 [114,111,117,110,100,115]=some (Nk,0):=by decide +kernel
theorem GA (i:Int) (acc:List Int) (x:Int) (K:Int→List Int→Option Bool) (o:x≤12):∀ (f n:Nat) (s k:Int),0≤k→k≤100→0≤s→s+100*f≤10000→x - k≤f→1≤f→f≤n →
  cn i acc x K n s (k+1)=Option.bind (app acc [lo f x k s]) fun l=>Option.bind (i64 (i+1)) fun j=>K j l
 | 0,n,s,k,a,b,d,e,g,h,m=>by omega
 | f+1,0,s,k,a,b,d,e,g,h,m=>by omega
 | f+1,n+1,s,k,a,b,d,e,g,h,m=>by
  have hw:Nf (k+1)=k+1:=Nn (by omega);rw [cn,lo,hw];by_cases c:k+1<x
  ·rw [if_pos c,if_pos c,Nn (n:=s+(k+1)) (by omega),Nn (n:=k+1+1) (by omega)];exact GA i acc x K o f n (s+(k+1)) (k+1) (by omega) (by omega) (by omega) (by omega) (by omega) (by omega) (by omega)
  ·rw [if_neg c,if_neg c,Int.add_zero,Nn (n:=s) (by omega)]
theorem rE (i:Int) (acc:List Int) (x:Int) (K:Int→List Int→Option Bool) (a:x≤12) (n:Nat) (b:14≤n) :
  cn i acc x K n 0 0=Option.bind (app acc [Qm x]) fun l=>Option.bind (i64 (i+1)) fun j=>K j l:=by
 obtain ⟨m,rfl⟩:∃ m,n=m+1:=⟨n - 1,by omega⟩;rw [cn,Qm];have hw:Nf ((0:Int)+0)=0:=by decide
 by_cases c:0<x
 ·rw [if_pos c,if_pos c,hw,Nn (n:=(0:Int)+1) (by omega)];exact GA i acc x K a 13 m 0 0 (by omega) (by omega) (by omega) (by omega) (by omega) (by omega) (by omega)
 ·rw [if_neg c,if_neg c,hw]
theorem HA (l:List Int) (b:l.length≤12) (a:∀ v ∈ l,v≤12):∀ (n i:Nat) (acc:List Int),i≤l.length→l.length<n+i→acc.length≤i →
  oo 60001 l n (i:Int) acc=Option.bind (Wp 60001 [114,111,117,110,100,115] (acc++(l.drop i).map Qm) [l]) fun r=>some r
 | 0,i,acc,d,e,f=>by omega
 | n+1,i,acc,d,e,f=>by
  rw [oo];by_cases c:i<l.length
  ·have g:=a l[i] (List.getElem_mem c);rw [if_pos (by omega),oj,List.getElem?_eq_getElem c,Nb,rE _ _ l[i] _ g 60001 (by decide),eI (by simp;omega),Nb,Lh (by omega),Nb];have:=HA l b a n (i+1) (acc++[Qm l[i]]) c (by omega) (by simp;omega);rw [show ((i:Int)+1)=((i+1:Nat):Int) by omega,this,List.drop_eq_getElem_cons c,List.map_cons];simp only [List.append_assoc,List.cons_append,List.nil_append]
  ·rw [if_neg (by omega),List.drop_eq_nil_of_le (by omega),List.map_nil,List.append_nil]
theorem UC (l:List Int):Zq 60001 l=some true:=by
 obtain ⟨b,ra,d⟩:=JF l 12 (by decide);rw [Zq,ra,Nb];cases b with
 | false=>rfl
 | true =>
  obtain ⟨c,e⟩:=d rfl;have a:∀ v ∈ l,v≤12:=fun v a=>(e v a).2;have h:=HA l c a (l.length+1) 0 [] (by omega) (by omega) (by simp);rw [show ((0:Nat):Int)=0 from rfl] at h;rw [if_pos rfl,h,List.drop_zero,List.nil_append,IF (n:=330*l.length+20) qE pE (kJ rfl (by omega)) (by decide) (CD l c a) (by omega) (by simp;omega),Nb]
end Go.Y
