/- The shelf: texts of ShelfAverage Pl. -/
import Derived.Test.YthdpoglpdpfnbaaGreatDoorCMd
import Derived.ProofKit
set_option linter.unusedSimpArgs false
set_option linter.unusedVariables false
set_option linter.unusedSectionVars false
namespace Go.Y
open Go.vc Go.hd
def zp (p_1:List Int) (a:List Int):Nat→Int→Option Bool
 | 0,_=>none
 | n+1,i26 =>
  if i26<(p_1.length:Int) then
   (at_ p_1 i26).bind fun b =>
   (at_ a i26).bind fun c =>
   if b≠c then
    some false
   else
    (i64 (i26+1)).bind fun i65 =>
    zp p_1 a n i65
  else
   some true
def mr  (p_1:List Int) (a:List Int):Option Bool :=
 if (p_1.length:Int)≠(a.length:Int) then
  some false
 else
  zp p_1 a (p_1.length+1) 0
def Dq (i17:Int) (a:Int→Option Bool) (Rg:Bool):Option Bool :=
 if Rg=true then
  some false
 else
  (i64 (i17+1)).bind fun i44 =>
  a i44
def Xm (p_1:List Int) (a:Int):Nat→Int→Option Bool
 | 0,_=>none
 | n+1,i17 =>
  if i17<(p_1.length:Int) then
   (at_ p_1 i17).bind fun b =>
   if b<(Cg (0 - a)) then
    Dq i17 (Xm p_1 a n) true
   else
    Dq i17 (Xm p_1 a n) (decide (a<b))
  else
   some true
def Fp  (p_1:List Int) (a:Int):Option Bool :=
 if (12:Int)<(p_1.length:Int) then
  some false
 else
  Xm p_1 a (p_1.length+1) 0
def Rp (fu:Nat)  (p_1:List UInt8) (b:List Int) (c:List (List Int)):Option Bool :=
 (Xu fu p_1 c).bind fun a =>
 if a.2=0 then
  if a.1.State=3 then
   (mr a.1.Out b).bind fun d =>
   some d
  else
   some false
 else
  some false
def Zo (fu:Nat) (p_1:List Int):Nat→Int→Int→(List Int)→Option Bool
 | 0,_,_,_=>none
 | n+1,i49,i50,a =>
  if i50<(p_1.length:Int) then
   (at_ p_1 i50).bind fun b =>
   (i64 (i50+1)).bind fun i87 =>
   (quo (Cg (i49+b)) i87).bind fun i89 =>
   (app a [i89]).bind fun c =>
   (i64 (i50+1)).bind fun i98 =>
   Zo fu p_1 n (Cg (i49+b)) i98 c
  else
   (Rp fu [97,118,101,114,97,103,101] a [p_1]).bind fun d =>
   some d
def bo (fu:Nat) (p_1:List Int) (ef:Bool):Option Bool :=
 if ef=true then
  some true
 else
  Zo fu p_1 (p_1.length+1) 0 0 []
def Nq (fu:Nat)  (p_1:List Int):Option Bool :=
 if (60:Int)<(p_1.length:Int) then
  bo fu p_1 true
 else
  (cut p_1 0 (min (p_1.length:Int) 12)).bind fun a =>
  (Fp a 1000000).bind fun b =>
  if b=true then
   (cut p_1 (min (p_1.length:Int) 12) p_1.length).bind fun c =>
   (Fp c 1000000).bind fun d =>
   bo fu p_1 (!d)
  else
   bo fu p_1 true
end Go.Y
namespace Go.Y
open Go.vc Go.hd
structure Fr where
 u:Nat
 Vc:Nat
 loc:List Int
 st:List Int
structure Sd where
 u:Nat
 Vc:Nat
 loc:List Int
 st:List Int
 low:List Fr
 wr:Nat
 fr:Nat
 ins:List (List Int)
 out:List Int
def Sm (p:Prop) [Decidable p]:Int:=if p then 1 else 0
def two (op a b:Int):Option Int :=
 if op=8 then some (Cg (a+b)) else if op=9 then some (Cg (a - b)) else if op=10 then some (Cg (a*b))
 else if op=11 then (if b=0 then none else some (Cg (a.tdiv b))) else if op=12 then (if b=0 then none else some (a.tmod b))
 else if op=13 then some (Sm (a=b)) else if op=14 then some (Sm (a≠b)) else if op=15 then some (Sm (a<b)) else if op=16 then some (Sm (a≤b))
 else if op=17 then some (Sm (b<a)) else none
def Sd.push (a:Sd) (v:Int):Option Sd :=
 match a.wr with
 | 0=>none
 | k+1=>some { a with st:=v::a.st,wr:=k }
def Mn (M:Xc) (a:Sd) (i:Jc):Option Sd :=
 if i.Op=1 then a.push i.N
 else if i.Op=2 then a.push i.A
 else if i.Op=3 then (a.loc[i.A.toNat]?).bind a.push
 else if i.Op=4 then (match a.st with | v::r=>if i.A.toNat<a.loc.length then some { a with st:=r,wr:=a.wr+1,loc:=a.loc.set i.A.toNat v } else none | []=>none)
 else if 8≤i.Op∧i.Op≤18 then (match a.st with | y::x::r=>(two i.Op x y).bind fun z=>some { a with st:=z::r,wr:=a.wr+1 } | _=>none)
 else if i.Op=21 then some { a with Vc:=i.A.toNat }
 else if i.Op=22 then (match a.st with | v::r=>some { a with st:=r,wr:=a.wr+1,Vc:=if v=0 then i.A.toNat else a.Vc } | []=>none)
 else if i.Op=23 then (M.Jd[i.A.toNat]?).bind fun u=>match a.fr with
  | 0=>none
  | f+1=>if a.st.length<u.Params.toNat∨a.wr<u.pd.length - u.Params.toNat then none
   else some { a with u:=i.A.toNat,Vc:=0,loc:=(a.st.take u.Params.toNat).reverse++List.replicate (u.pd.length - u.Params.toNat) 0,st:=[],low:=⟨a.u,a.Vc,a.loc,a.st.drop u.Params.toNat⟩::a.low,fr:=f,wr:=a.wr - (u.pd.length - u.Params.toNat) }
 else if i.Op=24 then (match a.st,a.low with
  | v::r,f::b=>some { a with u:=f.u,Vc:=f.Vc,loc:=f.loc,st:=v::f.st,low:=b,fr:=a.fr+1,wr:=a.wr+r.length+a.loc.length }
  | _,_=>none)
 else if i.Op=27 then (match a.ins[i.A.toNat]? with
  | some (x::r)=>({ a with ins:=a.ins.set i.A.toNat r }:Sd).push x
  | _=>none)
 else if i.Op=28 then (match a.st with | v::r=>some { a with st:=r,wr:=a.wr+1,out:=a.out++[v] } | []=>none)
 else none
def Sd.code (M:Xc) (a:Sd):Option Jc:=(M.Jd[a.u]?).bind fun u=>u.Code[a.Vc]?
end Go.Y
namespace Go.Y
def Wq:Xc:=⟨[⟨1,20⟩],[⟨3,0,[1,1,1],1,1,[⟨1,0,0⟩,⟨4,0,0⟩,⟨1,0,0⟩,⟨4,1,0⟩,⟨1,0,0⟩,⟨31,0,0⟩,⟨4,2,0⟩,⟨2,1,0⟩,⟨22,23,0⟩,⟨3,0,0⟩,⟨3,2,0⟩,⟨8,0,0⟩,⟨4,0,0⟩,⟨3,1,0⟩,⟨1,0,1⟩,⟨8,0,0⟩,⟨4,1,0⟩,⟨3,0,0⟩,⟨3,1,0⟩,⟨11,0,0⟩,⟨31,0,0⟩,⟨4,2,0⟩,⟨21,7,0⟩,⟨25,0,0⟩]⟩,⟨4,0,[10],0,0,[⟨29,0,0⟩,⟨4,0,0⟩,⟨3,0,0⟩,⟨1,0,0⟩,⟨30,0,0⟩,⟨5,0,0⟩,⟨2,1,0⟩,⟨22,13,0⟩,⟨3,0,0⟩,⟨27,0,0⟩,⟨30,0,0⟩,⟨28,0,0⟩,⟨21,6,0⟩,⟨25,0,0⟩]⟩]⟩
end Go.Y
namespace Go.Y
open Go.vc Go.hd
structure xi where
 u:Nat
 Vc:Nat
 loc:List Int
 st:List Int
 low:List Fr
 wr:Nat
 fr:Nat
structure pk where
 state:Nat
 up:Option Nat
 Pb:xi
structure jb where
 k:Nat
 cs:List pk
 ins:List (List Int)
 out:List Int
def xi.am (t:xi) (ins:List (List Int)) (out:List Int):Sd:=⟨t.u,t.Vc,t.loc,t.st,t.low,t.wr,t.fr,ins,out⟩
def Sd.Pb (a:Sd):xi:=⟨a.u,a.Vc,a.loc,a.st,a.low,a.wr,a.fr⟩
def xi.push (t:xi) (v:Int):Option xi :=
 match t.wr with
 | 0=>none
 | k+1=>some { t with st:=v::t.st,wr:=k }
def jb.to (g:jb) (cs:List pk) (j:Nat) (v:Int):Option jb :=
 (cs[j]?).bind fun c=>(c.Pb.push v).bind fun t=>some { g with k:=j,cs:=cs.set j { c with Pb:=t } }
def uq (M:Xc) (g:jb) (c:pk) (t:xi) (i:Jc):Option jb :=
 if i.Op=29 then (M.Jd[i.A.toNat]?).bind fun u =>
  if t.st.length<u.Params.toNat∨30<g.cs.length∨400<u.pd.length∨u.pd.length<u.Params.toNat then none else
  g.to (g.cs.set g.k { c with Pb:={ t with st:=t.st.drop u.Params.toNat,wr:=t.wr+u.Params.toNat } }++[⟨0,none,⟨i.A.toNat,0,(t.st.take u.Params.toNat).reverse++List.replicate (u.pd.length - u.Params.toNat) 0,[],[],400 - u.pd.length,39⟩⟩]) g.k (g.cs.length:Int)
 else if i.Op=30 then (match t.st with
  | v::j::r=>(g.cs[j.toNat]?).bind fun d =>
   if j.toNat=g.k∨j<0 then none else
   let cs:=(g.cs.set g.k { c with Pb:={ t with st:=r,wr:=t.wr+2 } }).set j.toNat { d with state:=2,up:=some g.k }
   if d.state=0 then some { g with k:=j.toNat,cs:=cs } else if d.state=1 then g.to cs j.toNat v else none
  | _=>none)
 else if i.Op=31 then (match t.st,c.up with
  | v::r,some j=>g.to (g.cs.set g.k { c with state:=1,up:=none,Pb:={ t with st:=r,wr:=t.wr+1 } }) j v
  | _,_=>none)
 else if i.Op=25 then (match c.up with
  | some j=>g.to (g.cs.set g.k { c with state:=3,up:=none,Pb:=t }) j 0
  | none=>none)
 else if i.Op=5 then (match t.st with
  | v::r=>some { g with cs:=g.cs.set g.k { c with Pb:={ t with st:=r,wr:=t.wr+1 } } }
  | _=>none)
 else if i.Op=6 then (match t.st with
  | v::r=>some { g with cs:=g.cs.set g.k { c with Pb:={ t with st:=Cg (-v)::r } } }
  | _=>none)
 else if i.Op=32 then (match t.st with
  | j::r=>if j<0 then none else (g.cs[j.toNat]?).bind fun d=>g.to (g.cs.set g.k { c with Pb:={ t with st:=r,wr:=t.wr+1 } }) g.k (if d.state=3 then 0 else 1)
  | _=>none)
 else none
def yn (o:Int):Bool:=o=5 || o=6 || o=25 || o=29 || o=30 || o=31 || o=32
def Hr (M:Xc) (g:jb):Option jb :=
 (g.cs[g.k]?).bind fun c=>((c.Pb.am g.ins g.out).code M).bind fun i =>
  if yn i.Op then uq M g c { c.Pb with Vc:=c.Pb.Vc+1 } i
  else (Mn M { c.Pb.am g.ins g.out with Vc:=c.Pb.Vc+1 } i).bind fun a=>some { g with cs:=g.cs.set g.k { c with Pb:=a.Pb },ins:=a.ins,out:=a.out }
def Zl (M:Xc):Nat→jb→Option jb
 | 0,a=>some a
 | n+1,a=>(Hr M a).bind (Zl M n)
theorem RA (M:Xc):∀ (n m:Nat) (a b:jb),Zl M n a=some b→Zl M (n+m) a=Zl M m b
 | 0,m,a,b,h=>by cases h; rw [Nat.zero_add]
 | n+1,m,a,b,h=>by
  rw [show n+1+m=(n+m)+1 by omega];simp only [Zl] at h ⊢;cases d:Hr M a with
  | none=>rw [d] at h; cases h
  | some c=>rw [d] at h; exact RA M n m c b h
def jb.waits (M:Xc) (g:jb):Prop:=∃ c i,g.cs[g.k]?=some c∧(c.Pb.am g.ins g.out).code M=some i∧i.Op=27∧0≤i.A∧g.ins[i.A.toNat]?=some []
def zk (M:Xc) (a:jb) (o:List Int) (k:Nat):Prop:=∃ n b,n≤k∧Zl M n a=some b∧b.waits M∧b.out=o
theorem zk.go {M:Xc}{a b:jb}{o:List Int}{n k:Nat}(h:Zl M n a=some b) (e:zk M b o k):zk M a o (n+k):=by
 obtain ⟨m,c,i,d,f,g⟩:=e;exact ⟨n+m,c,by omega,by rw [RA M n m a b h];exact d,f,g⟩
theorem zk.to {M:Xc}{a:jb}{o b:List Int}{k d:Nat}(e:zk M a o k) (f:o=b) (h:k≤d):zk M a b d:=by
 subst f;obtain ⟨m,c,l,g,i,j⟩:=e;exact ⟨m,c,by omega,g,i,j⟩
theorem zk.wait {M:Xc}{a b:jb}{c:pk}{o:List Int}{n:Nat}{A:Int}(h:Zl M n a=some b) (d:b.cs[b.k]?=some c) (hc:(c.Pb.am b.ins b.out).code M=some ⟨27,A,0⟩) (e:0≤A) (fb:b.ins[A.toNat]?=some []) (f:b.out=o):zk M a o n :=
 ⟨n,b,Nat.le_refl _,h,⟨_,_,d,hc,rfl,e,fb⟩,f⟩
def g0 (u n:Nat) (ins:List (List Int)):jb:=⟨0,[⟨2,none,⟨u,0,List.replicate n 0,[],[],400 - n,39⟩⟩],ins,[]⟩
end Go.Y
namespace Go.Y
open Go.vc Go.hd
def bm:Nat→Int→List Int→List Int
 | _,_,[]=>[]
 | c,s,x::l=>Cg ((Cg (s+x)).tdiv ((c+1:Nat):Int))::bm (c+1) (Cg (s+x)) l
inductive Gk (c:Nat) (s:Int):pk→Prop where
 | first (x:Int):Gk c s ⟨1,none,⟨0,6,[s,(c:Int),x],[],[],397,39⟩⟩
 | more (x:Int):Gk c s ⟨1,none,⟨0,21,[s,(c:Int),x],[],[],397,39⟩⟩
theorem SA:∀ (l:List Int) (c:Nat) (s:Int){A:pk}(_:Gk c s A) (o:List Int),c+l.length≤1000→zk Wq ⟨0,[⟨2,none,⟨1,6,[1],[],[],399,39⟩⟩,A],[l],o⟩ (o++bm c s l) (23*l.length+3)
 | [],c,s,A,d,o,hc=>.to (.wait (n:=3) (b:=⟨0,[⟨2,none,⟨1,9,[1],[1],[],398,39⟩⟩,A],[[]],o⟩) (A:=0) (by kernel_rfl) rfl (by kernel_rfl) (by decide) rfl rfl) (by simp [bm]) (by simp)
 | x::l,c,s,A,d,o,hc=>by
  have hw:Cg ((c:Int)+1)=((c+1:Nat):Int):=by simp only [Cg,IntKind.wrap_i64];simp at hc;omega
  have qa:∃ n,n≤19∧Zl Wq n ⟨0,[⟨2,none,⟨1,6,[1],[],[],399,39⟩⟩,A],[x::l],o⟩=some ⟨1,[⟨2,none,⟨1,11,[1],[],[],399,39⟩⟩,⟨2,some 0,⟨0,19,[Cg (s+x),Cg ((c:Int)+1),x],[Cg ((c:Int)+1),Cg (s+x)],[],395,39⟩⟩],[l],o⟩:=by
   cases d with
   | first a=>exact ⟨18,by decide,by kernel_rfl⟩
   | more a=>exact ⟨19,by decide,by kernel_rfl⟩
  obtain ⟨e,f,qa⟩:=qa;rw [hw] at qa;exact .to (.go qa (.go (n:=4) (b:=⟨0,[⟨2,none,⟨1,6,[1],[],[],399,39⟩⟩,⟨1,none,⟨0,21,[Cg (s+x),((c+1:Nat):Int),x],[],[],397,39⟩⟩],[l],o++[Cg ((Cg (s+x)).tdiv ((c+1:Nat):Int))]⟩) (by kernel_rfl) (SA l (c+1) (Cg (s+x)) (.more x) _ (by simp at hc;omega)))) (by simp [bm]) (by simp;omega)
theorem aD (l:List Int) (a:l.length≤1000):zk Wq (g0 1 1 [l]) (bm 0 0 l) (23*l.length+30):=
 .to (.go (n:=12) (b:=⟨0,[⟨2,none,⟨1,6,[1],[],[],399,39⟩⟩,⟨1,none,⟨0,6,[0,((0:Nat):Int),0],[],[],397,39⟩⟩],[l],[]⟩) (by kernel_rfl) (SA l 0 0 (.first 0) [] (by omega))) (by simp) (by omega)
end Go.Y
namespace Go.Y
open Go.vc Go.hd
theorem Ih {n:Int}(h:-9223372036854775808≤n∧n≤9223372036854775807):i64 n=some n:=if_pos h
theorem Hb {α β:Type}{x:α}{f:α→Option β}:Option.bind (some x) f=f x:=rfl
theorem mj {α:Type}{l:List α}{i:Nat}:at_ l (i:Int)=l[i]?:=by simp [at_]
theorem Om {α:Type}{l:List α}{z:Int}(h:0≤z):at_ l z=l[z.toNat]?:=if_pos h
theorem ky {n:Int}(h:-9223372036854775808≤n∧n≤9223372036854775807):Cg n=n:=by simp only [Cg,IntKind.wrap_i64];omega
structure Zh (l:List Int) (live:Int) (ws:List Int):Prop where
 wj:8≤l.length
 fb:l.length≤400
 live:live=ws.length
 le:ws.length≤l.length
 take:l.take ws.length=ws
theorem Zh.get {l ws:List Int}{live v:Int}{k:Nat}(h:Zh l live ws) (a:ws[k]?=some v):at_ l (k:Int)=some v:=by
 rw [mj];rw [← h.take,List.getElem?_take] at a;split at a
 ·exact a
 ·cases a
theorem Zh.set {l ws:List Int}{live v:Int}{k:Nat}(h:Zh l live ws):Zh (l.set k v) live (ws.set k v) where
 wj:=by simpa using h.wj
 fb:=by simpa using h.fb
 live:=by simpa using h.live
 le:=by simpa using h.le
 take:=by
  rw [List.length_set,List.take_set,h.take]
theorem TA {l ws:List Int}{live:Int}{k:Nat}(h:Zh l live ws) (c:8≤k) (d:k≤400) (b:ws.length≤k):∃ a,Mp l live 8 400 (k:Int)=some (a,live,8,400)∧Zh a live ws∧a.length=k:=by
 have hc:cut l 0 live=some ws:=by
  unfold cut;have:=h.le;have:=h.live;rw [if_pos (by omega)];rw [h.live];simp [h.take]
 have hm:Rk (k:Int)=some k:=by
  unfold Rk;rw [if_pos (by omega)];simp
 have e:So (List.replicate k (0:Int)) ws=ws++List.replicate (k - ws.length) 0:=by
  simp [So,List.take_of_length_le b]
 refine ⟨_,by rw [Mp,hm,Hb,hc,Hb],?_,?_⟩
 ·rw [e];exact ⟨by simp;omega,by simp;omega,h.live,by simp,by simp⟩
 ·rw [e];simp;omega
theorem UA {l ws:List Int}{live v:Int}(h:Zh l live ws) (hw:ws.length<400):∃ f,Up l live 8 400 v=some (true,f,live+1,8,400)∧Zh f (live+1) (ws++[v]):=by
 have g:=h.live;have hle:=h.le;have j:=h.wj;have m:=h.fb;have fin:∀ a,Zh a live ws→ws.length<a.length→xp v live 8 400 a=some (true,a.set live.toNat v,live+1,8,400)∧Zh (a.set live.toNat v) (live+1) (ws++[v]):=by
  intro a b d;have i:at_ a live=some a[ws.length]:=by
   rw [g,mj];exact List.getElem?_eq_getElem d
  refine ⟨by rw [xp,i,Hb,Ih (by omega),Hb],?_⟩;have e:live.toNat=ws.length:=by omega
  rw [e];refine ⟨by simpa using b.wj,by simpa using b.fb,by simp [g],by simp;omega,?_⟩;rw [List.length_append,List.length_singleton,List.take_succ_eq_append_getElem (by simpa using d)];simp [List.take_set,b.take,List.set_eq_of_length_le]
 rw [Up,if_neg (by omega),Ct];by_cases c:live=(l.length:Int)
 ·rw [if_pos c,Ih (by omega),Hb];obtain ⟨a,qa,b,d⟩:=TA (k:=min (2*l.length) 400) h (by omega) (by omega) (by omega);have e:min (2*(l.length:Int)) 400=((min (2*l.length) 400:Nat):Int):=by omega
  rw [e,qa,Hb];obtain ⟨f1,f2⟩:=fin a b (by omega);exact ⟨_,f1,f2⟩
 ·rw [if_neg c];obtain ⟨f1,f2⟩:=fin l h (by omega);exact ⟨_,f1,f2⟩
theorem Tx {l ws:List Int}{live s bx t v:Int}(h:Zh l live ws) (hw:ws.length<400):∃ a,ck s bx t l live 8 400 v=some (s,bx,t,a,live+1,8,400)∧Zh a (live+1) (ws++[v]):=by
 obtain ⟨a,k1,b⟩:=UA (v:=v) h hw;exact ⟨a,by rw [ck,k1,Hb];rfl,b⟩
theorem Ux {l ws vs:List Int}{live:Int}(h:Zh l live (ws++vs)):∃ f,Eo l live 8 400 (vs.length:Int)=some (f,live - vs.length,8,400)∧Zh f (live - vs.length) ws:=by
 have g:=h.live;have hle:=h.le;have i:=h.wj;have j:=h.fb;rw [List.length_append] at g hle;have m:quo (l.length:Int) 4=some ((l.length / 4:Nat):Int):=by
  rw [quo,if_neg (by omega),ky (by rw [Int.tdiv_eq_ediv_of_nonneg (by omega)];omega),Int.tdiv_eq_ediv_of_nonneg (by omega)];rfl
 have n:quo (l.length:Int) 2=some ((l.length / 2:Nat):Int):=by
  rw [quo,if_neg (by omega),ky (by rw [Int.tdiv_eq_ediv_of_nonneg (by omega)];omega),Int.tdiv_eq_ediv_of_nonneg (by omega)];rfl
 have a:Zh l (live - vs.length) ws:=⟨i,j,by omega,by omega,by
  have:=h.take;have e:(ws++vs).take ws.length=ws:=by simp
  rw [← e,← this,List.take_take];simp⟩
 rw [Eo,Ih (by omega),Hb,m,Hb];have small:∀ b,b=false→Dp l 8 400 (live - vs.length) b=some (l,live - vs.length,8,400):=by
  intro b o;subst o;rfl
 by_cases c:live - vs.length≤((l.length / 4:Nat):Int)
 ·rw [if_pos c];by_cases d:(8:Int)<l.length
  ·rw [decide_eq_true d,Dp,if_pos rfl,n,Hb];obtain ⟨p,qa,q,r⟩:=TA (k:=max (l.length / 2) 8) a (by omega) (by omega) (by omega);have e:max ((l.length / 2:Nat):Int) 8=((max (l.length / 2) 8:Nat):Int):=by omega
   rw [e,qa,Hb];exact ⟨p,rfl,q⟩
  ·rw [decide_eq_false d];exact ⟨l,small _ rfl,a⟩
 ·rw [if_neg c];exact ⟨l,small _ rfl,a⟩
theorem KH {l ws:List Int}{live s bx t v:Int}(h:Zh l live (ws++[v])):∃ a,ek s bx t l live 8 400=some (v,s,bx,t,a,live - 1,8,400)∧Zh a (live - 1) ws:=by
 have b:=h.live;have hle:=h.le;have f:=h.fb;rw [List.length_append,List.length_singleton] at b hle;obtain ⟨a,e,c⟩:=Ux (vs:=[v]) h;refine ⟨a,?_,c⟩;have d:at_ l (live - 1)=some v:=by
  have e:live - 1=(ws.length:Int):=by omega
  rw [e];exact h.get (by simp)
 rw [ek,Ml,Hb,Ih (by omega),Hb,d,Hb];rw [show ((([v]:List Int).length:Nat):Int)=1 from rfl] at e;rw [e,Hb]
def mg:List Fr→List Int
 | []=>[]
 | f::a=>mg a++(f.loc++f.st.reverse)
def gm:List Fr→List Ic
 | []=>[]
 | f::a=>gm a++[⟨f.u,f.Vc,(mg a).length⟩]
def Sd.ws (a:Sd):List Int:=mg a.low++(a.loc++a.st.reverse)
def Sd.Xj (a:Sd):List Ic:=gm a.low++[⟨a.u,a.Vc,(mg a.low).length⟩]
def Fk (M:Xc):Bool:=M.Jd.all fun u=>decide (0≤u.Params) && decide (u.Params≤u.pd.length) && decide (u.pd.length≤300) && decide (u.Code.length≤4000) && u.Code.all fun i=>decide (0≤i.A∧i.A≤4000∧i.Op≠26)
structure ia (Wb:List (List Int)) (a:Sd) (Wc:List Int) (fr:List Ic) (l:List Int) (live:Int):Prop where
 fr:fr=a.Xj
 st:Zh l live a.ws
 wr:a.wr+a.ws.length=400
 bg:a.fr+(a.low.length+1)=40
 Xk:Wc.length=Wb.length
 jm:a.ins.length=Wb.length
 Wc:∀ (i:Nat) (f:List Int),Wb[i]?=some f→∃ t:Nat,Wc[i]?=some (t:Int)∧t≤f.length∧a.ins[i]?=some (f.drop t)
 Tk:∀ f ∈ Wb,f.length≤65536
theorem Yp:∀ (l:List Fr),(gm l).length=l.length
 | []=>rfl
 | f::a=>by simp [gm,Yp a]
theorem Vx (a:Sd):a.Xj.length=a.low.length+1:=by simp [Sd.Xj,Yp]
theorem Nu (a:Sd):at_ a.Xj ((a.low.length:Nat):Int)=some ⟨a.u,a.Vc,(mg a.low).length⟩:=by
 rw [mj,Sd.Xj];simp [Yp]
theorem Wx (a:Sd) (x:Ic):a.Xj.set a.low.length x=gm a.low++[x]:=by
 rw [Sd.Xj,List.set_append_right _ _ (by rw [Yp];exact Nat.le_refl _)];simp [Yp]
theorem Sp {M:Xc}{n:Nat}{u:gf}(h:Fk M=true) (hu:M.Jd[n]?=some u):(0≤u.Params∧u.Params≤u.pd.length∧u.pd.length≤300∧u.Code.length≤4000)∧∀ (k:Nat) (i:Jc),u.Code[k]?=some i→0≤i.A∧i.A≤4000∧i.Op≠26:=by
 have:=List.all_eq_true.1 h u (List.mem_of_getElem? hu);simp only [Bool.and_eq_true,decide_eq_true_eq,List.all_eq_true] at this;obtain ⟨⟨⟨⟨a,b⟩,c⟩,d⟩,e⟩:=this;exact ⟨⟨a,b,c,d⟩,fun k i fb=>e i (List.mem_of_getElem? fb)⟩
theorem Kt {M:Xc}{a:Sd}{i:Jc}(h:a.code M=some i):∃ u,M.Jd[a.u]?=some u∧u.Code[a.Vc]?=some i:=by
 unfold Sd.code at h;exact Option.bind_eq_some_iff.1 h
def Sd.stuck (a:Sd) (i:Jc):Bool:=decide (i.Op=27) && decide (a.ins[i.A.toNat]?=some [])
theorem nr {M:Xc}{Wb sent:List (List Int)}{a:Sd}{Wc:List Int}{fr:List Ic}{l:List Int}{live s bx:Int}{i:Jc}(j:Fk M=true) (b:ia Wb a Wc fr l live) (k:s≤3) (hc:a.code M=some i) (m:i.Op=27→i.A.toNat<a.ins.length) :
  sn M s bx 0 Wb Wc sent fr=some (if a.stuck i then 3 else 1,if a.stuck i then i.A else 0,0,Wb,Wc,sent,fr):=by
 obtain ⟨u,hu,fb⟩:=Kt hc;obtain ⟨⟨r,v,w,x⟩,n⟩:=Sp j hu;have d:=n _ _ fb;have y:=b.bg;have g:=b.fr;have e:((fr.length:Int) - 1)=((a.low.length:Nat):Int):=by rw [g,Vx];omega
 have h:at_ fr ((a.low.length:Nat):Int)=some ⟨a.u,a.Vc,(mg a.low).length⟩:=by rw [g];exact Nu a
 rw [sn,if_pos k,e,Ih (by omega),Hb,h,Hb,Dt,h,Hb];rw [show at_ M.Jd ((a.u:Nat):Int)=some u by rw [mj,hu],Hb];rw [show at_ u.Code ((a.Vc:Nat):Int)=some i by rw [mj,fb],Hb];have hw:dr s bx 0 Wb Wc sent i=some (decide ((if a.stuck i then (3:Int) else 1)≠1),if a.stuck i then 3 else 1,if a.stuck i then i.A else 0,0,Wb,Wc,sent):=by
  rw [dr,if_neg d.2.2];by_cases c:i.Op=27
  ·rw [if_pos c];have f:=m c;rw [b.jm] at f;obtain ⟨t,o,z,p⟩:=b.Wc i.A.toNat _ (List.getElem?_eq_getElem f);have B:i.A=((i.A.toNat:Nat):Int):=by omega
   have q:cr Wb Wc sent i.A=some (a.stuck i,Wb,Wc,sent):=by
    rw [cr,show at_ Wb i.A=some Wb[i.A.toNat] from (Om d.1).trans (List.getElem?_eq_getElem f),Hb,show at_ Wc i.A=some (t:Int) from (Om d.1).trans o,Hb];have:decide ((t:Int)=(Wb[i.A.toNat].length:Int))=a.stuck i:=by
     rw [Sd.stuck,p,decide_eq_true c,Bool.true_and];apply decide_eq_decide.2;simp only [Option.some.injEq,List.drop_eq_nil_iff];omega
    rw [this]
   rw [q,Hb];simp only [Lq,ct,Kq];cases a.stuck i<;>rfl
  ·rw [if_neg c];have:a.stuck i=false:=by simp [Sd.stuck,c]
   rw [this];rfl
 rw [hw,Hb]
end Go.Y
namespace Go.Y
open Go.vc Go.hd
theorem Tp (p:Prop) [Decidable p]:cl (decide p)=some (Sm p):=by
 unfold cl Sm;by_cases h:p<;>simp [h]
theorem LH {op a b z:Int}(h:two op a b=some z):rr op a b=some z∧(op=11∨op=12→b≠0):=by
 unfold two at h;unfold rr;by_cases Yi:op=8
 ·subst Yi;exact ⟨by simpa using h,by omega⟩
 by_cases c9:op=9
 ·subst c9;exact ⟨by simpa using h,by omega⟩
 by_cases Oj:op=10
 ·subst Oj;exact ⟨by simpa using h,by omega⟩
 rw [if_neg Yi,if_neg c9,if_neg Oj] at h ⊢;by_cases g:op=11
 ·subst g;simp only [if_true] at h ⊢;by_cases d:b=0
  ·rw [if_pos d] at h;cases h
  ·rw [if_neg d] at h;refine ⟨?_,fun _=>d⟩;obtain rfl:=Option.some.inj h;rw [decide_true,so,if_pos rfl];have gen:∀ q,q=false→en 11 a b q=some (Cg (a.tdiv b)):=by
    intro q i;subst i;rw [en,if_neg (by decide),if_pos rfl,quo,if_neg d,Hb]
   by_cases e:a=-9223372036854775808
   ·rw [if_pos e];by_cases f:b=-1
    ·subst e;subst f;decide +kernel
    ·rw [decide_eq_false f];exact gen _ rfl
   ·rw [if_neg e];exact gen _ rfl
 by_cases c12:op=12
 ·subst c12;simp only [if_true] at h ⊢;by_cases d:b=0
  ·simp [d] at h
  ·simp only [if_neg d] at h;refine ⟨?_,fun _=>d⟩;have j:a.tmod b=z:=by simpa using h
   subst j;rw [if_neg (by decide),decide_true,so,if_pos rfl];have gen:∀ q,q=false→en 12 a b q=some (a.tmod b):=by
    intro q i;subst i;rw [en,if_neg (by decide),if_neg (by decide),ov,if_neg d,Hb]
   by_cases e:a=-9223372036854775808
   ·rw [if_pos e];by_cases f:b=-1
    ·subst e;subst f;decide +kernel
    ·rw [decide_eq_false f];exact gen _ rfl
   ·rw [if_neg e];exact gen _ rfl
 rw [if_neg g,if_neg c12] at h;refine ⟨?_,fun k=>by omega⟩;rw [if_neg g,decide_eq_false c12,so,if_neg (by decide)];by_cases c:op=13
 ·rw [if_pos c] at h ⊢;rw [Tp,Hb];exact h
 rw [if_neg c] at h ⊢;clear c;by_cases c:op=14
 ·rw [if_pos c] at h ⊢;rw [Tp,Hb];exact h
 rw [if_neg c] at h ⊢;clear c;by_cases c:op=15
 ·rw [if_pos c] at h ⊢;rw [Tp,Hb];exact h
 rw [if_neg c] at h ⊢;clear c;by_cases c:op=16
 ·rw [if_pos c] at h ⊢;rw [Tp,Hb];exact h
 rw [if_neg c] at h ⊢;clear c;by_cases c:op=17
 ·rw [if_pos c] at h ⊢;rw [Tp,Hb];exact h
 rw [if_neg c] at h;cases h
section
variable {M:Xc}{Wb sent:List (List Int)}{a b:Sd}{Wc:List Int}{fr:List Ic}{l:List Int}{live s bx cst:Int}
theorem ia.to {a':Sd}{V:List Ic}{c:List Int}{d:Int}(b:ia Wb a Wc fr l live) (e:V=a'.Xj) (f:Zh c d a'.ws) (hw:a'.wr+a'.ws.length=400) (g:a'.fr+(a'.low.length+1)=40) (fb:a'.ins=a.ins):ia Wb a' Wc V c d where
 fr:=e
 st:=f
 wr:=hw
 bg:=g
 Xk:=b.Xk
 jm:=by rw [fb];exact b.jm
 Wc:=by rw [fb];exact b.Wc
 Tk:=b.Tk
theorem xB (a:Sd) (v:Int) (k:Nat):({ a with st:=v::a.st,wr:=k }:Sd).ws=a.ws++[v]:=by simp [Sd.ws]
theorem ia.push {v:Int}(c:ia Wb a Wc fr l live) (h:a.push v=some b) (s bx t:Int):∃ d,ck s bx t l live 8 400 v=some (s,bx,t,d,live+1,8,400)∧ia Wb b Wc fr d (live+1)∧b.out=a.out:=by
 unfold Sd.push at h;have g:=c.wr;split at h
 ·cases h
 ·rename_i k i;obtain rfl:=Option.some.inj h;obtain ⟨d,e,f⟩:=Tx (s:=s) (bx:=bx) (t:=t) (v:=v) c.st (by omega);refine ⟨d,e,c.to (a':={ a with st:=v::a.st,wr:=k }) ?_ ?_ ?_ ?_ rfl,rfl⟩
  ·exact c.fr
  ·rw [xB];exact f
  ·rw [xB,List.length_append,List.length_singleton];simp only;omega
  ·exact c.bg
theorem ia.pop {v:Int}{r:List Int}(b:ia Wb a Wc fr l live) (h:a.st=v::r) (s bx t:Int):∃ c,ek s bx t l live 8 400=some (v,s,bx,t,c,live - 1,8,400)∧ia Wb { a with st:=r,wr:=a.wr+1 } Wc fr c (live - 1):=by
 have g:a.ws=({ a with st:=r,wr:=a.wr+1 }:Sd).ws++[v]:=by simp [Sd.ws,h]
 have f:=b.st;have d:=b.wr;rw [g] at f d;obtain ⟨c,e,i⟩:=KH (s:=s) (bx:=bx) (t:=t) f;refine ⟨c,e,b.to b.fr i ?_ b.bg rfl⟩;rw [List.length_append,List.length_singleton] at d;simp only at d ⊢;omega
theorem AI (a:Fk M=true){i:Jc}(c:ia Wb b Wc fr l live) (d:s≤3) (hc:b.code M=some i) (e:i.Op=27→i.A.toNat<b.ins.length) :
  dj M s bx 0 b.out Wb sent Wc cst fr live 8 400 l=some (true,if b.stuck i then 3 else 1,if b.stuck i then i.A else 0,0,b.out,Wb,Wc,sent,cst,fr,l,live,8,400):=by
 rw [dj,nr a c d hc e,Hb]
theorem ia.Vc (b:ia Wb a Wc fr l live) (p:Nat):ia Wb { a with Vc:=p } Wc (fr.set a.low.length ⟨a.u,p,(mg a.low).length⟩) l live :=
 b.to (by rw [b.fr,Wx];rfl) b.st b.wr b.bg rfl
theorem VA:∀ (n:Nat) (j:Int) (k:Nat) (l ws:List Int) (live s bx t i72:Int) (a:List Ic),Zh l live ws→ws.length+n≤400→0≤j→i72=j+n→i72≤1000→n<k →
  ∃ b,ko a i72 k j s bx t live 8 400 l=some (s,bx,t,a,b,live+n,8,400)∧Zh b (live+n) (ws++List.replicate n 0)
 | 0,j,k+1,l,ws,live,s,bx,t,i72,a,c,f,g,h,d,i=>by
  rw [ko,if_neg (by omega)];exact ⟨l,by simp,by simpa using c⟩
 | n+1,j,k+1,l,ws,live,s,bx,t,i72,a,c,f,g,h,d,i=>by
  obtain ⟨b,e,o⟩:=Tx (s:=s) (bx:=bx) (t:=t) (v:=0) c (by omega);obtain ⟨p,q,m⟩:=VA n (j+1) k b (ws++[0]) (live+1) s bx t i72 a o (by simp;omega) (by omega) (by omega) d (by omega);rw [ko,if_pos (by omega),e,Hb,Ih (by omega),Hb];refine ⟨p,?_,?_⟩
  ·rw [q];have:live+1+(n:Int)=live+((n+1:Nat):Int):=by omega
   rw [this]
  ·have:live+1+(n:Int)=live+((n+1:Nat):Int):=by omega
   rw [this] at m;rw [List.replicate_succ];simpa using m
 | n,j,0,l,ws,live,s,bx,t,i72,a,c,f,g,h,d,i=>by omega
end
end Go.Y
namespace Go.Y
open Go.vc Go.hd
section
variable {M:Xc}{Wb sent:List (List Int)}{a b:Sd}{Wc:List Int}{fr:List Ic}{l:List Int}{live s bx cst:Int}
theorem Py (a:Sd):((a.Xj.length:Int) - 1)=((a.low.length:Nat):Int):=by rw [Vx];omega
def Im (M:Xc) (a:Sd) (i:Jc):Option Sd :=
 if i.Op=5 then (match a.st with | _::r=>some { a with st:=r,wr:=a.wr+1 } | []=>none)
 else if i.Op=6 then (match a.st with | v::r=>some { a with st:=Cg (-v)::r } | []=>none)
 else Mn M a i
set_option maxHeartbeats 1000000 in
theorem tG (Z:Fk M=true) (Q:ia Wb a Wc fr l live) (ul:s≤3) (wl:a.out.length≤100000){i:Jc}(hc:a.code M=some i) (d:Im M { a with Vc:=a.Vc+1 } i=some b){i':Jc}(am:b.code M=some i') (em:i'.Op=27→i'.A.toNat<b.ins.length) :
  ∃ C V n D,tn M s bx 0 a.out Wb Wc sent cst fr l live 8 400=some (true,(if b.stuck i' then 3 else 1),(if b.stuck i' then i'.A else 0),0,b.out,Wb,C,sent,cst,V,n,D,8,400)∧ia Wb b C V n D:=by
 obtain ⟨u,hu,fb⟩:=Kt hc;obtain ⟨⟨pp,sp,up,wp⟩,hm⟩:=Sp Z hu;have gc:=hm _ _ fb;have eq:a.Vc<u.Code.length:=(List.getElem?_eq_some_iff.1 fb).1;have Eq:=Q.bg;have dg:a.stuck i=false∧(i.Op=27→i.A.toNat<a.ins.length):=by
  by_cases c:i.Op=27
  ·have R:=d;unfold Im Mn at R;rw [if_neg (by omega),if_neg (by omega),if_neg (by omega),if_neg (by omega),if_neg (by omega),if_neg (by omega),if_neg (by omega),if_neg (by omega),if_neg (by omega),if_neg (by omega),if_neg (by omega),if_pos c] at R;simp only at R;split at R
   ·rename_i x r S;refine ⟨by simp [Sd.stuck,S],fun _=>(List.getElem?_eq_some_iff.1 S).1⟩
   ·cases R
  ·exact ⟨by simp [Sd.stuck,c],fun lm=>absurd lm c⟩
 have id:=nr (sent:=sent) (bx:=bx) Z Q ul hc dg.2;simp only [dg.1,Bool.false_eq_true,if_false] at id;have T:=Q.fr;have rg:((fr.length:Int) - 1)=((a.low.length:Nat):Int):=by rw [T];exact Py a
 have md:at_ fr ((a.low.length:Nat):Int)=some ⟨a.u,a.Vc,(mg a.low).length⟩:=by rw [T];exact Nu a
 have bi:i64 ((a.Vc:Int)+1)=some (((a.Vc+1:Nat):Int)):=Ih (by omega);have g:=Q.Vc (a.Vc+1);have G:fr.set a.low.length ⟨a.u,((a.Vc+1:Nat):Int),(mg a.low).length⟩=gm a.low++[⟨a.u,((a.Vc+1:Nat):Int),(mg a.low).length⟩]:=by rw [T,Wx]
 rw [G] at g;generalize or:gm a.low++[⟨a.u,((a.Vc+1:Nat):Int),(mg a.low).length⟩]=o at g G;have pm:at_ o ((a.low.length:Nat):Int)=some ⟨a.u,((a.Vc+1:Nat):Int),(mg a.low).length⟩:=by
  rw [g.fr];exact Nu { a with Vc:=a.Vc+1 }
 have sm:∀ p:Nat,fr.set a.low.length ⟨a.u,(p:Int),(mg a.low).length⟩=({ a with Vc:=p }:Sd).Xj:=by
  intro p;rw [T];exact Wx a _
 rw [tn,id,Hb,if_neg (by simp)];simp only [rg];rw [Ih (by omega),Hb,md,Hb,Ht];simp only [md,Hb,show at_ M.Jd ((a.u:Nat):Int)=some u by rw [mj,hu],show at_ u.Code ((a.Vc:Nat):Int)=some i by rw [mj,fb],bi,Int.toNat_natCast,G];clear id md bi rg T Q hc hu fb;generalize H:({ a with Vc:=a.Vc+1 }:Sd)=O at g d;have Nm:O.out=a.out:=by rw [← H]
 have K:O.low=a.low:=by rw [← H]
 have qr:O.loc=a.loc:=by rw [← H]
 have Fr:O.Vc=a.Vc+1:=by rw [← H]
 have Or:O.u=a.u:=by rw [← H]
 rw [← Nm] at wl ⊢;have cs:O.ws.length≤400:=by have:=g.wr;omega
 have fin:∀ {b':Sd}{C:List Int}{V:List Ic}{n:List Int}{D:Int},ia Wb b' C V n D→b'=b→b'.out=b.out→∃ ci ii N li,dj M 1 0 0 b'.out Wb sent C cst V D 8 400 n=some (true,(if b.stuck i' then 3 else 1),(if b.stuck i' then i'.A else 0),0,b.out,Wb,ci,sent,cst,ii,N,li,8,400)∧ia Wb b ci ii N li:=by
  intro b' C V n D k e _;subst e;exact ⟨C,V,n,D,AI Z k (by decide) am em,k⟩
 unfold Im at d;by_cases c5:i.Op=5
 ·rw [if_pos c5] at d;rw [if_neg (by omega),if_neg (by omega),if_neg (by omega),if_neg (by omega),if_pos c5];cases m:O.st with
  | nil=>rw [m] at d; cases d
  | cons v r =>
   rw [m] at d;obtain ⟨n,e,k⟩:=g.pop m 1 0 0;rw [e,Hb];exact fin (b':={ O with st:=r,wr:=O.wr+1 }) k (Option.some.inj d) (by rw [← Option.some.inj d])
 rw [if_neg c5] at d;by_cases zd:i.Op=6
 ·rw [if_pos zd] at d;rw [if_neg (by omega),if_neg (by omega),if_neg (by omega),if_neg (by omega),if_neg c5,if_pos zd];cases m:O.st with
  | nil=>rw [m] at d; cases d
  | cons v r =>
   rw [m] at d;obtain ⟨n,e,k⟩:=g.pop m 1 0 0;obtain ⟨N,F,U,w⟩:=k.push (v:=Cg (0 - v)) (b:={ O with st:=Cg (0 - v)::r }) rfl 1 0 0;rw [e,Hb];simp only;rw [F,Hb];exact fin (b':={ O with st:=Cg (0 - v)::r }) U (by rw [← Option.some.inj d,Int.zero_sub]) (by rw [← Option.some.inj d])
 rw [if_neg zd] at d;unfold Mn at d;by_cases c:i.Op=1
 ·rw [if_pos c] at d ⊢;obtain ⟨n,e,k,w⟩:=g.push d 1 0 0;rw [e,Hb];rw [← w];exact fin k rfl rfl
 rw [if_neg c] at d ⊢;by_cases c:i.Op=2
 ·rw [if_pos c] at d ⊢;obtain ⟨n,e,k,w⟩:=g.push d 1 0 0;rw [e,Hb];rw [← w];exact fin k rfl rfl
 rw [if_neg c] at d ⊢;by_cases c:i.Op=3
 ·rw [if_pos c] at d ⊢;obtain ⟨v,pi,fn⟩:=Option.bind_eq_some_iff.1 d;obtain ⟨n,e,k,w⟩:=g.push fn 1 0 0;have rd:i.A.toNat<O.loc.length:=(List.getElem?_eq_some_iff.1 pi).1;have Pi:O.ws[(mg a.low).length+i.A.toNat]?=some v:=by
   rw [Sd.ws,K,List.getElem?_append_right (by omega),Nat.add_sub_cancel_left,List.getElem?_append_left rd];exact pi
  have wd:((mg a.low).length:Int)+i.A=(((mg a.low).length+i.A.toNat:Nat):Int):=by omega
  have B:(mg a.low).length+i.A.toNat<O.ws.length:=(List.getElem?_eq_some_iff.1 Pi).1;rw [Ih (by omega),Hb,wd,g.st.get Pi,Hb,e,Hb];simp only [Ft,Int.toNat_natCast,G];rw [← w];exact fin k rfl rfl
 rw [if_neg c] at d ⊢;have kk:i.A=((i.A.toNat:Nat):Int):=by omega
 have mk:fr.set a.low.length ⟨a.u,i.A,(mg a.low).length⟩=({ O with Vc:=i.A.toNat }:Sd).Xj:=by
  have:=sm i.A.toNat
  rw [← kk] at this;rw [this,← H]
 by_cases c:i.Op=4
 ·rw [if_pos c] at d ⊢;cases m:O.st with
  | nil=>rw [m] at d; cases d
  | cons v r =>
   rw [m] at d;simp only at d;split at d
   ·rename_i rd;obtain rfl:=Option.some.inj d;obtain ⟨n,e,k⟩:=g.pop m 1 0 0;have W:({ O with st:=r,wr:=O.wr+1 }:Sd).ws=mg a.low++(O.loc++r.reverse):=by simp only [Sd.ws,K]
    have hlen:(mg a.low).length+i.A.toNat<({ O with st:=r,wr:=O.wr+1 }:Sd).ws.length:=by rw [W];simp;omega
    have ds:=k.st.le;have wd:((mg a.low).length:Int)+i.A=(((mg a.low).length+i.A.toNat:Nat):Int):=by omega
    have B:(mg a.low).length+i.A.toNat<O.ws.length:=by rw [Sd.ws,K];simp [m];omega
    rw [e,Hb,Ih (by omega),Hb,wd];simp only [mj,Int.toNat_natCast];rw [List.getElem?_eq_getElem (by omega),Hb];simp only [Gt,Int.toNat_natCast,G];refine fin (b':={ O with st:=r,wr:=O.wr+1,loc:=O.loc.set i.A.toNat v }) (k.to k.fr ?_ ?_ k.bg rfl) rfl rfl
    ·have F:({ O with st:=r,wr:=O.wr+1,loc:=O.loc.set i.A.toNat v }:Sd).ws=({ O with st:=r,wr:=O.wr+1 }:Sd).ws.set ((mg a.low).length+i.A.toNat) v:=by
      rw [W,List.set_append_right _ _ (by omega),Nat.add_sub_cancel_left,List.set_append_left _ _ rd];simp only [Sd.ws,K]
     rw [F];exact k.st.set
    ·have:=k.wr;simp only [Sd.ws,List.length_append,List.length_set] at this ⊢;exact this
   ·cases d
 rw [if_neg c] at d ⊢;by_cases es:i.Op=5∨i.Op=6∨i.Op=7
 ·rw [if_neg (by omega),if_neg (by omega),if_neg (by omega),if_neg (by omega),if_neg (by omega),if_neg (by omega),if_neg (by omega)] at d;cases d
 rw [if_neg (by omega),if_neg (by omega),if_neg (by omega)];by_cases c:8≤i.Op∧i.Op≤18
 ·rw [if_pos c] at d;rw [if_pos c.1,if_pos (by omega)]
  match m:O.st,d with
  | [],d=>cases d
  | [y],d=>cases d
  | y::x::r,d =>
   obtain ⟨z,on,ok⟩:=Option.bind_eq_some_iff.1 d;obtain ⟨un,dl⟩:=LH on;obtain ⟨n,e,k⟩:=g.pop m 1 0 0;obtain ⟨N,F,U⟩:=k.pop (v:=x) (r:=r) rfl 1 0 0;obtain ⟨Fd,Id,be,w⟩:=U.push (v:=z) (b:={ O with st:=z::r,wr:=O.wr+1 }) rfl 1 0 0;rw [e,Hb,F,Hb];have ce:∀ q,q=false→lo M O.out cst (1,0,0,Wb,Wc,sent,fr) (a.low.length:Int) ⟨a.u,a.Vc,(mg a.low).length⟩ i ((a.Vc+1:Nat):Int) (y,1,0,0,n,live - 1,8,400) (x,1,0,0,N,live - 1 - 1,8,400) q=dj M 1 0 0 O.out Wb sent Wc cst o (live - 1 - 1+1) 8 400 Fd:=by
    intro q wn;subst wn;rw [lo,if_neg (by decide)];simp only [un,Hb,Id,Int.toNat_natCast,G]
   have ge:=fin (b':={ O with st:=z::r,wr:=O.wr+1 }) be (Option.some.inj ok) (by rw [← Option.some.inj ok]);by_cases he:i.Op=11
   ·rw [if_pos he,ce _ (decide_eq_false (dl (.inl he)))];exact ge
   ·rw [if_neg he];by_cases c12:i.Op=12
    ·rw [if_pos c12,ce _ (decide_eq_false (dl (.inr c12)))];exact ge
    ·rw [if_neg c12,ce _ rfl];exact ge
 rw [if_neg c] at d;by_cases c21:i.Op<21
 ·rw [if_neg (by omega),if_neg (by omega),if_neg (by omega),if_neg (by omega),if_neg (by omega),if_neg (by omega)] at d;cases d
 rw [if_pos (by omega),if_neg (by omega)];clear c;by_cases c:i.Op=21
 ·rw [if_pos c] at d ⊢;obtain rfl:=Option.some.inj d;refine fin (b':={ O with Vc:=i.A.toNat }) (g.to mk g.st g.wr g.bg rfl) rfl rfl
 rw [if_neg c] at d ⊢;by_cases c:i.Op=22
 ·rw [if_pos c] at d ⊢;cases m:O.st with
  | nil=>rw [m] at d; cases d
  | cons v r =>
   rw [m] at d;obtain ⟨n,e,k⟩:=g.pop m 1 0 0;rw [e,Hb];have P:=Option.some.inj d;by_cases Sg:v=0
   ·rw [if_pos Sg] at P;rw [if_pos Sg];exact fin (b':={ O with st:=r,wr:=O.wr+1,Vc:=i.A.toNat }) (k.to mk k.st k.wr k.bg rfl) P (by rw [← P])
   ·rw [if_neg Sg] at P;rw [if_neg Sg];exact fin (b':={ O with st:=r,wr:=O.wr+1 }) k (by rw [← P]) (by rw [← P])
 rw [if_neg c] at d ⊢;by_cases Fn:i.Op=26
 ·rw [if_neg (by omega),if_neg (by omega),if_neg (by omega),if_neg (by omega)] at d;cases d
 rw [if_neg Fn];by_cases c:i.Op=27
 ·rw [if_neg (by omega),if_neg (by omega),if_pos c] at d;rw [if_pos c];split at d
  ·rename_i x r S;have B:i.A.toNat<Wb.length:=by rw [← g.jm];exact (List.getElem?_eq_some_iff.1 S).1
   obtain ⟨t,In,gs,el⟩:=g.Wc i.A.toNat _ (List.getElem?_eq_getElem B);rw [S] at el;have lc:Wb[i.A.toNat].drop t=x::r:=(Option.some.inj el).symm;have is:t<Wb[i.A.toNat].length:=by
    rcases Nat.lt_or_ge t Wb[i.A.toNat].length with h | h
    ·exact h
    ·rw [List.drop_eq_nil_of_le h] at lc;cases lc
   have ls:=g.Tk _ (List.getElem_mem B);have co:Wb[i.A.toNat][t]?=some x:=by
    have:=congrArg (·[0]?) lc;simpa [List.getElem?_drop] using this
   have nl:i.A.toNat<Wc.length:=by rw [g.Xk];exact B
   have U:ia Wb { O with ins:=O.ins.set i.A.toNat r } (Wc.set i.A.toNat ((t:Int)+1)) o l live:={
    fr:=g.fr
    st:=g.st
    wr:=g.wr
    bg:=g.bg
    Xk:=by simpa using g.Xk
    jm:=by simpa using g.jm
    Wc:=by
     intro j f rc;by_cases e:j=i.A.toNat
     ·subst e;rw [List.getElem?_eq_getElem B] at rc;obtain rfl:=Option.some.inj rc;refine ⟨t+1,by rw [List.getElem?_set_self nl];rfl,by omega,?_⟩;have go:i.A.toNat<O.ins.length:=by rw [g.jm];exact B
      simp only;rw [List.getElem?_set_self go,← List.drop_drop,lc];rfl
     ·obtain ⟨t',io,no,ro⟩:=g.Wc j f rc;refine ⟨t',?_,no,?_⟩
      ·rw [List.getElem?_set_ne (Ne.symm e)];exact io
      ·simp only;rw [List.getElem?_set_ne (Ne.symm e)];exact ro
    Tk:=g.Tk }
   obtain ⟨n,e,be,w⟩:=U.push d 1 0 0;have aa:ir Wb Wc sent i.A=some (x,Wb,Wc.set i.A.toNat ((t:Int)+1),sent):=by
    rw [ir,Om gc.1,In,Hb,Ih (by omega),Hb,Hb,Om gc.1,List.getElem?_set_self nl,Hb,Ih (by omega),Hb,Om gc.1,List.getElem?_eq_getElem B,Hb];rw [show (t:Int)+1 - 1=(t:Int) by omega,mj,co,Hb]
   rw [aa,Hb];simp only [rn,Hb,e];rw [show O.out=b.out from w.symm];exact fin be rfl rfl
  ·cases d
 rw [if_neg c];by_cases c28:i.Op=28
 ·rw [if_neg (by omega),if_neg (by omega),if_neg (by omega),if_pos c28] at d;rw [if_pos c28];cases m:O.st with
  | nil=>rw [m] at d; cases d
  | cons v r =>
   rw [m] at d;obtain ⟨n,e,k⟩:=g.pop m 1 0 0;rw [e,Hb];have Do:app O.out [v]=some (O.out++[v]):=by
    unfold app;rw [if_pos (by simp;omega)]
   simp only [Do,Hb,rn];exact fin (b':={ O with st:=r,wr:=O.wr+1,out:=O.out++[v] }) (k.to k.fr k.st k.wr k.bg rfl) (Option.some.inj d) (by rw [← Option.some.inj d])
 rw [if_neg c28];by_cases uj:i.Op=23
 ·rw [if_pos uj] at d;rw [er,if_pos uj];obtain ⟨xc,ol,d⟩:=Option.bind_eq_some_iff.1 d;obtain ⟨⟨Ja,Sa,yb,wb⟩,cc⟩:=Sp Z ol;split at d
  ·cases d
  ·rename_i f rc;split at d
   ·cases d
   ·rename_i ms;have d:=Option.some.inj d;have fd:=g.st.live;have os:=g.wr;have rs:xc.Params.toNat≤O.st.length:=by omega
    have us:xc.pd.length - xc.Params.toNat≤O.wr:=by omega
    have vs:O.st.length≤O.ws.length:=by simp [Sd.ws];omega
    have ne:=g.bg;have of:(o.length:Int)=((O.low.length+1:Nat):Int):=by rw [g.fr,Vx]
    obtain ⟨n,e,Go⟩:=VA (xc.pd.length - xc.Params.toNat) 0 ((((xc.pd.length:Int) - xc.Params - 0).toNat)+1) l O.ws live 1 0 0 ((xc.pd.length:Int) - xc.Params) (o++[⟨i.A,0,live - xc.Params⟩]) g.st (by omega) (by omega) (by omega) (by omega) (by omega);have xa:jr M 1 0 0 o l live 8 400 i.A=some (1,0,0,o++[⟨i.A,0,live - xc.Params⟩],n,live+((xc.pd.length - xc.Params.toNat:Nat):Int),8,400):=by
     rw [jr,Om gc.1,ol,Hb,Ml,Hb,Ih (by omega),Hb,Et,if_neg (by omega)];rw [show app o [(⟨i.A,0,live - xc.Params⟩:Ic)]=some (o++[⟨i.A,0,live - xc.Params⟩]) by unfold app;rw [if_pos (by simp;omega)],Hb,Ih (by omega),Hb];exact e
    rw [xa,Hb,Hb];have X:b.ws=O.ws++List.replicate (xc.pd.length - xc.Params.toNat) 0:=by
     rw [← d];simp only [Sd.ws,mg,List.reverse_nil,List.append_nil];have:O.st.reverse=(O.st.drop xc.Params.toNat).reverse++(O.st.take xc.Params.toNat).reverse:=by
      rw [← List.reverse_append,List.take_append_drop]
     rw [this];simp only [List.append_assoc]
    have wf:b.out=O.out:=by rw [← d]
    rw [← wf];refine fin (b':=b) (g.to ?_ ?_ ?_ ?_ ?_) rfl rfl
    ·rw [← d];simp only [Sd.Xj,gm,mg];rw [g.fr,Sd.Xj,← kk];have:((mg O.low++(O.loc++(List.drop xc.Params.toNat O.st).reverse)).length:Int)=live - xc.Params:=by
      rw [fd,Sd.ws];simp only [List.length_append,List.length_reverse,List.length_drop];omega
     rw [this];rfl
    ·rw [X];exact Go
    ·rw [X,← d];simp only [List.length_append,List.length_replicate];omega
    ·rw [← d];simp only [List.length_cons];omega
    ·rw [← d]
 rw [if_neg uj] at d;rw [if_neg c28] at d;by_cases c24:i.Op=24
 ·rw [if_pos c24] at d;rw [er,if_neg uj,if_pos c24]
  match m:O.st,If:O.low,d with
  | [],_,d=>cases d
  | _::_,[],d=>cases d
  | v::r,f::xs,d =>
   have d:=Option.some.inj d;obtain ⟨n,e,k⟩:=g.pop m 1 0 0;have ne:=g.bg;have of:((o.length:Int) - 1)=((O.low.length:Nat):Int):=by rw [g.fr,Py]
   have Y:=k.st;have fd:=Y.live;have W:({ O with st:=r,wr:=O.wr+1 }:Sd).ws=mg O.low++(O.loc++r.reverse):=rfl;rw [W] at Y fd;have hle:=Y.le;have ys:=Y.fb;obtain ⟨N,F,ap⟩:=Ux Y;have pl:=k.wr;rw [W] at pl;simp only [List.length_append,List.length_reverse] at fd hle pl;obtain ⟨Fd,Id,ip⟩:=Tx (s:=1) (bx:=0) (t:=0) (v:=v) ap (by omega);have jp:cut o 0 ((O.low.length:Nat):Int)=some (gm O.low):=by
    unfold cut;rw [if_pos (by omega),g.fr];simp [Sd.Xj,← Yp O.low]
   have mp:(Mq cst o (v,1,0,0,n,live - 1,8,400) (a.u:Int) ((a.Vc+1:Nat):Int) ((mg a.low).length:Int))=some (1,0,0,cst,gm O.low,Fd,live - 1 - ((O.loc++r.reverse).length:Nat)+1,8,400):=by
    rw [Mq,of,Ih (by omega),Hb,jp,Hb,et];simp only [Ml,Hb];rw [show live - 1 - ((mg a.low).length:Int)=(((O.loc++r.reverse).length:Nat):Int) by rw [← K];simp;omega,Ih (by simp;omega),Hb,F,Hb,dt];simp only [Id,Hb]
   have op:at_ o ((O.low.length:Nat):Int)=some ⟨a.u,((a.Vc+1:Nat):Int),(mg a.low).length⟩:=by rw [K];exact pm
   rw [e,Hb,of,Ih (by omega),Hb,op,Hb,mp,Hb];have X:b.ws=mg O.low++[v]:=by
    rw [← d,If];simp [Sd.ws,mg]
   have wf:b.out=O.out:=by rw [← d]
   rw [← wf];refine fin (b':=b) (g.to ?_ ?_ ?_ ?_ ?_) rfl rfl
   ·rw [← d,If];rfl
   ·rw [X];exact ip
   ·rw [X,← d];simp only [List.length_append,List.length_singleton];omega
   ·rw [← d];rw [If] at ne;simp only [List.length_cons] at ne;simp only;omega
   ·rw [← d]
 rw [if_neg c24,if_neg c] at d;cases d
end
end Go.Y
namespace Go.Y
open Go.vc Go.hd
structure Uk (c:pk) (t:Yh):Prop where
 st:t.state=c.state
 up:t.up=c.up
 fr:t.fr=(c.Pb.am [] []).Xj
 vq:Zh t.l t.live (c.Pb.am [] []).ws
 wr:c.Pb.wr+(c.Pb.am [] []).ws.length=400
 bg:c.Pb.fr+(c.Pb.low.length+1)=40
 Bg:t.Bg=8
 jg:t.jg=400
structure qq (Wb ins:List (List Int)) (Wc:List Int):Prop where
 Xk:Wc.length=Wb.length
 jm:ins.length=Wb.length
 Wc:∀ (i:Nat) (f:List Int),Wb[i]?=some f→∃ t:Nat,Wc[i]?=some (t:Int)∧t≤f.length∧ins[i]?=some (f.drop t)
 Tk:∀ f ∈ Wb,f.length≤65536
section
variable {M:Xc}{Wb sent ins:List (List Int)}{Wc:List Int}{c c':pk}{t t':Yh}{g Tg:jb}{p Jg:ed}{out:List Int}
theorem Uk.Xo (h:Uk c t) (i:qq Wb ins Wc) (out:List Int):ia Wb (c.Pb.am ins out) Wc t.fr t.l t.live:=⟨h.fr,h.vq,h.wr,h.bg,i.Xk,i.jm,i.Wc,i.Tk⟩
theorem Uk.of {a:Sd}{fr:List Ic}{l:List Int}{live st:Int}{u:Option Nat}(h:ia Wb a Wc fr l live):Uk ⟨c.state,c.up,a.Pb⟩ ⟨c.state,c.up,fr,l,live,8,400⟩:=⟨rfl,rfl,h.fr,h.st,h.wr,h.bg,rfl,rfl⟩
theorem qq.of {a:Sd}{fr:List Ic}{l:List Int}{live:Int}(h:ia Wb a Wc fr l live):qq Wb a.ins Wc:=⟨h.Xk,h.jm,h.Wc,h.Tk⟩
structure Fg (Wb:List (List Int)) (g:jb) (Wc:List Int) (p:ed):Prop where
 now:p.now=g.k
 len:p.cs.length=g.cs.length
 co:∀ (i:Nat) (c:pk),g.cs[i]?=some c→∃ t,p.cs[i]?=some t∧Uk c t
 Vk:qq Wb g.ins Wc
theorem Fg.set (h:Fg Wb g Wc p){j:Nat}(n:Nat) (a:Uk c' t'):Fg Wb { g with k:=n,cs:=g.cs.set j c' } Wc ⟨p.cs.set j t',n⟩ where
 now:=rfl
 len:=by simpa using h.len
 co i c fb:=by
  simp only at fb;rw [List.getElem?_set] at fb;split at fb
  ·rename_i e;subst e;split at fb
   ·rename_i b;obtain rfl:=Option.some.inj fb;exact ⟨t',by simp [h.len,b],a⟩
   ·cases fb
  ·rename_i e;obtain ⟨t,d,f⟩:=h.co i c fb;exact ⟨t,by simp only;rw [List.getElem?_set_ne e];exact d,f⟩
 Vk:=h.Vk
theorem Fg.io (h:Fg Wb g Wc p){a:List (List Int)}{b:List Int}(fb:qq Wb a b) (o:List Int):Fg Wb { g with ins:=a,out:=o } b p:=⟨h.now,h.len,h.co,fb⟩
theorem uG {Pb a:xi}{v:Int}(h:Pb.push v=some a) (ins:List (List Int)) (out:List Int):(Pb.am ins out).push v=some (a.am ins out):=by
 unfold xi.push at h;unfold Sd.push;show (match Pb.wr with | 0=>none | k+1=>some _)=_;split at h
 ·cases h
 ·rename_i k b;(try rw [b]);obtain rfl:=Option.some.inj h;rfl
theorem jv {cs:List pk}{j:Nat}{v:Int}(h:Fg Wb { g with cs:=cs,k:=j } Wc p) (e:g.to cs j v=some Tg):∃ Jg,vn p 1 0 0 v=some (Jg,1,0,0)∧Fg Wb Tg Wc Jg∧Tg.ins=g.ins∧Tg.out=g.out:=by
 obtain ⟨c,hc,e⟩:=da e;obtain ⟨Pb,f,e⟩:=da e;obtain rfl:=Option.some.inj e;obtain ⟨t,i,a⟩:=h.co j c hc;obtain ⟨m,qa,b,-⟩:=(a.Xo h.Vk []).push (uG f g.ins []) 1 0 0;have d:p.now=j:=h.now;refine ⟨⟨p.cs.set j { t with l:=m,live:=t.live+1 },j⟩,?_,?_,rfl,rfl⟩
 ·rw [vn,d,i,Hb,a.Bg,a.jg,qa,Hb];simp only [ed.put,d]
 ·exact h.set j (c':={ c with Pb:=Pb }) ⟨a.st,a.up,b.fr,b.st,b.wr,b.bg,a.Bg,a.jg⟩
theorem RI {v:Int}{r:List Int}(h:Fg Wb g Wc p) (hc:g.cs[g.k]?=some c) (d:c.Pb.st=v::r):∃ Jg,En p 1 0 0=some (v,Jg,1,0,0)∧Fg Wb { g with cs:=g.cs.set g.k { c with Pb:={ c.Pb with st:=r,wr:=c.Pb.wr+1 } } } Wc Jg:=by
 obtain ⟨t,e,a⟩:=h.co g.k c hc;obtain ⟨f,qa,b⟩:=(a.Xo h.Vk []).pop (v:=v) (r:=r) d 1 0 0;refine ⟨⟨p.cs.set g.k { t with l:=f,live:=t.live - 1 },g.k⟩,?_,?_⟩
 ·rw [En,h.now,e,Hb,a.Bg,a.jg,qa,Hb];simp only [ed.put,h.now]
 ·exact h.set g.k (c':={ c with Pb:={ c.Pb with st:=r,wr:=c.Pb.wr+1 } }) ⟨a.st,a.up,b.fr,b.st,b.wr,b.bg,a.Bg,a.jg⟩
theorem vG {l:List Int}(h:l.length≤4294967296):app ([]:List Int) l=some l:=by
 unfold app;rw [if_pos (by simpa using h)];rfl
theorem BI {n:Nat}(h:Fg Wb g Wc p) (hc:g.cs[g.k]?=some c) (r:n≤c.Pb.st.length):∃ Jg,Fu p 1 0 0 (n:Int)=some ((c.Pb.st.take n).reverse,Jg,1,0,0)∧Fg Wb { g with cs:=g.cs.set g.k { c with Pb:={ c.Pb with st:=c.Pb.st.drop n,wr:=c.Pb.wr+n } } } Wc Jg:=by
 obtain ⟨t,f,a⟩:=h.co g.k c hc;have b:(c.Pb.am [] []).ws=(({ c.Pb with st:=c.Pb.st.drop n,wr:=c.Pb.wr+n }:xi).am [] []).ws++(c.Pb.st.take n).reverse:=by
  simp only [Sd.ws,xi.am];have:c.Pb.st.reverse=(c.Pb.st.drop n).reverse++(c.Pb.st.take n).reverse:=by rw [← List.reverse_append,List.take_append_drop]
  rw [this];simp only [List.append_assoc]
 have d:=a.vq;have hlen:((c.Pb.st.take n).reverse).length=n:=by simp;omega
 have s:c.Pb.st.length≤(c.Pb.am [] []).ws.length:=by simp [Sd.ws,xi.am];omega
 have i:=a.wr;have j:=d.live;have hle:=d.le;rw [b] at d;obtain ⟨m,qa,e⟩:=Ux d;rw [hlen] at qa e;have o:cut t.l 0 t.live=some (c.Pb.am [] []).ws:=by
  unfold cut;rw [if_pos (by omega),j];have:=a.vq.take;simp [this]
 have q:cut (c.Pb.am [] []).ws (t.live - n) ((c.Pb.am [] []).ws.length:Int)=some (c.Pb.st.take n).reverse:=by
  have u:(c.Pb.am [] []).ws.length=(({ c.Pb with st:=c.Pb.st.drop n,wr:=c.Pb.wr+n }:xi).am [] []).ws.length+n:=by rw [b,List.length_append,hlen]
  unfold cut;rw [if_pos (by omega)];rw [show (t.live - n).toNat=(({ c.Pb with st:=c.Pb.st.drop n,wr:=c.Pb.wr+n }:xi).am [] []).ws.length by omega,Int.toNat_natCast,List.take_length,b,List.drop_left]
 refine ⟨⟨p.cs.set g.k { t with l:=m,live:=t.live - n },g.k⟩,?_,?_⟩
 ·rw [Fu,h.now,f,Hb,Eu,tu,a.Bg,a.jg,o,Hb,vG (by omega),Hb,Hb,Ml,Hb,Ih (by omega),Hb,q,Hb,qa,Hb,Hb];simp only [ed.put,h.now]
 ·refine h.set g.k (c':={ c with Pb:={ c.Pb with st:=c.Pb.st.drop n,wr:=c.Pb.wr+n } }) ⟨a.st,a.up,a.fr,e,?_,a.bg,a.Bg,a.jg⟩;rw [b,List.length_append,hlen] at i;show c.Pb.wr+n+(({ c.Pb with st:=c.Pb.st.drop n,wr:=c.Pb.wr+n }:xi).am [] []).ws.length=400;omega
theorem yB {u:Int}{args:List Int}{U:gf}(g:U.pd.length≤400) (h:args.length≤U.pd.length):∀ (n i:Nat) (l:List Int) (live:Int),i≤U.pd.length→U.pd.length<n+i→Zh l live ((args++List.replicate (U.pd.length - args.length) 0).take i) →
  ∃ b,km u args U n (i:Int) live 8 400 l=some (0,[⟨u,0,0⟩],b,(U.pd.length:Int),8,400)∧Zh b (U.pd.length:Int) (args++List.replicate (U.pd.length - args.length) 0)
 | 0,i,l,live,j,k,a=>by omega
 | n+1,i,l,live,j,k,a=>by
  have hlen:(args++List.replicate (U.pd.length - args.length) (0:Int)).length=U.pd.length:=by simp;omega
  have m:live=i:=by
   have:=a.live;rw [List.length_take,hlen] at this;omega
  rw [km];by_cases c:i<U.pd.length
  ·rw [if_pos (by omega)];obtain ⟨o,qa,e⟩:=UA (v:=(args++List.replicate (U.pd.length - args.length) 0)[i]'(by omega)) a (by rw [List.length_take];omega);have p:(args++List.replicate (U.pd.length - args.length) 0).take i++[(args++List.replicate (U.pd.length - args.length) 0)[i]'(by omega)]=(args++List.replicate (U.pd.length - args.length) 0).take (i+1):=(List.take_succ_eq_append_getElem (by omega)).symm;rw [p] at e;obtain ⟨f,q,r⟩:=yB g h n (i+1) o (live+1) c (by omega) e;have key:∀ x,x=(args++List.replicate (U.pd.length - args.length) 0)[i]'(by omega)→rp (i:Int) live 8 400 l (km u args U n) x=some (0,[⟨u,0,0⟩],f,(U.pd.length:Int),8,400):=by
    intro x s;subst s;rw [rp,qa,Hb,Ih (by omega),Hb];exact q
   refine ⟨f,?_,r⟩;by_cases d:i<args.length
   ·rw [if_pos (by omega),mj,List.getElem?_eq_getElem d,Hb];exact key _ (by rw [List.getElem_append_left d])
   ·rw [if_neg (by omega)];exact key _ (by rw [List.getElem_append_right (by omega)];simp)
  ·rw [if_neg (by omega)];obtain rfl:i=U.pd.length:=by omega
   rw [show (args++List.replicate (U.pd.length - args.length) (0:Int)).take U.pd.length=args++List.replicate (U.pd.length - args.length) 0 from List.take_of_length_le (by omega)] at a;subst m;exact ⟨l,rfl,a⟩
theorem rF {u:Int}{args:List Int}{U:gf}(hu:at_ M.Jd u=some U) (b:U.pd.length≤400) (c:args.length≤U.pd.length) :
  ∃ a,Np M u args=some (0,[⟨u,0,0⟩],a,(U.pd.length:Int),8,400)∧Zh a (U.pd.length:Int) (args++List.replicate (U.pd.length - args.length) 0):=by
 have Qa:Vu 8 400=some (List.replicate 8 0,0,8,400):=rfl;rw [Np,Qa,Hb,hu,Hb];exact yB b c _ 0 _ 0 (by omega) (by omega) ⟨by simp,by simp,by simp,by simp,by simp⟩
end
end Go.Y
namespace Go.Y
open Go.vc Go.hd
section
variable {M:Xc}{Wb sent ins:List (List Int)}{Wc:List Int}{c c' d:pk}{t t':Yh}{g Tg:jb}{p Jg:ed}{out:List Int}{Pb:xi}
theorem Fg.SI (h:Fg Wb { g with cs:=g.cs.set g.k c } Wc p) (n:Nat) (a:Uk c' t'):Fg Wb { g with k:=n,cs:=g.cs.set g.k c' } Wc ⟨p.cs.set g.k t',n⟩:=by
 have:=h.set (j:=g.k) n a;simpa only [List.set_set] using this
theorem Fg.at (h:Fg Wb { g with cs:=g.cs.set g.k c } Wc p) (a:g.k<g.cs.length):∃ t,p.cs[g.k]?=some t∧Uk c t:=h.co g.k c (by simp [a])
theorem zB {j st:Nat}{v:Int}(b:g.k<g.cs.length) (h:Fg Wb { g with cs:=g.cs.set g.k { c with Pb:=Pb } } Wc p) (hu:c.up=some j) (e:g.to (g.cs.set g.k { c with state:=st,up:=none,Pb:=Pb }) j v=some Tg) :
  ∃ q,Ao p 1 0 0 (st:Int) v=some (q,1,0,0)∧Fg Wb Tg Wc q∧Tg.ins=g.ins∧Tg.out=g.out:=by
 obtain ⟨t,d,a⟩:=h.at b;have f:=h.SI (c':={ c with state:=st,up:=none,Pb:=Pb }) (t':={ t with state:=(st:Int),up:=none }) j ⟨rfl,rfl,a.fr,a.vq,a.wr,a.bg,a.Bg,a.jg⟩;obtain ⟨q,qa,i,l⟩:=jv (g:=g) f e;refine ⟨q,?_,i,l⟩;have m:p.now=g.k:=h.now;have n:t.up=some j:=a.up.trans hu;rw [Ao,m,d,Hb,n,Hb];exact qa
theorem Ou {v:Int}{r:List Int}(a:g.k<g.cs.length) (h:Fg Wb { g with cs:=g.cs.set g.k { c with Pb:=Pb } } Wc p) (b:Pb.st=v::r) :
  ∃ q,En p 1 0 0=some (v,q,1,0,0)∧Fg Wb { g with cs:=g.cs.set g.k { c with Pb:={ Pb with st:=r,wr:=Pb.wr+1 } } } Wc q:=by
 obtain ⟨q,qa,d⟩:=RI (c:={ c with Pb:=Pb }) h (by simp [a]) b;exact ⟨q,qa,by simpa only [List.set_set] using d⟩
theorem Fg.add (h:Fg Wb g Wc p) (b:Uk c' t'):Fg Wb { g with cs:=g.cs++[c'] } Wc ⟨p.cs++[t'],p.now⟩ where
 now:=h.now
 len:=by simpa using h.len
 co i c fb:=by
  simp only at fb;rcases Nat.lt_trichotomy i g.cs.length with a | a | a
  ·rw [List.getElem?_append_left a] at fb;obtain ⟨t,d,e⟩:=h.co i c fb;exact ⟨t,by simp only;rw [List.getElem?_append_left (by rw [h.len];exact a)];exact d,e⟩
  ·subst a;rw [List.getElem?_append_right (Nat.le_refl _),Nat.sub_self] at fb;obtain rfl:=Option.some.inj fb;exact ⟨t',by simp only;rw [← h.len,List.getElem?_append_right (Nat.le_refl _),Nat.sub_self];rfl,b⟩
  ·rw [List.getElem?_append_right (by omega),List.getElem?_eq_none (by simp;omega)] at fb;cases fb
 Vk:=h.Vk
theorem sF (gc:Fk M=true){i:Jc}(f:g.k<g.cs.length) (hc:g.cs[g.k]?=some c) (h:Fg Wb { g with cs:=g.cs.set g.k { c with Pb:=Pb } } Wc p) (z:0≤i.A∧i.A≤4000) (e:uq M g c Pb i=some Tg) (Id:i.Op=25∨(29≤i.Op∧i.Op≤32)) :
  ∃ q,oi M p 1 0 0 i=some (q,1,0,0)∧Fg Wb Tg Wc q∧Tg.ins=g.ins∧Tg.out=g.out:=by
 unfold uq at e;by_cases B:i.Op=29
 ·rw [if_pos B] at e;rw [oi,if_neg (by omega),if_pos B,yx];obtain ⟨u,hu,e⟩:=da e;obtain ⟨⟨be,ce,ge,he⟩,-⟩:=Sp gc hu;split at e
  ·cases e
  ·rename_i S;have lc:u.Params=((u.Params.toNat:Nat):Int):=by omega
   have rc:({ g with cs:=g.cs.set g.k { c with Pb:=Pb } }:jb).cs[({ g with cs:=g.cs.set g.k { c with Pb:=Pb } }:jb).k]?=some { c with Pb:=Pb }:=by simp [f]
   obtain ⟨q,qa,a⟩:=BI (n:=u.Params.toNat) h rc (by simp only;omega);rw [← lc] at qa;simp only [List.set_set] at a;obtain ⟨T,s,W⟩:=rF (M:=M) (u:=i.A) (args:=(Pb.st.take u.Params.toNat).reverse) (U:=u) ((Om z.1).trans hu) (by omega) (by simp;omega);have X:q.cs.length=g.cs.length:=by have:=a.len;simpa using this
   have fd:((Pb.st.take u.Params.toNat).reverse).length=u.Params.toNat:=by simp;omega
   have l:=a.add (c':=⟨0,none,⟨i.A.toNat,0,(Pb.st.take u.Params.toNat).reverse++List.replicate (u.pd.length - u.Params.toNat) 0,[],[],400 - u.pd.length,39⟩⟩) (t':=⟨0,none,[⟨i.A,0,0⟩],T,(u.pd.length:Int),8,400⟩)
    ⟨rfl,rfl,by show [(⟨i.A,0,0⟩:Ic)]=[⟨((i.A.toNat:Nat):Int),((0:Nat):Int),((mg []).length:Int)⟩];rw [Int.toNat_of_nonneg z.1];rfl,by rw [fd] at W;simpa [Sd.ws,xi.am,mg] using W,by simp [Sd.ws,xi.am,mg];omega,rfl,rfl,rfl⟩
   obtain ⟨m,t,o,w⟩:=jv (g:=g) (j:=g.k) l e;refine ⟨m,?_,o,w⟩;rw [Om z.1,hu,Hb,qa,Hb,if_neg (by rw [ed.length,X];omega),s,Hb,rn,Hb];have C:(((q.cs++[Yh.mk 0 none [⟨i.A,0,0⟩] T (u.pd.length:Int) 8 400]).length:Int) - 1)=(g.cs.length:Int):=by
    rw [List.length_append,X];simp
   rw [C,Ih (by omega),Hb];exact t
 rw [if_neg B] at e;by_cases D:i.Op=30
 ·rw [if_pos D] at e;rw [oi,if_neg (by omega),if_neg (by omega),if_pos D]
  match x:Pb.st,e with
  | [],e=>cases e
  | [_],e=>cases e
  | v::j::r,e =>
   simp only at e;obtain ⟨d,sb,e⟩:=da e;split at e
   ·cases e
   ·rename_i S;obtain ⟨Y,qa,a⟩:=Ou f h x;obtain ⟨m,s,l⟩:=Ou (r:=r) f a rfl;rw [qa,Hb,s,Hb,if_neg (by omega),Tq,if_neg (by rw [show m.now=g.k from l.now];omega)];have id:g.k≠j.toNat:=by omega
    obtain ⟨F,G,b⟩:=l.co j.toNat d (by simp only;rw [List.getElem?_set_ne id];exact sb);have md:m.now=g.k:=l.now;have o:=l.set (j:=j.toNat) (c':={ d with state:=2,up:=some g.k }) (t':={ F with state:=2,up:=some m.now }) j.toNat ⟨rfl,by rw [md],b.fr,b.vq,b.wr,b.bg,b.Bg,b.jg⟩;rw [G,Hb,b.st];by_cases le:d.state=0
    ·rw [if_pos (by omega)] at e ⊢;obtain rfl:=Option.some.inj e;exact ⟨_,rfl,o,rfl,rfl⟩
    ·rw [if_neg (by omega)] at e ⊢;by_cases ne:d.state=1
     ·rw [if_pos (by omega)] at e ⊢;obtain ⟨H,t,w,K⟩:=jv (g:=g) o e;exact ⟨H,t,w,K⟩
     ·rw [if_neg (by omega)] at e;cases e
 rw [if_neg D] at e;by_cases N:i.Op=31
 ·rw [if_pos N] at e;rw [oi,if_neg (by omega),if_neg (by omega),if_neg (by omega),if_pos N]
  match x:Pb.st,P:c.up,e with
  | [],_,e=>cases e
  | _::_,none,e=>cases e
  | v::r,some j,e =>
   obtain ⟨Y,qa,a⟩:=Ou f h x;obtain ⟨m,s,l⟩:=zB f a P e;rw [qa,Hb];exact ⟨m,s,l⟩
 rw [if_neg N] at e;by_cases Q:i.Op=25
 ·rw [if_pos Q] at e;rw [oi,if_pos Q]
  match P:c.up,e with
  | none,e=>cases e
  | some j,e=>exact zB f h P e
 rw [if_neg Q,if_neg (by omega),if_neg (by omega)] at e;by_cases R:i.Op=32
 ·rw [if_pos R] at e;rw [oi,if_neg (by omega),if_neg (by omega),if_neg (by omega),if_neg (by omega),if_pos R]
  match x:Pb.st,e with
  | [],e=>cases e
  | j::r,e =>
   simp only at e;split at e
   ·cases e
   ·rename_i S;obtain ⟨d,sb,e⟩:=da e;obtain ⟨Y,qa,a⟩:=Ou f h x;rw [qa,Hb,if_neg (by omega)];have rd:∃ y,(g.cs.set g.k { c with Pb:={ Pb with st:=r,wr:=Pb.wr+1 } })[j.toNat]?=some y∧y.state=d.state:=by
     by_cases Z:g.k=j.toNat
     ·rw [← Z] at sb ⊢;rw [hc] at sb;obtain rfl:=Option.some.inj sb;exact ⟨_,List.getElem?_set_self f,rfl⟩
     ·exact ⟨d,by rw [List.getElem?_set_ne Z];exact sb,rfl⟩
    obtain ⟨y,wd,Fd⟩:=rd;obtain ⟨F,G,b⟩:=a.co j.toNat y wd;have C:(Sm (F.state≠3))=if d.state=3 then 0 else 1:=by
     rw [b.st,Fd];unfold Sm;by_cases o:(d.state:Int)=3
     ·rw [if_neg (by omega),if_pos (by omega)]
     ·rw [if_pos o,if_neg (by omega)]
    rw [G,Hb,Tp,Hb,C];obtain ⟨H,t,w,K⟩:=jv (g:=g) a e;exact ⟨H,t,w,K⟩
 rw [if_neg R] at e;cases e
end
end Go.Y
namespace Go.Y
open Go.vc Go.hd
section
variable {M:Xc}{Wb sent:List (List Int)}{Wc:List Int}{c c' d:pk}{t t':Yh}{g Tg:jb}{p Jg:ed}{s bx:Int}
def jb.Vo (M:Xc) (g:jb) (i:Jc):Prop:=∃ c,g.cs[g.k]?=some c∧(c.Pb.am g.ins g.out).code M=some i∧(i.Op=27→i.A.toNat<g.ins.length)
def jb.nk (g:jb) (i:Jc):Bool:=decide (i.Op=27) && decide (g.ins[i.A.toNat]?=some [])
theorem WA (b:Fk M=true) (h:Fg Wb g Wc p) (d:s≤3){i:Jc}(f:g.Vo M i) :
  ∃ Jg,Vp M p s bx 0 Wb Wc sent=some (Jg,if g.nk i then 3 else 1,if g.nk i then i.A else 0,0,Wb,Wc,sent)∧Fg Wb g Wc Jg:=by
 obtain ⟨c,hc,fb,l⟩:=f;obtain ⟨t,m,a⟩:=h.co g.k c hc;have e:=nr (sent:=sent) (bx:=bx) b (a.Xo h.Vk g.out) d fb l;refine ⟨⟨p.cs.set g.k t,g.k⟩,?_,?_⟩
 ·rw [Vp,h.now,m,Hb,e,Hb];simp only [ed.put,h.now];rfl
 ·have:=h.set (j:=g.k) g.k a;rwa [show g.cs.set g.k c=g.cs by
   obtain ⟨o,n⟩:=List.getElem?_eq_some_iff.1 hc;rw [← n,List.set_getElem_self]] at this
theorem Xx (j:Fk M=true) (h:Fg Wb g Wc p) (r:s≤3) (hc:g.cs[g.k]?=some c){i:Jc}(fb:(c.Pb.am g.ins g.out).code M=some i) (v:i.Op=27→i.A.toNat<g.ins.length) (out:List Int) :
  ∃ t,p.cs[g.k]?=some t∧Uk c t∧((g.nk i=true→Gn M p s bx 0 out Wb Wc sent=none) ∧
   (g.nk i=false→∃ P,Fg Wb { g with cs:=g.cs.set g.k { c with Pb:={ c.Pb with Vc:=c.Pb.Vc+1 } } } Wc P ∧
    Gn M p s bx 0 out Wb Wc sent=(oi M P 1 0 0 i).bind fun q=>(Vp M q.1 q.2.1 q.2.2.1 q.2.2.2 Wb Wc sent).bind fun z=>some (true,z.1,z.2.1,z.2.2.1,z.2.2.2.1,out,z.2.2.2.2.1,z.2.2.2.2.2.1,z.2.2.2.2.2.2))):=by
 obtain ⟨t,d,a⟩:=h.co g.k c hc;have l:=a.Xo h.Vk g.out;have e:=nr (sent:=sent) (bx:=bx) j l r fb v;have w:(c.Pb.am g.ins g.out).stuck i=g.nk i:=rfl;rw [w] at e;refine ⟨t,d,a,fun f=>?_,fun f=>?_⟩
 ·rw [Gn,h.now,d,Hb,e,Hb,f];rfl
 ·obtain ⟨u,hu,m⟩:=Kt fb;obtain ⟨⟨C,D,F,G⟩,H⟩:=Sp j hu;have x:(c.Pb.am g.ins g.out).Vc<u.Code.length:=(List.getElem?_eq_some_iff.1 m).1;have K:=a.bg;have n:=l.fr;have y:((t.fr.length:Int) - 1)=((c.Pb.low.length:Nat):Int):=by rw [n];exact Py _
  have o:at_ t.fr ((c.Pb.low.length:Nat):Int)=some ⟨c.Pb.u,c.Pb.Vc,(mg c.Pb.low).length⟩:=by rw [n];exact Nu _
  have N:c.Pb.Vc<u.Code.length:=x;have B:i64 ((c.Pb.Vc:Int)+1)=some (((c.Pb.Vc+1:Nat):Int)):=Ih (by omega);refine ⟨⟨p.cs.set g.k { t with fr:=t.fr.set c.Pb.low.length ⟨c.Pb.u,((c.Pb.Vc+1:Nat):Int),(mg c.Pb.low).length⟩ },g.k⟩,?_,?_⟩
  ·have b:=(a.Xo h.Vk []).Vc (c.Pb.Vc+1);exact h.set g.k (c':={ c with Pb:={ c.Pb with Vc:=c.Pb.Vc+1 } }) ⟨a.st,a.up,b.fr,b.st,b.wr,b.bg,a.Bg,a.jg⟩
  ·rw [Gn,h.now,d,Hb,e,Hb,f];simp only [Bool.false_eq_true,if_false];rw [if_neg (by simp),y,Ih (by omega),Hb,o,Hb,Zt];simp only [o,Hb];rw [show at_ M.Jd ((c.Pb.u:Nat):Int)=some u by rw [mj];exact hu,Hb];rw [show at_ u.Code ((c.Pb.Vc:Nat):Int)=some i by rw [mj];exact m,Hb,B,Hb];simp only [ed.put,h.now,Int.toNat_natCast]
theorem fE {i:Jc}(c:¬ (i.Op=25∨(29≤i.Op∧i.Op≤32))) (a b e:Int):oi M p a b e i=none:=by
 rw [oi,if_neg (by omega),if_neg (by omega),if_neg (by omega),if_neg (by omega),if_neg (by omega)]
theorem wG (b:Fk M=true){a:Sd}{i:Jc}(fb:a.code M=some i):0≤i.A∧i.A≤4000:=by
 obtain ⟨u,hu,c⟩:=Kt fb;have:=(Sp b hu).2 _ _ c;exact ⟨this.1,this.2.1⟩
theorem XA (m:Fk M=true) (h:Fg Wb g Wc p) (n:s≤3) (y:g.out.length≤100000) (hc:g.cs[g.k]?=some c){i:Jc}(fb:(c.Pb.am g.ins g.out).code M=some i) (z:¬ (i.Op=25∨(29≤i.Op∧i.Op≤32))){b:Sd}
  (B:Im M { c.Pb.am g.ins g.out with Vc:=c.Pb.Vc+1 } i=some b) (C:i.Op=27→i.A.toNat<g.ins.length) {i':Jc}(D:({ g with cs:=g.cs.set g.k { c with Pb:=b.Pb },ins:=b.ins,out:=b.out }:jb).Vo M i') :
  ∃ Jg d o F,xn M p s bx 0 g.out Wb Wc sent=some (true,Jg,o,F,0,b.out,Wb,d,sent)∧Fg Wb { g with cs:=g.cs.set g.k { c with Pb:=b.Pb },ins:=b.ins,out:=b.out } d Jg∧o≤3:=by
 obtain ⟨t,G,a,H,K⟩:=Xx (sent:=sent) (bx:=bx) m h n hc fb C g.out;have N:Gn M p s bx 0 g.out Wb Wc sent=none:=by
  cases q:g.nk i with
  | true=>exact H q
  | false =>
   obtain ⟨P,-,e⟩:=K q;rw [e,fE z];rfl
 have Q:g.k<g.cs.length:=(List.getElem?_eq_some_iff.1 hc).1;obtain ⟨c2,r,R,S⟩:=D;simp only [List.getElem?_set_self Q,Option.some.injEq] at r;subst r;obtain ⟨d,V,v,w,e,x⟩:=tG (sent:=sent) (cst:=t.state) (bx:=bx) m (a.Xo h.Vk g.out) n y fb B (i':=i') R S;have f:=Uk.of (c:=c) (st:=0) (u:=none) x;have T:Uk { c with Pb:=b.Pb } { t with fr:=V,l:=v,live:=w }:=⟨a.st,a.up,f.fr,f.vq,f.wr,f.bg,a.Bg,a.jg⟩;have U:=(h.set (j:=g.k) g.k T).io (qq.of x) b.out;refine ⟨_,d,(if b.stuck i' then 3 else 1),(if b.stuck i' then i'.A else 0),?_,U,by split<;>omega⟩;rw [xn,N];simp only;have W:tn M s bx 0 g.out Wb Wc sent t.state t.fr t.l t.live 8 400=some (true,(if b.stuck i' then 3 else 1),(if b.stuck i' then i'.A else 0),0,b.out,Wb,d,sent,t.state,V,v,w,8,400):=e;rw [uu,h.now,G,Hb,a.Bg,a.jg,W,Hb];simp only [ed.put,h.now]
theorem tF (d:Fk M=true) (h:Fg Wb g Wc p) (l:s≤3) (o:g.out.length≤100000) (e:Hr M g=some Tg){i':Jc}(m:Tg.Vo M i') :
  ∃ Jg u w C,xn M p s bx 0 g.out Wb Wc sent=some (true,Jg,w,C,0,Tg.out,Wb,u,sent)∧Fg Wb Tg u Jg∧w≤3:=by
 obtain ⟨c,hc,e⟩:=da e;obtain ⟨i,fb,e⟩:=da e;have D:=wG d fb;have F:g.k<g.cs.length:=(List.getElem?_eq_some_iff.1 hc).1;by_cases n:i.Op=25∨(29≤i.Op∧i.Op≤32)
 ·have f:yn i.Op=true:=by
   unfold yn;have:i.Op=25∨i.Op=29∨i.Op=30∨i.Op=31∨i.Op=32:=by omega
   rcases this with h | h | h | h | h<;>rw [h]<;>rfl
  rw [if_pos f] at e;obtain ⟨t,X,Y,Z,G⟩:=Xx (sent:=sent) (bx:=bx) d h l hc fb (by omega) g.out;have j:g.nk i=false:=by
   have:i.Op≠27:=by omega
   simp [jb.nk,this]
  obtain ⟨P,H,K⟩:=G j;obtain ⟨q,qa,N,gc,Q⟩:=sF d F hc H D e n;obtain ⟨Jg,R,S⟩:=WA (sent:=sent) (s:=1) (bx:=0) d N (by decide) m;refine ⟨Jg,Wc,(if Tg.nk i' then 3 else 1),(if Tg.nk i' then i'.A else 0),?_,S,by split<;>omega⟩;rw [xn,K,qa,Hb];simp only [R,Hb,Q]
 ·by_cases y:i.Op=5∨i.Op=6
  ·have f:yn i.Op=true:=by
    unfold yn;rcases y with h | h<;>rw [h]<;>rfl
   rw [if_pos f] at e;unfold uq at e;rw [if_neg (by omega),if_neg (by omega),if_neg (by omega),if_neg (by omega)] at e;have key:∃ b,Im M { c.Pb.am g.ins g.out with Vc:=c.Pb.Vc+1 } i=some b∧Tg={ g with cs:=g.cs.set g.k { c with Pb:=b.Pb },ins:=b.ins,out:=b.out }:=by
    rcases y with z | B
    ·rw [if_pos z] at e;unfold Im;rw [if_pos z];show ∃ b,(match c.Pb.st with | _::r=>some _ | []=>none)=some b∧_;simp only at e;split at e
     ·rename_i v r j;rw [j];exact ⟨_,rfl,(Option.some.inj e).symm⟩
     ·cases e
    ·rw [if_neg (by omega),if_pos B] at e;unfold Im;rw [if_neg (by omega),if_pos B];show ∃ b,(match c.Pb.st with | v::r=>some _ | []=>none)=some b∧_;simp only at e;split at e
     ·rename_i v r j;rw [j];exact ⟨_,rfl,(Option.some.inj e).symm⟩
     ·cases e
   obtain ⟨b,a,rfl⟩:=key;exact XA d h l o hc fb n a (by omega) m
  ·have f:yn i.Op=false:=by
    unfold yn;simp only [Bool.or_eq_false_iff,decide_eq_false_iff_not];omega
   rw [f] at e;simp only [Bool.false_eq_true,if_false] at e;obtain ⟨b,a,e⟩:=da e;obtain rfl:=Option.some.inj e;have T:Im M { c.Pb.am g.ins g.out with Vc:=c.Pb.Vc+1 } i=some b:=by
    unfold Im;rw [if_neg (by omega),if_neg (by omega)];exact a
   refine XA d h l o hc fb n T (fun U=>?_) m;unfold Mn at a;rw [if_neg (by omega),if_neg (by omega),if_neg (by omega),if_neg (by omega),if_neg (by omega),if_neg (by omega),if_neg (by omega),if_neg (by omega),if_neg (by omega),if_pos U] at a;simp only at a;split at a
   ·rename_i x r W;exact (List.getElem?_eq_some_iff.1 W).1
   ·cases a
end
end Go.Y
namespace Go.Y
open Go.vc Go.hd
theorem wu {b c:Sd}{v:Int}(a:c.push v=some b):b.out=c.out:=by
 unfold Sd.push at a;split at a
 ·cases a
 ·rw [← Option.some.inj a]
theorem IE {M:Xc}{b c:Sd}{i:Jc}(h:Mn M c i=some b):b.out.length≤c.out.length+1:=by
 unfold Mn at h;by_cases d:i.Op=1
 ·rw [if_pos d] at h;rw [wu h];omega
 rw [if_neg d] at h;clear d;by_cases d:i.Op=2
 ·rw [if_pos d] at h;rw [wu h];omega
 rw [if_neg d] at h;clear d;by_cases d:i.Op=3
 ·rw [if_pos d] at h;obtain ⟨v,-,a⟩:=Option.bind_eq_some_iff.1 h;rw [wu a];omega
 rw [if_neg d] at h;clear d;by_cases d:i.Op=4
 ·rw [if_pos d] at h;split at h
  ·split at h
   ·rw [← Option.some.inj h];simp
   ·cases h
  ·cases h
 rw [if_neg d] at h;clear d;by_cases d:8≤i.Op∧i.Op≤18
 ·rw [if_pos d] at h;split at h
  ·obtain ⟨v,-,a⟩:=Option.bind_eq_some_iff.1 h;rw [← Option.some.inj a];simp
  ·cases h
 rw [if_neg d] at h;clear d;by_cases d:i.Op=21
 ·rw [if_pos d] at h;rw [← Option.some.inj h];simp
 rw [if_neg d] at h;clear d;by_cases d:i.Op=22
 ·rw [if_pos d] at h;split at h
  ·rw [← Option.some.inj h];simp
  ·cases h
 rw [if_neg d] at h;clear d;by_cases d:i.Op=23
 ·rw [if_pos d] at h;obtain ⟨v,-,a⟩:=Option.bind_eq_some_iff.1 h;split at a
  ·cases a
  ·split at a
   ·cases a
   ·rw [← Option.some.inj a];simp
 rw [if_neg d] at h;clear d;by_cases d:i.Op=24
 ·rw [if_pos d] at h;split at h
  ·rw [← Option.some.inj h];simp
  ·cases h
 rw [if_neg d] at h;clear d;by_cases d:i.Op=27
 ·rw [if_pos d] at h;split at h
  ·rw [wu h];simp
  ·cases h
 rw [if_neg d] at h;clear d;by_cases d:i.Op=28
 ·rw [if_pos d] at h;split at h
  ·rw [← Option.some.inj h];simp
  ·cases h
 rw [if_neg d] at h;cases h
theorem ur {g Tg:jb}{cs:List pk}{j:Nat}{v:Int}(e:g.to cs j v=some Tg):Tg.out=g.out:=by
 obtain ⟨c,hc,e⟩:=da e;obtain ⟨Pb,a,e⟩:=da e;obtain rfl:=Option.some.inj e;rfl
theorem MH {M:Xc}{g Tg:jb}{c:pk}{Pb:xi}{i:Jc}(e:uq M g c Pb i=some Tg):Tg.out=g.out:=by
 unfold uq at e;by_cases d:i.Op=29
 ·rw [if_pos d] at e;obtain ⟨u,-,e⟩:=da e;split at e
  ·cases e
  ·exact ur e
 rw [if_neg d] at e;clear d;by_cases d:i.Op=30
 ·rw [if_pos d] at e;split at e
  ·obtain ⟨a,-,e⟩:=da e;split at e
   ·cases e
   ·simp only at e;split at e
    ·rw [← Option.some.inj e]
    ·split at e
     ·exact ur e
     ·cases e
  ·cases e
 rw [if_neg d] at e;clear d;by_cases d:i.Op=31
 ·rw [if_pos d] at e;split at e
  ·exact ur e
  ·cases e
 rw [if_neg d] at e;clear d;by_cases d:i.Op=25
 ·rw [if_pos d] at e;split at e
  ·exact ur e
  ·cases e
 rw [if_neg d] at e;clear d;by_cases d:i.Op=5
 ·rw [if_pos d] at e;split at e
  ·rw [← Option.some.inj e]
  ·cases e
 rw [if_neg d] at e;clear d;by_cases d:i.Op=6
 ·rw [if_pos d] at e;split at e
  ·rw [← Option.some.inj e]
  ·cases e
 rw [if_neg d] at e;clear d;by_cases d:i.Op=32
 ·rw [if_pos d] at e;split at e
  ·split at e
   ·cases e
   ·obtain ⟨a,-,e⟩:=da e;exact ur e
  ·cases e
 rw [if_neg d] at e;cases e
theorem gE {M:Xc}{g Tg:jb}(e:Hr M g=some Tg):Tg.out.length≤g.out.length+1:=by
 obtain ⟨c,hc,e⟩:=da e;obtain ⟨i,fb,e⟩:=da e;split at e
 ·rw [MH e];omega
 ·obtain ⟨b,a,e⟩:=da e;obtain rfl:=Option.some.inj e;exact IE (c:={ c.Pb.am g.ins g.out with Vc:=c.Pb.Vc+1 }) a
section
variable {M:Xc}{Wb sent:List (List Int)}
theorem JE {g Tg:jb}(e:Hr M g=some Tg):∃ i,g.Vo M i:=by
 obtain ⟨c,hc,e⟩:=da e;obtain ⟨i,fb,e⟩:=da e;refine ⟨i,c,hc,fb,fun d=>?_⟩;have f:yn i.Op=false:=by rw [d];rfl
 rw [f] at e;simp only [Bool.false_eq_true,if_false] at e;obtain ⟨b,a,e⟩:=da e;unfold Mn at a;rw [if_neg (by omega),if_neg (by omega),if_neg (by omega),if_neg (by omega),if_neg (by omega),if_neg (by omega),if_neg (by omega),if_neg (by omega),if_neg (by omega),if_pos d] at a;simp only at a;split at a
 ·rename_i x r h;exact (List.getElem?_eq_some_iff.1 h).1
 ·cases a
theorem AB (r:Fk M=true):∀ (n:Nat) (g b:jb) (i':Jc) (Wc:List Int) (p:ed) (s bx i:Int) (k:Nat),Fg Wb g Wc p→s≤3→g.out.length+n≤100000→Zl M n g=some b→b.Vo M i'→0≤i→i+n≤5000 →
  ∃ a f e Jg,om M 5000 (k+n) i s bx 0 p g.out Wc Wb sent=om M 5000 k (i+n) a f 0 Jg b.out e Wb sent∧Fg Wb b e Jg∧a≤3
 | 0,g,b,i',Wc,p,s,bx,i,k,l,m,t,h,o,u,v=>by
  cases h;exact ⟨s,bx,Wc,p,by simp,l,m⟩
 | n+1,g,b,i',Wc,p,s,bx,i,k,l,m,t,h,o,u,v=>by
  obtain ⟨c,hc,q⟩:=da h;have w:∃ j,c.Vo M j:=by
   cases n with
   | zero=>cases q; exact ⟨i',o⟩
   | succ n =>
    obtain ⟨d,sb,-⟩:=da q;exact JE sb
  obtain ⟨j,x⟩:=w;obtain ⟨Ja,y,s1,z,qa,A,B⟩:=tF (sent:=sent) (bx:=bx) r l m (by omega) hc x;have G:=gE hc;obtain ⟨a,f,e,Jg,C,D,F⟩:=AB r n c b i' y Ja s1 z (i+1) k A B (by omega) q o (by omega) (by omega);refine ⟨a,f,e,Jg,?_,D,F⟩;rw [show k+(n+1)=(k+n)+1 by omega,om,if_pos (by omega),qa,Hb];simp only [if_true];rw [Ih (by omega),Hb,C];congr 1;omega
theorem uF (a:Fk M=true){g:jb}{o:List Int}{n:Nat}{Wc:List Int}{p:ed}{s bx:Int}{k:Nat}(z:Fg Wb g Wc p) (B:s≤3) (C:g.out=[]) (e:zk M g o n) (R:n<5000) (S:5000≤k) :
  ∃ r:Qj,om M 5000 k 0 s bx 0 p g.out Wc Wb sent=some (r,0)∧r.State=3∧r.Out=o:=by
 obtain ⟨m,b,hm,D,⟨c,i,hc,fb,F,T,u⟩,G⟩:=e;have d:i.A.toNat<b.ins.length:=(List.getElem?_eq_some_iff.1 u).1;obtain ⟨H,f,v,Jg,qa,h,w⟩:=AB (sent:=sent) a m g b i Wc p s bx 0 (k - m) z B (by rw [C];simp;omega) D ⟨c,hc,fb,fun _=>d⟩ (by omega) (by omega);rw [show k=(k - m)+m by omega,qa];obtain ⟨x,K⟩:∃ x,k - m=x+1:=⟨k - m - 1,by omega⟩;obtain ⟨t,N,j,P,U⟩:=Xx (sent:=sent) (bx:=f) a h w hc fb (fun _=>d) b.out;have y:b.nk i=true:=by simp [jb.nk,F,u]
 have q:=nr (sent:=sent) (bx:=f) a (j.Xo h.Vk b.out) w fb (fun _=>d);rw [show (c.Pb.am b.ins b.out).stuck i=true from y] at q;simp only [if_true] at q;have Q:tn M H f 0 b.out Wb v sent t.state t.fr t.l t.live 8 400=some (false,3,i.A,0,b.out,Wb,v,sent,t.state,t.fr,t.l,t.live,8,400):=by
  rw [tn,q,Hb,if_pos (by simp)]
 rw [K,om,if_pos (by omega),xn,P y];simp only;rw [uu,h.now,N,Hb,j.Bg,j.jg,Q,Hb,Hb,if_neg (by simp)];exact ⟨_,rfl,rfl,G⟩
structure rq (M:Xc) (Wb:List (List Int)):Prop where
 n:Wb.length=M.Qe.length
 uz:Wb.length≤1000
 Tk:∀ f ∈ Wb,f.length≤65536
 ty:∀ (i:Nat) (f:List Int) (b:Vj),Wb[i]?=some f→M.Qe[i]?=some b→b.ue=2→∀ v ∈ f,v=0∨v=1
theorem zA (a:rq M Wb){i:Nat}{f:List Int}(fb:Wb[i]?=some f) (K:Int→Option (Qj×Int)):∀ (k j:Nat),j≤f.length→f.length<k+j→Dl M (i:Int) f K k (j:Int)=K ((i:Int)+1)
 | 0,j,d,e=>by omega
 | k+1,j,d,e=>by
  have g:i<Wb.length:=(List.getElem?_eq_some_iff.1 fb).1;have m:=a.uz;have o:=a.Tk f (List.mem_of_getElem? fb);rw [Dl];by_cases c:j<f.length
  ·rw [if_pos (by omega),mj,List.getElem?_eq_getElem c,Hb,mj];have b:i<M.Qe.length:=by rw [← a.n];exact g
   rw [List.getElem?_eq_getElem b,Hb];have go:∀ q,q=false→mo (j:Int) (Dl M (i:Int) f K k) q=K ((i:Int)+1):=by
    intro q h;subst h;rw [mo,if_neg (by decide),Ih (by omega),Hb];exact zA a fb K k (j+1) c (by omega)
   split
   ·rename_i l;have:=a.ty i f _ fb (List.getElem?_eq_getElem b) l f[j] (List.getElem_mem c);split
    ·rename_i p;exact go _ (decide_eq_false (by omega))
    ·exact go _ rfl
   ·exact go _ rfl
  ·rw [if_neg (by omega),Ih (by omega),Hb]
theorem YA (fu:Nat) (Sa wb:Int) (a:List Int) (b:rq M Wb):∀ (k i:Nat),i≤Wb.length→Wb.length<k+i →
  qm fu M Sa Wb wb a k (i:Int)=Qq fu M Sa Wb wb a (List.replicate Wb.length 0) (List.replicate Wb.length [])
 | 0,i,d,e=>by omega
 | k+1,i,d,e=>by
  have f:=b.uz;rw [qm];by_cases c:i<Wb.length
  ·rw [if_pos (by omega),mj,List.getElem?_eq_getElem c,Hb];have:=zA b (List.getElem?_eq_getElem c) (qm fu M Sa Wb wb a k) (Wb[i].length+1) 0 (by omega) (by omega);rw [show ((0:Nat):Int)=0 from rfl] at this;rw [this];exact YA fu Sa wb a b k (i+1) c (by omega)
  ·rw [if_neg (by omega)];have:Rk (Wb.length:Int)=some Wb.length:=by
    unfold Rk;rw [if_pos (by omega)];simp
   rw [this,Hb,Hb]
structure vz (fu:Nat) (M:Xc) (un nl:Nat):Prop where
 ok:Fk M=true
 ZI:(Yt fu M).map (fun w=>w.Th)=some 0
 Ev:(su M).bind (fun l=>l[0]?)=some (un:Int)
 ka:Wu M (un:Int)=some (⟨[⟨2,none,[(⟨(un:Int),0,0⟩:Ic)],List.replicate 8 (0:Int),(nl:Int),8,400⟩],0⟩,1,0,0,[])
 nl:nl≤8
 aJ:∃ u,M.Jd[un]?=some u∧∃ i,u.Code[0]?=some i∧(i.Op=27→i.A.toNat<M.Qe.length)
theorem xG {un nl:Nat}(a:nl≤8) (b:rq M Wb):Fg Wb (g0 un nl Wb) (List.replicate Wb.length (0:Int)) ⟨[⟨2,none,[(⟨(un:Int),0,0⟩:Ic)],List.replicate 8 (0:Int),(nl:Int),8,400⟩],0⟩ where
 now:=rfl
 len:=rfl
 co i c fb:=by
  have d:i<1:=by simpa [g0] using (List.getElem?_eq_some_iff.1 fb).1
  obtain rfl:i=0:=by omega
  obtain rfl:=Option.some.inj fb;refine ⟨_,rfl,⟨rfl,rfl,rfl,⟨by simp,by simp,by simp [Sd.ws,xi.am,mg],by simp [Sd.ws,xi.am,mg];omega,?_⟩,by simp [Sd.ws,xi.am,mg];omega,rfl,rfl,rfl⟩⟩;simp only [Sd.ws,xi.am,mg,List.reverse_nil,List.append_nil,List.nil_append,List.length_replicate,List.take_replicate];rw [Nat.min_eq_left a]
 Vk:=⟨by simp,rfl,fun i f h=>⟨0,by
  have:i<Wb.length:=(List.getElem?_eq_some_iff.1 h).1;simp [this],by omega,by simpa [g0] using h⟩,b.Tk⟩
theorem uD {fu:Nat}{un nl n:Nat}{o:List Int}(a:vz fu M un nl) (b:rq M Wb) (v:5001≤fu) (e:zk M (g0 un nl Wb) o n) (f:n<5000) :
  ∃ r:Qj,kr fu M 0 Wb 5000=some (r,0)∧r.State=3∧r.Out=o:=by
 obtain ⟨w,g,hw⟩:=Option.map_eq_some_iff.1 a.ZI;obtain ⟨Ev,h,d⟩:=Option.bind_eq_some_iff.1 a.Ev;have x:0<Ev.length:=(List.getElem?_eq_some_iff.1 d).1;obtain ⟨u,hu,i,fb,j⟩:=a.aJ;have l:=xG (un:=un) a.nl b;have m:(g0 un nl Wb).Vo M i:=by
  refine ⟨_,rfl,?_,fun c=>by show _<Wb.length;rw [b.n];exact j c⟩;show (M.Jd[un]?).bind (fun u=>u.Code[0]?)=some i;rw [hu];exact fb
 obtain ⟨Jg,p,q⟩:=WA (sent:=List.replicate Wb.length []) (s:=1) (bx:=0) a.ok l (by decide) m;obtain ⟨r,qa,t⟩:=uF (sent:=List.replicate Wb.length []) (bx:=if (g0 un nl Wb).nk i=true then i.A else 0) a.ok q (s:=if (g0 un nl Wb).nk i=true then 3 else 1) (by split<;>omega) rfl e f (k:=fu) (by omega);refine ⟨r,?_,t⟩;rw [kr,g,Hb,if_neg (by simp [hw]),h,Hb,if_neg (by decide),if_neg (by omega),if_neg (by decide),if_neg (by decide),if_neg (by rw [b.n];simp)];have:=YA fu 0 5000 Ev b (Wb.length+1) 0 (by omega) (by omega);rw [show ((0:Nat):Int)=0 from rfl] at this;rw [this,Qq,Om (by decide)];simp only [Int.toNat_zero];rw [d,Hb,a.ka,Hb];simp only [p,Hb];exact qa
end
theorem BB (l:List Int) (a:l.length≤65536):∀ (n i:Nat),i≤l.length→l.length<n+i→zp l l n (i:Int)=some true
 | 0,i,b,d=>by omega
 | n+1,i,b,d=>by
  rw [zp];by_cases c:i<l.length
  ·rw [if_pos (by omega),mj,List.getElem?_eq_getElem c,Hb,Hb,if_neg (by simp),Ih (by omega),Hb];exact BB l a n (i+1) c (by omega)
  ·rw [if_neg (by omega)]
theorem yG (l:List Int) (a:l.length≤65536):mr l l=some true:=by
 rw [mr,if_neg (by simp)];exact BB l a _ 0 (by omega) (by omega)
theorem vF {fu:Nat}{name:List UInt8}{M:Xc}{un nl n:Nat}{Wb:List (List Int)}{o:List Int}(hm:Uq fu name=some (M,0)) (a:vz fu M un nl) (b:rq M Wb) (c:5001≤fu)
  (e:zk M (g0 un nl Wb) o n) (d:n<5000) (f:o.length≤65536):Rp fu name o Wb=some true:=by
 obtain ⟨r,g,h,i⟩:=uD a b c e d;rw [Rp,Xu,hm,Hb,if_neg (by simp),g,Hb,Hb,if_pos rfl,if_pos h,i,yG o f,Hb]
theorem TI {M:Xc}{l:List Int}{c:Int}(d:M.Qe=[⟨1,c⟩]) (e:l.length≤65536):rq M [l] where
 n:=by rw [d];rfl
 uz:=by simp
 Tk f g:=by obtain rfl:=List.mem_singleton.1 g;exact e
 ty i f b j a h:=by
  rw [d] at a;have fb:i<1:=by simpa using (List.getElem?_eq_some_iff.1 a).1
  obtain rfl:i=0:=by omega
  cases a;cases h
theorem NH {l xs:List Int}(h:l.length+xs.length≤4294967296):app l xs=some (l++xs):=if_pos h
end Go.Y
namespace Go.Y
open Go.vc Go.hd
theorem ZA (l:List Int) (m:Int) (hm:0≤m∧m≤9223372036854775807) (f:l.length≤12):∀ (n i:Nat),i≤l.length→l.length<n+i→∃ b,Xm l m n (i:Int)=some b∧(b=true→∀ x ∈ l.drop i,-m≤x∧x≤m)
 | 0,i,g,h=>by omega
 | n+1,i,g,h=>by
  rw [Xm];by_cases c:i<l.length
  ·rw [if_pos (by omega),mj,List.getElem?_eq_getElem c,Hb,ky (by omega)];obtain ⟨b,qa,j⟩:=ZA l m hm f n (i+1) c (by omega);by_cases d:l[i]<0 - m
   ·rw [if_pos d];exact ⟨false,rfl,by simp⟩
   ·rw [if_neg d,Dq];by_cases e:m<l[i]
    ·rw [decide_eq_true e];exact ⟨false,rfl,by simp⟩
    ·rw [decide_eq_false e,if_neg (by decide),Ih (by omega),Hb];refine ⟨b,qa,fun k x a=>?_⟩;rw [List.drop_eq_getElem_cons c] at a;rcases List.mem_cons.1 a with rfl | a
     ·omega
     ·exact j k x a
  ·rw [if_neg (by omega)];exact ⟨true,rfl,fun _ x a=>by rw [List.drop_eq_nil_of_le (by omega)] at a;simp at a⟩
theorem aB (l:List Int) (m:Int) (hm:0≤m∧m≤9223372036854775807):∃ b,Fp l m=some b∧(b=true→l.length≤12∧∀ x ∈ l,-m≤x∧x≤m):=by
 rw [Fp];by_cases c:(12:Int)<l.length
 ·rw [if_pos c];exact ⟨false,rfl,by simp⟩
 ·rw [if_neg c];obtain ⟨b,qa,a⟩:=ZA l m hm (by omega) (l.length+1) 0 (by omega) (by omega);exact ⟨b,qa,fun d=>⟨by omega,by simpa using a d⟩⟩
end Go.Y
namespace Go.Y
open Go.vc Go.hd
theorem vD:vz 60001 Wq 1 1:=⟨by decide +kernel,by decide +kernel,by decide +kernel,by kernel_rfl,by decide,⟨_,rfl,_,rfl,by decide⟩⟩
theorem wD:Uq 60001 [97,118,101,114,97,103,101]=some (Wq,0):=by decide +kernel
theorem lA (l:List Int) (a:l.length≤60):∀ (n i:Nat) (s:Int) (acc:List Int),i≤l.length→l.length<n+i→acc.length≤i →
  Zo 60001 l n s (i:Int) acc=Option.bind (Rp 60001 [97,118,101,114,97,103,101] (acc++bm i s (l.drop i)) [l]) fun r=>some r
 | 0,i,s,acc,b,d,e=>by omega
 | n+1,i,s,acc,b,d,e=>by
  rw [Zo];by_cases c:i<l.length
  ·rw [if_pos (by omega),mj,List.getElem?_eq_getElem c,Hb,Ih (by omega),Hb,show ((i:Int)+1)=((i+1:Nat):Int) by omega,quo,if_neg (by omega),Hb,NH (by simp;omega),Hb,Hb];have:=lA l a n (i+1) (Cg (s+l[i])) (acc++[Cg ((Cg (s+l[i])).tdiv ((i+1:Nat):Int))]) c (by omega) (by simp;omega);rw [this,List.drop_eq_getElem_cons c,bm];simp only [List.append_assoc,List.cons_append,List.nil_append]
  ·rw [if_neg (by omega),List.drop_eq_nil_of_le (by omega),bm,List.append_nil]
theorem bB:∀ (l:List Int) (c:Nat) (s:Int),(bm c s l).length=l.length
 | [],c,s=>rfl
 | x::l,c,s=>by simp [bm,bB l]
theorem FC (l:List Int):Nq 60001 l=some true:=by
 rw [Nq];by_cases c:(60:Int)<l.length
 ·rw [if_pos c];rfl
 ·rw [if_neg c];have k:min (l.length:Int) 12=((min l.length 12:Nat):Int):=by omega
  have d:∃ a,cut l 0 (min (l.length:Int) 12)=some a:=by unfold cut;rw [if_pos (by omega)];exact ⟨_,rfl⟩
  have e:∃ a,cut l (min (l.length:Int) 12) l.length=some a:=by unfold cut;rw [if_pos (by omega)];exact ⟨_,rfl⟩
  obtain ⟨a,f⟩:=d;obtain ⟨a2,g⟩:=e;obtain ⟨b,qa,-⟩:=aB a 1000000 (by decide);obtain ⟨i,j,-⟩:=aB a2 1000000 (by decide);rw [f,Hb,qa,Hb];have go:bo 60001 l false=some true:=by
   have h:=lA l (by omega) (l.length+1) 0 0 [] (by omega) (by omega) (by simp);rw [show ((0:Nat):Int)=0 from rfl] at h;have m:=bB l 0 0;rw [bo,if_neg (by decide),h,List.drop_zero,List.nil_append,vF (n:=23*l.length+30) wD vD (TI rfl (by omega)) (by decide) (aD l (by omega)) (by omega) (by omega),Hb]
  cases b with
  | false=>rfl
  | true =>
   rw [if_pos rfl,g,Hb,j,Hb];cases i with
   | false=>rfl
   | true=>exact go
end Go.Y
