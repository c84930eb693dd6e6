/- The shelf: texts of ShelfTurns Pl. -/
import Derived.Test.YthdpoglpdpfnbaaGreatDoorCMd
import Derived.ProofKit
set_option linter.unusedSimpArgs false
set_option linter.unusedVariables false
set_option linter.unusedSectionVars false
namespace Go.Y
open Go.wc Go.hd
def xp (p_1:List Int) (a:List Int):Nat→Int→Option Bool
 | 0,_=>none
 | n+1,i26 =>
  if i26<(p_1.length:Int) then
   (at_ p_1 i26).bind fun b =>
   (at_ a i26).bind fun c =>
   if b≠c then
    some false
   else
    (i64 (i26+1)).bind fun i65 =>
    xp p_1 a n i65
  else
   some true
def jr  (p_1:List Int) (a:List Int):Option Bool :=
 if (p_1.length:Int)≠(a.length:Int) then
  some false
 else
  xp p_1 a (p_1.length+1) 0
def Np (fu:Nat)  (p_1:List UInt8) (b:List Int) (c:List (List Int)):Option Bool :=
 (Vu fu p_1 c).bind fun a =>
 if a.2=0 then
  if a.1.State=3 then
   (jr a.1.Out b).bind fun d =>
   some d
  else
   some false
 else
  some false
def Wm (fu:Nat) (p_1:List Int):Nat→Int→(List Int)→Option Bool
 | 0,_,_=>none
 | n+1,i37,a =>
  if i37<(p_1.length:Int) then
   (at_ p_1 i37).bind fun b =>
   (Mo i37 2).bind fun i83 =>
   if i83=0 then
    (app a [Cg (b+1)]).bind fun c =>
    (i64 (i37+1)).bind fun i93 =>
    Wm fu p_1 n i93 c
   else
    (app a [Cg (b - 1)]).bind fun d =>
    (i64 (i37+1)).bind fun i102 =>
    Wm fu p_1 n i102 d
  else
   (Np fu [116,117,114,110,115] a [p_1]).bind fun e =>
   some e
def Tq (fu:Nat)  (p_1:List Int):Option Bool :=
 if (60:Int)<(p_1.length:Int) then
  some true
 else
  Wm fu p_1 (p_1.length+1) 0 []
end Go.Y
namespace Go.Y
open Go.wc Go.hd
structure Fr where
 u:Nat
 Uc:Nat
 loc:List Int
 st:List Int
structure Sd where
 u:Nat
 Uc:Nat
 loc:List Int
 st:List Int
 low:List Fr
 wr:Nat
 fr:Nat
 ins:List (List Int)
 out:List Int
def Rm (p:Prop) [Decidable p]:Int:=if p then 1 else 0
def two (op a b:Int):Option Int :=
 if op=8 then some (Cg (a+b)) else if op=9 then some (Cg (a - b)) else if op=10 then some (Cg (a*b))
 else if op=11 then (if b=0 then none else some (Cg (a.tdiv b))) else if op=12 then (if b=0 then none else some (a.tmod b))
 else if op=13 then some (Rm (a=b)) else if op=14 then some (Rm (a≠b)) else if op=15 then some (Rm (a<b)) else if op=16 then some (Rm (a≤b))
 else if op=17 then some (Rm (b<a)) else none
def Sd.push (a:Sd) (v:Int):Option Sd :=
 match a.wr with
 | 0=>none
 | k+1=>some { a with st:=v::a.st,wr:=k }
def Kn (M:Wc) (a:Sd) (i:Ic):Option Sd :=
 if i.Op=1 then a.push i.N
 else if i.Op=2 then a.push i.A
 else if i.Op=3 then (a.loc[i.A.toNat]?).bind a.push
 else if i.Op=4 then (match a.st with | v::r=>if i.A.toNat<a.loc.length then some { a with st:=r,wr:=a.wr+1,loc:=a.loc.set i.A.toNat v } else none | []=>none)
 else if 8≤i.Op∧i.Op≤18 then (match a.st with | y::x::r=>(two i.Op x y).bind fun z=>some { a with st:=z::r,wr:=a.wr+1 } | _=>none)
 else if i.Op=21 then some { a with Uc:=i.A.toNat }
 else if i.Op=22 then (match a.st with | v::r=>some { a with st:=r,wr:=a.wr+1,Uc:=if v=0 then i.A.toNat else a.Uc } | []=>none)
 else if i.Op=23 then (M.Gd[i.A.toNat]?).bind fun u=>match a.fr with
  | 0=>none
  | f+1=>if a.st.length<u.Params.toNat∨a.wr<u.od.length - u.Params.toNat then none
   else some { a with u:=i.A.toNat,Uc:=0,loc:=(a.st.take u.Params.toNat).reverse++List.replicate (u.od.length - u.Params.toNat) 0,st:=[],low:=⟨a.u,a.Uc,a.loc,a.st.drop u.Params.toNat⟩::a.low,fr:=f,wr:=a.wr - (u.od.length - u.Params.toNat) }
 else if i.Op=24 then (match a.st,a.low with
  | v::r,f::b=>some { a with u:=f.u,Uc:=f.Uc,loc:=f.loc,st:=v::f.st,low:=b,fr:=a.fr+1,wr:=a.wr+r.length+a.loc.length }
  | _,_=>none)
 else if i.Op=27 then (match a.ins[i.A.toNat]? with
  | some (x::r)=>({ a with ins:=a.ins.set i.A.toNat r }:Sd).push x
  | _=>none)
 else if i.Op=28 then (match a.st with | v::r=>some { a with st:=r,wr:=a.wr+1,out:=a.out++[v] } | []=>none)
 else none
def Sd.code (M:Wc) (a:Sd):Option Ic:=(M.Gd[a.u]?).bind fun u=>u.Code[a.Uc]?
end Go.Y
namespace Go.Y
def Vp:Wc:=⟨[⟨1,20⟩],[⟨3,1,[1,1],1,1,[⟨1,0,0⟩,⟨31,0,0⟩,⟨4,1,0⟩,⟨2,1,0⟩,⟨22,11,0⟩,⟨3,1,0⟩,⟨3,0,0⟩,⟨8,0,0⟩,⟨31,0,0⟩,⟨4,1,0⟩,⟨21,3,0⟩,⟨25,0,0⟩]⟩,⟨4,0,[10,10],0,0,[⟨1,0,1⟩,⟨29,0,0⟩,⟨4,0,0⟩,⟨1,0,1⟩,⟨6,0,0⟩,⟨29,0,0⟩,⟨4,1,0⟩,⟨3,0,0⟩,⟨1,0,0⟩,⟨30,0,0⟩,⟨5,0,0⟩,⟨3,1,0⟩,⟨1,0,0⟩,⟨30,0,0⟩,⟨5,0,0⟩,⟨2,1,0⟩,⟨22,26,0⟩,⟨3,0,0⟩,⟨27,0,0⟩,⟨30,0,0⟩,⟨28,0,0⟩,⟨3,1,0⟩,⟨27,0,0⟩,⟨30,0,0⟩,⟨28,0,0⟩,⟨21,15,0⟩,⟨25,0,0⟩]⟩]⟩
end Go.Y
namespace Go.Y
open Go.wc Go.hd
structure wi where
 u:Nat
 Uc:Nat
 loc:List Int
 st:List Int
 low:List Fr
 wr:Nat
 fr:Nat
structure Zj where
 state:Nat
 up:Option Nat
 Ob:wi
structure ib where
 k:Nat
 cs:List Zj
 ins:List (List Int)
 out:List Int
def wi.am (t:wi) (ins:List (List Int)) (out:List Int):Sd:=⟨t.u,t.Uc,t.loc,t.st,t.low,t.wr,t.fr,ins,out⟩
def Sd.Ob (a:Sd):wi:=⟨a.u,a.Uc,a.loc,a.st,a.low,a.wr,a.fr⟩
def wi.push (t:wi) (v:Int):Option wi :=
 match t.wr with
 | 0=>none
 | k+1=>some { t with st:=v::t.st,wr:=k }
def ib.to (g:ib) (cs:List Zj) (j:Nat) (v:Int):Option ib :=
 (cs[j]?).bind fun c=>(c.Ob.push v).bind fun t=>some { g with k:=j,cs:=cs.set j { c with Ob:=t } }
def tq (M:Wc) (g:ib) (c:Zj) (t:wi) (i:Ic):Option ib :=
 if i.Op=29 then (M.Gd[i.A.toNat]?).bind fun u =>
  if t.st.length<u.Params.toNat∨30<g.cs.length∨400<u.od.length∨u.od.length<u.Params.toNat then none else
  g.to (g.cs.set g.k { c with Ob:={ t with st:=t.st.drop u.Params.toNat,wr:=t.wr+u.Params.toNat } }++[⟨0,none,⟨i.A.toNat,0,(t.st.take u.Params.toNat).reverse++List.replicate (u.od.length - u.Params.toNat) 0,[],[],400 - u.od.length,39⟩⟩]) g.k (g.cs.length:Int)
 else if i.Op=30 then (match t.st with
  | v::j::r=>(g.cs[j.toNat]?).bind fun d =>
   if j.toNat=g.k∨j<0 then none else
   let cs:=(g.cs.set g.k { c with Ob:={ t with st:=r,wr:=t.wr+2 } }).set j.toNat { d with state:=2,up:=some g.k }
   if d.state=0 then some { g with k:=j.toNat,cs:=cs } else if d.state=1 then g.to cs j.toNat v else none
  | _=>none)
 else if i.Op=31 then (match t.st,c.up with
  | v::r,some j=>g.to (g.cs.set g.k { c with state:=1,up:=none,Ob:={ t with st:=r,wr:=t.wr+1 } }) j v
  | _,_=>none)
 else if i.Op=25 then (match c.up with
  | some j=>g.to (g.cs.set g.k { c with state:=3,up:=none,Ob:=t }) j 0
  | none=>none)
 else if i.Op=5 then (match t.st with
  | v::r=>some { g with cs:=g.cs.set g.k { c with Ob:={ t with st:=r,wr:=t.wr+1 } } }
  | _=>none)
 else if i.Op=6 then (match t.st with
  | v::r=>some { g with cs:=g.cs.set g.k { c with Ob:={ t with st:=Cg (-v)::r } } }
  | _=>none)
 else if i.Op=32 then (match t.st with
  | j::r=>if j<0 then none else (g.cs[j.toNat]?).bind fun d=>g.to (g.cs.set g.k { c with Ob:={ t with st:=r,wr:=t.wr+1 } }) g.k (if d.state=3 then 0 else 1)
  | _=>none)
 else none
def xn (o:Int):Bool:=o=5 || o=6 || o=25 || o=29 || o=30 || o=31 || o=32
def Dr (M:Wc) (g:ib):Option ib :=
 (g.cs[g.k]?).bind fun c=>((c.Ob.am g.ins g.out).code M).bind fun i =>
  if xn i.Op then tq M g c { c.Ob with Uc:=c.Ob.Uc+1 } i
  else (Kn M { c.Ob.am g.ins g.out with Uc:=c.Ob.Uc+1 } i).bind fun a=>some { g with cs:=g.cs.set g.k { c with Ob:=a.Ob },ins:=a.ins,out:=a.out }
def tl (M:Wc):Nat→ib→Option ib
 | 0,a=>some a
 | n+1,a=>(Dr M a).bind (tl M n)
theorem PA (M:Wc):∀ (n m:Nat) (a b:ib),tl M n a=some b→tl M (n+m) a=tl M m b
 | 0,m,a,b,h=>by cases h; rw [Nat.zero_add]
 | n+1,m,a,b,h=>by
  rw [show n+1+m=(n+m)+1 by omega];simp only [tl] at h ⊢;cases d:Dr M a with
  | none=>rw [d] at h; cases h
  | some c=>rw [d] at h; exact PA M n m c b h
def ib.waits (M:Wc) (g:ib):Prop:=∃ c i,g.cs[g.k]?=some c∧(c.Ob.am g.ins g.out).code M=some i∧i.Op=27∧0≤i.A∧g.ins[i.A.toNat]?=some []
def Ak (M:Wc) (a:ib) (o:List Int) (k:Nat):Prop:=∃ n b,n≤k∧tl M n a=some b∧b.waits M∧b.out=o
theorem Ak.go {M:Wc}{a b:ib}{o:List Int}{n k:Nat}(h:tl M n a=some b) (e:Ak M b o k):Ak M a o (n+k):=by
 obtain ⟨m,c,i,d,f,g⟩:=e;exact ⟨n+m,c,by omega,by rw [PA M n m a b h];exact d,f,g⟩
theorem Ak.to {M:Wc}{a:ib}{o b:List Int}{k d:Nat}(e:Ak M a o k) (f:o=b) (h:k≤d):Ak M a b d:=by
 subst f;obtain ⟨m,c,l,g,i,j⟩:=e;exact ⟨m,c,by omega,g,i,j⟩
theorem Ak.wait {M:Wc}{a b:ib}{c:Zj}{o:List Int}{n:Nat}{A:Int}(h:tl M n a=some b) (d:b.cs[b.k]?=some c) (hc:(c.Ob.am b.ins b.out).code M=some ⟨27,A,0⟩) (e:0≤A) (cb:b.ins[A.toNat]?=some []) (f:b.out=o):Ak M a o n :=
 ⟨n,b,Nat.le_refl _,h,⟨_,_,d,hc,rfl,e,cb⟩,f⟩
def g0 (u n:Nat) (ins:List (List Int)):ib:=⟨0,[⟨2,none,⟨u,0,List.replicate n 0,[],[],400 - n,39⟩⟩],ins,[]⟩
end Go.Y
namespace Go.Y
open Go.wc Go.hd
def tk:List Int→List Int
 | []=>[]
 | [x]=>[Cg (x+1)]
 | x::y::l=>Cg (x+1)::Cg (y+-1)::tk l
def Yu (A B:Zj) (l o:List Int):ib:=⟨0,[⟨2,none,⟨1,15,[1,2],[],[],398,39⟩⟩,A,B],[l],o⟩
inductive Bv (k:Int):Zj→Prop where
 | first (x:Int):Bv k ⟨1,none,⟨0,2,[k,x],[],[],398,39⟩⟩
 | more (x:Int):Bv k ⟨1,none,⟨0,9,[k,x],[],[],398,39⟩⟩
theorem iA:∀ (l:List Int){A B:Zj}(_:Bv 1 A) (_:Bv (-1) B) (o:List Int),Ak Vp (Yu A B l o) (o++tk l) (20*l.length+20)
 | [],A,B,c,d,o=>.to (.wait (n:=3) (b:=⟨0,[⟨2,none,⟨1,18,[1,2],[1],[],397,39⟩⟩,A,B],[[]],o⟩) (A:=0) (by kernel_rfl) rfl (by kernel_rfl) (by decide) rfl rfl) (by simp [tk]) (by simp)
 | [x],A,B,c,d,o=>by
  cases c with
  | first a=>exact .to (.wait (n:=14) (b:=⟨0,[⟨2,none,⟨1,22,[1,2],[2],[],397,39⟩⟩,⟨1,none,⟨0,9,[1,x],[],[],398,39⟩⟩,B],[[]],o++[Cg (x+1)]⟩) (A:=0) (by kernel_rfl) rfl (by kernel_rfl) (by decide) rfl rfl) (by simp [tk]) (by simp)
  | more a=>exact .to (.wait (n:=15) (b:=⟨0,[⟨2,none,⟨1,22,[1,2],[2],[],397,39⟩⟩,⟨1,none,⟨0,9,[1,x],[],[],398,39⟩⟩,B],[[]],o++[Cg (x+1)]⟩) (A:=0) (by kernel_rfl) rfl (by kernel_rfl) (by decide) rfl rfl) (by simp [tk]) (by simp)
 | x::y::l,A,B,c,d,o=>by
  have qa:∃ n,n≤16∧tl Vp n (Yu A B (x::y::l) o)=some ⟨0,[⟨2,none,⟨1,22,[1,2],[2],[],397,39⟩⟩,⟨1,none,⟨0,9,[1,x],[],[],398,39⟩⟩,B],[y::l],o++[Cg (x+1)]⟩:=by
   cases c with
   | first a=>exact ⟨14,by decide,by kernel_rfl⟩
   | more a=>exact ⟨15,by decide,by kernel_rfl⟩
  have e:∃ n,n≤14∧tl Vp n ⟨0,[⟨2,none,⟨1,22,[1,2],[2],[],397,39⟩⟩,⟨1,none,⟨0,9,[1,x],[],[],398,39⟩⟩,B],[y::l],o++[Cg (x+1)]⟩=some (Yu ⟨1,none,⟨0,9,[1,x],[],[],398,39⟩⟩ ⟨1,none,⟨0,9,[-1,y],[],[],398,39⟩⟩ l (o++[Cg (x+1)]++[Cg (y+-1)])):=by
   cases d with
   | first a=>exact ⟨11,by decide,by kernel_rfl⟩
   | more a=>exact ⟨12,by decide,by kernel_rfl⟩
  obtain ⟨f,g,qa⟩:=qa;obtain ⟨h,i,e⟩:=e;exact .to (.go qa (.go e (iA l (.more x) (.more y) _))) (by simp [tk]) (by simp;omega)
theorem WD (l:List Int):Ak Vp (g0 1 2 [l]) (tk l) (20*l.length+60):=
 .to (.go (n:=19) (b:=Yu ⟨1,none,⟨0,2,[1,0],[],[],398,39⟩⟩ ⟨1,none,⟨0,2,[-1,0],[],[],398,39⟩⟩ l []) (by kernel_rfl) (iA l (.first 0) (.first 0) [])) (by simp) (by omega)
end Go.Y
namespace Go.Y
open Go.wc Go.hd
theorem Hh {n:Int}(h:-9223372036854775808≤n∧n≤9223372036854775807):i64 n=some n:=if_pos h
theorem Jb {α β:Type}{x:α}{f:α→Option β}:Option.bind (some x) f=f x:=rfl
theorem lj {α:Type}{l:List α}{i:Nat}:at_ l (i:Int)=l[i]?:=by simp [at_]
theorem Km {α:Type}{l:List α}{z:Int}(h:0≤z):at_ l z=l[z.toNat]?:=if_pos h
theorem PB {n:Int}(h:-9223372036854775808≤n∧n≤9223372036854775807):Cg n=n:=by simp only [Cg,IntKind.wrap_i64];omega
structure Zh (l:List Int) (live:Int) (ws:List Int):Prop where
 uj:8≤l.length
 cb:l.length≤400
 live:live=ws.length
 le:ws.length≤l.length
 take:l.take ws.length=ws
theorem Zh.get {l ws:List Int}{live v:Int}{k:Nat}(h:Zh l live ws) (a:ws[k]?=some v):at_ l (k:Int)=some v:=by
 rw [lj];rw [← h.take,List.getElem?_take] at a;split at a
 ·exact a
 ·cases a
theorem Zh.set {l ws:List Int}{live v:Int}{k:Nat}(h:Zh l live ws):Zh (l.set k v) live (ws.set k v) where
 uj:=by simpa using h.uj
 cb:=by simpa using h.cb
 live:=by simpa using h.live
 le:=by simpa using h.le
 take:=by
  rw [List.length_set,List.take_set,h.take]
theorem QA {l ws:List Int}{live:Int}{k:Nat}(h:Zh l live ws) (c:8≤k) (d:k≤400) (b:ws.length≤k):∃ a,Jp l live 8 400 (k:Int)=some (a,live,8,400)∧Zh a live ws∧a.length=k:=by
 have hc:cut l 0 live=some ws:=by
  unfold cut;have:=h.le;have:=h.live;rw [if_pos (by omega)];rw [h.live];simp [h.take]
 have hm:Qk (k:Int)=some k:=by
  unfold Qk;rw [if_pos (by omega)];simp
 have e:Ro (List.replicate k (0:Int)) ws=ws++List.replicate (k - ws.length) 0:=by
  simp [Ro,List.take_of_length_le b]
 refine ⟨_,by rw [Jp,hm,Jb,hc,Jb],?_,?_⟩
 ·rw [e];exact ⟨by simp;omega,by simp;omega,h.live,by simp,by simp⟩
 ·rw [e];simp;omega
theorem RA {l ws:List Int}{live v:Int}(h:Zh l live ws) (hw:ws.length<400):∃ f,Rp l live 8 400 v=some (true,f,live+1,8,400)∧Zh f (live+1) (ws++[v]):=by
 have g:=h.live;have hle:=h.le;have j:=h.uj;have m:=h.cb;have fin:∀ a,Zh a live ws→ws.length<a.length→tp v live 8 400 a=some (true,a.set live.toNat v,live+1,8,400)∧Zh (a.set live.toNat v) (live+1) (ws++[v]):=by
  intro a b d;have i:at_ a live=some a[ws.length]:=by
   rw [g,lj];exact List.getElem?_eq_getElem d
  refine ⟨by rw [tp,i,Jb,Hh (by omega),Jb],?_⟩;have e:live.toNat=ws.length:=by omega
  rw [e];refine ⟨by simpa using b.uj,by simpa using b.cb,by simp [g],by simp;omega,?_⟩;rw [List.length_append,List.length_singleton,List.take_succ_eq_append_getElem (by simpa using d)];simp [List.take_set,b.take,List.set_eq_of_length_le]
 rw [Rp,if_neg (by omega),zt];by_cases c:live=(l.length:Int)
 ·rw [if_pos c,Hh (by omega),Jb];obtain ⟨a,qa,b,d⟩:=QA (k:=min (2*l.length) 400) h (by omega) (by omega) (by omega);have e:min (2*(l.length:Int)) 400=((min (2*l.length) 400:Nat):Int):=by omega
  rw [e,qa,Jb];obtain ⟨f1,f2⟩:=fin a b (by omega);exact ⟨_,f1,f2⟩
 ·rw [if_neg c];obtain ⟨f1,f2⟩:=fin l h (by omega);exact ⟨_,f1,f2⟩
theorem Rx {l ws:List Int}{live s bx t v:Int}(h:Zh l live ws) (hw:ws.length<400):∃ a,dk s bx t l live 8 400 v=some (s,bx,t,a,live+1,8,400)∧Zh a (live+1) (ws++[v]):=by
 obtain ⟨a,k1,b⟩:=RA (v:=v) h hw;exact ⟨a,by rw [dk,k1,Jb];rfl,b⟩
theorem Sx {l ws vs:List Int}{live:Int}(h:Zh l live (ws++vs)):∃ f,Bo l live 8 400 (vs.length:Int)=some (f,live - vs.length,8,400)∧Zh f (live - vs.length) ws:=by
 have g:=h.live;have hle:=h.le;have i:=h.uj;have j:=h.cb;rw [List.length_append] at g hle;have m:quo (l.length:Int) 4=some ((l.length / 4:Nat):Int):=by
  rw [quo,if_neg (by omega),PB (by rw [Int.tdiv_eq_ediv_of_nonneg (by omega)];omega),Int.tdiv_eq_ediv_of_nonneg (by omega)];rfl
 have n:quo (l.length:Int) 2=some ((l.length / 2:Nat):Int):=by
  rw [quo,if_neg (by omega),PB (by rw [Int.tdiv_eq_ediv_of_nonneg (by omega)];omega),Int.tdiv_eq_ediv_of_nonneg (by omega)];rfl
 have a:Zh l (live - vs.length) ws:=⟨i,j,by omega,by omega,by
  have:=h.take;have e:(ws++vs).take ws.length=ws:=by simp
  rw [← e,← this,List.take_take];simp⟩
 rw [Bo,Hh (by omega),Jb,m,Jb];have small:∀ b,b=false→Bp l 8 400 (live - vs.length) b=some (l,live - vs.length,8,400):=by
  intro b o;subst o;rfl
 by_cases c:live - vs.length≤((l.length / 4:Nat):Int)
 ·rw [if_pos c];by_cases d:(8:Int)<l.length
  ·rw [decide_eq_true d,Bp,if_pos rfl,n,Jb];obtain ⟨p,qa,q,r⟩:=QA (k:=max (l.length / 2) 8) a (by omega) (by omega) (by omega);have e:max ((l.length / 2:Nat):Int) 8=((max (l.length / 2) 8:Nat):Int):=by omega
   rw [e,qa,Jb];exact ⟨p,rfl,q⟩
  ·rw [decide_eq_false d];exact ⟨l,small _ rfl,a⟩
 ·rw [if_neg c];exact ⟨l,small _ rfl,a⟩
theorem FH {l ws:List Int}{live s bx t v:Int}(h:Zh l live (ws++[v])):∃ a,fk s bx t l live 8 400=some (v,s,bx,t,a,live - 1,8,400)∧Zh a (live - 1) ws:=by
 have b:=h.live;have hle:=h.le;have f:=h.cb;rw [List.length_append,List.length_singleton] at b hle;obtain ⟨a,e,c⟩:=Sx (vs:=[v]) h;refine ⟨a,?_,c⟩;have d:at_ l (live - 1)=some v:=by
  have e:live - 1=(ws.length:Int):=by omega
  rw [e];exact h.get (by simp)
 rw [fk,Nl,Jb,Hh (by omega),Jb,d,Jb];rw [show ((([v]:List Int).length:Nat):Int)=1 from rfl] at e;rw [e,Jb]
def lg:List Fr→List Int
 | []=>[]
 | f::a=>lg a++(f.loc++f.st.reverse)
def cm:List Fr→List Hc
 | []=>[]
 | f::a=>cm a++[⟨f.u,f.Uc,(lg a).length⟩]
def Sd.ws (a:Sd):List Int:=lg a.low++(a.loc++a.st.reverse)
def Sd.Xj (a:Sd):List Hc:=cm a.low++[⟨a.u,a.Uc,(lg a.low).length⟩]
def Gk (M:Wc):Bool:=M.Gd.all fun u=>decide (0≤u.Params) && decide (u.Params≤u.od.length) && decide (u.od.length≤300) && decide (u.Code.length≤4000) && u.Code.all fun i=>decide (0≤i.A∧i.A≤4000∧i.Op≠26)
structure ha (Vb:List (List Int)) (a:Sd) (Vc:List Int) (fr:List Hc) (l:List Int) (live:Int):Prop where
 fr:fr=a.Xj
 st:Zh l live a.ws
 wr:a.wr+a.ws.length=400
 Zf:a.fr+(a.low.length+1)=40
 Wk:Vc.length=Vb.length
 fm:a.ins.length=Vb.length
 Vc:∀ (i:Nat) (f:List Int),Vb[i]?=some f→∃ t:Nat,Vc[i]?=some (t:Int)∧t≤f.length∧a.ins[i]?=some (f.drop t)
 Sk:∀ f ∈ Vb,f.length≤65536
theorem Wp:∀ (l:List Fr),(cm l).length=l.length
 | []=>rfl
 | f::a=>by simp [cm,Wp a]
theorem Tx (a:Sd):a.Xj.length=a.low.length+1:=by simp [Sd.Xj,Wp]
theorem Lu (a:Sd):at_ a.Xj ((a.low.length:Nat):Int)=some ⟨a.u,a.Uc,(lg a.low).length⟩:=by
 rw [lj,Sd.Xj];simp [Wp]
theorem Ux (a:Sd) (x:Hc):a.Xj.set a.low.length x=cm a.low++[x]:=by
 rw [Sd.Xj,List.set_append_right _ _ (by rw [Wp];exact Nat.le_refl _)];simp [Wp]
theorem Pp {M:Wc}{n:Nat}{u:ef}(h:Gk M=true) (hu:M.Gd[n]?=some u):(0≤u.Params∧u.Params≤u.od.length∧u.od.length≤300∧u.Code.length≤4000)∧∀ (k:Nat) (i:Ic),u.Code[k]?=some i→0≤i.A∧i.A≤4000∧i.Op≠26:=by
 have:=List.all_eq_true.1 h u (List.mem_of_getElem? hu);simp only [Bool.and_eq_true,decide_eq_true_eq,List.all_eq_true] at this;obtain ⟨⟨⟨⟨a,b⟩,c⟩,d⟩,e⟩:=this;exact ⟨⟨a,b,c,d⟩,fun k i cb=>e i (List.mem_of_getElem? cb)⟩
theorem Ht {M:Wc}{a:Sd}{i:Ic}(h:a.code M=some i):∃ u,M.Gd[a.u]?=some u∧u.Code[a.Uc]?=some i:=by
 unfold Sd.code at h;exact Option.bind_eq_some_iff.1 h
def Sd.stuck (a:Sd) (i:Ic):Bool:=decide (i.Op=27) && decide (a.ins[i.A.toNat]?=some [])
theorem kr {M:Wc}{Vb sent:List (List Int)}{a:Sd}{Vc:List Int}{fr:List Hc}{l:List Int}{live s bx:Int}{i:Ic}(j:Gk M=true) (b:ha Vb a Vc fr l live) (k:s≤3) (hc:a.code M=some i) (m:i.Op=27→i.A.toNat<a.ins.length) :
  rn M s bx 0 Vb Vc sent fr=some (if a.stuck i then 3 else 1,if a.stuck i then i.A else 0,0,Vb,Vc,sent,fr):=by
 obtain ⟨u,hu,cb⟩:=Ht hc;obtain ⟨⟨r,v,w,x⟩,n⟩:=Pp j hu;have d:=n _ _ cb;have y:=b.Zf;have g:=b.fr;have e:((fr.length:Int) - 1)=((a.low.length:Nat):Int):=by rw [g,Tx];omega
 have h:at_ fr ((a.low.length:Nat):Int)=some ⟨a.u,a.Uc,(lg a.low).length⟩:=by rw [g];exact Lu a
 rw [rn,if_pos k,e,Hh (by omega),Jb,h,Jb,At,h,Jb];rw [show at_ M.Gd ((a.u:Nat):Int)=some u by rw [lj,hu],Jb];rw [show at_ u.Code ((a.Uc:Nat):Int)=some i by rw [lj,cb],Jb];have hw:ar s bx 0 Vb Vc sent i=some (decide ((if a.stuck i then (3:Int) else 1)≠1),if a.stuck i then 3 else 1,if a.stuck i then i.A else 0,0,Vb,Vc,sent):=by
  rw [ar,if_neg d.2.2];by_cases c:i.Op=27
  ·rw [if_pos c];have f:=m c;rw [b.fm] at f;obtain ⟨t,o,z,p⟩:=b.Vc i.A.toNat _ (List.getElem?_eq_getElem f);have B:i.A=((i.A.toNat:Nat):Int):=by omega
   have q:Zq Vb Vc sent i.A=some (a.stuck i,Vb,Vc,sent):=by
    rw [Zq,show at_ Vb i.A=some Vb[i.A.toNat] from (Km d.1).trans (List.getElem?_eq_getElem f),Jb,show at_ Vc i.A=some (t:Int) from (Km d.1).trans o,Jb];have:decide ((t:Int)=(Vb[i.A.toNat].length:Int))=a.stuck i:=by
     rw [Sd.stuck,p,decide_eq_true c,Bool.true_and];apply decide_eq_decide.2;simp only [Option.some.injEq,List.drop_eq_nil_iff];omega
    rw [this]
   rw [q,Jb];simp only [Jq,Ys,Iq];cases a.stuck i<;>rfl
  ·rw [if_neg c];have:a.stuck i=false:=by simp [Sd.stuck,c]
   rw [this];rfl
 rw [hw,Jb]
end Go.Y
namespace Go.Y
open Go.wc Go.hd
theorem Qp (p:Prop) [Decidable p]:bl (decide p)=some (Rm p):=by
 unfold bl Rm;by_cases h:p<;>simp [h]
theorem GH {op a b z:Int}(h:two op a b=some z):mr op a b=some z∧(op=11∨op=12→b≠0):=by
 unfold two at h;unfold mr;by_cases Xi:op=8
 ·subst Xi;exact ⟨by simpa using h,by omega⟩
 by_cases c9:op=9
 ·subst c9;exact ⟨by simpa using h,by omega⟩
 by_cases Oj:op=10
 ·subst Oj;exact ⟨by simpa using h,by omega⟩
 rw [if_neg Xi,if_neg c9,if_neg Oj] at h ⊢;by_cases g:op=11
 ·subst g;simp only [if_true] at h ⊢;by_cases d:b=0
  ·rw [if_pos d] at h;cases h
  ·rw [if_neg d] at h;refine ⟨?_,fun _=>d⟩;obtain rfl:=Option.some.inj h;rw [decide_true,po,if_pos rfl];have gen:∀ q,q=false→dn 11 a b q=some (Cg (a.tdiv b)):=by
    intro q i;subst i;rw [dn,if_neg (by decide),if_pos rfl,quo,if_neg d,Jb]
   by_cases e:a=-9223372036854775808
   ·rw [if_pos e];by_cases f:b=-1
    ·subst e;subst f;decide +kernel
    ·rw [decide_eq_false f];exact gen _ rfl
   ·rw [if_neg e];exact gen _ rfl
 by_cases c12:op=12
 ·subst c12;simp only [if_true] at h ⊢;by_cases d:b=0
  ·simp [d] at h
  ·simp only [if_neg d] at h;refine ⟨?_,fun _=>d⟩;have j:a.tmod b=z:=by simpa using h
   subst j;rw [if_neg (by decide),decide_true,po,if_pos rfl];have gen:∀ q,q=false→dn 12 a b q=some (a.tmod b):=by
    intro q i;subst i;rw [dn,if_neg (by decide),if_neg (by decide),Mo,if_neg d,Jb]
   by_cases e:a=-9223372036854775808
   ·rw [if_pos e];by_cases f:b=-1
    ·subst e;subst f;decide +kernel
    ·rw [decide_eq_false f];exact gen _ rfl
   ·rw [if_neg e];exact gen _ rfl
 rw [if_neg g,if_neg c12] at h;refine ⟨?_,fun k=>by omega⟩;rw [if_neg g,decide_eq_false c12,po,if_neg (by decide)];by_cases c:op=13
 ·rw [if_pos c] at h ⊢;rw [Qp,Jb];exact h
 rw [if_neg c] at h ⊢;clear c;by_cases c:op=14
 ·rw [if_pos c] at h ⊢;rw [Qp,Jb];exact h
 rw [if_neg c] at h ⊢;clear c;by_cases c:op=15
 ·rw [if_pos c] at h ⊢;rw [Qp,Jb];exact h
 rw [if_neg c] at h ⊢;clear c;by_cases c:op=16
 ·rw [if_pos c] at h ⊢;rw [Qp,Jb];exact h
 rw [if_neg c] at h ⊢;clear c;by_cases c:op=17
 ·rw [if_pos c] at h ⊢;rw [Qp,Jb];exact h
 rw [if_neg c] at h;cases h
section
variable {M:Wc}{Vb sent:List (List Int)}{a b:Sd}{Vc:List Int}{fr:List Hc}{l:List Int}{live s bx cst:Int}
theorem ha.to {a':Sd}{V:List Hc}{c:List Int}{d:Int}(b:ha Vb a Vc fr l live) (e:V=a'.Xj) (f:Zh c d a'.ws) (hw:a'.wr+a'.ws.length=400) (g:a'.fr+(a'.low.length+1)=40) (cb:a'.ins=a.ins):ha Vb a' Vc V c d where
 fr:=e
 st:=f
 wr:=hw
 Zf:=g
 Wk:=b.Wk
 fm:=by rw [cb];exact b.fm
 Vc:=by rw [cb];exact b.Vc
 Sk:=b.Sk
theorem rB (a:Sd) (v:Int) (k:Nat):({ a with st:=v::a.st,wr:=k }:Sd).ws=a.ws++[v]:=by simp [Sd.ws]
theorem ha.push {v:Int}(c:ha Vb a Vc fr l live) (h:a.push v=some b) (s bx t:Int):∃ d,dk s bx t l live 8 400 v=some (s,bx,t,d,live+1,8,400)∧ha Vb b Vc fr d (live+1)∧b.out=a.out:=by
 unfold Sd.push at h;have g:=c.wr;split at h
 ·cases h
 ·rename_i k i;obtain rfl:=Option.some.inj h;obtain ⟨d,e,f⟩:=Rx (s:=s) (bx:=bx) (t:=t) (v:=v) c.st (by omega);refine ⟨d,e,c.to (a':={ a with st:=v::a.st,wr:=k }) ?_ ?_ ?_ ?_ rfl,rfl⟩
  ·exact c.fr
  ·rw [rB];exact f
  ·rw [rB,List.length_append,List.length_singleton];simp only;omega
  ·exact c.Zf
theorem ha.pop {v:Int}{r:List Int}(b:ha Vb a Vc fr l live) (h:a.st=v::r) (s bx t:Int):∃ c,fk s bx t l live 8 400=some (v,s,bx,t,c,live - 1,8,400)∧ha Vb { a with st:=r,wr:=a.wr+1 } Vc fr c (live - 1):=by
 have g:a.ws=({ a with st:=r,wr:=a.wr+1 }:Sd).ws++[v]:=by simp [Sd.ws,h]
 have f:=b.st;have d:=b.wr;rw [g] at f d;obtain ⟨c,e,i⟩:=FH (s:=s) (bx:=bx) (t:=t) f;refine ⟨c,e,b.to b.fr i ?_ b.Zf rfl⟩;rw [List.length_append,List.length_singleton] at d;simp only at d ⊢;omega
theorem uI (a:Gk M=true){i:Ic}(c:ha Vb b Vc fr l live) (d:s≤3) (hc:b.code M=some i) (e:i.Op=27→i.A.toNat<b.ins.length) :
  dj M s bx 0 b.out Vb sent Vc cst fr live 8 400 l=some (true,if b.stuck i then 3 else 1,if b.stuck i then i.A else 0,0,b.out,Vb,Vc,sent,cst,fr,l,live,8,400):=by
 rw [dj,kr a c d hc e,Jb]
theorem ha.Uc (b:ha Vb a Vc fr l live) (p:Nat):ha Vb { a with Uc:=p } Vc (fr.set a.low.length ⟨a.u,p,(lg a.low).length⟩) l live :=
 b.to (by rw [b.fr,Ux];rfl) b.st b.wr b.Zf rfl
theorem SA:∀ (n:Nat) (j:Int) (k:Nat) (l ws:List Int) (live s bx t i72:Int) (a:List Hc),Zh l live ws→ws.length+n≤400→0≤j→i72=j+n→i72≤1000→n<k →
  ∃ b,ho a i72 k j s bx t live 8 400 l=some (s,bx,t,a,b,live+n,8,400)∧Zh b (live+n) (ws++List.replicate n 0)
 | 0,j,k+1,l,ws,live,s,bx,t,i72,a,c,f,g,h,d,i=>by
  rw [ho,if_neg (by omega)];exact ⟨l,by simp,by simpa using c⟩
 | n+1,j,k+1,l,ws,live,s,bx,t,i72,a,c,f,g,h,d,i=>by
  obtain ⟨b,e,o⟩:=Rx (s:=s) (bx:=bx) (t:=t) (v:=0) c (by omega);obtain ⟨p,q,m⟩:=SA n (j+1) k b (ws++[0]) (live+1) s bx t i72 a o (by simp;omega) (by omega) (by omega) d (by omega);rw [ho,if_pos (by omega),e,Jb,Hh (by omega),Jb];refine ⟨p,?_,?_⟩
  ·rw [q];have:live+1+(n:Int)=live+((n+1:Nat):Int):=by omega
   rw [this]
  ·have:live+1+(n:Int)=live+((n+1:Nat):Int):=by omega
   rw [this] at m;rw [List.replicate_succ];simpa using m
 | n,j,0,l,ws,live,s,bx,t,i72,a,c,f,g,h,d,i=>by omega
end
end Go.Y
namespace Go.Y
open Go.wc Go.hd
section
variable {M:Wc}{Vb sent:List (List Int)}{a b:Sd}{Vc:List Int}{fr:List Hc}{l:List Int}{live s bx cst:Int}
theorem Ny (a:Sd):((a.Xj.length:Int) - 1)=((a.low.length:Nat):Int):=by rw [Tx];omega
def Fm (M:Wc) (a:Sd) (i:Ic):Option Sd :=
 if i.Op=5 then (match a.st with | _::r=>some { a with st:=r,wr:=a.wr+1 } | []=>none)
 else if i.Op=6 then (match a.st with | v::r=>some { a with st:=Cg (-v)::r } | []=>none)
 else Kn M a i
set_option maxHeartbeats 1000000 in
theorem nG (Z:Gk M=true) (Q:ha Vb a Vc fr l live) (ul:s≤3) (wl:a.out.length≤100000){i:Ic}(hc:a.code M=some i) (d:Fm M { a with Uc:=a.Uc+1 } i=some b){i':Ic}(am:b.code M=some i') (em:i'.Op=27→i'.A.toNat<b.ins.length) :
  ∃ C V n D,sn M s bx 0 a.out Vb Vc sent cst fr l live 8 400=some (true,(if b.stuck i' then 3 else 1),(if b.stuck i' then i'.A else 0),0,b.out,Vb,C,sent,cst,V,n,D,8,400)∧ha Vb b C V n D:=by
 obtain ⟨u,hu,cb⟩:=Ht hc;obtain ⟨⟨pp,sp,up,wp⟩,hm⟩:=Pp Z hu;have gc:=hm _ _ cb;have eq:a.Uc<u.Code.length:=(List.getElem?_eq_some_iff.1 cb).1;have Eq:=Q.Zf;have dg:a.stuck i=false∧(i.Op=27→i.A.toNat<a.ins.length):=by
  by_cases c:i.Op=27
  ·have R:=d;unfold Fm Kn at R;rw [if_neg (by omega),if_neg (by omega),if_neg (by omega),if_neg (by omega),if_neg (by omega),if_neg (by omega),if_neg (by omega),if_neg (by omega),if_neg (by omega),if_neg (by omega),if_neg (by omega),if_pos c] at R;simp only at R;split at R
   ·rename_i x r S;refine ⟨by simp [Sd.stuck,S],fun _=>(List.getElem?_eq_some_iff.1 S).1⟩
   ·cases R
  ·exact ⟨by simp [Sd.stuck,c],fun lm=>absurd lm c⟩
 have id:=kr (sent:=sent) (bx:=bx) Z Q ul hc dg.2;simp only [dg.1,Bool.false_eq_true,if_false] at id;have T:=Q.fr;have rg:((fr.length:Int) - 1)=((a.low.length:Nat):Int):=by rw [T];exact Ny a
 have md:at_ fr ((a.low.length:Nat):Int)=some ⟨a.u,a.Uc,(lg a.low).length⟩:=by rw [T];exact Lu a
 have bi:i64 ((a.Uc:Int)+1)=some (((a.Uc+1:Nat):Int)):=Hh (by omega);have g:=Q.Uc (a.Uc+1);have G:fr.set a.low.length ⟨a.u,((a.Uc+1:Nat):Int),(lg a.low).length⟩=cm a.low++[⟨a.u,((a.Uc+1:Nat):Int),(lg a.low).length⟩]:=by rw [T,Ux]
 rw [G] at g;generalize or:cm a.low++[⟨a.u,((a.Uc+1:Nat):Int),(lg a.low).length⟩]=o at g G;have pm:at_ o ((a.low.length:Nat):Int)=some ⟨a.u,((a.Uc+1:Nat):Int),(lg a.low).length⟩:=by
  rw [g.fr];exact Lu { a with Uc:=a.Uc+1 }
 have sm:∀ p:Nat,fr.set a.low.length ⟨a.u,(p:Int),(lg a.low).length⟩=({ a with Uc:=p }:Sd).Xj:=by
  intro p;rw [T];exact Ux a _
 rw [sn,id,Jb,if_neg (by simp)];simp only [rg];rw [Hh (by omega),Jb,md,Jb,Et];simp only [md,Jb,show at_ M.Gd ((a.u:Nat):Int)=some u by rw [lj,hu],show at_ u.Code ((a.Uc:Nat):Int)=some i by rw [lj,cb],bi,Int.toNat_natCast,G];clear id md bi rg T Q hc hu cb;generalize H:({ a with Uc:=a.Uc+1 }:Sd)=O at g d;have Nm:O.out=a.out:=by rw [← H]
 have K:O.low=a.low:=by rw [← H]
 have qr:O.loc=a.loc:=by rw [← H]
 have Fr:O.Uc=a.Uc+1:=by rw [← H]
 have Or:O.u=a.u:=by rw [← H]
 rw [← Nm] at wl ⊢;have cs:O.ws.length≤400:=by have:=g.wr;omega
 have fin:∀ {b':Sd}{C:List Int}{V:List Hc}{n:List Int}{D:Int},ha Vb b' C V n D→b'=b→b'.out=b.out→∃ ci ii N li,dj M 1 0 0 b'.out Vb sent C cst V D 8 400 n=some (true,(if b.stuck i' then 3 else 1),(if b.stuck i' then i'.A else 0),0,b.out,Vb,ci,sent,cst,ii,N,li,8,400)∧ha Vb b ci ii N li:=by
  intro b' C V n D k e _;subst e;exact ⟨C,V,n,D,uI Z k (by decide) am em,k⟩
 unfold Fm at d;by_cases c5:i.Op=5
 ·rw [if_pos c5] at d;rw [if_neg (by omega),if_neg (by omega),if_neg (by omega),if_neg (by omega),if_pos c5];cases m:O.st with
  | nil=>rw [m] at d; cases d
  | cons v r =>
   rw [m] at d;obtain ⟨n,e,k⟩:=g.pop m 1 0 0;rw [e,Jb];exact fin (b':={ O with st:=r,wr:=O.wr+1 }) k (Option.some.inj d) (by rw [← Option.some.inj d])
 rw [if_neg c5] at d;by_cases yd:i.Op=6
 ·rw [if_pos yd] at d;rw [if_neg (by omega),if_neg (by omega),if_neg (by omega),if_neg (by omega),if_neg c5,if_pos yd];cases m:O.st with
  | nil=>rw [m] at d; cases d
  | cons v r =>
   rw [m] at d;obtain ⟨n,e,k⟩:=g.pop m 1 0 0;obtain ⟨N,F,U,w⟩:=k.push (v:=Cg (0 - v)) (b:={ O with st:=Cg (0 - v)::r }) rfl 1 0 0;rw [e,Jb];simp only;rw [F,Jb];exact fin (b':={ O with st:=Cg (0 - v)::r }) U (by rw [← Option.some.inj d,Int.zero_sub]) (by rw [← Option.some.inj d])
 rw [if_neg yd] at d;unfold Kn at d;by_cases c:i.Op=1
 ·rw [if_pos c] at d ⊢;obtain ⟨n,e,k,w⟩:=g.push d 1 0 0;rw [e,Jb];rw [← w];exact fin k rfl rfl
 rw [if_neg c] at d ⊢;by_cases c:i.Op=2
 ·rw [if_pos c] at d ⊢;obtain ⟨n,e,k,w⟩:=g.push d 1 0 0;rw [e,Jb];rw [← w];exact fin k rfl rfl
 rw [if_neg c] at d ⊢;by_cases c:i.Op=3
 ·rw [if_pos c] at d ⊢;obtain ⟨v,pi,fn⟩:=Option.bind_eq_some_iff.1 d;obtain ⟨n,e,k,w⟩:=g.push fn 1 0 0;have rd:i.A.toNat<O.loc.length:=(List.getElem?_eq_some_iff.1 pi).1;have Pi:O.ws[(lg a.low).length+i.A.toNat]?=some v:=by
   rw [Sd.ws,K,List.getElem?_append_right (by omega),Nat.add_sub_cancel_left,List.getElem?_append_left rd];exact pi
  have wd:((lg a.low).length:Int)+i.A=(((lg a.low).length+i.A.toNat:Nat):Int):=by omega
  have B:(lg a.low).length+i.A.toNat<O.ws.length:=(List.getElem?_eq_some_iff.1 Pi).1;rw [Hh (by omega),Jb,wd,g.st.get Pi,Jb,e,Jb];simp only [Ct,Int.toNat_natCast,G];rw [← w];exact fin k rfl rfl
 rw [if_neg c] at d ⊢;have kk:i.A=((i.A.toNat:Nat):Int):=by omega
 have mk:fr.set a.low.length ⟨a.u,i.A,(lg a.low).length⟩=({ O with Uc:=i.A.toNat }:Sd).Xj:=by
  have:=sm i.A.toNat
  rw [← kk] at this;rw [this,← H]
 by_cases c:i.Op=4
 ·rw [if_pos c] at d ⊢;cases m:O.st with
  | nil=>rw [m] at d; cases d
  | cons v r =>
   rw [m] at d;simp only at d;split at d
   ·rename_i rd;obtain rfl:=Option.some.inj d;obtain ⟨n,e,k⟩:=g.pop m 1 0 0;have W:({ O with st:=r,wr:=O.wr+1 }:Sd).ws=lg a.low++(O.loc++r.reverse):=by simp only [Sd.ws,K]
    have hlen:(lg a.low).length+i.A.toNat<({ O with st:=r,wr:=O.wr+1 }:Sd).ws.length:=by rw [W];simp;omega
    have ds:=k.st.le;have wd:((lg a.low).length:Int)+i.A=(((lg a.low).length+i.A.toNat:Nat):Int):=by omega
    have B:(lg a.low).length+i.A.toNat<O.ws.length:=by rw [Sd.ws,K];simp [m];omega
    rw [e,Jb,Hh (by omega),Jb,wd];simp only [lj,Int.toNat_natCast];rw [List.getElem?_eq_getElem (by omega),Jb];simp only [Dt,Int.toNat_natCast,G];refine fin (b':={ O with st:=r,wr:=O.wr+1,loc:=O.loc.set i.A.toNat v }) (k.to k.fr ?_ ?_ k.Zf rfl) rfl rfl
    ·have F:({ O with st:=r,wr:=O.wr+1,loc:=O.loc.set i.A.toNat v }:Sd).ws=({ O with st:=r,wr:=O.wr+1 }:Sd).ws.set ((lg a.low).length+i.A.toNat) v:=by
      rw [W,List.set_append_right _ _ (by omega),Nat.add_sub_cancel_left,List.set_append_left _ _ rd];simp only [Sd.ws,K]
     rw [F];exact k.st.set
    ·have:=k.wr;simp only [Sd.ws,List.length_append,List.length_set] at this ⊢;exact this
   ·cases d
 rw [if_neg c] at d ⊢;by_cases es:i.Op=5∨i.Op=6∨i.Op=7
 ·rw [if_neg (by omega),if_neg (by omega),if_neg (by omega),if_neg (by omega),if_neg (by omega),if_neg (by omega),if_neg (by omega)] at d;cases d
 rw [if_neg (by omega),if_neg (by omega),if_neg (by omega)];by_cases c:8≤i.Op∧i.Op≤18
 ·rw [if_pos c] at d;rw [if_pos c.1,if_pos (by omega)]
  match m:O.st,d with
  | [],d=>cases d
  | [y],d=>cases d
  | y::x::r,d =>
   obtain ⟨z,on,ok⟩:=Option.bind_eq_some_iff.1 d;obtain ⟨un,dl⟩:=GH on;obtain ⟨n,e,k⟩:=g.pop m 1 0 0;obtain ⟨N,F,U⟩:=k.pop (v:=x) (r:=r) rfl 1 0 0;obtain ⟨Fd,Id,be,w⟩:=U.push (v:=z) (b:={ O with st:=z::r,wr:=O.wr+1 }) rfl 1 0 0;rw [e,Jb,F,Jb];have ce:∀ q,q=false→jo M O.out cst (1,0,0,Vb,Vc,sent,fr) (a.low.length:Int) ⟨a.u,a.Uc,(lg a.low).length⟩ i ((a.Uc+1:Nat):Int) (y,1,0,0,n,live - 1,8,400) (x,1,0,0,N,live - 1 - 1,8,400) q=dj M 1 0 0 O.out Vb sent Vc cst o (live - 1 - 1+1) 8 400 Fd:=by
    intro q wn;subst wn;rw [jo,if_neg (by decide)];simp only [un,Jb,Id,Int.toNat_natCast,G]
   have ge:=fin (b':={ O with st:=z::r,wr:=O.wr+1 }) be (Option.some.inj ok) (by rw [← Option.some.inj ok]);by_cases he:i.Op=11
   ·rw [if_pos he,ce _ (decide_eq_false (dl (.inl he)))];exact ge
   ·rw [if_neg he];by_cases c12:i.Op=12
    ·rw [if_pos c12,ce _ (decide_eq_false (dl (.inr c12)))];exact ge
    ·rw [if_neg c12,ce _ rfl];exact ge
 rw [if_neg c] at d;by_cases c21:i.Op<21
 ·rw [if_neg (by omega),if_neg (by omega),if_neg (by omega),if_neg (by omega),if_neg (by omega),if_neg (by omega)] at d;cases d
 rw [if_pos (by omega),if_neg (by omega)];clear c;by_cases c:i.Op=21
 ·rw [if_pos c] at d ⊢;obtain rfl:=Option.some.inj d;refine fin (b':={ O with Uc:=i.A.toNat }) (g.to mk g.st g.wr g.Zf rfl) rfl rfl
 rw [if_neg c] at d ⊢;by_cases c:i.Op=22
 ·rw [if_pos c] at d ⊢;cases m:O.st with
  | nil=>rw [m] at d; cases d
  | cons v r =>
   rw [m] at d;obtain ⟨n,e,k⟩:=g.pop m 1 0 0;rw [e,Jb];have P:=Option.some.inj d;by_cases Rg:v=0
   ·rw [if_pos Rg] at P;rw [if_pos Rg];exact fin (b':={ O with st:=r,wr:=O.wr+1,Uc:=i.A.toNat }) (k.to mk k.st k.wr k.Zf rfl) P (by rw [← P])
   ·rw [if_neg Rg] at P;rw [if_neg Rg];exact fin (b':={ O with st:=r,wr:=O.wr+1 }) k (by rw [← P]) (by rw [← P])
 rw [if_neg c] at d ⊢;by_cases Fn:i.Op=26
 ·rw [if_neg (by omega),if_neg (by omega),if_neg (by omega),if_neg (by omega)] at d;cases d
 rw [if_neg Fn];by_cases c:i.Op=27
 ·rw [if_neg (by omega),if_neg (by omega),if_pos c] at d;rw [if_pos c];split at d
  ·rename_i x r S;have B:i.A.toNat<Vb.length:=by rw [← g.fm];exact (List.getElem?_eq_some_iff.1 S).1
   obtain ⟨t,In,gs,el⟩:=g.Vc i.A.toNat _ (List.getElem?_eq_getElem B);rw [S] at el;have lc:Vb[i.A.toNat].drop t=x::r:=(Option.some.inj el).symm;have is:t<Vb[i.A.toNat].length:=by
    rcases Nat.lt_or_ge t Vb[i.A.toNat].length with h | h
    ·exact h
    ·rw [List.drop_eq_nil_of_le h] at lc;cases lc
   have ls:=g.Sk _ (List.getElem_mem B);have co:Vb[i.A.toNat][t]?=some x:=by
    have:=congrArg (·[0]?) lc;simpa [List.getElem?_drop] using this
   have nl:i.A.toNat<Vc.length:=by rw [g.Wk];exact B
   have U:ha Vb { O with ins:=O.ins.set i.A.toNat r } (Vc.set i.A.toNat ((t:Int)+1)) o l live:={
    fr:=g.fr
    st:=g.st
    wr:=g.wr
    Zf:=g.Zf
    Wk:=by simpa using g.Wk
    fm:=by simpa using g.fm
    Vc:=by
     intro j f rc;by_cases e:j=i.A.toNat
     ·subst e;rw [List.getElem?_eq_getElem B] at rc;obtain rfl:=Option.some.inj rc;refine ⟨t+1,by rw [List.getElem?_set_self nl];rfl,by omega,?_⟩;have go:i.A.toNat<O.ins.length:=by rw [g.fm];exact B
      simp only;rw [List.getElem?_set_self go,← List.drop_drop,lc];rfl
     ·obtain ⟨t',io,no,ro⟩:=g.Vc j f rc;refine ⟨t',?_,no,?_⟩
      ·rw [List.getElem?_set_ne (Ne.symm e)];exact io
      ·simp only;rw [List.getElem?_set_ne (Ne.symm e)];exact ro
    Sk:=g.Sk }
   obtain ⟨n,e,be,w⟩:=U.push d 1 0 0;have aa:er Vb Vc sent i.A=some (x,Vb,Vc.set i.A.toNat ((t:Int)+1),sent):=by
    rw [er,Km gc.1,In,Jb,Hh (by omega),Jb,Jb,Km gc.1,List.getElem?_set_self nl,Jb,Hh (by omega),Jb,Km gc.1,List.getElem?_eq_getElem B,Jb];rw [show (t:Int)+1 - 1=(t:Int) by omega,lj,co,Jb]
   rw [aa,Jb];simp only [qn,Jb,e];rw [show O.out=b.out from w.symm];exact fin be rfl rfl
  ·cases d
 rw [if_neg c];by_cases c28:i.Op=28
 ·rw [if_neg (by omega),if_neg (by omega),if_neg (by omega),if_pos c28] at d;rw [if_pos c28];cases m:O.st with
  | nil=>rw [m] at d; cases d
  | cons v r =>
   rw [m] at d;obtain ⟨n,e,k⟩:=g.pop m 1 0 0;rw [e,Jb];have Do:app O.out [v]=some (O.out++[v]):=by
    unfold app;rw [if_pos (by simp;omega)]
   simp only [Do,Jb,qn];exact fin (b':={ O with st:=r,wr:=O.wr+1,out:=O.out++[v] }) (k.to k.fr k.st k.wr k.Zf rfl) (Option.some.inj d) (by rw [← Option.some.inj d])
 rw [if_neg c28];by_cases sj:i.Op=23
 ·rw [if_pos sj] at d;rw [br,if_pos sj];obtain ⟨Ac,ol,d⟩:=Option.bind_eq_some_iff.1 d;obtain ⟨⟨Ia,Sa,Bb,wb⟩,fc⟩:=Pp Z ol;split at d
  ·cases d
  ·rename_i f rc;split at d
   ·cases d
   ·rename_i ms;have d:=Option.some.inj d;have fd:=g.st.live;have os:=g.wr;have rs:Ac.Params.toNat≤O.st.length:=by omega
    have us:Ac.od.length - Ac.Params.toNat≤O.wr:=by omega
    have vs:O.st.length≤O.ws.length:=by simp [Sd.ws];omega
    have ne:=g.Zf;have of:(o.length:Int)=((O.low.length+1:Nat):Int):=by rw [g.fr,Tx]
    obtain ⟨n,e,Go⟩:=SA (Ac.od.length - Ac.Params.toNat) 0 ((((Ac.od.length:Int) - Ac.Params - 0).toNat)+1) l O.ws live 1 0 0 ((Ac.od.length:Int) - Ac.Params) (o++[⟨i.A,0,live - Ac.Params⟩]) g.st (by omega) (by omega) (by omega) (by omega) (by omega);have xa:gr M 1 0 0 o l live 8 400 i.A=some (1,0,0,o++[⟨i.A,0,live - Ac.Params⟩],n,live+((Ac.od.length - Ac.Params.toNat:Nat):Int),8,400):=by
     rw [gr,Km gc.1,ol,Jb,Nl,Jb,Hh (by omega),Jb,Bt,if_neg (by omega)];rw [show app o [(⟨i.A,0,live - Ac.Params⟩:Hc)]=some (o++[⟨i.A,0,live - Ac.Params⟩]) by unfold app;rw [if_pos (by simp;omega)],Jb,Hh (by omega),Jb];exact e
    rw [xa,Jb,Jb];have X:b.ws=O.ws++List.replicate (Ac.od.length - Ac.Params.toNat) 0:=by
     rw [← d];simp only [Sd.ws,lg,List.reverse_nil,List.append_nil];have:O.st.reverse=(O.st.drop Ac.Params.toNat).reverse++(O.st.take Ac.Params.toNat).reverse:=by
      rw [← List.reverse_append,List.take_append_drop]
     rw [this];simp only [List.append_assoc]
    have wf:b.out=O.out:=by rw [← d]
    rw [← wf];refine fin (b':=b) (g.to ?_ ?_ ?_ ?_ ?_) rfl rfl
    ·rw [← d];simp only [Sd.Xj,cm,lg];rw [g.fr,Sd.Xj,← kk];have:((lg O.low++(O.loc++(List.drop Ac.Params.toNat O.st).reverse)).length:Int)=live - Ac.Params:=by
      rw [fd,Sd.ws];simp only [List.length_append,List.length_reverse,List.length_drop];omega
     rw [this];rfl
    ·rw [X];exact Go
    ·rw [X,← d];simp only [List.length_append,List.length_replicate];omega
    ·rw [← d];simp only [List.length_cons];omega
    ·rw [← d]
 rw [if_neg sj] at d;rw [if_neg c28] at d;by_cases c24:i.Op=24
 ·rw [if_pos c24] at d;rw [br,if_neg sj,if_pos c24]
  match m:O.st,If:O.low,d with
  | [],_,d=>cases d
  | _::_,[],d=>cases d
  | v::r,f::xs,d =>
   have d:=Option.some.inj d;obtain ⟨n,e,k⟩:=g.pop m 1 0 0;have ne:=g.Zf;have of:((o.length:Int) - 1)=((O.low.length:Nat):Int):=by rw [g.fr,Ny]
   have Y:=k.st;have fd:=Y.live;have W:({ O with st:=r,wr:=O.wr+1 }:Sd).ws=lg O.low++(O.loc++r.reverse):=rfl;rw [W] at Y fd;have hle:=Y.le;have ys:=Y.cb;obtain ⟨N,F,ap⟩:=Sx Y;have pl:=k.wr;rw [W] at pl;simp only [List.length_append,List.length_reverse] at fd hle pl;obtain ⟨Fd,Id,ip⟩:=Rx (s:=1) (bx:=0) (t:=0) (v:=v) ap (by omega);have jp:cut o 0 ((O.low.length:Nat):Int)=some (cm O.low):=by
    unfold cut;rw [if_pos (by omega),g.fr];simp [Sd.Xj,← Wp O.low]
   have mp:(Kq cst o (v,1,0,0,n,live - 1,8,400) (a.u:Int) ((a.Uc+1:Nat):Int) ((lg a.low).length:Int))=some (1,0,0,cst,cm O.low,Fd,live - 1 - ((O.loc++r.reverse).length:Nat)+1,8,400):=by
    rw [Kq,of,Hh (by omega),Jb,jp,Jb,bt];simp only [Nl,Jb];rw [show live - 1 - ((lg a.low).length:Int)=(((O.loc++r.reverse).length:Nat):Int) by rw [← K];simp;omega,Hh (by simp;omega),Jb,F,Jb,Zs];simp only [Id,Jb]
   have op:at_ o ((O.low.length:Nat):Int)=some ⟨a.u,((a.Uc+1:Nat):Int),(lg a.low).length⟩:=by rw [K];exact pm
   rw [e,Jb,of,Hh (by omega),Jb,op,Jb,mp,Jb];have X:b.ws=lg O.low++[v]:=by
    rw [← d,If];simp [Sd.ws,lg]
   have wf:b.out=O.out:=by rw [← d]
   rw [← wf];refine fin (b':=b) (g.to ?_ ?_ ?_ ?_ ?_) rfl rfl
   ·rw [← d,If];rfl
   ·rw [X];exact ip
   ·rw [X,← d];simp only [List.length_append,List.length_singleton];omega
   ·rw [← d];rw [If] at ne;simp only [List.length_cons] at ne;simp only;omega
   ·rw [← d]
 rw [if_neg c24,if_neg c] at d;cases d
end
end Go.Y
namespace Go.Y
open Go.wc Go.hd
structure Tk (c:Zj) (t:Yh):Prop where
 st:t.state=c.state
 up:t.up=c.up
 fr:t.fr=(c.Ob.am [] []).Xj
 uq:Zh t.l t.live (c.Ob.am [] []).ws
 wr:c.Ob.wr+(c.Ob.am [] []).ws.length=400
 Zf:c.Ob.fr+(c.Ob.low.length+1)=40
 Ag:t.Ag=8
 ig:t.ig=400
structure pq (Vb ins:List (List Int)) (Vc:List Int):Prop where
 Wk:Vc.length=Vb.length
 fm:ins.length=Vb.length
 Vc:∀ (i:Nat) (f:List Int),Vb[i]?=some f→∃ t:Nat,Vc[i]?=some (t:Int)∧t≤f.length∧ins[i]?=some (f.drop t)
 Sk:∀ f ∈ Vb,f.length≤65536
section
variable {M:Wc}{Vb sent ins:List (List Int)}{Vc:List Int}{c c':Zj}{t t':Yh}{g Sg:ib}{p Ig:ed}{out:List Int}
theorem Tk.Wo (h:Tk c t) (i:pq Vb ins Vc) (out:List Int):ha Vb (c.Ob.am ins out) Vc t.fr t.l t.live:=⟨h.fr,h.uq,h.wr,h.Zf,i.Wk,i.fm,i.Vc,i.Sk⟩
theorem Tk.of {a:Sd}{fr:List Hc}{l:List Int}{live st:Int}{u:Option Nat}(h:ha Vb a Vc fr l live):Tk ⟨c.state,c.up,a.Ob⟩ ⟨c.state,c.up,fr,l,live,8,400⟩:=⟨rfl,rfl,h.fr,h.st,h.wr,h.Zf,rfl,rfl⟩
theorem pq.of {a:Sd}{fr:List Hc}{l:List Int}{live:Int}(h:ha Vb a Vc fr l live):pq Vb a.ins Vc:=⟨h.Wk,h.fm,h.Vc,h.Sk⟩
structure Eg (Vb:List (List Int)) (g:ib) (Vc:List Int) (p:ed):Prop where
 now:p.now=g.k
 len:p.cs.length=g.cs.length
 co:∀ (i:Nat) (c:Zj),g.cs[i]?=some c→∃ t,p.cs[i]?=some t∧Tk c t
 Uk:pq Vb g.ins Vc
theorem Eg.set (h:Eg Vb g Vc p){j:Nat}(n:Nat) (a:Tk c' t'):Eg Vb { g with k:=n,cs:=g.cs.set j c' } Vc ⟨p.cs.set j t',n⟩ where
 now:=rfl
 len:=by simpa using h.len
 co i c cb:=by
  simp only at cb;rw [List.getElem?_set] at cb;split at cb
  ·rename_i e;subst e;split at cb
   ·rename_i b;obtain rfl:=Option.some.inj cb;exact ⟨t',by simp [h.len,b],a⟩
   ·cases cb
  ·rename_i e;obtain ⟨t,d,f⟩:=h.co i c cb;exact ⟨t,by simp only;rw [List.getElem?_set_ne e];exact d,f⟩
 Uk:=h.Uk
theorem Eg.io (h:Eg Vb g Vc p){a:List (List Int)}{b:List Int}(cb:pq Vb a b) (o:List Int):Eg Vb { g with ins:=a,out:=o } b p:=⟨h.now,h.len,h.co,cb⟩
theorem oG {Ob a:wi}{v:Int}(h:Ob.push v=some a) (ins:List (List Int)) (out:List Int):(Ob.am ins out).push v=some (a.am ins out):=by
 unfold wi.push at h;unfold Sd.push;show (match Ob.wr with | 0=>none | k+1=>some _)=_;split at h
 ·cases h
 ·rename_i k b;(try rw [b]);obtain rfl:=Option.some.inj h;rfl
theorem hv {cs:List Zj}{j:Nat}{v:Int}(h:Eg Vb { g with cs:=cs,k:=j } Vc p) (e:g.to cs j v=some Sg):∃ Ig,tn p 1 0 0 v=some (Ig,1,0,0)∧Eg Vb Sg Vc Ig∧Sg.ins=g.ins∧Sg.out=g.out:=by
 obtain ⟨c,hc,e⟩:=da e;obtain ⟨Ob,f,e⟩:=da e;obtain rfl:=Option.some.inj e;obtain ⟨t,i,a⟩:=h.co j c hc;obtain ⟨m,qa,b,-⟩:=(a.Wo h.Uk []).push (oG f g.ins []) 1 0 0;have d:p.now=j:=h.now;refine ⟨⟨p.cs.set j { t with l:=m,live:=t.live+1 },j⟩,?_,?_,rfl,rfl⟩
 ·rw [tn,d,i,Jb,a.Ag,a.ig,qa,Jb];simp only [ed.put,d]
 ·exact h.set j (c':={ c with Ob:=Ob }) ⟨a.st,a.up,b.fr,b.st,b.wr,b.Zf,a.Ag,a.ig⟩
theorem LI {v:Int}{r:List Int}(h:Eg Vb g Vc p) (hc:g.cs[g.k]?=some c) (d:c.Ob.st=v::r):∃ Ig,Cn p 1 0 0=some (v,Ig,1,0,0)∧Eg Vb { g with cs:=g.cs.set g.k { c with Ob:={ c.Ob with st:=r,wr:=c.Ob.wr+1 } } } Vc Ig:=by
 obtain ⟨t,e,a⟩:=h.co g.k c hc;obtain ⟨f,qa,b⟩:=(a.Wo h.Uk []).pop (v:=v) (r:=r) d 1 0 0;refine ⟨⟨p.cs.set g.k { t with l:=f,live:=t.live - 1 },g.k⟩,?_,?_⟩
 ·rw [Cn,h.now,e,Jb,a.Ag,a.ig,qa,Jb];simp only [ed.put,h.now]
 ·exact h.set g.k (c':={ c with Ob:={ c.Ob with st:=r,wr:=c.Ob.wr+1 } }) ⟨a.st,a.up,b.fr,b.st,b.wr,b.Zf,a.Ag,a.ig⟩
theorem pG {l:List Int}(h:l.length≤4294967296):app ([]:List Int) l=some l:=by
 unfold app;rw [if_pos (by simpa using h)];rfl
theorem vI {n:Nat}(h:Eg Vb g Vc p) (hc:g.cs[g.k]?=some c) (r:n≤c.Ob.st.length):∃ Ig,Du p 1 0 0 (n:Int)=some ((c.Ob.st.take n).reverse,Ig,1,0,0)∧Eg Vb { g with cs:=g.cs.set g.k { c with Ob:={ c.Ob with st:=c.Ob.st.drop n,wr:=c.Ob.wr+n } } } Vc Ig:=by
 obtain ⟨t,f,a⟩:=h.co g.k c hc;have b:(c.Ob.am [] []).ws=(({ c.Ob with st:=c.Ob.st.drop n,wr:=c.Ob.wr+n }:wi).am [] []).ws++(c.Ob.st.take n).reverse:=by
  simp only [Sd.ws,wi.am];have:c.Ob.st.reverse=(c.Ob.st.drop n).reverse++(c.Ob.st.take n).reverse:=by rw [← List.reverse_append,List.take_append_drop]
  rw [this];simp only [List.append_assoc]
 have d:=a.uq;have hlen:((c.Ob.st.take n).reverse).length=n:=by simp;omega
 have s:c.Ob.st.length≤(c.Ob.am [] []).ws.length:=by simp [Sd.ws,wi.am];omega
 have i:=a.wr;have j:=d.live;have hle:=d.le;rw [b] at d;obtain ⟨m,qa,e⟩:=Sx d;rw [hlen] at qa e;have o:cut t.l 0 t.live=some (c.Ob.am [] []).ws:=by
  unfold cut;rw [if_pos (by omega),j];have:=a.uq.take;simp [this]
 have q:cut (c.Ob.am [] []).ws (t.live - n) ((c.Ob.am [] []).ws.length:Int)=some (c.Ob.st.take n).reverse:=by
  have u:(c.Ob.am [] []).ws.length=(({ c.Ob with st:=c.Ob.st.drop n,wr:=c.Ob.wr+n }:wi).am [] []).ws.length+n:=by rw [b,List.length_append,hlen]
  unfold cut;rw [if_pos (by omega)];rw [show (t.live - n).toNat=(({ c.Ob with st:=c.Ob.st.drop n,wr:=c.Ob.wr+n }:wi).am [] []).ws.length by omega,Int.toNat_natCast,List.take_length,b,List.drop_left]
 refine ⟨⟨p.cs.set g.k { t with l:=m,live:=t.live - n },g.k⟩,?_,?_⟩
 ·rw [Du,h.now,f,Jb,Cu,qu,a.Ag,a.ig,o,Jb,pG (by omega),Jb,Jb,Nl,Jb,Hh (by omega),Jb,q,Jb,qa,Jb,Jb];simp only [ed.put,h.now]
 ·refine h.set g.k (c':={ c with Ob:={ c.Ob with st:=c.Ob.st.drop n,wr:=c.Ob.wr+n } }) ⟨a.st,a.up,a.fr,e,?_,a.Zf,a.Ag,a.ig⟩;rw [b,List.length_append,hlen] at i;show c.Ob.wr+n+(({ c.Ob with st:=c.Ob.st.drop n,wr:=c.Ob.wr+n }:wi).am [] []).ws.length=400;omega
theorem sB {u:Int}{args:List Int}{U:ef}(g:U.od.length≤400) (h:args.length≤U.od.length):∀ (n i:Nat) (l:List Int) (live:Int),i≤U.od.length→U.od.length<n+i→Zh l live ((args++List.replicate (U.od.length - args.length) 0).take i) →
  ∃ b,gm u args U n (i:Int) live 8 400 l=some (0,[⟨u,0,0⟩],b,(U.od.length:Int),8,400)∧Zh b (U.od.length:Int) (args++List.replicate (U.od.length - args.length) 0)
 | 0,i,l,live,j,k,a=>by omega
 | n+1,i,l,live,j,k,a=>by
  have hlen:(args++List.replicate (U.od.length - args.length) (0:Int)).length=U.od.length:=by simp;omega
  have m:live=i:=by
   have:=a.live;rw [List.length_take,hlen] at this;omega
  rw [gm];by_cases c:i<U.od.length
  ·rw [if_pos (by omega)];obtain ⟨o,qa,e⟩:=RA (v:=(args++List.replicate (U.od.length - args.length) 0)[i]'(by omega)) a (by rw [List.length_take];omega);have p:(args++List.replicate (U.od.length - args.length) 0).take i++[(args++List.replicate (U.od.length - args.length) 0)[i]'(by omega)]=(args++List.replicate (U.od.length - args.length) 0).take (i+1):=(List.take_succ_eq_append_getElem (by omega)).symm;rw [p] at e;obtain ⟨f,q,r⟩:=sB g h n (i+1) o (live+1) c (by omega) e;have key:∀ x,x=(args++List.replicate (U.od.length - args.length) 0)[i]'(by omega)→np (i:Int) live 8 400 l (gm u args U n) x=some (0,[⟨u,0,0⟩],f,(U.od.length:Int),8,400):=by
    intro x s;subst s;rw [np,qa,Jb,Hh (by omega),Jb];exact q
   refine ⟨f,?_,r⟩;by_cases d:i<args.length
   ·rw [if_pos (by omega),lj,List.getElem?_eq_getElem d,Jb];exact key _ (by rw [List.getElem_append_left d])
   ·rw [if_neg (by omega)];exact key _ (by rw [List.getElem_append_right (by omega)];simp)
  ·rw [if_neg (by omega)];obtain rfl:i=U.od.length:=by omega
   rw [show (args++List.replicate (U.od.length - args.length) (0:Int)).take U.od.length=args++List.replicate (U.od.length - args.length) 0 from List.take_of_length_le (by omega)] at a;subst m;exact ⟨l,rfl,a⟩
theorem lF {u:Int}{args:List Int}{U:ef}(hu:at_ M.Gd u=some U) (b:U.od.length≤400) (c:args.length≤U.od.length) :
  ∃ a,Kp M u args=some (0,[⟨u,0,0⟩],a,(U.od.length:Int),8,400)∧Zh a (U.od.length:Int) (args++List.replicate (U.od.length - args.length) 0):=by
 have Qa:Tu 8 400=some (List.replicate 8 0,0,8,400):=rfl;rw [Kp,Qa,Jb,hu,Jb];exact sB b c _ 0 _ 0 (by omega) (by omega) ⟨by simp,by simp,by simp,by simp,by simp⟩
end
end Go.Y
namespace Go.Y
open Go.wc Go.hd
section
variable {M:Wc}{Vb sent ins:List (List Int)}{Vc:List Int}{c c' d:Zj}{t t':Yh}{g Sg:ib}{p Ig:ed}{out:List Int}{Ob:wi}
theorem Eg.MI (h:Eg Vb { g with cs:=g.cs.set g.k c } Vc p) (n:Nat) (a:Tk c' t'):Eg Vb { g with k:=n,cs:=g.cs.set g.k c' } Vc ⟨p.cs.set g.k t',n⟩:=by
 have:=h.set (j:=g.k) n a;simpa only [List.set_set] using this
theorem Eg.at (h:Eg Vb { g with cs:=g.cs.set g.k c } Vc p) (a:g.k<g.cs.length):∃ t,p.cs[g.k]?=some t∧Tk c t:=h.co g.k c (by simp [a])
theorem tB {j st:Nat}{v:Int}(b:g.k<g.cs.length) (h:Eg Vb { g with cs:=g.cs.set g.k { c with Ob:=Ob } } Vc p) (hu:c.up=some j) (e:g.to (g.cs.set g.k { c with state:=st,up:=none,Ob:=Ob }) j v=some Sg) :
  ∃ q,yo p 1 0 0 (st:Int) v=some (q,1,0,0)∧Eg Vb Sg Vc q∧Sg.ins=g.ins∧Sg.out=g.out:=by
 obtain ⟨t,d,a⟩:=h.at b;have f:=h.MI (c':={ c with state:=st,up:=none,Ob:=Ob }) (t':={ t with state:=(st:Int),up:=none }) j ⟨rfl,rfl,a.fr,a.uq,a.wr,a.Zf,a.Ag,a.ig⟩;obtain ⟨q,qa,i,l⟩:=hv (g:=g) f e;refine ⟨q,?_,i,l⟩;have m:p.now=g.k:=h.now;have n:t.up=some j:=a.up.trans hu;rw [yo,m,d,Jb,n,Jb];exact qa
theorem Mu {v:Int}{r:List Int}(a:g.k<g.cs.length) (h:Eg Vb { g with cs:=g.cs.set g.k { c with Ob:=Ob } } Vc p) (b:Ob.st=v::r) :
  ∃ q,Cn p 1 0 0=some (v,q,1,0,0)∧Eg Vb { g with cs:=g.cs.set g.k { c with Ob:={ Ob with st:=r,wr:=Ob.wr+1 } } } Vc q:=by
 obtain ⟨q,qa,d⟩:=LI (c:={ c with Ob:=Ob }) h (by simp [a]) b;exact ⟨q,qa,by simpa only [List.set_set] using d⟩
theorem Eg.add (h:Eg Vb g Vc p) (b:Tk c' t'):Eg Vb { g with cs:=g.cs++[c'] } Vc ⟨p.cs++[t'],p.now⟩ where
 now:=h.now
 len:=by simpa using h.len
 co i c cb:=by
  simp only at cb;rcases Nat.lt_trichotomy i g.cs.length with a | a | a
  ·rw [List.getElem?_append_left a] at cb;obtain ⟨t,d,e⟩:=h.co i c cb;exact ⟨t,by simp only;rw [List.getElem?_append_left (by rw [h.len];exact a)];exact d,e⟩
  ·subst a;rw [List.getElem?_append_right (Nat.le_refl _),Nat.sub_self] at cb;obtain rfl:=Option.some.inj cb;exact ⟨t',by simp only;rw [← h.len,List.getElem?_append_right (Nat.le_refl _),Nat.sub_self];rfl,b⟩
  ·rw [List.getElem?_append_right (by omega),List.getElem?_eq_none (by simp;omega)] at cb;cases cb
 Uk:=h.Uk
theorem mF (gc:Gk M=true){i:Ic}(f:g.k<g.cs.length) (hc:g.cs[g.k]?=some c) (h:Eg Vb { g with cs:=g.cs.set g.k { c with Ob:=Ob } } Vc p) (z:0≤i.A∧i.A≤4000) (e:tq M g c Ob i=some Sg) (Id:i.Op=25∨(29≤i.Op∧i.Op≤32)) :
  ∃ q,oi M p 1 0 0 i=some (q,1,0,0)∧Eg Vb Sg Vc q∧Sg.ins=g.ins∧Sg.out=g.out:=by
 unfold tq at e;by_cases B:i.Op=29
 ·rw [if_pos B] at e;rw [oi,if_neg (by omega),if_pos B,vx];obtain ⟨u,hu,e⟩:=da e;obtain ⟨⟨be,ce,ge,he⟩,-⟩:=Pp gc hu;split at e
  ·cases e
  ·rename_i S;have lc:u.Params=((u.Params.toNat:Nat):Int):=by omega
   have rc:({ g with cs:=g.cs.set g.k { c with Ob:=Ob } }:ib).cs[({ g with cs:=g.cs.set g.k { c with Ob:=Ob } }:ib).k]?=some { c with Ob:=Ob }:=by simp [f]
   obtain ⟨q,qa,a⟩:=vI (n:=u.Params.toNat) h rc (by simp only;omega);rw [← lc] at qa;simp only [List.set_set] at a;obtain ⟨T,s,W⟩:=lF (M:=M) (u:=i.A) (args:=(Ob.st.take u.Params.toNat).reverse) (U:=u) ((Km z.1).trans hu) (by omega) (by simp;omega);have X:q.cs.length=g.cs.length:=by have:=a.len;simpa using this
   have fd:((Ob.st.take u.Params.toNat).reverse).length=u.Params.toNat:=by simp;omega
   have l:=a.add (c':=⟨0,none,⟨i.A.toNat,0,(Ob.st.take u.Params.toNat).reverse++List.replicate (u.od.length - u.Params.toNat) 0,[],[],400 - u.od.length,39⟩⟩) (t':=⟨0,none,[⟨i.A,0,0⟩],T,(u.od.length:Int),8,400⟩)
    ⟨rfl,rfl,by show [(⟨i.A,0,0⟩:Hc)]=[⟨((i.A.toNat:Nat):Int),((0:Nat):Int),((lg []).length:Int)⟩];rw [Int.toNat_of_nonneg z.1];rfl,by rw [fd] at W;simpa [Sd.ws,wi.am,lg] using W,by simp [Sd.ws,wi.am,lg];omega,rfl,rfl,rfl⟩
   obtain ⟨m,t,o,w⟩:=hv (g:=g) (j:=g.k) l e;refine ⟨m,?_,o,w⟩;rw [Km z.1,hu,Jb,qa,Jb,if_neg (by rw [ed.length,X];omega),s,Jb,qn,Jb];have C:(((q.cs++[Yh.mk 0 none [⟨i.A,0,0⟩] T (u.od.length:Int) 8 400]).length:Int) - 1)=(g.cs.length:Int):=by
    rw [List.length_append,X];simp
   rw [C,Hh (by omega),Jb];exact t
 rw [if_neg B] at e;by_cases D:i.Op=30
 ·rw [if_pos D] at e;rw [oi,if_neg (by omega),if_neg (by omega),if_pos D]
  match x:Ob.st,e with
  | [],e=>cases e
  | [_],e=>cases e
  | v::j::r,e =>
   simp only at e;obtain ⟨d,rb,e⟩:=da e;split at e
   ·cases e
   ·rename_i S;obtain ⟨Y,qa,a⟩:=Mu f h x;obtain ⟨m,s,l⟩:=Mu (r:=r) f a rfl;rw [qa,Jb,s,Jb,if_neg (by omega),Qq,if_neg (by rw [show m.now=g.k from l.now];omega)];have id:g.k≠j.toNat:=by omega
    obtain ⟨F,G,b⟩:=l.co j.toNat d (by simp only;rw [List.getElem?_set_ne id];exact rb);have md:m.now=g.k:=l.now;have o:=l.set (j:=j.toNat) (c':={ d with state:=2,up:=some g.k }) (t':={ F with state:=2,up:=some m.now }) j.toNat ⟨rfl,by rw [md],b.fr,b.uq,b.wr,b.Zf,b.Ag,b.ig⟩;rw [G,Jb,b.st];by_cases le:d.state=0
    ·rw [if_pos (by omega)] at e ⊢;obtain rfl:=Option.some.inj e;exact ⟨_,rfl,o,rfl,rfl⟩
    ·rw [if_neg (by omega)] at e ⊢;by_cases ne:d.state=1
     ·rw [if_pos (by omega)] at e ⊢;obtain ⟨H,t,w,K⟩:=hv (g:=g) o e;exact ⟨H,t,w,K⟩
     ·rw [if_neg (by omega)] at e;cases e
 rw [if_neg D] at e;by_cases N:i.Op=31
 ·rw [if_pos N] at e;rw [oi,if_neg (by omega),if_neg (by omega),if_neg (by omega),if_pos N]
  match x:Ob.st,P:c.up,e with
  | [],_,e=>cases e
  | _::_,none,e=>cases e
  | v::r,some j,e =>
   obtain ⟨Y,qa,a⟩:=Mu f h x;obtain ⟨m,s,l⟩:=tB f a P e;rw [qa,Jb];exact ⟨m,s,l⟩
 rw [if_neg N] at e;by_cases Q:i.Op=25
 ·rw [if_pos Q] at e;rw [oi,if_pos Q]
  match P:c.up,e with
  | none,e=>cases e
  | some j,e=>exact tB f h P e
 rw [if_neg Q,if_neg (by omega),if_neg (by omega)] at e;by_cases R:i.Op=32
 ·rw [if_pos R] at e;rw [oi,if_neg (by omega),if_neg (by omega),if_neg (by omega),if_neg (by omega),if_pos R]
  match x:Ob.st,e with
  | [],e=>cases e
  | j::r,e =>
   simp only at e;split at e
   ·cases e
   ·rename_i S;obtain ⟨d,rb,e⟩:=da e;obtain ⟨Y,qa,a⟩:=Mu f h x;rw [qa,Jb,if_neg (by omega)];have rd:∃ y,(g.cs.set g.k { c with Ob:={ Ob with st:=r,wr:=Ob.wr+1 } })[j.toNat]?=some y∧y.state=d.state:=by
     by_cases Z:g.k=j.toNat
     ·rw [← Z] at rb ⊢;rw [hc] at rb;obtain rfl:=Option.some.inj rb;exact ⟨_,List.getElem?_set_self f,rfl⟩
     ·exact ⟨d,by rw [List.getElem?_set_ne Z];exact rb,rfl⟩
    obtain ⟨y,wd,Fd⟩:=rd;obtain ⟨F,G,b⟩:=a.co j.toNat y wd;have C:(Rm (F.state≠3))=if d.state=3 then 0 else 1:=by
     rw [b.st,Fd];unfold Rm;by_cases o:(d.state:Int)=3
     ·rw [if_neg (by omega),if_pos (by omega)]
     ·rw [if_pos o,if_neg (by omega)]
    rw [G,Jb,Qp,Jb,C];obtain ⟨H,t,w,K⟩:=hv (g:=g) a e;exact ⟨H,t,w,K⟩
 rw [if_neg R] at e;cases e
end
end Go.Y
namespace Go.Y
open Go.wc Go.hd
section
variable {M:Wc}{Vb sent:List (List Int)}{Vc:List Int}{c c' d:Zj}{t t':Yh}{g Sg:ib}{p Ig:ed}{s bx:Int}
def ib.Uo (M:Wc) (g:ib) (i:Ic):Prop:=∃ c,g.cs[g.k]?=some c∧(c.Ob.am g.ins g.out).code M=some i∧(i.Op=27→i.A.toNat<g.ins.length)
def ib.pk (g:ib) (i:Ic):Bool:=decide (i.Op=27) && decide (g.ins[i.A.toNat]?=some [])
theorem TA (b:Gk M=true) (h:Eg Vb g Vc p) (d:s≤3){i:Ic}(f:g.Uo M i) :
  ∃ Ig,Sp M p s bx 0 Vb Vc sent=some (Ig,if g.pk i then 3 else 1,if g.pk i then i.A else 0,0,Vb,Vc,sent)∧Eg Vb g Vc Ig:=by
 obtain ⟨c,hc,cb,l⟩:=f;obtain ⟨t,m,a⟩:=h.co g.k c hc;have e:=kr (sent:=sent) (bx:=bx) b (a.Wo h.Uk g.out) d cb l;refine ⟨⟨p.cs.set g.k t,g.k⟩,?_,?_⟩
 ·rw [Sp,h.now,m,Jb,e,Jb];simp only [ed.put,h.now];rfl
 ·have:=h.set (j:=g.k) g.k a;rwa [show g.cs.set g.k c=g.cs by
   obtain ⟨o,n⟩:=List.getElem?_eq_some_iff.1 hc;rw [← n,List.set_getElem_self]] at this
theorem Vx (j:Gk M=true) (h:Eg Vb g Vc p) (r:s≤3) (hc:g.cs[g.k]?=some c){i:Ic}(cb:(c.Ob.am g.ins g.out).code M=some i) (v:i.Op=27→i.A.toNat<g.ins.length) (out:List Int) :
  ∃ t,p.cs[g.k]?=some t∧Tk c t∧((g.pk i=true→Dn M p s bx 0 out Vb Vc sent=none) ∧
   (g.pk i=false→∃ P,Eg Vb { g with cs:=g.cs.set g.k { c with Ob:={ c.Ob with Uc:=c.Ob.Uc+1 } } } Vc P ∧
    Dn M p s bx 0 out Vb Vc sent=(oi M P 1 0 0 i).bind fun q=>(Sp M q.1 q.2.1 q.2.2.1 q.2.2.2 Vb Vc sent).bind fun z=>some (true,z.1,z.2.1,z.2.2.1,z.2.2.2.1,out,z.2.2.2.2.1,z.2.2.2.2.2.1,z.2.2.2.2.2.2))):=by
 obtain ⟨t,d,a⟩:=h.co g.k c hc;have l:=a.Wo h.Uk g.out;have e:=kr (sent:=sent) (bx:=bx) j l r cb v;have w:(c.Ob.am g.ins g.out).stuck i=g.pk i:=rfl;rw [w] at e;refine ⟨t,d,a,fun f=>?_,fun f=>?_⟩
 ·rw [Dn,h.now,d,Jb,e,Jb,f];rfl
 ·obtain ⟨u,hu,m⟩:=Ht cb;obtain ⟨⟨C,D,F,G⟩,H⟩:=Pp j hu;have x:(c.Ob.am g.ins g.out).Uc<u.Code.length:=(List.getElem?_eq_some_iff.1 m).1;have K:=a.Zf;have n:=l.fr;have y:((t.fr.length:Int) - 1)=((c.Ob.low.length:Nat):Int):=by rw [n];exact Ny _
  have o:at_ t.fr ((c.Ob.low.length:Nat):Int)=some ⟨c.Ob.u,c.Ob.Uc,(lg c.Ob.low).length⟩:=by rw [n];exact Lu _
  have N:c.Ob.Uc<u.Code.length:=x;have B:i64 ((c.Ob.Uc:Int)+1)=some (((c.Ob.Uc+1:Nat):Int)):=Hh (by omega);refine ⟨⟨p.cs.set g.k { t with fr:=t.fr.set c.Ob.low.length ⟨c.Ob.u,((c.Ob.Uc+1:Nat):Int),(lg c.Ob.low).length⟩ },g.k⟩,?_,?_⟩
  ·have b:=(a.Wo h.Uk []).Uc (c.Ob.Uc+1);exact h.set g.k (c':={ c with Ob:={ c.Ob with Uc:=c.Ob.Uc+1 } }) ⟨a.st,a.up,b.fr,b.st,b.wr,b.Zf,a.Ag,a.ig⟩
  ·rw [Dn,h.now,d,Jb,e,Jb,f];simp only [Bool.false_eq_true,if_false];rw [if_neg (by simp),y,Hh (by omega),Jb,o,Jb,Wt];simp only [o,Jb];rw [show at_ M.Gd ((c.Ob.u:Nat):Int)=some u by rw [lj];exact hu,Jb];rw [show at_ u.Code ((c.Ob.Uc:Nat):Int)=some i by rw [lj];exact m,Jb,B,Jb];simp only [ed.put,h.now,Int.toNat_natCast]
theorem XD {i:Ic}(c:¬ (i.Op=25∨(29≤i.Op∧i.Op≤32))) (a b e:Int):oi M p a b e i=none:=by
 rw [oi,if_neg (by omega),if_neg (by omega),if_neg (by omega),if_neg (by omega),if_neg (by omega)]
theorem qG (b:Gk M=true){a:Sd}{i:Ic}(cb:a.code M=some i):0≤i.A∧i.A≤4000:=by
 obtain ⟨u,hu,c⟩:=Ht cb;have:=(Pp b hu).2 _ _ c;exact ⟨this.1,this.2.1⟩
theorem UA (m:Gk M=true) (h:Eg Vb g Vc p) (n:s≤3) (y:g.out.length≤100000) (hc:g.cs[g.k]?=some c){i:Ic}(cb:(c.Ob.am g.ins g.out).code M=some i) (z:¬ (i.Op=25∨(29≤i.Op∧i.Op≤32))){b:Sd}
  (B:Fm M { c.Ob.am g.ins g.out with Uc:=c.Ob.Uc+1 } i=some b) (C:i.Op=27→i.A.toNat<g.ins.length) {i':Ic}(D:({ g with cs:=g.cs.set g.k { c with Ob:=b.Ob },ins:=b.ins,out:=b.out }:ib).Uo M i') :
  ∃ Ig d o F,vn M p s bx 0 g.out Vb Vc sent=some (true,Ig,o,F,0,b.out,Vb,d,sent)∧Eg Vb { g with cs:=g.cs.set g.k { c with Ob:=b.Ob },ins:=b.ins,out:=b.out } d Ig∧o≤3:=by
 obtain ⟨t,G,a,H,K⟩:=Vx (sent:=sent) (bx:=bx) m h n hc cb C g.out;have N:Dn M p s bx 0 g.out Vb Vc sent=none:=by
  cases q:g.pk i with
  | true=>exact H q
  | false =>
   obtain ⟨P,-,e⟩:=K q;rw [e,XD z];rfl
 have Q:g.k<g.cs.length:=(List.getElem?_eq_some_iff.1 hc).1;obtain ⟨c2,r,R,S⟩:=D;simp only [List.getElem?_set_self Q,Option.some.injEq] at r;subst r;obtain ⟨d,V,v,w,e,x⟩:=nG (sent:=sent) (cst:=t.state) (bx:=bx) m (a.Wo h.Uk g.out) n y cb B (i':=i') R S;have f:=Tk.of (c:=c) (st:=0) (u:=none) x;have T:Tk { c with Ob:=b.Ob } { t with fr:=V,l:=v,live:=w }:=⟨a.st,a.up,f.fr,f.uq,f.wr,f.Zf,a.Ag,a.ig⟩;have U:=(h.set (j:=g.k) g.k T).io (pq.of x) b.out;refine ⟨_,d,(if b.stuck i' then 3 else 1),(if b.stuck i' then i'.A else 0),?_,U,by split<;>omega⟩;rw [vn,N];simp only;have W:sn M s bx 0 g.out Vb Vc sent t.state t.fr t.l t.live 8 400=some (true,(if b.stuck i' then 3 else 1),(if b.stuck i' then i'.A else 0),0,b.out,Vb,d,sent,t.state,V,v,w,8,400):=e;rw [ru,h.now,G,Jb,a.Ag,a.ig,W,Jb];simp only [ed.put,h.now]
theorem nF (d:Gk M=true) (h:Eg Vb g Vc p) (l:s≤3) (o:g.out.length≤100000) (e:Dr M g=some Sg){i':Ic}(m:Sg.Uo M i') :
  ∃ Ig u w C,vn M p s bx 0 g.out Vb Vc sent=some (true,Ig,w,C,0,Sg.out,Vb,u,sent)∧Eg Vb Sg u Ig∧w≤3:=by
 obtain ⟨c,hc,e⟩:=da e;obtain ⟨i,cb,e⟩:=da e;have D:=qG d cb;have F:g.k<g.cs.length:=(List.getElem?_eq_some_iff.1 hc).1;by_cases n:i.Op=25∨(29≤i.Op∧i.Op≤32)
 ·have f:xn i.Op=true:=by
   unfold xn;have:i.Op=25∨i.Op=29∨i.Op=30∨i.Op=31∨i.Op=32:=by omega
   rcases this with h | h | h | h | h<;>rw [h]<;>rfl
  rw [if_pos f] at e;obtain ⟨t,X,Y,Z,G⟩:=Vx (sent:=sent) (bx:=bx) d h l hc cb (by omega) g.out;have j:g.pk i=false:=by
   have:i.Op≠27:=by omega
   simp [ib.pk,this]
  obtain ⟨P,H,K⟩:=G j;obtain ⟨q,qa,N,gc,Q⟩:=mF d F hc H D e n;obtain ⟨Ig,R,S⟩:=TA (sent:=sent) (s:=1) (bx:=0) d N (by decide) m;refine ⟨Ig,Vc,(if Sg.pk i' then 3 else 1),(if Sg.pk i' then i'.A else 0),?_,S,by split<;>omega⟩;rw [vn,K,qa,Jb];simp only [R,Jb,Q]
 ·by_cases y:i.Op=5∨i.Op=6
  ·have f:xn i.Op=true:=by
    unfold xn;rcases y with h | h<;>rw [h]<;>rfl
   rw [if_pos f] at e;unfold tq at e;rw [if_neg (by omega),if_neg (by omega),if_neg (by omega),if_neg (by omega)] at e;have key:∃ b,Fm M { c.Ob.am g.ins g.out with Uc:=c.Ob.Uc+1 } i=some b∧Sg={ g with cs:=g.cs.set g.k { c with Ob:=b.Ob },ins:=b.ins,out:=b.out }:=by
    rcases y with z | B
    ·rw [if_pos z] at e;unfold Fm;rw [if_pos z];show ∃ b,(match c.Ob.st with | _::r=>some _ | []=>none)=some b∧_;simp only at e;split at e
     ·rename_i v r j;rw [j];exact ⟨_,rfl,(Option.some.inj e).symm⟩
     ·cases e
    ·rw [if_neg (by omega),if_pos B] at e;unfold Fm;rw [if_neg (by omega),if_pos B];show ∃ b,(match c.Ob.st with | v::r=>some _ | []=>none)=some b∧_;simp only at e;split at e
     ·rename_i v r j;rw [j];exact ⟨_,rfl,(Option.some.inj e).symm⟩
     ·cases e
   obtain ⟨b,a,rfl⟩:=key;exact UA d h l o hc cb n a (by omega) m
  ·have f:xn i.Op=false:=by
    unfold xn;simp only [Bool.or_eq_false_iff,decide_eq_false_iff_not];omega
   rw [f] at e;simp only [Bool.false_eq_true,if_false] at e;obtain ⟨b,a,e⟩:=da e;obtain rfl:=Option.some.inj e;have T:Fm M { c.Ob.am g.ins g.out with Uc:=c.Ob.Uc+1 } i=some b:=by
    unfold Fm;rw [if_neg (by omega),if_neg (by omega)];exact a
   refine UA d h l o hc cb n T (fun U=>?_) m;unfold Kn at a;rw [if_neg (by omega),if_neg (by omega),if_neg (by omega),if_neg (by omega),if_neg (by omega),if_neg (by omega),if_neg (by omega),if_neg (by omega),if_neg (by omega),if_pos U] at a;simp only at a;split at a
   ·rename_i x r W;exact (List.getElem?_eq_some_iff.1 W).1
   ·cases a
end
end Go.Y
namespace Go.Y
open Go.wc Go.hd
theorem tu {b c:Sd}{v:Int}(a:c.push v=some b):b.out=c.out:=by
 unfold Sd.push at a;split at a
 ·cases a
 ·rw [← Option.some.inj a]
theorem zE {M:Wc}{b c:Sd}{i:Ic}(h:Kn M c i=some b):b.out.length≤c.out.length+1:=by
 unfold Kn at h;by_cases d:i.Op=1
 ·rw [if_pos d] at h;rw [tu h];omega
 rw [if_neg d] at h;clear d;by_cases d:i.Op=2
 ·rw [if_pos d] at h;rw [tu h];omega
 rw [if_neg d] at h;clear d;by_cases d:i.Op=3
 ·rw [if_pos d] at h;obtain ⟨v,-,a⟩:=Option.bind_eq_some_iff.1 h;rw [tu a];omega
 rw [if_neg d] at h;clear d;by_cases d:i.Op=4
 ·rw [if_pos d] at h;split at h
  ·split at h
   ·rw [← Option.some.inj h];simp
   ·cases h
  ·cases h
 rw [if_neg d] at h;clear d;by_cases d:8≤i.Op∧i.Op≤18
 ·rw [if_pos d] at h;split at h
  ·obtain ⟨v,-,a⟩:=Option.bind_eq_some_iff.1 h;rw [← Option.some.inj a];simp
  ·cases h
 rw [if_neg d] at h;clear d;by_cases d:i.Op=21
 ·rw [if_pos d] at h;rw [← Option.some.inj h];simp
 rw [if_neg d] at h;clear d;by_cases d:i.Op=22
 ·rw [if_pos d] at h;split at h
  ·rw [← Option.some.inj h];simp
  ·cases h
 rw [if_neg d] at h;clear d;by_cases d:i.Op=23
 ·rw [if_pos d] at h;obtain ⟨v,-,a⟩:=Option.bind_eq_some_iff.1 h;split at a
  ·cases a
  ·split at a
   ·cases a
   ·rw [← Option.some.inj a];simp
 rw [if_neg d] at h;clear d;by_cases d:i.Op=24
 ·rw [if_pos d] at h;split at h
  ·rw [← Option.some.inj h];simp
  ·cases h
 rw [if_neg d] at h;clear d;by_cases d:i.Op=27
 ·rw [if_pos d] at h;split at h
  ·rw [tu h];simp
  ·cases h
 rw [if_neg d] at h;clear d;by_cases d:i.Op=28
 ·rw [if_pos d] at h;split at h
  ·rw [← Option.some.inj h];simp
  ·cases h
 rw [if_neg d] at h;cases h
theorem rr {g Sg:ib}{cs:List Zj}{j:Nat}{v:Int}(e:g.to cs j v=some Sg):Sg.out=g.out:=by
 obtain ⟨c,hc,e⟩:=da e;obtain ⟨Ob,a,e⟩:=da e;obtain rfl:=Option.some.inj e;rfl
theorem HH {M:Wc}{g Sg:ib}{c:Zj}{Ob:wi}{i:Ic}(e:tq M g c Ob i=some Sg):Sg.out=g.out:=by
 unfold tq at e;by_cases d:i.Op=29
 ·rw [if_pos d] at e;obtain ⟨u,-,e⟩:=da e;split at e
  ·cases e
  ·exact rr e
 rw [if_neg d] at e;clear d;by_cases d:i.Op=30
 ·rw [if_pos d] at e;split at e
  ·obtain ⟨a,-,e⟩:=da e;split at e
   ·cases e
   ·simp only at e;split at e
    ·rw [← Option.some.inj e]
    ·split at e
     ·exact rr e
     ·cases e
  ·cases e
 rw [if_neg d] at e;clear d;by_cases d:i.Op=31
 ·rw [if_pos d] at e;split at e
  ·exact rr e
  ·cases e
 rw [if_neg d] at e;clear d;by_cases d:i.Op=25
 ·rw [if_pos d] at e;split at e
  ·exact rr e
  ·cases e
 rw [if_neg d] at e;clear d;by_cases d:i.Op=5
 ·rw [if_pos d] at e;split at e
  ·rw [← Option.some.inj e]
  ·cases e
 rw [if_neg d] at e;clear d;by_cases d:i.Op=6
 ·rw [if_pos d] at e;split at e
  ·rw [← Option.some.inj e]
  ·cases e
 rw [if_neg d] at e;clear d;by_cases d:i.Op=32
 ·rw [if_pos d] at e;split at e
  ·split at e
   ·cases e
   ·obtain ⟨a,-,e⟩:=da e;exact rr e
  ·cases e
 rw [if_neg d] at e;cases e
theorem YD {M:Wc}{g Sg:ib}(e:Dr M g=some Sg):Sg.out.length≤g.out.length+1:=by
 obtain ⟨c,hc,e⟩:=da e;obtain ⟨i,cb,e⟩:=da e;split at e
 ·rw [HH e];omega
 ·obtain ⟨b,a,e⟩:=da e;obtain rfl:=Option.some.inj e;exact zE (c:={ c.Ob.am g.ins g.out with Uc:=c.Ob.Uc+1 }) a
section
variable {M:Wc}{Vb sent:List (List Int)}
theorem AE {g Sg:ib}(e:Dr M g=some Sg):∃ i,g.Uo M i:=by
 obtain ⟨c,hc,e⟩:=da e;obtain ⟨i,cb,e⟩:=da e;refine ⟨i,c,hc,cb,fun d=>?_⟩;have f:xn i.Op=false:=by rw [d];rfl
 rw [f] at e;simp only [Bool.false_eq_true,if_false] at e;obtain ⟨b,a,e⟩:=da e;unfold Kn at a;rw [if_neg (by omega),if_neg (by omega),if_neg (by omega),if_neg (by omega),if_neg (by omega),if_neg (by omega),if_neg (by omega),if_neg (by omega),if_neg (by omega),if_pos d] at a;simp only at a;split at a
 ·rename_i x r h;exact (List.getElem?_eq_some_iff.1 h).1
 ·cases a
theorem uB (r:Gk M=true):∀ (n:Nat) (g b:ib) (i':Ic) (Vc:List Int) (p:ed) (s bx i:Int) (k:Nat),Eg Vb g Vc p→s≤3→g.out.length+n≤100000→tl M n g=some b→b.Uo M i'→0≤i→i+n≤5000 →
  ∃ a f e Ig,km M 5000 (k+n) i s bx 0 p g.out Vc Vb sent=km M 5000 k (i+n) a f 0 Ig b.out e Vb sent∧Eg Vb b e Ig∧a≤3
 | 0,g,b,i',Vc,p,s,bx,i,k,l,m,t,h,o,u,v=>by
  cases h;exact ⟨s,bx,Vc,p,by simp,l,m⟩
 | n+1,g,b,i',Vc,p,s,bx,i,k,l,m,t,h,o,u,v=>by
  obtain ⟨c,hc,q⟩:=da h;have w:∃ j,c.Uo M j:=by
   cases n with
   | zero=>cases q; exact ⟨i',o⟩
   | succ n =>
    obtain ⟨d,rb,-⟩:=da q;exact AE rb
  obtain ⟨j,x⟩:=w;obtain ⟨Ia,y,s1,z,qa,A,B⟩:=nF (sent:=sent) (bx:=bx) r l m (by omega) hc x;have G:=YD hc;obtain ⟨a,f,e,Ig,C,D,F⟩:=uB r n c b i' y Ia s1 z (i+1) k A B (by omega) q o (by omega) (by omega);refine ⟨a,f,e,Ig,?_,D,F⟩;rw [show k+(n+1)=(k+n)+1 by omega,km,if_pos (by omega),qa,Jb];simp only [if_true];rw [Hh (by omega),Jb,C];congr 1;omega
theorem oF (a:Gk M=true){g:ib}{o:List Int}{n:Nat}{Vc:List Int}{p:ed}{s bx:Int}{k:Nat}(z:Eg Vb g Vc p) (B:s≤3) (C:g.out=[]) (e:Ak M g o n) (R:n<5000) (S:5000≤k) :
  ∃ r:Qj,km M 5000 k 0 s bx 0 p g.out Vc Vb sent=some (r,0)∧r.State=3∧r.Out=o:=by
 obtain ⟨m,b,hm,D,⟨c,i,hc,cb,F,T,u⟩,G⟩:=e;have d:i.A.toNat<b.ins.length:=(List.getElem?_eq_some_iff.1 u).1;obtain ⟨H,f,v,Ig,qa,h,w⟩:=uB (sent:=sent) a m g b i Vc p s bx 0 (k - m) z B (by rw [C];simp;omega) D ⟨c,hc,cb,fun _=>d⟩ (by omega) (by omega);rw [show k=(k - m)+m by omega,qa];obtain ⟨x,K⟩:∃ x,k - m=x+1:=⟨k - m - 1,by omega⟩;obtain ⟨t,N,j,P,U⟩:=Vx (sent:=sent) (bx:=f) a h w hc cb (fun _=>d) b.out;have y:b.pk i=true:=by simp [ib.pk,F,u]
 have q:=kr (sent:=sent) (bx:=f) a (j.Wo h.Uk b.out) w cb (fun _=>d);rw [show (c.Ob.am b.ins b.out).stuck i=true from y] at q;simp only [if_true] at q;have Q:sn M H f 0 b.out Vb v sent t.state t.fr t.l t.live 8 400=some (false,3,i.A,0,b.out,Vb,v,sent,t.state,t.fr,t.l,t.live,8,400):=by
  rw [sn,q,Jb,if_pos (by simp)]
 rw [K,km,if_pos (by omega),vn,P y];simp only;rw [ru,h.now,N,Jb,j.Ag,j.ig,Q,Jb,Jb,if_neg (by simp)];exact ⟨_,rfl,rfl,G⟩
structure qq (M:Wc) (Vb:List (List Int)):Prop where
 n:Vb.length=M.Qe.length
 rz:Vb.length≤1000
 Sk:∀ f ∈ Vb,f.length≤65536
 ty:∀ (i:Nat) (f:List Int) (b:Vj),Vb[i]?=some f→M.Qe[i]?=some b→b.ue=2→∀ v ∈ f,v=0∨v=1
theorem xA (a:qq M Vb){i:Nat}{f:List Int}(cb:Vb[i]?=some f) (K:Int→Option (Qj×Int)):∀ (k j:Nat),j≤f.length→f.length<k+j→El M (i:Int) f K k (j:Int)=K ((i:Int)+1)
 | 0,j,d,e=>by omega
 | k+1,j,d,e=>by
  have g:i<Vb.length:=(List.getElem?_eq_some_iff.1 cb).1;have m:=a.rz;have o:=a.Sk f (List.mem_of_getElem? cb);rw [El];by_cases c:j<f.length
  ·rw [if_pos (by omega),lj,List.getElem?_eq_getElem c,Jb,lj];have b:i<M.Qe.length:=by rw [← a.n];exact g
   rw [List.getElem?_eq_getElem b,Jb];have go:∀ q,q=false→ko (j:Int) (El M (i:Int) f K k) q=K ((i:Int)+1):=by
    intro q h;subst h;rw [ko,if_neg (by decide),Hh (by omega),Jb];exact xA a cb K k (j+1) c (by omega)
   split
   ·rename_i l;have:=a.ty i f _ cb (List.getElem?_eq_getElem b) l f[j] (List.getElem_mem c);split
    ·rename_i p;exact go _ (decide_eq_false (by omega))
    ·exact go _ rfl
   ·exact go _ rfl
  ·rw [if_neg (by omega),Hh (by omega),Jb]
theorem VA (fu:Nat) (Sa wb:Int) (a:List Int) (b:qq M Vb):∀ (k i:Nat),i≤Vb.length→Vb.length<k+i →
  mm fu M Sa Vb wb a k (i:Int)=Nq fu M Sa Vb wb a (List.replicate Vb.length 0) (List.replicate Vb.length [])
 | 0,i,d,e=>by omega
 | k+1,i,d,e=>by
  have f:=b.rz;rw [mm];by_cases c:i<Vb.length
  ·rw [if_pos (by omega),lj,List.getElem?_eq_getElem c,Jb];have:=xA b (List.getElem?_eq_getElem c) (mm fu M Sa Vb wb a k) (Vb[i].length+1) 0 (by omega) (by omega);rw [show ((0:Nat):Int)=0 from rfl] at this;rw [this];exact VA fu Sa wb a b k (i+1) c (by omega)
  ·rw [if_neg (by omega)];have:Qk (Vb.length:Int)=some Vb.length:=by
    unfold Qk;rw [if_pos (by omega)];simp
   rw [this,Jb,Jb]
structure tz (fu:Nat) (M:Wc) (un nl:Nat):Prop where
 ok:Gk M=true
 UI:(Vt fu M).map (fun w=>w.Th)=some 0
 Cv:(ou M).bind (fun l=>l[0]?)=some (un:Int)
 ka:Uu M (un:Int)=some (⟨[⟨2,none,[(⟨(un:Int),0,0⟩:Hc)],List.replicate 8 (0:Int),(nl:Int),8,400⟩],0⟩,1,0,0,[])
 nl:nl≤8
 VI:∃ u,M.Gd[un]?=some u∧∃ i,u.Code[0]?=some i∧(i.Op=27→i.A.toNat<M.Qe.length)
theorem rG {un nl:Nat}(a:nl≤8) (b:qq M Vb):Eg Vb (g0 un nl Vb) (List.replicate Vb.length (0:Int)) ⟨[⟨2,none,[(⟨(un:Int),0,0⟩:Hc)],List.replicate 8 (0:Int),(nl:Int),8,400⟩],0⟩ where
 now:=rfl
 len:=rfl
 co i c cb:=by
  have d:i<1:=by simpa [g0] using (List.getElem?_eq_some_iff.1 cb).1
  obtain rfl:i=0:=by omega
  obtain rfl:=Option.some.inj cb;refine ⟨_,rfl,⟨rfl,rfl,rfl,⟨by simp,by simp,by simp [Sd.ws,wi.am,lg],by simp [Sd.ws,wi.am,lg];omega,?_⟩,by simp [Sd.ws,wi.am,lg];omega,rfl,rfl,rfl⟩⟩;simp only [Sd.ws,wi.am,lg,List.reverse_nil,List.append_nil,List.nil_append,List.length_replicate,List.take_replicate];rw [Nat.min_eq_left a]
 Uk:=⟨by simp,rfl,fun i f h=>⟨0,by
  have:i<Vb.length:=(List.getElem?_eq_some_iff.1 h).1;simp [this],by omega,by simpa [g0] using h⟩,b.Sk⟩
theorem mD {fu:Nat}{un nl n:Nat}{o:List Int}(a:tz fu M un nl) (b:qq M Vb) (v:5001≤fu) (e:Ak M (g0 un nl Vb) o n) (f:n<5000) :
  ∃ r:Qj,hr fu M 0 Vb 5000=some (r,0)∧r.State=3∧r.Out=o:=by
 obtain ⟨w,g,hw⟩:=Option.map_eq_some_iff.1 a.UI;obtain ⟨Cv,h,d⟩:=Option.bind_eq_some_iff.1 a.Cv;have x:0<Cv.length:=(List.getElem?_eq_some_iff.1 d).1;obtain ⟨u,hu,i,cb,j⟩:=a.VI;have l:=rG (un:=un) a.nl b;have m:(g0 un nl Vb).Uo M i:=by
  refine ⟨_,rfl,?_,fun c=>by show _<Vb.length;rw [b.n];exact j c⟩;show (M.Gd[un]?).bind (fun u=>u.Code[0]?)=some i;rw [hu];exact cb
 obtain ⟨Ig,p,q⟩:=TA (sent:=List.replicate Vb.length []) (s:=1) (bx:=0) a.ok l (by decide) m;obtain ⟨r,qa,t⟩:=oF (sent:=List.replicate Vb.length []) (bx:=if (g0 un nl Vb).pk i=true then i.A else 0) a.ok q (s:=if (g0 un nl Vb).pk i=true then 3 else 1) (by split<;>omega) rfl e f (k:=fu) (by omega);refine ⟨r,?_,t⟩;rw [hr,g,Jb,if_neg (by simp [hw]),h,Jb,if_neg (by decide),if_neg (by omega),if_neg (by decide),if_neg (by decide),if_neg (by rw [b.n];simp)];have:=VA fu 0 5000 Cv b (Vb.length+1) 0 (by omega) (by omega);rw [show ((0:Nat):Int)=0 from rfl] at this;rw [this,Nq,Km (by decide)];simp only [Int.toNat_zero];rw [d,Jb,a.ka,Jb];simp only [p,Jb];exact qa
end
theorem vB (l:List Int) (a:l.length≤65536):∀ (n i:Nat),i≤l.length→l.length<n+i→xp l l n (i:Int)=some true
 | 0,i,b,d=>by omega
 | n+1,i,b,d=>by
  rw [xp];by_cases c:i<l.length
  ·rw [if_pos (by omega),lj,List.getElem?_eq_getElem c,Jb,Jb,if_neg (by simp),Hh (by omega),Jb];exact vB l a n (i+1) c (by omega)
  ·rw [if_neg (by omega)]
theorem sG (l:List Int) (a:l.length≤65536):jr l l=some true:=by
 rw [jr,if_neg (by simp)];exact vB l a _ 0 (by omega) (by omega)
theorem pF {fu:Nat}{name:List UInt8}{M:Wc}{un nl n:Nat}{Vb:List (List Int)}{o:List Int}(hm:Rq fu name=some (M,0)) (a:tz fu M un nl) (b:qq M Vb) (c:5001≤fu)
  (e:Ak M (g0 un nl Vb) o n) (d:n<5000) (f:o.length≤65536):Np fu name o Vb=some true:=by
 obtain ⟨r,g,h,i⟩:=mD a b c e d;rw [Np,Vu,hm,Jb,if_neg (by simp),g,Jb,Jb,if_pos rfl,if_pos h,i,sG o f,Jb]
theorem NI {M:Wc}{l:List Int}{c:Int}(d:M.Qe=[⟨1,c⟩]) (e:l.length≤65536):qq M [l] where
 n:=by rw [d];rfl
 rz:=by simp
 Sk f g:=by obtain rfl:=List.mem_singleton.1 g;exact e
 ty i f b j a h:=by
  rw [d] at a;have cb:i<1:=by simpa using (List.getElem?_eq_some_iff.1 a).1
  obtain rfl:i=0:=by omega
  cases a;cases h
theorem QB {l xs:List Int}(h:l.length+xs.length≤4294967296):app l xs=some (l++xs):=if_pos h
end Go.Y
namespace Go.Y
open Go.wc Go.hd
theorem BE:tz 60001 Vp 1 2:=⟨by decide +kernel,by decide +kernel,by decide +kernel,by kernel_rfl,by decide,⟨_,rfl,_,rfl,by decide⟩⟩
theorem CE:Rq 60001 [116,117,114,110,115]=some (Vp,0):=by decide +kernel
theorem RB (i:Nat):Mo (i:Int) 2=some ((i % 2:Nat):Int):=by
 unfold Mo;rw [if_neg (by decide),Int.tmod_eq_emod_of_nonneg (by omega)];rfl
theorem WA (l:List Int) (b:l.length≤60):∀ (m n i:Nat) (acc:List Int),l.length - i≤m→i≤l.length→i % 2=0→l.length<n+i→acc.length≤i →
  Wm 60001 l n (i:Int) acc=Option.bind (Np 60001 [116,117,114,110,115] (acc++tk (l.drop i)) [l]) fun r=>some r
 | m,0,i,acc,d,e,f,g,h=>by omega
 | m,n+1,i,acc,d,e,f,g,h=>by
  rw [Wm];by_cases c:i<l.length
  ·rw [if_pos (by omega),lj,List.getElem?_eq_getElem c,Jb,RB,Jb,if_pos (by omega),QB (by simp;omega),Jb,Hh (by omega),Jb,show ((i:Int)+1)=((i+1:Nat):Int) by omega];obtain ⟨a,rfl⟩:∃ a,n=a+1:=⟨n - 1,by omega⟩;rw [Wm];by_cases c2:i+1<l.length
   ·rw [if_pos (by omega),lj,List.getElem?_eq_getElem c2,Jb,RB,Jb,if_neg (by omega),QB (by simp;omega),Jb,Hh (by omega),Jb];cases m with
    | zero=>omega
    | succ m =>
     have:=WA l b m a (i+2) (acc++[Cg (l[i]+1)]++[Cg (l[i+1] - 1)]) (by omega) (by omega) (by omega) (by omega) (by simp;omega);rw [show (((i+1:Nat):Int)+1)=((i+2:Nat):Int) by omega,this,List.drop_eq_getElem_cons c,List.drop_eq_getElem_cons c2,tk,Int.sub_eq_add_neg];simp only [List.append_assoc,List.cons_append,List.nil_append]
   ·rw [if_neg (by omega),List.drop_eq_getElem_cons c,List.drop_eq_nil_of_le (by omega),tk]
  ·rw [if_neg (by omega),List.drop_eq_nil_of_le (by omega),tk,List.append_nil]
theorem jA:∀ l:List Int,(tk l).length=l.length
 | []=>rfl
 | [x]=>rfl
 | x::y::l=>by simp [tk,jA l]
theorem SC (l:List Int):Tq 60001 l=some true:=by
 rw [Tq];by_cases c:(60:Int)<l.length
 ·rw [if_pos c]
 ·rw [if_neg c];have h:=WA l (by omega) l.length (l.length+1) 0 [] (by omega) (by omega) rfl (by omega) (by simp);have a:=jA l;rw [show ((0:Nat):Int)=0 from rfl] at h;rw [h,List.drop_zero,List.nil_append,pF (n:=20*l.length+60) CE BE (NI rfl (by omega)) (by decide) (WD l) (by omega) (by omega),Jb]
end Go.Y
