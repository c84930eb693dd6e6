/- The shelf: texts of ShelfGcd Pl. -/
import Derived.Test.YtaenlbapejigbaaGreatDoorCMd
import Derived.ProofKit
set_option linter.unusedSimpArgs false
set_option linter.unusedVariables false
set_option linter.unusedSectionVars false
namespace Go.Y
open Go.Wk Go.Xt
def r9_same_l1 (p_1:List Int) (p_2:List Int):Nat→Int→Option Bool
 | 0,_=>none
 | n+1,i26 =>
  if i26<(p_1.length:Int) then
   (at_ p_1 i26).bind fun x47 =>
   (at_ p_2 i26).bind fun x55 =>
   if x47≠x55 then
    some false
   else
    (i64 (i26+1)).bind fun i65 =>
    r9_same_l1 p_1 p_2 n i65
  else
   some true
def r9_same  (p_1:List Int) (p_2:List Int):Option Bool :=
 if (p_1.length:Int)≠(p_2.length:Int) then
  some false
 else
  r9_same_l1 p_1 p_2 (p_1.length+1) 0
def l12_small_j1 (i17:Int) (k_l12_small_l1:Int→Option Bool) (b40:Bool):Option Bool :=
 if b40=true then
  some false
 else
  (i64 (i17+1)).bind fun i44 =>
  k_l12_small_l1 i44
def l12_small_l1 (p_1:List Int) (p_2:Int):Nat→Int→Option Bool
 | 0,_=>none
 | n+1,i17 =>
  if i17<(p_1.length:Int) then
   (at_ p_1 i17).bind fun x32 =>
   if x32<(w64 (0 - p_2)) then
    l12_small_j1 i17 (l12_small_l1 p_1 p_2 n) true
   else
    l12_small_j1 i17 (l12_small_l1 p_1 p_2 n) (decide (p_2<x32))
  else
   some true
def l12_small  (p_1:List Int) (p_2:Int):Option Bool :=
 if (12:Int)<(p_1.length:Int) then
  some false
 else
  l12_small_l1 p_1 p_2 (p_1.length+1) 0
def l12_says (fu:Nat)  (p_1:List UInt8) (p_2:List Int) (p_3:List (List Int)):Option Bool :=
 (sh_ask fu p_1 p_3).bind fun r7 =>
 if r7.2=0 then
  if r7.1.State=3 then
   (r9_same r7.1.Out p_2).bind fun r23 =>
   some r23
  else
   some false
 else
  some false
def law_gcd_j2 (i164:Int) (i165:Int) (k_law_gcd_l2:Int→Int→Option Bool) (b176:Bool):Option Bool :=
 if b176=true then
  k_law_gcd_l2 i165 (w64 (i165+1))
 else
  k_law_gcd_l2 i164 (w64 (i165+1))
def law_gcd_l2 (i67:Int) (l70:List Int) (x134:Int) (x144:Int) (k_law_gcd_l1:Int→(List Int)→Option Bool):Nat→Int→Int→Option Bool
 | 0,_,_=>none
 | n+1,i164,i165 =>
  if i165≤1000 then
   (remt x134 i165).bind fun i177 =>
   if i177=0 then
    (remt x144 i165).bind fun i180 =>
    if i180=0 then
     law_gcd_j2 i164 i165 (law_gcd_l2 i67 l70 x134 x144 k_law_gcd_l1 n) (decide ((0:Int)<(w64 (x134+x144))))
    else
     law_gcd_j2 i164 i165 (law_gcd_l2 i67 l70 x134 x144 k_law_gcd_l1 n) false
   else
    law_gcd_j2 i164 i165 (law_gcd_l2 i67 l70 x134 x144 k_law_gcd_l1 n) false
  else
   (app l70 [i164]).bind fun l189 =>
   (i64 (i67+2)).bind fun i192 =>
   k_law_gcd_l1 i192 l189
def law_gcd_j1 (fu:Nat) (i67:Int) (l70:List Int) (x134:Int) (x144:Int) (k_law_gcd_l1:Int→(List Int)→Option Bool) (b152:Bool):Option Bool :=
 if b152=true then
  some true
 else
  law_gcd_l2 i67 l70 x134 x144 k_law_gcd_l1 fu 0 1
def law_gcd_l1 (fu:Nat) (p_1:List Int):Nat→Int→(List Int)→Option Bool
 | 0,_,_=>none
 | n+1,i67,l70 =>
  (i64 (i67+1)).bind fun i131 =>
  if i131<(p_1.length:Int) then
   (at_ p_1 i67).bind fun x134 =>
   (i64 (i67+1)).bind fun i142 =>
   (at_ p_1 i142).bind fun x144 =>
   if x134<0 then
    law_gcd_j1 fu i67 l70 x134 x144 (law_gcd_l1 fu p_1 n) true
   else
    law_gcd_j1 fu i67 l70 x134 x144 (law_gcd_l1 fu p_1 n) (decide (x144<0))
  else
   (l12_says fu [103,99,100] l70 [p_1]).bind fun r203 =>
   some r203
def law_gcd (fu:Nat)  (p_1:List Int):Option Bool :=
 (l12_small p_1 1000).bind fun r4 =>
 if r4=true then
  law_gcd_l1 fu p_1 fu 0 []
 else
  some true
end Go.Y
namespace Go.Y
open Go.Wk Go.Xt
structure Fr where
 u:Nat
 pc:Nat
 loc:List Int
 st:List Int
structure Am where
 u:Nat
 pc:Nat
 loc:List Int
 st:List Int
 low:List Fr
 wr:Nat
 fr:Nat
 ins:List (List Int)
 out:List Int
def tr (p:Prop) [Decidable p]:Int:=if p then 1 else 0
def two (op a b:Int):Option Int :=
 if op=8 then some (w64 (a+b)) else if op=9 then some (w64 (a - b)) else if op=10 then some (w64 (a*b))
 else if op=11 then (if b=0 then none else some (w64 (a.tdiv b))) else if op=12 then (if b=0 then none else some (a.tmod b))
 else if op=13 then some (tr (a=b)) else if op=14 then some (tr (a≠b)) else if op=15 then some (tr (a<b)) else if op=16 then some (tr (a≤b))
 else if op=17 then some (tr (b<a)) else none
def Am.push (a:Am) (v:Int):Option Am :=
 match a.wr with
 | 0=>none
 | k+1=>some { a with st:=v::a.st,wr:=k }
def stepI (M:TModule) (a:Am) (i:TInstr):Option Am :=
 if i.Op=1 then a.push i.N
 else if i.Op=2 then a.push i.A
 else if i.Op=3 then (a.loc[i.A.toNat]?).bind a.push
 else if i.Op=4 then (match a.st with | v::r=>if i.A.toNat<a.loc.length then some { a with st:=r,wr:=a.wr+1,loc:=a.loc.set i.A.toNat v } else none | []=>none)
 else if 8≤i.Op∧i.Op≤18 then (match a.st with | y::x::r=>(two i.Op x y).bind fun z=>some { a with st:=z::r,wr:=a.wr+1 } | _=>none)
 else if i.Op=21 then some { a with pc:=i.A.toNat }
 else if i.Op=22 then (match a.st with | v::r=>some { a with st:=r,wr:=a.wr+1,pc:=if v=0 then i.A.toNat else a.pc } | []=>none)
 else if i.Op=23 then (M.Units[i.A.toNat]?).bind fun u=>match a.fr with
  | 0=>none
  | f+1=>if a.st.length<u.Params.toNat∨a.wr<u.Locals.length - u.Params.toNat then none
   else some { a with u:=i.A.toNat,pc:=0,loc:=(a.st.take u.Params.toNat).reverse++List.replicate (u.Locals.length - u.Params.toNat) 0,st:=[],low:=⟨a.u,a.pc,a.loc,a.st.drop u.Params.toNat⟩::a.low,fr:=f,wr:=a.wr - (u.Locals.length - u.Params.toNat) }
 else if i.Op=24 then (match a.st,a.low with
  | v::r,f::fs=>some { a with u:=f.u,pc:=f.pc,loc:=f.loc,st:=v::f.st,low:=fs,fr:=a.fr+1,wr:=a.wr+r.length+a.loc.length }
  | _,_=>none)
 else if i.Op=27 then (match a.ins[i.A.toNat]? with
  | some (x::r)=>({ a with ins:=a.ins.set i.A.toNat r }:Am).push x
  | _=>none)
 else if i.Op=28 then (match a.st with | v::r=>some { a with st:=r,wr:=a.wr+1,out:=a.out++[v] } | []=>none)
 else none
def Am.code (M:TModule) (a:Am):Option TInstr:=(M.Units[a.u]?).bind fun u=>u.Code[a.pc]?
def astep (M:TModule) (a:Am):Option Am:=(a.code M).bind fun i=>stepI M { a with pc:=a.pc+1 } i
def arun (M:TModule):Nat→Am→Option Am
 | 0,a=>some a
 | n+1,a=>(astep M a).bind (arun M n)
theorem arun_add (M:TModule):∀ (n m:Nat) (a b:Am),arun M n a=some b→arun M (n+m) a=arun M m b
 | 0,m,a,b,h=>by cases h; rw [Nat.zero_add]
 | n+1,m,a,b,h=>by
  rw [show n+1+m=(n+m)+1 by omega]
  simp only [arun] at h ⊢
  cases hs:astep M a with
  | none=>rw [hs] at h; cases h
  | some c=>rw [hs] at h; exact arun_add M n m c b h
def Am.waits (M:TModule) (a:Am):Prop:=∃ i,a.code M=some i∧i.Op=27∧0≤i.A∧a.ins[i.A.toNat]?=some []
def Ends (M:TModule) (a:Am) (o:List Int) (k:Nat):Prop:=∃ n b,n≤k∧arun M n a=some b∧b.waits M∧b.out=o
theorem Ends.go {M:TModule} {a b:Am} {o:List Int} {n k:Nat} (h:arun M n a=some b) (e:Ends M b o k):Ends M a o (n+k):=by
 obtain ⟨m,c,h1,h2,h3,h4⟩:=e
 exact ⟨n+m,c,by omega,by rw [arun_add M n m a b h]; exact h2,h3,h4⟩
theorem Ends.mono {M:TModule} {a:Am} {o:List Int} {k k':Nat} (e:Ends M a o k) (h:k≤k'):Ends M a o k':=by
 obtain ⟨m,c,h1,h2,h3,h4⟩:=e
 exact ⟨m,c,by omega,h2,h3,h4⟩
end Go.Y
namespace Go.Y
def m_gcd:TModule:=⟨[⟨1,20⟩],[⟨2,2,[1,1],1,0,[⟨3,1,0⟩,⟨1,0,0⟩,⟨13,0,0⟩,⟨22,7,0⟩,⟨3,0,0⟩,⟨24,0,0⟩,⟨21,7,0⟩,⟨3,1,0⟩,⟨3,0,0⟩,⟨3,1,0⟩,⟨12,0,0⟩,⟨23,0,0⟩,⟨24,0,0⟩,⟨1,0,0⟩,⟨24,0,0⟩]⟩,⟨4,0,[],0,0,[⟨2,1,0⟩,⟨22,7,0⟩,⟨27,0,0⟩,⟨27,0,0⟩,⟨23,0,0⟩,⟨28,0,0⟩,⟨21,0,0⟩,⟨25,0,0⟩]⟩]⟩
end Go.Y
namespace Go.Y
open Go.Wk Go.Xt
def t0 (u pc:Nat) (loc st:List Int) (wr:Nat) (ins:List (List Int)) (out:List Int):Am:=⟨u,pc,loc,st,[],wr,39,ins,out⟩
theorem tr_y {p:Prop} [Decidable p] (h:p):tr p=1:=if_pos h
theorem tr_n {p:Prop} [Decidable p] (h:¬ p):tr p=0:=if_neg h
theorem Ends.to {M:TModule} {a:Am} {o o':List Int} {k k':Nat} (e:Ends M a o k) (ho:o=o') (h:k≤k'):Ends M a o' k':=ho ▸ e.mono h
def Goes (M:TModule) (a b:Am) (k:Nat):Prop:=∃ n,n≤k∧arun M n a=some b
theorem Goes.go {M:TModule} {a b c:Am} {n k:Nat} (h:arun M n a=some b) (e:Goes M b c k):Goes M a c (n+k):=by
 obtain ⟨m,h1,h2⟩:=e
 exact ⟨n+m,by omega,by rw [arun_add M n m a b h]; exact h2⟩
theorem Goes.of {M:TModule} {a b:Am} {n:Nat} (h:arun M n a=some b):Goes M a b n:=⟨n,Nat.le_refl _,h⟩
theorem Goes.trans {M:TModule} {a b c:Am} {n k:Nat} (h:Goes M a b n) (e:Goes M b c k):Goes M a c (n+k):=by
 obtain ⟨i,h1,h2⟩:=h
 obtain ⟨m,h3,h4⟩:=e
 exact ⟨i+m,by omega,by rw [arun_add M i m a b h2]; exact h4⟩
theorem Goes.to {M:TModule} {a b b':Am} {k k':Nat} (e:Goes M a b k) (hb:b=b') (h:k≤k'):Goes M a b' k':=by
 subst hb
 obtain ⟨n,h1,h2⟩:=e
 exact ⟨n,by omega,h2⟩
theorem Ends.goes {M:TModule} {a b:Am} {o:List Int} {n k:Nat} (h:Goes M a b n) (e:Ends M b o k):Ends M a o (n+k):=by
 obtain ⟨i,h1,h2⟩:=h
 exact (Ends.go h2 e).mono (by omega)
theorem Ends.wait {M:TModule} {a b:Am} {o:List Int} {n:Nat} {A:Int} (h:arun M n a=some b) (hc:b.code M=some ⟨27,A,0⟩) (hA:0≤A) (hi:b.ins[A.toNat]?=some []) (ho:b.out=o):Ends M a o n :=
 ⟨n,b,Nat.le_refl _,h,⟨_,hc,rfl,hA,hi⟩,ho⟩
end Go.Y
namespace Go.Y
open Go.Wk Go.Xt
theorem mod_step {M:TModule} {a b:Am} {x y:Int} {f:Int→Am} (h:arun M 1 a=Option.bind (Option.bind (two 12 x y) fun z=>some (f z)) (arun M 0)) (hy:y≠0) (hb:f (x.tmod y)=b):arun M 1 a=some b:=by
 rw [h]
 simp [two,hy,arun,hb]
def gcdF:Nat→Int→Int→Int
 | 0,a,_=>a
 | k+1,a,b=>if b=0 then a else gcdF k b (a.tmod b)
def gcdB:Nat→Int→Int→Bool
 | 0,_,_=>false
 | k+1,a,b=>if b=0 then true else gcdB k b (a.tmod b)
theorem gcd_goes:∀ (k:Nat) (a b:Int) (W F:Nat) (f:Fr) (low:List Fr) (ins:List (List Int)) (o:List Int),gcdB k a b=true→2*k≤W→k≤F+1 →
  Goes m_gcd ⟨0,0,[a,b],[],f::low,W+4,F,ins,o⟩ ⟨f.u,f.pc,f.loc,gcdF k a b::f.st,low,W+5,F+1,ins,o⟩ (10*k)
 | 0,a,b,W,F,f,low,ins,o,h1,h3,h4=>by cases h1
 | k+1,a,b,W,F,f,low,ins,o,h1,h3,h4=>by
  have h:arun m_gcd 3 ⟨0,0,[a,b],[],f::low,W+4,F,ins,o⟩=some ⟨0,3,[a,b],[tr (b=0)],f::low,W+3,F,ins,o⟩:=by kernel_rfl
  by_cases c:b=0
  ·rw [tr_y c] at h
   exact .to (.go h (.of (n:=3) (b:=⟨f.u,f.pc,f.loc,a::f.st,low,W+5,F+1,ins,o⟩) (by kernel_rfl))) (by simp [gcdF,c]) (by omega)
  ·rw [tr_n c] at h
   simp only [gcdB,if_neg c] at h1
   have hk:0<k:=by
    cases k with
    | zero=>cases h1
    | succ=>omega
   obtain ⟨F',rfl⟩:∃ F',F=F'+1:=⟨F - 1,by omega⟩
   obtain ⟨W',rfl⟩:∃ W',W=W'+2:=⟨W - 2,by omega⟩
   have hm:=mod_step (M:=m_gcd) (a:=⟨0,10,[a,b],[b,a,b],f::low,W'+3,F'+1,ins,o⟩) (x:=a) (y:=b) (f:=fun z=>⟨0,11,[a,b],[z,b],f::low,W'+4,F'+1,ins,o⟩) (by kernel_rfl) c rfl
   refine .to (.go h (.go (n:=4) (b:=⟨0,10,[a,b],[b,a,b],f::low,W'+3,F'+1,ins,o⟩) (by kernel_rfl) (.go hm (.go (n:=1) (b:=⟨0,0,[b,a.tmod b],[],⟨0,12,[a,b],[]⟩::f::low,W'+4,F',ins,o⟩) (by kernel_rfl)
    (.trans (gcd_goes k b (a.tmod b) W' F' ⟨0,12,[a,b],[]⟩ (f::low) ins o h1 (by omega) (by omega))
    (.of (n:=1) (b:=⟨f.u,f.pc,f.loc,gcdF k b (a.tmod b)::f.st,low,W'+2+5,F'+1+1,ins,o⟩) (by kernel_rfl))))))) (by simp [gcdF,c]) (by omega)
def gcdG (K:Nat):List Int→List Int
 | a::b::l=>gcdF K a b::gcdG K l
 | _=>[]
def gcdOk (K:Nat):List Int→Prop
 | a::b::l=>gcdB K a b=true∧gcdOk K l
 | _=>True
theorem gcd_ends (K:Nat) (hK:K≤38):∀ (l o:List Int),gcdOk K l→Ends m_gcd (t0 1 0 [] [] 400 [l] o) (o++gcdG K l) ((10*K+7)*l.length+3)
 | [],o,h=>.to (.wait (n:=2) (b:=t0 1 2 [] [] 400 [[]] o) (A:=0) (by kernel_rfl) (by kernel_rfl) (by decide) rfl rfl) (by simp [t0,gcdG]) (by simp)
 | [x],o,h=>.to (.wait (n:=3) (b:=t0 1 3 [] [x] 399 [[]] o) (A:=0) (by kernel_rfl) (by kernel_rfl) (by decide) rfl rfl) (by simp [t0,gcdG]) (by simp)
 | x::y::l,o,h =>
  .to (.go (n:=5) (b:=⟨0,0,[x,y],[],[⟨1,5,[],[]⟩],398,38,[l],o⟩) (by kernel_rfl) (.goes (gcd_goes K x y 394 38 ⟨1,5,[],[]⟩ [] [l] o h.1 (by omega) (by omega))
   (.go (n:=2) (b:=t0 1 0 [] [] 400 [l] (o++[gcdF K x y])) (by kernel_rfl) (gcd_ends K hK l _ h.2)))) (by simp [gcdG]) (by
    have:(x::y::l).length=l.length+2:=rfl
    rw [this,Nat.mul_add]; omega)
end Go.Y
namespace Go.Y
open Go.Wk Go.Xt
theorem i64_ok {n:Int} (h:-9223372036854775808≤n∧n≤9223372036854775807):i64 n=some n:=if_pos h
theorem bS {α β:Type} {x:α} {f:α→Option β}:Option.bind (some x) f=f x:=rfl
theorem at_nat {α:Type} {l:List α} {i:Nat}:at_ l (i:Int)=l[i]?:=by simp [at_]
theorem at_z {α:Type} {l:List α} {z:Int} (h:0≤z):at_ l z=l[z.toNat]?:=if_pos h
theorem w64_id {n:Int} (h:-9223372036854775808≤n∧n≤9223372036854775807):w64 n=n:=by simp only [w64,IntKind.wrap_i64]; omega
structure Stk (l:List Int) (live:Int) (ws:List Int):Prop where
 lo:8≤l.length
 hi:l.length≤400
 live:live=ws.length
 le:ws.length≤l.length
 take:l.take ws.length=ws
theorem Stk.get {l ws:List Int} {live v:Int} {k:Nat} (h:Stk l live ws) (hk:ws[k]?=some v):at_ l (k:Int)=some v:=by
 rw [at_nat]
 rw [← h.take,List.getElem?_take] at hk
 split at hk
 ·exact hk
 ·cases hk
theorem Stk.set {l ws:List Int} {live v:Int} {k:Nat} (h:Stk l live ws):Stk (l.set k v) live (ws.set k v) where
 lo:=by simpa using h.lo
 hi:=by simpa using h.hi
 live:=by simpa using h.live
 le:=by simpa using h.le
 take:=by
  rw [List.length_set,List.take_set,h.take]
theorem sized_ok {l ws:List Int} {live:Int} {k:Nat} (h:Stk l live ws) (h1:8≤k) (h2:k≤400) (h3:ws.length≤k):∃ l',st_sized l live 8 400 (k:Int)=some (l',live,8,400)∧Stk l' live ws∧l'.length=k:=by
 have hc:cut l 0 live=some ws:=by
  unfold cut
  have:=h.le
  have:=h.live
  rw [if_pos (by omega)]
  rw [h.live]
  simp [h.take]
 have hm:mks (k:Int)=some k:=by
  unfold mks
  rw [if_pos (by omega)]
  simp
 have e:cpy (List.replicate k (0:Int)) ws=ws++List.replicate (k - ws.length) 0:=by
  simp [cpy,List.take_of_length_le h3]
 refine ⟨_,by rw [st_sized,hm,bS,hc,bS],?_,?_⟩
 ·rw [e]
  exact ⟨by simp; omega,by simp; omega,h.live,by simp,by simp⟩
 ·rw [e]; simp; omega
theorem push_ok {l ws:List Int} {live s bx t v:Int} (h:Stk l live ws) (hw:ws.length<400):∃ l',vm_push s bx t l live 8 400 v=some (s,bx,t,l',live+1,8,400)∧Stk l' (live+1) (ws++[v]):=by
 have hl:=h.live
 have hle:=h.le
 have hlo:=h.lo
 have hhi:=h.hi
 have fin:∀ l1,Stk l1 live ws→ws.length<l1.length→st_push_j2 v live 8 400 l1=some (true,l1.set live.toNat v,live+1,8,400)∧Stk (l1.set live.toNat v) (live+1) (ws++[v]):=by
  intro l1 h1 h2
  have ha:at_ l1 live=some l1[ws.length]:=by
   rw [hl,at_nat]
   exact List.getElem?_eq_getElem h2
  refine ⟨by rw [st_push_j2,ha,bS,i64_ok (by omega),bS],?_⟩
  have e:live.toNat=ws.length:=by omega
  rw [e]
  refine ⟨by simpa using h1.lo,by simpa using h1.hi,by simp [hl],by simp; omega,?_⟩
  rw [List.length_append,List.length_singleton,List.take_succ_eq_append_getElem (by simpa using h2)]
  simp [List.take_set,h1.take,List.set_eq_of_length_le]
 have key:∃ l',st_push l live 8 400 v=some (true,l',live+1,8,400)∧Stk l' (live+1) (ws++[v]):=by
  rw [st_push,if_neg (by omega),st_push_j1]
  by_cases c:live=(l.length:Int)
  ·rw [if_pos c,i64_ok (by omega),bS]
   obtain ⟨l1,e1,h1,h2⟩:=sized_ok (k:=min (2*l.length) 400) h (by omega) (by omega) (by omega)
   have e:min (2*(l.length:Int)) 400=((min (2*l.length) 400:Nat):Int):=by omega
   rw [e,e1,bS]
   obtain ⟨f1,f2⟩:=fin l1 h1 (by omega)
   exact ⟨_,f1,f2⟩
  ·rw [if_neg c]
   obtain ⟨f1,f2⟩:=fin l h (by omega)
   exact ⟨_,f1,f2⟩
 obtain ⟨l',k1,k2⟩:=key
 exact ⟨l',by rw [vm_push,k1,bS]; rfl,k2⟩
theorem popn_ok {l ws vs:List Int} {live:Int} (h:Stk l live (ws++vs)):∃ l',st_pop l live 8 400 (vs.length:Int)=some (l',live - vs.length,8,400)∧Stk l' (live - vs.length) ws:=by
 have hl:=h.live
 have hle:=h.le
 have hlo:=h.lo
 have hhi:=h.hi
 rw [List.length_append] at hl hle
 have hq:quo (l.length:Int) 4=some ((l.length / 4:Nat):Int):=by
  rw [quo,if_neg (by omega),w64_id (by rw [Int.tdiv_eq_ediv_of_nonneg (by omega)]; omega),Int.tdiv_eq_ediv_of_nonneg (by omega)]
  rfl
 have hq2:quo (l.length:Int) 2=some ((l.length / 2:Nat):Int):=by
  rw [quo,if_neg (by omega),w64_id (by rw [Int.tdiv_eq_ediv_of_nonneg (by omega)]; omega),Int.tdiv_eq_ediv_of_nonneg (by omega)]
  rfl
 have h0:Stk l (live - vs.length) ws:=⟨hlo,hhi,by omega,by omega,by
  have:=h.take
  have e:(ws++vs).take ws.length=ws:=by simp
  rw [← e,← this,List.take_take]
  simp⟩
 rw [st_pop,i64_ok (by omega),bS,hq,bS]
 have small:∀ b,b=false→st_pop_j1 l 8 400 (live - vs.length) b=some (l,live - vs.length,8,400):=by
  intro b hb; subst hb; rfl
 by_cases c:live - vs.length≤((l.length / 4:Nat):Int)
 ·rw [if_pos c]
  by_cases d:(8:Int)<l.length
  ·rw [decide_eq_true d,st_pop_j1,if_pos rfl,hq2,bS]
   obtain ⟨l1,e1,h1,h2⟩:=sized_ok (k:=max (l.length / 2) 8) h0 (by omega) (by omega) (by omega)
   have e:max ((l.length / 2:Nat):Int) 8=((max (l.length / 2) 8:Nat):Int):=by omega
   rw [e,e1,bS]
   exact ⟨l1,rfl,h1⟩
  ·rw [decide_eq_false d]
   exact ⟨l,small _ rfl,h0⟩
 ·rw [if_neg c]
  exact ⟨l,small _ rfl,h0⟩
theorem pop_ok {l ws:List Int} {live s bx t v:Int} (h:Stk l live (ws++[v])):∃ l',vm_pop s bx t l live 8 400=some (v,s,bx,t,l',live - 1,8,400)∧Stk l' (live - 1) ws:=by
 have hl:=h.live
 have hle:=h.le
 have hhi:=h.hi
 rw [List.length_append,List.length_singleton] at hl hle
 obtain ⟨l',e,h'⟩:=popn_ok (vs:=[v]) h
 refine ⟨l',?_,h'⟩
 have ha:at_ l (live - 1)=some v:=by
  have e:live - 1=(ws.length:Int):=by omega
  rw [e]
  exact h.get (by simp)
 rw [vm_pop,st_live,bS,i64_ok (by omega),bS,ha,bS]
 rw [show ((([v]:List Int).length:Nat):Int)=1 from rfl] at e
 rw [e,bS]
def wds:List Fr→List Int
 | []=>[]
 | f::fs=>wds fs++(f.loc++f.st.reverse)
def lfs:List Fr→List TVf
 | []=>[]
 | f::fs=>lfs fs++[⟨f.u,f.pc,(wds fs).length⟩]
def Am.ws (a:Am):List Int:=wds a.low++(a.loc++a.st.reverse)
def Am.frs (a:Am):List TVf:=lfs a.low++[⟨a.u,a.pc,(wds a.low).length⟩]
def mok (M:TModule):Bool:=M.Units.all fun u=>decide (0≤u.Params) && decide (u.Params≤u.Locals.length) && decide (u.Locals.length≤300) && decide (u.Code.length≤4000) && u.Code.all fun i=>decide (0≤i.A∧i.A≤4000∧i.Op≠26)
structure Rm (feeds:List (List Int)) (a:Am) (tk:List Int) (fr:List TVf) (l:List Int) (live:Int):Prop where
 fr:fr=a.frs
 st:Stk l live a.ws
 wr:a.wr+a.ws.length=400
 fl:a.fr+(a.low.length+1)=40
 tn:tk.length=feeds.length
 il:a.ins.length=feeds.length
 tk:∀ (i:Nat) (f:List Int),feeds[i]?=some f→∃ t:Nat,tk[i]?=some (t:Int)∧t≤f.length∧a.ins[i]?=some (f.drop t)
 big:∀ f ∈ feeds,f.length≤65536
theorem lfs_len:∀ (l:List Fr),(lfs l).length=l.length
 | []=>rfl
 | f::fs=>by simp [lfs,lfs_len fs]
theorem frs_len (a:Am):a.frs.length=a.low.length+1:=by simp [Am.frs,lfs_len]
theorem frs_top (a:Am):at_ a.frs ((a.low.length:Nat):Int)=some ⟨a.u,a.pc,(wds a.low).length⟩:=by
 rw [at_nat,Am.frs]
 simp [lfs_len]
theorem frs_set (a:Am) (x:TVf):a.frs.set a.low.length x=lfs a.low++[x]:=by
 rw [Am.frs,List.set_append_right _ _ (by rw [lfs_len]; exact Nat.le_refl _)]
 simp [lfs_len]
theorem mok_unit {M:TModule} {n:Nat} {u:TUnit} (h:mok M=true) (hu:M.Units[n]?=some u):(0≤u.Params∧u.Params≤u.Locals.length∧u.Locals.length≤300∧u.Code.length≤4000)∧∀ (k:Nat) (i:TInstr),u.Code[k]?=some i→0≤i.A∧i.A≤4000∧i.Op≠26:=by
 have:=List.all_eq_true.1 h u (List.mem_of_getElem? hu)
 simp only [Bool.and_eq_true,decide_eq_true_eq,List.all_eq_true] at this
 obtain ⟨⟨⟨⟨h1,h2⟩,h3⟩,h4⟩,h5⟩:=this
 exact ⟨⟨h1,h2,h3,h4⟩,fun k i hi=>h5 i (List.mem_of_getElem? hi)⟩
theorem code_split {M:TModule} {a:Am} {i:TInstr} (h:a.code M=some i):∃ u,M.Units[a.u]?=some u∧u.Code[a.pc]?=some i:=by
 unfold Am.code at h
 exact Option.bind_eq_some_iff.1 h
def Am.stuck (a:Am) (i:TInstr):Bool:=decide (i.Op=27) && decide (a.ins[i.A.toNat]?=some [])
theorem look_ok {M:TModule} {feeds sent:List (List Int)} {a:Am} {tk:List Int} {fr:List TVf} {l:List Int} {live s bx:Int} {i:TInstr} (hM:mok M=true) (hR:Rm feeds a tk fr l live) (hs:s≤3) (hc:a.code M=some i) (hl:i.Op=27→i.A.toNat<a.ins.length) :
  vm_look M s bx 0 feeds tk sent fr=some (if a.stuck i then 3 else 1,if a.stuck i then i.A else 0,0,feeds,tk,sent,fr):=by
 obtain ⟨u,hu,hi⟩:=code_split hc
 obtain ⟨⟨h1,h2,h3,h4⟩,h5⟩:=mok_unit hM hu
 have hA:=h5 _ _ hi
 have hfl:=hR.fl
 have hfr:=hR.fr
 have e:((fr.length:Int) - 1)=((a.low.length:Nat):Int):=by rw [hfr,frs_len]; omega
 have ht:at_ fr ((a.low.length:Nat):Int)=some ⟨a.u,a.pc,(wds a.low).length⟩:=by rw [hfr]; exact frs_top a
 rw [vm_look,if_pos hs,e,i64_ok (by omega),bS,ht,bS,vm_look_j1,ht,bS]
 rw [show at_ M.Units ((a.u:Nat):Int)=some u by rw [at_nat,hu],bS]
 rw [show at_ u.Code ((a.pc:Nat):Int)=some i by rw [at_nat,hi],bS]
 have hw:vm_waits s bx 0 feeds tk sent i=some (decide ((if a.stuck i then (3:Int) else 1)≠1),if a.stuck i then 3 else 1,if a.stuck i then i.A else 0,0,feeds,tk,sent):=by
  rw [vm_waits,if_neg hA.2.2]
  by_cases c:i.Op=27
  ·rw [if_pos c]
   have hlt:=hl c
   rw [hR.il] at hlt
   obtain ⟨t,ht1,ht2,ht3⟩:=hR.tk i.A.toNat _ (List.getElem?_eq_getElem hlt)
   have eA:i.A=((i.A.toNat:Nat):Int):=by omega
   have ea:ls_empty feeds tk sent i.A=some (a.stuck i,feeds,tk,sent):=by
    rw [ls_empty,show at_ feeds i.A=some feeds[i.A.toNat] from (at_z hA.1).trans (List.getElem?_eq_getElem hlt),bS,show at_ tk i.A=some (t:Int) from (at_z hA.1).trans ht1,bS]
    have:decide ((t:Int)=(feeds[i.A.toNat].length:Int))=a.stuck i:=by
     rw [Am.stuck,ht3,decide_eq_true c,Bool.true_and]
     apply decide_eq_decide.2
     simp only [Option.some.injEq,List.drop_eq_nil_iff]
     omega
    rw [this]
   rw [ea,bS]
   simp only [vm_waits_j2,vm_waits_j3,vm_waits_j1]
   cases a.stuck i <;> rfl
  ·rw [if_neg c]
   have:a.stuck i=false:=by simp [Am.stuck,c]
   rw [this]
   rfl
 rw [hw,bS]
end Go.Y
namespace Go.Y
open Go.Wk Go.Xt
theorem truth_ok (p:Prop) [Decidable p]:vm_truth (decide p)=some (tr p):=by
 unfold vm_truth tr
 by_cases h:p <;> simp [h]
theorem two_ok {op a b z:Int} (h:two op a b=some z):vm_two op a b=some z∧(op=11∨op=12→b≠0):=by
 unfold two at h
 unfold vm_two
 by_cases c8:op=8
 ·subst c8; exact ⟨by simpa using h,by omega⟩
 by_cases c9:op=9
 ·subst c9; exact ⟨by simpa using h,by omega⟩
 by_cases c10:op=10
 ·subst c10; exact ⟨by simpa using h,by omega⟩
 rw [if_neg c8,if_neg c9,if_neg c10] at h ⊢
 by_cases c11:op=11
 ·subst c11
  simp only [if_true] at h ⊢
  by_cases hb:b=0
  ·rw [if_pos hb] at h; cases h
  ·rw [if_neg hb] at h
   refine ⟨?_,fun _=>hb⟩
   obtain rfl:=Option.some.inj h
   rw [decide_true,vm_two_j1,if_pos rfl]
   have gen:∀ q,q=false→vm_two_j2 11 a b q=some (w64 (a.tdiv b)):=by
    intro q hq; subst hq
    rw [vm_two_j2,if_neg (by decide),if_pos rfl,quo,if_neg hb,bS]
   by_cases ha:a=-9223372036854775808
   ·rw [if_pos ha]
    by_cases hb1:b=-1
    ·subst ha; subst hb1; decide +kernel
    ·rw [decide_eq_false hb1]; exact gen _ rfl
   ·rw [if_neg ha]; exact gen _ rfl
 by_cases c12:op=12
 ·subst c12
  simp only [if_true] at h ⊢
  by_cases hb:b=0
  ·simp [hb] at h
  ·simp only [if_neg hb] at h
   refine ⟨?_,fun _=>hb⟩
   have hz:a.tmod b=z:=by simpa using h
   subst hz
   rw [if_neg (by decide),decide_true,vm_two_j1,if_pos rfl]
   have gen:∀ q,q=false→vm_two_j2 12 a b q=some (a.tmod b):=by
    intro q hq; subst hq
    rw [vm_two_j2,if_neg (by decide),if_neg (by decide),remt,if_neg hb,bS]
   by_cases ha:a=-9223372036854775808
   ·rw [if_pos ha]
    by_cases hb1:b=-1
    ·subst ha; subst hb1; decide +kernel
    ·rw [decide_eq_false hb1]; exact gen _ rfl
   ·rw [if_neg ha]; exact gen _ rfl
 rw [if_neg c11,if_neg c12] at h
 refine ⟨?_,fun hh=>by omega⟩
 rw [if_neg c11,decide_eq_false c12,vm_two_j1,if_neg (by decide)]
 by_cases c:op=13
 ·rw [if_pos c] at h ⊢; rw [truth_ok,bS]; exact h
 rw [if_neg c] at h ⊢; clear c
 by_cases c:op=14
 ·rw [if_pos c] at h ⊢; rw [truth_ok,bS]; exact h
 rw [if_neg c] at h ⊢; clear c
 by_cases c:op=15
 ·rw [if_pos c] at h ⊢; rw [truth_ok,bS]; exact h
 rw [if_neg c] at h ⊢; clear c
 by_cases c:op=16
 ·rw [if_pos c] at h ⊢; rw [truth_ok,bS]; exact h
 rw [if_neg c] at h ⊢; clear c
 by_cases c:op=17
 ·rw [if_pos c] at h ⊢; rw [truth_ok,bS]; exact h
 rw [if_neg c] at h; cases h
section
variable {M:TModule} {feeds sent:List (List Int)} {a b:Am} {tk:List Int} {fr:List TVf} {l:List Int} {live s bx cst:Int}
theorem Rm.to {a':Am} {fr':List TVf} {l':List Int} {live':Int} (hR:Rm feeds a tk fr l live) (hf:fr'=a'.frs) (hs:Stk l' live' a'.ws) (hw:a'.wr+a'.ws.length=400) (hfl:a'.fr+(a'.low.length+1)=40) (hi:a'.ins=a.ins):Rm feeds a' tk fr' l' live' where
 fr:=hf
 st:=hs
 wr:=hw
 fl:=hfl
 tn:=hR.tn
 il:=by rw [hi]; exact hR.il
 tk:=by rw [hi]; exact hR.tk
 big:=hR.big
theorem ws_push (a:Am) (v:Int) (k:Nat):({ a with st:=v::a.st,wr:=k }:Am).ws=a.ws++[v]:=by simp [Am.ws]
theorem Rm.push {v:Int} (hR:Rm feeds a tk fr l live) (h:a.push v=some b) (s bx t:Int):∃ l',vm_push s bx t l live 8 400 v=some (s,bx,t,l',live+1,8,400)∧Rm feeds b tk fr l' (live+1)∧b.out=a.out:=by
 unfold Am.push at h
 have hwr:=hR.wr
 split at h
 ·cases h
 ·rename_i k hk
  obtain rfl:=Option.some.inj h
  obtain ⟨l',e,h'⟩:=push_ok (s:=s) (bx:=bx) (t:=t) (v:=v) hR.st (by omega)
  refine ⟨l',e,hR.to (a':={ a with st:=v::a.st,wr:=k }) ?_ ?_ ?_ ?_ rfl,rfl⟩
  ·exact hR.fr
  ·rw [ws_push]; exact h'
  ·rw [ws_push,List.length_append,List.length_singleton]; simp only; omega
  ·exact hR.fl
theorem Rm.pop {v:Int} {r:List Int} (hR:Rm feeds a tk fr l live) (h:a.st=v::r) (s bx t:Int):∃ l',vm_pop s bx t l live 8 400=some (v,s,bx,t,l',live - 1,8,400)∧Rm feeds { a with st:=r,wr:=a.wr+1 } tk fr l' (live - 1):=by
 have hws:a.ws=({ a with st:=r,wr:=a.wr+1 }:Am).ws++[v]:=by simp [Am.ws,h]
 have hst:=hR.st
 have hwr:=hR.wr
 rw [hws] at hst hwr
 obtain ⟨l',e,h'⟩:=pop_ok (s:=s) (bx:=bx) (t:=t) hst
 refine ⟨l',e,hR.to hR.fr h' ?_ hR.fl rfl⟩
 rw [List.length_append,List.length_singleton] at hwr
 simp only at hwr ⊢
 omega
theorem j2_ok (hM:mok M=true) {i:TInstr} (hR:Rm feeds b tk fr l live) (hs:s≤3) (hc:b.code M=some i) (hl:i.Op=27→i.A.toNat<b.ins.length) :
  vm_step_j2 M s bx 0 b.out feeds sent tk cst fr live 8 400 l=some (true,if b.stuck i then 3 else 1,if b.stuck i then i.A else 0,0,b.out,feeds,tk,sent,cst,fr,l,live,8,400):=by
 rw [vm_step_j2,look_ok hM hR hs hc hl,bS]
theorem Rm.pc (hR:Rm feeds a tk fr l live) (p:Nat):Rm feeds { a with pc:=p } tk (fr.set a.low.length ⟨a.u,p,(wds a.low).length⟩) l live :=
 hR.to (by rw [hR.fr,frs_set]; rfl) hR.st hR.wr hR.fl rfl
theorem zeros_ok:∀ (n:Nat) (j:Int) (k:Nat) (l ws:List Int) (live s bx t i72:Int) (l69:List TVf),Stk l live ws→ws.length+n≤400→0≤j→i72=j+n→i72≤1000→n<k →
  ∃ l',vm_call_l1 l69 i72 k j s bx t live 8 400 l=some (s,bx,t,l69,l',live+n,8,400)∧Stk l' (live+n) (ws++List.replicate n 0)
 | 0,j,k+1,l,ws,live,s,bx,t,i72,l69,hS,h1,h2,h3,h4,h5=>by
  rw [vm_call_l1,if_neg (by omega)]
  exact ⟨l,by simp,by simpa using hS⟩
 | n+1,j,k+1,l,ws,live,s,bx,t,i72,l69,hS,h1,h2,h3,h4,h5=>by
  obtain ⟨l',e,h'⟩:=push_ok (s:=s) (bx:=bx) (t:=t) (v:=0) hS (by omega)
  obtain ⟨l2,e2,h2'⟩:=zeros_ok n (j+1) k l' (ws++[0]) (live+1) s bx t i72 l69 h' (by simp; omega) (by omega) (by omega) h4 (by omega)
  rw [vm_call_l1,if_pos (by omega),e,bS,i64_ok (by omega),bS]
  refine ⟨l2,?_,?_⟩
  ·rw [e2]
   have:live+1+(n:Int)=live+((n+1:Nat):Int):=by omega
   rw [this]
  ·have:live+1+(n:Int)=live+((n+1:Nat):Int):=by omega
   rw [this] at h2'
   rw [List.replicate_succ]
   simpa using h2'
 | n,j,0,l,ws,live,s,bx,t,i72,l69,hS,h1,h2,h3,h4,h5=>by omega
end
end Go.Y
namespace Go.Y
open Go.Wk Go.Xt
section
variable {M:TModule} {feeds sent:List (List Int)} {a b:Am} {tk:List Int} {fr:List TVf} {l:List Int} {live s bx cst:Int}
theorem frs_i (a:Am):((a.frs.length:Int) - 1)=((a.low.length:Nat):Int):=by rw [frs_len]; omega
set_option maxHeartbeats 1000000 in
theorem step_ok (hM:mok M=true) (hR:Rm feeds a tk fr l live) (hs:s≤3) (ho:a.out.length≤100000) (h:astep M a=some b) {i':TInstr} (hb:b.code M=some i') (hl':i'.Op=27→i'.A.toNat<b.ins.length) :
  ∃ tk' fr' l' live',vm_step M s bx 0 a.out feeds tk sent cst fr l live 8 400=some (true,(if b.stuck i' then 3 else 1),(if b.stuck i' then i'.A else 0),0,b.out,feeds,tk',sent,cst,fr',l',live',8,400)∧Rm feeds b tk' fr' l' live':=by
 obtain ⟨i,hc,hst⟩:=Option.bind_eq_some_iff.1 h
 obtain ⟨u,hu,hi⟩:=code_split hc
 obtain ⟨⟨hu1,hu2,hu3,hu4⟩,hu5⟩:=mok_unit hM hu
 have hA:=hu5 _ _ hi
 have hpl:a.pc<u.Code.length:=(List.getElem?_eq_some_iff.1 hi).1
 have hfl:=hR.fl
 have hnw:a.stuck i=false∧(i.Op=27→i.A.toNat<a.ins.length):=by
  by_cases c:i.Op=27
  ·have hst':=hst
   unfold stepI at hst'
   rw [if_neg (by omega),if_neg (by omega),if_neg (by omega),if_neg (by omega),if_neg (by omega),if_neg (by omega),if_neg (by omega),if_neg (by omega),if_neg (by omega),if_pos c] at hst'
   simp only at hst'
   split at hst'
   ·rename_i x r hx
    refine ⟨by simp [Am.stuck,hx],fun _=>(List.getElem?_eq_some_iff.1 hx).1⟩
   ·cases hst'
  ·exact ⟨by simp [Am.stuck,c],fun hh=>absurd hh c⟩
 have hlook:=look_ok (sent:=sent) (bx:=bx) hM hR hs hc hnw.2
 simp only [hnw.1,Bool.false_eq_true,if_false] at hlook
 have hfr:=hR.fr
 have hi83:((fr.length:Int) - 1)=((a.low.length:Nat):Int):=by rw [hfr]; exact frs_i a
 have htop:at_ fr ((a.low.length:Nat):Int)=some ⟨a.u,a.pc,(wds a.low).length⟩:=by rw [hfr]; exact frs_top a
 have hi64:i64 ((a.pc:Int)+1)=some (((a.pc+1:Nat):Int)):=i64_ok (by omega)
 have hR1:=hR.pc (a.pc+1)
 have hset:fr.set a.low.length ⟨a.u,((a.pc+1:Nat):Int),(wds a.low).length⟩=lfs a.low++[⟨a.u,((a.pc+1:Nat):Int),(wds a.low).length⟩]:=by rw [hfr,frs_set]
 rw [hset] at hR1
 generalize hfr1:lfs a.low++[⟨a.u,((a.pc+1:Nat):Int),(wds a.low).length⟩]=fr1 at hR1 hset
 have htop1:at_ fr1 ((a.low.length:Nat):Int)=some ⟨a.u,((a.pc+1:Nat):Int),(wds a.low).length⟩:=by
  rw [hR1.fr]; exact frs_top { a with pc:=a.pc+1 }
 have hset1:∀ p:Nat,fr.set a.low.length ⟨a.u,(p:Int),(wds a.low).length⟩=({ a with pc:=p }:Am).frs:=by
  intro p; rw [hfr]; exact frs_set a _
 rw [vm_step,hlook,bS,if_neg (by simp)]
 simp only [hi83]
 rw [i64_ok (by omega),bS,htop,bS,vm_step_j1]
 simp only [htop,bS,show at_ M.Units ((a.u:Nat):Int)=some u by rw [at_nat,hu],show at_ u.Code ((a.pc:Nat):Int)=some i by rw [at_nat,hi],hi64,Int.toNat_natCast,hset]
 clear hlook htop hi64 hi83 hfr hR h hc hu hi
 generalize ha1:({ a with pc:=a.pc+1 }:Am)=a1 at hR1 hst
 have e_out:a1.out=a.out:=by rw [← ha1]
 have e_low:a1.low=a.low:=by rw [← ha1]
 have e_loc:a1.loc=a.loc:=by rw [← ha1]
 have e_pc:a1.pc=a.pc+1:=by rw [← ha1]
 have e_u:a1.u=a.u:=by rw [← ha1]
 rw [← e_out] at ho ⊢
 have hws:a1.ws.length≤400:=by have:=hR1.wr; omega
 have fin:∀ {b':Am} {tk':List Int} {fr':List TVf} {l':List Int} {live':Int},Rm feeds b' tk' fr' l' live'→b'=b→b'.out=b.out→∃ tk2 fr2 l2 live2,vm_step_j2 M 1 0 0 b'.out feeds sent tk' cst fr' live' 8 400 l'=some (true,(if b.stuck i' then 3 else 1),(if b.stuck i' then i'.A else 0),0,b.out,feeds,tk2,sent,cst,fr2,l2,live2,8,400)∧Rm feeds b tk2 fr2 l2 live2:=by
  intro b' tk' fr' l' live' hR' e _
  subst e
  exact ⟨tk',fr',l',live',j2_ok hM hR' (by decide) hb hl',hR'⟩
 unfold stepI at hst
 by_cases c:i.Op=1
 ·rw [if_pos c] at hst ⊢
  obtain ⟨l',e,hR',eo⟩:=hR1.push hst 1 0 0
  rw [e,bS]
  rw [← eo]
  exact fin hR' rfl rfl
 rw [if_neg c] at hst ⊢
 by_cases c:i.Op=2
 ·rw [if_pos c] at hst ⊢
  obtain ⟨l',e,hR',eo⟩:=hR1.push hst 1 0 0
  rw [e,bS]
  rw [← eo]
  exact fin hR' rfl rfl
 rw [if_neg c] at hst ⊢
 by_cases c:i.Op=3
 ·rw [if_pos c] at hst ⊢
  obtain ⟨v,hv,hp⟩:=Option.bind_eq_some_iff.1 hst
  obtain ⟨l',e,hR',eo⟩:=hR1.push hp 1 0 0
  have hk:i.A.toNat<a1.loc.length:=(List.getElem?_eq_some_iff.1 hv).1
  have hg:a1.ws[(wds a.low).length+i.A.toNat]?=some v:=by
   rw [Am.ws,e_low,List.getElem?_append_right (by omega),Nat.add_sub_cancel_left,List.getElem?_append_left hk]
   exact hv
  have hb2:((wds a.low).length:Int)+i.A=(((wds a.low).length+i.A.toNat:Nat):Int):=by omega
  have hlt:(wds a.low).length+i.A.toNat<a1.ws.length:=(List.getElem?_eq_some_iff.1 hg).1
  rw [i64_ok (by omega),bS,hb2,hR1.st.get hg,bS,e,bS]
  simp only [vm_step_j3,Int.toNat_natCast,hset]
  rw [← eo]
  exact fin hR' rfl rfl
 rw [if_neg c] at hst ⊢
 have eA:i.A=((i.A.toNat:Nat):Int):=by omega
 have hsetA:fr.set a.low.length ⟨a.u,i.A,(wds a.low).length⟩=({ a1 with pc:=i.A.toNat }:Am).frs:=by
  have:=hset1 i.A.toNat
  rw [← eA] at this
  rw [this,← ha1]
 by_cases c:i.Op=4
 ·rw [if_pos c] at hst ⊢
  cases hsv:a1.st with
  | nil=>rw [hsv] at hst; cases hst
  | cons v r =>
   rw [hsv] at hst
   simp only at hst
   split at hst
   ·rename_i hk
    obtain rfl:=Option.some.inj hst
    obtain ⟨l',e,hR'⟩:=hR1.pop hsv 1 0 0
    have hw':({ a1 with st:=r,wr:=a1.wr+1 }:Am).ws=wds a.low++(a1.loc++r.reverse):=by simp only [Am.ws,e_low]
    have hlen:(wds a.low).length+i.A.toNat<({ a1 with st:=r,wr:=a1.wr+1 }:Am).ws.length:=by rw [hw']; simp; omega
    have hle':=hR'.st.le
    have hb2:((wds a.low).length:Int)+i.A=(((wds a.low).length+i.A.toNat:Nat):Int):=by omega
    have hlt:(wds a.low).length+i.A.toNat<a1.ws.length:=by rw [Am.ws,e_low]; simp [hsv]; omega
    rw [e,bS,i64_ok (by omega),bS,hb2]
    simp only [at_nat,Int.toNat_natCast]
    rw [List.getElem?_eq_getElem (by omega),bS]
    simp only [vm_step_j4,Int.toNat_natCast,hset]
    refine fin (b':={ a1 with st:=r,wr:=a1.wr+1,loc:=a1.loc.set i.A.toNat v }) (hR'.to hR'.fr ?_ ?_ hR'.fl rfl) rfl rfl
    ·have e2:({ a1 with st:=r,wr:=a1.wr+1,loc:=a1.loc.set i.A.toNat v }:Am).ws=({ a1 with st:=r,wr:=a1.wr+1 }:Am).ws.set ((wds a.low).length+i.A.toNat) v:=by
      rw [hw',List.set_append_right _ _ (by omega),Nat.add_sub_cancel_left,List.set_append_left _ _ hk]
      simp only [Am.ws,e_low]
     rw [e2]
     exact hR'.st.set
    ·have:=hR'.wr
     simp only [Am.ws,List.length_append,List.length_set] at this ⊢
     exact this
   ·cases hst
 rw [if_neg c] at hst ⊢
 by_cases c567:i.Op=5∨i.Op=6∨i.Op=7
 ·rw [if_neg (by omega),if_neg (by omega),if_neg (by omega),if_neg (by omega),if_neg (by omega),if_neg (by omega),if_neg (by omega)] at hst
  cases hst
 rw [if_neg (by omega),if_neg (by omega),if_neg (by omega)]
 by_cases c:8≤i.Op∧i.Op≤18
 ·rw [if_pos c] at hst
  rw [if_pos c.1,if_pos (by omega)]
  match hsv:a1.st,hst with
  | [],hst=>cases hst
  | [y],hst=>cases hst
  | y::x::r,hst =>
   obtain ⟨z,hz,hzb⟩:=Option.bind_eq_some_iff.1 hst
   obtain ⟨hz1,hz2⟩:=two_ok hz
   obtain ⟨l',e,hR'⟩:=hR1.pop hsv 1 0 0
   obtain ⟨l2,e2,hR2⟩:=hR'.pop (v:=x) (r:=r) rfl 1 0 0
   obtain ⟨l3,e3,hR3,eo⟩:=hR2.push (v:=z) (b:={ a1 with st:=z::r,wr:=a1.wr+1 }) rfl 1 0 0
   rw [e,bS,e2,bS]
   have h6:∀ q,q=false→vm_step_j5 M a1.out cst (1,0,0,feeds,tk,sent,fr) (a.low.length:Int) ⟨a.u,a.pc,(wds a.low).length⟩ i ((a.pc+1:Nat):Int) (y,1,0,0,l',live - 1,8,400) (x,1,0,0,l2,live - 1 - 1,8,400) q=vm_step_j2 M 1 0 0 a1.out feeds sent tk cst fr1 (live - 1 - 1+1) 8 400 l3:=by
    intro q hq
    subst hq
    rw [vm_step_j5,if_neg (by decide)]
    simp only [hz1,bS,e3,Int.toNat_natCast,hset]
   have fin2:=fin (b':={ a1 with st:=z::r,wr:=a1.wr+1 }) hR3 (Option.some.inj hzb) (by rw [← Option.some.inj hzb])
   by_cases c11:i.Op=11
   ·rw [if_pos c11,h6 _ (decide_eq_false (hz2 (.inl c11)))]; exact fin2
   ·rw [if_neg c11]
    by_cases c12:i.Op=12
    ·rw [if_pos c12,h6 _ (decide_eq_false (hz2 (.inr c12)))]; exact fin2
    ·rw [if_neg c12,h6 _ rfl]; exact fin2
 rw [if_neg c] at hst
 by_cases c21:i.Op<21
 ·rw [if_neg (by omega),if_neg (by omega),if_neg (by omega),if_neg (by omega),if_neg (by omega),if_neg (by omega)] at hst
  cases hst
 rw [if_pos (by omega),if_neg (by omega)]
 clear c
 by_cases c:i.Op=21
 ·rw [if_pos c] at hst ⊢
  obtain rfl:=Option.some.inj hst
  refine fin (b':={ a1 with pc:=i.A.toNat }) (hR1.to hsetA hR1.st hR1.wr hR1.fl rfl) rfl rfl
 rw [if_neg c] at hst ⊢
 by_cases c:i.Op=22
 ·rw [if_pos c] at hst ⊢
  cases hsv:a1.st with
  | nil=>rw [hsv] at hst; cases hst
  | cons v r =>
   rw [hsv] at hst
   obtain ⟨l',e,hR'⟩:=hR1.pop hsv 1 0 0
   rw [e,bS]
   have hst2:=Option.some.inj hst
   by_cases cv:v=0
   ·rw [if_pos cv] at hst2
    rw [if_pos cv]
    exact fin (b':={ a1 with st:=r,wr:=a1.wr+1,pc:=i.A.toNat }) (hR'.to hsetA hR'.st hR'.wr hR'.fl rfl) hst2 (by rw [← hst2])
   ·rw [if_neg cv] at hst2
    rw [if_neg cv]
    exact fin (b':={ a1 with st:=r,wr:=a1.wr+1 }) hR' (by rw [← hst2]) (by rw [← hst2])
 rw [if_neg c] at hst ⊢
 by_cases c26:i.Op=26
 ·rw [if_neg (by omega),if_neg (by omega),if_neg (by omega),if_neg (by omega)] at hst
  cases hst
 rw [if_neg c26]
 by_cases c:i.Op=27
 ·rw [if_neg (by omega),if_neg (by omega),if_pos c] at hst
  rw [if_pos c]
  split at hst
  ·rename_i x r hx
   have hlt:i.A.toNat<feeds.length:=by rw [← hR1.il]; exact (List.getElem?_eq_some_iff.1 hx).1
   obtain ⟨t,ht1,ht2,ht3⟩:=hR1.tk i.A.toNat _ (List.getElem?_eq_getElem hlt)
   rw [hx] at ht3
   have ht3':feeds[i.A.toNat].drop t=x::r:=(Option.some.inj ht3).symm
   have htl:t<feeds[i.A.toNat].length:=by
    rcases Nat.lt_or_ge t feeds[i.A.toNat].length with h | h
    ·exact h
    ·rw [List.drop_eq_nil_of_le h] at ht3'; cases ht3'
   have hbig:=hR1.big _ (List.getElem_mem hlt)
   have hxt:feeds[i.A.toNat][t]?=some x:=by
    have:=congrArg (·[0]?) ht3'
    simpa [List.getElem?_drop] using this
   have htk:i.A.toNat<tk.length:=by rw [hR1.tn]; exact hlt
   have hR2:Rm feeds { a1 with ins:=a1.ins.set i.A.toNat r } (tk.set i.A.toNat ((t:Int)+1)) fr1 l live:={
    fr:=hR1.fr
    st:=hR1.st
    wr:=hR1.wr
    fl:=hR1.fl
    tn:=by simpa using hR1.tn
    il:=by simpa using hR1.il
    tk:=by
     intro j f hf
     by_cases e:j=i.A.toNat
     ·subst e
      rw [List.getElem?_eq_getElem hlt] at hf
      obtain rfl:=Option.some.inj hf
      refine ⟨t+1,by rw [List.getElem?_set_self htk]; rfl,by omega,?_⟩
      have hil:i.A.toNat<a1.ins.length:=by rw [hR1.il]; exact hlt
      simp only
      rw [List.getElem?_set_self hil,← List.drop_drop,ht3']
      rfl
     ·obtain ⟨t',h1,h2,h3⟩:=hR1.tk j f hf
      refine ⟨t',?_,h2,?_⟩
      ·rw [List.getElem?_set_ne (Ne.symm e)]; exact h1
      ·simp only
       rw [List.getElem?_set_ne (Ne.symm e)]; exact h3
    big:=hR1.big }
   obtain ⟨l',e,hR3,eo⟩:=hR2.push hst 1 0 0
   have et:ls_take feeds tk sent i.A=some (x,feeds,tk.set i.A.toNat ((t:Int)+1),sent):=by
    rw [ls_take,at_z hA.1,ht1,bS,i64_ok (by omega),bS,bS,at_z hA.1,List.getElem?_set_self htk,bS,i64_ok (by omega),bS,at_z hA.1,List.getElem?_eq_getElem hlt,bS]
    rw [show (t:Int)+1 - 1=(t:Int) by omega,at_nat,hxt,bS]
   rw [et,bS]
   simp only [vm_tell,bS,e]
   rw [show a1.out=b.out from eo.symm]
   exact fin hR3 rfl rfl
  ·cases hst
 rw [if_neg c]
 by_cases c28:i.Op=28
 ·rw [if_neg (by omega),if_neg (by omega),if_neg (by omega),if_pos c28] at hst
  rw [if_pos c28]
  cases hsv:a1.st with
  | nil=>rw [hsv] at hst; cases hst
  | cons v r =>
   rw [hsv] at hst
   obtain ⟨l',e,hR'⟩:=hR1.pop hsv 1 0 0
   rw [e,bS]
   have ha:app a1.out [v]=some (a1.out++[v]):=by
    unfold app
    rw [if_pos (by simp; omega)]
   simp only [ha,bS,vm_tell]
   exact fin (b':={ a1 with st:=r,wr:=a1.wr+1,out:=a1.out++[v] }) (hR'.to hR'.fr hR'.st hR'.wr hR'.fl rfl) (Option.some.inj hst) (by rw [← Option.some.inj hst])
 rw [if_neg c28]
 by_cases c23:i.Op=23
 ·rw [if_pos c23] at hst
  rw [vm_units,if_pos c23]
  obtain ⟨u2,hu2',hst⟩:=Option.bind_eq_some_iff.1 hst
  obtain ⟨⟨p1,p2,p3,p4⟩,p5⟩:=mok_unit hM hu2'
  split at hst
  ·cases hst
  ·rename_i f hf
   split at hst
   ·cases hst
   ·rename_i hcond
    have hst:=Option.some.inj hst
    have hlive:=hR1.st.live
    have hwr:=hR1.wr
    have hpl2:u2.Params.toNat≤a1.st.length:=by omega
    have hwr2:u2.Locals.length - u2.Params.toNat≤a1.wr:=by omega
    have hstl:a1.st.length≤a1.ws.length:=by simp [Am.ws]; omega
    have hfl1:=hR1.fl
    have hfrl:(fr1.length:Int)=((a1.low.length+1:Nat):Int):=by rw [hR1.fr,frs_len]
    obtain ⟨l',e,hS'⟩:=zeros_ok (u2.Locals.length - u2.Params.toNat) 0 ((((u2.Locals.length:Int) - u2.Params - 0).toNat)+1) l a1.ws live 1 0 0 ((u2.Locals.length:Int) - u2.Params) (fr1++[⟨i.A,0,live - u2.Params⟩]) hR1.st (by omega) (by omega) (by omega) (by omega) (by omega)
    have ec:vm_call M 1 0 0 fr1 l live 8 400 i.A=some (1,0,0,fr1++[⟨i.A,0,live - u2.Params⟩],l',live+((u2.Locals.length - u2.Params.toNat:Nat):Int),8,400):=by
     rw [vm_call,at_z hA.1,hu2',bS,st_live,bS,i64_ok (by omega),bS,vm_call_j1,if_neg (by omega)]
     rw [show app fr1 [(⟨i.A,0,live - u2.Params⟩:TVf)]=some (fr1++[⟨i.A,0,live - u2.Params⟩]) by unfold app; rw [if_pos (by simp; omega)],bS,i64_ok (by omega),bS]
     exact e
    rw [ec,bS,bS]
    have e_ws:b.ws=a1.ws++List.replicate (u2.Locals.length - u2.Params.toNat) 0:=by
     rw [← hst]
     simp only [Am.ws,wds,List.reverse_nil,List.append_nil]
     have:a1.st.reverse=(a1.st.drop u2.Params.toNat).reverse++(a1.st.take u2.Params.toNat).reverse:=by
      rw [← List.reverse_append,List.take_append_drop]
     rw [this]
     simp only [List.append_assoc]
    have e_o:b.out=a1.out:=by rw [← hst]
    rw [← e_o]
    refine fin (b':=b) (hR1.to ?_ ?_ ?_ ?_ ?_) rfl rfl
    ·rw [← hst]
     simp only [Am.frs,lfs,wds]
     rw [hR1.fr,Am.frs,← eA]
     have:((wds a1.low++(a1.loc++(List.drop u2.Params.toNat a1.st).reverse)).length:Int)=live - u2.Params:=by
      rw [hlive,Am.ws]
      simp only [List.length_append,List.length_reverse,List.length_drop]
      omega
     rw [this]
     rfl
    ·rw [e_ws]; exact hS'
    ·rw [e_ws,← hst]
     simp only [List.length_append,List.length_replicate]
     omega
    ·rw [← hst]
     simp only [List.length_cons]
     omega
    ·rw [← hst]
 rw [if_neg c23] at hst
 rw [if_neg c28] at hst
 by_cases c24:i.Op=24
 ·rw [if_pos c24] at hst
  rw [vm_units,if_neg c23,if_pos c24]
  match hsv:a1.st,hlw:a1.low,hst with
  | [],_,hst=>cases hst
  | _::_,[],hst=>cases hst
  | v::r,f::fs,hst =>
   have hst:=Option.some.inj hst
   obtain ⟨l',e,hR'⟩:=hR1.pop hsv 1 0 0
   have hfl1:=hR1.fl
   have hfrl:((fr1.length:Int) - 1)=((a1.low.length:Nat):Int):=by rw [hR1.fr,frs_i]
   have hS:=hR'.st
   have hlive:=hS.live
   have hw':({ a1 with st:=r,wr:=a1.wr+1 }:Am).ws=wds a1.low++(a1.loc++r.reverse):=rfl
   rw [hw'] at hS hlive
   have hle:=hS.le
   have hhi:=hS.hi
   obtain ⟨l2,e2,hS2⟩:=popn_ok hS
   have hwr':=hR'.wr
   rw [hw'] at hwr'
   simp only [List.length_append,List.length_reverse] at hlive hle hwr'
   obtain ⟨l3,e3,hS3⟩:=push_ok (s:=1) (bx:=0) (t:=0) (v:=v) hS2 (by omega)
   have hcut:cut fr1 0 ((a1.low.length:Nat):Int)=some (lfs a1.low):=by
    unfold cut
    rw [if_pos (by omega),hR1.fr]
    simp [Am.frs,← lfs_len a1.low]
   have eu:(vm_units_j1 cst fr1 (v,1,0,0,l',live - 1,8,400) (a.u:Int) ((a.pc+1:Nat):Int) ((wds a.low).length:Int))=some (1,0,0,cst,lfs a1.low,l3,live - 1 - ((a1.loc++r.reverse).length:Nat)+1,8,400):=by
    rw [vm_units_j1,hfrl,i64_ok (by omega),bS,hcut,bS,vm_units_j2]
    simp only [st_live,bS]
    rw [show live - 1 - ((wds a.low).length:Int)=(((a1.loc++r.reverse).length:Nat):Int) by rw [← e_low]; simp; omega,i64_ok (by simp; omega),bS,e2,bS,vm_units_j3]
    simp only [e3,bS]
   have htop2:at_ fr1 ((a1.low.length:Nat):Int)=some ⟨a.u,((a.pc+1:Nat):Int),(wds a.low).length⟩:=by rw [e_low]; exact htop1
   rw [e,bS,hfrl,i64_ok (by omega),bS,htop2,bS,eu,bS]
   have e_ws:b.ws=wds a1.low++[v]:=by
    rw [← hst,hlw]
    simp [Am.ws,wds]
   have e_o:b.out=a1.out:=by rw [← hst]
   rw [← e_o]
   refine fin (b':=b) (hR1.to ?_ ?_ ?_ ?_ ?_) rfl rfl
   ·rw [← hst,hlw]; rfl
   ·rw [e_ws]; exact hS3
   ·rw [e_ws,← hst]
    simp only [List.length_append,List.length_singleton]
    omega
   ·rw [← hst]
    rw [hlw] at hfl1
    simp only [List.length_cons] at hfl1
    simp only
    omega
   ·rw [← hst]
 rw [if_neg c24,if_neg c] at hst
 cases hst
end
end Go.Y
namespace Go.Y
open Go.Wk Go.Xt
theorem push_out {b c:Am} {v:Int} (hp:c.push v=some b):b.out=c.out:=by
 unfold Am.push at hp
 split at hp
 ·cases hp
 ·rw [← Option.some.inj hp]
theorem stepI_out {M:TModule} {b c:Am} {i:TInstr} (h:stepI M c i=some b):b.out.length≤c.out.length+1:=by
 unfold stepI at h
 by_cases d:i.Op=1
 ·rw [if_pos d] at h; rw [push_out h]; omega
 rw [if_neg d] at h; clear d
 by_cases d:i.Op=2
 ·rw [if_pos d] at h; rw [push_out h]; omega
 rw [if_neg d] at h; clear d
 by_cases d:i.Op=3
 ·rw [if_pos d] at h; obtain ⟨v,-,hp⟩:=Option.bind_eq_some_iff.1 h; rw [push_out hp]; omega
 rw [if_neg d] at h; clear d
 by_cases d:i.Op=4
 ·rw [if_pos d] at h; split at h
  ·split at h
   ·rw [← Option.some.inj h]; simp
   ·cases h
  ·cases h
 rw [if_neg d] at h; clear d
 by_cases d:8≤i.Op∧i.Op≤18
 ·rw [if_pos d] at h; split at h
  ·obtain ⟨v,-,hp⟩:=Option.bind_eq_some_iff.1 h; rw [← Option.some.inj hp]; simp
  ·cases h
 rw [if_neg d] at h; clear d
 by_cases d:i.Op=21
 ·rw [if_pos d] at h; rw [← Option.some.inj h]; simp
 rw [if_neg d] at h; clear d
 by_cases d:i.Op=22
 ·rw [if_pos d] at h; split at h
  ·rw [← Option.some.inj h]; simp
  ·cases h
 rw [if_neg d] at h; clear d
 by_cases d:i.Op=23
 ·rw [if_pos d] at h; obtain ⟨v,-,hp⟩:=Option.bind_eq_some_iff.1 h
  split at hp
  ·cases hp
  ·split at hp
   ·cases hp
   ·rw [← Option.some.inj hp]; simp
 rw [if_neg d] at h; clear d
 by_cases d:i.Op=24
 ·rw [if_pos d] at h; split at h
  ·rw [← Option.some.inj h]; simp
  ·cases h
 rw [if_neg d] at h; clear d
 by_cases d:i.Op=27
 ·rw [if_pos d] at h; split at h
  ·rw [push_out h]; simp
  ·cases h
 rw [if_neg d] at h; clear d
 by_cases d:i.Op=28
 ·rw [if_pos d] at h; split at h
  ·rw [← Option.some.inj h]; simp
  ·cases h
 rw [if_neg d] at h; cases h
theorem out_grows {M:TModule} {a b:Am} (h:astep M a=some b):b.out.length≤a.out.length+1:=by
 obtain ⟨i,-,h⟩:=Option.bind_eq_some_iff.1 h
 exact stepI_out (c:={ a with pc:=a.pc+1 }) h
section
variable {M:TModule} {feeds sent:List (List Int)} {cst:Int}
theorem astep_look {a b:Am} (h:astep M a=some b):∃ i,a.code M=some i∧(i.Op=27→i.A.toNat<a.ins.length):=by
 obtain ⟨i,hc,hst⟩:=Option.bind_eq_some_iff.1 h
 refine ⟨i,hc,fun c=>?_⟩
 unfold stepI at hst
 rw [if_neg (by omega),if_neg (by omega),if_neg (by omega),if_neg (by omega),if_neg (by omega),if_neg (by omega),if_neg (by omega),if_neg (by omega),if_neg (by omega),if_pos c] at hst
 simp only at hst
 split at hst
 ·rename_i x r hx
  exact (List.getElem?_eq_some_iff.1 hx).1
 ·cases hst
theorem run_ok (hM:mok M=true):∀ (n:Nat) (a b:Am) (i':TInstr) (tk:List Int) (fr:List TVf) (l:List Int) (live s bx i:Int) (k:Nat),Rm feeds a tk fr l live→s≤3→a.out.length+n≤100000→arun M n a=some b→b.code M=some i'→(i'.Op=27→i'.A.toNat<b.ins.length)→0≤i→i+n≤5000 →
  ∃ s' bx' tk' fr' l' live',vm_solo_l3 M 5000 (k+n) i s bx 0 a.out cst fr live 8 400 l tk feeds sent=vm_solo_l3 M 5000 k (i+n) s' bx' 0 b.out cst fr' live' 8 400 l' tk' feeds sent∧Rm feeds b tk' fr' l' live'∧s'≤3
 | 0,a,b,i',tk,fr,l,live,s,bx,i,k,hR,hs,ho,h,hb,hl,h0,h5=>by
  cases h
  exact ⟨s,bx,tk,fr,l,live,by simp,hR,hs⟩
 | n+1,a,b,i',tk,fr,l,live,s,bx,i,k,hR,hs,ho,h,hb,hl,h0,h5=>by
  obtain ⟨c,hc,hr⟩:=Option.bind_eq_some_iff.1 h
  have hlook:∃ j,c.code M=some j∧(j.Op=27→j.A.toNat<c.ins.length):=by
   cases n with
   | zero=>cases hr; exact ⟨i',hb,hl⟩
   | succ n =>
    obtain ⟨d,hd,-⟩:=Option.bind_eq_some_iff.1 hr
    exact astep_look hd
  obtain ⟨j,hj,hjl⟩:=hlook
  obtain ⟨tk1,fr1,l1,live1,e1,hR1⟩:=step_ok (sent:=sent) (cst:=cst) (bx:=bx) hM hR hs (by omega) hc hj hjl
  have hg:=out_grows hc
  obtain ⟨s',bx',tk',fr',l',live',e2,hR2,hs2⟩:=run_ok hM n c b i' tk1 fr1 l1 live1 (if c.stuck j then 3 else 1) (if c.stuck j then j.A else 0) (i+1) k hR1 (by split <;> omega) (by omega) hr hb hl (by omega) (by omega)
  refine ⟨s',bx',tk',fr',l',live',?_,hR2,hs2⟩
  rw [show k+(n+1)=(k+n)+1 by omega,vm_solo_l3,if_pos (by omega),e1,bS]
  simp only [if_true]
  rw [i64_ok (by omega),bS,e2]
  congr 1
  omega
theorem wait_ok (hM:mok M=true) {a:Am} {o:List Int} {n:Nat} {tk:List Int} {fr:List TVf} {l:List Int} {live s bx:Int} {k:Nat} (hR:Rm feeds a tk fr l live) (hs:s≤3) (ho:a.out=[]) (e:Ends M a o n) (hn:n<5000) (hk:5000≤k) :
  ∃ r:TReport,vm_solo_l3 M 5000 k 0 s bx 0 a.out cst fr live 8 400 l tk feeds sent=some (r,0)∧r.State=3∧r.Out=o:=by
 obtain ⟨m,b,hm,hr,⟨i,hi,h27,hA,hins⟩,hb⟩:=e
 have hil:i.A.toNat<b.ins.length:=(List.getElem?_eq_some_iff.1 hins).1
 obtain ⟨s',bx',tk',fr',l',live',e1,hR1,hs1⟩:=run_ok (sent:=sent) (cst:=cst) hM m a b i tk fr l live s bx 0 (k - m) hR hs (by rw [ho]; simp; omega) hr hi (fun _=>hil) (by omega) (by omega)
 rw [show k=(k - m)+m by omega,e1]
 obtain ⟨k',hk'⟩:∃ k',k - m=k'+1:=⟨k - m - 1,by omega⟩
 rw [hk',vm_solo_l3,if_pos (by omega),vm_step,look_ok hM hR1 hs1 hi (fun _=>hil),bS]
 have hst:b.stuck i=true:=by simp [Am.stuck,h27,hins]
 simp only [hst,if_true]
 rw [if_pos (by decide),bS]
 exact ⟨_,rfl,rfl,hb⟩
structure Fed (M:TModule) (feeds:List (List Int)):Prop where
 n:feeds.length=M.Boxes.length
 few:feeds.length≤1000
 big:∀ f ∈ feeds,f.length≤65536
 ty:∀ (i:Nat) (f:List Int) (b:TBi),feeds[i]?=some f→M.Boxes[i]?=some b→b.Typ=2→∀ v ∈ f,v=0∨v=1
theorem feeds_ok2 (hF:Fed M feeds) {i:Nat} {f:List Int} (hi:feeds[i]?=some f) (K:Int→Option (TReport×Int)):∀ (k j:Nat),j≤f.length→f.length<k+j→vm_solo_l2 M (i:Int) f K k (j:Int)=K ((i:Int)+1)
 | 0,j,h1,h2=>by omega
 | k+1,j,h1,h2=>by
  have hlt:i<feeds.length:=(List.getElem?_eq_some_iff.1 hi).1
  have hfew:=hF.few
  have hbig:=hF.big f (List.mem_of_getElem? hi)
  rw [vm_solo_l2]
  by_cases c:j<f.length
  ·rw [if_pos (by omega),at_nat,List.getElem?_eq_getElem c,bS,at_nat]
   have hb:i<M.Boxes.length:=by rw [← hF.n]; exact hlt
   rw [List.getElem?_eq_getElem hb,bS]
   have go:∀ q,q=false→vm_solo_j1 (j:Int) (vm_solo_l2 M (i:Int) f K k) q=K ((i:Int)+1):=by
    intro q hq; subst hq
    rw [vm_solo_j1,if_neg (by decide),i64_ok (by omega),bS]
    exact feeds_ok2 hF hi K k (j+1) c (by omega)
   split
   ·rename_i h2'
    have:=hF.ty i f _ hi (List.getElem?_eq_getElem hb) h2' f[j] (List.getElem_mem c)
    split
    ·rename_i h3
     exact go _ (decide_eq_false (by omega))
    ·exact go _ rfl
   ·exact go _ rfl
  ·rw [if_neg (by omega),i64_ok (by omega),bS]
theorem feeds_ok (fu:Nat) (p2 p4:Int) (r32:List Int) (hF:Fed M feeds):∀ (k i:Nat),i≤feeds.length→feeds.length<k+i →
  vm_solo_l1 fu M p2 feeds p4 r32 k (i:Int)=vm_solo_j2 fu M p2 feeds p4 r32 (List.replicate feeds.length 0) (List.replicate feeds.length [])
 | 0,i,h1,h2=>by omega
 | k+1,i,h1,h2=>by
  have hfew:=hF.few
  rw [vm_solo_l1]
  by_cases c:i<feeds.length
  ·rw [if_pos (by omega),at_nat,List.getElem?_eq_getElem c,bS]
   have:=feeds_ok2 hF (List.getElem?_eq_getElem c) (vm_solo_l1 fu M p2 feeds p4 r32 k) (feeds[i].length+1) 0 (by omega) (by omega)
   rw [show ((0:Nat):Int)=0 from rfl] at this
   rw [this]
   exact feeds_ok fu p2 p4 r32 hF k (i+1) c (by omega)
  ·rw [if_neg (by omega)]
   have:mks (feeds.length:Int)=some feeds.length:=by
    unfold mks
    rw [if_pos (by omega)]
    simp
   rw [this,bS,bS]
structure Rdy (fu:Nat) (M:TModule) (un nl:Nat):Prop where
 ok:mok M=true
 vf:(vf_verify fu M).map (fun w=>w.Err)=some 0
 ts:(vm_tasks M).bind (fun l=>l[0]?)=some (un:Int)
 nw:vm_new M (un:Int)=some (1,0,0,[],2,[(⟨(un:Int),0,0⟩:TVf)],List.replicate 8 (0:Int),(nl:Int),8,400)
 nl:nl≤8
 cd:∃ u,M.Units[un]?=some u∧∃ i,u.Code[0]?=some i∧(i.Op=27→i.A.toNat<M.Boxes.length)
theorem rm_init {un nl:Nat} (hn:nl≤8) (hF:Fed M feeds):Rm feeds (t0 un 0 (List.replicate nl 0) [] (400 - nl) feeds []) (List.replicate feeds.length (0:Int)) [(⟨(un:Int),0,0⟩:TVf)] (List.replicate 8 (0:Int)) (nl:Int) where
 fr:=rfl
 st:=⟨by simp,by simp,by simp [Am.ws,t0,wds],by simp [Am.ws,t0,wds]; omega,by
  simp only [Am.ws,t0,wds,List.reverse_nil,List.append_nil,List.nil_append,List.length_replicate,List.take_replicate]
  rw [Nat.min_eq_left hn]⟩
 wr:=by simp [Am.ws,t0,wds]; omega
 fl:=rfl
 tn:=by simp
 il:=rfl
 tk i f h:=⟨0,by
  have:i<feeds.length:=(List.getElem?_eq_some_iff.1 h).1
  simp [this],by omega,by simpa [t0] using h⟩
 big:=hF.big
theorem solo_pre {fu:Nat} {un nl:Nat} (hr:Rdy fu M un nl) (hF:Fed M feeds):∃ s bx tk fr l live,s≤3∧Rm feeds (t0 un 0 (List.replicate nl 0) [] (400 - nl) feeds []) tk fr l live ∧
  vm_solo fu M 0 feeds 5000=vm_solo_l3 M 5000 fu 0 s bx 0 [] 2 fr live 8 400 l tk feeds (List.replicate feeds.length []):=by
 obtain ⟨w,hv,hw⟩:=Option.map_eq_some_iff.1 hr.vf
 obtain ⟨ts,ht,ht0⟩:=Option.bind_eq_some_iff.1 hr.ts
 have htl:0<ts.length:=(List.getElem?_eq_some_iff.1 ht0).1
 obtain ⟨u,hu,i,hi,hi2⟩:=hr.cd
 have hR:=rm_init (un:=un) hr.nl hF
 have hc:(t0 un 0 (List.replicate nl 0) [] (400 - nl) feeds []).code M=some i:=by
  show (M.Units[un]?).bind (fun u=>u.Code[0]?)=some i
  rw [hu]; exact hi
 have hlk:=look_ok (sent:=List.replicate feeds.length []) (s:=1) (bx:=0) hr.ok hR (by decide) hc (fun c=>by show _<feeds.length; rw [hF.n]; exact hi2 c)
 generalize hs1:(if (t0 un 0 (List.replicate nl 0) [] (400 - nl) feeds []).stuck i=true then (3:Int) else 1)=s at hlk
 generalize hb1:(if (t0 un 0 (List.replicate nl 0) [] (400 - nl) feeds []).stuck i=true then i.A else 0)=bx at hlk
 refine ⟨s,bx,_,_,_,_,by rw [← hs1]; split <;> omega,hR,?_⟩
 ·rw [vm_solo,hv,bS,if_neg (by simp [hw]),ht,bS,if_neg (by decide),if_neg (by omega),if_neg (by decide),if_neg (by decide),if_neg (by rw [hF.n]; simp)]
  have:=feeds_ok fu 0 5000 ts hF (feeds.length+1) 0 (by omega) (by omega)
  rw [show ((0:Nat):Int)=0 from rfl] at this
  rw [this,vm_solo_j2,at_z (by decide)]
  simp only [Int.toNat_zero]
  rw [ht0,bS,hr.nw,bS]
  simp only [hlk,bS]
theorem solo_waits {fu:Nat} {un nl n:Nat} {o:List Int} (hr:Rdy fu M un nl) (hF:Fed M feeds) (hfu:5001≤fu) (e:Ends M (t0 un 0 (List.replicate nl 0) [] (400 - nl) feeds []) o n) (hn:n<5000) :
  ∃ r:TReport,vm_solo fu M 0 feeds 5000=some (r,0)∧r.State=3∧r.Out=o:=by
 obtain ⟨s,bx,tk,fr,l,live,hs,hR,he⟩:=solo_pre hr hF
 rw [he]
 exact wait_ok hr.ok hR hs rfl e hn (by omega)
end
end Go.Y
namespace Go.Y
open Go.Wk Go.Xt
theorem same_l1 (l:List Int) (hl:l.length≤65536):∀ (n i:Nat),i≤l.length→l.length<n+i→r9_same_l1 l l n (i:Int)=some true
 | 0,i,h1,h2=>by omega
 | n+1,i,h1,h2=>by
  rw [r9_same_l1]
  by_cases c:i<l.length
  ·rw [if_pos (by omega),at_nat,List.getElem?_eq_getElem c,bS,bS,if_neg (by simp),i64_ok (by omega),bS]
   exact same_l1 l hl n (i+1) c (by omega)
  ·rw [if_neg (by omega)]
theorem same_ok (l:List Int) (hl:l.length≤65536):r9_same l l=some true:=by
 rw [r9_same,if_neg (by simp)]
 exact same_l1 l hl _ 0 (by omega) (by omega)
theorem says_ok {fu:Nat} {name:List UInt8} {M:TModule} {un nl n:Nat} {feeds:List (List Int)} {o:List Int} (hm:sh_module fu name=some (M,0)) (hr:Rdy fu M un nl) (hF:Fed M feeds) (hfu:5001≤fu)
  (e:Ends M (t0 un 0 (List.replicate nl 0) [] (400 - nl) feeds []) o n) (hn:n<5000) (ho:o.length≤65536):l12_says fu name o feeds=some true:=by
 obtain ⟨r,h1,h2,h3⟩:=solo_waits hr hF hfu e hn
 rw [l12_says,sh_ask,hm,bS,if_neg (by simp),h1,bS,bS,if_pos rfl,if_pos h2,h3,same_ok o ho,bS]
theorem fed1 {M:TModule} {l:List Int} {c:Int} (hb:M.Boxes=[⟨1,c⟩]) (hl:l.length≤65536):Fed M [l] where
 n:=by rw [hb]; rfl
 few:=by simp
 big f hf:=by obtain rfl:=List.mem_singleton.1 hf; exact hl
 ty i f b h1 h2 h3:=by
  rw [hb] at h2
  have hi:i<1:=by simpa using (List.getElem?_eq_some_iff.1 h2).1
  obtain rfl:i=0:=by omega
  cases h2; cases h3
theorem app_ok {l xs:List Int} (h:l.length+xs.length≤4294967296):app l xs=some (l++xs):=if_pos h
end Go.Y
namespace Go.Y
open Go.Wk Go.Xt
theorem small_l1 (l:List Int) (m:Int) (hm:0≤m∧m≤9223372036854775807) (hl:l.length≤12):∀ (n i:Nat),i≤l.length→l.length<n+i→∃ b,l12_small_l1 l m n (i:Int)=some b∧(b=true→∀ x ∈ l.drop i,-m≤x∧x≤m)
 | 0,i,h1,h2=>by omega
 | n+1,i,h1,h2=>by
  rw [l12_small_l1]
  by_cases c:i<l.length
  ·rw [if_pos (by omega),at_nat,List.getElem?_eq_getElem c,bS,w64_id (by omega)]
   obtain ⟨b,e1,e2⟩:=small_l1 l m hm hl n (i+1) c (by omega)
   by_cases d:l[i]<0 - m
   ·rw [if_pos d]; exact ⟨false,rfl,by simp⟩
   ·rw [if_neg d,l12_small_j1]
    by_cases e:m<l[i]
    ·rw [decide_eq_true e]; exact ⟨false,rfl,by simp⟩
    ·rw [decide_eq_false e,if_neg (by decide),i64_ok (by omega),bS]
     refine ⟨b,e1,fun hb x hx=>?_⟩
     rw [List.drop_eq_getElem_cons c] at hx
     rcases List.mem_cons.1 hx with rfl | hx
     ·omega
     ·exact e2 hb x hx
  ·rw [if_neg (by omega)]
   exact ⟨true,rfl,fun _ x hx=>by rw [List.drop_eq_nil_of_le (by omega)] at hx; simp at hx⟩
theorem small_ok (l:List Int) (m:Int) (hm:0≤m∧m≤9223372036854775807):∃ b,l12_small l m=some b∧(b=true→l.length≤12∧∀ x ∈ l,-m≤x∧x≤m):=by
 rw [l12_small]
 by_cases c:(12:Int)<l.length
 ·rw [if_pos c]; exact ⟨false,rfl,by simp⟩
 ·rw [if_neg c]
  obtain ⟨b,e1,e2⟩:=small_l1 l m hm (by omega) (l.length+1) 0 (by omega) (by omega)
  exact ⟨b,e1,fun hb=>⟨by omega,by simpa using e2 hb⟩⟩
end Go.Y
namespace Go.Y
open Go.Wk Go.Xt
theorem gcdB_ok:∀ (k:Nat) (a b:Nat),b<2 ^ k→gcdB (2*k+1) (a:Int) (b:Int)=true
 | 0,a,b,h=>by
  have:b=0:=by simp at h; omega
  subst this; rfl
 | k+1,a,b,h=>by
  rw [show 2*(k+1)+1=(2*k+1+1)+1 by omega,gcdB]
  by_cases c:(b:Int)=0
  ·rw [if_pos c]
  ·rw [if_neg c,gcdB]
   have e:((a:Int).tmod (b:Int))=((a % b:Nat):Int):=by rw [Int.tmod_eq_emod_of_nonneg (by omega)]; rfl
   rw [e]
   by_cases d:((a % b:Nat):Int)=0
   ·rw [if_pos d]
   ·have e2:((b:Int).tmod ((a % b:Nat):Int))=((b % (a % b):Nat):Int):=by rw [Int.tmod_eq_emod_of_nonneg (by omega)]; rfl
    rw [if_neg d,e2]
    refine gcdB_ok k (a % b) (b % (a % b)) ?_
    have h1:a % b<b:=Nat.mod_lt _ (by omega)
    have h2:b % (a % b)<a % b:=Nat.mod_lt _ (by omega)
    have h3:b % (a % b)+(a % b)≤b:=by
     have:=Nat.mod_add_div b (a % b)
     have hq:1≤b / (a % b):=Nat.div_pos (by omega) (by omega)
     have:=Nat.mul_le_mul_left (a % b) hq
     omega
    rw [Nat.pow_succ] at h
    omega
theorem gcdF_ok:∀ (k:Nat) (a b:Nat),gcdB k (a:Int) (b:Int)=true→gcdF k (a:Int) (b:Int)=((Nat.gcd a b:Nat):Int)
 | 0,a,b,h=>by cases h
 | k+1,a,b,h=>by
  rw [gcdB] at h
  rw [gcdF]
  by_cases c:(b:Int)=0
  ·have:b=0:=by omega
   subst this
   rw [if_pos c,Nat.gcd_zero_right]
  ·rw [if_neg c] at h ⊢
   have e:((a:Int).tmod (b:Int))=((a % b:Nat):Int):=by rw [Int.tmod_eq_emod_of_nonneg (by omega)]; rfl
   rw [e] at h ⊢
   rw [gcdF_ok k b (a % b) h,Nat.gcd_comm a b,Nat.gcd_rec b a,Nat.gcd_comm]
def gd (a b:Int):Nat→Int
 | 0=>0
 | n+1=>if a.tmod ((n:Int)+1)=0∧b.tmod ((n:Int)+1)=0∧0<a+b then (n:Int)+1 else gd a b n
theorem gd_zero:∀ n:Nat,gd 0 0 n=0
 | 0=>rfl
 | n+1=>by rw [gd,if_neg (by simp),gd_zero n]
theorem gd_ok (a b:Nat) (h0:0<a+b):∀ n:Nat,Nat.gcd a b≤n→gd (a:Int) (b:Int) n=((Nat.gcd a b:Nat):Int)
 | 0,h=>by
  have:Nat.gcd a b=0:=by omega
  have h1:=Nat.eq_zero_of_gcd_eq_zero_left this
  have h2:=Nat.eq_zero_of_gcd_eq_zero_right this
  omega
 | n+1,h=>by
  rw [gd]
  have e:∀ c:Nat,((c:Int).tmod ((n:Int)+1))=((c % (n+1):Nat):Int):=fun c=>by rw [Int.tmod_eq_emod_of_nonneg (by omega)]; rfl
  rw [e,e]
  by_cases c:((a % (n+1):Nat):Int)=0∧((b % (n+1):Nat):Int)=0∧(0:Int)<(a:Int)+(b:Int)
  ·rw [if_pos c]
   have h1:n+1 ∣ a:=Nat.dvd_of_mod_eq_zero (by omega)
   have h2:n+1 ∣ b:=Nat.dvd_of_mod_eq_zero (by omega)
   have h3:=Nat.dvd_gcd h1 h2
   have hg:0<Nat.gcd a b:=by
    rcases Nat.eq_zero_or_pos (Nat.gcd a b) with h | h
    ·have h1:=Nat.eq_zero_of_gcd_eq_zero_left h
     have h2:=Nat.eq_zero_of_gcd_eq_zero_right h
     omega
    ·exact h
   have:=Nat.le_of_dvd hg h3
   omega
  ·rw [if_neg c]
   refine gd_ok a b h0 n ?_
   rcases Nat.lt_or_ge n (Nat.gcd a b) with hlt | hge
   ·exfalso
    have:Nat.gcd a b=n+1:=by omega
    have h1:=Nat.gcd_dvd_left a b
    have h2:=Nat.gcd_dvd_right a b
    rw [this] at h1 h2
    have h3:=Nat.mod_eq_zero_of_dvd h1
    have h4:=Nat.mod_eq_zero_of_dvd h2
    exact c ⟨by omega,by omega,by omega⟩
   ·exact hge
end Go.Y
namespace Go.Y
open Go.Wk Go.Xt
theorem gcd_rdy:Rdy 60001 m_gcd 1 0:=⟨by decide +kernel,by decide +kernel,by decide +kernel,by kernel_rfl,by decide,⟨_,rfl,_,rfl,by decide⟩⟩
theorem gcd_mod:sh_module 60001 [103,99,100]=some (m_gcd,0):=by decide +kernel
theorem gcd_l2 (i:Int) (acc:List Int) (a b:Int) (K:Int→List Int→Option Bool) (ha:0≤a∧a≤1000) (hb:0≤b∧b≤1000):∀ (m n d:Nat),d+m=1000→m<n→law_gcd_l2 i acc a b K n (gd a b d) ((d:Int)+1)=Option.bind (app acc [gd a b 1000]) fun l=>Option.bind (i64 (i+2)) fun j=>K j l
 | 0,0,d,h1,h2=>by omega
 | 0,n+1,d,h1,h2=>by
  obtain rfl:d=1000:=by omega
  rw [law_gcd_l2,if_neg (by decide)]
 | m+1,0,d,h1,h2=>by omega
 | m+1,n+1,d,h1,h2=>by
  have hr:∀ x:Int,remt x ((d:Int)+1)=some (x.tmod ((d:Int)+1)):=fun x=>if_neg (by omega)
  have nx:=gcd_l2 i acc a b K ha hb m n (d+1) (by omega) (by omega)
  have e1:((d+1:Nat):Int)+1=(d:Int)+1+1:=by omega
  have ew:w64 ((d:Int)+1+1)=(d:Int)+1+1:=w64_id (by omega)
  have es:w64 (a+b)=a+b:=w64_id (by omega)
  rw [e1,gd] at nx
  rw [law_gcd_l2,if_pos (by omega),hr,bS]
  by_cases c1:a.tmod ((d:Int)+1)=0
  ·rw [if_pos c1,hr,bS]
   by_cases c2:b.tmod ((d:Int)+1)=0
   ·rw [if_pos c2,es,law_gcd_j2,ew]
    by_cases c3:0<a+b
    ·rw [if_pos ⟨c1,c2,c3⟩] at nx
     rw [decide_eq_true c3,if_pos rfl]
     exact nx
    ·rw [if_neg fun h=>c3 h.2.2] at nx
     rw [decide_eq_false c3,if_neg (by decide)]
     exact nx
   ·rw [if_neg fun h=>c2 h.2.1] at nx
    rw [if_neg c2,law_gcd_j2,if_neg (by decide),ew]
    exact nx
  ·rw [if_neg fun h=>c1 h.1] at nx
   rw [if_neg c1,law_gcd_j2,if_neg (by decide),ew]
   exact nx
theorem gcd_g (a b:Int) (ha:0≤a∧a≤1000) (hb:0≤b∧b≤1000):gcdB 21 a b=true∧gd a b 1000=gcdF 21 a b:=by
 obtain ⟨p,rfl⟩:∃ p:Nat,a=p:=⟨a.toNat,by omega⟩
 obtain ⟨q,rfl⟩:∃ q:Nat,b=q:=⟨b.toNat,by omega⟩
 have h1:=gcdB_ok 10 p q (by omega)
 have h2:=gcdF_ok 21 p q h1
 refine ⟨h1,?_⟩
 rw [h2]
 by_cases z:0<p+q
 ·refine gd_ok p q z 1000 ?_
  rcases Nat.eq_zero_or_pos p with h | h
  ·have:=Nat.le_of_dvd (show 0<q by omega) (Nat.gcd_dvd_right p q)
   omega
  ·have:=Nat.le_of_dvd h (Nat.gcd_dvd_left p q)
   omega
 ·obtain rfl:p=0:=by omega
  obtain rfl:q=0:=by omega
  exact gd_zero 1000
theorem gcd_l1 (l:List Int) (hl:l.length≤12) (hx:∀ x ∈ l,-1000≤x∧x≤1000):∀ (n i:Nat) (acc:List Int),i≤l.length+1→l.length+1<n+i→acc.length≤i →
  law_gcd_l1 60001 l n (i:Int) acc=some true∨(gcdOk 21 (l.drop i)∧law_gcd_l1 60001 l n (i:Int) acc=Option.bind (l12_says 60001 [103,99,100] (acc++gcdG 21 (l.drop i)) [l]) fun r=>some r)
 | 0,i,acc,h1,h2,h3=>by omega
 | n+1,i,acc,h1,h2,h3=>by
  rw [law_gcd_l1,i64_ok (by omega),bS]
  by_cases c:i+1<l.length
  ·have e1:((i:Int)+1)=((i+1:Nat):Int):=by omega
   have hi:i<l.length:=by omega
   rw [if_pos (by omega),at_nat,List.getElem?_eq_getElem hi,bS,bS,e1,at_nat,List.getElem?_eq_getElem c,bS]
   have x1:=hx _ (List.getElem_mem hi)
   have x2:=hx _ (List.getElem_mem c)
   by_cases d:l[i]<0
   ·rw [if_pos d,law_gcd_j1,if_pos rfl]; exact .inl rfl
   ·rw [if_neg d,law_gcd_j1]
    by_cases e:l[i+1]<0
    ·rw [decide_eq_true e,if_pos rfl]; exact .inl rfl
    ·have a1:0≤l[i]∧l[i]≤1000:=by omega
     have a2:0≤l[i+1]∧l[i+1]≤1000:=by omega
     obtain ⟨g1,g2⟩:=gcd_g _ _ a1 a2
     have st:=gcd_l2 (i:Int) acc l[i] l[i+1] (law_gcd_l1 60001 l n) a1 a2 1000 60001 0 (by decide) (by decide)
     rw [show ((0:Nat):Int)+1=1 from rfl,show gd l[i] l[i+1] 0=0 from rfl] at st
     rw [decide_eq_false e,if_neg (by decide),st,g2,app_ok (by simp; omega),bS,i64_ok (by omega),bS]
     have ed:l.drop i=l[i]::l[i+1]::l.drop (i+2):=by rw [List.drop_eq_getElem_cons hi,List.drop_eq_getElem_cons c]
     rcases gcd_l1 l hl hx n (i+2) (acc++[gcdF 21 l[i] l[i+1]]) (by omega) (by omega) (by simp; omega) with h | ⟨h,h'⟩
     ·exact .inl h
     ·refine .inr ⟨by rw [ed]; exact ⟨g1,h⟩,h'.trans ?_⟩
      rw [ed,gcdG]
      simp only [List.append_assoc,List.singleton_append]
  ·rw [if_neg (by omega)]
   have hlen:(l.drop i).length≤1:=by simp; omega
   refine .inr ?_
   match l.drop i,hlen with
   | [],_=>exact ⟨trivial,by rw [gcdG,List.append_nil]; all_goals (intros; simp_all)⟩
   | [x],_=>exact ⟨trivial,by rw [gcdG,List.append_nil]; all_goals (intros; simp_all)⟩
   | x::y::r,h=>simp at h
theorem gcdG_len (K:Nat):∀ l:List Int,(gcdG K l).length≤l.length
 | a::b::l=>by rw [gcdG]; have:=gcdG_len K l; simp; omega
 | [x]=>by simp [gcdG]
 | []=>by simp [gcdG]
theorem law_gcd_ok (l:List Int):law_gcd 60001 l=some true:=by
 rw [law_gcd]
 obtain ⟨b,e1,e2⟩:=small_ok l 1000 (by decide)
 rw [e1,bS]
 cases b with
 | false=>rw [if_neg (by decide)]
 | true =>
  obtain ⟨h1,h2⟩:=e2 rfl
  rw [if_pos rfl]
  rcases gcd_l1 l h1 h2 60001 0 [] (by omega) (by omega) (by simp) with h | ⟨ho,h⟩
  ·exact h
  ·rw [show ((0:Nat):Int)=0 from rfl] at h
   rw [List.drop_zero] at h ho
   have e:=gcd_ends 21 (by decide) l [] ho
   have hn:=gcdG_len 21 l
   rw [h,List.nil_append,says_ok (n:=(10*21+7)*l.length+3) gcd_mod gcd_rdy (fed1 rfl (by omega)) (by decide) (by simpa using e) (by omega) (by omega),bS]
end Go.Y
