/- Texts of GraphCircle Pl. -/
import Derived.Test.YtbhncpgjmkcdcaaGreatDoorCMd
set_option linter.unusedSimpArgs false
set_option linter.unusedVariables false
set_option linter.unusedSectionVars false
namespace Go.Y
open Go.yb Go.kc
abbrev ve (m:ub):ze:=⟨some m⟩
section
variable {b:vd→vd}
end
end Go.Y
namespace Go.Y
open Go.yb Go.kc
def wu (x:Tc):Prop:=wg x.Kind∧wg x.Params∧wg x.Result∧wg x.Yd∧(x.Cc.length≤17592186044416∧∀ y ∈ x.Cc,wg y)∧x.Code.length≤17592186044416∧True
def Fk (m:ub):Prop:=(m.uc.length≤17592186044416∧∀ y ∈ m.uc,Bu y)∧m.lb.length≤17592186044416∧∀ y ∈ m.lb,wu y
theorem Dx.zero {m:ub}(h:Dx m):Fk m:=⟨h.1,h.2.1,fun y g=>by
 obtain ⟨a,b,c,d,e,f,-⟩:=h.2.2 y g;exact ⟨a,b,c,d,e,f,trivial⟩⟩
theorem Hh {n:Int}(h:-9223372036854775808≤n∧n≤9223372036854775807):i64 n=some n:=if_pos h
theorem Mj {α:Type}{l:List α}{i:Nat}(h:i<l.length):at_ l (i:Int)=some l[i]:=by simp [at_,h]
theorem an {α:Type}{l:List α}{i:Int}(a:0≤i) (b:i<l.length):∃ x,at_ l i=some x∧x ∈ l:=by
 obtain ⟨k,rfl⟩:=Int.eq_ofNat_of_zero_le a;have:k<l.length:=by omega
 exact ⟨l[k],Mj this,List.getElem_mem this⟩
theorem RD {α:Type}{l:List α}{i:Int}(h:¬ (0≤i∧i<l.length)):at_ l i=none:=by
 unfold at_;split
 ·rw [List.getElem?_eq_none];omega
 ·rfl
theorem at_mem {α:Type}{l:List α}{i:Int}{x:α}(h:at_ l i=some x):x ∈ l∧0≤i∧i<l.length:=by
 unfold at_ at h;split at h
 ·obtain ⟨a,b⟩:=List.getElem?_eq_some_iff.1 h;exact ⟨b ▸ List.getElem_mem a,by omega,by omega⟩
 ·cases h
def Gg (t:Int):Prop:=t=1∨t=2
instance (t:Int):Decidable (Gg t):=by unfold Gg;infer_instance
theorem Gw (t:Int):Lm t=some (decide (Gg t)):=by
 unfold Lm Gg;by_cases h:t=1<;>simp [h]
def ll (m:ub) (p k:Int):Bool:=match at_ m.lb p with
 | some u=>decide (u.Kind=k)
 | none=>false
theorem eD (m:ub) (p k:Int):Np (ve m) p k=some (ll m p k):=by
 unfold Np ll;rw [Option.bind_some];by_cases a:0≤p
 ·by_cases b:p<m.lb.length
  ·obtain ⟨x,c,-⟩:=an a b;rw [if_pos a,if_pos b,c];rfl
  ·rw [if_pos a,if_neg b,RD (by omega)]
 ·rw [if_neg a,RD (by omega)]
def Tj (m:ub) (t:Int):Bool:=decide (10≤t) && ll m (t - 10) 3
theorem bC (m:ub){t:Int}(h:wg t):Yq (ve m) t=some (Tj m t):=by
 unfold Yq Tj;unfold wg at h;by_cases a:10≤t
 ·rw [if_pos a,Hh (by omega),Option.bind_some,eD,Option.bind_some];simp [a]
 ·rw [if_neg a];simp [a]
def Il (m:ub) (u:Tc) (i:vd):Prop :=
 (1≤i.Op∧i.Op≤32)∧(i.Op=2→i.A=0∨i.A=1)∧(i.Op=3∨i.Op=4→0≤i.A∧i.A<u.Cc.length)∧(i.Op=21∨i.Op=22→0≤i.A∧i.A<u.Code.length) ∧
 (i.Op=23→ll m i.A 2=true)∧(i.Op=29→ll m i.A 3=true)∧(i.Op=26∨i.Op=27→0≤i.A∧i.A<m.uc.length)
theorem eH (m:ub) (u:Tc) (i:vd):∃ e,xt (ve m) u i=some e∧(e=0 ↔ Il m u i):=by
 have fin:∀ b:Bool,Kk b=some (if b then 0 else 3):=fun b=>by cases b<;>rfl
 have p:∀ b:Bool,Js b=some (if b then 1 else 0):=fun b=>by cases b<;>rfl
 unfold xt Ms Ls Ks Il;simp only [eD,Option.bind_some,fin,p];by_cases d:i.Op=2
 ·by_cases a:i.A=0<;>by_cases c:i.A=1<;>simp [d,a,c]
 by_cases f:i.Op=3
 ·by_cases a:0≤i.A<;>by_cases c:i.A<u.Cc.length<;>simp [f,a,c]
 by_cases g:i.Op=4
 ·by_cases a:0≤i.A<;>by_cases c:i.A<u.Cc.length<;>simp [g,a,c]
 by_cases h:i.Op=21
 ·by_cases a:0≤i.A<;>by_cases c:i.A<u.Code.length<;>simp [h,a,c]
 by_cases j:i.Op=22
 ·by_cases a:0≤i.A<;>by_cases c:i.A<u.Code.length<;>simp [j,a,c]
 by_cases k:i.Op=23
 ·cases a:ll m i.A 2<;>simp [k,a]
 by_cases l:i.Op=29
 ·cases a:ll m i.A 3<;>simp [l,a]
 by_cases n:i.Op=26
 ·by_cases a:0≤i.A<;>by_cases c:i.A<m.uc.length<;>simp [n,a,c]
 by_cases o:i.Op=27
 ·by_cases a:0≤i.A<;>by_cases c:i.A<m.uc.length<;>simp [o,a,c]
 by_cases a:i.Op<1<;>by_cases c:32<i.Op<;>simp [d,f,g,h,j,k,l,n,o,a,c]<;>omega
theorem IL {f:Int→Option Bool}{g:Int→Bool}(l:List Int) (d:l.length≤40000000000000) (a:∀ x ∈ l,f x=some (g x)):∀ (n i:Nat),i≤l.length→l.length - i<n→∃ r,Zq l f n (i:Int)=some r∧(0≤r ↔ (l.drop i).any g=true):=by
 intro n
 induction n with
 | zero=>intro i _ h; omega
 | succ n b =>
  intro i Ua e;unfold Zq;by_cases c:i<l.length
  ·rw [if_pos (by omega),Mj c,Option.bind_some,a _ (List.getElem_mem c),Option.bind_some,List.drop_eq_getElem_cons c,List.any_cons];cases j:g l[i] with
   | true=>exact ⟨_,if_pos rfl,by simp⟩
   | false =>
    rw [if_neg (by decide),Hh (by omega),Option.bind_some,Bool.false_or];exact b (i+1) c (by omega)
  ·rw [if_neg (by omega),List.drop_of_length_le (by omega)];exact ⟨_,rfl,by simp⟩
theorem FD {f:Int→Option Bool}{g:Int→Bool}(l:List Int) (b:l.length≤40000000000000) (c:∀ x ∈ l,f x=some (g x)):Up l f=some (l.any g):=by
 unfold Up Mw;obtain ⟨r,e,h⟩:=IL l b c (l.length+1) 0 (by omega) (by omega);rw [show ((0:Nat):Int)=0 from rfl] at e;rw [e,Option.bind_some];rw [List.drop_zero] at h;congr 1;cases a:l.any g with
 | true=>rw [a] at h; simp [h.2 rfl]
 | false=>rw [a] at h; simp only [decide_eq_false_iff_not]; exact fun d=>absurd (h.1 d) (by decide)
def To (m:ub) (u:Tc):Prop :=
 (u.Kind=2∨u.Kind=3∨u.Kind=4)∧(u.Cc.length≤200∧0≤u.Params∧u.Params≤6∧u.Params≤u.Cc.length∧(u.Kind=4→u.Params≤0))∧(1≤u.Code.length∧u.Code.length≤4000) ∧
 (u.Kind≠4→Gg u.Result)∧(u.Kind=3→Gg u.Yd)∧∀ t ∈ u.Cc,Gg t∨Tj m t=true
theorem JI (m:ub){u:Tc}(hu:wu u):∃ e,Mt (ve m) u=some e∧(e=0 ↔ To m u):=by
 obtain ⟨-,-,-,-,⟨A,v⟩,-,-⟩:=hu;have hc:Up u.Cc (fun w=>yt w (some (ve m)))=some (u.Cc.any fun t=>!decide (Gg t) && !Tj m t):=by
  refine FD _ (by omega) fun t f=>?_;unfold yt;rw [Gw,Option.bind_some];by_cases h:Gg t
  ·simp [h]
  ·rw [if_neg (by simp [h]),Option.bind_some,bC m (v t f),Option.bind_some];simp [h]
 have r:(u.Cc.any fun t=>!decide (Gg t) && !Tj m t)=true ↔ ¬ ∀ t ∈ u.Cc,Gg t∨Tj m t=true:=by
  rw [List.any_eq_true];constructor
  ·rintro ⟨t,f,h⟩ z;rcases z t f with a | a<;>simp [a] at h
  ·intro h;obtain ⟨t,h⟩:=Classical.not_forall.1 h;obtain ⟨f,h⟩:=Classical.not_imp.1 h;rw [not_or] at h;exact ⟨t,f,by simp [h.1,h.2]⟩
 have j:∀ b:Bool,∃ e,mn (ve m) u b=some e∧(e=0 ↔ b=false∧∀ t ∈ u.Cc,Gg t∨Tj m t=true):=by
  intro b;unfold mn;cases b with
  | true=>exact ⟨9,rfl,by simp⟩
  | false =>
   rw [if_neg (by decide),hc,Option.bind_some];by_cases h:(u.Cc.any fun t=>!decide (Gg t) && !Tj m t)=true
   ·rw [if_pos h];exact ⟨9,rfl,by simpa using r.1 h⟩
   ·rw [if_neg h];exact ⟨0,rfl,by simpa using Classical.not_not.1 fun g=>h (r.2 g)⟩
 have s:∀ b:Bool,∃ e,Kq (ve m) u b=some e∧(e=0 ↔ b=false∧(u.Kind≠4→Gg u.Result)∧(u.Kind=3→Gg u.Yd)∧∀ t ∈ u.Cc,Gg t∨Tj m t=true):=by
  intro b;unfold Kq;cases b with
  | true=>exact ⟨5,rfl,by simp⟩
  | false =>
   rw [if_neg (by decide)];simp only [Gw,Option.bind_some];by_cases l:u.Kind=4
   ·rw [if_neg (by omega),if_neg (by omega)];obtain ⟨e,a,d⟩:=j false;exact ⟨e,a,by rw [d];simp [l]⟩
   ·rw [if_pos l];by_cases i:Gg u.Result
    ·rw [if_pos (by simp [i])];by_cases k:u.Kind=3
     ·rw [if_pos k];obtain ⟨e,a,d⟩:=j (!decide (Gg u.Yd));exact ⟨e,a,by rw [d];simp [k,i]⟩
     ·rw [if_neg k];obtain ⟨e,a,d⟩:=j false;exact ⟨e,a,by rw [d];simp [k,i]⟩
    ·rw [if_neg (by simp [i])];obtain ⟨e,a,d⟩:=j true;exact ⟨e,a,by rw [d];simp [l,i]⟩
 have d:∀ b:Bool,∃ e,Fm (ve m) u b=some e∧(e=0 ↔ b=false∧(1≤u.Code.length∧u.Code.length≤4000)∧(u.Kind≠4→Gg u.Result)∧(u.Kind=3→Gg u.Yd)∧∀ t ∈ u.Cc,Gg t∨Tj m t=true):=by
  intro b;unfold Fm;cases b with
  | true=>exact ⟨5,rfl,by simp⟩
  | false =>
   rw [if_neg (by decide)];by_cases c:(u.Code.length:Int)<1
   ·rw [if_pos c];obtain ⟨e,n,o⟩:=s true;exact ⟨e,n,by rw [o];simp;omega⟩
   ·rw [if_neg c];obtain ⟨e,n,o⟩:=s (decide ((4000:Int)<(u.Code.length:Int)));refine ⟨e,n,o.trans ⟨fun ⟨x,y⟩=>⟨rfl,⟨by omega,?_⟩,y⟩,fun ⟨_,x,y⟩=>⟨?_,y⟩⟩⟩
    ·simp at x;omega
    ·simp;omega
 have a:∀ b:Bool,∃ e,Ap (ve m) u b=some e∧(e=0 ↔ b=false∧(u.Cc.length≤200∧0≤u.Params∧u.Params≤6∧u.Params≤u.Cc.length∧(u.Kind=4→u.Params≤0))∧(1≤u.Code.length∧u.Code.length≤4000)∧(u.Kind≠4→Gg u.Result)∧(u.Kind=3→Gg u.Yd)∧∀ t ∈ u.Cc,Gg t∨Tj m t=true):=by
  intro b;unfold Ap;obtain ⟨aa,t1,t2⟩:=d true;obtain ⟨Kd,f1,f2⟩:=d false;obtain ⟨p,k1,q⟩:=d (decide ((0:Int)<u.Params));have bad:aa≠0:=fun h=>by have:=t2.1 h;simp at this
  cases b with
  | true=>exact ⟨1,rfl,by simp⟩
  | false =>
   rw [if_neg (by decide)];by_cases c1:(200:Int)<(u.Cc.length:Int)
   ·rw [if_pos c1];exact ⟨aa,t1,⟨fun h=>absurd h bad,fun h=>by omega⟩⟩
   rw [if_neg c1];by_cases c2:u.Params<0
   ·rw [if_pos c2];exact ⟨aa,t1,⟨fun h=>absurd h bad,fun h=>by omega⟩⟩
   rw [if_neg c2];by_cases c3:(6:Int)<u.Params
   ·rw [if_pos c3];exact ⟨aa,t1,⟨fun h=>absurd h bad,fun h=>by omega⟩⟩
   rw [if_neg c3];by_cases c4:(u.Cc.length:Int)<u.Params
   ·rw [if_pos c4];exact ⟨aa,t1,⟨fun h=>absurd h bad,fun h=>by omega⟩⟩
   rw [if_neg c4];by_cases c5:u.Kind=4
   ·rw [if_pos c5];refine ⟨p,k1,q.trans ⟨fun ⟨x,y⟩=>⟨rfl,⟨by omega,by omega,by omega,by omega,fun _=>?_⟩,y⟩,fun ⟨_,x,y⟩=>⟨?_,y⟩⟩⟩
    ·simp at x;omega
    ·simp;exact x.2.2.2.2 c5
   ·rw [if_neg c5];exact ⟨Kd,f1,f2.trans ⟨fun ⟨x,y⟩=>⟨rfl,⟨by omega,by omega,by omega,by omega,fun h=>absurd h c5⟩,y⟩,fun ⟨_,x,y⟩=>⟨rfl,y⟩⟩⟩
 obtain ⟨Kd,f1,f2⟩:=a false;obtain ⟨p,k1,q⟩:=a (decide (u.Kind≠4));unfold Mt To;by_cases c2:u.Kind=2
 ·rw [if_neg (by omega)];exact ⟨Kd,f1,f2.trans ⟨fun ⟨x,y⟩=>⟨.inl c2,y⟩,fun ⟨x,y⟩=>⟨rfl,y⟩⟩⟩
 ·rw [if_pos c2];by_cases c3:u.Kind=3
  ·rw [if_neg (by omega)];exact ⟨Kd,f1,f2.trans ⟨fun ⟨x,y⟩=>⟨.inr (.inl c3),y⟩,fun ⟨x,y⟩=>⟨rfl,y⟩⟩⟩
  ·rw [if_pos c3];refine ⟨p,k1,q.trans ⟨fun ⟨x,y⟩=>⟨?_,y⟩,fun ⟨x,y⟩=>⟨?_,y⟩⟩⟩
   ·simp at x;omega
   ·simp;omega
def fj (m:ub):Prop:=(m.uc.length≤30∧m.lb.length≤30)∧(∀ b ∈ m.uc,Gg b.De∧1≤b.Zf∧b.Zf≤20)∧(∀ u ∈ m.lb,To m u∧∀ i ∈ u.Code,Il m u i)∧∃ u ∈ m.lb,u.Kind=4
def Pj (o:Option cg) (C:Prop):Prop:=∃ w,o=some w∧(w.mf=0 ↔ C)∧(w.mf=0→w=⟨0,0,0⟩)
theorem Pj.iff {o:Option cg}{C D:Prop}(h:Pj o C) (e:C ↔ D):Pj o D:=by
 obtain ⟨w,a,b,c⟩:=h;exact ⟨w,a,b.trans e,c⟩
theorem Pj.no {e a b:Int}{C:Prop}(he:e≠0) (h:¬ C):Pj (some ⟨e,a,b⟩) C:=⟨_,rfl,⟨fun c=>absurd c he,fun c=>absurd c h⟩,fun c=>absurd c he⟩
theorem gG {m:ub}{c a:Int}{u:Tc}{K:Int→Int→Option cg}{C:Prop}(l:0≤a∧a≤17592186044416) (hc:0≤c∧c≤a) (o:u.Code.length≤17592186044416) (d:Pj (K (if u.Kind=4 then c+1 else c) (a+1)) C):∀ (n i:Nat),i≤u.Code.length→u.Code.length - i<n→Pj (Lq (ve m) c a u K n (i:Int)) ((∀ x ∈ u.Code.drop i,Il m u x)∧C):=by
 intro n
 induction n with
 | zero=>intro i _ h; omega
 | succ n k =>
  intro i Ua p;unfold Lq;by_cases q:i<u.Code.length
  ·obtain ⟨e,qa,j⟩:=eH m u u.Code[i];rw [if_pos (by omega),Mj q,Option.bind_some,qa,Option.bind_some,List.drop_eq_getElem_cons q];by_cases f:e=0
   ·rw [if_neg (by omega),Hh (by omega),Option.bind_some];refine (k (i+1) q (by omega)).iff ⟨fun ⟨x,y⟩=>⟨fun z b=>?_,y⟩,fun ⟨x,y⟩=>⟨fun z b=>x z (List.mem_cons_of_mem _ b),y⟩⟩;rcases List.mem_cons.1 b with rfl | b
    ·exact j.1 f
    ·exact x z b
   ·rw [if_pos f];exact .no f fun ⟨x,_⟩=>f (j.2 (x _ (List.mem_cons_self ..)))
  ·rw [if_neg (by omega),List.drop_of_length_le (by omega)];by_cases g:u.Kind=4
   ·rw [if_pos g] at d;rw [if_pos g,Hh (by omega),Option.bind_some,Hh (by omega),Option.bind_some];exact d.iff (by simp)
   ·rw [if_neg g] at d;rw [if_neg g,Hh (by omega),Option.bind_some];exact d.iff (by simp)
theorem hG {m:ub}(hm:Fk m):∀ (n i:Nat) (c:Int),i≤m.lb.length→m.lb.length - i<n→0≤c∧c≤i→Pj (oo (ve m) m n c (i:Int)) ((∀ u ∈ m.lb.drop i,To m u∧∀ x ∈ u.Code,Il m u x)∧(c≠0∨∃ u ∈ m.lb.drop i,u.Kind=4)):=by
 obtain ⟨-,l,d⟩:=hm;intro n
 induction n with
 | zero=>intro i c _ h; omega
 | succ n g =>
  intro i c Ua o hc;unfold oo;by_cases q:i<m.lb.length
  ·obtain ⟨e,qa,f⟩:=JI m (d _ (List.getElem_mem q));have j:=(d _ (List.getElem_mem q)).2.2.2.2.2.1;rw [if_pos (by omega),Mj q,Option.bind_some,qa,Option.bind_some,List.drop_eq_getElem_cons q];by_cases b:e=0
   ·rw [if_neg (by omega)];refine (gG (K:=oo (ve m) m n) (by omega) hc j (g (i+1) _ q (by omega) (by split<;>omega)) _ 0 (by omega) (by omega)).iff ?_;rw [List.drop_zero];constructor
    ·rintro ⟨x,y,z⟩;refine ⟨fun u hu=>?_,?_⟩
     ·rcases List.mem_cons.1 hu with rfl | hu
      ·exact ⟨f.1 b,x⟩
      ·exact y u hu
     ·by_cases a:m.lb[i].Kind=4
      ·exact .inr ⟨_,List.mem_cons_self ..,a⟩
      ·rw [if_neg a] at z;rcases z with z | ⟨u,hu,k⟩
       ·exact .inl z
       ·exact .inr ⟨u,List.mem_cons_of_mem _ hu,k⟩
    ·rintro ⟨x,y⟩;refine ⟨(x _ (List.mem_cons_self ..)).2,fun u hu=>x u (List.mem_cons_of_mem _ hu),?_⟩;by_cases a:m.lb[i].Kind=4
     ·rw [if_pos a];exact .inl (by omega)
     ·rw [if_neg a];rcases y with y | ⟨u,hu,k⟩
      ·exact .inl y
      ·rcases List.mem_cons.1 hu with rfl | hu
       ·exact absurd k a
       ·exact .inr ⟨u,hu,k⟩
   ·rw [if_pos b];exact .no b fun ⟨x,_⟩=>b (f.2 (x _ (List.mem_cons_self ..)).1)
  ·rw [if_neg (by omega),List.drop_of_length_le (by omega)];by_cases c0:c=0
   ·rw [if_pos c0];exact .no (by decide) (by simp [c0])
   ·rw [if_neg c0];exact ⟨_,rfl,by simp [c0],fun _=>rfl⟩
theorem iG {m:ub}(hm:Fk m):∀ (n i:Nat),i≤m.uc.length→m.uc.length - i<n→Pj (po (ve m) m n (i:Int)) ((∀ b ∈ m.uc.drop i,Gg b.De∧1≤b.Zf∧b.Zf≤20)∧(∀ u ∈ m.lb,To m u∧∀ i ∈ u.Code,Il m u i)∧∃ u ∈ m.lb,u.Kind=4):=by
 have e:=hm.1.1;intro n
 induction n with
 | zero=>intro i _ h; omega
 | succ n d =>
  intro i Ua f;unfold po;by_cases q:i<m.uc.length
  ·rw [if_pos (by omega),Mj q,Option.bind_some,Gw,Option.bind_some,List.drop_eq_getElem_cons q];have bad:¬ (Gg m.uc[i].De∧1≤m.uc[i].Zf∧m.uc[i].Zf≤20)→¬ ((∀ b ∈ m.uc[i]::m.uc.drop (i+1),Gg b.De∧1≤b.Zf∧b.Zf≤20)∧(∀ u ∈ m.lb,To m u∧∀ i ∈ u.Code,Il m u i)∧∃ u ∈ m.lb,u.Kind=4):=fun h ⟨g,_⟩=>h (g _ (List.mem_cons_self ..));by_cases c:Gg m.uc[i].De
   ·rw [if_pos (by simp [c])];by_cases c1:m.uc[i].Zf<1
    ·rw [if_pos c1];exact .no (by decide) (bad (by omega))
    ·rw [if_neg c1];unfold Rs;by_cases c2:(20:Int)<m.uc[i].Zf
     ·rw [if_pos (by simpa using c2)];exact .no (by decide) (bad (by omega))
     ·rw [if_neg (by simpa using c2),Hh (by omega),Option.bind_some];refine (d (i+1) q (by omega)).iff ⟨fun ⟨x,y⟩=>⟨fun z a=>?_,y⟩,fun ⟨x,y⟩=>⟨fun z a=>x z (List.mem_cons_of_mem _ a),y⟩⟩;rcases List.mem_cons.1 a with rfl | a
      ·exact ⟨c,by omega,by omega⟩
      ·exact x z a
   ·rw [if_neg (by simp [c])];exact .no (by decide) (bad fun h=>c h.1)
  ·rw [if_neg (by omega),List.drop_of_length_le (by omega)];refine (hG hm _ 0 0 (by omega) (by omega) (by omega)).iff ?_;rw [List.drop_zero];simp
theorem oK {m:ub}(hm:Fk m):Pj (Nt (ve m)) (fj m):=by
 unfold Nt Ss fj;rw [Option.bind_some];by_cases c1:(30:Int)<(m.uc.length:Int)
 ·rw [if_pos c1,if_pos rfl];exact .no (by decide) fun ⟨h,_⟩=>by omega
 ·rw [if_neg c1];by_cases c2:(30:Int)<(m.lb.length:Int)
  ·rw [if_pos (by simpa using c2)];exact .no (by decide) fun ⟨h,_⟩=>by omega
  ·rw [if_neg (by simpa using c2),Option.bind_some];refine (iG hm _ 0 (by omega) (by omega)).iff ?_;rw [List.drop_zero];exact ⟨fun h=>⟨by omega,h⟩,fun h=>h.2⟩
end Go.Y
namespace Go.Y
open Go.yb Go.kc
def Ee (e x:Int):Int:=if e=0 then x else e
theorem Tk (e x:Int):Jj e x=some (Ee e x):=by unfold Jj Ee;split<;>rfl
theorem Uo {e x:Int}(h:x≠0):Ee e x≠0:=by unfold Ee;split<;>assumption
abbrev bg:=List Int×Int
def Ye (s:bg) (t:Int):bg:=(s.1++[t],if 300<s.1.length+1 then Ee s.2 4 else s.2)
def vc (s:bg):Int×bg:=match s.1.getLast? with
 | none=>(0,s.1,Ee s.2 12)
 | some t=>(t,s.1.dropLast,s.2)
def Le:List Int→bg→bg
 | [],s=>s
 | t::ts,s=>Le ts ((vc s).2.1,if (vc s).1≠t then Ee (vc s).2.2 9 else (vc s).2.2)
theorem fH (e:Int):vc ([],e)=(0,[],Ee e 12):=rfl
theorem gH (l:List Int) (t e:Int):vc (l++[t],e)=(t,l,e):=by unfold vc;simp
theorem xk {st:List Int}{er t:Int}(h:st.length≤100000):bj st er t=some (Ye (st,er) t):=by
 unfold bj Ye app;rw [if_pos (by simp;omega),Option.bind_some];simp only [List.length_append,List.length_cons,List.length_nil];by_cases c:300<st.length+1
 ·rw [if_pos (by omega),Tk,Option.bind_some,if_pos (by omega)]
 ·rw [if_neg (by omega),if_neg (by omega)]
theorem Vr {st:List Int}{er:Int}(h:st.length≤100000):nm st er=some (vc (st,er)):=by
 rcases List.eq_nil_or_concat st with rfl | ⟨l,t,rfl⟩
 ·unfold nm;rw [if_pos (by simp),Tk,Option.bind_some,fH]
 ·rw [List.concat_eq_append] at h ⊢;simp only [List.length_append,List.length_cons,List.length_nil] at h;have qa:at_ (l++[t]) ((l.length:Int))=some t:=by rw [Mj (by simp)];simp
  have a:cut (l++[t]) 0 (l.length:Int)=some l:=by
   unfold cut;rw [if_pos (by simp;omega)];simp
  unfold nm;rw [if_neg (by simp;omega),Hh (by simp;omega),Option.bind_some];have b:((l++[t]).length:Int) - 1=(l.length:Int):=by simp
  rw [b,qa,Option.bind_some,Option.bind_some,a,Option.bind_some,gH]
theorem tn (s:bg):(vc s).2.1.length≤s.1.length:=by
 unfold vc;split
 ·exact Nat.le_refl _
 ·simp
theorem fl:∀ (l:List Int) (s:bg),(Le l s).1.length≤s.1.length
 | [],s=>Nat.le_refl _
 | t::ts,s=>Nat.le_trans (fl ts _) (tn s)
theorem pK {fu:Nat}{l:List Int}:∀ (n k:Nat) (st:List Int) (er:Int),l.length≤100000→st.length≤100000→k≤l.length→k<n→Bp l n ((k:Int) - 1) er st=some (Le (l.take k).reverse (st,er)):=by
 intro n
 induction n with
 | zero=>intro k st er _ _ _ h; omega
 | succ n a =>
  intro k st er b hs f g;unfold Bp;cases k with
  | zero=>rw [if_neg (by omega)]; rfl
  | succ k =>
   have d:=tn (st,er);have e:(((k+1:Nat):Int) - 1)=(k:Int):=by omega
   rw [if_pos (by omega),Vr hs,Option.bind_some,e,Mj (by omega),Option.bind_some,← List.take_append_getElem (by omega),List.reverse_append];show _=some (Le (l[k]::(l.take k).reverse) (st,er));rw [Le];by_cases c:(vc (st,er)).1≠l[k]
   ·rw [if_pos c,Tk,Option.bind_some,Hh (by omega),Option.bind_some,if_pos c];exact a k _ _ b (Nat.le_trans d hs) (by omega) (by omega)
   ·rw [if_neg c,Hh (by omega),Option.bind_some,if_neg c];exact a k _ _ b (Nat.le_trans d hs) (by omega) (by omega)
theorem Nl {fu:Nat}{l:List Int}{st:List Int}{er:Int}(a:l.length≤100000) (b:l.length<fu) (hs:st.length≤100000):bk fu st er l=some (Le l.reverse (st,er)):=by
 unfold bk;rw [Hh (by omega),Option.bind_some,pK (fu:=fu) fu l.length st er a hs (Nat.le_refl _) b,List.take_length]
structure Cg (s:bg):Prop where
 le:s.2=0→s.1.length≤300
 r:∀ t ∈ s.1,wg t
theorem Cg.push {s:bg}{t:Int}(h:Cg s) (d:wg t):Cg (Ye s t):=by
 refine ⟨fun b=>?_,fun x a=>?_⟩
 ·unfold Ye at b ⊢;simp only [List.length_append,List.length_cons,List.length_nil] at b ⊢;by_cases c:300<s.1.length+1
  ·rw [if_pos c] at b;exact absurd b (Uo (by decide))
  ·omega
 ·rcases List.mem_append.1 a with a | a
  ·exact h.r x a
  ·rw [List.mem_singleton.1 a];exact d
theorem Cg.mono {s:bg}{l:List Int}{e:Int}(h:Cg s) (a:l.length≤s.1.length) (hm:∀ t ∈ l,t ∈ s.1) (he:e=0→s.2=0):Cg (l,e):=⟨fun b=>Nat.le_trans a (h.le (he b)),fun t c=>h.r t (hm t c)⟩
theorem hH (s:bg):∀ t ∈ (vc s).2.1,t ∈ s.1:=by
 unfold vc;split
 ·exact fun t h=>h
 ·exact fun t h=>(List.dropLast_sublist _).subset h
theorem KI (s:bg):(vc s).2.2=0→s.2=0:=by
 unfold vc;split
 ·exact fun h=>absurd h (Uo (by decide))
 ·exact id
theorem fD {s:bg}(h:Cg s):wg (vc s).1:=by
 unfold vc;split
 ·show wg 0;unfold wg;omega
 ·rename_i t e;exact h.r t (List.mem_of_getLast? e)
theorem Cg.pop {s:bg}(h:Cg s):Cg (vc s).2:=h.mono (tn s) (hH s) (KI s)
theorem Cg.er {s:bg}{x:Int}(h:Cg s) (a:x≠0):Cg (s.1,Ee s.2 x):=⟨fun b=>absurd b (Uo a),h.r⟩
theorem Cg.want:∀ (l:List Int){s:bg},Cg s→Cg (Le l s)
 | [],s,h=>h
 | t::ts,s,h=>by
  rw [Le];refine Cg.want ts ?_;split
  ·exact h.pop.er (by decide)
  ·exact h.pop
def Al (l:List Int) (i:Int):Int:=(at_ l i).getD 0
def ca (l:List Bool) (i:Int):Bool:=(at_ l i).getD false
def Gj (m:ub) (i:Int):Tc:=(at_ m.lb i).getD default
def Bl (m:ub) (i:Int):cp:=(at_ m.uc i).getD default
def Vh (m:ub) (s:bg):Option Tc×bg :=
 if (vc s).2.2≠0 then (none,(vc s).2) else if Tj m (vc s).1=true then (some (Gj m ((vc s).1 - 10)),(vc s).2) else (none,((vc s).2.1,Ee (vc s).2.2 9))
def Ol (s:bg):bg:=(s.1,if 0<s.1.length then Ee s.2 12 else s.2)
def Vo (v:Tc) (s:bg):bg:=Le (v.Cc.take v.Params.toNat).reverse s
def xd (m:ub) (u:Tc) (i:vd) (s:bg) (hs:List Bool):bg :=
 if i.Op=1 then Ye s 1
 else if i.Op=2 then Ye s 2
 else if i.Op=3 then Ye (s.1,if ca hs i.A=true then s.2 else Ee s.2 11) (Al u.Cc i.A)
 else if i.Op=4 then Le [Al u.Cc i.A] s
 else if i.Op=5 then (vc s).2
 else if i.Op=6 then Ye (Le [1] s) 1
 else if i.Op=7 then Ye (Le [2] s) 2
 else if 8≤i.Op∧i.Op≤12 then Ye (Le [1,1] s) 1
 else if i.Op=13∨i.Op=14 then Ye (Le [(vc s).1] ((vc s).2.1,if (vc s).1≠1∧(vc s).1≠2 then Ee (vc s).2.2 9 else (vc s).2.2)) 2
 else if 15≤i.Op∧i.Op≤18 then Ye (Le [1,1] s) 2
 else if i.Op=19∨i.Op=20 then Ye (Le [2,2] s) 2
 else if i.Op=21 then s
 else if i.Op=22 then Le [2] s
 else if i.Op=23 then Ye (Vo (Gj m i.A) s) (Gj m i.A).Result
 else if i.Op=24 then Ol (Le [u.Result] (s.1,if u.Kind≠2 then Ee s.2 8 else s.2))
 else if i.Op=25 then Ol (s.1,if u.Kind=2 then Ee s.2 8 else s.2)
 else if i.Op=26 then Le [(Bl m i.A).De] s
 else if i.Op=27 then Ye s (Bl m i.A).De
 else if i.Op=28 then ((vc s).2.1,if (vc s).2.2=0∧¬ Gg (vc s).1 then Ee (vc s).2.2 9 else (vc s).2.2)
 else if i.Op=29 then Ye (Vo (Gj m i.A) s) (10+i.A)
 else if i.Op=30 then match Vh m (vc s).2 with
  | (some x,a)=>Ye (a.1,if (vc s).1≠x.Yd then Ee a.2 9 else a.2) x.Result
  | (none,a)=>a
 else if i.Op=31 then Ye (Le [u.Result] (s.1,if u.Kind≠3 then Ee s.2 8 else s.2)) u.Yd
 else if i.Op=32 then Ye (Vh m s).2 2
 else s
def ti (i:vd) (hs:List Bool):List Bool:=if i.Op=4 then hs.set i.A.toNat true else hs
def follows (i:vd):Prop:=i.Op≠21∧i.Op≠24∧i.Op≠25
instance (i:vd):Decidable (follows i):=by unfold follows;infer_instance
theorem yr {m:ub}{p k:Int}(h:ll m p k=true):at_ m.lb p=some (Gj m p)∧Gj m p ∈ m.lb∧(Gj m p).Kind=k∧0≤p∧p<m.lb.length:=by
 unfold ll at h;cases a:at_ m.lb p with
 | none=>rw [a] at h; cases h
 | some x =>
  rw [a] at h;have:Gj m p=x:=by unfold Gj;rw [a];rfl
  obtain ⟨b,c,d⟩:=at_mem a;rw [this];exact ⟨rfl,b,by simpa using h,c,d⟩
theorem jG {m:ub}{t:Int}(h:Tj m t=true):10≤t∧ll m (t - 10) 3=true:=by
 unfold Tj at h;simpa using h
theorem gD {fu:Nat}{m:ub}{p k:Int}{st:List Int}{er:Int}(a:fj m) (h:ll m p k=true) (d:1000≤fu) (hs:st.length≤100000):sr fu (ve m) st er p=some (Gj m p,Vo (Gj m p) (st,er)):=by
 obtain ⟨b,c,-⟩:=yr h;obtain ⟨-,⟨g1,g2,g3,g4,-⟩,-⟩:=(a.2.2.1 _ c).1;unfold sr Vo;have e:cut (Gj m p).Cc 0 (Gj m p).Params=some ((Gj m p).Cc.take (Gj m p).Params.toNat):=by
  unfold cut;rw [if_pos (by omega)];simp
 rw [Option.bind_some,b,Option.bind_some,e,Option.bind_some,Nl (by simp;omega) (by simp;omega) hs,Option.bind_some]
theorem GD {m:ub}{st:List Int}{er:Int}(hs:st.length≤100000) (b:Cg (st,er)):Gr (ve m) st er=some (Vh m (st,er)):=by
 unfold Gr Vh;rw [Vr hs,Option.bind_some];by_cases c:(vc (st,er)).2.2≠0
 ·rw [if_pos c,if_pos c]
 ·rw [if_neg c,if_neg c,bC m (fD b),Option.bind_some];by_cases a:Tj m (vc (st,er)).1=true
  ·obtain ⟨e,d⟩:=jG a;have:=(fD b).2;rw [if_pos a,if_pos a,Option.bind_some,Hh (by omega),Option.bind_some,(yr d).1,Option.bind_some]
  ·rw [if_neg a,if_neg a,Tk,Option.bind_some]
theorem hD (st:List Int) (er:Int):tr st er=some (false,Ol (st,er)):=by
 unfold tr Vs Ol;by_cases c:0<st.length
 ·rw [if_pos (by omega),Tk,Option.bind_some,if_pos c]
 ·rw [if_neg (by omega),if_neg c]
section
variable {fu:Nat}{m:ub}{u:Tc}{i:vd}{a:List (Int×nd)}{td st:List Int}{hs:List Bool}{er:Int}
theorem kG (j:fj m) (Ua:Il m u i) (w:st.length≤1000) (p:Cg (st,er)) (hm:Fk m) (r:1000≤fu) (y:22<i.Op) :
  Ws fu (ve m) u a td st hs er i=some (decide (follows i),a,td,(xd m u i (st,er) hs).1,hs,(xd m u i (st,er) hs).2):=by
 obtain ⟨⟨-,i32⟩,-,-,-,t,s,d⟩:=Ua;have b:∀ l:List Int,l.length≤st.length→l.length≤100000:=fun l h=>by omega
 have v:i.Op=23∨i.Op=24∨i.Op=25∨i.Op=26∨i.Op=27∨i.Op=28∨i.Op=29∨i.Op=30∨i.Op=31∨i.Op=32:=by omega
 unfold Ws Qj xd;rcases v with h | h | h | h | h | h | h | h | h | h
 ·rw [if_pos h,gD j (t h) r (by omega),Option.bind_some,xk (b _ (fl _ _)),Option.bind_some];simp [h,follows]
 ·have e:∀ qa,tq fu u a td st hs qa=some (false,a,td,(Ol (Le [u.Result] (st,qa))).1,hs,(Ol (Le [u.Result] (st,qa))).2):=fun qa=>by
   unfold tq;rw [Nl (by simp) (by simp;omega) (by omega),Option.bind_some,hD,Option.bind_some];rfl
  rw [if_neg (by omega),if_neg (by omega),if_pos h];simp only [e,Tk,Option.bind_some];by_cases k:u.Kind=2<;>simp [h,k,follows]
 ·have e:∀ qa,uq a td st hs qa=some (false,a,td,(Ol (st,qa)).1,hs,(Ol (st,qa)).2):=fun qa=>by
   unfold uq;rw [hD,Option.bind_some]
  rw [if_neg (by omega),if_neg (by omega),if_neg (by omega),if_pos h];simp only [e,Tk,Option.bind_some];by_cases k:u.Kind=2<;>simp [h,k,follows]
 ·obtain ⟨x,c,-⟩:=an (l:=m.uc) (d (.inl h)).1 (d (.inl h)).2;have e:(Bl m i.A)=x:=by unfold Bl;rw [c];rfl
  rw [if_neg (by omega),if_neg (by omega),if_neg (by omega),if_neg (by omega),if_pos h,Option.bind_some,c,Option.bind_some,Nl (by simp) (by simp;omega) (by omega),Option.bind_some];simp [h,e,follows]
 ·obtain ⟨x,c,-⟩:=an (l:=m.uc) (d (.inr h)).1 (d (.inr h)).2;have e:(Bl m i.A)=x:=by unfold Bl;rw [c];rfl
  rw [if_neg (by omega),if_neg (by omega),if_neg (by omega),if_neg (by omega),if_neg (by omega),if_pos h,Option.bind_some,c,Option.bind_some,xk (by omega),Option.bind_some];simp [h,e,follows]
 ·have e:∀ V,vq a td hs (vc (st,er)) V=some (true,a,td,(vc (st,er)).2.1,hs,if V=true then Ee (vc (st,er)).2.2 9 else (vc (st,er)).2.2):=fun V=>by
   unfold vq Qj;cases V with
   | true=>rw [if_pos rfl,Tk,Option.bind_some,if_pos rfl]
   | false=>rw [if_neg (by decide),if_neg (by decide)]
  rw [if_neg (by omega),if_neg (by omega),if_neg (by omega),if_neg (by omega),if_neg (by omega),if_neg (by omega),if_pos h,Vr (by omega),Option.bind_some];simp only [e,Gw,Option.bind_some];by_cases k:(vc (st,er)).2.2=0
  ·by_cases k1:Gg (vc (st,er)).1<;>simp [h,k,k1,follows]
  ·simp [h,k,follows]
 ·obtain ⟨-,-,-,g4,g5⟩:=yr (s h);have z:=j.1.2;rw [if_neg (by omega),if_pos h,gD j (s h) r (by omega),Option.bind_some,Hh (by omega),Option.bind_some,xk (b _ (fl _ _)),Option.bind_some];simp [h,follows]
 ·have f:=tn (st,er);rw [if_neg (by omega),if_neg (by omega),if_neg (by omega),if_neg (by omega),if_neg (by omega),if_neg (by omega),if_neg (by omega),if_pos h,Vr (by omega),Option.bind_some,GD (b _ f) p.pop,Option.bind_some];simp only [h];have g:(Vh m (vc (st,er)).2).2.1.length≤st.length:=by
   have:=tn (vc (st,er)).2;unfold Vh;split
   ·exact Nat.le_trans this f
   ·split
    ·exact Nat.le_trans this f
    ·exact Nat.le_trans this f
  generalize B:Vh m (vc (st,er)).2=q at g;obtain ⟨o,n⟩:=q;cases o with
  | none=>simp [follows,h]
  | some x =>
   have e:∀ qa,wq a td hs (some x,n) x qa=some (true,a,td,(Ye (n.1,qa) x.Result).1,hs,(Ye (n.1,qa) x.Result).2):=fun qa=>by
    unfold wq Qj;rw [xk (b _ g),Option.bind_some]
   simp only [Option.isSome_some,if_true,Option.bind_some,Tk,e];by_cases k:(vc (st,er)).1=x.Yd<;>simp [k,h,follows]
 ·have e:∀ qa,xq fu u a td st hs qa=some (true,a,td,(Ye (Le [u.Result] (st,qa)) u.Yd).1,hs,(Ye (Le [u.Result] (st,qa)) u.Yd).2):=fun qa=>by
   unfold xq Qj;rw [Nl (by simp) (by simp;omega) (by omega),Option.bind_some];show (bj (Le [u.Result] (st,qa)).1 (Le [u.Result] (st,qa)).2 u.Yd).bind _=_;rw [xk (b _ (fl _ _)),Option.bind_some]
  rw [if_neg (by omega),if_neg (by omega),if_neg (by omega),if_neg (by omega),if_neg (by omega),if_neg (by omega),if_neg (by omega),if_neg (by omega),if_pos h];simp only [e,Tk,Option.bind_some];by_cases k:u.Kind=3<;>simp [h,k,follows]
 ·have g:(Vh m (st,er)).2.1.length≤st.length:=by
   have:=tn (st,er);unfold Vh;split
   ·exact this
   ·split
    ·exact this
    ·exact this
  rw [if_neg (by omega),if_neg (by omega),if_neg (by omega),if_neg (by omega),if_neg (by omega),if_neg (by omega),if_neg (by omega),if_neg (by omega),if_neg (by omega),if_pos h,GD (by omega) p,Option.bind_some,xk (b _ g),Option.bind_some];simp [h,follows]
theorem qK (q:fj m) (Ua:Il m u i) (r:st.length≤1000) (s:Cg (st,er)) (hm:Fk m) (t:1000≤fu) (o:hs.length=u.Cc.length) (Ce:i.Op≠21) (H:i.Op≠22) :
  km fu (ve m) u a td st hs er i=some (decide (follows i),a,td,(xd m u i (st,er) hs).1,ti i hs,(xd m u i (st,er) hs).2):=by
 by_cases v:22<i.Op
 ·have e:=kG (fu:=fu) (a:=a) (td:=td) (hs:=hs) q Ua r s hm t v;unfold km jm Nk nn Dl;have k:∀ b:Bool,(if (b=true) then (true:Bool) else true)=true:=by decide
  rw [if_neg (by omega),if_neg (by omega),if_neg (by omega),if_neg (by omega),if_neg (by omega),if_neg (by omega),if_neg (by omega),if_pos (by omega),if_neg (by simp;omega),if_neg (by omega),if_neg (by simp;omega),if_pos (by omega),if_neg (by simp;omega),if_neg (by omega),if_neg (by simp;omega),if_neg (by omega),if_neg (by omega),e,Option.bind_some];have:ti i hs=hs:=if_neg (by omega);rw [this]
 ·obtain ⟨⟨i1,-⟩,-,c,-⟩:=Ua;have d:∀ l:List Int,l.length≤st.length→l.length≤100000:=fun l h=>by omega
  have w:i.Op=1∨i.Op=2∨i.Op=3∨i.Op=4∨i.Op=5∨i.Op=6∨i.Op=7∨(8≤i.Op∧i.Op≤12)∨(i.Op=13∨i.Op=14)∨(15≤i.Op∧i.Op≤18)∨(i.Op=19∨i.Op=20):=by omega
  unfold km Yi xd ti;rcases w with h | h | h | h | h | h | h | h | h | h | h
  ·rw [if_pos h,xk (by omega),Option.bind_some];simp [h,follows]
  ·rw [if_neg (by omega),if_pos h,xk (by omega),Option.bind_some];simp [h,follows]
  ·obtain ⟨x,f,-⟩:=an (l:=u.Cc) (c (.inl h)).1 (c (.inl h)).2;obtain ⟨y,g,-⟩:=an (l:=hs) (c (.inl h)).1 (by rw [o];exact (c (.inl h)).2);have e:∀ qa,Mq i u a td st hs qa=some (true,a,td,(Ye (st,qa) x).1,hs,(Ye (st,qa) x).2):=fun qa=>by
    unfold Mq Yi;rw [f,Option.bind_some,xk (by omega),Option.bind_some]
   have j:Al u.Cc i.A=x:=by unfold Al;rw [f];rfl
   have z:ca hs i.A=y:=by unfold ca;rw [g];rfl
   rw [if_neg (by omega),if_neg (by omega),if_pos h,g,Option.bind_some];simp only [e,Tk,Option.bind_some,j,z];cases y<;>simp [h,follows]
  ·obtain ⟨x,f,-⟩:=an (l:=u.Cc) (c (.inr h)).1 (c (.inr h)).2;obtain ⟨y,g,-⟩:=an (l:=hs) (c (.inr h)).1 (by rw [o];exact (c (.inr h)).2);have j:Al u.Cc i.A=x:=by unfold Al;rw [f];rfl
   rw [if_neg (by omega),if_neg (by omega),if_neg (by omega),if_pos h,f,Option.bind_some,Nl (by simp) (by simp;omega) (by omega),Option.bind_some,g,Option.bind_some];simp [h,j,follows]
  ·rw [if_neg (by omega),if_neg (by omega),if_neg (by omega),if_neg (by omega),if_pos h,Vr (by omega),Option.bind_some];simp [h,follows]
  ·rw [if_neg (by omega),if_neg (by omega),if_neg (by omega),if_neg (by omega),if_neg (by omega),if_pos h,Nl (by simp) (by simp;omega) (by omega),Option.bind_some,xk (d _ (fl _ _)),Option.bind_some];simp [h,follows]
  ·rw [if_neg (by omega),if_neg (by omega),if_neg (by omega),if_neg (by omega),if_neg (by omega),if_neg (by omega),if_pos h,Nl (by simp) (by simp;omega) (by omega),Option.bind_some,xk (d _ (fl _ _)),Option.bind_some];simp [h,follows]
  ·unfold jm Yi;rw [if_neg (by omega),if_neg (by omega),if_neg (by omega),if_neg (by omega),if_neg (by omega),if_neg (by omega),if_neg (by omega),if_pos (by omega),if_pos (by simp;omega),Nl (by simp) (by simp;omega) (by omega),Option.bind_some,xk (d _ (fl _ _)),Option.bind_some];rw [if_neg (by omega),if_neg (by omega),if_neg (by omega),if_neg (by omega),if_neg (by omega),if_neg (by omega),if_neg (by omega),if_pos h,if_neg (by omega),decide_eq_true (show follows i by unfold follows;omega)];rfl
  ·have B:∀ qa,Cp fu a td hs (vc (st,er)) qa=some (true,a,td,(Ye (Le [(vc (st,er)).1] ((vc (st,er)).2.1,qa)) 2).1,hs,(Ye (Le [(vc (st,er)).1] ((vc (st,er)).2.1,qa)) 2).2):=fun qa=>by
    unfold Cp Yi;have p:=tn (st,er);rw [Nl (by simp) (by simp;omega) (d _ p),Option.bind_some];show (bj (Le [(vc (st,er)).1] ((vc (st,er)).2.1,qa)).1 (Le [(vc (st,er)).1] ((vc (st,er)).2.1,qa)).2 2).bind _=_;rw [xk (d _ (Nat.le_trans (fl [(vc (st,er)).1] ((vc (st,er)).2.1,qa)) p)),Option.bind_some]
   have C:∀ V,Nq fu a td hs (vc (st,er)) V=Cp fu a td hs (vc (st,er)) (if V=true then Ee (vc (st,er)).2.2 9 else (vc (st,er)).2.2):=fun V=>by
    unfold Nq;cases V with
    | true=>rw [if_pos rfl,Tk,Option.bind_some,if_pos rfl]
    | false=>rw [if_neg (by decide),if_neg (by decide)]
   have D:Nk fu (ve m) i u a td st hs er true=some (true,a,td,(Ye (Le [(vc (st,er)).1] ((vc (st,er)).2.1,if (vc (st,er)).1≠1∧(vc (st,er)).1≠2 then Ee (vc (st,er)).2.2 9 else (vc (st,er)).2.2)) 2).1,hs,(Ye (Le [(vc (st,er)).1] ((vc (st,er)).2.1,if (vc (st,er)).1≠1∧(vc (st,er)).1≠2 then Ee (vc (st,er)).2.2 9 else (vc (st,er)).2.2)) 2).2):=by
    unfold Nk;rw [if_pos rfl,Vr (by omega),Option.bind_some];simp only [C,B];by_cases k1:(vc (st,er)).1=1<;>by_cases F:(vc (st,er)).1=2<;>simp [k1,F]
   unfold jm;rw [if_neg (by omega),if_neg (by omega),if_neg (by omega),if_neg (by omega),if_neg (by omega),if_neg (by omega),if_neg (by omega),if_pos (by omega),if_neg (by simp;omega)];have n:(if i.Op=13 then Nk fu (ve m) i u a td st hs er true else Nk fu (ve m) i u a td st hs er (decide (i.Op=14)))=Nk fu (ve m) i u a td st hs er true:=by
    rcases h with h | h
    ·rw [if_pos h]
    ·rw [if_neg (by omega),decide_eq_true h]
   rw [n,D,if_neg (show ¬ i.Op=1 by omega),if_neg (show ¬ i.Op=2 by omega),if_neg (show ¬ i.Op=3 by omega),if_neg (show ¬ i.Op=4 by omega),if_neg (show ¬ i.Op=5 by omega),if_neg (show ¬ i.Op=6 by omega),if_neg (show ¬ i.Op=7 by omega),if_neg (show ¬ (8≤i.Op∧i.Op≤12) by omega),if_pos h,if_neg (show ¬ i.Op=4 by omega),decide_eq_true (show follows i by unfold follows;omega)]
  ·unfold jm Nk nn Yi;rw [if_neg (by omega),if_neg (by omega),if_neg (by omega),if_neg (by omega),if_neg (by omega),if_neg (by omega),if_neg (by omega),if_pos (by omega),if_neg (by simp;omega),if_neg (by omega),if_neg (by simp;omega),if_pos (by omega),if_pos (by simp;omega),Nl (by simp) (by simp;omega) (by omega),Option.bind_some,xk (d _ (fl _ _)),Option.bind_some];rw [if_neg (by omega),if_neg (by omega),if_neg (by omega),if_neg (by omega),if_neg (by omega),if_neg (by omega),if_neg (by omega),if_neg (by omega),if_neg (by omega),if_pos h,if_neg (by omega),decide_eq_true (show follows i by unfold follows;omega)];rfl
  ·have G:Dl fu (ve m) i u a td st hs er true=some (true,a,td,(Ye (Le [2,2] (st,er)) 2).1,hs,(Ye (Le [2,2] (st,er)) 2).2):=by
    unfold Dl Yi;rw [if_pos rfl,Nl (by simp) (by simp;omega) (by omega),Option.bind_some,xk (d _ (fl _ _)),Option.bind_some];rfl
   unfold jm Nk nn;rw [if_neg (by omega),if_neg (by omega),if_neg (by omega),if_neg (by omega),if_neg (by omega),if_neg (by omega),if_neg (by omega),if_pos (by omega),if_neg (by simp;omega),if_neg (by omega),if_neg (by simp;omega),if_pos (by omega),if_neg (by simp;omega)];have n:(if i.Op=19 then Dl fu (ve m) i u a td st hs er true else Dl fu (ve m) i u a td st hs er (decide (i.Op=20)))=Dl fu (ve m) i u a td st hs er true:=by
    rcases h with h | h
    ·rw [if_pos h]
    ·rw [if_neg (by omega),decide_eq_true h]
   rw [n,G];rw [if_neg (by omega),if_neg (by omega),if_neg (by omega),if_neg (by omega),if_neg (by omega),if_neg (by omega),if_neg (by omega),if_neg (by omega),if_neg (by omega),if_neg (by omega),if_pos h,if_neg (by omega),decide_eq_true (show follows i by unfold follows;omega)]
theorem LI (h:i.Op=21):km fu (ve m) u a td st hs er i=(kl (ve m) u a td st hs er i.A).bind fun r=>some (false,r):=by
 unfold km jm Nk nn Dl;rw [if_neg (by omega),if_neg (by omega),if_neg (by omega),if_neg (by omega),if_neg (by omega),if_neg (by omega),if_neg (by omega),if_pos (by omega),if_neg (by simp;omega),if_neg (by omega),if_neg (by simp;omega),if_pos (by omega),if_neg (by simp;omega),if_neg (by omega),if_neg (by simp;omega),if_pos (by omega)]
theorem MI (b:st.length≤1000) (c:1000≤fu) (h:i.Op=22):km fu (ve m) u a td st hs er i=(kl (ve m) u a td (Le [2] (st,er)).1 hs (Le [2] (st,er)).2 i.A).bind fun r=>some (true,r):=by
 unfold km jm Nk nn Dl Yi;rw [if_neg (by omega),if_neg (by omega),if_neg (by omega),if_neg (by omega),if_neg (by omega),if_neg (by omega),if_neg (by omega),if_pos (by omega),if_neg (by simp;omega),if_neg (by omega),if_neg (by simp;omega),if_pos (by omega),if_neg (by simp;omega),if_neg (by omega),if_neg (by simp;omega),if_neg (by omega),if_pos h,Nl (by simp) (by simp;omega) (by omega),Option.bind_some];rfl
end
end Go.Y
namespace Go.Y
open Go.yb Go.kc
theorem rr {β:Type}:∀ (m:List (Int×β)) (k q:Int) (x:β),Nc (qe m k x) q=if q=k then some x else Nc m q
 | [],k,q,x=>by
  unfold qe Nc Nc;by_cases h:q=k
  ·rw [if_pos h.symm,if_pos h]
  ·rw [if_neg (fun e=>h e.symm),if_neg h]
 | (a,b)::m,k,q,x=>by
  unfold qe;by_cases h:a=k
  ·rw [if_pos h];unfold Nc;by_cases c:q=k
   ·rw [if_pos c.symm,if_pos c]
   ·rw [if_neg (fun e=>c e.symm),if_neg c,if_neg (by omega)]
  ·rw [if_neg h];unfold Nc;by_cases c:q=k
   ·rw [if_neg (by omega),rr m k q x,if_pos c,if_pos c]
   ·by_cases d:a=q
    ·rw [if_pos d,if_neg c,if_pos d]
    ·rw [if_neg d,if_neg c,if_neg d,rr m k q x,if_neg c]
abbrev ij:=List (Int×nd)
def fg (a b:List Bool):Prop:=a.length=b.length∧∀ j:Nat,a[j]?=some true→b[j]?=some true
theorem fg.Gu (a:List Bool):fg a a:=⟨rfl,fun _ h=>h⟩
theorem fg.Bm {a b c:List Bool}(h:fg a b) (g:fg b c):fg a c:=⟨h.1.trans g.1,fun j e=>g.2 j (h.2 j e)⟩
def meet (a b:List Bool):List Bool:=List.zipWith (· && ·) a b
theorem iw {a b:List Bool}(h:a.length=b.length):(meet a b).length=a.length:=by unfold meet;simp [h]
theorem cz (a b:List Bool) (j:Nat):(meet a b)[j]?=some true ↔ a[j]?=some true∧b[j]?=some true:=by
 unfold meet;rw [List.getElem?_zipWith];cases a[j]? with
 | none=>simp
 | some x=>cases b[j]? with
  | none=>simp
  | some y=>simp
theorem rK {a b:List Bool}(h:a.length=b.length):fg (meet a b) a:=⟨iw h,fun j e=>((cz a b j).1 e).1⟩
theorem sK {a b:List Bool}(h:a.length=b.length):fg (meet a b) b:=⟨(iw h).trans h,fun j e=>((cz a b j).1 e).2⟩
theorem tK {a b c:List Bool}(h:fg c a) (g:fg c b):fg c (meet a b):=⟨by rw [iw (h.1.symm.trans g.1)];exact h.1,fun j e=>(cz a b j).2 ⟨h.2 j e,g.2 j e⟩⟩
def Um (h:List Bool):Nat:=h.count true
theorem iH (h:List Bool):Um h≤h.length:=List.count_le_length
theorem EC:∀ (a b:List Bool),a.length=b.length→Um (meet a b)≤Um a∧(meet a b≠a→Um (meet a b)<Um a)
 | [],b,h=>⟨Nat.le_refl _,fun g=>absurd rfl g⟩
 | x::a,[],h=>by simp at h
 | x::a,y::b,h=>by
  obtain ⟨d,c⟩:=EC a b (by simpa using h);have e:meet (x::a) (y::b)=(x && y)::meet a b:=rfl;rw [e];unfold Um at *;simp only [List.count_cons];cases x<;>cases y<;>simp at c ⊢<;>refine ⟨by omega,?_⟩
  ·exact c
  ·exact c
  ·omega
  ·intro g;exact c g
def Gk (a:ij) (q:Int):Nat:=match Nc a q with
 | none=>201
 | some x=>Um x.has
def tk (C:Nat) (a:ij) (td:List Int):Nat:=td.length+((List.range C).map fun q:Nat=>Gk a (q:Int)).sum
theorem rB {f g:Nat→Nat}:∀ (C:Nat),(∀ q,q<C→f q=g q)→((List.range C).map f).sum=((List.range C).map g).sum
 | 0,h=>rfl
 | C+1,h=>by
  rw [List.range_succ,List.map_append,List.map_append,List.sum_append,List.sum_append,rB C fun q a=>h q (by omega)];simp [h C (by omega)]
theorem pz {f g:Nat→Nat}{p:Nat}:∀ (C:Nat),p<C→(∀ q,q≠p→f q=g q)→((List.range C).map f).sum+g p=((List.range C).map g).sum+f p
 | 0,h,_=>by omega
 | C+1,h,e=>by
  rw [List.range_succ,List.map_append,List.map_append,List.sum_append,List.sum_append];simp only [List.map_cons,List.map_nil,List.sum_cons,List.sum_nil];by_cases a:p=C
  ·subst a;rw [rB p fun q b=>e q (by omega)];omega
  ·have:=pz C (by omega) e;have:=e C (fun h=>a h.symm);omega
def bp (C L:Nat) (a:ij):Prop:=∀ p x,Nc a p=some x→(0≤p∧p<C)∧x.has.length=L∧Cg (x.stack,0)
def Fits (a:ij) (p:Int) (st:List Int) (hs:List Bool):Prop:=∃ y,Nc a p=some y∧y.stack=st∧fg y.has hs
structure nq (C L:Nat) (st:List Int) (hs:List Bool) (p:Int) (a:ij) (td:List Int) (er:Int) (d:ij) (e:List Int) (c:Int):Prop where
 ok:bp C L d
 w:tk C d e≤tk C a td
 keep:er≠0→c=er
 SD:er=0→p<C→(∀ x,Nc a p=some x→x.stack=st)→c=0
 fits:c=0→er=0∧Fits d p st hs
 mono:c=0→∀ q x,Nc a q=some x→∃ b,Nc d q=some b∧b.stack=x.stack∧fg b.has x.has∧(b=x∨q ∈ e)
 new:c=0→∀ q b,Nc d q=some b→q ∈ e∨Nc a q=some b
 todo:c=0→(∀ q ∈ e,q ∈ td∨q=p)∧∀ q ∈ td,q ∈ e
 qM:c=0→∀ h,fg h hs→(∀ x,Nc a p=some x→fg h x.has)→∀ b,Nc d p=some b→fg h b.has
 rM:c=0→∀ q,q≠p→Nc d q=Nc a q
theorem nq.same {C L:Nat}{st:List Int}{hs:List Bool}{p:Int}{a:ij}{td:List Int}{er c:Int}(ok:bp C L a) (h:c≠0) (k:er≠0→c=er) (g:er=0→¬ (p<C∧∀ x,Nc a p=some x→x.stack=st)):nq C L st hs p a td er a td c :=
 ⟨ok,Nat.le_refl _,k,fun b d e=>absurd ⟨d,e⟩ (g b),fun b=>absurd b h,fun b=>absurd b h,fun b=>absurd b h,fun b=>absurd b h,fun b=>absurd b h,fun b=>absurd b h⟩
theorem NI (a b:List Int) (j:a.length≤100000):zt a b=some (decide (a=b)):=by
 have key:∀ (n i:Nat),a.length=b.length→i≤a.length→a.length - i<n→Gq a b n (i:Int)=some (decide (a.drop i=b.drop i)):=by
  intro n
  induction n with
  | zero=>intro i _ _ h; omega
  | succ n d =>
   intro i f Ua k;unfold Gq;by_cases c:i<a.length
   ·rw [if_pos (by omega),Mj c,Option.bind_some,Mj (by omega),Option.bind_some,List.drop_eq_getElem_cons c,List.drop_eq_getElem_cons (by omega:i<b.length)];by_cases e:a[i]=b[i]
    ·rw [if_neg (fun g=>g e),Hh (by omega),Option.bind_some];have:=d (i+1) f c (by omega);rw [show ((i:Int)+1)=((i+1:Nat):Int) by omega,this];simp only [e,List.cons.injEq,true_and]
    ·rw [if_pos e];congr 1;exact (decide_eq_false fun g=>e (List.cons.inj g).1).symm
   ·rw [if_neg (by omega),List.drop_of_length_le (by omega),List.drop_of_length_le (by omega)];simp
 unfold zt;by_cases h:a.length=b.length
 ·rw [if_neg (by omega)];have:=key (a.length+1) 0 h (by omega) (by omega);simpa using this
 ·rw [if_pos (by omega)];congr 1;exact (decide_eq_false fun e=>h (by rw [e])).symm
theorem OI {p:Int}{a:ij}{td st:List Int}{hs:List Bool}{er:Int}{x:nd}(r:td.length≤3000000000):∀ (n i:Nat) (b:Bool) (l:List Bool),l.length=x.has.length→hs.length=x.has.length→x.has.length≤1000000→i≤l.length→l.length - i<n →
  qn p a td st hs er x n b (i:Int) l=some (qe a p ⟨x.stack,l.take i++meet (l.drop i) (hs.drop i)⟩,if b=true∨meet (l.drop i) (hs.drop i)≠l.drop i then td++[p] else td,st,hs,er):=by
 intro n
 induction n with
 | zero=>intro i b l _ _ _ _ h; omega
 | succ n e =>
  intro i b l f g j s t;unfold qn;by_cases c:i<l.length
  ·have k:i<hs.length:=by omega
   rw [if_pos (by omega),Mj c,Option.bind_some,List.drop_eq_getElem_cons c,List.drop_eq_getElem_cons k];have em:∀ x y (u v:List Bool),meet (x::u) (y::v)=(x && y)::meet u v:=fun _ _ _ _=>rfl;have m:((i:Int)+1)=((i+1:Nat):Int):=by omega
   have stay:∀ (o:(l[i] && hs[i])=l[i]),Jp b (i:Int) l (qn p a td st hs er x n) false=some (qe a p ⟨x.stack,l.take i++meet (l[i]::l.drop (i+1)) (hs[i]::hs.drop (i+1))⟩,if b=true∨meet (l[i]::l.drop (i+1)) (hs[i]::hs.drop (i+1))≠l[i]::l.drop (i+1) then td++[p] else td,st,hs,er):=fun o=>by
    unfold Jp;rw [if_neg (by decide),Hh (by omega),Option.bind_some,m,e (i+1) b l f g j c (by omega),em,o];have qa:l.take (i+1)++meet (l.drop (i+1)) (hs.drop (i+1))=l.take i++l[i]::meet (l.drop (i+1)) (hs.drop (i+1)):=by
     rw [← List.take_append_getElem c,List.append_assoc];rfl
    rw [qa];simp only [ne_eq,List.cons.injEq,true_and]
   cases d:l[i] with
   | false =>
    rw [if_neg (by decide)];have:=stay (by rw [d];rfl);rw [d] at this;exact this
   | true =>
    rw [if_pos rfl,Mj k,Option.bind_some];cases q:hs[i] with
    | true =>
     have:=stay (by rw [d,q];rfl);rw [d,q] at this;exact this
    | false =>
     unfold Jp;rw [if_pos (by decide),Mj c,Option.bind_some,Hh (by omega),Option.bind_some,m,Int.toNat_natCast,e (i+1) true (l.set i false) (by simpa using f) g j (by simp;omega) (by simp;omega)];have qa:(l.set i false).take (i+1)++meet ((l.set i false).drop (i+1)) (hs.drop (i+1))=l.take i++meet (true::l.drop (i+1)) (false::hs.drop (i+1)):=by
      rw [em,← List.take_append_getElem (by simpa using c),List.append_assoc,List.take_set_of_le (by omega)];simp [List.drop_set]
     rw [qa];simp [em]
  ·rw [if_neg (by omega),List.drop_of_length_le (by omega),List.drop_of_length_le (by omega),List.take_of_length_le (by omega)];have qa:meet ([]:List Bool) []=[]:=rfl;rw [qa,List.append_nil];cases b with
   | true =>
    unfold app;rw [if_pos rfl,if_pos (by simp;omega),Option.bind_some];simp
   | false=>simp
section
variable {m:ub}{u:Tc}{a:ij}{td st:List Int}{hs:List Bool}{er p:Int}{L:Nat}
theorem xu (R:u.Code.length≤4000) (B:hs.length=L) (S:L≤200) (n:bp u.Code.length L a) (C:0≤p∧p≤u.Code.length) (D:Cg (st,er)) (T:st.length≤1000) (F:tk u.Code.length a td≤3000000000) :
  ∃ t v w,kl (ve m) u a td st hs er p=some (t,v,st,hs,w)∧nq u.Code.length L st hs p a td er t v w:=by
 have G:td.length≤3000000000:=by unfold tk at F;omega
 unfold kl;by_cases c0:er≠0
 ·rw [if_pos c0];exact ⟨_,_,_,rfl,.same n c0 (fun _=>rfl) fun h=>absurd h c0⟩
 rw [if_neg c0];have c0:er=0:=by omega
 subst c0;by_cases c1:p=(u.Code.length:Int)
 ·rw [if_pos c1,Tk,Option.bind_some];exact ⟨_,_,_,rfl,.same n (Uo (by decide)) (fun h=>absurd rfl h) fun _ ⟨h,_⟩=>by omega⟩
 rw [if_neg c1];obtain ⟨b,rfl⟩:=Int.eq_ofNat_of_zero_le C.1;have H:b<u.Code.length:=by omega
 have z:∀ (x:nd),((List.range u.Code.length).map fun q:Nat=>Gk (qe a (b:Int) x) (q:Int)).sum+Gk a (b:Int)=((List.range u.Code.length).map fun q:Nat=>Gk a (q:Int)).sum+Um x.has:=fun x=>by
  have:=pz (f:=fun q:Nat=>Gk (qe a (b:Int) x) (q:Int)) (g:=fun q:Nat=>Gk a (q:Int)) (p:=b) u.Code.length H (fun q j=>by unfold Gk;rw [rr,if_neg (by omega)]);have e:Gk (qe a (b:Int) x) (b:Int)=Um x.has:=by unfold Gk;rw [rr,if_pos rfl]
  simp only [e] at this;exact this
 cases k:Nc a (b:Int) with
 | none =>
  rw [if_neg (by decide)];have K:Ts ⟨st,hs⟩=some ⟨st,hs⟩:=by
   unfold Ts Ou small;rw [if_pos (show st.length≤65536 by omega),Option.bind_some,if_pos (show hs.length≤65536 by omega),Option.bind_some]
  rw [K,Option.bind_some];unfold Yv app;rw [if_pos (by simp;omega),Option.bind_some];refine ⟨_,_,_,rfl,?_⟩;have d:∀ q,Nc (qe a (b:Int) ⟨st,hs⟩) q=if q=(b:Int) then some ⟨st,hs⟩ else Nc a q:=fun q=>rr _ _ _ _;refine ⟨?_,?_,fun h=>absurd rfl h,fun _ _ _=>rfl,fun _=>⟨rfl,_,by rw [d,if_pos rfl],rfl,.Gu _⟩,?_,?_,fun _=>⟨fun q j=>by simpa using j,fun q j=>by simp [j]⟩,?_,fun _ q j=>by rw [d,if_neg j]⟩
  ·intro q x i;rw [d] at i;by_cases e:q=(b:Int)
   ·rw [if_pos e] at i;obtain rfl:=Option.some.inj i;exact ⟨by omega,B,D⟩
   ·rw [if_neg e] at i;exact n q x i
  ·have:=z ⟨st,hs⟩;have e:Gk a (b:Int)=201:=by unfold Gk;rw [k]
   have:=iH hs;unfold tk;simp only [List.length_append,List.length_cons,List.length_nil] at *;omega
  ·intro _ q x i;by_cases e:q=(b:Int)
   ·rw [e,k] at i;cases i
   ·exact ⟨x,by rw [d,if_neg e,i],rfl,.Gu _,.inl rfl⟩
  ·intro _ q M i;by_cases e:q=(b:Int)
   ·exact .inl (by simp [e])
   ·rw [d,if_neg e] at i;exact .inr i
  ·intro _ h o s M i;rw [d,if_pos rfl] at i;obtain rfl:=Option.some.inj i;exact o
 | some x =>
  obtain ⟨-,N,A⟩:=n _ _ k;have O:=A.le rfl;simp only at O;rw [if_pos (by rfl),Option.bind_some,NI _ _ (by omega),Option.bind_some];by_cases e:x.stack=st
  ·rw [if_pos (by simpa using e)];have:=OI (p:=(b:Int)) (a:=a) (td:=td) (st:=st) (hs:=hs) (er:=0) (x:=x) G (x.has.length+1) 0 false x.has rfl (by omega) (by omega) (by omega) (by omega);rw [show ((0:Nat):Int)=0 from rfl] at this;rw [this];refine ⟨_,_,_,rfl,?_⟩;simp only [List.take_zero,List.drop_zero,List.nil_append,Bool.false_eq_true,false_or];have r:x.has.length=hs.length:=by omega
   have d:∀ q,Nc (qe a (b:Int) ⟨x.stack,meet x.has hs⟩) q=if q=(b:Int) then some ⟨x.stack,meet x.has hs⟩ else Nc a q:=fun q=>rr _ _ _ _;have P:∀ q ∈ td,q ∈ (if meet x.has hs≠x.has then td++[(b:Int)] else td):=fun q j=>by split<;>simp [j]
   refine ⟨?_,?_,fun h=>absurd rfl h,fun _ _ _=>rfl,fun _=>⟨rfl,⟨x.stack,meet x.has hs⟩,by rw [d,if_pos rfl],e,sK r⟩,?_,?_,fun _=>⟨fun q j=>?_,P⟩,?_,fun _ q j=>by rw [d,if_neg j]⟩
   ·intro q y c;rw [d] at c;by_cases qa:q=(b:Int)
    ·rw [if_pos qa] at c;obtain rfl:=Option.some.inj c;exact ⟨by omega,(iw r).trans N,A⟩
    ·rw [if_neg qa] at c;exact n q y c
   ·have o:=z ⟨x.stack,meet x.has hs⟩;have s:Gk a (b:Int)=Um x.has:=by unfold Gk;rw [k]
    obtain ⟨U,Q⟩:=EC x.has hs r;unfold tk;simp only at o;split
    ·rename_i l;have:=Q l;simp only [List.length_append,List.length_cons,List.length_nil];omega
    ·omega
   ·intro _ q y c;by_cases qa:q=(b:Int)
    ·subst qa;rw [k] at c;obtain rfl:=Option.some.inj c;refine ⟨⟨x.stack,meet x.has hs⟩,by rw [d,if_pos rfl],rfl,rK r,?_⟩;by_cases l:meet x.has hs=x.has
     ·exact .inl (by rw [l])
     ·exact .inr (by rw [if_pos l];simp)
    ·exact ⟨y,by rw [d,if_neg qa,c],rfl,.Gu _,.inl rfl⟩
   ·intro _ q y c;by_cases qa:q=(b:Int)
    ·subst qa;by_cases l:meet x.has hs=x.has
     ·rw [d,if_pos rfl,l] at c;exact .inr (by rw [k,← c])
     ·exact .inl (by rw [if_pos l];simp)
    ·rw [d,if_neg qa] at c;exact .inr c
   ·split at j
    ·simpa using j
    ·exact .inl j
   ·intro _ h o s y c;rw [d,if_pos rfl] at c;obtain rfl:=Option.some.inj c;exact tK (s x k) o
  ·rw [if_neg (by simpa using e),Tk,Option.bind_some];exact ⟨_,_,_,rfl,.same n (Uo (by decide)) (fun h=>absurd rfl h) fun _ ⟨_,h⟩=>e (h x k)⟩
end
end Go.Y
namespace Go.Y
open Go.yb Go.kc
theorem lG (s:bg) (t:Int):(Ye s t).1.length=s.1.length+1:=by simp [Ye]
theorem cC (m:ub) (s:bg):(Vh m s).2.1.length≤s.1.length:=by
 have:=tn s;unfold Vh;split
 ·exact this
 ·split
  ·exact this
  ·exact this
theorem FC {m:ub}{s:bg}(h:Cg s):Cg (Vh m s).2:=by
 unfold Vh;split
 ·exact h.pop
 ·split
  ·exact h.pop
  ·exact h.pop.er (by decide)
theorem TD {α:Type}{P:α→Prop}{c:Prop}[Decidable c]{a b:α}(d:c→P a) (e:¬ c→P b):P (if c then a else b):=by
 by_cases c:c
 ·rw [if_pos c];exact d c
 ·rw [if_neg c];exact e c
theorem BF (m:ub) (u:Tc) (i:vd) (s:bg) (hs:List Bool):(xd m u i s hs).1.length≤s.1.length+1:=by
 have w:∀ l (a:bg),a.1.length≤s.1.length→(Le l a).1.length≤s.1.length+1:=fun l a h=>Nat.le_trans (fl l a) (by omega);have pl:∀ (a:bg) t,a.1.length≤s.1.length→(Ye a t).1.length≤s.1.length+1:=fun a t h=>by rw [lG];omega
 have b:∀ l (a:bg) t,a.1.length≤s.1.length→(Ye (Le l a) t).1.length≤s.1.length+1:=fun l a t h=>pl _ _ (Nat.le_trans (fl l a) h);have c:=tn s;have r:=Nat.le_refl s.1.length;have P:=@TD bg (fun z=>z.1.length≤s.1.length+1);unfold xd;refine P (fun _=>pl _ _ r) fun _=>P (fun _=>pl _ _ r) fun _=>P (fun _=>pl _ _ r) fun _=>P (fun _=>w _ _ r) fun _=>P (fun _=>Nat.le_trans c (Nat.le_succ _)) fun _ =>
  P (fun _=>b _ _ _ r) fun _=>P (fun _=>b _ _ _ r) fun _=>P (fun _=>b _ _ _ r) fun _=>P (fun _=>b _ _ _ c) fun _=>P (fun _=>b _ _ _ r) fun _=>P (fun _=>b _ _ _ r) fun _ =>
  P (fun _=>Nat.le_succ _) fun _=>P (fun _=>w _ _ r) fun _=>P (fun _=>b _ _ _ r) fun _=>P (fun _=>w _ _ r) fun _=>P (fun _=>Nat.le_succ _) fun _=>P (fun _=>w _ _ r) fun _=>P (fun _=>pl _ _ r) fun _ =>
  P (fun _=>Nat.le_trans c (Nat.le_succ _)) fun _=>P (fun _=>b _ _ _ r) fun _=>P (fun _=>?_) fun _=>P (fun _=>b _ _ _ r) fun _=>P (fun _=>pl _ _ (cC m s)) fun _=>Nat.le_succ _
 have d:=Nat.le_trans (cC m (vc s).2) c;generalize Vh m (vc s).2=q at d;obtain ⟨o,a⟩:=q;cases o with
 | none=>exact Nat.le_trans d (Nat.le_succ _)
 | some x=>exact pl _ _ d
theorem gM {l:List Int}(h:∀ y ∈ l,wg y) (i:Int):wg (Al l i):=by
 unfold Al;cases a:at_ l i with
 | none=>show wg 0; unfold wg; omega
 | some x=>exact h x (at_mem a).1
theorem UD {m:ub}(hm:Fk m) (i:Int):wu (Gj m i):=by
 unfold Gj;cases a:at_ m.lb i with
 | none=>refine ⟨?_,?_,?_,?_,⟨by decide,fun y b=>by cases b⟩,by decide,trivial⟩ <;> (show wg 0; unfold wg; omega)
 | some x=>exact hm.2.2 x (at_mem a).1
theorem hM {m:ub}(hm:Fk m) (i:Int):Bu (Bl m i):=by
 unfold Bl;cases a:at_ m.uc i with
 | none=>constructor <;> (show wg 0; unfold wg; omega)
 | some x=>exact hm.1.2 x (at_mem a).1
theorem mG {m:ub}{u:Tc}{i:vd}{s:bg}{hs:List Bool}(hm:Fk m) (n:fj m) (hu:wu u) (Ua:Il m u i) (h:Cg s):Cg (xd m u i s hs):=by
 have j:wg 1:=by unfold wg;omega
 have f:wg 2:=by unfold wg;omega
 have p:=gM hu.2.2.2.2.1.2 i.A;have rg:=UD hm i.A;have rx:=hM hm i.A;have r:i.Op=29→wg (10+i.A):=fun k=>by
  obtain ⟨-,-,-,g4,g5⟩:=yr (Ua.2.2.2.2.2.1 k);have:=n.1.2;unfold wg;omega
 have d:∀ {s:bg}{x e:Int},Cg s→x≠0→(e=s.2∨e=Ee s.2 x)→Cg (s.1,e):=fun {s x e} h g he=>by
  rcases he with he | he
  ·rw [he];exact h
  ·rw [he];exact h.er g
 have ite:∀ {c:Prop}[Decidable c] {a b:Int},(if c then a else b)=b∨(if c then a else b)=a:=fun {c} _ {a b}=>by
  by_cases c:c
  ·rw [if_pos c];exact .inr rfl
  ·rw [if_neg c];exact .inl rfl
 have t:∀ {c:Prop}[Decidable c] {a b:Int},(if c then a else b)=a∨(if c then a else b)=b:=fun {c} _ {a b}=>ite.symm;have P:=@TD bg Cg;unfold xd;refine P (fun _=>h.push j) fun _=>P (fun _=>h.push f) fun _=>P (fun _=>Cg.push (d h (by decide) t) p) fun _=>P (fun _=>h.want _) fun _=>P (fun _=>h.pop) fun _ =>
  P (fun _=>(h.want _).push j) fun _=>P (fun _=>(h.want _).push f) fun _=>P (fun _=>(h.want _).push j) fun _=>P (fun _=>Cg.push (Cg.want _ (d h.pop (by decide) ite)) f) fun _=>P (fun _=>(h.want _).push f) fun _=>P (fun _=>(h.want _).push f) fun _ =>
  P (fun _=>h) fun _=>P (fun _=>h.want _) fun _=>P (fun _=>(h.want _).push rg.2.2.1) fun _=>P (fun _=>d (Cg.want _ (d h (by decide) ite)) (by decide) ite) fun _=>P (fun _=>d (d h (by decide) ite:Cg (s.1,_)) (by decide) ite) fun _ =>
  P (fun _=>h.want _) fun _=>P (fun _=>h.push rx.1) fun _=>P (fun _=>d h.pop (by decide) ite) fun _=>P (fun k=>(h.want _).push (r k)) fun _=>P (fun _=>?_) fun _=>P (fun _=>Cg.push (Cg.want _ (d h (by decide) ite)) hu.2.2.2.1) fun _=>P (fun _=>(FC h).push f) fun _=>h
 have l:=FC (m:=m) h.pop;have g:∀ x,(Vh m (vc s).2).1=some x→wu x:=fun x e=>by
  unfold Vh at e;split at e
  ·cases e
  ·split at e
   ·obtain rfl:=Option.some.inj e;exact UD hm _
   ·cases e
 generalize Vh m (vc s).2=q at l g;obtain ⟨o,v⟩:=q;cases o with
 | none=>exact l
 | some x=>exact Cg.push (d l (by decide) ite) (g x rfl).2.2.1
theorem jH (i:vd) (hs:List Bool):(ti i hs).length=hs.length:=by unfold ti;split<;>simp
theorem Jy {i:vd}{a b:List Bool}(h:fg a b):fg (ti i a) (ti i b):=by
 unfold ti;split
 ·refine ⟨by simpa using h.1,fun j e=>?_⟩;have d:=h.1;rw [List.getElem?_set] at e ⊢;by_cases c:i.A.toNat=j
  ·rw [if_pos c] at e ⊢;split at e
   ·rw [if_pos (by omega)]
   ·cases e
  ·rw [if_neg c] at e ⊢;exact h.2 j e
 ·exact h
theorem PI {a b:List Bool}{i:Int}(h:fg a b) (g:ca a i=true):ca b i=true:=by
 unfold ca at_ at *;split
 ·rename_i c;rw [if_pos c] at g;cases e:a[i.toNat]? with
  | none=>rw [e] at g; cases g
  | some x =>
   rw [e] at g;have:x=true:=g;rw [h.2 _ (by rw [e,this])];rfl
 ·rename_i c;rw [if_neg c] at g;cases g
theorem kH {s:bg}{t:Int}(h:(Ye s t).2=0):s.2=0:=by
 unfold Ye at h;simp only at h;split at h
 ·exact absurd h (Uo (by decide))
 ·exact h
theorem pv {m:ub}{u:Tc}{i:vd}{s:bg}{a b:List Bool}(h:fg a b) (f:(xd m u i s a).2=0):xd m u i s b=xd m u i s a:=by
 by_cases c:i.Op=3
 ·have e:∀ hs,xd m u i s hs=Ye (s.1,if ca hs i.A=true then s.2 else Ee s.2 11) (Al u.Cc i.A):=fun hs=>by
   unfold xd;rw [if_neg (show ¬ i.Op=1 by omega),if_neg (show ¬ i.Op=2 by omega),if_pos c]
  rw [e] at f ⊢;rw [e];have d:=kH f;simp only at d;by_cases g:ca a i.A=true
  ·rw [if_pos g,if_pos (PI h g)]
  ·rw [if_neg g] at d;exact absurd d (Uo (by decide))
 ·unfold xd;simp only [if_neg c]
theorem Fits.mono {a c:ij}{p:Int}{st:List Int}{hs:List Bool}(h:Fits a p st hs) (g:∀ q x,Nc a q=some x→∃ b,Nc c q=some b∧b.stack=x.stack∧fg b.has x.has):Fits c p st hs:=by
 obtain ⟨y,d,e,f⟩:=h;obtain ⟨i,g1,g2,g3⟩:=g p y d;exact ⟨i,g1,g2.trans e,g3.Bm f⟩
def Wr (m:ub) (u:Tc) (a:ij) (p:Int) (x:nd):Prop:=∃ i,at_ u.Code p=some i∧(xd m u i (x.stack,0) x.has).2=0 ∧
 ((i.Op=21∨i.Op=22)→Fits a i.A (xd m u i (x.stack,0) x.has).1 (ti i x.has))∧(follows i→Fits a (p+1) (xd m u i (x.stack,0) x.has).1 (ti i x.has))
theorem Wr.mono {m:ub}{u:Tc}{a c:ij}{p:Int}{x:nd}(h:Wr m u a p x) (g:∀ q x,Nc a q=some x→∃ b,Nc c q=some b∧b.stack=x.stack∧fg b.has x.has):Wr m u c p x:=by
 obtain ⟨i,d,e,f,j⟩:=h;exact ⟨i,d,e,fun k=>(f k).mono g,fun k=>(j k).mono g⟩
abbrev Cu:=Int→Option (List Int×List Bool)
structure Lo (m:ub) (u:Tc) (T:Cu):Prop where
 step:∀ p st h,T p=some (st,h)→∃ i,at_ u.Code p=some i∧(xd m u i (st,0) h).2=0 ∧
  ((i.Op=21∨i.Op=22)→i.A<u.Code.length∧∃ a,T i.A=some ((xd m u i (st,0) h).1,a)∧fg a (ti i h)) ∧
  (follows i→p+1<u.Code.length∧∃ a,T (p+1)=some ((xd m u i (st,0) h).1,a)∧fg a (ti i h))
def Du (a:ij) (T:Cu):Prop:=∀ p x,Nc a p=some x→∃ h,T p=some (x.stack,h)∧fg h x.has
theorem nq.typed {C L:Nat}{st:List Int}{hs:List Bool}{p:Int}{a j:ij}{td l:List Int}{e:Int}{T:Cu}(h:nq C L st hs p a td 0 j l e) (f:Du a T) (m:p<C){b:List Bool}(g:T p=some (st,b)) (n:fg b hs):e=0∧Du j T:=by
 have Hb:e=0:=h.SD rfl m fun x i=>by
  obtain ⟨o,qa,-⟩:=f p x i;rw [g] at qa;exact (Prod.mk.inj (Option.some.inj qa)).1.symm
 refine ⟨Hb,fun q y d=>?_⟩;by_cases c:q=p
 ·subst c;obtain ⟨-,z,k,z2,-⟩:=h.fits Hb;rw [d] at k;obtain rfl:=Option.some.inj k;refine ⟨b,by rw [g,z2],h.qM Hb b n (fun x i=>?_) y d⟩;obtain ⟨o,qa,V⟩:=f q x i;rw [g] at qa;rw [(Prod.mk.inj (Option.some.inj qa)).2];exact V
 ·rw [h.rM Hb q c] at d;exact f q y d
section
variable {fu:Nat}{m:ub}{u:Tc}{k:Int}
structure iM (m:ub) (u:Tc) (q:Int) (x:nd) (a:ij) (td:List Int) (c:ij) (d:List Int):Prop where
 mono:∀ p y,Nc a p=some y→∃ b,Nc c p=some b∧b.stack=y.stack∧fg b.has y.has∧(b=y∨p ∈ d)
 new:∀ p b,Nc c p=some b→p ∈ d∨Nc a p=some b
 todo:(∀ p ∈ d,p ∈ td∨∃ y,Nc c p=some y)∧∀ p ∈ td,p ∈ d
 done:Wr m u c q x
theorem nq.Wc {C L:Nat}{st:List Int}{hs:List Bool}{p:Int}{a:ij}{td:List Int}{er:Int}{d:ij}{c:List Int}{g:Int}(h:nq C L st hs p a td er d c g) (e:g=0):(∀ p y,Nc a p=some y→∃ b,Nc d p=some b∧b.stack=y.stack∧fg b.has y.has∧(b=y∨p ∈ c))∧(∀ p b,Nc d p=some b→p ∈ c∨Nc a p=some b)∧(∀ p ∈ c,p ∈ td∨∃ y,Nc d p=some y)∧∀ p ∈ td,p ∈ c:=by
 refine ⟨h.mono e,h.new e,fun q i=>?_,(h.todo e).2⟩;rcases (h.todo e).1 q i with f | f
 ·exact .inl f
 ·obtain ⟨-,y,j,-⟩:=h.fits e;exact .inr ⟨y,by rw [f,j]⟩
theorem iter (hm:Fk m) (id:fj m) (hu:u ∈ m.lb) (Ne:1000≤fu){q:Int}{x:nd}{a:ij}{td:List Int}(M:Nc a q=some x) (S:bp u.Code.length u.Cc.length a) (on:tk u.Code.length a td≤2000000000) :
  ∃ o B s ci st',(∀ n Ch v,Hj fu (ve m) k u (n+1) 0 Ch (q::td) v a=if s≠0 then some ⟨s,k,q⟩ else Hj fu (ve m) k u n s ci B st' o)∧bp u.Code.length u.Cc.length o∧tk u.Code.length o B≤tk u.Code.length a td∧(s=0→iM m u q x a td o B) ∧
   ∀ T,Lo m u T→Du a T→s=0∧Du o T:=by
 obtain ⟨⟨-,⟨sn,-⟩,⟨-,lc⟩,-⟩,ii⟩:=id.2.2.1 u hu;have li:=hm.2.2 u hu;obtain ⟨of,U,N⟩:=S q x M;have pi:=N.le rfl;simp only at pi;obtain ⟨i,Ua,Pi⟩:=an (l:=u.Code) of.1 of.2;have md:=ii i Pi;have kk:cut (q::td) 1 (q::td).length=some td:=by unfold cut;rw [if_pos (by simp only [List.length_cons];omega)];simp
 have mk:Us x=some x:=by
  unfold Us Pu small;rw [if_pos (by omega),Option.bind_some,if_pos (by omega),Option.bind_some]
 have start:∀ n Ch v,Hj fu (ve m) k u (n+1) 0 Ch (q::td) v a=(km fu (ve m) u a td x.stack x.has 0 i).bind fun b =>
   if b.1=true then
    (i64 (q+1)).bind fun dl =>
    (kl (ve m) u b.2.1 b.2.2.1 b.2.2.2.1 b.2.2.2.2.1 b.2.2.2.2.2 dl).bind fun W =>
    Dp k q (Hj fu (ve m) k u n) W.2.2.2.2 W.2.2.2.1 W.2.1 W.2.2.1 W.1
   else
    Dp k q (Hj fu (ve m) k u n) b.2.2.2.2.2 b.2.2.2.2.1 b.2.2.1 b.2.2.2.1 b.2.1:=fun n Ch v=>by
  rw [Hj,if_pos (by simp only [List.length_cons];omega),show at_ (q::td) 0=some q from rfl,Option.bind_some,kk,Option.bind_some,M,Option.bind_some,mk,Option.bind_some,Ua,Option.bind_some]
 have rc:∀ n er hs td st a,Dp k q (Hj fu (ve m) k u n) er hs td st a=if er≠0 then some ⟨er,k,q⟩ else Hj fu (ve m) k u n er hs td st a:=fun _ _ _ _ _ _=>rfl;have wf:i64 (q+1)=some (q+1):=Hh (by omega);have If:(i.Op=21∨i.Op=22)→0≤i.A∧i.A<u.Code.length:=md.2.2.2.1;by_cases O:i.Op=21
 ·have z:xd m u i (x.stack,0) x.has=(x.stack,0):=by unfold xd;simp [O]
  have P:ti i x.has=x.has:=if_neg (by omega);obtain ⟨o,B,s,e,R⟩:=xu (m:=m) (u:=u) (a:=a) (td:=td) (st:=x.stack) (hs:=x.has) (er:=0) (p:=i.A) (L:=u.Cc.length) lc U (by omega) S (by have:=If (.inl O);omega) N (by omega) (by omega);refine ⟨o,B,s,x.has,x.stack,fun n Ch v=>?_,R.ok,R.w,fun Hb=>?_,fun T C d=>?_⟩
  ·rw [start,LI O,e,Option.bind_some,Option.bind_some,if_neg (by simp),rc]
  ·obtain ⟨D,X,Wc,F⟩:=R.Wc Hb;refine ⟨D,X,⟨Wc,F⟩,i,Ua,by rw [z],fun _=>by rw [z,P];exact (R.fits Hb).2,fun h=>absurd O h.1⟩
  ·obtain ⟨h,G,j⟩:=d q x M;obtain ⟨rd,f,s1,s2,-⟩:=C.step q x.stack h G;rw [Ua] at f;obtain rfl:=Option.some.inj f;obtain ⟨wd,el,Y,Fd⟩:=s2 (.inl O);rw [← pv j s1,z] at Y;exact R.typed d wd Y (Fd.Bm (by have:=Jy (i:=i) j;rwa [P] at this))
 by_cases Z:i.Op=22
 ·have z:xd m u i (x.stack,0) x.has=Le [2] (x.stack,0):=by unfold xd;simp [Z]
  have P:ti i x.has=x.has:=if_neg (by omega);have dg:=fl [2] (x.stack,0);obtain ⟨pa,nl,ol,qa,t⟩:=xu (m:=m) (u:=u) (a:=a) (td:=td) (st:=(Le [2] (x.stack,0)).1) (hs:=x.has) (er:=(Le [2] (x.stack,0)).2) (p:=i.A) (L:=u.Cc.length) lc U (by omega) S (by have:=If (.inr Z);omega) (N.want _) (by simp only at dg;omega) (by omega);obtain ⟨a2,pl,ul,wl,Q⟩:=xu (m:=m) (u:=u) (a:=pa) (td:=nl) (st:=(Le [2] (x.stack,0)).1) (hs:=x.has) (er:=ol) (p:=q+1) (L:=u.Cc.length) lc U (by omega) t.ok (by omega) (by
   have hw:=N.want [2];refine ⟨fun rg=>?_,hw.r⟩;by_cases c:(Le [2] (x.stack,0)).2=0
   ·exact hw.le c
   ·rw [t.keep c] at rg;exact absurd rg c) (by simp only at dg;omega) (by have:=t.w;omega)
  refine ⟨a2,pl,ul,x.has,(Le [2] (x.stack,0)).1,fun n Ch v=>?_,Q.ok,Nat.le_trans Q.w t.w,fun Hb=>?_,fun T C d=>?_⟩
  ·rw [start,MI (by omega) Ne Z,qa,Option.bind_some,Option.bind_some,if_pos rfl,wf,Option.bind_some,wl,Option.bind_some,rc]
  ·obtain ⟨g0,g1⟩:=Q.fits Hb;obtain ⟨v1,v2,v3,v4⟩:=t.Wc g0;obtain ⟨D,X,Wc,F⟩:=Q.Wc Hb;refine ⟨fun p y g=>?_,fun p H g=>?_,⟨fun p K=>?_,fun p K=>F p (v4 p K)⟩,i,Ua,by rw [z];exact (t.fits g0).1,fun _=>?_,fun _=>by rw [z,P];exact g1⟩
   ·obtain ⟨am,Ia,Ta,Qb,Rb⟩:=v1 p y g;obtain ⟨em,Id,be,ce,gc⟩:=D p am Ia;refine ⟨em,Id,be.trans Ta,ce.Bm Qb,?_⟩;rcases gc with gc | gc
    ·rcases Rb with Rb | Rb
     ·exact .inl (gc.trans Rb)
     ·exact .inr (F p Rb)
    ·exact .inr gc
   ·rcases X p H g with h | h
    ·exact .inl h
    ·rcases v2 p H h with h | h
     ·exact .inl (F p h)
     ·exact .inr h
   ·rcases Wc p K with h | h
    ·rcases v3 p h with h | ⟨y,g⟩
     ·exact .inl h
     ·obtain ⟨H,lm,-⟩:=D p y g;exact .inr ⟨H,lm⟩
    ·exact .inr h
   ·rw [z,P];exact (t.fits g0).2.mono fun p y g=>by
     obtain ⟨H,Id,be,ce,-⟩:=D p y g;exact ⟨H,Id,be,ce⟩
  ·obtain ⟨h,G,j⟩:=d q x M;obtain ⟨rd,f,s1,s2,ge⟩:=C.step q x.stack h G;rw [Ua] at f;obtain rfl:=Option.some.inj f;obtain ⟨wd,el,Y,Fd⟩:=s2 (.inr Z);obtain ⟨he,pm,hc,ne⟩:=ge ⟨by omega,by omega,by omega⟩;have sm:=pv j s1;rw [← sm,z] at Y hc s1;have bi:fg (ti i h) x.has:=by have:=Jy (i:=i) j;rwa [P] at this
   rw [s1] at t;obtain ⟨t1,t2⟩:=t.typed d wd Y (Fd.Bm bi);rw [t1] at Q;exact Q.typed t2 he hc (ne.Bm bi)
 have Nm:=mG (hs:=x.has) hm id li md N;have fn:=BF m u i (x.stack,0) x.has;simp only at fn;have es:=qK (fu:=fu) (a:=a) (td:=td) (hs:=x.has) (er:=0) id md (by omega) N hm Ne U O Z;by_cases fd:follows i
 ·obtain ⟨o,B,s,e,R⟩:=xu (m:=m) (u:=u) (a:=a) (td:=td) (st:=(xd m u i (x.stack,0) x.has).1) (hs:=ti i x.has) (er:=(xd m u i (x.stack,0) x.has).2) (p:=q+1) (L:=u.Cc.length) lc (by rw [jH,U]) (by omega) S (by omega) Nm (by omega) (by omega);refine ⟨o,B,s,ti i x.has,(xd m u i (x.stack,0) x.has).1,fun n Ch v=>?_,R.ok,R.w,fun Hb=>?_,fun T C d=>?_⟩
  ·rw [start,es,Option.bind_some,if_pos (by simpa using fd),wf,Option.bind_some,e,Option.bind_some,rc]
  ·obtain ⟨D,X,Wc,F⟩:=R.Wc Hb;obtain ⟨g0,g1⟩:=R.fits Hb;exact ⟨D,X,⟨Wc,F⟩,i,Ua,g0,fun h=>by omega,fun _=>g1⟩
  ·obtain ⟨h,G,j⟩:=d q x M;obtain ⟨rd,f,s1,-,ge⟩:=C.step q x.stack h G;rw [Ua] at f;obtain rfl:=Option.some.inj f;obtain ⟨he,pm,hc,ne⟩:=ge fd;rw [← pv j s1] at hc s1;rw [s1] at R;exact R.typed d he hc (ne.Bm (Jy j))
 ·refine ⟨a,td,(xd m u i (x.stack,0) x.has).2,ti i x.has,(xd m u i (x.stack,0) x.has).1,fun n Ch v=>?_,S,Nat.le_refl _,fun Hb=>?_,fun T C d=>?_⟩
  ·rw [start,es,Option.bind_some,if_neg (by simpa using fd),rc]
  ·exact ⟨fun p y g=>⟨y,g,rfl,.Gu _,.inl rfl⟩,fun p H g=>.inr g,⟨fun p K=>.inl K,fun p K=>K⟩,i,Ua,Hb,fun h=>by omega,fun h=>absurd h fd⟩
  ·obtain ⟨h,G,j⟩:=d q x M;obtain ⟨rd,f,s1,-⟩:=C.step q x.stack h G;rw [Ua] at f;obtain rfl:=Option.some.inj f;rw [← pv j s1] at s1;exact ⟨s1,d⟩
def iD (m:ub) (u:Tc) (a:ij):Prop:=bp u.Code.length u.Cc.length a∧∀ p x,Nc a p=some x→Wr m u a p x
theorem uK (hm:Fk m) (B:fj m) (hu:u ∈ m.lb) (C:1000≤fu):∀ (n:Nat) (a:ij) (td:List Int) (Ch:List Bool) (l:List Int),bp u.Code.length u.Cc.length a→tk u.Code.length a td<n→tk u.Code.length a td≤2000000000→(∀ q ∈ td,∃ x,Nc a q=some x)→(∀ p x,Nc a p=some x→p ∈ td∨Wr m u a p x) →
  ∃ w,Hj fu (ve m) k u n 0 Ch td l a=some w∧(w.mf=0→w=⟨0,0,0⟩∧∃ g,iD m u g∧∀ p y,Nc a p=some y→∃ d,Nc g p=some d∧d.stack=y.stack∧fg d.has y.has)∧∀ T,Lo m u T→Du a T→w.mf=0:=by
 intro n
 induction n with
 | zero=>intro a td Ch l _ h; omega
 | succ n D =>
  intro a td Ch l v lc rc z Na;cases td with
  | nil =>
   rw [Hj,if_neg (by simp)];refine ⟨_,rfl,fun _=>⟨rfl,a,⟨v,fun p x i=>?_⟩,fun p y f=>⟨y,f,rfl,.Gu _⟩⟩,fun _ _ _=>rfl⟩;rcases Na p x i with h | h
   ·cases h
   ·exact h
  | cons q td =>
   obtain ⟨x,i⟩:=z q (List.mem_cons_self ..);have fd:tk u.Code.length a (q::td)=tk u.Code.length a td+1:=by unfold tk;simp;omega
   obtain ⟨g,F,G,H,st',e,K,Pd,L,mb⟩:=iter (k:=k) (td:=td) hm B hu C i v (by omega);rw [e];by_cases c:G=0
   ·subst c;rw [if_neg (by simp)];obtain ⟨M,N,⟨Wc,O⟩,P⟩:=L rfl;have g1:∀ p y,Nc a p=some y→∃ d,Nc g p=some d∧d.stack=y.stack∧fg d.has y.has:=fun p y f=>by
     obtain ⟨d,o,r,s,-⟩:=M p y f;exact ⟨d,o,r,s⟩
    obtain ⟨w,Q,R,S⟩:=D g F H st' K (by omega) (by omega) (fun p U=>by
     rcases Wc p U with h | h
     ·obtain ⟨y,f⟩:=z p (List.mem_cons_of_mem _ h);obtain ⟨d,W,-⟩:=g1 p y f;exact ⟨d,W⟩
     ·exact h) (fun p d f=>by
     rcases N p d f with h | h
     ·exact .inl h
     ·by_cases A:p=q
      ·subst A;rw [i] at h;obtain rfl:=Option.some.inj h;exact .inr P
      ·rcases Na p d h with h | h
       ·rcases List.mem_cons.1 h with h | h
        ·exact absurd h A
        ·exact .inl (O p h)
       ·exact .inr (h.mono g1))
    refine ⟨w,Q,fun h=>?_,fun T j t=>S T j (mb T j t).2⟩;obtain ⟨X,b,Y,Z⟩:=R h;refine ⟨X,b,Y,fun p y f=>?_⟩;obtain ⟨gc,Ia,Ta,Qb⟩:=g1 p y f;obtain ⟨hc,o,r,s⟩:=Z p gc Ia;exact ⟨hc,o,r.trans Ta,s.Bm Qb⟩
   ·rw [if_pos c];exact ⟨_,rfl,fun h=>absurd h c,fun T j t=>absurd (mb T j t).1 c⟩
theorem GC:∀ (i r:Nat),(List.replicate i true++List.replicate (r+1) false).set i true=List.replicate (i+1) true++List.replicate r false
 | 0,r=>rfl
 | i+1,r=>by
  have:=GC i r;rw [List.replicate_succ,List.cons_append,List.set_cons_succ,this,List.replicate_succ (n:=i+1)];rfl
def Ch (u:Tc):List Bool:=List.replicate u.Params.toNat true++List.replicate (u.Cc.length - u.Params.toNat) false
def Jr (m:ub) (u:Tc):Prop:=∃ a,iD m u a∧∃ x,Nc a 0=some x∧x.stack=[]∧fg x.has (Ch u)
theorem QI (hm:Fk m) (j:fj m) (l:at_ m.lb k=some u) (Z:1000000≤fu) :
  ∃ w,Ot fu (ve m) k=some w∧(w.mf=0→w=⟨0,0,0⟩∧Jr m u)∧∀ T,Lo m u T→(∃ h,T 0=some ([],h)∧fg h (Ch u))→w.mf=0:=by
 obtain ⟨hu,-⟩:=at_mem l;obtain ⟨⟨-,⟨gc,hc,lc,rc,-⟩,⟨fd,o⟩,-⟩,id⟩:=j.2.2.1 u hu;have r:(Ch u).length=u.Cc.length:=by unfold Ch;simp;omega
 have fin:∃ w,((kl (ve m) u ([]:List (Int×nd)) ([]:List Int) ([]:List Int) (Ch u) 0 0).bind fun d=>Hj fu (ve m) k u fu d.2.2.2.2 d.2.2.2.1 d.2.1 d.2.2.1 d.1)=some w∧(w.mf=0→w=⟨0,0,0⟩∧Jr m u)∧∀ T,Lo m u T→(∃ h,T 0=some ([],h)∧fg h (Ch u))→w.mf=0:=by
  have s:bp u.Code.length u.Cc.length []:=fun p x f=>by cases f
  have w0:tk u.Code.length [] []≤201*4000:=by
   have:∀ C:Nat,((List.range C).map fun q:Nat=>Gk [] (q:Int)).sum=201*C:=fun C=>by
    induction C with
    | zero=>rfl
    | succ C g =>
     rw [List.range_succ,List.map_append,List.sum_append,g];simp [Gk,Nc];omega
   unfold tk;rw [this];simp;omega
  obtain ⟨a,td,er,e,R⟩:=xu (m:=m) (u:=u) (a:=[]) (td:=[]) (st:=[]) (hs:=Ch u) (er:=0) (p:=0) (L:=u.Cc.length) o r (by omega) s (by omega) ⟨fun _=>by simp,fun t v=>by cases v⟩ (by simp) (by omega);have Hb:er=0:=R.SD rfl (by omega) fun x f=>by cases f
  subst Hb;rw [e,Option.bind_some];obtain ⟨-,y,z,A,B⟩:=R.fits rfl;obtain ⟨md,D,Wc,rd⟩:=R.Wc rfl;have wd:=R.w;obtain ⟨w,F,G,H⟩:=uK (fu:=fu) (k:=k) hm j hu (by omega) fu a td (Ch u) [] R.ok (by omega) (by omega) (fun q K=>by
   rcases Wc q K with h | h
   ·cases h
   ·exact h) (fun p x f=>by
   rcases D p x f with h | h
   ·exact .inl h
   ·cases h)
  refine ⟨w,F,fun h=>?_,fun T M ⟨h,t1,t2⟩=>H T M (R.typed (fun p x f=>by cases f) (by omega) t1 t2).2⟩;obtain ⟨N,b,O,P⟩:=G h;obtain ⟨Q,S,U,W⟩:=P 0 y z;exact ⟨N,b,O,Q,S,U.trans A,W.Bm B⟩
 have X:∀ (n i:Nat),i≤u.Params.toNat→u.Params.toNat - i<n→Oq fu (ve m) k u n (i:Int) (List.replicate i true++List.replicate (u.Cc.length - i) false)=(kl (ve m) u ([]:List (Int×nd)) ([]:List Int) ([]:List Int) (Ch u) 0 0).bind fun d=>Hj fu (ve m) k u fu d.2.2.2.2 d.2.2.2.1 d.2.1 d.2.2.1 d.1:=by
  intro n
  induction n with
  | zero=>intro i _ h; omega
  | succ n g =>
   intro i Ua Fd;unfold Oq;by_cases c:(i:Int)<u.Params
   ·have Y:i<(List.replicate i true++List.replicate (u.Cc.length - i) false).length:=by simp;omega
    rw [if_pos c,Mj Y,Option.bind_some,Hh (by omega),Option.bind_some];have qa:(List.replicate i true++List.replicate (u.Cc.length - i) false).set (i:Int).toNat true=List.replicate (i+1) true++List.replicate (u.Cc.length - (i+1)) false:=by
     rw [Int.toNat_natCast,show u.Cc.length - i=(u.Cc.length - (i+1))+1 by omega];exact GC _ _
    rw [qa,show ((i:Int)+1)=((i+1:Nat):Int) by omega];exact g (i+1) (by omega) (by omega)
   ·have:i=u.Params.toNat:=by omega
    rw [if_neg c,this];rfl
 unfold Ot;rw [Option.bind_some,l,Option.bind_some];unfold al;rw [if_pos (by omega),Option.bind_some,Int.toNat_natCast];have:=X ((u.Params - 0).toNat+1) 0 (by omega) (by simp);simp only [List.replicate_zero,List.nil_append,Nat.sub_zero] at this;rw [show ((0:Nat):Int)=0 from rfl] at this;rw [this];exact fin
end
end Go.Y
namespace Go.Y
open Go.yb Go.kc
def Kz (u:Tc) (k:Int):Prop:=∃ i ∈ u.Code,(i.Op=23∨i.Op=29)∧i.A=k
inductive ss (m:ub):Int→Int→Prop
 | refl (k:Int):ss m k k
 | step {k a b:Int} {u:Tc}:ss m k a→at_ m.lb a=some u→Kz u b→ss m k b
def Vm (U:Nat) (l:List Int):Nat:=((List.range U).map fun q:Nat=>if (q:Int) ∈ l then 0 else 1).sum
theorem Ky {U:Nat}{l:List Int}{k:Int}(a:0≤k) (c:k<U) (b:k ∉ l):Vm U (l++[k])+1=Vm U l:=by
 obtain ⟨n,rfl⟩:=Int.eq_ofNat_of_zero_le a;have:=pz (f:=fun q:Nat=>if (q:Int) ∈ l++[(n:Int)] then 0 else 1) (g:=fun q:Nat=>if (q:Int) ∈ l then 0 else 1) (p:=n) U (by omega) (fun q d=>by
  have:(q:Int)≠(n:Int):=by omega
  simp [this])
 simp [b] at this;unfold Vm;simp;omega
theorem lH (U:Nat) (l:List Int):Vm U l≤U:=by
 unfold Vm
 induction U with
 | zero=>simp
 | succ U a =>
  rw [List.range_succ,List.map_append,List.sum_append];simp only [List.map_cons,List.map_nil,List.sum_cons,List.sum_nil];split<;>omega
section
variable {m:ub}{k0:Int}
structure wm (m:ub) (k0:Int) (l:List Int):Prop where
 rg:∀ x ∈ l,0≤x∧x<m.lb.length
 rc:∀ x ∈ l,ss m k0 x
 Dg:l.length+Vm m.lb.length l≤m.lb.length+1
def Ds (m:ub) (x:Int) (l:List Int):Prop:=∀ v,at_ m.lb x=some v→∀ b,Kz v b→b ∈ l
theorem QE {a:Int}{u:Tc}{K:Int→List Int→Option (List Int)}(s:fj m) (hu:at_ m.lb a=some u) (z:0≤a∧ss m k0 a) (i0:Nat) (S:i0≤1000){R:List Int→Prop}
  (B:∀ f,wm m k0 f→(∀ b,Kz u b→b ∈ f)→R f→∃ r,K ((i0:Int)+1) f=some r∧(∀ x ∈ f,x ∈ r)∧wm m k0 r∧∀ x ∈ r,Ds m x r) (C:∀ l b,Vm m.lb.length (l++[b])+1=Vm m.lb.length l→R l→R (l++[b])):∀ (n j:Nat) (l:List Int),wm m k0 l→i0<l.length→R l→j≤u.Code.length→u.Code.length - j<n→(∀ i ∈ u.Code.take j,(i.Op=23∨i.Op=29)→i.A ∈ l) →
  ∃ r,im (i0:Int) u K n (j:Int) l=some r∧(∀ x ∈ l,x ∈ r)∧wm m k0 r∧∀ x ∈ r,Ds m x r:=by
 obtain ⟨D,-⟩:=at_mem hu;obtain ⟨⟨-,-,⟨-,T⟩,-⟩,F⟩:=s.2.2.1 u D;have W:=s.1.2;intro n
 induction n with
 | zero=>intro j l _ _ _ _ h; omega
 | succ n t =>
  intro j l g G o X Y Na;unfold im;by_cases c:j<u.Code.length
  ·have v:=List.getElem_mem c;have Wa:=F _ v;rw [if_pos (by omega),Mj c,Option.bind_some];have w:((j:Int)+1)=((j+1:Nat):Int):=by omega
   have en:u.Code.take (j+1)=u.Code.take j++[u.Code[j]]:=(List.take_append_getElem c).symm;have stay:((u.Code[j].Op=23∨u.Code[j].Op=29)→u.Code[j].A ∈ l)→∃ r,hn (j:Int) l u.Code[j] (im (i0:Int) u K n) false=some r∧(∀ x ∈ l,x ∈ r)∧wm m k0 r∧∀ x ∈ r,Ds m x r:=fun H=>by
    unfold hn;rw [if_neg (by decide),Hh (by omega),Option.bind_some,w];refine t (j+1) l g G o c (by omega) fun i Ua=>?_;rw [en] at Ua;rcases List.mem_append.1 Ua with Ua | Ua
    ·exact Na i Ua
    ·rw [List.mem_singleton.1 Ua];exact H
   have go:(u.Code[j].Op=23∨u.Code[j].Op=29)→∃ r,hn (j:Int) l u.Code[j] (im (i0:Int) u K n) (!(l.contains u.Code[j].A))=some r∧(∀ x ∈ l,x ∈ r)∧wm m k0 r∧∀ x ∈ r,Ds m x r:=fun e=>by
    by_cases hc:u.Code[j].A ∈ l
    ·have:(!(l.contains u.Code[j].A))=false:=by simp [hc]
     rw [this];exact stay fun _=>hc
    ·have:(!(l.contains u.Code[j].A))=true:=by simp [hc]
     rw [this];have k:0≤u.Code[j].A∧u.Code[j].A<m.lb.length:=by
      rcases e with e | e
      ·obtain ⟨-,-,-,g1,g2⟩:=yr (Wa.2.2.2.2.1 e);exact ⟨g1,g2⟩
      ·obtain ⟨-,-,-,g1,g2⟩:=yr (Wa.2.2.2.2.2.1 e);exact ⟨g1,g2⟩
     have y:wm m k0 (l++[u.Code[j].A]):=by
      refine ⟨fun x d=>?_,fun x d=>?_,?_⟩
      ·rcases List.mem_append.1 d with d | d
       ·exact g.rg x d
       ·rw [List.mem_singleton.1 d];exact k
      ·rcases List.mem_append.1 d with d | d
       ·exact g.rc x d
       ·rw [List.mem_singleton.1 d];exact .step z.2 hu ⟨_,v,e,rfl⟩
      ·have:=Ky (U:=m.lb.length) k.1 k.2 hc;have:=g.Dg;simp;omega
     have L:=y.Dg;unfold hn app;rw [if_pos rfl,if_pos (by simp at L ⊢;omega),Option.bind_some,Hh (by omega),Option.bind_some,w];obtain ⟨r,M,N,O,P⟩:=t (j+1) (l++[u.Code[j].A]) y (by simp;omega) (C _ _ (Ky k.1 k.2 hc) o) c (by omega) (fun i Ua=>by
      rw [en] at Ua;rcases List.mem_append.1 Ua with Ua | Ua
      ·exact fun h=>List.mem_append_left _ (Na i Ua h)
      ·rw [List.mem_singleton.1 Ua];exact fun _=>by simp)
     exact ⟨r,M,fun x d=>N x (List.mem_append_left _ d),O,P⟩
   by_cases p:u.Code[j].Op=23
   ·rw [if_pos p];exact go (.inl p)
   ·rw [if_neg p];by_cases q:u.Code[j].Op=29
    ·rw [if_pos q];exact go (.inr q)
    ·rw [if_neg q];exact stay fun h=>by omega
  ·rw [if_neg (by omega),Hh (by omega),Option.bind_some];refine B l g (fun b ⟨i,Ua,e,Q⟩=>?_) o;rw [List.take_of_length_le (by omega)] at Na;rw [← Q];exact Na i Ua e
theorem RE (o:fj m):∀ (n i:Nat) (l:List Int),wm m k0 l→i≤l.length→(l.length - i)+Vm m.lb.length l<n→(∀ x ∈ l.take i,Ds m x l) →
  ∃ r,jn (ve m) n (i:Int) l=some r∧(∀ x ∈ l,x ∈ r)∧wm m k0 r∧∀ x ∈ r,Ds m x r:=by
 have F:=o.1.2;intro n
 induction n with
 | zero=>intro i l _ _ h; omega
 | succ n p =>
  intro i l f Ua G Na;have H:=f.Dg;unfold jn;by_cases c:i<l.length
  ·have j:=List.getElem_mem c;obtain ⟨u,hu,-⟩:=an (l:=m.lb) (f.rg _ j).1 (f.rg _ j).2;rw [if_pos (by omega),Option.bind_some,Mj c,Option.bind_some,hu,Option.bind_some];obtain ⟨r,q,s,t,w⟩:=QE (k0:=k0) (K:=jn (ve m) n) o hu ⟨(f.rg _ j).1,f.rc _ j⟩ i (by omega) (R:=fun a=>(a.length - i)+Vm m.lb.length a≤n∧i<a.length∧a[i]?=some l[i]∧(∀ x ∈ l,x ∈ a)∧a.take i=l.take i) (fun a y z g=>by
    have:=p (i+1) a y (by omega) (by omega) (fun x d v Wa b k=>by
     have en:a.take (i+1)=a.take i++[a[i]]:=(List.take_append_getElem g.2.1).symm;rw [en] at d;rcases List.mem_append.1 d with d | d
     ·rw [g.2.2.2.2] at d;exact g.2.2.2.1 _ (Na x d v Wa b k)
     ·have e:a[i]=l[i]:=by
       have:=g.2.2.1;rw [List.getElem?_eq_getElem g.2.1] at this;exact Option.some.inj this
      rw [List.mem_singleton.1 d,e,hu] at Wa;rw [← Option.some.inj Wa] at k;exact z b k)
    rw [show ((i:Int)+1)=((i+1:Nat):Int) by omega];exact this) (fun a b L ⟨M,A,B,C,D⟩=>by
    refine ⟨by simp;omega,by simp;omega,?_,fun x d=>List.mem_append_left _ (C x d),?_⟩
    ·rw [List.getElem?_append_left A];exact B
    ·rw [List.take_append_of_le_length (by omega)];exact D) (u.Code.length+1) 0 l f c ⟨by omega,c,List.getElem?_eq_getElem c,fun x d=>d,rfl⟩ (by omega) (by omega) (fun i Ua=>by simp at Ua)
   exact ⟨r,q,s,t,w⟩
  ·rw [if_neg (by omega)];rw [List.take_of_length_le (by omega)] at Na;exact ⟨l,rfl,fun x d=>d,f,Na⟩
theorem mH {fu:Nat}(c:fj m) (b:0≤k0∧k0<m.lb.length) (p:1000≤fu):∃ r,At fu (ve m) k0=some r∧wm m k0 r∧∀ x,x ∈ r ↔ ss m k0 x:=by
 have q:=c.1.2;have d:=Ky (U:=m.lb.length) (l:=[]) b.1 b.2 (by simp);have s:=lH m.lb.length [];have f:wm m k0 [k0]:=⟨fun x a=>by rw [List.mem_singleton.1 a];exact b,fun x a=>by rw [List.mem_singleton.1 a];exact .refl _,by simp at d ⊢;omega⟩;obtain ⟨r,g,i,e,j⟩:=RE c fu 0 [k0] f (by omega) (by simp at d ⊢;omega) (fun x a=>by simp at a);refine ⟨r,g,e,fun x=>⟨e.rc x,fun h=>?_⟩⟩
 induction h with
 | refl=>exact i _ (by simp)
 | step t k n o=>exact j _ o _ k _ n
def kx (m:ub) (op b x:Int):Bool:=match at_ m.lb x with
 | some u=>u.Code.any fun i=>decide (i.Op=op) && decide (i.A=b)
 | none=>false
theorem vK {f:vd→Option Bool}{g:vd→Bool}(l:List vd) (d:l.length≤4000000000) (a:∀ x ∈ l,f x=some (g x)):∀ (n i:Nat),i≤l.length→l.length - i<n→∃ r,ar l f n (i:Int)=some r∧(0≤r ↔ (l.drop i).any g=true):=by
 intro n
 induction n with
 | zero=>intro i _ h; omega
 | succ n b =>
  intro i Ua e;unfold ar;by_cases c:i<l.length
  ·rw [if_pos (by omega),Mj c,Option.bind_some,a _ (List.getElem_mem c),Option.bind_some,List.drop_eq_getElem_cons c,List.any_cons];cases j:g l[i] with
   | true=>exact ⟨_,if_pos rfl,by simp⟩
   | false =>
    rw [if_neg (by decide),Hh (by omega),Option.bind_some,Bool.false_or];exact b (i+1) c (by omega)
  ·rw [if_neg (by omega),List.drop_of_length_le (by omega)];exact ⟨_,rfl,by simp⟩
theorem wK {x op b:Int}(d:fj m) (a:0≤x∧x<m.lb.length):ct x (some (ve m)) op b=some (kx m op b x):=by
 obtain ⟨u,hu,j⟩:=an (l:=m.lb) a.1 a.2;obtain ⟨⟨-,-,⟨-,o⟩,-⟩,-⟩:=d.2.2.1 u j;unfold ct kx Ow Nw;rw [Option.bind_some,Option.bind_some,hu,Option.bind_some];obtain ⟨r,e,h⟩:=vK (f:=fun k=>Xs k op b) (g:=fun i=>decide (i.Op=op) && decide (i.A=b)) u.Code (by omega) (fun i _=>by
  unfold Xs;by_cases h:i.Op=op<;>simp [h]) (u.Code.length+1) 0 (by omega) (by omega)
 rw [show ((0:Nat):Int)=0 from rfl] at e;rw [e,Option.bind_some,Option.bind_some];rw [List.drop_zero] at h;congr 1;show _=u.Code.any _;cases c:u.Code.any fun i=>decide (i.Op=op) && decide (i.A=b) with
 | true=>rw [c] at h; simp [h.2 rfl]
 | false=>rw [c] at h; simp only [decide_eq_false_iff_not]; exact fun n=>absurd (h.1 n) (by decide)
def cu (fu:Nat) (m:ub) (op b:Int) (k:Nat):Bool:=match m.lb[k]? with
 | some u=>decide (u.Kind=4) && ((At fu (ve m) (k:Int)).getD []).any (kx m op b)
 | none=>false
def nj (fu:Nat) (m:ub) (op b:Int) (i:Nat):Nat:=(((List.range m.lb.length).drop i).filter (cu fu m op b)).length
theorem sB {fu:Nat}{b o op:Int}{K:Int→Option cg}{C:Prop}(e:fj m) (t:1000≤fu) (v:0≤o∧o≤100) (u:Pj (K (o+1)) C):∀ (n i:Nat) (c:Int),i≤m.lb.length→m.lb.length - i<n→0≤c∧c≤i →
  Pj (kn fu (ve m) m b o op K n c (i:Int)) (c+nj fu m op b i≤1∧C):=by
 have w:=e.1.2;intro n
 induction n with
 | zero=>intro i c _ h; omega
 | succ n k =>
  intro i c Ua y hc;unfold kn;by_cases q:i<m.lb.length
  ·have er:(List.range m.lb.length).drop i=i::(List.range m.lb.length).drop (i+1):=by
    rw [List.drop_eq_getElem_cons (by simpa using q),List.getElem_range]
   have Fa:nj fu m op b i=(if cu fu m op b i=true then 1 else 0)+nj fu m op b (i+1):=by
    unfold nj;rw [er,List.filter_cons];split
    ·simp;omega
    ·omega
   have l:∀ x:Bool,x=cu fu m op b i→Pj (Hq c (i:Int) (kn fu (ve m) m b o op K n) x) (c+nj fu m op b i≤1∧C):=fun x f=>by
    unfold Hq;rw [Fa,← f];cases x with
    | true =>
     rw [if_pos rfl,Hh (by omega),Option.bind_some,Hh (by omega),Option.bind_some,if_pos rfl];refine (k (i+1) (c+1) q (by omega) (by omega)).iff ?_;constructor
     ·rintro ⟨j,a⟩;exact ⟨by omega,a⟩
     ·rintro ⟨j,a⟩;exact ⟨by omega,a⟩
    | false =>
     rw [if_neg (by decide),Hh (by omega),Option.bind_some,if_neg (by decide)];refine (k (i+1) c q (by omega) (by omega)).iff ?_;constructor
     ·rintro ⟨j,a⟩;exact ⟨by omega,a⟩
     ·rintro ⟨j,a⟩;exact ⟨by omega,a⟩
   rw [if_pos (by omega),Mj q,Option.bind_some];have Hb:m.lb[i]?=some m.lb[i]:=List.getElem?_eq_getElem q;by_cases d:m.lb[i].Kind=4
   ·obtain ⟨r,p,s,z⟩:=mH (m:=m) (k0:=(i:Int)) (fu:=fu) e (by omega) t;have A:=s.Dg;rw [if_pos d,p,Option.bind_some,FD (g:=kx m op b) r (by omega) (fun x f=>wK e (s.rg x f)),Option.bind_some];refine l _ ?_;unfold cu;rw [Hb,p];simp [d]
   ·rw [if_neg d];refine l _ ?_;unfold cu;rw [Hb];simp [d]
  ·have Hb:nj fu m op b i=0:=by unfold nj;rw [List.drop_of_length_le (by simp;omega)];rfl
   rw [if_neg (by omega),Hb];by_cases c1:(1:Int)<c
   ·rw [if_pos c1];exact .no (by decide) (by omega)
   ·rw [if_neg c1,Hh (by omega),Option.bind_some];refine u.iff ⟨fun h=>⟨by omega,h⟩,fun h=>h.2⟩
def yu (fu:Nat) (m:ub):Prop:=∀ b:Nat,b<m.uc.length→nj fu m 26 (b:Int) 0≤1∧nj fu m 27 (b:Int) 0≤1
theorem RI {fu:Nat}(d:fj m) (f:1000≤fu):Pj (Bt fu (ve m)) (yu fu m):=by
 have r:=d.1.1;have g:∀ (n i:Nat),i≤m.uc.length→m.uc.length - i<n→Pj (Mk fu (ve m) m n (i:Int)) (∀ b:Nat,i≤b→b<m.uc.length→nj fu m 26 (b:Int) 0≤1∧nj fu m 27 (b:Int) 0≤1):=by
  intro n
  induction n with
  | zero=>intro i _ h; omega
  | succ n j =>
   intro i Ua s;unfold Mk;by_cases c:i<m.uc.length
   ·rw [if_pos (by omega)];have k:Pj (Lk fu (ve m) m (i:Int) (Mk fu (ve m) m n) 1 (1+1)) (∀ b:Nat,i+1≤b→b<m.uc.length→nj fu m 26 (b:Int) 0≤1∧nj fu m 27 (b:Int) 0≤1):=by
     unfold Lk;rw [if_neg (by decide),Hh (by omega),Option.bind_some];exact j (i+1) c (by omega)
    have k1:Pj (Lk fu (ve m) m (i:Int) (Mk fu (ve m) m n) 2 (0+1)) ((0:Int)+nj fu m 27 (i:Int) 0≤1∧∀ b:Nat,i+1≤b→b<m.uc.length→nj fu m 26 (b:Int) 0≤1∧nj fu m 27 (b:Int) 0≤1):=by
     rw [Lk,if_pos (by decide),show at_ [(26:Int),27] (0+1)=some 27 from rfl,Option.bind_some];exact sB (K:=Lk fu (ve m) m (i:Int) (Mk fu (ve m) m n) 1) d f (by decide) k _ 0 0 (by omega) (by omega) (by omega)
    have k0:Pj (Lk fu (ve m) m (i:Int) (Mk fu (ve m) m n) 3 0) ((0:Int)+nj fu m 26 (i:Int) 0≤1∧(0:Int)+nj fu m 27 (i:Int) 0≤1∧∀ b:Nat,i+1≤b→b<m.uc.length→nj fu m 26 (b:Int) 0≤1∧nj fu m 27 (b:Int) 0≤1):=by
     rw [Lk,if_pos (by decide),show at_ [(26:Int),27] 0=some 26 from rfl,Option.bind_some];exact sB (K:=Lk fu (ve m) m (i:Int) (Mk fu (ve m) m n) 2) d f (by decide) k1 _ 0 0 (by omega) (by omega) (by omega)
    refine k0.iff ⟨fun ⟨l,o,p⟩ b t q=>?_,fun h=>⟨by have:=h i (by omega) c;omega,by have:=h i (by omega) c;omega,fun b a=>h b (by omega)⟩⟩;by_cases e:b=i
    ·subst e;exact ⟨by omega,by omega⟩
    ·exact p b (by omega) q
   ·rw [if_neg (by omega)];exact ⟨_,rfl,⟨fun _ b l o=>by omega,fun _=>rfl⟩,fun _=>rfl⟩
 unfold Bt;rw [Option.bind_some];exact (g _ 0 (by omega) (by omega)).iff ⟨fun h b a=>h b (by omega) a,fun h b _ a=>h b a⟩
def xK (fu:Nat) (m:ub):Prop:=fj m∧(∀ u ∈ m.lb,Jr m u)∧yu fu m
def Lz (m:ub):Prop:=∀ u ∈ m.lb,∃ T,Lo m u T∧∃ h,T 0=some ([],h)∧fg h (Ch u)
theorem nH {fu:Nat}(hm:Fk m) (r:1000000≤fu):∃ w,dt fu m=some w∧(w.mf=0→w=⟨0,0,0⟩∧xK fu m)∧(fj m→Lz m→yu fu m→w=⟨0,0,0⟩):=by
 obtain ⟨w,f1,f2,f3⟩:=oK hm;unfold dt;rw [f1,Option.bind_some];by_cases a:w.mf=0
 ·have b:=f2.1 a;have B:=b.1.2;obtain ⟨s,t,Pd,q⟩:=RI (fu:=fu) b (by omega);rw [if_neg (fun g=>g a)];have v:∀ (n i:Nat),i≤m.lb.length→m.lb.length - i<n→∃ w,zq fu m n (i:Int)=some w∧(w.mf=0→w=⟨0,0,0⟩∧(∀ u ∈ m.lb.drop i,Jr m u)∧yu fu m)∧(Lz m→yu fu m→w=⟨0,0,0⟩):=by
   intro n
   induction n with
   | zero=>intro i _ h; omega
   | succ n x =>
    intro i Ua C;unfold zq;by_cases c:i<m.lb.length
    ·obtain ⟨w,y,z,Wc⟩:=QI (k:=(i:Int)) (u:=m.lb[i]) (fu:=fu) hm b (Mj c) r;rw [if_pos (by omega),y,Option.bind_some];by_cases e:w.mf=0
     ·obtain ⟨w',f,j,l⟩:=x (i+1) c (by omega);rw [if_neg (fun g=>g e),Hh (by omega),Option.bind_some];refine ⟨w',f,fun h=>?_,l⟩;obtain ⟨o,d,p⟩:=j h;refine ⟨o,fun u hu=>?_,p⟩;rw [List.drop_eq_getElem_cons c] at hu;rcases List.mem_cons.1 hu with rfl | hu
      ·exact (z e).2
      ·exact d u hu
     ·rw [if_pos e];refine ⟨w,rfl,fun h=>absurd h e,fun A _=>?_⟩;obtain ⟨T,t1,t2⟩:=A _ (List.getElem_mem c);exact absurd (Wc T t1 t2) e
    ·rw [if_neg (by omega),t,Option.bind_some,List.drop_of_length_le (by omega)];exact ⟨s,rfl,fun h=>⟨q h,fun u hu=>(List.not_mem_nil hu).elim,Pd.1 h⟩,fun _ h=>q (Pd.2 h)⟩
  obtain ⟨w',f,j,l⟩:=v (m.lb.length+1) 0 (by omega) (by omega);refine ⟨w',f,fun h=>?_,fun _=>l⟩;obtain ⟨o,d,p⟩:=j h;rw [List.drop_zero] at d;exact ⟨o,b,d,p⟩
 ·rw [if_pos a];exact ⟨w,rfl,fun h=>absurd h a,fun h=>absurd (f2.2 h) a⟩
end
end Go.Y
namespace Go.Y
open Go.yb Go.kc
structure og (l:List Int) (live:Int) (ws:List Int):Prop where
 zi:8≤l.length
 Ua:l.length≤400
 live:live=ws.length
 le:ws.length≤l.length
 take:l.take ws.length=ws
def Vi (us:List Int) (t w:Int):Prop:=10≤t→0≤w∧us[w.toNat]?=some (t - 10)
theorem Vi.plain {us:List Int}{t w:Int}(h:Gg t):Vi us t w:=fun a=>by unfold Gg at h;omega
theorem Vi.mono {us:List Int}{t w x:Int}(h:Vi us t w):Vi (us++[x]) t w:=fun b=>by
 obtain ⟨c,a⟩:=h b;exact ⟨c,by rw [List.getElem?_append_left (List.getElem?_eq_some_iff.1 a).1];exact a⟩
def qi (us:List Int) (ts ws:List Int):Prop:=ws.length=ts.length∧∀ (i:Nat) (t w:Int),ts[i]?=some t→ws[i]?=some w→Vi us t w
theorem qi.nil {us:List Int}:qi us [] []:=⟨rfl,fun i t w h=>by cases i<;>cases h⟩
theorem qi.push {us ts ws:List Int}{t w:Int}(h:qi us ts ws) (hw:Vi us t w):qi us (ts++[t]) (ws++[w]):=by
 refine ⟨by simp [h.1],fun i Lb w' a b=>?_⟩;by_cases c:i<ts.length
 ·rw [List.getElem?_append_left c] at a;rw [List.getElem?_append_left (by rw [h.1];exact c)] at b;exact h.2 i Lb w' a b
 ·rw [List.getElem?_append_right (by omega)] at a;rw [List.getElem?_append_right (by rw [h.1];omega),h.1] at b;have:i - ts.length=0:=by
   have:=(List.getElem?_eq_some_iff.1 a).1;simp at this;omega
  rw [this] at a b;cases a;cases b;exact hw
theorem qi.pop {us ts ws:List Int}{t:Int}(h:qi us (ts++[t]) ws):∃ a w,ws=a++[w]∧qi us ts a∧Vi us t w:=by
 have b:=h.1;rw [List.length_append,List.length_singleton] at b;rcases List.eq_nil_or_concat ws with rfl | ⟨a,w,e⟩
 ·simp at b
 rw [List.concat_eq_append] at e;subst e;have d:a.length=ts.length:=by simpa using b
 refine ⟨a,w,rfl,⟨d,fun i Lb w' f g=>?_⟩,?_⟩
 ·have c:i<ts.length:=(List.getElem?_eq_some_iff.1 f).1;exact h.2 i Lb w' (by rw [List.getElem?_append_left c];exact f) (by rw [List.getElem?_append_left (by omega)];exact g)
 ·exact h.2 ts.length t w (by simp) (by rw [← d];simp)
theorem qi.mono {us ts ws:List Int}{x:Int}(h:qi us ts ws):qi (us++[x]) ts ws:=⟨h.1,fun i t w a b=>(h.2 i t w a b).mono⟩
def dm (us:List Int) (u:Tc) (hs:List Bool) (loc:List Int):Prop:=loc.length=u.Cc.length∧hs.length=u.Cc.length∧∀ (i:Nat) (t w:Int),hs[i]?=some true→u.Cc[i]?=some t→loc[i]?=some w→Vi us t w
theorem dm.mono {us:List Int}{u:Tc}{hs:List Bool}{loc:List Int}{x:Int}(h:dm us u hs loc):dm (us++[x]) u hs loc:=⟨h.1,h.2.1,fun i t w a b c=>(h.2.2 i t w a b c).mono⟩
theorem dm.Ix {us:List Int}{u:Tc}{hs d:List Bool}{loc:List Int}(h:dm us u hs loc) (e:fg d hs):dm us u d loc:=⟨h.1,e.1.trans h.2.1,fun i t w a b c=>h.2.2 i t w (e.2 i a) b c⟩
abbrev eh:=Int→Cu
structure cl (m:ub) (Va:eh) (us:List Int) (f:nb) (b:Nat) (o:Option Int) (loc st:List Int) (Gf:List Int):Prop where
 base:f.base=(b:Int)
 ex:∃ u Ub hs,at_ m.lb f.unit=some u∧Va f.unit f.Pf=some (Ub++Gf,hs)∧dm us u hs loc∧qi us Ub st∧(o=none ↔ u.Kind≠2)∧∀ r,o=some r→u.Result=r
inductive Ii (m:ub) (Va:eh) (us:List Int):List nb→List Int→Option Int→Prop
 | nil:Ii m Va us [] [] none
 | snoc {fs:List nb} {ws loc st:List Int} {o:Option Int} {f:nb} {r:Int}:Ii m Va us fs ws o→cl m Va us f ws.length o loc st [r]→Ii m Va us (fs++[f]) (ws++(loc++st)) (some r)
theorem cl.mono {m:ub}{Va:eh}{us:List Int}{f:nb}{b:Nat}{o:Option Int}{loc st Gf:List Int}{x:Int}(h:cl m Va us f b o loc st Gf):cl m Va (us++[x]) f b o loc st Gf:=by
 obtain ⟨a,u,Ub,hs,c,d,e,g,i⟩:=h;exact ⟨a,u,Ub,hs,c,d,e.mono,g.mono,i⟩
theorem Ii.mono {m:ub}{Va:eh}{us:List Int}{fs:List nb}{ws:List Int}{o:Option Int}{x:Int}(h:Ii m Va us fs ws o):Ii m Va (us++[x]) fs ws o:=by
 induction h with
 | nil=>exact .nil
 | snoc _ a b=>exact .snoc b a.mono
structure Ci (m:ub) (Va:eh) (us:List Int) (c:se) (Gf:List Int):Prop where
 Fg:c.Fg=8
 kg:c.kg=400
 ex:∃ fs ws o f loc st,c.fr=fs++[f]∧Ii m Va us fs ws o∧cl m Va us f ws.length o loc st Gf∧og c.l c.live (ws++(loc++st))
theorem Ci.mono {m:ub}{Va:eh}{us:List Int}{c:se}{Gf:List Int}{x:Int}(h:Ci m Va us c Gf):Ci m Va (us++[x]) c Gf:=by
 obtain ⟨a,b,fs,ws,o,f,loc,st,d,e,g,i⟩:=h;exact ⟨a,b,fs,ws,o,f,loc,st,d,e.mono,g.mono,i⟩
structure Og (m:ub) (Va:eh):Prop where
 form:fj m
 ty:∀ k u,at_ m.lb k=some u→Lo m u (Va k)∧∃ h,Va k 0=some ([],h)∧fg h (Ch u)
theorem Og.of {m:ub}(a:fj m) (b:Lz m):∃ Va,Og m Va:=by
 classical
 have ex:∀ k:Int,∃ T:Cu,∀ u,at_ m.lb k=some u→Lo m u T∧∃ h,T 0=some ([],h)∧fg h (Ch u):=by
  intro k;cases e:at_ m.lb k with
  | none=>exact ⟨fun _=>none,fun u h=>by cases h⟩
  | some u =>
   obtain ⟨hu,-⟩:=at_mem e;obtain ⟨T,c,d⟩:=b u hu;exact ⟨T,fun f h=>by cases h;exact ⟨c,d⟩⟩
 exact ⟨fun k=>Classical.choose (ex k),a,fun k u h=>Classical.choose_spec (ex k) u h⟩
def kj (c:se):Option Int:=(c.fr[0]?).map (·.unit)
inductive Ji (m:ub) (Va:eh) (us:List Int) (cs:List se):Nat→List Int→List Nat→Prop
 | own {j:Nat} {c:se} {u:Tc} {k:Int} {Gf:List Int}:cs[j]?=some c→c.state=2→c.up=none→Ci m Va us c Gf→us[j]?=some k→at_ m.lb k=some u→u.Kind=4→Ji m Va us cs j Gf [j]
 | up {j i:Nat} {c:se} {u:Tc} {k:Int} {Gf:List Int} {gd:List Nat}:cs[j]?=some c→c.state=2→c.up=some i→Ci m Va us c Gf→us[j]?=some k→at_ m.lb k=some u→u.Kind=3→Ji m Va us cs i [u.Result] gd→j ∉ gd→Ji m Va us cs j Gf (j::gd)
structure Wi (m:ub) (Va:eh) (us:List Int) (p:sc) (Gf:List Int) (gd:List Nat):Prop where
 path:Ji m Va us p.cs p.now Gf gd
 len:us.length=p.cs.length
 un:∀ (j:Nat) (c:se),p.cs[j]?=some c→kj c=us[j]?
 Uf:∀ (j:Nat) (c:se),p.cs[j]?=some c→c.fr.length≤40
 off:∀ (j:Nat) (c:se),p.cs[j]?=some c→j ∉ gd→c.up=none∧∃ k u,us[j]?=some k∧at_ m.lb k=some u∧u.Kind=3∧(c.state=0∧Ci m Va us c []∨c.state=1∧Ci m Va us c [u.Yd]∨c.state=3)
end Go.Y
namespace Go.Y
open Go.yb Go.kc
theorem eg {n:Int}(h:-9223372036854775808≤n∧n≤9223372036854775807):i64 n=some n:=if_pos h
theorem Ja {α β:Type}{x:α}{f:α→Option β}:Option.bind (some x) f=f x:=rfl
theorem zu {α:Type}{l:List α}{i:Nat}:at_ l (i:Int)=l[i]?:=by simp [at_]
theorem bq {α:Type}{l:List α}{z:Int}(h:0≤z):at_ l z=l[z.toNat]?:=if_pos h
theorem jD {n:Int}(h:-9223372036854775808≤n∧n≤9223372036854775807):On n=n:=by simp only [On,IntKind.wrap_i64];omega
theorem og.get {l ws:List Int}{live v:Int}{k:Nat}(h:og l live ws) (a:ws[k]?=some v):at_ l (k:Int)=some v:=by
 rw [zu];rw [← h.take,List.getElem?_take] at a;split at a
 ·exact a
 ·cases a
theorem og.set {l ws:List Int}{live v:Int}{k:Nat}(h:og l live ws):og (l.set k v) live (ws.set k v) where
 zi:=by simpa using h.zi
 Ua:=by simpa using h.Ua
 live:=by simpa using h.live
 le:=by simpa using h.le
 take:=by
  rw [List.length_set,List.take_set,h.take]
theorem dC {l ws:List Int}{live:Int}{k:Nat}(h:og l live ws) (c:8≤k) (d:k≤400) (b:ws.length≤k):∃ a,mr l live 8 400 (k:Int)=some (a,live,8,400)∧og a live ws∧a.length=k:=by
 have hc:cut l 0 live=some ws:=by
  unfold cut;have:=h.le;have:=h.live;rw [if_pos (by omega)];rw [h.live];simp [h.take]
 have hm:al (k:Int)=some k:=by
  unfold al;rw [if_pos (by omega)];simp
 have e:lq (List.replicate k (0:Int)) ws=ws++List.replicate (k - ws.length) 0:=by
  simp [lq,List.take_of_length_le b]
 refine ⟨_,by rw [mr,hm,Ja,hc,Ja],?_,?_⟩
 ·rw [e];exact ⟨by simp;omega,by simp;omega,h.live,by simp,by simp⟩
 ·rw [e];simp;omega
theorem eC {l ws:List Int}{live v:Int}(h:og l live ws) (hw:ws.length<400):∃ f,Co l live 8 400 v=some (true,f,live+1,8,400)∧og f (live+1) (ws++[v]):=by
 have g:=h.live;have hle:=h.le;have j:=h.zi;have m:=h.Ua;have fin:∀ a,og a live ws→ws.length<a.length→Pq v live 8 400 a=some (true,a.set live.toNat v,live+1,8,400)∧og (a.set live.toNat v) (live+1) (ws++[v]):=by
  intro a b d;have i:at_ a live=some a[ws.length]:=by
   rw [g,zu];exact List.getElem?_eq_getElem d
  refine ⟨by rw [Pq,i,Ja,eg (by omega),Ja],?_⟩;have e:live.toNat=ws.length:=by omega
  rw [e];refine ⟨by simpa using b.zi,by simpa using b.Ua,by simp [g],by simp;omega,?_⟩;rw [List.length_append,List.length_singleton,List.take_succ_eq_append_getElem (by simpa using d)];simp [List.take_set,b.take,List.set_eq_of_length_le]
 rw [Co,if_neg (by omega),sv];by_cases c:live=(l.length:Int)
 ·rw [if_pos c,eg (by omega),Ja];obtain ⟨a,qa,b,d⟩:=dC (k:=min (2*l.length) 400) h (by omega) (by omega) (by omega);have e:min (2*(l.length:Int)) 400=((min (2*l.length) 400:Nat):Int):=by omega
  rw [e,qa,Ja];obtain ⟨f1,f2⟩:=fin a b (by omega);exact ⟨_,f1,f2⟩
 ·rw [if_neg c];obtain ⟨f1,f2⟩:=fin l h (by omega);exact ⟨_,f1,f2⟩
theorem SI {l ws:List Int}{live s bx t v:Int}(h:og l live ws) (hw:ws.length<400):∃ a,Rj s bx t l live 8 400 v=some (s,bx,t,a,live+1,8,400)∧og a (live+1) (ws++[v]):=by
 obtain ⟨a,k1,b⟩:=eC (v:=v) h hw;exact ⟨a,by rw [Rj,k1,Ja];rfl,b⟩
theorem qz {l ws vs:List Int}{live:Int}(h:og l live (ws++vs)):∃ f,Vp l live 8 400 (vs.length:Int)=some (f,live - vs.length,8,400)∧og f (live - vs.length) ws:=by
 have g:=h.live;have hle:=h.le;have i:=h.zi;have j:=h.Ua;rw [List.length_append] at g hle;have m:quo (l.length:Int) 4=some ((l.length / 4:Nat):Int):=by
  rw [quo,if_neg (by omega),jD (by rw [Int.tdiv_eq_ediv_of_nonneg (by omega)];omega),Int.tdiv_eq_ediv_of_nonneg (by omega)];rfl
 have n:quo (l.length:Int) 2=some ((l.length / 2:Nat):Int):=by
  rw [quo,if_neg (by omega),jD (by rw [Int.tdiv_eq_ediv_of_nonneg (by omega)];omega),Int.tdiv_eq_ediv_of_nonneg (by omega)];rfl
 have a:og l (live - vs.length) ws:=⟨i,j,by omega,by omega,by
  have:=h.take;have e:(ws++vs).take ws.length=ws:=by simp
  rw [← e,← this,List.take_take];simp⟩
 rw [Vp,eg (by omega),Ja,m,Ja];have small:∀ b,b=false→br l 8 400 (live - vs.length) b=some (l,live - vs.length,8,400):=by
  intro b o;subst o;rfl
 by_cases c:live - vs.length≤((l.length / 4:Nat):Int)
 ·rw [if_pos c];by_cases d:(8:Int)<l.length
  ·rw [decide_eq_true d,br,if_pos rfl,n,Ja];obtain ⟨p,qa,q,r⟩:=dC (k:=max (l.length / 2) 8) a (by omega) (by omega) (by omega);have e:max ((l.length / 2:Nat):Int) 8=((max (l.length / 2) 8:Nat):Int):=by omega
   rw [e,qa,Ja];exact ⟨p,rfl,q⟩
  ·rw [decide_eq_false d];exact ⟨l,small _ rfl,a⟩
 ·rw [if_neg c];exact ⟨l,small _ rfl,a⟩
theorem kD {l ws:List Int}{live s bx t v:Int}(h:og l live (ws++[v])):∃ a,zj s bx t l live 8 400=some (v,s,bx,t,a,live - 1,8,400)∧og a (live - 1) ws:=by
 have b:=h.live;have hle:=h.le;have f:=h.Ua;rw [List.length_append,List.length_singleton] at b hle;obtain ⟨a,e,c⟩:=qz (vs:=[v]) h;refine ⟨a,?_,c⟩;have d:at_ l (live - 1)=some v:=by
  have e:live - 1=(ws.length:Int):=by omega
  rw [e];exact h.get (by simp)
 rw [zj,Om,Ja,eg (by omega),Ja,d,Ja];rw [show ((([v]:List Int).length:Nat):Int)=1 from rfl] at e;rw [e,Ja]
theorem jw {l ws:List Int}{live s bx t v:Int}(h:og l live ws):∃ b Lb a d,Rj s bx t l live 8 400 v=some (b,bx,Lb,a,d,8,400)∧(b=s∧Lb=t∧ws.length<400∧og a d (ws++[v])∨b=5∧og a d ws):=by
 by_cases c:ws.length<400
 ·obtain ⟨a,e,g⟩:=SI (s:=s) (bx:=bx) (t:=t) (v:=v) h c;exact ⟨s,t,a,_,e,.inl ⟨rfl,rfl,c,g⟩⟩
 ·have i:=h.live;have j:=h.le;have k:=h.Ua;have e:Co l live 8 400 v=some (false,l,live,8,400):=by rw [Co,if_pos (by omega)]
  rw [Rj,e,Ja,if_neg (by simp),Pk];by_cases f:s≠5
  ·rw [if_pos f,wj,Ja,Ja];exact ⟨5,4,l,live,rfl,.inr ⟨rfl,h⟩⟩
  ·rw [if_neg f,Ja];exact ⟨s,t,l,live,rfl,.inr ⟨by omega,h⟩⟩
end Go.Y
namespace Go.Y
open Go.yb Go.kc
theorem Tl {e x:Int}(h:Ee e x=0) (a:x≠0):False:=Uo a h
theorem ck {s:bg}{t:Int}(h:(Ye s t).2=0):s.2=0∧(Ye s t).1=s.1++[t]:=by
 unfold Ye at h ⊢;simp only at h ⊢;split at h
 ·exact (Tl h (by decide)).elim
 ·exact ⟨h,by trivial⟩
theorem Kr {s:bg}(h:(vc s).2.2=0):s.2=0∧s.1=(vc s).2.1++[(vc s).1]:=by
 unfold vc at h ⊢;rcases List.eq_nil_or_concat s.1 with e | ⟨l,t,e⟩
 ·rw [e] at h;exact (Tl h (by decide)).elim
 ·rw [List.concat_eq_append] at e;rw [e] at h ⊢;simp only [List.getLast?_concat,List.dropLast_concat] at h ⊢;exact ⟨h,by trivial⟩
theorem Rk:∀ (ts:List Int) (s:bg),(Le ts s).2=0→s.2=0∧s.1=(Le ts s).1++ts.reverse
 | [],s,h=>⟨h,by simp [Le]⟩
 | t::ts,s,h=>by
  rw [Le] at h ⊢;obtain ⟨a,b⟩:=Rk ts _ h;simp only at a b;split at a
  ·exact (Tl a (by decide)).elim
  ·rename_i q;obtain ⟨Ia,Ta⟩:=Kr a;refine ⟨Ia,?_⟩;rw [List.reverse_cons,← List.append_assoc,← b,Ta,Decidable.not_not.1 q]
theorem TI {s:bg}(h:(Ol s).2=0):s.2=0∧s.1=[]∧(Ol s).1=[]:=by
 unfold Ol at h ⊢;simp only at h ⊢;split at h
 ·exact (Tl h (by decide)).elim
 ·rename_i q;have:s.1=[]:=List.eq_nil_of_length_eq_zero (by omega);exact ⟨h,this,this⟩
structure Xi (b:Lc):Prop where
 c1:1≤b.l.length
 c2:b.l.length≤20
 f0:0≤b.first
 f1:b.first<b.l.length
 Td:0≤b.n
 Ce:b.n≤b.l.length
def ri (m:ub) (Kb:List Lc):Prop:=Kb.length=m.uc.length∧∀ b ∈ Kb,Xi b
theorem Ck {α:Type}{l:List α}{i:Int}(a:0≤i) (b:i<l.length):∃ x,at_ l i=some x∧x ∈ l:=by
 have Ua:i.toNat<l.length:=by omega
 exact ⟨l[i.toNat],by rw [bq a,List.getElem?_eq_getElem Ua],List.getElem_mem Ua⟩
theorem ri.at {m:ub}{Kb:List Lc}(h:ri m Kb){i:Int}(a:0≤i∧i<m.uc.length):∃ b,at_ Kb i=some b∧Xi b:=by
 obtain ⟨b,c,hm⟩:=Ck (l:=Kb) a.1 (by rw [h.1];exact a.2);exact ⟨b,c,h.2 b hm⟩
theorem ri.set {m:ub}{Kb:List Lc}(h:ri m Kb){k:Nat}{b:Lc}(a:Xi b):ri m (Kb.set k b):=⟨by simpa using h.1,fun c hc=>by
 rcases List.mem_or_eq_of_mem_set hc with hc | rfl
 ·exact h.2 c hc
 ·exact a⟩
theorem yK {Kb:List Lc}{i:Int}{b:Lc}(h:at_ Kb i=some b):Pt Kb i=some (decide (b.n=b.l.length)):=by rw [Pt,h,Ja];rfl
theorem UI {Kb:List Lc}{i:Int}{b:Lc}(h:at_ Kb i=some b):Ct Kb i=some (decide (b.n=0)):=by rw [Ct,h,Ja];rfl
theorem lD {a b:Int}(c:0≤a) (e:a≤100) (d:0<b):∃ r,Xm a b=some r∧0≤r∧r<b:=by
 refine ⟨a.tmod b,?_,Int.tmod_nonneg _ c,Int.tmod_lt_of_pos _ d⟩;unfold Xm;rw [if_neg (by omega)]
theorem JL {m:ub}{Kb:List Lc}(h:ri m Kb){i v:Int}{b:Lc}(d:at_ Kb i=some b) (c:Xi b) (s:b.n≠b.l.length):∃ Ih,au Kb i v=some Ih∧ri m Ih:=by
 have f:=c.c1;have g:=c.c2;have j:=c.f0;have k:=c.f1;have t:=c.Td;have u:=c.Ce;obtain ⟨r,e,o,p⟩:=lD (a:=b.first+b.n) (b:=(b.l.length:Int)) (by omega) (by omega) (by omega);obtain ⟨x,q,-⟩:=Ck (l:=b.l) o p;rw [au,d,Ja,Rw,eg (by omega),Ja,e,Ja,q,Ja,Mv,eg (by omega),Ja,Ja];exact ⟨_,rfl,h.set ⟨by simpa using f,by simpa using g,j,by simpa using k,by show 0≤b.n+1;omega,by show b.n+1≤_;simp;omega⟩⟩
theorem zK {m:ub}{Kb:List Lc}(h:ri m Kb){i:Int}{b:Lc}(d:at_ Kb i=some b) (c:Xi b) (s:b.n≠0):∃ v Ih,Qt Kb i=some (v,Ih)∧ri m Ih:=by
 have f:=c.c1;have g:=c.c2;have j:=c.f0;have k:=c.f1;have t:=c.Td;have u:=c.Ce;obtain ⟨r,e,o,p⟩:=lD (a:=b.first+1) (b:=(b.l.length:Int)) (by omega) (by omega) (by omega);obtain ⟨x,q,-⟩:=Ck (l:=b.l) j k;rw [Qt,d,Ja,Cw,q,Ja,eg (by omega),Ja,e,Ja,tv,eg (by omega),Ja,Ja];exact ⟨_,_,rfl,h.set ⟨f,g,o,p,by show 0≤b.n - 1;omega,by show b.n - 1≤(b.l.length:Int);omega⟩⟩
end Go.Y
namespace Go.Y
open Go.yb Go.kc
variable {m:ub}{Va:eh}{us:List Int}{Kb:List Lc}
def Pb (Kb:List Lc) (s bx:Int):Prop:=s=1∨s=2∧(∃ b,at_ Kb bx=some b∧b.n=b.l.length)∨s=3∧∃ b,at_ Kb bx=some b∧b.n=0
theorem Jl {α:Type}{l:List α}{x:α}:at_ (l++[x]) (l.length:Int)=some x:=by rw [zu];simp
theorem ns {α:Type}{l:List α}{x:α}:(((l++[x]).length:Nat):Int) - 1=(l.length:Int):=by simp
structure oq (m:ub) (Va:eh) (us:List Int) (f:nb) (o:Option Int) (loc st:List Int) (u:Tc) (i:vd) (Ub:List Int) (hs:List Bool):Prop where
 hu:at_ m.lb f.unit=some u
 Zl:u ∈ m.lb
 Ua:at_ u.Code f.Pf=some i
 gn:Il m u i
 Na:To m u
 lc:dm us u hs loc
 ws:qi us Ub st
 zs:o=none ↔ u.Kind≠2
 res:∀ r,o=some r→u.Result=r
 ok:(xd m u i (Ub,0) hs).2=0
 jmp:(i.Op=21∨i.Op=22)→∃ a,Va f.unit i.A=some ((xd m u i (Ub,0) hs).1,a)∧fg a (ti i hs)
 EA:follows i→∃ a,Va f.unit (f.Pf+1)=some ((xd m u i (Ub,0) hs).1,a)∧fg a (ti i hs)
 Jx:0≤f.Pf∧f.Pf<4000
theorem KL (R:Og m Va){f:nb}{b:Nat}{o:Option Int}{loc st:List Int}(h:cl m Va us f b o loc st []):∃ u i Ub hs,oq m Va us f o loc st u i Ub hs:=by
 obtain ⟨q,u,Ub,hs,a,c,d,e,g,j⟩:=h;rw [List.append_nil] at c;obtain ⟨T,-⟩:=R.ty _ u a;obtain ⟨i,qa,l,n,p⟩:=T.step _ _ _ c;obtain ⟨Zl,-⟩:=at_mem a;obtain ⟨Na,Wa⟩:=R.form.2.2.1 u Zl;obtain ⟨ic,ya,Ia⟩:=at_mem qa;have r:=Na.2.2.1.2;exact ⟨u,i,Ub,hs,a,Zl,qa,Wa i ic,Na,d,e,g,j,l,fun k=>(n k).2,fun k=>(p k).2,ya,by omega⟩
theorem oH (g:ri m Kb){i:vd}{u:Tc}(Wa:Il m u i) (s bx t:Int):∃ q a Ag,Dt Kb s bx t i=some (q,Kb,a,Ag,t)∧Pb Kb a Ag∧(a=1→(i.Op=26→∃ b,at_ Kb i.A=some b∧Xi b∧b.n≠b.l.length)∧(i.Op=27→∃ b,at_ Kb i.A=some b∧Xi b∧b.n≠0)):=by
 have j:=Wa.2.2.2.2.2.2;unfold Dt;have k:∀ q:Bool,i.Op≠26→(q=true→∃ b,at_ Kb i.A=some b∧b.n=0)→(q=false→i.Op=27→∃ b,at_ Kb i.A=some b∧Xi b∧b.n≠0) →
   ∃ o a Ag,rp i Kb t q=some (o,Kb,a,Ag,t)∧Pb Kb a Ag∧(a=1→(i.Op=26→∃ b,at_ Kb i.A=some b∧Xi b∧b.n≠b.l.length)∧(i.Op=27→∃ b,at_ Kb i.A=some b∧Xi b∧b.n≠0)):=by
  intro q p r v;unfold rp;by_cases f:q=true
  ·rw [if_pos f];exact ⟨_,3,i.A,rfl,.inr (.inr ⟨rfl,r f⟩),fun h=>by cases h⟩
  ·rw [if_neg f];exact ⟨_,1,0,rfl,.inl rfl,fun _=>⟨fun h=>absurd h p,v (by simpa using f)⟩⟩
 by_cases c:i.Op=26
 ·rw [if_pos c];obtain ⟨b,e,hm⟩:=g.at (j (.inl c));rw [yK e,Ja];unfold Iq;by_cases d:b.n=b.l.length
  ·rw [decide_eq_true d,if_pos rfl];exact ⟨_,2,i.A,rfl,.inr (.inl ⟨rfl,b,e,d⟩),fun h=>by cases h⟩
  ·rw [decide_eq_false d,if_neg (by simp),if_neg (by omega)];unfold rp;rw [if_neg (by simp)];exact ⟨_,1,0,rfl,.inl rfl,fun _=>⟨fun _=>⟨b,e,hm,d⟩,fun h=>by omega⟩⟩
 ·rw [if_neg c];unfold Iq;rw [if_neg (by simp)];by_cases d:i.Op=27
  ·rw [if_pos d];obtain ⟨b,e,hm⟩:=g.at (j (.inr d));rw [UI e,Ja];exact k _ c (fun h=>⟨b,e,by simpa using h⟩) (fun h _=>⟨b,e,hm,by simpa using h⟩)
  ·rw [if_neg d];exact k false c (fun h=>by cases h) (fun _ h=>absurd h d)
theorem HC (R:Og m Va) (d:ri m Kb){fs:List nb}{f:nb}{b:Nat}{o:Option Int}{loc st:List Int}(h:cl m Va us f b o loc st []) (j:fs.length≤100000){s bx t:Int}(hs:s≤3) :
  ∃ u i Ub c a Ag,oq m Va us f o loc st u i Ub c∧hl m Kb s bx t (fs++[f])=some (Kb,a,Ag,t,fs++[f])∧Pb Kb a Ag∧(a=1→(i.Op=26→∃ b,at_ Kb i.A=some b∧Xi b∧b.n≠b.l.length)∧(i.Op=27→∃ b,at_ Kb i.A=some b∧Xi b∧b.n≠0)):=by
 obtain ⟨u,i,Ub,c,N⟩:=KL R h;obtain ⟨q,a,Ag,e,qa,g⟩:=oH d N.gn s bx t;refine ⟨u,i,Ub,c,a,Ag,N,?_,qa,g⟩;rw [hl,if_pos hs,ns,eg (by omega),Ja,Jl,Ja,uv,Jl,Ja,N.hu,Ja,N.Ua,Ja,e,Ja]
theorem mw {fr:List nb}{s bx t:Int}(hs:¬ s≤3):hl m Kb s bx t fr=some (Kb,s,bx,t,fr):=by rw [hl,if_neg hs]
end Go.Y
namespace Go.Y
open Go.yb Go.kc
variable {m:ub}{Va:eh}{us:List Int}{Kb:List Lc}
abbrev uM:=Bool×List Lc×Int×Int×Int×List Int×Int×List nb×List Int×Int×Int×Int
def dp (m:ub) (Va:eh) (us:List Int) (c:se) (out:List Int) (r:uM):Prop:=∃ Ih a Ag Lb out' sa b d,r=(true,Ih,a,Ag,Lb,out',c.state,sa,b,d,8,400)∧ri m Ih∧out'.length≤out.length+1∧sa.length≤40∧(sa[0]?).map (·.unit)=kj c ∧
 (a=5∨Pb Ih a Ag∧Ci m Va us ⟨c.state,c.up,sa,b,d,8,400⟩ [])
theorem xn {α:Type}{l:List α}{x y:α}:(l++[x]).set ((l.length:Int)).toNat y=l++[y]:=by rw [Int.toNat_natCast];exact List.set_append_right _ _ (Nat.le_refl _) |>.trans (by simp)
theorem AK {fs:List nb}{f g:nb}(h:f.unit=g.unit):((fs++[f])[0]?).map (·.unit)=((fs++[g])[0]?).map (·.unit):=by
 cases fs with
 | nil=>simp [h]
 | cons x l=>rfl
theorem Pb.le {s bx:Int}(h:Pb Kb s bx):s≤3:=by rcases h with h | h | h<;>omega
theorem Xr (R:Og m Va){c:se}{out out':List Int}{Ih:List Lc}(g:ri m Ih) (j:out'.length≤out.length+1){s bx t a:Int}{sa:List nb}{b:List Int}(d:sa.length≤40) (k:(sa[0]?).map (·.unit)=kj c)
  (h:s=5∨s=1∧Ci m Va us ⟨c.state,c.up,sa,b,a,8,400⟩ []):∃ r,ai m s bx t Ih out' c.state sa a 8 400 b=some r∧dp m Va us c out r:=by
 rcases h with h | ⟨h,l⟩
 ·rw [ai,mw (by omega),Ja];exact ⟨_,rfl,Ih,s,bx,t,out',sa,b,a,rfl,g,j,d,k,.inl h⟩
 ·obtain ⟨-,-,fs,ws,o,f,loc,st,e,v,n,w⟩:=id l;simp only at e;obtain ⟨u,i,Ub,x,p,Ag,N,qa,q,-⟩:=HC R g n (fs:=fs) (s:=s) (bx:=bx) (t:=t) (by rw [e] at d;simp at d;omega) (by omega);rw [ai,e,qa,Ja];refine ⟨_,rfl,Ih,p,Ag,t,out',fs++[f],b,a,rfl,g,j,by rw [← e];exact d,by rw [← e];exact k,.inr ⟨q,?_⟩⟩;rw [← e];exact l
theorem BK {op a b:Int}(h:8≤op∧op≤20) (f:op=11∨op=12→b≠0):∃ r,Zt op a b=some r:=by
 have Bm:∀ q:Bool,∃ r,gl q=some r:=fun q=>by cases q<;>exact ⟨_,rfl⟩
 have g:∀ q,(op=11∨op=12)→∃ r,cr op a b q=some r:=by
  intro q i;unfold cr;split
  ·obtain ⟨r,e⟩:=Bm (decide (op=11));rw [e,Ja];exact ⟨_,rfl⟩
  ·split
   ·rw [quo,if_neg (f i),Ja];exact ⟨_,rfl⟩
   ·rw [Xm,if_neg (f i),Ja];exact ⟨_,rfl⟩
 unfold Zt;by_cases yh:op=8
 ·rw [if_pos yh];exact ⟨_,rfl⟩
 rw [if_neg yh];by_cases c9:op=9
 ·rw [if_pos c9];exact ⟨_,rfl⟩
 rw [if_neg c9];by_cases j:op=10
 ·rw [if_pos j];exact ⟨_,rfl⟩
 rw [if_neg j];have k:∀ q,(q=true ↔ op=11∨op=12)→∃ r,dr op a b q=some r:=by
  intro q c;unfold dr;by_cases d:q=true
  ·rw [if_pos d];split
   ·exact g _ (c.1 d)
   ·exact g _ (c.1 d)
  ·rw [if_neg d];have l:¬ (op=11∨op=12):=fun h=>d (c.2 h);have go:∀ x:Bool,∃ r,((gl x).bind fun r=>some r)=some r:=fun x=>by
    obtain ⟨r,e⟩:=Bm x;rw [e];exact ⟨_,rfl⟩
   by_cases d13:op=13
   ·rw [if_pos d13];exact go _
   rw [if_neg d13];by_cases d14:op=14
   ·rw [if_pos d14];exact go _
   rw [if_neg d14];by_cases d15:op=15
   ·rw [if_pos d15];exact go _
   rw [if_neg d15];by_cases d16:op=16
   ·rw [if_pos d16];exact go _
   rw [if_neg d16];by_cases d17:op=17
   ·rw [if_pos d17];exact go _
   rw [if_neg d17];by_cases d18:op=18
   ·rw [if_pos d18];exact go _
   rw [if_neg d18];split<;>exact ⟨_,rfl⟩
 by_cases rk:op=11
 ·rw [if_pos rk];exact k _ (by simp [rk])
 ·rw [if_neg rk];exact k _ (by simp [rk])
theorem oq.next {f:nb}{b:Nat}{o:Option Int}{loc st loc' st':List Int}{u:Tc}{i:vd}{Ub:List Int}{hs:List Bool}(N:oq m Va us f o loc st u i Ub hs) (a:f.base=(b:Int)) (c:follows i) (d:dm us u (ti i hs) loc') (hw:qi us (xd m u i (Ub,0) hs).1 st'):cl m Va us ⟨f.unit,f.Pf+1,f.base⟩ b o loc' st' []:=by
 obtain ⟨e,qa,g⟩:=N.EA c;exact ⟨a,u,_,e,N.hu,by rw [List.append_nil];exact qa,d.Ix g,hw,N.zs,N.res⟩
theorem oq.jump {f:nb}{b:Nat}{o:Option Int}{loc st loc' st':List Int}{u:Tc}{i:vd}{Ub:List Int}{hs:List Bool}(N:oq m Va us f o loc st u i Ub hs) (a:f.base=(b:Int)) (c:i.Op=21∨i.Op=22) (d:dm us u (ti i hs) loc') (hw:qi us (xd m u i (Ub,0) hs).1 st'):cl m Va us ⟨f.unit,i.A,f.base⟩ b o loc' st' []:=by
 obtain ⟨e,qa,g⟩:=N.jmp c;exact ⟨a,u,_,e,N.hu,by rw [List.append_nil];exact qa,d.Ix g,hw,N.zs,N.res⟩
theorem An {i:vd}{hs:List Bool}(h:i.Op≠4):ti i hs=hs:=if_neg h
end Go.Y
namespace Go.Y
open Go.yb Go.kc
variable {m:ub}{Va:eh}{us:List Int}{Kb:List Lc}
structure Op (m:ub) (Va:eh) (us:List Int) (c:se) (fs:List nb) (f:nb) (ws:List Int) (o:Option Int) (loc st:List Int) (u:Tc) (i:vd) (Ub:List Int) (hs:List Bool):Prop where
 fr:c.fr=fs++[f]
 zi:Ii m Va us fs ws o
 base:f.base=(ws.length:Int)
 bb:oq m Va us f o loc st u i Ub hs
 ym:og c.l c.live (ws++(loc++st))
 Fg:c.Fg=8
 kg:c.kg=400
 Uf:c.fr.length≤40
section
variable {c:se}{fs:List nb}{f:nb}{ws:List Int}{o:Option Int}{loc st:List Int}{u:Tc}{i:vd}{Ub:List Int}{hs:List Bool}{out out':List Int}{Ih:List Lc}{bx t:Int}
abbrev f1 (f:nb):nb:=⟨f.unit,f.Pf+1,f.base⟩
theorem Op.un (O:Op m Va us c fs f ws o loc st u i Ub hs){g:nb}(h:g.unit=f.unit):((fs++[g])[0]?).map (·.unit)=kj c:=by
 unfold kj;rw [O.fr];exact AK h
theorem Op.len (O:Op m Va us c fs f ws o loc st u i Ub hs){g:nb}:(fs++[g]).length≤40:=by have:=O.Uf;rw [O.fr] at this;simpa using this
theorem Op.on (O:Op m Va us c fs f ws o loc st u i Ub hs) (R:Og m Va) (d:ri m Ih) (e:out'.length≤out.length+1){g:nb}(h:g.unit=f.unit){loc' st' a:List Int}{b:Int}(j:cl m Va us g ws.length o loc' st' []) (k:og a b (ws++(loc'++st'))) :
  ∃ r,ai m 1 bx t Ih out' c.state (fs++[g]) b 8 400 a=some r∧dp m Va us c out r :=
 Xr R d e O.len (O.un h) (.inr ⟨rfl,rfl,rfl,fs,ws,o,g,loc',st',rfl,O.zi,j,k⟩)
theorem Op.push (O:Op m Va us c fs f ws o loc st u i Ub hs) (R:Og m Va) (b:ri m Ih) (d:out'.length≤out.length+1){a j k:List Int}{l v ty:Int}(n:og k l (ws++(loc++a))) (hw:qi us j a) (Wa:Vi us ty v) (e:(xd m u i (Ub,0) hs).1=j++[ty]) (p:follows i) (w:i.Op≠4) :
  ∃ r,((Rj 1 bx t k l 8 400 v).bind fun q=>ai m q.1 q.2.1 q.2.2.1 Ih out' c.state (fs++[f1 f]) q.2.2.2.2.1 q.2.2.2.2.2.1 q.2.2.2.2.2.2 q.2.2.2.1)=some r∧dp m Va us c out r:=by
 obtain ⟨y,Lb,z,A,qa,h⟩:=jw (s:=1) (bx:=bx) (t:=t) (v:=v) n;rw [qa,Ja];rcases h with ⟨rfl,rfl,-,x⟩ | ⟨rfl,-⟩
 ·refine O.on R b d (g:=f1 f) rfl (loc':=loc) (st':=a++[v]) ?_ (by simpa [List.append_assoc] using x);exact O.bb.next O.base p (by rw [An w];exact O.bb.lc) (by rw [e];exact hw.push Wa)
 ·exact Xr R b d O.len (O.un (g:=f1 f) rfl) (.inl rfl)
theorem Op.pop (O:Op m Va us c fs f ws o loc st u i Ub hs){d:List Int}{ty:Int}(e:Ub=d++[ty]):∃ a w b,st=a++[w]∧qi us d a∧Vi us ty w∧zj 1 bx t c.l c.live 8 400=some (w,1,bx,t,b,c.live - 1,8,400)∧og b (c.live - 1) (ws++(loc++a)):=by
 have hw:=O.bb.ws;rw [e] at hw;obtain ⟨a,w,rfl,h,j⟩:=hw.pop;have g:=O.ym;rw [← List.append_assoc,← List.append_assoc] at g;obtain ⟨b,qa,k⟩:=kD (s:=1) (bx:=bx) (t:=t) g;exact ⟨a,w,b,rfl,h,j,qa,by rw [← List.append_assoc];exact k⟩
theorem fC {e:List Int}{b:Int}{d f:List Int}{ty:Int}(g:og e b (ws++(loc++d))) (hw:qi us (f++[ty]) d):∃ a w c,d=a++[w]∧qi us f a∧Vi us ty w∧zj 1 bx t e b 8 400=some (w,1,bx,t,c,b - 1,8,400)∧og c (b - 1) (ws++(loc++a)):=by
 obtain ⟨a,w,rfl,h,i⟩:=hw.pop;rw [← List.append_assoc,← List.append_assoc] at g;obtain ⟨c,qa,j⟩:=kD (s:=1) (bx:=bx) (t:=t) g;exact ⟨a,w,c,rfl,h,i,qa,by rw [← List.append_assoc];exact j⟩
theorem IC {l:List Int}{live:Int}{k:Nat}{w:Int}(h:og l live (ws++(loc++st))) (a:loc[k]?=some w):at_ l ((ws.length+k:Nat):Int)=some w:=by
 refine h.get ?_;have:=(List.getElem?_eq_some_iff.1 a).1;rw [List.getElem?_append_right (by omega),List.getElem?_append_left (by omega)];rw [show ws.length+k - ws.length=k by omega];exact a
end
end Go.Y
