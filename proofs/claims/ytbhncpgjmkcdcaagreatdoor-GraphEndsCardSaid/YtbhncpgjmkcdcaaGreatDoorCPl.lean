/- Texts of GraphEnds Pl. -/
import Derived.Test.YtbhncpgjmkcdcaaGreatDoorCMd
set_option linter.unusedSimpArgs false
set_option linter.unusedVariables false
set_option linter.unusedSectionVars false
namespace Go.Y
open Go.Ab Go.jc
abbrev ue (m:sb):ze:=⟨some m⟩
section
variable {b:ud→ud}
end
end Go.Y
namespace Go.Y
open Go.Ab Go.jc
def Pu (x:Xc):Prop:=Ag x.Kind∧Ag x.Params∧Ag x.Result∧Ag x.je∧(x.Gc.length≤17592186044416∧∀ y ∈ x.Gc,Ag y)∧x.Code.length≤17592186044416∧True
def Ik (m:sb):Prop:=(m.sc.length≤17592186044416∧∀ y ∈ m.sc,Tu y)∧m.Ya.length≤17592186044416∧∀ y ∈ m.Ya,Pu y
theorem Xx.zero {m:sb}(h:Xx m):Ik m:=⟨h.1,h.2.1,fun y g=>by
 obtain ⟨a,b,c,d,e,f,-⟩:=h.2.2 y g;exact ⟨a,b,c,d,e,f,trivial⟩⟩
theorem Ih {n:Int}(h:-9223372036854775808≤n∧n≤9223372036854775807):i64 n=some n:=if_pos h
theorem Rj {α:Type}{l:List α}{i:Nat}(h:i<l.length):at_ l (i:Int)=some l[i]:=by simp [at_,h]
theorem en {α:Type}{l:List α}{i:Int}(a:0≤i) (b:i<l.length):∃ x,at_ l i=some x∧x ∈ l:=by
 obtain ⟨k,rfl⟩:=Int.eq_ofNat_of_zero_le a;have:k<l.length:=by omega
 exact ⟨l[k],Rj this,List.getElem_mem this⟩
theorem oE {α:Type}{l:List α}{i:Int}(h:¬ (0≤i∧i<l.length)):at_ l i=none:=by
 unfold at_;split
 ·rw [List.getElem?_eq_none];omega
 ·rfl
theorem at_mem {α:Type}{l:List α}{i:Int}{x:α}(h:at_ l i=some x):x ∈ l∧0≤i∧i<l.length:=by
 unfold at_ at h;split at h
 ·obtain ⟨a,b⟩:=List.getElem?_eq_some_iff.1 h;exact ⟨b ▸ List.getElem_mem a,by omega,by omega⟩
 ·cases h
def Jg (t:Int):Prop:=t=1∨t=2
instance (t:Int):Decidable (Jg t):=by unfold Jg;infer_instance
theorem cx (t:Int):Om t=some (decide (Jg t)):=by
 unfold Om Jg;by_cases h:t=1<;>simp [h]
def rl (m:sb) (p k:Int):Bool:=match at_ m.Ya p with
 | some u=>decide (u.Kind=k)
 | none=>false
theorem zD (m:sb) (p k:Int):Xp (ue m) p k=some (rl m p k):=by
 unfold Xp rl;rw [Option.bind_some];by_cases a:0≤p
 ·by_cases b:p<m.Ya.length
  ·obtain ⟨x,c,-⟩:=en a b;rw [if_pos a,if_pos b,c];rfl
  ·rw [if_pos a,if_neg b,oE (by omega)]
 ·rw [if_neg a,oE (by omega)]
def bk (m:sb) (t:Int):Bool:=decide (10≤t) && rl m (t - 10) 3
theorem wC (m:sb){t:Int}(h:Ag t):mr (ue m) t=some (bk m t):=by
 unfold mr bk;unfold Ag at h;by_cases a:10≤t
 ·rw [if_pos a,Ih (by omega),Option.bind_some,zD,Option.bind_some];simp [a]
 ·rw [if_neg a];simp [a]
def Ml (m:sb) (u:Xc) (i:ud):Prop :=
 (1≤i.Op∧i.Op≤32)∧(i.Op=2→i.A=0∨i.A=1)∧(i.Op=3∨i.Op=4→0≤i.A∧i.A<u.Gc.length)∧(i.Op=21∨i.Op=22→0≤i.A∧i.A<u.Code.length) ∧
 (i.Op=23→rl m i.A 2=true)∧(i.Op=29→rl m i.A 3=true)∧(i.Op=26∨i.Op=27→0≤i.A∧i.A<m.sc.length)
theorem BH (m:sb) (u:Xc) (i:ud):∃ e,Mt (ue m) u i=some e∧(e=0 ↔ Ml m u i):=by
 have fin:∀ b:Bool,Nk b=some (if b then 0 else 3):=fun b=>by cases b<;>rfl
 have p:∀ b:Bool,ct b=some (if b then 1 else 0):=fun b=>by cases b<;>rfl
 unfold Mt ft et dt Ml;simp only [zD,Option.bind_some,fin,p];by_cases d:i.Op=2
 ·by_cases a:i.A=0<;>by_cases c:i.A=1<;>simp [d,a,c]
 by_cases f:i.Op=3
 ·by_cases a:0≤i.A<;>by_cases c:i.A<u.Gc.length<;>simp [f,a,c]
 by_cases g:i.Op=4
 ·by_cases a:0≤i.A<;>by_cases c:i.A<u.Gc.length<;>simp [g,a,c]
 by_cases h:i.Op=21
 ·by_cases a:0≤i.A<;>by_cases c:i.A<u.Code.length<;>simp [h,a,c]
 by_cases j:i.Op=22
 ·by_cases a:0≤i.A<;>by_cases c:i.A<u.Code.length<;>simp [j,a,c]
 by_cases k:i.Op=23
 ·cases a:rl m i.A 2<;>simp [k,a]
 by_cases l:i.Op=29
 ·cases a:rl m i.A 3<;>simp [l,a]
 by_cases n:i.Op=26
 ·by_cases a:0≤i.A<;>by_cases c:i.A<m.sc.length<;>simp [n,a,c]
 by_cases o:i.Op=27
 ·by_cases a:0≤i.A<;>by_cases c:i.A<m.sc.length<;>simp [o,a,c]
 by_cases a:i.Op<1<;>by_cases c:32<i.Op<;>simp [d,f,g,h,j,k,l,n,o,a,c]<;>omega
theorem oM {f:Int→Option Bool}{g:Int→Bool}(l:List Int) (d:l.length≤40000000000000) (a:∀ x ∈ l,f x=some (g x)):∀ (n i:Nat),i≤l.length→l.length - i<n→∃ r,nr l f n (i:Int)=some r∧(0≤r ↔ (l.drop i).any g=true):=by
 intro n
 induction n with
 | zero=>intro i _ h; omega
 | succ n b =>
  intro i Pa e;unfold nr;by_cases c:i<l.length
  ·rw [if_pos (by omega),Rj c,Option.bind_some,a _ (List.getElem_mem c),Option.bind_some,List.drop_eq_getElem_cons c,List.any_cons];cases j:g l[i] with
   | true=>exact ⟨_,if_pos rfl,by simp⟩
   | false =>
    rw [if_neg (by decide),Ih (by omega),Option.bind_some,Bool.false_or];exact b (i+1) c (by omega)
  ·rw [if_neg (by omega),List.drop_of_length_le (by omega)];exact ⟨_,rfl,by simp⟩
theorem bE {f:Int→Option Bool}{g:Int→Bool}(l:List Int) (b:l.length≤40000000000000) (c:∀ x ∈ l,f x=some (g x)):cq l f=some (l.any g):=by
 unfold cq jx;obtain ⟨r,e,h⟩:=oM l b c (l.length+1) 0 (by omega) (by omega);rw [show ((0:Nat):Int)=0 from rfl] at e;rw [e,Option.bind_some];rw [List.drop_zero] at h;congr 1;cases a:l.any g with
 | true=>rw [a] at h; simp [h.2 rfl]
 | false=>rw [a] at h; simp only [decide_eq_false_iff_not]; exact fun d=>absurd (h.1 d) (by decide)
def Zo (m:sb) (u:Xc):Prop :=
 (u.Kind=2∨u.Kind=3∨u.Kind=4)∧(u.Gc.length≤200∧0≤u.Params∧u.Params≤6∧u.Params≤u.Gc.length∧(u.Kind=4→u.Params≤0))∧(1≤u.Code.length∧u.Code.length≤4000) ∧
 (u.Kind≠4→Jg u.Result)∧(u.Kind=3→Jg u.je)∧∀ t ∈ u.Gc,Jg t∨bk m t=true
theorem mJ (m:sb){u:Xc}(hu:Pu u):∃ e,du (ue m) u=some e∧(e=0 ↔ Zo m u):=by
 obtain ⟨-,-,-,-,⟨A,v⟩,-,-⟩:=hu;have hc:cq u.Gc (fun w=>Nt w (some (ue m)))=some (u.Gc.any fun t=>!decide (Jg t) && !bk m t):=by
  refine bE _ (by omega) fun t f=>?_;unfold Nt;rw [cx,Option.bind_some];by_cases h:Jg t
  ·simp [h]
  ·rw [if_neg (by simp [h]),Option.bind_some,wC m (v t f),Option.bind_some];simp [h]
 have r:(u.Gc.any fun t=>!decide (Jg t) && !bk m t)=true ↔ ¬ ∀ t ∈ u.Gc,Jg t∨bk m t=true:=by
  rw [List.any_eq_true];constructor
  ·rintro ⟨t,f,h⟩ z;rcases z t f with a | a<;>simp [a] at h
  ·intro h;obtain ⟨t,h⟩:=Classical.not_forall.1 h;obtain ⟨f,h⟩:=Classical.not_imp.1 h;rw [not_or] at h;exact ⟨t,f,by simp [h.1,h.2]⟩
 have j:∀ b:Bool,∃ e,zn (ue m) u b=some e∧(e=0 ↔ b=false∧∀ t ∈ u.Gc,Jg t∨bk m t=true):=by
  intro b;unfold zn;cases b with
  | true=>exact ⟨9,rfl,by simp⟩
  | false =>
   rw [if_neg (by decide),hc,Option.bind_some];by_cases h:(u.Gc.any fun t=>!decide (Jg t) && !bk m t)=true
   ·rw [if_pos h];exact ⟨9,rfl,by simpa using r.1 h⟩
   ·rw [if_neg h];exact ⟨0,rfl,by simpa using Classical.not_not.1 fun g=>h (r.2 g)⟩
 have s:∀ b:Bool,∃ e,Wq (ue m) u b=some e∧(e=0 ↔ b=false∧(u.Kind≠4→Jg u.Result)∧(u.Kind=3→Jg u.je)∧∀ t ∈ u.Gc,Jg t∨bk m t=true):=by
  intro b;unfold Wq;cases b with
  | true=>exact ⟨5,rfl,by simp⟩
  | false =>
   rw [if_neg (by decide)];simp only [cx,Option.bind_some];by_cases l:u.Kind=4
   ·rw [if_neg (by omega),if_neg (by omega)];obtain ⟨e,a,d⟩:=j false;exact ⟨e,a,by rw [d];simp [l]⟩
   ·rw [if_pos l];by_cases i:Jg u.Result
    ·rw [if_pos (by simp [i])];by_cases k:u.Kind=3
     ·rw [if_pos k];obtain ⟨e,a,d⟩:=j (!decide (Jg u.je));exact ⟨e,a,by rw [d];simp [k,i]⟩
     ·rw [if_neg k];obtain ⟨e,a,d⟩:=j false;exact ⟨e,a,by rw [d];simp [k,i]⟩
    ·rw [if_neg (by simp [i])];obtain ⟨e,a,d⟩:=j true;exact ⟨e,a,by rw [d];simp [l,i]⟩
 have d:∀ b:Bool,∃ e,Hm (ue m) u b=some e∧(e=0 ↔ b=false∧(1≤u.Code.length∧u.Code.length≤4000)∧(u.Kind≠4→Jg u.Result)∧(u.Kind=3→Jg u.je)∧∀ t ∈ u.Gc,Jg t∨bk m t=true):=by
  intro b;unfold Hm;cases b with
  | true=>exact ⟨5,rfl,by simp⟩
  | false =>
   rw [if_neg (by decide)];by_cases c:(u.Code.length:Int)<1
   ·rw [if_pos c];obtain ⟨e,n,o⟩:=s true;exact ⟨e,n,by rw [o];simp;omega⟩
   ·rw [if_neg c];obtain ⟨e,n,o⟩:=s (decide ((4000:Int)<(u.Code.length:Int)));refine ⟨e,n,o.trans ⟨fun ⟨x,y⟩=>⟨rfl,⟨by omega,?_⟩,y⟩,fun ⟨_,x,y⟩=>⟨?_,y⟩⟩⟩
    ·simp at x;omega
    ·simp;omega
 have a:∀ b:Bool,∃ e,Ip (ue m) u b=some e∧(e=0 ↔ b=false∧(u.Gc.length≤200∧0≤u.Params∧u.Params≤6∧u.Params≤u.Gc.length∧(u.Kind=4→u.Params≤0))∧(1≤u.Code.length∧u.Code.length≤4000)∧(u.Kind≠4→Jg u.Result)∧(u.Kind=3→Jg u.je)∧∀ t ∈ u.Gc,Jg t∨bk m t=true):=by
  intro b;unfold Ip;obtain ⟨aa,t1,t2⟩:=d true;obtain ⟨Hd,f1,f2⟩:=d false;obtain ⟨p,k1,q⟩:=d (decide ((0:Int)<u.Params));have bad:aa≠0:=fun h=>by have:=t2.1 h;simp at this
  cases b with
  | true=>exact ⟨1,rfl,by simp⟩
  | false =>
   rw [if_neg (by decide)];by_cases c1:(200:Int)<(u.Gc.length:Int)
   ·rw [if_pos c1];exact ⟨aa,t1,⟨fun h=>absurd h bad,fun h=>by omega⟩⟩
   rw [if_neg c1];by_cases c2:u.Params<0
   ·rw [if_pos c2];exact ⟨aa,t1,⟨fun h=>absurd h bad,fun h=>by omega⟩⟩
   rw [if_neg c2];by_cases c3:(6:Int)<u.Params
   ·rw [if_pos c3];exact ⟨aa,t1,⟨fun h=>absurd h bad,fun h=>by omega⟩⟩
   rw [if_neg c3];by_cases c4:(u.Gc.length:Int)<u.Params
   ·rw [if_pos c4];exact ⟨aa,t1,⟨fun h=>absurd h bad,fun h=>by omega⟩⟩
   rw [if_neg c4];by_cases c5:u.Kind=4
   ·rw [if_pos c5];refine ⟨p,k1,q.trans ⟨fun ⟨x,y⟩=>⟨rfl,⟨by omega,by omega,by omega,by omega,fun _=>?_⟩,y⟩,fun ⟨_,x,y⟩=>⟨?_,y⟩⟩⟩
    ·simp at x;omega
    ·simp;exact x.2.2.2.2 c5
   ·rw [if_neg c5];exact ⟨Hd,f1,f2.trans ⟨fun ⟨x,y⟩=>⟨rfl,⟨by omega,by omega,by omega,by omega,fun h=>absurd h c5⟩,y⟩,fun ⟨_,x,y⟩=>⟨rfl,y⟩⟩⟩
 obtain ⟨Hd,f1,f2⟩:=a false;obtain ⟨p,k1,q⟩:=a (decide (u.Kind≠4));unfold du Zo;by_cases c2:u.Kind=2
 ·rw [if_neg (by omega)];exact ⟨Hd,f1,f2.trans ⟨fun ⟨x,y⟩=>⟨.inl c2,y⟩,fun ⟨x,y⟩=>⟨rfl,y⟩⟩⟩
 ·rw [if_pos c2];by_cases c3:u.Kind=3
  ·rw [if_neg (by omega)];exact ⟨Hd,f1,f2.trans ⟨fun ⟨x,y⟩=>⟨.inr (.inl c3),y⟩,fun ⟨x,y⟩=>⟨rfl,y⟩⟩⟩
  ·rw [if_pos c3];refine ⟨p,k1,q.trans ⟨fun ⟨x,y⟩=>⟨?_,y⟩,fun ⟨x,y⟩=>⟨?_,y⟩⟩⟩
   ·simp at x;omega
   ·simp;omega
def Yh (m:sb):Prop:=(m.sc.length≤30∧m.Ya.length≤30)∧(∀ b ∈ m.sc,Jg b.Ee∧1≤b.cg∧b.cg≤20)∧(∀ u ∈ m.Ya,Zo m u∧∀ i ∈ u.Code,Ml m u i)∧∃ u ∈ m.Ya,u.Kind=4
def Wj (o:Option hg) (C:Prop):Prop:=∃ w,o=some w∧(w.xf=0 ↔ C)∧(w.xf=0→w=⟨0,0,0⟩)
theorem Wj.iff {o:Option hg}{C D:Prop}(h:Wj o C) (e:C ↔ D):Wj o D:=by
 obtain ⟨w,a,b,c⟩:=h;exact ⟨w,a,b.trans e,c⟩
theorem Wj.no {e a b:Int}{C:Prop}(he:e≠0) (h:¬ C):Wj (some ⟨e,a,b⟩) C:=⟨_,rfl,⟨fun c=>absurd c he,fun c=>absurd c h⟩,fun c=>absurd c he⟩
theorem FG {m:sb}{c a:Int}{u:Xc}{K:Int→Int→Option hg}{C:Prop}(l:0≤a∧a≤17592186044416) (hc:0≤c∧c≤a) (o:u.Code.length≤17592186044416) (d:Wj (K (if u.Kind=4 then c+1 else c) (a+1)) C):∀ (n i:Nat),i≤u.Code.length→u.Code.length - i<n→Wj (Xq (ue m) c a u K n (i:Int)) ((∀ x ∈ u.Code.drop i,Ml m u x)∧C):=by
 intro n
 induction n with
 | zero=>intro i _ h; omega
 | succ n k =>
  intro i Pa p;unfold Xq;by_cases q:i<u.Code.length
  ·obtain ⟨e,ra,j⟩:=BH m u u.Code[i];rw [if_pos (by omega),Rj q,Option.bind_some,ra,Option.bind_some,List.drop_eq_getElem_cons q];by_cases f:e=0
   ·rw [if_neg (by omega),Ih (by omega),Option.bind_some];refine (k (i+1) q (by omega)).iff ⟨fun ⟨x,y⟩=>⟨fun z b=>?_,y⟩,fun ⟨x,y⟩=>⟨fun z b=>x z (List.mem_cons_of_mem _ b),y⟩⟩;rcases List.mem_cons.1 b with rfl | b
    ·exact j.1 f
    ·exact x z b
   ·rw [if_pos f];exact .no f fun ⟨x,_⟩=>f (j.2 (x _ (List.mem_cons_self ..)))
  ·rw [if_neg (by omega),List.drop_of_length_le (by omega)];by_cases g:u.Kind=4
   ·rw [if_pos g] at d;rw [if_pos g,Ih (by omega),Option.bind_some,Ih (by omega),Option.bind_some];exact d.iff (by simp)
   ·rw [if_neg g] at d;rw [if_neg g,Ih (by omega),Option.bind_some];exact d.iff (by simp)
theorem GG {m:sb}(hm:Ik m):∀ (n i:Nat) (c:Int),i≤m.Ya.length→m.Ya.length - i<n→0≤c∧c≤i→Wj (vo (ue m) m n c (i:Int)) ((∀ u ∈ m.Ya.drop i,Zo m u∧∀ x ∈ u.Code,Ml m u x)∧(c≠0∨∃ u ∈ m.Ya.drop i,u.Kind=4)):=by
 obtain ⟨-,l,d⟩:=hm;intro n
 induction n with
 | zero=>intro i c _ h; omega
 | succ n g =>
  intro i c Pa o hc;unfold vo;by_cases q:i<m.Ya.length
  ·obtain ⟨e,ra,f⟩:=mJ m (d _ (List.getElem_mem q));have j:=(d _ (List.getElem_mem q)).2.2.2.2.2.1;rw [if_pos (by omega),Rj q,Option.bind_some,ra,Option.bind_some,List.drop_eq_getElem_cons q];by_cases b:e=0
   ·rw [if_neg (by omega)];refine (FG (K:=vo (ue m) m n) (by omega) hc j (g (i+1) _ q (by omega) (by split<;>omega)) _ 0 (by omega) (by omega)).iff ?_;rw [List.drop_zero];constructor
    ·rintro ⟨x,y,z⟩;refine ⟨fun u hu=>?_,?_⟩
     ·rcases List.mem_cons.1 hu with rfl | hu
      ·exact ⟨f.1 b,x⟩
      ·exact y u hu
     ·by_cases a:m.Ya[i].Kind=4
      ·exact .inr ⟨_,List.mem_cons_self ..,a⟩
      ·rw [if_neg a] at z;rcases z with z | ⟨u,hu,k⟩
       ·exact .inl z
       ·exact .inr ⟨u,List.mem_cons_of_mem _ hu,k⟩
    ·rintro ⟨x,y⟩;refine ⟨(x _ (List.mem_cons_self ..)).2,fun u hu=>x u (List.mem_cons_of_mem _ hu),?_⟩;by_cases a:m.Ya[i].Kind=4
     ·rw [if_pos a];exact .inl (by omega)
     ·rw [if_neg a];rcases y with y | ⟨u,hu,k⟩
      ·exact .inl y
      ·rcases List.mem_cons.1 hu with rfl | hu
       ·exact absurd k a
       ·exact .inr ⟨u,hu,k⟩
   ·rw [if_pos b];exact .no b fun ⟨x,_⟩=>b (f.2 (x _ (List.mem_cons_self ..)).1)
  ·rw [if_neg (by omega),List.drop_of_length_le (by omega)];by_cases c0:c=0
   ·rw [if_pos c0];exact .no (by decide) (by simp [c0])
   ·rw [if_neg c0];exact ⟨_,rfl,by simp [c0],fun _=>rfl⟩
theorem HG {m:sb}(hm:Ik m):∀ (n i:Nat),i≤m.sc.length→m.sc.length - i<n→Wj (wo (ue m) m n (i:Int)) ((∀ b ∈ m.sc.drop i,Jg b.Ee∧1≤b.cg∧b.cg≤20)∧(∀ u ∈ m.Ya,Zo m u∧∀ i ∈ u.Code,Ml m u i)∧∃ u ∈ m.Ya,u.Kind=4):=by
 have e:=hm.1.1;intro n
 induction n with
 | zero=>intro i _ h; omega
 | succ n d =>
  intro i Pa f;unfold wo;by_cases q:i<m.sc.length
  ·rw [if_pos (by omega),Rj q,Option.bind_some,cx,Option.bind_some,List.drop_eq_getElem_cons q];have bad:¬ (Jg m.sc[i].Ee∧1≤m.sc[i].cg∧m.sc[i].cg≤20)→¬ ((∀ b ∈ m.sc[i]::m.sc.drop (i+1),Jg b.Ee∧1≤b.cg∧b.cg≤20)∧(∀ u ∈ m.Ya,Zo m u∧∀ i ∈ u.Code,Ml m u i)∧∃ u ∈ m.Ya,u.Kind=4):=fun h ⟨g,_⟩=>h (g _ (List.mem_cons_self ..));by_cases c:Jg m.sc[i].Ee
   ·rw [if_pos (by simp [c])];by_cases c1:m.sc[i].cg<1
    ·rw [if_pos c1];exact .no (by decide) (bad (by omega))
    ·rw [if_neg c1];unfold ot;by_cases c2:(20:Int)<m.sc[i].cg
     ·rw [if_pos (by simpa using c2)];exact .no (by decide) (bad (by omega))
     ·rw [if_neg (by simpa using c2),Ih (by omega),Option.bind_some];refine (d (i+1) q (by omega)).iff ⟨fun ⟨x,y⟩=>⟨fun z a=>?_,y⟩,fun ⟨x,y⟩=>⟨fun z a=>x z (List.mem_cons_of_mem _ a),y⟩⟩;rcases List.mem_cons.1 a with rfl | a
      ·exact ⟨c,by omega,by omega⟩
      ·exact x z a
   ·rw [if_neg (by simp [c])];exact .no (by decide) (bad fun h=>c h.1)
  ·rw [if_neg (by omega),List.drop_of_length_le (by omega)];refine (GG hm _ 0 0 (by omega) (by omega) (by omega)).iff ?_;rw [List.drop_zero];simp
theorem WK {m:sb}(hm:Ik m):Wj (eu (ue m)) (Yh m):=by
 unfold eu pt Yh;rw [Option.bind_some];by_cases c1:(30:Int)<(m.sc.length:Int)
 ·rw [if_pos c1,if_pos rfl];exact .no (by decide) fun ⟨h,_⟩=>by omega
 ·rw [if_neg c1];by_cases c2:(30:Int)<(m.Ya.length:Int)
  ·rw [if_pos (by simpa using c2)];exact .no (by decide) fun ⟨h,_⟩=>by omega
  ·rw [if_neg (by simpa using c2),Option.bind_some];refine (HG hm _ 0 (by omega) (by omega)).iff ?_;rw [List.drop_zero];exact ⟨fun h=>⟨by omega,h⟩,fun h=>h.2⟩
end Go.Y
namespace Go.Y
open Go.Ab Go.jc
def Fe (e x:Int):Int:=if e=0 then x else e
theorem Xk (e x:Int):Pj e x=some (Fe e x):=by unfold Pj Fe;split<;>rfl
theorem bp {e x:Int}(h:x≠0):Fe e x≠0:=by unfold Fe;split<;>assumption
abbrev gg:=List Int×Int
def af (s:gg) (t:Int):gg:=(s.1++[t],if 300<s.1.length+1 then Fe s.2 4 else s.2)
def Ac (s:gg):Int×gg:=match s.1.getLast? with
 | none=>(0,s.1,Fe s.2 12)
 | some t=>(t,s.1.dropLast,s.2)
def Se:List Int→gg→gg
 | [],s=>s
 | t::ts,s=>Se ts ((Ac s).2.1,if (Ac s).1≠t then Fe (Ac s).2.2 9 else (Ac s).2.2)
theorem CH (e:Int):Ac ([],e)=(0,[],Fe e 12):=rfl
theorem DH (l:List Int) (t e:Int):Ac (l++[t],e)=(t,l,e):=by unfold Ac;simp
theorem Bk {st:List Int}{er t:Int}(h:st.length≤100000):hj st er t=some (af (st,er) t):=by
 unfold hj af app;rw [if_pos (by simp;omega),Option.bind_some];simp only [List.length_append,List.length_cons,List.length_nil];by_cases c:300<st.length+1
 ·rw [if_pos (by omega),Xk,Option.bind_some,if_pos (by omega)]
 ·rw [if_neg (by omega),if_neg (by omega)]
theorem Bs {st:List Int}{er:Int}(h:st.length≤100000):om st er=some (Ac (st,er)):=by
 rcases List.eq_nil_or_concat st with rfl | ⟨l,t,rfl⟩
 ·unfold om;rw [if_pos (by simp),Xk,Option.bind_some,CH]
 ·rw [List.concat_eq_append] at h ⊢;simp only [List.length_append,List.length_cons,List.length_nil] at h;have ra:at_ (l++[t]) ((l.length:Int))=some t:=by rw [Rj (by simp)];simp
  have a:cut (l++[t]) 0 (l.length:Int)=some l:=by
   unfold cut;rw [if_pos (by simp;omega)];simp
  unfold om;rw [if_neg (by simp;omega),Ih (by simp;omega),Option.bind_some];have b:((l++[t]).length:Int) - 1=(l.length:Int):=by simp
  rw [b,ra,Option.bind_some,Option.bind_some,a,Option.bind_some,DH]
theorem En (s:gg):(Ac s).2.1.length≤s.1.length:=by
 unfold Ac;split
 ·exact Nat.le_refl _
 ·simp
theorem il:∀ (l:List Int) (s:gg),(Se l s).1.length≤s.1.length
 | [],s=>Nat.le_refl _
 | t::ts,s=>Nat.le_trans (il ts _) (En s)
theorem XK {fu:Nat}{l:List Int}:∀ (n k:Nat) (st:List Int) (er:Int),l.length≤100000→st.length≤100000→k≤l.length→k<n→Jp l n ((k:Int) - 1) er st=some (Se (l.take k).reverse (st,er)):=by
 intro n
 induction n with
 | zero=>intro k st er _ _ _ h; omega
 | succ n a =>
  intro k st er b hs f g;unfold Jp;cases k with
  | zero=>rw [if_neg (by omega)]; rfl
  | succ k =>
   have d:=En (st,er);have e:(((k+1:Nat):Int) - 1)=(k:Int):=by omega
   rw [if_pos (by omega),Bs hs,Option.bind_some,e,Rj (by omega),Option.bind_some,← List.take_append_getElem (by omega),List.reverse_append];show _=some (Se (l[k]::(l.take k).reverse) (st,er));rw [Se];by_cases c:(Ac (st,er)).1≠l[k]
   ·rw [if_pos c,Xk,Option.bind_some,Ih (by omega),Option.bind_some,if_pos c];exact a k _ _ b (Nat.le_trans d hs) (by omega) (by omega)
   ·rw [if_neg c,Ih (by omega),Option.bind_some,if_neg c];exact a k _ _ b (Nat.le_trans d hs) (by omega) (by omega)
theorem Rl {fu:Nat}{l:List Int}{st:List Int}{er:Int}(a:l.length≤100000) (b:l.length<fu) (hs:st.length≤100000):jk fu st er l=some (Se l.reverse (st,er)):=by
 unfold jk;rw [Ih (by omega),Option.bind_some,XK (fu:=fu) fu l.length st er a hs (Nat.le_refl _) b,List.take_length]
structure Gg (s:gg):Prop where
 le:s.2=0→s.1.length≤300
 r:∀ t ∈ s.1,Ag t
theorem Gg.push {s:gg}{t:Int}(h:Gg s) (d:Ag t):Gg (af s t):=by
 refine ⟨fun b=>?_,fun x a=>?_⟩
 ·unfold af at b ⊢;simp only [List.length_append,List.length_cons,List.length_nil] at b ⊢;by_cases c:300<s.1.length+1
  ·rw [if_pos c] at b;exact absurd b (bp (by decide))
  ·omega
 ·rcases List.mem_append.1 a with a | a
  ·exact h.r x a
  ·rw [List.mem_singleton.1 a];exact d
theorem Gg.mono {s:gg}{l:List Int}{e:Int}(h:Gg s) (a:l.length≤s.1.length) (hm:∀ t ∈ l,t ∈ s.1) (he:e=0→s.2=0):Gg (l,e):=⟨fun b=>Nat.le_trans a (h.le (he b)),fun t c=>h.r t (hm t c)⟩
theorem EH (s:gg):∀ t ∈ (Ac s).2.1,t ∈ s.1:=by
 unfold Ac;split
 ·exact fun t h=>h
 ·exact fun t h=>(List.dropLast_sublist _).subset h
theorem nJ (s:gg):(Ac s).2.2=0→s.2=0:=by
 unfold Ac;split
 ·exact fun h=>absurd h (bp (by decide))
 ·exact id
theorem AD {s:gg}(h:Gg s):Ag (Ac s).1:=by
 unfold Ac;split
 ·show Ag 0;unfold Ag;omega
 ·rename_i t e;exact h.r t (List.mem_of_getLast? e)
theorem Gg.pop {s:gg}(h:Gg s):Gg (Ac s).2:=h.mono (En s) (EH s) (nJ s)
theorem Gg.er {s:gg}{x:Int}(h:Gg s) (a:x≠0):Gg (s.1,Fe s.2 x):=⟨fun b=>absurd b (bp a),h.r⟩
theorem Gg.want:∀ (l:List Int){s:gg},Gg s→Gg (Se l s)
 | [],s,h=>h
 | t::ts,s,h=>by
  rw [Se];refine Gg.want ts ?_;split
  ·exact h.pop.er (by decide)
  ·exact h.pop
def Fl (l:List Int) (i:Int):Int:=(at_ l i).getD 0
def ca (l:List Bool) (i:Int):Bool:=(at_ l i).getD false
def Mj (m:sb) (i:Int):Xc:=(at_ m.Ya i).getD default
def Gl (m:sb) (i:Int):np:=(at_ m.sc i).getD default
def ai (m:sb) (s:gg):Option Xc×gg :=
 if (Ac s).2.2≠0 then (none,(Ac s).2) else if bk m (Ac s).1=true then (some (Mj m ((Ac s).1 - 10)),(Ac s).2) else (none,((Ac s).2.1,Fe (Ac s).2.2 9))
def Sl (s:gg):gg:=(s.1,if 0<s.1.length then Fe s.2 12 else s.2)
def cp (v:Xc) (s:gg):gg:=Se (v.Gc.take v.Params.toNat).reverse s
def Ad (m:sb) (u:Xc) (i:ud) (s:gg) (hs:List Bool):gg :=
 if i.Op=1 then af s 1
 else if i.Op=2 then af s 2
 else if i.Op=3 then af (s.1,if ca hs i.A=true then s.2 else Fe s.2 11) (Fl u.Gc i.A)
 else if i.Op=4 then Se [Fl u.Gc i.A] s
 else if i.Op=5 then (Ac s).2
 else if i.Op=6 then af (Se [1] s) 1
 else if i.Op=7 then af (Se [2] s) 2
 else if 8≤i.Op∧i.Op≤12 then af (Se [1,1] s) 1
 else if i.Op=13∨i.Op=14 then af (Se [(Ac s).1] ((Ac s).2.1,if (Ac s).1≠1∧(Ac s).1≠2 then Fe (Ac s).2.2 9 else (Ac s).2.2)) 2
 else if 15≤i.Op∧i.Op≤18 then af (Se [1,1] s) 2
 else if i.Op=19∨i.Op=20 then af (Se [2,2] s) 2
 else if i.Op=21 then s
 else if i.Op=22 then Se [2] s
 else if i.Op=23 then af (cp (Mj m i.A) s) (Mj m i.A).Result
 else if i.Op=24 then Sl (Se [u.Result] (s.1,if u.Kind≠2 then Fe s.2 8 else s.2))
 else if i.Op=25 then Sl (s.1,if u.Kind=2 then Fe s.2 8 else s.2)
 else if i.Op=26 then Se [(Gl m i.A).Ee] s
 else if i.Op=27 then af s (Gl m i.A).Ee
 else if i.Op=28 then ((Ac s).2.1,if (Ac s).2.2=0∧¬ Jg (Ac s).1 then Fe (Ac s).2.2 9 else (Ac s).2.2)
 else if i.Op=29 then af (cp (Mj m i.A) s) (10+i.A)
 else if i.Op=30 then match ai m (Ac s).2 with
  | (some x,a)=>af (a.1,if (Ac s).1≠x.je then Fe a.2 9 else a.2) x.Result
  | (none,a)=>a
 else if i.Op=31 then af (Se [u.Result] (s.1,if u.Kind≠3 then Fe s.2 8 else s.2)) u.je
 else if i.Op=32 then af (ai m s).2 2
 else s
def Ai (i:ud) (hs:List Bool):List Bool:=if i.Op=4 then hs.set i.A.toNat true else hs
def follows (i:ud):Prop:=i.Op≠21∧i.Op≠24∧i.Op≠25
instance (i:ud):Decidable (follows i):=by unfold follows;infer_instance
theorem Nr {m:sb}{p k:Int}(h:rl m p k=true):at_ m.Ya p=some (Mj m p)∧Mj m p ∈ m.Ya∧(Mj m p).Kind=k∧0≤p∧p<m.Ya.length:=by
 unfold rl at h;cases a:at_ m.Ya p with
 | none=>rw [a] at h; cases h
 | some x =>
  rw [a] at h;have:Mj m p=x:=by unfold Mj;rw [a];rfl
  obtain ⟨b,c,d⟩:=at_mem a;rw [this];exact ⟨rfl,b,by simpa using h,c,d⟩
theorem IG {m:sb}{t:Int}(h:bk m t=true):10≤t∧rl m (t - 10) 3=true:=by
 unfold bk at h;simpa using h
theorem BD {fu:Nat}{m:sb}{p k:Int}{st:List Int}{er:Int}(a:Yh m) (h:rl m p k=true) (d:1000≤fu) (hs:st.length≤100000):Ir fu (ue m) st er p=some (Mj m p,cp (Mj m p) (st,er)):=by
 obtain ⟨b,c,-⟩:=Nr h;obtain ⟨-,⟨g1,g2,g3,g4,-⟩,-⟩:=(a.2.2.1 _ c).1;unfold Ir cp;have e:cut (Mj m p).Gc 0 (Mj m p).Params=some ((Mj m p).Gc.take (Mj m p).Params.toNat):=by
  unfold cut;rw [if_pos (by omega)];simp
 rw [Option.bind_some,b,Option.bind_some,e,Option.bind_some,Rl (by simp;omega) (by simp;omega) hs,Option.bind_some]
theorem cE {m:sb}{st:List Int}{er:Int}(hs:st.length≤100000) (b:Gg (st,er)):Vr (ue m) st er=some (ai m (st,er)):=by
 unfold Vr ai;rw [Bs hs,Option.bind_some];by_cases c:(Ac (st,er)).2.2≠0
 ·rw [if_pos c,if_pos c]
 ·rw [if_neg c,if_neg c,wC m (AD b),Option.bind_some];by_cases a:bk m (Ac (st,er)).1=true
  ·obtain ⟨e,d⟩:=IG a;have:=(AD b).2;rw [if_pos a,if_pos a,Option.bind_some,Ih (by omega),Option.bind_some,(Nr d).1,Option.bind_some]
  ·rw [if_neg a,if_neg a,Xk,Option.bind_some]
theorem CD (st:List Int) (er:Int):Jr st er=some (false,Sl (st,er)):=by
 unfold Jr vt Sl;by_cases c:0<st.length
 ·rw [if_pos (by omega),Xk,Option.bind_some,if_pos c]
 ·rw [if_neg (by omega),if_neg c]
section
variable {fu:Nat}{m:sb}{u:Xc}{i:ud}{a:List (Int×qd)}{td st:List Int}{hs:List Bool}{er:Int}
theorem JG (j:Yh m) (Pa:Ml m u i) (w:st.length≤1000) (p:Gg (st,er)) (hm:Ik m) (r:1000≤fu) (y:22<i.Op) :
  xt fu (ue m) u a td st hs er i=some (decide (follows i),a,td,(Ad m u i (st,er) hs).1,hs,(Ad m u i (st,er) hs).2):=by
 obtain ⟨⟨-,i32⟩,-,-,-,t,s,d⟩:=Pa;have b:∀ l:List Int,l.length≤st.length→l.length≤100000:=fun l h=>by omega
 have v:i.Op=23∨i.Op=24∨i.Op=25∨i.Op=26∨i.Op=27∨i.Op=28∨i.Op=29∨i.Op=30∨i.Op=31∨i.Op=32:=by omega
 unfold xt Xj Ad;rcases v with h | h | h | h | h | h | h | h | h | h
 ·rw [if_pos h,BD j (t h) r (by omega),Option.bind_some,Bk (b _ (il _ _)),Option.bind_some];simp [h,follows]
 ·have e:∀ ra,Aq fu u a td st hs ra=some (false,a,td,(Sl (Se [u.Result] (st,ra))).1,hs,(Sl (Se [u.Result] (st,ra))).2):=fun ra=>by
   unfold Aq;rw [Rl (by simp) (by simp;omega) (by omega),Option.bind_some,CD,Option.bind_some];rfl
  rw [if_neg (by omega),if_neg (by omega),if_pos h];simp only [e,Xk,Option.bind_some];by_cases k:u.Kind=2<;>simp [h,k,follows]
 ·have e:∀ ra,Bq a td st hs ra=some (false,a,td,(Sl (st,ra)).1,hs,(Sl (st,ra)).2):=fun ra=>by
   unfold Bq;rw [CD,Option.bind_some]
  rw [if_neg (by omega),if_neg (by omega),if_neg (by omega),if_pos h];simp only [e,Xk,Option.bind_some];by_cases k:u.Kind=2<;>simp [h,k,follows]
 ·obtain ⟨x,c,-⟩:=en (l:=m.sc) (d (.inl h)).1 (d (.inl h)).2;have e:(Gl m i.A)=x:=by unfold Gl;rw [c];rfl
  rw [if_neg (by omega),if_neg (by omega),if_neg (by omega),if_neg (by omega),if_pos h,Option.bind_some,c,Option.bind_some,Rl (by simp) (by simp;omega) (by omega),Option.bind_some];simp [h,e,follows]
 ·obtain ⟨x,c,-⟩:=en (l:=m.sc) (d (.inr h)).1 (d (.inr h)).2;have e:(Gl m i.A)=x:=by unfold Gl;rw [c];rfl
  rw [if_neg (by omega),if_neg (by omega),if_neg (by omega),if_neg (by omega),if_neg (by omega),if_pos h,Option.bind_some,c,Option.bind_some,Bk (by omega),Option.bind_some];simp [h,e,follows]
 ·have e:∀ V,Cq a td hs (Ac (st,er)) V=some (true,a,td,(Ac (st,er)).2.1,hs,if V=true then Fe (Ac (st,er)).2.2 9 else (Ac (st,er)).2.2):=fun V=>by
   unfold Cq Xj;cases V with
   | true=>rw [if_pos rfl,Xk,Option.bind_some,if_pos rfl]
   | false=>rw [if_neg (by decide),if_neg (by decide)]
  rw [if_neg (by omega),if_neg (by omega),if_neg (by omega),if_neg (by omega),if_neg (by omega),if_neg (by omega),if_pos h,Bs (by omega),Option.bind_some];simp only [e,cx,Option.bind_some];by_cases k:(Ac (st,er)).2.2=0
  ·by_cases k1:Jg (Ac (st,er)).1<;>simp [h,k,k1,follows]
  ·simp [h,k,follows]
 ·obtain ⟨-,-,-,g4,g5⟩:=Nr (s h);have z:=j.1.2;rw [if_neg (by omega),if_pos h,BD j (s h) r (by omega),Option.bind_some,Ih (by omega),Option.bind_some,Bk (b _ (il _ _)),Option.bind_some];simp [h,follows]
 ·have f:=En (st,er);rw [if_neg (by omega),if_neg (by omega),if_neg (by omega),if_neg (by omega),if_neg (by omega),if_neg (by omega),if_neg (by omega),if_pos h,Bs (by omega),Option.bind_some,cE (b _ f) p.pop,Option.bind_some];simp only [h];have g:(ai m (Ac (st,er)).2).2.1.length≤st.length:=by
   have:=En (Ac (st,er)).2;unfold ai;split
   ·exact Nat.le_trans this f
   ·split
    ·exact Nat.le_trans this f
    ·exact Nat.le_trans this f
  generalize B:ai m (Ac (st,er)).2=q at g;obtain ⟨o,n⟩:=q;cases o with
  | none=>simp [follows,h]
  | some x =>
   have e:∀ ra,Dq a td hs (some x,n) x ra=some (true,a,td,(af (n.1,ra) x.Result).1,hs,(af (n.1,ra) x.Result).2):=fun ra=>by
    unfold Dq Xj;rw [Bk (b _ g),Option.bind_some]
   simp only [Option.isSome_some,if_true,Option.bind_some,Xk,e];by_cases k:(Ac (st,er)).1=x.je<;>simp [k,h,follows]
 ·have e:∀ ra,Fq fu u a td st hs ra=some (true,a,td,(af (Se [u.Result] (st,ra)) u.je).1,hs,(af (Se [u.Result] (st,ra)) u.je).2):=fun ra=>by
   unfold Fq Xj;rw [Rl (by simp) (by simp;omega) (by omega),Option.bind_some];show (hj (Se [u.Result] (st,ra)).1 (Se [u.Result] (st,ra)).2 u.je).bind _=_;rw [Bk (b _ (il _ _)),Option.bind_some]
  rw [if_neg (by omega),if_neg (by omega),if_neg (by omega),if_neg (by omega),if_neg (by omega),if_neg (by omega),if_neg (by omega),if_neg (by omega),if_pos h];simp only [e,Xk,Option.bind_some];by_cases k:u.Kind=3<;>simp [h,k,follows]
 ·have g:(ai m (st,er)).2.1.length≤st.length:=by
   have:=En (st,er);unfold ai;split
   ·exact this
   ·split
    ·exact this
    ·exact this
  rw [if_neg (by omega),if_neg (by omega),if_neg (by omega),if_neg (by omega),if_neg (by omega),if_neg (by omega),if_neg (by omega),if_neg (by omega),if_neg (by omega),if_pos h,cE (by omega) p,Option.bind_some,Bk (b _ g),Option.bind_some];simp [h,follows]
theorem YK (q:Yh m) (Pa:Ml m u i) (r:st.length≤1000) (s:Gg (st,er)) (hm:Ik m) (t:1000≤fu) (o:hs.length=u.Gc.length) (Ce:i.Op≠21) (H:i.Op≠22) :
  mm fu (ue m) u a td st hs er i=some (decide (follows i),a,td,(Ad m u i (st,er) hs).1,Ai i hs,(Ad m u i (st,er) hs).2):=by
 by_cases v:22<i.Op
 ·have e:=JG (fu:=fu) (a:=a) (td:=td) (hs:=hs) q Pa r s hm t v;unfold mm km Qk An Il;have k:∀ b:Bool,(if (b=true) then (true:Bool) else true)=true:=by decide
  rw [if_neg (by omega),if_neg (by omega),if_neg (by omega),if_neg (by omega),if_neg (by omega),if_neg (by omega),if_neg (by omega),if_pos (by omega),if_neg (by simp;omega),if_neg (by omega),if_neg (by simp;omega),if_pos (by omega),if_neg (by simp;omega),if_neg (by omega),if_neg (by simp;omega),if_neg (by omega),if_neg (by omega),e,Option.bind_some];have:Ai i hs=hs:=if_neg (by omega);rw [this]
 ·obtain ⟨⟨i1,-⟩,-,c,-⟩:=Pa;have d:∀ l:List Int,l.length≤st.length→l.length≤100000:=fun l h=>by omega
  have w:i.Op=1∨i.Op=2∨i.Op=3∨i.Op=4∨i.Op=5∨i.Op=6∨i.Op=7∨(8≤i.Op∧i.Op≤12)∨(i.Op=13∨i.Op=14)∨(15≤i.Op∧i.Op≤18)∨(i.Op=19∨i.Op=20):=by omega
  unfold mm ej Ad Ai;rcases w with h | h | h | h | h | h | h | h | h | h | h
  ·rw [if_pos h,Bk (by omega),Option.bind_some];simp [h,follows]
  ·rw [if_neg (by omega),if_pos h,Bk (by omega),Option.bind_some];simp [h,follows]
  ·obtain ⟨x,f,-⟩:=en (l:=u.Gc) (c (.inl h)).1 (c (.inl h)).2;obtain ⟨y,g,-⟩:=en (l:=hs) (c (.inl h)).1 (by rw [o];exact (c (.inl h)).2);have e:∀ ra,Yq i u a td st hs ra=some (true,a,td,(af (st,ra) x).1,hs,(af (st,ra) x).2):=fun ra=>by
    unfold Yq ej;rw [f,Option.bind_some,Bk (by omega),Option.bind_some]
   have j:Fl u.Gc i.A=x:=by unfold Fl;rw [f];rfl
   have z:ca hs i.A=y:=by unfold ca;rw [g];rfl
   rw [if_neg (by omega),if_neg (by omega),if_pos h,g,Option.bind_some];simp only [e,Xk,Option.bind_some,j,z];cases y<;>simp [h,follows]
  ·obtain ⟨x,f,-⟩:=en (l:=u.Gc) (c (.inr h)).1 (c (.inr h)).2;obtain ⟨y,g,-⟩:=en (l:=hs) (c (.inr h)).1 (by rw [o];exact (c (.inr h)).2);have j:Fl u.Gc i.A=x:=by unfold Fl;rw [f];rfl
   rw [if_neg (by omega),if_neg (by omega),if_neg (by omega),if_pos h,f,Option.bind_some,Rl (by simp) (by simp;omega) (by omega),Option.bind_some,g,Option.bind_some];simp [h,j,follows]
  ·rw [if_neg (by omega),if_neg (by omega),if_neg (by omega),if_neg (by omega),if_pos h,Bs (by omega),Option.bind_some];simp [h,follows]
  ·rw [if_neg (by omega),if_neg (by omega),if_neg (by omega),if_neg (by omega),if_neg (by omega),if_pos h,Rl (by simp) (by simp;omega) (by omega),Option.bind_some,Bk (d _ (il _ _)),Option.bind_some];simp [h,follows]
  ·rw [if_neg (by omega),if_neg (by omega),if_neg (by omega),if_neg (by omega),if_neg (by omega),if_neg (by omega),if_pos h,Rl (by simp) (by simp;omega) (by omega),Option.bind_some,Bk (d _ (il _ _)),Option.bind_some];simp [h,follows]
  ·unfold km ej;rw [if_neg (by omega),if_neg (by omega),if_neg (by omega),if_neg (by omega),if_neg (by omega),if_neg (by omega),if_neg (by omega),if_pos (by omega),if_pos (by simp;omega),Rl (by simp) (by simp;omega) (by omega),Option.bind_some,Bk (d _ (il _ _)),Option.bind_some];rw [if_neg (by omega),if_neg (by omega),if_neg (by omega),if_neg (by omega),if_neg (by omega),if_neg (by omega),if_neg (by omega),if_pos h,if_neg (by omega),decide_eq_true (show follows i by unfold follows;omega)];rfl
  ·have B:∀ ra,Kp fu a td hs (Ac (st,er)) ra=some (true,a,td,(af (Se [(Ac (st,er)).1] ((Ac (st,er)).2.1,ra)) 2).1,hs,(af (Se [(Ac (st,er)).1] ((Ac (st,er)).2.1,ra)) 2).2):=fun ra=>by
    unfold Kp ej;have p:=En (st,er);rw [Rl (by simp) (by simp;omega) (d _ p),Option.bind_some];show (hj (Se [(Ac (st,er)).1] ((Ac (st,er)).2.1,ra)).1 (Se [(Ac (st,er)).1] ((Ac (st,er)).2.1,ra)).2 2).bind _=_;rw [Bk (d _ (Nat.le_trans (il [(Ac (st,er)).1] ((Ac (st,er)).2.1,ra)) p)),Option.bind_some]
   have C:∀ V,Zq fu a td hs (Ac (st,er)) V=Kp fu a td hs (Ac (st,er)) (if V=true then Fe (Ac (st,er)).2.2 9 else (Ac (st,er)).2.2):=fun V=>by
    unfold Zq;cases V with
    | true=>rw [if_pos rfl,Xk,Option.bind_some,if_pos rfl]
    | false=>rw [if_neg (by decide),if_neg (by decide)]
   have D:Qk fu (ue m) i u a td st hs er true=some (true,a,td,(af (Se [(Ac (st,er)).1] ((Ac (st,er)).2.1,if (Ac (st,er)).1≠1∧(Ac (st,er)).1≠2 then Fe (Ac (st,er)).2.2 9 else (Ac (st,er)).2.2)) 2).1,hs,(af (Se [(Ac (st,er)).1] ((Ac (st,er)).2.1,if (Ac (st,er)).1≠1∧(Ac (st,er)).1≠2 then Fe (Ac (st,er)).2.2 9 else (Ac (st,er)).2.2)) 2).2):=by
    unfold Qk;rw [if_pos rfl,Bs (by omega),Option.bind_some];simp only [C,B];by_cases k1:(Ac (st,er)).1=1<;>by_cases F:(Ac (st,er)).1=2<;>simp [k1,F]
   unfold km;rw [if_neg (by omega),if_neg (by omega),if_neg (by omega),if_neg (by omega),if_neg (by omega),if_neg (by omega),if_neg (by omega),if_pos (by omega),if_neg (by simp;omega)];have n:(if i.Op=13 then Qk fu (ue m) i u a td st hs er true else Qk fu (ue m) i u a td st hs er (decide (i.Op=14)))=Qk fu (ue m) i u a td st hs er true:=by
    rcases h with h | h
    ·rw [if_pos h]
    ·rw [if_neg (by omega),decide_eq_true h]
   rw [n,D,if_neg (show ¬ i.Op=1 by omega),if_neg (show ¬ i.Op=2 by omega),if_neg (show ¬ i.Op=3 by omega),if_neg (show ¬ i.Op=4 by omega),if_neg (show ¬ i.Op=5 by omega),if_neg (show ¬ i.Op=6 by omega),if_neg (show ¬ i.Op=7 by omega),if_neg (show ¬ (8≤i.Op∧i.Op≤12) by omega),if_pos h,if_neg (show ¬ i.Op=4 by omega),decide_eq_true (show follows i by unfold follows;omega)]
  ·unfold km Qk An ej;rw [if_neg (by omega),if_neg (by omega),if_neg (by omega),if_neg (by omega),if_neg (by omega),if_neg (by omega),if_neg (by omega),if_pos (by omega),if_neg (by simp;omega),if_neg (by omega),if_neg (by simp;omega),if_pos (by omega),if_pos (by simp;omega),Rl (by simp) (by simp;omega) (by omega),Option.bind_some,Bk (d _ (il _ _)),Option.bind_some];rw [if_neg (by omega),if_neg (by omega),if_neg (by omega),if_neg (by omega),if_neg (by omega),if_neg (by omega),if_neg (by omega),if_neg (by omega),if_neg (by omega),if_pos h,if_neg (by omega),decide_eq_true (show follows i by unfold follows;omega)];rfl
  ·have G:Il fu (ue m) i u a td st hs er true=some (true,a,td,(af (Se [2,2] (st,er)) 2).1,hs,(af (Se [2,2] (st,er)) 2).2):=by
    unfold Il ej;rw [if_pos rfl,Rl (by simp) (by simp;omega) (by omega),Option.bind_some,Bk (d _ (il _ _)),Option.bind_some];rfl
   unfold km Qk An;rw [if_neg (by omega),if_neg (by omega),if_neg (by omega),if_neg (by omega),if_neg (by omega),if_neg (by omega),if_neg (by omega),if_pos (by omega),if_neg (by simp;omega),if_neg (by omega),if_neg (by simp;omega),if_pos (by omega),if_neg (by simp;omega)];have n:(if i.Op=19 then Il fu (ue m) i u a td st hs er true else Il fu (ue m) i u a td st hs er (decide (i.Op=20)))=Il fu (ue m) i u a td st hs er true:=by
    rcases h with h | h
    ·rw [if_pos h]
    ·rw [if_neg (by omega),decide_eq_true h]
   rw [n,G];rw [if_neg (by omega),if_neg (by omega),if_neg (by omega),if_neg (by omega),if_neg (by omega),if_neg (by omega),if_neg (by omega),if_neg (by omega),if_neg (by omega),if_neg (by omega),if_pos h,if_neg (by omega),decide_eq_true (show follows i by unfold follows;omega)]
theorem oJ (h:i.Op=21):mm fu (ue m) u a td st hs er i=(ql (ue m) u a td st hs er i.A).bind fun r=>some (false,r):=by
 unfold mm km Qk An Il;rw [if_neg (by omega),if_neg (by omega),if_neg (by omega),if_neg (by omega),if_neg (by omega),if_neg (by omega),if_neg (by omega),if_pos (by omega),if_neg (by simp;omega),if_neg (by omega),if_neg (by simp;omega),if_pos (by omega),if_neg (by simp;omega),if_neg (by omega),if_neg (by simp;omega),if_pos (by omega)]
theorem pJ (b:st.length≤1000) (c:1000≤fu) (h:i.Op=22):mm fu (ue m) u a td st hs er i=(ql (ue m) u a td (Se [2] (st,er)).1 hs (Se [2] (st,er)).2 i.A).bind fun r=>some (true,r):=by
 unfold mm km Qk An Il ej;rw [if_neg (by omega),if_neg (by omega),if_neg (by omega),if_neg (by omega),if_neg (by omega),if_neg (by omega),if_neg (by omega),if_pos (by omega),if_neg (by simp;omega),if_neg (by omega),if_neg (by simp;omega),if_pos (by omega),if_neg (by simp;omega),if_neg (by omega),if_neg (by simp;omega),if_neg (by omega),if_pos h,Rl (by simp) (by simp;omega) (by omega),Option.bind_some];rfl
end
end Go.Y
namespace Go.Y
open Go.Ab Go.jc
theorem Gr {β:Type}:∀ (m:List (Int×β)) (k q:Int) (x:β),zc (Gd m k x) q=if q=k then some x else zc m q
 | [],k,q,x=>by
  unfold Gd zc zc;by_cases h:q=k
  ·rw [if_pos h.symm,if_pos h]
  ·rw [if_neg (fun e=>h e.symm),if_neg h]
 | (a,b)::m,k,q,x=>by
  unfold Gd;by_cases h:a=k
  ·rw [if_pos h];unfold zc;by_cases c:q=k
   ·rw [if_pos c.symm,if_pos c]
   ·rw [if_neg (fun e=>c e.symm),if_neg c,if_neg (by omega)]
  ·rw [if_neg h];unfold zc;by_cases c:q=k
   ·rw [if_neg (by omega),Gr m k q x,if_pos c,if_pos c]
   ·by_cases d:a=q
    ·rw [if_pos d,if_neg c,if_pos d]
    ·rw [if_neg d,if_neg c,if_neg d,Gr m k q x,if_neg c]
abbrev kj:=List (Int×qd)
def jg (a b:List Bool):Prop:=a.length=b.length∧∀ j:Nat,a[j]?=some true→b[j]?=some true
theorem jg.Yu (a:List Bool):jg a a:=⟨rfl,fun _ h=>h⟩
theorem jg.Dm {a b c:List Bool}(h:jg a b) (g:jg b c):jg a c:=⟨h.1.trans g.1,fun j e=>g.2 j (h.2 j e)⟩
def meet (a b:List Bool):List Bool:=List.zipWith (· && ·) a b
theorem Jw {a b:List Bool}(h:a.length=b.length):(meet a b).length=a.length:=by unfold meet;simp [h]
theorem xz (a b:List Bool) (j:Nat):(meet a b)[j]?=some true ↔ a[j]?=some true∧b[j]?=some true:=by
 unfold meet;rw [List.getElem?_zipWith];cases a[j]? with
 | none=>simp
 | some x=>cases b[j]? with
  | none=>simp
  | some y=>simp
theorem ZK {a b:List Bool}(h:a.length=b.length):jg (meet a b) a:=⟨Jw h,fun j e=>((xz a b j).1 e).1⟩
theorem aL {a b:List Bool}(h:a.length=b.length):jg (meet a b) b:=⟨(Jw h).trans h,fun j e=>((xz a b j).1 e).2⟩
theorem bL {a b c:List Bool}(h:jg c a) (g:jg c b):jg c (meet a b):=⟨by rw [Jw (h.1.symm.trans g.1)];exact h.1,fun j e=>(xz a b j).2 ⟨h.2 j e,g.2 j e⟩⟩
def Xm (h:List Bool):Nat:=h.count true
theorem FH (h:List Bool):Xm h≤h.length:=List.count_le_length
theorem ZC:∀ (a b:List Bool),a.length=b.length→Xm (meet a b)≤Xm a∧(meet a b≠a→Xm (meet a b)<Xm a)
 | [],b,h=>⟨Nat.le_refl _,fun g=>absurd rfl g⟩
 | x::a,[],h=>by simp at h
 | x::a,y::b,h=>by
  obtain ⟨d,c⟩:=ZC a b (by simpa using h);have e:meet (x::a) (y::b)=(x && y)::meet a b:=rfl;rw [e];unfold Xm at *;simp only [List.count_cons];cases x<;>cases y<;>simp at c ⊢<;>refine ⟨by omega,?_⟩
  ·exact c
  ·exact c
  ·omega
  ·intro g;exact c g
def Jk (a:kj) (q:Int):Nat:=match zc a q with
 | none=>201
 | some x=>Xm x.has
def yk (C:Nat) (a:kj) (td:List Int):Nat:=td.length+((List.range C).map fun q:Nat=>Jk a (q:Int)).sum
theorem MB {f g:Nat→Nat}:∀ (C:Nat),(∀ q,q<C→f q=g q)→((List.range C).map f).sum=((List.range C).map g).sum
 | 0,h=>rfl
 | C+1,h=>by
  rw [List.range_succ,List.map_append,List.map_append,List.sum_append,List.sum_append,MB C fun q a=>h q (by omega)];simp [h C (by omega)]
theorem Kz {f g:Nat→Nat}{p:Nat}:∀ (C:Nat),p<C→(∀ q,q≠p→f q=g q)→((List.range C).map f).sum+g p=((List.range C).map g).sum+f p
 | 0,h,_=>by omega
 | C+1,h,e=>by
  rw [List.range_succ,List.map_append,List.map_append,List.sum_append,List.sum_append];simp only [List.map_cons,List.map_nil,List.sum_cons,List.sum_nil];by_cases a:p=C
  ·subst a;rw [MB p fun q b=>e q (by omega)];omega
  ·have:=Kz C (by omega) e;have:=e C (fun h=>a h.symm);omega
def kp (C L:Nat) (a:kj):Prop:=∀ p x,zc a p=some x→(0≤p∧p<C)∧x.has.length=L∧Gg (x.stack,0)
def Fits (a:kj) (p:Int) (st:List Int) (hs:List Bool):Prop:=∃ y,zc a p=some y∧y.stack=st∧jg y.has hs
structure uq (C L:Nat) (st:List Int) (hs:List Bool) (p:Int) (a:kj) (td:List Int) (er:Int) (d:kj) (e:List Int) (c:Int):Prop where
 ok:kp C L d
 w:yk C d e≤yk C a td
 keep:er≠0→c=er
 pE:er=0→p<C→(∀ x,zc a p=some x→x.stack=st)→c=0
 fits:c=0→er=0∧Fits d p st hs
 mono:c=0→∀ q x,zc a q=some x→∃ b,zc d q=some b∧b.stack=x.stack∧jg b.has x.has∧(b=x∨q ∈ e)
 new:c=0→∀ q b,zc d q=some b→q ∈ e∨zc a q=some b
 todo:c=0→(∀ q ∈ e,q ∈ td∨q=p)∧∀ q ∈ td,q ∈ e
 VM:c=0→∀ h,jg h hs→(∀ x,zc a p=some x→jg h x.has)→∀ b,zc d p=some b→jg h b.has
 WM:c=0→∀ q,q≠p→zc d q=zc a q
theorem uq.same {C L:Nat}{st:List Int}{hs:List Bool}{p:Int}{a:kj}{td:List Int}{er c:Int}(ok:kp C L a) (h:c≠0) (k:er≠0→c=er) (g:er=0→¬ (p<C∧∀ x,zc a p=some x→x.stack=st)):uq C L st hs p a td er a td c :=
 ⟨ok,Nat.le_refl _,k,fun b d e=>absurd ⟨d,e⟩ (g b),fun b=>absurd b h,fun b=>absurd b h,fun b=>absurd b h,fun b=>absurd b h,fun b=>absurd b h,fun b=>absurd b h⟩
theorem qJ (a b:List Int) (j:a.length≤100000):Ot a b=some (decide (a=b)):=by
 have key:∀ (n i:Nat),a.length=b.length→i≤a.length→a.length - i<n→Nq a b n (i:Int)=some (decide (a.drop i=b.drop i)):=by
  intro n
  induction n with
  | zero=>intro i _ _ h; omega
  | succ n d =>
   intro i f Pa k;unfold Nq;by_cases c:i<a.length
   ·rw [if_pos (by omega),Rj c,Option.bind_some,Rj (by omega),Option.bind_some,List.drop_eq_getElem_cons c,List.drop_eq_getElem_cons (by omega:i<b.length)];by_cases e:a[i]=b[i]
    ·rw [if_neg (fun g=>g e),Ih (by omega),Option.bind_some];have:=d (i+1) f c (by omega);rw [show ((i:Int)+1)=((i+1:Nat):Int) by omega,this];simp only [e,List.cons.injEq,true_and]
    ·rw [if_pos e];congr 1;exact (decide_eq_false fun g=>e (List.cons.inj g).1).symm
   ·rw [if_neg (by omega),List.drop_of_length_le (by omega),List.drop_of_length_le (by omega)];simp
 unfold Ot;by_cases h:a.length=b.length
 ·rw [if_neg (by omega)];have:=key (a.length+1) 0 h (by omega) (by omega);simpa using this
 ·rw [if_pos (by omega)];congr 1;exact (decide_eq_false fun e=>h (by rw [e])).symm
theorem rJ {p:Int}{a:kj}{td st:List Int}{hs:List Bool}{er:Int}{x:qd}(r:td.length≤3000000000):∀ (n i:Nat) (b:Bool) (l:List Bool),l.length=x.has.length→hs.length=x.has.length→x.has.length≤1000000→i≤l.length→l.length - i<n →
  Cn p a td st hs er x n b (i:Int) l=some (Gd a p ⟨x.stack,l.take i++meet (l.drop i) (hs.drop i)⟩,if b=true∨meet (l.drop i) (hs.drop i)≠l.drop i then td++[p] else td,st,hs,er):=by
 intro n
 induction n with
 | zero=>intro i b l _ _ _ _ h; omega
 | succ n e =>
  intro i b l f g j s t;unfold Cn;by_cases c:i<l.length
  ·have k:i<hs.length:=by omega
   rw [if_pos (by omega),Rj c,Option.bind_some,List.drop_eq_getElem_cons c,List.drop_eq_getElem_cons k];have em:∀ x y (u v:List Bool),meet (x::u) (y::v)=(x && y)::meet u v:=fun _ _ _ _=>rfl;have m:((i:Int)+1)=((i+1:Nat):Int):=by omega
   have stay:∀ (o:(l[i] && hs[i])=l[i]),Tp b (i:Int) l (Cn p a td st hs er x n) false=some (Gd a p ⟨x.stack,l.take i++meet (l[i]::l.drop (i+1)) (hs[i]::hs.drop (i+1))⟩,if b=true∨meet (l[i]::l.drop (i+1)) (hs[i]::hs.drop (i+1))≠l[i]::l.drop (i+1) then td++[p] else td,st,hs,er):=fun o=>by
    unfold Tp;rw [if_neg (by decide),Ih (by omega),Option.bind_some,m,e (i+1) b l f g j c (by omega),em,o];have ra:l.take (i+1)++meet (l.drop (i+1)) (hs.drop (i+1))=l.take i++l[i]::meet (l.drop (i+1)) (hs.drop (i+1)):=by
     rw [← List.take_append_getElem c,List.append_assoc];rfl
    rw [ra];simp only [ne_eq,List.cons.injEq,true_and]
   cases d:l[i] with
   | false =>
    rw [if_neg (by decide)];have:=stay (by rw [d];rfl);rw [d] at this;exact this
   | true =>
    rw [if_pos rfl,Rj k,Option.bind_some];cases q:hs[i] with
    | true =>
     have:=stay (by rw [d,q];rfl);rw [d,q] at this;exact this
    | false =>
     unfold Tp;rw [if_pos (by decide),Rj c,Option.bind_some,Ih (by omega),Option.bind_some,m,Int.toNat_natCast,e (i+1) true (l.set i false) (by simpa using f) g j (by simp;omega) (by simp;omega)];have ra:(l.set i false).take (i+1)++meet ((l.set i false).drop (i+1)) (hs.drop (i+1))=l.take i++meet (true::l.drop (i+1)) (false::hs.drop (i+1)):=by
      rw [em,← List.take_append_getElem (by simpa using c),List.append_assoc,List.take_set_of_le (by omega)];simp [List.drop_set]
     rw [ra];simp [em]
  ·rw [if_neg (by omega),List.drop_of_length_le (by omega),List.drop_of_length_le (by omega),List.take_of_length_le (by omega)];have ra:meet ([]:List Bool) []=[]:=rfl;rw [ra,List.append_nil];cases b with
   | true =>
    unfold app;rw [if_pos rfl,if_pos (by simp;omega),Option.bind_some];simp
   | false=>simp
section
variable {m:sb}{u:Xc}{a:kj}{td st:List Int}{hs:List Bool}{er p:Int}{L:Nat}
theorem Qu (R:u.Code.length≤4000) (B:hs.length=L) (S:L≤200) (n:kp u.Code.length L a) (C:0≤p∧p≤u.Code.length) (D:Gg (st,er)) (T:st.length≤1000) (F:yk u.Code.length a td≤3000000000) :
  ∃ t v w,ql (ue m) u a td st hs er p=some (t,v,st,hs,w)∧uq u.Code.length L st hs p a td er t v w:=by
 have G:td.length≤3000000000:=by unfold yk at F;omega
 unfold ql;by_cases c0:er≠0
 ·rw [if_pos c0];exact ⟨_,_,_,rfl,.same n c0 (fun _=>rfl) fun h=>absurd h c0⟩
 rw [if_neg c0];have c0:er=0:=by omega
 subst c0;by_cases c1:p=(u.Code.length:Int)
 ·rw [if_pos c1,Xk,Option.bind_some];exact ⟨_,_,_,rfl,.same n (bp (by decide)) (fun h=>absurd rfl h) fun _ ⟨h,_⟩=>by omega⟩
 rw [if_neg c1];obtain ⟨b,rfl⟩:=Int.eq_ofNat_of_zero_le C.1;have H:b<u.Code.length:=by omega
 have z:∀ (x:qd),((List.range u.Code.length).map fun q:Nat=>Jk (Gd a (b:Int) x) (q:Int)).sum+Jk a (b:Int)=((List.range u.Code.length).map fun q:Nat=>Jk a (q:Int)).sum+Xm x.has:=fun x=>by
  have:=Kz (f:=fun q:Nat=>Jk (Gd a (b:Int) x) (q:Int)) (g:=fun q:Nat=>Jk a (q:Int)) (p:=b) u.Code.length H (fun q j=>by unfold Jk;rw [Gr,if_neg (by omega)]);have e:Jk (Gd a (b:Int) x) (b:Int)=Xm x.has:=by unfold Jk;rw [Gr,if_pos rfl]
  simp only [e] at this;exact this
 cases k:zc a (b:Int) with
 | none =>
  rw [if_neg (by decide)];have K:qt ⟨st,hs⟩=some ⟨st,hs⟩:=by
   unfold qt iv small;rw [if_pos (show st.length≤65536 by omega),Option.bind_some,if_pos (show hs.length≤65536 by omega),Option.bind_some]
  rw [K,Option.bind_some];unfold yw app;rw [if_pos (by simp;omega),Option.bind_some];refine ⟨_,_,_,rfl,?_⟩;have d:∀ q,zc (Gd a (b:Int) ⟨st,hs⟩) q=if q=(b:Int) then some ⟨st,hs⟩ else zc a q:=fun q=>Gr _ _ _ _;refine ⟨?_,?_,fun h=>absurd rfl h,fun _ _ _=>rfl,fun _=>⟨rfl,_,by rw [d,if_pos rfl],rfl,.Yu _⟩,?_,?_,fun _=>⟨fun q j=>by simpa using j,fun q j=>by simp [j]⟩,?_,fun _ q j=>by rw [d,if_neg j]⟩
  ·intro q x i;rw [d] at i;by_cases e:q=(b:Int)
   ·rw [if_pos e] at i;obtain rfl:=Option.some.inj i;exact ⟨by omega,B,D⟩
   ·rw [if_neg e] at i;exact n q x i
  ·have:=z ⟨st,hs⟩;have e:Jk a (b:Int)=201:=by unfold Jk;rw [k]
   have:=FH hs;unfold yk;simp only [List.length_append,List.length_cons,List.length_nil] at *;omega
  ·intro _ q x i;by_cases e:q=(b:Int)
   ·rw [e,k] at i;cases i
   ·exact ⟨x,by rw [d,if_neg e,i],rfl,.Yu _,.inl rfl⟩
  ·intro _ q M i;by_cases e:q=(b:Int)
   ·exact .inl (by simp [e])
   ·rw [d,if_neg e] at i;exact .inr i
  ·intro _ h o s M i;rw [d,if_pos rfl] at i;obtain rfl:=Option.some.inj i;exact o
 | some x =>
  obtain ⟨-,N,A⟩:=n _ _ k;have O:=A.le rfl;simp only at O;rw [if_pos (by rfl),Option.bind_some,qJ _ _ (by omega),Option.bind_some];by_cases e:x.stack=st
  ·rw [if_pos (by simpa using e)];have:=rJ (p:=(b:Int)) (a:=a) (td:=td) (st:=st) (hs:=hs) (er:=0) (x:=x) G (x.has.length+1) 0 false x.has rfl (by omega) (by omega) (by omega) (by omega);rw [show ((0:Nat):Int)=0 from rfl] at this;rw [this];refine ⟨_,_,_,rfl,?_⟩;simp only [List.take_zero,List.drop_zero,List.nil_append,Bool.false_eq_true,false_or];have r:x.has.length=hs.length:=by omega
   have d:∀ q,zc (Gd a (b:Int) ⟨x.stack,meet x.has hs⟩) q=if q=(b:Int) then some ⟨x.stack,meet x.has hs⟩ else zc a q:=fun q=>Gr _ _ _ _;have P:∀ q ∈ td,q ∈ (if meet x.has hs≠x.has then td++[(b:Int)] else td):=fun q j=>by split<;>simp [j]
   refine ⟨?_,?_,fun h=>absurd rfl h,fun _ _ _=>rfl,fun _=>⟨rfl,⟨x.stack,meet x.has hs⟩,by rw [d,if_pos rfl],e,aL r⟩,?_,?_,fun _=>⟨fun q j=>?_,P⟩,?_,fun _ q j=>by rw [d,if_neg j]⟩
   ·intro q y c;rw [d] at c;by_cases ra:q=(b:Int)
    ·rw [if_pos ra] at c;obtain rfl:=Option.some.inj c;exact ⟨by omega,(Jw r).trans N,A⟩
    ·rw [if_neg ra] at c;exact n q y c
   ·have o:=z ⟨x.stack,meet x.has hs⟩;have s:Jk a (b:Int)=Xm x.has:=by unfold Jk;rw [k]
    obtain ⟨U,Q⟩:=ZC x.has hs r;unfold yk;simp only at o;split
    ·rename_i l;have:=Q l;simp only [List.length_append,List.length_cons,List.length_nil];omega
    ·omega
   ·intro _ q y c;by_cases ra:q=(b:Int)
    ·subst ra;rw [k] at c;obtain rfl:=Option.some.inj c;refine ⟨⟨x.stack,meet x.has hs⟩,by rw [d,if_pos rfl],rfl,ZK r,?_⟩;by_cases l:meet x.has hs=x.has
     ·exact .inl (by rw [l])
     ·exact .inr (by rw [if_pos l];simp)
    ·exact ⟨y,by rw [d,if_neg ra,c],rfl,.Yu _,.inl rfl⟩
   ·intro _ q y c;by_cases ra:q=(b:Int)
    ·subst ra;by_cases l:meet x.has hs=x.has
     ·rw [d,if_pos rfl,l] at c;exact .inr (by rw [k,← c])
     ·exact .inl (by rw [if_pos l];simp)
    ·rw [d,if_neg ra] at c;exact .inr c
   ·split at j
    ·simpa using j
    ·exact .inl j
   ·intro _ h o s y c;rw [d,if_pos rfl] at c;obtain rfl:=Option.some.inj c;exact bL (s x k) o
  ·rw [if_neg (by simpa using e),Xk,Option.bind_some];exact ⟨_,_,_,rfl,.same n (bp (by decide)) (fun h=>absurd rfl h) fun _ ⟨_,h⟩=>e (h x k)⟩
end
end Go.Y
namespace Go.Y
open Go.Ab Go.jc
theorem KG (s:gg) (t:Int):(af s t).1.length=s.1.length+1:=by simp [af]
theorem xC (m:sb) (s:gg):(ai m s).2.1.length≤s.1.length:=by
 have:=En s;unfold ai;split
 ·exact this
 ·split
  ·exact this
  ·exact this
theorem aD {m:sb}{s:gg}(h:Gg s):Gg (ai m s).2:=by
 unfold ai;split
 ·exact h.pop
 ·split
  ·exact h.pop
  ·exact h.pop.er (by decide)
theorem qE {α:Type}{P:α→Prop}{c:Prop}[Decidable c]{a b:α}(d:c→P a) (e:¬ c→P b):P (if c then a else b):=by
 by_cases c:c
 ·rw [if_pos c];exact d c
 ·rw [if_neg c];exact e c
theorem aG (m:sb) (u:Xc) (i:ud) (s:gg) (hs:List Bool):(Ad m u i s hs).1.length≤s.1.length+1:=by
 have w:∀ l (a:gg),a.1.length≤s.1.length→(Se l a).1.length≤s.1.length+1:=fun l a h=>Nat.le_trans (il l a) (by omega);have pl:∀ (a:gg) t,a.1.length≤s.1.length→(af a t).1.length≤s.1.length+1:=fun a t h=>by rw [KG];omega
 have b:∀ l (a:gg) t,a.1.length≤s.1.length→(af (Se l a) t).1.length≤s.1.length+1:=fun l a t h=>pl _ _ (Nat.le_trans (il l a) h);have c:=En s;have r:=Nat.le_refl s.1.length;have P:=@qE gg (fun z=>z.1.length≤s.1.length+1);unfold Ad;refine P (fun _=>pl _ _ r) fun _=>P (fun _=>pl _ _ r) fun _=>P (fun _=>pl _ _ r) fun _=>P (fun _=>w _ _ r) fun _=>P (fun _=>Nat.le_trans c (Nat.le_succ _)) fun _ =>
  P (fun _=>b _ _ _ r) fun _=>P (fun _=>b _ _ _ r) fun _=>P (fun _=>b _ _ _ r) fun _=>P (fun _=>b _ _ _ c) fun _=>P (fun _=>b _ _ _ r) fun _=>P (fun _=>b _ _ _ r) fun _ =>
  P (fun _=>Nat.le_succ _) fun _=>P (fun _=>w _ _ r) fun _=>P (fun _=>b _ _ _ r) fun _=>P (fun _=>w _ _ r) fun _=>P (fun _=>Nat.le_succ _) fun _=>P (fun _=>w _ _ r) fun _=>P (fun _=>pl _ _ r) fun _ =>
  P (fun _=>Nat.le_trans c (Nat.le_succ _)) fun _=>P (fun _=>b _ _ _ r) fun _=>P (fun _=>?_) fun _=>P (fun _=>b _ _ _ r) fun _=>P (fun _=>pl _ _ (xC m s)) fun _=>Nat.le_succ _
 have d:=Nat.le_trans (xC m (Ac s).2) c;generalize ai m (Ac s).2=q at d;obtain ⟨o,a⟩:=q;cases o with
 | none=>exact Nat.le_trans d (Nat.le_succ _)
 | some x=>exact pl _ _ d
theorem LM {l:List Int}(h:∀ y ∈ l,Ag y) (i:Int):Ag (Fl l i):=by
 unfold Fl;cases a:at_ l i with
 | none=>show Ag 0; unfold Ag; omega
 | some x=>exact h x (at_mem a).1
theorem rE {m:sb}(hm:Ik m) (i:Int):Pu (Mj m i):=by
 unfold Mj;cases a:at_ m.Ya i with
 | none=>refine ⟨?_,?_,?_,?_,⟨by decide,fun y b=>by cases b⟩,by decide,trivial⟩ <;> (show Ag 0; unfold Ag; omega)
 | some x=>exact hm.2.2 x (at_mem a).1
theorem MM {m:sb}(hm:Ik m) (i:Int):Tu (Gl m i):=by
 unfold Gl;cases a:at_ m.sc i with
 | none=>constructor <;> (show Ag 0; unfold Ag; omega)
 | some x=>exact hm.1.2 x (at_mem a).1
theorem LG {m:sb}{u:Xc}{i:ud}{s:gg}{hs:List Bool}(hm:Ik m) (l:Yh m) (hu:Pu u) (Pa:Ml m u i) (h:Gg s):Gg (Ad m u i s hs):=by
 have g:Ag 1:=by unfold Ag;omega
 have r2:Ag 2:=by unfold Ag;omega
 have n:=LM hu.2.2.2.2.1.2 i.A;have rg:=rE hm i.A;have rx:=MM hm i.A;have p:i.Op=29→Ag (10+i.A):=fun j=>by
  obtain ⟨-,-,-,g4,g5⟩:=Nr (Pa.2.2.2.2.2.1 j);have:=l.1.2;unfold Ag;omega
 have d:∀ {s:gg}{x e:Int},Gg s→x≠0→(e=s.2∨e=Fe s.2 x)→Gg (s.1,e):=fun {s x e} h f he=>by
  rcases he with he | he
  ·rw [he];exact h
  ·rw [he];exact h.er f
 have ite:∀ {c:Prop}[Decidable c] {a b:Int},(if c then a else b)=b∨(if c then a else b)=a:=fun {c} _ {a b}=>by
  by_cases c:c
  ·rw [if_pos c];exact .inr rfl
  ·rw [if_neg c];exact .inl rfl
 have r:∀ {c:Prop}[Decidable c] {a b:Int},(if c then a else b)=a∨(if c then a else b)=b:=fun {c} _ {a b}=>ite.symm;have P:=@qE gg Gg;unfold Ad;refine P (fun _=>h.push g) fun _=>P (fun _=>h.push r2) fun _=>P (fun _=>Gg.push (d h (by decide) r) n) fun _=>P (fun _=>h.want _) fun _=>P (fun _=>h.pop) fun _ =>
  P (fun _=>(h.want _).push g) fun _=>P (fun _=>(h.want _).push r2) fun _=>P (fun _=>(h.want _).push g) fun _=>P (fun _=>Gg.push (Gg.want _ (d h.pop (by decide) ite)) r2) fun _=>P (fun _=>(h.want _).push r2) fun _=>P (fun _=>(h.want _).push r2) fun _ =>
  P (fun _=>h) fun _=>P (fun _=>h.want _) fun _=>P (fun _=>(h.want _).push rg.2.2.1) fun _=>P (fun _=>d (Gg.want _ (d h (by decide) ite)) (by decide) ite) fun _=>P (fun _=>d (d h (by decide) ite:Gg (s.1,_)) (by decide) ite) fun _ =>
  P (fun _=>h.want _) fun _=>P (fun _=>h.push rx.1) fun _=>P (fun _=>d h.pop (by decide) ite) fun _=>P (fun j=>(h.want _).push (p j)) fun _=>P (fun _=>?_) fun _=>P (fun _=>Gg.push (Gg.want _ (d h (by decide) ite)) hu.2.2.2.1) fun _=>P (fun _=>(aD h).push r2) fun _=>h
 have k:=aD (m:=m) h.pop;have f:∀ x,(ai m (Ac s).2).1=some x→Pu x:=fun x e=>by
  unfold ai at e;split at e
  ·cases e
  ·split at e
   ·obtain rfl:=Option.some.inj e;exact rE hm _
   ·cases e
 generalize ai m (Ac s).2=q at k f;obtain ⟨o,t⟩:=q;cases o with
 | none=>exact k
 | some x=>exact Gg.push (d k (by decide) ite) (f x rfl).2.2.1
theorem GH (i:ud) (hs:List Bool):(Ai i hs).length=hs.length:=by unfold Ai;split<;>simp
theorem dz {i:ud}{a b:List Bool}(h:jg a b):jg (Ai i a) (Ai i b):=by
 unfold Ai;split
 ·refine ⟨by simpa using h.1,fun j e=>?_⟩;have d:=h.1;rw [List.getElem?_set] at e ⊢;by_cases c:i.A.toNat=j
  ·rw [if_pos c] at e ⊢;split at e
   ·rw [if_pos (by omega)]
   ·cases e
  ·rw [if_neg c] at e ⊢;exact h.2 j e
 ·exact h
theorem sJ {a b:List Bool}{i:Int}(h:jg a b) (g:ca a i=true):ca b i=true:=by
 unfold ca at_ at *;split
 ·rename_i c;rw [if_pos c] at g;cases e:a[i.toNat]? with
  | none=>rw [e] at g; cases g
  | some x =>
   rw [e] at g;have:x=true:=g;rw [h.2 _ (by rw [e,this])];rfl
 ·rename_i c;rw [if_neg c] at g;cases g
theorem HH {s:gg}{t:Int}(h:(af s t).2=0):s.2=0:=by
 unfold af at h;simp only at h;split at h
 ·exact absurd h (bp (by decide))
 ·exact h
theorem Jv {m:sb}{u:Xc}{i:ud}{s:gg}{a b:List Bool}(h:jg a b) (f:(Ad m u i s a).2=0):Ad m u i s b=Ad m u i s a:=by
 by_cases c:i.Op=3
 ·have e:∀ hs,Ad m u i s hs=af (s.1,if ca hs i.A=true then s.2 else Fe s.2 11) (Fl u.Gc i.A):=fun hs=>by
   unfold Ad;rw [if_neg (show ¬ i.Op=1 by omega),if_neg (show ¬ i.Op=2 by omega),if_pos c]
  rw [e] at f ⊢;rw [e];have d:=HH f;simp only at d;by_cases g:ca a i.A=true
  ·rw [if_pos g,if_pos (sJ h g)]
  ·rw [if_neg g] at d;exact absurd d (bp (by decide))
 ·unfold Ad;simp only [if_neg c]
theorem Fits.mono {a c:kj}{p:Int}{st:List Int}{hs:List Bool}(h:Fits a p st hs) (g:∀ q x,zc a q=some x→∃ b,zc c q=some b∧b.stack=x.stack∧jg b.has x.has):Fits c p st hs:=by
 obtain ⟨y,d,e,f⟩:=h;obtain ⟨i,g1,g2,g3⟩:=g p y d;exact ⟨i,g1,g2.trans e,g3.Dm f⟩
def Cs (m:sb) (u:Xc) (a:kj) (p:Int) (x:qd):Prop:=∃ i,at_ u.Code p=some i∧(Ad m u i (x.stack,0) x.has).2=0 ∧
 ((i.Op=21∨i.Op=22)→Fits a i.A (Ad m u i (x.stack,0) x.has).1 (Ai i x.has))∧(follows i→Fits a (p+1) (Ad m u i (x.stack,0) x.has).1 (Ai i x.has))
theorem Cs.mono {m:sb}{u:Xc}{a c:kj}{p:Int}{x:qd}(h:Cs m u a p x) (g:∀ q x,zc a q=some x→∃ b,zc c q=some b∧b.stack=x.stack∧jg b.has x.has):Cs m u c p x:=by
 obtain ⟨i,d,e,f,j⟩:=h;exact ⟨i,d,e,fun k=>(f k).mono g,fun k=>(j k).mono g⟩
abbrev Uu:=Int→Option (List Int×List Bool)
structure Ro (m:sb) (u:Xc) (T:Uu):Prop where
 step:∀ p st h,T p=some (st,h)→∃ i,at_ u.Code p=some i∧(Ad m u i (st,0) h).2=0 ∧
  ((i.Op=21∨i.Op=22)→i.A<u.Code.length∧∃ a,T i.A=some ((Ad m u i (st,0) h).1,a)∧jg a (Ai i h)) ∧
  (follows i→p+1<u.Code.length∧∃ a,T (p+1)=some ((Ad m u i (st,0) h).1,a)∧jg a (Ai i h))
def Vu (a:kj) (T:Uu):Prop:=∀ p x,zc a p=some x→∃ h,T p=some (x.stack,h)∧jg h x.has
theorem uq.typed {C L:Nat}{st:List Int}{hs:List Bool}{p:Int}{a j:kj}{td l:List Int}{e:Int}{T:Uu}(h:uq C L st hs p a td 0 j l e) (f:Vu a T) (m:p<C){b:List Bool}(g:T p=some (st,b)) (n:jg b hs):e=0∧Vu j T:=by
 have Ib:e=0:=h.pE rfl m fun x i=>by
  obtain ⟨o,ra,-⟩:=f p x i;rw [g] at ra;exact (Prod.mk.inj (Option.some.inj ra)).1.symm
 refine ⟨Ib,fun q y d=>?_⟩;by_cases c:q=p
 ·subst c;obtain ⟨-,z,k,z2,-⟩:=h.fits Ib;rw [d] at k;obtain rfl:=Option.some.inj k;refine ⟨b,by rw [g,z2],h.VM Ib b n (fun x i=>?_) y d⟩;obtain ⟨o,ra,V⟩:=f q x i;rw [g] at ra;rw [(Prod.mk.inj (Option.some.inj ra)).2];exact V
 ·rw [h.WM Ib q c] at d;exact f q y d
section
variable {fu:Nat}{m:sb}{u:Xc}{k:Int}
structure NM (m:sb) (u:Xc) (q:Int) (x:qd) (a:kj) (td:List Int) (c:kj) (d:List Int):Prop where
 mono:∀ p y,zc a p=some y→∃ b,zc c p=some b∧b.stack=y.stack∧jg b.has y.has∧(b=y∨p ∈ d)
 new:∀ p b,zc c p=some b→p ∈ d∨zc a p=some b
 todo:(∀ p ∈ d,p ∈ td∨∃ y,zc c p=some y)∧∀ p ∈ td,p ∈ d
 done:Cs m u c q x
theorem uq.Wc {C L:Nat}{st:List Int}{hs:List Bool}{p:Int}{a:kj}{td:List Int}{er:Int}{d:kj}{c:List Int}{g:Int}(h:uq C L st hs p a td er d c g) (e:g=0):(∀ p y,zc a p=some y→∃ b,zc d p=some b∧b.stack=y.stack∧jg b.has y.has∧(b=y∨p ∈ c))∧(∀ p b,zc d p=some b→p ∈ c∨zc a p=some b)∧(∀ p ∈ c,p ∈ td∨∃ y,zc d p=some y)∧∀ p ∈ td,p ∈ c:=by
 refine ⟨h.mono e,h.new e,fun q i=>?_,(h.todo e).2⟩;rcases (h.todo e).1 q i with f | f
 ·exact .inl f
 ·obtain ⟨-,y,j,-⟩:=h.fits e;exact .inr ⟨y,by rw [f,j]⟩
theorem iter (hm:Ik m) (id:Yh m) (hu:u ∈ m.Ya) (Ne:1000≤fu){q:Int}{x:qd}{a:kj}{td:List Int}(M:zc a q=some x) (S:kp u.Code.length u.Gc.length a) (on:yk u.Code.length a td≤2000000000) :
  ∃ o B s ci st',(∀ n Dh v,Nj fu (ue m) k u (n+1) 0 Dh (q::td) v a=if s≠0 then some ⟨s,k,q⟩ else Nj fu (ue m) k u n s ci B st' o)∧kp u.Code.length u.Gc.length o∧yk u.Code.length o B≤yk u.Code.length a td∧(s=0→NM m u q x a td o B) ∧
   ∀ T,Ro m u T→Vu a T→s=0∧Vu o T:=by
 obtain ⟨⟨-,⟨sn,-⟩,⟨-,lc⟩,-⟩,ii⟩:=id.2.2.1 u hu;have li:=hm.2.2 u hu;obtain ⟨of,U,N⟩:=S q x M;have pi:=N.le rfl;simp only at pi;obtain ⟨i,Pa,Pi⟩:=en (l:=u.Code) of.1 of.2;have md:=ii i Pi;have kk:cut (q::td) 1 (q::td).length=some td:=by unfold cut;rw [if_pos (by simp only [List.length_cons];omega)];simp
 have mk:tt x=some x:=by
  unfold tt jv small;rw [if_pos (by omega),Option.bind_some,if_pos (by omega),Option.bind_some]
 have start:∀ n Dh v,Nj fu (ue m) k u (n+1) 0 Dh (q::td) v a=(mm fu (ue m) u a td x.stack x.has 0 i).bind fun b =>
   if b.1=true then
    (i64 (q+1)).bind fun dl =>
    (ql (ue m) u b.2.1 b.2.2.1 b.2.2.2.1 b.2.2.2.2.1 b.2.2.2.2.2 dl).bind fun W =>
    Lp k q (Nj fu (ue m) k u n) W.2.2.2.2 W.2.2.2.1 W.2.1 W.2.2.1 W.1
   else
    Lp k q (Nj fu (ue m) k u n) b.2.2.2.2.2 b.2.2.2.2.1 b.2.2.1 b.2.2.2.1 b.2.1:=fun n Dh v=>by
  rw [Nj,if_pos (by simp only [List.length_cons];omega),show at_ (q::td) 0=some q from rfl,Option.bind_some,kk,Option.bind_some,M,Option.bind_some,mk,Option.bind_some,Pa,Option.bind_some]
 have rc:∀ n er hs td st a,Lp k q (Nj fu (ue m) k u n) er hs td st a=if er≠0 then some ⟨er,k,q⟩ else Nj fu (ue m) k u n er hs td st a:=fun _ _ _ _ _ _=>rfl;have wf:i64 (q+1)=some (q+1):=Ih (by omega);have If:(i.Op=21∨i.Op=22)→0≤i.A∧i.A<u.Code.length:=md.2.2.2.1;by_cases O:i.Op=21
 ·have z:Ad m u i (x.stack,0) x.has=(x.stack,0):=by unfold Ad;simp [O]
  have P:Ai i x.has=x.has:=if_neg (by omega);obtain ⟨o,B,s,e,R⟩:=Qu (m:=m) (u:=u) (a:=a) (td:=td) (st:=x.stack) (hs:=x.has) (er:=0) (p:=i.A) (L:=u.Gc.length) lc U (by omega) S (by have:=If (.inl O);omega) N (by omega) (by omega);refine ⟨o,B,s,x.has,x.stack,fun n Dh v=>?_,R.ok,R.w,fun Ib=>?_,fun T C d=>?_⟩
  ·rw [start,oJ O,e,Option.bind_some,Option.bind_some,if_neg (by simp),rc]
  ·obtain ⟨D,X,Wc,F⟩:=R.Wc Ib;refine ⟨D,X,⟨Wc,F⟩,i,Pa,by rw [z],fun _=>by rw [z,P];exact (R.fits Ib).2,fun h=>absurd O h.1⟩
  ·obtain ⟨h,G,j⟩:=d q x M;obtain ⟨rd,f,s1,s2,-⟩:=C.step q x.stack h G;rw [Pa] at f;obtain rfl:=Option.some.inj f;obtain ⟨wd,el,Y,Fd⟩:=s2 (.inl O);rw [← Jv j s1,z] at Y;exact R.typed d wd Y (Fd.Dm (by have:=dz (i:=i) j;rwa [P] at this))
 by_cases Z:i.Op=22
 ·have z:Ad m u i (x.stack,0) x.has=Se [2] (x.stack,0):=by unfold Ad;simp [Z]
  have P:Ai i x.has=x.has:=if_neg (by omega);have dg:=il [2] (x.stack,0);obtain ⟨pa,nl,ol,ra,t⟩:=Qu (m:=m) (u:=u) (a:=a) (td:=td) (st:=(Se [2] (x.stack,0)).1) (hs:=x.has) (er:=(Se [2] (x.stack,0)).2) (p:=i.A) (L:=u.Gc.length) lc U (by omega) S (by have:=If (.inr Z);omega) (N.want _) (by simp only at dg;omega) (by omega);obtain ⟨a2,pl,ul,wl,Q⟩:=Qu (m:=m) (u:=u) (a:=pa) (td:=nl) (st:=(Se [2] (x.stack,0)).1) (hs:=x.has) (er:=ol) (p:=q+1) (L:=u.Gc.length) lc U (by omega) t.ok (by omega) (by
   have hw:=N.want [2];refine ⟨fun rg=>?_,hw.r⟩;by_cases c:(Se [2] (x.stack,0)).2=0
   ·exact hw.le c
   ·rw [t.keep c] at rg;exact absurd rg c) (by simp only at dg;omega) (by have:=t.w;omega)
  refine ⟨a2,pl,ul,x.has,(Se [2] (x.stack,0)).1,fun n Dh v=>?_,Q.ok,Nat.le_trans Q.w t.w,fun Ib=>?_,fun T C d=>?_⟩
  ·rw [start,pJ (by omega) Ne Z,ra,Option.bind_some,Option.bind_some,if_pos rfl,wf,Option.bind_some,wl,Option.bind_some,rc]
  ·obtain ⟨g0,g1⟩:=Q.fits Ib;obtain ⟨v1,v2,v3,v4⟩:=t.Wc g0;obtain ⟨D,X,Wc,F⟩:=Q.Wc Ib;refine ⟨fun p y g=>?_,fun p H g=>?_,⟨fun p K=>?_,fun p K=>F p (v4 p K)⟩,i,Pa,by rw [z];exact (t.fits g0).1,fun _=>?_,fun _=>by rw [z,P];exact g1⟩
   ·obtain ⟨am,Ia,Ta,Qb,Tb⟩:=v1 p y g;obtain ⟨em,Id,be,ce,gc⟩:=D p am Ia;refine ⟨em,Id,be.trans Ta,ce.Dm Qb,?_⟩;rcases gc with gc | gc
    ·rcases Tb with Tb | Tb
     ·exact .inl (gc.trans Tb)
     ·exact .inr (F p Tb)
    ·exact .inr gc
   ·rcases X p H g with h | h
    ·exact .inl h
    ·rcases v2 p H h with h | h
     ·exact .inl (F p h)
     ·exact .inr h
   ·rcases Wc p K with h | h
    ·rcases v3 p h with h | ⟨y,g⟩
     ·exact .inl h
     ·obtain ⟨H,lm,-⟩:=D p y g;exact .inr ⟨H,lm⟩
    ·exact .inr h
   ·rw [z,P];exact (t.fits g0).2.mono fun p y g=>by
     obtain ⟨H,Id,be,ce,-⟩:=D p y g;exact ⟨H,Id,be,ce⟩
  ·obtain ⟨h,G,j⟩:=d q x M;obtain ⟨rd,f,s1,s2,ge⟩:=C.step q x.stack h G;rw [Pa] at f;obtain rfl:=Option.some.inj f;obtain ⟨wd,el,Y,Fd⟩:=s2 (.inr Z);obtain ⟨he,pm,hc,ne⟩:=ge ⟨by omega,by omega,by omega⟩;have sm:=Jv j s1;rw [← sm,z] at Y hc s1;have bi:jg (Ai i h) x.has:=by have:=dz (i:=i) j;rwa [P] at this
   rw [s1] at t;obtain ⟨t1,t2⟩:=t.typed d wd Y (Fd.Dm bi);rw [t1] at Q;exact Q.typed t2 he hc (ne.Dm bi)
 have Nm:=LG (hs:=x.has) hm id li md N;have fn:=aG m u i (x.stack,0) x.has;simp only at fn;have es:=YK (fu:=fu) (a:=a) (td:=td) (hs:=x.has) (er:=0) id md (by omega) N hm Ne U O Z;by_cases fd:follows i
 ·obtain ⟨o,B,s,e,R⟩:=Qu (m:=m) (u:=u) (a:=a) (td:=td) (st:=(Ad m u i (x.stack,0) x.has).1) (hs:=Ai i x.has) (er:=(Ad m u i (x.stack,0) x.has).2) (p:=q+1) (L:=u.Gc.length) lc (by rw [GH,U]) (by omega) S (by omega) Nm (by omega) (by omega);refine ⟨o,B,s,Ai i x.has,(Ad m u i (x.stack,0) x.has).1,fun n Dh v=>?_,R.ok,R.w,fun Ib=>?_,fun T C d=>?_⟩
  ·rw [start,es,Option.bind_some,if_pos (by simpa using fd),wf,Option.bind_some,e,Option.bind_some,rc]
  ·obtain ⟨D,X,Wc,F⟩:=R.Wc Ib;obtain ⟨g0,g1⟩:=R.fits Ib;exact ⟨D,X,⟨Wc,F⟩,i,Pa,g0,fun h=>by omega,fun _=>g1⟩
  ·obtain ⟨h,G,j⟩:=d q x M;obtain ⟨rd,f,s1,-,ge⟩:=C.step q x.stack h G;rw [Pa] at f;obtain rfl:=Option.some.inj f;obtain ⟨he,pm,hc,ne⟩:=ge fd;rw [← Jv j s1] at hc s1;rw [s1] at R;exact R.typed d he hc (ne.Dm (dz j))
 ·refine ⟨a,td,(Ad m u i (x.stack,0) x.has).2,Ai i x.has,(Ad m u i (x.stack,0) x.has).1,fun n Dh v=>?_,S,Nat.le_refl _,fun Ib=>?_,fun T C d=>?_⟩
  ·rw [start,es,Option.bind_some,if_neg (by simpa using fd),rc]
  ·exact ⟨fun p y g=>⟨y,g,rfl,.Yu _,.inl rfl⟩,fun p H g=>.inr g,⟨fun p K=>.inl K,fun p K=>K⟩,i,Pa,Ib,fun h=>by omega,fun h=>absurd h fd⟩
  ·obtain ⟨h,G,j⟩:=d q x M;obtain ⟨rd,f,s1,-⟩:=C.step q x.stack h G;rw [Pa] at f;obtain rfl:=Option.some.inj f;rw [← Jv j s1] at s1;exact ⟨s1,d⟩
def DD (m:sb) (u:Xc) (a:kj):Prop:=kp u.Code.length u.Gc.length a∧∀ p x,zc a p=some x→Cs m u a p x
theorem cL (hm:Ik m) (B:Yh m) (hu:u ∈ m.Ya) (C:1000≤fu):∀ (n:Nat) (a:kj) (td:List Int) (Dh:List Bool) (l:List Int),kp u.Code.length u.Gc.length a→yk u.Code.length a td<n→yk u.Code.length a td≤2000000000→(∀ q ∈ td,∃ x,zc a q=some x)→(∀ p x,zc a p=some x→p ∈ td∨Cs m u a p x) →
  ∃ w,Nj fu (ue m) k u n 0 Dh td l a=some w∧(w.xf=0→w=⟨0,0,0⟩∧∃ g,DD m u g∧∀ p y,zc a p=some y→∃ d,zc g p=some d∧d.stack=y.stack∧jg d.has y.has)∧∀ T,Ro m u T→Vu a T→w.xf=0:=by
 intro n
 induction n with
 | zero=>intro a td Dh l _ h; omega
 | succ n D =>
  intro a td Dh l v hc lc z Qa;cases td with
  | nil =>
   rw [Nj,if_neg (by simp)];refine ⟨_,rfl,fun _=>⟨rfl,a,⟨v,fun p x i=>?_⟩,fun p y f=>⟨y,f,rfl,.Yu _⟩⟩,fun _ _ _=>rfl⟩;rcases Qa p x i with h | h
   ·cases h
   ·exact h
  | cons q td =>
   obtain ⟨x,i⟩:=z q (List.mem_cons_self ..);have rc:yk u.Code.length a (q::td)=yk u.Code.length a td+1:=by unfold yk;simp;omega
   obtain ⟨g,F,G,H,st',e,K,Rd,L,ob⟩:=iter (k:=k) (td:=td) hm B hu C i v (by omega);rw [e];by_cases c:G=0
   ·subst c;rw [if_neg (by simp)];obtain ⟨M,N,⟨Wc,O⟩,P⟩:=L rfl;have g1:∀ p y,zc a p=some y→∃ d,zc g p=some d∧d.stack=y.stack∧jg d.has y.has:=fun p y f=>by
     obtain ⟨d,o,r,s,-⟩:=M p y f;exact ⟨d,o,r,s⟩
    obtain ⟨w,Q,r2,R⟩:=D g F H st' K (by omega) (by omega) (fun p S=>by
     rcases Wc p S with h | h
     ·obtain ⟨y,f⟩:=z p (List.mem_cons_of_mem _ h);obtain ⟨d,U,-⟩:=g1 p y f;exact ⟨d,U⟩
     ·exact h) (fun p d f=>by
     rcases N p d f with h | h
     ·exact .inl h
     ·by_cases A:p=q
      ·subst A;rw [i] at h;obtain rfl:=Option.some.inj h;exact .inr P
      ·rcases Qa p d h with h | h
       ·rcases List.mem_cons.1 h with h | h
        ·exact absurd h A
        ·exact .inl (O p h)
       ·exact .inr (h.mono g1))
    refine ⟨w,Q,fun h=>?_,fun T j t=>R T j (ob T j t).2⟩;obtain ⟨W,b,X,Y⟩:=r2 h;refine ⟨W,b,X,fun p y f=>?_⟩;obtain ⟨Z,Ia,Ta,Qb⟩:=g1 p y f;obtain ⟨gc,o,r,s⟩:=Y p Z Ia;exact ⟨gc,o,r.trans Ta,s.Dm Qb⟩
   ·rw [if_pos c];exact ⟨_,rfl,fun h=>absurd h c,fun T j t=>absurd (ob T j t).1 c⟩
theorem bD:∀ (i r:Nat),(List.replicate i true++List.replicate (r+1) false).set i true=List.replicate (i+1) true++List.replicate r false
 | 0,r=>rfl
 | i+1,r=>by
  have:=bD i r;rw [List.replicate_succ,List.cons_append,List.set_cons_succ,this,List.replicate_succ (n:=i+1)];rfl
def Dh (u:Xc):List Bool:=List.replicate u.Params.toNat true++List.replicate (u.Gc.length - u.Params.toNat) false
def Yr (m:sb) (u:Xc):Prop:=∃ a,DD m u a∧∃ x,zc a 0=some x∧x.stack=[]∧jg x.has (Dh u)
theorem tJ (hm:Ik m) (j:Yh m) (l:at_ m.Ya k=some u) (Y:1000000≤fu) :
  ∃ w,gu fu (ue m) k=some w∧(w.xf=0→w=⟨0,0,0⟩∧Yr m u)∧∀ T,Ro m u T→(∃ h,T 0=some ([],h)∧jg h (Dh u))→w.xf=0:=by
 obtain ⟨hu,-⟩:=at_mem l;obtain ⟨⟨-,⟨Z,gc,hc,lc,-⟩,⟨rc,o⟩,-⟩,fd⟩:=j.2.2.1 u hu;have r:(Dh u).length=u.Gc.length:=by unfold Dh;simp;omega
 have fin:∃ w,((ql (ue m) u ([]:List (Int×qd)) ([]:List Int) ([]:List Int) (Dh u) 0 0).bind fun d=>Nj fu (ue m) k u fu d.2.2.2.2 d.2.2.2.1 d.2.1 d.2.2.1 d.1)=some w∧(w.xf=0→w=⟨0,0,0⟩∧Yr m u)∧∀ T,Ro m u T→(∃ h,T 0=some ([],h)∧jg h (Dh u))→w.xf=0:=by
  have s:kp u.Code.length u.Gc.length []:=fun p x f=>by cases f
  have w0:yk u.Code.length [] []≤201*4000:=by
   have:∀ C:Nat,((List.range C).map fun q:Nat=>Jk [] (q:Int)).sum=201*C:=fun C=>by
    induction C with
    | zero=>rfl
    | succ C g =>
     rw [List.range_succ,List.map_append,List.sum_append,g];simp [Jk,zc];omega
   unfold yk;rw [this];simp;omega
  obtain ⟨a,td,er,e,R⟩:=Qu (m:=m) (u:=u) (a:=[]) (td:=[]) (st:=[]) (hs:=Dh u) (er:=0) (p:=0) (L:=u.Gc.length) o r (by omega) s (by omega) ⟨fun _=>by simp,fun t v=>by cases v⟩ (by simp) (by omega);have Ib:er=0:=R.pE rfl (by omega) fun x f=>by cases f
  subst Ib;rw [e,Option.bind_some];obtain ⟨-,y,z,A,B⟩:=R.fits rfl;obtain ⟨id,D,Wc,md⟩:=R.Wc rfl;have rd:=R.w;obtain ⟨w,F,r2,G⟩:=cL (fu:=fu) (k:=k) hm j hu (by omega) fu a td (Dh u) [] R.ok (by omega) (by omega) (fun q H=>by
   rcases Wc q H with h | h
   ·cases h
   ·exact h) (fun p x f=>by
   rcases D p x f with h | h
   ·exact .inl h
   ·cases h)
  refine ⟨w,F,fun h=>?_,fun T K ⟨h,t1,t2⟩=>G T K (R.typed (fun p x f=>by cases f) (by omega) t1 t2).2⟩;obtain ⟨M,b,N,O⟩:=r2 h;obtain ⟨P,Q,S,U⟩:=O 0 y z;exact ⟨M,b,N,P,Q,S.trans A,U.Dm B⟩
 have W:∀ (n i:Nat),i≤u.Params.toNat→u.Params.toNat - i<n→ar fu (ue m) k u n (i:Int) (List.replicate i true++List.replicate (u.Gc.length - i) false)=(ql (ue m) u ([]:List (Int×qd)) ([]:List Int) ([]:List Int) (Dh u) 0 0).bind fun d=>Nj fu (ue m) k u fu d.2.2.2.2 d.2.2.2.1 d.2.1 d.2.2.1 d.1:=by
  intro n
  induction n with
  | zero=>intro i _ h; omega
  | succ n g =>
   intro i Pa wd;unfold ar;by_cases c:(i:Int)<u.Params
   ·have X:i<(List.replicate i true++List.replicate (u.Gc.length - i) false).length:=by simp;omega
    rw [if_pos c,Rj X,Option.bind_some,Ih (by omega),Option.bind_some];have ra:(List.replicate i true++List.replicate (u.Gc.length - i) false).set (i:Int).toNat true=List.replicate (i+1) true++List.replicate (u.Gc.length - (i+1)) false:=by
     rw [Int.toNat_natCast,show u.Gc.length - i=(u.Gc.length - (i+1))+1 by omega];exact bD _ _
    rw [ra,show ((i:Int)+1)=((i+1:Nat):Int) by omega];exact g (i+1) (by omega) (by omega)
   ·have:i=u.Params.toNat:=by omega
    rw [if_neg c,this];rfl
 unfold gu;rw [Option.bind_some,l,Option.bind_some];unfold cl;rw [if_pos (by omega),Option.bind_some,Int.toNat_natCast];have:=W ((u.Params - 0).toNat+1) 0 (by omega) (by simp);simp only [List.replicate_zero,List.nil_append,Nat.sub_zero] at this;rw [show ((0:Nat):Int)=0 from rfl] at this;rw [this];exact fin
end
end Go.Y
namespace Go.Y
open Go.Ab Go.jc
def eA (u:Xc) (k:Int):Prop:=∃ i ∈ u.Code,(i.Op=23∨i.Op=29)∧i.A=k
inductive Ps (m:sb):Int→Int→Prop
 | refl (k:Int):Ps m k k
 | step {k a b:Int} {u:Xc}:Ps m k a→at_ m.Ya a=some u→eA u b→Ps m k b
def Ym (U:Nat) (l:List Int):Nat:=((List.range U).map fun q:Nat=>if (q:Int) ∈ l then 0 else 1).sum
theorem ez {U:Nat}{l:List Int}{k:Int}(a:0≤k) (c:k<U) (b:k ∉ l):Ym U (l++[k])+1=Ym U l:=by
 obtain ⟨n,rfl⟩:=Int.eq_ofNat_of_zero_le a;have:=Kz (f:=fun q:Nat=>if (q:Int) ∈ l++[(n:Int)] then 0 else 1) (g:=fun q:Nat=>if (q:Int) ∈ l then 0 else 1) (p:=n) U (by omega) (fun q d=>by
  have:(q:Int)≠(n:Int):=by omega
  simp [this])
 simp [b] at this;unfold Ym;simp;omega
theorem IH (U:Nat) (l:List Int):Ym U l≤U:=by
 unfold Ym
 induction U with
 | zero=>simp
 | succ U a =>
  rw [List.range_succ,List.map_append,List.sum_append];simp only [List.map_cons,List.map_nil,List.sum_cons,List.sum_nil];split<;>omega
section
variable {m:sb}{k0:Int}
structure xm (m:sb) (k0:Int) (l:List Int):Prop where
 rg:∀ x ∈ l,0≤x∧x<m.Ya.length
 rc:∀ x ∈ l,Ps m k0 x
 Hg:l.length+Ym m.Ya.length l≤m.Ya.length+1
def Us (m:sb) (x:Int) (l:List Int):Prop:=∀ v,at_ m.Ya x=some v→∀ b,eA v b→b ∈ l
theorem lF {a:Int}{u:Xc}{K:Int→List Int→Option (List Int)}(s:Yh m) (hu:at_ m.Ya a=some u) (z:0≤a∧Ps m k0 a) (i0:Nat) (Q:i0≤1000){R:List Int→Prop}
  (B:∀ f,xm m k0 f→(∀ b,eA u b→b ∈ f)→R f→∃ r,K ((i0:Int)+1) f=some r∧(∀ x ∈ f,x ∈ r)∧xm m k0 r∧∀ x ∈ r,Us m x r) (C:∀ l b,Ym m.Ya.length (l++[b])+1=Ym m.Ya.length l→R l→R (l++[b])):∀ (n j:Nat) (l:List Int),xm m k0 l→i0<l.length→R l→j≤u.Code.length→u.Code.length - j<n→(∀ i ∈ u.Code.take j,(i.Op=23∨i.Op=29)→i.A ∈ l) →
  ∃ r,gm (i0:Int) u K n (j:Int) l=some r∧(∀ x ∈ l,x ∈ r)∧xm m k0 r∧∀ x ∈ r,Us m x r:=by
 obtain ⟨D,-⟩:=at_mem hu;obtain ⟨⟨-,-,⟨-,S⟩,-⟩,F⟩:=s.2.2.1 u D;have T:=s.1.2;intro n
 induction n with
 | zero=>intro j l _ _ _ _ h; omega
 | succ n t =>
  intro j l g G o W X Qa;unfold gm;by_cases c:j<u.Code.length
  ·have v:=List.getElem_mem c;have Wa:=F _ v;rw [if_pos (by omega),Rj c,Option.bind_some];have w:((j:Int)+1)=((j+1:Nat):Int):=by omega
   have mn:u.Code.take (j+1)=u.Code.take j++[u.Code[j]]:=(List.take_append_getElem c).symm;have stay:((u.Code[j].Op=23∨u.Code[j].Op=29)→u.Code[j].A ∈ l)→∃ r,pn (j:Int) l u.Code[j] (gm (i0:Int) u K n) false=some r∧(∀ x ∈ l,x ∈ r)∧xm m k0 r∧∀ x ∈ r,Us m x r:=fun H=>by
    unfold pn;rw [if_neg (by decide),Ih (by omega),Option.bind_some,w];refine t (j+1) l g G o c (by omega) fun i Pa=>?_;rw [mn] at Pa;rcases List.mem_append.1 Pa with Pa | Pa
    ·exact Qa i Pa
    ·rw [List.mem_singleton.1 Pa];exact H
   have go:(u.Code[j].Op=23∨u.Code[j].Op=29)→∃ r,pn (j:Int) l u.Code[j] (gm (i0:Int) u K n) (!(l.contains u.Code[j].A))=some r∧(∀ x ∈ l,x ∈ r)∧xm m k0 r∧∀ x ∈ r,Us m x r:=fun e=>by
    by_cases hc:u.Code[j].A ∈ l
    ·have:(!(l.contains u.Code[j].A))=false:=by simp [hc]
     rw [this];exact stay fun _=>hc
    ·have:(!(l.contains u.Code[j].A))=true:=by simp [hc]
     rw [this];have k:0≤u.Code[j].A∧u.Code[j].A<m.Ya.length:=by
      rcases e with e | e
      ·obtain ⟨-,-,-,g1,g2⟩:=Nr (Wa.2.2.2.2.1 e);exact ⟨g1,g2⟩
      ·obtain ⟨-,-,-,g1,g2⟩:=Nr (Wa.2.2.2.2.2.1 e);exact ⟨g1,g2⟩
     have y:xm m k0 (l++[u.Code[j].A]):=by
      refine ⟨fun x d=>?_,fun x d=>?_,?_⟩
      ·rcases List.mem_append.1 d with d | d
       ·exact g.rg x d
       ·rw [List.mem_singleton.1 d];exact k
      ·rcases List.mem_append.1 d with d | d
       ·exact g.rc x d
       ·rw [List.mem_singleton.1 d];exact .step z.2 hu ⟨_,v,e,rfl⟩
      ·have:=ez (U:=m.Ya.length) k.1 k.2 hc;have:=g.Hg;simp;omega
     have L:=y.Hg;unfold pn app;rw [if_pos rfl,if_pos (by simp at L ⊢;omega),Option.bind_some,Ih (by omega),Option.bind_some,w];obtain ⟨r,M,r2,N,O⟩:=t (j+1) (l++[u.Code[j].A]) y (by simp;omega) (C _ _ (ez k.1 k.2 hc) o) c (by omega) (fun i Pa=>by
      rw [mn] at Pa;rcases List.mem_append.1 Pa with Pa | Pa
      ·exact fun h=>List.mem_append_left _ (Qa i Pa h)
      ·rw [List.mem_singleton.1 Pa];exact fun _=>by simp)
     exact ⟨r,M,fun x d=>r2 x (List.mem_append_left _ d),N,O⟩
   by_cases p:u.Code[j].Op=23
   ·rw [if_pos p];exact go (.inl p)
   ·rw [if_neg p];by_cases q:u.Code[j].Op=29
    ·rw [if_pos q];exact go (.inr q)
    ·rw [if_neg q];exact stay fun h=>by omega
  ·rw [if_neg (by omega),Ih (by omega),Option.bind_some];refine B l g (fun b ⟨i,Pa,e,P⟩=>?_) o;rw [List.take_of_length_le (by omega)] at Qa;rw [← P];exact Qa i Pa e
theorem mF (o:Yh m):∀ (n i:Nat) (l:List Int),xm m k0 l→i≤l.length→(l.length - i)+Ym m.Ya.length l<n→(∀ x ∈ l.take i,Us m x l) →
  ∃ r,qn (ue m) n (i:Int) l=some r∧(∀ x ∈ l,x ∈ r)∧xm m k0 r∧∀ x ∈ r,Us m x r:=by
 have D:=o.1.2;intro n
 induction n with
 | zero=>intro i l _ _ h; omega
 | succ n p =>
  intro i l f Pa F Qa;have G:=f.Hg;unfold qn;by_cases c:i<l.length
  ·have j:=List.getElem_mem c;obtain ⟨u,hu,-⟩:=en (l:=m.Ya) (f.rg _ j).1 (f.rg _ j).2;rw [if_pos (by omega),Option.bind_some,Rj c,Option.bind_some,hu,Option.bind_some];obtain ⟨r,q,r2,s,t⟩:=lF (k0:=k0) (K:=qn (ue m) n) o hu ⟨(f.rg _ j).1,f.rc _ j⟩ i (by omega) (R:=fun a=>(a.length - i)+Ym m.Ya.length a≤n∧i<a.length∧a[i]?=some l[i]∧(∀ x ∈ l,x ∈ a)∧a.take i=l.take i) (fun a w y g=>by
    have:=p (i+1) a w (by omega) (by omega) (fun x d v Wa b k=>by
     have mn:a.take (i+1)=a.take i++[a[i]]:=(List.take_append_getElem g.2.1).symm;rw [mn] at d;rcases List.mem_append.1 d with d | d
     ·rw [g.2.2.2.2] at d;exact g.2.2.2.1 _ (Qa x d v Wa b k)
     ·have e:a[i]=l[i]:=by
       have:=g.2.2.1;rw [List.getElem?_eq_getElem g.2.1] at this;exact Option.some.inj this
      rw [List.mem_singleton.1 d,e,hu] at Wa;rw [← Option.some.inj Wa] at k;exact y b k)
    rw [show ((i:Int)+1)=((i+1:Nat):Int) by omega];exact this) (fun a b H ⟨L,z,A,B,C⟩=>by
    refine ⟨by simp;omega,by simp;omega,?_,fun x d=>List.mem_append_left _ (B x d),?_⟩
    ·rw [List.getElem?_append_left z];exact A
    ·rw [List.take_append_of_le_length (by omega)];exact C) (u.Code.length+1) 0 l f c ⟨by omega,c,List.getElem?_eq_getElem c,fun x d=>d,rfl⟩ (by omega) (by omega) (fun i Pa=>by simp at Pa)
   exact ⟨r,q,r2,s,t⟩
  ·rw [if_neg (by omega)];rw [List.take_of_length_le (by omega)] at Qa;exact ⟨l,rfl,fun x d=>d,f,Qa⟩
theorem JH {fu:Nat}(c:Yh m) (b:0≤k0∧k0<m.Ya.length) (o:1000≤fu):∃ r,Pt fu (ue m) k0=some r∧xm m k0 r∧∀ x,x ∈ r ↔ Ps m k0 x:=by
 have p:=c.1.2;have d:=ez (U:=m.Ya.length) (l:=[]) b.1 b.2 (by simp);have q:=IH m.Ya.length [];have f:xm m k0 [k0]:=⟨fun x a=>by rw [List.mem_singleton.1 a];exact b,fun x a=>by rw [List.mem_singleton.1 a];exact .refl _,by simp at d ⊢;omega⟩;obtain ⟨r,g,r2,e,i⟩:=mF c fu 0 [k0] f (by omega) (by simp at d ⊢;omega) (fun x a=>by simp at a);refine ⟨r,g,e,fun x=>⟨e.rc x,fun h=>?_⟩⟩
 induction h with
 | refl=>exact r2 _ (by simp)
 | step s j k n=>exact i _ n _ j _ k
def Ix (m:sb) (op b x:Int):Bool:=match at_ m.Ya x with
 | some u=>u.Code.any fun i=>decide (i.Op=op) && decide (i.A=b)
 | none=>false
theorem dL {f:ud→Option Bool}{g:ud→Bool}(l:List ud) (d:l.length≤4000000000) (a:∀ x ∈ l,f x=some (g x)):∀ (n i:Nat),i≤l.length→l.length - i<n→∃ r,pr l f n (i:Int)=some r∧(0≤r ↔ (l.drop i).any g=true):=by
 intro n
 induction n with
 | zero=>intro i _ h; omega
 | succ n b =>
  intro i Pa e;unfold pr;by_cases c:i<l.length
  ·rw [if_pos (by omega),Rj c,Option.bind_some,a _ (List.getElem_mem c),Option.bind_some,List.drop_eq_getElem_cons c,List.any_cons];cases j:g l[i] with
   | true=>exact ⟨_,if_pos rfl,by simp⟩
   | false =>
    rw [if_neg (by decide),Ih (by omega),Option.bind_some,Bool.false_or];exact b (i+1) c (by omega)
  ·rw [if_neg (by omega),List.drop_of_length_le (by omega)];exact ⟨_,rfl,by simp⟩
theorem eL {x op b:Int}(d:Yh m) (a:0≤x∧x<m.Ya.length):Bt x (some (ue m)) op b=some (Ix m op b x):=by
 obtain ⟨u,hu,j⟩:=en (l:=m.Ya) a.1 a.2;obtain ⟨⟨-,-,⟨-,o⟩,-⟩,-⟩:=d.2.2.1 u j;unfold Bt Ix lx kx;rw [Option.bind_some,Option.bind_some,hu,Option.bind_some];obtain ⟨r,e,h⟩:=dL (f:=fun k=>yt k op b) (g:=fun i=>decide (i.Op=op) && decide (i.A=b)) u.Code (by omega) (fun i _=>by
  unfold yt;by_cases h:i.Op=op<;>simp [h]) (u.Code.length+1) 0 (by omega) (by omega)
 rw [show ((0:Nat):Int)=0 from rfl] at e;rw [e,Option.bind_some,Option.bind_some];rw [List.drop_zero] at h;congr 1;show _=u.Code.any _;cases c:u.Code.any fun i=>decide (i.Op=op) && decide (i.A=b) with
 | true=>rw [c] at h; simp [h.2 rfl]
 | false=>rw [c] at h; simp only [decide_eq_false_iff_not]; exact fun n=>absurd (h.1 n) (by decide)
def xu (fu:Nat) (m:sb) (op b:Int) (k:Nat):Bool:=match m.Ya[k]? with
 | some u=>decide (u.Kind=4) && ((Pt fu (ue m) (k:Int)).getD []).any (Ix m op b)
 | none=>false
def nj (fu:Nat) (m:sb) (op b:Int) (i:Nat):Nat:=(((List.range m.Ya.length).drop i).filter (xu fu m op b)).length
theorem NB {fu:Nat}{b o op:Int}{K:Int→Option hg}{C:Prop}(e:Yh m) (s:1000≤fu) (u:0≤o∧o≤100) (t:Wj (K (o+1)) C):∀ (n i:Nat) (c:Int),i≤m.Ya.length→m.Ya.length - i<n→0≤c∧c≤i →
  Wj (rn fu (ue m) m b o op K n c (i:Int)) (c+nj fu m op b i≤1∧C):=by
 have v:=e.1.2;intro n
 induction n with
 | zero=>intro i c _ h; omega
 | succ n k =>
  intro i c Pa w hc;unfold rn;by_cases q:i<m.Ya.length
  ·have er:(List.range m.Ya.length).drop i=i::(List.range m.Ya.length).drop (i+1):=by
    rw [List.drop_eq_getElem_cons (by simpa using q),List.getElem_range]
   have Fa:nj fu m op b i=(if xu fu m op b i=true then 1 else 0)+nj fu m op b (i+1):=by
    unfold nj;rw [er,List.filter_cons];split
    ·simp;omega
    ·omega
   have l:∀ x:Bool,x=xu fu m op b i→Wj (Oq c (i:Int) (rn fu (ue m) m b o op K n) x) (c+nj fu m op b i≤1∧C):=fun x f=>by
    unfold Oq;rw [Fa,← f];cases x with
    | true =>
     rw [if_pos rfl,Ih (by omega),Option.bind_some,Ih (by omega),Option.bind_some,if_pos rfl];refine (k (i+1) (c+1) q (by omega) (by omega)).iff ?_;constructor
     ·rintro ⟨j,a⟩;exact ⟨by omega,a⟩
     ·rintro ⟨j,a⟩;exact ⟨by omega,a⟩
    | false =>
     rw [if_neg (by decide),Ih (by omega),Option.bind_some,if_neg (by decide)];refine (k (i+1) c q (by omega) (by omega)).iff ?_;constructor
     ·rintro ⟨j,a⟩;exact ⟨by omega,a⟩
     ·rintro ⟨j,a⟩;exact ⟨by omega,a⟩
   rw [if_pos (by omega),Rj q,Option.bind_some];have Ib:m.Ya[i]?=some m.Ya[i]:=List.getElem?_eq_getElem q;by_cases d:m.Ya[i].Kind=4
   ·obtain ⟨r,p,r2,y⟩:=JH (m:=m) (k0:=(i:Int)) (fu:=fu) e (by omega) s;have z:=r2.Hg;rw [if_pos d,p,Option.bind_some,bE (g:=Ix m op b) r (by omega) (fun x f=>eL e (r2.rg x f)),Option.bind_some];refine l _ ?_;unfold xu;rw [Ib,p];simp [d]
   ·rw [if_neg d];refine l _ ?_;unfold xu;rw [Ib];simp [d]
  ·have Ib:nj fu m op b i=0:=by unfold nj;rw [List.drop_of_length_le (by simp;omega)];rfl
   rw [if_neg (by omega),Ib];by_cases c1:(1:Int)<c
   ·rw [if_pos c1];exact .no (by decide) (by omega)
   ·rw [if_neg c1,Ih (by omega),Option.bind_some];refine t.iff ⟨fun h=>⟨by omega,h⟩,fun h=>h.2⟩
def Ru (fu:Nat) (m:sb):Prop:=∀ b:Nat,b<m.sc.length→nj fu m 26 (b:Int) 0≤1∧nj fu m 27 (b:Int) 0≤1
theorem uJ {fu:Nat}(d:Yh m) (f:1000≤fu):Wj (Qt fu (ue m)) (Ru fu m):=by
 have r:=d.1.1;have g:∀ (n i:Nat),i≤m.sc.length→m.sc.length - i<n→Wj (Pk fu (ue m) m n (i:Int)) (∀ b:Nat,i≤b→b<m.sc.length→nj fu m 26 (b:Int) 0≤1∧nj fu m 27 (b:Int) 0≤1):=by
  intro n
  induction n with
  | zero=>intro i _ h; omega
  | succ n j =>
   intro i Pa s;unfold Pk;by_cases c:i<m.sc.length
   ·rw [if_pos (by omega)];have k:Wj (Ok fu (ue m) m (i:Int) (Pk fu (ue m) m n) 1 (1+1)) (∀ b:Nat,i+1≤b→b<m.sc.length→nj fu m 26 (b:Int) 0≤1∧nj fu m 27 (b:Int) 0≤1):=by
     unfold Ok;rw [if_neg (by decide),Ih (by omega),Option.bind_some];exact j (i+1) c (by omega)
    have k1:Wj (Ok fu (ue m) m (i:Int) (Pk fu (ue m) m n) 2 (0+1)) ((0:Int)+nj fu m 27 (i:Int) 0≤1∧∀ b:Nat,i+1≤b→b<m.sc.length→nj fu m 26 (b:Int) 0≤1∧nj fu m 27 (b:Int) 0≤1):=by
     rw [Ok,if_pos (by decide),show at_ [(26:Int),27] (0+1)=some 27 from rfl,Option.bind_some];exact NB (K:=Ok fu (ue m) m (i:Int) (Pk fu (ue m) m n) 1) d f (by decide) k _ 0 0 (by omega) (by omega) (by omega)
    have k0:Wj (Ok fu (ue m) m (i:Int) (Pk fu (ue m) m n) 3 0) ((0:Int)+nj fu m 26 (i:Int) 0≤1∧(0:Int)+nj fu m 27 (i:Int) 0≤1∧∀ b:Nat,i+1≤b→b<m.sc.length→nj fu m 26 (b:Int) 0≤1∧nj fu m 27 (b:Int) 0≤1):=by
     rw [Ok,if_pos (by decide),show at_ [(26:Int),27] 0=some 26 from rfl,Option.bind_some];exact NB (K:=Ok fu (ue m) m (i:Int) (Pk fu (ue m) m n) 2) d f (by decide) k1 _ 0 0 (by omega) (by omega) (by omega)
    refine k0.iff ⟨fun ⟨l,o,p⟩ b t q=>?_,fun h=>⟨by have:=h i (by omega) c;omega,by have:=h i (by omega) c;omega,fun b a=>h b (by omega)⟩⟩;by_cases e:b=i
    ·subst e;exact ⟨by omega,by omega⟩
    ·exact p b (by omega) q
   ·rw [if_neg (by omega)];exact ⟨_,rfl,⟨fun _ b l o=>by omega,fun _=>rfl⟩,fun _=>rfl⟩
 unfold Qt;rw [Option.bind_some];exact (g _ 0 (by omega) (by omega)).iff ⟨fun h b a=>h b (by omega) a,fun h b _ a=>h b a⟩
def fL (fu:Nat) (m:sb):Prop:=Yh m∧(∀ u ∈ m.Ya,Yr m u)∧Ru fu m
def fA (m:sb):Prop:=∀ u ∈ m.Ya,∃ T,Ro m u T∧∃ h,T 0=some ([],h)∧jg h (Dh u)
theorem KH {fu:Nat}(hm:Ik m) (q:1000000≤fu):∃ w,Ct fu m=some w∧(w.xf=0→w=⟨0,0,0⟩∧fL fu m)∧(Yh m→fA m→Ru fu m→w=⟨0,0,0⟩):=by
 obtain ⟨w,f1,f2,f3⟩:=WK hm;unfold Ct;rw [f1,Option.bind_some];by_cases a:w.xf=0
 ·have b:=f2.1 a;have A:=b.1.2;obtain ⟨r,s,Rd,p⟩:=uJ (fu:=fu) b (by omega);rw [if_neg (fun g=>g a)];have t:∀ (n i:Nat),i≤m.Ya.length→m.Ya.length - i<n→∃ w,Hq fu m n (i:Int)=some w∧(w.xf=0→w=⟨0,0,0⟩∧(∀ u ∈ m.Ya.drop i,Yr m u)∧Ru fu m)∧(fA m→Ru fu m→w=⟨0,0,0⟩):=by
   intro n
   induction n with
   | zero=>intro i _ h; omega
   | succ n v =>
    intro i Pa B;unfold Hq;by_cases c:i<m.Ya.length
    ·obtain ⟨w,x,y,Wc⟩:=tJ (k:=(i:Int)) (u:=m.Ya[i]) (fu:=fu) hm b (Rj c) q;rw [if_pos (by omega),x,Option.bind_some];by_cases e:w.xf=0
     ·obtain ⟨w',f,r2,j⟩:=v (i+1) c (by omega);rw [if_neg (fun g=>g e),Ih (by omega),Option.bind_some];refine ⟨w',f,fun h=>?_,j⟩;obtain ⟨l,d,o⟩:=r2 h;refine ⟨l,fun u hu=>?_,o⟩;rw [List.drop_eq_getElem_cons c] at hu;rcases List.mem_cons.1 hu with rfl | hu
      ·exact (y e).2
      ·exact d u hu
     ·rw [if_pos e];refine ⟨w,rfl,fun h=>absurd h e,fun z _=>?_⟩;obtain ⟨T,t1,t2⟩:=z _ (List.getElem_mem c);exact absurd (Wc T t1 t2) e
    ·rw [if_neg (by omega),s,Option.bind_some,List.drop_of_length_le (by omega)];exact ⟨r,rfl,fun h=>⟨p h,fun u hu=>(List.not_mem_nil hu).elim,Rd.1 h⟩,fun _ h=>p (Rd.2 h)⟩
  obtain ⟨w',f,r2,j⟩:=t (m.Ya.length+1) 0 (by omega) (by omega);refine ⟨w',f,fun h=>?_,fun _=>j⟩;obtain ⟨l,d,o⟩:=r2 h;rw [List.drop_zero] at d;exact ⟨l,b,d,o⟩
 ·rw [if_pos a];exact ⟨w,rfl,fun h=>absurd h a,fun h=>absurd (f2.2 h) a⟩
end
end Go.Y
namespace Go.Y
open Go.Ab Go.jc
structure vg (l:List Int) (live:Int) (ws:List Int):Prop where
 Ei:8≤l.length
 Pa:l.length≤400
 live:live=ws.length
 le:ws.length≤l.length
 take:l.take ws.length=ws
def bj (us:List Int) (t w:Int):Prop:=10≤t→0≤w∧us[w.toNat]?=some (t - 10)
theorem bj.plain {us:List Int}{t w:Int}(h:Jg t):bj us t w:=fun a=>by unfold Jg at h;omega
theorem bj.mono {us:List Int}{t w x:Int}(h:bj us t w):bj (us++[x]) t w:=fun b=>by
 obtain ⟨c,a⟩:=h b;exact ⟨c,by rw [List.getElem?_append_left (List.getElem?_eq_some_iff.1 a).1];exact a⟩
def vi (us:List Int) (ts ws:List Int):Prop:=ws.length=ts.length∧∀ (i:Nat) (t w:Int),ts[i]?=some t→ws[i]?=some w→bj us t w
theorem vi.nil {us:List Int}:vi us [] []:=⟨rfl,fun i t w h=>by cases i<;>cases h⟩
theorem vi.push {us ts ws:List Int}{t w:Int}(h:vi us ts ws) (hw:bj us t w):vi us (ts++[t]) (ws++[w]):=by
 refine ⟨by simp [h.1],fun i Ob w' a b=>?_⟩;by_cases c:i<ts.length
 ·rw [List.getElem?_append_left c] at a;rw [List.getElem?_append_left (by rw [h.1];exact c)] at b;exact h.2 i Ob w' a b
 ·rw [List.getElem?_append_right (by omega)] at a;rw [List.getElem?_append_right (by rw [h.1];omega),h.1] at b;have:i - ts.length=0:=by
   have:=(List.getElem?_eq_some_iff.1 a).1;simp at this;omega
  rw [this] at a b;cases a;cases b;exact hw
theorem vi.pop {us ts ws:List Int}{t:Int}(h:vi us (ts++[t]) ws):∃ a w,ws=a++[w]∧vi us ts a∧bj us t w:=by
 have b:=h.1;rw [List.length_append,List.length_singleton] at b;rcases List.eq_nil_or_concat ws with rfl | ⟨a,w,e⟩
 ·simp at b
 rw [List.concat_eq_append] at e;subst e;have d:a.length=ts.length:=by simpa using b
 refine ⟨a,w,rfl,⟨d,fun i Ob w' f g=>?_⟩,?_⟩
 ·have c:i<ts.length:=(List.getElem?_eq_some_iff.1 f).1;exact h.2 i Ob w' (by rw [List.getElem?_append_left c];exact f) (by rw [List.getElem?_append_left (by omega)];exact g)
 ·exact h.2 ts.length t w (by simp) (by rw [← d];simp)
theorem vi.mono {us ts ws:List Int}{x:Int}(h:vi us ts ws):vi (us++[x]) ts ws:=⟨h.1,fun i t w a b=>(h.2 i t w a b).mono⟩
def cm (us:List Int) (u:Xc) (hs:List Bool) (loc:List Int):Prop:=loc.length=u.Gc.length∧hs.length=u.Gc.length∧∀ (i:Nat) (t w:Int),hs[i]?=some true→u.Gc[i]?=some t→loc[i]?=some w→bj us t w
theorem cm.mono {us:List Int}{u:Xc}{hs:List Bool}{loc:List Int}{x:Int}(h:cm us u hs loc):cm (us++[x]) u hs loc:=⟨h.1,h.2.1,fun i t w a b c=>(h.2.2 i t w a b c).mono⟩
theorem cm.dy {us:List Int}{u:Xc}{hs d:List Bool}{loc:List Int}(h:cm us u hs loc) (e:jg d hs):cm us u d loc:=⟨h.1,e.1.trans h.2.1,fun i t w a b c=>h.2.2 i t w (e.2 i a) b c⟩
abbrev kh:=Int→Uu
structure hl (m:sb) (Va:kh) (us:List Int) (f:pb) (b:Nat) (o:Option Int) (loc st:List Int) (Mf:List Int):Prop where
 base:f.base=(b:Int)
 ex:∃ u bc hs,at_ m.Ya f.unit=some u∧Va f.unit f.Rf=some (bc++Mf,hs)∧cm us u hs loc∧vi us bc st∧(o=none ↔ u.Kind≠2)∧∀ r,o=some r→u.Result=r
inductive Ni (m:sb) (Va:kh) (us:List Int):List pb→List Int→Option Int→Prop
 | nil:Ni m Va us [] [] none
 | snoc {fs:List pb} {ws loc st:List Int} {o:Option Int} {f:pb} {r:Int}:Ni m Va us fs ws o→hl m Va us f ws.length o loc st [r]→Ni m Va us (fs++[f]) (ws++(loc++st)) (some r)
theorem hl.mono {m:sb}{Va:kh}{us:List Int}{f:pb}{b:Nat}{o:Option Int}{loc st Mf:List Int}{x:Int}(h:hl m Va us f b o loc st Mf):hl m Va (us++[x]) f b o loc st Mf:=by
 obtain ⟨a,u,bc,hs,c,d,e,g,i⟩:=h;exact ⟨a,u,bc,hs,c,d,e.mono,g.mono,i⟩
theorem Ni.mono {m:sb}{Va:kh}{us:List Int}{fs:List pb}{ws:List Int}{o:Option Int}{x:Int}(h:Ni m Va us fs ws o):Ni m Va (us++[x]) fs ws o:=by
 induction h with
 | nil=>exact .nil
 | snoc _ a b=>exact .snoc b a.mono
structure Hi (m:sb) (Va:kh) (us:List Int) (c:se) (Mf:List Int):Prop where
 Ig:c.Ig=8
 fg:c.fg=400
 ex:∃ fs ws o f loc st,c.fr=fs++[f]∧Ni m Va us fs ws o∧hl m Va us f ws.length o loc st Mf∧vg c.l c.live (ws++(loc++st))
theorem Hi.mono {m:sb}{Va:kh}{us:List Int}{c:se}{Mf:List Int}{x:Int}(h:Hi m Va us c Mf):Hi m Va (us++[x]) c Mf:=by
 obtain ⟨a,b,fs,ws,o,f,loc,st,d,e,g,i⟩:=h;exact ⟨a,b,fs,ws,o,f,loc,st,d,e.mono,g.mono,i⟩
structure Ug (m:sb) (Va:kh):Prop where
 form:Yh m
 ty:∀ k u,at_ m.Ya k=some u→Ro m u (Va k)∧∃ h,Va k 0=some ([],h)∧jg h (Dh u)
theorem Ug.of {m:sb}(a:Yh m) (b:fA m):∃ Va,Ug m Va:=by
 classical
 have ex:∀ k:Int,∃ T:Uu,∀ u,at_ m.Ya k=some u→Ro m u T∧∃ h,T 0=some ([],h)∧jg h (Dh u):=by
  intro k;cases e:at_ m.Ya k with
  | none=>exact ⟨fun _=>none,fun u h=>by cases h⟩
  | some u =>
   obtain ⟨hu,-⟩:=at_mem e;obtain ⟨T,c,d⟩:=b u hu;exact ⟨T,fun f h=>by cases h;exact ⟨c,d⟩⟩
 exact ⟨fun k=>Classical.choose (ex k),a,fun k u h=>Classical.choose_spec (ex k) u h⟩
def lj (c:se):Option Int:=(c.fr[0]?).map (·.unit)
inductive Oi (m:sb) (Va:kh) (us:List Int) (cs:List se):Nat→List Int→List Nat→Prop
 | own {j:Nat} {c:se} {u:Xc} {k:Int} {Mf:List Int}:cs[j]?=some c→c.state=2→c.up=none→Hi m Va us c Mf→us[j]?=some k→at_ m.Ya k=some u→u.Kind=4→Oi m Va us cs j Mf [j]
 | up {j i:Nat} {c:se} {u:Xc} {k:Int} {Mf:List Int} {kd:List Nat}:cs[j]?=some c→c.state=2→c.up=some i→Hi m Va us c Mf→us[j]?=some k→at_ m.Ya k=some u→u.Kind=3→Oi m Va us cs i [u.Result] kd→j ∉ kd→Oi m Va us cs j Mf (j::kd)
structure cj (m:sb) (Va:kh) (us:List Int) (p:xc) (Mf:List Int) (kd:List Nat):Prop where
 path:Oi m Va us p.cs p.now Mf kd
 len:us.length=p.cs.length
 un:∀ (j:Nat) (c:se),p.cs[j]?=some c→lj c=us[j]?
 Vf:∀ (j:Nat) (c:se),p.cs[j]?=some c→c.fr.length≤40
 off:∀ (j:Nat) (c:se),p.cs[j]?=some c→j ∉ kd→c.up=none∧∃ k u,us[j]?=some k∧at_ m.Ya k=some u∧u.Kind=3∧(c.state=0∧Hi m Va us c []∨c.state=1∧Hi m Va us c [u.je]∨c.state=3)
end Go.Y
namespace Go.Y
open Go.Ab Go.jc
theorem Af {n:Int}(h:-9223372036854775808≤n∧n≤9223372036854775807):i64 n=some n:=if_pos h
theorem Ha {α β:Type}{x:α}{f:α→Option β}:Option.bind (some x) f=f x:=rfl
theorem gn {α:Type}{l:List α}{i:Nat}:at_ l (i:Int)=l[i]?:=by simp [at_]
theorem kq {α:Type}{l:List α}{z:Int}(h:0≤z):at_ l z=l[z.toNat]?:=if_pos h
theorem ED {n:Int}(h:-9223372036854775808≤n∧n≤9223372036854775807):Un n=n:=by simp only [Un,IntKind.wrap_i64];omega
theorem vg.get {l ws:List Int}{live v:Int}{k:Nat}(h:vg l live ws) (a:ws[k]?=some v):at_ l (k:Int)=some v:=by
 rw [gn];rw [← h.take,List.getElem?_take] at a;split at a
 ·exact a
 ·cases a
theorem vg.set {l ws:List Int}{live v:Int}{k:Nat}(h:vg l live ws):vg (l.set k v) live (ws.set k v) where
 Ei:=by simpa using h.Ei
 Pa:=by simpa using h.Pa
 live:=by simpa using h.live
 le:=by simpa using h.le
 take:=by
  rw [List.length_set,List.take_set,h.take]
theorem yC {l ws:List Int}{live:Int}{k:Nat}(h:vg l live ws) (c:8≤k) (d:k≤400) (b:ws.length≤k):∃ a,Cr l live 8 400 (k:Int)=some (a,live,8,400)∧vg a live ws∧a.length=k:=by
 have hc:cut l 0 live=some ws:=by
  unfold cut;have:=h.le;have:=h.live;rw [if_pos (by omega)];rw [h.live];simp [h.take]
 have hm:cl (k:Int)=some k:=by
  unfold cl;rw [if_pos (by omega)];simp
 have e:sq (List.replicate k (0:Int)) ws=ws++List.replicate (k - ws.length) 0:=by
  simp [sq,List.take_of_length_le b]
 refine ⟨_,by rw [Cr,hm,Ha,hc,Ha],?_,?_⟩
 ·rw [e];exact ⟨by simp;omega,by simp;omega,h.live,by simp,by simp⟩
 ·rw [e];simp;omega
theorem zC {l ws:List Int}{live v:Int}(h:vg l live ws) (hw:ws.length<400):∃ f,Jo l live 8 400 v=some (true,f,live+1,8,400)∧vg f (live+1) (ws++[v]):=by
 have g:=h.live;have hle:=h.le;have j:=h.Ei;have m:=h.Pa;have fin:∀ a,vg a live ws→ws.length<a.length→br v live 8 400 a=some (true,a.set live.toNat v,live+1,8,400)∧vg (a.set live.toNat v) (live+1) (ws++[v]):=by
  intro a b d;have i:at_ a live=some a[ws.length]:=by
   rw [g,gn];exact List.getElem?_eq_getElem d
  refine ⟨by rw [br,i,Ha,Af (by omega),Ha],?_⟩;have e:live.toNat=ws.length:=by omega
  rw [e];refine ⟨by simpa using b.Ei,by simpa using b.Pa,by simp [g],by simp;omega,?_⟩;rw [List.length_append,List.length_singleton,List.take_succ_eq_append_getElem (by simpa using d)];simp [List.take_set,b.take,List.set_eq_of_length_le]
 rw [Jo,if_neg (by omega),Mv];by_cases c:live=(l.length:Int)
 ·rw [if_pos c,Af (by omega),Ha];obtain ⟨a,ra,b,d⟩:=yC (k:=min (2*l.length) 400) h (by omega) (by omega) (by omega);have e:min (2*(l.length:Int)) 400=((min (2*l.length) 400:Nat):Int):=by omega
  rw [e,ra,Ha];obtain ⟨f1,f2⟩:=fin a b (by omega);exact ⟨_,f1,f2⟩
 ·rw [if_neg c];obtain ⟨f1,f2⟩:=fin l h (by omega);exact ⟨_,f1,f2⟩
theorem vJ {l ws:List Int}{live s bx t v:Int}(h:vg l live ws) (hw:ws.length<400):∃ a,Zj s bx t l live 8 400 v=some (s,bx,t,a,live+1,8,400)∧vg a (live+1) (ws++[v]):=by
 obtain ⟨a,k1,b⟩:=zC (v:=v) h hw;exact ⟨a,by rw [Zj,k1,Ha];rfl,b⟩
theorem Lz {l ws vs:List Int}{live:Int}(h:vg l live (ws++vs)):∃ f,dq l live 8 400 (vs.length:Int)=some (f,live - vs.length,8,400)∧vg f (live - vs.length) ws:=by
 have g:=h.live;have hle:=h.le;have i:=h.Ei;have j:=h.Pa;rw [List.length_append] at g hle;have m:quo (l.length:Int) 4=some ((l.length / 4:Nat):Int):=by
  rw [quo,if_neg (by omega),ED (by rw [Int.tdiv_eq_ediv_of_nonneg (by omega)];omega),Int.tdiv_eq_ediv_of_nonneg (by omega)];rfl
 have n:quo (l.length:Int) 2=some ((l.length / 2:Nat):Int):=by
  rw [quo,if_neg (by omega),ED (by rw [Int.tdiv_eq_ediv_of_nonneg (by omega)];omega),Int.tdiv_eq_ediv_of_nonneg (by omega)];rfl
 have a:vg l (live - vs.length) ws:=⟨i,j,by omega,by omega,by
  have:=h.take;have e:(ws++vs).take ws.length=ws:=by simp
  rw [← e,← this,List.take_take];simp⟩
 rw [dq,Af (by omega),Ha,m,Ha];have small:∀ b,b=false→rr l 8 400 (live - vs.length) b=some (l,live - vs.length,8,400):=by
  intro b o;subst o;rfl
 by_cases c:live - vs.length≤((l.length / 4:Nat):Int)
 ·rw [if_pos c];by_cases d:(8:Int)<l.length
  ·rw [decide_eq_true d,rr,if_pos rfl,n,Ha];obtain ⟨p,ra,q,r⟩:=yC (k:=max (l.length / 2) 8) a (by omega) (by omega) (by omega);have e:max ((l.length / 2:Nat):Int) 8=((max (l.length / 2) 8:Nat):Int):=by omega
   rw [e,ra,Ha];exact ⟨p,rfl,q⟩
  ·rw [decide_eq_false d];exact ⟨l,small _ rfl,a⟩
 ·rw [if_neg c];exact ⟨l,small _ rfl,a⟩
theorem FD {l ws:List Int}{live s bx t v:Int}(h:vg l live (ws++[v])):∃ a,Dj s bx t l live 8 400=some (v,s,bx,t,a,live - 1,8,400)∧vg a (live - 1) ws:=by
 have b:=h.live;have hle:=h.le;have f:=h.Pa;rw [List.length_append,List.length_singleton] at b hle;obtain ⟨a,e,c⟩:=Lz (vs:=[v]) h;refine ⟨a,?_,c⟩;have d:at_ l (live - 1)=some v:=by
  have e:live - 1=(ws.length:Int):=by omega
  rw [e];exact h.get (by simp)
 rw [Dj,Qm,Ha,Af (by omega),Ha,d,Ha];rw [show ((([v]:List Int).length:Nat):Int)=1 from rfl] at e;rw [e,Ha]
theorem Kw {l ws:List Int}{live s bx t v:Int}(h:vg l live ws):∃ b Ob a d,Zj s bx t l live 8 400 v=some (b,bx,Ob,a,d,8,400)∧(b=s∧Ob=t∧ws.length<400∧vg a d (ws++[v])∨b=5∧vg a d ws):=by
 by_cases c:ws.length<400
 ·obtain ⟨a,e,g⟩:=vJ (s:=s) (bx:=bx) (t:=t) (v:=v) h c;exact ⟨s,t,a,_,e,.inl ⟨rfl,rfl,c,g⟩⟩
 ·have i:=h.live;have j:=h.le;have k:=h.Pa;have e:Jo l live 8 400 v=some (false,l,live,8,400):=by rw [Jo,if_pos (by omega)]
  rw [Zj,e,Ha,if_neg (by simp),Tk];by_cases f:s≠5
  ·rw [if_pos f,Aj,Ha,Ha];exact ⟨5,4,l,live,rfl,.inr ⟨rfl,h⟩⟩
  ·rw [if_neg f,Ha];exact ⟨s,t,l,live,rfl,.inr ⟨by omega,h⟩⟩
end Go.Y
namespace Go.Y
open Go.Ab Go.jc
theorem Wl {e x:Int}(h:Fe e x=0) (a:x≠0):False:=bp a h
theorem lk {s:gg}{t:Int}(h:(af s t).2=0):s.2=0∧(af s t).1=s.1++[t]:=by
 unfold af at h ⊢;simp only at h ⊢;split at h
 ·exact (Wl h (by decide)).elim
 ·exact ⟨h,by trivial⟩
theorem Zr {s:gg}(h:(Ac s).2.2=0):s.2=0∧s.1=(Ac s).2.1++[(Ac s).1]:=by
 unfold Ac at h ⊢;rcases List.eq_nil_or_concat s.1 with e | ⟨l,t,e⟩
 ·rw [e] at h;exact (Wl h (by decide)).elim
 ·rw [List.concat_eq_append] at e;rw [e] at h ⊢;simp only [List.getLast?_concat,List.dropLast_concat] at h ⊢;exact ⟨h,by trivial⟩
theorem Vk:∀ (ts:List Int) (s:gg),(Se ts s).2=0→s.2=0∧s.1=(Se ts s).1++ts.reverse
 | [],s,h=>⟨h,by simp [Se]⟩
 | t::ts,s,h=>by
  rw [Se] at h ⊢;obtain ⟨a,b⟩:=Vk ts _ h;simp only at a b;split at a
  ·exact (Wl a (by decide)).elim
  ·rename_i q;obtain ⟨Ia,Ta⟩:=Zr a;refine ⟨Ia,?_⟩;rw [List.reverse_cons,← List.append_assoc,← b,Ta,Decidable.not_not.1 q]
theorem wJ {s:gg}(h:(Sl s).2=0):s.2=0∧s.1=[]∧(Sl s).1=[]:=by
 unfold Sl at h ⊢;simp only at h ⊢;split at h
 ·exact (Wl h (by decide)).elim
 ·rename_i q;have:s.1=[]:=List.eq_nil_of_length_eq_zero (by omega);exact ⟨h,this,this⟩
structure dj (b:Mc):Prop where
 c1:1≤b.l.length
 c2:b.l.length≤20
 f0:0≤b.first
 f1:b.first<b.l.length
 de:0≤b.n
 Ce:b.n≤b.l.length
def wi (m:sb) (Sb:List Mc):Prop:=Sb.length=m.sc.length∧∀ b ∈ Sb,dj b
theorem ck {α:Type}{l:List α}{i:Int}(a:0≤i) (b:i<l.length):∃ x,at_ l i=some x∧x ∈ l:=by
 have Pa:i.toNat<l.length:=by omega
 exact ⟨l[i.toNat],by rw [kq a,List.getElem?_eq_getElem Pa],List.getElem_mem Pa⟩
theorem wi.at {m:sb}{Sb:List Mc}(h:wi m Sb){i:Int}(a:0≤i∧i<m.sc.length):∃ b,at_ Sb i=some b∧dj b:=by
 obtain ⟨b,c,hm⟩:=ck (l:=Sb) a.1 (by rw [h.1];exact a.2);exact ⟨b,c,h.2 b hm⟩
theorem wi.set {m:sb}{Sb:List Mc}(h:wi m Sb){k:Nat}{b:Mc}(a:dj b):wi m (Sb.set k b):=⟨by simpa using h.1,fun c hc=>by
 rcases List.mem_or_eq_of_mem_set hc with hc | rfl
 ·exact h.2 c hc
 ·exact a⟩
theorem gL {Sb:List Mc}{i:Int}{b:Mc}(h:at_ Sb i=some b):iu Sb i=some (decide (b.n=b.l.length)):=by rw [iu,h,Ha];rfl
theorem xJ {Sb:List Mc}{i:Int}{b:Mc}(h:at_ Sb i=some b):Rt Sb i=some (decide (b.n=0)):=by rw [Rt,h,Ha];rfl
theorem GD {a b:Int}(c:0≤a) (e:a≤100) (d:0<b):∃ r,an a b=some r∧0≤r∧r<b:=by
 refine ⟨a.tmod b,?_,Int.tmod_nonneg _ c,Int.tmod_lt_of_pos _ d⟩;unfold an;rw [if_neg (by omega)]
theorem pM {m:sb}{Sb:List Mc}(h:wi m Sb){i v:Int}{b:Mc}(d:at_ Sb i=some b) (c:dj b) (s:b.n≠b.l.length):∃ Lh,vu Sb i v=some Lh∧wi m Lh:=by
 have f:=c.c1;have g:=c.c2;have j:=c.f0;have k:=c.f1;have t:=c.de;have u:=c.Ce;obtain ⟨r,e,o,p⟩:=GD (a:=b.first+b.n) (b:=(b.l.length:Int)) (by omega) (by omega) (by omega);obtain ⟨x,q,-⟩:=ck (l:=b.l) o p;rw [vu,d,Ha,ox,Af (by omega),Ha,e,Ha,q,Ha,iw,Af (by omega),Ha,Ha];exact ⟨_,rfl,h.set ⟨by simpa using f,by simpa using g,j,by simpa using k,by show 0≤b.n+1;omega,by show b.n+1≤_;simp;omega⟩⟩
theorem hL {m:sb}{Sb:List Mc}(h:wi m Sb){i:Int}{b:Mc}(d:at_ Sb i=some b) (c:dj b) (s:b.n≠0):∃ v Lh,ju Sb i=some (v,Lh)∧wi m Lh:=by
 have f:=c.c1;have g:=c.c2;have j:=c.f0;have k:=c.f1;have t:=c.de;have u:=c.Ce;obtain ⟨r,e,o,p⟩:=GD (a:=b.first+1) (b:=(b.l.length:Int)) (by omega) (by omega) (by omega);obtain ⟨x,q,-⟩:=ck (l:=b.l) j k;rw [ju,d,Ha,Xw,q,Ha,Af (by omega),Ha,e,Ha,Nv,Af (by omega),Ha,Ha];exact ⟨_,_,rfl,h.set ⟨f,g,o,p,by show 0≤b.n - 1;omega,by show b.n - 1≤(b.l.length:Int);omega⟩⟩
end Go.Y
namespace Go.Y
open Go.Ab Go.jc
variable {m:sb}{Va:kh}{us:List Int}{Sb:List Mc}
def Vb (Sb:List Mc) (s bx:Int):Prop:=s=1∨s=2∧(∃ b,at_ Sb bx=some b∧b.n=b.l.length)∨s=3∧∃ b,at_ Sb bx=some b∧b.n=0
theorem Nl {α:Type}{l:List α}{x:α}:at_ (l++[x]) (l.length:Int)=some x:=by rw [gn];simp
theorem Ls {α:Type}{l:List α}{x:α}:(((l++[x]).length:Nat):Int) - 1=(l.length:Int):=by simp
structure vq (m:sb) (Va:kh) (us:List Int) (f:pb) (o:Option Int) (loc st:List Int) (u:Xc) (i:ud) (bc:List Int) (hs:List Bool):Prop where
 hu:at_ m.Ya f.unit=some u
 fl:u ∈ m.Ya
 Pa:at_ u.Code f.Rf=some i
 nn:Ml m u i
 Qa:Zo m u
 lc:cm us u hs loc
 ws:vi us bc st
 Qs:o=none ↔ u.Kind≠2
 res:∀ r,o=some r→u.Result=r
 ok:(Ad m u i (bc,0) hs).2=0
 jmp:(i.Op=21∨i.Op=22)→∃ a,Va f.unit i.A=some ((Ad m u i (bc,0) hs).1,a)∧jg a (Ai i hs)
 YA:follows i→∃ a,Va f.unit (f.Rf+1)=some ((Ad m u i (bc,0) hs).1,a)∧jg a (Ai i hs)
 ey:0≤f.Rf∧f.Rf<4000
theorem qM (R:Ug m Va){f:pb}{b:Nat}{o:Option Int}{loc st:List Int}(h:hl m Va us f b o loc st []):∃ u i bc hs,vq m Va us f o loc st u i bc hs:=by
 obtain ⟨q,u,bc,hs,a,c,d,e,g,j⟩:=h;rw [List.append_nil] at c;obtain ⟨T,-⟩:=R.ty _ u a;obtain ⟨i,ra,l,n,p⟩:=T.step _ _ _ c;obtain ⟨fl,-⟩:=at_mem a;obtain ⟨Qa,Wa⟩:=R.form.2.2.1 u fl;obtain ⟨Mb,ya,Ia⟩:=at_mem ra;have r:=Qa.2.2.1.2;exact ⟨u,i,bc,hs,a,fl,ra,Wa i Mb,Qa,d,e,g,j,l,fun k=>(n k).2,fun k=>(p k).2,ya,by omega⟩
theorem LH (g:wi m Sb){i:ud}{u:Xc}(Wa:Ml m u i) (s bx t:Int):∃ q a Dg,St Sb s bx t i=some (q,Sb,a,Dg,t)∧Vb Sb a Dg∧(a=1→(i.Op=26→∃ b,at_ Sb i.A=some b∧dj b∧b.n≠b.l.length)∧(i.Op=27→∃ b,at_ Sb i.A=some b∧dj b∧b.n≠0)):=by
 have j:=Wa.2.2.2.2.2.2;unfold St;have k:∀ q:Bool,i.Op≠26→(q=true→∃ b,at_ Sb i.A=some b∧b.n=0)→(q=false→i.Op=27→∃ b,at_ Sb i.A=some b∧dj b∧b.n≠0) →
   ∃ o a Dg,Ap i Sb t q=some (o,Sb,a,Dg,t)∧Vb Sb a Dg∧(a=1→(i.Op=26→∃ b,at_ Sb i.A=some b∧dj b∧b.n≠b.l.length)∧(i.Op=27→∃ b,at_ Sb i.A=some b∧dj b∧b.n≠0)):=by
  intro q p r v;unfold Ap;by_cases f:q=true
  ·rw [if_pos f];exact ⟨_,3,i.A,rfl,.inr (.inr ⟨rfl,r f⟩),fun h=>by cases h⟩
  ·rw [if_neg f];exact ⟨_,1,0,rfl,.inl rfl,fun _=>⟨fun h=>absurd h p,v (by simpa using f)⟩⟩
 by_cases c:i.Op=26
 ·rw [if_pos c];obtain ⟨b,e,hm⟩:=g.at (j (.inl c));rw [gL e,Ha];unfold Pq;by_cases d:b.n=b.l.length
  ·rw [decide_eq_true d,if_pos rfl];exact ⟨_,2,i.A,rfl,.inr (.inl ⟨rfl,b,e,d⟩),fun h=>by cases h⟩
  ·rw [decide_eq_false d,if_neg (by simp),if_neg (by omega)];unfold Ap;rw [if_neg (by simp)];exact ⟨_,1,0,rfl,.inl rfl,fun _=>⟨fun _=>⟨b,e,hm,d⟩,fun h=>by omega⟩⟩
 ·rw [if_neg c];unfold Pq;rw [if_neg (by simp)];by_cases d:i.Op=27
  ·rw [if_pos d];obtain ⟨b,e,hm⟩:=g.at (j (.inr d));rw [xJ e,Ha];exact k _ c (fun h=>⟨b,e,by simpa using h⟩) (fun h _=>⟨b,e,hm,by simpa using h⟩)
  ·rw [if_neg d];exact k false c (fun h=>by cases h) (fun _ h=>absurd h d)
theorem cD (R:Ug m Va) (d:wi m Sb){fs:List pb}{f:pb}{b:Nat}{o:Option Int}{loc st:List Int}(h:hl m Va us f b o loc st []) (j:fs.length≤100000){s bx t:Int}(hs:s≤3) :
  ∃ u i bc c a Dg,vq m Va us f o loc st u i bc c∧kl m Sb s bx t (fs++[f])=some (Sb,a,Dg,t,fs++[f])∧Vb Sb a Dg∧(a=1→(i.Op=26→∃ b,at_ Sb i.A=some b∧dj b∧b.n≠b.l.length)∧(i.Op=27→∃ b,at_ Sb i.A=some b∧dj b∧b.n≠0)):=by
 obtain ⟨u,i,bc,c,N⟩:=qM R h;obtain ⟨q,a,Dg,e,ra,g⟩:=LH d N.nn s bx t;refine ⟨u,i,bc,c,a,Dg,N,?_,ra,g⟩;rw [kl,if_pos hs,Ls,Af (by omega),Ha,Nl,Ha,Ov,Nl,Ha,N.hu,Ha,N.Pa,Ha,e,Ha]
theorem Lw {fr:List pb}{s bx t:Int}(hs:¬ s≤3):kl m Sb s bx t fr=some (Sb,s,bx,t,fr):=by rw [kl,if_neg hs]
end Go.Y
namespace Go.Y
open Go.Ab Go.jc
variable {m:sb}{Va:kh}{us:List Int}{Sb:List Mc}
abbrev ZM:=Bool×List Mc×Int×Int×Int×List Int×Int×List pb×List Int×Int×Int×Int
def qp (m:sb) (Va:kh) (us:List Int) (c:se) (out:List Int) (r:ZM):Prop:=∃ Lh a Dg Ob out' ua b d,r=(true,Lh,a,Dg,Ob,out',c.state,ua,b,d,8,400)∧wi m Lh∧out'.length≤out.length+1∧ua.length≤40∧(ua[0]?).map (·.unit)=lj c ∧
 (a=5∨Vb Lh a Dg∧Hi m Va us ⟨c.state,c.up,ua,b,d,8,400⟩ [])
theorem Hn {α:Type}{l:List α}{x y:α}:(l++[x]).set ((l.length:Int)).toNat y=l++[y]:=by rw [Int.toNat_natCast];exact List.set_append_right _ _ (Nat.le_refl _) |>.trans (by simp)
theorem iL {fs:List pb}{f g:pb}(h:f.unit=g.unit):((fs++[f])[0]?).map (·.unit)=((fs++[g])[0]?).map (·.unit):=by
 cases fs with
 | nil=>simp [h]
 | cons x l=>rfl
theorem Vb.le {s bx:Int}(h:Vb Sb s bx):s≤3:=by rcases h with h | h | h<;>omega
theorem Ds (R:Ug m Va){c:se}{out out':List Int}{Lh:List Mc}(g:wi m Lh) (j:out'.length≤out.length+1){s bx t a:Int}{ua:List pb}{b:List Int}(d:ua.length≤40) (k:(ua[0]?).map (·.unit)=lj c)
  (h:s=5∨s=1∧Hi m Va us ⟨c.state,c.up,ua,b,a,8,400⟩ []):∃ r,gi m s bx t Lh out' c.state ua a 8 400 b=some r∧qp m Va us c out r:=by
 rcases h with h | ⟨h,l⟩
 ·rw [gi,Lw (by omega),Ha];exact ⟨_,rfl,Lh,s,bx,t,out',ua,b,a,rfl,g,j,d,k,.inl h⟩
 ·obtain ⟨-,-,fs,ws,o,f,loc,st,e,v,n,w⟩:=id l;simp only at e;obtain ⟨u,i,bc,x,p,Dg,N,ra,q,-⟩:=cD R g n (fs:=fs) (s:=s) (bx:=bx) (t:=t) (by rw [e] at d;simp at d;omega) (by omega);rw [gi,e,ra,Ha];refine ⟨_,rfl,Lh,p,Dg,t,out',fs++[f],b,a,rfl,g,j,by rw [← e];exact d,by rw [← e];exact k,.inr ⟨q,?_⟩⟩;rw [← e];exact l
theorem jL {op a b:Int}(h:8≤op∧op≤20) (f:op=11∨op=12→b≠0):∃ r,uu op a b=some r:=by
 have Dm:∀ q:Bool,∃ r,jl q=some r:=fun q=>by cases q<;>exact ⟨_,rfl⟩
 have g:∀ q,(op=11∨op=12)→∃ r,sr op a b q=some r:=by
  intro q i;unfold sr;split
  ·obtain ⟨r,e⟩:=Dm (decide (op=11));rw [e,Ha];exact ⟨_,rfl⟩
  ·split
   ·rw [quo,if_neg (f i),Ha];exact ⟨_,rfl⟩
   ·rw [an,if_neg (f i),Ha];exact ⟨_,rfl⟩
 unfold uu;by_cases rh:op=8
 ·rw [if_pos rh];exact ⟨_,rfl⟩
 rw [if_neg rh];by_cases c9:op=9
 ·rw [if_pos c9];exact ⟨_,rfl⟩
 rw [if_neg c9];by_cases j:op=10
 ·rw [if_pos j];exact ⟨_,rfl⟩
 rw [if_neg j];have k:∀ q,(q=true ↔ op=11∨op=12)→∃ r,tr op a b q=some r:=by
  intro q c;unfold tr;by_cases d:q=true
  ·rw [if_pos d];split
   ·exact g _ (c.1 d)
   ·exact g _ (c.1 d)
  ·rw [if_neg d];have l:¬ (op=11∨op=12):=fun h=>d (c.2 h);have go:∀ x:Bool,∃ r,((jl x).bind fun r=>some r)=some r:=fun x=>by
    obtain ⟨r,e⟩:=Dm x;rw [e];exact ⟨_,rfl⟩
   by_cases d13:op=13
   ·rw [if_pos d13];exact go _
   rw [if_neg d13];by_cases d14:op=14
   ·rw [if_pos d14];exact go _
   rw [if_neg d14];by_cases d15:op=15
   ·rw [if_pos d15];exact go _
   rw [if_neg d15];by_cases d16:op=16
   ·rw [if_pos d16];exact go _
   rw [if_neg d16];by_cases d17:op=17
   ·rw [if_pos d17];exact go _
   rw [if_neg d17];by_cases d18:op=18
   ·rw [if_pos d18];exact go _
   rw [if_neg d18];split<;>exact ⟨_,rfl⟩
 by_cases Jj:op=11
 ·rw [if_pos Jj];exact k _ (by simp [Jj])
 ·rw [if_neg Jj];exact k _ (by simp [Jj])
theorem vq.next {f:pb}{b:Nat}{o:Option Int}{loc st loc' st':List Int}{u:Xc}{i:ud}{bc:List Int}{hs:List Bool}(N:vq m Va us f o loc st u i bc hs) (a:f.base=(b:Int)) (c:follows i) (d:cm us u (Ai i hs) loc') (hw:vi us (Ad m u i (bc,0) hs).1 st'):hl m Va us ⟨f.unit,f.Rf+1,f.base⟩ b o loc' st' []:=by
 obtain ⟨e,ra,g⟩:=N.YA c;exact ⟨a,u,_,e,N.hu,by rw [List.append_nil];exact ra,d.dy g,hw,N.Qs,N.res⟩
theorem vq.jump {f:pb}{b:Nat}{o:Option Int}{loc st loc' st':List Int}{u:Xc}{i:ud}{bc:List Int}{hs:List Bool}(N:vq m Va us f o loc st u i bc hs) (a:f.base=(b:Int)) (c:i.Op=21∨i.Op=22) (d:cm us u (Ai i hs) loc') (hw:vi us (Ad m u i (bc,0) hs).1 st'):hl m Va us ⟨f.unit,i.A,f.base⟩ b o loc' st' []:=by
 obtain ⟨e,ra,g⟩:=N.jmp c;exact ⟨a,u,_,e,N.hu,by rw [List.append_nil];exact ra,d.dy g,hw,N.Qs,N.res⟩
theorem Ln {i:ud}{hs:List Bool}(h:i.Op≠4):Ai i hs=hs:=if_neg h
end Go.Y
namespace Go.Y
open Go.Ab Go.jc
variable {m:sb}{Va:kh}{us:List Int}{Sb:List Mc}
structure Op (m:sb) (Va:kh) (us:List Int) (c:se) (fs:List pb) (f:pb) (ws:List Int) (o:Option Int) (loc st:List Int) (u:Xc) (i:ud) (bc:List Int) (hs:List Bool):Prop where
 fr:c.fr=fs++[f]
 Ei:Ni m Va us fs ws o
 base:f.base=(ws.length:Int)
 ab:vq m Va us f o loc st u i bc hs
 Am:vg c.l c.live (ws++(loc++st))
 Ig:c.Ig=8
 fg:c.fg=400
 Vf:c.fr.length≤40
section
variable {c:se}{fs:List pb}{f:pb}{ws:List Int}{o:Option Int}{loc st:List Int}{u:Xc}{i:ud}{bc:List Int}{hs:List Bool}{out out':List Int}{Lh:List Mc}{bx t:Int}
abbrev f1 (f:pb):pb:=⟨f.unit,f.Rf+1,f.base⟩
theorem Op.un (O:Op m Va us c fs f ws o loc st u i bc hs){g:pb}(h:g.unit=f.unit):((fs++[g])[0]?).map (·.unit)=lj c:=by
 unfold lj;rw [O.fr];exact iL h
theorem Op.len (O:Op m Va us c fs f ws o loc st u i bc hs){g:pb}:(fs++[g]).length≤40:=by have:=O.Vf;rw [O.fr] at this;simpa using this
theorem Op.on (O:Op m Va us c fs f ws o loc st u i bc hs) (R:Ug m Va) (d:wi m Lh) (e:out'.length≤out.length+1){g:pb}(h:g.unit=f.unit){loc' st' a:List Int}{b:Int}(j:hl m Va us g ws.length o loc' st' []) (k:vg a b (ws++(loc'++st'))) :
  ∃ r,gi m 1 bx t Lh out' c.state (fs++[g]) b 8 400 a=some r∧qp m Va us c out r :=
 Ds R d e O.len (O.un h) (.inr ⟨rfl,rfl,rfl,fs,ws,o,g,loc',st',rfl,O.Ei,j,k⟩)
theorem Op.push (O:Op m Va us c fs f ws o loc st u i bc hs) (R:Ug m Va) (b:wi m Lh) (d:out'.length≤out.length+1){a j k:List Int}{l v ty:Int}(n:vg k l (ws++(loc++a))) (hw:vi us j a) (Wa:bj us ty v) (e:(Ad m u i (bc,0) hs).1=j++[ty]) (p:follows i) (w:i.Op≠4) :
  ∃ r,((Zj 1 bx t k l 8 400 v).bind fun q=>gi m q.1 q.2.1 q.2.2.1 Lh out' c.state (fs++[f1 f]) q.2.2.2.2.1 q.2.2.2.2.2.1 q.2.2.2.2.2.2 q.2.2.2.1)=some r∧qp m Va us c out r:=by
 obtain ⟨y,Ob,z,A,ra,h⟩:=Kw (s:=1) (bx:=bx) (t:=t) (v:=v) n;rw [ra,Ha];rcases h with ⟨rfl,rfl,-,x⟩ | ⟨rfl,-⟩
 ·refine O.on R b d (g:=f1 f) rfl (loc':=loc) (st':=a++[v]) ?_ (by simpa [List.append_assoc] using x);exact O.ab.next O.base p (by rw [Ln w];exact O.ab.lc) (by rw [e];exact hw.push Wa)
 ·exact Ds R b d O.len (O.un (g:=f1 f) rfl) (.inl rfl)
theorem Op.pop (O:Op m Va us c fs f ws o loc st u i bc hs){d:List Int}{ty:Int}(e:bc=d++[ty]):∃ a w b,st=a++[w]∧vi us d a∧bj us ty w∧Dj 1 bx t c.l c.live 8 400=some (w,1,bx,t,b,c.live - 1,8,400)∧vg b (c.live - 1) (ws++(loc++a)):=by
 have hw:=O.ab.ws;rw [e] at hw;obtain ⟨a,w,rfl,h,j⟩:=hw.pop;have g:=O.Am;rw [← List.append_assoc,← List.append_assoc] at g;obtain ⟨b,ra,k⟩:=FD (s:=1) (bx:=bx) (t:=t) g;exact ⟨a,w,b,rfl,h,j,ra,by rw [← List.append_assoc];exact k⟩
theorem BC {e:List Int}{b:Int}{d f:List Int}{ty:Int}(g:vg e b (ws++(loc++d))) (hw:vi us (f++[ty]) d):∃ a w c,d=a++[w]∧vi us f a∧bj us ty w∧Dj 1 bx t e b 8 400=some (w,1,bx,t,c,b - 1,8,400)∧vg c (b - 1) (ws++(loc++a)):=by
 obtain ⟨a,w,rfl,h,i⟩:=hw.pop;rw [← List.append_assoc,← List.append_assoc] at g;obtain ⟨c,ra,j⟩:=FD (s:=1) (bx:=bx) (t:=t) g;exact ⟨a,w,c,rfl,h,i,ra,by rw [← List.append_assoc];exact j⟩
theorem dD {l:List Int}{live:Int}{k:Nat}{w:Int}(h:vg l live (ws++(loc++st))) (a:loc[k]?=some w):at_ l ((ws.length+k:Nat):Int)=some w:=by
 refine h.get ?_;have:=(List.getElem?_eq_some_iff.1 a).1;rw [List.getElem?_append_right (by omega),List.getElem?_append_left (by omega)];rw [show ws.length+k - ws.length=k by omega];exact a
end
end Go.Y
