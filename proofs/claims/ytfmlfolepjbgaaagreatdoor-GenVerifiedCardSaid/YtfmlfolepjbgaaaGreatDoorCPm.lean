/- Texts of GenVerified Pm. -/
import Derived.Test.YtfmlfolepjbgaaaGreatDoorCMd
import Derived.Test.YtfmlfolepjbgaaaGreatDoorCPl
import Derived.KernelRfl
set_option linter.unusedSimpArgs false
set_option linter.unusedVariables false
set_option linter.unusedSectionVars false
namespace Go.Y
open Go.oc Go.sd
abbrev ze (m:Pc):Ce:=⟨some m⟩
section
variable {b:fb→fb}
end
end Go.Y
namespace Go.Y
open Go.oc Go.sd
def gv (x:uc):Prop:=Tf x.Kind∧Tf x.Params∧Tf x.Result∧Tf x.fc∧(x.Wb.length≤1048576∧∀ y ∈ x.Wb,Tf y)∧x.Code.length≤1048576∧True
def Tl (m:Pc):Prop:=(m.af.length≤1048576∧∀ y ∈ m.af,FD y)∧m.Jc.length≤1048576∧∀ y ∈ m.Jc,gv y
theorem rh {n:Int}(h:-9223372036854775808≤n∧n≤9223372036854775807):i64 n=some n:=if_pos h
theorem Aj {α:Type}{l:List α}{i:Nat}(h:i<l.length):at_ l (i:Int)=some l[i]:=by simp [at_,h]
theorem Wn {α:Type}{l:List α}{i:Int}(a:0≤i) (b:i<l.length):∃ x,at_ l i=some x∧x ∈ l:=by
 obtain ⟨k,rfl⟩:=Int.eq_ofNat_of_zero_le a;have:k<l.length:=by omega
 exact ⟨l[k],Aj this,List.getElem_mem this⟩
theorem yD {α:Type}{l:List α}{i:Int}(h:¬ (0≤i∧i<l.length)):at_ l i=none:=by
 unfold at_;split
 ·rw [List.getElem?_eq_none];omega
 ·rfl
theorem at_mem {α:Type}{l:List α}{i:Int}{x:α}(h:at_ l i=some x):x ∈ l∧0≤i∧i<l.length:=by
 unfold at_ at h;split at h
 ·obtain ⟨a,b⟩:=List.getElem?_eq_some_iff.1 h;exact ⟨b ▸ List.getElem_mem a,by omega,by omega⟩
 ·cases h
def lg (t:Int):Prop:=t=1∨t=2
instance (t:Int):Decidable (lg t):=by unfold lg;infer_instance
theorem Jw (t:Int):Cn t=some (decide (lg t)):=by
 unfold Cn lg;by_cases h:t=1<;>simp [h]
def jj (m:Pc) (p k:Int):Bool:=match at_ m.Jc p with
 | some u=>decide (u.Kind=k)
 | none=>false
theorem LC (m:Pc) (p k:Int):Iq (ze m) p k=some (jj m p k):=by
 unfold Iq jj;rw [Option.bind_some];by_cases a:0≤p
 ·by_cases b:p<m.Jc.length
  ·obtain ⟨x,c,-⟩:=Wn a b;rw [if_pos a,if_pos b,c];rfl
  ·rw [if_pos a,if_neg b,yD (by omega)]
 ·rw [if_neg a,yD (by omega)]
def hj (m:Pc) (t:Int):Bool:=decide (10≤t) && jj m (t - 10) 3
theorem JB (m:Pc){t:Int}(h:Tf t):zs (ze m) t=some (hj m t):=by
 unfold zs hj;unfold Tf at h;by_cases a:10≤t
 ·rw [if_pos a,rh (by omega),Option.bind_some,LC,Option.bind_some];simp [a]
 ·rw [if_neg a];simp [a]
def Nl (m:Pc) (u:uc) (i:fb):Prop :=
 (1≤i.Op∧i.Op≤32)∧(i.Op=2→i.A=0∨i.A=1)∧(i.Op=3∨i.Op=4→0≤i.A∧i.A<u.Wb.length)∧(i.Op=21∨i.Op=22→0≤i.A∧i.A<u.Code.length) ∧
 (i.Op=23→jj m i.A 2=true)∧(i.Op=29→jj m i.A 3=true)∧(i.Op=26∨i.Op=27→0≤i.A∧i.A<m.af.length)
theorem JG (m:Pc) (u:uc) (i:fb):∃ e,qu (ze m) u i=some e∧(e=0 ↔ Nl m u i):=by
 have fin:∀ b:Bool,il b=some (if b then 0 else 3):=fun b=>by cases b<;>rfl
 have p:∀ b:Bool,Nt b=some (if b then 1 else 0):=fun b=>by cases b<;>rfl
 unfold qu Qt Pt Ot Nl;simp only [LC,Option.bind_some,fin,p];by_cases d:i.Op=2
 ·by_cases a:i.A=0<;>by_cases c:i.A=1<;>simp [d,a,c]
 by_cases f:i.Op=3
 ·by_cases a:0≤i.A<;>by_cases c:i.A<u.Wb.length<;>simp [f,a,c]
 by_cases g:i.Op=4
 ·by_cases a:0≤i.A<;>by_cases c:i.A<u.Wb.length<;>simp [g,a,c]
 by_cases h:i.Op=21
 ·by_cases a:0≤i.A<;>by_cases c:i.A<u.Code.length<;>simp [h,a,c]
 by_cases j:i.Op=22
 ·by_cases a:0≤i.A<;>by_cases c:i.A<u.Code.length<;>simp [j,a,c]
 by_cases k:i.Op=23
 ·cases a:jj m i.A 2<;>simp [k,a]
 by_cases l:i.Op=29
 ·cases a:jj m i.A 3<;>simp [l,a]
 by_cases n:i.Op=26
 ·by_cases a:0≤i.A<;>by_cases c:i.A<m.af.length<;>simp [n,a,c]
 by_cases o:i.Op=27
 ·by_cases a:0≤i.A<;>by_cases c:i.A<m.af.length<;>simp [o,a,c]
 by_cases a:i.Op<1<;>by_cases c:32<i.Op<;>simp [d,f,g,h,j,k,l,n,o,a,c]<;>omega
theorem II {f:Int→Option Bool}{g:Int→Bool}(l:List Int) (qa:l.length≤4000000000) (a:∀ x ∈ l,f x=some (g x)):∀ (n i:Nat),i≤l.length→l.length - i<n→∃ r,As l f n (i:Int)=some r∧(0≤r ↔ (l.drop i).any g=true):=by
 intro n
 induction n with
 | zero=>intro i _ h; omega
 | succ n b =>
  intro i d e;unfold As;by_cases c:i<l.length
  ·rw [if_pos (by omega),Aj c,Option.bind_some,a _ (List.getElem_mem c),Option.bind_some,List.drop_eq_getElem_cons c,List.any_cons];cases j:g l[i] with
   | true=>exact ⟨_,if_pos rfl,by simp⟩
   | false =>
    rw [if_neg (by decide),rh (by omega),Option.bind_some,Bool.false_or];exact b (i+1) c (by omega)
  ·rw [if_neg (by omega),List.drop_of_length_le (by omega)];exact ⟨_,rfl,by simp⟩
theorem MC {f:Int→Option Bool}{g:Int→Bool}(l:List Int) (qa:l.length≤4000000000) (b:∀ x ∈ l,f x=some (g x)):Nq l f=some (l.any g):=by
 unfold Nq Rw;obtain ⟨r,e,h⟩:=II l qa b (l.length+1) 0 (by omega) (by omega);rw [show ((0:Nat):Int)=0 from rfl] at e;rw [e,Option.bind_some];rw [List.drop_zero] at h;congr 1;cases a:l.any g with
 | true=>rw [a] at h; simp [h.2 rfl]
 | false=>rw [a] at h; simp only [decide_eq_false_iff_not]; exact fun c=>absurd (h.1 c) (by decide)
def dt (m:Pc) (u:uc):Prop :=
 (u.Kind=2∨u.Kind=3∨u.Kind=4)∧(u.Wb.length≤200∧0≤u.Params∧u.Params≤6∧u.Params≤u.Wb.length∧(u.Kind=4→u.Params≤0))∧(1≤u.Code.length∧u.Code.length≤4000) ∧
 (u.Kind≠4→lg u.Result)∧(u.Kind=3→lg u.fc)∧∀ t ∈ u.Wb,lg t∨hj m t=true
theorem CH (m:Pc){u:uc}(hu:gv u):∃ e,yu (ze m) u=some e∧(e=0 ↔ dt m u):=by
 obtain ⟨-,-,-,-,⟨qa,s⟩,-,-⟩:=hu;have v:Nq u.Wb (fun w=>ru w (some (ze m)))=some (u.Wb.any fun t=>!decide (lg t) && !hj m t):=by
  refine MC _ (by omega) fun t f=>?_;unfold ru;rw [Jw,Option.bind_some];by_cases h:lg t
  ·simp [h]
  ·rw [if_neg (by simp [h]),Option.bind_some,JB m (s t f),Option.bind_some];simp [h]
 have q:(u.Wb.any fun t=>!decide (lg t) && !hj m t)=true ↔ ¬ ∀ t ∈ u.Wb,lg t∨hj m t=true:=by
  rw [List.any_eq_true];constructor
  ·rintro ⟨t,f,h⟩ z;rcases z t f with a | a<;>simp [a] at h
  ·intro h;obtain ⟨t,h⟩:=Classical.not_forall.1 h;obtain ⟨f,h⟩:=Classical.not_imp.1 h;rw [not_or] at h;exact ⟨t,f,by simp [h.1,h.2]⟩
 have j:∀ b:Bool,∃ e,uo (ze m) u b=some e∧(e=0 ↔ b=false∧∀ t ∈ u.Wb,lg t∨hj m t=true):=by
  intro b;unfold uo;cases b with
  | true=>exact ⟨9,rfl,by simp⟩
  | false =>
   rw [if_neg (by decide),v,Option.bind_some];by_cases h:(u.Wb.any fun t=>!decide (lg t) && !hj m t)=true
   ·rw [if_pos h];exact ⟨9,rfl,by simpa using q.1 h⟩
   ·rw [if_neg h];exact ⟨0,rfl,by simpa using Classical.not_not.1 fun g=>h (q.2 g)⟩
 have r:∀ b:Bool,∃ e,bs (ze m) u b=some e∧(e=0 ↔ b=false∧(u.Kind≠4→lg u.Result)∧(u.Kind=3→lg u.fc)∧∀ t ∈ u.Wb,lg t∨hj m t=true):=by
  intro b;unfold bs;cases b with
  | true=>exact ⟨5,rfl,by simp⟩
  | false =>
   rw [if_neg (by decide)];simp only [Jw,Option.bind_some];by_cases Gd:u.Kind=4
   ·rw [if_neg (by omega),if_neg (by omega)];obtain ⟨e,a,d⟩:=j false;exact ⟨e,a,by rw [d];simp [Gd]⟩
   ·rw [if_pos Gd];by_cases i:lg u.Result
    ·rw [if_pos (by simp [i])];by_cases k:u.Kind=3
     ·rw [if_pos k];obtain ⟨e,a,d⟩:=j (!decide (lg u.fc));exact ⟨e,a,by rw [d];simp [k,i]⟩
     ·rw [if_neg k];obtain ⟨e,a,d⟩:=j false;exact ⟨e,a,by rw [d];simp [k,i]⟩
    ·rw [if_neg (by simp [i])];obtain ⟨e,a,d⟩:=j true;exact ⟨e,a,by rw [d];simp [Gd,i]⟩
 have d:∀ b:Bool,∃ e,yn (ze m) u b=some e∧(e=0 ↔ b=false∧(1≤u.Code.length∧u.Code.length≤4000)∧(u.Kind≠4→lg u.Result)∧(u.Kind=3→lg u.fc)∧∀ t ∈ u.Wb,lg t∨hj m t=true):=by
  intro b;unfold yn;cases b with
  | true=>exact ⟨5,rfl,by simp⟩
  | false =>
   rw [if_neg (by decide)];by_cases c:(u.Code.length:Int)<1
   ·rw [if_pos c];obtain ⟨e,l,n⟩:=r true;exact ⟨e,l,by rw [n];simp;omega⟩
   ·rw [if_neg c];obtain ⟨e,l,n⟩:=r (decide ((4000:Int)<(u.Code.length:Int)));refine ⟨e,l,n.trans ⟨fun ⟨x,y⟩=>⟨rfl,⟨by omega,?_⟩,y⟩,fun ⟨_,x,y⟩=>⟨?_,y⟩⟩⟩
    ·simp at x;omega
    ·simp;omega
 have a:∀ b:Bool,∃ e,yq (ze m) u b=some e∧(e=0 ↔ b=false∧(u.Wb.length≤200∧0≤u.Params∧u.Params≤6∧u.Params≤u.Wb.length∧(u.Kind=4→u.Params≤0))∧(1≤u.Code.length∧u.Code.length≤4000)∧(u.Kind≠4→lg u.Result)∧(u.Kind=3→lg u.fc)∧∀ t ∈ u.Wb,lg t∨hj m t=true):=by
  intro b;unfold yq;obtain ⟨aa,t1,t2⟩:=d true;obtain ⟨hd,f1,f2⟩:=d false;obtain ⟨o,k1,p⟩:=d (decide ((0:Int)<u.Params));have bad:aa≠0:=fun h=>by have:=t2.1 h;simp at this
  cases b with
  | true=>exact ⟨1,rfl,by simp⟩
  | false =>
   rw [if_neg (by decide)];by_cases Wa:(200:Int)<(u.Wb.length:Int)
   ·rw [if_pos Wa];exact ⟨aa,t1,⟨fun h=>absurd h bad,fun h=>by omega⟩⟩
   rw [if_neg Wa];by_cases c2:u.Params<0
   ·rw [if_pos c2];exact ⟨aa,t1,⟨fun h=>absurd h bad,fun h=>by omega⟩⟩
   rw [if_neg c2];by_cases c3:(6:Int)<u.Params
   ·rw [if_pos c3];exact ⟨aa,t1,⟨fun h=>absurd h bad,fun h=>by omega⟩⟩
   rw [if_neg c3];by_cases c4:(u.Wb.length:Int)<u.Params
   ·rw [if_pos c4];exact ⟨aa,t1,⟨fun h=>absurd h bad,fun h=>by omega⟩⟩
   rw [if_neg c4];by_cases c5:u.Kind=4
   ·rw [if_pos c5];refine ⟨o,k1,p.trans ⟨fun ⟨x,y⟩=>⟨rfl,⟨by omega,by omega,by omega,by omega,fun _=>?_⟩,y⟩,fun ⟨_,x,y⟩=>⟨?_,y⟩⟩⟩
    ·simp at x;omega
    ·simp;exact x.2.2.2.2 c5
   ·rw [if_neg c5];exact ⟨hd,f1,f2.trans ⟨fun ⟨x,y⟩=>⟨rfl,⟨by omega,by omega,by omega,by omega,fun h=>absurd h c5⟩,y⟩,fun ⟨_,x,y⟩=>⟨rfl,y⟩⟩⟩
 obtain ⟨hd,f1,f2⟩:=a false;obtain ⟨o,k1,p⟩:=a (decide (u.Kind≠4));unfold yu dt;by_cases c2:u.Kind=2
 ·rw [if_neg (by omega)];exact ⟨hd,f1,f2.trans ⟨fun ⟨x,y⟩=>⟨.inl c2,y⟩,fun ⟨x,y⟩=>⟨rfl,y⟩⟩⟩
 ·rw [if_pos c2];by_cases c3:u.Kind=3
  ·rw [if_neg (by omega)];exact ⟨hd,f1,f2.trans ⟨fun ⟨x,y⟩=>⟨.inr (.inl c3),y⟩,fun ⟨x,y⟩=>⟨rfl,y⟩⟩⟩
  ·rw [if_pos c3];refine ⟨o,k1,p.trans ⟨fun ⟨x,y⟩=>⟨?_,y⟩,fun ⟨x,y⟩=>⟨?_,y⟩⟩⟩
   ·simp at x;omega
   ·simp;omega
def xj (m:Pc):Prop:=(m.af.length≤30∧m.Jc.length≤30)∧(∀ b ∈ m.af,lg b.tb∧1≤b.Ue∧b.Ue≤20)∧(∀ u ∈ m.Jc,dt m u∧∀ i ∈ u.Code,Nl m u i)∧∃ u ∈ m.Jc,u.Kind=4
def Ij (o:Option eg) (C:Prop):Prop:=∃ w,o=some w∧(w.ve=0 ↔ C)∧(w.ve=0→w=⟨0,0,0⟩)
theorem Ij.iff {o:Option eg}{C D:Prop}(h:Ij o C) (e:C ↔ D):Ij o D:=by
 obtain ⟨w,a,b,c⟩:=h;exact ⟨w,a,b.trans e,c⟩
theorem Ij.no {e a b:Int}{C:Prop}(he:e≠0) (h:¬ C):Ij (some ⟨e,a,b⟩) C:=⟨_,rfl,⟨fun c=>absurd c he,fun c=>absurd c h⟩,fun c=>absurd c he⟩
theorem XF {m:Pc}{c a:Int}{u:uc}{K:Int→Int→Option eg}{C:Prop}(k:0≤a∧a≤100000000) (l:0≤c∧c≤a) (qa:u.Code.length≤1048576) (d:Ij (K (if u.Kind=4 then c+1 else c) (a+1)) C):∀ (n i:Nat),i≤u.Code.length→u.Code.length - i<n→Ij (fs (ze m) c a u K n (i:Int)) ((∀ x ∈ u.Code.drop i,Nl m u x)∧C):=by
 intro n
 induction n with
 | zero=>intro i _ h; omega
 | succ n j =>
  intro i o p;unfold fs;by_cases q:i<u.Code.length
  ·obtain ⟨e,na,g⟩:=JG m u u.Code[i];rw [if_pos (by omega),Aj q,Option.bind_some,na,Option.bind_some,List.drop_eq_getElem_cons q];by_cases f:e=0
   ·rw [if_neg (by omega),rh (by omega),Option.bind_some];refine (j (i+1) q (by omega)).iff ⟨fun ⟨x,y⟩=>⟨fun z b=>?_,y⟩,fun ⟨x,y⟩=>⟨fun z b=>x z (List.mem_cons_of_mem _ b),y⟩⟩;rcases List.mem_cons.1 b with rfl | b
    ·exact g.1 f
    ·exact x z b
   ·rw [if_pos f];exact .no f fun ⟨x,_⟩=>f (g.2 (x _ (List.mem_cons_self ..)))
  ·rw [if_neg (by omega),List.drop_of_length_le (by omega)];by_cases Gd:u.Kind=4
   ·rw [if_pos Gd] at d;rw [if_pos Gd,rh (by omega),Option.bind_some,rh (by omega),Option.bind_some];exact d.iff (by simp)
   ·rw [if_neg Gd] at d;rw [if_neg Gd,rh (by omega),Option.bind_some];exact d.iff (by simp)
theorem YF {m:Pc}(hm:Tl m):∀ (n i:Nat) (c:Int),i≤m.Jc.length→m.Jc.length - i<n→0≤c∧c≤i→Ij (Bp (ze m) m n c (i:Int)) ((∀ u ∈ m.Jc.drop i,dt m u∧∀ x ∈ u.Code,Nl m u x)∧(c≠0∨∃ u ∈ m.Jc.drop i,u.Kind=4)):=by
 obtain ⟨-,l,b⟩:=hm;intro n
 induction n with
 | zero=>intro i c _ h; omega
 | succ n f =>
  intro i c o p g;unfold Bp;by_cases q:i<m.Jc.length
  ·obtain ⟨e,na,d⟩:=CH m (b _ (List.getElem_mem q));have j:=(b _ (List.getElem_mem q)).2.2.2.2.2.1;rw [if_pos (by omega),Aj q,Option.bind_some,na,Option.bind_some,List.drop_eq_getElem_cons q];by_cases a:e=0
   ·rw [if_neg (by omega)];refine (XF (K:=Bp (ze m) m n) (by omega) g j (f (i+1) _ q (by omega) (by split<;>omega)) _ 0 (by omega) (by omega)).iff ?_;rw [List.drop_zero];constructor
    ·rintro ⟨x,y,z⟩;refine ⟨fun u hu=>?_,?_⟩
     ·rcases List.mem_cons.1 hu with rfl | hu
      ·exact ⟨d.1 a,x⟩
      ·exact y u hu
     ·by_cases Gd:m.Jc[i].Kind=4
      ·exact .inr ⟨_,List.mem_cons_self ..,Gd⟩
      ·rw [if_neg Gd] at z;rcases z with z | ⟨u,hu,k⟩
       ·exact .inl z
       ·exact .inr ⟨u,List.mem_cons_of_mem _ hu,k⟩
    ·rintro ⟨x,y⟩;refine ⟨(x _ (List.mem_cons_self ..)).2,fun u hu=>x u (List.mem_cons_of_mem _ hu),?_⟩;by_cases Gd:m.Jc[i].Kind=4
     ·rw [if_pos Gd];exact .inl (by omega)
     ·rw [if_neg Gd];rcases y with y | ⟨u,hu,k⟩
      ·exact .inl y
      ·rcases List.mem_cons.1 hu with rfl | hu
       ·exact absurd k Gd
       ·exact .inr ⟨u,hu,k⟩
   ·rw [if_pos a];exact .no a fun ⟨x,_⟩=>a (d.2 (x _ (List.mem_cons_self ..)).1)
  ·rw [if_neg (by omega),List.drop_of_length_le (by omega)];by_cases c0:c=0
   ·rw [if_pos c0];exact .no (by decide) (by simp [c0])
   ·rw [if_neg c0];exact ⟨_,rfl,by simp [c0],fun _=>rfl⟩
theorem ZF {m:Pc}(hm:Tl m):∀ (n i:Nat),i≤m.af.length→m.af.length - i<n→Ij (Cp (ze m) m n (i:Int)) ((∀ b ∈ m.af.drop i,lg b.tb∧1≤b.Ue∧b.Ue≤20)∧(∀ u ∈ m.Jc,dt m u∧∀ i ∈ u.Code,Nl m u i)∧∃ u ∈ m.Jc,u.Kind=4):=by
 have e:=hm.1.1;intro n
 induction n with
 | zero=>intro i _ h; omega
 | succ n d =>
  intro i f j;unfold Cp;by_cases q:i<m.af.length
  ·rw [if_pos (by omega),Aj q,Option.bind_some,Jw,Option.bind_some,List.drop_eq_getElem_cons q];have bad:¬ (lg m.af[i].tb∧1≤m.af[i].Ue∧m.af[i].Ue≤20)→¬ ((∀ b ∈ m.af[i]::m.af.drop (i+1),lg b.tb∧1≤b.Ue∧b.Ue≤20)∧(∀ u ∈ m.Jc,dt m u∧∀ i ∈ u.Code,Nl m u i)∧∃ u ∈ m.Jc,u.Kind=4):=fun h ⟨g,_⟩=>h (g _ (List.mem_cons_self ..));by_cases c:lg m.af[i].tb
   ·rw [if_pos (by simp [c])];by_cases Wa:m.af[i].Ue<1
    ·rw [if_pos Wa];exact .no (by decide) (bad (by omega))
    ·rw [if_neg Wa];unfold Vt;by_cases c2:(20:Int)<m.af[i].Ue
     ·rw [if_pos (by simpa using c2)];exact .no (by decide) (bad (by omega))
     ·rw [if_neg (by simpa using c2),rh (by omega),Option.bind_some];refine (d (i+1) q (by omega)).iff ⟨fun ⟨x,y⟩=>⟨fun z a=>?_,y⟩,fun ⟨x,y⟩=>⟨fun z a=>x z (List.mem_cons_of_mem _ a),y⟩⟩;rcases List.mem_cons.1 a with rfl | a
      ·exact ⟨c,by omega,by omega⟩
      ·exact x z a
   ·rw [if_neg (by simp [c])];exact .no (by decide) (bad fun h=>c h.1)
  ·rw [if_neg (by omega),List.drop_of_length_le (by omega)];refine (YF hm _ 0 0 (by omega) (by omega) (by omega)).iff ?_;rw [List.drop_zero];simp
theorem JI {m:Pc}(hm:Tl m):Ij (zu (ze m)) (xj m):=by
 unfold zu Wt xj;rw [Option.bind_some];by_cases Wa:(30:Int)<(m.af.length:Int)
 ·rw [if_pos Wa,if_pos rfl];exact .no (by decide) fun ⟨h,_⟩=>by omega
 ·rw [if_neg Wa];by_cases c2:(30:Int)<(m.Jc.length:Int)
  ·rw [if_pos (by simpa using c2)];exact .no (by decide) fun ⟨h,_⟩=>by omega
  ·rw [if_neg (by simpa using c2),Option.bind_some];refine (ZF hm _ 0 (by omega) (by omega)).iff ?_;rw [List.drop_zero];exact ⟨fun h=>⟨by omega,h⟩,fun h=>h.2⟩
end Go.Y
namespace Go.Y
open Go.oc Go.sd
def ih (e x:Int):Int:=if e=0 then x else e
theorem vl (e x:Int):uj e x=some (ih e x):=by unfold uj ih;split<;>rfl
theorem Tq {e x:Int}(h:x≠0):ih e x≠0:=by unfold ih;split<;>assumption
abbrev Oe:=List Int×Int
def lf (s:Oe) (t:Int):Oe:=(s.1++[t],if 300<s.1.length+1 then ih s.2 4 else s.2)
def Sc (s:Oe):Int×Oe:=match s.1.getLast? with
 | none=>(0,s.1,ih s.2 12)
 | some t=>(t,s.1.dropLast,s.2)
def de:List Int→Oe→Oe
 | [],s=>s
 | t::a,s=>de a ((Sc s).2.1,if (Sc s).1≠t then ih (Sc s).2.2 9 else (Sc s).2.2)
theorem KG (e:Int):Sc ([],e)=(0,[],ih e 12):=rfl
theorem Gq (l:List Int) (t e:Int):Sc (l++[t],e)=(t,l,e):=by unfold Sc;simp
theorem Ok {st:List Int}{er t:Int}(h:st.length≤100000):Fi st er t=some (lf (st,er) t):=by
 unfold Fi lf app;rw [if_pos (by simp;omega),Option.bind_some];simp only [List.length_append,List.length_cons,List.length_nil];by_cases c:300<st.length+1
 ·rw [if_pos (by omega),vl,Option.bind_some,if_pos (by omega)]
 ·rw [if_neg (by omega),if_neg (by omega)]
theorem et {st:List Int}{er:Int}(h:st.length≤100000):Hm st er=some (Sc (st,er)):=by
 rcases List.eq_nil_or_concat st with rfl | ⟨l,t,rfl⟩
 ·unfold Hm;rw [if_pos (by simp),vl,Option.bind_some,KG]
 ·rw [List.concat_eq_append] at h ⊢;simp only [List.length_append,List.length_cons,List.length_nil] at h;have na:at_ (l++[t]) ((l.length:Int))=some t:=by rw [Aj (by simp)];simp
  have a:cut (l++[t]) 0 (l.length:Int)=some l:=by
   unfold cut;rw [if_pos (by simp;omega)];simp
  unfold Hm;rw [if_neg (by simp;omega),rh (by simp;omega),Option.bind_some];have b:((l++[t]).length:Int) - 1=(l.length:Int):=by simp
  rw [b,na,Option.bind_some,Option.bind_some,a,Option.bind_some,Gq]
theorem Bo (s:Oe):(Sc s).2.1.length≤s.1.length:=by
 unfold Sc;split
 ·exact Nat.le_refl _
 ·simp
theorem Il:∀ (l:List Int) (s:Oe),(de l s).1.length≤s.1.length
 | [],s=>Nat.le_refl _
 | t::a,s=>Nat.le_trans (Il a _) (Bo s)
theorem KI {fu:Nat}{l:List Int}:∀ (n k:Nat) (st:List Int) (er:Int),l.length≤100000→st.length≤100000→k≤l.length→k<n→zq l n ((k:Int) - 1) er st=some (de (l.take k).reverse (st,er)):=by
 intro n
 induction n with
 | zero=>intro k st er _ _ _ h; omega
 | succ n a =>
  intro k st er qa hs d f;unfold zq;cases k with
  | zero=>rw [if_neg (by omega)]; rfl
  | succ k =>
   have b:=Bo (st,er);have e:(((k+1:Nat):Int) - 1)=(k:Int):=by omega
   rw [if_pos (by omega),et hs,Option.bind_some,e,Aj (by omega),Option.bind_some,← List.take_append_getElem (by omega),List.reverse_append];show _=some (de (l[k]::(l.take k).reverse) (st,er));rw [de];by_cases c:(Sc (st,er)).1≠l[k]
   ·rw [if_pos c,vl,Option.bind_some,rh (by omega),Option.bind_some,if_pos c];exact a k _ _ qa (Nat.le_trans b hs) (by omega) (by omega)
   ·rw [if_neg c,rh (by omega),Option.bind_some,if_neg c];exact a k _ _ qa (Nat.le_trans b hs) (by omega) (by omega)
theorem qm {fu:Nat}{l:List Int}{st:List Int}{er:Int}(qa:l.length≤100000) (a:l.length<fu) (hs:st.length≤100000):tk fu st er l=some (de l.reverse (st,er)):=by
 unfold tk;rw [rh (by omega),Option.bind_some,KI (fu:=fu) fu l.length st er qa hs (Nat.le_refl _) a,List.take_length]
structure zg (s:Oe):Prop where
 le:s.2=0→s.1.length≤300
 r:∀ t ∈ s.1,Tf t
theorem zg.push {s:Oe}{t:Int}(h:zg s) (d:Tf t):zg (lf s t):=by
 refine ⟨fun b=>?_,fun x a=>?_⟩
 ·unfold lf at b ⊢;simp only [List.length_append,List.length_cons,List.length_nil] at b ⊢;by_cases c:300<s.1.length+1
  ·rw [if_pos c] at b;exact absurd b (Tq (by decide))
  ·omega
 ·rcases List.mem_append.1 a with a | a
  ·exact h.r x a
  ·rw [List.mem_singleton.1 a];exact d
theorem zg.mono {s:Oe}{l:List Int}{e:Int}(h:zg s) (qa:l.length≤s.1.length) (hm:∀ t ∈ l,t ∈ s.1) (he:e=0→s.2=0):zg (l,e):=⟨fun a=>Nat.le_trans qa (h.le (he a)),fun t b=>h.r t (hm t b)⟩
theorem LG (s:Oe):∀ t ∈ (Sc s).2.1,t ∈ s.1:=by
 unfold Sc;split
 ·exact fun t h=>h
 ·exact fun t h=>(List.dropLast_sublist _).subset h
theorem DH (s:Oe):(Sc s).2.2=0→s.2=0:=by
 unfold Sc;split
 ·exact fun h=>absurd h (Tq (by decide))
 ·exact id
theorem NC {s:Oe}(h:zg s):Tf (Sc s).1:=by
 unfold Sc;split
 ·show Tf 0;unfold Tf;omega
 ·rename_i t e;exact h.r t (List.mem_of_getLast? e)
theorem zg.pop {s:Oe}(h:zg s):zg (Sc s).2:=h.mono (Bo s) (LG s) (DH s)
theorem zg.er {s:Oe}{x:Int}(h:zg s) (a:x≠0):zg (s.1,ih s.2 x):=⟨fun b=>absurd b (Tq a),h.r⟩
theorem zg.want:∀ (l:List Int){s:Oe},zg s→zg (de l s)
 | [],s,h=>h
 | t::a,s,h=>by
  rw [de];refine zg.want a ?_;split
  ·exact h.pop.er (by decide)
  ·exact h.pop
def Jj (l:List Int) (i:Int):Int:=(at_ l i).getD 0
def ca (l:List Bool) (i:Int):Bool:=(at_ l i).getD false
def jh (m:Pc) (i:Int):uc:=(at_ m.Jc i).getD default
def fl (m:Pc) (i:Int):Bi:=(at_ m.af i).getD default
def Ii (m:Pc) (s:Oe):Option uc×Oe :=
 if (Sc s).2.2≠0 then (none,(Sc s).2) else if hj m (Sc s).1=true then (some (jh m ((Sc s).1 - 10)),(Sc s).2) else (none,((Sc s).2.1,ih (Sc s).2.2 9))
def Mm (s:Oe):Oe:=(s.1,if 0<s.1.length then ih s.2 12 else s.2)
def On (v:uc) (s:Oe):Oe:=de (v.Wb.take v.Params.toNat).reverse s
def Zc (m:Pc) (u:uc) (i:fb) (s:Oe) (hs:List Bool):Oe :=
 if i.Op=1 then lf s 1
 else if i.Op=2 then lf s 2
 else if i.Op=3 then lf (s.1,if ca hs i.A=true then s.2 else ih s.2 11) (Jj u.Wb i.A)
 else if i.Op=4 then de [Jj u.Wb i.A] s
 else if i.Op=5 then (Sc s).2
 else if i.Op=6 then lf (de [1] s) 1
 else if i.Op=7 then lf (de [2] s) 2
 else if 8≤i.Op∧i.Op≤12 then lf (de [1,1] s) 1
 else if i.Op=13∨i.Op=14 then lf (de [(Sc s).1] ((Sc s).2.1,if (Sc s).1≠1∧(Sc s).1≠2 then ih (Sc s).2.2 9 else (Sc s).2.2)) 2
 else if 15≤i.Op∧i.Op≤18 then lf (de [1,1] s) 2
 else if i.Op=19∨i.Op=20 then lf (de [2,2] s) 2
 else if i.Op=21 then s
 else if i.Op=22 then de [2] s
 else if i.Op=23 then lf (On (jh m i.A) s) (jh m i.A).Result
 else if i.Op=24 then Mm (de [u.Result] (s.1,if u.Kind≠2 then ih s.2 8 else s.2))
 else if i.Op=25 then Mm (s.1,if u.Kind=2 then ih s.2 8 else s.2)
 else if i.Op=26 then de [(fl m i.A).tb] s
 else if i.Op=27 then lf s (fl m i.A).tb
 else if i.Op=28 then ((Sc s).2.1,if (Sc s).2.2=0∧¬ lg (Sc s).1 then ih (Sc s).2.2 9 else (Sc s).2.2)
 else if i.Op=29 then lf (On (jh m i.A) s) (10+i.A)
 else if i.Op=30 then match Ii m (Sc s).2 with
  | (some x,oe)=>lf (oe.1,if (Sc s).1≠x.fc then ih oe.2 9 else oe.2) x.Result
  | (none,oe)=>oe
 else if i.Op=31 then lf (de [u.Result] (s.1,if u.Kind≠3 then ih s.2 8 else s.2)) u.fc
 else if i.Op=32 then lf (Ii m s).2 2
 else s
def ug (i:fb) (hs:List Bool):List Bool:=if i.Op=4 then hs.set i.A.toNat true else hs
def follows (i:fb):Prop:=i.Op≠21∧i.Op≠24∧i.Op≠25
instance (i:fb):Decidable (follows i):=by unfold follows;infer_instance
theorem Jq {m:Pc}{p k:Int}(h:jj m p k=true):at_ m.Jc p=some (jh m p)∧jh m p ∈ m.Jc∧(jh m p).Kind=k∧0≤p∧p<m.Jc.length:=by
 unfold jj at h;cases a:at_ m.Jc p with
 | none=>rw [a] at h; cases h
 | some x =>
  rw [a] at h;have:jh m p=x:=by unfold jh;rw [a];rfl
  obtain ⟨b,c,d⟩:=at_mem a;rw [this];exact ⟨rfl,b,by simpa using h,c,d⟩
theorem aG {m:Pc}{t:Int}(h:hj m t=true):10≤t∧jj m (t - 10) 3=true:=by
 unfold hj at h;simpa using h
theorem OC {fu:Nat}{m:Pc}{p k:Int}{st:List Int}{er:Int}(a:xj m) (h:jj m p k=true) (d:1000≤fu) (hs:st.length≤100000):Ns fu (ze m) st er p=some (jh m p,On (jh m p) (st,er)):=by
 obtain ⟨b,c,-⟩:=Jq h;obtain ⟨-,⟨g1,g2,g3,g4,-⟩,-⟩:=(a.2.2.1 _ c).1;unfold Ns On;have e:cut (jh m p).Wb 0 (jh m p).Params=some ((jh m p).Wb.take (jh m p).Params.toNat):=by
  unfold cut;rw [if_pos (by omega)];simp
 rw [Option.bind_some,b,Option.bind_some,e,Option.bind_some,qm (by simp;omega) (by simp;omega) hs,Option.bind_some]
theorem kD {m:Pc}{st:List Int}{er:Int}(hs:st.length≤100000) (b:zg (st,er)):Vs (ze m) st er=some (Ii m (st,er)):=by
 unfold Vs Ii;rw [et hs,Option.bind_some];by_cases c:(Sc (st,er)).2.2≠0
 ·rw [if_pos c,if_pos c]
 ·rw [if_neg c,if_neg c,JB m (NC b),Option.bind_some];by_cases a:hj m (Sc (st,er)).1=true
  ·obtain ⟨e,d⟩:=aG a;have:=(NC b).2;rw [if_pos a,if_pos a,Option.bind_some,rh (by omega),Option.bind_some,(Jq d).1,Option.bind_some]
  ·rw [if_neg a,if_neg a,vl,Option.bind_some]
theorem PC (st:List Int) (er:Int):Ps st er=some (false,Mm (st,er)):=by
 unfold Ps Zt Mm;by_cases c:0<st.length
 ·rw [if_pos (by omega),vl,Option.bind_some,if_pos c]
 ·rw [if_neg (by omega),if_neg c]
section
variable {fu:Nat}{m:Pc}{u:uc}{i:fb}{a:List (Int×vd)}{td st:List Int}{hs:List Bool}{er:Int}
theorem bG (g:xj m) (r:Nl m u i) (v:st.length≤1000) (j:zg (st,er)) (hm:Tl m) (n:1000≤fu) (w:22<i.Op) :
  au fu (ze m) u a td st hs er i=some (decide (follows i),a,td,(Zc m u i (st,er) hs).1,hs,(Zc m u i (st,er) hs).2):=by
 obtain ⟨⟨-,i32⟩,-,-,-,s,p,d⟩:=r;have b:∀ l:List Int,l.length≤st.length→l.length≤100000:=fun l h=>by omega
 have t:i.Op=23∨i.Op=24∨i.Op=25∨i.Op=26∨i.Op=27∨i.Op=28∨i.Op=29∨i.Op=30∨i.Op=31∨i.Op=32:=by omega
 unfold au Kj Zc;rcases t with h | h | h | h | h | h | h | h | h | h
 ·rw [if_pos h,OC g (s h) n (by omega),Option.bind_some,Ok (b _ (Il _ _)),Option.bind_some];simp [h,follows]
 ·have e:∀ na,xr fu u a td st hs na=some (false,a,td,(Mm (de [u.Result] (st,na))).1,hs,(Mm (de [u.Result] (st,na))).2):=fun na=>by
   unfold xr;rw [qm (by simp) (by simp;omega) (by omega),Option.bind_some,PC,Option.bind_some];rfl
  rw [if_neg (by omega),if_neg (by omega),if_pos h];simp only [e,vl,Option.bind_some];by_cases k:u.Kind=2<;>simp [h,k,follows]
 ·have e:∀ na,yr a td st hs na=some (false,a,td,(Mm (st,na)).1,hs,(Mm (st,na)).2):=fun na=>by
   unfold yr;rw [PC,Option.bind_some]
  rw [if_neg (by omega),if_neg (by omega),if_neg (by omega),if_pos h];simp only [e,vl,Option.bind_some];by_cases k:u.Kind=2<;>simp [h,k,follows]
 ·obtain ⟨x,c,-⟩:=Wn (l:=m.af) (d (.inl h)).1 (d (.inl h)).2;have e:(fl m i.A)=x:=by unfold fl;rw [c];rfl
  rw [if_neg (by omega),if_neg (by omega),if_neg (by omega),if_neg (by omega),if_pos h,Option.bind_some,c,Option.bind_some,qm (by simp) (by simp;omega) (by omega),Option.bind_some];simp [h,e,follows]
 ·obtain ⟨x,c,-⟩:=Wn (l:=m.af) (d (.inr h)).1 (d (.inr h)).2;have e:(fl m i.A)=x:=by unfold fl;rw [c];rfl
  rw [if_neg (by omega),if_neg (by omega),if_neg (by omega),if_neg (by omega),if_neg (by omega),if_pos h,Option.bind_some,c,Option.bind_some,Ok (by omega),Option.bind_some];simp [h,e,follows]
 ·have e:∀ V,zr a td hs (Sc (st,er)) V=some (true,a,td,(Sc (st,er)).2.1,hs,if V=true then ih (Sc (st,er)).2.2 9 else (Sc (st,er)).2.2):=fun V=>by
   unfold zr Kj;cases V with
   | true=>rw [if_pos rfl,vl,Option.bind_some,if_pos rfl]
   | false=>rw [if_neg (by decide),if_neg (by decide)]
  rw [if_neg (by omega),if_neg (by omega),if_neg (by omega),if_neg (by omega),if_neg (by omega),if_neg (by omega),if_pos h,et (by omega),Option.bind_some];simp only [e,Jw,Option.bind_some];by_cases k:(Sc (st,er)).2.2=0
  ·by_cases k1:lg (Sc (st,er)).1<;>simp [h,k,k1,follows]
  ·simp [h,k,follows]
 ·obtain ⟨-,-,-,g4,g5⟩:=Jq (p h);have y:=g.1.2;rw [if_neg (by omega),if_pos h,OC g (p h) n (by omega),Option.bind_some,rh (by omega),Option.bind_some,Ok (b _ (Il _ _)),Option.bind_some];simp [h,follows]
 ·have qa:=Bo (st,er);rw [if_neg (by omega),if_neg (by omega),if_neg (by omega),if_neg (by omega),if_neg (by omega),if_neg (by omega),if_neg (by omega),if_pos h,et (by omega),Option.bind_some,kD (b _ qa) j.pop,Option.bind_some];simp only [h];have f:(Ii m (Sc (st,er)).2).2.1.length≤st.length:=by
   have:=Bo (Sc (st,er)).2;unfold Ii;split
   ·exact Nat.le_trans this qa
   ·split
    ·exact Nat.le_trans this qa
    ·exact Nat.le_trans this qa
  generalize z:Ii m (Sc (st,er)).2=q at f;obtain ⟨o,oe⟩:=q;cases o with
  | none=>simp [follows,h]
  | some x =>
   have e:∀ na,Ar a td hs (some x,oe) x na=some (true,a,td,(lf (oe.1,na) x.Result).1,hs,(lf (oe.1,na) x.Result).2):=fun na=>by
    unfold Ar Kj;rw [Ok (b _ f),Option.bind_some]
   simp only [Option.isSome_some,if_true,Option.bind_some,vl,e];by_cases k:(Sc (st,er)).1=x.fc<;>simp [k,h,follows]
 ·have e:∀ na,Br fu u a td st hs na=some (true,a,td,(lf (de [u.Result] (st,na)) u.fc).1,hs,(lf (de [u.Result] (st,na)) u.fc).2):=fun na=>by
   unfold Br Kj;rw [qm (by simp) (by simp;omega) (by omega),Option.bind_some];show (Fi (de [u.Result] (st,na)).1 (de [u.Result] (st,na)).2 u.fc).bind _=_;rw [Ok (b _ (Il _ _)),Option.bind_some]
  rw [if_neg (by omega),if_neg (by omega),if_neg (by omega),if_neg (by omega),if_neg (by omega),if_neg (by omega),if_neg (by omega),if_neg (by omega),if_pos h];simp only [e,vl,Option.bind_some];by_cases k:u.Kind=3<;>simp [h,k,follows]
 ·have f:(Ii m (st,er)).2.1.length≤st.length:=by
   have:=Bo (st,er);unfold Ii;split
   ·exact this
   ·split
    ·exact this
    ·exact this
  rw [if_neg (by omega),if_neg (by omega),if_neg (by omega),if_neg (by omega),if_neg (by omega),if_neg (by omega),if_neg (by omega),if_neg (by omega),if_neg (by omega),if_pos h,kD (by omega) j,Option.bind_some,Ok (b _ f),Option.bind_some];simp [h,follows]
theorem LI (q:xj m) (o:Nl m u i) (r:st.length≤1000) (s:zg (st,er)) (hm:Tl m) (t:1000≤fu) (qa:hs.length=u.Wb.length) (G:i.Op≠21) (H:i.Op≠22) :
  Fm fu (ze m) u a td st hs er i=some (decide (follows i),a,td,(Zc m u i (st,er) hs).1,ug i hs,(Zc m u i (st,er) hs).2):=by
 by_cases v:22<i.Op
 ·have e:=bG (fu:=fu) (a:=a) (td:=td) (hs:=hs) q o r s hm t v;unfold Fm Dm ll vo fm;have k:∀ b:Bool,(if (b=true) then (true:Bool) else true)=true:=by decide
  rw [if_neg (by omega),if_neg (by omega),if_neg (by omega),if_neg (by omega),if_neg (by omega),if_neg (by omega),if_neg (by omega),if_pos (by omega),if_neg (by simp;omega),if_neg (by omega),if_neg (by simp;omega),if_pos (by omega),if_neg (by simp;omega),if_neg (by omega),if_neg (by simp;omega),if_neg (by omega),if_neg (by omega),e,Option.bind_some];have:ug i hs=hs:=if_neg (by omega);rw [this]
 ·obtain ⟨⟨i1,-⟩,-,c,-⟩:=o;have d:∀ l:List Int,l.length≤st.length→l.length≤100000:=fun l h=>by omega
  have w:i.Op=1∨i.Op=2∨i.Op=3∨i.Op=4∨i.Op=5∨i.Op=6∨i.Op=7∨(8≤i.Op∧i.Op≤12)∨(i.Op=13∨i.Op=14)∨(15≤i.Op∧i.Op≤18)∨(i.Op=19∨i.Op=20):=by omega
  unfold Fm Ei Zc ug;rcases w with h | h | h | h | h | h | h | h | h | h | h
  ·rw [if_pos h,Ok (by omega),Option.bind_some];simp [h,follows]
  ·rw [if_neg (by omega),if_pos h,Ok (by omega),Option.bind_some];simp [h,follows]
  ·obtain ⟨x,f,-⟩:=Wn (l:=u.Wb) (c (.inl h)).1 (c (.inl h)).2;obtain ⟨y,g,-⟩:=Wn (l:=hs) (c (.inl h)).1 (by rw [qa];exact (c (.inl h)).2);have e:∀ na,js i u a td st hs na=some (true,a,td,(lf (st,na) x).1,hs,(lf (st,na) x).2):=fun na=>by
    unfold js Ei;rw [f,Option.bind_some,Ok (by omega),Option.bind_some]
   have j:Jj u.Wb i.A=x:=by unfold Jj;rw [f];rfl
   have z:ca hs i.A=y:=by unfold ca;rw [g];rfl
   rw [if_neg (by omega),if_neg (by omega),if_pos h,g,Option.bind_some];simp only [e,vl,Option.bind_some,j,z];cases y<;>simp [h,follows]
  ·obtain ⟨x,f,-⟩:=Wn (l:=u.Wb) (c (.inr h)).1 (c (.inr h)).2;obtain ⟨y,g,-⟩:=Wn (l:=hs) (c (.inr h)).1 (by rw [qa];exact (c (.inr h)).2);have j:Jj u.Wb i.A=x:=by unfold Jj;rw [f];rfl
   rw [if_neg (by omega),if_neg (by omega),if_neg (by omega),if_pos h,f,Option.bind_some,qm (by simp) (by simp;omega) (by omega),Option.bind_some,g,Option.bind_some];simp [h,j,follows]
  ·rw [if_neg (by omega),if_neg (by omega),if_neg (by omega),if_neg (by omega),if_pos h,et (by omega),Option.bind_some];simp [h,follows]
  ·rw [if_neg (by omega),if_neg (by omega),if_neg (by omega),if_neg (by omega),if_neg (by omega),if_pos h,qm (by simp) (by simp;omega) (by omega),Option.bind_some,Ok (d _ (Il _ _)),Option.bind_some];simp [h,follows]
  ·rw [if_neg (by omega),if_neg (by omega),if_neg (by omega),if_neg (by omega),if_neg (by omega),if_neg (by omega),if_pos h,qm (by simp) (by simp;omega) (by omega),Option.bind_some,Ok (d _ (Il _ _)),Option.bind_some];simp [h,follows]
  ·unfold Dm Ei;rw [if_neg (by omega),if_neg (by omega),if_neg (by omega),if_neg (by omega),if_neg (by omega),if_neg (by omega),if_neg (by omega),if_pos (by omega),if_pos (by simp;omega),qm (by simp) (by simp;omega) (by omega),Option.bind_some,Ok (d _ (Il _ _)),Option.bind_some];rw [if_neg (by omega),if_neg (by omega),if_neg (by omega),if_neg (by omega),if_neg (by omega),if_neg (by omega),if_neg (by omega),if_pos h,if_neg (by omega),decide_eq_true (show follows i by unfold follows;omega)];rfl
  ·have B:∀ na,Aq fu a td hs (Sc (st,er)) na=some (true,a,td,(lf (de [(Sc (st,er)).1] ((Sc (st,er)).2.1,na)) 2).1,hs,(lf (de [(Sc (st,er)).1] ((Sc (st,er)).2.1,na)) 2).2):=fun na=>by
    unfold Aq Ei;have p:=Bo (st,er);rw [qm (by simp) (by simp;omega) (d _ p),Option.bind_some];show (Fi (de [(Sc (st,er)).1] ((Sc (st,er)).2.1,na)).1 (de [(Sc (st,er)).1] ((Sc (st,er)).2.1,na)).2 2).bind _=_;rw [Ok (d _ (Nat.le_trans (Il [(Sc (st,er)).1] ((Sc (st,er)).2.1,na)) p)),Option.bind_some]
   have C:∀ V,ks fu a td hs (Sc (st,er)) V=Aq fu a td hs (Sc (st,er)) (if V=true then ih (Sc (st,er)).2.2 9 else (Sc (st,er)).2.2):=fun V=>by
    unfold ks;cases V with
    | true=>rw [if_pos rfl,vl,Option.bind_some,if_pos rfl]
    | false=>rw [if_neg (by decide),if_neg (by decide)]
   have D:ll fu (ze m) i u a td st hs er true=some (true,a,td,(lf (de [(Sc (st,er)).1] ((Sc (st,er)).2.1,if (Sc (st,er)).1≠1∧(Sc (st,er)).1≠2 then ih (Sc (st,er)).2.2 9 else (Sc (st,er)).2.2)) 2).1,hs,(lf (de [(Sc (st,er)).1] ((Sc (st,er)).2.1,if (Sc (st,er)).1≠1∧(Sc (st,er)).1≠2 then ih (Sc (st,er)).2.2 9 else (Sc (st,er)).2.2)) 2).2):=by
    unfold ll;rw [if_pos rfl,et (by omega),Option.bind_some];simp only [C,B];by_cases k1:(Sc (st,er)).1=1<;>by_cases E:(Sc (st,er)).1=2<;>simp [k1,E]
   unfold Dm;rw [if_neg (by omega),if_neg (by omega),if_neg (by omega),if_neg (by omega),if_neg (by omega),if_neg (by omega),if_neg (by omega),if_pos (by omega),if_neg (by simp;omega)];have n:(if i.Op=13 then ll fu (ze m) i u a td st hs er true else ll fu (ze m) i u a td st hs er (decide (i.Op=14)))=ll fu (ze m) i u a td st hs er true:=by
    rcases h with h | h
    ·rw [if_pos h]
    ·rw [if_neg (by omega),decide_eq_true h]
   rw [n,D,if_neg (show ¬ i.Op=1 by omega),if_neg (show ¬ i.Op=2 by omega),if_neg (show ¬ i.Op=3 by omega),if_neg (show ¬ i.Op=4 by omega),if_neg (show ¬ i.Op=5 by omega),if_neg (show ¬ i.Op=6 by omega),if_neg (show ¬ i.Op=7 by omega),if_neg (show ¬ (8≤i.Op∧i.Op≤12) by omega),if_pos h,if_neg (show ¬ i.Op=4 by omega),decide_eq_true (show follows i by unfold follows;omega)]
  ·unfold Dm ll vo Ei;rw [if_neg (by omega),if_neg (by omega),if_neg (by omega),if_neg (by omega),if_neg (by omega),if_neg (by omega),if_neg (by omega),if_pos (by omega),if_neg (by simp;omega),if_neg (by omega),if_neg (by simp;omega),if_pos (by omega),if_pos (by simp;omega),qm (by simp) (by simp;omega) (by omega),Option.bind_some,Ok (d _ (Il _ _)),Option.bind_some];rw [if_neg (by omega),if_neg (by omega),if_neg (by omega),if_neg (by omega),if_neg (by omega),if_neg (by omega),if_neg (by omega),if_neg (by omega),if_neg (by omega),if_pos h,if_neg (by omega),decide_eq_true (show follows i by unfold follows;omega)];rfl
  ·have F:fm fu (ze m) i u a td st hs er true=some (true,a,td,(lf (de [2,2] (st,er)) 2).1,hs,(lf (de [2,2] (st,er)) 2).2):=by
    unfold fm Ei;rw [if_pos rfl,qm (by simp) (by simp;omega) (by omega),Option.bind_some,Ok (d _ (Il _ _)),Option.bind_some];rfl
   unfold Dm ll vo;rw [if_neg (by omega),if_neg (by omega),if_neg (by omega),if_neg (by omega),if_neg (by omega),if_neg (by omega),if_neg (by omega),if_pos (by omega),if_neg (by simp;omega),if_neg (by omega),if_neg (by simp;omega),if_pos (by omega),if_neg (by simp;omega)];have n:(if i.Op=19 then fm fu (ze m) i u a td st hs er true else fm fu (ze m) i u a td st hs er (decide (i.Op=20)))=fm fu (ze m) i u a td st hs er true:=by
    rcases h with h | h
    ·rw [if_pos h]
    ·rw [if_neg (by omega),decide_eq_true h]
   rw [n,F];rw [if_neg (by omega),if_neg (by omega),if_neg (by omega),if_neg (by omega),if_neg (by omega),if_neg (by omega),if_neg (by omega),if_neg (by omega),if_neg (by omega),if_neg (by omega),if_pos h,if_neg (by omega),decide_eq_true (show follows i by unfold follows;omega)]
theorem EH (h:i.Op=21):Fm fu (ze m) u a td st hs er i=(Ql (ze m) u a td st hs er i.A).bind fun r=>some (false,r):=by
 unfold Fm Dm ll vo fm;rw [if_neg (by omega),if_neg (by omega),if_neg (by omega),if_neg (by omega),if_neg (by omega),if_neg (by omega),if_neg (by omega),if_pos (by omega),if_neg (by simp;omega),if_neg (by omega),if_neg (by simp;omega),if_pos (by omega),if_neg (by simp;omega),if_neg (by omega),if_neg (by simp;omega),if_pos (by omega)]
theorem FH (b:st.length≤1000) (c:1000≤fu) (h:i.Op=22):Fm fu (ze m) u a td st hs er i=(Ql (ze m) u a td (de [2] (st,er)).1 hs (de [2] (st,er)).2 i.A).bind fun r=>some (true,r):=by
 unfold Fm Dm ll vo fm Ei;rw [if_neg (by omega),if_neg (by omega),if_neg (by omega),if_neg (by omega),if_neg (by omega),if_neg (by omega),if_neg (by omega),if_pos (by omega),if_neg (by simp;omega),if_neg (by omega),if_neg (by simp;omega),if_pos (by omega),if_neg (by simp;omega),if_neg (by omega),if_neg (by simp;omega),if_neg (by omega),if_pos h,qm (by simp) (by simp;omega) (by omega),Option.bind_some];rfl
end
end Go.Y
namespace Go.Y
open Go.oc Go.sd
theorem Ms {β:Type}:∀ (m:List (Int×β)) (k q:Int) (x:β),Aa (Fc m k x) q=if q=k then some x else Aa m q
 | [],k,q,x=>by
  unfold Fc Aa Aa;by_cases h:q=k
  ·rw [if_pos h.symm,if_pos h]
  ·rw [if_neg (fun e=>h e.symm),if_neg h]
 | (a,b)::m,k,q,x=>by
  unfold Fc;by_cases h:a=k
  ·rw [if_pos h];unfold Aa;by_cases c:q=k
   ·rw [if_pos c.symm,if_pos c]
   ·rw [if_neg (fun e=>c e.symm),if_neg c,if_neg (by omega)]
  ·rw [if_neg h];unfold Aa;by_cases c:q=k
   ·rw [if_neg (by omega),Ms m k q x,if_pos c,if_pos c]
   ·by_cases d:a=q
    ·rw [if_pos d,if_neg c,if_pos d]
    ·rw [if_neg d,if_neg c,if_neg d,Ms m k q x,if_neg c]
abbrev Li:=List (Int×vd)
def uf (a b:List Bool):Prop:=a.length=b.length∧∀ j:Nat,a[j]?=some true→b[j]?=some true
theorem uf.qi (a:List Bool):uf a a:=⟨rfl,fun _ h=>h⟩
theorem uf.jn {a b c:List Bool}(h:uf a b) (g:uf b c):uf a c:=⟨h.1.trans g.1,fun j e=>g.2 j (h.2 j e)⟩
def meet (a b:List Bool):List Bool:=List.zipWith (· && ·) a b
theorem yw {a b:List Bool}(h:a.length=b.length):(meet a b).length=a.length:=by unfold meet;simp [h]
theorem zy (a b:List Bool) (j:Nat):(meet a b)[j]?=some true ↔ a[j]?=some true∧b[j]?=some true:=by
 unfold meet;rw [List.getElem?_zipWith];cases a[j]? with
 | none=>simp
 | some x=>cases b[j]? with
  | none=>simp
  | some y=>simp
theorem MI {a b:List Bool}(h:a.length=b.length):uf (meet a b) a:=⟨yw h,fun j e=>((zy a b j).1 e).1⟩
theorem NI {a b:List Bool}(h:a.length=b.length):uf (meet a b) b:=⟨(yw h).trans h,fun j e=>((zy a b j).1 e).2⟩
theorem OI {a b c:List Bool}(h:uf c a) (g:uf c b):uf c (meet a b):=⟨by rw [yw (h.1.symm.trans g.1)];exact h.1,fun j e=>(zy a b j).2 ⟨h.2 j e,g.2 j e⟩⟩
def Pn (h:List Bool):Nat:=h.count true
theorem MG (h:List Bool):Pn h≤h.length:=List.count_le_length
theorem gC:∀ (a b:List Bool),a.length=b.length→Pn (meet a b)≤Pn a∧(meet a b≠a→Pn (meet a b)<Pn a)
 | [],b,h=>⟨Nat.le_refl _,fun g=>absurd rfl g⟩
 | x::a,[],h=>by simp at h
 | x::a,y::b,h=>by
  obtain ⟨d,c⟩:=gC a b (by simpa using h);have e:meet (x::a) (y::b)=(x && y)::meet a b:=rfl;rw [e];unfold Pn at *;simp only [List.count_cons];cases x<;>cases y<;>simp at c ⊢<;>refine ⟨by omega,?_⟩
  ·exact c
  ·exact c
  ·omega
  ·intro g;exact c g
def Vk (a:Li) (q:Int):Nat:=match Aa a q with
 | none=>201
 | some x=>Pn x.has
def Hk (C:Nat) (a:Li) (td:List Int):Nat:=td.length+((List.range C).map fun q:Nat=>Vk a (q:Int)).sum
theorem XA {f g:Nat→Nat}:∀ (C:Nat),(∀ q,q<C→f q=g q)→((List.range C).map f).sum=((List.range C).map g).sum
 | 0,h=>rfl
 | C+1,h=>by
  rw [List.range_succ,List.map_append,List.map_append,List.sum_append,List.sum_append,XA C fun q a=>h q (by omega)];simp [h C (by omega)]
theorem Qy {f g:Nat→Nat}{p:Nat}:∀ (C:Nat),p<C→(∀ q,q≠p→f q=g q)→((List.range C).map f).sum+g p=((List.range C).map g).sum+f p
 | 0,h,_=>by omega
 | C+1,h,e=>by
  rw [List.range_succ,List.map_append,List.map_append,List.sum_append,List.sum_append];simp only [List.map_cons,List.map_nil,List.sum_cons,List.sum_nil];by_cases a:p=C
  ·subst a;rw [XA p fun q b=>e q (by omega)];omega
  ·have:=Qy C (by omega) e;have:=e C (fun h=>a h.symm);omega
def jq (C L:Nat) (a:Li):Prop:=∀ p x,Aa a p=some x→(0≤p∧p<C)∧x.has.length=L∧zg (x.stack,0)
def Fits (a:Li) (p:Int) (st:List Int) (hs:List Bool):Prop:=∃ y,Aa a p=some y∧y.stack=st∧uf y.has hs
structure gr (C L:Nat) (st:List Int) (hs:List Bool) (p:Int) (a:Li) (td:List Int) (er:Int) (d:Li) (e:List Int) (c:Int):Prop where
 ok:jq C L d
 w:Hk C d e≤Hk C a td
 hv:er≠0→c=er
 zD:er=0→p<C→(∀ x,Aa a p=some x→x.stack=st)→c=0
 fits:c=0→er=0∧Fits d p st hs
 mono:c=0→∀ q x,Aa a q=some x→∃ b,Aa d q=some b∧b.stack=x.stack∧uf b.has x.has∧(b=x∨q ∈ e)
 new:c=0→∀ q b,Aa d q=some b→q ∈ e∨Aa a q=some b
 todo:c=0→(∀ q ∈ e,q ∈ td∨q=p)∧∀ q ∈ td,q ∈ e
 yK:c=0→∀ h,uf h hs→(∀ x,Aa a p=some x→uf h x.has)→∀ b,Aa d p=some b→uf h b.has
 zK:c=0→∀ q,q≠p→Aa d q=Aa a q
theorem gr.same {C L:Nat}{st:List Int}{hs:List Bool}{p:Int}{a:Li}{td:List Int}{er c:Int}(ok:jq C L a) (h:c≠0) (k:er≠0→c=er) (g:er=0→¬ (p<C∧∀ x,Aa a p=some x→x.stack=st)):gr C L st hs p a td er a td c :=
 ⟨ok,Nat.le_refl _,k,fun b d e=>absurd ⟨d,e⟩ (g b),fun b=>absurd b h,fun b=>absurd b h,fun b=>absurd b h,fun b=>absurd b h,fun b=>absurd b h,fun b=>absurd b h⟩
theorem GH (a b:List Int) (f:a.length≤100000):su a b=some (decide (a=b)):=by
 have key:∀ (n i:Nat),a.length=b.length→i≤a.length→a.length - i<n→Ur a b n (i:Int)=some (decide (a.drop i=b.drop i)):=by
  intro n
  induction n with
  | zero=>intro i _ _ h; omega
  | succ n d =>
   intro i qa j k;unfold Ur;by_cases c:i<a.length
   ·rw [if_pos (by omega),Aj c,Option.bind_some,Aj (by omega),Option.bind_some,List.drop_eq_getElem_cons c,List.drop_eq_getElem_cons (by omega:i<b.length)];by_cases e:a[i]=b[i]
    ·rw [if_neg (fun g=>g e),rh (by omega),Option.bind_some];have:=d (i+1) qa c (by omega);rw [show ((i:Int)+1)=((i+1:Nat):Int) by omega,this];simp only [e,List.cons.injEq,true_and]
    ·rw [if_pos e];congr 1;exact (decide_eq_false fun g=>e (List.cons.inj g).1).symm
   ·rw [if_neg (by omega),List.drop_of_length_le (by omega),List.drop_of_length_le (by omega)];simp
 unfold su;by_cases h:a.length=b.length
 ·rw [if_neg (by omega)];have:=key (a.length+1) 0 h (by omega) (by omega);simpa using this
 ·rw [if_pos (by omega)];congr 1;exact (decide_eq_false fun e=>h (by rw [e])).symm
theorem HH {p:Int}{a:Li}{td st:List Int}{hs:List Bool}{er:Int}{x:vd}(r:td.length≤3000000000):∀ (n i:Nat) (b:Bool) (l:List Bool),l.length=x.has.length→hs.length=x.has.length→x.has.length≤1000000→i≤l.length→l.length - i<n →
  Ao p a td st hs er x n b (i:Int) l=some (Fc a p ⟨x.stack,l.take i++meet (l.drop i) (hs.drop i)⟩,if b=true∨meet (l.drop i) (hs.drop i)≠l.drop i then td++[p] else td,st,hs,er):=by
 intro n
 induction n with
 | zero=>intro i b l _ _ _ _ h; omega
 | succ n e =>
  intro i b l f g j s t;unfold Ao;by_cases c:i<l.length
  ·have k:i<hs.length:=by omega
   rw [if_pos (by omega),Aj c,Option.bind_some,List.drop_eq_getElem_cons c,List.drop_eq_getElem_cons k];have em:∀ x y (u v:List Bool),meet (x::u) (y::v)=(x && y)::meet u v:=fun _ _ _ _=>rfl;have m:((i:Int)+1)=((i+1:Nat):Int):=by omega
   have stay:∀ (o:(l[i] && hs[i])=l[i]),Fq b (i:Int) l (Ao p a td st hs er x n) false=some (Fc a p ⟨x.stack,l.take i++meet (l[i]::l.drop (i+1)) (hs[i]::hs.drop (i+1))⟩,if b=true∨meet (l[i]::l.drop (i+1)) (hs[i]::hs.drop (i+1))≠l[i]::l.drop (i+1) then td++[p] else td,st,hs,er):=fun o=>by
    unfold Fq;rw [if_neg (by decide),rh (by omega),Option.bind_some,m,e (i+1) b l f g j c (by omega),em,o];have na:l.take (i+1)++meet (l.drop (i+1)) (hs.drop (i+1))=l.take i++l[i]::meet (l.drop (i+1)) (hs.drop (i+1)):=by
     rw [← List.take_append_getElem c,List.append_assoc];rfl
    rw [na];simp only [ne_eq,List.cons.injEq,true_and]
   cases d:l[i] with
   | false =>
    rw [if_neg (by decide)];have:=stay (by rw [d];rfl);rw [d] at this;exact this
   | true =>
    rw [if_pos rfl,Aj k,Option.bind_some];cases q:hs[i] with
    | true =>
     have:=stay (by rw [d,q];rfl);rw [d,q] at this;exact this
    | false =>
     unfold Fq;rw [if_pos (by decide),Aj c,Option.bind_some,rh (by omega),Option.bind_some,m,Int.toNat_natCast,e (i+1) true (l.set i false) (by simpa using f) g j (by simp;omega) (by simp;omega)];have na:(l.set i false).take (i+1)++meet ((l.set i false).drop (i+1)) (hs.drop (i+1))=l.take i++meet (true::l.drop (i+1)) (false::hs.drop (i+1)):=by
      rw [em,← List.take_append_getElem (by simpa using c),List.append_assoc,List.take_set_of_le (by omega)];simp [List.drop_set]
     rw [na];simp [em]
  ·rw [if_neg (by omega),List.drop_of_length_le (by omega),List.drop_of_length_le (by omega),List.take_of_length_le (by omega)];have na:meet ([]:List Bool) []=[]:=rfl;rw [na,List.append_nil];cases b with
   | true =>
    unfold app;rw [if_pos rfl,if_pos (by simp;omega),Option.bind_some];simp
   | false=>simp
section
variable {m:Pc}{u:uc}{a:Li}{td st:List Int}{hs:List Bool}{er p:Int}{L:Nat}
theorem iv (Q:u.Code.length≤4000) (A:hs.length=L) (R:L≤200) (n:jq u.Code.length L a) (B:0≤p∧p≤u.Code.length) (C:zg (st,er)) (S:st.length≤1000) (D:Hk u.Code.length a td≤3000000000) :
  ∃ s t v,Ql (ze m) u a td st hs er p=some (s,t,st,hs,v)∧gr u.Code.length L st hs p a td er s t v:=by
 have E:td.length≤3000000000:=by unfold Hk at D;omega
 unfold Ql;by_cases c0:er≠0
 ·rw [if_pos c0];exact ⟨_,_,_,rfl,.same n c0 (fun _=>rfl) fun h=>absurd h c0⟩
 rw [if_neg c0];have c0:er=0:=by omega
 subst c0;by_cases Wa:p=(u.Code.length:Int)
 ·rw [if_pos Wa,vl,Option.bind_some];exact ⟨_,_,_,rfl,.same n (Tq (by decide)) (fun h=>absurd rfl h) fun _ ⟨h,_⟩=>by omega⟩
 rw [if_neg Wa];obtain ⟨b,rfl⟩:=Int.eq_ofNat_of_zero_le B.1;have F:b<u.Code.length:=by omega
 have w:∀ (x:vd),((List.range u.Code.length).map fun q:Nat=>Vk (Fc a (b:Int) x) (q:Int)).sum+Vk a (b:Int)=((List.range u.Code.length).map fun q:Nat=>Vk a (q:Int)).sum+Pn x.has:=fun x=>by
  have:=Qy (f:=fun q:Nat=>Vk (Fc a (b:Int) x) (q:Int)) (g:=fun q:Nat=>Vk a (q:Int)) (p:=b) u.Code.length F (fun q j=>by unfold Vk;rw [Ms,if_neg (by omega)]);have e:Vk (Fc a (b:Int) x) (b:Int)=Pn x.has:=by unfold Vk;rw [Ms,if_pos rfl]
  simp only [e] at this;exact this
 cases k:Aa a (b:Int) with
 | none =>
  rw [if_neg (by decide)];have G:Xt ⟨st,hs⟩=some ⟨st,hs⟩:=by
   unfold Xt Ev small;rw [if_pos (show st.length≤65536 by omega),Option.bind_some,if_pos (show hs.length≤65536 by omega),Option.bind_some]
  rw [G,Option.bind_some];unfold tw app;rw [if_pos (by simp;omega),Option.bind_some];refine ⟨_,_,_,rfl,?_⟩;have d:∀ q,Aa (Fc a (b:Int) ⟨st,hs⟩) q=if q=(b:Int) then some ⟨st,hs⟩ else Aa a q:=fun q=>Ms _ _ _ _;refine ⟨?_,?_,fun h=>absurd rfl h,fun _ _ _=>rfl,fun _=>⟨rfl,_,by rw [d,if_pos rfl],rfl,.qi _⟩,?_,?_,fun _=>⟨fun q j=>by simpa using j,fun q j=>by simp [j]⟩,?_,fun _ q j=>by rw [d,if_neg j]⟩
  ·intro q x i;rw [d] at i;by_cases e:q=(b:Int)
   ·rw [if_pos e] at i;obtain rfl:=Option.some.inj i;exact ⟨by omega,A,C⟩
   ·rw [if_neg e] at i;exact n q x i
  ·have:=w ⟨st,hs⟩;have e:Vk a (b:Int)=201:=by unfold Vk;rw [k]
   have:=MG hs;unfold Hk;simp only [List.length_append,List.length_cons,List.length_nil] at *;omega
  ·intro _ q x i;by_cases e:q=(b:Int)
   ·rw [e,k] at i;cases i
   ·exact ⟨x,by rw [d,if_neg e,i],rfl,.qi _,.inl rfl⟩
  ·intro _ q H i;by_cases e:q=(b:Int)
   ·exact .inl (by simp [e])
   ·rw [d,if_neg e] at i;exact .inr i
  ·intro _ h o r H i;rw [d,if_pos rfl] at i;obtain rfl:=Option.some.inj i;exact o
 | some x =>
  obtain ⟨-,K,z⟩:=n _ _ k;have M:=z.le rfl;simp only at M;rw [if_pos (by rfl),Option.bind_some,GH _ _ (by omega),Option.bind_some];by_cases e:x.stack=st
  ·rw [if_pos (by simpa using e)];have:=HH (p:=(b:Int)) (a:=a) (td:=td) (st:=st) (hs:=hs) (er:=0) (x:=x) E (x.has.length+1) 0 false x.has rfl (by omega) (by omega) (by omega) (by omega);rw [show ((0:Nat):Int)=0 from rfl] at this;rw [this];refine ⟨_,_,_,rfl,?_⟩;simp only [List.take_zero,List.drop_zero,List.nil_append,Bool.false_eq_true,false_or];have qa:x.has.length=hs.length:=by omega
   have d:∀ q,Aa (Fc a (b:Int) ⟨x.stack,meet x.has hs⟩) q=if q=(b:Int) then some ⟨x.stack,meet x.has hs⟩ else Aa a q:=fun q=>Ms _ _ _ _;have N:∀ q ∈ td,q ∈ (if meet x.has hs≠x.has then td++[(b:Int)] else td):=fun q j=>by split<;>simp [j]
   refine ⟨?_,?_,fun h=>absurd rfl h,fun _ _ _=>rfl,fun _=>⟨rfl,⟨x.stack,meet x.has hs⟩,by rw [d,if_pos rfl],e,NI qa⟩,?_,?_,fun _=>⟨fun q j=>?_,N⟩,?_,fun _ q j=>by rw [d,if_neg j]⟩
   ·intro q y c;rw [d] at c;by_cases na:q=(b:Int)
    ·rw [if_pos na] at c;obtain rfl:=Option.some.inj c;exact ⟨by omega,(yw qa).trans K,z⟩
    ·rw [if_neg na] at c;exact n q y c
   ·have o:=w ⟨x.stack,meet x.has hs⟩;have r:Vk a (b:Int)=Pn x.has:=by unfold Vk;rw [k]
    obtain ⟨T,P⟩:=gC x.has hs qa;unfold Hk;simp only at o;split
    ·rename_i l;have:=P l;simp only [List.length_append,List.length_cons,List.length_nil];omega
    ·omega
   ·intro _ q y c;by_cases na:q=(b:Int)
    ·subst na;rw [k] at c;obtain rfl:=Option.some.inj c;refine ⟨⟨x.stack,meet x.has hs⟩,by rw [d,if_pos rfl],rfl,MI qa,?_⟩;by_cases l:meet x.has hs=x.has
     ·exact .inl (by rw [l])
     ·exact .inr (by rw [if_pos l];simp)
    ·exact ⟨y,by rw [d,if_neg na,c],rfl,.qi _,.inl rfl⟩
   ·intro _ q y c;by_cases na:q=(b:Int)
    ·subst na;by_cases l:meet x.has hs=x.has
     ·rw [d,if_pos rfl,l] at c;exact .inr (by rw [k,← c])
     ·exact .inl (by rw [if_pos l];simp)
    ·rw [d,if_neg na] at c;exact .inr c
   ·split at j
    ·simpa using j
    ·exact .inl j
   ·intro _ h o r y c;rw [d,if_pos rfl] at c;obtain rfl:=Option.some.inj c;exact OI (r x k) o
  ·rw [if_neg (by simpa using e),vl,Option.bind_some];exact ⟨_,_,_,rfl,.same n (Tq (by decide)) (fun h=>absurd rfl h) fun _ ⟨_,h⟩=>e (h x k)⟩
end
end Go.Y
namespace Go.Y
open Go.oc Go.sd
theorem cG (s:Oe) (t:Int):(lf s t).1.length=s.1.length+1:=by simp [lf]
theorem KB (m:Pc) (s:Oe):(Ii m s).2.1.length≤s.1.length:=by
 have:=Bo s;unfold Ii;split
 ·exact this
 ·split
  ·exact this
  ·exact this
theorem hC {m:Pc}{s:Oe}(h:zg s):zg (Ii m s).2:=by
 unfold Ii;split
 ·exact h.pop
 ·split
  ·exact h.pop
  ·exact h.pop.er (by decide)
theorem AD {α:Type}{P:α→Prop}{c:Prop}[Decidable c]{a b:α}(d:c→P a) (e:¬ c→P b):P (if c then a else b):=by
 by_cases c:c
 ·rw [if_pos c];exact d c
 ·rw [if_neg c];exact e c
theorem zF (m:Pc) (u:uc) (i:fb) (s:Oe) (hs:List Bool):(Zc m u i s hs).1.length≤s.1.length+1:=by
 have w:∀ l (oe:Oe),oe.1.length≤s.1.length→(de l oe).1.length≤s.1.length+1:=fun l oe h=>Nat.le_trans (Il l oe) (by omega);have pl:∀ (oe:Oe) t,oe.1.length≤s.1.length→(lf oe t).1.length≤s.1.length+1:=fun oe t h=>by rw [cG];omega
 have a:∀ l (oe:Oe) t,oe.1.length≤s.1.length→(lf (de l oe) t).1.length≤s.1.length+1:=fun l oe t h=>pl _ _ (Nat.le_trans (Il l oe) h);have b:=Bo s;have r:=Nat.le_refl s.1.length;have P:=@AD Oe (fun z=>z.1.length≤s.1.length+1);unfold Zc;refine P (fun _=>pl _ _ r) fun _=>P (fun _=>pl _ _ r) fun _=>P (fun _=>pl _ _ r) fun _=>P (fun _=>w _ _ r) fun _=>P (fun _=>Nat.le_trans b (Nat.le_succ _)) fun _ =>
  P (fun _=>a _ _ _ r) fun _=>P (fun _=>a _ _ _ r) fun _=>P (fun _=>a _ _ _ r) fun _=>P (fun _=>a _ _ _ b) fun _=>P (fun _=>a _ _ _ r) fun _=>P (fun _=>a _ _ _ r) fun _ =>
  P (fun _=>Nat.le_succ _) fun _=>P (fun _=>w _ _ r) fun _=>P (fun _=>a _ _ _ r) fun _=>P (fun _=>w _ _ r) fun _=>P (fun _=>Nat.le_succ _) fun _=>P (fun _=>w _ _ r) fun _=>P (fun _=>pl _ _ r) fun _ =>
  P (fun _=>Nat.le_trans b (Nat.le_succ _)) fun _=>P (fun _=>a _ _ _ r) fun _=>P (fun _=>?_) fun _=>P (fun _=>a _ _ _ r) fun _=>P (fun _=>pl _ _ (KB m s)) fun _=>Nat.le_succ _
 have c:=Nat.le_trans (KB m (Sc s).2) b;generalize Ii m (Sc s).2=q at c;obtain ⟨o,oe⟩:=q;cases o with
 | none=>exact Nat.le_trans c (Nat.le_succ _)
 | some x=>exact pl _ _ c
theorem mK {l:List Int}(h:∀ y ∈ l,Tf y) (i:Int):Tf (Jj l i):=by
 unfold Jj;cases a:at_ l i with
 | none=>show Tf 0; unfold Tf; omega
 | some x=>exact h x (at_mem a).1
theorem BD {m:Pc}(hm:Tl m) (i:Int):gv (jh m i):=by
 unfold jh;cases a:at_ m.Jc i with
 | none=>refine ⟨?_,?_,?_,?_,⟨by decide,fun y b=>by cases b⟩,by decide,trivial⟩ <;> (show Tf 0; unfold Tf; omega)
 | some x=>exact hm.2.2 x (at_mem a).1
theorem nK {m:Pc}(hm:Tl m) (i:Int):FD (fl m i):=by
 unfold fl;cases a:at_ m.af i with
 | none=>constructor <;> (show Tf 0; unfold Tf; omega)
 | some x=>exact hm.1.2 x (at_mem a).1
theorem dG {m:Pc}{u:uc}{i:fb}{s:Oe}{hs:List Bool}(hm:Tl m) (n:xj m) (hu:gv u) (p:Nl m u i) (h:zg s):zg (Zc m u i s hs):=by
 have j:Tf 1:=by unfold Tf;omega
 have f:Tf 2:=by unfold Tf;omega
 have r:=mK hu.2.2.2.2.1.2 i.A;have rg:=BD hm i.A;have rx:=nK hm i.A;have t:i.Op=29→Tf (10+i.A):=fun k=>by
  obtain ⟨-,-,-,g4,g5⟩:=Jq (p.2.2.2.2.2.1 k);have:=n.1.2;unfold Tf;omega
 have d:∀ {s:Oe}{x e:Int},zg s→x≠0→(e=s.2∨e=ih s.2 x)→zg (s.1,e):=fun {s x e} h g he=>by
  rcases he with he | he
  ·rw [he];exact h
  ·rw [he];exact h.er g
 have ite:∀ {c:Prop}[Decidable c] {a b:Int},(if c then a else b)=b∨(if c then a else b)=a:=fun {c} _ {a b}=>by
  by_cases c:c
  ·rw [if_pos c];exact .inr rfl
  ·rw [if_neg c];exact .inl rfl
 have v:∀ {c:Prop}[Decidable c] {a b:Int},(if c then a else b)=a∨(if c then a else b)=b:=fun {c} _ {a b}=>ite.symm;have P:=@AD Oe zg;unfold Zc;refine P (fun _=>h.push j) fun _=>P (fun _=>h.push f) fun _=>P (fun _=>zg.push (d h (by decide) v) r) fun _=>P (fun _=>h.want _) fun _=>P (fun _=>h.pop) fun _ =>
  P (fun _=>(h.want _).push j) fun _=>P (fun _=>(h.want _).push f) fun _=>P (fun _=>(h.want _).push j) fun _=>P (fun _=>zg.push (zg.want _ (d h.pop (by decide) ite)) f) fun _=>P (fun _=>(h.want _).push f) fun _=>P (fun _=>(h.want _).push f) fun _ =>
  P (fun _=>h) fun _=>P (fun _=>h.want _) fun _=>P (fun _=>(h.want _).push rg.2.2.1) fun _=>P (fun _=>d (zg.want _ (d h (by decide) ite)) (by decide) ite) fun _=>P (fun _=>d (d h (by decide) ite:zg (s.1,_)) (by decide) ite) fun _ =>
  P (fun _=>h.want _) fun _=>P (fun _=>h.push rx.1) fun _=>P (fun _=>d h.pop (by decide) ite) fun _=>P (fun k=>(h.want _).push (t k)) fun _=>P (fun _=>?_) fun _=>P (fun _=>zg.push (zg.want _ (d h (by decide) ite)) hu.2.2.2.1) fun _=>P (fun _=>(hC h).push f) fun _=>h
 have l:=hC (m:=m) h.pop;have g:∀ x,(Ii m (Sc s).2).1=some x→gv x:=fun x e=>by
  unfold Ii at e;split at e
  ·cases e
  ·split at e
   ·obtain rfl:=Option.some.inj e;exact BD hm _
   ·cases e
 generalize Ii m (Sc s).2=q at l g;obtain ⟨o,oe⟩:=q;cases o with
 | none=>exact l
 | some x=>exact zg.push (d l (by decide) ite) (g x rfl).2.2.1
theorem NG (i:fb) (hs:List Bool):(ug i hs).length=hs.length:=by unfold ug;split<;>simp
theorem hy {i:fb}{a b:List Bool}(h:uf a b):uf (ug i a) (ug i b):=by
 unfold ug;split
 ·refine ⟨by simpa using h.1,fun j e=>?_⟩;have qa:=h.1;rw [List.getElem?_set] at e ⊢;by_cases c:i.A.toNat=j
  ·rw [if_pos c] at e ⊢;split at e
   ·rw [if_pos (by omega)]
   ·cases e
  ·rw [if_neg c] at e ⊢;exact h.2 j e
 ·exact h
theorem IH {a b:List Bool}{i:Int}(h:uf a b) (g:ca a i=true):ca b i=true:=by
 unfold ca at_ at *;split
 ·rename_i c;rw [if_pos c] at g;cases e:a[i.toNat]? with
  | none=>rw [e] at g; cases g
  | some x =>
   rw [e] at g;have:x=true:=g;rw [h.2 _ (by rw [e,this])];rfl
 ·rename_i c;rw [if_neg c] at g;cases g
theorem OG {s:Oe}{t:Int}(h:(lf s t).2=0):s.2=0:=by
 unfold lf at h;simp only at h;split at h
 ·exact absurd h (Tq (by decide))
 ·exact h
theorem Zv {m:Pc}{u:uc}{i:fb}{s:Oe}{a b:List Bool}(h:uf a b) (f:(Zc m u i s a).2=0):Zc m u i s b=Zc m u i s a:=by
 by_cases c:i.Op=3
 ·have e:∀ hs,Zc m u i s hs=lf (s.1,if ca hs i.A=true then s.2 else ih s.2 11) (Jj u.Wb i.A):=fun hs=>by
   unfold Zc;rw [if_neg (show ¬ i.Op=1 by omega),if_neg (show ¬ i.Op=2 by omega),if_pos c]
  rw [e] at f ⊢;rw [e];have d:=OG f;simp only at d;by_cases g:ca a i.A=true
  ·rw [if_pos g,if_pos (IH h g)]
  ·rw [if_neg g] at d;exact absurd d (Tq (by decide))
 ·unfold Zc;simp only [if_neg c]
theorem Fits.mono {a c:Li}{p:Int}{st:List Int}{hs:List Bool}(h:Fits a p st hs) (g:∀ q x,Aa a q=some x→∃ b,Aa c q=some b∧b.stack=x.stack∧uf b.has x.has):Fits c p st hs:=by
 obtain ⟨y,d,e,f⟩:=h;obtain ⟨i,g1,g2,g3⟩:=g p y d;exact ⟨i,g1,g2.trans e,g3.jn f⟩
def ft (m:Pc) (u:uc) (a:Li) (p:Int) (x:vd):Prop:=∃ i,at_ u.Code p=some i∧(Zc m u i (x.stack,0) x.has).2=0 ∧
 ((i.Op=21∨i.Op=22)→Fits a i.A (Zc m u i (x.stack,0) x.has).1 (ug i x.has))∧(follows i→Fits a (p+1) (Zc m u i (x.stack,0) x.has).1 (ug i x.has))
theorem ft.mono {m:Pc}{u:uc}{a c:Li}{p:Int}{x:vd}(h:ft m u a p x) (g:∀ q x,Aa a q=some x→∃ b,Aa c q=some b∧b.stack=x.stack∧uf b.has x.has):ft m u c p x:=by
 obtain ⟨i,d,e,f,j⟩:=h;exact ⟨i,d,e,fun k=>(f k).mono g,fun k=>(j k).mono g⟩
abbrev Sz:=Int→Option (List Int×List Bool)
structure Sp (m:Pc) (u:uc) (T:Sz):Prop where
 step:∀ p st h,T p=some (st,h)→∃ i,at_ u.Code p=some i∧(Zc m u i (st,0) h).2=0 ∧
  ((i.Op=21∨i.Op=22)→i.A<u.Code.length∧∃ a,T i.A=some ((Zc m u i (st,0) h).1,a)∧uf a (ug i h)) ∧
  (follows i→p+1<u.Code.length∧∃ a,T (p+1)=some ((Zc m u i (st,0) h).1,a)∧uf a (ug i h))
def pv (a:Li) (T:Sz):Prop:=∀ p x,Aa a p=some x→∃ h,T p=some (x.stack,h)∧uf h x.has
theorem gr.typed {C L:Nat}{st:List Int}{hs:List Bool}{p:Int}{a j:Li}{td l:List Int}{e:Int}{T:Sz}(h:gr C L st hs p a td 0 j l e) (f:pv a T) (m:p<C){b:List Bool}(g:T p=some (st,b)) (n:uf b hs):e=0∧pv j T:=by
 have Va:e=0:=h.zD rfl m fun x i=>by
  obtain ⟨o,na,-⟩:=f p x i;rw [g] at na;exact (Prod.mk.inj (Option.some.inj na)).1.symm
 refine ⟨Va,fun q y d=>?_⟩;by_cases c:q=p
 ·subst c;obtain ⟨-,z,k,z2,-⟩:=h.fits Va;rw [d] at k;obtain rfl:=Option.some.inj k;refine ⟨b,by rw [g,z2],h.yK Va b n (fun x i=>?_) y d⟩;obtain ⟨o,na,V⟩:=f q x i;rw [g] at na;rw [(Prod.mk.inj (Option.some.inj na)).2];exact V
 ·rw [h.zK Va q c] at d;exact f q y d
section
variable {fu:Nat}{m:Pc}{u:uc}{k:Int}
structure oK (m:Pc) (u:uc) (q:Int) (x:vd) (a:Li) (td:List Int) (c:Li) (d:List Int):Prop where
 mono:∀ p y,Aa a p=some y→∃ b,Aa c p=some b∧b.stack=y.stack∧uf b.has y.has∧(b=y∨p ∈ d)
 new:∀ p b,Aa c p=some b→p ∈ d∨Aa a p=some b
 todo:(∀ p ∈ d,p ∈ td∨∃ y,Aa c p=some y)∧∀ p ∈ td,p ∈ d
 done:ft m u c q x
theorem gr.Nd {C L:Nat}{st:List Int}{hs:List Bool}{p:Int}{a:Li}{td:List Int}{er:Int}{d:Li}{c:List Int}{g:Int}(h:gr C L st hs p a td er d c g) (e:g=0):(∀ p y,Aa a p=some y→∃ b,Aa d p=some b∧b.stack=y.stack∧uf b.has y.has∧(b=y∨p ∈ c))∧(∀ p b,Aa d p=some b→p ∈ c∨Aa a p=some b)∧(∀ p ∈ c,p ∈ td∨∃ y,Aa d p=some y)∧∀ p ∈ td,p ∈ c:=by
 refine ⟨h.mono e,h.new e,fun q i=>?_,(h.todo e).2⟩;rcases (h.todo e).1 q i with f | f
 ·exact .inl f
 ·obtain ⟨-,y,j,-⟩:=h.fits e;exact .inr ⟨y,by rw [f,j]⟩
theorem iter (hm:Tl m) (rd:xj m) (hu:u ∈ m.Jc) (wf:1000≤fu){q:Int}{x:vd}{a:Li}{td:List Int}(M:Aa a q=some x) (U:jq u.Code.length u.Wb.length a) (Fn:Hk u.Code.length a td≤2000000000) :
  ∃ o C s li pi,(∀ n ch z,sj fu (ze m) k u (n+1) 0 ch (q::td) z a=if s≠0 then some ⟨s,k,q⟩ else sj fu (ze m) k u n s li C pi o)∧jq u.Code.length u.Wb.length o∧Hk u.Code.length o C≤Hk u.Code.length a td∧(s=0→oK m u q x a td o C) ∧
   ∀ T,Sp m u T→pv a T→s=0∧pv o T:=by
 obtain ⟨⟨-,⟨In,-⟩,⟨-,fd⟩,-⟩,Pi⟩:=rd.2.2.1 u hu;have kk:=hm.2.2 u hu;obtain ⟨If,W,N⟩:=U q x M;have mk:=N.le rfl;simp only at mk;obtain ⟨i,t,dl⟩:=Wn (l:=u.Code) If.1 If.2;have wd:=Pi i dl;have el:cut (q::td) 1 (q::td).length=some td:=by unfold cut;rw [if_pos (by simp only [List.length_cons];omega)];simp
 have nl:Yt x=some x:=by
  unfold Yt Fv small;rw [if_pos (by omega),Option.bind_some,if_pos (by omega),Option.bind_some]
 have start:∀ n ch z,sj fu (ze m) k u (n+1) 0 ch (q::td) z a=(Fm fu (ze m) u a td x.stack x.has 0 i).bind fun b =>
   if b.1=true then
    (i64 (q+1)).bind fun ol =>
    (Ql (ze m) u b.2.1 b.2.2.1 b.2.2.2.1 b.2.2.2.2.1 b.2.2.2.2.2 ol).bind fun X =>
    Bq k q (sj fu (ze m) k u n) X.2.2.2.2 X.2.2.2.1 X.2.1 X.2.2.1 X.1
   else
    Bq k q (sj fu (ze m) k u n) b.2.2.2.2.2 b.2.2.2.2.1 b.2.2.1 b.2.2.2.1 b.2.1:=fun n ch z=>by
  rw [sj,if_pos (by simp only [List.length_cons];omega),show at_ (q::td) 0=some q from rfl,Option.bind_some,el,Option.bind_some,M,Option.bind_some,nl,Option.bind_some,t,Option.bind_some]
 have id:∀ n er hs td st a,Bq k q (sj fu (ze m) k u n) er hs td st a=if er≠0 then some ⟨er,k,q⟩ else sj fu (ze m) k u n er hs td st a:=fun _ _ _ _ _ _=>rfl;have dg:i64 (q+1)=some (q+1):=rh (by omega);have rg:(i.Op=21∨i.Op=22)→0≤i.A∧i.A<u.Code.length:=wd.2.2.2.1;by_cases P:i.Op=21
 ·have B:Zc m u i (x.stack,0) x.has=(x.stack,0):=by unfold Zc;simp [P]
  have Q:ug i x.has=x.has:=if_neg (by omega);obtain ⟨o,C,s,e,R⟩:=iv (m:=m) (u:=u) (a:=a) (td:=td) (st:=x.stack) (hs:=x.has) (er:=0) (p:=i.A) (L:=u.Wb.length) fd W (by omega) U (by have:=rg (.inl P);omega) N (by omega) (by omega);refine ⟨o,C,s,x.has,x.stack,fun n ch z=>?_,R.ok,R.w,fun Va=>?_,fun T D d=>?_⟩
  ·rw [start,EH P,e,Option.bind_some,Option.bind_some,if_neg (by simp),id]
  ·obtain ⟨E,Y,Nd,F⟩:=R.Nd Va;refine ⟨E,Y,⟨Nd,F⟩,i,t,by rw [B],fun _=>by rw [B,Q];exact (R.fits Va).2,fun h=>absurd P h.1⟩
  ·obtain ⟨h,G,j⟩:=d q x M;obtain ⟨Fd,f,s1,s2,-⟩:=D.step q x.stack h G;rw [t] at f;obtain rfl:=Option.some.inj f;obtain ⟨Id,pl,Z,be⟩:=s2 (.inl P);rw [← Zv j s1,B] at Z;exact R.typed d Id Z (be.jn (by have:=hy (i:=i) j;rwa [Q] at this))
 by_cases gc:i.Op=22
 ·have B:Zc m u i (x.stack,0) x.has=de [2] (x.stack,0):=by unfold Zc;simp [gc]
  have Q:ug i x.has=x.has:=if_neg (by omega);have bi:=Il [2] (x.stack,0);obtain ⟨ta,ul,wl,na,v⟩:=iv (m:=m) (u:=u) (a:=a) (td:=td) (st:=(de [2] (x.stack,0)).1) (hs:=x.has) (er:=(de [2] (x.stack,0)).2) (p:=i.A) (L:=u.Wb.length) fd W (by omega) U (by have:=rg (.inr gc);omega) (N.want _) (by simp only at bi;omega) (by omega);obtain ⟨a2,am,em,lm,S⟩:=iv (m:=m) (u:=u) (a:=ta) (td:=ul) (st:=(de [2] (x.stack,0)).1) (hs:=x.has) (er:=wl) (p:=q+1) (L:=u.Wb.length) fd W (by omega) v.ok (by omega) (by
   have hw:=N.want [2];refine ⟨fun ci=>?_,hw.r⟩;by_cases c:(de [2] (x.stack,0)).2=0
   ·exact hw.le c
   ·rw [v.hv c] at ci;exact absurd ci c) (by simp only at bi;omega) (by have:=v.w;omega)
  refine ⟨a2,am,em,x.has,(de [2] (x.stack,0)).1,fun n ch z=>?_,S.ok,Nat.le_trans S.w v.w,fun Va=>?_,fun T D d=>?_⟩
  ·rw [start,FH (by omega) wf gc,na,Option.bind_some,Option.bind_some,if_pos rfl,dg,Option.bind_some,lm,Option.bind_some,id]
  ·obtain ⟨g0,g1⟩:=S.fits Va;obtain ⟨v1,v2,v3,v4⟩:=v.Nd g0;obtain ⟨E,Y,Nd,F⟩:=S.Nd Va;refine ⟨fun p y g=>?_,fun p H g=>?_,⟨fun p K=>?_,fun p K=>F p (v4 p K)⟩,i,t,by rw [B];exact (v.fits g0).1,fun _=>?_,fun _=>by rw [B,Q];exact g1⟩
   ·obtain ⟨pm,ub,Ib,jc,Kc⟩:=v1 p y g;obtain ⟨sm,ce,ge,he,lc⟩:=E p pm ub;refine ⟨sm,ce,ge.trans Ib,he.jn jc,?_⟩;rcases lc with lc | lc
    ·rcases Kc with Kc | Kc
     ·exact .inl (lc.trans Kc)
     ·exact .inr (F p Kc)
    ·exact .inr lc
   ·rcases Y p H g with h | h
    ·exact .inl h
    ·rcases v2 p H h with h | h
     ·exact .inl (F p h)
     ·exact .inr h
   ·rcases Nd p K with h | h
    ·rcases v3 p h with h | ⟨y,g⟩
     ·exact .inl h
     ·obtain ⟨H,Nm,-⟩:=E p y g;exact .inr ⟨H,Nm⟩
    ·exact .inr h
   ·rw [B,Q];exact (v.fits g0).2.mono fun p y g=>by
     obtain ⟨H,ce,ge,he,-⟩:=E p y g;exact ⟨H,ce,ge,he⟩
  ·obtain ⟨h,G,j⟩:=d q x M;obtain ⟨Fd,f,s1,s2,ne⟩:=D.step q x.stack h G;rw [t] at f;obtain rfl:=Option.some.inj f;obtain ⟨Id,pl,Z,be⟩:=s2 (.inr gc);obtain ⟨Ne,fn,rc,of⟩:=ne ⟨by omega,by omega,by omega⟩;have on:=Zv j s1;rw [← on,B] at Z rc s1;have ii:uf (ug i h) x.has:=by have:=hy (i:=i) j;rwa [Q] at this
   rw [s1] at v;obtain ⟨t1,t2⟩:=v.typed d Id Z (be.jn ii);rw [t1] at S;exact S.typed t2 Ne rc (of.jn ii)
 have un:=dG (hs:=x.has) hm rd kk wd N;have wn:=zF m u i (x.stack,0) x.has;simp only at wn;have es:=LI (fu:=fu) (a:=a) (td:=td) (hs:=x.has) (er:=0) rd wd (by omega) N hm wf W P gc;by_cases md:follows i
 ·obtain ⟨o,C,s,e,R⟩:=iv (m:=m) (u:=u) (a:=a) (td:=td) (st:=(Zc m u i (x.stack,0) x.has).1) (hs:=ug i x.has) (er:=(Zc m u i (x.stack,0) x.has).2) (p:=q+1) (L:=u.Wb.length) fd (by rw [NG,W]) (by omega) U (by omega) un (by omega) (by omega);refine ⟨o,C,s,ug i x.has,(Zc m u i (x.stack,0) x.has).1,fun n ch z=>?_,R.ok,R.w,fun Va=>?_,fun T D d=>?_⟩
  ·rw [start,es,Option.bind_some,if_pos (by simpa using md),dg,Option.bind_some,e,Option.bind_some,id]
  ·obtain ⟨E,Y,Nd,F⟩:=R.Nd Va;obtain ⟨g0,g1⟩:=R.fits Va;exact ⟨E,Y,⟨Nd,F⟩,i,t,g0,fun h=>by omega,fun _=>g1⟩
  ·obtain ⟨h,G,j⟩:=d q x M;obtain ⟨Fd,f,s1,-,ne⟩:=D.step q x.stack h G;rw [t] at f;obtain rfl:=Option.some.inj f;obtain ⟨Ne,fn,rc,of⟩:=ne md;rw [← Zv j s1] at rc s1;rw [s1] at R;exact R.typed d Ne rc (of.jn (hy j))
 ·refine ⟨a,td,(Zc m u i (x.stack,0) x.has).2,ug i x.has,(Zc m u i (x.stack,0) x.has).1,fun n ch z=>?_,U,Nat.le_refl _,fun Va=>?_,fun T D d=>?_⟩
  ·rw [start,es,Option.bind_some,if_neg (by simpa using md),id]
  ·exact ⟨fun p y g=>⟨y,g,rfl,.qi _,.inl rfl⟩,fun p H g=>.inr g,⟨fun p K=>.inl K,fun p K=>K⟩,i,t,Va,fun h=>by omega,fun h=>absurd h md⟩
  ·obtain ⟨h,G,j⟩:=d q x M;obtain ⟨Fd,f,s1,-⟩:=D.step q x.stack h G;rw [t] at f;obtain rfl:=Option.some.inj f;rw [← Zv j s1] at s1;exact ⟨s1,d⟩
def QC (m:Pc) (u:uc) (a:Li):Prop:=jq u.Code.length u.Wb.length a∧∀ p x,Aa a p=some x→ft m u a p x
theorem PI (hm:Tl m) (B:xj m) (hu:u ∈ m.Jc) (C:1000≤fu):∀ (n:Nat) (a:Li) (td:List Int) (ch:List Bool) (l:List Int),jq u.Code.length u.Wb.length a→Hk u.Code.length a td<n→Hk u.Code.length a td≤2000000000→(∀ q ∈ td,∃ x,Aa a q=some x)→(∀ p x,Aa a p=some x→p ∈ td∨ft m u a p x) →
  ∃ w,sj fu (ze m) k u n 0 ch td l a=some w∧(w.ve=0→w=⟨0,0,0⟩∧∃ g,QC m u g∧∀ p y,Aa a p=some y→∃ d,Aa g p=some d∧d.stack=y.stack∧uf d.has y.has)∧∀ T,Sp m u T→pv a T→w.ve=0:=by
 intro n
 induction n with
 | zero=>intro a td ch l _ h; omega
 | succ n D =>
  intro a td ch l v fd id z ya;cases td with
  | nil =>
   rw [sj,if_neg (by simp)];refine ⟨_,rfl,fun _=>⟨rfl,a,⟨v,fun p x i=>?_⟩,fun p y f=>⟨y,f,rfl,.qi _⟩⟩,fun _ _ _=>rfl⟩;rcases ya p x i with h | h
   ·cases h
   ·exact h
  | cons q td =>
   obtain ⟨x,i⟩:=z q (List.mem_cons_self ..);have md:Hk u.Code.length a (q::td)=Hk u.Code.length a td+1:=by unfold Hk;simp;omega
   obtain ⟨g,E,F,G,H,e,K,Wd,L,lb⟩:=iter (k:=k) (td:=td) hm B hu C i v (by omega);rw [e];by_cases c:F=0
   ·subst c;rw [if_neg (by simp)];obtain ⟨M,N,⟨Nd,P⟩,Q⟩:=L rfl;have g1:∀ p y,Aa a p=some y→∃ d,Aa g p=some d∧d.stack=y.stack∧uf d.has y.has:=fun p y f=>by
     obtain ⟨d,o,r,s,-⟩:=M p y f;exact ⟨d,o,r,s⟩
    obtain ⟨w,R,S,U⟩:=D g E G H K (by omega) (by omega) (fun p W=>by
     rcases Nd p W with h | h
     ·obtain ⟨y,f⟩:=z p (List.mem_cons_of_mem _ h);obtain ⟨d,X,-⟩:=g1 p y f;exact ⟨d,X⟩
     ·exact h) (fun p d f=>by
     rcases N p d f with h | h
     ·exact .inl h
     ·by_cases A:p=q
      ·subst A;rw [i] at h;obtain rfl:=Option.some.inj h;exact .inr Q
      ·rcases ya p d h with h | h
       ·rcases List.mem_cons.1 h with h | h
        ·exact absurd h A
        ·exact .inl (P p h)
       ·exact .inr (h.mono g1))
    refine ⟨w,R,fun h=>?_,fun T j t=>U T j (lb T j t).2⟩;obtain ⟨Y,b,Z,gc⟩:=S h;refine ⟨Y,b,Z,fun p y f=>?_⟩;obtain ⟨lc,ub,Ib,jc⟩:=g1 p y f;obtain ⟨rc,o,r,s⟩:=gc p lc ub;exact ⟨rc,o,r.trans Ib,s.jn jc⟩
   ·rw [if_pos c];exact ⟨_,rfl,fun h=>absurd h c,fun T j t=>absurd (lb T j t).1 c⟩
theorem iC:∀ (i r:Nat),(List.replicate i true++List.replicate (r+1) false).set i true=List.replicate (i+1) true++List.replicate r false
 | 0,r=>rfl
 | i+1,r=>by
  have:=iC i r;rw [List.replicate_succ,List.cons_append,List.set_cons_succ,this,List.replicate_succ (n:=i+1)];rfl
def ch (u:uc):List Bool:=List.replicate u.Params.toNat true++List.replicate (u.Wb.length - u.Params.toNat) false
def Xw (m:Pc) (u:uc):Prop:=∃ a,QC m u a∧∃ x,Aa a 0=some x∧x.stack=[]∧uf x.has (ch u)
theorem JH (hm:Tl m) (j:xj m) (l:at_ m.Jc k=some u) (Z:1000000≤fu) :
  ∃ w,Au fu (ze m) k=some w∧(w.ve=0→w=⟨0,0,0⟩∧Xw m u)∧∀ T,Sp m u T→(∃ h,T 0=some ([],h)∧uf h (ch u))→w.ve=0:=by
 obtain ⟨hu,-⟩:=at_mem l;obtain ⟨⟨-,⟨gc,lc,rc,fd,-⟩,⟨id,o⟩,-⟩,md⟩:=j.2.2.1 u hu;have r:(ch u).length=u.Wb.length:=by unfold ch;simp;omega
 have fin:∃ w,((Ql (ze m) u ([]:List (Int×vd)) ([]:List Int) ([]:List Int) (ch u) 0 0).bind fun d=>sj fu (ze m) k u fu d.2.2.2.2 d.2.2.2.1 d.2.1 d.2.2.1 d.1)=some w∧(w.ve=0→w=⟨0,0,0⟩∧Xw m u)∧∀ T,Sp m u T→(∃ h,T 0=some ([],h)∧uf h (ch u))→w.ve=0:=by
  have s:jq u.Code.length u.Wb.length []:=fun p x f=>by cases f
  have J:Hk u.Code.length [] []≤201*4000:=by
   have:∀ C:Nat,((List.range C).map fun q:Nat=>Vk [] (q:Int)).sum=201*C:=fun C=>by
    induction C with
    | zero=>rfl
    | succ C g =>
     rw [List.range_succ,List.map_append,List.sum_append,g];simp [Vk,Aa];omega
   unfold Hk;rw [this];simp;omega
  obtain ⟨a,td,er,e,R⟩:=iv (m:=m) (u:=u) (a:=[]) (td:=[]) (st:=[]) (hs:=ch u) (er:=0) (p:=0) (L:=u.Wb.length) o r (by omega) s (by omega) ⟨fun _=>by simp,fun t v=>by cases v⟩ (by simp) (by omega);have Va:er=0:=R.zD rfl (by omega) fun x f=>by cases f
  subst Va;rw [e,Option.bind_some];obtain ⟨-,y,z,A,B⟩:=R.fits rfl;obtain ⟨rd,D,Nd,wd⟩:=R.Nd rfl;have Fd:=R.w;obtain ⟨w,E,F,G⟩:=PI (fu:=fu) (k:=k) hm j hu (by omega) fu a td (ch u) [] R.ok (by omega) (by omega) (fun q H=>by
   rcases Nd q H with h | h
   ·cases h
   ·exact h) (fun p x f=>by
   rcases D p x f with h | h
   ·exact .inl h
   ·cases h)
  refine ⟨w,E,fun h=>?_,fun T K ⟨h,t1,t2⟩=>G T K (R.typed (fun p x f=>by cases f) (by omega) t1 t2).2⟩;obtain ⟨M,b,N,P⟩:=F h;obtain ⟨Q,S,U,W⟩:=P 0 y z;exact ⟨M,b,N,Q,S,U.trans A,W.jn B⟩
 have X:∀ (n i:Nat),i≤u.Params.toNat→u.Params.toNat - i<n→ns fu (ze m) k u n (i:Int) (List.replicate i true++List.replicate (u.Wb.length - i) false)=(Ql (ze m) u ([]:List (Int×vd)) ([]:List Int) ([]:List Int) (ch u) 0 0).bind fun d=>sj fu (ze m) k u fu d.2.2.2.2 d.2.2.2.1 d.2.1 d.2.2.1 d.1:=by
  intro n
  induction n with
  | zero=>intro i _ h; omega
  | succ n g =>
   intro i Id be;unfold ns;by_cases c:(i:Int)<u.Params
   ·have Y:i<(List.replicate i true++List.replicate (u.Wb.length - i) false).length:=by simp;omega
    rw [if_pos c,Aj Y,Option.bind_some,rh (by omega),Option.bind_some];have na:(List.replicate i true++List.replicate (u.Wb.length - i) false).set (i:Int).toNat true=List.replicate (i+1) true++List.replicate (u.Wb.length - (i+1)) false:=by
     rw [Int.toNat_natCast,show u.Wb.length - i=(u.Wb.length - (i+1))+1 by omega];exact iC _ _
    rw [na,show ((i:Int)+1)=((i+1:Nat):Int) by omega];exact g (i+1) (by omega) (by omega)
   ·have:i=u.Params.toNat:=by omega
    rw [if_neg c,this];rfl
 unfold Au;rw [Option.bind_some,l,Option.bind_some];unfold nv;rw [if_pos (by omega),Option.bind_some,Int.toNat_natCast];have:=X ((u.Params - 0).toNat+1) 0 (by omega) (by simp);simp only [List.replicate_zero,List.nil_append,Nat.sub_zero] at this;rw [show ((0:Nat):Int)=0 from rfl] at this;rw [this];exact fin
end
end Go.Y
namespace Go.Y
open Go.oc Go.sd
def iz (u:uc) (k:Int):Prop:=∃ i ∈ u.Code,(i.Op=23∨i.Op=29)∧i.A=k
inductive hr (m:Pc):Int→Int→Prop
 | refl (k:Int):hr m k k
 | step {k a b:Int} {u:uc}:hr m k a→at_ m.Jc a=some u→iz u b→hr m k b
def Qn (U:Nat) (l:List Int):Nat:=((List.range U).map fun q:Nat=>if (q:Int) ∈ l then 0 else 1).sum
theorem iy {U:Nat}{l:List Int}{k:Int}(a:0≤k) (c:k<U) (b:k ∉ l):Qn U (l++[k])+1=Qn U l:=by
 obtain ⟨n,rfl⟩:=Int.eq_ofNat_of_zero_le a;have:=Qy (f:=fun q:Nat=>if (q:Int) ∈ l++[(n:Int)] then 0 else 1) (g:=fun q:Nat=>if (q:Int) ∈ l then 0 else 1) (p:=n) U (by omega) (fun q d=>by
  have:(q:Int)≠(n:Int):=by omega
  simp [this])
 simp [b] at this;unfold Qn;simp;omega
theorem PG (U:Nat) (l:List Int):Qn U l≤U:=by
 unfold Qn
 induction U with
 | zero=>simp
 | succ U a =>
  rw [List.range_succ,List.map_append,List.sum_append];simp only [List.map_cons,List.map_nil,List.sum_cons,List.sum_nil];split<;>omega
section
variable {m:Pc}{k0:Int}
structure Tm (m:Pc) (k0:Int) (l:List Int):Prop where
 rg:∀ x ∈ l,0≤x∧x<m.Jc.length
 rc:∀ x ∈ l,hr m k0 x
 vg:l.length+Qn m.Jc.length l≤m.Jc.length+1
def At (m:Pc) (x:Int) (l:List Int):Prop:=∀ v,at_ m.Jc x=some v→∀ b,iz v b→b ∈ l
theorem PE {a:Int}{u:uc}{K:Int→List Int→Option (List Int)}(t:xj m) (hu:at_ m.Jc a=some u) (B:0≤a∧hr m k0 a) (i0:Nat) (T:i0≤1000){R:List Int→Prop}
  (C:∀ Ha,Tm m k0 Ha→(∀ b,iz u b→b ∈ Ha)→R Ha→∃ r,K ((i0:Int)+1) Ha=some r∧(∀ x ∈ Ha,x ∈ r)∧Tm m k0 r∧∀ x ∈ r,At m x r) (D:∀ l b,Qn m.Jc.length (l++[b])+1=Qn m.Jc.length l→R l→R (l++[b])):∀ (n j:Nat) (l:List Int),Tm m k0 l→i0<l.length→R l→j≤u.Code.length→u.Code.length - j<n→(∀ i ∈ u.Code.take j,(i.Op=23∨i.Op=29)→i.A ∈ l) →
  ∃ r,Bm (i0:Int) u K n (j:Int) l=some r∧(∀ x ∈ l,x ∈ r)∧Tm m k0 r∧∀ x ∈ r,At m x r:=by
 obtain ⟨E,-⟩:=at_mem hu;obtain ⟨⟨-,-,⟨-,W⟩,-⟩,F⟩:=t.2.2.1 u E;have X:=t.1.2;intro n
 induction n with
 | zero=>intro j l _ _ _ _ h; omega
 | succ n v =>
  intro j l g G p Y Z ya;unfold Bm;by_cases c:j<u.Code.length
  ·have w:=List.getElem_mem c;have Ab:=F _ w;rw [if_pos (by omega),Aj c,Option.bind_some];have y:((j:Int)+1)=((j+1:Nat):Int):=by omega
   have Fg:u.Code.take (j+1)=u.Code.take j++[u.Code[j]]:=(List.take_append_getElem c).symm;have stay:((u.Code[j].Op=23∨u.Code[j].Op=29)→u.Code[j].A ∈ l)→∃ r,po (j:Int) l u.Code[j] (Bm (i0:Int) u K n) false=some r∧(∀ x ∈ l,x ∈ r)∧Tm m k0 r∧∀ x ∈ r,At m x r:=fun H=>by
    unfold po;rw [if_neg (by decide),rh (by omega),Option.bind_some,y];refine v (j+1) l g G p c (by omega) fun i d=>?_;rw [Fg] at d;rcases List.mem_append.1 d with d | d
    ·exact ya i d
    ·rw [List.mem_singleton.1 d];exact H
   have go:(u.Code[j].Op=23∨u.Code[j].Op=29)→∃ r,po (j:Int) l u.Code[j] (Bm (i0:Int) u K n) (!(l.contains u.Code[j].A))=some r∧(∀ x ∈ l,x ∈ r)∧Tm m k0 r∧∀ x ∈ r,At m x r:=fun f=>by
    by_cases k:u.Code[j].A ∈ l
    ·have:(!(l.contains u.Code[j].A))=false:=by simp [k]
     rw [this];exact stay fun _=>k
    ·have:(!(l.contains u.Code[j].A))=true:=by simp [k]
     rw [this];have o:0≤u.Code[j].A∧u.Code[j].A<m.Jc.length:=by
      rcases f with f | f
      ·obtain ⟨-,-,-,g1,g2⟩:=Jq (Ab.2.2.2.2.1 f);exact ⟨g1,g2⟩
      ·obtain ⟨-,-,-,g1,g2⟩:=Jq (Ab.2.2.2.2.2.1 f);exact ⟨g1,g2⟩
     have z:Tm m k0 (l++[u.Code[j].A]):=by
      refine ⟨fun x e=>?_,fun x e=>?_,?_⟩
      ·rcases List.mem_append.1 e with e | e
       ·exact g.rg x e
       ·rw [List.mem_singleton.1 e];exact o
      ·rcases List.mem_append.1 e with e | e
       ·exact g.rc x e
       ·rw [List.mem_singleton.1 e];exact .step B.2 hu ⟨_,w,f,rfl⟩
      ·have:=iy (U:=m.Jc.length) o.1 o.2 k;have:=g.vg;simp;omega
     have L:=z.vg;unfold po app;rw [if_pos rfl,if_pos (by simp at L ⊢;omega),Option.bind_some,rh (by omega),Option.bind_some,y];obtain ⟨r,M,N,P,Q⟩:=v (j+1) (l++[u.Code[j].A]) z (by simp;omega) (D _ _ (iy o.1 o.2 k) p) c (by omega) (fun i d=>by
      rw [Fg] at d;rcases List.mem_append.1 d with d | d
      ·exact fun h=>List.mem_append_left _ (ya i d h)
      ·rw [List.mem_singleton.1 d];exact fun _=>by simp)
     exact ⟨r,M,fun x e=>N x (List.mem_append_left _ e),P,Q⟩
   by_cases q:u.Code[j].Op=23
   ·rw [if_pos q];exact go (.inl q)
   ·rw [if_neg q];by_cases s:u.Code[j].Op=29
    ·rw [if_pos s];exact go (.inr s)
    ·rw [if_neg s];exact stay fun h=>by omega
  ·rw [if_neg (by omega),rh (by omega),Option.bind_some];refine C l g (fun b ⟨i,d,f,S⟩=>?_) p;rw [List.take_of_length_le (by omega)] at ya;rw [← S];exact ya i d f
theorem QE (k:xj m):∀ (n i:Nat) (l:List Int),Tm m k0 l→i≤l.length→(l.length - i)+Qn m.Jc.length l<n→(∀ x ∈ l.take i,At m x l) →
  ∃ r,qo (ze m) n (i:Int) l=some r∧(∀ x ∈ l,x ∈ r)∧Tm m k0 r∧∀ x ∈ r,At m x r:=by
 have E:=k.1.2;intro n
 induction n with
 | zero=>intro i l _ _ h; omega
 | succ n p =>
  intro i l d o F ya;have G:=d.vg;unfold qo;by_cases c:i<l.length
  ·have g:=List.getElem_mem c;obtain ⟨u,hu,-⟩:=Wn (l:=m.Jc) (d.rg _ g).1 (d.rg _ g).2;rw [if_pos (by omega),Option.bind_some,Aj c,Option.bind_some,hu,Option.bind_some];obtain ⟨r,q,s,t,w⟩:=PE (k0:=k0) (K:=qo (ze m) n) k hu ⟨(d.rg _ g).1,d.rc _ g⟩ i (by omega) (R:=fun Ha=>(Ha.length - i)+Qn m.Jc.length Ha≤n∧i<Ha.length∧Ha[i]?=some l[i]∧(∀ x ∈ l,x ∈ Ha)∧Ha.take i=l.take i) (fun Ha y z f=>by
    have:=p (i+1) Ha y (by omega) (by omega) (fun x a v Ab b j=>by
     have Fg:Ha.take (i+1)=Ha.take i++[Ha[i]]:=(List.take_append_getElem f.2.1).symm;rw [Fg] at a;rcases List.mem_append.1 a with a | a
     ·rw [f.2.2.2.2] at a;exact f.2.2.2.1 _ (ya x a v Ab b j)
     ·have e:Ha[i]=l[i]:=by
       have:=f.2.2.1;rw [List.getElem?_eq_getElem f.2.1] at this;exact Option.some.inj this
      rw [List.mem_singleton.1 a,e,hu] at Ab;rw [← Option.some.inj Ab] at j;exact z b j)
    rw [show ((i:Int)+1)=((i+1:Nat):Int) by omega];exact this) (fun Ha b H ⟨L,A,B,C,D⟩=>by
    refine ⟨by simp;omega,by simp;omega,?_,fun x a=>List.mem_append_left _ (C x a),?_⟩
    ·rw [List.getElem?_append_left A];exact B
    ·rw [List.take_append_of_le_length (by omega)];exact D) (u.Code.length+1) 0 l d c ⟨by omega,c,List.getElem?_eq_getElem c,fun x a=>a,rfl⟩ (by omega) (by omega) (fun i o=>by simp at o)
   exact ⟨r,q,s,t,w⟩
  ·rw [if_neg (by omega)];rw [List.take_of_length_le (by omega)] at ya;exact ⟨l,rfl,fun x a=>a,d,ya⟩
theorem LB {fu:Nat}(c:xj m) (b:0≤k0∧k0<m.Jc.length) (p:1000≤fu):∃ r,tu fu (ze m) k0=some r∧Tm m k0 r∧∀ x,x ∈ r ↔ hr m k0 x:=by
 have q:=c.1.2;have d:=iy (U:=m.Jc.length) (l:=[]) b.1 b.2 (by simp);have s:=PG m.Jc.length [];have f:Tm m k0 [k0]:=⟨fun x a=>by rw [List.mem_singleton.1 a];exact b,fun x a=>by rw [List.mem_singleton.1 a];exact .refl _,by simp at d ⊢;omega⟩;obtain ⟨r,g,i,e,j⟩:=QE c fu 0 [k0] f (by omega) (by simp at d ⊢;omega) (fun x a=>by simp at a);refine ⟨r,g,e,fun x=>⟨e.rc x,fun h=>?_⟩⟩
 induction h with
 | refl=>exact i _ (by simp)
 | step t k n o=>exact j _ o _ k _ n
def Tu (m:Pc) (op b x:Int):Bool:=match at_ m.Jc x with
 | some u=>u.Code.any fun i=>decide (i.Op=op) && decide (i.A=b)
 | none=>false
theorem QI {f:fb→Option Bool}{g:fb→Bool}(l:List fb) (qa:l.length≤4000000000) (a:∀ x ∈ l,f x=some (g x)):∀ (n i:Nat),i≤l.length→l.length - i<n→∃ r,Bs l f n (i:Int)=some r∧(0≤r ↔ (l.drop i).any g=true):=by
 intro n
 induction n with
 | zero=>intro i _ h; omega
 | succ n b =>
  intro i d e;unfold Bs;by_cases c:i<l.length
  ·rw [if_pos (by omega),Aj c,Option.bind_some,a _ (List.getElem_mem c),Option.bind_some,List.drop_eq_getElem_cons c,List.any_cons];cases j:g l[i] with
   | true=>exact ⟨_,if_pos rfl,by simp⟩
   | false =>
    rw [if_neg (by decide),rh (by omega),Option.bind_some,Bool.false_or];exact b (i+1) c (by omega)
  ·rw [if_neg (by omega),List.drop_of_length_le (by omega)];exact ⟨_,rfl,by simp⟩
theorem RI {x op b:Int}(d:xj m) (a:0≤x∧x<m.Jc.length):eu x (some (ze m)) op b=some (Tu m op b x):=by
 obtain ⟨u,hu,j⟩:=Wn (l:=m.Jc) a.1 a.2;obtain ⟨⟨-,-,⟨-,o⟩,-⟩,-⟩:=d.2.2.1 u j;unfold eu Tu Tw Sw;rw [Option.bind_some,Option.bind_some,hu,Option.bind_some];obtain ⟨r,e,h⟩:=QI (f:=fun k=>bu k op b) (g:=fun i=>decide (i.Op=op) && decide (i.A=b)) u.Code (by omega) (fun i _=>by
  unfold bu;by_cases h:i.Op=op<;>simp [h]) (u.Code.length+1) 0 (by omega) (by omega)
 rw [show ((0:Nat):Int)=0 from rfl] at e;rw [e,Option.bind_some,Option.bind_some];rw [List.drop_zero] at h;congr 1;show _=u.Code.any _;cases c:u.Code.any fun i=>decide (i.Op=op) && decide (i.A=b) with
 | true=>rw [c] at h; simp [h.2 rfl]
 | false=>rw [c] at h; simp only [decide_eq_false_iff_not]; exact fun n=>absurd (h.1 n) (by decide)
def Pq (fu:Nat) (m:Pc) (op b:Int) (k:Nat):Bool:=match m.Jc[k]? with
 | some u=>decide (u.Kind=4) && ((tu fu (ze m) (k:Int)).getD []).any (Tu m op b)
 | none=>false
def vi (fu:Nat) (m:Pc) (op b:Int) (i:Nat):Nat:=(((List.range m.Jc.length).drop i).filter (Pq fu m op b)).length
theorem YA {fu:Nat}{b o op:Int}{K:Int→Option eg}{C:Prop}(d:xj m) (s:1000≤fu) (u:0≤o∧o≤100) (t:Ij (K (o+1)) C):∀ (n i:Nat) (c:Int),i≤m.Jc.length→m.Jc.length - i<n→0≤c∧c≤i →
  Ij (so fu (ze m) m b o op K n c (i:Int)) (c+vi fu m op b i≤1∧C):=by
 have v:=d.1.2;intro n
 induction n with
 | zero=>intro i c _ h; omega
 | succ n j =>
  intro i c w y z;unfold so;by_cases q:i<m.Jc.length
  ·have er:(List.range m.Jc.length).drop i=i::(List.range m.Jc.length).drop (i+1):=by
    rw [List.drop_eq_getElem_cons (by simpa using q),List.getElem_range]
   have Ma:vi fu m op b i=(if Pq fu m op b i=true then 1 else 0)+vi fu m op b (i+1):=by
    unfold vi;rw [er,List.filter_cons];split
    ·simp;omega
    ·omega
   have k:∀ x:Bool,x=Pq fu m op b i→Ij (Vr c (i:Int) (so fu (ze m) m b o op K n) x) (c+vi fu m op b i≤1∧C):=fun x e=>by
    unfold Vr;rw [Ma,← e];cases x with
    | true =>
     rw [if_pos rfl,rh (by omega),Option.bind_some,rh (by omega),Option.bind_some,if_pos rfl];refine (j (i+1) (c+1) q (by omega) (by omega)).iff ?_;constructor
     ·rintro ⟨f,a⟩;exact ⟨by omega,a⟩
     ·rintro ⟨f,a⟩;exact ⟨by omega,a⟩
    | false =>
     rw [if_neg (by decide),rh (by omega),Option.bind_some,if_neg (by decide)];refine (j (i+1) c q (by omega) (by omega)).iff ?_;constructor
     ·rintro ⟨f,a⟩;exact ⟨by omega,a⟩
     ·rintro ⟨f,a⟩;exact ⟨by omega,a⟩
   rw [if_pos (by omega),Aj q,Option.bind_some];have Va:m.Jc[i]?=some m.Jc[i]:=List.getElem?_eq_getElem q;by_cases Gd:m.Jc[i].Kind=4
   ·obtain ⟨r,l,p,A⟩:=LB (m:=m) (k0:=(i:Int)) (fu:=fu) d (by omega) s;have B:=p.vg;rw [if_pos Gd,l,Option.bind_some,MC (g:=Tu m op b) r (by omega) (fun x e=>RI d (p.rg x e)),Option.bind_some];refine k _ ?_;unfold Pq;rw [Va,l];simp [Gd]
   ·rw [if_neg Gd];refine k _ ?_;unfold Pq;rw [Va];simp [Gd]
  ·have Va:vi fu m op b i=0:=by unfold vi;rw [List.drop_of_length_le (by simp;omega)];rfl
   rw [if_neg (by omega),Va];by_cases Wa:(1:Int)<c
   ·rw [if_pos Wa];exact .no (by decide) (by omega)
   ·rw [if_neg Wa,rh (by omega),Option.bind_some];refine t.iff ⟨fun h=>⟨by omega,h⟩,fun h=>h.2⟩
def nt (fu:Nat) (m:Pc):Prop:=∀ b:Nat,b<m.af.length→vi fu m 26 (b:Int) 0≤1∧vi fu m 27 (b:Int) 0≤1
theorem KH {fu:Nat}(d:xj m) (f:1000≤fu):Ij (uu fu (ze m)) (nt fu m):=by
 have r:=d.1.1;have g:∀ (n i:Nat),i≤m.af.length→m.af.length - i<n→Ij (kl fu (ze m) m n (i:Int)) (∀ b:Nat,i≤b→b<m.af.length→vi fu m 26 (b:Int) 0≤1∧vi fu m 27 (b:Int) 0≤1):=by
  intro n
  induction n with
  | zero=>intro i _ h; omega
  | succ n j =>
   intro i s t;unfold kl;by_cases c:i<m.af.length
   ·rw [if_pos (by omega)];have k:Ij (jl fu (ze m) m (i:Int) (kl fu (ze m) m n) 1 (1+1)) (∀ b:Nat,i+1≤b→b<m.af.length→vi fu m 26 (b:Int) 0≤1∧vi fu m 27 (b:Int) 0≤1):=by
     unfold jl;rw [if_neg (by decide),rh (by omega),Option.bind_some];exact j (i+1) c (by omega)
    have k1:Ij (jl fu (ze m) m (i:Int) (kl fu (ze m) m n) 2 (0+1)) ((0:Int)+vi fu m 27 (i:Int) 0≤1∧∀ b:Nat,i+1≤b→b<m.af.length→vi fu m 26 (b:Int) 0≤1∧vi fu m 27 (b:Int) 0≤1):=by
     rw [jl,if_pos (by decide),show at_ [(26:Int),27] (0+1)=some 27 from rfl,Option.bind_some];exact YA (K:=jl fu (ze m) m (i:Int) (kl fu (ze m) m n) 1) d f (by decide) k _ 0 0 (by omega) (by omega) (by omega)
    have k0:Ij (jl fu (ze m) m (i:Int) (kl fu (ze m) m n) 3 0) ((0:Int)+vi fu m 26 (i:Int) 0≤1∧(0:Int)+vi fu m 27 (i:Int) 0≤1∧∀ b:Nat,i+1≤b→b<m.af.length→vi fu m 26 (b:Int) 0≤1∧vi fu m 27 (b:Int) 0≤1):=by
     rw [jl,if_pos (by decide),show at_ [(26:Int),27] 0=some 26 from rfl,Option.bind_some];exact YA (K:=jl fu (ze m) m (i:Int) (kl fu (ze m) m n) 2) d f (by decide) k1 _ 0 0 (by omega) (by omega) (by omega)
    refine k0.iff ⟨fun ⟨l,o,p⟩ b u q=>?_,fun h=>⟨by have:=h i (by omega) c;omega,by have:=h i (by omega) c;omega,fun b a=>h b (by omega)⟩⟩;by_cases e:b=i
    ·subst e;exact ⟨by omega,by omega⟩
    ·exact p b (by omega) q
   ·rw [if_neg (by omega)];exact ⟨_,rfl,⟨fun _ b l o=>by omega,fun _=>rfl⟩,fun _=>rfl⟩
 unfold uu;rw [Option.bind_some];exact (g _ 0 (by omega) (by omega)).iff ⟨fun h b a=>h b (by omega) a,fun h b _ a=>h b a⟩
def SI (fu:Nat) (m:Pc):Prop:=xj m∧(∀ u ∈ m.Jc,Xw m u)∧nt fu m
def jz (m:Pc):Prop:=∀ u ∈ m.Jc,∃ T,Sp m u T∧∃ h,T 0=some ([],h)∧uf h (ch u)
theorem QG {fu:Nat}(hm:Tl m) (r:1000000≤fu):∃ w,gu fu m=some w∧(w.ve=0→w=⟨0,0,0⟩∧SI fu m)∧(xj m→jz m→nt fu m→w=⟨0,0,0⟩):=by
 obtain ⟨w,f1,f2,f3⟩:=JI hm;unfold gu;rw [f1,Option.bind_some];by_cases a:w.ve=0
 ·have b:=f2.1 a;have B:=b.1.2;obtain ⟨s,t,Wd,q⟩:=KH (fu:=fu) b (by omega);rw [if_neg (fun g=>g a)];have v:∀ (n i:Nat),i≤m.Jc.length→m.Jc.length - i<n→∃ w,Jr fu m n (i:Int)=some w∧(w.ve=0→w=⟨0,0,0⟩∧(∀ u ∈ m.Jc.drop i,Xw m u)∧nt fu m)∧(jz m→nt fu m→w=⟨0,0,0⟩):=by
   intro n
   induction n with
   | zero=>intro i _ h; omega
   | succ n x =>
    intro i C D;unfold Jr;by_cases c:i<m.Jc.length
    ·obtain ⟨w,y,z,Nd⟩:=JH (k:=(i:Int)) (u:=m.Jc[i]) (fu:=fu) hm b (Aj c) r;rw [if_pos (by omega),y,Option.bind_some];by_cases e:w.ve=0
     ·obtain ⟨w',f,j,l⟩:=x (i+1) c (by omega);rw [if_neg (fun g=>g e),rh (by omega),Option.bind_some];refine ⟨w',f,fun h=>?_,l⟩;obtain ⟨o,d,p⟩:=j h;refine ⟨o,fun u hu=>?_,p⟩;rw [List.drop_eq_getElem_cons c] at hu;rcases List.mem_cons.1 hu with rfl | hu
      ·exact (z e).2
      ·exact d u hu
     ·rw [if_pos e];refine ⟨w,rfl,fun h=>absurd h e,fun A _=>?_⟩;obtain ⟨T,t1,t2⟩:=A _ (List.getElem_mem c);exact absurd (Nd T t1 t2) e
    ·rw [if_neg (by omega),t,Option.bind_some,List.drop_of_length_le (by omega)];exact ⟨s,rfl,fun h=>⟨q h,fun u hu=>(List.not_mem_nil hu).elim,Wd.1 h⟩,fun _ h=>q (Wd.2 h)⟩
  obtain ⟨w',f,j,l⟩:=v (m.Jc.length+1) 0 (by omega) (by omega);refine ⟨w',f,fun h=>?_,fun _=>l⟩;obtain ⟨o,d,p⟩:=j h;rw [List.drop_zero] at d;exact ⟨o,b,d,p⟩
 ·rw [if_pos a];exact ⟨w,rfl,fun h=>absurd h a,fun h=>absurd (f2.2 h) a⟩
end
end Go.Y
namespace Go.Y
open Go.oc Go.sd
abbrev Vo:=List Int×List Bool
abbrev zh:=fb×Vo
def mq (l:List zh) (s:Vo):Prop:=∃ a r,l=a::r∧a.2.1=s.1∧uf a.2.2 s.2
def yx (C:List zh) (t:Int) (st:List Int) (h:List Bool):Prop:=0≤t∧∃ a,C[t.toNat]?=some a∧a.2.1=st∧uf a.2.2 h
def kn (m:Pc) (u:uc) (i:fb):Prop:=(1≤i.Op∧i.Op≤32)∧(i.Op=2→i.A=0∨i.A=1)∧(i.Op=3∨i.Op=4→0≤i.A∧i.A<u.Wb.length)∧(i.Op=23→jj m i.A 2=true)∧(i.Op=29→jj m i.A 3=true)∧(i.Op=26∨i.Op=27→0≤i.A∧i.A<m.af.length)
theorem Hi {m:Pc}{u:uc}{i:fb}(a:1≤i.Op∧i.Op≤32) (b:i.Op≠2) (e:i.Op≠3) (f:i.Op≠4) (c:i.Op≠23) (d:i.Op≠29) (g:i.Op≠26) (h:i.Op≠27):kn m u i :=
 ⟨a,fun k=>absurd k b,fun k=>by rcases k with k | k<;>contradiction,fun k=>absurd k c,fun k=>absurd k d,fun k=>by rcases k with k | k<;>contradiction⟩
structure Yw (m:Pc) (u:uc) (C:List zh) (p:Nat) (a:zh):Prop where
 mr:kn m u a.1
 er:(Zc m u a.1 (a.2.1,0) a.2.2).2=0
 ND:a.1.Op=21∨a.1.Op=22→yx C a.1.A (Zc m u a.1 (a.2.1,0) a.2.2).1 (ug a.1 a.2.2)
 vb:follows a.1→yx C ((p:Int)+1) (Zc m u a.1 (a.2.1,0) a.2.2).1 (ug a.1 a.2.2)
def mh (m:Pc) (u:uc) (base:Nat) (b:List zh) (s oe:Vo):Prop :=
 ∀ pre post:List zh,pre.length=base→mq post oe→mq (b++post) s∧∀ (j:Nat) (a:zh),b[j]?=some a→Yw m u (pre++(b++post)) (base+j) a
theorem mq.gt {l pre:List zh}{s:Vo}{t:Int}{st:List Int}{h:List Bool}(k:mq l s) (b:t=(pre.length:Int)) (c:s.1=st) (d:uf s.2 h):yx (pre++l) t st h:=by
 obtain ⟨a,r,rfl,na,e⟩:=k;refine ⟨by omega,a,?_,na.trans c,e.jn d⟩;rw [b,Int.toNat_natCast,List.getElem?_append_right (Nat.le_refl _),Nat.sub_self];rfl
theorem mq.CD {l:List zh}{s oe:Vo}(k:mq l s) (b:s.1=oe.1) (c:uf s.2 oe.2):mq l oe:=by
 obtain ⟨a,r,e,na,d⟩:=k;exact ⟨a,r,e,na.trans b,d.jn c⟩
section
variable {m:Pc}{u:uc}{base:Nat}{s oe:Vo}
theorem mh.nil (b:oe.1=s.1) (c:uf oe.2 s.2):mh m u base [] s oe:=fun pre post _ d=>⟨d.CD b c,fun j a e=>by simp at e⟩
theorem mh.KJ {a:List zh}{t:Vo}(k:mh m u base a s oe) (d:s.1=t.1) (e:uf s.2 t.2):mh m u base a t oe:=fun pre post b c=>⟨(k pre post b c).1.CD d e,(k pre post b c).2⟩
theorem mh.app {A B:List zh}{t:Vo}(f:mh m u base A s t) (g:mh m u (base+A.length) B t oe):mh m u base (A++B) s oe:=by
 intro pre post d h;obtain ⟨V,Ed⟩:=g (pre++A) post (by simp [d]) h;obtain ⟨ta,a2⟩:=f pre (B++post) d V;have e:pre++(A++B++post)=pre++(A++(B++post)):=by simp
 have i:pre++A++(B++post)=pre++(A++(B++post)):=by simp
 rw [e];rw [i] at Ed;refine ⟨by rw [List.append_assoc];exact ta,fun j a b=>?_⟩;by_cases c:j<A.length
 ·rw [List.getElem?_append_left c] at b;exact a2 j a b
 ·rw [List.getElem?_append_right (by omega)] at b;have:=Ed (j - A.length) a b;rw [show base+A.length+(j - A.length)=base+j by omega] at this;exact this
theorem mh.one {i:fb}{st:List Int}{h:List Bool}(mr:kn m u i) (e:Zc m u i (st,0) h=(oe.1,0)) (l:i.Op≠21) (n:i.Op≠22) (c:follows i→uf oe.2 (ug i h)):mh m u base [(i,(st,h))] (st,h) oe:=by
 intro pre post d f;refine ⟨⟨_,_,rfl,rfl,.qi _⟩,fun j a b=>?_⟩;have:j=0:=by
  obtain ⟨g,-⟩:=List.getElem?_eq_some_iff.1 b;simpa using g
 subst this;obtain rfl:=Option.some.inj b;refine ⟨mr,by rw [e],fun h=>by rcases h with h | h<;>contradiction,fun k=>?_⟩;rw [e];have:pre++([(i,(st,h))]++post)=(pre++[(i,(st,h))])++post:=by simp
 rw [this];exact f.gt (by simp [d]) rfl (c k)
theorem jC {i:fb}(h:i.Op=21) (s:Oe) (hs:List Bool):Zc m u i s hs=s:=by unfold Zc;simp [h]
theorem kC {i:fb}(h:i.Op=22) (s:Oe) (hs:List Bool):Zc m u i s hs=de [2] s:=by unfold Zc;simp [h]
theorem RC:de [2] (([2]:List Int),0)=([],0):=rfl
theorem mh.cond {e V Ed:List zh}{h:List Bool}(he:mh m u base e ([],h) ([2],h)) (s:mh m u (base+e.length+1) V ([],h) ([],h)) (t:mh m u (base+e.length+1+V.length+1) Ed ([],h) ([],h)) :
  mh m u base (e++((⟨22,((base+e.length+1+V.length+1:Nat):Int),0⟩,([2],h))::(V++((⟨21,((base+e.length+1+V.length+1+Ed.length:Nat):Int),0⟩,([],h))::Ed)))) ([],h) ([],h):=by
 intro pre post d l;generalize f:((⟨22,((base+e.length+1+V.length+1:Nat):Int),0⟩,([2],h)):zh)=x;generalize g:((⟨21,((base+e.length+1+V.length+1+Ed.length:Nat):Int),0⟩,([],h)):zh)=y;obtain ⟨g1,g2⟩:=t (pre++e++[x]++V++[y]) post (by simp [d];omega) l;obtain ⟨f1,f2⟩:=s (pre++e++[x]) (y::(Ed++post)) (by simp [d];omega) ⟨y,_,rfl,by rw [← g],by rw [← g];exact .qi _⟩;obtain ⟨k1,v⟩:=he pre (x::(V++(y::(Ed++post)))) d ⟨x,_,rfl,by rw [← f],by rw [← f];exact .qi _⟩;have w:pre++(e++(x::(V++(y::Ed)))++post)=pre++(e++(x::(V++(y::(Ed++post))))):=by simp
 have n:pre++e++[x]++V++[y]++(Ed++post)=pre++(e++(x::(V++(y::(Ed++post))))):=by simp
 have o:pre++e++[x]++(V++(y::(Ed++post)))=pre++(e++(x::(V++(y::(Ed++post))))):=by simp
 have z:(pre++e++[x]++V++[y]++Ed)++post=pre++(e++(x::(V++(y::(Ed++post))))):=by simp
 rw [w];rw [n] at g2;rw [o] at f2;refine ⟨by rw [show e++(x::(V++(y::Ed)))++post=e++(x::(V++(y::(Ed++post)))) by simp];exact k1,fun j a b=>?_⟩;by_cases c:j<e.length
 ·rw [List.getElem?_append_left c] at b;exact v j a b
 rw [List.getElem?_append_right (by omega)] at b;by_cases c0:j=e.length
 ·subst c0;rw [Nat.sub_self,List.getElem?_cons_zero] at b;obtain rfl:=Option.some.inj b;have k:Zc m u x.1 (x.2.1,0) x.2.2=([],0):=by rw [← f];exact (kC rfl _ _).trans RC
  have E:x.1.Op=22:=by rw [← f]
  have i:ug x.1 x.2.2=h:=by unfold ug;rw [if_neg (by omega),← f]
  refine ⟨?_,by rw [k],fun _=>?_,fun _=>?_⟩
  ·exact Hi (by omega) (by omega) (by omega) (by omega) (by omega) (by omega) (by omega) (by omega)
  ·rw [k,i,← n,← f];exact g1.gt (by simp [d];omega) rfl (.qi _)
  ·rw [k,i,← o];exact f1.gt (by simp [d];omega) rfl (.qi _)
 obtain ⟨q,A⟩:∃ q,j - e.length=q+1:=⟨j - e.length - 1,by omega⟩;rw [A,List.getElem?_cons_succ] at b;by_cases Wa:q<V.length
 ·rw [List.getElem?_append_left Wa] at b;have:=f2 q a b;rw [show base+e.length+1+q=base+j by omega] at this;exact this
 rw [List.getElem?_append_right (by omega)] at b;by_cases c2:q=V.length
 ·subst c2;rw [Nat.sub_self,List.getElem?_cons_zero] at b;obtain rfl:=Option.some.inj b;have p:Zc m u y.1 (y.2.1,0) y.2.2=([],0):=by rw [← g];exact jC rfl _ _
  have B:y.1.Op=21:=by rw [← g]
  have i:ug y.1 y.2.2=h:=by unfold ug;rw [if_neg (by omega),← g]
  refine ⟨?_,by rw [p],fun _=>?_,fun C=>?_⟩
  ·exact Hi (by omega) (by omega) (by omega) (by omega) (by omega) (by omega) (by omega) (by omega)
  ·rw [p,i,← z,← g];exact l.gt (by simp [d];omega) rfl (.qi _)
  ·exact absurd B C.1
 obtain ⟨r,D⟩:∃ r,q - V.length=r+1:=⟨q - V.length - 1,by omega⟩;rw [D,List.getElem?_cons_succ] at b;have:=g2 r a b;rw [show base+e.length+1+V.length+1+r=base+j by omega] at this;exact this
theorem mh.loop {e b:List zh}{h:List Bool}(he:mh m u base e ([],h) ([2],h)) (l:mh m u (base+e.length+1) b ([],h) ([],h)) :
  mh m u base (e++((⟨22,((base+e.length+1+b.length+1:Nat):Int),0⟩,([2],h))::(b++[(⟨21,(base:Int),0⟩,([],h))]))) ([],h) ([],h):=by
 intro pre post i r;generalize f:((⟨22,((base+e.length+1+b.length+1:Nat):Int),0⟩,([2],h)):zh)=x;generalize g:((⟨21,(base:Int),0⟩,([],h)):zh)=y;obtain ⟨f1,f2⟩:=l (pre++e++[x]) (y::post) (by simp [i];omega) ⟨y,_,rfl,by rw [← g],by rw [← g];exact .qi _⟩;obtain ⟨k1,s⟩:=he pre (x::(b++(y::post))) i ⟨x,_,rfl,by rw [← f],by rw [← f];exact .qi _⟩;have t:pre++(e++(x::(b++[y]))++post)=pre++(e++(x::(b++(y::post)))):=by simp
 have o:pre++e++[x]++(b++(y::post))=pre++(e++(x::(b++(y::post)))):=by simp
 have v:(pre++e++[x]++b++[y])++post=pre++(e++(x::(b++(y::post)))):=by simp
 rw [t];rw [o] at f2;refine ⟨by rw [show e++(x::(b++[y]))++post=e++(x::(b++(y::post))) by simp];exact k1,fun j a d=>?_⟩;by_cases c:j<e.length
 ·rw [List.getElem?_append_left c] at d;exact s j a d
 rw [List.getElem?_append_right (by omega)] at d;by_cases c0:j=e.length
 ·subst c0;rw [Nat.sub_self,List.getElem?_cons_zero] at d;obtain rfl:=Option.some.inj d;have n:Zc m u x.1 (x.2.1,0) x.2.2=([],0):=by rw [← f];exact (kC rfl _ _).trans RC
  have C:x.1.Op=22:=by rw [← f]
  have k:ug x.1 x.2.2=h:=by unfold ug;rw [if_neg (by omega),← f]
  refine ⟨?_,by rw [n],fun _=>?_,fun _=>?_⟩
  ·exact Hi (by omega) (by omega) (by omega) (by omega) (by omega) (by omega) (by omega) (by omega)
  ·rw [n,k,← v,← f];exact r.gt (by simp [i];omega) rfl (.qi _)
  ·rw [n,k,← o];exact f1.gt (by simp [i];omega) rfl (.qi _)
 obtain ⟨q,w⟩:∃ q,j - e.length=q+1:=⟨j - e.length - 1,by omega⟩;rw [w,List.getElem?_cons_succ] at d;by_cases Wa:q<b.length
 ·rw [List.getElem?_append_left Wa] at d;have:=f2 q a d;rw [show base+e.length+1+q=base+j by omega] at this;exact this
 rw [List.getElem?_append_right (by omega)] at d;have c2:q - b.length=0:=by
  obtain ⟨l,-⟩:=List.getElem?_eq_some_iff.1 d;simpa using l
 rw [c2,List.getElem?_cons_zero] at d;obtain rfl:=Option.some.inj d;have p:Zc m u y.1 (y.2.1,0) y.2.2=([],0):=by rw [← g];exact jC rfl _ _
 have z:y.1.Op=21:=by rw [← g]
 have k:ug y.1 y.2.2=h:=by unfold ug;rw [if_neg (by omega),← g]
 refine ⟨?_,by rw [p],fun _=>?_,fun B=>?_⟩
 ·exact Hi (by omega) (by omega) (by omega) (by omega) (by omega) (by omega) (by omega) (by omega)
 ·rw [p,k,show y.1.A=(base:Int) by rw [← g]];exact k1.gt (by rw [i]) rfl (.qi _)
 ·exact absurd z B.1
end
theorem RG {m:Pc}{u:uc}{C:List zh}(f:u.Code=C.map (·.1)) (h:∀ (j:Nat) (a:zh),C[j]?=some a→Yw m u C j a):Sp m u (fun p=>if 0≤p then (C[p.toNat]?).map (·.2) else none):=by
 have g:∀ {t:Int}{st:List Int}{hs:List Bool},yx C t st hs→t<u.Code.length∧∃ i,(if 0≤t then (C[t.toNat]?).map (·.2) else none)=some (st,i)∧uf i hs:=fun {t st hs} ⟨c,a,b,l,n⟩=>by
  obtain ⟨qa,-⟩:=List.getElem?_eq_some_iff.1 b;refine ⟨by rw [f,List.length_map];omega,a.2.2,?_,n⟩;rw [if_pos c,b];show some a.2=_;rw [← l]
 refine ⟨fun p st hs d=>?_⟩;split at d
 ·rename_i c;obtain ⟨a,b,e⟩:=Option.map_eq_some_iff.1 d;have S:=h _ a b;have na:a.2.1=st:=by rw [e]
  have o:a.2.2=hs:=by rw [e]
  subst na;subst o;refine ⟨a.1,?_,S.er,fun k=>g (S.ND k),fun k=>?_⟩
  ·unfold at_;rw [if_pos c,f,List.getElem?_map,b];rfl
  ·have:=S.vb k;rw [Int.toNat_of_nonneg c] at this;exact g this
 ·cases d
theorem eG {m:Pc}{u:uc}{C:List zh}(c:u.Code=C.map (·.1)) (h:∀ (j:Nat) (a:zh),C[j]?=some a→Yw m u C j a):∀ i ∈ u.Code,Nl m u i:=by
 intro i d;rw [c] at d;obtain ⟨a,e,rfl⟩:=List.mem_map.1 d;obtain ⟨j,f⟩:=List.getElem?_of_mem e;have S:=h j a f;obtain ⟨v1,v2,v3,v4,v5,v6⟩:=S.mr;refine ⟨v1,v2,v3,fun k=>?_,v4,v5,v6⟩;obtain ⟨g,b,l,-⟩:=S.ND k;obtain ⟨qa,-⟩:=List.getElem?_eq_some_iff.1 l;exact ⟨g,by rw [c,List.length_map];omega⟩
end Go.Y
namespace Go.Y
open Go.oc Go.sd
def sc (T:Fe) (t:Ya):Int:=if t.Kind=3 then 10+(Aa T.Pg t.yc).getD 0 else t.Kind
theorem sk (T:Fe) (t:Ya):sc T (kf t)=sc T t:=by
 unfold kf;by_cases h:t.Kind≠3
 ·rw [if_pos h];unfold sc;rw [if_neg h,if_neg h]
 ·rw [if_neg h]
theorem Eo {T:Fe}{t:Ya}(h:t.Kind≠3):sc T t=t.Kind:=if_neg h
theorem Es {p:Eb}{T:Fe}(H:Xp p T){t:Ya}(a:ui p t):En T t=some (sc T t):=by
 rw [En,sc];by_cases c:t.Kind=3
 ·obtain ⟨d,d1,d2⟩:=a c;obtain ⟨u,Ye,yd,b⟩:=H.un _ d d1 (by omega);rw [if_pos c,if_pos c,Ye];show Option.bind (i64 (10+u)) _=_;rw [Td (by omega),pa];rfl
 ·rw [if_neg c,if_neg c]
def Ji (bloc:wg):List Int:=bloc.flatMap fun m=>m.map (·.2)
def jg (n:Nat) (bloc:wg):List Bool:=(List.range n).map fun j:Nat=>decide ((j:Int) ∈ Ji bloc)
theorem Qs (n:Nat) (bloc:wg):(jg n bloc).length=n:=by simp [jg]
theorem Kq (n:Nat) (bloc:wg) (j:Nat):(jg n bloc)[j]?=some true ↔ j<n∧(j:Int) ∈ Ji bloc:=by
 unfold jg;rw [List.getElem?_map];by_cases h:j<n
 ·rw [List.getElem?_range h];simp [h]
 ·rw [List.getElem?_eq_none (by simpa using h)];simp [h]
theorem lC {n:Nat}{a b:wg}(h:∀ k ∈ Ji a,k ∈ Ji b):uf (jg n a) (jg n b):=⟨by rw [Qs,Qs],fun j e=>(Kq n b j).2 ⟨((Kq n a j).1 e).1,h _ ((Kq n a j).1 e).2⟩⟩
def ir (C:wg) (n:Nm):Option Int:=C.reverse.findSome? fun m=>Aa m n
def og (T:Fe) (loca:List Int):ye→wg→Prop
 | [],[]=>True
 | b::B,c::C=>(∀ n,(Aa b n=none→Aa c n=none)∧∀ t,Aa b n=some t→∃ k:Nat,Aa c n=some (k:Int)∧loca[k]?=some (sc T t))∧og T loca B C
 | _,_=>False
section
variable {T:Fe}{loca:List Int}
theorem og.len:∀ {B:ye}{C:wg},og T loca B C→B.length=C.length
 | [],[],_=>rfl
 | b::B,c::C,h=>by rw [List.length_cons,List.length_cons,og.len h.2]
 | [],c::C,h=>h.elim
 | b::B,[],h=>h.elim
theorem og.app:∀ {B a:ye}{C d:wg},og T loca B C→og T loca a d→og T loca (B++a) (C++d)
 | [],_,[],_,_,h=>h
 | b::B,_,c::C,_,h,e=>⟨h.1,og.app h.2 e⟩
 | [],_,c::C,_,h,_=>h.elim
 | b::B,_,[],_,h,_=>h.elim
theorem og.take:∀ {B:ye}{C:wg}(n:Nat),og T loca B C→og T loca (B.take n) (C.take n)
 | _,_,0,_=>trivial
 | [],[],n+1,_=>trivial
 | b::B,c::C,n+1,h=>⟨h.1,og.take n h.2⟩
 | [],c::C,_,h=>h.elim
 | b::B,[],_,h=>h.elim
theorem og.mono {a:List Int}(qa:∀ (k:Nat) (t:Int),loca[k]?=some t→a[k]?=some t):∀ {B:ye}{C:wg},og T loca B C→og T a B C
 | [],[],_=>trivial
 | b::B,c::C,h=>⟨fun n=>⟨(h.1 n).1,fun t d=>by
   obtain ⟨k,k1,e⟩:=(h.1 n).2 t d;exact ⟨k,k1,qa _ _ e⟩⟩,og.mono qa h.2⟩
 | [],c::C,h=>h.elim
 | b::B,[],h=>h.elim
theorem og.mem:∀ {B:ye}{C:wg},og T loca B C→∀ c ∈ C,∀ n k,Aa c n=some k→0≤k∧k<loca.length
 | [],[],_,c,a,_,_,_=>by cases a
 | b::B,c::C,h,Db,a,n,k,d=>by
  rcases List.mem_cons.1 a with rfl | a
  ·cases e:Aa b n with
   | none=>rw [(h.1 n).1 e] at d; cases d
   | some t =>
    obtain ⟨g,k1,f⟩:=(h.1 n).2 t e;rw [k1] at d;obtain rfl:=Option.some.inj d;have:=(List.getElem?_eq_some_iff.1 f).1;omega
  ·exact og.mem h.2 Db a n k d
 | [],c::C,h,_,_,_,_,_=>h.elim
 | b::B,[],h,_,_,_,_,_=>h.elim
theorem Fu {α:Type}(B:List (List (Nm×α))) (b:List (Nm×α)) (n:Nm):((B++[b]).reverse.findSome? fun m=>Aa m n)=match Aa b n with | some t=>some t | none=>B.reverse.findSome? fun m=>Aa m n:=by
 rw [List.reverse_append,List.reverse_singleton,List.singleton_append,List.findSome?_cons];cases Aa b n<;>rfl
theorem og.split {B:ye}{b:List (Nm×Ya)}{C:wg}(h:og T loca (B++[b]) C):∃ d c,C=d++[c]∧og T loca B d∧og T loca [b] [c]:=by
 have qa:=h.len;rw [List.length_append,List.length_singleton] at qa;rcases List.eq_nil_or_concat C with rfl | ⟨d,c,rfl⟩
 ·simp at qa
 rw [List.concat_eq_append] at h qa ⊢;rw [List.length_append,List.length_singleton] at qa;refine ⟨d,c,rfl,?_,?_⟩
 ·have:=h.take B.length;rw [List.take_left,show B.length=d.length by omega,List.take_left] at this;exact this
 ·clear qa
  induction B generalizing d with
  | nil =>
   cases d with
   | nil=>exact h
   | cons a d=>have:=h.len; simp at this
  | cons a B e =>
   cases d with
   | nil=>have:=h.len; simp at this
   | cons f d=>exact e d h.2
theorem og.put {b:List (Nm×Ya)}{c:List (Nm×Int)}(h:og T loca [b] [c]) (n:Nm) (t:Ya):og T (loca++[sc T t]) [Fc b n t] [Fc c n (loca.length:Int)]:=by
 refine ⟨fun yh=>⟨fun a=>?_,fun qd a=>?_⟩,trivial⟩
 ·rw [Si] at a ⊢;by_cases q:n=yh
  ·rw [if_pos q] at a;cases a
  ·rw [if_neg q] at a ⊢;exact (h.1 yh).1 a
 ·rw [Si] at a ⊢;by_cases q:n=yh
  ·rw [if_pos q] at a ⊢;obtain rfl:=Option.some.inj a;exact ⟨loca.length,rfl,by simp⟩
  ·rw [if_neg q] at a ⊢;obtain ⟨k,e,d⟩:=(h.1 yh).2 qd a;exact ⟨k,e,by rw [List.getElem?_append_left (List.getElem?_eq_some_iff.1 d).1];exact d⟩
theorem og.look {n:Nm}:∀ {k:Nat}{B:ye}{C:wg},B.length=k→og T loca B C→(∀ t,Gj B n=some t→∃ k:Nat,ir C n=some (k:Int)∧loca[k]?=some (sc T t)∧(k:Int) ∈ Ji C):=by
 intro k
 induction k with
 | zero =>
  intro B C d h t a;rw [List.length_eq_zero_iff.1 d] at a;cases a
 | succ k l =>
  intro B C d h t a;rcases List.eq_nil_or_concat B with rfl | ⟨o,b,rfl⟩
  ·cases a
  rw [List.concat_eq_append] at h a d;obtain ⟨p,c,rfl,m,i⟩:=h.split;unfold Gj at a;unfold ir;rw [Fu] at a ⊢;cases e:Aa b n with
  | none =>
   rw [e] at a;rw [(i.1 n).1 e];obtain ⟨q,f,g,j⟩:=l (by simpa using d) m t a;exact ⟨q,f,g,by unfold Ji at j ⊢;rw [List.flatMap_append];exact List.mem_append_left _ j⟩
  | some qd =>
   rw [e] at a;obtain rfl:=Option.some.inj a;obtain ⟨q,f,g⟩:=(i.1 n).2 _ e;rw [f];refine ⟨q,rfl,g,?_⟩;unfold Ji;rw [List.flatMap_append];refine List.mem_append_right _ ?_;simp only [List.flatMap_cons,List.flatMap_nil,List.append_nil];exact List.mem_map.2 ⟨_,xw _ _ _ f,rfl⟩
theorem ZA {kind para:Int}{resu take:Int}{code:List fb}{bloc:wg}(g:bloc.length≤100) (hm:∀ c ∈ bloc,∀ n k,Aa c n=some k→0≤k∧k<loca.length) (fu:Nat) (j:110≤fu) (name:Nm):Js fu T kind para loca resu take code bloc name=some ((ir bloc name).getD 0):=by
 have L:∀ (n i:Nat),i≤bloc.length→i<n→Pr name bloc n ((i:Int) - 1)=some ((ir (bloc.take i) name).getD 0):=by
  intro n
  induction n with
  | zero=>intro i b d; omega
  | succ n f =>
   intro i b d;rw [Pr];cases i with
   | zero=>rw [if_neg (by omega)]; rfl
   | succ i =>
    have a:i<bloc.length:=by omega
    have e:((i+1:Nat):Int) - 1=(i:Int):=by omega
    have hs:ir (bloc.take (i+1)) name=match Aa bloc[i] name with | some t=>some t | none=>ir (bloc.take i) name:=by
     rw [← List.take_append_getElem a];unfold ir;rw [Fu];cases Aa bloc[i] name<;>rfl
    rw [e,if_pos (by omega),sf,List.getElem?_eq_getElem a,pa,hs];cases h:Aa bloc[i] name with
    | none =>
     rw [if_neg (by simp),Td (by omega),pa];exact f i (by omega) (by omega)
    | some t=>rfl
 rw [Js,Td (by omega),pa];have:=L fu bloc.length (by omega) (by omega);rwa [List.take_length] at this
end
structure Rn (p:Eb) (T:Fe) (m:Pc):Prop where
 un:∀ n f,Aa p.named n=some f→(f.Kind=2∨f.Kind=3)→∃ k,Aa T.Pg n=some k∧jj m k f.Kind=true∧(jh m k).Params=f.Params.length∧(jh m k).Wb.take f.Params.length=f.Params.map (fun q=>sc T q.tb)∧(jh m k).Result=sc T f.tb∧(f.Kind=3→(jh m k).fc=sc T f.fc)
 Sg:∀ n f,Aa p.named n=some f→f.Kind=1→∃ k,Aa T.boxes n=some k∧0≤k∧k<m.af.length∧(fl m k).tb=sc T f.tb
structure Um (T:Fe) (d:va) (u:uc) (loca:List Int):Prop where
 Rg:∀ (k:Nat) (t:Int),loca[k]?=some t→u.Wb[k]?=some t
 bg:u.Kind=d.Kind
 rs:d.Kind≠4→u.Result=sc T d.tb
 Fg:d.Kind=3→u.fc=sc T d.fc
def gl (T:Fe) (cs hl rs:List Nm) (i:fb):Prop:=(i.Op=23∨i.Op=29→∃ n ∈ cs,Aa T.Pg n=some i.A)∧(i.Op=26→∃ n ∈ hl,Aa T.boxes n=some i.A)∧(i.Op=27→∃ n ∈ rs,Aa T.boxes n=some i.A)
theorem gl.mono {T:Fe}{cs hl rs c d Lc:List Nm}{i:fb}(h:gl T cs hl rs i) (e:∀ n ∈ cs,n ∈ c) (f:∀ n ∈ hl,n ∈ d) (g:∀ n ∈ rs,n ∈ Lc):gl T c d Lc i :=
 ⟨fun k=>(h.1 k).imp fun n ⟨a,b⟩=>⟨e n a,b⟩,fun k=>(h.2.1 k).imp fun n ⟨a,b⟩=>⟨f n a,b⟩,fun k=>(h.2.2 k).imp fun n ⟨a,b⟩=>⟨g n a,b⟩⟩
theorem gl.no {T:Fe}{cs hl rs:List Nm}{i:fb}(c:i.Op≠23) (d:i.Op≠29) (a:i.Op≠26) (b:i.Op≠27):gl T cs hl rs i:=⟨fun k=>by rcases k with k | k<;>contradiction,fun k=>absurd k a,fun k=>absurd k b⟩
theorem MB:∀ (r a:List Int),de r (a++r.reverse,0)=(a,0)
 | [],a=>by simp [de]
 | t::r,a=>by
  rw [List.reverse_cons,← List.append_assoc,de,Gq];simp only [ne_eq,not_true,if_false];exact MB r a
theorem Ol (l a:List Int):de l.reverse (a++l,0)=(a,0):=by
 have:=MB l.reverse a;rwa [List.reverse_reverse] at this
theorem Oj {a:List Int}{t:Int}(h:a.length+1≤300):lf (a,0) t=(a++[t],0):=by
 unfold lf;simp only;rw [if_neg (by omega)]
section
variable {m:Pc}{u:uc}{i:fb}
theorem lD (h:i.Op=4) (s:Oe) (hs:List Bool):Zc m u i s hs=de [Jj u.Wb i.A] s:=by unfold Zc;simp [h]
theorem LJ (h:i.Op=5) (s:Oe) (hs:List Bool):Zc m u i s hs=(Sc s).2:=by unfold Zc;simp [h]
theorem MJ (h:i.Op=6) (s:Oe) (hs:List Bool):Zc m u i s hs=lf (de [1] s) 1:=by unfold Zc;simp [h]
theorem NJ (h:i.Op=7) (s:Oe) (hs:List Bool):Zc m u i s hs=lf (de [2] s) 2:=by unfold Zc;simp [h]
theorem TI (h:8≤i.Op∧i.Op≤12) (s:Oe) (hs:List Bool):Zc m u i s hs=lf (de [1,1] s) 1:=by
 unfold Zc;rw [if_neg (show ¬ i.Op=1 by omega),if_neg (show ¬ i.Op=2 by omega),if_neg (show ¬ i.Op=3 by omega),if_neg (show ¬ i.Op=4 by omega),if_neg (show ¬ i.Op=5 by omega),if_neg (show ¬ i.Op=6 by omega),if_neg (show ¬ i.Op=7 by omega),if_pos h]
theorem UI (h:i.Op=13∨i.Op=14) (s:Oe) (hs:List Bool):Zc m u i s hs=lf (de [(Sc s).1] ((Sc s).2.1,if (Sc s).1≠1∧(Sc s).1≠2 then ih (Sc s).2.2 9 else (Sc s).2.2)) 2:=by
 unfold Zc;rw [if_neg (show ¬ i.Op=1 by omega),if_neg (show ¬ i.Op=2 by omega),if_neg (show ¬ i.Op=3 by omega),if_neg (show ¬ i.Op=4 by omega),if_neg (show ¬ i.Op=5 by omega),if_neg (show ¬ i.Op=6 by omega),if_neg (show ¬ i.Op=7 by omega),if_neg (show ¬ (8≤i.Op∧i.Op≤12) by omega),if_pos h]
theorem VI (h:15≤i.Op∧i.Op≤18) (s:Oe) (hs:List Bool):Zc m u i s hs=lf (de [1,1] s) 2:=by
 unfold Zc;rw [if_neg (show ¬ i.Op=1 by omega),if_neg (show ¬ i.Op=2 by omega),if_neg (show ¬ i.Op=3 by omega),if_neg (show ¬ i.Op=4 by omega),if_neg (show ¬ i.Op=5 by omega),if_neg (show ¬ i.Op=6 by omega),if_neg (show ¬ i.Op=7 by omega),if_neg (show ¬ (8≤i.Op∧i.Op≤12) by omega),if_neg (show ¬ (i.Op=13∨i.Op=14) by omega),if_pos h]
theorem WI (h:i.Op=19∨i.Op=20) (s:Oe) (hs:List Bool):Zc m u i s hs=lf (de [2,2] s) 2:=by
 unfold Zc;rw [if_neg (show ¬ i.Op=1 by omega),if_neg (show ¬ i.Op=2 by omega),if_neg (show ¬ i.Op=3 by omega),if_neg (show ¬ i.Op=4 by omega),if_neg (show ¬ i.Op=5 by omega),if_neg (show ¬ i.Op=6 by omega),if_neg (show ¬ i.Op=7 by omega),if_neg (show ¬ (8≤i.Op∧i.Op≤12) by omega),if_neg (show ¬ (i.Op=13∨i.Op=14) by omega),if_neg (show ¬ (15≤i.Op∧i.Op≤18) by omega),if_pos h]
theorem XI (h:i.Op=23) (s:Oe) (hs:List Bool):Zc m u i s hs=lf (On (jh m i.A) s) (jh m i.A).Result:=by unfold Zc;simp [h]
theorem SC (h:i.Op=24) (s:Oe) (hs:List Bool):Zc m u i s hs=Mm (de [u.Result] (s.1,if u.Kind≠2 then ih s.2 8 else s.2)):=by unfold Zc;simp [h]
theorem TC (h:i.Op=25) (s:Oe) (hs:List Bool):Zc m u i s hs=Mm (s.1,if u.Kind=2 then ih s.2 8 else s.2):=by unfold Zc;simp [h]
theorem YI (h:i.Op=26) (s:Oe) (hs:List Bool):Zc m u i s hs=de [(fl m i.A).tb] s:=by unfold Zc;simp [h]
theorem ZI (h:i.Op=27) (s:Oe) (hs:List Bool):Zc m u i s hs=lf s (fl m i.A).tb:=by unfold Zc;simp [h]
theorem aJ (h:i.Op=28) (s:Oe) (hs:List Bool):Zc m u i s hs=((Sc s).2.1,if (Sc s).2.2=0∧¬ lg (Sc s).1 then ih (Sc s).2.2 9 else (Sc s).2.2):=by unfold Zc;simp [h]
theorem bJ (h:i.Op=29) (s:Oe) (hs:List Bool):Zc m u i s hs=lf (On (jh m i.A) s) (10+i.A):=by unfold Zc;simp [h]
theorem cJ (h:i.Op=30) (s:Oe) (hs:List Bool):Zc m u i s hs=match Ii m (Sc s).2 with
  | (some x,oe)=>lf (oe.1,if (Sc s).1≠x.fc then ih oe.2 9 else oe.2) x.Result
  | (none,oe)=>oe:=by unfold Zc; simp [h] <;> rfl
theorem dJ (h:i.Op=31) (s:Oe) (hs:List Bool):Zc m u i s hs=lf (de [u.Result] (s.1,if u.Kind≠3 then ih s.2 8 else s.2)) u.fc:=by unfold Zc;simp [h]
theorem eJ (h:i.Op=32) (s:Oe) (hs:List Bool):Zc m u i s hs=lf (Ii m s).2 2:=by unfold Zc;simp [h]
theorem NB {a:List Int}{k:Int}(h:jj m k 3=true):Ii m (a++[10+k],0)=(some (jh m k),(a,0)):=by
 obtain ⟨-,-,-,b,-⟩:=Jq h;have e:hj m (10+k)=true:=by
  unfold hj;rw [show (10+k - 10:Int)=k by omega,h];simp;omega
 unfold Ii;rw [Gq];simp only [ne_eq,not_true,if_false,e,if_true];rw [show (10+k - 10:Int)=k by omega]
theorem mC {a l:List Int}{v:uc}{n:Nat}(b:v.Params=n) (c:v.Wb.take n=l):On v (a++l,0)=(a,0):=by
 unfold On;rw [b,Int.toNat_natCast,c];exact Ol l a
end
theorem dx {p:Eb}{d:va}{B:ye}{x:sb}(h:x.Kids=[]):∀ (i:Nat) (y:sb) (q:Ya),x.Kids[i]?=some y→([]:List Ya)[i]?=some q→Ge p d B y q:=fun i y q _ h=>by simp at h
theorem fx {p:Eb}{d:va}{B:ye}{x a:sb}{t:Ya}(h:x.Kids=[a]) (e:Ge p d B a t):∀ (i:Nat) (y:sb) (q:Ya),x.Kids[i]?=some y→[t][i]?=some q→Ge p d B y q:=fun i y q b c=>by
 rw [h] at b
 match i with
 | 0=>simp at b c; subst b; subst c; exact e
 | i+1=>simp at c
theorem Uu {p:Eb}{d:va}{B:ye}{x a b:sb}{t qd:Ya}(h:x.Kids=[a,b]) (f:Ge p d B a t) (g:Ge p d B b qd):∀ (i:Nat) (y:sb) (q:Ya),x.Kids[i]?=some y→[t,qd][i]?=some q→Ge p d B y q:=fun i y q c e=>by
 rw [h] at c
 match i with
 | 0=>simp at c e; subst c; subst e; exact f
 | 1=>simp at c e; subst c; subst e; exact g
 | i+2=>simp at e
def Rl (p:Eb) (t:Ya):Prop:=(1≤t.Kind∧t.Kind≤3)∧ui p t
def an (p:Eb) (B:ye):Prop:=∀ n t,Gj B n=some t→Rl p t
theorem zw {p:Eb}{d:va}{B:ye}(a:∀ n f,Aa p.named n=some f→Fj f∧Gi p f) (ya:d.Kind=3→dk d.fc∧d.fc.Kind≠3) (b:an p B):∀ {x:sb}{t:Ya},Ge p d B x t→Rl p t:=by
 intro x t h;have Rg:∀ {t:Ya},t.Kind≠3→(1≤t.Kind∧t.Kind≤3)→Rl p t:=fun c e=>⟨e,.of c⟩;have ty:∀ {n:Nm}{f:va},Aa p.named n=some f→f.Kind≠4→Rl p (kf f.tb):=fun h k=>Rg (by rw [Gl];exact (a _ _ h).2.ty k) (by rw [Gl];exact (a _ _ h).1.ty k);cases h with
 | num=>exact Rg (by simp) ⟨by decide,by decide⟩
 | bool=>exact Rg (by simp) ⟨by decide,by decide⟩
 | var _ h=>exact b _ _ h
 | neg=>exact Rg (by simp) ⟨by decide,by decide⟩
 | not=>exact Rg (by simp) ⟨by decide,by decide⟩
 | Wz=>exact Rg (by simp) ⟨by decide,by decide⟩
 | eq=>exact Rg (by simp) ⟨by decide,by decide⟩
 | lt=>exact Rg (by simp) ⟨by decide,by decide⟩
 | Rg=>exact Rg (by simp) ⟨by decide,by decide⟩
 | call _ h k=>exact ty h (by omega)
 | recv _ h k=>exact ty h (by omega)
 | Nz _ k=>exact Rg (by rw [Gl]; exact (ya k).2) (by rw [Gl]; exact (ya k).1)
 | start _ h k=>exact ⟨⟨by simp,by simp⟩,fun _=>⟨_,h,k⟩⟩
 | resume _ _ _ h k=>exact ty h (by omega)
 | alive=>exact Rg (by simp) ⟨by decide,by decide⟩
section
variable {p:Eb}{T:Fe}{d:va}
def yl (p:Eb) (T:Fe) (d:va) (loca:List Int) (bloc:wg) (base:Nat) (c:List fb) (q:Nat) (e f:List Int):Prop :=
 ∀ (m:Pc) (u:uc),Rn p T m→Um T d u loca→∀ a:List Int,a.length+q≤300→∃ b:List zh,b.map (·.1)=c∧mh m u base b (a++e,jg u.Wb.length bloc) (a++f,jg u.Wb.length bloc)
theorem yl.app {loca:List Int}{bloc:wg}{base q:Nat}{c Db:List fb}{a b e:List Int}(h:yl p T d loca bloc base c q a b) (i:yl p T d loca bloc (base+c.length) Db q b e):yl p T d loca bloc base (c++Db) q a e:=by
 intro m u hm hu f g;obtain ⟨s1,na,g1⟩:=h m u hm hu f g;obtain ⟨s2,j,g2⟩:=i m u hm hu f g;refine ⟨s1++s2,by rw [List.map_append,na,j],g1.app ?_⟩;have:s1.length=c.length:=by rw [← na,List.length_map]
 rw [this];exact g2
theorem yl.nil {loca:List Int}{bloc:wg}{base q:Nat}{a:List Int}:yl p T d loca bloc base [] q a a:=fun m u hm hu b c=>⟨[],rfl,.nil rfl (.qi _)⟩
theorem yl.one {loca:List Int}{bloc:wg}{base q:Nat}{a b:List Int}{i:fb}(f:i.Op≠4) (g:i.Op≠21) (j:i.Op≠22) (h:∀ (m:Pc) (u:uc),Rn p T m→Um T d u loca→kn m u i∧∀ c:List Int,c.length+q≤300→Zc m u i (c++a,0) (jg u.Wb.length bloc)=(c++b,0)):yl p T d loca bloc base [i] q a b:=by
 intro m u hm hu c k;obtain ⟨v,e⟩:=h m u hm hu;refine ⟨[(i,(c++a,jg u.Wb.length bloc))],rfl,.one v (e c k) g j fun _=>?_⟩;have:ug i (jg u.Wb.length bloc)=jg u.Wb.length bloc:=if_neg f;rw [this];exact .qi _
structure gx (p:Eb) (T:Fe) (d:va) (loca:List Int) (bloc:wg) (code Db:List fb) (k:Nat) (x:sb) (t:Ya):Prop where
 vg:Db.length=xh k x
 sp:∀ i ∈ Db,gl T (Oi k x) [] (Qi k x) i
 go:yl p T d loca bloc code.length Db (5*k+1) [] [sc T t]
theorem AF (H:Xp p T) (kk:∀ n f,Aa p.named n=some f→f.Kind=1→Aa T.boxes n=some ((Aa T.boxes n).getD 0)) (mk:∀ n f,Aa p.named n=some f→Fj f∧Gi p f) (ya:d.Kind=3→dk d.fc∧d.fc.Kind≠3):∀ (n k:Nat) (x:sb) (t:Ya) (kind para:Int) (loca:List Int) (resu take:Int) (code:List fb) (bloc:wg) (B:ye),130+k≤n→tx k x→Ge p d B x t→og T loca B bloc→an p B→bloc.length≤100→(d.Kind=3→take=sc T d.fc)→code.length+xh k x≤1000000 →
  ∃ Db,(sl n).gj T kind para loca resu take code bloc x=some (sc T t,kind,para,loca,resu,take,code++Db,bloc)∧gx p T d loca bloc code Db k x t:=by
 intro n
 induction n with
 | zero=>intro k x t kind para loca resu take code bloc B h; omega
 | succ n dl =>
  intro k x t kind para loca resu take code bloc B ro ne el id Ne wf If qa;cases k with
  | zero=>cases ne
  | succ k =>
  show ∃ Db,gj n (sl n) T kind para loca resu take code bloc x=_∧_;obtain ⟨k1,to,dg,-,nl,-,ol⟩:=ne;have Do:=dg.le;have rg:xh (k+1) x=1+(x.Kids.map (xh k)).sum:=rfl;rw [rg] at qa;rw [gj];have K:∀ (fi:List Ya),fi.length=x.Kids.length→(∀ (i:Nat) (y:sb) (q:Ya),x.Kids[i]?=some y→fi[i]?=some q→Ge p d B y q)→∀ (j i:Nat) (code:List fb),i+j=x.Kids.length→code.length+(1+((x.Kids.drop i).map (xh k)).sum)≤1000000 →
    ∃ Wa,(∀ gc,lk n (sl n) x T (gc+j) (i:Int) kind para resu take loca code bloc ((fi.take i).map (sc T))=lk n (sl n) x T gc (x.Kids.length:Int) kind para resu take loca (code++Wa) bloc (fi.map (sc T)))∧Wa.length=((x.Kids.drop i).map (xh k)).sum∧(∀ z ∈ Wa,gl T (((x.Kids.drop i).map (Oi k)).flatten) [] (((x.Kids.drop i).map (Qi k)).flatten) z)∧yl p T d loca bloc code.length Wa (5*(k+1)+1) ((fi.take i).map (sc T)) (fi.map (sc T)):=by
   intro fi bi R j
   induction j with
   | zero =>
    intro i code pl _;have e:i=x.Kids.length:=by omega
    have ul:x.Kids.drop i=[]:=List.drop_eq_nil_of_le (by omega);rw [ul,List.take_of_length_le (by omega)];exact ⟨[],fun gc=>by rw [e,List.append_nil];rfl,rfl,by simp,.nil⟩
   | succ j wl =>
    intro i code pl o;have c:i<x.Kids.length:=by omega
    have ci:i<fi.length:=by omega
    have hm:x.Kids[i] ∈ x.Kids:=List.getElem_mem _;rw [List.drop_eq_getElem_cons c,List.map_cons,List.sum_cons] at o;have am:=R i x.Kids[i] fi[i] (List.getElem?_eq_getElem c) (List.getElem?_eq_getElem ci);obtain ⟨Wa,na,Y⟩:=dl k x.Kids[i] fi[i] kind para loca resu take code bloc B (by omega) (ol _ hm) am id Ne wf If (by omega);have aa:(fi.take i).map (sc T)++[sc T fi[i]]=(fi.take (i+1)).map (sc T):=by rw [← List.take_append_getElem ci,List.map_append];rfl
    have em:=Y.vg;obtain ⟨c2,f1,f2,f3,f4⟩:=wl (i+1) (code++Wa) (by omega) (by rw [List.length_append];omega);refine ⟨Wa++c2,fun gc=>?_,?_,?_,?_⟩
    ·rw [← Nat.add_assoc,lk,if_pos (by omega),sf,List.getElem?_eq_getElem c,pa,na,pa];simp only [];rw [tl (by simp;omega),pa,Td (by omega),pa,aa];have:=f1 gc;rw [List.append_assoc] at this;exact this
    ·rw [List.drop_eq_getElem_cons c,List.map_cons,List.sum_cons,List.length_append,em,f2]
    ·rw [List.drop_eq_getElem_cons c,List.map_cons,List.map_cons,List.flatten_cons,List.flatten_cons];intro z L;rcases List.mem_append.1 L with L | L
     ·exact (Y.sp z L).mono (fun _ h=>List.mem_append_left _ h) (fun _ h=>h) fun _ h=>List.mem_append_left _ h
     ·exact (f3 z L).mono (fun _ h=>List.mem_append_right _ h) (fun _ h=>h) fun _ h=>List.mem_append_right _ h
    ·refine yl.app (b:=(fi.take (i+1)).map (sc T)) (fun m u hm hu l r=>?_) (by rw [← List.length_append];exact f4);obtain ⟨lm,s1,s2⟩:=Y.go m u hm hu (l++(fi.take i).map (sc T)) (by simp;omega);rw [List.append_nil,List.append_assoc,aa] at s2;exact ⟨lm,s1,s2⟩
  have fin:∀ (fi:List Ya) (i:fb),fi.length=x.Kids.length→(∀ (i:Nat) (y:sb) (q:Ya),x.Kids[i]?=some y→fi[i]?=some q→Ge p d B y q) →
    (∀ (code:List fb),code.length≤2000000→lk n (sl n) x T 1 (x.Kids.length:Int) kind para resu take loca code bloc (fi.map (sc T))=some (sc T t,kind,para,loca,resu,take,code++[i],bloc)) →
    gl T (if x.Kind=19∨x.Kind=22 then [x.Name] else []) [] (if x.Kind=20 then [x.Name] else []) i→i.Op≠4→i.Op≠21→i.Op≠22 →
    (∀ (m:Pc) (u:uc),Rn p T m→Um T d u loca→kn m u i∧∀ l:List Int,l.length+(5*(k+1)+1)≤300→Zc m u i (l++fi.map (sc T),0) (jg u.Wb.length bloc)=(l++[sc T t],0)) →
    ∃ Db,lk n (sl n) x T (x.Kids.length+1) 0 kind para resu take loca code bloc []=some (sc T t,kind,para,loca,resu,take,code++Db,bloc)∧gx p T d loca bloc code Db (k+1) x t:=by
   intro fi i bi R v pm sm fn on wn;obtain ⟨Wa,na,md,ii,li⟩:=K fi bi R x.Kids.length 0 code (by omega) (by rw [List.drop_zero];omega);have:=na 1;rw [Nat.add_comm,List.take_zero,List.map_nil,show ((0:Nat):Int)=0 from rfl,v (code++Wa) (by rw [List.length_append,md,List.drop_zero];omega),List.append_assoc] at this;rw [List.drop_zero] at md ii;refine ⟨Wa++[i],this,by rw [List.length_append,md,List.length_singleton,rg];omega,fun z L=>?_,?_⟩
   ·rw [Oi,Qi];rcases List.mem_append.1 L with L | L
    ·exact (ii z L).mono (fun _ h=>List.mem_append_right _ h) (fun _ h=>h) fun _ h=>List.mem_append_right _ h
    ·rw [List.mem_singleton.1 L];exact pm.mono (fun _ h=>List.mem_append_left _ h) (fun _ h=>h) fun _ h=>List.mem_append_left _ h
   ·rw [List.take_zero,List.map_nil] at li;exact li.app (yl.one sm fn on wn)
  have P:=fun (code:List fb) (a b c:Int) (h:code.length≤2000000)=>gy (T:=T) (kind:=kind) (para:=para) (loca:=loca) (resu:=resu) (take:=take) (bloc:=bloc) a b c h;have W:¬ ((x.Kids.length:Int)<(x.Kids.length:Int)):=by omega
  have Q:6≤x.Kind→∀ (code:List fb) (rd:List Int),lk n (sl n) x T 1 (x.Kids.length:Int) kind para resu take loca code bloc rd=Ik x T kind para resu take loca code bloc rd (decide (x.Kind≤18)):=fun Fn code rd=>by
   rw [lk,if_neg W,if_neg (by omega),if_neg (by omega),if_neg (by omega),if_neg (by omega),if_neg (by omega),if_pos Fn]
  have no:∀ i:fb,i.Op≠23→i.Op≠29→i.Op≠26→i.Op≠27→gl T (if x.Kind=19∨x.Kind=22 then [x.Name] else []) [] (if x.Kind=20 then [x.Name] else []) i:=fun i a b c e=>.no a b c e;have D:∀ l:List Int,l.length+(5*(k+1)+1)≤300→l.length+1≤300:=fun l h=>by omega
  have S:Sh x.Kind=0→x.Kids=[]:=fun h=>List.length_eq_zero_iff.1 (by have:=dg.eq (by omega);omega);cases el with
  | num Wa =>
   refine fin [] ⟨1,0,x.N⟩ (by rw [S (by rw [Wa];rfl)];rfl) (dx (S (by rw [Wa];rfl))) (fun code o=>?_) (no _ (by simp) (by simp) (by simp) (by simp)) (by simp) (by simp) (by simp) fun m u hm hu=>⟨Hi (by simp) (by simp) (by simp) (by simp) (by simp) (by simp) (by simp) (by simp),fun l r=>?_⟩
   ·rw [lk,if_neg W,if_pos Wa,P _ _ _ _ o,pa];rfl
   ·rw [List.map_nil,List.append_nil];exact (if_pos rfl).trans (Oj (D l r))
  | bool Wa =>
   refine fin [] ⟨2,x.N,0⟩ (by rw [S (by rw [Wa];rfl)];rfl) (dx (S (by rw [Wa];rfl))) (fun code o=>?_) (no _ (by simp) (by simp) (by simp) (by simp)) (by simp) (by simp) (by simp) fun m u hm hu=>⟨⟨by simp,fun _=>nl Wa,fun h=>absurd h (by simp),fun h=>absurd h (by simp),fun h=>absurd h (by simp),fun h=>absurd h (by simp)⟩,fun l r=>?_⟩
   ·rw [lk,if_neg W,if_neg (by omega),if_pos Wa,P _ _ _ _ o,pa];rfl
   ·rw [List.map_nil,List.append_nil];exact (if_neg (by simp)).trans ((if_pos rfl).trans (Oj (D l r)))
  | var Wa Ab =>
   obtain ⟨q,A,U,lc⟩:=id.look rfl t Ab;have Go:=(List.getElem?_eq_some_iff.1 U).1;refine fin [] ⟨3,(q:Int),0⟩ (by rw [S (by rw [Wa];rfl)];rfl) (dx (S (by rw [Wa];rfl))) (fun code o=>?_) (no _ (by simp) (by simp) (by simp) (by simp)) (by simp) (by simp) (by simp) fun m u hm hu=>?_
   ·rw [lk,if_neg W,if_neg (by omega),if_neg (by omega),if_pos Wa,ZA wf id.mem n (by omega),A,pa,P _ _ _ _ o,pa];simp only [Option.getD_some];rw [sf,U,pa]
   ·have pi:=hu.Rg q _ U;have In:=(List.getElem?_eq_some_iff.1 pi).1;refine ⟨⟨by simp,fun h=>absurd h (by simp),fun _=>⟨by simp only [];omega,by simp only [];omega⟩,fun h=>absurd h (by simp),fun h=>absurd h (by simp),fun h=>absurd h (by simp)⟩,fun l r=>?_⟩;have V:ca (jg u.Wb.length bloc) (q:Int)=true:=by
     unfold ca;rw [sf,(Kq _ _ q).2 ⟨In,lc⟩];rfl
    have Ed:Jj u.Wb (q:Int)=sc T t:=by unfold Jj;rw [sf,pi];rfl
    rw [List.map_nil,List.append_nil];unfold Zc;rw [if_neg (by simp),if_neg (by simp),if_pos rfl,V,Ed,if_pos rfl];exact Oj (D l r)
  | neg Wa s td =>
   refine fin [⟨1,[]⟩] ⟨6,0,0⟩ (by rw [s];rfl) (fx s td) (fun code o=>?_) (no _ (by simp) (by simp) (by simp) (by simp)) (by simp) (by simp) (by simp) fun m u hm hu=>⟨Hi (by simp) (by simp) (by simp) (by simp) (by simp) (by simp) (by simp) (by simp),fun l r=>?_⟩
   ·rw [lk,if_neg W,if_neg (by omega),if_neg (by omega),if_neg (by omega),if_pos Wa,P _ _ _ _ o,pa];rfl
   ·show Zc m u ⟨6,0,0⟩ (l++[1],0) _=(l++[1],0);rw [MJ rfl];have:=Ol [1] l;rw [show de [1] (l++[1],0)=(l,0) from this];exact Oj (D l r)
  | not Wa s td =>
   refine fin [⟨2,[]⟩] ⟨7,0,0⟩ (by rw [s];rfl) (fx s td) (fun code o=>?_) (no _ (by simp) (by simp) (by simp) (by simp)) (by simp) (by simp) (by simp) fun m u hm hu=>⟨Hi (by simp) (by simp) (by simp) (by simp) (by simp) (by simp) (by simp) (by simp),fun l r=>?_⟩
   ·rw [lk,if_neg W,if_neg (by omega),if_neg (by omega),if_neg (by omega),if_neg (by omega),if_pos Wa,P _ _ _ _ o,pa];rfl
   ·show Zc m u ⟨7,0,0⟩ (l++[2],0) _=(l++[2],0);rw [NJ rfl,show de [2] (l++[2],0)=(l,0) from Ol [2] l];exact Oj (D l r)
  | Wz Wa s C E =>
   refine fin [⟨1,[]⟩,⟨1,[]⟩] ⟨8+x.Kind - 6,0,0⟩ (by rw [s];rfl) (Uu s C E) (fun code o=>?_) (no _ (by simp only [];omega) (by simp only [];omega) (by simp only [];omega) (by simp only [];omega)) (by simp only [];omega) (by simp only [];omega) (by simp only [];omega) fun m u hm hu=>⟨Hi (by simp only [];omega) (by simp only [];omega) (by simp only [];omega) (by simp only [];omega) (by simp only [];omega) (by simp only [];omega) (by simp only [];omega) (by simp only [];omega),fun l r=>?_⟩
   ·rw [Q (by omega),decide_eq_true (by omega),Ik,if_pos rfl,Td (by omega),pa,Td (by omega),pa,P _ _ _ _ o,pa,if_pos (by omega)];rfl
   ·show Zc m u _ (l++[1,1],0) _=(l++[1],0);rw [TI (by simp only [];omega),show de [1,1] (l++[1,1],0)=(l,0) from Ol [1,1] l];exact Oj (D l r)
  | eq Wa s C E co =>
   rename_i t0;obtain ⟨ap,-⟩:=zw mk ya Ne C;have Va:sc T t0=t0.Kind:=Eo co;refine fin [t0,t0] ⟨8+x.Kind - 6,0,0⟩ (by rw [s];rfl) (Uu s C E) (fun code o=>?_) (no _ (by simp only [];omega) (by simp only [];omega) (by simp only [];omega) (by simp only [];omega)) (by simp only [];omega) (by simp only [];omega) (by simp only [];omega) fun m u hm hu=>⟨Hi (by simp only [];omega) (by simp only [];omega) (by simp only [];omega) (by simp only [];omega) (by simp only [];omega) (by simp only [];omega) (by simp only [];omega) (by simp only [];omega),fun l r=>?_⟩
   ·rw [Q (by omega),decide_eq_true (by omega),Ik,if_pos rfl,Td (by omega),pa,Td (by omega),pa,P _ _ _ _ o,pa,if_neg (by omega)];rfl
   ·show Zc m u _ (l++[sc T t0,sc T t0],0) _=(l++[2],0);have wd:Sc (l++[sc T t0,sc T t0],0)=(sc T t0,(l++[sc T t0],0)):=by
     rw [show l++[sc T t0,sc T t0]=(l++[sc T t0])++[sc T t0] by simp];exact Gq _ _ _
    rw [UI (by simp only [];omega),wd,if_neg (by simp only [Va];omega),show de [sc T t0] (l++[sc T t0],0)=(l,0) from Ol [sc T t0] l];exact Oj (D l r)
  | lt Wa s C E =>
   refine fin [⟨1,[]⟩,⟨1,[]⟩] ⟨8+x.Kind - 6,0,0⟩ (by rw [s];rfl) (Uu s C E) (fun code o=>?_) (no _ (by simp only [];omega) (by simp only [];omega) (by simp only [];omega) (by simp only [];omega)) (by simp only [];omega) (by simp only [];omega) (by simp only [];omega) fun m u hm hu=>⟨Hi (by simp only [];omega) (by simp only [];omega) (by simp only [];omega) (by simp only [];omega) (by simp only [];omega) (by simp only [];omega) (by simp only [];omega) (by simp only [];omega),fun l r=>?_⟩
   ·rw [Q (by omega),decide_eq_true (by omega),Ik,if_pos rfl,Td (by omega),pa,Td (by omega),pa,P _ _ _ _ o,pa,if_neg (by omega)];rfl
   ·show Zc m u _ (l++[1,1],0) _=(l++[2],0);rw [VI (by simp only [];omega),show de [1,1] (l++[1,1],0)=(l,0) from Ol [1,1] l];exact Oj (D l r)
  | Rg Wa s C E =>
   refine fin [⟨2,[]⟩,⟨2,[]⟩] ⟨8+x.Kind - 6,0,0⟩ (by rw [s];rfl) (Uu s C E) (fun code o=>?_) (no _ (by simp only [];omega) (by simp only [];omega) (by simp only [];omega) (by simp only [];omega)) (by simp only [];omega) (by simp only [];omega) (by simp only [];omega) fun m u hm hu=>⟨Hi (by simp only [];omega) (by simp only [];omega) (by simp only [];omega) (by simp only [];omega) (by simp only [];omega) (by simp only [];omega) (by simp only [];omega) (by simp only [];omega),fun l r=>?_⟩
   ·rw [Q (by omega),decide_eq_true (by omega),Ik,if_pos rfl,Td (by omega),pa,Td (by omega),pa,P _ _ _ _ o,pa,if_neg (by omega)];rfl
   ·show Zc m u _ (l++[2,2],0) _=(l++[2],0);rw [WI (by simp only [];omega),show de [2,2] (l++[2,2],0)=(l,0) from Ol [2,2] l];exact Oj (D l r)
  | call Wa v F Fd R =>
   rename_i f;obtain ⟨q,A,U,lc⟩:=H.un _ f v (by omega);obtain ⟨-,rc⟩:=H.ok _ f v;have Id:(f.Params.map fun z=>kf z.tb).map (sc T)=f.Params.map fun z=>sc T z.tb:=by rw [List.map_map];exact List.map_congr_left fun z _=>sk T z.tb
   refine fin (f.Params.map fun z=>kf z.tb) ⟨23,(Aa T.Pg x.Name).getD 0,0⟩ (by rw [List.length_map];exact Fd.symm) (fun i y z C E=>?_) (fun code o=>?_) ⟨fun _=>⟨x.Name,by rw [if_pos (.inl Wa)];exact List.mem_singleton.2 rfl,by rw [A];rfl⟩,fun h=>absurd h (by simp),fun h=>absurd h (by simp)⟩ (by simp) (by simp) (by simp) fun m u hm hu=>?_
   ·rw [List.getElem?_map] at E;obtain ⟨w,be,ce⟩:=Option.map_eq_some_iff.1 E;rw [← ce];exact R i y w C be
   ·rw [Q (by omega),decide_eq_false (by omega),Ik,if_neg (by simp),if_pos Wa,P _ _ _ _ o,pa,H.Uo _ _ v,pa,Es H (.of (rc.ty (by omega))),pa,sk];rfl
   ·obtain ⟨ge,G,M,X,Z,fd,-⟩:=hm.un _ f v (.inl F);rw [A] at G;obtain rfl:=Option.some.inj G;refine ⟨⟨by simp,fun h=>absurd h (by simp),fun h=>absurd h (by simp),fun _=>?_,fun h=>absurd h (by simp),fun h=>absurd h (by simp)⟩,fun l r=>?_⟩
    ·show jj m ((Aa T.Pg x.Name).getD 0) 2=true;rw [A,← F];exact M
    ·rw [XI rfl,Id];show lf (On (jh m ((Aa T.Pg x.Name).getD 0)) _) (jh m ((Aa T.Pg x.Name).getD 0)).Result=_;rw [A];simp only [Option.getD_some];rw [mC X Z,fd,sk];exact Oj (D l r)
  | recv Wa v F =>
   rename_i f;have Pi:=S (by rw [Wa];rfl);obtain ⟨-,rc⟩:=H.ok _ f v;refine fin [] ⟨27,(Aa T.boxes x.Name).getD 0,0⟩ (by rw [Pi];rfl) (dx Pi) (fun code o=>?_) ⟨fun h=>absurd h (by simp),fun h=>absurd h (by simp),fun _=>⟨x.Name,by rw [if_pos Wa];exact List.mem_singleton.2 rfl,kk _ f v F⟩⟩ (by simp) (by simp) (by simp) fun m u hm hu=>?_
   ·rw [Q (by omega),decide_eq_false (by omega),Ik,if_neg (by simp),if_neg (by omega),if_pos Wa,P _ _ _ _ o,pa,H.Uo _ _ v,pa,Es H (.of (rc.ty (by omega))),pa,sk];rfl
   ·obtain ⟨q,G,M,X,Z⟩:=hm.Sg _ f v F;refine ⟨⟨by simp,fun h=>absurd h (by simp),fun h=>absurd h (by simp),fun h=>absurd h (by simp),fun h=>absurd h (by simp),fun _=>?_⟩,fun l r=>?_⟩
    ·show 0≤(Aa T.boxes x.Name).getD 0∧(Aa T.boxes x.Name).getD 0<_;rw [G];exact ⟨M,X⟩
    ·rw [ZI rfl,List.map_nil,List.append_nil];show lf _ (fl m ((Aa T.boxes x.Name).getD 0)).tb=_;rw [G];simp only [Option.getD_some];rw [Z,sk];exact Oj (D l r)
  | Nz Wa he s C =>
   refine fin [kf d.tb] ⟨31,0,0⟩ (by rw [s];rfl) (fx s C) (fun code o=>?_) (no _ (by simp) (by simp) (by simp) (by simp)) (by simp) (by simp) (by simp) fun m u hm hu=>⟨Hi (by simp) (by simp) (by simp) (by simp) (by simp) (by simp) (by simp) (by simp),fun l r=>?_⟩
   ·rw [Q (by omega),decide_eq_false (by omega),Ik,if_neg (by simp),if_neg (by omega),if_neg (by omega),if_neg (by omega),if_pos Wa,P _ _ _ _ o,pa,sk,← If he]
   ·show Zc m u _ (l++[sc T (kf d.tb)],0) _=_;rw [dJ rfl,if_neg (by rw [hu.bg,he];decide),sk,sk,← hu.rs (by omega),← hu.Fg he,show de [u.Result] ((l++[u.Result],0):Oe)=(l,0) from Ol [u.Result] l];exact Oj (D l r)
  | start Wa v F Fd R =>
   rename_i f;obtain ⟨q,A,U,lc⟩:=H.un _ f v (by omega);have Id:(f.Params.map fun z=>kf z.tb).map (sc T)=f.Params.map fun z=>sc T z.tb:=by rw [List.map_map];exact List.map_congr_left fun z _=>sk T z.tb
   have aa:sc T ⟨3,x.Name⟩=10+q:=by unfold sc;rw [if_pos rfl,A];rfl
   refine fin (f.Params.map fun z=>kf z.tb) ⟨29,(Aa T.Pg x.Name).getD 0,0⟩ (by rw [List.length_map];exact Fd.symm) (fun i y z C E=>?_) (fun code o=>?_) ⟨fun _=>⟨x.Name,by rw [if_pos (.inr Wa)];exact List.mem_singleton.2 rfl,by rw [A];rfl⟩,fun h=>absurd h (by simp),fun h=>absurd h (by simp)⟩ (by simp) (by simp) (by simp) fun m u hm hu=>?_
   ·rw [List.getElem?_map] at E;obtain ⟨w,be,ce⟩:=Option.map_eq_some_iff.1 E;rw [← ce];exact R i y w C be
   ·rw [Q (by omega),decide_eq_false (by omega),Ik,if_neg (by simp),if_neg (by omega),if_neg (by omega),if_pos Wa,P _ _ _ _ o,pa,aa,A];show Option.bind (i64 (10+q)) _=_;rw [Td (by omega),pa]
   ·obtain ⟨ge,G,M,X,Z,fd,-⟩:=hm.un _ f v (.inr F);rw [A] at G;obtain rfl:=Option.some.inj G;refine ⟨⟨by simp,fun h=>absurd h (by simp),fun h=>absurd h (by simp),fun h=>absurd h (by simp),fun _=>?_,fun h=>absurd h (by simp)⟩,fun l r=>?_⟩
    ·show jj m ((Aa T.Pg x.Name).getD 0) 3=true;rw [A,← F];exact M
    ·rw [bJ rfl,Id,aa];show lf (On (jh m ((Aa T.Pg x.Name).getD 0)) _) (10+(Aa T.Pg x.Name).getD 0)=_;rw [A];simp only [Option.getD_some];rw [mC X Z];exact Oj (D l r)
  | resume Wa s C v F E =>
   rename_i a b g f;obtain ⟨q,A,U,lc⟩:=H.un _ f v (by omega);obtain ⟨-,rc⟩:=H.ok _ f v;have aa:sc T ⟨3,g⟩=10+q:=by unfold sc;rw [if_pos rfl,A];rfl
   refine fin [⟨3,g⟩,kf f.fc] ⟨30,0,0⟩ (by rw [s];rfl) (Uu s C E) (fun code o=>?_) (no _ (by simp) (by simp) (by simp) (by simp)) (by simp) (by simp) (by simp) fun m u hm hu=>⟨Hi (by simp) (by simp) (by simp) (by simp) (by simp) (by simp) (by simp) (by simp),fun l r=>?_⟩
   ·rw [Q (by omega),decide_eq_false (by omega),Ik,if_neg (by simp),if_neg (by omega),if_neg (by omega),if_neg (by omega),if_neg (by omega),if_neg (by omega),P _ _ _ _ o,pa];show Option.bind (some (sc T ⟨3,g⟩)) _=_;rw [pa,aa,Td (by omega),pa,show (10+q - 10:Int)=q by omega,H.CK _ _ A,pa,if_pos (show (some (g,q):Option (Nm×Int)).isSome=true from rfl)];show Option.bind (Aa T.defs g) _=_;rw [H.Uo _ _ v,pa,Es H (.of (rc.ty (by omega))),pa,sk];rfl
   ·obtain ⟨ge,G,M,X,Z,fd,io⟩:=hm.un _ f v (.inr F);rw [A] at G;obtain rfl:=Option.some.inj G;rw [F] at M;show Zc m u _ (l++[sc T ⟨3,g⟩,sc T (kf f.fc)],0) _=_;have wd:Sc (l++[sc T ⟨3,g⟩,sc T (kf f.fc)],0)=(sc T (kf f.fc),(l++[10+q],0)):=by
     rw [show l++[sc T ⟨3,g⟩,sc T (kf f.fc)]=(l++[sc T ⟨3,g⟩])++[sc T (kf f.fc)] by simp,aa];exact Gq _ _ _
    rw [cJ rfl,wd];simp only [];rw [NB M];simp only [];rw [if_neg (by rw [sk,io F];simp),fd,sk];exact Oj (D l r)
  | alive Wa s C v F =>
   rename_i a g f;obtain ⟨q,A,U,lc⟩:=H.un _ f v (by omega);have aa:sc T ⟨3,g⟩=10+q:=by unfold sc;rw [if_pos rfl,A];rfl
   refine fin [⟨3,g⟩] ⟨32,0,0⟩ (by rw [s];rfl) (fx s C) (fun code o=>?_) (no _ (by simp) (by simp) (by simp) (by simp)) (by simp) (by simp) (by simp) fun m u hm hu=>⟨Hi (by simp) (by simp) (by simp) (by simp) (by simp) (by simp) (by simp) (by simp),fun l r=>?_⟩
   ·rw [Q (by omega),decide_eq_false (by omega),Ik,if_neg (by simp),if_neg (by omega),if_neg (by omega),if_neg (by omega),if_neg (by omega),if_pos Wa,P _ _ _ _ o,pa];rfl
   ·obtain ⟨ge,G,M,-⟩:=hm.un _ f v (.inr F);rw [A] at G;obtain rfl:=Option.some.inj G;rw [F] at M;show Zc m u _ (l++[sc T ⟨3,g⟩],0) _=(l++[2],0);rw [eJ rfl,aa,NB M];exact Oj (D l r)
end
end Go.Y
namespace Go.Y
open Go.oc Go.sd
theorem Cu {α:Type}(A B:List α) (x y:α):(A++x::B).set A.length y=A++y::B:=by
 rw [List.set_append_right _ _ (Nat.le_refl _),Nat.sub_self,List.set_cons_zero]
theorem Kw {α:Type}(A B:List α) (x:α):(A++x::B)[A.length]?=some x:=by
 rw [List.getElem?_append_right (Nat.le_refl _),Nat.sub_self,List.getElem?_cons_zero]
section
variable {p:Eb}{T:Fe}{d:va}
def xk (p:Eb) (T:Fe) (d:va) (loca:List Int) (base:Nat) (c:List fb) (b V:wg):Prop :=
 ∀ (m:Pc) (u:uc),Rn p T m→Um T d u loca→∃ a:List zh,a.map (·.1)=c∧mh m u base a ([],jg u.Wb.length b) ([],jg u.Wb.length V)
theorem Um.mono {u:uc}{loca a:List Int}(h:Um T d u a) (qa:∀ (k:Nat) (t:Int),loca[k]?=some t→a[k]?=some t):Um T d u loca:=⟨fun k t b=>h.Rg k t (qa k t b),h.bg,h.rs,h.Fg⟩
theorem Jn {loca e:List Int}:∀ (k:Nat) (t:Int),loca[k]?=some t→(loca++e)[k]?=some t:=fun k t h=>by
 rw [List.getElem?_append_left (List.getElem?_eq_some_iff.1 h).1];exact h
theorem xk.mono {loca a:List Int}{base:Nat}{c:List fb}{b V:wg}(h:xk p T d loca base c b V) (qa:∀ (k:Nat) (t:Int),loca[k]?=some t→a[k]?=some t):xk p T d a base c b V:=fun m u hm hu=>h m u hm (hu.mono qa)
theorem xk.app {loca:List Int}{base:Nat}{c Db:List fb}{a b e:wg}(f:xk p T d loca base c a b) (g:xk p T d loca (base+c.length) Db b e):xk p T d loca base (c++Db) a e:=by
 intro m u hm hu;obtain ⟨s1,na,g1⟩:=f m u hm hu;obtain ⟨s2,h,g2⟩:=g m u hm hu;refine ⟨s1++s2,by rw [List.map_append,na,h],g1.app ?_⟩;have:s1.length=c.length:=by rw [← na,List.length_map]
 rw [this];exact g2
theorem xk.after {loca b:List Int}{base q:Nat}{c:List fb}{j:List Int}{i:fb}{a V:wg}(h:yl p T d loca a base c q [] j) (n:q≤300) (qa:∀ (k:Nat) (t:Int),loca[k]?=some t→b[k]?=some t) (o:i.Op≠21) (r:i.Op≠22)
  (w:∀ (m:Pc) (u:uc),Rn p T m→Um T d u b→kn m u i∧Zc m u i (j,0) (jg u.Wb.length a)=([],0)∧(follows i→uf (jg u.Wb.length V) (ug i (jg u.Wb.length a)))):xk p T d b base (c++[i]) a V:=by
 intro m u hm hu;obtain ⟨l,e,g⟩:=h m u hm (hu.mono qa) [] (by simpa using n);obtain ⟨v,s,f⟩:=w m u hm hu;have hs:l.length=c.length:=by rw [← e,List.length_map]
 refine ⟨l++[(i,(j,jg u.Wb.length a))],by rw [List.map_append,e];rfl,mh.app g ?_⟩;exact mh.one v s o r f
theorem xk.one {loca:List Int}{base:Nat}{i:fb}{b V:wg}(e:i.Op≠21) (f:i.Op≠22)
  (g:∀ (m:Pc) (u:uc),Rn p T m→Um T d u loca→kn m u i∧Zc m u i ([],0) (jg u.Wb.length b)=([],0)∧(follows i→uf (jg u.Wb.length V) (ug i (jg u.Wb.length b)))):xk p T d loca base [i] b V:=by
 have:=xk.after (c:=[]) (base:=base) (q:=0) (yl.nil (p:=p) (T:=T) (d:=d) (loca:=loca) (bloc:=b) (a:=[])) (by omega) (fun _ _ h=>h) e f g;exact this
theorem EA {kind para:Int}{loca:List Int}{resu take:Int}{code:List fb}{C:wg}{c:List (Nm×Int)}(name:Nm) (t:Int) (a:C.length≤100) (qa:loca.length<100000) :
  ts T kind para loca resu take code (C++[c]) name t=some ((loca.length:Int),kind,para,loca++[t],resu,take,code,C++[Fc c name (loca.length:Int)]):=by
 have na:(((C++[c]).length:Nat):Int) - 1=(C.length:Int):=by simp
 rw [ts,tl (by simp;omega),pa,Td (by simp;omega),pa,na,Td (by omega),pa,sf,Kw,pa,Int.toNat_natCast,Cu];simp
theorem Aw (a b:wg):Ji (a++b)=Ji a++Ji b:=by unfold Ji;rw [List.flatMap_append]
theorem Ay (c:List (Nm×Int)):Ji [c]=c.map (·.2):=by simp [Ji]
theorem jy:∀ (c:List (Nm×Int)) (n:Nm) (k:Int),∀ z ∈ (Fc c n k).map (·.2),z=k∨z ∈ c.map (·.2)
 | [],n,k,z,h=>by simp [Fc] at h; exact .inl h
 | (a,b)::c,n,k,z,h=>by
  unfold Fc at h;split at h
  ·rw [List.map_cons] at h;rcases List.mem_cons.1 h with h | h
   ·exact .inl h
   ·exact .inr (List.mem_cons_of_mem _ h)
  ·rw [List.map_cons] at h;rcases List.mem_cons.1 h with h | h
   ·exact .inr (by rw [List.map_cons,h];exact List.mem_cons_self ..)
   ·rcases jy c n k z h with h | h
    ·exact .inl h
    ·exact .inr (List.mem_cons_of_mem _ h)
theorem qB {n:Nat}{a V:wg}{k:Nat}(b:k<n) (h:∀ z ∈ Ji V,z=(k:Int)∨z ∈ Ji a){i:fb}(d:i.Op=4) (f:i.A=(k:Int)):uf (jg n V) (ug i (jg n a)):=by
 unfold ug;rw [if_pos d,f,Int.toNat_natCast];refine ⟨by rw [List.length_set,Qs,Qs],fun j e=>?_⟩;obtain ⟨g,l⟩:=(Kq n V j).1 e;rw [List.getElem?_set];by_cases c:k=j
 ·rw [if_pos c,if_pos (by rw [Qs];exact b)]
 ·rw [if_neg c];rcases h _ l with h | h
  ·omega
  ·exact (Kq n a j).2 ⟨g,h⟩
structure hx (p:Eb) (T:Fe) (d:va) (loca:List Int) (code:List fb) (bloc:wg) (e:List Int) (Db:List fb) (a:wg) (q:Nat) (cs hl rs:List Nm):Prop where
 Ro:Db.length≤4*q
 el:e.length≤q
 lt:∀ z ∈ e,∃ t,Rl p t∧z=sc T t
 sp:∀ i ∈ Db,gl T cs hl rs i
 go:xk p T d (loca++e) code.length Db bloc a
structure pK (p:Eb) (T:Fe) (d:va) (n:Nat):Prop where
 body:∀ (k:Nat) (l:List Ub) (B a:ye) (kind para:Int) (loca:List Int) (resu take:Int) (code:List fb) (bloc:wg),l.length≤50→(∀ y ∈ l,dr k y)→Hj p d (B++[[]]) l a→og T loca B bloc→an p B→bloc.length+k≤90→k≤50→5*k+160≤n→(d.Kind=3→take=sc T d.fc)→code.length+4*(l.map (pf k)).sum≤100000→loca.length+(l.map (pf k)).sum≤100000 →
  ∃ e Db,(zo n).Nj T kind para loca resu take code bloc l=some (kind,para,loca++e,resu,take,code++Db,bloc)∧hx p T d loca code bloc e Db bloc (l.map (pf k)).sum (l.map (oh k)).flatten (l.map (qh k)).flatten (l.map (ph k)).flatten
 stat:∀ (k:Nat) (s:Ub) (B a:ye) (kind para:Int) (loca:List Int) (resu take:Int) (code:List fb) (bloc:wg),dr k s→Zk p d B s a→og T loca B bloc→an p B→0<bloc.length→bloc.length+k≤91→k≤50→5*k+159≤n→(d.Kind=3→take=sc T d.fc)→code.length+4*pf k s≤100000→loca.length+pf k s≤100000 →
  ∃ e Db b,(zo n).Em T kind para loca resu take code bloc s=some (kind,para,loca++e,resu,take,code++Db,b)∧og T (loca++e) a b∧an p a∧b.length=bloc.length∧b.take (bloc.length - 1)=bloc.take (bloc.length - 1)∧hx p T d loca code bloc e Db b (pf k s) (oh k s) (qh k s) (ph k s)
theorem qK (H:Xp p T) (pi:∀ n f,Aa p.named n=some f→f.Kind=1→Aa T.boxes n=some ((Aa T.boxes n).getD 0)) (fd:∀ n f,Aa p.named n=some f→Fj f∧Gi p f) (ya:d.Kind=3→dk d.fc∧d.fc.Kind≠3):∀ n,pK p T d n:=by
 intro n
 induction n with
 | zero=>exact ⟨fun _ _ _ _ _ _ _ _ _ _ _ _ _ _ _ _ _ _ h=>by omega,fun _ _ _ _ _ _ _ _ _ _ _ _ _ _ _ _ _ _ h=>by omega⟩
 | succ n id =>
  refine ⟨fun k l B Pi kind para loca resu take code bloc qa md G x v kk mk lm K gc lc=>?_,fun k s B Pi kind para loca resu take code bloc md G x v qr kk mk lm K gc lc=>?_⟩
  ·show ∃ e Db,Nj (zo n) T kind para loca resu take code bloc l=_∧_;rw [Nj,tl (by simp;omega),pa];have L:∀ (m i:Nat) (loca:List Int) (code:List fb) (M:ye) (Rd:wg),i≤l.length→l.length<m+i→Hj p d M (l.drop i) Pi→og T loca M Rd→an p M→Rd.length=bloc.length+1→Rd.take bloc.length=bloc→code.length+4*((l.drop i).map (pf k)).sum≤100000→loca.length+((l.drop i).map (pf k)).sum≤100000 →
     ∃ e Db,Qr (zo n) l T m i kind para resu take loca code Rd=some (kind,para,loca++e,resu,take,code++Db,bloc)∧hx p T d loca code Rd e Db bloc ((l.drop i).map (pf k)).sum ((l.drop i).map (oh k)).flatten ((l.drop i).map (qh k)).flatten ((l.drop i).map (ph k)).flatten:=by
    intro m
    induction m with
    | zero=>intro i loca code M Rd pm sm; omega
    | succ m Nm =>
     intro i loca code M Rd pm sm G x v ok be gc lc;rw [Qr];by_cases c:i<l.length
     ·have hm:l[i] ∈ l:=List.getElem_mem _;rw [List.drop_eq_getElem_cons c] at G;rw [List.drop_eq_getElem_cons c,List.map_cons,List.sum_cons] at gc lc ⊢;cases G with
      | cons t1 t2 =>
      obtain ⟨na,Wa,fn,ta,a2,a3,a4,a5,rb⟩:=id.stat k l[i] M _ kind para loca resu take code Rd (md _ hm) t1 x v (by omega) (by omega) mk (by omega) K (by omega) (by omega);have dl:=rb.Ro;have nl:=rb.el;rw [if_pos (by omega),sf,List.getElem?_eq_getElem c,pa,ta,pa];simp only [];rw [Td (by omega),pa];rw [ok,Nat.add_sub_cancel] at a5;obtain ⟨ce,c2,f1,Pb⟩:=Nm (i+1) (loca++na) (code++Wa) _ fn c (by omega) t2 a2 a3 (by omega) (a5.trans be) (by rw [List.length_append];omega) (by rw [List.length_append];omega);have on:=Pb.Ro;have wr:=Pb.el;refine ⟨na++ce,Wa++c2,?_,by rw [List.length_append];omega,by rw [List.length_append];omega,fun z g=>(List.mem_append.1 g).elim (rb.lt z) (Pb.lt z),fun z g=>?_,?_⟩
      ·rw [← List.append_assoc,← List.append_assoc];exact f1
      ·simp only [List.map_cons,List.flatten_cons];rcases List.mem_append.1 g with g | g
       ·exact (rb.sp z g).mono (fun _ h=>List.mem_append_left _ h) (fun _ h=>List.mem_append_left _ h) fun _ h=>List.mem_append_left _ h
       ·exact (Pb.sp z g).mono (fun _ h=>List.mem_append_right _ h) (fun _ h=>List.mem_append_right _ h) fun _ h=>List.mem_append_right _ h
      ·have g2:=Pb.go;rw [List.append_assoc,List.length_append] at g2;exact (rb.go.mono (by rw [← List.append_assoc];exact Jn)).app g2
     ·have un:l.drop i=[]:=List.drop_eq_nil_of_le (by omega);rw [un];rw [if_neg (by omega),Td (by omega),pa,GG (by omega),pa,ok,Nat.add_sub_cancel,be];refine ⟨[],[],by rw [List.append_nil,List.append_nil],by simp,by simp,by simp,by simp,fun Fr u hm hu=>⟨[],rfl,.nil rfl (lC fun z g=>?_)⟩⟩;have:Rd=bloc++Rd.drop bloc.length:=by rw [← be,List.length_take,Nat.min_eq_left (by omega)];exact (List.take_append_drop _ _).symm
      rw [this,Aw];exact List.mem_append_left _ g
   have wn:og T loca (B++[[]]) (bloc++[[]]):=x.app ⟨fun n=>⟨fun _=>rfl,fun t A=>by cases A⟩,trivial⟩;have Fn:an p (B++[[]]):=fun yh t A=>v yh t (by unfold Gj at A ⊢;rw [Fu] at A;exact A);obtain ⟨e,Db,f1,Y⟩:=L (l.length+1) 0 loca code (B++[[]]) (bloc++[[]]) (by omega) (by omega) G wn Fn (by simp) (by simp) gc lc;refine ⟨e,Db,f1,Y.Ro,Y.el,Y.lt,Y.sp,fun m u hm hu=>?_⟩;obtain ⟨In,s1,s2⟩:=Y.go m u hm hu;refine ⟨In,s1,s2.KJ rfl (lC fun z g=>?_)⟩;rw [Aw] at g;rcases List.mem_append.1 g with g | g
   ·exact g
   ·simp [Ji] at g
  ·show ∃ e Db R,Em n (zo n) T kind para loca resu take code bloc s=_∧_;cases k with
   | zero=>cases md
   | succ k =>
   obtain ⟨k1,Or,co,-,ol,io⟩:=md;have D:pf (k+1) s=1+(if s.Kind=6 then 0 else xh k s.X)+(if s.Kind=3∨s.Kind=4 then (s.Body.map (pf k)).sum else 0)+(if s.Kind=3 then (s.mf.map (pf k)).sum else 0):=rfl;have rd:oh (k+1) s=(if s.Kind=6 then [] else Oi k s.X)++(if s.Kind=3∨s.Kind=4 then (s.Body.map (oh k)).flatten else [])++(if s.Kind=3 then (s.mf.map (oh k)).flatten else []):=rfl;have td:ph (k+1) s=(if s.Kind=6 then [] else Qi k s.X)++(if s.Kind=3∨s.Kind=4 then (s.Body.map (ph k)).flatten else [])++(if s.Kind=3 then (s.mf.map (ph k)).flatten else []):=rfl;have wd:qh (k+1) s=(if s.Kind=7 then [s.Name] else [])++(if s.Kind=3∨s.Kind=4 then (s.Body.map (qh k)).flatten else [])++(if s.Kind=3 then (s.mf.map (qh k)).flatten else []):=rfl;generalize pf (k+1) s=Q at gc lc D ⊢;generalize oh (k+1) s=ge at rd ⊢;generalize ph (k+1) s=he at td ⊢;generalize qh (k+1) s=le at wd ⊢;have P:=fun (kind para:Int) (loca:List Int) (resu take:Int) (code:List fb) (bloc:wg) (a b c:Int) (h:code.length≤2000000)=>gy (T:=T) (kind:=kind) (para:=para) (loca:=loca) (resu:=resu) (take:=take) (bloc:=bloc) a b c h;have E:s.Kind≠6→∀ t,Ge p d B s.X t→∃ Db,(sl n).gj T kind para loca resu take code bloc s.X=some (sc T t,kind,para,loca,resu,take,code++Db,bloc)∧gx p T d loca bloc code Db k s.X t:=fun h t A=>by
    rw [if_neg h] at D;exact AF H pi fd ya n k s.X t kind para loca resu take code bloc B (by omega) (co h) A x v (by omega) K (by omega)
   have pl:s.Kind≠6→∀ {t:Ya}{Db:List fb},gx p T d loca bloc code Db k s.X t→∀ i ∈ Db,gl T ge le he i:=fun h t Db Y i ne=>by
    rw [rd,td,if_neg h,if_neg h];exact (Y.sp i ne).mono (fun _ h=>List.mem_append_left _ (List.mem_append_left _ h)) (fun _ h=>by cases h) fun _ h=>List.mem_append_left _ (List.mem_append_left _ h)
   have Fd:5*k+1≤300:=by omega
   rw [Em];have fin:∀ (t:Ya) (i:fb),s.Kind≠6→s.Kind≠3→s.Kind≠4→Ge p d B s.X t→i.Op≠21→i.Op≠22→gl T ge le he i→(∀ (m:Pc) (u:uc),Rn p T m→Um T d u loca→kn m u i∧Zc m u i ([sc T t],0) (jg u.Wb.length bloc)=([],0)∧(follows i→uf (jg u.Wb.length bloc) (ug i (jg u.Wb.length bloc)))) →
     ∃ Wa,(sl n).gj T kind para loca resu take code bloc s.X=some (sc T t,kind,para,loca,resu,take,code++Wa,bloc)∧(code++Wa).length≤2000000∧∀ (o:Option (Int×Int×List Int×Int×Int×List fb×wg)),o=some (kind,para,loca,resu,take,code++Wa++[i],bloc) →
      ∃ e Db R,o=some (kind,para,loca++e,resu,take,code++Db,R)∧og T (loca++e) B R∧an p B∧R.length=bloc.length∧R.take (bloc.length - 1)=bloc.take (bloc.length - 1)∧hx p T d loca code bloc e Db R Q ge le he:=by
    intro t i Ne of cs A ro to Do ne;obtain ⟨Wa,na,Y⟩:=E Ne t A;have wf:=Y.vg;rw [if_neg Ne,if_neg (by omega),if_neg of] at D;refine ⟨Wa,na,by rw [List.length_append];omega,fun o Go=>⟨[],Wa++[i],bloc,by rw [Go,List.append_nil,List.append_assoc],by rw [List.append_nil];exact x,v,rfl,rfl,by rw [List.length_append,List.length_singleton];omega,by simp,by simp,fun z g=>?_,?_⟩⟩
    ·rcases List.mem_append.1 g with g | g
     ·exact pl Ne Y z g
     ·rw [List.mem_singleton.1 g];exact Do
    ·rw [List.append_nil];exact xk.after Y.go Fd (fun _ _ h=>h) ro to ne
   have hv:∀ (i:fb) (N:Nat),i.Op≠4→uf (jg N bloc) (ug i (jg N bloc)):=fun i N h=>by
    have:ug i (jg N bloc)=jg N bloc:=if_neg h;rw [this];exact .qi _
   cases G with
   | HD d3 r If ap =>
    obtain ⟨Wa,na,Y⟩:=E (by omega) _ r;have wf:=Y.vg;obtain ⟨V,Ed⟩:=ol (.inl d3);obtain ⟨Ta,fg⟩:=io d3;rw [if_neg (by omega),if_pos (.inl d3),if_pos d3] at D;rw [if_pos d3,na,pa];simp only [];rw [P _ _ _ _ _ (code++Wa) _ _ _ _ (by simp;omega),pa];simp only [];obtain ⟨x1,j,f1,rb⟩:=id.body k s.Body B _ kind para loca resu take (code++Wa++[⟨22,0,0⟩]) bloc V Ed If x v (by omega) (by omega) (by omega) K (by simp;omega) (by omega);have g1:=rb.Ro;have g2:=rb.el;rw [f1,pa];simp only [];rw [P _ _ _ _ _ (code++Wa++[(⟨22,0,0⟩:fb)]++j) _ _ _ _ (by simp;omega),pa,Bn,pa];simp only [];have S:code++Wa++[(⟨22,0,0⟩:fb)]++j++[(⟨21,0,0⟩:fb)]=(code++Wa)++(⟨22,0,0⟩:fb)::(j++[(⟨21,0,0⟩:fb)]):=by simp
    rw [S,sf,Kw,pa,Sv];simp only [];rw [Int.toNat_natCast,Cu];generalize dg:((((code++Wa)++(⟨22,0,0⟩:fb)::(j++[(⟨21,0,0⟩:fb)])).length:Nat):Int)=y;have rg:y=((code.length+Wa.length+1+j.length+1:Nat):Int):=by rw [← dg];simp;omega
    obtain ⟨ip,U,f2,Pb⟩:=id.body k s.mf B _ kind para (loca++x1) resu take ((code++Wa)++(⟨22,y,0⟩:fb)::(j++[(⟨21,0,0⟩:fb)])) bloc Ta fg ap (x.mono Jn) v (by omega) (by omega) (by omega) K (by simp;omega) (by simp;omega);have g3:=Pb.Ro;have g4:=Pb.el;rw [f2,pa,Bn,pa];simp only [];have bi:(code++Wa)++(⟨22,y,0⟩:fb)::(j++[(⟨21,0,0⟩:fb)])++U=((code++Wa)++(⟨22,y,0⟩:fb)::j)++(⟨21,0,0⟩:fb)::U:=by simp
    have ci:(((code++Wa++[(⟨22,0,0⟩:fb)]++j).length:Nat):Int)=(((code++Wa)++(⟨22,y,0⟩:fb)::j).length:Int):=by simp
    rw [bi,ci,sf,Kw,pa,Rv,Int.toNat_natCast,Cu];simp only [];generalize jp:((((code++Wa)++(⟨22,y,0⟩:fb)::j++(⟨21,0,0⟩:fb)::U).length:Nat):Int)=ul;have mp:ul=((code.length+Wa.length+1+j.length+1+U.length:Nat):Int):=by rw [← jp];simp;omega
    refine ⟨x1++ip,Wa++(⟨22,y,0⟩:fb)::(j++(⟨21,ul,0⟩:fb)::U),bloc,by simp,x.mono Jn,v,rfl,rfl,by simp;omega,by simp;omega,fun z g=>(List.mem_append.1 g).elim (rb.lt z) (Pb.lt z),fun z g=>?_,fun m u hm hu=>?_⟩
    ·have c3:s.Kind=3∨s.Kind=4:=.inl d3;rw [rd,td,wd,if_pos c3,if_pos c3,if_pos c3,if_pos d3,if_pos d3,if_pos d3];rcases List.mem_append.1 g with g | g
     ·rw [if_neg (show ¬ s.Kind=6 by omega),if_neg (show ¬ s.Kind=6 by omega)];exact (Y.sp z g).mono (fun _ h=>List.mem_append_left _ (List.mem_append_left _ h)) (fun _ h=>by cases h) fun _ h=>List.mem_append_left _ (List.mem_append_left _ h)
     rcases List.mem_cons.1 g with rfl | g
     ·exact .no (by simp) (by simp) (by simp) (by simp)
     rcases List.mem_append.1 g with g | g
     ·exact (rb.sp z g).mono (fun _ h=>List.mem_append_left _ (List.mem_append_right _ h)) (fun _ h=>List.mem_append_left _ (List.mem_append_right _ h)) fun _ h=>List.mem_append_left _ (List.mem_append_right _ h)
     rcases List.mem_cons.1 g with rfl | g
     ·exact .no (by simp) (by simp) (by simp) (by simp)
     ·exact (Pb.sp z g).mono (fun _ h=>List.mem_append_right _ h) (fun _ h=>List.mem_append_right _ h) fun _ h=>List.mem_append_right _ h
    ·rw [← List.append_assoc] at hu;obtain ⟨W,t0,wx⟩:=Y.go m u hm ((hu.mono Jn).mono Jn) [] (by simpa using Fd);obtain ⟨s1,t1,Ye⟩:=rb.go m u hm (hu.mono Jn);obtain ⟨s2,t2,yd⟩:=Pb.go m u hm hu;have Z:W.length=Wa.length:=by rw [← t0,List.length_map]
     have Id:s1.length=j.length:=by rw [← t1,List.length_map]
     have op:s2.length=U.length:=by rw [← t2,List.length_map]
     have k1:(code++Wa++[(⟨22,0,0⟩:fb)]).length=code.length+W.length+1:=by simp [Z];omega
     have pp:((code++Wa)++(⟨22,y,0⟩:fb)::(j++[(⟨21,0,0⟩:fb)])).length=code.length+W.length+1+s1.length+1:=by simp [Z,Id];omega
     rw [k1] at Ye;rw [pp] at yd;have:=mh.cond wx Ye yd;refine ⟨_,?_,this⟩;rw [List.map_append,List.map_cons,List.map_append,List.map_cons,t0,t1,t2,rg,mp,Z,Id,op]
   | ID d4 r If =>
    obtain ⟨Wa,na,Y⟩:=E (by omega) _ r;have wf:=Y.vg;obtain ⟨V,Ed⟩:=ol (.inr d4);rw [if_neg (by omega),if_pos (.inr d4),if_neg (by omega)] at D;rw [if_neg (by omega),if_pos d4,Bn,pa,na,pa];simp only [];rw [P _ _ _ _ _ (code++Wa) _ _ _ _ (by simp;omega),pa];simp only [];obtain ⟨x1,j,f1,rb⟩:=id.body k s.Body B _ kind para loca resu take (code++Wa++[⟨22,0,0⟩]) bloc V Ed If x v (by omega) (by omega) (by omega) K (by simp;omega) (by omega);have g1:=rb.Ro;have g2:=rb.el;rw [f1,pa];simp only [];rw [P _ _ _ _ _ (code++Wa++[(⟨22,0,0⟩:fb)]++j) _ _ _ _ (by simp;omega),pa,Bn,pa];simp only [];have S:code++Wa++[(⟨22,0,0⟩:fb)]++j++[(⟨21,(code.length:Int),0⟩:fb)]=(code++Wa)++(⟨22,0,0⟩:fb)::(j++[(⟨21,(code.length:Int),0⟩:fb)]):=by simp
    rw [S,sf,Kw,pa,Tv];simp only [];rw [Int.toNat_natCast,Cu];generalize dg:((((code++Wa)++(⟨22,0,0⟩:fb)::(j++[(⟨21,(code.length:Int),0⟩:fb)])).length:Nat):Int)=y;have rg:y=((code.length+Wa.length+1+j.length+1:Nat):Int):=by rw [← dg];simp;omega
    refine ⟨x1,Wa++(⟨22,y,0⟩:fb)::(j++[(⟨21,(code.length:Int),0⟩:fb)]),bloc,by simp,x.mono Jn,v,rfl,rfl,by simp;omega,by omega,rb.lt,fun z g=>?_,fun m u hm hu=>?_⟩
    ·have c3:s.Kind=3∨s.Kind=4:=.inr d4;rw [rd,td,wd,if_pos c3,if_pos c3,if_pos c3];rcases List.mem_append.1 g with g | g
     ·rw [if_neg (show ¬ s.Kind=6 by omega),if_neg (show ¬ s.Kind=6 by omega)];exact (Y.sp z g).mono (fun _ h=>List.mem_append_left _ (List.mem_append_left _ h)) (fun _ h=>by cases h) fun _ h=>List.mem_append_left _ (List.mem_append_left _ h)
     rcases List.mem_cons.1 g with rfl | g
     ·exact .no (by simp) (by simp) (by simp) (by simp)
     rcases List.mem_append.1 g with g | g
     ·exact (rb.sp z g).mono (fun _ h=>List.mem_append_left _ (List.mem_append_right _ h)) (fun _ h=>List.mem_append_left _ (List.mem_append_right _ h)) fun _ h=>List.mem_append_left _ (List.mem_append_right _ h)
     ·rw [List.mem_singleton.1 g];exact .no (by simp) (by simp) (by simp) (by simp)
    ·obtain ⟨W,t0,wx⟩:=Y.go m u hm (hu.mono Jn) [] (by simpa using Fd);obtain ⟨s1,t1,Ye⟩:=rb.go m u hm hu;have Z:W.length=Wa.length:=by rw [← t0,List.length_map]
     have Id:s1.length=j.length:=by rw [← t1,List.length_map]
     have k1:(code++Wa++[(⟨22,0,0⟩:fb)]).length=code.length+W.length+1:=by simp [Z];omega
     rw [k1] at Ye;have:=mh.loop wx Ye;refine ⟨_,?_,this⟩;rw [List.map_append,List.map_cons,List.map_append,t0,t1,rg,Z,Id];rfl
   | iD d6 ii =>
    rw [if_pos d6,if_neg (by omega),if_neg (by omega)] at D;rw [if_neg (by omega),if_neg (by omega),if_pos d6,P _ _ _ _ _ code _ _ _ _ (by omega),pa];refine ⟨[],[⟨25,0,0⟩],bloc,by rw [List.append_nil],by rw [List.append_nil];exact x,v,rfl,rfl,by simp;omega,by simp,by simp,fun z g=>by rw [List.mem_singleton.1 g];exact .no (by simp) (by simp) (by simp) (by simp),?_⟩;rw [List.append_nil];refine xk.one (by simp) (by simp) fun m u hm hu=>⟨Hi (by simp) (by simp) (by simp) (by simp) (by simp) (by simp) (by simp) (by simp),?_,fun h=>absurd rfl h.2.2⟩;rw [TC rfl,if_neg (by rw [hu.bg];exact ii)];rfl
   | vD wl d1 r ds =>
    rename_i t;obtain ⟨Wa,na,Y⟩:=E (by omega) _ r;have wf:=Y.vg;rw [if_neg (by omega),if_neg (by omega),if_neg (by omega)] at D;obtain ⟨w,b,rfl⟩:∃ w b,B=w++[b]:=by
     rcases List.eq_nil_or_concat B with h | ⟨w,b,h⟩
     ·rw [h] at wl;simp at wl
     ·exact ⟨w,b,by rw [h,List.concat_eq_append]⟩
    have up:(w++[b]).set ((w++[b]).length - 1) (Fc (w++[b])[(w++[b]).length - 1] s.Name t)=w++[Fc b s.Name t]:=by
     have Va:(w++[b]).length - 1=w.length:=by simp
     have ce:(w++[b])[(w++[b]).length - 1]=b:=by simp
     rw [ce,Va];exact Cu w [] b _
    rw [up];obtain ⟨wp,c,rfl,eq,Eq⟩:=x.split;rw [if_neg (by omega),if_neg (by omega),if_neg (by omega),na,pa];simp only [];simp only [List.length_append,List.length_singleton] at kk;rw [if_pos d1,EA (T:=T) s.Name (sc T t) (by omega) (by omega),pa];simp only [];rw [P _ _ _ _ _ (code++Wa) _ _ _ _ (by simp;omega),pa];have er:∀ yh,Gj (w++[Fc b s.Name t]) yh=if s.Name=yh then some t else Gj (w++[b]) yh:=fun yh=>by
     unfold Gj;rw [Fu,Fu,Si];by_cases c:s.Name=yh
     ·rw [if_pos c,if_pos c]
     ·rw [if_neg c,if_neg c]
    refine ⟨[sc T t],Wa++[⟨4,(loca.length:Int),0⟩],wp++[Fc c s.Name (loca.length:Int)],by simp,?_,?_,by simp,by simp,by simp;omega,by simp;omega,fun z g=>⟨t,zw fd ya v r,List.mem_singleton.1 g⟩,fun z g=>?_,?_⟩
    ·exact (eq.mono Jn).app (Eq.put s.Name t)
    ·intro yh qd h;rw [er] at h;split at h
     ·obtain rfl:=Option.some.inj h;exact zw fd ya v r
     ·exact v yh qd h
    ·rcases List.mem_append.1 g with g | g
     ·exact pl (by omega) Y z g
     ·rw [List.mem_singleton.1 g];exact .no (by simp) (by simp) (by simp) (by simp)
    ·refine xk.after Y.go Fd Jn (by simp) (by simp) fun m u hm hu=>?_;have rc:=hu.Rg loca.length (sc T t) (by simp);have hlen:=(List.getElem?_eq_some_iff.1 rc).1;refine ⟨⟨by simp,fun h=>absurd h (by simp),fun _=>⟨by simp only [];omega,by simp only [];omega⟩,fun h=>absurd h (by simp),fun h=>absurd h (by simp),fun h=>absurd h (by simp)⟩,?_,fun _=>qB hlen (fun z g=>?_) rfl rfl⟩
     ·have:Jj u.Wb (loca.length:Int)=sc T t:=by unfold Jj;rw [sf,rc];rfl
      rw [lD rfl];show de [Jj u.Wb (loca.length:Int)] ([sc T t],0)=_;rw [this];exact Ol [sc T t] []
     ·rw [Aw,Ay] at g;rw [Aw,Ay];rcases List.mem_append.1 g with g | g
      ·exact .inr (List.mem_append_left _ g)
      ·rcases jy _ _ _ z g with g | g
       ·exact .inl g
       ·exact .inr (List.mem_append_right _ g)
   | sset d2 Ab r =>
    rename_i t;obtain ⟨q,dl,nl,on⟩:=x.look rfl t Ab;obtain ⟨Wa,na,C,F⟩:=fin (kf t) ⟨4,(q:Int),0⟩ (by omega) (by omega) (by omega) r (by simp) (by simp) (.no (by simp) (by simp) (by simp) (by simp)) fun m u hm hu=>by
     have rc:=hu.Rg q _ nl;have hlen:=(List.getElem?_eq_some_iff.1 rc).1;refine ⟨⟨by simp,fun h=>absurd h (by simp),fun _=>⟨by simp only [];omega,by simp only [];omega⟩,fun h=>absurd h (by simp),fun h=>absurd h (by simp),fun h=>absurd h (by simp)⟩,?_,fun _=>qB hlen (fun z g=>.inr g) rfl rfl⟩;have:Jj u.Wb (q:Int)=sc T t:=by unfold Jj;rw [sf,rc];rfl
     rw [lD rfl];show de [Jj u.Wb (q:Int)] ([sc T (kf t)],0)=_;rw [this,sk];exact Ol [sc T t] []
    rw [if_neg (by omega),if_neg (by omega),if_neg (by omega),na,pa];simp only [];rw [if_neg (by omega),if_pos d2,ZA (by omega) x.mem n (by omega),dl,pa,P _ _ _ _ _ (code++Wa) _ _ _ _ C,pa];exact F _ rfl
   | wD d5 ii r =>
    obtain ⟨Wa,na,C,F⟩:=fin (kf d.tb) ⟨24,0,0⟩ (by omega) (by omega) (by omega) r (by simp) (by simp) (.no (by simp) (by simp) (by simp) (by simp)) fun m u hm hu=>by
     refine ⟨Hi (by simp) (by simp) (by simp) (by simp) (by simp) (by simp) (by simp) (by simp),?_,fun h=>absurd rfl h.2.1⟩;rw [SC rfl,if_neg (by rw [hu.bg,ii];decide),sk,← hu.rs (by omega)];have:de [u.Result] (([u.Result],0):Oe)=([],0):=Ol [u.Result] [];rw [this];rfl
    rw [if_neg (by omega),if_neg (by omega),if_neg (by omega),na,pa];simp only [];rw [if_neg (by omega),if_neg (by omega),if_pos d5,P _ _ _ _ _ (code++Wa) _ _ _ _ C,pa];exact F _ rfl
   | jD d7 am em r =>
    rename_i f;obtain ⟨Wa,na,C,F⟩:=fin (kf f.tb) ⟨26,(Aa T.boxes s.Name).getD 0,0⟩ (by omega) (by omega) (by omega) r (by simp) (by simp) ⟨fun h=>absurd h (by simp),fun _=>⟨s.Name,by rw [wd,if_pos d7];simp,pi _ f am em⟩,fun h=>absurd h (by simp)⟩ fun m u hm hu=>by
     obtain ⟨q,S,bi,ci,fr⟩:=hm.Sg _ f am em;refine ⟨⟨by simp,fun h=>absurd h (by simp),fun h=>absurd h (by simp),fun h=>absurd h (by simp),fun h=>absurd h (by simp),fun _=>?_⟩,?_,fun _=>hv _ _ (by simp)⟩
     ·show 0≤(Aa T.boxes s.Name).getD 0∧(Aa T.boxes s.Name).getD 0<_;rw [S];exact ⟨bi,ci⟩
     ·rw [YI rfl];show de [(fl m ((Aa T.boxes s.Name).getD 0)).tb] _=_;rw [S];simp only [Option.getD_some];rw [fr,sk];exact Ol [sc T f.tb] []
    rw [if_neg (by omega),if_neg (by omega),if_neg (by omega),na,pa];simp only [];rw [if_neg (by omega),if_neg (by omega),if_neg (by omega),if_pos d7,P _ _ _ _ _ (code++Wa) _ _ _ _ C,pa];exact F _ rfl
   | xD d8 r of =>
    rename_i t;obtain ⟨es,-⟩:=zw fd ya v r;have Va:sc T t=t.Kind:=Eo of;obtain ⟨Wa,na,C,F⟩:=fin t ⟨28,0,0⟩ (by omega) (by omega) (by omega) r (by simp) (by simp) (.no (by simp) (by simp) (by simp) (by simp)) fun m u hm hu=>by
     refine ⟨Hi (by simp) (by simp) (by simp) (by simp) (by simp) (by simp) (by simp) (by simp),?_,fun _=>hv _ _ (by simp)⟩;have li:Sc ([sc T t],0)=(sc T t,([],0)):=Gq [] _ _;have or:lg (sc T t):=by unfold lg;rw [Va];omega
     rw [aJ rfl,li];simp only [];rw [if_neg (fun h=>h.2 or)]
    rw [if_neg (by omega),if_neg (by omega),if_neg (by omega),na,pa];simp only [];rw [if_neg (by omega),if_neg (by omega),if_neg (by omega),if_neg (by omega),if_pos d8,P _ _ _ _ _ (code++Wa) _ _ _ _ C,pa];exact F _ rfl
   | JD d9 r =>
    rename_i t;obtain ⟨Wa,na,C,F⟩:=fin t ⟨5,0,0⟩ (by omega) (by omega) (by omega) r (by simp) (by simp) (.no (by simp) (by simp) (by simp) (by simp)) fun m u hm hu=>by
     refine ⟨Hi (by simp) (by simp) (by simp) (by simp) (by simp) (by simp) (by simp) (by simp),?_,fun _=>hv _ _ (by simp)⟩;have li:Sc ([sc T t],0)=(sc T t,([],0)):=Gq [] _ _;rw [LJ rfl,li]
    rw [if_neg (by omega),if_neg (by omega),if_neg (by omega),na,pa];simp only [];rw [if_neg (by omega),if_neg (by omega),if_neg (by omega),if_neg (by omega),if_neg (by omega),if_pos d9,P _ _ _ _ _ (code++Wa) _ _ _ _ C,pa];exact F _ rfl
end
end Go.Y
namespace Go.Y
open Go.oc Go.sd
theorem fG {m:Pc}{u:uc}{A:List zh}{a:zh}{s s1:Vo}(h:mh m u 0 A s s1) (f:a.2.1=s1.1) (g:uf a.2.2 s1.2) (mr:kn m u a.1) (er:(Zc m u a.1 (a.2.1,0) a.2.2).2=0) (i:¬ follows a.1) (k:a.1.Op≠21) (l:a.1.Op≠22) :
  (∀ (j:Nat) (b:zh),(A++[a])[j]?=some b→Yw m u (A++[a]) j b)∧mq (A++[a]) s:=by
 obtain ⟨g1,g2⟩:=h [] [a] rfl ⟨a,[],rfl,f,g⟩;refine ⟨fun j b d=>?_,g1⟩;by_cases c:j<A.length
 ·rw [List.getElem?_append_left c] at d;have:=g2 j b d;rw [Nat.zero_add] at this;exact this
 ·rw [List.getElem?_append_right (by omega)] at d;have e:j - A.length=0:=by
   obtain ⟨f,-⟩:=List.getElem?_eq_some_iff.1 d;simpa using f
  rw [e] at d;obtain rfl:=Option.some.inj d;exact ⟨mr,er,fun h=>by rcases h with h | h<;>contradiction,fun h=>absurd h i⟩
section
variable {p:Eb}{T:Fe}{d:va}
structure Sn (p:Eb) (T:Fe) (d:va) (u:uc):Prop where
 bg:u.Kind=d.Kind
 hg:u.Params=if d.Kind=4 then 0 else (d.Params.length:Int)
 rs:d.Kind≠4→u.Result=sc T d.tb
 Fg:d.Kind=3→u.fc=sc T d.fc
 DK:d.Kind≠4→u.Wb.take d.Params.length=d.Params.map fun q=>sc T q.tb
 EK:d.Kind≠4→d.Params.length≤u.Wb.length
 lt:∀ z ∈ u.Wb,∃ t,Rl p t∧z=sc T t
 Wa:1≤u.Code.length
 FK:Tf u.Result
 rt:Tf u.fc
 sp:∀ i ∈ u.Code,gl T (cl d) (gn d) (hn d) i
 ty:∀ m,Rn p T m→(∃ S,Sp m u S∧∃ h,S 0=some ([],h)∧uf h (ch u))∧∀ i ∈ u.Code,Nl m u i
theorem LH {u:uc}{j:Nat}(h:(j:Int)<u.Params) (qa:u.Params≤u.Wb.length):(ch u)[j]?=some true:=by
 unfold ch;rw [List.getElem?_append_left (by simp;omega),List.getElem?_replicate,if_pos (by omega)]
theorem MH {u:uc}(a:0≤u.Params) (qa:u.Params≤u.Wb.length):(ch u).length=u.Wb.length:=by
 unfold ch;simp;omega
theorem OB (H:Xp p T) (lc:∀ n f,Aa p.named n=some f→f.Kind=1→Aa T.boxes n=some ((Aa T.boxes n).getD 0)) (rc:∀ n f,Aa p.named n=some f→Fj f∧Gi p f) (K:Zm d) (C:Gi p d) (ok:Fj d) (k1:d.Kind≠1){L:ye}{b:List (Nm×Ya)}(fd:Hj p d ([b]++[[]]) d.Body L) (id:an p [b]) (hs:(d.Body.map (pf 39)).sum≤2000) (fu:Nat) (ne:500≤fu) (c:List (Nm×Int)) (para resu take:Int) (loca:List Int)
  (md:og T loca [b] [c]) (rd:∀ z ∈ loca,∃ t,Rl p t∧z=sc T t) (Ab:∀ z ∈ Ji [c],0≤z∧z<para) (Ne:loca.length=para) (of:loca.length≤100) (M:para=if d.Kind=4 then 0 else (d.Params.length:Int)) (o:d.Kind≠4→resu=sc T d.tb) (s:d.Kind=3→take=sc T d.fc) (N:Tf resu) (Q:Tf take) (D:d.Kind≠4→loca=d.Params.map fun q=>sc T q.tb) :
  ∃ u,Sr fu T d [c] d.Kind para resu loca [] take=some u∧Sn p T d u:=by
 have td:d.Kind=3→dk d.fc∧d.fc.Kind≠3:=fun h=>⟨ok.Fg h,C.Fg h⟩;obtain ⟨e,Db,f1,Y⟩:=(qK H lc rc td fu).body 39 d.Body [b] L d.Kind para loca resu take [] [c] (K.lr k1).1 (K.lr k1).2 fd md id (by simp) (by omega) (by omega) s (by simp;omega) (by omega);have v:=Y.Ro;have wf:=Y.el;have P:=fun (kind para:Int) (loca:List Int) (resu take:Int) (code:List fb) (bloc:wg) (a b c:Int) (h:code.length≤2000000)=>gy (T:=T) (kind:=kind) (para:=para) (loca:=loca) (resu:=resu) (take:=take) (bloc:=bloc) a b c h;have R:∀ z ∈ loca++e,∃ t,Rl p t∧z=sc T t:=fun z g=>(List.mem_append.1 g).elim (rd z) (Y.lt z);have U:d.Kind≠4→(loca++e).take d.Params.length=d.Params.map fun q=>sc T q.tb:=fun k=>by
  have h:=D k;have qa:d.Params.length=loca.length:=by rw [h,List.length_map]
  rw [qa,List.take_left,h]
 have wd:∀ u:uc,u.Wb=loca++e→u.Params=para→uf (jg u.Wb.length [c]) (ch u):=fun u E w=>by
  have hle:u.Params≤u.Wb.length:=by rw [E,w,List.length_append];omega
  refine ⟨by rw [Qs,MH (by omega) hle],fun j Fd=>?_⟩;obtain ⟨-,k⟩:=(Kq _ _ j).1 Fd;exact LH (by rw [w];exact (Ab _ k).2) hle
 have W:∀ (fin:List fb),(∀ i ∈ fin,gl T (cl d) (gn d) (hn d) i)→∀ i ∈ Db++fin,gl T (cl d) (gn d) (hn d) i:=fun fin h i l=>(List.mem_append.1 l).elim (Y.sp i) (h i);have X:∀ (u:uc) (fin:List zh) (a:zh),u.Wb=loca++e→u.Params=para→Um T d u (loca++e)→u.Code=Db++fin.map (·.1)++[a.1]→∀ m,Rn p T m→(∃ s1,mh m u Db.length fin ([],jg u.Wb.length [c]) s1∧a.2.1=s1.1∧uf a.2.2 s1.2)→kn m u a.1→(Zc m u a.1 (a.2.1,0) a.2.2).2=0→¬ follows a.1→a.1.Op≠21→a.1.Op≠22 →
   (∃ S,Sp m u S∧∃ h,S 0=some ([],h)∧uf h (ch u))∧∀ i ∈ u.Code,Nl m u i:=by
  intro u fin a E w hu Id m hm ⟨s1,g1,g2,g3⟩ mr er be F G;obtain ⟨y,t1,t2⟩:=Y.go m u hm hu;have If:y.length=Db.length:=by rw [← t1,List.length_map]
  obtain ⟨Z,ce⟩:=fG (mh.app t2 (by rw [show (0:Nat)+y.length=Db.length by omega];exact g1)) g2 g3 mr er be F G;have gc:u.Code=(y++fin++[a]).map (·.1):=by rw [Id,List.map_append,List.map_append,t1];rfl
  refine ⟨⟨_,RG gc Z,?_⟩,eG gc Z⟩;obtain ⟨x,r,ex,x1,ge⟩:=ce;refine ⟨x.2.2,?_,ge.jn (wd u E w)⟩;show (if (0:Int)≤0 then ((y++fin++[a])[(0:Int).toNat]?).map (·.2) else none)=_;rw [if_pos (by simp),ex];show some x.2=_;rw [show x.2=(x.2.1,x.2.2) from rfl,x1]
 rw [Sr,f1,pa];simp only [List.nil_append];by_cases A:d.Kind≠2
 ·rw [if_pos A,P _ _ _ _ _ Db _ _ _ _ (by first | omega | (simp;omega) | (simp at v ⊢;omega)),pa];refine ⟨_,rfl,rfl,M,o,s,U,fun k=>by have h:=D k;show _≤(loca++e).length;rw [List.length_append,h,List.length_map];omega,R,by show 1≤(Db++[_]).length;simp,N,Q,W _ fun i l=>by rw [List.mem_singleton.1 l];exact .no (by simp) (by simp) (by simp) (by simp),fun m hm=>?_⟩;refine X _ [] (⟨25,0,0⟩,([],jg (loca++e).length [c])) rfl rfl ⟨fun _ _ h=>h,rfl,o,s⟩ (by simp) m hm ⟨_,.nil rfl (.qi _),rfl,.qi _⟩ (Hi (by simp) (by simp) (by simp) (by simp) (by simp) (by simp) (by simp) (by simp)) ?_ (fun h=>h.2.2 rfl) (by simp) (by simp);rw [TC rfl,if_neg A];rfl
 ·have A:d.Kind=2:=by omega
  have dg:=o (by omega);have rg:sc T d.tb=d.tb.Kind:=Eo (C.ty (by omega));have bi:=C.ty (show d.Kind≠4 by omega);obtain ⟨ci,ii⟩:=ok.ty (show d.Kind≠4 by omega);have go:∀ (i:fb),i.Op≠4→i.Op≠21→i.Op≠22→follows i→(i.Op≠23∧i.Op≠29∧i.Op≠26∧i.Op≠27)→(∀ m u hs,kn m u i∧Zc m u i ([],0) hs=([resu],0)) →
    ∃ u,Rr T [c] d.Kind para resu take (loca++e) (Db++[i])=some u∧Sn p T d u:=by
   intro i he F G li B l;rw [Rr,P _ _ _ _ _ (Db++[i]) _ _ _ _ (by simp at v ⊢;omega),pa];refine ⟨_,rfl,rfl,M,o,s,U,fun k=>by have h:=D k;show _≤(loca++e).length;rw [List.length_append,h,List.length_map];omega,R,by show 1≤(Db++[i]++[_]).length;simp,N,Q,?_,fun m hm=>?_⟩
   ·show ∀ z ∈ Db++[i]++[_],_;rw [List.append_assoc];exact W _ fun z g=>by
     rcases List.mem_append.1 g with g | g
     ·rw [List.mem_singleton.1 g];exact .no B.1 B.2.1 B.2.2.1 B.2.2.2
     ·rw [List.mem_singleton.1 g];exact .no (by simp) (by simp) (by simp) (by simp)
   ·refine X _ [(i,([],jg (loca++e).length [c]))] (⟨24,0,0⟩,([resu],jg (loca++e).length [c])) rfl rfl ⟨fun _ _ h=>h,rfl,o,s⟩ (by simp) m hm ⟨([resu],jg (loca++e).length [c]),.one (l m _ []).1 (l m _ _).2 F G fun _=>?_,rfl,.qi _⟩ (Hi (by simp) (by simp) (by simp) (by simp) (by simp) (by simp) (by simp) (by simp)) ?_ (fun h=>h.2.1 rfl) (by simp) (by simp)
    ·have:ug i (jg (loca++e).length [c])=jg (loca++e).length [c]:=if_neg he;rw [this];exact .qi _
    ·rw [SC rfl,if_neg (by simp [A])];have:de [resu] (([resu],0):Oe)=([],0):=Ol [resu] [];show (Mm (de [resu] (([resu],0):Oe))).2=0;rw [this];rfl
  rw [if_neg (by omega)];by_cases q:resu=2
  ·rw [if_pos q,P _ _ _ _ _ Db _ _ _ _ (by first | omega | (simp;omega) | (simp at v ⊢;omega)),pa];exact go ⟨2,0,0⟩ (by simp) (by simp) (by simp) ⟨by decide,by decide,by decide⟩ ⟨by decide,by decide,by decide,by decide⟩ fun m u hs=>⟨⟨by decide,fun _=>.inl rfl,fun h=>absurd h (by simp),fun h=>absurd h (by simp),fun h=>absurd h (by simp),fun h=>absurd h (by simp)⟩,by rw [q];exact (if_neg (by simp)).trans ((if_pos rfl).trans (Oj (by simp)))⟩
  ·have le:resu=1:=by omega
   rw [if_neg q,P _ _ _ _ _ Db _ _ _ _ (by first | omega | (simp;omega) | (simp at v ⊢;omega)),pa];exact go ⟨1,0,0⟩ (by simp) (by simp) (by simp) ⟨by decide,by decide,by decide⟩ ⟨by decide,by decide,by decide,by decide⟩ fun m u hs=>⟨Hi (by simp) (by simp) (by simp) (by simp) (by simp) (by simp) (by simp) (by simp),by rw [le];exact (if_pos rfl).trans (Oj (by simp))⟩
theorem SG (g:Gi p d) (ok:Fj d) (f:d.Kind=2∨d.Kind=3):an p [Qm d]:=by
 intro n t h;unfold Gj at h;have h:Aa (Qm d) n=some t:=by
  simp only [List.reverse_singleton,List.findSome?_cons,List.findSome?_nil] at h;cases e:Aa (Qm d) n with
  | none=>rw [e] at h; cases h
  | some qd=>rw [e] at h; exact h
 have key:∀ (hg:List TParam) (m:List (Nm×Ya)),(∀ q ∈ hg,q ∈ d.Params)→(∀ t,Aa m n=some t→Rl p t)→∀ t,Aa (hg.foldl (fun m q=>Fc m q.Name (kf q.tb)) m) n=some t→Rl p t:=by
  intro hg
  induction hg with
  | nil=>intro m _ b t a; exact b t a
  | cons q hg i =>
   intro m c b t a;refine i (Fc m q.Name (kf q.tb)) (fun z j=>c z (List.mem_cons_of_mem _ j)) (fun t a=>?_) t a;rw [Si] at a;split at a
   ·obtain rfl:=Option.some.inj a;refine ⟨by rw [Gl];exact (ok.hg f).2 q (c q (List.mem_cons_self ..)),(g.hg f q (c q (List.mem_cons_self ..))).bare⟩
   ·exact b t a
 exact key d.Params [] (fun q h=>h) (fun t h=>by cases h) t h
theorem BF (H:Xp p T) (y:∀ n f,Aa p.named n=some f→f.Kind=1→Aa T.boxes n=some ((Aa T.boxes n).getD 0)) (A:∀ n f,Aa p.named n=some f→Fj f∧Gi p f) (B:Zm d) (j:Gi p d) (ok:Fj d) (k1:d.Kind≠1){D:ye}(l:Hj p d ([if d.Kind=4 then [] else Qm d]++[[]]) d.Body D) (hs:(d.Body.map (pf 39)).sum≤2000) (fu:Nat) (E:500≤fu) :
  ∃ u,Ks fu T d=some u∧Sn p T d u:=by
 have F:∀ (b:List (Nm×Ya)) (c:List (Nm×Int)) (para resu:Int) (loca:List Int),Hj p d ([b]++[[]]) d.Body D→an p [b]→og T loca [b] [c]→(∀ z ∈ loca,∃ t,Rl p t∧z=sc T t)→(∀ z ∈ Ji [c],0≤z∧z<para)→loca.length=para→loca.length≤100→para=(if d.Kind=4 then 0 else (d.Params.length:Int))→(d.Kind≠4→resu=sc T d.tb)→Tf resu→(d.Kind≠4→loca=d.Params.map fun q=>sc T q.tb) →
   ∃ u,Tr fu T d [c] d.Kind para resu 0 loca []=some u∧Sn p T d u:=by
  have Z:∀ t:Ya,t.Kind≠3→dk t→Tf (sc T t):=fun t o gc=>by rw [Eo o];obtain ⟨a,b⟩:=gc;unfold Tf;omega
  intro b c para resu loca r s o G K M N P Q R S;rw [Tr];by_cases k:d.Kind=3
  ·rw [if_pos k,Es H (.of (j.Fg k)),pa];exact OB H y A B j ok k1 r s hs fu E c para resu _ loca o G K M N P Q (fun _=>rfl) R (Z _ (j.Fg k) (ok.Fg k)) S
  ·rw [if_neg k];exact OB H y A B j ok k1 r s hs fu E c para resu 0 loca o G K M N P Q (fun h=>absurd h k) R (by unfold Tf;omega) S
 rw [Ks];by_cases c4:d.Kind=4
 ·rw [if_pos c4] at l;rw [if_neg (by simpa using c4)];refine F [] [] 0 0 [] l (fun n t h=>by cases h) ⟨fun n=>⟨fun _=>rfl,fun t h=>by cases h⟩,trivial⟩ (by simp) (by simp [Ji]) rfl (by simp) (by rw [if_pos c4]) (fun h=>absurd c4 h) (by unfold Tf;omega) fun h=>absurd c4 h
 ·rw [if_neg c4] at l;have v:d.Kind=2∨d.Kind=3:=by have:=ok.k1;have:=ok.Gd;omega
  obtain ⟨id,lc⟩:=ok.hg v;rw [if_pos c4,Es H (.of (j.ty c4)),pa,Vv];have L:∀ (m i:Nat) (b:List (Nm×Ya)) (c:List (Nm×Int)) (loca:List Int),i≤d.Params.length→d.Params.length<m+i→b=(d.Params.take i).foldl (fun m q=>Fc m q.Name (kf q.tb)) []→loca=(d.Params.take i).map (fun q=>sc T q.tb)→og T loca [b] [c]→(∀ z ∈ Ji [c],0≤z∧z<i)→(∀ z ∈ loca,∃ t,Rl p t∧z=sc T t) →
    ∃ u,tq fu T d m i [c] d.Kind (d.Params.length:Int) (sc T d.tb) 0 loca []=some u∧Sn p T d u:=by
   intro m
   induction m with
   | zero=>intro i b c loca r s; omega
   | succ m rc =>
    intro i b c loca r s w qa x Ab U;have md:loca.length=i:=by rw [qa,List.length_map,List.length_take];omega
    rw [tq];by_cases q:i<d.Params.length
    ·have hm:d.Params[i] ∈ d.Params:=List.getElem_mem _;have W:=j.hg v _ hm;have X:=EA (T:=T) (kind:=d.Kind) (para:=(d.Params.length:Int)) (resu:=sc T d.tb) (take:=0) (code:=[]) (loca:=loca) (C:=[]) (c:=c) d.Params[i].Name (sc T d.Params[i].tb) (by simp) (by omega);rw [List.nil_append] at X;rw [if_pos (by omega),sf,List.getElem?_eq_getElem q,pa,Es H W,pa,X,pa,Uv,Td (by omega),pa];have Y:=x.put d.Params[i].Name (kf d.Params[i].tb);rw [sk] at Y;refine rc (i+1) _ _ (loca++[sc T d.Params[i].tb]) q (by omega) ?_ ?_ Y (fun z g=>?_) fun z g=>?_
     ·rw [← List.take_append_getElem q,List.foldl_append,← w];rfl
     ·rw [← List.take_append_getElem q,List.map_append,← qa];rfl
     ·rw [Ay] at g Ab;rcases jy _ _ _ z g with g | g
      ·omega
      ·have:=Ab z g;omega
     ·rcases List.mem_append.1 g with g | g
      ·exact U z g
      ·exact ⟨d.Params[i].tb,⟨lc _ hm,W⟩,List.mem_singleton.1 g⟩
    ·have e:i=d.Params.length:=by omega
     rw [if_neg (by omega)];subst e;rw [List.take_length] at w qa;have fd:b=Qm d:=w;rw [fd] at x;exact F (Qm d) c _ _ loca l (SG j ok v) x U Ab (by omega) (by omega) (by rw [if_neg c4]) (fun _=>rfl) (by rw [Eo (j.ty c4)];obtain ⟨a,b⟩:=ok.ty c4;unfold Tf;omega) fun _=>qa
  exact L (d.Params.length+1) 0 [] [] [] (by omega) (by omega) rfl rfl ⟨fun n=>⟨fun _=>rfl,fun t h=>by cases h⟩,trivial⟩ (by simp [Ji]) (by simp)
end
end Go.Y
namespace Go.Y
open Go.oc Go.sd
section
variable {fu:Nat}{l:List va}
theorem TG (b:500≤fu){p:Eb}{f:fe}(h:Ap fu l=some (p,f)) (a:f.ve=0):(∀ d ∈ l,Zm d)∧∀ d ∈ l,d.Kind≠1→∃ i,Hj p d ([if d.Kind=4 then [] else Qm d]++[[]]) d.Body i:=by
 obtain ⟨s,t,c,m⟩:=iA fu b l;rw [h] at c;obtain ⟨rfl,rfl⟩:=Prod.mk.inj (Option.some.inj c);have R:=m a;have qa:=R.ok.le;obtain ⟨g,g1,-⟩:=Px fu (by omega) l;rw [Ap,g1,pa] at h;by_cases z:g.ve≠0
 ·rw [if_pos z] at h;obtain ⟨-,rfl⟩:=Prod.mk.inj (Option.some.inj h);exact absurd a z
 ·rw [if_neg z] at h;refine ⟨(HI (by omega) g1 (Decidable.not_not.1 z)).2,?_⟩;obtain ⟨N,h⟩:=FI qa p f _ 0 0 _ h a;obtain ⟨rfl,n⟩:=DI qa N p f _ 0 (EI qa N p f _ 0 h a) a;intro d ya k1;obtain ⟨j,o,rfl⟩:=List.getElem_of_mem ya;obtain ⟨e,na,q⟩:=AH fu b ⟨l,N⟩ l[j] (fun k d r=>R.ya d (R.only k d r).1) (R.ya _ ya) (R.ok.ok _ ya);rw [n j o (Nat.zero_le _)] at na;exact q (Option.some.inj na).symm k1
end
def Bg (d:va):Bool:=decide (d.Kind≠1)
def Fh (d:va):Bool:=decide (d.Kind=1)
structure Tz (l:List va) (i:Nat) (B U:List (Nm×Int)):Prop where
 ul:U.length=((l.take i).filter Bg).length
 Rd:B.length=((l.take i).filter Fh).length
 sv:∀ (j:Nat) (d:va),((l.take i).filter Bg)[j]?=some d→Aa U d.Name=some (j:Int)
 Sg:∀ (j:Nat) (d:va),((l.take i).filter Fh)[j]?=some d→Aa B d.Name=some (j:Int)
 Ob:∀ n k,Aa B n=some k→∃ d ∈ l.take i,d.Name=n
def kq (p:Eb) (T:Fe) (ds:List va) (us:List uc):Prop:=us.length=ds.length∧∀ (j:Nat) (d:va),ds[j]?=some d→∃ u,us[j]?=some u∧Sn p T d u∧u.Wb.length≤200∧u.Code.length≤4000
theorem kq.snoc {p:Eb}{T:Fe}{ds:List va}{us:List uc}(h:kq p T ds us){d:va}{u:uc}(hu:Sn p T d u) (a:u.Wb.length≤200) (b:u.Code.length≤4000):kq p T (ds++[d]) (us++[u]):=by
 obtain ⟨qa,f⟩:=h;refine ⟨by simp [qa],fun j e he=>?_⟩;by_cases c:j<ds.length
 ·rw [List.getElem?_append_left c] at he;obtain ⟨v,v1,v2⟩:=f j e he;exact ⟨v,by rw [List.getElem?_append_left (by omega)];exact v1,v2⟩
 ·rw [List.getElem?_append_right (by omega)] at he;have Va:j - ds.length=0:=by
   obtain ⟨a,-⟩:=List.getElem?_eq_some_iff.1 he;simpa using a
  rw [Va] at he;obtain rfl:=Option.some.inj he;exact ⟨u,by rw [List.getElem?_append_right (by omega),qa,Va];rfl,hu,a,b⟩
section
variable {p:Eb}{l:List va}{fu:Nat}
theorem nE (R:Pk p l) (B U:List (Nm×Int)) (D:List (Nm×va)) (Sg:List Bi) (hu:∀ d ∈ l,d.Kind≠1→∃ u,Ks fu ⟨B,U,D⟩ d=some u∧Sn p ⟨B,U,D⟩ d u):∀ (m i:Nat) (us:List uc),i≤l.length→l.length<m+i→kq p ⟨B,U,D⟩ ((l.take i).filter Bg) us →
  ∃ r f,pn fu l B U D Sg m i us=some (r,f)∧(f.ve≠0→r.Jc=[])∧(f.ve=0→r.af=Sg∧kq p ⟨B,U,D⟩ (l.filter Bg) r.Jc):=by
 have qa:=R.ok.le;intro m
 induction m with
 | zero=>intro i us k n; omega
 | succ m g =>
  intro i us k n a;have t:us.length≤30:=by
   have:=List.length_filter_le Bg (l.take i);rw [a.1];rw [List.length_take] at this;omega
  rw [pn];by_cases c:i<l.length
  ·have hm:l[i] ∈ l:=List.getElem_mem _;have Va:at_ l (i:Int)=some l[i]:=by rw [sf,List.getElem?_eq_getElem c]
   rw [if_pos (by omega),Va,pa];by_cases k1:l[i].Kind=1
   ·rw [if_pos k1,Td (by omega),pa];refine g (i+1) us c (by omega) ?_;rw [wq c,List.filter_cons_of_neg (by simpa [Bg] using k1),List.filter_nil,List.append_nil];exact a
   ·obtain ⟨u,Ye,yd⟩:=hu l[i] hm k1;rw [if_neg k1,pa,Ye,pa];have j:∀ b,(b=false→u.Wb.length≤200∧u.Code.length≤4000)→∃ r f,rr (i:Int) us u (pn fu l B U D Sg m) b=some (r,f)∧(f.ve≠0→r.Jc=[])∧(f.ve=0→r.af=Sg∧kq p ⟨B,U,D⟩ (l.filter Bg) r.Jc):=by
     intro b o;rw [rr];by_cases q:b=true
     ·rw [if_pos q];exact ⟨_,_,rfl,fun _=>rfl,fun h=>absurd h (by show ¬ (5:Int)=0;decide)⟩
     ·obtain ⟨s,e⟩:=o (by simpa using q);rw [if_neg q,tl (by simp;omega),pa,Td (by omega),pa];refine g (i+1) (us++[u]) c (by omega) ?_;rw [wq c,List.filter_cons_of_pos (by simpa [Bg] using k1),List.filter_nil];exact a.snoc yd s e
    by_cases e:(200:Int)<(u.Wb.length:Int)
    ·rw [if_pos e];exact j true fun h=>by cases h
    ·rw [if_neg e];exact j _ fun h=>⟨by omega,by simp at h;omega⟩
  ·rw [if_neg (by omega)];rw [List.take_of_length_le (by omega)] at a;exact ⟨_,_,rfl,fun h=>absurd rfl h,fun _=>⟨rfl,a⟩⟩
theorem oE (R:Pk p l) (E:∀ d ∈ l,Zm d) (F:∀ d ∈ l,d.Kind≠1→∃ A,Hj p d ([if d.Kind=4 then [] else Qm d]++[[]]) d.Body A) (G:500≤fu):∀ (m i:Nat) (B U:List (Nm×Int)) (D:List (Nm×va)) (Sg:List Bi),i≤l.length→l.length<m+i→Qz l i U D Sg→Tz l i B U →
  ∃ r f,qn fu l m i B U D Sg=some (r,f)∧(f.ve≠0→r.Jc=[])∧(f.ve=0→∃ T:Fe,Xp p T∧Tz l l.length T.boxes T.Pg∧r.af=((l.filter Fh).map fun d=>⟨d.tb.Kind,d.Ue⟩)∧kq p T (l.filter Bg) r.Jc):=by
 have qa:=R.ok.le;intro m
 induction m with
 | zero=>intro i B U D Sg o K; omega
 | succ m C =>
  intro i B U D Sg o K h X;rw [qn];by_cases c:i<l.length
  ·have hm:l[i] ∈ l:=List.getElem_mem _;have Va:at_ l (i:Int)=some l[i]:=by rw [sf,List.getElem?_eq_getElem c]
   have Fg:=List.take_succ_eq_append_getElem c;have bo:∀ d ∈ l.take i,d.Name≠l[i].Name:=fun d ya=>by
    obtain ⟨j,z,rfl⟩:=List.getElem_of_mem ya;rw [List.length_take] at z;rw [List.getElem_take];exact (List.pairwise_iff_getElem.1 R.MD) j i (by omega) c (by omega)
   have Uo:∀ d ∈ l.take (i+1),Aa (Fc D l[i].Name l[i]) d.Name=some d:=by
    intro d ya;rw [Fg] at ya;rw [Si];rcases List.mem_append.1 ya with ya | ya
    ·rw [if_neg fun he=>bo d ya he.symm];exact h.Uo d ya
    ·rw [List.mem_singleton.1 ya,if_pos rfl]
   have grow:∀ (P:va→Bool) (M:List (Nm×Int)),P l[i]=true→M.length=((l.take i).filter P).length→(∀ (j:Nat) (d:va),((l.take i).filter P)[j]?=some d→Aa M d.Name=some (j:Int))→∀ (j:Nat) (d:va),((l.take (i+1)).filter P)[j]?=some d→Aa (Fc M l[i].Name (M.length:Int)) d.Name=some (j:Int):=by
    intro P M t L s j d ya;rw [wq c,List.filter_cons_of_pos t,List.filter_nil] at ya;rw [Si];by_cases q:j<((l.take i).filter P).length
    ·rw [List.getElem?_append_left q] at ya;have:=List.mem_filter.1 (List.mem_of_getElem? ya);rw [if_neg fun he=>bo d this.1 he.symm];exact s j d ya
    ·rw [List.getElem?_append_right (by omega)] at ya;have na:j - ((l.take i).filter P).length=0:=by
      obtain ⟨o,-⟩:=List.getElem?_eq_some_iff.1 ya;simpa using o
     rw [na] at ya;obtain rfl:=Option.some.inj ya;rw [if_pos rfl,L];congr 2;omega
   have stay:∀ (P:va→Bool),P l[i]=false→(l.take (i+1)).filter P=(l.take i).filter P:=fun P t=>by
    rw [wq c,List.filter_cons_of_neg (by simp [t]),List.filter_nil,List.append_nil]
   have one:∀ (P:va→Bool),P l[i]=true→((l.take (i+1)).filter P).length=((l.take i).filter P).length+1:=fun P t=>by
    rw [wq c,List.filter_cons_of_pos t,List.filter_nil,List.length_append,List.length_singleton]
   rw [if_pos (by omega),Va,pa,pa,pa];by_cases k1:l[i].Kind=1
   ·have N:l[i].tb.Kind≠3:=(R.ya _ hm).ty (by omega);have fd:Sg.length≤30:=by
     rw [h.Sg,List.length_map];have:=List.length_filter_le (fun d:va=>decide (d.Kind=1)) (l.take i);rw [List.length_take] at this;omega
    have Q:Aa B l[i].Name=none:=by
     cases e:Aa B l[i].Name with
     | none=>rfl
     | some u =>
      obtain ⟨d,d1,d2⟩:=X.Ob _ u e;exact absurd d2 (bo d d1)
    rw [if_pos k1,pa,yv,Va,pa,pa,sw,if_neg N,pa,tl (by simp;omega),pa,xv,Td (by omega),pa];refine C (i+1) _ U _ _ c (by omega) ⟨by have:=h.le;omega,h.lt,h.ne,fun n u hu=>?_,fun d ya g=>?_,Uo,?_⟩ ⟨?_,?_,?_,?_,fun n k g=>?_⟩
    ·obtain ⟨d,d1,d2⟩:=h.yh n u hu;exact ⟨d,by rw [Fg];exact List.mem_append.2 (.inl d1),d2⟩
    ·rw [Fg] at ya;rcases List.mem_append.1 ya with ya | ya
     ·exact h.un d ya g
     ·rw [List.mem_singleton.1 ya] at g;exact absurd k1 g
    ·rw [wq c,List.filter_cons_of_pos (by simpa using k1),List.filter_nil,List.map_append,h.Sg];rfl
    ·rw [stay Bg (by simpa [Bg] using k1)];exact X.ul
    ·rw [yy B _ _ Q,List.length_append,List.length_singleton,X.Rd,one Fh (by simpa [Fh] using k1)]
    ·rw [stay Bg (by simpa [Bg] using k1)];exact X.sv
    ·exact grow Fh B (by simpa [Fh] using k1) X.Rd X.Sg
    ·rw [Si] at g;rw [Fg];split at g
     ·rename_i q;exact ⟨l[i],List.mem_append.2 (.inr (List.mem_singleton.2 rfl)),q⟩
     ·obtain ⟨d,d1,d2⟩:=X.Ob n k g;exact ⟨d,List.mem_append.2 (.inl d1),d2⟩
   ·have v:Aa U l[i].Name=none:=by
     cases e:Aa U l[i].Name with
     | none=>rfl
     | some u =>
      obtain ⟨d,d1,d2⟩:=h.yh _ u e;exact absurd d2 (bo d d1)
    have w:=yy U l[i].Name (U.length:Int) v;rw [if_neg k1,pa,zv,Td (by omega),pa];refine C (i+1) B _ _ Sg c (by omega) ⟨?_,fun x s=>?_,?_,fun n u hu=>?_,fun d ya g=>?_,Uo,?_⟩ ⟨?_,?_,?_,?_,fun n k g=>?_⟩
    ·rw [w,List.length_append,List.length_singleton];have:=h.le;omega
    ·rw [w] at s ⊢;rw [List.length_append,List.length_singleton];rcases List.mem_append.1 s with s | s
     ·have:=h.lt x s;omega
     ·rw [List.mem_singleton.1 s];simp only;omega
    ·rw [w,List.pairwise_append];refine ⟨h.ne,List.pairwise_singleton _ _,fun a S b y=>?_⟩;rw [List.mem_singleton.1 y];have:=h.lt a S;simp only;omega
    ·rw [Si] at hu;rw [Fg];split at hu
     ·rename_i g;exact ⟨l[i],List.mem_append.2 (.inr (List.mem_singleton.2 rfl)),g⟩
     ·obtain ⟨d,d1,d2⟩:=h.yh n u hu;exact ⟨d,List.mem_append.2 (.inl d1),d2⟩
    ·rw [Fg] at ya;rw [Si];rcases List.mem_append.1 ya with ya | ya
     ·rw [if_neg fun he=>bo d ya he.symm];exact h.un d ya g
     ·rw [List.mem_singleton.1 ya,if_pos rfl];exact ⟨_,rfl⟩
    ·rw [wq c,List.filter_cons_of_neg (by simpa using k1),List.filter_nil,List.append_nil];exact h.Sg
    ·rw [w,List.length_append,List.length_singleton,X.ul,one Bg (by simpa [Bg] using k1)]
    ·rw [stay Fh (by simpa [Fh] using k1)];exact X.Rd
    ·exact grow Bg U (by simpa [Bg] using k1) X.ul X.sv
    ·rw [stay Fh (by simpa [Fh] using k1)];exact X.Sg
    ·obtain ⟨d,d1,d2⟩:=X.Ob n k g;exact ⟨d,by rw [Fg];exact List.mem_append.2 (.inl d1),d2⟩
  ·rw [if_neg (by omega)];have e:i=l.length:=by omega
   subst e;have y:=h.Sg;rw [List.take_length] at y;have H:=h.xK (B:=B) R;have W:∀ n f,Aa p.named n=some f→f.Kind=1→Aa B n=some ((Aa B n).getD 0):=fun n f v g=>by
    obtain ⟨o,rfl⟩:=R.only n f v;have:f ∈ (l.take l.length).filter Fh:=List.mem_filter.2 ⟨by rw [List.take_length];exact o,by simpa [Fh] using g⟩;obtain ⟨j,z⟩:=List.getElem?_of_mem this;rw [X.Sg j f z];rfl
   have Y:∀ n f,Aa p.named n=some f→Fj f∧Gi p f:=fun n f v=>by
    obtain ⟨o,-⟩:=R.only n f v;exact ⟨R.ok.ok f o,R.ya f o⟩
   obtain ⟨r,f,na,Z,gc⟩:=nE (fu:=fu) R B U D Sg (fun d ya k1=>by
    obtain ⟨A,lc⟩:=F d ya k1;have hs:(d.Body.map (pf 39)).sum≤2000:=by
     have h:=gz en l d ya;have:=R.ok.n;rw [en,if_pos k1] at h;omega
    exact BF H W Y (E d ya) (R.ya d ya) (R.ok.ok d ya) k1 lc hs fu G) (l.length+1) 0 [] (by omega) (by omega) ⟨rfl,fun j d ya=>by simp at ya⟩
   refine ⟨r,f,na,Z,fun rc=>?_⟩;obtain ⟨s1,s2⟩:=gc rc;exact ⟨⟨B,U,D⟩,H,X,s1.trans y,s2⟩
end
section
variable {p:Eb}{l:List va}{T:Fe}{m:Pc}
structure Made (p:Eb) (l:List va) (T:Fe) (m:Pc):Prop where
 R:Pk p l
 F:∀ d ∈ l,Zm d
 H:Xp p T
 X:Tz l l.length T.boxes T.Pg
 Sg:m.af=(l.filter Fh).map fun d=>⟨d.tb.Kind,d.Ue⟩
 us:kq p T (l.filter Bg) m.Jc
theorem Made.sv (h:Made p l T m){j:Nat}{d:va}(ya:(l.filter Bg)[j]?=some d):Aa T.Pg d.Name=some (j:Int):=h.X.sv j d (by rw [List.take_length];exact ya)
theorem Made.KD (h:Made p l T m){j:Nat}{d:va}(ya:(l.filter Fh)[j]?=some d):Aa T.boxes d.Name=some (j:Int):=h.X.Sg j d (by rw [List.take_length];exact ya)
theorem Made.unit (h:Made p l T m){n:Nm}{f:va}(b:Aa p.named n=some f) (k1:f.Kind≠1):∃ (j:Nat) (u:uc),(l.filter Bg)[j]?=some f∧Aa T.Pg n=some (j:Int)∧m.Jc[j]?=some u∧Sn p T f u∧u.Wb.length≤200∧u.Code.length≤4000:=by
 obtain ⟨c,rfl⟩:=h.R.only n f b;obtain ⟨j,a⟩:=List.getElem?_of_mem (List.mem_filter.2 ⟨c,by simpa [Bg] using k1⟩:f ∈ l.filter Bg);obtain ⟨u,Ye,yd⟩:=h.us.2 j f a;exact ⟨j,u,a,h.sv a,Ye,yd⟩
theorem rK {j:Nat}{u:uc}(h:m.Jc[j]?=some u):jh m (j:Int)=u:=by unfold jh;rw [sf,h];rfl
theorem nC {j:Nat}{u:uc}{k:Int}(h:m.Jc[j]?=some u) (a:u.Kind=k):jj m (j:Int) k=true:=by unfold jj;rw [sf,h];exact decide_eq_true a
theorem Made.ok (h:Made p l T m):Rn p T m:=by
 refine ⟨fun n f a k=>?_,fun n f a k=>?_⟩
 ·obtain ⟨j,u,-,e,c,Y,-⟩:=h.unit a (by omega);have Gd:f.Kind≠4:=by omega
  refine ⟨(j:Int),e,nC c Y.bg,?_,?_,?_,fun g=>?_⟩<;>rw [rK c]
  ·rw [Y.hg,if_neg Gd]
  ·exact Y.DK Gd
  ·exact Y.rs Gd
  ·exact Y.Fg g
 ·obtain ⟨d,rfl⟩:=h.R.only n f a;obtain ⟨j,b⟩:=List.getElem?_of_mem (List.mem_filter.2 ⟨d,by simpa [Fh] using k⟩:f ∈ l.filter Fh);have qa:=(List.getElem?_eq_some_iff.1 b).1;refine ⟨(j:Int),h.KD b,by omega,by rw [h.Sg,List.length_map];omega,?_⟩;have:fl m (j:Int)=⟨f.tb.Kind,f.Ue⟩:=by unfold fl;rw [sf,h.Sg,List.getElem?_map,b];rfl
  rw [this,Eo ((h.R.ya f d).ty (by omega))]
theorem Made.all (h:Made p l T m):∀ u ∈ m.Jc,∃ d ∈ l,d.Kind≠1∧Sn p T d u∧u.Wb.length≤200∧u.Code.length≤4000:=by
 intro u hu;obtain ⟨j,a⟩:=List.getElem?_of_mem hu;have b:=(List.getElem?_eq_some_iff.1 a).1;have qa:=h.us.1;have ya:(l.filter Bg)[j]?=some (l.filter Bg)[j]:=List.getElem?_eq_getElem (by omega);obtain ⟨v,v1,v2⟩:=h.us.2 j _ ya;rw [a] at v1;obtain rfl:=Option.some.inj v1;obtain ⟨m1,m2⟩:=List.mem_filter.1 (List.mem_of_getElem? ya);exact ⟨_,m1,by simpa [Bg] using m2,v2⟩
theorem aB (h:Made p l T m){t:Ya}(g:Rl p t):(lg (sc T t)∨hj m (sc T t)=true)∧Tf (sc T t):=by
 obtain ⟨⟨g1,g2⟩,g3⟩:=g;by_cases c:t.Kind=3
 ·obtain ⟨f,f1,f2⟩:=g3 c;obtain ⟨j,u,-,b,a,Y,-⟩:=h.unit f1 (by omega);have d:=(List.getElem?_eq_some_iff.1 a).1;have qa:=h.us.1;have i:=List.length_filter_le Bg l;have k:=h.R.ok.le;have e:sc T t=10+(j:Int):=by unfold sc;rw [if_pos c,b];rfl
  refine ⟨.inr ?_,by rw [e];unfold Tf;omega⟩;unfold hj;rw [e,show (10+(j:Int) - 10:Int)=(j:Int) by omega,nC a (Y.bg.trans f2)];simp;omega
 ·rw [Eo c];exact ⟨.inl (by unfold lg;omega),by unfold Tf;omega⟩
theorem Made.z (h:Made p l T m):Tl m:=by
 have i:=h.R.ok.le;have qa:=h.us.1;have j:=List.length_filter_le Bg l;have k:=List.length_filter_le Fh l;refine ⟨⟨by rw [h.Sg,List.length_map];omega,fun b f=>?_⟩,by omega,fun u hu=>?_⟩
 ·rw [h.Sg] at f;obtain ⟨d,ya,rfl⟩:=List.mem_map.1 f;obtain ⟨d1,d2⟩:=List.mem_filter.1 ya;have k1:d.Kind=1:=by simpa [Fh] using d2
  obtain ⟨a,b⟩:=(h.R.ok.ok d d1).ty (by omega);obtain ⟨c,e⟩:=(h.F d d1).zt k1;constructor<;>(simp only [];unfold Tf;omega)
 ·obtain ⟨d,d1,k1,Y,n,o⟩:=h.all u hu;have ok:=h.R.ok.ok d d1;have:=ok.k1;have:=ok.Gd;refine ⟨by rw [Y.bg];unfold Tf;omega,?_,Y.FK,Y.rt,⟨by omega,fun z g=>?_⟩,by omega,trivial⟩
  ·rw [Y.hg];by_cases c4:d.Kind=4
   ·rw [if_pos c4];unfold Tf;omega
   ·rw [if_neg c4];have:=(ok.hg (by omega)).1;unfold Tf;omega
  ·obtain ⟨t,t1,t2⟩:=Y.lt z g;rw [t2];exact (aB h t1).2
theorem Made.form (h:Made p l T m):xj m:=by
 have r:=h.R.ok.le;have qa:=h.us.1;have s:=List.length_filter_le Bg l;have v:=List.length_filter_le Fh l;refine ⟨⟨by rw [h.Sg,List.length_map];omega,by omega⟩,fun b g=>?_,fun u hu=>?_,?_⟩
 ·rw [h.Sg] at g;obtain ⟨d,ya,rfl⟩:=List.mem_map.1 g;obtain ⟨d1,d2⟩:=List.mem_filter.1 ya;have k1:d.Kind=1:=by simpa [Fh] using d2
  obtain ⟨a,b⟩:=(h.R.ok.ok d d1).ty (by omega);have f:=(h.R.ya d d1).ty (by omega);obtain ⟨c,e⟩:=(h.F d d1).zt k1;exact ⟨by unfold lg;simp only [];omega,c,e⟩
 ·obtain ⟨d,d1,k1,Y,k,n⟩:=h.all u hu;have ok:=h.R.ok.ok d d1;have i:=h.R.ya d d1;have:=ok.k1;have:=ok.Gd;have Wa:=Y.Wa;refine ⟨⟨by rw [Y.bg];omega,⟨k,?_,?_,?_,fun Gd=>?_⟩,⟨Wa,n⟩,fun Gd=>?_,fun f=>?_,fun z o=>?_⟩,(Y.ty m h.ok).2⟩
  ·rw [Y.hg];split<;>omega
  ·rw [Y.hg];split
   ·omega
   ·rename_i c4;have:=(ok.hg (by omega)).1;omega
  ·rw [Y.hg];split
   ·omega
   ·rename_i c4;have:=Y.EK c4;omega
  ·rw [Y.bg] at Gd;rw [Y.hg,if_pos Gd];omega
  ·rw [Y.bg] at Gd;obtain ⟨a,b⟩:=ok.ty Gd;have:=i.ty Gd;rw [Y.rs Gd,Eo this];unfold lg;omega
  ·rw [Y.bg] at f;obtain ⟨a,b⟩:=ok.Fg f;have:=i.Fg f;rw [Y.Fg f,Eo this];unfold lg;omega
  ·obtain ⟨t,t1,t2⟩:=Y.lt z o;rw [t2];exact (aB h t1).1
 ·obtain ⟨d,d1,Gd⟩:=h.R.Fg;obtain ⟨j,u,-,-,q,Y,-⟩:=h.unit (h.R.yh d d1) (by omega);exact ⟨u,List.mem_of_getElem? q,Y.bg.trans Gd⟩
theorem Made.typed (h:Made p l T m):jz m:=by
 intro u hu;obtain ⟨d,d1,k1,Y,-⟩:=h.all u hu;exact (Y.ty m h.ok).1
end
end Go.Y
namespace Go.Y
open Go.oc Go.sd
def tz (u:Ze) (H:List Nm) (d:va):Prop:=(∀ z ∈ gn d,z ∈ u.wj)∧(∀ z ∈ hn d,z ∈ u.Wi)∧∀ c ∈ cl d,c ∈ H
theorem By (N:List (Nm×va)):∀ (cs a:List Nm) (todo:List (Option va)),(∀ c ∈ a,c ∈ (mj N cs a todo).1)∧(∀ c ∈ cs,c ∈ (mj N cs a todo).1)∧(∀ o ∈ todo,o ∈ (mj N cs a todo).2)∧∀ c ∈ (mj N cs a todo).1,c ∈ a∨Aa N c ∈ (mj N cs a todo).2
 | [],a,todo=>⟨fun c h=>h,fun c h=>(by cases h),fun o h=>h,fun c h=>.inl h⟩
 | c::cs,a,todo=>by
  rw [mj];by_cases k:a.contains c=true
  ·rw [if_pos k];obtain ⟨d,f,e,g⟩:=By N cs a todo;refine ⟨d,fun x b=>?_,e,g⟩;rcases List.mem_cons.1 b with rfl | b
   ·exact d _ (by simpa using k)
   ·exact f x b
  ·rw [if_neg k];obtain ⟨d,f,e,g⟩:=By N cs (a++[c]) (todo++[Aa N c]);refine ⟨fun x b=>d x (List.mem_append_left _ b),fun x b=>?_,fun o i=>e o (List.mem_append_left _ i),fun x b=>?_⟩
   ·rcases List.mem_cons.1 b with rfl | b
    ·exact d _ (by simp)
    ·exact f x b
   ·rcases g x b with h | h
    ·rcases List.mem_append.1 h with h | h
     ·exact .inl h
     ·rw [List.mem_singleton.1 h];exact .inr (e _ (by simp))
    ·exact .inr h
theorem NH (N:List (Nm×va)):∀ (n:Nat) (a:List Nm) (todo:List (Option va)) (s r:List Nm) (u:Ze),Xl N n a todo s r=some u→∃ H,(∀ c ∈ a,c ∈ H)∧(∀ z ∈ s,z ∈ u.wj)∧(∀ z ∈ r,z ∈ u.Wi)∧(∀ d,some d ∈ todo→tz u H d)∧∀ c ∈ H,c ∉ a→∀ d,Aa N c=some d→tz u H d:=by
 intro n
 induction n with
 | zero=>intro a todo s r u h; cases h
 | succ n p =>
  intro a todo s r u h;cases todo with
  | nil =>
   rw [Xl] at h;obtain rfl:=Option.some.inj h;exact ⟨a,fun c h=>h,fun z h=>h,fun z h=>h,fun d h=>(by cases h),fun c h v=>absurd h v⟩
  | cons o t =>
   cases o with
   | none=>rw [Xl] at h; cases h
   | some d =>
    rw [Xl] at h;obtain ⟨ta,a2,a3,a4⟩:=By N (cl d) a t;obtain ⟨H,j,k,l,m,w⟩:=p _ _ _ _ u h;refine ⟨H,fun c g=>j c (ta c g),fun z b=>k z (List.mem_append_left _ b),fun z b=>l z (List.mem_append_left _ b),fun i f=>?_,fun c g x i f=>?_⟩
    ·rcases List.mem_cons.1 f with e | f
     ·obtain rfl:=Option.some.inj e;exact ⟨fun z b=>k z (List.mem_append_right _ b),fun z b=>l z (List.mem_append_right _ b),fun c g=>j c (a2 c g)⟩
     ·exact m i (a3 _ f)
    ·by_cases q:c ∈ (mj N (cl d) a t).1
     ·rcases a4 c q with q | q
      ·exact absurd q x
      ·rw [f] at q;exact m i q
     ·exact w c g q i f
inductive ot (N:List (Nm×va)) (a:va):va→Prop
 | refl:ot N a a
 | step {b e:va} {c:Nm}:ot N a b→c ∈ cl b→Aa N c=some e→ot N a e
theorem UG {N:List (Nm×va)}{n:Nat}{a:va}{u:Ze}(h:Xl N n [] [some a] [] []=some u):∀ {d:va},ot N a d→(∀ z ∈ gn d,z ∈ u.wj)∧∀ z ∈ hn d,z ∈ u.Wi:=by
 obtain ⟨H,-,-,-,b,c⟩:=NH N n [] [some a] [] [] u h;have key:∀ {d:va},ot N a d→tz u H d:=by
  intro d ya
  induction ya with
  | refl=>exact b a (by simp)
  | step i e f g=>exact c _ (g.2.2 _ e) (by simp) _ f
 exact fun {d} ya=>⟨(key ya).1,(key ya).2.1⟩
theorem Ry (N:List (Nm×va)) (fu:Nat) (n:Nm):∀ (ds:List va) (L:List (Nm×Ze)),(∀ d ∈ ds,d.Name≠n)→Aa (Cl N fu ds L) n=Aa L n
 | [],L,h=>rfl
 | d::ds,L,h=>by
  rw [Cl];have a:∀ e ∈ ds,e.Name≠n:=fun e he=>h e (List.mem_cons_of_mem _ he);split
  ·rw [Ry N fu n ds _ a,Si,if_neg (h d (List.mem_cons_self ..))]
  ·exact Ry N fu n ds L a
theorem Cy (N:List (Nm×va)) (fu:Nat){t:va}(Gd:t.Kind=4):∀ (ds:List va) (L:List (Nm×Ze)),(ds.Pairwise fun a b=>a.Name≠b.Name)→t ∈ ds→Aa (Cl N fu ds L) t.Name=some ((Xl N fu [] [some t] [] []).getD al)
 | d::ds,L,ya,c=>by
  obtain ⟨g,f⟩:=List.pairwise_cons.1 ya;rw [Cl];rcases List.mem_cons.1 c with rfl | c
  ·rw [if_pos Gd,Ry N fu t.Name ds _ (fun e he=>(g e he).symm),Si,if_pos rfl]
  ·split
   ·exact Cy N fu Gd ds _ f c
   ·exact Cy N fu Gd ds _ f c
def jv (L:List (Nm×Ze)) (b:Nm) (t:va):Prop:=t.Kind=4∧((Aa L t.Name).getD al).wj.contains b=true
def kv (L:List (Nm×Ze)) (b:Nm) (t:va):Prop:=t.Kind=4∧((Aa L t.Name).getD al).Wi.contains b=true
theorem Dy (L:List (Nm×Ze)) (b:Nm):∀ (d:List va) (w r:Nm) (x:Nm×Nm),(∀ t ∈ d,t.Name≠[])→Rm L b d w r=some x→((w≠[]→∀ t ∈ d,¬ jv L b t)∧d.Pairwise fun a c=>¬ (jv L b a∧jv L b c))∧((r≠[]→∀ t ∈ d,¬ kv L b t)∧d.Pairwise fun a c=>¬ (kv L b a∧kv L b c))
 | [],w,r,x,g,h=>⟨⟨fun _ t f=>(by cases f),List.Pairwise.nil⟩,fun _ t f=>(by cases f),List.Pairwise.nil⟩
 | t::d,w,r,x,g,h=>by
  have i:∀ e ∈ d,e.Name≠[]:=fun e he=>g e (List.mem_cons_of_mem _ he);have f:=g t (List.mem_cons_self ..);rw [Rm] at h;by_cases Gd:t.Kind≠4
  ·rw [if_pos Gd] at h;obtain ⟨⟨ta,a2⟩,V,Ed⟩:=Dy L b d w r x i h;have j:¬ jv L b t:=fun q=>Gd q.1;have k:¬ kv L b t:=fun q=>Gd q.1;refine ⟨⟨fun hw e he=>?_,List.pairwise_cons.2 ⟨fun e _ q=>j q.1,a2⟩⟩,fun hw e he=>?_,List.pairwise_cons.2 ⟨fun e _ q=>k q.1,Ed⟩⟩
   ·rcases List.mem_cons.1 he with rfl | he
    ·exact j
    ·exact ta hw e he
   ·rcases List.mem_cons.1 he with rfl | he
    ·exact k
    ·exact V hw e he
  ·rw [if_neg Gd] at h;have Gd:t.Kind=4:=Decidable.not_not.1 Gd;by_cases Wa:((Aa L t.Name).getD al).wj.contains b=true∧w≠[]
   ·rw [if_pos Wa] at h;cases h
   rw [if_neg Wa] at h;by_cases c2:((Aa L t.Name).getD al).Wi.contains b=true∧r≠[]
   ·rw [if_pos c2] at h;cases h
   rw [if_neg c2] at h;obtain ⟨⟨ta,a2⟩,V,Ed⟩:=Dy L b d _ _ x i h;refine ⟨⟨fun hw e he=>?_,List.pairwise_cons.2 ⟨fun e he q=>?_,a2⟩⟩,fun hw e he=>?_,List.pairwise_cons.2 ⟨fun e he q=>?_,Ed⟩⟩
   ·rcases List.mem_cons.1 he with rfl | he
    ·exact fun q=>Wa ⟨q.2,hw⟩
    ·exact ta (by split<;>assumption) e he
   ·rw [if_pos q.1.2] at ta;exact ta f e he q.2
   ·rcases List.mem_cons.1 he with rfl | he
    ·exact fun q=>c2 ⟨q.2,hw⟩
    ·exact V (by split<;>assumption) e he
   ·rw [if_pos q.1.2] at V;exact V f e he q.2
theorem Ey (L:List (Nm×Ze)) (l:List va):∀ (xs:List va) (i:Int) (acc:List dh),(Sm L l xs i acc).2.ve=0→∀ x ∈ xs,x.Kind=1→∃ y,Rm L x.Name l [] []=some y
 | [],i,acc,h,x,a,_=>by cases a
 | z::xs,i,acc,h,x,a,k1=>by
  rw [Sm] at h;by_cases c:z.Kind≠1
  ·rw [if_pos c] at h;rcases List.mem_cons.1 a with rfl | a
   ·exact absurd k1 c
   ·exact Ey L l xs _ _ h x a k1
  ·rw [if_neg c] at h;cases e:Rm L z.Name l [] [] with
   | none=>rw [e] at h; exact absurd h (by show ¬ (8:Int)=0; decide)
   | some y =>
    rw [e] at h;rcases List.mem_cons.1 a with rfl | a
    ·exact ⟨y,e⟩
    ·exact Ey L l xs _ _ h x a k1
theorem FA {P:Nat→Bool}:∀ (l:List Nat),(l.Pairwise fun a b=>a<b)→(∀ a b,a ∈ l→b ∈ l→a<b→P a=true→P b=true→False)→(l.filter P).length≤1
 | [],_,_=>by simp
 | a::l,h,d=>by
  obtain ⟨f,g⟩:=List.pairwise_cons.1 h;have i:=FA l g fun x y j k=>d x y (List.mem_cons_of_mem _ j) (List.mem_cons_of_mem _ k);by_cases c:P a=true
  ·rw [List.filter_cons_of_pos c];have:l.filter P=[]:=List.filter_eq_nil_iff.2 fun b e m=>d a b (List.mem_cons_self ..) (List.mem_cons_of_mem _ e) (f b e) c m;rw [this];simp
  ·rw [List.filter_cons_of_neg c];exact i
section
variable {p:Eb}{l:List va}{T:Fe}{m:Pc}
theorem Made.down (h:Made p l T m){k:Int}{a:va}(c:0≤k∧(l.filter Bg)[k.toNat]?=some a):∀ {x:Int},hr m k x→∃ d,0≤x∧(l.filter Bg)[x.toNat]?=some d∧ot p.named a d:=by
 intro x o
 induction o with
 | refl=>exact ⟨a,c.1,c.2,.refl⟩
 | step F b q r =>
  obtain ⟨d,d0,d1,d2⟩:=r;obtain ⟨i,s,t,w⟩:=q;obtain ⟨v,v1,Y,-⟩:=h.us.2 _ d d1;rename_i G H z;have A:v=z:=by
   unfold at_ at b;rw [if_pos d0,v1] at b;exact Option.some.inj b
  subst A;obtain ⟨n,e,B⟩:=(Y.sp i s).1 t;obtain ⟨m1,m2⟩:=List.mem_filter.1 (List.mem_of_getElem? d1);have k1:d.Kind≠1:=by simpa [Bg] using m2
  obtain ⟨y,C,D⟩:=im e;obtain ⟨f,f1,f2⟩:=vw 39 y (h.R.cs d m1 k1 y C) n D;obtain ⟨j,u,E,g,-⟩:=h.unit f1 (by omega);rw [B,w] at g;obtain rfl:=Option.some.inj g;exact ⟨f,by omega,by rw [Int.toNat_natCast];exact E,d2.step e f1⟩
theorem Made.own (h:Made p l T m){fu:Nat}(lc:500≤fu) (rc:1000≤fu) (fd:(Sm (Cl p.named fu l []) l l 0 []).2.ve=0):nt fu m:=by
 have id:=h.form;have key:∀ (op:Int) (b:Nat),b<m.af.length→(op=26∨op=27)→vi fu m op (b:Int) 0≤1:=by
  intro op b o e;rw [h.Sg,List.length_map] at o;have B:(l.filter Fh)[b]?=some (l.filter Fh)[b]:=List.getElem?_eq_getElem o;generalize (l.filter Fh)[b]=x at B;obtain ⟨x1,md⟩:=List.mem_filter.1 (List.mem_of_getElem? B);have k1:x.Kind=1:=by simpa [Fh] using md
  obtain ⟨y,rd⟩:=Ey _ l l 0 [] fd x x1 k1;obtain ⟨⟨-,ub⟩,-,Ib⟩:=Dy _ x.Name l [] [] y (fun t td=>(h.F t td).yh.bo) rd;have comes:∀ (k:Nat),Pq fu m op (b:Int) k=true→∃ a,(l.filter Bg)[k]?=some a∧(if op=26 then jv (Cl p.named fu l []) x.Name a else kv (Cl p.named fu l []) x.Name a):=by
   intro k g;unfold Pq at g;cases hu:m.Jc[k]? with
   | none=>rw [hu] at g; cases g
   | some u =>
    rw [hu] at g;simp only [Bool.and_eq_true,decide_eq_true_eq] at g;obtain ⟨Gd,L⟩:=g;have of:=(List.getElem?_eq_some_iff.1 hu).1;obtain ⟨a,C⟩:∃ a,(l.filter Bg)[k]?=some a:=⟨_,List.getElem?_eq_getElem (by have:=h.us.1;omega)⟩;obtain ⟨v,v1,Y,-⟩:=h.us.2 k a C;rw [hu] at v1;obtain rfl:=Option.some.inj v1;obtain ⟨ta,a2⟩:=List.mem_filter.1 (List.mem_of_getElem? C);have wd:a.Kind≠1:=by simpa [Bg] using a2
    have D:a.Kind=4:=Y.bg.symm.trans Gd;obtain ⟨r,Fd,wf,Id⟩:=LB (m:=m) (k0:=(k:Int)) (fu:=fu) id (by omega) rc;rw [Fd,Option.getD_some,List.any_eq_true] at L;obtain ⟨z,be,z2⟩:=L;obtain ⟨d,d0,d1,d2⟩:=h.down (k:=(k:Int)) (a:=a) ⟨by omega,by rw [Int.toNat_natCast];exact C⟩ ((Id z).1 be);obtain ⟨-,us,M,-⟩:=dC h.R fu lc a ta wd;obtain ⟨g1,g2⟩:=UG M d2;have E:=Cy p.named fu D l [] h.R.MD ta;rw [M,Option.getD_some] at E;obtain ⟨w,ce,W,-⟩:=h.us.2 _ d d1;unfold Tu at z2;have ge:at_ m.Jc z=some w:=by unfold at_;rw [if_pos d0];exact ce
    rw [ge] at z2;simp only [List.any_eq_true,Bool.and_eq_true,decide_eq_true_eq] at z2;obtain ⟨i,i1,i2,i3⟩:=z2;obtain ⟨N,he⟩:=List.mem_filter.1 (List.mem_of_getElem? d1);have P:d.Kind≠1:=by simpa [Bg] using he
    have name:∀ n f,Aa p.named n=some f→f.Kind=1→Aa T.boxes n=some (b:Int)→n=x.Name:=fun n f le g Q=>by
     obtain ⟨f1,rfl⟩:=h.R.only n f le;obtain ⟨j,G⟩:=List.getElem?_of_mem (List.mem_filter.2 ⟨f1,by simpa [Fh] using g⟩:f ∈ l.filter Fh);rw [h.KD G] at Q;have:j=b:=by have:=Option.some.inj Q;omega
     subst this;rw [G] at B;rw [Option.some.inj B]
    refine ⟨a,C,?_⟩;rcases e with e | e
    ·rw [if_pos e];obtain ⟨n,q,s⟩:=(W.sp i i1).2.1 (i2.trans e);rw [i3] at s;obtain ⟨A,H,K⟩:=im q;obtain ⟨f,f1,f2⟩:=xy 39 A (h.R.cs d N P A H) n K;have:=name n f f1 f2 s;refine ⟨D,?_⟩;rw [E,Option.getD_some,← this];simpa using g1 n q
    ·rw [if_neg (by omega)];obtain ⟨n,q,s⟩:=(W.sp i i1).2.2 (i2.trans e);rw [i3] at s;obtain ⟨A,H,K⟩:=im q;obtain ⟨f,f1,f2⟩:=wy 39 A (h.R.cs d N P A H) n K;have:=name n f f1 f2 s;refine ⟨D,?_⟩;rw [E,Option.getD_some,← this];simpa using g2 n q
  unfold vi;rw [List.drop_zero];refine FA _ List.pairwise_lt_range fun i j If G S ne Ne=>?_;obtain ⟨a,ta,a2⟩:=comes i ne;obtain ⟨c,Wa,c2⟩:=comes j Ne;obtain ⟨U,X⟩:=List.getElem?_eq_some_iff.1 ta;obtain ⟨Z,gc⟩:=List.getElem?_eq_some_iff.1 Wa;rcases e with e | e
  ·rw [if_pos e] at a2 c2;have:=List.pairwise_iff_getElem.1 (ub.filter Bg) i j U Z S;rw [X,gc] at this;exact this ⟨a2,c2⟩
  ·rw [if_neg (by omega)] at a2 c2;have:=List.pairwise_iff_getElem.1 (Ib.filter Bg) i j U Z S;rw [X,gc] at this;exact this ⟨a2,c2⟩
 exact fun b o=>⟨key 26 b o (.inl rfl),key 27 b o (.inr rfl)⟩
end
theorem gG {fu:Nat}(c:500≤fu) (l:List va):∃ r f,uq fu l=some (r,f)∧(f.ve≠0→r.Jc=[])∧(f.ve=0→∃ p T,Made p l T r∧(Sm (Cl p.named fu l []) l l 0 []).2.ve=0):=by
 obtain ⟨p,f,g,i⟩:=XD fu c l;rcases i with ⟨z,h⟩ | ⟨z,R,h⟩
 ·rw [uq,Tt,h,pa,pa,if_pos z,Ct];exact ⟨_,f,rfl,fun _=>rfl,fun a=>absurd a z⟩
 ·obtain ⟨e,m⟩:=TG c g z;rw [uq,Tt,h,pa,pa];by_cases q:(Sm (Cl p.named fu l []) l l 0 []).2.ve≠0
  ·rw [if_pos q,Ct];exact ⟨_,_,rfl,fun _=>rfl,fun a=>absurd a q⟩
  ·rw [if_neg q];obtain ⟨r,f,na,o,s⟩:=oE R e m c (l.length+1) 0 [] [] [] [] (by omega) (by omega) ⟨by simp,by simp,List.Pairwise.nil,(fun n u h=>by cases h),by simp,by simp,by simp⟩ ⟨rfl,rfl,fun j d ya=>by simp at ya,fun j d ya=>by simp at ya,fun n k t=>by cases t⟩;refine ⟨r,f,na,o,fun a=>?_⟩;obtain ⟨T,H,X,b,us⟩:=s a;exact ⟨p,T,⟨R,e,H,X,b,us⟩,Decidable.not_not.1 q⟩
theorem CF:uw 1000000=some true:=by kernel_rfl
theorem RE (l:List va):vu 1000000 l=some true:=by
 obtain ⟨r,f,na,a,b⟩:=gG (fu:=1000000) (by decide) l;rw [vu,CF,pa,if_pos rfl,na,pa];by_cases z:f.ve=0
 ·obtain ⟨p,T,M,o⟩:=b z;obtain ⟨w,c,-,d⟩:=QG (fu:=1000000) M.z (by decide);have:=d M.form M.typed (M.own (by decide) (by decide) o);rw [if_neg (by simpa using z),c,pa,this];rfl
 ·rw [if_pos z];simp [a z]
end Go.Y
