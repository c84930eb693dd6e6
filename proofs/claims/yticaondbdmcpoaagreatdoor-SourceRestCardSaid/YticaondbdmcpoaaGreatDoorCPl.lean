/- Texts of SourceRest Pl. -/
import Derived.Test.YticaondbdmcpoaaGreatDoorCMd
set_option linter.unusedSimpArgs false
set_option linter.unusedVariables false
set_option linter.unusedSectionVars false
namespace Go.Y
open Go.hc Go.Mc
theorem xf {n:Int}(h:-9223372036854775808≤n∧n≤9223372036854775807):i64 n=some n:=if_pos h
theorem Ea {α β:Type}{x:α}{f:α→Option β}:Option.bind (some x) f=f x:=rfl
theorem sg {α:Type}{l:List α}{i:Nat}:at_ l (i:Int)=l[i]?:=by simp [at_]
theorem zz {α:Type}{l:List α}(h:0<l.length):at_ l 0=some l[0]:=by simp [at_,h]
theorem pA (c:UInt8):∃ b,pq c=some b:=by
 unfold pq;split
 ·split<;>exact ⟨_,rfl⟩
 ·exact ⟨_,rfl⟩
theorem cF (c:UInt8):∃ b,tq c=some b:=by
 unfold tq;split<;>exact ⟨_,rfl⟩
theorem YH (c:UInt8):∃ b,Lq c=some b:=by
 obtain ⟨a,d⟩:=pA c;obtain ⟨b,e⟩:=cF c;unfold Lq;rw [d,Ea,e,Ea];split<;>exact ⟨_,rfl⟩
theorem HA (l:List UInt8) (p:UInt8→Option Bool) (a:∀ c,∃ b,p c=some b) (oa:l.length≤65536):∀ (n i:Nat),i≤l.length→l.length<n+i→∃ r,Ul l p n (i:Int)=some r
 | 0,i,d,e=>by omega
 | n+1,i,d,e=>by
  rw [Ul];by_cases c:i<l.length
  ·obtain ⟨b,f⟩:=a l[i];rw [if_pos (by omega),sg,List.getElem?_eq_getElem c,Ea,f,Ea];cases b with
   | true=>rw [fq,if_pos rfl,xf (by omega),Ea]; exact HA l p a oa n (i+1) c (by omega)
   | false=>exact ⟨_,rfl⟩
  ·rw [if_neg (by omega)];exact ⟨_,rfl⟩
theorem bt (fu:Nat) (i:20≤fu) (s:List UInt8):∃ b,Hh fu s=some b:=by
 have a:∀ b,(b=true∨s.length≤12)→∃ r,an fu s b=some r:=by
  intro b c;cases b with
  | true=>exact ⟨_,rfl⟩
  | false =>
   have j:s.length≤12:=by simpa using c
   obtain ⟨r,f⟩:=HA s Lq YH (by omega) fu 0 (by omega) (by omega);have g:Cr fu s Lq=some r:=f;exact ⟨_,by rw [an,if_neg (by decide),g,Ea]⟩
 rw [Hh];by_cases d:(s.length:Int)<1
 ·rw [if_pos d];exact a _ (.inl rfl)
 ·rw [if_neg d];by_cases e:(12:Int)<s.length
  ·rw [if_pos e];exact a _ (.inl rfl)
  ·have h:0<s.length:=by omega
   obtain ⟨b,c⟩:=pA s[0];rw [if_neg e,zz h,Ea,c,Ea];cases b with
   | false=>rw [if_neg (by decide)]; exact a _ (.inl rfl)
   | true =>
    rw [if_pos rfl,cat,if_pos (by simp;omega),Ea,cat,if_pos (by simp;omega),Ea,Ow,if_pos (by decide +kernel),Ea];exact a _ (.inr (by omega))
def Bi (k:Int):Int:=if k≤3∨k=20 then 0 else if k≤5∨k=21∨k=24 then 1 else if k≤18∨k=23 then 2 else -1
theorem IA (k:Int):uu k=some (Bi k):=by
 unfold uu Bi;by_cases a:k≤3
 ·rw [if_pos a,if_pos (.inl a)];rfl
 ·rw [if_neg a];by_cases b:k=20
  ·rw [decide_eq_true b,if_pos (.inr b)];rfl
  ·rw [decide_eq_false b,mu,if_neg (by decide),if_neg (show ¬ (k≤3∨k=20) by omega)];by_cases c:k≤5
   ·rw [if_pos c,if_pos (.inl c)];rfl
   ·rw [if_neg c];by_cases d:k=21
    ·rw [if_pos d,if_pos (.inr (.inl d))];rfl
    ·rw [if_neg d];by_cases e:k=24
     ·rw [decide_eq_true e,if_pos (.inr (.inr e))];rfl
     ·rw [decide_eq_false e,Xs,if_neg (by decide),if_neg (show ¬ (k≤5∨k=21∨k=24) by omega)];by_cases f:k≤18
      ·rw [if_pos f,if_pos (.inl f)];rfl
      ·rw [if_neg f];by_cases g:k=23
       ·rw [decide_eq_true g,if_pos (.inr g)];rfl
       ·rw [decide_eq_false g,if_neg (show ¬ (k≤18∨k=23) by omega)];rfl
theorem Kx (node d:Int) (a:0≤node) (b:node≤4294967296):∃ e,Dr node d=some (e,node+1)∧(e=0→node+1≤2000∧d≤40):=by
 unfold Dr;rw [xf (by omega),Ea];by_cases c:2000<node+1
 ·rw [if_pos c];exact ⟨4,rfl,fun h=>absurd h (by decide)⟩
 ·rw [if_neg c];by_cases e:40<d
  ·rw [decide_eq_true e];exact ⟨4,rfl,fun h=>absurd h (by decide)⟩
  ·rw [decide_eq_false e];exact ⟨0,rfl,fun _=>⟨by omega,by omega⟩⟩
structure My (x:Va):Prop where
 eq:0≤Bi x.Kind→(x.Kids.length:Int)=Bi x.Kind
 le:x.Kids.length≤6
def Wh:Nat→Va→Prop
 | 0,_=>False
 | k+1,x=>1≤x.Kind∧x.Kind≤24∧My x∧∀ y ∈ x.Kids,Wh k y
def sj:Nat→Va→Nat
 | 0,_=>0
 | k+1,x=>1+(x.Kids.map (sj k)).sum
theorem ZH (k:Int):Bi k≤2:=by
 unfold Bi;split
 ·decide
 ·split
  ·decide
  ·split<;>decide
theorem dF:∀ (n:Nat) (x:Va) (d node:Int),62≤n+d→0≤d→d≤41→0≤node→node≤2000 →
  ∃ e k,(Ti n).Ui node x d=some (e,k)∧node≤k∧(e=0→k≤2000∧Wh (41 - d).toNat x∧k=node+(sj (41 - d).toNat x:Nat)):=by
 intro n
 induction n with
 | zero=>intro x d node C t u; omega
 | succ n D =>
  intro x d node C t u E V;show ∃ e k,Ui n (Ti n) node x d=some (e,k)∧_;obtain ⟨b,F⟩:=bt n (by omega) x.Name;obtain ⟨e,H,he⟩:=Kx node d E (by omega);rw [Ui,H,Ea];by_cases c:e=0
  ·subst c;obtain ⟨W,La⟩:=he rfl;rw [if_neg (by simp)];have K:(41 - d).toNat=(40 - d).toNat+1:=by omega
   rw [K];generalize a:(fun o:Option (Int×Int)=>∃ e k,o=some (e,k)∧node≤k∧(e=0→k≤2000∧Wh ((40 - d).toNat+1) x∧k=node+(sj ((40 - d).toNat+1) x:Nat)))=P;have bad:∀ e:Int,e≠0→P (some (e,node+1)):=fun e h=>by rw [← a];exact ⟨e,_,rfl,by omega,fun M=>absurd M h⟩
   have L:x.Kids.length≤6→∀ (m i:Nat) (c:Int),i≤x.Kids.length→x.Kids.length<m+i→0≤c→c≤2000 →
     ∃ e k,tk (Ti n) x d m i c=some (e,k)∧c≤k∧(e=0→k≤2000∧(∀ y ∈ x.Kids.drop i,Wh (40 - d).toNat y)∧k=c+(((x.Kids.drop i).map (sj (40 - d).toNat)).sum:Nat)):=by
    intro oa m
    induction m with
    | zero=>intro i c t u; omega
    | succ m N =>
     intro i c g1 g2 g3 g4;rw [tk];by_cases q:i<x.Kids.length
     ·obtain ⟨e,k,ia,O,Q⟩:=D x.Kids[i] (d+1) c (by omega) (by omega) (by omega) g3 g4;rw [if_pos (by omega),sg,List.getElem?_eq_getElem q,Ea,xf (by omega),Ea,ia,Ea];by_cases z:e=0
      ·subst z;obtain ⟨f1,f2,f3⟩:=Q rfl;rw [if_neg (by simp),xf (by omega),Ea];obtain ⟨R,k',g,S,j⟩:=N (i+1) k q (by omega) (by omega) f1;refine ⟨R,k',g,by omega,fun l=>?_⟩;obtain ⟨s1,s2,v⟩:=j l;have T:(41 - (d+1)).toNat=(40 - d).toNat:=by omega
       rw [T] at f2 f3;refine ⟨s1,fun y f=>?_,?_⟩
       ·rw [List.drop_eq_getElem_cons q] at f;rcases List.mem_cons.1 f with rfl | f
        ·exact f2
        ·exact s2 y f
       ·rw [List.drop_eq_getElem_cons q,List.map_cons,List.sum_cons];omega
      ·rw [if_pos z];exact ⟨e,k,rfl,O,fun h=>absurd h z⟩
     ·rw [if_neg (by omega),List.drop_eq_nil_of_le (by omega)];exact ⟨0,c,rfl,by omega,fun _=>⟨g4,by simp,by simp⟩⟩
   by_cases Ud:1≤x.Kind∧x.Kind≤24
   ·have p:∀ b,(b=false→My x)→P (To (Ti n) x d (0,node+1) b):=by
     intro b h;cases b with
     | true=>exact bad 5 (by decide)
     | false =>
      have w:=h rfl;rw [To,if_neg (by decide),← a];obtain ⟨e,k,g,S,j⟩:=L w.le (x.Kids.length+1) 0 (node+1) (by omega) (by omega) (by omega) (by omega);refine ⟨e,k,g,by omega,fun l=>?_⟩;obtain ⟨s1,s2,v⟩:=j l;rw [List.drop_zero] at s2 v;exact ⟨s1,⟨Ud.1,Ud.2,w,s2⟩,by rw [sj];omega⟩
    have X:=ZH x.Kind;have A:∀ b,(b=false→0≤Bi x.Kind→(x.Kids.length:Int)=Bi x.Kind)→P (Uo (Ti n) x d (0,node+1) (Bi x.Kind) b):=by
     intro b h;cases b with
     | true=>rw [Uo,if_pos rfl]; exact p _ (fun h=>absurd h (by decide))
     | false =>
      rw [Uo,if_neg (by decide)];by_cases q:Bi x.Kind<0
      ·rw [if_pos q];exact p _ fun La=>⟨h rfl,by have:=of_decide_eq_false La;omega⟩
      ·rw [if_neg q];exact p _ fun _=>⟨h rfl,by have:=h rfl (by omega);omega⟩
    have r:∀ b,P (dn (Ti n) x d (0,node+1) (Bi x.Kind) b):=by
     intro b;cases b with
     | true=>exact bad 7 (by decide)
     | false =>
      rw [dn,if_neg (by decide)];by_cases q:0≤Bi x.Kind
      ·rw [if_pos q];exact A _ fun La _=>by have:=of_decide_eq_false La;omega
      ·rw [if_neg q];exact A _ fun _ h=>absurd h q
    have s:∀ b,P (Mn n (Ti n) x d (0,node+1) (Bi x.Kind) b):=by
     intro ed;cases ed with
     | true=>exact bad 3 (by decide)
     | false =>
      rw [Mn,if_neg (by decide),F];simp only [Ea];split
      ·exact r _
      ·split
       ·exact r _
       ·split<;>exact r _
    have B:∀ b,P (Vo n (Ti n) x d (0,node+1) (Bi x.Kind) b):=by
     intro ed;unfold Vo;split
     ·exact s _
     ·split
      ·split<;>exact s _
      ·exact s _
    have U:∀ b,P (ym n (Ti n) x d (0,node+1) b):=by
     intro ed;cases ed with
     | true=>exact bad 1 (by decide)
     | false =>
      rw [ym,if_neg (by decide),IA,Ea];split
      ·split<;>exact B _
      ·exact B _
    have G:P (if x.Kind<1 then ym n (Ti n) x d (0,node+1) true else ym n (Ti n) x d (0,node+1) (decide ((24:Int)<x.Kind))):=by
     split<;>exact U _
    rw [← a] at G;exact G
   ·have G:P (if x.Kind<1 then ym n (Ti n) x d (0,node+1) true else ym n (Ti n) x d (0,node+1) (decide ((24:Int)<x.Kind))):=by
     split
     ·exact bad 1 (by decide)
     ·rw [decide_eq_true (show 24<x.Kind by omega)];exact bad 1 (by decide)
    rw [← a] at G;exact G
  ·rw [if_pos c];exact ⟨e,_,rfl,by omega,fun h=>absurd h c⟩
def xl:Nat→gb→Prop
 | 0,_=>False
 | k+1,s=>1≤s.Kind∧s.Kind≤9∧(s.Kind≠6→Wh k s.X)∧((s.Kind=3∨s.Kind=4)→s.Body.length≤50∧∀ y ∈ s.Body,xl k y)∧(s.Kind=3→s.Ff.length≤50∧∀ y ∈ s.Ff,xl k y)
def Hg:Nat→gb→Nat
 | 0,_=>0
 | k+1,s=>1+(if s.Kind=6 then 0 else sj k s.X)+(if s.Kind=3∨s.Kind=4 then (s.Body.map (Hg k)).sum else 0)+(if s.Kind=3 then (s.Ff.map (Hg k)).sum else 0)
theorem eF:∀ (n:Nat),(∀ (l:List gb) (d node:Int),2*(42 - d)+65≤n→0≤d→d≤41→0≤node→node≤2000 →
   ∃ e k,(Ji n).Xg node l d=some (e,k)∧node≤k∧(e=0→k≤2000∧(l.length≤50∧∀ y ∈ l,xl (41 - d).toNat y)∧k=node+((l.map (Hg (41 - d).toNat)).sum:Nat))) ∧
  (∀ (x:gb) (d node:Int),2*(42 - d)+64≤n→0≤d→d≤41→0≤node→node≤2000 →
   ∃ e k,(Ji n).ak node x d=some (e,k)∧node≤k∧(e=0→k≤2000∧xl (41 - d).toNat x∧k=node+(Hg (41 - d).toNat x:Nat))):=by
 intro n
 induction n with
 | zero=>exact ⟨fun l d node D s t=>by omega,fun l d node D s t=>by omega⟩
 | succ n O =>
  obtain ⟨Q,R⟩:=O;refine ⟨fun l d node D s t j F=>?_,fun x d node D s t j F=>?_⟩
  ·show ∃ e k,Xg (Ji n) node l d=some (e,k)∧_;rw [Xg];by_cases oa:(50:Int)<l.length
   ·rw [if_pos oa];exact ⟨5,node,rfl,by omega,fun h=>absurd h (by decide)⟩
   ·rw [if_neg oa];have L:∀ (m i:Nat) (c:Int),i≤l.length→l.length<m+i→0≤c→c≤2000 →
      ∃ e k,Tp (Ji n) l d m i c=some (e,k)∧c≤k∧(e=0→k≤2000∧(∀ y ∈ l.drop i,xl (41 - d).toNat y)∧k=c+(((l.drop i).map (Hg (41 - d).toNat)).sum:Nat)):=by
     intro m
     induction m with
     | zero=>intro i c s t; omega
     | succ m S =>
      intro i c g1 g2 g3 g4;rw [Tp];by_cases q:i<l.length
      ·obtain ⟨e,k,ia,T,U⟩:=R l[i] d c (by omega) s t g3 g4;rw [if_pos (by omega),sg,List.getElem?_eq_getElem q,Ea,ia,Ea];by_cases z:e=0
       ·subst z;obtain ⟨f1,f2,f3⟩:=U rfl;rw [if_neg (by simp),xf (by omega),Ea];obtain ⟨V,k',g,u,f⟩:=S (i+1) k q (by omega) (by omega) f1;refine ⟨V,k',g,by omega,fun v=>?_⟩;obtain ⟨s1,s2,p⟩:=f v;refine ⟨s1,fun y C=>?_,?_⟩
        ·rw [List.drop_eq_getElem_cons q] at C;rcases List.mem_cons.1 C with rfl | C
         ·exact f2
         ·exact s2 y C
        ·rw [List.drop_eq_getElem_cons q,List.map_cons,List.sum_cons];omega
       ·rw [if_pos z];exact ⟨e,k,rfl,T,fun h=>absurd h z⟩
      ·rw [if_neg (by omega),List.drop_eq_nil_of_le (by omega)];exact ⟨0,c,rfl,by omega,fun _=>⟨g4,by simp,by simp⟩⟩
    obtain ⟨e,k,g,u,f⟩:=L (l.length+1) 0 node (by omega) (by omega) j F;refine ⟨e,k,g,u,fun v=>?_⟩;obtain ⟨s1,s2,p⟩:=f v;rw [List.drop_zero] at s2 p;exact ⟨s1,⟨by omega,s2⟩,p⟩
  ·show ∃ e k,ak n (Ji n) node x d=some (e,k)∧_;obtain ⟨b,W⟩:=bt n (by omega) x.Name;obtain ⟨e,Y,he⟩:=Kx node d j (by omega);rw [ak,Y,Ea];by_cases c:e=0
   ·subst c;obtain ⟨rc,La⟩:=he rfl;rw [if_neg (by simp)];have Z:(41 - d).toNat=(40 - d).toNat+1:=by omega
    have H:(41 - (d+1)).toNat=(40 - d).toNat:=by omega
    rw [Z];generalize w:(fun o:Option (Int×Int)=>∃ e k,o=some (e,k)∧node≤k∧(e=0→k≤2000∧xl ((40 - d).toNat+1) x∧k=node+(Hg ((40 - d).toNat+1) x:Nat)))=P;have bad:∀ e c:Int,e≠0→node≤c→P (some (e,c)):=fun e c h K=>by rw [← w];exact ⟨e,_,rfl,K,fun bb=>absurd bb h⟩
    have kids:=fun (l:List gb) (c:Int) (K:node≤c) (Gb:c≤2000)=>Q l (d+1) c (by omega) (by omega) (by omega) (by omega) Gb;rw [H] at kids;have G:P (if x.Kind<1 then Nn n (Ji n) x d (0,node+1) true else Nn n (Ji n) x d (0,node+1) (decide ((9:Int)<x.Kind))):=by
     by_cases Ud:1≤x.Kind∧x.Kind≤9
     ·have M:∀ (c:Int),node≤c→c≤2000→x.Kind≠6→Wh (40 - d).toNat x.X→((x.Kind=3∨x.Kind=4)→x.Body.length≤50∧∀ y ∈ x.Body,xl (40 - d).toNat y) →
        c=node+1+(sj (40 - d).toNat x.X:Nat)+((if x.Kind=3∨x.Kind=4 then (x.Body.map (Hg (40 - d).toNat)).sum else 0:Nat):Int)→P (gq (Ji n) x d c):=by
       intro c g1 g2 a A r gc;rw [gq];by_cases B:x.Kind=3
       ·obtain ⟨e,k,g,u,f⟩:=kids x.Ff c g1 g2;rw [if_pos B,xf (by omega),Ea,g,Ea];rw [← w];refine ⟨e,k,rfl,by omega,fun v=>?_⟩;obtain ⟨s1,s2,p⟩:=f v;refine ⟨s1,⟨Ud.1,Ud.2,fun _=>A,r,fun _=>s2⟩,?_⟩;rw [Hg,if_neg a,if_pos B];omega
       ·rw [if_neg B,← w];refine ⟨0,c,rfl,g1,fun _=>⟨g2,⟨Ud.1,Ud.2,fun _=>A,r,fun h=>absurd h B⟩,?_⟩⟩;rw [Hg,if_neg a,if_neg B];omega
      have N:∀ (c:Int) b,node≤c→c≤2000→x.Kind≠6→Wh (40 - d).toNat x.X→(b=true ↔ x.Kind=3∨x.Kind=4)→c=node+1+(sj (40 - d).toNat x.X:Nat)→P (hq (Ji n) x d (0,c) b):=by
       intro c b g1 g2 a A r gc;rw [hq];by_cases q:b=true
       ·obtain ⟨e,k,g,u,f⟩:=kids x.Body c g1 g2;rw [if_pos q,xf (by omega),Ea,g,Ea];by_cases z:e=0
        ·subst z;obtain ⟨s1,s2,p⟩:=f rfl;rw [if_neg (by simp)];exact M k (by omega) s1 a A (fun _=>s2) (by rw [if_pos (r.1 q)];omega)
        ·rw [if_pos z];exact bad e k z (by omega)
       ·rw [if_neg q];exact M c g1 g2 a A (fun h=>absurd (r.2 h) q) (by rw [if_neg fun h=>q (r.2 h)];omega)
      have E:∀ b,P (en n (Ji n) x d (0,node+1) b):=by
       intro b;cases b with
       | true=>exact bad 7 _ (by decide) (by omega)
       | false =>
        rw [en,if_neg (by decide)];by_cases a:x.Kind=6
        ·rw [if_pos a,← w];refine ⟨0,node+1,rfl,by omega,fun _=>⟨by omega,⟨Ud.1,Ud.2,fun h=>absurd a h,fun h=>by omega,fun h=>by omega⟩,?_⟩⟩;rw [Hg,if_pos a,if_neg (by omega),if_neg (by omega)];omega
        ·obtain ⟨e,k,g,u,f⟩:=dF n x.X (d+1) (node+1) (by omega) (by omega) (by omega) (by omega) (by omega);rw [H] at f;rw [if_neg a,xf (by omega),Ea,g,Ea];by_cases z:e=0
         ·subst z;obtain ⟨s1,s2,p⟩:=f rfl;rw [if_neg (by simp)];split
          ·rename_i j;exact N k true (by omega) s1 a s2 (by simp [j]) (by omega)
          ·rename_i j;exact N k _ (by omega) s1 a s2 (by simp [j]) (by omega)
         ·rw [if_pos z];exact bad e k z (by omega)
      have lc:∀ b,P (Nn n (Ji n) x d (0,node+1) b):=by
       intro ed;cases ed with
       | true=>exact bad 1 _ (by decide) (by omega)
       | false =>
        rw [Nn,if_neg (by decide),W];simp only [Ea];split
        ·exact E _
        ·split
         ·exact E _
         ·split<;>exact E _
      split<;>exact lc _
     ·split
      ·exact bad 1 _ (by decide) (by omega)
      ·rw [decide_eq_true (show 9<x.Kind by omega)];exact bad 1 _ (by decide) (by omega)
    rw [← w] at G;exact G
   ·rw [if_pos c];exact ⟨e,_,rfl,by omega,fun h=>absurd h c⟩
def Rm (t:Ya):Prop:=1≤t.Kind∧t.Kind≤3
theorem Zv (fu:Nat) (a:20≤fu) (t:Ya):∃ e,dp fu t=some e∧(e=0→Rm t):=by
 obtain ⟨b,d⟩:=bt fu a t.Gc;rw [dp];by_cases c:1≤t.Kind∧t.Kind≤3
 ·rw [if_neg (by omega),decide_eq_false (by omega),Br,if_neg (by decide),d];simp only [Ea];have:∀ b,∃ e,ou b=some e:=fun b=>by cases b<;>exact ⟨_,rfl⟩
  split
  ·obtain ⟨e,he⟩:=this (!b);exact ⟨e,he,fun _=>c⟩
  ·obtain ⟨e,he⟩:=this false;exact ⟨e,he,fun _=>c⟩
 ·split
  ·exact ⟨1,rfl,fun h=>absurd h (by decide)⟩
  ·rw [decide_eq_true (show 3<t.Kind by omega)];exact ⟨1,rfl,fun h=>absurd h (by decide)⟩
structure hr (x:va):Prop where
 k1:1≤x.Kind
 Xe:x.Kind≤4
 Eh:x.Kind=2∨x.Kind=3→x.Params.length≤6∧∀ p ∈ x.Params,Rm p.ic
 qk:x.Kind=3→Rm x.se
 ty:x.Kind≠4→Rm x.ic
 Yd:x.Kind≠1→x.Body.length≤50
 au:x.Kind≠1→∀ y ∈ x.Body,xl 39 y
def Np (x:va):Nat:=1+if x.Kind≠1 then (x.Body.map (Hg 39)).sum else 0
theorem TF (fu:Nat) (N:200≤fu) (x:va) (node:Int) (u:0≤node) (O:node≤2000):∃ e k,Ir fu node x=some (e,k)∧node≤k∧(e=0→k≤2000∧hr x∧k=node+(Np x:Nat)):=by
 obtain ⟨b,v⟩:=bt fu (by omega) x.Name;obtain ⟨e,w,he⟩:=Kx node 1 u (by omega);rw [Ir,w,Ea];by_cases c:e=0
 ·subst c;obtain ⟨Q,La⟩:=he rfl;rw [if_neg (by simp)];generalize j:(fun o:Option (Int×Int)=>∃ e k,o=some (e,k)∧node≤k∧(e=0→k≤2000∧hr x∧k=node+(Np x:Nat)))=P;have bad:∀ e c:Int,e≠0→node≤c→P (some (e,c)):=fun e c h y=>by rw [← j];exact ⟨e,_,rfl,y,fun A=>absurd A h⟩
  have G:P (if x.Kind<1 then Qn fu x (0,node+1) true else Qn fu x (0,node+1) (decide ((4:Int)<x.Kind))):=by
   by_cases Ud:1≤x.Kind∧x.Kind≤4
   ·have n:(x.Kind=2∨x.Kind=3→x.Params.length≤6∧∀ p ∈ x.Params,Rm p.ic)→(x.Kind=3→Rm x.se)→(x.Kind≠4→Rm x.ic)→P (jq fu x (0,node+1)):=by
     intro g1 g2 g3;rw [jq];by_cases k1:x.Kind=1
     ·rw [if_neg (by simpa using k1)];have B:∀ b,P (ct (0,node+1) b):=by
       intro b;cases b with
       | true=>exact bad 3 _ (by decide) (by omega)
       | false =>
        rw [← j];exact ⟨0,node+1,rfl,by omega,fun _=>⟨by omega,⟨Ud.1,Ud.2,g1,g2,g3,fun h=>absurd k1 h,fun h=>absurd k1 h⟩,by rw [Np,if_neg (by simpa using k1)];omega⟩⟩
      split<;>exact B _
     ·obtain ⟨e,k,C,R,D⟩:=(eF fu).1 x.Body 2 (node+1) (by omega) (by omega) (by omega) (by omega) (by omega);rw [if_pos k1,C,Ea,← j];refine ⟨e,k,rfl,by omega,fun E=>?_⟩;obtain ⟨s1,s2,F⟩:=D E;exact ⟨s1,⟨Ud.1,Ud.2,g1,g2,g3,fun _=>s2.1,fun _=>s2.2⟩,by rw [Np,if_pos k1];rw [show (41 - (2:Int)).toNat=39 from rfl] at F;omega⟩
    have r:(x.Kind=2∨x.Kind=3→x.Params.length≤6∧∀ p ∈ x.Params,Rm p.ic)→(x.Kind=3→Rm x.se)→P (kq fu x (0,node+1)):=by
     intro g1 g2;rw [kq];by_cases Xe:x.Kind=4
     ·rw [if_neg (by simpa using Xe)];exact n g1 g2 fun h=>absurd Xe h
     ·obtain ⟨e,d,a⟩:=Zv fu (by omega) x.ic;rw [if_pos Xe,d,Ea];by_cases z:e=0
      ·rw [if_neg (by simpa using z)];exact n g1 g2 fun _=>a z
      ·rw [if_pos z];exact bad e _ z (by omega)
    have s:(x.Kind=2∨x.Kind=3→x.Params.length≤6∧∀ p ∈ x.Params,Rm p.ic)→P (Pn fu x (0,node+1)):=by
     intro g1;rw [Pn];by_cases l:x.Kind=3
     ·obtain ⟨e,d,a⟩:=Zv fu (by omega) x.se;rw [if_pos l,d,Ea];by_cases z:e=0
      ·rw [if_neg (by simpa using z)];exact r g1 fun _=>a z
      ·rw [if_pos z];exact bad e _ z (by omega)
     ·rw [if_neg l];exact r g1 fun h=>absurd h l
    have L:x.Params.length≤6→∀ (m i:Nat),i≤x.Params.length→x.Params.length<m+i→(∀ p ∈ x.Params.take i,Rm p.ic)→P (lq fu x (0,node+1) m i):=by
     intro oa m
     induction m with
     | zero=>intro i d a; omega
     | succ m H =>
      intro i g1 g2 g3;rw [lq];by_cases q:i<x.Params.length
      ·obtain ⟨ed,K⟩:=bt fu (by omega) x.Params[i].Name;obtain ⟨e,d,a⟩:=Zv fu (by omega) x.Params[i].ic;rw [if_pos (by omega),sg,List.getElem?_eq_getElem q,Ea,K,Ea];cases ed with
       | false=>rw [if_neg (by decide)]; exact bad 7 _ (by decide) (by omega)
       | true =>
        rw [if_pos rfl,d,Ea];by_cases z:e=0
        ·rw [if_neg (by simpa using z),xf (by omega),Ea];refine H (i+1) q (by omega) fun p f=>?_;rw [List.take_succ_eq_append_getElem q] at f;rcases List.mem_append.1 f with f | f
         ·exact g3 p f
         ·rw [List.mem_singleton.1 f];exact a z
        ·rw [if_pos z];exact bad e _ z (by omega)
      ·rw [if_neg (by omega)];rw [List.take_of_length_le (by omega)] at g3;exact s fun _=>⟨oa,g3⟩
    have t:∀ b,(b=true ↔ x.Kind=2∨x.Kind=3)→P (mq fu x (0,node+1) b):=by
     intro b g;rw [mq];by_cases q:b=true
     ·rw [if_pos q];by_cases oa:(6:Int)<x.Params.length
      ·rw [if_pos oa];exact bad 5 _ (by decide) (by omega)
      ·rw [if_neg oa];exact L (by omega) (x.Params.length+1) 0 (by omega) (by omega) (by simp)
     ·rw [if_neg q];exact s fun h=>absurd (g.2 h) q
    have M:∀ b,P (Qn fu x (0,node+1) b):=by
     intro ed;cases ed with
     | true=>exact bad 1 _ (by decide) (by omega)
     | false =>
      rw [Qn,if_neg (by decide),v,Ea];cases b with
      | false=>rw [if_neg (by decide)]; exact bad 7 _ (by decide) (by omega)
      | true =>
       rw [if_pos rfl];split
       ·rename_i a;exact t _ (by simp [a])
       ·rename_i a;exact t _ (by simp [a])
    split<;>exact M _
   ·split
    ·exact bad 1 _ (by decide) (by omega)
    ·rw [decide_eq_true (show 4<x.Kind by omega)];exact bad 1 _ (by decide) (by omega)
  rw [← j] at G;exact G
 ·rw [if_pos c];exact ⟨e,_,rfl,by omega,fun h=>absurd h c⟩
structure Iz (l:List va):Prop where
 le:l.length≤30
 ok:∀ d ∈ l,hr d
 n:(l.map Np).sum≤2000
theorem Ax (fu:Nat) (b:200≤fu) (l:List va):∃ f,qq fu l=some f∧(f.tg=0→f.Ba=0∧Iz l):=by
 rw [qq];by_cases oa:(30:Int)<l.length
 ·rw [if_pos oa];exact ⟨_,rfl,fun h=>absurd h (by decide:(5:Int)≠0)⟩
 ·rw [if_neg oa];have L:∀ (m i:Nat) (c:Int),i≤l.length→l.length<m+i→0≤c→c≤2000→(∀ d ∈ l.take i,hr d)→c=(((l.take i).map Np).sum:Nat)→∃ f,Up fu l m i c=some f∧(f.tg=0→f.Ba=0∧Iz l):=by
   intro m
   induction m with
   | zero=>intro i c n o; omega
   | succ m g =>
    intro i c g1 g2 g3 g4 g5 g6;rw [Up];by_cases q:i<l.length
    ·obtain ⟨e,k,ia,r,j⟩:=TF fu b l[i] c g3 g4;rw [if_pos (by omega),sg,List.getElem?_eq_getElem q,Ea,ia,Ea];by_cases z:e=0
     ·subst z;obtain ⟨f1,f2,f3⟩:=j rfl;rw [if_neg (by simp),xf (by omega),Ea];refine g (i+1) k q (by omega) (by omega) f1 (fun p a=>?_) ?_
      ·rw [List.take_succ_eq_append_getElem q] at a;rcases List.mem_append.1 a with a | a
       ·exact g5 p a
       ·rw [List.mem_singleton.1 a];exact f2
      ·rw [List.take_succ_eq_append_getElem q,List.map_append,List.sum_append,List.map_cons,List.map_nil,List.sum_cons,List.sum_nil];omega
     ·rw [if_pos z];exact ⟨_,rfl,fun h=>absurd h z⟩
    ·rw [if_neg (by omega)];rw [List.take_of_length_le (by omega)] at g5 g6;exact ⟨_,rfl,fun _=>⟨rfl,by omega,g5,by omega⟩⟩
  exact L (l.length+1) 0 0 (by omega) (by omega) (by omega) (by omega) (by simp) (by simp)
end Go.Y
namespace Go.Y
open Go.hc Go.Mc
abbrev ze:=List (List (List UInt8×Ya))
def Ge (t:Ya):Ya:=if t.Kind≠3 then ⟨t.Kind,[]⟩ else t
theorem cn (t:Ya):gn t=some (decide (t.Kind≠3)):=rfl
theorem Am (t:Ya):Sn t=some (Ge t):=by
 rw [Sn,cn,Ea,Ge];by_cases c:t.Kind≠3
 ·rw [decide_eq_true c,if_pos rfl,if_pos c];rfl
 ·rw [decide_eq_false c,if_neg (by decide),if_neg c];rfl
def An (o:Option va) (k:Int):Bool:=match o with | some d=>decide (d.Kind=k) | none=>false
theorem zr (p:yb) (kind:Int) (name:List UInt8):rq p kind name=some (ob p.named name,An (ob p.named name) kind):=by
 rw [rq];cases h:ob p.named name with
 | none=>rfl
 | some d=>rfl
theorem Xr {o:Option va}{k:Int}(h:An o k=true):∃ d,o=some d∧d.Kind=k:=by
 cases o with
 | none=>cases h
 | some d=>exact ⟨d,rfl,of_decide_eq_true h⟩
def wj (p:yb) (t:Ya):Prop:=t.Kind=3→∃ d,ob p.named t.Gc=some d∧d.Kind=3
theorem wj.bare {p:yb}{t:Ya}(h:wj p t):wj p (Ge t):=by
 unfold Ge;split
 ·rename_i c;exact fun a=>absurd a c
 ·exact h
theorem wj.of {p:yb}{t:Ya}(h:t.Kind≠3):wj p t:=fun a=>absurd a h
theorem Vl {t:Ya}:(Ge t).Kind=t.Kind:=by
 unfold Ge;split<;>rfl
structure Jm (p:yb) (d:va):Prop where
 ty:d.Kind≠4→d.ic.Kind≠3
 qk:d.Kind=3→d.se.Kind≠3
 Eh:d.Kind=2∨d.Kind=3→∀ q ∈ d.Params,wj p q.ic
 pl:d.Kind=2∨d.Kind=3→d.Params.length≤6
def Qz (p:yb):Prop:=∀ k d,ob p.named k=some d→Jm p d
def kl (p:yb) (B:ze):Prop:=∀ m ∈ B,∀ k t,ob m k=some t→wj p t
structure Tl (p:yb) (d:va) (B:ze):Prop where
 Ko:Qz p
 La:Jm p d
 cd:kl p B
 Yd:B.length≤100
theorem Bx {p:yb}{B:ze}(hB:kl p B) (oa:B.length≤100) (fu:Nat) (g:110≤fu) (d:va) (name:List UInt8):∃ t b,Xo fu p d B name=some (t,b)∧(b=true→wj p t):=by
 have L:∀ (n j:Nat),j≤B.length→j<n→∃ t b,Vp name B n ((j:Int) - 1)=some (t,b)∧(b=true→wj p t):=by
  intro n
  induction n with
  | zero=>intro j a c; omega
  | succ n f =>
   intro j a c;rw [Vp];cases j with
   | zero=>rw [if_neg (by omega)]; exact ⟨_,_,rfl,by simp⟩
   | succ j =>
    have e:((j+1:Nat):Int) - 1=(j:Int):=by omega
    rw [e,if_pos (by omega),sg,List.getElem?_eq_getElem (show j<B.length by omega),Ea];cases h:ob B[j] name with
    | none =>
     rw [if_neg (by simp),xf (by omega),Ea];exact f j (by omega) (by omega)
    | some t=>exact ⟨t,true,rfl,fun _=>hB _ (List.getElem_mem _) _ _ h⟩
 rw [Xo,xf (by omega),Ea];exact L fu B.length (by omega) (by omega)
def Calls (p:yb):Nat→Va→Prop
 | 0,_=>False
 | k+1,x=>(x.Kind=19→∃ d,ob p.named x.Name=some d∧d.Kind=2)∧(x.Kind=22→∃ d,ob p.named x.Name=some d∧d.Kind=3)∧(x.Kind=20→∃ d,ob p.named x.Name=some d∧d.Kind=1)∧∀ y ∈ x.Kids,Calls p k y
theorem two {α:Type}{l:List α}(h:l.length=2):∃ a b,l=[a,b]:=by
 match l,h with
 | [a,b],_=>exact ⟨a,b,rfl⟩
theorem one {α:Type}{l:List α}(h:l.length=1):∃ a,l=[a]:=by
 match l,h with
 | [a],_=>exact ⟨a,rfl⟩
structure tK (n:Nat):Prop where
 typed:∀ (k:Nat) (p:yb) (d:va) (B:ze) (x:Va) (t:Ya),Tl p d B→Wh k x→3*k+111≤n→∃ e,(qg n).fh p d B x t=some e∧(e=0→Calls p k x)
 args:∀ (k:Nat) (p:yb) (d:va) (B:ze) (x:Va) (kind:Int),Tl p d B→(∀ y ∈ x.Kids,Wh k y)→x.Kids.length≤6→(kind=2∨kind=3)→3*k+112≤n →
  ∃ ig e,(qg n).wk p d B x kind=some (ig,e)∧(e=0→∃ f,ig=some f∧ob p.named x.Name=some f∧f.Kind=kind∧∀ y ∈ x.Kids,Calls p k y)
 both:∀ (k:Nat) (p:yb) (d:va) (B:ze) (x a b:Va),Tl p d B→x.Kids=[a,b]→Wh k a→Wh k b→3*k+112≤n→∃ t e,(qg n).Fl p d B x=some (t,e)∧(e=0→Calls p k a∧Calls p k b)
 handle:∀ (k:Nat) (p:yb) (d:va) (B:ze) (x:Va),Tl p d B→Wh k x→3*k+112≤n→∃ ig e,(qg n).uk p d B x=some (ig,e)∧(e=0→(∃ f g,ig=some f∧ob p.named g=some f∧f.Kind=3)∧Calls p k x)
 expr:∀ (k:Nat) (p:yb) (d:va) (B:ze) (x:Va),Tl p d B→Wh k x→3*k+110≤n→∃ t e,(qg n).ei p d B x=some (t,e)∧(e=0→wj p t∧Calls p k x)
theorem vv (r:Ya×Int) (b:Bool):gu r b=some (if b=true then 9 else r.2):=by cases b<;>rfl
theorem cu (r s:Ya×Int) (b:Bool):ur r s b=some (r.1,if b=true then 9 else s.2):=by cases b<;>rfl
theorem NC:∀ n,tK n:=by
 intro n
 induction n with
 | zero=>exact ⟨fun _ _ _ _ _ _ _ _ h=>by omega,fun _ _ _ _ _ _ _ _ _ _ h=>by omega,fun _ _ _ _ _ _ _ _ _ _ _ h=>by omega,fun _ _ _ _ _ _ _ h=>by omega,fun _ _ _ _ _ _ _ h=>by omega⟩
 | succ n u =>
  refine ⟨fun k p d B x t H w O=>?_,fun k p d B x kind H w oa D O=>?_,fun k p d B x a b H w j M O=>?_,fun k p d B x H w O=>?_,fun k p d B x H w O=>?_⟩
  ·show ∃ e,fh (qg n) p d B x t=some e∧_;obtain ⟨qc,e,r,o⟩:=u.expr k p d B x H w (by omega);rw [fh,r,Ea];by_cases z:e=0
   ·rw [if_pos z,Am,Ea,vv];exact ⟨_,rfl,fun _=>(o z).2⟩
   ·rw [if_neg z,vv];exact ⟨e,rfl,fun h=>absurd h z⟩
  ·show ∃ ig e,wk (qg n) p d B x kind=some (ig,e)∧_;rw [wk,zr,Ea];by_cases c:An (ob p.named x.Name) kind=true
   ·obtain ⟨f,G,S⟩:=Xr c;rw [if_pos c,G];simp only [Ea];have gc:=H.Ko _ _ G;have fd:=gc.pl (by omega);by_cases q:(f.Params.length:Int)≠x.Kids.length
    ·rw [decide_eq_true q];exact ⟨none,5,rfl,fun h=>absurd h (by decide)⟩
    ·rw [decide_eq_false q,ju,if_neg (by decide)];simp only [Ea];have L:∀ (m i:Nat),i≤f.Params.length→f.Params.length<m+i→∃ ig e,Wp (qg n) x p d B (some f,An (some f) kind) f m i=some (ig,e)∧(e=0→ig=some f∧∀ y ∈ x.Kids.drop i,Calls p k y):=by
      intro m
      induction m with
      | zero=>intro i r o; omega
      | succ m T =>
       intro i r o;rw [Wp];by_cases c:i<f.Params.length
       ·have X:i<x.Kids.length:=by omega
        obtain ⟨e,ia,v⟩:=u.typed k p d B x.Kids[i] f.Params[i].ic H (w _ (List.getElem_mem _)) (by omega);rw [if_pos (by omega),sg,List.getElem?_eq_getElem c,Ea,sg,List.getElem?_eq_getElem X,Ea,ia,Ea];by_cases z:e=0
        ·rw [if_neg (by simpa using z),xf (by omega),Ea];obtain ⟨ig,N,E,C⟩:=T (i+1) c (by omega);refine ⟨ig,N,E,fun s=>⟨(C s).1,fun y A=>?_⟩⟩;rw [List.drop_eq_getElem_cons X] at A;rcases List.mem_cons.1 A with rfl | A
         ·exact v z
         ·exact (C s).2 y A
        ·rw [if_pos z];exact ⟨none,e,rfl,fun h=>absurd h z⟩
       ·rw [if_neg (by omega),List.drop_eq_nil_of_le (by omega)];exact ⟨some f,0,rfl,fun _=>⟨rfl,by simp⟩⟩
     obtain ⟨ig,e,E,C⟩:=L (f.Params.length+1) 0 (by omega) (by omega);refine ⟨ig,e,E,fun s=>?_⟩;obtain ⟨s1,s2⟩:=C s;rw [List.drop_zero] at s2;exact ⟨f,s1,rfl,S,s2⟩
   ·rw [if_neg c];exact ⟨none,7,rfl,fun h=>absurd h (by decide)⟩
  ·show ∃ t e,Fl (qg n) p d B x=some (t,e)∧_;obtain ⟨t1,ia,r,o⟩:=u.expr k p d B a H j (by omega);obtain ⟨t2,v,g1,g2⟩:=u.expr k p d B b H M (by omega);have k0:at_ x.Kids 0=some a:=by rw [w];rfl
   have k1:at_ x.Kids 1=some b:=by rw [w];rfl
   rw [Fl,k0,Ea,r,Ea];by_cases z:ia=0
   ·rw [if_neg (by simpa using z),k1,Ea,g1,Ea];by_cases z2:v=0
    ·have fin:∀ ed,∃ t e,ur (t1,ia) (t2,v) ed=some (t,e)∧(e=0→Calls p k a∧Calls p k b):=fun ed=>by rw [cu];exact ⟨_,_,rfl,fun _=>⟨(o z).2,(g2 z2).2⟩⟩
     rw [if_pos z2];split
     ·rw [cn,Ea];exact fin _
     ·exact fin _
    ·rw [if_neg z2,cu];exact ⟨_,v,rfl,fun h=>absurd h z2⟩
   ·rw [if_pos z];exact ⟨_,ia,rfl,fun h=>absurd h z⟩
  ·show ∃ ig e,uk (qg n) p d B x=some (ig,e)∧_;obtain ⟨t,e,r,o⟩:=u.expr k p d B x H w (by omega);rw [uk,r,Ea];by_cases z:e=0
   ·rw [if_neg (by simpa using z),cn,Ea];by_cases q:t.Kind≠3
    ·rw [if_pos (decide_eq_true q)];exact ⟨none,9,rfl,fun h=>absurd h (by decide)⟩
    ·obtain ⟨f,f1,f2⟩:=(o z).1 (Decidable.not_not.1 q);rw [if_neg (by simpa using q)];exact ⟨_,0,rfl,fun _=>⟨⟨f,t.Gc,f1,f1,f2⟩,(o z).2⟩⟩
   ·rw [if_pos z];exact ⟨none,e,rfl,fun h=>absurd h z⟩
  ·show ∃ t e,ei n (qg n) p d B x=some (t,e)∧_;cases k with
   | zero=>cases w
   | succ k =>
   obtain ⟨k1,id,D,K⟩:=w;have P:Bi x.Kind=1→∃ a,x.Kids=[a]∧Wh k a:=fun h=>by
    obtain ⟨a,j⟩:=one (l:=x.Kids) (by have:=D.eq (by omega);omega);exact ⟨a,j,K a (by simp [j])⟩
   have Y:Bi x.Kind=2→∃ a b,x.Kids=[a,b]∧Wh k a∧Wh k b:=fun h=>by
    obtain ⟨a,b,j⟩:=two (l:=x.Kids) (by have:=D.eq (by omega);omega);exact ⟨a,b,j,K a (by simp [j]),K b (by simp [j])⟩
   have Q:Bi x.Kind=0→x.Kids=[]:=fun h=>List.length_eq_zero_iff.1 (by have:=D.eq (by omega);omega);have Rb:x.Kind≠19→x.Kind≠20→x.Kind≠22→(∀ y ∈ x.Kids,Calls p k y)→Calls p (k+1) x:=fun r o lc rc=>⟨fun h=>absurd h r,fun h=>absurd h lc,fun h=>absurd h o,rc⟩;rw [ei];by_cases bc:x.Kind=1
   ·rw [if_pos bc];exact ⟨_,0,rfl,fun _=>⟨.of (by decide),Rb (by omega) (by omega) (by omega) (by rw [Q (by rw [bc];rfl)];simp)⟩⟩
   rw [if_neg bc];by_cases c2:x.Kind=2
   ·rw [if_pos c2];exact ⟨_,0,rfl,fun _=>⟨.of (by decide),Rb (by omega) (by omega) (by omega) (by rw [Q (by rw [c2];rfl)];simp)⟩⟩
   rw [if_neg c2];by_cases c3:x.Kind=3
   ·obtain ⟨t,b,r,o⟩:=Bx H.cd H.Yd n (by omega) d x.Name;rw [if_pos c3,r,Ea];cases b with
    | true=>exact ⟨t,0,rfl,fun _=>⟨o rfl,Rb (by omega) (by omega) (by omega) (by rw [Q (by rw [c3]; rfl)]; simp)⟩⟩
    | false=>exact ⟨_,7,rfl,fun h=>absurd h (by decide)⟩
   rw [if_neg c3];by_cases c4:x.Kind=4
   ·obtain ⟨a,j,F⟩:=P (by rw [c4];rfl);obtain ⟨e,ia,v⟩:=u.typed k p d B a ⟨1,[]⟩ H F (by omega);have k0:at_ x.Kids 0=some a:=by rw [j];rfl
    rw [if_pos c4,k0,Ea,yk,Ea,Ea,ia,Ea];exact ⟨_,e,rfl,fun s=>⟨.of (by decide),Rb (by omega) (by omega) (by omega) (by rw [j];simpa using v s)⟩⟩
   rw [if_neg c4];by_cases c5:x.Kind=5
   ·obtain ⟨a,j,F⟩:=P (by rw [c5];rfl);obtain ⟨e,ia,v⟩:=u.typed k p d B a ⟨2,[]⟩ H F (by omega);have k0:at_ x.Kids 0=some a:=by rw [j];rfl
    rw [if_pos c5,k0,Ea,ij,Ea,Ea,ia,Ea];exact ⟨_,e,rfl,fun s=>⟨.of (by decide),Rb (by omega) (by omega) (by omega) (by rw [j];simpa using v s)⟩⟩
   rw [if_neg c5];have Z:∀ b,(b=true ↔ x.Kind=11∨x.Kind=12)→∃ t e,Yp (qg n) x p d B b=some (t,e)∧(e=0→wj p t∧Calls p (k+1) x):=by
    intro b M;rw [Yp];by_cases q:b=true
    ·have c:=M.1 q;obtain ⟨a,R,j,U,Ag⟩:=Y (by rcases c with c | c<;>rw [c]<;>rfl);obtain ⟨t,e,r,o⟩:=u.both k p d B x a R H j U Ag (by omega);rw [if_pos q,r,Ea,ij,Ea];exact ⟨_,e,rfl,fun s=>⟨.of (by decide),Rb (by omega) (by omega) (by omega) (by rw [j];simpa using o s)⟩⟩
    rw [if_neg q];have md:x.Kind≠11:=fun h=>q (M.2 (.inl h));have nd:x.Kind≠12:=fun h=>q (M.2 (.inr h));by_cases bb:x.Kind=19
    ·obtain ⟨ig,e,r,o⟩:=u.args k p d B x 2 H K D.le (.inl rfl) (by omega);rw [if_pos bb,r,Ea];by_cases z:e=0
     ·obtain ⟨f,rfl,g1,g2,g3⟩:=o z;rw [if_neg (by simpa using z)];simp only [Ea];rw [Am,Ea];exact ⟨_,0,rfl,fun _=>⟨.of (by rw [Vl];exact (H.Ko _ _ g1).ty (by omega)),⟨fun _=>⟨f,g1,g2⟩,fun h=>by omega,fun h=>by omega,g3⟩⟩⟩
     ·rw [if_pos z];exact ⟨_,e,rfl,fun h=>absurd h z⟩
    rw [if_neg bb];by_cases c20:x.Kind=20
    ·rw [if_pos c20,zr,Ea];by_cases c:An (ob p.named x.Name) 1=true
     ·obtain ⟨f,G,S⟩:=Xr c;rw [if_pos c,G];simp only [Ea];rw [Am,Ea];exact ⟨_,0,rfl,fun _=>⟨.of (by rw [Vl];exact (H.Ko _ _ G).ty (by omega)),⟨fun h=>by omega,fun h=>by omega,fun _=>⟨f,G,S⟩,by rw [Q (by rw [c20];rfl)];simp⟩⟩⟩
     ·rw [if_neg c];exact ⟨_,7,rfl,fun h=>absurd h (by decide)⟩
    rw [if_neg c20];by_cases c21:x.Kind=21
    ·obtain ⟨a,j,F⟩:=P (by rw [c21];rfl);obtain ⟨e,ia,v⟩:=u.typed k p d B a d.ic H F (by omega);have k0:at_ x.Kids 0=some a:=by rw [j];rfl
     rw [if_pos c21];by_cases Lj:d.Kind=3
     ·rw [if_neg (by simpa using Lj),k0,Ea,Am,Ea,ia,Ea];exact ⟨_,e,rfl,fun s=>⟨.of (by show (Ge d.se).Kind≠3;rw [Vl];exact H.La.qk Lj),Rb (by omega) (by omega) (by omega) (by rw [j];simpa using v s)⟩⟩
     ·rw [if_pos Lj];exact ⟨_,8,rfl,fun h=>absurd h (by decide)⟩
    rw [if_neg c21];by_cases Gb:x.Kind=22
    ·obtain ⟨ig,e,r,o⟩:=u.args k p d B x 3 H K D.le (.inr rfl) (by omega);rw [if_pos Gb,r,Ea];refine ⟨_,e,rfl,fun s=>?_⟩;obtain ⟨f,-,g1,g2,g3⟩:=o s;exact ⟨fun _=>⟨f,g1,g2⟩,⟨fun h=>by omega,fun _=>⟨f,g1,g2⟩,fun h=>by omega,g3⟩⟩
    rw [if_neg Gb];by_cases V:x.Kind=23
    ·obtain ⟨a,R,j,U,Ag⟩:=Y (by rw [V];rfl);obtain ⟨ig,e,r,o⟩:=u.handle k p d B a H U (by omega);have k0:at_ x.Kids 0=some a:=by rw [j];rfl
     have k1:at_ x.Kids 1=some R:=by rw [j];rfl
     rw [if_pos V,k0,Ea,r,Ea];by_cases z:e=0
     ·obtain ⟨⟨f,g,rfl,g1,g2⟩,g3⟩:=o z;obtain ⟨N,E,C⟩:=u.typed k p d B R f.se H Ag (by omega);rw [if_neg (by simpa using z)];simp only [Ea];rw [k1,Ea,Am,Ea,E,Ea];exact ⟨_,N,rfl,fun s=>⟨.of (by show (Ge f.ic).Kind≠3;rw [Vl];exact (H.Ko _ _ g1).ty (by omega)),Rb (by omega) (by omega) (by omega) (by rw [j];simpa using ⟨g3,C s⟩)⟩⟩
     ·rw [if_pos z];exact ⟨_,e,rfl,fun h=>absurd h z⟩
    rw [if_neg V];by_cases c24:x.Kind=24
    ·obtain ⟨a,j,F⟩:=P (by rw [c24];rfl);obtain ⟨ig,e,r,o⟩:=u.handle k p d B a H F (by omega);have k0:at_ x.Kids 0=some a:=by rw [j];rfl
     rw [if_pos c24,k0,Ea,r,Ea,ij,Ea];exact ⟨_,e,rfl,fun s=>⟨.of (by decide),Rb (by omega) (by omega) (by omega) (by rw [j];simpa using (o s).2)⟩⟩
    rw [if_neg c24];have L:∀ (i1 i2:Int) (s1 s2:List UInt8) (m i:Nat),i≤x.Kids.length→x.Kids.length<m+i→∃ e,Xp (qg n) x p d B i1 s1 i2 s2 m i=some (⟨i2,s2⟩,e)∧(e=0→∀ y ∈ x.Kids.drop i,Calls p k y):=by
     intro i1 i2 s1 s2 m
     induction m with
     | zero=>intro i r o; omega
     | succ m T =>
      intro i r o;rw [Xp];by_cases c:i<x.Kids.length
      ·have:=D.le;obtain ⟨e,ia,v⟩:=u.typed k p d B x.Kids[i] ⟨i1,s1⟩ H (K _ (List.getElem_mem _)) (by omega);rw [if_pos (by omega),sg,List.getElem?_eq_getElem c,Ea,ia,Ea];by_cases z:e=0
       ·rw [if_neg (by simpa using z),xf (by omega),Ea];obtain ⟨N,E,C⟩:=T (i+1) c (by omega);refine ⟨N,E,fun s y A=>?_⟩;rw [List.drop_eq_getElem_cons c] at A;rcases List.mem_cons.1 A with rfl | A
        ·exact v z
        ·exact C s y A
       ·rw [if_pos z];exact ⟨e,rfl,fun h=>absurd h z⟩
      ·rw [if_neg (by omega),List.drop_eq_nil_of_le (by omega)];exact ⟨0,rfl,fun _=>by simp⟩
    have W:∀ (i1 i2:Int) (s1 s2:List UInt8),i2≠3→∃ t e,vr (qg n) x p d B i1 s1 i2 s2=some (t,e)∧(e=0→wj p t∧Calls p (k+1) x):=by
     intro i1 i2 s1 s2 h;obtain ⟨e,r,o⟩:=L i1 i2 s1 s2 (x.Kids.length+1) 0 (by omega) (by omega);exact ⟨_,e,r,fun s=>⟨.of h,Rb (by omega) (by omega) (by omega) (by simpa using o s)⟩⟩
    rw [yk,Ea,Ea,ij];simp only [Ea];split
    ·exact W _ _ _ _ (by decide)
    ·split
     ·exact W _ _ _ _ (by decide)
     ·exact W _ _ _ _ (by decide)
   split
   ·rename_i h;exact Z _ (by simp [h])
   ·rename_i h;exact Z _ (by simp [h])
end Go.Y
namespace Go.Y
open Go.hc Go.Mc
theorem tj {κ β:Type}[DecidableEq κ]:∀ (m:List (κ×β)) (k k':κ) (x:β),ob (Nd m k x) k'=if k=k' then some x else ob m k'
 | [],k,k',x=>rfl
 | (a,b)::m,k,k',x=>by
  rw [Nd];by_cases c:a=k
  ·subst c;rw [if_pos rfl,ob,ob];by_cases d:a=k'
   ·rw [if_pos d,if_pos d]
   ·rw [if_neg d,if_neg d,if_neg d]
  ·rw [if_neg c,ob,ob,tj m k k' x];by_cases d:a=k'
   ·rw [if_pos d,if_pos d,if_neg fun h=>c (d.trans h.symm)]
   ·rw [if_neg d,if_neg d]
def Zk (p:yb):Nat→gb→Prop
 | 0,_=>False
 | k+1,s=>(s.Kind≠6→Calls p k s.X)∧((s.Kind=3∨s.Kind=4)→∀ y ∈ s.Body,Zk p k y)∧(s.Kind=3→∀ y ∈ s.Ff,Zk p k y)∧(s.Kind=7→∃ d,ob p.named s.Name=some d∧d.Kind=1)
theorem JA (p:yb) (d:va) (B:ze) (h:0<B.length) (a:B.length≤100):uq p d B=some (B.take (B.length - 1)):=by
 rw [uq,xf (by omega),Ea,cut,if_pos (by omega),Ea,Kv];simp
structure AJ (n:Nat):Prop where
 stats:∀ (k:Nat) (p:yb) (d:va) (B:ze) (l:List gb),Tl p d B→l.length≤50→(∀ y ∈ l,xl k y)→B.length+k≤90→5*k+130≤n →
  ∃ e,(xk n).Pj p d B l=some (e,B)∧(e=0→∀ y ∈ l,Zk p k y)
 stat:∀ (k:Nat) (p:yb) (d:va) (B:ze) (s:gb),Tl p d B→0<B.length→xl k s→B.length+k≤91→5*k+129≤n →
  ∃ e a,(xk n).Gl p d B s=some (e,a)∧a.length=B.length∧a.take (B.length - 1)=B.take (B.length - 1)∧kl p a∧(e=0→Zk p k s)
theorem xv (B:ze) (r:Ya×Int) (b:Bool):ku B r b=some (if b=true then 9 else r.2,B):=by cases b<;>rfl
theorem aI:∀ n,AJ n:=by
 intro n
 induction n with
 | zero=>exact ⟨fun _ _ _ _ _ _ _ _ _ h=>by omega,fun _ _ _ _ _ _ _ _ _ h=>by omega⟩
 | succ n G =>
  refine ⟨fun k p d B l H oa x hB V=>?_,fun k p d B s H nd x hB V=>?_⟩
  ·show ∃ e,Pj (xk n) p d B l=some (e,B)∧_;rw [Pj,app,if_pos (by simp;omega),Ea,iu];have L:∀ (m i:Nat) (a:ze),i≤l.length→l.length<m+i→a.length=B.length+1→a.take B.length=B→kl p a →
     ∃ e,Rp (xk n) l p d m i a=some (e,B)∧(e=0→∀ y ∈ l.drop i,Zk p k y):=by
    intro m
    induction m with
    | zero=>intro i a j g; omega
    | succ m W =>
     intro i a j g g1 g2 g3;rw [Rp];have pop:∀ C:ze,C.length=B.length+1→C.take B.length=B→uq p d C=some B:=fun C ia v=>by
      rw [JA p d C (by omega) (by omega),ia,Nat.add_sub_cancel,v]
     by_cases c:i<l.length
     ·obtain ⟨e,K,Y,M,Q,Z,bb⟩:=G.stat k p d a l[i] ⟨H.Ko,H.La,g3,by omega⟩ (by omega) (x _ (List.getElem_mem _)) (by omega) (by omega);rw [g1,Nat.add_sub_cancel] at Q;rw [g1] at M;have v:K.take B.length=B:=Q.trans g2;rw [if_pos (by omega),sg,List.getElem?_eq_getElem c,Ea,Y,Ea];by_cases z:e=0
      ·rw [if_neg (by simpa using z),xf (by omega),Ea];obtain ⟨Gb,s1,s2⟩:=W (i+1) K c (by omega) M v Z;refine ⟨Gb,s1,fun r y A=>?_⟩;rw [List.drop_eq_getElem_cons c] at A;rcases List.mem_cons.1 A with rfl | A
       ·exact bb z
       ·exact s2 r y A
      ·rw [if_pos z];simp only [];rw [pop K M v,Ea];exact ⟨e,rfl,fun h=>absurd h z⟩
     ·rw [if_neg (by omega),pop a g1 g2,Ea,List.drop_eq_nil_of_le (by omega)];exact ⟨0,rfl,fun _=>by simp⟩
   have:=L (l.length+1) 0 (B++[[]]) (by omega) (by omega) (by simp) (by simp) (fun m hm k' t N=>by
    rcases List.mem_append.1 hm with hm | hm
    ·exact H.cd m hm k' t N
    ·rw [List.mem_singleton.1 hm] at N;cases N)
   simpa using this
  ·show ∃ e a,Gl n (xk n) p d B s=some (e,a)∧_;cases k with
   | zero=>cases x
   | succ k =>
   obtain ⟨k1,rd,w,R,he⟩:=x;have D:=(NC n).typed k p d B s.X;have O:=(NC n).expr k p d B s.X;have same:∀ e:Int,(e=0→Zk p (k+1) s)→∀ o:Option (Int×ze),o=some (e,B)→∃ e a,o=some (e,a)∧a.length=B.length∧a.take (B.length - 1)=B.take (B.length - 1)∧kl p a∧(e=0→Zk p (k+1) s):=
    fun e h o gc=>⟨e,B,gc,rfl,rfl,H.cd,h⟩
   have cs:s.Kind≠3→s.Kind≠4→s.Kind≠7→(s.Kind≠6→Calls p k s.X)→Zk p (k+1) s:=fun lc wd rc h=>⟨h,fun h=>by omega,fun h=>absurd h lc,fun h=>absurd h rc⟩;rw [Gl];by_cases bc:s.Kind=1
   ·obtain ⟨t,e,j,g⟩:=O H (w (by omega)) (by omega);rw [if_pos bc,j,Ea];by_cases z:e=0
    ·obtain ⟨qc,b,g1,g2⟩:=Bx H.cd H.Yd n (by omega) d s.Name;rw [if_neg (by simpa using z),g1,Ea];cases b with
     | true=>exact same 7 (fun h=>absurd h (by decide)) _ rfl
     | false =>
      have fd:B.length - 1<B.length:=by omega
      have ia:(B.length:Int) - 1=((B.length - 1:Nat):Int):=by omega
      rw [if_neg (by simp),xf (by omega),Ea,ia,sg,List.getElem?_eq_getElem fd,Ea,xr];refine ⟨0,_,rfl,by simp,?_,fun m hm k' u hu=>?_,fun _=>cs (by omega) (by omega) (by omega) fun _=>(g z).2⟩
      ·simp [List.take_set_of_le]
      ·rcases List.mem_or_eq_of_mem_set hm with hm | rfl
       ·exact H.cd m hm k' u hu
       ·rw [tj] at hu;split at hu
        ·obtain rfl:=Option.some.inj hu;exact (g z).1
        ·exact H.cd _ (List.getElem_mem _) k' u hu
    ·rw [if_pos z];exact same e (fun h=>absurd h z) _ rfl
   rw [if_neg bc];by_cases c2:s.Kind=2
   ·obtain ⟨qc,b,g1,g2⟩:=Bx H.cd H.Yd n (by omega) d s.Name;rw [if_pos c2,g1,Ea];cases b with
    | false=>exact same 7 (fun h=>absurd h (by decide)) _ rfl
    | true =>
     obtain ⟨e,j,g⟩:=D qc H (w (by omega)) (by omega);rw [if_pos rfl,j,Ea];exact same e (fun r=>cs (by omega) (by omega) (by omega) fun _=>g r) _ rfl
   rw [if_neg c2];have S:∀ b,(b=true ↔ s.Kind=3∨s.Kind=4)→∃ e a,Zp n (xk n) s p d B b=some (e,a)∧a.length=B.length∧a.take (B.length - 1)=B.take (B.length - 1)∧kl p a∧(e=0→Zk p (k+1) s):=by
    intro b P;rw [Zp];by_cases q:b=true
    ·have c:=P.1 q;obtain ⟨e,j,g⟩:=D ⟨2,[]⟩ H (w (by omega)) (by omega);rw [if_pos q,ij,Ea,j,Ea];by_cases z:e=0
     ·rw [if_neg (by simpa using z)];obtain ⟨v,g1,g2⟩:=G.stats k p d B s.Body H (R c).1 (R c).2 (by omega) (by omega);rw [g1,Ea];by_cases z2:v=0
      ·rw [if_neg (by simpa using z2)];by_cases c4:s.Kind=4
       ·rw [decide_eq_true c4];exact same v (fun _=>⟨fun _=>g z,fun _=>g2 z2,fun h=>by omega,fun h=>by omega⟩) _ rfl
       ·have c3:s.Kind=3:=by omega
        obtain ⟨id,f1,f2⟩:=G.stats k p d B s.Ff H (he c3).1 (he c3).2 (by omega) (by omega);rw [decide_eq_false c4,Ms,if_neg (by decide)];simp only [];rw [f1,Ea];exact same id (fun r=>⟨fun _=>g z,fun _=>g2 z2,fun _=>f2 r,fun h=>by omega⟩) _ rfl
      ·rw [if_pos z2];exact same v (fun h=>absurd h z2) _ rfl
     ·rw [if_pos z];exact same e (fun h=>absurd h z) _ rfl
    rw [if_neg q];have E:s.Kind≠3:=fun h=>q (P.2 (.inl h));have F:s.Kind≠4:=fun h=>q (P.2 (.inr h));by_cases c5:s.Kind=5
    ·rw [if_pos c5];split
     ·exact same 8 (fun h=>absurd h (by decide)) _ rfl
     ·obtain ⟨e,j,g⟩:=D d.ic H (w (by omega)) (by omega);rw [j,Ea];exact same e (fun r=>cs E F (by omega) fun _=>g r) _ rfl
    rw [if_neg c5];by_cases Me:s.Kind=6
    ·rw [if_pos Me];split
     ·exact same 8 (fun h=>absurd h (by decide)) _ rfl
     ·exact same 0 (fun r=>cs E F (by omega) fun h=>absurd Me h) _ rfl
    rw [if_neg Me];by_cases T:s.Kind=7
    ·rw [if_pos T,zr,Ea];by_cases c:An (ob p.named s.Name) 1=true
     ·obtain ⟨f,U,md⟩:=Xr c;obtain ⟨e,j,g⟩:=D f.ic H (w (by omega)) (by omega);rw [if_pos c,U];simp only [Ea];rw [j,Ea];exact same e (fun r=>⟨fun _=>g r,fun h=>by omega,fun h=>by omega,fun _=>⟨f,U,md⟩⟩) _ rfl
     ·rw [if_neg c];exact same 7 (fun h=>absurd h (by decide)) _ rfl
    rw [if_neg T];by_cases Ng:s.Kind=8
    ·obtain ⟨t,e,j,g⟩:=O H (w (by omega)) (by omega);rw [if_pos Ng,j,Ea];by_cases z:e=0
     ·rw [if_pos z,cn,Ea,xv];exact same _ (fun _=>cs E F (by omega) fun _=>(g z).2) _ rfl
     ·rw [if_neg z,xv];exact same e (fun h=>absurd h z) _ rfl
    rw [if_neg Ng];by_cases c9:s.Kind=9
    ·obtain ⟨t,e,j,g⟩:=O H (w (by omega)) (by omega);rw [if_pos c9,j,Ea];exact same e (fun r=>cs E F (by omega) fun _=>(g r).2) _ rfl
    ·omega
   split
   ·rename_i h;exact S _ (by simp [h])
   ·rename_i h;exact S _ (by simp [h])
theorem fF (p:yb) (t:Ya):∃ e,vu p t=some e∧(e=0→wj p t):=by
 rw [vu,cn,Ea];by_cases c:t.Kind≠3
 ·rw [if_pos (decide_eq_true c)];exact ⟨0,rfl,fun _=>.of c⟩
 ·rw [if_neg (by simpa using c),zr,Ea];by_cases q:An (ob p.named t.Gc) 3=true
  ·rw [if_pos q];exact ⟨0,rfl,fun _ _=>Xr q⟩
  ·rw [if_neg q];exact ⟨7,rfl,fun h=>absurd h (by decide)⟩
theorem BE (p:yb) (d:va) (La:hr d):∃ e,ht p d=some e∧(e=0→Jm p d):=by
 have f:∀ b,aq b=some (if b=true then 9 else 0):=fun b=>by cases b<;>rfl
 have o:(d.Kind=2∨d.Kind=3→∀ q ∈ d.Params,wj p q.ic)→∃ e,Ns d=some e∧(e=0→Jm p d):=by
  intro g;rw [Ns];have l:d.Kind=2∨d.Kind=3→d.Params.length≤6:=fun h=>(La.Eh h).1;by_cases c3:d.Kind=3
  ·rw [if_pos c3,cn,Ea];by_cases q:d.se.Kind≠3
   ·rw [if_pos (decide_eq_true q),if_pos (by omega),cn,Ea,f];refine ⟨_,rfl,fun n=>⟨fun _ h=>?_,fun _=>q,g,l⟩⟩;simp [h] at n
   ·rw [if_neg (by simpa using q),f];exact ⟨9,rfl,fun h=>absurd h (by decide)⟩
  ·rw [if_neg c3];by_cases c4:d.Kind=4
   ·rw [if_neg (by simpa using c4),f];exact ⟨0,rfl,fun _=>⟨fun h=>absurd c4 h,fun h=>absurd h c3,g,l⟩⟩
   ·rw [if_pos c4,cn,Ea,f];refine ⟨_,rfl,fun n=>⟨fun _ h=>?_,fun h=>absurd h c3,g,l⟩⟩;simp [h] at n
 have r:∀ b,(b=true ↔ d.Kind=2∨d.Kind=3)→∃ e,Qs p d b=some e∧(e=0→Jm p d):=by
  intro b s;rw [Qs];by_cases q:b=true
  ·rw [if_pos q];have B:=La.Eh (s.1 q);have L:∀ (m i:Nat) (S:List (List UInt8×Int)),i≤d.Params.length→d.Params.length<m+i→(∀ k c,ob S k=some c→0≤c∧c≤1)→(∀ q ∈ d.Params.take i,wj p q.ic)→∃ e,Ps p d m i S=some e∧(e=0→Jm p d):=by
    intro m
    induction m with
    | zero=>intro i S t u; omega
    | succ m x =>
     intro i S t u g1 g2;rw [Ps];by_cases c:i<d.Params.length
     ·have C:0≤(ob S d.Params[i].Name).getD 0∧(ob S d.Params[i].Name).getD 0≤1:=by
       cases h:ob S d.Params[i].Name with
       | none=>decide
       | some v=>exact g1 _ _ h
      rw [if_pos (by omega),sg,List.getElem?_eq_getElem c,Ea,xf (by omega),Ea,tj,if_pos rfl];simp only [Option.getD_some];by_cases w:(1:Int)<(ob S d.Params[i].Name).getD 0+1
      ·rw [if_pos w];exact ⟨7,rfl,fun h=>absurd h (by decide)⟩
      ·obtain ⟨e,ia,A⟩:=fF p d.Params[i].ic;rw [if_neg w,ia,Ea];by_cases z:e=0
       ·rw [if_neg (by simpa using z),xf (by omega),Ea];refine x (i+1) _ c (by omega) (fun k v j=>?_) fun y a=>?_
        ·rw [tj] at j;split at j
         ·obtain rfl:=Option.some.inj j;omega
         ·exact g1 _ _ j
        ·rw [List.take_succ_eq_append_getElem c] at a;rcases List.mem_append.1 a with a | a
         ·exact g2 y a
         ·rw [List.mem_singleton.1 a];exact A z
       ·rw [if_pos z];exact ⟨e,rfl,fun h=>absurd h z⟩
     ·rw [if_neg (by omega)];rw [List.take_of_length_le (by omega)] at g2;exact o fun _=>g2
   exact L (d.Params.length+1) 0 [] (by omega) (by omega) (fun k c h=>by cases h) (by simp)
  ·rw [if_neg q];exact o fun h=>absurd (s.2 h) q
 rw [ht];split
 ·rename_i h;exact r _ (by simp [h])
 ·rename_i h;exact r _ (by simp [h])
theorem CE (fu:Nat) (x:500≤fu) (p:yb) (d:va) (o:Qz p) (b:Jm p d) (La:hr d):∃ e,Yo fu p d=some e∧(e=0→d.Kind≠1→∀ y ∈ d.Body,Zk p 39 y):=by
 rw [Yo];by_cases bc:d.Kind=1
 ·rw [if_pos bc];exact ⟨0,rfl,fun _ h=>absurd bc h⟩
 ·rw [if_neg bc];have j:∀ B:ze,B.length=1→kl p B→∃ e,bq fu p d B=some e∧(e=0→d.Kind≠1→∀ y ∈ d.Body,Zk p 39 y):=by
   intro B l f;obtain ⟨e,q,r⟩:=(aI fu).stats 39 p d B d.Body ⟨o,b,f,by omega⟩ (La.Yd bc) (La.au bc) (by omega) (by omega);rw [bq,q,Ea];exact ⟨e,rfl,fun s _=>r s⟩
  by_cases c4:d.Kind=4
  ·rw [if_neg (by simpa using c4)];exact j _ rfl (fun m hm k t a=>by rw [List.mem_singleton.1 hm] at a;cases a)
  ·rw [if_pos c4];have n:d.Kind=2∨d.Kind=3:=by have:=La.k1;have:=La.Xe;omega
   have z:=b.pl n;have L:∀ (m i:Nat) (B:ze),i≤d.Params.length→d.Params.length<m+i→B.length=1→kl p B→∃ e,Ro fu p d m i B=some e∧(e=0→d.Kind≠1→∀ y ∈ d.Body,Zk p 39 y):=by
    intro m
    induction m with
    | zero=>intro i B l f; omega
    | succ m u =>
     intro i B l f g1 g2;rw [Ro];by_cases c:i<d.Params.length
     ·have v:0<B.length:=by omega
      rw [if_pos (by omega),sg,List.getElem?_eq_getElem c,Ea,zz v,Ea,Am,Ea,lu,xf (by omega),Ea];refine u (i+1) _ c (by omega) (by simpa using g1) fun w g k t a=>?_;rcases List.mem_or_eq_of_mem_set g with g | rfl
      ·exact g2 w g k t a
      ·rw [tj] at a;split at a
       ·obtain rfl:=Option.some.inj a;exact (b.Eh n _ (List.getElem_mem _)).bare
       ·exact g2 _ (List.getElem_mem _) k t a
     ·rw [if_neg (by omega)];exact j B g1 g2
   exact L (d.Params.length+1) 0 _ (by omega) (by omega) rfl (fun m hm k t a=>by rw [List.mem_singleton.1 hm] at a;cases a)
structure Mm (p:yb) (l:List va):Prop where
 ok:Iz l
 Hc:∀ d ∈ l,ob p.named d.Name=some d
 only:∀ k d,ob p.named k=some d→d ∈ l∧d.Name=k
 nd:l.Pairwise fun a b=>a.Name≠b.Name
 qk:∃ d ∈ l,d.Kind=4
 La:∀ d ∈ l,Jm p d
 cs:∀ d ∈ l,d.Kind≠1→∀ y ∈ d.Body,Zk p 39 y
theorem bA (fu:Nat) (C:500≤fu) (l:List va):∃ p f,nq fu l=some (p,f)∧(f.tg=0→Mm p l):=by
 obtain ⟨f,j,n⟩:=Ax fu (by omega) l;rw [nq,j,Ea];by_cases z:f.tg=0
 ·obtain ⟨-,ok⟩:=n z;have oa:=ok.le;rw [if_neg (by simpa using z)];have D:∀ (N:List (List UInt8×va)),(∀ d ∈ l,ob N d.Name=some d)→(∀ k d,ob N k=some d→d ∈ l∧d.Name=k)→l.Pairwise (fun a b=>a.Name≠b.Name)→(∃ d ∈ l,d.Kind=4)→(∀ d ∈ l,Jm ⟨l,N⟩ d) →
    ∀ (m i:Nat),i≤l.length→l.length<m+i→(∀ d ∈ l.take i,d.Kind≠1→∀ y ∈ d.Body,Zk ⟨l,N⟩ 39 y)→∃ p f,Oo fu l N m i=some (p,f)∧(f.tg=0→Mm p l):=by
   intro N Hd q r s u m
   induction m with
   | zero=>intro i j n; omega
   | succ m o =>
    intro i j n g;rw [Oo];by_cases c:i<l.length
    ·obtain ⟨e,ia,w⟩:=CE fu C ⟨l,N⟩ l[i] (fun k d La=>u d (q k d La).1) (u _ (List.getElem_mem _)) (ok.ok _ (List.getElem_mem _));rw [if_pos (by omega),sg,List.getElem?_eq_getElem c,Ea,ia,Ea];by_cases z:e=0
     ·rw [if_neg (by simpa using z),xf (by omega),Ea];refine o (i+1) c (by omega) fun d La=>?_;rw [List.take_succ_eq_append_getElem c] at La;rcases List.mem_append.1 La with La | La
      ·exact g d La
      ·rw [List.mem_singleton.1 La];exact w z
     ·rw [if_pos z];exact ⟨_,_,rfl,fun h=>absurd h z⟩
    ·rw [if_neg (by omega)];rw [List.take_of_length_le (by omega)] at g;exact ⟨_,_,rfl,fun _=>⟨ok,Hd,q,r,s,u,g⟩⟩
  have E:∀ (N:List (List UInt8×va)),(∀ d ∈ l,ob N d.Name=some d)→(∀ k d,ob N k=some d→d ∈ l∧d.Name=k)→l.Pairwise (fun a b=>a.Name≠b.Name)→(∃ d ∈ l,d.Kind=4) →
    ∀ (m i:Nat),i≤l.length→l.length<m+i→(∀ d ∈ l.take i,Jm ⟨l,N⟩ d)→∃ p f,Po fu l N m i=some (p,f)∧(f.tg=0→Mm p l):=by
   intro N Hd q r s m
   induction m with
   | zero=>intro i j n; omega
   | succ m o =>
    intro i j n g;rw [Po];by_cases c:i<l.length
    ·obtain ⟨e,ia,w⟩:=BE ⟨l,N⟩ l[i] (ok.ok _ (List.getElem_mem _));rw [if_pos (by omega),sg,List.getElem?_eq_getElem c,Ea,ia,Ea];by_cases z:e=0
     ·rw [if_neg (by simpa using z),xf (by omega),Ea];refine o (i+1) c (by omega) fun d La=>?_;rw [List.take_succ_eq_append_getElem c] at La;rcases List.mem_append.1 La with La | La
      ·exact g d La
      ·rw [List.mem_singleton.1 La];exact w z
     ·rw [if_pos z];exact ⟨_,_,rfl,fun h=>absurd h z⟩
    ·rw [if_neg (by omega)];rw [List.take_of_length_le (by omega)] at g;exact D N Hd q r s g (l.length+1) 0 (by omega) (by omega) (by simp)
  have F:∀ (m i:Nat) (t:Int) (N:List (List UInt8×va)),i≤l.length→l.length<m+i→0≤t→t≤i→(t≠0→∃ d ∈ l,d.Kind=4)→(∀ d ∈ l.take i,ob N d.Name=some d)→(∀ k d,ob N k=some d→d ∈ l.take i∧d.Name=k)→(l.take i).Pairwise (fun a b=>a.Name≠b.Name) →
    ∃ p f,Qo fu l m t i N=some (p,f)∧(f.tg=0→Mm p l):=by
   intro m
   induction m with
   | zero=>intro i t N j n; omega
   | succ m o =>
    intro i t N j n g1 g2 g3 g4 g5 g6;rw [Qo];by_cases c:i<l.length
    ·have Xa:at_ l (i:Int)=some l[i]:=by rw [sg,List.getElem?_eq_getElem c]
     rw [if_pos (by omega),Xa,Ea];cases h:ob N l[i].Name with
     | some v=>rw [if_pos (by simp)]; exact ⟨_,_,rfl,fun h=>absurd h (by decide:(7:Int)≠0)⟩
     | none =>
      rw [if_neg (by simp)];simp only [Ea];have hm:l[i] ∈ l:=List.getElem_mem _;have qk:=List.take_succ_eq_append_getElem c;have Jo:∀ d ∈ l.take i,d.Name≠l[i].Name:=fun d La he=>by
       have:=g4 d La;rw [he,h] at this;cases this
      have x:∀ d ∈ l.take (i+1),ob (Nd N l[i].Name l[i]) d.Name=some d:=by
       intro d La;rw [qk] at La;rw [tj];rcases List.mem_append.1 La with La | La
       ·rw [if_neg fun he=>Jo d La he.symm];exact g4 d La
       ·rw [List.mem_singleton.1 La,if_pos rfl]
      have A:∀ k d,ob (Nd N l[i].Name l[i]) k=some d→d ∈ l.take (i+1)∧d.Name=k:=by
       intro k d La;rw [tj] at La;rw [qk];split at La
       ·rename_i G;obtain rfl:=Option.some.inj La;exact ⟨List.mem_append.2 (.inr (List.mem_singleton.2 rfl)),G⟩
       ·obtain ⟨H,K⟩:=g5 k d La;exact ⟨List.mem_append.2 (.inl H),K⟩
      have B:(l.take (i+1)).Pairwise (fun a b=>a.Name≠b.Name):=by
       rw [qk,List.pairwise_append];refine ⟨g6,List.pairwise_singleton _ _,fun a L b M=>?_⟩;rw [List.mem_singleton.1 M];exact Jo a L
      by_cases Xe:l[i].Kind=4
      ·rw [if_pos Xe,xf (by omega),Ea,xf (by omega),Ea];exact o (i+1) (t+1) _ c (by omega) (by omega) (by omega) (fun _=>⟨_,hm,Xe⟩) x A B
      ·rw [if_neg Xe,xf (by omega),Ea];exact o (i+1) t _ c (by omega) g1 (by omega) g3 x A B
    ·rw [if_neg (by omega)];rw [List.take_of_length_le (by omega)] at g4 g5 g6;by_cases t0:t=0
     ·rw [if_pos t0];exact ⟨_,_,rfl,fun h=>absurd h (by decide:(6:Int)≠0)⟩
     ·rw [if_neg t0];exact E N g4 g5 g6 (g3 t0) (l.length+1) 0 (by omega) (by omega) (by simp)
  exact F (l.length+1) 0 0 [] (by omega) (by omega) (by omega) (by omega) (fun h=>absurd rfl h) (by simp) (fun k d h=>by cases h) (by simp)
 ·rw [if_pos z];exact ⟨_,_,rfl,fun h=>absurd h z⟩
end Go.Y
namespace Go.Y
open Go.hc Go.Mc
abbrev Nm:=List UInt8
def Mj:Nat→Va→List Nm
 | 0,_=>[]
 | k+1,x=>(if x.Kind=19∨x.Kind=22 then [x.Name] else [])++(x.Kids.map (Mj k)).flatten
def rk:Nat→Va→List Nm
 | 0,_=>[]
 | k+1,x=>(if x.Kind=20 then [x.Name] else [])++(x.Kids.map (rk k)).flatten
def Hi:Nat→gb→List Nm
 | 0,_=>[]
 | k+1,s=>(if s.Kind=6 then [] else Mj k s.X)++(if s.Kind=3∨s.Kind=4 then (s.Body.map (Hi k)).flatten else [])++(if s.Kind=3 then (s.Ff.map (Hi k)).flatten else [])
def gj:Nat→gb→List Nm
 | 0,_=>[]
 | k+1,s=>(if s.Kind=6 then [] else rk k s.X)++(if s.Kind=3∨s.Kind=4 then (s.Body.map (gj k)).flatten else [])++(if s.Kind=3 then (s.Ff.map (gj k)).flatten else [])
def hj:Nat→gb→List Nm
 | 0,_=>[]
 | k+1,s=>(if s.Kind=7 then [s.Name] else [])++(if s.Kind=3∨s.Kind=4 then (s.Body.map (hj k)).flatten else [])++(if s.Kind=3 then (s.Ff.map (hj k)).flatten else [])
theorem Wk {α β:Type}(f:α→List β) (g:α→Nat) (h:∀ x,(f x).length≤g x):∀ l:List α,(l.map f).flatten.length≤(l.map g).sum
 | []=>by simp
 | x::l=>by
  have:=Wk f g h l;have:=h x;simp only [List.map_cons,List.flatten_cons,List.length_append,List.sum_cons];omega
theorem OC {α:Type}(g:α→Nat):∀ (l:List α) (x:α),x ∈ l→g x≤(l.map g).sum
 | y::l,x,h=>by
  rw [List.map_cons,List.sum_cons];rcases List.mem_cons.1 h with rfl | h
  ·omega
  ·have:=OC g l x h;omega
theorem Qw:∀ (k:Nat) (x:Va),(Mj k x).length≤sj k x
 | 0,x=>by simp [Mj]
 | k+1,x=>by
  have:=Wk (Mj k) (sj k) (Qw k) x.Kids;rw [Mj,sj,List.length_append];split<;>simp only [List.length_cons,List.length_nil]<;>omega
theorem Rw:∀ (k:Nat) (x:Va),(rk k x).length≤sj k x
 | 0,x=>by simp [rk]
 | k+1,x=>by
  have:=Wk (rk k) (sj k) (Rw k) x.Kids;rw [rk,sj,List.length_append];split<;>simp only [List.length_cons,List.length_nil]<;>omega
theorem Ru:∀ (k:Nat) (x:gb),(Hi k x).length≤Hg k x
 | 0,x=>by simp [Hi]
 | k+1,x=>by
  have:=Wk (Hi k) (Hg k) (Ru k) x.Body;have:=Wk (Hi k) (Hg k) (Ru k) x.Ff;have:=Qw k x.X;rw [Hi,Hg,List.length_append,List.length_append];split<;>split<;>split<;>(try simp only [List.length_nil])<;>omega
theorem Su:∀ (k:Nat) (x:gb),(gj k x).length≤Hg k x
 | 0,x=>by simp [gj]
 | k+1,x=>by
  have:=Wk (gj k) (Hg k) (Su k) x.Body;have:=Wk (gj k) (Hg k) (Su k) x.Ff;have:=Rw k x.X;rw [gj,Hg,List.length_append,List.length_append];split<;>split<;>split<;>(try simp only [List.length_nil])<;>omega
theorem Tu:∀ (k:Nat) (x:gb),(hj k x).length≤Hg k x
 | 0,x=>by simp [hj]
 | k+1,x=>by
  have:=Wk (hj k) (Hg k) (Tu k) x.Body;have:=Wk (hj k) (Hg k) (Tu k) x.Ff;rw [hj,Hg,List.length_append,List.length_append];by_cases a:x.Kind=7
  ·rw [if_pos a,if_neg (by omega),if_neg (by omega),if_neg (by omega),if_neg (by omega),if_neg (by omega)];simp
  ·rw [if_neg a];split<;>split<;>split<;>(try simp only [List.length_nil])<;>omega
theorem rp {α:Type}{l xs:List α}(h:l.length+xs.length≤4294967296):app l xs=some (l++xs):=if_pos h
theorem DE:∀ (n k:Nat) (x:Va) (c s r:List Nm),k≤n→Wh k x→c.length+sj k x≤1000000→r.length+sj k x≤1000000→(sq n).Wl c s r x=some (c++Mj k x,s,r++rk k x):=by
 intro n
 induction n with
 | zero =>
  intro k x c s r e a;obtain rfl:k=0:=by omega
  cases a
 | succ n l =>
  intro k x c s r e a o p;cases k with
  | zero=>cases a
  | succ k =>
  obtain ⟨k1,w,t,u⟩:=a;show Wl (sq n) c s r x=_;have L:∀ (m i:Nat) (c r:List Nm),i≤x.Kids.length→x.Kids.length<m+i→c.length+((x.Kids.drop i).map (sj k)).sum≤1000000→r.length+((x.Kids.drop i).map (sj k)).sum≤1000000 →
    Rs (sq n) x m i c s r=some (c++((x.Kids.drop i).map (Mj k)).flatten,s,r++((x.Kids.drop i).map (rk k)).flatten):=by
   intro m
   induction m with
   | zero=>intro i c r e a; omega
   | succ m v =>
    intro i c r g1 g2 g3 g4;rw [Rs];have oa:=t.le;by_cases q:i<x.Kids.length
    ·rw [List.drop_eq_getElem_cons q,List.map_cons,List.sum_cons] at g3 g4;have za:=Qw k x.Kids[i];have Vd:=Rw k x.Kids[i];rw [if_pos (by omega),sg,List.getElem?_eq_getElem q,Ea,l k x.Kids[i] c s r (by omega) (u _ (List.getElem_mem _)) (by omega) (by omega),Ea,xf (by omega),Ea];refine (v (i+1) _ _ q (by omega) (by simp only [List.length_append];omega) (by simp only [List.length_append];omega)).trans ?_;rw [List.drop_eq_getElem_cons q];simp only [List.map_cons,List.flatten_cons,List.append_assoc]
    ·rw [if_neg (by omega),List.drop_eq_nil_of_le (by omega)];simp
  have d:∀ c r:List Nm,c.length+(x.Kids.map (sj k)).sum≤1000000→r.length+(x.Kids.map (sj k)).sum≤1000000→yr (sq n) x s c r=some (c++(x.Kids.map (Mj k)).flatten,s,r++(x.Kids.map (rk k)).flatten):=by
   intro c r g1 g2;have:=L (x.Kids.length+1) 0 c r (by omega) (by omega) (by simpa using g1) (by simpa using g2);simpa [yr] using this
  rw [sj] at o p;have f:∀ b,(b=true ↔ x.Kind=19∨x.Kind=22)→Ss (sq n) c x s r b=some (c++Mj (k+1) x,s,r++rk (k+1) x):=by
   intro b g;rw [Ss,Mj,rk];by_cases q:b=true
   ·have:=g.1 q;rw [if_pos q,rp (by simp;omega),Ea,Fv,d _ _ (by simp;omega) (by omega),if_pos this,if_neg (by omega)];simp
   ·rw [if_neg q];have j:¬ (x.Kind=19∨x.Kind=22):=fun h=>q (g.2 h);by_cases c20:x.Kind=20
    ·rw [if_pos c20,rp (by simp;omega),Ea,Gv,d _ _ (by omega) (by simp;omega),if_neg j,if_pos c20];simp
    ·rw [if_neg c20,d _ _ (by omega) (by omega),if_neg j,if_neg c20];simp
  rw [Wl];split
  ·rename_i h;exact f _ (by simp [h])
  ·rename_i h;exact f _ (by simp [h])
theorem hE:∀ (n k:Nat) (l:List gb) (c s r:List Nm),k+1≤n→l.length≤50→(∀ y ∈ l,xl k y)→c.length+(l.map (Hg k)).sum≤1000000→s.length+(l.map (Hg k)).sum≤1000000→r.length+(l.map (Hg k)).sum≤1000000 →
  (Uk n).vk c s r l=some (c++(l.map (Hi k)).flatten,s++(l.map (hj k)).flatten,r++(l.map (gj k)).flatten):=by
 intro n
 induction n with
 | zero=>intro k l c s r t; omega
 | succ n u =>
  intro k l c s r t oa D g E F;show vk n (Uk n) c s r l=_;have L:∀ (m i:Nat) (c s r:List Nm),i≤l.length→l.length<m+i→c.length+((l.drop i).map (Hg k)).sum≤1000000→s.length+((l.drop i).map (Hg k)).sum≤1000000→r.length+((l.drop i).map (Hg k)).sum≤1000000 →
    sk n (Uk n) l m i c s r=some (c++((l.drop i).map (Hi k)).flatten,s++((l.drop i).map (hj k)).flatten,r++((l.drop i).map (gj k)).flatten):=by
   intro m
   induction m with
   | zero=>intro i c s r t M; omega
   | succ m G =>
    intro i c s r g1 g2 g3 g4 g5;rw [sk];by_cases q:i<l.length
    ·rw [List.drop_eq_getElem_cons q,List.map_cons,List.sum_cons] at g3 g4 g5;rw [if_pos (by omega),sg,List.getElem?_eq_getElem q,Ea];have v:=D _ (List.getElem_mem q);have za:=Ru k l[i];have Vd:=Tu k l[i];have Ub:=Su k l[i];have Eb:=fun c' a r' (ia:c'=c++Hi k l[i]) (d:a=s++hj k l[i]) (e:r'=r++gj k l[i]) =>
      (G (i+1) c' a r' q (by omega) (by rw [ia,List.length_append];omega) (by rw [d,List.length_append];omega) (by rw [e,List.length_append];omega)).trans
       (show _=some (c++((l.drop i).map (Hi k)).flatten,s++((l.drop i).map (hj k)).flatten,r++((l.drop i).map (gj k)).flatten) by
        rw [List.drop_eq_getElem_cons q,ia,d,e];simp only [List.map_cons,List.flatten_cons,List.append_assoc])
     generalize l[i]=y at *;cases k with
     | zero=>cases v
     | succ k =>
     obtain ⟨k1,N,H,w,x⟩:=v;rw [Hg] at g3 g4 g5;rw [Hi] at za Eb;rw [hj] at Vd Eb;rw [gj] at Ub Eb;have z:∀ c' a r',(y.Kind=3→c'.length+(y.Ff.map (Hg k)).sum≤1000000∧a.length+(y.Ff.map (Hg k)).sum≤1000000∧r'.length+(y.Ff.map (Hg k)).sum≤1000000) →
       c'=c++((if y.Kind=6 then [] else Mj k y.X)++(if y.Kind=3∨y.Kind=4 then (y.Body.map (Hi k)).flatten else []))→a=s++((if y.Kind=7 then [y.Name] else [])++(if y.Kind=3∨y.Kind=4 then (y.Body.map (hj k)).flatten else [])) →
       r'=r++((if y.Kind=6 then [] else rk k y.X)++(if y.Kind=3∨y.Kind=4 then (y.Body.map (gj k)).flatten else [])) →
       Is (Uk n) i y (sk n (Uk n) l m) c' a r'=some (c++((l.drop i).map (Hi (k+1))).flatten,s++((l.drop i).map (hj (k+1))).flatten,r++((l.drop i).map (gj (k+1))).flatten):=by
      intro c' a r' j ia d e;rw [Is];by_cases c3:y.Kind=3
      ·obtain ⟨K,z2,z3⟩:=j c3;rw [if_pos c3,u k y.Ff c' a r' (by omega) (x c3).1 (x c3).2 K z2 z3,Ea,xf (by omega),Ea];refine Eb _ _ _ ?_ ?_ ?_
       ·rw [ia];simp only [if_pos c3,List.append_assoc]
       ·rw [d];simp only [if_pos c3,List.append_assoc]
       ·rw [e];simp only [if_pos c3,List.append_assoc]
      ·rw [if_neg c3,xf (by omega),Ea];refine Eb _ _ _ ?_ ?_ ?_
       ·rw [ia];simp only [if_neg c3,List.append_nil]
       ·rw [d];simp only [if_neg c3,List.append_nil]
       ·rw [e];simp only [if_neg c3,List.append_nil]
     have A:∀ c' a r' b,(b=true ↔ y.Kind=3∨y.Kind=4)→c'=c++(if y.Kind=6 then [] else Mj k y.X)→a=s++(if y.Kind=7 then [y.Name] else [])→r'=r++(if y.Kind=6 then [] else rk k y.X) →
       Js (Uk n) i y c' a r' (sk n (Uk n) l m) b=some (c++((l.drop i).map (Hi (k+1))).flatten,s++((l.drop i).map (hj (k+1))).flatten,r++((l.drop i).map (gj (k+1))).flatten):=by
      intro c' a r' b j ia d e;rw [Js];have O:=Qw k y.X;have P:=Rw k y.X;have Q:=Wk (Hi k) (Hg k) (Ru k) y.Body;have R:=Wk (hj k) (Hg k) (Tu k) y.Body;have S:=Wk (gj k) (Hg k) (Su k) y.Body;by_cases q:b=true
      ·have f:=j.1 q;rw [if_neg (show y.Kind≠6 by omega),if_pos f] at g3 g4 g5;rw [if_neg (show y.Kind≠6 by omega)] at ia e;rw [if_neg (show y.Kind≠7 by omega)] at d;have T:c'.length=c.length+(Mj k y.X).length:=by rw [ia,List.length_append]
       have U:a.length=s.length:=by rw [d];simp
       have V:r'.length=r.length+(rk k y.X).length:=by rw [e,List.length_append]
       rw [if_pos q,u k y.Body c' a r' (by omega) (w f).1 (w f).2 (by omega) (by omega) (by omega),Ea];refine z _ _ _ (fun g=>?_) ?_ ?_ ?_
       ·rw [if_pos g] at g3 g4 g5;simp only [List.length_append];omega
       ·rw [ia,if_neg (show y.Kind≠6 by omega),if_pos f,List.append_assoc]
       ·rw [d,if_neg (show y.Kind≠7 by omega),if_pos f,List.append_assoc]
       ·rw [e,if_neg (show y.Kind≠6 by omega),if_pos f,List.append_assoc]
      ·have o:¬ (y.Kind=3∨y.Kind=4):=fun h=>q (j.2 h);rw [if_neg q];refine z _ _ _ (fun g=>absurd (.inl g) o) ?_ ?_ ?_
       ·rw [ia,if_neg o,List.append_nil]
       ·rw [d,if_neg o,List.append_nil]
       ·rw [e,if_neg o,List.append_nil]
     have B:∀ a,a=s++(if y.Kind=7 then [y.Name] else [])→Ls n (Uk n) i c r y (sk n (Uk n) l m) a=some (c++((l.drop i).map (Hi (k+1))).flatten,s++((l.drop i).map (hj (k+1))).flatten,r++((l.drop i).map (gj (k+1))).flatten):=by
      intro a d;have C:∀ c' r',c'=c++(if y.Kind=6 then [] else Mj k y.X)→r'=r++(if y.Kind=6 then [] else rk k y.X)→Ks (Uk n) i y (sk n (Uk n) l m) c' a r'=some (c++((l.drop i).map (Hi (k+1))).flatten,s++((l.drop i).map (hj (k+1))).flatten,r++((l.drop i).map (gj (k+1))).flatten):=by
       intro c' r' ia e;rw [Ks];split
       ·rename_i h;exact A _ _ _ _ (by simp [h]) ia d e
       ·rename_i h;exact A _ _ _ _ (by simp [h]) ia d e
      rw [Ls];by_cases Me:y.Kind=6
      ·rw [if_neg (by simpa using Me)];exact C _ _ (by rw [if_pos Me,List.append_nil]) (by rw [if_pos Me,List.append_nil])
      ·rw [if_neg Me] at g3 g4 g5;rw [if_pos Me,DE n k y.X c a r (by omega) (H Me) (by omega) (by omega),Ea];exact C _ _ (by rw [if_neg Me]) (by rw [if_neg Me])
     by_cases p:y.Kind=7
     ·rw [if_pos p,rp (by simp;omega),Ea,zv];exact B _ (by rw [if_pos p])
     ·rw [if_neg p];exact B _ (by rw [if_neg p,List.append_nil])
    ·rw [if_neg (by omega),List.drop_eq_nil_of_le (by omega)];simp
  rw [vk];have:=L (l.length+1) 0 c s r (by omega) (by omega) (by simpa using g) (by simpa using E) (by simpa using F);simpa using this
end Go.Y
namespace Go.Y
open Go.hc Go.Mc
theorem mw {α β:Type}{f:α→List β}{l:List α}{b:β}(h:b ∈ (l.map f).flatten):∃ a ∈ l,b ∈ f a:=by
 obtain ⟨q,c,d⟩:=List.mem_flatten.1 h;obtain ⟨a,e,rfl⟩:=List.mem_map.1 c;exact ⟨a,e,d⟩
theorem vw {β:Type}{c:Prop}[Decidable c]{l m:List β}{b:β}(h:b ∈ (if c then l else m)):(c∧b ∈ l)∨(¬ c∧b ∈ m):=by
 by_cases q:c
 ·rw [if_pos q] at h;exact .inl ⟨q,h⟩
 ·rw [if_neg q] at h;exact .inr ⟨q,h⟩
theorem dC {p:yb}:∀ (k:Nat) (x:Va),Calls p k x→∀ c ∈ Mj k x,∃ d,ob p.named c=some d∧(d.Kind=2∨d.Kind=3)
 | 0,x,h=>by cases h
 | k+1,x,h=>by
  obtain ⟨f,g,m,i⟩:=h;intro c b;rw [Mj] at b;rcases List.mem_append.1 b with b | b
  ·rcases vw b with ⟨q,b⟩ | ⟨q,b⟩
   ·rw [List.mem_singleton.1 b];rcases q with q | q
    ·obtain ⟨d,ia,e⟩:=f q;exact ⟨d,ia,.inl e⟩
    ·obtain ⟨d,ia,e⟩:=g q;exact ⟨d,ia,.inr e⟩
   ·cases b
  ·obtain ⟨a,j,l⟩:=mw b;exact dC k a (i a j) c l
theorem Xx {p:yb}:∀ (k:Nat) (x:gb),Zk p k x→∀ c ∈ Hi k x,∃ d,ob p.named c=some d∧(d.Kind=2∨d.Kind=3)
 | 0,x,h=>by cases h
 | k+1,x,h=>by
  obtain ⟨g,i,j,l⟩:=h;intro c b;rw [Hi] at b;rcases List.mem_append.1 b with b | b
  ·rcases List.mem_append.1 b with b | b
   ·rcases vw b with ⟨q,b⟩ | ⟨q,b⟩
    ·cases b
    ·exact dC k _ (g q) c b
   ·rcases vw b with ⟨q,b⟩ | ⟨q,b⟩
    ·obtain ⟨a,e,f⟩:=mw b;exact Xx k a (i q a e) c f
    ·cases b
  ·rcases vw b with ⟨q,b⟩ | ⟨q,b⟩
   ·obtain ⟨a,e,f⟩:=mw b;exact Xx k a (j q a e) c f
   ·cases b
def Si (d:va):List Nm:=(d.Body.map (Hi 39)).flatten
def Lo (d:va):List Nm:=(d.Body.map (hj 39)).flatten
def Mo (d:va):List Nm:=(d.Body.map (gj 39)).flatten
def Fj (N:List (Nm×va)):List Nm→List Nm→List (Option va)→List Nm×List (Option va)
 | [],a,todo=>(a,todo)
 | c::cs,a,todo=>if a.contains c=true then Fj N cs a todo else Fj N cs (a++[c]) (todo++[ob N c])
def tm (N:List (Nm×va)):Nat→List Nm→List (Option va)→List Nm→List Nm→Option kf
 | 0,_,_,_,_=>none
 | n+1,a,[],s,r=>some ⟨[],s,r⟩
 | n+1,a,none::t,s,r=>none
 | n+1,a,some d::t,s,r=>tm N n (Fj N (Si d) a t).1 (Fj N (Si d) a t).2 (s++Lo d) (r++Mo d)
def av (l:List va) (a:List Nm):Nat:=(l.filter fun d=>!a.contains d.Name).length
theorem filter_le {α:Type}(P Q:α→Bool) (h:∀ x,Q x=true→P x=true):∀ l:List α,(l.filter Q).length≤(l.filter P).length
 | []=>by simp
 | x::l=>by
  have a:=filter_le P Q h l;rw [List.filter_cons,List.filter_cons];by_cases q:Q x=true
  ·rw [if_pos q,if_pos (h x q),List.length_cons,List.length_cons];omega
  ·rw [if_neg q];split
   ·rw [List.length_cons];omega
   ·exact a
theorem filter_lt {α:Type}(P Q:α→Bool) (h:∀ x,Q x=true→P x=true):∀ (l:List α) (x:α),x ∈ l→P x=true→Q x=false→(l.filter Q).length<(l.filter P).length
 | y::l,x,a,b,c=>by
  have le:=filter_le P Q h l;rw [List.filter_cons,List.filter_cons];rcases List.mem_cons.1 a with rfl | a
  ·rw [if_pos b,if_neg (by simp [c]),List.length_cons];omega
  ·have d:=filter_lt P Q h l x a b c;by_cases q:Q y=true
   ·rw [if_pos q,if_pos (h y q),List.length_cons,List.length_cons];omega
   ·rw [if_neg q];split
    ·rw [List.length_cons];omega
    ·exact d
theorem bI (l:List va) (a:List Nm) (d:va) (La:d ∈ l) (h:a.contains d.Name=false):av l (a++[d.Name])<av l a:=by
 refine filter_lt _ _ (fun x b=>?_) l d La (by simpa using h) (by simp);simp only [Bool.not_eq_true',List.contains_eq_mem,List.mem_append,decide_eq_false_iff_not] at b ⊢;exact fun h=>b (.inl h)
structure cv (p:yb) (l:List va) (a:List Nm) (todo:List (Option va)) (q:Nat):Prop where
 oa:a.length+av l a≤30
 Rz:∀ o ∈ todo,∃ d ∈ l,o=some d∧d.Kind≠1
 q:av l a+todo.length≤q
theorem xw {p:yb}{l:List va}(R:Mm p l):∀ (cs:List Nm) (a:List Nm) (todo:List (Option va)) (q:Nat),(∀ c ∈ cs,∃ d,ob p.named c=some d∧(d.Kind=2∨d.Kind=3))→cv p l a todo q→cv p l (Fj p.named cs a todo).1 (Fj p.named cs a todo).2 q
 | [],a,todo,q,h,T=>T
 | c::cs,a,todo,q,h,T=>by
  rw [Fj];have e:∀ c ∈ cs,∃ d,ob p.named c=some d∧(d.Kind=2∨d.Kind=3):=fun c f=>h c (List.mem_cons_of_mem _ f);by_cases k:a.contains c=true
  ·rw [if_pos k];exact xw R cs a todo q e T
  ·rw [if_neg k];obtain ⟨d,ia,i⟩:=h c (List.mem_cons_self ..);obtain ⟨m1,m2⟩:=R.only _ _ ia;have g:=bI l a d m1 (by rw [m2];simpa using k);rw [m2] at g;refine xw R cs _ _ q e ⟨?_,fun o b=>?_,?_⟩
   ·rw [List.length_append,List.length_singleton];have:=T.oa;omega
   ·rcases List.mem_append.1 b with b | b
    ·exact T.Rz o b
    ·rw [List.mem_singleton.1 b];exact ⟨d,m1,ia,by omega⟩
   ·rw [List.length_append,List.length_singleton];have:=T.q;omega
theorem gF {p:yb}{l:List va}(R:Mm p l) (u:List Nm×List Nm×List Nm) (s r:List Nm) (K:List Nm→List (Option va)→List Nm→List Nm→Option kf) (hu:∀ c ∈ u.1,∃ d,ob p.named c=some d∧(d.Kind=2∨d.Kind=3)) (oa:u.1.length≤1000000) :
  ∀ (m i:Nat) (a:List Nm) (todo:List (Option va)) (q:Nat),i≤u.1.length→u.1.length<m+i→q≤1000→cv p l a todo q →
   tr p u s r K m i a todo=K (Fj p.named (u.1.drop i) a todo).1 (Fj p.named (u.1.drop i) a todo).2 s r:=by
 intro m
 induction m with
 | zero=>intro i a todo q g h; omega
 | succ m b =>
  intro i a todo q g h e T;rw [tr];by_cases c:i<u.1.length
  ·rw [if_pos (by omega),sg,List.getElem?_eq_getElem c,Ea,List.drop_eq_getElem_cons c,Fj];have j:=hu _ (List.getElem_mem c);by_cases k:a.contains u.1[i]=true
   ·rw [if_pos k,if_pos k,xf (by omega),Ea];exact b (i+1) a todo q c (by omega) e T
   ·have o:=T.oa;have t:=T.q;have f:=xw R [u.1[i]] a todo q (fun c n=>by rw [List.mem_singleton.1 n];exact j) T;rw [Fj,if_neg k,Fj] at f;rw [if_neg k,if_neg k,rp (by simp;omega),Ea,rp (by simp;omega),Ea,xf (by omega),Ea];exact b (i+1) _ _ q c (by omega) e f
  ·rw [if_neg (by omega),List.drop_eq_nil_of_le (by omega)];rfl
theorem UF {p:yb}{l:List va}(R:Mm p l) (fu:Nat) (c:500≤fu) (d:va) (La:d ∈ l) (a:d.Kind≠1):(Uk fu).vk [] [] [] d.Body=some (Si d,Lo d,Mo d)∧(Si d).length≤2000∧(Lo d).length≤2000∧(Mo d).length≤2000:=by
 have ok:=R.ok.ok d La;have b:Np d≤2000:=Nat.le_trans (OC Np l d La) R.ok.n;rw [Np,if_pos a] at b;have:=hE fu 39 d.Body [] [] [] (by omega) (ok.Yd a) (ok.au a) (by simp;omega) (by simp;omega) (by simp;omega);have na:=Wk (Hi 39) (Hg 39) (Ru 39) d.Body;have a2:=Wk (hj 39) (Hg 39) (Tu 39) d.Body;have a3:=Wk (gj 39) (Hg 39) (Su 39) d.Body;exact ⟨by rw [this];rfl,by rw [Si];omega,by rw [Lo];omega,by rw [Mo];omega⟩
theorem hF {p:yb}{l:List va}(R:Mm p l) (fu:Nat) (h:500≤fu):∀ (n q:Nat) (b:List Nm) (todo:List (Option va)) (s r:List Nm),q<n→q≤1000→cv p l b todo q→s.length+2000*q≤1000000000→r.length+2000*q≤1000000000 →
  Sp fu p n b todo s r=tm p.named n b todo s r∧(∃ u,tm p.named n b todo s r=some u∧u.calls=[]):=by
 intro n
 induction n with
 | zero=>intro q b todo s r i; omega
 | succ n j =>
  intro q b todo s r i A T za Vd;rw [Sp];cases todo with
  | nil=>exact ⟨by rw [if_neg (by simp)]; rfl,_,rfl,rfl⟩
  | cons o t =>
   obtain ⟨d,La,rfl,k1⟩:=T.Rz o (List.mem_cons_self ..);obtain ⟨nh,ud,B,C⟩:=UF R fu h d La k1;have k:=T.q;have m:=T.oa;rw [List.length_cons] at k;have ia:at_ (some d::t) 0=some (some d):=rfl;have v:cut (some d::t) 1 ((some d::t).length:Int)=some t:=by
    rw [cut,if_pos (by simp;omega)];simp
   have e:∀ c ∈ Si d,∃ f,ob p.named c=some f∧(f.Kind=2∨f.Kind=3):=fun c e=>by
    obtain ⟨a,w,x⟩:=mw e;exact Xx 39 a (R.cs d La k1 a w) c x
   have g:cv p l b t (q - 1):=⟨m,fun o y=>T.Rz o (List.mem_cons_of_mem _ y),by omega⟩;have z:=xw R (Si d) b t (q - 1) e g;rw [if_pos (by simp),ia,Ea,v,Ea,Ea,nh,Ea,rp (by simp only [];omega),Ea,rp (by simp only [];omega),Ea,Av];rw [show ((0:Int))=((0:Nat):Int) from rfl,gF R (Si d,Lo d,Mo d) _ _ _ e (by simp only [];omega) _ 0 b t (q - 1) (by omega) (by simp only [];omega) (by omega) g,List.drop_zero];rw [tm];exact j (q - 1) _ _ (s++Lo d) (r++Mo d) (by omega) (by omega) z (by rw [List.length_append];omega) (by rw [List.length_append];omega)
theorem eC {p:yb}{l:List va}(R:Mm p l) (fu:Nat) (a:500≤fu) (d:va) (La:d ∈ l) (b:d.Kind≠1):Pv fu p d=tm p.named fu [] [some d] [] []∧(∃ u,tm p.named fu [] [some d] [] []=some u∧u.calls=[]):=by
 have c:av l []≤30:=Nat.le_trans (List.length_filter_le _ _) R.ok.le;exact hF R fu a fu 31 [] [some d] [] [] (by omega) (by omega) ⟨by simpa using c,fun o e=>by rw [List.mem_singleton.1 e];exact ⟨d,La,rfl,b⟩,by simp;omega⟩ (by simp) (by simp)
def yl:kf:=⟨[],[],[]⟩
def vn (L:List (Nm×kf)) (b:Nm):List va→Nm→Nm→Option (Nm×Nm)
 | [],w,r=>some (w,r)
 | t::sa,w,r=>if t.Kind≠4 then vn L b sa w r else
   if ((ob L t.Name).getD yl).Qj.contains b=true∧w≠[] then none else
   if ((ob L t.Name).getD yl).uj.contains b=true∧r≠[] then none else
   vn L b sa (if ((ob L t.Name).getD yl).Qj.contains b=true then t.Name else w) (if ((ob L t.Name).getD yl).uj.contains b=true then t.Name else r)
def Cp (L:List (Nm×kf)) (l:List va):List va→Int→List Ah→List Ah×Fe
 | [],i,acc=>(acc,⟨0,0⟩)
 | x::xs,i,acc=>if x.Kind≠1 then Cp L l xs (i+1) acc else
   match vn L x.Name l [] [] with
   | none=>([],⟨8,i⟩)
   | some (w,r)=>Cp L l xs (i+1) (acc++[⟨x.Name,w,r⟩])
def Tj (N:List (Nm×va)) (fu:Nat):List va→List (Nm×kf)→List (Nm×kf)
 | [],L=>L
 | d::ds,L=>if d.Kind=4 then Tj N fu ds (Nd L d.Name ((tm N fu [] [some d] [] []).getD yl)) else Tj N fu ds L
theorem EG (l:List va) (oa:l.length≤30) (L:List (Nm×kf)) (i:Int) (acc:List Ah) (x:va) (K:Int→List Ah→Option (List Ah×Fe)) (f:0≤i∧i≤1000) (g:acc.length≤1000) :
  ∀ (m j:Nat) (w r:Nm),j≤l.length→l.length<m+j→Zm l L i acc x K m j w r=match vn L x.Name (l.drop j) w r with | none=>some ([],⟨8,i⟩) | some (w',r')=>K (i+1) (acc++[⟨x.Name,w',r'⟩]):=by
 intro m
 induction m with
 | zero=>intro j w r b d; omega
 | succ m e =>
  intro j w r b d;rw [Zm];by_cases c:j<l.length
  ·rw [if_pos (by omega),sg,List.getElem?_eq_getElem c,Ea,List.drop_eq_getElem_cons c,vn];have Xa:(kf.mk [] [] [])=yl:=rfl;have Eb:=fun w r=>e (j+1) w r c (by omega);generalize l[j]=t at *;by_cases Xe:t.Kind≠4
   ·rw [if_pos Xe,if_pos Xe,xf (by omega),Ea];exact Eb w r
   ·rw [if_neg Xe,if_neg Xe,Xa];have a:∀ w',Hs L i x j r t (Zm l L i acc x K m) w'=if ((ob L t.Name).getD yl).uj.contains x.Name=true∧r≠[] then some ([],⟨8,i⟩) else
      match vn L x.Name (l.drop (j+1)) w' (if ((ob L t.Name).getD yl).uj.contains x.Name=true then t.Name else r) with | none=>some ([],⟨8,i⟩) | some (w',r')=>K (i+1) (acc++[⟨x.Name,w',r'⟩]):=by
     intro w';rw [Hs,Xa];by_cases q:((ob L t.Name).getD yl).uj.contains x.Name=true
     ·rw [if_pos q];by_cases z:r≠[]
      ·rw [if_pos z,if_pos ⟨q,z⟩]
      ·rw [if_neg z,if_neg (fun h=>z h.2),if_pos q,Gs,xf (by omega),Ea];exact Eb _ _
     ·rw [if_neg q,if_neg (fun h=>q h.1),if_neg q,Gs,xf (by omega),Ea];exact Eb _ _
    by_cases q:((ob L t.Name).getD yl).Qj.contains x.Name=true
    ·rw [if_pos q];by_cases z:w≠[]
     ·rw [if_pos z,if_pos ⟨q,z⟩]
     ·rw [if_neg z,if_neg (fun h=>z h.2),if_pos q,a];split<;>rfl
    ·rw [if_neg q,if_neg (fun h=>q h.1),if_neg q,a];split<;>rfl
  ·rw [if_neg (by omega),List.drop_eq_nil_of_le (by omega),rp (by simp;omega),Ea,xf (by omega),Ea];rfl
theorem FG (l:List va) (oa:l.length≤30) (L:List (Nm×kf)):∀ (m i:Nat) (acc:List Ah),i≤l.length→l.length<m+i→acc.length≤i→Ln l L m i acc=some (Cp L l (l.drop i) i acc):=by
 intro m
 induction m with
 | zero=>intro i acc b d; omega
 | succ m a =>
  intro i acc b d e;rw [Ln];by_cases c:i<l.length
  ·rw [if_pos (by omega),sg,List.getElem?_eq_getElem c,Ea,List.drop_eq_getElem_cons c,Cp];by_cases k1:l[i].Kind≠1
   ·rw [if_pos k1,if_pos k1,xf (by omega),Ea];exact a (i+1) acc c (by omega) (by omega)
   ·rw [if_neg k1,if_neg k1,show ((0:Int))=((0:Nat):Int) from rfl,EG l oa L i acc l[i] _ (by omega) (by omega) _ 0 [] [] (by omega) (by omega),List.drop_zero];cases h:vn L l[i].Name l [] [] with
    | none=>rfl
    | some v=>exact a (i+1) _ c (by omega) (by simp; omega)
  ·rw [if_neg (by omega),List.drop_eq_nil_of_le (by omega)];rfl
theorem GG {p:yb}{l:List va}(R:Mm p l) (fu:Nat) (b:500≤fu) (f:Fe):∀ (m i:Nat) (L:List (Nm×kf)),i≤l.length→l.length<m+i→Qp fu l (p,f) m i L=some (Cp (Tj p.named fu (l.drop i) L) l l 0 []):=by
 have oa:=R.ok.le;intro m
 induction m with
 | zero=>intro i L d e; omega
 | succ m a =>
  intro i L d e;rw [Qp];by_cases c:i<l.length
  ·have Xa:at_ l (i:Int)=some l[i]:=by rw [sg,List.getElem?_eq_getElem c]
   rw [if_pos (by omega),Xa,Ea,List.drop_eq_getElem_cons c,Tj];by_cases Xe:l[i].Kind=4
   ·obtain ⟨g,u,h,-⟩:=eC R fu b l[i] (List.getElem_mem _) (by omega);rw [if_pos Xe,if_pos Xe];simp only [Ea];rw [g,h,Ea,wv,xf (by omega),Ea];exact a (i+1) _ c (by omega)
   ·rw [if_neg Xe,if_neg Xe,xf (by omega),Ea];exact a (i+1) L c (by omega)
  ·rw [if_neg (by omega),List.drop_eq_nil_of_le (by omega)];exact FG l oa L (l.length+1) 0 [] (by omega) (by omega) (by simp)
theorem Wz (fu:Nat) (a:500≤fu) (l:List va):∃ p f,nq fu l=some (p,f)∧((f.tg≠0∧Ys fu l=some ([],f))∨(f.tg=0∧Mm p l∧Ys fu l=some (Cp (Tj p.named fu l []) l l 0 []))):=by
 obtain ⟨p,f,b,c⟩:=bA fu a l;refine ⟨p,f,b,?_⟩;rw [Ys,b,Ea];by_cases z:f.tg=0
 ·rw [if_neg (by simpa using z)];exact .inr ⟨z,c z,GG (c z) fu a f (l.length+1) 0 [] (by omega) (by omega)⟩
 ·rw [if_pos z];exact .inl ⟨z,rfl⟩
end Go.Y
namespace Go.Y
open Go.hc Go.Mc
abbrev ov:=List UInt8
def um (w:ov):Prop:=∀ fu,20≤fu→Hh fu w=some true
def iv:Nat→Va→Prop
 | 0,_=>False
 | k+1,x=>1≤x.Kind∧x.Kind≤24∧My x∧(x.Kind=1→0≤x.N∧x.N≤999999999999999)∧(x.Kind=2→x.N=0∨x.N=1)∧((x.Kind=3∨x.Kind=20∨x.Kind=19∨x.Kind=22)→um x.Name)∧∀ y ∈ x.Kids,iv k y
def zs:Nat→gb→Prop
 | 0,_=>False
 | k+1,s=>1≤s.Kind∧s.Kind≤9∧(s.Kind≠6→iv k s.X)∧((s.Kind=1∨s.Kind=2∨s.Kind=7)→um s.Name)∧((s.Kind=3∨s.Kind=4)→s.Body.length≤50∧∀ y ∈ s.Body,zs k y)∧(s.Kind=3→s.Ff.length≤50∧∀ y ∈ s.Ff,zs k y)
def Ip (t:Ya):Prop:=Rm t∧(t.Kind=3→um t.Gc)
structure ir (d:va):Prop where
 k1:1≤d.Kind
 Xe:d.Kind≤4
 Hc:um d.Name
 Eh:d.Kind=2∨d.Kind=3→d.Params.length≤6∧∀ q ∈ d.Params,um q.Name∧Ip q.ic
 qk:d.Kind=3→Ip d.se
 ty:d.Kind≠4→Ip d.ic
 wi:d.Kind=1→1≤d.gf∧d.gf≤20
 au:d.Kind≠1→d.Body.length≤50∧∀ y ∈ d.Body,zs 39 y
theorem um.Jo {w:ov}(h:um w):w≠[]:=fun e=>by have:=h 20 (Nat.le_refl _);rw [e] at this;revert this;decide
theorem vh {α β:Type}{o:Option α}{f:α→Option β}{r:β}(h:Option.bind o f=some r):∃ x,o=some x∧f x=some r:=ra h
theorem iF {w:ov}{p:UInt8→Option Bool}:∀ (m a:Nat) (i r:Int),m≤a→Ul w p m i=some r→Ul w p a i=some r:=by
 intro m
 induction m with
 | zero=>intro a i r h g; cases g
 | succ m f =>
  intro a i r h g;obtain ⟨a,rfl⟩:∃ q,a=q+1:=⟨a - 1,by omega⟩;rw [Ul] at g ⊢;have d:∀ b,fq i (Ul w p m) b=some r→fq i (Ul w p a) b=some r:=by
   intro b g;rw [fq] at g ⊢;split
   ·rename_i c;rw [if_pos c] at g;obtain ⟨x,e,g⟩:=vh g;rw [e,Ea];exact f a x r (by omega) g
   ·rename_i c;rw [if_neg c] at g;exact g
  split
  ·rename_i c;rw [if_pos c] at g;obtain ⟨x,e,g⟩:=vh g;obtain ⟨y,j,g⟩:=vh g;rw [e,Ea,j,Ea];exact d y g
  ·rename_i c;rw [if_neg c] at g;exact d _ g
theorem KA {fu a:Nat}(h:fu≤a){w:ov}{b:Bool}(g:Hh fu w=some b):Hh a w=some b:=by
 have d:∀ c,an fu w c=some b→an a w c=some b:=by
  intro c g;rw [an] at g ⊢;split
  ·rename_i q;rw [if_pos q] at g;exact g
  ·rename_i q;rw [if_neg q] at g;obtain ⟨x,e,g⟩:=vh g;have:Cr a w Lq=some x:=iF fu a 0 x h e;rw [this,Ea];exact g
 rw [Hh] at g ⊢;split
 ·rename_i q;rw [if_pos q] at g;exact d _ g
 ·rename_i q;rw [if_neg q] at g;split
  ·rename_i q;rw [if_pos q] at g;exact d _ g
  ·rename_i q;rw [if_neg q] at g;obtain ⟨x,e,g⟩:=vh g;obtain ⟨y,f,g⟩:=vh g;rw [e,Ea,f,Ea];split
   ·rename_i q;rw [if_pos q] at g;obtain ⟨s1,ia,g⟩:=vh g;obtain ⟨s2,i,g⟩:=vh g;obtain ⟨Ub,j,g⟩:=vh g;rw [ia,Ea,i,Ea,j,Ea];exact d _ g
   ·rename_i q;rw [if_neg q] at g;exact d _ g
theorem At {fu:Nat}(d:20≤fu){w:ov}(h:Hh fu w=some true):um w:=by
 intro f e;obtain ⟨b,a⟩:=bt 20 (Nat.le_refl _) w;have c:=KA d a;rw [h] at c;obtain rfl:=Option.some.inj c;exact KA e a
section
variable {fu:Nat}{self:Bm}{x:Va}{d node k:Int}
theorem EE:∀ (m i:Nat) (c:Int),x.Kids.length≤6→tk self x d m i c=some (0,k)→∀ j (b:j<x.Kids.length),i≤j→∃ c' a k',self.Ui c' x.Kids[j] a=some (0,k'):=by
 intro m
 induction m with
 | zero=>intro i c _ h; cases h
 | succ m e =>
  intro i c oa h j b n;rw [tk,if_pos (by omega),sg,List.getElem?_eq_getElem (show i<x.Kids.length by omega),Ea] at h;obtain ⟨a,ia,h⟩:=vh h;obtain ⟨r,f,h⟩:=vh h;by_cases z:r.1≠0
  ·rw [if_pos z] at h;exact absurd (congrArg (fun o:Option (Int×Int)=>o.map (·.1)) h) (by simpa using z)
  ·rw [if_neg z,xf (by omega),Ea] at h;by_cases q:j=i
   ·subst q;obtain ⟨g,l⟩:=r;obtain rfl:g=0:=Decidable.not_not.1 z;exact ⟨c,a,l,f⟩
   ·exact e (i+1) r.2 oa h j b (by omega)
theorem qA {a:Int×Int}{b:Bool}(h:To self x d a b=some (0,k)):∃ m c,tk self x d m (0:Nat) c=some (0,k):=by
 rw [To] at h;split at h
 ·cases h
 ·exact ⟨_,_,h⟩
theorem FE {a:Int×Int}{r:Int}{b:Bool}(h:Uo self x d a r b=some (0,k)):∃ m c,tk self x d m (0:Nat) c=some (0,k):=by
 rw [Uo] at h;split at h
 ·exact qA h
 ·split at h<;>exact qA h
theorem rA {a:Int×Int}{r:Int}{b:Bool}(h:dn self x d a r b=some (0,k)):b=false∧∃ m c,tk self x d m (0:Nat) c=some (0,k):=by
 rw [dn] at h;split at h
 ·cases h
 ·rename_i q;refine ⟨by simpa using q,?_⟩;split at h<;>exact FE h
theorem Nv {i:Int×Int}{r:Int}{b:Bool}(h:Mn fu self x d i r b=some (0,k)):b=false∧(x.Kind=3∨x.Kind=20∨r<0→Hh fu x.Name=some true)∧∃ m c,tk self x d m (0:Nat) c=some (0,k):=by
 rw [Mn] at h;split at h
 ·cases h
 ·rename_i q;refine ⟨by simpa using q,?_⟩;have a:(Option.bind (Hh fu x.Name) fun j=>dn self x d i r (!j))=some (0,k)→(x.Kind=3∨x.Kind=20∨r<0→Hh fu x.Name=some true)∧∃ m c,tk self x d m (0:Nat) c=some (0,k):=by
   intro h;obtain ⟨ed,e,h⟩:=vh h;obtain ⟨l,f⟩:=rA h;cases ed with
   | true=>exact ⟨fun _=>e,f⟩
   | false=>cases l
  split at h
  ·exact a h
  ·split at h
   ·exact a h
   ·split at h
    ·exact a h
    ·obtain ⟨-,f⟩:=rA h;exact ⟨fun g=>by omega,f⟩
theorem HG (h:Ui fu self node x d=some (0,k)):(x.Kind=1→0≤x.N∧x.N≤999999999999999)∧(x.Kind=2→x.N=0∨x.N=1)∧(x.Kind=3∨x.Kind=20∨Bi x.Kind<0→Hh fu x.Name=some true)∧∃ m c,tk self x d m (0:Nat) c=some (0,k):=by
 rw [Ui] at h;obtain ⟨i,-,h⟩:=vh h;split at h
 ·rename_i z;exact absurd (congrArg (fun o:Option (Int×Int)=>o.map (·.1)) h) (by simpa using z)
 ·have f:∀ b,Vo fu self x d i (Bi x.Kind) b=some (0,k)→b=false∧(x.Kind=2→x.N=0∨x.N=1)∧(x.Kind=3∨x.Kind=20∨Bi x.Kind<0→Hh fu x.Name=some true)∧∃ m c,tk self x d m (0:Nat) c=some (0,k):=by
   intro b h;rw [Vo] at h;split at h
   ·rename_i q;obtain ⟨a,-⟩:=Nv h;rw [q] at a;cases a
   ·rename_i q;refine ⟨by simpa using q,?_⟩;split at h
    ·split at h
     ·obtain ⟨a,e⟩:=Nv h;exact ⟨fun _=>.inr (by simpa using a),e⟩
     ·rename_i z;obtain ⟨a,e⟩:=Nv h;exact ⟨fun _=>.inl (Decidable.not_not.1 z),e⟩
    ·rename_i z;obtain ⟨a,e⟩:=Nv h;exact ⟨fun g=>absurd g z,e⟩
  have j:∀ b,ym fu self x d i b=some (0,k)→(x.Kind=1→0≤x.N∧x.N≤999999999999999)∧(x.Kind=2→x.N=0∨x.N=1)∧(x.Kind=3∨x.Kind=20∨Bi x.Kind<0→Hh fu x.Name=some true)∧∃ m c,tk self x d m (0:Nat) c=some (0,k):=by
   intro b h;rw [ym] at h;split at h
   ·cases h
   ·rw [IA,Ea] at h;split at h
    ·split at h
     ·obtain ⟨a,-⟩:=f _ h;cases a
     ·rename_i z;obtain ⟨a,e⟩:=f _ h;have:=of_decide_eq_false a;exact ⟨fun _=>⟨by omega,by omega⟩,e⟩
    ·rename_i z;obtain ⟨-,e⟩:=f _ h;exact ⟨fun g=>absurd g z,e⟩
  split at h<;>exact j _ h
end
theorem fC:∀ (j n:Nat) (x:Va) (node d k:Int),30+j≤n→Wh j x→(Ti n).Ui node x d=some (0,k)→iv j x
 | 0,n,x,node,d,k,f,h,g=>h.elim
 | j+1,n,x,node,d,k,f,h,g=>by
  obtain ⟨k1,l,a,o⟩:=h;obtain ⟨n,rfl⟩:∃ q,n=q+1:=⟨n - 1,by omega⟩;obtain ⟨p,r,s,m,c,t⟩:=HG (show Ui n (Ti n) node x d=some (0,k) from g);refine ⟨k1,l,a,p,r,fun q=>At (by omega) (s ?_),fun y b=>?_⟩
  ·rcases q with q | q | q | q
   ·exact .inl q
   ·exact .inr (.inl q)
   ·rw [q];exact .inr (.inr (by decide))
   ·rw [q];exact .inr (.inr (by decide))
  ·obtain ⟨i,u,rfl⟩:=List.getElem_of_mem b;obtain ⟨c',v,k',e⟩:=EE m 0 c a.le t i u (Nat.zero_le _);exact fC j n _ c' v k' (by omega) (o _ b) e
section
variable {fu:Nat}{self:Cm}{x:gb}{d node k:Int}
theorem iE {l:List gb}:∀ (m i:Nat) (c:Int),l.length≤50→Tp self l d m i c=some (0,k)→∀ j (a:j<l.length),i≤j→∃ c' k',self.ak c' l[j] d=some (0,k'):=by
 intro m
 induction m with
 | zero=>intro i c _ h; cases h
 | succ m b =>
  intro i c oa h j a n;rw [Tp,if_pos (by omega),sg,List.getElem?_eq_getElem (show i<l.length by omega),Ea] at h;obtain ⟨r,e,h⟩:=vh h;by_cases z:r.1≠0
  ·rw [if_pos z] at h;exact absurd (congrArg (fun o:Option (Int×Int)=>o.map (·.1)) h) (by simpa using z)
  ·rw [if_neg z,xf (by omega),Ea] at h;by_cases q:j=i
   ·subst q;obtain ⟨f,g⟩:=r;obtain rfl:f=0:=Decidable.not_not.1 z;exact ⟨c,g,e⟩
   ·exact b (i+1) r.2 oa h j a (by omega)
theorem XA {l:List gb}(oa:l.length≤50) (h:Xg self node l d=some (0,k)):∀ y ∈ l,∃ c' k',self.ak c' y d=some (0,k'):=by
 intro y a;obtain ⟨j,b,rfl⟩:=List.getElem_of_mem a;rw [Xg] at h;split at h
 ·cases h
 ·exact iE _ 0 _ oa h j b (Nat.zero_le _)
theorem sA {c:Int}(h:gq self x d c=some (0,k)):x.Kind=3→∃ c' b k',self.Xg c' x.Ff b=some (0,k'):=by
 intro f;rw [gq,if_pos f] at h;obtain ⟨b,-,h⟩:=vh h;obtain ⟨r,e,h⟩:=vh h;obtain ⟨g,i⟩:=r;obtain ⟨a,-⟩:=Prod.mk.inj (Option.some.inj h);have a:g=0:=a;subst a;exact ⟨_,_,_,e⟩
theorem tA {c:Int×Int}{b:Bool}(h:hq self x d c b=some (0,k)):(b=true→∃ c' a k',self.Xg c' x.Body a=some (0,k'))∧(x.Kind=3→∃ c' a k',self.Xg c' x.Ff a=some (0,k')):=by
 rw [hq] at h;split at h
 ·obtain ⟨a,-,h⟩:=vh h;obtain ⟨r,e,h⟩:=vh h;split at h
  ·rename_i z;exact absurd (congrArg (fun o:Option (Int×Int)=>o.map (·.1)) h) (by simpa using z)
  ·rename_i z;obtain ⟨f,i⟩:=r;obtain rfl:f=0:=Decidable.not_not.1 z;exact ⟨fun _=>⟨_,_,_,e⟩,sA h⟩
 ·rename_i q;exact ⟨fun g=>absurd g q,sA h⟩
theorem IG (h:ak fu self node x d=some (0,k)):(x.Kind=1∨x.Kind=2∨x.Kind=7→Hh fu x.Name=some true)∧(x.Kind≠6→(∃ c' a k',(Ti fu).Ui c' x.X a=some (0,k'))∧(x.Kind=3∨x.Kind=4→∃ c' a k',self.Xg c' x.Body a=some (0,k'))∧(x.Kind=3→∃ c' a k',self.Xg c' x.Ff a=some (0,k'))):=by
 rw [ak] at h;obtain ⟨i,-,h⟩:=vh h;split at h
 ·rename_i z;exact absurd (congrArg (fun o:Option (Int×Int)=>o.map (·.1)) h) (by simpa using z)
 ·have j:∀ b,en fu self x d i b=some (0,k)→b=false∧(x.Kind≠6→(∃ c' a k',(Ti fu).Ui c' x.X a=some (0,k'))∧(x.Kind=3∨x.Kind=4→∃ c' a k',self.Xg c' x.Body a=some (0,k'))∧(x.Kind=3→∃ c' a k',self.Xg c' x.Ff a=some (0,k'))):=by
   intro b h;rw [en] at h;split at h
   ·cases h
   ·rename_i q;refine ⟨by simpa using q,fun l=>?_⟩;rw [if_neg l] at h;obtain ⟨a,-,h⟩:=vh h;obtain ⟨r,e,h⟩:=vh h;split at h
    ·rename_i z;exact absurd (congrArg (fun o:Option (Int×Int)=>o.map (·.1)) h) (by simpa using z)
    ·rename_i z;obtain ⟨m,t⟩:=r;obtain rfl:m=0:=Decidable.not_not.1 z;refine ⟨⟨_,_,_,e⟩,?_⟩;split at h
     ·rename_i n;obtain ⟨c,f⟩:=tA h;exact ⟨fun _=>c rfl,f⟩
     ·rename_i n;obtain ⟨c,f⟩:=tA h;exact ⟨fun g=>c (decide_eq_true (by omega)),f⟩
  have p:∀ b,Nn fu self x d i b=some (0,k)→(x.Kind=1∨x.Kind=2∨x.Kind=7→Hh fu x.Name=some true)∧(x.Kind≠6→(∃ c' a k',(Ti fu).Ui c' x.X a=some (0,k'))∧(x.Kind=3∨x.Kind=4→∃ c' a k',self.Xg c' x.Body a=some (0,k'))∧(x.Kind=3→∃ c' a k',self.Xg c' x.Ff a=some (0,k'))):=by
   intro b h;rw [Nn] at h;have N:(Option.bind (Hh fu x.Name) fun s=>en fu self x d i (!s))=some (0,k)→(x.Kind=1∨x.Kind=2∨x.Kind=7→Hh fu x.Name=some true)∧(x.Kind≠6→(∃ c' a k',(Ti fu).Ui c' x.X a=some (0,k'))∧(x.Kind=3∨x.Kind=4→∃ c' a k',self.Xg c' x.Body a=some (0,k'))∧(x.Kind=3→∃ c' a k',self.Xg c' x.Ff a=some (0,k'))):=by
    intro h;obtain ⟨ed,e,h⟩:=vh h;obtain ⟨c,f⟩:=j _ h;cases ed with
    | true=>exact ⟨fun _=>e,f⟩
    | false=>cases c
   split at h
   ·cases h
   ·split at h
    ·exact N h
    ·split at h
     ·exact N h
     ·split at h
      ·exact N h
      ·exact ⟨fun g=>by omega,(j _ h).2⟩
  split at h<;>exact p _ h
end
theorem gC:∀ (j n:Nat) (x:gb) (node d k:Int),60+3*j≤n→xl j x→(Ji n).ak node x d=some (0,k)→zs j x
 | 0,n,x,node,d,k,p,h,g=>h.elim
 | j+1,n,x,node,d,k,p,h,g=>by
  obtain ⟨k1,r,s,hB,t⟩:=h;obtain ⟨n,rfl⟩:∃ q,n=q+2:=⟨n - 2,by omega⟩;obtain ⟨u,f⟩:=IG (show ak (n+1) (Ji (n+1)) node x d=some (0,k) from g);have L:∀ (l:List gb) (c' c k':Int),l.length≤50→(∀ y ∈ l,xl j y)→(Ji (n+1)).Xg c' l c=some (0,k')→∀ y ∈ l,zs j y:=by
   intro l c' c k' oa v w y m;obtain ⟨c2,z,e⟩:=XA oa (show Xg (Ji n) c' l c=some (0,k') from w) y m;exact gC j n y c2 c z (by omega) (v y m) e
  refine ⟨k1,r,fun o=>?_,fun q=>At (by omega) (u q),fun q=>?_,fun q=>?_⟩
  ·obtain ⟨⟨c',c,k',e⟩,-⟩:=f o;exact fC j (n+1) x.X c' c k' (by omega) (s o) e
  ·obtain ⟨a,b⟩:=hB q;obtain ⟨-,i,-⟩:=f (by omega);obtain ⟨c',c,k',e⟩:=i q;exact ⟨a,L x.Body c' c k' a b e⟩
  ·obtain ⟨a,b⟩:=t q;obtain ⟨-,-,i⟩:=f (by omega);obtain ⟨c',c,k',e⟩:=i q;exact ⟨a,L x.Ff c' c k' a b e⟩
theorem py {fu:Nat}(a:20≤fu){t:Ya}(h:dp fu t=some 0):Ip t:=by
 obtain ⟨e,c,d⟩:=Zv fu a t;rw [h] at c;obtain rfl:=Option.some.inj c;refine ⟨d rfl,fun f=>?_⟩;rw [dp] at h;have g:∀ b,Br fu t b=some 0→um t.Gc:=by
  intro b h;rw [Br] at h;split at h
  ·cases h
  ·obtain ⟨ed,e,h⟩:=vh (by simpa only [if_pos f] using h);cases ed with
   | true=>exact At a e
   | false=>cases h
 split at h<;>exact g _ h
section
variable {fu:Nat}{x:va}{rf:Int×Int}{k node:Int}
theorem LA (h:jq fu x rf=some (0,k)):(x.Kind=1→1≤x.gf∧x.gf≤20)∧(x.Kind≠1→∃ c' k',(Ji fu).Xg c' x.Body 2=some (0,k')):=by
 rw [jq] at h;split at h
 ·rename_i q;obtain ⟨r,e,h⟩:=vh h;obtain ⟨d,f⟩:=r;obtain ⟨a,-⟩:=Prod.mk.inj (Option.some.inj h);have a:d=0:=a;subst a;exact ⟨fun g=>absurd g q,fun _=>⟨_,_,e⟩⟩
 ·rename_i q;have c:∀ b,ct rf b=some (0,k)→b=false:=by
   intro b h;cases b with
   | false=>rfl
   | true=>cases h
  split at h
  ·cases c _ h
  ·have:=of_decide_eq_false (c _ h);exact ⟨fun _=>⟨by omega,by omega⟩,fun g=>absurd g q⟩
theorem MA (a:20≤fu) (h:kq fu x rf=some (0,k)):(x.Kind≠4→Ip x.ic)∧(x.Kind=1→1≤x.gf∧x.gf≤20)∧(x.Kind≠1→∃ c' k',(Ji fu).Xg c' x.Body 2=some (0,k')):=by
 rw [kq] at h;split at h
 ·obtain ⟨r,e,h⟩:=vh h;split at h
  ·rename_i z;exact absurd (congrArg (fun o:Option (Int×Int)=>o.map (·.1)) h) (by simpa using z)
  ·rename_i z;obtain rfl:r=0:=Decidable.not_not.1 z;exact ⟨fun _=>py a e,LA h⟩
 ·rename_i q;exact ⟨fun g=>absurd g q,LA h⟩
theorem jF (a:20≤fu) (h:Pn fu x rf=some (0,k)):(x.Kind=3→Ip x.se)∧(x.Kind≠4→Ip x.ic)∧(x.Kind=1→1≤x.gf∧x.gf≤20)∧(x.Kind≠1→∃ c' k',(Ji fu).Xg c' x.Body 2=some (0,k')):=by
 rw [Pn] at h;split at h
 ·obtain ⟨r,e,h⟩:=vh h;split at h
  ·rename_i z;exact absurd (congrArg (fun o:Option (Int×Int)=>o.map (·.1)) h) (by simpa using z)
  ·rename_i z;obtain rfl:r=0:=Decidable.not_not.1 z;exact ⟨fun _=>py a e,MA a h⟩
 ·rename_i q;exact ⟨fun g=>absurd g q,MA a h⟩
theorem kF (c:20≤fu) (oa:x.Params.length≤6):∀ (m i:Nat),i≤x.Params.length→lq fu x rf m i=some (0,k)→(∀ j (a:j<x.Params.length),i≤j→um x.Params[j].Name∧Ip x.Params[j].ic)∧Pn fu x rf=some (0,k):=by
 intro m
 induction m with
 | zero=>intro i _ h; cases h
 | succ m d =>
  intro i p h;rw [lq] at h;by_cases q:i<x.Params.length
  ·rw [if_pos (by omega),sg,List.getElem?_eq_getElem q,Ea] at h;obtain ⟨b,ia,h⟩:=vh h;cases b with
   | false=>cases h
   | true =>
    rw [if_pos rfl] at h;obtain ⟨r,f,h⟩:=vh h;by_cases z:r≠0
    ·rw [if_pos z] at h;exact absurd (congrArg (fun o:Option (Int×Int)=>o.map (·.1)) h) (by simpa using z)
    ·rw [if_neg z,xf (by omega),Ea] at h;obtain rfl:r=0:=Decidable.not_not.1 z;obtain ⟨g,l⟩:=d (i+1) q h;refine ⟨fun j a n=>?_,l⟩;by_cases e:j=i
     ·subst e;exact ⟨At c ia,py c f⟩
     ·exact g j a (by omega)
  ·rw [if_neg (by omega)] at h;exact ⟨fun j a n=>by omega,h⟩
theorem BJ (B:300≤fu) (ok:hr x) (h:Ir fu node x=some (0,k)):ir x:=by
 rw [Ir] at h;obtain ⟨f,-,h⟩:=vh h;split at h
 ·rename_i z;exact absurd (congrArg (fun o:Option (Int×Int)=>o.map (·.1)) h) (by simpa using z)
 ·have fin:um x.Name→(x.Kind=2∨x.Kind=3→x.Params.length≤6∧∀ q ∈ x.Params,um q.Name∧Ip q.ic)→Pn fu x f=some (0,k)→ir x:=by
   intro d m h;obtain ⟨a,b,c,e⟩:=jF (by omega) h;refine ⟨ok.k1,ok.Xe,d,m,a,b,c,fun k1=>⟨ok.Yd k1,fun y i=>?_⟩⟩;obtain ⟨c',k',p⟩:=e k1;obtain ⟨n,rfl⟩:∃ q,fu=q+1:=⟨fu - 1,by omega⟩;obtain ⟨c2,r,s⟩:=XA (ok.Yd k1) (show Xg (Ji n) c' x.Body 2=some (0,k') from p) y i;exact gC 39 n y c2 2 r (by omega) (ok.au k1 y i) s
  have l:∀ b,(b=true ↔ x.Kind=2∨x.Kind=3)→um x.Name→mq fu x f b=some (0,k)→ir x:=by
   intro b g d h;rw [mq] at h;split at h
   ·rename_i q;split at h
    ·cases h
    ·rename_i z;obtain ⟨t,u⟩:=kF (by omega) (by omega) _ 0 (Nat.zero_le _) h;exact fin d (fun _=>⟨by omega,fun q v=>by
      obtain ⟨j,w,rfl⟩:=List.getElem_of_mem v;exact t j w (Nat.zero_le _)⟩) u
   ·rename_i q;exact fin d (fun z=>absurd (g.2 z) q) h
  have A:∀ b,Qn fu x f b=some (0,k)→ir x:=by
   intro b h;rw [Qn] at h;split at h
   ·cases h
   ·obtain ⟨ed,e,h⟩:=vh h;cases ed with
    | false=>cases h
    | true =>
     rw [if_pos rfl] at h;split at h
     ·rename_i q;exact l _ (by simp [q]) (At (by omega) e) h
     ·rename_i q;exact l _ (by simp [q]) (At (by omega) e) h
  split at h<;>exact A _ h
end
theorem CJ {fu:Nat}(g:300≤fu){l:List va}{f:Fe}(h:qq fu l=some f) (b:f.tg=0):l.length≤30∧∀ x ∈ l,ir x:=by
 obtain ⟨s,d,k⟩:=Ax fu (by omega) l;rw [h] at d;obtain rfl:=Option.some.inj d;obtain ⟨-,ok⟩:=k b;have oa:=ok.le;refine ⟨oa,?_⟩;rw [qq,if_neg (by omega)] at h;have L:∀ (m i:Nat) (c:Int),Up fu l m i c=some f→∀ j (a:j<l.length),i≤j→ir l[j]:=by
  intro m
  induction m with
  | zero=>intro i c h; cases h
  | succ m n =>
   intro i c h j a t;rw [Up,if_pos (by omega),sg,List.getElem?_eq_getElem (show i<l.length by omega),Ea] at h;obtain ⟨r,e,h⟩:=vh h;by_cases z:r.1≠0
   ·rw [if_pos z] at h;rw [← Option.some.inj h] at b;exact absurd b z
   ·rw [if_neg z,xf (by omega),Ea] at h;by_cases q:j=i
    ·subst q;obtain ⟨o,u⟩:=r;obtain rfl:o=0:=Decidable.not_not.1 z;exact BJ g (ok.ok _ (List.getElem_mem _)) e
    ·exact n (i+1) r.2 h j a (by omega)
 intro x p;obtain ⟨j,a,rfl⟩:=List.getElem_of_mem p;exact L _ 0 0 h j a (Nat.zero_le _)
end Go.Y
namespace Go.Y
open Go.hc Go.Mc
def cj (B:ze) (n:Nm):Option Ya:=B.reverse.findSome? fun m=>ob m n
inductive Qe (p:yb) (d:va) (B:ze):Va→Ya→Prop
 | num {x:Va}:x.Kind=1→Qe p d B x ⟨1,[]⟩
 | bool {x:Va}:x.Kind=2→Qe p d B x ⟨2,[]⟩
 | var {x:Va} {t:Ya}:x.Kind=3→cj B x.Name=some t→Qe p d B x t
 | neg {x a:Va}:x.Kind=4→x.Kids=[a]→Qe p d B a ⟨1,[]⟩→Qe p d B x ⟨1,[]⟩
 | not {x a:Va}:x.Kind=5→x.Kids=[a]→Qe p d B a ⟨2,[]⟩→Qe p d B x ⟨2,[]⟩
 | pv {x a b:Va}:6≤x.Kind∧x.Kind≤10→x.Kids=[a,b]→Qe p d B a ⟨1,[]⟩→Qe p d B b ⟨1,[]⟩→Qe p d B x ⟨1,[]⟩
 | eq {x a b:Va} {t:Ya}:x.Kind=11∨x.Kind=12→x.Kids=[a,b]→Qe p d B a t→Qe p d B b t→t.Kind≠3→Qe p d B x ⟨2,[]⟩
 | lt {x a b:Va}:13≤x.Kind∧x.Kind≤16→x.Kids=[a,b]→Qe p d B a ⟨1,[]⟩→Qe p d B b ⟨1,[]⟩→Qe p d B x ⟨2,[]⟩
 | Wj {x a b:Va}:17≤x.Kind∧x.Kind≤18→x.Kids=[a,b]→Qe p d B a ⟨2,[]⟩→Qe p d B b ⟨2,[]⟩→Qe p d B x ⟨2,[]⟩
 | call {x:Va} {f:va}:x.Kind=19→ob p.named x.Name=some f→f.Kind=2→x.Kids.length=f.Params.length→(∀ (i:Nat) (y:Va) (q:TParam),x.Kids[i]?=some y→f.Params[i]?=some q→Qe p d B y (Ge q.ic))→Qe p d B x (Ge f.ic)
 | recv {x:Va} {f:va}:x.Kind=20→ob p.named x.Name=some f→f.Kind=1→Qe p d B x (Ge f.ic)
 | jr {x a:Va}:x.Kind=21→d.Kind=3→x.Kids=[a]→Qe p d B a (Ge d.ic)→Qe p d B x (Ge d.se)
 | start {x:Va} {f:va}:x.Kind=22→ob p.named x.Name=some f→f.Kind=3→x.Kids.length=f.Params.length→(∀ (i:Nat) (y:Va) (q:TParam),x.Kids[i]?=some y→f.Params[i]?=some q→Qe p d B y (Ge q.ic))→Qe p d B x ⟨3,x.Name⟩
 | resume {x a b:Va} {g:Nm} {f:va}:x.Kind=23→x.Kids=[a,b]→Qe p d B a ⟨3,g⟩→ob p.named g=some f→f.Kind=3→Qe p d B b (Ge f.se)→Qe p d B x (Ge f.ic)
 | alive {x a:Va} {g:Nm} {f:va}:x.Kind=24→x.Kids=[a]→Qe p d B a ⟨3,g⟩→ob p.named g=some f→f.Kind=3→Qe p d B x ⟨2,[]⟩
theorem ID {a b:Ya}(h:Gk [decide (a.Kind=b.Kind),decide (a.Gc=b.Gc)]=true):a=b:=by
 cases a;cases b;simp [Gk] at h;simp [h]
theorem VF {B:ze}{n:Nat}{m:List (Nm×Ya)}{C:ze}{name:Nm}(h:B.take (n+1)=C++[m]):cj (B.take (n+1)) name=match ob m name with | some t=>some t | none=>cj C name:=by
 rw [h];unfold cj;rw [List.reverse_append,List.reverse_singleton,List.singleton_append,List.findSome?_cons];cases ob m name<;>rfl
theorem Ny {p:yb}{B:ze}(hB:kl p B) (oa:B.length≤100) (fu:Nat) (k:110≤fu) (d:va) (name:Nm):∃ t b,Xo fu p d B name=some (t,b)∧(b=true→wj p t∧cj B name=some t)∧(b=false→cj B name=none):=by
 have L:∀ (n j:Nat),j≤B.length→j<n→∃ t b,Vp name B n ((j:Int) - 1)=some (t,b)∧(b=true→wj p t∧cj (B.take j) name=some t)∧(b=false→cj (B.take j) name=none):=by
  intro n
  induction n with
  | zero=>intro j c f; omega
  | succ n g =>
   intro j c f;rw [Vp];cases j with
   | zero=>rw [if_neg (by omega)]; exact ⟨_,_,rfl,by simp,fun _=>by rw [List.take_zero]; rfl⟩
   | succ j =>
    have a:j<B.length:=by omega
    have e:((j+1:Nat):Int) - 1=(j:Int):=by omega
    have i:=VF (B:=B) (n:=j) (m:=B[j]) (C:=B.take j) (name:=name) (List.take_append_getElem a).symm;rw [e,if_pos (by omega),sg,List.getElem?_eq_getElem a,Ea,i];cases h:ob B[j] name with
    | none =>
     rw [if_neg (by simp),xf (by omega),Ea];exact g j (by omega) (by omega)
    | some t=>exact ⟨t,true,rfl,fun _=>⟨hB _ (List.getElem_mem _) _ _ h,rfl⟩,fun h=>by cases h⟩
 rw [Xo,xf (by omega),Ea];have:=L fu B.length (by omega) (by omega);rwa [List.take_length] at this
structure DJ (n:Nat):Prop where
 typed:∀ (k:Nat) (p:yb) (d:va) (B:ze) (x:Va) (t:Ya),Tl p d B→Wh k x→3*k+111≤n→∃ e,(qg n).fh p d B x t=some e∧(e=0→Qe p d B x (Ge t))
 args:∀ (k:Nat) (p:yb) (d:va) (B:ze) (x:Va) (kind:Int),Tl p d B→(∀ y ∈ x.Kids,Wh k y)→x.Kids.length≤6→(kind=2∨kind=3)→3*k+112≤n →
  ∃ ig e,(qg n).wk p d B x kind=some (ig,e)∧(e=0→∃ f,ig=some f∧ob p.named x.Name=some f∧f.Kind=kind∧x.Kids.length=f.Params.length∧∀ (i:Nat) (y:Va) (q:TParam),x.Kids[i]?=some y→f.Params[i]?=some q→Qe p d B y (Ge q.ic))
 both:∀ (k:Nat) (p:yb) (d:va) (B:ze) (x a b:Va),Tl p d B→x.Kids=[a,b]→Wh k a→Wh k b→3*k+112≤n→∃ t e,(qg n).Fl p d B x=some (t,e)∧(e=0→Qe p d B a t∧Qe p d B b t∧t.Kind≠3)
 handle:∀ (k:Nat) (p:yb) (d:va) (B:ze) (x:Va),Tl p d B→Wh k x→3*k+112≤n→∃ ig e,(qg n).uk p d B x=some (ig,e)∧(e=0→∃ f g,ig=some f∧ob p.named g=some f∧f.Kind=3∧Qe p d B x ⟨3,g⟩)
 expr:∀ (k:Nat) (p:yb) (d:va) (B:ze) (x:Va),Tl p d B→Wh k x→3*k+110≤n→∃ t e,(qg n).ei p d B x=some (t,e)∧(e=0→wj p t∧Qe p d B x t)
theorem PC:∀ n,DJ n:=by
 intro n
 induction n with
 | zero=>exact ⟨fun _ _ _ _ _ _ _ _ h=>by omega,fun _ _ _ _ _ _ _ _ _ _ h=>by omega,fun _ _ _ _ _ _ _ _ _ _ _ h=>by omega,fun _ _ _ _ _ _ _ h=>by omega,fun _ _ _ _ _ _ _ h=>by omega⟩
 | succ n v =>
  refine ⟨fun k p d B x t H A Q=>?_,fun k p d B x kind H A oa F Q=>?_,fun k p d B x a b H A o N Q=>?_,fun k p d B x H A Q=>?_,fun k p d B x H A Q=>?_⟩
  ·show ∃ e,fh (qg n) p d B x t=some e∧_;obtain ⟨qc,e,u,s⟩:=v.expr k p d B x H A (by omega);rw [fh,u,Ea];by_cases z:e=0
   ·rw [if_pos z,Am,Ea,vv];refine ⟨_,rfl,fun r=>?_⟩;simp only at r;split at r
    ·exact absurd r (by decide)
    ·rename_i q;have gc:Gk [decide (qc.Kind=(Ge t).Kind),decide (qc.Gc=(Ge t).Gc)]=true:=by simpa using q
     exact ID gc ▸ (s z).2
   ·rw [if_neg z,vv];exact ⟨e,rfl,fun h=>absurd h z⟩
  ·show ∃ ig e,wk (qg n) p d B x kind=some (ig,e)∧_;rw [wk,zr,Ea];by_cases c:An (ob p.named x.Name) kind=true
   ·obtain ⟨f,G,U⟩:=Xr c;rw [if_pos c,G];simp only [Ea];have lc:=H.Ko _ _ G;have wd:=lc.pl (by omega);by_cases q:(f.Params.length:Int)≠x.Kids.length
    ·rw [decide_eq_true q];exact ⟨none,5,rfl,fun h=>absurd h (by decide)⟩
    ·rw [decide_eq_false q,ju,if_neg (by decide)];simp only [Ea];have L:∀ (m i:Nat),i≤f.Params.length→f.Params.length<m+i→∃ ig e,Wp (qg n) x p d B (some f,An (some f) kind) f m i=some (ig,e)∧(e=0→ig=some f∧∀ (j:Nat) (y:Va) (q:TParam),i≤j→x.Kids[j]?=some y→f.Params[j]?=some q→Qe p d B y (Ge q.ic)):=by
      intro m
      induction m with
      | zero=>intro i u s; omega
      | succ m V =>
       intro i u s;rw [Wp];by_cases c:i<f.Params.length
       ·have bb:i<x.Kids.length:=by omega
        obtain ⟨e,ia,w⟩:=v.typed k p d B x.Kids[i] f.Params[i].ic H (A _ (List.getElem_mem _)) (by omega);rw [if_pos (by omega),sg,List.getElem?_eq_getElem c,Ea,sg,List.getElem?_eq_getElem bb,Ea,ia,Ea];by_cases z:e=0
        ·rw [if_neg (by simpa using z),xf (by omega),Ea];obtain ⟨ig,O,P,K⟩:=V (i+1) c (by omega);refine ⟨ig,O,P,fun r=>⟨(K r).1,fun j y q rc C D=>?_⟩⟩;by_cases fd:i=j
         ·subst fd;rw [List.getElem?_eq_getElem bb] at C;rw [List.getElem?_eq_getElem c] at D;obtain rfl:=Option.some.inj C;obtain rfl:=Option.some.inj D;exact w z
         ·exact (K r).2 j y q (by omega) C D
        ·rw [if_pos z];exact ⟨none,e,rfl,fun h=>absurd h z⟩
       ·rw [if_neg (by omega)];refine ⟨some f,0,rfl,fun _=>⟨rfl,fun j y q rc C D=>?_⟩⟩;rw [List.getElem?_eq_none (by omega)] at D;cases D
     obtain ⟨ig,e,P,K⟩:=L (f.Params.length+1) 0 (by omega) (by omega);refine ⟨ig,e,P,fun r=>?_⟩;obtain ⟨s1,s2⟩:=K r;exact ⟨f,s1,rfl,U,by omega,fun i y q=>s2 i y q (by omega)⟩
   ·rw [if_neg c];exact ⟨none,7,rfl,fun h=>absurd h (by decide)⟩
  ·show ∃ t e,Fl (qg n) p d B x=some (t,e)∧_;obtain ⟨t1,ia,u,s⟩:=v.expr k p d B a H o (by omega);obtain ⟨t2,w,g1,g2⟩:=v.expr k p d B b H N (by omega);have k0:at_ x.Kids 0=some a:=by rw [A];rfl
   have k1:at_ x.Kids 1=some b:=by rw [A];rfl
   rw [Fl,k0,Ea,u,Ea];by_cases z:ia=0
   ·rw [if_neg (by simpa using z),k1,Ea,g1,Ea];by_cases z2:w=0
    ·rw [if_pos z2];split
     ·rename_i D;obtain rfl:=ID D;rw [cn,Ea,cu];refine ⟨_,_,rfl,fun r=>⟨(s z).2,(g2 z2).2,fun id=>?_⟩⟩;have md:t1.Kind=3:=id;simp [md] at r
     ·rw [cu];exact ⟨_,9,rfl,fun h=>absurd h (by decide)⟩
    ·rw [if_neg z2,cu];exact ⟨_,w,rfl,fun h=>absurd h z2⟩
   ·rw [if_pos z];exact ⟨_,ia,rfl,fun h=>absurd h z⟩
  ·show ∃ ig e,uk (qg n) p d B x=some (ig,e)∧_;obtain ⟨t,e,u,s⟩:=v.expr k p d B x H A (by omega);rw [uk,u,Ea];by_cases z:e=0
   ·rw [if_neg (by simpa using z),cn,Ea];by_cases q:t.Kind≠3
    ·rw [if_pos (decide_eq_true q)];exact ⟨none,9,rfl,fun h=>absurd h (by decide)⟩
    ·obtain ⟨f,f1,f2⟩:=(s z).1 (Decidable.not_not.1 q);rw [if_neg (by simpa using q)];have aa:t=⟨3,t.Gc⟩:=by cases t;simp at q;simp [q]
     exact ⟨_,0,rfl,fun _=>⟨f,t.Gc,f1,f1,f2,by rw [← aa];exact (s z).2⟩⟩
   ·rw [if_pos z];exact ⟨none,e,rfl,fun h=>absurd h z⟩
  ·show ∃ t e,ei n (qg n) p d B x=some (t,e)∧_;cases k with
   | zero=>cases A
   | succ k =>
   obtain ⟨k1,Fd,F,M⟩:=A;have R:Bi x.Kind=1→∃ a,x.Kids=[a]∧Wh k a:=fun h=>by
    obtain ⟨a,o⟩:=one (l:=x.Kids) (by have:=F.eq (by omega);omega);exact ⟨a,o,M a (by simp [o])⟩
   have W:Bi x.Kind=2→∃ a b,x.Kids=[a,b]∧Wh k a∧Wh k b:=fun h=>by
    obtain ⟨a,b,o⟩:=two (l:=x.Kids) (by have:=F.eq (by omega);omega);exact ⟨a,b,o,M a (by simp [o]),M b (by simp [o])⟩
   rw [ei];by_cases bc:x.Kind=1
   ·rw [if_pos bc];exact ⟨_,0,rfl,fun _=>⟨.of (by decide),.num bc⟩⟩
   rw [if_neg bc];by_cases c2:x.Kind=2
   ·rw [if_pos c2];exact ⟨_,0,rfl,fun _=>⟨.of (by decide),.bool c2⟩⟩
   rw [if_neg c2];by_cases c3:x.Kind=3
   ·obtain ⟨t,b,u,s,-⟩:=Ny H.cd H.Yd n (by omega) d x.Name;rw [if_pos c3,u,Ea];cases b with
    | true=>exact ⟨t,0,rfl,fun _=>⟨(s rfl).1,.var c3 (s rfl).2⟩⟩
    | false=>exact ⟨_,7,rfl,fun h=>absurd h (by decide)⟩
   rw [if_neg c3];by_cases c4:x.Kind=4
   ·obtain ⟨a,o,E⟩:=R (by rw [c4];rfl);obtain ⟨e,ia,w⟩:=v.typed k p d B a ⟨1,[]⟩ H E (by omega);have k0:at_ x.Kids 0=some a:=by rw [o];rfl
    rw [if_pos c4,k0,Ea,yk,Ea,Ea,ia,Ea];exact ⟨_,e,rfl,fun r=>⟨.of (by decide),.neg c4 o (w r)⟩⟩
   rw [if_neg c4];by_cases c5:x.Kind=5
   ·obtain ⟨a,o,E⟩:=R (by rw [c5];rfl);obtain ⟨e,ia,w⟩:=v.typed k p d B a ⟨2,[]⟩ H E (by omega);have k0:at_ x.Kids 0=some a:=by rw [o];rfl
    rw [if_pos c5,k0,Ea,ij,Ea,Ea,ia,Ea];exact ⟨_,e,rfl,fun r=>⟨.of (by decide),.not c5 o (w r)⟩⟩
   rw [if_neg c5];have Gb:∀ b,(b=true ↔ x.Kind=11∨x.Kind=12)→∃ t e,Yp (qg n) x p d B b=some (t,e)∧(e=0→wj p t∧Qe p d B x t):=by
    intro b N;rw [Yp];by_cases q:b=true
    ·have c:=N.1 q;obtain ⟨a,nd,o,S,Ag⟩:=W (by rcases c with c | c<;>rw [c]<;>rfl);obtain ⟨t,e,u,s⟩:=v.both k p d B x a nd H o S Ag (by omega);rw [if_pos q,u,Ea,ij,Ea];exact ⟨_,e,rfl,fun r=>⟨.of (by decide),.eq c o (s r).1 (s r).2.1 (s r).2.2⟩⟩
    rw [if_neg q];have Id:x.Kind≠11:=fun h=>q (N.2 (.inl h));have be:x.Kind≠12:=fun h=>q (N.2 (.inr h));by_cases X:x.Kind=19
    ·obtain ⟨ig,e,u,s⟩:=v.args k p d B x 2 H M F.le (.inl rfl) (by omega);rw [if_pos X,u,Ea];by_cases z:e=0
     ·obtain ⟨f,rfl,g1,g2,g3,g4⟩:=s z;rw [if_neg (by simpa using z)];simp only [Ea];rw [Am,Ea];exact ⟨_,0,rfl,fun _=>⟨.of (by rw [Vl];exact (H.Ko _ _ g1).ty (by omega)),.call X g1 g2 g3 g4⟩⟩
     ·rw [if_pos z];exact ⟨_,e,rfl,fun h=>absurd h z⟩
    rw [if_neg X];by_cases c20:x.Kind=20
    ·rw [if_pos c20,zr,Ea];by_cases c:An (ob p.named x.Name) 1=true
     ·obtain ⟨f,G,U⟩:=Xr c;rw [if_pos c,G];simp only [Ea];rw [Am,Ea];exact ⟨_,0,rfl,fun _=>⟨.of (by rw [Vl];exact (H.Ko _ _ G).ty (by omega)),.recv c20 G U⟩⟩
     ·rw [if_neg c];exact ⟨_,7,rfl,fun h=>absurd h (by decide)⟩
    rw [if_neg c20];by_cases c21:x.Kind=21
    ·obtain ⟨a,o,E⟩:=R (by rw [c21];rfl);obtain ⟨e,ia,w⟩:=v.typed k p d B a d.ic H E (by omega);have k0:at_ x.Kids 0=some a:=by rw [o];rfl
     rw [if_pos c21];by_cases Lj:d.Kind=3
     ·rw [if_neg (by simpa using Lj),k0,Ea,Am,Ea,ia,Ea];exact ⟨Ge d.se,e,rfl,fun r=>⟨.of (by rw [Vl];exact H.La.qk Lj),.jr c21 Lj o (w r)⟩⟩
     ·rw [if_pos Lj];exact ⟨_,8,rfl,fun h=>absurd h (by decide)⟩
    rw [if_neg c21];by_cases Y:x.Kind=22
    ·obtain ⟨ig,e,u,s⟩:=v.args k p d B x 3 H M F.le (.inr rfl) (by omega);rw [if_pos Y,u,Ea];refine ⟨_,e,rfl,fun r=>?_⟩;obtain ⟨f,-,g1,g2,g3,g4⟩:=s r;exact ⟨fun _=>⟨f,g1,g2⟩,.start Y g1 g2 g3 g4⟩
    rw [if_neg Y];by_cases T:x.Kind=23
    ·obtain ⟨a,ed,o,S,Ag⟩:=W (by rw [T];rfl);obtain ⟨ig,e,u,s⟩:=v.handle k p d B a H S (by omega);have k0:at_ x.Kids 0=some a:=by rw [o];rfl
     have k1:at_ x.Kids 1=some ed:=by rw [o];rfl
     rw [if_pos T,k0,Ea,u,Ea];by_cases z:e=0
     ·obtain ⟨f,g,rfl,f1,f2,f3⟩:=s z;obtain ⟨O,ia,w⟩:=v.typed k p d B ed f.se H Ag (by omega);rw [if_neg (by simpa using z)];simp only [Ea];rw [Am,k1];simp only [Ea];rw [ia,Ea];exact ⟨Ge f.ic,O,rfl,fun r=>⟨.of (by rw [Vl];exact (H.Ko _ _ f1).ty (by omega)),.resume T o f3 f1 f2 (w r)⟩⟩
     ·rw [if_pos z];exact ⟨_,e,rfl,fun h=>absurd h z⟩
    rw [if_neg T];by_cases c24:x.Kind=24
    ·obtain ⟨a,o,E⟩:=R (by rw [c24];rfl);obtain ⟨ig,e,u,s⟩:=v.handle k p d B a H E (by omega);have k0:at_ x.Kids 0=some a:=by rw [o];rfl
     rw [if_pos c24,k0,Ea,u,Ea,ij,Ea];refine ⟨_,e,rfl,fun r=>?_⟩;obtain ⟨f,g,-,f1,f2,f3⟩:=s r;exact ⟨.of (by decide),.alive c24 o f3 f1 f2⟩
    rw [if_neg c24];obtain ⟨a,ed,o,S,Ag⟩:=W (by unfold Bi;rw [if_neg (by omega),if_neg (by omega),if_pos (by omega)]);have L:∀ (i1 i2:Int) (s1 s2:List UInt8) (m i:Nat),i≤x.Kids.length→x.Kids.length<m+i→∃ e,Xp (qg n) x p d B i1 s1 i2 s2 m i=some (⟨i2,s2⟩,e)∧(e=0→∀ y ∈ x.Kids.drop i,Qe p d B y (Ge ⟨i1,s1⟩)):=by
     intro i1 i2 s1 s2 m
     induction m with
     | zero=>intro i u s; omega
     | succ m V =>
      intro i u s;rw [Xp];by_cases c:i<x.Kids.length
      ·have:=F.le;obtain ⟨e,ia,w⟩:=v.typed k p d B x.Kids[i] ⟨i1,s1⟩ H (M _ (List.getElem_mem _)) (by omega);rw [if_pos (by omega),sg,List.getElem?_eq_getElem c,Ea,ia,Ea];by_cases z:e=0
       ·rw [if_neg (by simpa using z),xf (by omega),Ea];obtain ⟨O,P,K⟩:=V (i+1) c (by omega);refine ⟨O,P,fun r y C=>?_⟩;rw [List.drop_eq_getElem_cons c] at C;rcases List.mem_cons.1 C with rfl | C
        ·exact w z
        ·exact K r y C
       ·rw [if_pos z];exact ⟨e,rfl,fun h=>absurd h z⟩
      ·rw [if_neg (by omega),List.drop_eq_nil_of_le (by omega)];exact ⟨0,rfl,fun _=>by simp⟩
    have Z:∀ (i1 i2:Int) (s1 s2:List UInt8),i2≠3→(Qe p d B a (Ge ⟨i1,s1⟩)→Qe p d B ed (Ge ⟨i1,s1⟩)→Qe p d B x ⟨i2,s2⟩)→∃ t e,vr (qg n) x p d B i1 s1 i2 s2=some (t,e)∧(e=0→wj p t∧Qe p d B x t):=by
     intro i1 i2 s1 s2 h rd;obtain ⟨e,u,s⟩:=L i1 i2 s1 s2 (x.Kids.length+1) 0 (by omega) (by omega);refine ⟨_,e,u,fun r=>⟨.of h,?_⟩⟩;have:=s r;rw [List.drop_zero,o] at this;exact rd (this a (by simp)) (this ed (by simp))
    rw [yk,Ea,Ea,ij];simp only [Ea];split
    ·exact Z _ _ _ _ (by decide) fun g1 g2=>.Wj (by omega) o g1 g2
    ·split
     ·exact Z _ _ _ _ (by decide) fun g1 g2=>.lt (by omega) o g1 g2
     ·exact Z _ _ _ _ (by decide) fun g1 g2=>.pv (by omega) o g1 g2
   split
   ·rename_i h;exact Gb _ (by simp [h])
   ·rename_i h;exact Gb _ (by simp [h])
mutual
inductive rj (p:yb) (d:va):ze→List gb→ze→Prop
 | nil (B:ze):rj p d B [] B
 | cons {B a b:ze} {s:gb} {l:List gb}:zl p d B s a→rj p d a l b→rj p d B (s::l) b
inductive zl (p:yb) (d:va):ze→gb→ze→Prop
 | qo {B:ze} {s:gb} {t:Ya} (h:B.length - 1<B.length):s.Kind=1→Qe p d B s.X t→cj B s.Name=none→zl p d B s (B.set (B.length - 1) (Nd B[B.length - 1] s.Name t))
 | sset {B:ze} {s:gb} {t:Ya}:s.Kind=2→cj B s.Name=some t→Qe p d B s.X (Ge t)→zl p d B s B
 | kr {B a b:ze} {s:gb}:s.Kind=3→Qe p d B s.X ⟨2,[]⟩→rj p d (B++[[]]) s.Body a→rj p d (B++[[]]) s.Ff b→zl p d B s B
 | Jz {B a:ze} {s:gb}:s.Kind=4→Qe p d B s.X ⟨2,[]⟩→rj p d (B++[[]]) s.Body a→zl p d B s B
 | Wq {B:ze} {s:gb}:s.Kind=5→d.Kind=2→Qe p d B s.X (Ge d.ic)→zl p d B s B
 | iz {B:ze} {s:gb}:s.Kind=6→d.Kind≠2→zl p d B s B
 | Qq {B:ze} {s:gb} {f:va}:s.Kind=7→ob p.named s.Name=some f→f.Kind=1→Qe p d B s.X (Ge f.ic)→zl p d B s B
 | Xq {B:ze} {s:gb} {t:Ya}:s.Kind=8→Qe p d B s.X t→t.Kind≠3→zl p d B s B
 | lr {B:ze} {s:gb} {t:Ya}:s.Kind=9→Qe p d B s.X t→zl p d B s B
end
structure cI (n:Nat):Prop where
 stats:∀ (k:Nat) (p:yb) (d:va) (B:ze) (l:List gb),Tl p d B→l.length≤50→(∀ y ∈ l,xl k y)→B.length+k≤90→5*k+130≤n →
  ∃ e,(xk n).Pj p d B l=some (e,B)∧(e=0→∃ a,rj p d (B++[[]]) l a)
 stat:∀ (k:Nat) (p:yb) (d:va) (B:ze) (s:gb),Tl p d B→0<B.length→xl k s→B.length+k≤91→5*k+129≤n →
  ∃ e a,(xk n).Gl p d B s=some (e,a)∧a.length=B.length∧a.take (B.length - 1)=B.take (B.length - 1)∧kl p a∧(e=0→zl p d B s a)
theorem dI:∀ n,cI n:=by
 intro n
 induction n with
 | zero=>exact ⟨fun _ _ _ _ _ _ _ _ _ h=>by omega,fun _ _ _ _ _ _ _ _ _ h=>by omega⟩
 | succ n D =>
  refine ⟨fun k p d B l H oa y hB T=>?_,fun k p d B s H id y hB T=>?_⟩
  ·show ∃ e,Pj (xk n) p d B l=some (e,B)∧_;rw [Pj,app,if_pos (by simp;omega),Ea,iu];have L:∀ (m i:Nat) (a:ze),i≤l.length→l.length<m+i→a.length=B.length+1→a.take B.length=B→kl p a →
     ∃ e,Rp (xk n) l p d m i a=some (e,B)∧(e=0→∃ x,rj p d a (l.drop i) x):=by
    intro m
    induction m with
    | zero=>intro i a j g; omega
    | succ m U =>
     intro i a j g g1 g2 g3;rw [Rp];have pop:∀ C:ze,C.length=B.length+1→C.take B.length=B→uq p d C=some B:=fun C ia v=>by
      rw [JA p d C (by omega) (by omega),ia,Nat.add_sub_cancel,v]
     by_cases c:i<l.length
     ·obtain ⟨e,x,V,E,N,W,Y⟩:=D.stat k p d a l[i] ⟨H.Ko,H.La,g3,by omega⟩ (by omega) (y _ (List.getElem_mem _)) (by omega) (by omega);rw [g1,Nat.add_sub_cancel] at N;rw [g1] at E;have v:x.take B.length=B:=N.trans g2;rw [if_pos (by omega),sg,List.getElem?_eq_getElem c,Ea,V,Ea];by_cases z:e=0
      ·rw [if_neg (by simpa using z),xf (by omega),Ea];obtain ⟨Z,s1,s2⟩:=U (i+1) x c (by omega) E v W;refine ⟨Z,s1,fun r=>?_⟩;rw [List.drop_eq_getElem_cons c];obtain ⟨bb,Gb⟩:=s2 r;exact ⟨bb,.cons (Y z) Gb⟩
      ·rw [if_pos z];simp only [];rw [pop x E v,Ea];exact ⟨e,rfl,fun h=>absurd h z⟩
     ·rw [if_neg (by omega),pop a g1 g2,Ea,List.drop_eq_nil_of_le (by omega)];exact ⟨0,rfl,fun _=>⟨a,.nil a⟩⟩
   have:=L (l.length+1) 0 (B++[[]]) (by omega) (by omega) (by simp) (by simp) (fun m hm k' t F=>by
    rcases List.mem_append.1 hm with hm | hm
    ·exact H.cd m hm k' t F
    ·rw [List.mem_singleton.1 hm] at F;cases F)
   obtain ⟨e,ia,v⟩:=this;rw [List.drop_zero] at v;exact ⟨e,ia,v⟩
  ·show ∃ e a,Gl n (xk n) p d B s=some (e,a)∧_;cases k with
   | zero=>cases y
   | succ k =>
   obtain ⟨k1,md,w,O,he⟩:=y;have A:=(PC n).typed k p d B s.X;have G:=(PC n).expr k p d B s.X;have same:∀ e:Int,(e=0→zl p d B s B)→∀ o:Option (Int×ze),o=some (e,B)→∃ e a,o=some (e,a)∧a.length=B.length∧a.take (B.length - 1)=B.take (B.length - 1)∧kl p a∧(e=0→zl p d B s a):=
    fun e h o gc=>⟨e,B,gc,rfl,rfl,H.cd,h⟩
   rw [Gl];by_cases bc:s.Kind=1
   ·obtain ⟨t,e,j,g⟩:=G H (w (by omega)) (by omega);rw [if_pos bc,j,Ea];by_cases z:e=0
    ·obtain ⟨qc,b,g1,g2,g3⟩:=Ny H.cd H.Yd n (by omega) d s.Name;rw [if_neg (by simpa using z),g1,Ea];cases b with
     | true=>exact same 7 (fun h=>absurd h (by decide)) _ rfl
     | false =>
      have P:B.length - 1<B.length:=by omega
      have ia:(B.length:Int) - 1=((B.length - 1:Nat):Int):=by omega
      rw [if_neg (by simp),xf (by omega),Ea,ia,sg,List.getElem?_eq_getElem P,Ea,xr];refine ⟨0,_,rfl,by simp,?_,fun m hm k' u hu=>?_,fun _=>.qo P bc (g z).2 (g3 rfl)⟩
      ·simp [List.take_set_of_le]
      ·rcases List.mem_or_eq_of_mem_set hm with hm | rfl
       ·exact H.cd m hm k' u hu
       ·rw [tj] at hu;split at hu
        ·obtain rfl:=Option.some.inj hu;exact (g z).1
        ·exact H.cd _ (List.getElem_mem _) k' u hu
    ·rw [if_pos z];exact same e (fun h=>absurd h z) _ rfl
   rw [if_neg bc];by_cases c2:s.Kind=2
   ·obtain ⟨qc,b,g1,g2,-⟩:=Ny H.cd H.Yd n (by omega) d s.Name;rw [if_pos c2,g1,Ea];cases b with
    | false=>exact same 7 (fun h=>absurd h (by decide)) _ rfl
    | true =>
     obtain ⟨e,j,g⟩:=A qc H (w (by omega)) (by omega);rw [if_pos rfl,j,Ea];exact same e (fun r=>.sset c2 (g2 rfl).2 (g r)) _ rfl
   rw [if_neg c2];have Q:∀ b,(b=true ↔ s.Kind=3∨s.Kind=4)→∃ e a,Zp n (xk n) s p d B b=some (e,a)∧a.length=B.length∧a.take (B.length - 1)=B.take (B.length - 1)∧kl p a∧(e=0→zl p d B s a):=by
    intro b K;rw [Zp];by_cases q:b=true
    ·have c:=K.1 q;obtain ⟨e,j,g⟩:=A ⟨2,[]⟩ H (w (by omega)) (by omega);rw [if_pos q,ij,Ea,j,Ea];by_cases z:e=0
     ·rw [if_neg (by simpa using z)];obtain ⟨v,g1,g2⟩:=D.stats k p d B s.Body H (O c).1 (O c).2 (by omega) (by omega);rw [g1,Ea];by_cases z2:v=0
      ·rw [if_neg (by simpa using z2)];obtain ⟨nd,g3⟩:=g2 z2;by_cases c4:s.Kind=4
       ·rw [decide_eq_true c4];exact same v (fun _=>.Jz c4 (g z) g3) _ rfl
       ·have c3:s.Kind=3:=by omega
        obtain ⟨lc,f1,f2⟩:=D.stats k p d B s.Ff H (he c3).1 (he c3).2 (by omega) (by omega);rw [decide_eq_false c4,Ms,if_neg (by decide)];simp only [];rw [f1,Ea];refine same lc (fun r=>?_) _ rfl;obtain ⟨x,f3⟩:=f2 r;exact .kr c3 (g z) g3 f3
      ·rw [if_pos z2];exact same v (fun h=>absurd h z2) _ rfl
     ·rw [if_pos z];exact same e (fun h=>absurd h z) _ rfl
    rw [if_neg q];have rd:s.Kind≠3:=fun h=>q (K.2 (.inl h));have wd:s.Kind≠4:=fun h=>q (K.2 (.inr h));by_cases c5:s.Kind=5
    ·rw [if_pos c5];split
     ·exact same 8 (fun h=>absurd h (by decide)) _ rfl
     ·rename_i R;obtain ⟨e,j,g⟩:=A d.ic H (w (by omega)) (by omega);rw [j,Ea];exact same e (fun r=>.Wq c5 (by omega) (g r)) _ rfl
    rw [if_neg c5];by_cases Me:s.Kind=6
    ·rw [if_pos Me];split
     ·exact same 8 (fun h=>absurd h (by decide)) _ rfl
     ·rename_i R;exact same 0 (fun r=>.iz Me R) _ rfl
    rw [if_neg Me];by_cases M:s.Kind=7
    ·rw [if_pos M,zr,Ea];by_cases c:An (ob p.named s.Name) 1=true
     ·obtain ⟨f,S,rc⟩:=Xr c;obtain ⟨e,j,g⟩:=A f.ic H (w (by omega)) (by omega);rw [if_pos c,S];simp only [Ea];rw [j,Ea];exact same e (fun r=>.Qq M S rc (g r)) _ rfl
     ·rw [if_neg c];exact same 7 (fun h=>absurd h (by decide)) _ rfl
    rw [if_neg M];by_cases Ng:s.Kind=8
    ·obtain ⟨t,e,j,g⟩:=G H (w (by omega)) (by omega);rw [if_pos Ng,j,Ea];by_cases z:e=0
     ·rw [if_pos z,cn,Ea,xv];refine same _ (fun r=>.Xq Ng (g z).2 fun fd=>?_) _ rfl;simp [fd] at r
     ·rw [if_neg z,xv];exact same e (fun h=>absurd h z) _ rfl
    rw [if_neg Ng];by_cases c9:s.Kind=9
    ·obtain ⟨t,e,j,g⟩:=G H (w (by omega)) (by omega);rw [if_pos c9,j,Ea];exact same e (fun r=>.lr c9 (g r).2) _ rfl
    ·omega
   split
   ·rename_i h;exact Q _ (by simp [h])
   ·rename_i h;exact Q _ (by simp [h])
def Yq (d:va):List (Nm×Ya):=d.Params.foldl (fun m q=>Nd m q.Name (Ge q.ic)) []
theorem eI (fu:Nat) (z:500≤fu) (p:yb) (d:va) (s:Qz p) (g:Jm p d) (La:hr d):∃ e,Yo fu p d=some e∧(e=0→d.Kind≠1→∃ f,rj p d ([if d.Kind=4 then [] else Yq d]++[[]]) d.Body f):=by
 rw [Yo];by_cases bc:d.Kind=1
 ·rw [if_pos bc];exact ⟨0,rfl,fun _ h=>absurd bc h⟩
 ·rw [if_neg bc];have n:∀ B:ze,B.length=1→kl p B→∃ e,bq fu p d B=some e∧(e=0→∃ f,rj p d (B++[[]]) d.Body f):=by
   intro B o j;obtain ⟨e,u,v⟩:=(dI fu).stats 39 p d B d.Body ⟨s,g,j,by omega⟩ (La.Yd bc) (La.au bc) (by omega) (by omega);rw [bq,u,Ea];exact ⟨e,rfl,v⟩
  by_cases c4:d.Kind=4
  ·rw [if_neg (by simpa using c4),if_pos c4];obtain ⟨e,ia,l⟩:=n [[]] rfl (fun m hm k t a=>by rw [List.mem_singleton.1 hm] at a;cases a);exact ⟨e,ia,fun h _=>l h⟩
  ·rw [if_pos c4,if_neg c4];have r:d.Kind=2∨d.Kind=3:=by have:=La.k1;have:=La.Xe;omega
   have A:=g.pl r;have L:∀ (m i:Nat) (b:List (Nm×Ya)),i≤d.Params.length→d.Params.length<m+i→b=(d.Params.take i).foldl (fun m q=>Nd m q.Name (Ge q.ic)) []→kl p [b]→∃ e,Ro fu p d m i [b]=some e∧(e=0→∃ f,rj p d ([Yq d]++[[]]) d.Body f):=by
    intro m
    induction m with
    | zero=>intro i B o j; omega
    | succ m w =>
     intro i b o j g1 g2;rw [Ro];by_cases c:i<d.Params.length
     ·have x:0<[b].length:=by simp
      rw [if_pos (by omega),sg,List.getElem?_eq_getElem c,Ea,zz x,Ea,Am,Ea,lu,xf (by omega),Ea];refine w (i+1) (Nd b d.Params[i].Name (Ge d.Params[i].ic)) c (by omega) ?_ (fun C y k t a=>?_)
      ·rw [← List.take_append_getElem c,List.foldl_append,← g1];rfl
      ·rw [List.mem_singleton.1 y,tj] at a;split at a
       ·obtain rfl:=Option.some.inj a;exact (g.Eh r _ (List.getElem_mem _)).bare
       ·exact g2 b (by simp) k t a
     ·rw [if_neg (by omega)];have e:b=Yq d:=by rw [g1,List.take_of_length_le (by omega)];rfl
      rw [e] at g2 ⊢;exact n _ rfl g2
   obtain ⟨e,ia,l⟩:=L (d.Params.length+1) 0 [] (by omega) (by omega) rfl (fun m hm k t a=>by rw [List.mem_singleton.1 hm] at a;cases a);exact ⟨e,ia,fun h _=>l h⟩
end Go.Y
namespace Go.Y
open Go.hc Go.Mc
section
variable {fu:Nat}{l:List va}
theorem Kz {α β:Type}{f:α→Option β}:Option.bind (none:Option α) f=none:=rfl
theorem EJ (oa:l.length≤30) (N:List (Nm×va)) (p:yb) (f:Fe):∀ (m i:Nat),Oo fu l N m i=some (p,f)→f.tg=0→p=⟨l,N⟩∧∀ j (a:j<l.length),i≤j→Yo fu ⟨l,N⟩ l[j]=some 0:=by
 intro m
 induction m with
 | zero=>intro i h; cases h
 | succ m d =>
  intro i h b;rw [Oo] at h;by_cases c:i<l.length
  ·rw [if_pos (by omega),sg,List.getElem?_eq_getElem c,Ea] at h;cases e:Yo fu ⟨l,N⟩ l[i] with
   | none=>rw [e,Kz] at h; cases h
   | some r =>
    rw [e,Ea] at h;by_cases z:r≠0
    ·rw [if_pos z] at h;obtain ⟨rfl,rfl⟩:=Prod.mk.inj (Option.some.inj h);exact absurd b z
    ·rw [if_neg z,xf (by omega),Ea] at h;obtain ⟨g,k⟩:=d (i+1) h b;refine ⟨g,fun j a n=>?_⟩;by_cases q:j=i
     ·subst q;rw [e,Decidable.not_not.1 z]
     ·exact k j a (by omega)
  ·rw [if_neg (by omega)] at h;obtain ⟨rfl,rfl⟩:=Prod.mk.inj (Option.some.inj h);exact ⟨rfl,fun j a n=>by omega⟩
theorem FJ (oa:l.length≤30) (N:List (Nm×va)) (p:yb) (f:Fe):∀ (m i:Nat),Po fu l N m i=some (p,f)→f.tg=0→Oo fu l N (l.length+1) 0=some (p,f):=by
 intro m
 induction m with
 | zero=>intro i h; cases h
 | succ m b =>
  intro i h a;rw [Po] at h;by_cases c:i<l.length
  ·rw [if_pos (by omega),sg,List.getElem?_eq_getElem c,Ea] at h;cases e:ht ⟨l,N⟩ l[i] with
   | none=>rw [e,Kz] at h; cases h
   | some r =>
    rw [e,Ea] at h;by_cases z:r≠0
    ·rw [if_pos z] at h;obtain ⟨rfl,rfl⟩:=Prod.mk.inj (Option.some.inj h);exact absurd a z
    ·rw [if_neg z,xf (by omega),Ea] at h;exact b (i+1) h a
  ·rw [if_neg (by omega)] at h;exact h
theorem GJ (oa:l.length≤30) (p:yb) (f:Fe):∀ (m i:Nat) (t:Int) (N:List (Nm×va)),Qo fu l m t i N=some (p,f)→f.tg=0→∃ N,Po fu l N (l.length+1) 0=some (p,f):=by
 intro m
 induction m with
 | zero=>intro i t N h; cases h
 | succ m b =>
  intro i t N h a;rw [Qo] at h;by_cases c:i<l.length
  ·have Xa:at_ l (i:Int)=some l[i]:=by rw [sg,List.getElem?_eq_getElem c]
   rw [if_pos (by omega),Xa,Ea] at h;by_cases q:(ob N l[i].Name).isSome=true
   ·rw [if_pos q] at h;obtain ⟨rfl,rfl⟩:=Prod.mk.inj (Option.some.inj h);exact absurd a (by show ¬ (7:Int)=0;decide)
   ·rw [if_neg q,Ea,Ea,Ea] at h;by_cases Xe:l[i].Kind=4
    ·rw [if_pos Xe] at h;cases e:i64 (t+1) with
     | none=>rw [e,Kz] at h; cases h
     | some qc =>
      rw [e,Ea,xf (by omega),Ea] at h;exact b (i+1) qc _ h a
    ·rw [if_neg Xe,xf (by omega),Ea] at h;exact b (i+1) t _ h a
  ·rw [if_neg (by omega)] at h;by_cases t0:t=0
   ·rw [if_pos t0] at h;obtain ⟨rfl,rfl⟩:=Prod.mk.inj (Option.some.inj h);exact absurd a (by show ¬ (6:Int)=0;decide)
   ·rw [if_neg t0] at h;exact ⟨N,h⟩
theorem JG (b:500≤fu){p:yb}{f:Fe}(h:nq fu l=some (p,f)) (a:f.tg=0):(∀ d ∈ l,ir d)∧∀ d ∈ l,d.Kind≠1→∃ i,rj p d ([if d.Kind=4 then [] else Yq d]++[[]]) d.Body i:=by
 obtain ⟨s,t,c,m⟩:=bA fu b l;rw [h] at c;obtain ⟨rfl,rfl⟩:=Prod.mk.inj (Option.some.inj c);have R:=m a;have oa:=R.ok.le;obtain ⟨g,g1,-⟩:=Ax fu (by omega) l;rw [nq,g1,Ea] at h;by_cases z:g.tg≠0
 ·rw [if_pos z] at h;obtain ⟨-,rfl⟩:=Prod.mk.inj (Option.some.inj h);exact absurd a z
 ·rw [if_neg z] at h;refine ⟨(CJ (by omega) g1 (Decidable.not_not.1 z)).2,?_⟩;obtain ⟨N,h⟩:=GJ oa p f _ 0 0 _ h a;obtain ⟨rfl,n⟩:=EJ oa N p f _ 0 (FJ oa N p f _ 0 h a) a;intro d La k1;obtain ⟨j,o,rfl⟩:=List.getElem_of_mem La;obtain ⟨e,ia,q⟩:=eI fu b ⟨l,N⟩ l[j] (fun k d r=>R.La d (R.only k d r).1) (R.La _ La) (R.ok.ok _ La);rw [n j o (Nat.zero_le _)] at ia;exact q (Option.some.inj ia).symm k1
end
def jz (u:kf) (H:List Nm) (d:va):Prop:=(∀ z ∈ Lo d,z ∈ u.Qj)∧(∀ z ∈ Mo d,z ∈ u.uj)∧∀ c ∈ Si d,c ∈ H
theorem Yx (N:List (Nm×va)):∀ (cs a:List Nm) (todo:List (Option va)),(∀ c ∈ a,c ∈ (Fj N cs a todo).1)∧(∀ c ∈ cs,c ∈ (Fj N cs a todo).1)∧(∀ o ∈ todo,o ∈ (Fj N cs a todo).2)∧∀ c ∈ (Fj N cs a todo).1,c ∈ a∨ob N c ∈ (Fj N cs a todo).2
 | [],a,todo=>⟨fun c h=>h,fun c h=>(by cases h),fun o h=>h,fun c h=>.inl h⟩
 | c::cs,a,todo=>by
  rw [Fj];by_cases k:a.contains c=true
  ·rw [if_pos k];obtain ⟨d,f,e,g⟩:=Yx N cs a todo;refine ⟨d,fun x b=>?_,e,g⟩;rcases List.mem_cons.1 b with rfl | b
   ·exact d _ (by simpa using k)
   ·exact f x b
  ·rw [if_neg k];obtain ⟨d,f,e,g⟩:=Yx N cs (a++[c]) (todo++[ob N c]);refine ⟨fun x b=>d x (List.mem_append_left _ b),fun x b=>?_,fun o i=>e o (List.mem_append_left _ i),fun x b=>?_⟩
   ·rcases List.mem_cons.1 b with rfl | b
    ·exact d _ (by simp)
    ·exact f x b
   ·rcases g x b with h | h
    ·rcases List.mem_append.1 h with h | h
     ·exact .inl h
     ·rw [List.mem_singleton.1 h];exact .inr (e _ (by simp))
    ·exact .inr h
theorem fI (N:List (Nm×va)):∀ (n:Nat) (a:List Nm) (todo:List (Option va)) (s r:List Nm) (u:kf),tm N n a todo s r=some u→∃ H,(∀ c ∈ a,c ∈ H)∧(∀ z ∈ s,z ∈ u.Qj)∧(∀ z ∈ r,z ∈ u.uj)∧(∀ d,some d ∈ todo→jz u H d)∧∀ c ∈ H,c ∉ a→∀ d,ob N c=some d→jz u H d:=by
 intro n
 induction n with
 | zero=>intro a todo s r u h; cases h
 | succ n p =>
  intro a todo s r u h;cases todo with
  | nil =>
   rw [tm] at h;obtain rfl:=Option.some.inj h;exact ⟨a,fun c h=>h,fun z h=>h,fun z h=>h,fun d h=>(by cases h),fun c h v=>absurd h v⟩
  | cons o t =>
   cases o with
   | none=>rw [tm] at h; cases h
   | some d =>
    rw [tm] at h;obtain ⟨na,a2,a3,a4⟩:=Yx N (Si d) a t;obtain ⟨H,j,k,l,m,w⟩:=p _ _ _ _ u h;refine ⟨H,fun c g=>j c (na c g),fun z b=>k z (List.mem_append_left _ b),fun z b=>l z (List.mem_append_left _ b),fun i f=>?_,fun c g x i f=>?_⟩
    ·rcases List.mem_cons.1 f with e | f
     ·obtain rfl:=Option.some.inj e;exact ⟨fun z b=>k z (List.mem_append_right _ b),fun z b=>l z (List.mem_append_right _ b),fun c g=>j c (a2 c g)⟩
     ·exact m i (a3 _ f)
    ·by_cases q:c ∈ (Fj N (Si d) a t).1
     ·rcases a4 c q with q | q
      ·exact absurd q x
      ·rw [f] at q;exact m i q
     ·exact w c g q i f
inductive so (N:List (Nm×va)) (a:va):va→Prop
 | refl:so N a a
 | step {b e:va} {c:Nm}:so N a b→c ∈ Si b→ob N c=some e→so N a e
theorem KG {N:List (Nm×va)}{n:Nat}{a:va}{u:kf}(h:tm N n [] [some a] [] []=some u):∀ {d:va},so N a d→(∀ z ∈ Lo d,z ∈ u.Qj)∧∀ z ∈ Mo d,z ∈ u.uj:=by
 obtain ⟨H,-,-,-,b,c⟩:=fI N n [] [some a] [] [] u h;have key:∀ {d:va},so N a d→jz u H d:=by
  intro d La
  induction La with
  | refl=>exact b a (by simp)
  | step i e f g=>exact c _ (g.2.2 _ e) (by simp) _ f
 exact fun {d} La=>⟨(key La).1,(key La).2.1⟩
theorem qy (N:List (Nm×va)) (fu:Nat) (n:Nm):∀ (ds:List va) (L:List (Nm×kf)),(∀ d ∈ ds,d.Name≠n)→ob (Tj N fu ds L) n=ob L n
 | [],L,h=>rfl
 | d::ds,L,h=>by
  rw [Tj];have a:∀ e ∈ ds,e.Name≠n:=fun e he=>h e (List.mem_cons_of_mem _ he);split
  ·rw [qy N fu n ds _ a,tj,if_neg (h d (List.mem_cons_self ..))]
  ·exact qy N fu n ds L a
theorem Zx (N:List (Nm×va)) (fu:Nat){t:va}(Xe:t.Kind=4):∀ (ds:List va) (L:List (Nm×kf)),(ds.Pairwise fun a b=>a.Name≠b.Name)→t ∈ ds→ob (Tj N fu ds L) t.Name=some ((tm N fu [] [some t] [] []).getD yl)
 | d::ds,L,La,c=>by
  obtain ⟨g,f⟩:=List.pairwise_cons.1 La;rw [Tj];rcases List.mem_cons.1 c with rfl | c
  ·rw [if_pos Xe,qy N fu t.Name ds _ (fun e he=>(g e he).symm),tj,if_pos rfl]
  ·split
   ·exact Zx N fu Xe ds _ f c
   ·exact Zx N fu Xe ds _ f c
def Zq (L:List (Nm×kf)) (b:Nm) (t:va):Prop:=t.Kind=4∧((ob L t.Name).getD yl).Qj.contains b=true
def ar (L:List (Nm×kf)) (b:Nm) (t:va):Prop:=t.Kind=4∧((ob L t.Name).getD yl).uj.contains b=true
theorem ay (L:List (Nm×kf)) (b:Nm):∀ (sa:List va) (w r:Nm) (x:Nm×Nm),(∀ t ∈ sa,t.Name≠[])→vn L b sa w r=some x→((w≠[]→∀ t ∈ sa,¬ Zq L b t)∧sa.Pairwise fun a c=>¬ (Zq L b a∧Zq L b c))∧((r≠[]→∀ t ∈ sa,¬ ar L b t)∧sa.Pairwise fun a c=>¬ (ar L b a∧ar L b c))
 | [],w,r,x,f,h=>⟨⟨fun _ t d=>(by cases d),List.Pairwise.nil⟩,fun _ t d=>(by cases d),List.Pairwise.nil⟩
 | t::sa,w,r,x,f,h=>by
  have g:∀ e ∈ sa,e.Name≠[]:=fun e he=>f e (List.mem_cons_of_mem _ he);have d:=f t (List.mem_cons_self ..);rw [vn] at h;by_cases Xe:t.Kind≠4
  ·rw [if_pos Xe] at h;obtain ⟨⟨na,a2⟩,za,Vd⟩:=ay L b sa w r x g h;have Hd:¬ Zq L b t:=fun q=>Xe q.1;have i:¬ ar L b t:=fun q=>Xe q.1;refine ⟨⟨fun hw e he=>?_,List.pairwise_cons.2 ⟨fun e _ q=>Hd q.1,a2⟩⟩,fun hw e he=>?_,List.pairwise_cons.2 ⟨fun e _ q=>i q.1,Vd⟩⟩
   ·rcases List.mem_cons.1 he with rfl | he
    ·exact Hd
    ·exact na hw e he
   ·rcases List.mem_cons.1 he with rfl | he
    ·exact i
    ·exact za hw e he
  ·rw [if_neg Xe] at h;have Xe:t.Kind=4:=Decidable.not_not.1 Xe;by_cases bc:((ob L t.Name).getD yl).Qj.contains b=true∧w≠[]
   ·rw [if_pos bc] at h;cases h
   rw [if_neg bc] at h;by_cases c2:((ob L t.Name).getD yl).uj.contains b=true∧r≠[]
   ·rw [if_pos c2] at h;cases h
   rw [if_neg c2] at h;obtain ⟨⟨na,a2⟩,za,Vd⟩:=ay L b sa _ _ x g h;refine ⟨⟨fun hw e he=>?_,List.pairwise_cons.2 ⟨fun e he q=>?_,a2⟩⟩,fun hw e he=>?_,List.pairwise_cons.2 ⟨fun e he q=>?_,Vd⟩⟩
   ·rcases List.mem_cons.1 he with rfl | he
    ·exact fun q=>bc ⟨q.2,hw⟩
    ·exact na (by split<;>assumption) e he
   ·rw [if_pos q.1.2] at na;exact na d e he q.2
   ·rcases List.mem_cons.1 he with rfl | he
    ·exact fun q=>c2 ⟨q.2,hw⟩
    ·exact za (by split<;>assumption) e he
   ·rw [if_pos q.1.2] at za;exact za d e he q.2
theorem cy (L:List (Nm×kf)) (l:List va):∀ (xs:List va) (i:Int) (acc:List Ah),(Cp L l xs i acc).2.tg=0→∀ x ∈ xs,x.Kind=1→∃ y,vn L x.Name l [] []=some y
 | [],i,acc,h,x,a,_=>by cases a
 | z::xs,i,acc,h,x,a,k1=>by
  rw [Cp] at h;by_cases c:z.Kind≠1
  ·rw [if_pos c] at h;rcases List.mem_cons.1 a with rfl | a
   ·exact absurd k1 c
   ·exact cy L l xs _ _ h x a k1
  ·rw [if_neg c] at h;cases e:vn L z.Name l [] [] with
   | none=>rw [e] at h; exact absurd h (by show ¬ (8:Int)=0; decide)
   | some y =>
    rw [e] at h;rcases List.mem_cons.1 a with rfl | a
    ·exact ⟨y,e⟩
    ·exact cy L l xs _ _ h x a k1
end Go.Y
