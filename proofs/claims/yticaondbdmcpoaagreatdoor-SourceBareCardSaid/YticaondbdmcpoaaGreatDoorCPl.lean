/- Texts of SourceBare Pl. -/
import Derived.Test.YticaondbdmcpoaaGreatDoorCMd
import Derived.KernelRfl
set_option linter.unusedSimpArgs false
set_option linter.unusedVariables false
set_option linter.unusedSectionVars false
namespace Go.Y
open Go.Rb Go.ec
theorem De {n:Int}(h:-9223372036854775808≤n∧n≤9223372036854775807):i64 n=some n:=if_pos h
theorem ma {α β:Type}{x:α}{f:α→Option β}:Option.bind (some x) f=f x:=rfl
theorem Ce {α:Type}{l:List α}{i:Nat}:at_ l (i:Int)=l[i]?:=by simp [at_]
theorem ez {α:Type}{l:List α}(h:0<l.length):at_ l 0=some l[0]:=by simp [at_,h]
theorem OC (c:UInt8):∃ b,Tr c=some b:=by
 unfold Tr;split
 ·split<;>exact ⟨_,rfl⟩
 ·exact ⟨_,rfl⟩
theorem DH (c:UInt8):∃ b,Wr c=some b:=by
 unfold Wr;split<;>exact ⟨_,rfl⟩
theorem KK (c:UInt8):∃ b,Fs c=some b:=by
 obtain ⟨a,d⟩:=OC c;obtain ⟨b,e⟩:=DH c;unfold Fs;rw [d,ma,e,ma];split<;>exact ⟨_,rfl⟩
theorem iD (l:List UInt8) (p:UInt8→Option Bool) (a:∀ c,∃ b,p c=some b) (ia:l.length≤65536):∀ (n i:Nat),i≤l.length→l.length<n+i→∃ r,xn l p n (i:Int)=some r
 | 0,i,d,e=>by omega
 | n+1,i,d,e=>by
  rw [xn];by_cases c:i<l.length
  ·obtain ⟨b,f⟩:=a l[i];rw [if_pos (by omega),Ce,List.getElem?_eq_getElem c,ma,f,ma];cases b with
   | true=>rw [Qr,if_pos rfl,De (by omega),ma]; exact iD l p a ia n (i+1) c (by omega)
   | false=>exact ⟨_,rfl⟩
  ·rw [if_neg (by omega)];exact ⟨_,rfl⟩
theorem Ju (fu:Nat) (i:20≤fu) (s:List UInt8):∃ b,ai fu s=some b:=by
 have a:∀ b,(b=true∨s.length≤12)→∃ r,Xo fu s b=some r:=by
  intro b c;cases b with
  | true=>exact ⟨_,rfl⟩
  | false =>
   have j:s.length≤12:=by simpa using c
   obtain ⟨r,f⟩:=iD s Fs KK (by omega) fu 0 (by omega) (by omega);have g:At fu s Fs=some r:=f;exact ⟨_,by rw [Xo,if_neg (by decide),g,ma]⟩
 rw [ai];by_cases d:(s.length:Int)<1
 ·rw [if_pos d];exact a _ (.inl rfl)
 ·rw [if_neg d];by_cases e:(12:Int)<s.length
  ·rw [if_pos e];exact a _ (.inl rfl)
  ·have h:0<s.length:=by omega
   obtain ⟨b,c⟩:=OC s[0];rw [if_neg e,ez h,ma,c,ma];cases b with
   | false=>rw [if_neg (by decide)]; exact a _ (.inl rfl)
   | true =>
    rw [if_pos rfl,cat,if_pos (by simp;omega),ma,cat,if_pos (by simp;omega),ma,Ny,if_pos (by decide +kernel),ma];exact a _ (.inr (by omega))
def Lh (k:Int):Int:=if k≤3∨k=20 then 0 else if k≤5∨k=21∨k=24 then 1 else if k≤18∨k=23 then 2 else -1
theorem Zz (k:Int):Vv k=some (Lh k):=by
 unfold Vv Lh;by_cases a:k≤3
 ·rw [if_pos a,if_pos (.inl a)];rfl
 ·rw [if_neg a];by_cases b:k=20
  ·rw [decide_eq_true b,if_pos (.inr b)];rfl
  ·rw [decide_eq_false b,Mv,if_neg (by decide),if_neg (show ¬ (k≤3∨k=20) by omega)];by_cases c:k≤5
   ·rw [if_pos c,if_pos (.inl c)];rfl
   ·rw [if_neg c];by_cases d:k=21
    ·rw [if_pos d,if_pos (.inr (.inl d))];rfl
    ·rw [if_neg d];by_cases e:k=24
     ·rw [decide_eq_true e,if_pos (.inr (.inr e))];rfl
     ·rw [decide_eq_false e,Eu,if_neg (by decide),if_neg (show ¬ (k≤5∨k=21∨k=24) by omega)];by_cases f:k≤18
      ·rw [if_pos f,if_pos (.inl f)];rfl
      ·rw [if_neg f];by_cases g:k=23
       ·rw [decide_eq_true g,if_pos (.inr g)];rfl
       ·rw [decide_eq_false g,if_neg (show ¬ (k≤18∨k=23) by omega)];rfl
theorem aA (node d:Int) (a:0≤node) (b:node≤4294967296):∃ e,Bt node d=some (e,node+1)∧(e=0→node+1≤2000∧d≤40):=by
 unfold Bt;rw [De (by omega),ma];by_cases c:2000<node+1
 ·rw [if_pos c];exact ⟨4,rfl,fun h=>absurd h (by decide)⟩
 ·rw [if_neg c];by_cases e:40<d
  ·rw [decide_eq_true e];exact ⟨4,rfl,fun h=>absurd h (by decide)⟩
  ·rw [decide_eq_false e];exact ⟨0,rfl,fun _=>⟨by omega,by omega⟩⟩
structure oB (x:Da):Prop where
 eq:0≤Lh x.Kind→(x.Kids.length:Int)=Lh x.Kind
 le:x.Kids.length≤6
def ph:Nat→Da→Prop
 | 0,_=>False
 | k+1,x=>1≤x.Kind∧x.Kind≤24∧oB x∧∀ y ∈ x.Kids,ph k y
def vk:Nat→Da→Nat
 | 0,_=>0
 | k+1,x=>1+(x.Kids.map (vk k)).sum
theorem LK (k:Int):Lh k≤2:=by
 unfold Lh;split
 ·decide
 ·split
  ·decide
  ·split<;>decide
theorem EH:∀ (n:Nat) (x:Da) (d node:Int),62≤n+d→0≤d→d≤41→0≤node→node≤2000 →
  ∃ e k,(Pg n).ei node x d=some (e,k)∧node≤k∧(e=0→k≤2000∧ph (41 - d).toNat x∧k=node+(vk (41 - d).toNat x:Nat)):=by
 intro n
 induction n with
 | zero=>intro x d node C t u; omega
 | succ n D =>
  intro x d node C t u E V;show ∃ e k,ei n (Pg n) node x d=some (e,k)∧_;obtain ⟨b,F⟩:=Ju n (by omega) x.Name;obtain ⟨e,H,he⟩:=aA node d E (by omega);rw [ei,H,ma];by_cases c:e=0
  ·subst c;obtain ⟨W,xa⟩:=he rfl;rw [if_neg (by simp)];have K:(41 - d).toNat=(40 - d).toNat+1:=by omega
   rw [K];generalize a:(fun o:Option (Int×Int)=>∃ e k,o=some (e,k)∧node≤k∧(e=0→k≤2000∧ph ((40 - d).toNat+1) x∧k=node+(vk ((40 - d).toNat+1) x:Nat)))=P;have bad:∀ e:Int,e≠0→P (some (e,node+1)):=fun e h=>by rw [← a];exact ⟨e,_,rfl,by omega,fun M=>absurd M h⟩
   have L:x.Kids.length≤6→∀ (m i:Nat) (c:Int),i≤x.Kids.length→x.Kids.length<m+i→0≤c→c≤2000 →
     ∃ e k,xk (Pg n) x d m i c=some (e,k)∧c≤k∧(e=0→k≤2000∧(∀ y ∈ x.Kids.drop i,ph (40 - d).toNat y)∧k=c+(((x.Kids.drop i).map (vk (40 - d).toNat)).sum:Nat)):=by
    intro ia m
    induction m with
    | zero=>intro i c t u; omega
    | succ m N =>
     intro i c g1 g2 g3 g4;rw [xk];by_cases q:i<x.Kids.length
     ·obtain ⟨e,k,qa,O,Q⟩:=D x.Kids[i] (d+1) c (by omega) (by omega) (by omega) g3 g4;rw [if_pos (by omega),Ce,List.getElem?_eq_getElem q,ma,De (by omega),ma,qa,ma];by_cases z:e=0
      ·subst z;obtain ⟨f1,f2,f3⟩:=Q rfl;rw [if_neg (by simp),De (by omega),ma];obtain ⟨R,k',g,S,j⟩:=N (i+1) k q (by omega) (by omega) f1;refine ⟨R,k',g,by omega,fun l=>?_⟩;obtain ⟨s1,s2,v⟩:=j l;have T:(41 - (d+1)).toNat=(40 - d).toNat:=by omega
       rw [T] at f2 f3;refine ⟨s1,fun y f=>?_,?_⟩
       ·rw [List.drop_eq_getElem_cons q] at f;rcases List.mem_cons.1 f with rfl | f
        ·exact f2
        ·exact s2 y f
       ·rw [List.drop_eq_getElem_cons q,List.map_cons,List.sum_cons];omega
      ·rw [if_pos z];exact ⟨e,k,rfl,O,fun h=>absurd h z⟩
     ·rw [if_neg (by omega),List.drop_eq_nil_of_le (by omega)];exact ⟨0,c,rfl,by omega,fun _=>⟨g4,by simp,by simp⟩⟩
   by_cases xd:1≤x.Kind∧x.Kind≤24
   ·have p:∀ b,(b=false→oB x)→P (yn (Pg n) x d (0,node+1) b):=by
     intro b h;cases b with
     | true=>exact bad 5 (by decide)
     | false =>
      have w:=h rfl;rw [yn,if_neg (by decide),← a];obtain ⟨e,k,g,S,j⟩:=L w.le (x.Kids.length+1) 0 (node+1) (by omega) (by omega) (by omega) (by omega);refine ⟨e,k,g,by omega,fun l=>?_⟩;obtain ⟨s1,s2,v⟩:=j l;rw [List.drop_zero] at s2 v;exact ⟨s1,⟨xd.1,xd.2,w,s2⟩,by rw [vk];omega⟩
    have X:=LK x.Kind;have A:∀ b,(b=false→0≤Lh x.Kind→(x.Kids.length:Int)=Lh x.Kind)→P (zn (Pg n) x d (0,node+1) (Lh x.Kind) b):=by
     intro b h;cases b with
     | true=>rw [zn,if_pos rfl]; exact p _ (fun h=>absurd h (by decide))
     | false =>
      rw [zn,if_neg (by decide)];by_cases q:Lh x.Kind<0
      ·rw [if_pos q];exact p _ fun xa=>⟨h rfl,by have:=of_decide_eq_false xa;omega⟩
      ·rw [if_neg q];exact p _ fun _=>⟨h rfl,by have:=h rfl (by omega);omega⟩
    have r:∀ b,P (im (Pg n) x d (0,node+1) (Lh x.Kind) b):=by
     intro b;cases b with
     | true=>exact bad 7 (by decide)
     | false =>
      rw [im,if_neg (by decide)];by_cases q:0≤Lh x.Kind
      ·rw [if_pos q];exact A _ fun xa _=>by have:=of_decide_eq_false xa;omega
      ·rw [if_neg q];exact A _ fun _ h=>absurd h q
    have s:∀ b,P (Pm n (Pg n) x d (0,node+1) (Lh x.Kind) b):=by
     intro Ic;cases Ic with
     | true=>exact bad 3 (by decide)
     | false =>
      rw [Pm,if_neg (by decide),F];simp only [ma];split
      ·exact r _
      ·split
       ·exact r _
       ·split<;>exact r _
    have B:∀ b,P (An n (Pg n) x d (0,node+1) (Lh x.Kind) b):=by
     intro Ic;unfold An;split
     ·exact s _
     ·split
      ·split<;>exact s _
      ·exact s _
    have U:∀ b,P (Il n (Pg n) x d (0,node+1) b):=by
     intro Ic;cases Ic with
     | true=>exact bad 1 (by decide)
     | false =>
      rw [Il,if_neg (by decide),Zz,ma];split
      ·split<;>exact B _
      ·exact B _
    have G:P (if x.Kind<1 then Il n (Pg n) x d (0,node+1) true else Il n (Pg n) x d (0,node+1) (decide ((24:Int)<x.Kind))):=by
     split<;>exact U _
    rw [← a] at G;exact G
   ·have G:P (if x.Kind<1 then Il n (Pg n) x d (0,node+1) true else Il n (Pg n) x d (0,node+1) (decide ((24:Int)<x.Kind))):=by
     split
     ·exact bad 1 (by decide)
     ·rw [decide_eq_true (show 24<x.Kind by omega)];exact bad 1 (by decide)
    rw [← a] at G;exact G
  ·rw [if_pos c];exact ⟨e,_,rfl,by omega,fun h=>absurd h c⟩
def yl:Nat→Ea→Prop
 | 0,_=>False
 | k+1,s=>1≤s.Kind∧s.Kind≤9∧(s.Kind≠6→ph k s.X)∧((s.Kind=3∨s.Kind=4)→s.Body.length≤50∧∀ y ∈ s.Body,yl k y)∧(s.Kind=3→s.me.length≤50∧∀ y ∈ s.me,yl k y)
def ih:Nat→Ea→Nat
 | 0,_=>0
 | k+1,s=>1+(if s.Kind=6 then 0 else vk k s.X)+(if s.Kind=3∨s.Kind=4 then (s.Body.map (ih k)).sum else 0)+(if s.Kind=3 then (s.me.map (ih k)).sum else 0)
theorem FH:∀ (n:Nat),(∀ (l:List Ea) (d node:Int),2*(42 - d)+65≤n→0≤d→d≤41→0≤node→node≤2000 →
   ∃ e k,(Qg n).ah node l d=some (e,k)∧node≤k∧(e=0→k≤2000∧(l.length≤50∧∀ y ∈ l,yl (41 - d).toNat y)∧k=node+((l.map (ih (41 - d).toNat)).sum:Nat))) ∧
  (∀ (x:Ea) (d node:Int),2*(42 - d)+64≤n→0≤d→d≤41→0≤node→node≤2000 →
   ∃ e k,(Qg n).jj node x d=some (e,k)∧node≤k∧(e=0→k≤2000∧yl (41 - d).toNat x∧k=node+(ih (41 - d).toNat x:Nat))):=by
 intro n
 induction n with
 | zero=>exact ⟨fun l d node D s t=>by omega,fun l d node D s t=>by omega⟩
 | succ n O =>
  obtain ⟨Q,R⟩:=O;refine ⟨fun l d node D s t j F=>?_,fun x d node D s t j F=>?_⟩
  ·show ∃ e k,ah (Qg n) node l d=some (e,k)∧_;rw [ah];by_cases ia:(50:Int)<l.length
   ·rw [if_pos ia];exact ⟨5,node,rfl,by omega,fun h=>absurd h (by decide)⟩
   ·rw [if_neg ia];have L:∀ (m i:Nat) (c:Int),i≤l.length→l.length<m+i→0≤c→c≤2000 →
      ∃ e k,fo (Qg n) l d m i c=some (e,k)∧c≤k∧(e=0→k≤2000∧(∀ y ∈ l.drop i,yl (41 - d).toNat y)∧k=c+(((l.drop i).map (ih (41 - d).toNat)).sum:Nat)):=by
     intro m
     induction m with
     | zero=>intro i c s t; omega
     | succ m S =>
      intro i c g1 g2 g3 g4;rw [fo];by_cases q:i<l.length
      ·obtain ⟨e,k,qa,T,U⟩:=R l[i] d c (by omega) s t g3 g4;rw [if_pos (by omega),Ce,List.getElem?_eq_getElem q,ma,qa,ma];by_cases z:e=0
       ·subst z;obtain ⟨f1,f2,f3⟩:=U rfl;rw [if_neg (by simp),De (by omega),ma];obtain ⟨V,k',g,u,f⟩:=S (i+1) k q (by omega) (by omega) f1;refine ⟨V,k',g,by omega,fun v=>?_⟩;obtain ⟨s1,s2,p⟩:=f v;refine ⟨s1,fun y C=>?_,?_⟩
        ·rw [List.drop_eq_getElem_cons q] at C;rcases List.mem_cons.1 C with rfl | C
         ·exact f2
         ·exact s2 y C
        ·rw [List.drop_eq_getElem_cons q,List.map_cons,List.sum_cons];omega
       ·rw [if_pos z];exact ⟨e,k,rfl,T,fun h=>absurd h z⟩
      ·rw [if_neg (by omega),List.drop_eq_nil_of_le (by omega)];exact ⟨0,c,rfl,by omega,fun _=>⟨g4,by simp,by simp⟩⟩
    obtain ⟨e,k,g,u,f⟩:=L (l.length+1) 0 node (by omega) (by omega) j F;refine ⟨e,k,g,u,fun v=>?_⟩;obtain ⟨s1,s2,p⟩:=f v;rw [List.drop_zero] at s2 p;exact ⟨s1,⟨by omega,s2⟩,p⟩
  ·show ∃ e k,jj n (Qg n) node x d=some (e,k)∧_;obtain ⟨b,W⟩:=Ju n (by omega) x.Name;obtain ⟨e,Y,he⟩:=aA node d j (by omega);rw [jj,Y,ma];by_cases c:e=0
   ·subst c;obtain ⟨rc,xa⟩:=he rfl;rw [if_neg (by simp)];have Z:(41 - d).toNat=(40 - d).toNat+1:=by omega
    have H:(41 - (d+1)).toNat=(40 - d).toNat:=by omega
    rw [Z];generalize w:(fun o:Option (Int×Int)=>∃ e k,o=some (e,k)∧node≤k∧(e=0→k≤2000∧yl ((40 - d).toNat+1) x∧k=node+(ih ((40 - d).toNat+1) x:Nat)))=P;have bad:∀ e c:Int,e≠0→node≤c→P (some (e,c)):=fun e c h K=>by rw [← w];exact ⟨e,_,rfl,K,fun bb=>absurd bb h⟩
    have kids:=fun (l:List Ea) (c:Int) (K:node≤c) (Gb:c≤2000)=>Q l (d+1) c (by omega) (by omega) (by omega) (by omega) Gb;rw [H] at kids;have G:P (if x.Kind<1 then Qm n (Qg n) x d (0,node+1) true else Qm n (Qg n) x d (0,node+1) (decide ((9:Int)<x.Kind))):=by
     by_cases xd:1≤x.Kind∧x.Kind≤9
     ·have M:∀ (c:Int),node≤c→c≤2000→x.Kind≠6→ph (40 - d).toNat x.X→((x.Kind=3∨x.Kind=4)→x.Body.length≤50∧∀ y ∈ x.Body,yl (40 - d).toNat y) →
        c=node+1+(vk (40 - d).toNat x.X:Nat)+((if x.Kind=3∨x.Kind=4 then (x.Body.map (ih (40 - d).toNat)).sum else 0:Nat):Int)→P (po (Qg n) x d c):=by
       intro c g1 g2 a A r gc;rw [po];by_cases B:x.Kind=3
       ·obtain ⟨e,k,g,u,f⟩:=kids x.me c g1 g2;rw [if_pos B,De (by omega),ma,g,ma];rw [← w];refine ⟨e,k,rfl,by omega,fun v=>?_⟩;obtain ⟨s1,s2,p⟩:=f v;refine ⟨s1,⟨xd.1,xd.2,fun _=>A,r,fun _=>s2⟩,?_⟩;rw [ih,if_neg a,if_pos B];omega
       ·rw [if_neg B,← w];refine ⟨0,c,rfl,g1,fun _=>⟨g2,⟨xd.1,xd.2,fun _=>A,r,fun h=>absurd h B⟩,?_⟩⟩;rw [ih,if_neg a,if_neg B];omega
      have N:∀ (c:Int) b,node≤c→c≤2000→x.Kind≠6→ph (40 - d).toNat x.X→(b=true ↔ x.Kind=3∨x.Kind=4)→c=node+1+(vk (40 - d).toNat x.X:Nat)→P (qo (Qg n) x d (0,c) b):=by
       intro c b g1 g2 a A r gc;rw [qo];by_cases q:b=true
       ·obtain ⟨e,k,g,u,f⟩:=kids x.Body c g1 g2;rw [if_pos q,De (by omega),ma,g,ma];by_cases z:e=0
        ·subst z;obtain ⟨s1,s2,p⟩:=f rfl;rw [if_neg (by simp)];exact M k (by omega) s1 a A (fun _=>s2) (by rw [if_pos (r.1 q)];omega)
        ·rw [if_pos z];exact bad e k z (by omega)
       ·rw [if_neg q];exact M c g1 g2 a A (fun h=>absurd (r.2 h) q) (by rw [if_neg fun h=>q (r.2 h)];omega)
      have E:∀ b,P (jm n (Qg n) x d (0,node+1) b):=by
       intro b;cases b with
       | true=>exact bad 7 _ (by decide) (by omega)
       | false =>
        rw [jm,if_neg (by decide)];by_cases a:x.Kind=6
        ·rw [if_pos a,← w];refine ⟨0,node+1,rfl,by omega,fun _=>⟨by omega,⟨xd.1,xd.2,fun h=>absurd a h,fun h=>by omega,fun h=>by omega⟩,?_⟩⟩;rw [ih,if_pos a,if_neg (by omega),if_neg (by omega)];omega
        ·obtain ⟨e,k,g,u,f⟩:=EH n x.X (d+1) (node+1) (by omega) (by omega) (by omega) (by omega) (by omega);rw [H] at f;rw [if_neg a,De (by omega),ma,g,ma];by_cases z:e=0
         ·subst z;obtain ⟨s1,s2,p⟩:=f rfl;rw [if_neg (by simp)];split
          ·rename_i j;exact N k true (by omega) s1 a s2 (by simp [j]) (by omega)
          ·rename_i j;exact N k _ (by omega) s1 a s2 (by simp [j]) (by omega)
         ·rw [if_pos z];exact bad e k z (by omega)
      have lc:∀ b,P (Qm n (Qg n) x d (0,node+1) b):=by
       intro Ic;cases Ic with
       | true=>exact bad 1 _ (by decide) (by omega)
       | false =>
        rw [Qm,if_neg (by decide),W];simp only [ma];split
        ·exact E _
        ·split
         ·exact E _
         ·split<;>exact E _
      split<;>exact lc _
     ·split
      ·exact bad 1 _ (by decide) (by omega)
      ·rw [decide_eq_true (show 9<x.Kind by omega)];exact bad 1 _ (by decide) (by omega)
    rw [← w] at G;exact G
   ·rw [if_pos c];exact ⟨e,_,rfl,by omega,fun h=>absurd h c⟩
def Oo (t:Sa):Prop:=1≤t.Kind∧t.Kind≤3
theorem Wx (fu:Nat) (a:20≤fu) (t:Sa):∃ e,Vm fu t=some e∧(e=0→Oo t):=by
 obtain ⟨b,d⟩:=Ju fu a t.bc;rw [Vm];by_cases c:1≤t.Kind∧t.Kind≤3
 ·rw [if_neg (by omega),decide_eq_false (by omega),Zo,if_neg (by decide),d];simp only [ma];have:∀ b,∃ e,Ov b=some e:=fun b=>by cases b<;>exact ⟨_,rfl⟩
  split
  ·obtain ⟨e,he⟩:=this (!b);exact ⟨e,he,fun _=>c⟩
  ·obtain ⟨e,he⟩:=this false;exact ⟨e,he,fun _=>c⟩
 ·split
  ·exact ⟨1,rfl,fun h=>absurd h (by decide)⟩
  ·rw [decide_eq_true (show 3<t.Kind by omega)];exact ⟨1,rfl,fun h=>absurd h (by decide)⟩
structure Dq (x:sa):Prop where
 k1:1≤x.Kind
 Ue:x.Kind≤4
 Nf:x.Kind=2∨x.Kind=3→x.Params.length≤6∧∀ p ∈ x.Params,Oo p.vb
 uk:x.Kind=3→Oo x.Cd
 ty:x.Kind≠4→Oo x.vb
 Ud:x.Kind≠1→x.Body.length≤50
 Ih:x.Kind≠1→∀ y ∈ x.Body,yl 39 y
def Gr (x:sa):Nat:=1+if x.Kind≠1 then (x.Body.map (ih 39)).sum else 0
theorem zI (fu:Nat) (N:200≤fu) (x:sa) (node:Int) (u:0≤node) (O:node≤2000):∃ e k,Co fu node x=some (e,k)∧node≤k∧(e=0→k≤2000∧Dq x∧k=node+(Gr x:Nat)):=by
 obtain ⟨b,v⟩:=Ju fu (by omega) x.Name;obtain ⟨e,w,he⟩:=aA node 1 u (by omega);rw [Co,w,ma];by_cases c:e=0
 ·subst c;obtain ⟨Q,xa⟩:=he rfl;rw [if_neg (by simp)];generalize j:(fun o:Option (Int×Int)=>∃ e k,o=some (e,k)∧node≤k∧(e=0→k≤2000∧Dq x∧k=node+(Gr x:Nat)))=P;have bad:∀ e c:Int,e≠0→node≤c→P (some (e,c)):=fun e c h y=>by rw [← j];exact ⟨e,_,rfl,y,fun A=>absurd A h⟩
  have G:P (if x.Kind<1 then Sm fu x (0,node+1) true else Sm fu x (0,node+1) (decide ((4:Int)<x.Kind))):=by
   by_cases xd:1≤x.Kind∧x.Kind≤4
   ·have n:(x.Kind=2∨x.Kind=3→x.Params.length≤6∧∀ p ∈ x.Params,Oo p.vb)→(x.Kind=3→Oo x.Cd)→(x.Kind≠4→Oo x.vb)→P (uo fu x (0,node+1)):=by
     intro g1 g2 g3;rw [uo];by_cases k1:x.Kind=1
     ·rw [if_neg (by simpa using k1)];have B:∀ b,P (Lu (0,node+1) b):=by
       intro b;cases b with
       | true=>exact bad 3 _ (by decide) (by omega)
       | false =>
        rw [← j];exact ⟨0,node+1,rfl,by omega,fun _=>⟨by omega,⟨xd.1,xd.2,g1,g2,g3,fun h=>absurd k1 h,fun h=>absurd k1 h⟩,by rw [Gr,if_neg (by simpa using k1)];omega⟩⟩
      split<;>exact B _
     ·obtain ⟨e,k,C,R,D⟩:=(FH fu).1 x.Body 2 (node+1) (by omega) (by omega) (by omega) (by omega) (by omega);rw [if_pos k1,C,ma,← j];refine ⟨e,k,rfl,by omega,fun E=>?_⟩;obtain ⟨s1,s2,F⟩:=D E;exact ⟨s1,⟨xd.1,xd.2,g1,g2,g3,fun _=>s2.1,fun _=>s2.2⟩,by rw [Gr,if_pos k1];rw [show (41 - (2:Int)).toNat=39 from rfl] at F;omega⟩
    have r:(x.Kind=2∨x.Kind=3→x.Params.length≤6∧∀ p ∈ x.Params,Oo p.vb)→(x.Kind=3→Oo x.Cd)→P (vo fu x (0,node+1)):=by
     intro g1 g2;rw [vo];by_cases Ue:x.Kind=4
     ·rw [if_neg (by simpa using Ue)];exact n g1 g2 fun h=>absurd Ue h
     ·obtain ⟨e,d,a⟩:=Wx fu (by omega) x.vb;rw [if_pos Ue,d,ma];by_cases z:e=0
      ·rw [if_neg (by simpa using z)];exact n g1 g2 fun _=>a z
      ·rw [if_pos z];exact bad e _ z (by omega)
    have s:(x.Kind=2∨x.Kind=3→x.Params.length≤6∧∀ p ∈ x.Params,Oo p.vb)→P (Rm fu x (0,node+1)):=by
     intro g1;rw [Rm];by_cases l:x.Kind=3
     ·obtain ⟨e,d,a⟩:=Wx fu (by omega) x.Cd;rw [if_pos l,d,ma];by_cases z:e=0
      ·rw [if_neg (by simpa using z)];exact r g1 fun _=>a z
      ·rw [if_pos z];exact bad e _ z (by omega)
     ·rw [if_neg l];exact r g1 fun h=>absurd h l
    have L:x.Params.length≤6→∀ (m i:Nat),i≤x.Params.length→x.Params.length<m+i→(∀ p ∈ x.Params.take i,Oo p.vb)→P (wo fu x (0,node+1) m i):=by
     intro ia m
     induction m with
     | zero=>intro i d a; omega
     | succ m H =>
      intro i g1 g2 g3;rw [wo];by_cases q:i<x.Params.length
      ·obtain ⟨Ic,K⟩:=Ju fu (by omega) x.Params[i].Name;obtain ⟨e,d,a⟩:=Wx fu (by omega) x.Params[i].vb;rw [if_pos (by omega),Ce,List.getElem?_eq_getElem q,ma,K,ma];cases Ic with
       | false=>rw [if_neg (by decide)]; exact bad 7 _ (by decide) (by omega)
       | true =>
        rw [if_pos rfl,d,ma];by_cases z:e=0
        ·rw [if_neg (by simpa using z),De (by omega),ma];refine H (i+1) q (by omega) fun p f=>?_;rw [List.take_succ_eq_append_getElem q] at f;rcases List.mem_append.1 f with f | f
         ·exact g3 p f
         ·rw [List.mem_singleton.1 f];exact a z
        ·rw [if_pos z];exact bad e _ z (by omega)
      ·rw [if_neg (by omega)];rw [List.take_of_length_le (by omega)] at g3;exact s fun _=>⟨ia,g3⟩
    have t:∀ b,(b=true ↔ x.Kind=2∨x.Kind=3)→P (xo fu x (0,node+1) b):=by
     intro b g;rw [xo];by_cases q:b=true
     ·rw [if_pos q];by_cases ia:(6:Int)<x.Params.length
      ·rw [if_pos ia];exact bad 5 _ (by decide) (by omega)
      ·rw [if_neg ia];exact L (by omega) (x.Params.length+1) 0 (by omega) (by omega) (by simp)
     ·rw [if_neg q];exact s fun h=>absurd (g.2 h) q
    have M:∀ b,P (Sm fu x (0,node+1) b):=by
     intro Ic;cases Ic with
     | true=>exact bad 1 _ (by decide) (by omega)
     | false =>
      rw [Sm,if_neg (by decide),v,ma];cases b with
      | false=>rw [if_neg (by decide)]; exact bad 7 _ (by decide) (by omega)
      | true =>
       rw [if_pos rfl];split
       ·rename_i a;exact t _ (by simp [a])
       ·rename_i a;exact t _ (by simp [a])
    split<;>exact M _
   ·split
    ·exact bad 1 _ (by decide) (by omega)
    ·rw [decide_eq_true (show 4<x.Kind by omega)];exact bad 1 _ (by decide) (by omega)
  rw [← j] at G;exact G
 ·rw [if_pos c];exact ⟨e,_,rfl,by omega,fun h=>absurd h c⟩
structure vv (l:List sa):Prop where
 le:l.length≤30
 ok:∀ d ∈ l,Dq d
 n:(l.map Gr).sum≤2000
theorem Gx (fu:Nat) (b:200≤fu) (l:List sa):∃ f,zo fu l=some f∧(f.Hg=0→f.Aa=0∧vv l):=by
 rw [zo];by_cases ia:(30:Int)<l.length
 ·rw [if_pos ia];exact ⟨_,rfl,fun h=>absurd h (by decide:(5:Int)≠0)⟩
 ·rw [if_neg ia];have L:∀ (m i:Nat) (c:Int),i≤l.length→l.length<m+i→0≤c→c≤2000→(∀ d ∈ l.take i,Dq d)→c=(((l.take i).map Gr).sum:Nat)→∃ f,ho fu l m i c=some f∧(f.Hg=0→f.Aa=0∧vv l):=by
   intro m
   induction m with
   | zero=>intro i c n o; omega
   | succ m g =>
    intro i c g1 g2 g3 g4 g5 g6;rw [ho];by_cases q:i<l.length
    ·obtain ⟨e,k,qa,r,j⟩:=zI fu b l[i] c g3 g4;rw [if_pos (by omega),Ce,List.getElem?_eq_getElem q,ma,qa,ma];by_cases z:e=0
     ·subst z;obtain ⟨f1,f2,f3⟩:=j rfl;rw [if_neg (by simp),De (by omega),ma];refine g (i+1) k q (by omega) (by omega) f1 (fun p a=>?_) ?_
      ·rw [List.take_succ_eq_append_getElem q] at a;rcases List.mem_append.1 a with a | a
       ·exact g5 p a
       ·rw [List.mem_singleton.1 a];exact f2
      ·rw [List.take_succ_eq_append_getElem q,List.map_append,List.sum_append,List.map_cons,List.map_nil,List.sum_cons,List.sum_nil];omega
     ·rw [if_pos z];exact ⟨_,rfl,fun h=>absurd h z⟩
    ·rw [if_neg (by omega)];rw [List.take_of_length_le (by omega)] at g5 g6;exact ⟨_,rfl,fun _=>⟨rfl,by omega,g5,by omega⟩⟩
  exact L (l.length+1) 0 0 (by omega) (by omega) (by omega) (by omega) (by simp) (by simp)
end Go.Y
namespace Go.Y
open Go.Rb Go.ec
abbrev Yd:=List (List (List UInt8×Sa))
def Lc (t:Sa):Sa:=if t.Kind≠3 then ⟨t.Kind,[]⟩ else t
theorem gm (t:Sa):bp t=some (decide (t.Kind≠3)):=rfl
theorem hj (t:Sa):Pp t=some (Lc t):=by
 rw [Pp,gm,ma,Lc];by_cases c:t.Kind≠3
 ·rw [decide_eq_true c,if_pos rfl,if_pos c];rfl
 ·rw [decide_eq_false c,if_neg (by decide),if_neg c];rfl
def Bj (o:Option sa) (k:Int):Bool:=match o with | some d=>decide (d.Kind=k) | none=>false
theorem km (p:pb) (kind:Int) (name:List UInt8):Ur p kind name=some (Ua p.named name,Bj (Ua p.named name) kind):=by
 rw [Ur];cases h:Ua p.named name with
 | none=>rfl
 | some d=>rfl
theorem mq {o:Option sa}{k:Int}(h:Bj o k=true):∃ d,o=some d∧d.Kind=k:=by
 cases o with
 | none=>cases h
 | some d=>exact ⟨d,rfl,of_decide_eq_true h⟩
def Ek (p:pb) (t:Sa):Prop:=t.Kind=3→∃ d,Ua p.named t.bc=some d∧d.Kind=3
theorem Ek.bare {p:pb}{t:Sa}(h:Ek p t):Ek p (Lc t):=by
 unfold Lc;split
 ·rename_i c;exact fun a=>absurd a c
 ·exact h
theorem Ek.of {p:pb}{t:Sa}(h:t.Kind≠3):Ek p t:=fun a=>absurd a h
theorem Kl {t:Sa}:(Lc t).Kind=t.Kind:=by
 unfold Lc;split<;>rfl
structure vm (p:pb) (d:sa):Prop where
 ty:d.Kind≠4→d.vb.Kind≠3
 uk:d.Kind=3→d.Cd.Kind≠3
 Nf:d.Kind=2∨d.Kind=3→∀ q ∈ d.Params,Ek p q.vb
 pl:d.Kind=2∨d.Kind=3→d.Params.length≤6
def yz (p:pb):Prop:=∀ k d,Ua p.named k=some d→vm p d
def al (p:pb) (B:Yd):Prop:=∀ m ∈ B,∀ k t,Ua m k=some t→Ek p t
structure gk (p:pb) (d:sa) (B:Yd):Prop where
 Vo:yz p
 xa:vm p d
 gd:al p B
 Ud:B.length≤100
theorem Hx {p:pb}{B:Yd}(hB:al p B) (ia:B.length≤100) (fu:Nat) (g:110≤fu) (d:sa) (name:List UInt8):∃ t b,cp fu p d B name=some (t,b)∧(b=true→Ek p t):=by
 have L:∀ (n j:Nat),j≤B.length→j<n→∃ t b,Mr name B n ((j:Int) - 1)=some (t,b)∧(b=true→Ek p t):=by
  intro n
  induction n with
  | zero=>intro j a c; omega
  | succ n f =>
   intro j a c;rw [Mr];cases j with
   | zero=>rw [if_neg (by omega)]; exact ⟨_,_,rfl,by simp⟩
   | succ j =>
    have e:((j+1:Nat):Int) - 1=(j:Int):=by omega
    rw [e,if_pos (by omega),Ce,List.getElem?_eq_getElem (show j<B.length by omega),ma];cases h:Ua B[j] name with
    | none =>
     rw [if_neg (by simp),De (by omega),ma];exact f j (by omega) (by omega)
    | some t=>exact ⟨t,true,rfl,fun _=>hB _ (List.getElem_mem _) _ _ h⟩
 rw [cp,De (by omega),ma];exact L fu B.length (by omega) (by omega)
def Calls (p:pb):Nat→Da→Prop
 | 0,_=>False
 | k+1,x=>(x.Kind=19→∃ d,Ua p.named x.Name=some d∧d.Kind=2)∧(x.Kind=22→∃ d,Ua p.named x.Name=some d∧d.Kind=3)∧(x.Kind=20→∃ d,Ua p.named x.Name=some d∧d.Kind=1)∧∀ y ∈ x.Kids,Calls p k y
theorem two {α:Type}{l:List α}(h:l.length=2):∃ a b,l=[a,b]:=by
 match l,h with
 | [a,b],_=>exact ⟨a,b,rfl⟩
theorem one {α:Type}{l:List α}(h:l.length=1):∃ a,l=[a]:=by
 match l,h with
 | [a],_=>exact ⟨a,rfl⟩
structure xN (n:Nat):Prop where
 typed:∀ (k:Nat) (p:pb) (d:sa) (B:Yd) (x:Da) (t:Sa),gk p d B→ph k x→3*k+111≤n→∃ e,(se n).Rg p d B x t=some e∧(e=0→Calls p k x)
 args:∀ (k:Nat) (p:pb) (d:sa) (B:Yd) (x:Da) (kind:Int),gk p d B→(∀ y ∈ x.Kids,ph k y)→x.Kids.length≤6→(kind=2∨kind=3)→3*k+112≤n →
  ∃ Ae e,(se n).Lj p d B x kind=some (Ae,e)∧(e=0→∃ f,Ae=some f∧Ua p.named x.Name=some f∧f.Kind=kind∧∀ y ∈ x.Kids,Calls p k y)
 both:∀ (k:Nat) (p:pb) (d:sa) (B:Yd) (x a b:Da),gk p d B→x.Kids=[a,b]→ph k a→ph k b→3*k+112≤n→∃ t e,(se n).yk p d B x=some (t,e)∧(e=0→Calls p k a∧Calls p k b)
 handle:∀ (k:Nat) (p:pb) (d:sa) (B:Yd) (x:Da),gk p d B→ph k x→3*k+112≤n→∃ Ae e,(se n).Kj p d B x=some (Ae,e)∧(e=0→(∃ f g,Ae=some f∧Ua p.named g=some f∧f.Kind=3)∧Calls p k x)
 expr:∀ (k:Nat) (p:pb) (d:sa) (B:Yd) (x:Da),gk p d B→ph k x→3*k+110≤n→∃ t e,(se n).Ah p d B x=some (t,e)∧(e=0→Ek p t∧Calls p k x)
theorem ix (r:Sa×Int) (b:Bool):Jv r b=some (if b=true then 9 else r.2):=by cases b<;>rfl
theorem Gv (r s:Sa×Int) (b:Bool):nt r s b=some (r.1,if b=true then 9 else s.2):=by cases b<;>rfl
theorem dv:∀ n,xN n:=by
 intro n
 induction n with
 | zero=>exact ⟨fun _ _ _ _ _ _ _ _ h=>by omega,fun _ _ _ _ _ _ _ _ _ _ h=>by omega,fun _ _ _ _ _ _ _ _ _ _ _ h=>by omega,fun _ _ _ _ _ _ _ h=>by omega,fun _ _ _ _ _ _ _ h=>by omega⟩
 | succ n u =>
  refine ⟨fun k p d B x t H w O=>?_,fun k p d B x kind H w ia D O=>?_,fun k p d B x a b H w j M O=>?_,fun k p d B x H w O=>?_,fun k p d B x H w O=>?_⟩
  ·show ∃ e,Rg (se n) p d B x t=some e∧_;obtain ⟨ib,e,r,o⟩:=u.expr k p d B x H w (by omega);rw [Rg,r,ma];by_cases z:e=0
   ·rw [if_pos z,hj,ma,ix];exact ⟨_,rfl,fun _=>(o z).2⟩
   ·rw [if_neg z,ix];exact ⟨e,rfl,fun h=>absurd h z⟩
  ·show ∃ Ae e,Lj (se n) p d B x kind=some (Ae,e)∧_;rw [Lj,km,ma];by_cases c:Bj (Ua p.named x.Name) kind=true
   ·obtain ⟨f,G,S⟩:=mq c;rw [if_pos c,G];simp only [ma];have gc:=H.Vo _ _ G;have fd:=gc.pl (by omega);by_cases q:(f.Params.length:Int)≠x.Kids.length
    ·rw [decide_eq_true q];exact ⟨none,5,rfl,fun h=>absurd h (by decide)⟩
    ·rw [decide_eq_false q,kt,if_neg (by decide)];simp only [ma];have L:∀ (m i:Nat),i≤f.Params.length→f.Params.length<m+i→∃ Ae e,jo (se n) x p d B (some f,Bj (some f) kind) f m i=some (Ae,e)∧(e=0→Ae=some f∧∀ y ∈ x.Kids.drop i,Calls p k y):=by
      intro m
      induction m with
      | zero=>intro i r o; omega
      | succ m T =>
       intro i r o;rw [jo];by_cases c:i<f.Params.length
       ·have X:i<x.Kids.length:=by omega
        obtain ⟨e,qa,v⟩:=u.typed k p d B x.Kids[i] f.Params[i].vb H (w _ (List.getElem_mem _)) (by omega);rw [if_pos (by omega),Ce,List.getElem?_eq_getElem c,ma,Ce,List.getElem?_eq_getElem X,ma,qa,ma];by_cases z:e=0
        ·rw [if_neg (by simpa using z),De (by omega),ma];obtain ⟨Ae,N,E,C⟩:=T (i+1) c (by omega);refine ⟨Ae,N,E,fun s=>⟨(C s).1,fun y A=>?_⟩⟩;rw [List.drop_eq_getElem_cons X] at A;rcases List.mem_cons.1 A with rfl | A
         ·exact v z
         ·exact (C s).2 y A
        ·rw [if_pos z];exact ⟨none,e,rfl,fun h=>absurd h z⟩
       ·rw [if_neg (by omega),List.drop_eq_nil_of_le (by omega)];exact ⟨some f,0,rfl,fun _=>⟨rfl,by simp⟩⟩
     obtain ⟨Ae,e,E,C⟩:=L (f.Params.length+1) 0 (by omega) (by omega);refine ⟨Ae,e,E,fun s=>?_⟩;obtain ⟨s1,s2⟩:=C s;rw [List.drop_zero] at s2;exact ⟨f,s1,rfl,S,s2⟩
   ·rw [if_neg c];exact ⟨none,7,rfl,fun h=>absurd h (by decide)⟩
  ·show ∃ t e,yk (se n) p d B x=some (t,e)∧_;obtain ⟨t1,qa,r,o⟩:=u.expr k p d B a H j (by omega);obtain ⟨t2,v,g1,g2⟩:=u.expr k p d B b H M (by omega);have k0:at_ x.Kids 0=some a:=by rw [w];rfl
   have k1:at_ x.Kids 1=some b:=by rw [w];rfl
   rw [yk,k0,ma,r,ma];by_cases z:qa=0
   ·rw [if_neg (by simpa using z),k1,ma,g1,ma];by_cases z2:v=0
    ·have fin:∀ Ic,∃ t e,nt (t1,qa) (t2,v) Ic=some (t,e)∧(e=0→Calls p k a∧Calls p k b):=fun Ic=>by rw [Gv];exact ⟨_,_,rfl,fun _=>⟨(o z).2,(g2 z2).2⟩⟩
     rw [if_pos z2];split
     ·rw [gm,ma];exact fin _
     ·exact fin _
    ·rw [if_neg z2,Gv];exact ⟨_,v,rfl,fun h=>absurd h z2⟩
   ·rw [if_pos z];exact ⟨_,qa,rfl,fun h=>absurd h z⟩
  ·show ∃ Ae e,Kj (se n) p d B x=some (Ae,e)∧_;obtain ⟨t,e,r,o⟩:=u.expr k p d B x H w (by omega);rw [Kj,r,ma];by_cases z:e=0
   ·rw [if_neg (by simpa using z),gm,ma];by_cases q:t.Kind≠3
    ·rw [if_pos (decide_eq_true q)];exact ⟨none,9,rfl,fun h=>absurd h (by decide)⟩
    ·obtain ⟨f,f1,f2⟩:=(o z).1 (Decidable.not_not.1 q);rw [if_neg (by simpa using q)];exact ⟨_,0,rfl,fun _=>⟨⟨f,t.bc,f1,f1,f2⟩,(o z).2⟩⟩
   ·rw [if_pos z];exact ⟨none,e,rfl,fun h=>absurd h z⟩
  ·show ∃ t e,Ah n (se n) p d B x=some (t,e)∧_;cases k with
   | zero=>cases w
   | succ k =>
   obtain ⟨k1,id,D,K⟩:=w;have P:Lh x.Kind=1→∃ a,x.Kids=[a]∧ph k a:=fun h=>by
    obtain ⟨a,j⟩:=one (l:=x.Kids) (by have:=D.eq (by omega);omega);exact ⟨a,j,K a (by simp [j])⟩
   have Y:Lh x.Kind=2→∃ a b,x.Kids=[a,b]∧ph k a∧ph k b:=fun h=>by
    obtain ⟨a,b,j⟩:=two (l:=x.Kids) (by have:=D.eq (by omega);omega);exact ⟨a,b,j,K a (by simp [j]),K b (by simp [j])⟩
   have Q:Lh x.Kind=0→x.Kids=[]:=fun h=>List.length_eq_zero_iff.1 (by have:=D.eq (by omega);omega);have Hb:x.Kind≠19→x.Kind≠20→x.Kind≠22→(∀ y ∈ x.Kids,Calls p k y)→Calls p (k+1) x:=fun r o lc rc=>⟨fun h=>absurd h r,fun h=>absurd h lc,fun h=>absurd h o,rc⟩;rw [Ah];by_cases jb:x.Kind=1
   ·rw [if_pos jb];exact ⟨_,0,rfl,fun _=>⟨.of (by decide),Hb (by omega) (by omega) (by omega) (by rw [Q (by rw [jb];rfl)];simp)⟩⟩
   rw [if_neg jb];by_cases c2:x.Kind=2
   ·rw [if_pos c2];exact ⟨_,0,rfl,fun _=>⟨.of (by decide),Hb (by omega) (by omega) (by omega) (by rw [Q (by rw [c2];rfl)];simp)⟩⟩
   rw [if_neg c2];by_cases c3:x.Kind=3
   ·obtain ⟨t,b,r,o⟩:=Hx H.gd H.Ud n (by omega) d x.Name;rw [if_pos c3,r,ma];cases b with
    | true=>exact ⟨t,0,rfl,fun _=>⟨o rfl,Hb (by omega) (by omega) (by omega) (by rw [Q (by rw [c3]; rfl)]; simp)⟩⟩
    | false=>exact ⟨_,7,rfl,fun h=>absurd h (by decide)⟩
   rw [if_neg c3];by_cases c4:x.Kind=4
   ·obtain ⟨a,j,F⟩:=P (by rw [c4];rfl);obtain ⟨e,qa,v⟩:=u.typed k p d B a ⟨1,[]⟩ H F (by omega);have k0:at_ x.Kids 0=some a:=by rw [j];rfl
    rw [if_pos c4,k0,ma,Vk,ma,ma,qa,ma];exact ⟨_,e,rfl,fun s=>⟨.of (by decide),Hb (by omega) (by omega) (by omega) (by rw [j];simpa using v s)⟩⟩
   rw [if_neg c4];by_cases c5:x.Kind=5
   ·obtain ⟨a,j,F⟩:=P (by rw [c5];rfl);obtain ⟨e,qa,v⟩:=u.typed k p d B a ⟨2,[]⟩ H F (by omega);have k0:at_ x.Kids 0=some a:=by rw [j];rfl
    rw [if_pos c5,k0,ma,gj,ma,ma,qa,ma];exact ⟨_,e,rfl,fun s=>⟨.of (by decide),Hb (by omega) (by omega) (by omega) (by rw [j];simpa using v s)⟩⟩
   rw [if_neg c5];have Z:∀ b,(b=true ↔ x.Kind=11∨x.Kind=12)→∃ t e,lo (se n) x p d B b=some (t,e)∧(e=0→Ek p t∧Calls p (k+1) x):=by
    intro b M;rw [lo];by_cases q:b=true
    ·have c:=M.1 q;obtain ⟨a,R,j,U,zg⟩:=Y (by rcases c with c | c<;>rw [c]<;>rfl);obtain ⟨t,e,r,o⟩:=u.both k p d B x a R H j U zg (by omega);rw [if_pos q,r,ma,gj,ma];exact ⟨_,e,rfl,fun s=>⟨.of (by decide),Hb (by omega) (by omega) (by omega) (by rw [j];simpa using o s)⟩⟩
    rw [if_neg q];have md:x.Kind≠11:=fun h=>q (M.2 (.inl h));have nd:x.Kind≠12:=fun h=>q (M.2 (.inr h));by_cases bb:x.Kind=19
    ·obtain ⟨Ae,e,r,o⟩:=u.args k p d B x 2 H K D.le (.inl rfl) (by omega);rw [if_pos bb,r,ma];by_cases z:e=0
     ·obtain ⟨f,rfl,g1,g2,g3⟩:=o z;rw [if_neg (by simpa using z)];simp only [ma];rw [hj,ma];exact ⟨_,0,rfl,fun _=>⟨.of (by rw [Kl];exact (H.Vo _ _ g1).ty (by omega)),⟨fun _=>⟨f,g1,g2⟩,fun h=>by omega,fun h=>by omega,g3⟩⟩⟩
     ·rw [if_pos z];exact ⟨_,e,rfl,fun h=>absurd h z⟩
    rw [if_neg bb];by_cases c20:x.Kind=20
    ·rw [if_pos c20,km,ma];by_cases c:Bj (Ua p.named x.Name) 1=true
     ·obtain ⟨f,G,S⟩:=mq c;rw [if_pos c,G];simp only [ma];rw [hj,ma];exact ⟨_,0,rfl,fun _=>⟨.of (by rw [Kl];exact (H.Vo _ _ G).ty (by omega)),⟨fun h=>by omega,fun h=>by omega,fun _=>⟨f,G,S⟩,by rw [Q (by rw [c20];rfl)];simp⟩⟩⟩
     ·rw [if_neg c];exact ⟨_,7,rfl,fun h=>absurd h (by decide)⟩
    rw [if_neg c20];by_cases c21:x.Kind=21
    ·obtain ⟨a,j,F⟩:=P (by rw [c21];rfl);obtain ⟨e,qa,v⟩:=u.typed k p d B a d.vb H F (by omega);have k0:at_ x.Kids 0=some a:=by rw [j];rfl
     rw [if_pos c21];by_cases ni:d.Kind=3
     ·rw [if_neg (by simpa using ni),k0,ma,hj,ma,qa,ma];exact ⟨_,e,rfl,fun s=>⟨.of (by show (Lc d.Cd).Kind≠3;rw [Kl];exact H.xa.uk ni),Hb (by omega) (by omega) (by omega) (by rw [j];simpa using v s)⟩⟩
     ·rw [if_pos ni];exact ⟨_,8,rfl,fun h=>absurd h (by decide)⟩
    rw [if_neg c21];by_cases Gb:x.Kind=22
    ·obtain ⟨Ae,e,r,o⟩:=u.args k p d B x 3 H K D.le (.inr rfl) (by omega);rw [if_pos Gb,r,ma];refine ⟨_,e,rfl,fun s=>?_⟩;obtain ⟨f,-,g1,g2,g3⟩:=o s;exact ⟨fun _=>⟨f,g1,g2⟩,⟨fun h=>by omega,fun _=>⟨f,g1,g2⟩,fun h=>by omega,g3⟩⟩
    rw [if_neg Gb];by_cases V:x.Kind=23
    ·obtain ⟨a,R,j,U,zg⟩:=Y (by rw [V];rfl);obtain ⟨Ae,e,r,o⟩:=u.handle k p d B a H U (by omega);have k0:at_ x.Kids 0=some a:=by rw [j];rfl
     have k1:at_ x.Kids 1=some R:=by rw [j];rfl
     rw [if_pos V,k0,ma,r,ma];by_cases z:e=0
     ·obtain ⟨⟨f,g,rfl,g1,g2⟩,g3⟩:=o z;obtain ⟨N,E,C⟩:=u.typed k p d B R f.Cd H zg (by omega);rw [if_neg (by simpa using z)];simp only [ma];rw [k1,ma,hj,ma,E,ma];exact ⟨_,N,rfl,fun s=>⟨.of (by show (Lc f.vb).Kind≠3;rw [Kl];exact (H.Vo _ _ g1).ty (by omega)),Hb (by omega) (by omega) (by omega) (by rw [j];simpa using ⟨g3,C s⟩)⟩⟩
     ·rw [if_pos z];exact ⟨_,e,rfl,fun h=>absurd h z⟩
    rw [if_neg V];by_cases c24:x.Kind=24
    ·obtain ⟨a,j,F⟩:=P (by rw [c24];rfl);obtain ⟨Ae,e,r,o⟩:=u.handle k p d B a H F (by omega);have k0:at_ x.Kids 0=some a:=by rw [j];rfl
     rw [if_pos c24,k0,ma,r,ma,gj,ma];exact ⟨_,e,rfl,fun s=>⟨.of (by decide),Hb (by omega) (by omega) (by omega) (by rw [j];simpa using (o s).2)⟩⟩
    rw [if_neg c24];have L:∀ (i1 i2:Int) (s1 s2:List UInt8) (m i:Nat),i≤x.Kids.length→x.Kids.length<m+i→∃ e,ko (se n) x p d B i1 s1 i2 s2 m i=some (⟨i2,s2⟩,e)∧(e=0→∀ y ∈ x.Kids.drop i,Calls p k y):=by
     intro i1 i2 s1 s2 m
     induction m with
     | zero=>intro i r o; omega
     | succ m T =>
      intro i r o;rw [ko];by_cases c:i<x.Kids.length
      ·have:=D.le;obtain ⟨e,qa,v⟩:=u.typed k p d B x.Kids[i] ⟨i1,s1⟩ H (K _ (List.getElem_mem _)) (by omega);rw [if_pos (by omega),Ce,List.getElem?_eq_getElem c,ma,qa,ma];by_cases z:e=0
       ·rw [if_neg (by simpa using z),De (by omega),ma];obtain ⟨N,E,C⟩:=T (i+1) c (by omega);refine ⟨N,E,fun s y A=>?_⟩;rw [List.drop_eq_getElem_cons c] at A;rcases List.mem_cons.1 A with rfl | A
        ·exact v z
        ·exact C s y A
       ·rw [if_pos z];exact ⟨e,rfl,fun h=>absurd h z⟩
      ·rw [if_neg (by omega),List.drop_eq_nil_of_le (by omega)];exact ⟨0,rfl,fun _=>by simp⟩
    have W:∀ (i1 i2:Int) (s1 s2:List UInt8),i2≠3→∃ t e,Yo (se n) x p d B i1 s1 i2 s2=some (t,e)∧(e=0→Ek p t∧Calls p (k+1) x):=by
     intro i1 i2 s1 s2 h;obtain ⟨e,r,o⟩:=L i1 i2 s1 s2 (x.Kids.length+1) 0 (by omega) (by omega);exact ⟨_,e,r,fun s=>⟨.of h,Hb (by omega) (by omega) (by omega) (by simpa using o s)⟩⟩
    rw [Vk,ma,ma,gj];simp only [ma];split
    ·exact W _ _ _ _ (by decide)
    ·split
     ·exact W _ _ _ _ (by decide)
     ·exact W _ _ _ _ (by decide)
   split
   ·rename_i h;exact Z _ (by simp [h])
   ·rename_i h;exact Z _ (by simp [h])
end Go.Y
namespace Go.Y
open Go.Rb Go.ec
theorem Mj {κ β:Type}[DecidableEq κ]:∀ (m:List (κ×β)) (k k':κ) (x:β),Ua (zd m k x) k'=if k=k' then some x else Ua m k'
 | [],k,k',x=>rfl
 | (a,b)::m,k,k',x=>by
  rw [zd];by_cases c:a=k
  ·subst c;rw [if_pos rfl,Ua,Ua];by_cases d:a=k'
   ·rw [if_pos d,if_pos d]
   ·rw [if_neg d,if_neg d,if_neg d]
  ·rw [if_neg c,Ua,Ua,Mj m k k' x];by_cases d:a=k'
   ·rw [if_pos d,if_pos d,if_neg fun h=>c (d.trans h.symm)]
   ·rw [if_neg d,if_neg d]
def wm (p:pb):Nat→Ea→Prop
 | 0,_=>False
 | k+1,s=>(s.Kind≠6→Calls p k s.X)∧((s.Kind=3∨s.Kind=4)→∀ y ∈ s.Body,wm p k y)∧(s.Kind=3→∀ y ∈ s.me,wm p k y)∧(s.Kind=7→∃ d,Ua p.named s.Name=some d∧d.Kind=1)
theorem jD (p:pb) (d:sa) (B:Yd) (h:0<B.length) (a:B.length≤100):Tp p d B=some (B.take (B.length - 1)):=by
 rw [Tp,De (by omega),ma,cut,if_pos (by omega),ma,Bx];simp
structure yM (n:Nat):Prop where
 stats:∀ (k:Nat) (p:pb) (d:sa) (B:Yd) (l:List Ea),gk p d B→l.length≤50→(∀ y ∈ l,yl k y)→B.length+k≤90→5*k+130≤n →
  ∃ e,(di n).ij p d B l=some (e,B)∧(e=0→∀ y ∈ l,wm p k y)
 stat:∀ (k:Nat) (p:pb) (d:sa) (B:Yd) (s:Ea),gk p d B→0<B.length→yl k s→B.length+k≤91→5*k+129≤n →
  ∃ e a,(di n).zk p d B s=some (e,a)∧a.length=B.length∧a.take (B.length - 1)=B.take (B.length - 1)∧al p a∧(e=0→wm p k s)
theorem kx (B:Yd) (r:Sa×Int) (b:Bool):Kv B r b=some (if b=true then 9 else r.2,B):=by cases b<;>rfl
theorem TA:∀ n,yM n:=by
 intro n
 induction n with
 | zero=>exact ⟨fun _ _ _ _ _ _ _ _ _ h=>by omega,fun _ _ _ _ _ _ _ _ _ h=>by omega⟩
 | succ n G =>
  refine ⟨fun k p d B l H ia x hB V=>?_,fun k p d B s H nd x hB V=>?_⟩
  ·show ∃ e,ij (di n) p d B l=some (e,B)∧_;rw [ij,app,if_pos (by simp;omega),ma,ht];have L:∀ (m i:Nat) (a:Yd),i≤l.length→l.length<m+i→a.length=B.length+1→a.take B.length=B→al p a →
     ∃ e,eo (di n) l p d m i a=some (e,B)∧(e=0→∀ y ∈ l.drop i,wm p k y):=by
    intro m
    induction m with
    | zero=>intro i a j g; omega
    | succ m W =>
     intro i a j g g1 g2 g3;rw [eo];have pop:∀ C:Yd,C.length=B.length+1→C.take B.length=B→Tp p d C=some B:=fun C qa v=>by
      rw [jD p d C (by omega) (by omega),qa,Nat.add_sub_cancel,v]
     by_cases c:i<l.length
     ·obtain ⟨e,K,Y,M,Q,Z,bb⟩:=G.stat k p d a l[i] ⟨H.Vo,H.xa,g3,by omega⟩ (by omega) (x _ (List.getElem_mem _)) (by omega) (by omega);rw [g1,Nat.add_sub_cancel] at Q;rw [g1] at M;have v:K.take B.length=B:=Q.trans g2;rw [if_pos (by omega),Ce,List.getElem?_eq_getElem c,ma,Y,ma];by_cases z:e=0
      ·rw [if_neg (by simpa using z),De (by omega),ma];obtain ⟨Gb,s1,s2⟩:=W (i+1) K c (by omega) M v Z;refine ⟨Gb,s1,fun r y A=>?_⟩;rw [List.drop_eq_getElem_cons c] at A;rcases List.mem_cons.1 A with rfl | A
       ·exact bb z
       ·exact s2 r y A
      ·rw [if_pos z];simp only [];rw [pop K M v,ma];exact ⟨e,rfl,fun h=>absurd h z⟩
     ·rw [if_neg (by omega),pop a g1 g2,ma,List.drop_eq_nil_of_le (by omega)];exact ⟨0,rfl,fun _=>by simp⟩
   have:=L (l.length+1) 0 (B++[[]]) (by omega) (by omega) (by simp) (by simp) (fun m hm k' t N=>by
    rcases List.mem_append.1 hm with hm | hm
    ·exact H.gd m hm k' t N
    ·rw [List.mem_singleton.1 hm] at N;cases N)
   simpa using this
  ·show ∃ e a,zk n (di n) p d B s=some (e,a)∧_;cases k with
   | zero=>cases x
   | succ k =>
   obtain ⟨k1,rd,w,R,he⟩:=x;have D:=(dv n).typed k p d B s.X;have O:=(dv n).expr k p d B s.X;have same:∀ e:Int,(e=0→wm p (k+1) s)→∀ o:Option (Int×Yd),o=some (e,B)→∃ e a,o=some (e,a)∧a.length=B.length∧a.take (B.length - 1)=B.take (B.length - 1)∧al p a∧(e=0→wm p (k+1) s):=
    fun e h o gc=>⟨e,B,gc,rfl,rfl,H.gd,h⟩
   have cs:s.Kind≠3→s.Kind≠4→s.Kind≠7→(s.Kind≠6→Calls p k s.X)→wm p (k+1) s:=fun lc wd rc h=>⟨h,fun h=>by omega,fun h=>absurd h lc,fun h=>absurd h rc⟩;rw [zk];by_cases jb:s.Kind=1
   ·obtain ⟨t,e,j,g⟩:=O H (w (by omega)) (by omega);rw [if_pos jb,j,ma];by_cases z:e=0
    ·obtain ⟨ib,b,g1,g2⟩:=Hx H.gd H.Ud n (by omega) d s.Name;rw [if_neg (by simpa using z),g1,ma];cases b with
     | true=>exact same 7 (fun h=>absurd h (by decide)) _ rfl
     | false =>
      have fd:B.length - 1<B.length:=by omega
      have qa:(B.length:Int) - 1=((B.length - 1:Nat):Int):=by omega
      rw [if_neg (by simp),De (by omega),ma,qa,Ce,List.getElem?_eq_getElem fd,ma,ot];refine ⟨0,_,rfl,by simp,?_,fun m hm k' u hu=>?_,fun _=>cs (by omega) (by omega) (by omega) fun _=>(g z).2⟩
      ·simp [List.take_set_of_le]
      ·rcases List.mem_or_eq_of_mem_set hm with hm | rfl
       ·exact H.gd m hm k' u hu
       ·rw [Mj] at hu;split at hu
        ·obtain rfl:=Option.some.inj hu;exact (g z).1
        ·exact H.gd _ (List.getElem_mem _) k' u hu
    ·rw [if_pos z];exact same e (fun h=>absurd h z) _ rfl
   rw [if_neg jb];by_cases c2:s.Kind=2
   ·obtain ⟨ib,b,g1,g2⟩:=Hx H.gd H.Ud n (by omega) d s.Name;rw [if_pos c2,g1,ma];cases b with
    | false=>exact same 7 (fun h=>absurd h (by decide)) _ rfl
    | true =>
     obtain ⟨e,j,g⟩:=D ib H (w (by omega)) (by omega);rw [if_pos rfl,j,ma];exact same e (fun r=>cs (by omega) (by omega) (by omega) fun _=>g r) _ rfl
   rw [if_neg c2];have S:∀ b,(b=true ↔ s.Kind=3∨s.Kind=4)→∃ e a,mo n (di n) s p d B b=some (e,a)∧a.length=B.length∧a.take (B.length - 1)=B.take (B.length - 1)∧al p a∧(e=0→wm p (k+1) s):=by
    intro b P;rw [mo];by_cases q:b=true
    ·have c:=P.1 q;obtain ⟨e,j,g⟩:=D ⟨2,[]⟩ H (w (by omega)) (by omega);rw [if_pos q,gj,ma,j,ma];by_cases z:e=0
     ·rw [if_neg (by simpa using z)];obtain ⟨v,g1,g2⟩:=G.stats k p d B s.Body H (R c).1 (R c).2 (by omega) (by omega);rw [g1,ma];by_cases z2:v=0
      ·rw [if_neg (by simpa using z2)];by_cases c4:s.Kind=4
       ·rw [decide_eq_true c4];exact same v (fun _=>⟨fun _=>g z,fun _=>g2 z2,fun h=>by omega,fun h=>by omega⟩) _ rfl
       ·have c3:s.Kind=3:=by omega
        obtain ⟨id,f1,f2⟩:=G.stats k p d B s.me H (he c3).1 (he c3).2 (by omega) (by omega);rw [decide_eq_false c4,Ip,if_neg (by decide)];simp only [];rw [f1,ma];exact same id (fun r=>⟨fun _=>g z,fun _=>g2 z2,fun _=>f2 r,fun h=>by omega⟩) _ rfl
      ·rw [if_pos z2];exact same v (fun h=>absurd h z2) _ rfl
     ·rw [if_pos z];exact same e (fun h=>absurd h z) _ rfl
    rw [if_neg q];have E:s.Kind≠3:=fun h=>q (P.2 (.inl h));have F:s.Kind≠4:=fun h=>q (P.2 (.inr h));by_cases c5:s.Kind=5
    ·rw [if_pos c5];split
     ·exact same 8 (fun h=>absurd h (by decide)) _ rfl
     ·obtain ⟨e,j,g⟩:=D d.vb H (w (by omega)) (by omega);rw [j,ma];exact same e (fun r=>cs E F (by omega) fun _=>g r) _ rfl
    rw [if_neg c5];by_cases ae:s.Kind=6
    ·rw [if_pos ae];split
     ·exact same 8 (fun h=>absurd h (by decide)) _ rfl
     ·exact same 0 (fun r=>cs E F (by omega) fun h=>absurd ae h) _ rfl
    rw [if_neg ae];by_cases T:s.Kind=7
    ·rw [if_pos T,km,ma];by_cases c:Bj (Ua p.named s.Name) 1=true
     ·obtain ⟨f,U,md⟩:=mq c;obtain ⟨e,j,g⟩:=D f.vb H (w (by omega)) (by omega);rw [if_pos c,U];simp only [ma];rw [j,ma];exact same e (fun r=>⟨fun _=>g r,fun h=>by omega,fun h=>by omega,fun _=>⟨f,U,md⟩⟩) _ rfl
     ·rw [if_neg c];exact same 7 (fun h=>absurd h (by decide)) _ rfl
    rw [if_neg T];by_cases hh:s.Kind=8
    ·obtain ⟨t,e,j,g⟩:=O H (w (by omega)) (by omega);rw [if_pos hh,j,ma];by_cases z:e=0
     ·rw [if_pos z,gm,ma,kx];exact same _ (fun _=>cs E F (by omega) fun _=>(g z).2) _ rfl
     ·rw [if_neg z,kx];exact same e (fun h=>absurd h z) _ rfl
    rw [if_neg hh];by_cases c9:s.Kind=9
    ·obtain ⟨t,e,j,g⟩:=O H (w (by omega)) (by omega);rw [if_pos c9,j,ma];exact same e (fun r=>cs E F (by omega) fun _=>(g r).2) _ rfl
    ·omega
   split
   ·rename_i h;exact S _ (by simp [h])
   ·rename_i h;exact S _ (by simp [h])
theorem GH (p:pb) (t:Sa):∃ e,Sp p t=some e∧(e=0→Ek p t):=by
 rw [Sp,gm,ma];by_cases c:t.Kind≠3
 ·rw [if_pos (decide_eq_true c)];exact ⟨0,rfl,fun _=>.of c⟩
 ·rw [if_neg (by simpa using c),km,ma];by_cases q:Bj (Ua p.named t.bc) 3=true
  ·rw [if_pos q];exact ⟨0,rfl,fun _ _=>mq q⟩
  ·rw [if_neg q];exact ⟨7,rfl,fun h=>absurd h (by decide)⟩
theorem PC (p:pb) (d:sa) (xa:Dq d):∃ e,Qp p d=some e∧(e=0→vm p d):=by
 have f:∀ b,Nr b=some (if b=true then 9 else 0):=fun b=>by cases b<;>rfl
 have o:(d.Kind=2∨d.Kind=3→∀ q ∈ d.Params,Ek p q.vb)→∃ e,Jp d=some e∧(e=0→vm p d):=by
  intro g;rw [Jp];have l:d.Kind=2∨d.Kind=3→d.Params.length≤6:=fun h=>(xa.Nf h).1;by_cases c3:d.Kind=3
  ·rw [if_pos c3,gm,ma];by_cases q:d.Cd.Kind≠3
   ·rw [if_pos (decide_eq_true q),if_pos (by omega),gm,ma,f];refine ⟨_,rfl,fun n=>⟨fun _ h=>?_,fun _=>q,g,l⟩⟩;simp [h] at n
   ·rw [if_neg (by simpa using q),f];exact ⟨9,rfl,fun h=>absurd h (by decide)⟩
  ·rw [if_neg c3];by_cases c4:d.Kind=4
   ·rw [if_neg (by simpa using c4),f];exact ⟨0,rfl,fun _=>⟨fun h=>absurd c4 h,fun h=>absurd h c3,g,l⟩⟩
   ·rw [if_pos c4,gm,ma,f];refine ⟨_,rfl,fun n=>⟨fun _ h=>?_,fun h=>absurd h c3,g,l⟩⟩;simp [h] at n
 have r:∀ b,(b=true ↔ d.Kind=2∨d.Kind=3)→∃ e,Lp p d b=some e∧(e=0→vm p d):=by
  intro b s;rw [Lp];by_cases q:b=true
  ·rw [if_pos q];have B:=xa.Nf (s.1 q);have L:∀ (m i:Nat) (S:List (List UInt8×Int)),i≤d.Params.length→d.Params.length<m+i→(∀ k c,Ua S k=some c→0≤c∧c≤1)→(∀ q ∈ d.Params.take i,Ek p q.vb)→∃ e,Kp p d m i S=some e∧(e=0→vm p d):=by
    intro m
    induction m with
    | zero=>intro i S t u; omega
    | succ m x =>
     intro i S t u g1 g2;rw [Kp];by_cases c:i<d.Params.length
     ·have C:0≤(Ua S d.Params[i].Name).getD 0∧(Ua S d.Params[i].Name).getD 0≤1:=by
       cases h:Ua S d.Params[i].Name with
       | none=>decide
       | some v=>exact g1 _ _ h
      rw [if_pos (by omega),Ce,List.getElem?_eq_getElem c,ma,De (by omega),ma,Mj,if_pos rfl];simp only [Option.getD_some];by_cases w:(1:Int)<(Ua S d.Params[i].Name).getD 0+1
      ·rw [if_pos w];exact ⟨7,rfl,fun h=>absurd h (by decide)⟩
      ·obtain ⟨e,qa,A⟩:=GH p d.Params[i].vb;rw [if_neg w,qa,ma];by_cases z:e=0
       ·rw [if_neg (by simpa using z),De (by omega),ma];refine x (i+1) _ c (by omega) (fun k v j=>?_) fun y a=>?_
        ·rw [Mj] at j;split at j
         ·obtain rfl:=Option.some.inj j;omega
         ·exact g1 _ _ j
        ·rw [List.take_succ_eq_append_getElem c] at a;rcases List.mem_append.1 a with a | a
         ·exact g2 y a
         ·rw [List.mem_singleton.1 a];exact A z
       ·rw [if_pos z];exact ⟨e,rfl,fun h=>absurd h z⟩
     ·rw [if_neg (by omega)];rw [List.take_of_length_le (by omega)] at g2;exact o fun _=>g2
   exact L (d.Params.length+1) 0 [] (by omega) (by omega) (fun k c h=>by cases h) (by simp)
  ·rw [if_neg q];exact o fun h=>absurd (s.2 h) q
 rw [Qp];split
 ·rename_i h;exact r _ (by simp [h])
 ·rename_i h;exact r _ (by simp [h])
theorem fH (fu:Nat) (x:500≤fu) (p:pb) (d:sa) (o:yz p) (b:vm p d) (xa:Dq d):∃ e,Tm fu p d=some e∧(e=0→d.Kind≠1→∀ y ∈ d.Body,wm p 39 y):=by
 rw [Tm];by_cases jb:d.Kind=1
 ·rw [if_pos jb];exact ⟨0,rfl,fun _ h=>absurd jb h⟩
 ·rw [if_neg jb];have j:∀ B:Yd,B.length=1→al p B→∃ e,oo fu p d B=some e∧(e=0→d.Kind≠1→∀ y ∈ d.Body,wm p 39 y):=by
   intro B l f;obtain ⟨e,q,r⟩:=(TA fu).stats 39 p d B d.Body ⟨o,b,f,by omega⟩ (xa.Ud jb) (xa.Ih jb) (by omega) (by omega);rw [oo,q,ma];exact ⟨e,rfl,fun s _=>r s⟩
  by_cases c4:d.Kind=4
  ·rw [if_neg (by simpa using c4)];exact j _ rfl (fun m hm k t a=>by rw [List.mem_singleton.1 hm] at a;cases a)
  ·rw [if_pos c4];have n:d.Kind=2∨d.Kind=3:=by have:=xa.k1;have:=xa.Ue;omega
   have z:=b.pl n;have L:∀ (m i:Nat) (B:Yd),i≤d.Params.length→d.Params.length<m+i→B.length=1→al p B→∃ e,vn fu p d m i B=some e∧(e=0→d.Kind≠1→∀ y ∈ d.Body,wm p 39 y):=by
    intro m
    induction m with
    | zero=>intro i B l f; omega
    | succ m u =>
     intro i B l f g1 g2;rw [vn];by_cases c:i<d.Params.length
     ·have v:0<B.length:=by omega
      rw [if_pos (by omega),Ce,List.getElem?_eq_getElem c,ma,ez v,ma,hj,ma,pt,De (by omega),ma];refine u (i+1) _ c (by omega) (by simpa using g1) fun w g k t a=>?_;rcases List.mem_or_eq_of_mem_set g with g | rfl
      ·exact g2 w g k t a
      ·rw [Mj] at a;split at a
       ·obtain rfl:=Option.some.inj a;exact (b.Nf n _ (List.getElem_mem _)).bare
       ·exact g2 _ (List.getElem_mem _) k t a
     ·rw [if_neg (by omega)];exact j B g1 g2
   exact L (d.Params.length+1) 0 _ (by omega) (by omega) rfl (fun m hm k t a=>by rw [List.mem_singleton.1 hm] at a;cases a)
structure an (p:pb) (l:List sa):Prop where
 ok:vv l
 mc:∀ d ∈ l,Ua p.named d.Name=some d
 only:∀ k d,Ua p.named k=some d→d ∈ l∧d.Name=k
 nd:l.Pairwise fun a b=>a.Name≠b.Name
 uk:∃ d ∈ l,d.Kind=4
 xa:∀ d ∈ l,vm p d
 cs:∀ d ∈ l,d.Kind≠1→∀ y ∈ d.Body,wm p 39 y
theorem yC (fu:Nat) (C:500≤fu) (l:List sa):∃ p f,yo fu l=some (p,f)∧(f.Hg=0→an p l):=by
 obtain ⟨f,j,n⟩:=Gx fu (by omega) l;rw [yo,j,ma];by_cases z:f.Hg=0
 ·obtain ⟨-,ok⟩:=n z;have ia:=ok.le;rw [if_neg (by simpa using z)];have D:∀ (N:List (List UInt8×sa)),(∀ d ∈ l,Ua N d.Name=some d)→(∀ k d,Ua N k=some d→d ∈ l∧d.Name=k)→l.Pairwise (fun a b=>a.Name≠b.Name)→(∃ d ∈ l,d.Kind=4)→(∀ d ∈ l,vm ⟨l,N⟩ d) →
    ∀ (m i:Nat),i≤l.length→l.length<m+i→(∀ d ∈ l.take i,d.Kind≠1→∀ y ∈ d.Body,wm ⟨l,N⟩ 39 y)→∃ p f,rn fu l N m i=some (p,f)∧(f.Hg=0→an p l):=by
   intro N de q r s u m
   induction m with
   | zero=>intro i j n; omega
   | succ m o =>
    intro i j n g;rw [rn];by_cases c:i<l.length
    ·obtain ⟨e,qa,w⟩:=fH fu C ⟨l,N⟩ l[i] (fun k d xa=>u d (q k d xa).1) (u _ (List.getElem_mem _)) (ok.ok _ (List.getElem_mem _));rw [if_pos (by omega),Ce,List.getElem?_eq_getElem c,ma,qa,ma];by_cases z:e=0
     ·rw [if_neg (by simpa using z),De (by omega),ma];refine o (i+1) c (by omega) fun d xa=>?_;rw [List.take_succ_eq_append_getElem c] at xa;rcases List.mem_append.1 xa with xa | xa
      ·exact g d xa
      ·rw [List.mem_singleton.1 xa];exact w z
     ·rw [if_pos z];exact ⟨_,_,rfl,fun h=>absurd h z⟩
    ·rw [if_neg (by omega)];rw [List.take_of_length_le (by omega)] at g;exact ⟨_,_,rfl,fun _=>⟨ok,de,q,r,s,u,g⟩⟩
  have E:∀ (N:List (List UInt8×sa)),(∀ d ∈ l,Ua N d.Name=some d)→(∀ k d,Ua N k=some d→d ∈ l∧d.Name=k)→l.Pairwise (fun a b=>a.Name≠b.Name)→(∃ d ∈ l,d.Kind=4) →
    ∀ (m i:Nat),i≤l.length→l.length<m+i→(∀ d ∈ l.take i,vm ⟨l,N⟩ d)→∃ p f,sn fu l N m i=some (p,f)∧(f.Hg=0→an p l):=by
   intro N de q r s m
   induction m with
   | zero=>intro i j n; omega
   | succ m o =>
    intro i j n g;rw [sn];by_cases c:i<l.length
    ·obtain ⟨e,qa,w⟩:=PC ⟨l,N⟩ l[i] (ok.ok _ (List.getElem_mem _));rw [if_pos (by omega),Ce,List.getElem?_eq_getElem c,ma,qa,ma];by_cases z:e=0
     ·rw [if_neg (by simpa using z),De (by omega),ma];refine o (i+1) c (by omega) fun d xa=>?_;rw [List.take_succ_eq_append_getElem c] at xa;rcases List.mem_append.1 xa with xa | xa
      ·exact g d xa
      ·rw [List.mem_singleton.1 xa];exact w z
     ·rw [if_pos z];exact ⟨_,_,rfl,fun h=>absurd h z⟩
    ·rw [if_neg (by omega)];rw [List.take_of_length_le (by omega)] at g;exact D N de q r s g (l.length+1) 0 (by omega) (by omega) (by simp)
  have F:∀ (m i:Nat) (t:Int) (N:List (List UInt8×sa)),i≤l.length→l.length<m+i→0≤t→t≤i→(t≠0→∃ d ∈ l,d.Kind=4)→(∀ d ∈ l.take i,Ua N d.Name=some d)→(∀ k d,Ua N k=some d→d ∈ l.take i∧d.Name=k)→(l.take i).Pairwise (fun a b=>a.Name≠b.Name) →
    ∃ p f,tn fu l m t i N=some (p,f)∧(f.Hg=0→an p l):=by
   intro m
   induction m with
   | zero=>intro i t N j n; omega
   | succ m o =>
    intro i t N j n g1 g2 g3 g4 g5 g6;rw [tn];by_cases c:i<l.length
    ·have nb:at_ l (i:Int)=some l[i]:=by rw [Ce,List.getElem?_eq_getElem c]
     rw [if_pos (by omega),nb,ma];cases h:Ua N l[i].Name with
     | some v=>rw [if_pos (by simp)]; exact ⟨_,_,rfl,fun h=>absurd h (by decide:(7:Int)≠0)⟩
     | none =>
      rw [if_neg (by simp)];simp only [ma];have hm:l[i] ∈ l:=List.getElem_mem _;have uk:=List.take_succ_eq_append_getElem c;have Oq:∀ d ∈ l.take i,d.Name≠l[i].Name:=fun d xa he=>by
       have:=g4 d xa;rw [he,h] at this;cases this
      have x:∀ d ∈ l.take (i+1),Ua (zd N l[i].Name l[i]) d.Name=some d:=by
       intro d xa;rw [uk] at xa;rw [Mj];rcases List.mem_append.1 xa with xa | xa
       ·rw [if_neg fun he=>Oq d xa he.symm];exact g4 d xa
       ·rw [List.mem_singleton.1 xa,if_pos rfl]
      have A:∀ k d,Ua (zd N l[i].Name l[i]) k=some d→d ∈ l.take (i+1)∧d.Name=k:=by
       intro k d xa;rw [Mj] at xa;rw [uk];split at xa
       ·rename_i G;obtain rfl:=Option.some.inj xa;exact ⟨List.mem_append.2 (.inr (List.mem_singleton.2 rfl)),G⟩
       ·obtain ⟨H,K⟩:=g5 k d xa;exact ⟨List.mem_append.2 (.inl H),K⟩
      have B:(l.take (i+1)).Pairwise (fun a b=>a.Name≠b.Name):=by
       rw [uk,List.pairwise_append];refine ⟨g6,List.pairwise_singleton _ _,fun a L b M=>?_⟩;rw [List.mem_singleton.1 M];exact Oq a L
      by_cases Ue:l[i].Kind=4
      ·rw [if_pos Ue,De (by omega),ma,De (by omega),ma];exact o (i+1) (t+1) _ c (by omega) (by omega) (by omega) (fun _=>⟨_,hm,Ue⟩) x A B
      ·rw [if_neg Ue,De (by omega),ma];exact o (i+1) t _ c (by omega) g1 (by omega) g3 x A B
    ·rw [if_neg (by omega)];rw [List.take_of_length_le (by omega)] at g4 g5 g6;by_cases t0:t=0
     ·rw [if_pos t0];exact ⟨_,_,rfl,fun h=>absurd h (by decide:(6:Int)≠0)⟩
     ·rw [if_neg t0];exact E N g4 g5 g6 (g3 t0) (l.length+1) 0 (by omega) (by omega) (by simp)
  exact F (l.length+1) 0 0 [] (by omega) (by omega) (by omega) (by omega) (fun h=>absurd rfl h) (by simp) (fun k d h=>by cases h) (by simp)
 ·rw [if_pos z];exact ⟨_,_,rfl,fun h=>absurd h z⟩
end Go.Y
namespace Go.Y
open Go.Rb Go.ec
abbrev Nm:=List UInt8
def Xi:Nat→Da→List Nm
 | 0,_=>[]
 | k+1,x=>(if x.Kind=19∨x.Kind=22 then [x.Name] else [])++(x.Kids.map (Xi k)).flatten
def tj:Nat→Da→List Nm
 | 0,_=>[]
 | k+1,x=>(if x.Kind=20 then [x.Name] else [])++(x.Kids.map (tj k)).flatten
def Di:Nat→Ea→List Nm
 | 0,_=>[]
 | k+1,s=>(if s.Kind=6 then [] else Xi k s.X)++(if s.Kind=3∨s.Kind=4 then (s.Body.map (Di k)).flatten else [])++(if s.Kind=3 then (s.me.map (Di k)).flatten else [])
def Yi:Nat→Ea→List Nm
 | 0,_=>[]
 | k+1,s=>(if s.Kind=6 then [] else tj k s.X)++(if s.Kind=3∨s.Kind=4 then (s.Body.map (Yi k)).flatten else [])++(if s.Kind=3 then (s.me.map (Yi k)).flatten else [])
def Zi:Nat→Ea→List Nm
 | 0,_=>[]
 | k+1,s=>(if s.Kind=7 then [s.Name] else [])++(if s.Kind=3∨s.Kind=4 then (s.Body.map (Zi k)).flatten else [])++(if s.Kind=3 then (s.me.map (Zi k)).flatten else [])
theorem qm {α β:Type}(f:α→List β) (g:α→Nat) (h:∀ x,(f x).length≤g x):∀ l:List α,(l.map f).flatten.length≤(l.map g).sum
 | []=>by simp
 | x::l=>by
  have:=qm f g h l;have:=h x;simp only [List.map_cons,List.flatten_cons,List.length_append,List.sum_cons];omega
theorem rF {α:Type}(g:α→Nat):∀ (l:List α) (x:α),x ∈ l→g x≤(l.map g).sum
 | y::l,x,h=>by
  rw [List.map_cons,List.sum_cons];rcases List.mem_cons.1 h with rfl | h
  ·omega
  ·have:=rF g l x h;omega
theorem Ry:∀ (k:Nat) (x:Da),(Xi k x).length≤vk k x
 | 0,x=>by simp [Xi]
 | k+1,x=>by
  have:=qm (Xi k) (vk k) (Ry k) x.Kids;rw [Xi,vk,List.length_append];split<;>simp only [List.length_cons,List.length_nil]<;>omega
theorem Sy:∀ (k:Nat) (x:Da),(tj k x).length≤vk k x
 | 0,x=>by simp [tj]
 | k+1,x=>by
  have:=qm (tj k) (vk k) (Sy k) x.Kids;rw [tj,vk,List.length_append];split<;>simp only [List.length_cons,List.length_nil]<;>omega
theorem yw:∀ (k:Nat) (x:Ea),(Di k x).length≤ih k x
 | 0,x=>by simp [Di]
 | k+1,x=>by
  have:=qm (Di k) (ih k) (yw k) x.Body;have:=qm (Di k) (ih k) (yw k) x.me;have:=Ry k x.X;rw [Di,ih,List.length_append,List.length_append];split<;>split<;>split<;>(try simp only [List.length_nil])<;>omega
theorem zw:∀ (k:Nat) (x:Ea),(Yi k x).length≤ih k x
 | 0,x=>by simp [Yi]
 | k+1,x=>by
  have:=qm (Yi k) (ih k) (zw k) x.Body;have:=qm (Yi k) (ih k) (zw k) x.me;have:=Sy k x.X;rw [Yi,ih,List.length_append,List.length_append];split<;>split<;>split<;>(try simp only [List.length_nil])<;>omega
theorem Aw:∀ (k:Nat) (x:Ea),(Zi k x).length≤ih k x
 | 0,x=>by simp [Zi]
 | k+1,x=>by
  have:=qm (Zi k) (ih k) (Aw k) x.Body;have:=qm (Zi k) (ih k) (Aw k) x.me;rw [Zi,ih,List.length_append,List.length_append];by_cases a:x.Kind=7
  ·rw [if_pos a,if_neg (by omega),if_neg (by omega),if_neg (by omega),if_neg (by omega),if_neg (by omega)];simp
  ·rw [if_neg a];split<;>split<;>split<;>(try simp only [List.length_nil])<;>omega
theorem As {α:Type}{l xs:List α}(h:l.length+xs.length≤4294967296):app l xs=some (l++xs):=if_pos h
theorem gH:∀ (n k:Nat) (x:Da) (c s r:List Nm),k≤n→ph k x→c.length+vk k x≤1000000→r.length+vk k x≤1000000→(Vr n).Cn c s r x=some (c++Xi k x,s,r++tj k x):=by
 intro n
 induction n with
 | zero =>
  intro k x c s r e a;obtain rfl:k=0:=by omega
  cases a
 | succ n l =>
  intro k x c s r e a o p;cases k with
  | zero=>cases a
  | succ k =>
  obtain ⟨k1,w,t,u⟩:=a;show Cn (Vr n) c s r x=_;have L:∀ (m i:Nat) (c r:List Nm),i≤x.Kids.length→x.Kids.length<m+i→c.length+((x.Kids.drop i).map (vk k)).sum≤1000000→r.length+((x.Kids.drop i).map (vk k)).sum≤1000000 →
    vu (Vr n) x m i c s r=some (c++((x.Kids.drop i).map (Xi k)).flatten,s,r++((x.Kids.drop i).map (tj k)).flatten):=by
   intro m
   induction m with
   | zero=>intro i c r e a; omega
   | succ m v =>
    intro i c r g1 g2 g3 g4;rw [vu];have ia:=t.le;by_cases q:i<x.Kids.length
    ·rw [List.drop_eq_getElem_cons q,List.map_cons,List.sum_cons] at g3 g4;have za:=Ry k x.Kids[i];have sd:=Sy k x.Kids[i];rw [if_pos (by omega),Ce,List.getElem?_eq_getElem q,ma,l k x.Kids[i] c s r (by omega) (u _ (List.getElem_mem _)) (by omega) (by omega),ma,De (by omega),ma];refine (v (i+1) _ _ q (by omega) (by simp only [List.length_append];omega) (by simp only [List.length_append];omega)).trans ?_;rw [List.drop_eq_getElem_cons q];simp only [List.map_cons,List.flatten_cons,List.append_assoc]
    ·rw [if_neg (by omega),List.drop_eq_nil_of_le (by omega)];simp
  have d:∀ c r:List Nm,c.length+(x.Kids.map (vk k)).sum≤1000000→r.length+(x.Kids.map (vk k)).sum≤1000000→qt (Vr n) x s c r=some (c++(x.Kids.map (Xi k)).flatten,s,r++(x.Kids.map (tj k)).flatten):=by
   intro c r g1 g2;have:=L (x.Kids.length+1) 0 c r (by omega) (by omega) (by simpa using g1) (by simpa using g2);simpa [qt] using this
  rw [vk] at o p;have f:∀ b,(b=true ↔ x.Kind=19∨x.Kind=22)→wu (Vr n) c x s r b=some (c++Xi (k+1) x,s,r++tj (k+1) x):=by
   intro b g;rw [wu,Xi,tj];by_cases q:b=true
   ·have:=g.1 q;rw [if_pos q,As (by simp;omega),ma,ux,d _ _ (by simp;omega) (by omega),if_pos this,if_neg (by omega)];simp
   ·rw [if_neg q];have j:¬ (x.Kind=19∨x.Kind=22):=fun h=>q (g.2 h);by_cases c20:x.Kind=20
    ·rw [if_pos c20,As (by simp;omega),ma,vx,d _ _ (by omega) (by simp;omega),if_neg j,if_pos c20];simp
    ·rw [if_neg c20,d _ _ (by omega) (by omega),if_neg j,if_neg c20];simp
  rw [Cn];split
  ·rename_i h;exact f _ (by simp [h])
  ·rename_i h;exact f _ (by simp [h])
theorem KG:∀ (n k:Nat) (l:List Ea) (c s r:List Nm),k+1≤n→l.length≤50→(∀ y ∈ l,yl k y)→c.length+(l.map (ih k)).sum≤1000000→s.length+(l.map (ih k)).sum≤1000000→r.length+(l.map (ih k)).sum≤1000000 →
  (mm n).Jl c s r l=some (c++(l.map (Di k)).flatten,s++(l.map (Zi k)).flatten,r++(l.map (Yi k)).flatten):=by
 intro n
 induction n with
 | zero=>intro k l c s r t; omega
 | succ n u =>
  intro k l c s r t ia D g E F;show Jl n (mm n) c s r l=_;have L:∀ (m i:Nat) (c s r:List Nm),i≤l.length→l.length<m+i→c.length+((l.drop i).map (ih k)).sum≤1000000→s.length+((l.drop i).map (ih k)).sum≤1000000→r.length+((l.drop i).map (ih k)).sum≤1000000 →
    Hl n (mm n) l m i c s r=some (c++((l.drop i).map (Di k)).flatten,s++((l.drop i).map (Zi k)).flatten,r++((l.drop i).map (Yi k)).flatten):=by
   intro m
   induction m with
   | zero=>intro i c s r t M; omega
   | succ m G =>
    intro i c s r g1 g2 g3 g4 g5;rw [Hl];by_cases q:i<l.length
    ·rw [List.drop_eq_getElem_cons q,List.map_cons,List.sum_cons] at g3 g4 g5;rw [if_pos (by omega),Ce,List.getElem?_eq_getElem q,ma];have v:=D _ (List.getElem_mem q);have za:=yw k l[i];have sd:=Aw k l[i];have Nb:=zw k l[i];have Bb:=fun c' a r' (qa:c'=c++Di k l[i]) (d:a=s++Zi k l[i]) (e:r'=r++Yi k l[i]) =>
      (G (i+1) c' a r' q (by omega) (by rw [qa,List.length_append];omega) (by rw [d,List.length_append];omega) (by rw [e,List.length_append];omega)).trans
       (show _=some (c++((l.drop i).map (Di k)).flatten,s++((l.drop i).map (Zi k)).flatten,r++((l.drop i).map (Yi k)).flatten) by
        rw [List.drop_eq_getElem_cons q,qa,d,e];simp only [List.map_cons,List.flatten_cons,List.append_assoc])
     generalize l[i]=y at *;cases k with
     | zero=>cases v
     | succ k =>
     obtain ⟨k1,N,H,w,x⟩:=v;rw [ih] at g3 g4 g5;rw [Di] at za Bb;rw [Zi] at sd Bb;rw [Yi] at Nb Bb;have z:∀ c' a r',(y.Kind=3→c'.length+(y.me.map (ih k)).sum≤1000000∧a.length+(y.me.map (ih k)).sum≤1000000∧r'.length+(y.me.map (ih k)).sum≤1000000) →
       c'=c++((if y.Kind=6 then [] else Xi k y.X)++(if y.Kind=3∨y.Kind=4 then (y.Body.map (Di k)).flatten else []))→a=s++((if y.Kind=7 then [y.Name] else [])++(if y.Kind=3∨y.Kind=4 then (y.Body.map (Zi k)).flatten else [])) →
       r'=r++((if y.Kind=6 then [] else tj k y.X)++(if y.Kind=3∨y.Kind=4 then (y.Body.map (Yi k)).flatten else [])) →
       qu (mm n) i y (Hl n (mm n) l m) c' a r'=some (c++((l.drop i).map (Di (k+1))).flatten,s++((l.drop i).map (Zi (k+1))).flatten,r++((l.drop i).map (Yi (k+1))).flatten):=by
      intro c' a r' j qa d e;rw [qu];by_cases c3:y.Kind=3
      ·obtain ⟨K,z2,z3⟩:=j c3;rw [if_pos c3,u k y.me c' a r' (by omega) (x c3).1 (x c3).2 K z2 z3,ma,De (by omega),ma];refine Bb _ _ _ ?_ ?_ ?_
       ·rw [qa];simp only [if_pos c3,List.append_assoc]
       ·rw [d];simp only [if_pos c3,List.append_assoc]
       ·rw [e];simp only [if_pos c3,List.append_assoc]
      ·rw [if_neg c3,De (by omega),ma];refine Bb _ _ _ ?_ ?_ ?_
       ·rw [qa];simp only [if_neg c3,List.append_nil]
       ·rw [d];simp only [if_neg c3,List.append_nil]
       ·rw [e];simp only [if_neg c3,List.append_nil]
     have A:∀ c' a r' b,(b=true ↔ y.Kind=3∨y.Kind=4)→c'=c++(if y.Kind=6 then [] else Xi k y.X)→a=s++(if y.Kind=7 then [y.Name] else [])→r'=r++(if y.Kind=6 then [] else tj k y.X) →
       ru (mm n) i y c' a r' (Hl n (mm n) l m) b=some (c++((l.drop i).map (Di (k+1))).flatten,s++((l.drop i).map (Zi (k+1))).flatten,r++((l.drop i).map (Yi (k+1))).flatten):=by
      intro c' a r' b j qa d e;rw [ru];have O:=Ry k y.X;have P:=Sy k y.X;have Q:=qm (Di k) (ih k) (yw k) y.Body;have R:=qm (Zi k) (ih k) (Aw k) y.Body;have S:=qm (Yi k) (ih k) (zw k) y.Body;by_cases q:b=true
      ·have f:=j.1 q;rw [if_neg (show y.Kind≠6 by omega),if_pos f] at g3 g4 g5;rw [if_neg (show y.Kind≠6 by omega)] at qa e;rw [if_neg (show y.Kind≠7 by omega)] at d;have T:c'.length=c.length+(Xi k y.X).length:=by rw [qa,List.length_append]
       have U:a.length=s.length:=by rw [d];simp
       have V:r'.length=r.length+(tj k y.X).length:=by rw [e,List.length_append]
       rw [if_pos q,u k y.Body c' a r' (by omega) (w f).1 (w f).2 (by omega) (by omega) (by omega),ma];refine z _ _ _ (fun g=>?_) ?_ ?_ ?_
       ·rw [if_pos g] at g3 g4 g5;simp only [List.length_append];omega
       ·rw [qa,if_neg (show y.Kind≠6 by omega),if_pos f,List.append_assoc]
       ·rw [d,if_neg (show y.Kind≠7 by omega),if_pos f,List.append_assoc]
       ·rw [e,if_neg (show y.Kind≠6 by omega),if_pos f,List.append_assoc]
      ·have o:¬ (y.Kind=3∨y.Kind=4):=fun h=>q (j.2 h);rw [if_neg q];refine z _ _ _ (fun g=>absurd (.inl g) o) ?_ ?_ ?_
       ·rw [qa,if_neg o,List.append_nil]
       ·rw [d,if_neg o,List.append_nil]
       ·rw [e,if_neg o,List.append_nil]
     have B:∀ a,a=s++(if y.Kind=7 then [y.Name] else [])→tu n (mm n) i c r y (Hl n (mm n) l m) a=some (c++((l.drop i).map (Di (k+1))).flatten,s++((l.drop i).map (Zi (k+1))).flatten,r++((l.drop i).map (Yi (k+1))).flatten):=by
      intro a d;have C:∀ c' r',c'=c++(if y.Kind=6 then [] else Xi k y.X)→r'=r++(if y.Kind=6 then [] else tj k y.X)→su (mm n) i y (Hl n (mm n) l m) c' a r'=some (c++((l.drop i).map (Di (k+1))).flatten,s++((l.drop i).map (Zi (k+1))).flatten,r++((l.drop i).map (Yi (k+1))).flatten):=by
       intro c' r' qa e;rw [su];split
       ·rename_i h;exact A _ _ _ _ (by simp [h]) qa d e
       ·rename_i h;exact A _ _ _ _ (by simp [h]) qa d e
      rw [tu];by_cases ae:y.Kind=6
      ·rw [if_neg (by simpa using ae)];exact C _ _ (by rw [if_pos ae,List.append_nil]) (by rw [if_pos ae,List.append_nil])
      ·rw [if_neg ae] at g3 g4 g5;rw [if_pos ae,gH n k y.X c a r (by omega) (H ae) (by omega) (by omega),ma];exact C _ _ (by rw [if_neg ae]) (by rw [if_neg ae])
     by_cases p:y.Kind=7
     ·rw [if_pos p,As (by simp;omega),ma,mx];exact B _ (by rw [if_pos p])
     ·rw [if_neg p];exact B _ (by rw [if_neg p,List.append_nil])
    ·rw [if_neg (by omega),List.drop_eq_nil_of_le (by omega)];simp
  rw [Jl];have:=L (l.length+1) 0 c s r (by omega) (by omega) (by simpa using g) (by simpa using E) (by simpa using F);simpa using this
end Go.Y
namespace Go.Y
open Go.Rb Go.ec
theorem Xv {α β:Type}{f:α→List β}{l:List α}{b:β}(h:b ∈ (l.map f).flatten):∃ a ∈ l,b ∈ f a:=by
 obtain ⟨q,c,d⟩:=List.mem_flatten.1 h;obtain ⟨a,e,rfl⟩:=List.mem_map.1 c;exact ⟨a,e,d⟩
theorem oy {β:Type}{c:Prop}[Decidable c]{l m:List β}{b:β}(h:b ∈ (if c then l else m)):(c∧b ∈ l)∨(¬ c∧b ∈ m):=by
 by_cases q:c
 ·rw [if_pos q] at h;exact .inl ⟨q,h⟩
 ·rw [if_neg q] at h;exact .inr ⟨q,h⟩
theorem EE {p:pb}:∀ (k:Nat) (x:Da),Calls p k x→∀ c ∈ Xi k x,∃ d,Ua p.named c=some d∧(d.Kind=2∨d.Kind=3)
 | 0,x,h=>by cases h
 | k+1,x,h=>by
  obtain ⟨f,g,m,i⟩:=h;intro c b;rw [Xi] at b;rcases List.mem_append.1 b with b | b
  ·rcases oy b with ⟨q,b⟩ | ⟨q,b⟩
   ·rw [List.mem_singleton.1 b];rcases q with q | q
    ·obtain ⟨d,qa,e⟩:=f q;exact ⟨d,qa,.inl e⟩
    ·obtain ⟨d,qa,e⟩:=g q;exact ⟨d,qa,.inr e⟩
   ·cases b
  ·obtain ⟨a,j,l⟩:=Xv b;exact EE k a (i a j) c l
theorem gy {p:pb}:∀ (k:Nat) (x:Ea),wm p k x→∀ c ∈ Di k x,∃ d,Ua p.named c=some d∧(d.Kind=2∨d.Kind=3)
 | 0,x,h=>by cases h
 | k+1,x,h=>by
  obtain ⟨g,i,j,l⟩:=h;intro c b;rw [Di] at b;rcases List.mem_append.1 b with b | b
  ·rcases List.mem_append.1 b with b | b
   ·rcases oy b with ⟨q,b⟩ | ⟨q,b⟩
    ·cases b
    ·exact EE k _ (g q) c b
   ·rcases oy b with ⟨q,b⟩ | ⟨q,b⟩
    ·obtain ⟨a,e,f⟩:=Xv b;exact gy k a (i q a e) c f
    ·cases b
  ·rcases oy b with ⟨q,b⟩ | ⟨q,b⟩
   ·obtain ⟨a,e,f⟩:=Xv b;exact gy k a (j q a e) c f
   ·cases b
def Ci (d:sa):List Nm:=(d.Body.map (Di 39)).flatten
def mn (d:sa):List Nm:=(d.Body.map (Zi 39)).flatten
def nn (d:sa):List Nm:=(d.Body.map (Yi 39)).flatten
def Oi (N:List (Nm×sa)):List Nm→List Nm→List (Option sa)→List Nm×List (Option sa)
 | [],a,todo=>(a,todo)
 | c::cs,a,todo=>if a.contains c=true then Oi N cs a todo else Oi N cs (a++[c]) (todo++[Ua N c])
def Kk (N:List (Nm×sa)):Nat→List Nm→List (Option sa)→List Nm→List Nm→Option jf
 | 0,_,_,_,_=>none
 | n+1,a,[],s,r=>some ⟨[],s,r⟩
 | n+1,a,none::t,s,r=>none
 | n+1,a,some d::t,s,r=>Kk N n (Oi N (Ci d) a t).1 (Oi N (Ci d) a t).2 (s++mn d) (r++nn d)
def Kw (l:List sa) (a:List Nm):Nat:=(l.filter fun d=>!a.contains d.Name).length
theorem filter_le {α:Type}(P Q:α→Bool) (h:∀ x,Q x=true→P x=true):∀ l:List α,(l.filter Q).length≤(l.filter P).length
 | []=>by simp
 | x::l=>by
  have a:=filter_le P Q h l;rw [List.filter_cons,List.filter_cons];by_cases q:Q x=true
  ·rw [if_pos q,if_pos (h x q),List.length_cons,List.length_cons];omega
  ·rw [if_neg q];split
   ·rw [List.length_cons];omega
   ·exact a
theorem filter_lt {α:Type}(P Q:α→Bool) (h:∀ x,Q x=true→P x=true):∀ (l:List α) (x:α),x ∈ l→P x=true→Q x=false→(l.filter Q).length<(l.filter P).length
 | y::l,x,a,b,c=>by
  have le:=filter_le P Q h l;rw [List.filter_cons,List.filter_cons];rcases List.mem_cons.1 a with rfl | a
  ·rw [if_pos b,if_neg (by simp [c]),List.length_cons];omega
  ·have d:=filter_lt P Q h l x a b c;by_cases q:Q y=true
   ·rw [if_pos q,if_pos (h y q),List.length_cons,List.length_cons];omega
   ·rw [if_neg q];split
    ·rw [List.length_cons];omega
    ·exact d
theorem MK (l:List sa) (a:List Nm) (d:sa) (xa:d ∈ l) (h:a.contains d.Name=false):Kw l (a++[d.Name])<Kw l a:=by
 refine filter_lt _ _ (fun x b=>?_) l d xa (by simpa using h) (by simp);simp only [Bool.not_eq_true',List.contains_eq_mem,List.mem_append,decide_eq_false_iff_not] at b ⊢;exact fun h=>b (.inl h)
structure Lw (p:pb) (l:List sa) (a:List Nm) (todo:List (Option sa)) (q:Nat):Prop where
 ia:a.length+Kw l a≤30
 nC:∀ o ∈ todo,∃ d ∈ l,o=some d∧d.Kind≠1
 q:Kw l a+todo.length≤q
theorem py {p:pb}{l:List sa}(R:an p l):∀ (cs:List Nm) (a:List Nm) (todo:List (Option sa)) (q:Nat),(∀ c ∈ cs,∃ d,Ua p.named c=some d∧(d.Kind=2∨d.Kind=3))→Lw p l a todo q→Lw p l (Oi p.named cs a todo).1 (Oi p.named cs a todo).2 q
 | [],a,todo,q,h,T=>T
 | c::cs,a,todo,q,h,T=>by
  rw [Oi];have e:∀ c ∈ cs,∃ d,Ua p.named c=some d∧(d.Kind=2∨d.Kind=3):=fun c f=>h c (List.mem_cons_of_mem _ f);by_cases k:a.contains c=true
  ·rw [if_pos k];exact py R cs a todo q e T
  ·rw [if_neg k];obtain ⟨d,qa,i⟩:=h c (List.mem_cons_self ..);obtain ⟨m1,m2⟩:=R.only _ _ qa;have g:=MK l a d m1 (by rw [m2];simpa using k);rw [m2] at g;refine py R cs _ _ q e ⟨?_,fun o b=>?_,?_⟩
   ·rw [List.length_append,List.length_singleton];have:=T.ia;omega
   ·rcases List.mem_append.1 b with b | b
    ·exact T.nC o b
    ·rw [List.mem_singleton.1 b];exact ⟨d,m1,qa,by omega⟩
   ·rw [List.length_append,List.length_singleton];have:=T.q;omega
theorem HH {p:pb}{l:List sa}(R:an p l) (u:List Nm×List Nm×List Nm) (s r:List Nm) (K:List Nm→List (Option sa)→List Nm→List Nm→Option jf) (hu:∀ c ∈ u.1,∃ d,Ua p.named c=some d∧(d.Kind=2∨d.Kind=3)) (ia:u.1.length≤1000000) :
  ∀ (m i:Nat) (a:List Nm) (todo:List (Option sa)) (q:Nat),i≤u.1.length→u.1.length<m+i→q≤1000→Lw p l a todo q →
   jt p u s r K m i a todo=K (Oi p.named (u.1.drop i) a todo).1 (Oi p.named (u.1.drop i) a todo).2 s r:=by
 intro m
 induction m with
 | zero=>intro i a todo q f g; omega
 | succ m b =>
  intro i a todo q f g e T;rw [jt];by_cases c:i<u.1.length
  ·rw [if_pos (by omega),Ce,List.getElem?_eq_getElem c,ma,List.drop_eq_getElem_cons c,Oi];have h:=hu _ (List.getElem_mem c);by_cases k:a.contains u.1[i]=true
   ·rw [if_pos k,if_pos k,De (by omega),ma];exact b (i+1) a todo q c (by omega) e T
   ·have n:=T.ia;have o:=T.q;have vg:=py R [u.1[i]] a todo q (fun c j=>by rw [List.mem_singleton.1 j];exact h) T;rw [Oi,if_neg k,Oi] at vg;rw [if_neg k,if_neg k,As (by simp;omega),ma,As (by simp;omega),ma,De (by omega),ma];exact b (i+1) _ _ q c (by omega) e vg
  ·rw [if_neg (by omega),List.drop_eq_nil_of_le (by omega)];rfl
theorem AI {p:pb}{l:List sa}(R:an p l) (fu:Nat) (c:500≤fu) (d:sa) (xa:d ∈ l) (a:d.Kind≠1):(mm fu).Jl [] [] [] d.Body=some (Ci d,mn d,nn d)∧(Ci d).length≤2000∧(mn d).length≤2000∧(nn d).length≤2000:=by
 have ok:=R.ok.ok d xa;have b:Gr d≤2000:=Nat.le_trans (rF Gr l d xa) R.ok.n;rw [Gr,if_pos a] at b;have:=KG fu 39 d.Body [] [] [] (by omega) (ok.Ud a) (ok.Ih a) (by simp;omega) (by simp;omega) (by simp;omega);have oa:=qm (Di 39) (ih 39) (yw 39) d.Body;have a2:=qm (Zi 39) (ih 39) (Aw 39) d.Body;have a3:=qm (Yi 39) (ih 39) (zw 39) d.Body;exact ⟨by rw [this];rfl,by rw [Ci];omega,by rw [mn];omega,by rw [nn];omega⟩
theorem IH {p:pb}{l:List sa}(R:an p l) (fu:Nat) (g:500≤fu):∀ (n q:Nat) (b:List Nm) (todo:List (Option sa)) (s r:List Nm),q<n→q≤1000→Lw p l b todo q→s.length+2000*q≤1000000000→r.length+2000*q≤1000000000 →
  Lr fu p n b todo s r=Kk p.named n b todo s r∧(∃ u,Kk p.named n b todo s r=some u∧u.calls=[]):=by
 intro n
 induction n with
 | zero=>intro q b todo s r h; omega
 | succ n i =>
  intro q b todo s r h z T za sd;rw [Lr];cases todo with
  | nil=>exact ⟨by rw [if_neg (by simp)]; rfl,_,rfl,rfl⟩
  | cons o t =>
   obtain ⟨d,xa,rfl,k1⟩:=T.nC o (List.mem_cons_self ..);obtain ⟨hf,Ib,A,B⟩:=AI R fu g d xa k1;have j:=T.q;have k:=T.ia;rw [List.length_cons] at j;have qa:at_ (some d::t) 0=some (some d):=rfl;have m:cut (some d::t) 1 ((some d::t).length:Int)=some t:=by
    rw [cut,if_pos (by simp;omega)];simp
   have e:∀ c ∈ Ci d,∃ f,Ua p.named c=some f∧(f.Kind=2∨f.Kind=3):=fun c e=>by
    obtain ⟨a,v,w⟩:=Xv e;exact gy 39 a (R.cs d xa k1 a v) c w
   have vg:Lw p l b t (q - 1):=⟨k,fun o x=>T.nC o (List.mem_cons_of_mem _ x),by omega⟩;have y:=py R (Ci d) b t (q - 1) e vg;rw [if_pos (by simp),qa,ma,m,ma,ma,hf,ma,As (by simp only [];omega),ma,As (by simp only [];omega),ma,nx];rw [show ((0:Int))=((0:Nat):Int) from rfl,HH R (Ci d,mn d,nn d) _ _ _ e (by simp only [];omega) _ 0 b t (q - 1) (by omega) (by simp only [];omega) (by omega) vg,List.drop_zero];rw [Kk];exact i (q - 1) _ _ (s++mn d) (r++nn d) (by omega) (by omega) y (by rw [List.length_append];omega) (by rw [List.length_append];omega)
theorem FE {p:pb}{l:List sa}(R:an p l) (fu:Nat) (a:500≤fu) (d:sa) (xa:d ∈ l) (b:d.Kind≠1):Kx fu p d=Kk p.named fu [] [some d] [] []∧(∃ u,Kk p.named fu [] [some d] [] []=some u∧u.calls=[]):=by
 have c:Kw l []≤30:=Nat.le_trans (List.length_filter_le _ _) R.ok.le;exact IH R fu a fu 31 [] [some d] [] [] (by omega) (by omega) ⟨by simpa using c,fun o e=>by rw [List.mem_singleton.1 e];exact ⟨d,xa,rfl,b⟩,by simp;omega⟩ (by simp) (by simp)
def Uk:jf:=⟨[],[],[]⟩
def Pk (L:List (Nm×jf)) (b:Nm):List sa→Nm→Nm→Option (Nm×Nm)
 | [],w,r=>some (w,r)
 | t::la,w,r=>if t.Kind≠4 then Pk L b la w r else
   if ((Ua L t.Name).getD Uk).Dk.contains b=true∧w≠[] then none else
   if ((Ua L t.Name).getD Uk).Rj.contains b=true∧r≠[] then none else
   Pk L b la (if ((Ua L t.Name).getD Uk).Dk.contains b=true then t.Name else w) (if ((Ua L t.Name).getD Uk).Rj.contains b=true then t.Name else r)
def Dm (L:List (Nm×jf)) (l:List sa):List sa→Int→List Rh→List Rh×df
 | [],i,acc=>(acc,⟨0,0⟩)
 | x::xs,i,acc=>if x.Kind≠1 then Dm L l xs (i+1) acc else
   match Pk L x.Name l [] [] with
   | none=>([],⟨8,i⟩)
   | some (w,r)=>Dm L l xs (i+1) (acc++[⟨x.Name,w,r⟩])
def Xj (N:List (Nm×sa)) (fu:Nat):List sa→List (Nm×jf)→List (Nm×jf)
 | [],L=>L
 | d::ds,L=>if d.Kind=4 then Xj N fu ds (zd L d.Name ((Kk N fu [] [some d] [] []).getD Uk)) else Xj N fu ds L
theorem qJ (l:List sa) (ia:l.length≤30) (L:List (Nm×jf)) (i:Int) (acc:List Rh) (x:sa) (K:Int→List Rh→Option (List Rh×df)) (f:0≤i∧i≤1000) (g:acc.length≤1000) :
  ∀ (m j:Nat) (w r:Nm),j≤l.length→l.length<m+j→Wo l L i acc x K m j w r=match Pk L x.Name (l.drop j) w r with | none=>some ([],⟨8,i⟩) | some (w',r')=>K (i+1) (acc++[⟨x.Name,w',r'⟩]):=by
 intro m
 induction m with
 | zero=>intro j w r b d; omega
 | succ m e =>
  intro j w r b d;rw [Wo];by_cases c:j<l.length
  ·rw [if_pos (by omega),Ce,List.getElem?_eq_getElem c,ma,List.drop_eq_getElem_cons c,Pk];have nb:(jf.mk [] [] [])=Uk:=rfl;have Bb:=fun w r=>e (j+1) w r c (by omega);generalize l[j]=t at *;by_cases Ue:t.Kind≠4
   ·rw [if_pos Ue,if_pos Ue,De (by omega),ma];exact Bb w r
   ·rw [if_neg Ue,if_neg Ue,nb];have a:∀ w',ou L i x j r t (Wo l L i acc x K m) w'=if ((Ua L t.Name).getD Uk).Rj.contains x.Name=true∧r≠[] then some ([],⟨8,i⟩) else
      match Pk L x.Name (l.drop (j+1)) w' (if ((Ua L t.Name).getD Uk).Rj.contains x.Name=true then t.Name else r) with | none=>some ([],⟨8,i⟩) | some (w',r')=>K (i+1) (acc++[⟨x.Name,w',r'⟩]):=by
     intro w';rw [ou,nb];by_cases q:((Ua L t.Name).getD Uk).Rj.contains x.Name=true
     ·rw [if_pos q];by_cases z:r≠[]
      ·rw [if_pos z,if_pos ⟨q,z⟩]
      ·rw [if_neg z,if_neg (fun h=>z h.2),if_pos q,nu,De (by omega),ma];exact Bb _ _
     ·rw [if_neg q,if_neg (fun h=>q h.1),if_neg q,nu,De (by omega),ma];exact Bb _ _
    by_cases q:((Ua L t.Name).getD Uk).Dk.contains x.Name=true
    ·rw [if_pos q];by_cases z:w≠[]
     ·rw [if_pos z,if_pos ⟨q,z⟩]
     ·rw [if_neg z,if_neg (fun h=>z h.2),if_pos q,a];split<;>rfl
    ·rw [if_neg q,if_neg (fun h=>q h.1),if_neg q,a];split<;>rfl
  ·rw [if_neg (by omega),List.drop_eq_nil_of_le (by omega),As (by simp;omega),ma,De (by omega),ma];rfl
theorem rJ (l:List sa) (ia:l.length≤30) (L:List (Nm×jf)):∀ (m i:Nat) (acc:List Rh),i≤l.length→l.length<m+i→acc.length≤i→Hp l L m i acc=some (Dm L l (l.drop i) i acc):=by
 intro m
 induction m with
 | zero=>intro i acc b d; omega
 | succ m a =>
  intro i acc b d e;rw [Hp];by_cases c:i<l.length
  ·rw [if_pos (by omega),Ce,List.getElem?_eq_getElem c,ma,List.drop_eq_getElem_cons c,Dm];by_cases k1:l[i].Kind≠1
   ·rw [if_pos k1,if_pos k1,De (by omega),ma];exact a (i+1) acc c (by omega) (by omega)
   ·rw [if_neg k1,if_neg k1,show ((0:Int))=((0:Nat):Int) from rfl,qJ l ia L i acc l[i] _ (by omega) (by omega) _ 0 [] [] (by omega) (by omega),List.drop_zero];cases h:Pk L l[i].Name l [] [] with
    | none=>rfl
    | some v=>exact a (i+1) _ c (by omega) (by simp; omega)
  ·rw [if_neg (by omega),List.drop_eq_nil_of_le (by omega)];rfl
theorem sJ {p:pb}{l:List sa}(R:an p l) (fu:Nat) (b:500≤fu) (f:df):∀ (m i:Nat) (L:List (Nm×jf)),i≤l.length→l.length<m+i→Kr fu l (p,f) m i L=some (Dm (Xj p.named fu (l.drop i) L) l l 0 []):=by
 have ia:=R.ok.le;intro m
 induction m with
 | zero=>intro i L d e; omega
 | succ m a =>
  intro i L d e;rw [Kr];by_cases c:i<l.length
  ·have nb:at_ l (i:Int)=some l[i]:=by rw [Ce,List.getElem?_eq_getElem c]
   rw [if_pos (by omega),nb,ma,List.drop_eq_getElem_cons c,Xj];by_cases Ue:l[i].Kind=4
   ·obtain ⟨g,u,h,-⟩:=FE R fu b l[i] (List.getElem_mem _) (by omega);rw [if_pos Ue,if_pos Ue];simp only [ma];rw [g,h,ma,jx,De (by omega),ma];exact a (i+1) _ c (by omega)
   ·rw [if_neg Ue,if_neg Ue,De (by omega),ma];exact a (i+1) L c (by omega)
  ·rw [if_neg (by omega),List.drop_eq_nil_of_le (by omega)];exact rJ l ia L (l.length+1) 0 [] (by omega) (by omega) (by simp)
theorem ox (fu:Nat) (a:500≤fu) (l:List sa):∃ p f,yo fu l=some (p,f)∧((f.Hg≠0∧Uq fu l=some ([],f))∨(f.Hg=0∧an p l∧Uq fu l=some (Dm (Xj p.named fu l []) l l 0 []))):=by
 obtain ⟨p,f,b,c⟩:=yC fu a l;refine ⟨p,f,b,?_⟩;rw [Uq,b,ma];by_cases z:f.Hg=0
 ·rw [if_neg (by simpa using z)];exact .inr ⟨z,c z,sJ (c z) fu a f (l.length+1) 0 [] (by omega) (by omega)⟩
 ·rw [if_pos z];exact .inl ⟨z,rfl⟩
end Go.Y
namespace Go.Y
open Go.Rb Go.ec
abbrev ax:=List UInt8
def Yn (w:ax):Prop:=∀ fu,20≤fu→ai fu w=some true
def Qw:Nat→Da→Prop
 | 0,_=>False
 | k+1,x=>1≤x.Kind∧x.Kind≤24∧oB x∧(x.Kind=1→0≤x.N∧x.N≤999999999999999)∧(x.Kind=2→x.N=0∨x.N=1)∧((x.Kind=3∨x.Kind=20∨x.Kind=19∨x.Kind=22)→Yn x.Name)∧∀ y ∈ x.Kids,Qw k y
def gu:Nat→Ea→Prop
 | 0,_=>False
 | k+1,s=>1≤s.Kind∧s.Kind≤9∧(s.Kind≠6→Qw k s.X)∧((s.Kind=1∨s.Kind=2∨s.Kind=7)→Yn s.Name)∧((s.Kind=3∨s.Kind=4)→s.Body.length≤50∧∀ y ∈ s.Body,gu k y)∧(s.Kind=3→s.me.length≤50∧∀ y ∈ s.me,gu k y)
def yr (t:Sa):Prop:=Oo t∧(t.Kind=3→Yn t.bc)
structure Us (d:sa):Prop where
 k1:1≤d.Kind
 Ue:d.Kind≤4
 mc:Yn d.Name
 Nf:d.Kind=2∨d.Kind=3→d.Params.length≤6∧∀ q ∈ d.Params,Yn q.Name∧yr q.vb
 uk:d.Kind=3→yr d.Cd
 ty:d.Kind≠4→yr d.vb
 Ig:d.Kind=1→1≤d.Jf∧d.Jf≤20
 Ih:d.Kind≠1→d.Body.length≤50∧∀ y ∈ d.Body,gu 39 y
theorem Yn.Oq {w:ax}(h:Yn w):w≠[]:=fun e=>by have:=h 20 (Nat.le_refl _);rw [e] at this;revert this;decide
theorem Wh {α β:Type}{o:Option α}{f:α→Option β}{r:β}(h:Option.bind o f=some r):∃ x,o=some x∧f x=some r:=ua h
theorem JH {w:ax}{p:UInt8→Option Bool}:∀ (m a:Nat) (i r:Int),m≤a→xn w p m i=some r→xn w p a i=some r:=by
 intro m
 induction m with
 | zero=>intro a i r h g; cases g
 | succ m f =>
  intro a i r h g;obtain ⟨a,rfl⟩:∃ q,a=q+1:=⟨a - 1,by omega⟩;rw [xn] at g ⊢;have d:∀ b,Qr i (xn w p m) b=some r→Qr i (xn w p a) b=some r:=by
   intro b g;rw [Qr] at g ⊢;split
   ·rename_i c;rw [if_pos c] at g;obtain ⟨x,e,g⟩:=Wh g;rw [e,ma];exact f a x r (by omega) g
   ·rename_i c;rw [if_neg c] at g;exact g
  split
  ·rename_i c;rw [if_pos c] at g;obtain ⟨x,e,g⟩:=Wh g;obtain ⟨y,j,g⟩:=Wh g;rw [e,ma,j,ma];exact d y g
  ·rename_i c;rw [if_neg c] at g;exact d _ g
theorem kD {fu a:Nat}(h:fu≤a){w:ax}{b:Bool}(g:ai fu w=some b):ai a w=some b:=by
 have d:∀ c,Xo fu w c=some b→Xo a w c=some b:=by
  intro c g;rw [Xo] at g ⊢;split
  ·rename_i q;rw [if_pos q] at g;exact g
  ·rename_i q;rw [if_neg q] at g;obtain ⟨x,e,g⟩:=Wh g;have:At a w Fs=some x:=JH fu a 0 x h e;rw [this,ma];exact g
 rw [ai] at g ⊢;split
 ·rename_i q;rw [if_pos q] at g;exact d _ g
 ·rename_i q;rw [if_neg q] at g;split
  ·rename_i q;rw [if_pos q] at g;exact d _ g
  ·rename_i q;rw [if_neg q] at g;obtain ⟨x,e,g⟩:=Wh g;obtain ⟨y,f,g⟩:=Wh g;rw [e,ma,f,ma];split
   ·rename_i q;rw [if_pos q] at g;obtain ⟨s1,qa,g⟩:=Wh g;obtain ⟨s2,i,g⟩:=Wh g;obtain ⟨Nb,j,g⟩:=Wh g;rw [qa,ma,i,ma,j,ma];exact d _ g
   ·rename_i q;rw [if_neg q] at g;exact d _ g
theorem ev {fu:Nat}(d:20≤fu){w:ax}(h:ai fu w=some true):Yn w:=by
 intro f e;obtain ⟨b,a⟩:=Ju 20 (Nat.le_refl _) w;have c:=kD d a;rw [h] at c;obtain rfl:=Option.some.inj c;exact kD e a
section
variable {fu:Nat}{self:Ao}{x:Da}{d node k:Int}
theorem hH:∀ (m i:Nat) (c:Int),x.Kids.length≤6→xk self x d m i c=some (0,k)→∀ j (b:j<x.Kids.length),i≤j→∃ c' a k',self.ei c' x.Kids[j] a=some (0,k'):=by
 intro m
 induction m with
 | zero=>intro i c _ h; cases h
 | succ m e =>
  intro i c ia h j b n;rw [xk,if_pos (by omega),Ce,List.getElem?_eq_getElem (show i<x.Kids.length by omega),ma] at h;obtain ⟨a,qa,h⟩:=Wh h;obtain ⟨r,f,h⟩:=Wh h;by_cases z:r.1≠0
  ·rw [if_pos z] at h;exact absurd (congrArg (fun o:Option (Int×Int)=>o.map (·.1)) h) (by simpa using z)
  ·rw [if_neg z,De (by omega),ma] at h;by_cases q:j=i
   ·subst q;obtain ⟨g,l⟩:=r;obtain rfl:g=0:=Decidable.not_not.1 z;exact ⟨c,a,l,f⟩
   ·exact e (i+1) r.2 ia h j b (by omega)
theorem QC {a:Int×Int}{b:Bool}(h:yn self x d a b=some (0,k)):∃ m c,xk self x d m (0:Nat) c=some (0,k):=by
 rw [yn] at h;split at h
 ·cases h
 ·exact ⟨_,_,h⟩
theorem iH {a:Int×Int}{r:Int}{b:Bool}(h:zn self x d a r b=some (0,k)):∃ m c,xk self x d m (0:Nat) c=some (0,k):=by
 rw [zn] at h;split at h
 ·exact QC h
 ·split at h<;>exact QC h
theorem RC {a:Int×Int}{r:Int}{b:Bool}(h:im self x d a r b=some (0,k)):b=false∧∃ m c,xk self x d m (0:Nat) c=some (0,k):=by
 rw [im] at h;split at h
 ·cases h
 ·rename_i q;refine ⟨by simpa using q,?_⟩;split at h<;>exact iH h
theorem Ix {i:Int×Int}{r:Int}{b:Bool}(h:Pm fu self x d i r b=some (0,k)):b=false∧(x.Kind=3∨x.Kind=20∨r<0→ai fu x.Name=some true)∧∃ m c,xk self x d m (0:Nat) c=some (0,k):=by
 rw [Pm] at h;split at h
 ·cases h
 ·rename_i q;refine ⟨by simpa using q,?_⟩;have a:(Option.bind (ai fu x.Name) fun j=>im self x d i r (!j))=some (0,k)→(x.Kind=3∨x.Kind=20∨r<0→ai fu x.Name=some true)∧∃ m c,xk self x d m (0:Nat) c=some (0,k):=by
   intro h;obtain ⟨Ic,e,h⟩:=Wh h;obtain ⟨l,f⟩:=RC h;cases Ic with
   | true=>exact ⟨fun _=>e,f⟩
   | false=>cases l
  split at h
  ·exact a h
  ·split at h
   ·exact a h
   ·split at h
    ·exact a h
    ·obtain ⟨-,f⟩:=RC h;exact ⟨fun g=>by omega,f⟩
theorem tJ (h:ei fu self node x d=some (0,k)):(x.Kind=1→0≤x.N∧x.N≤999999999999999)∧(x.Kind=2→x.N=0∨x.N=1)∧(x.Kind=3∨x.Kind=20∨Lh x.Kind<0→ai fu x.Name=some true)∧∃ m c,xk self x d m (0:Nat) c=some (0,k):=by
 rw [ei] at h;obtain ⟨i,-,h⟩:=Wh h;split at h
 ·rename_i z;exact absurd (congrArg (fun o:Option (Int×Int)=>o.map (·.1)) h) (by simpa using z)
 ·have f:∀ b,An fu self x d i (Lh x.Kind) b=some (0,k)→b=false∧(x.Kind=2→x.N=0∨x.N=1)∧(x.Kind=3∨x.Kind=20∨Lh x.Kind<0→ai fu x.Name=some true)∧∃ m c,xk self x d m (0:Nat) c=some (0,k):=by
   intro b h;rw [An] at h;split at h
   ·rename_i q;obtain ⟨a,-⟩:=Ix h;rw [q] at a;cases a
   ·rename_i q;refine ⟨by simpa using q,?_⟩;split at h
    ·split at h
     ·obtain ⟨a,e⟩:=Ix h;exact ⟨fun _=>.inr (by simpa using a),e⟩
     ·rename_i z;obtain ⟨a,e⟩:=Ix h;exact ⟨fun _=>.inl (Decidable.not_not.1 z),e⟩
    ·rename_i z;obtain ⟨a,e⟩:=Ix h;exact ⟨fun g=>absurd g z,e⟩
  have j:∀ b,Il fu self x d i b=some (0,k)→(x.Kind=1→0≤x.N∧x.N≤999999999999999)∧(x.Kind=2→x.N=0∨x.N=1)∧(x.Kind=3∨x.Kind=20∨Lh x.Kind<0→ai fu x.Name=some true)∧∃ m c,xk self x d m (0:Nat) c=some (0,k):=by
   intro b h;rw [Il] at h;split at h
   ·cases h
   ·rw [Zz,ma] at h;split at h
    ·split at h
     ·obtain ⟨a,-⟩:=f _ h;cases a
     ·rename_i z;obtain ⟨a,e⟩:=f _ h;have:=of_decide_eq_false a;exact ⟨fun _=>⟨by omega,by omega⟩,e⟩
    ·rename_i z;obtain ⟨-,e⟩:=f _ h;exact ⟨fun g=>absurd g z,e⟩
  split at h<;>exact j _ h
end
theorem HE:∀ (j n:Nat) (x:Da) (node d k:Int),30+j≤n→ph j x→(Pg n).ei node x d=some (0,k)→Qw j x
 | 0,n,x,node,d,k,f,h,g=>h.elim
 | j+1,n,x,node,d,k,f,h,g=>by
  obtain ⟨k1,l,a,o⟩:=h;obtain ⟨n,rfl⟩:∃ q,n=q+1:=⟨n - 1,by omega⟩;obtain ⟨p,r,s,m,c,t⟩:=tJ (show ei n (Pg n) node x d=some (0,k) from g);refine ⟨k1,l,a,p,r,fun q=>ev (by omega) (s ?_),fun y b=>?_⟩
  ·rcases q with q | q | q | q
   ·exact .inl q
   ·exact .inr (.inl q)
   ·rw [q];exact .inr (.inr (by decide))
   ·rw [q];exact .inr (.inr (by decide))
  ·obtain ⟨i,u,rfl⟩:=List.getElem_of_mem b;obtain ⟨c',v,k',e⟩:=hH m 0 c a.le t i u (Nat.zero_le _);exact HE j n _ c' v k' (by omega) (o _ b) e
section
variable {fu:Nat}{self:Bo}{x:Ea}{d node k:Int}
theorem LG {l:List Ea}:∀ (m i:Nat) (c:Int),l.length≤50→fo self l d m i c=some (0,k)→∀ j (a:j<l.length),i≤j→∃ c' k',self.jj c' l[j] d=some (0,k'):=by
 intro m
 induction m with
 | zero=>intro i c _ h; cases h
 | succ m b =>
  intro i c ia h j a n;rw [fo,if_pos (by omega),Ce,List.getElem?_eq_getElem (show i<l.length by omega),ma] at h;obtain ⟨r,e,h⟩:=Wh h;by_cases z:r.1≠0
  ·rw [if_pos z] at h;exact absurd (congrArg (fun o:Option (Int×Int)=>o.map (·.1)) h) (by simpa using z)
  ·rw [if_neg z,De (by omega),ma] at h;by_cases q:j=i
   ·subst q;obtain ⟨f,g⟩:=r;obtain rfl:f=0:=Decidable.not_not.1 z;exact ⟨c,g,e⟩
   ·exact b (i+1) r.2 ia h j a (by omega)
theorem ED {l:List Ea}(ia:l.length≤50) (h:ah self node l d=some (0,k)):∀ y ∈ l,∃ c' k',self.jj c' y d=some (0,k'):=by
 intro y a;obtain ⟨j,b,rfl⟩:=List.getElem_of_mem a;rw [ah] at h;split at h
 ·cases h
 ·exact LG _ 0 _ ia h j b (Nat.zero_le _)
theorem SC {c:Int}(h:po self x d c=some (0,k)):x.Kind=3→∃ c' b k',self.ah c' x.me b=some (0,k'):=by
 intro f;rw [po,if_pos f] at h;obtain ⟨b,-,h⟩:=Wh h;obtain ⟨r,e,h⟩:=Wh h;obtain ⟨g,i⟩:=r;obtain ⟨a,-⟩:=Prod.mk.inj (Option.some.inj h);have a:g=0:=a;subst a;exact ⟨_,_,_,e⟩
theorem TC {c:Int×Int}{b:Bool}(h:qo self x d c b=some (0,k)):(b=true→∃ c' a k',self.ah c' x.Body a=some (0,k'))∧(x.Kind=3→∃ c' a k',self.ah c' x.me a=some (0,k')):=by
 rw [qo] at h;split at h
 ·obtain ⟨a,-,h⟩:=Wh h;obtain ⟨r,e,h⟩:=Wh h;split at h
  ·rename_i z;exact absurd (congrArg (fun o:Option (Int×Int)=>o.map (·.1)) h) (by simpa using z)
  ·rename_i z;obtain ⟨f,i⟩:=r;obtain rfl:f=0:=Decidable.not_not.1 z;exact ⟨fun _=>⟨_,_,_,e⟩,SC h⟩
 ·rename_i q;exact ⟨fun g=>absurd g q,SC h⟩
theorem uJ (h:jj fu self node x d=some (0,k)):(x.Kind=1∨x.Kind=2∨x.Kind=7→ai fu x.Name=some true)∧(x.Kind≠6→(∃ c' a k',(Pg fu).ei c' x.X a=some (0,k'))∧(x.Kind=3∨x.Kind=4→∃ c' a k',self.ah c' x.Body a=some (0,k'))∧(x.Kind=3→∃ c' a k',self.ah c' x.me a=some (0,k'))):=by
 rw [jj] at h;obtain ⟨i,-,h⟩:=Wh h;split at h
 ·rename_i z;exact absurd (congrArg (fun o:Option (Int×Int)=>o.map (·.1)) h) (by simpa using z)
 ·have j:∀ b,jm fu self x d i b=some (0,k)→b=false∧(x.Kind≠6→(∃ c' a k',(Pg fu).ei c' x.X a=some (0,k'))∧(x.Kind=3∨x.Kind=4→∃ c' a k',self.ah c' x.Body a=some (0,k'))∧(x.Kind=3→∃ c' a k',self.ah c' x.me a=some (0,k'))):=by
   intro b h;rw [jm] at h;split at h
   ·cases h
   ·rename_i q;refine ⟨by simpa using q,fun l=>?_⟩;rw [if_neg l] at h;obtain ⟨a,-,h⟩:=Wh h;obtain ⟨r,e,h⟩:=Wh h;split at h
    ·rename_i z;exact absurd (congrArg (fun o:Option (Int×Int)=>o.map (·.1)) h) (by simpa using z)
    ·rename_i z;obtain ⟨m,t⟩:=r;obtain rfl:m=0:=Decidable.not_not.1 z;refine ⟨⟨_,_,_,e⟩,?_⟩;split at h
     ·rename_i n;obtain ⟨c,f⟩:=TC h;exact ⟨fun _=>c rfl,f⟩
     ·rename_i n;obtain ⟨c,f⟩:=TC h;exact ⟨fun g=>c (decide_eq_true (by omega)),f⟩
  have p:∀ b,Qm fu self x d i b=some (0,k)→(x.Kind=1∨x.Kind=2∨x.Kind=7→ai fu x.Name=some true)∧(x.Kind≠6→(∃ c' a k',(Pg fu).ei c' x.X a=some (0,k'))∧(x.Kind=3∨x.Kind=4→∃ c' a k',self.ah c' x.Body a=some (0,k'))∧(x.Kind=3→∃ c' a k',self.ah c' x.me a=some (0,k'))):=by
   intro b h;rw [Qm] at h;have N:(Option.bind (ai fu x.Name) fun s=>jm fu self x d i (!s))=some (0,k)→(x.Kind=1∨x.Kind=2∨x.Kind=7→ai fu x.Name=some true)∧(x.Kind≠6→(∃ c' a k',(Pg fu).ei c' x.X a=some (0,k'))∧(x.Kind=3∨x.Kind=4→∃ c' a k',self.ah c' x.Body a=some (0,k'))∧(x.Kind=3→∃ c' a k',self.ah c' x.me a=some (0,k'))):=by
    intro h;obtain ⟨Ic,e,h⟩:=Wh h;obtain ⟨c,f⟩:=j _ h;cases Ic with
    | true=>exact ⟨fun _=>e,f⟩
    | false=>cases c
   split at h
   ·cases h
   ·split at h
    ·exact N h
    ·split at h
     ·exact N h
     ·split at h
      ·exact N h
      ·exact ⟨fun g=>by omega,(j _ h).2⟩
  split at h<;>exact p _ h
end
theorem IE:∀ (j n:Nat) (x:Ea) (node d k:Int),60+3*j≤n→yl j x→(Qg n).jj node x d=some (0,k)→gu j x
 | 0,n,x,node,d,k,p,h,g=>h.elim
 | j+1,n,x,node,d,k,p,h,g=>by
  obtain ⟨k1,r,s,hB,t⟩:=h;obtain ⟨n,rfl⟩:∃ q,n=q+2:=⟨n - 2,by omega⟩;obtain ⟨u,f⟩:=uJ (show jj (n+1) (Qg (n+1)) node x d=some (0,k) from g);have L:∀ (l:List Ea) (c' c k':Int),l.length≤50→(∀ y ∈ l,yl j y)→(Qg (n+1)).ah c' l c=some (0,k')→∀ y ∈ l,gu j y:=by
   intro l c' c k' ia v w y m;obtain ⟨c2,z,e⟩:=ED ia (show ah (Qg n) c' l c=some (0,k') from w) y m;exact IE j n y c2 c z (by omega) (v y m) e
  refine ⟨k1,r,fun o=>?_,fun q=>ev (by omega) (u q),fun q=>?_,fun q=>?_⟩
  ·obtain ⟨⟨c',c,k',e⟩,-⟩:=f o;exact HE j (n+1) x.X c' c k' (by omega) (s o) e
  ·obtain ⟨a,b⟩:=hB q;obtain ⟨-,i,-⟩:=f (by omega);obtain ⟨c',c,k',e⟩:=i q;exact ⟨a,L x.Body c' c k' a b e⟩
  ·obtain ⟨a,b⟩:=t q;obtain ⟨-,-,i⟩:=f (by omega);obtain ⟨c',c,k',e⟩:=i q;exact ⟨a,L x.me c' c k' a b e⟩
theorem UA {fu:Nat}(a:20≤fu){t:Sa}(h:Vm fu t=some 0):yr t:=by
 obtain ⟨e,c,d⟩:=Wx fu a t;rw [h] at c;obtain rfl:=Option.some.inj c;refine ⟨d rfl,fun f=>?_⟩;rw [Vm] at h;have g:∀ b,Zo fu t b=some 0→Yn t.bc:=by
  intro b h;rw [Zo] at h;split at h
  ·cases h
  ·obtain ⟨Ic,e,h⟩:=Wh (by simpa only [if_pos f] using h);cases Ic with
   | true=>exact ev a e
   | false=>cases h
 split at h<;>exact g _ h
section
variable {fu:Nat}{x:sa}{Kf:Int×Int}{k node:Int}
theorem lD (h:uo fu x Kf=some (0,k)):(x.Kind=1→1≤x.Jf∧x.Jf≤20)∧(x.Kind≠1→∃ c' k',(Qg fu).ah c' x.Body 2=some (0,k')):=by
 rw [uo] at h;split at h
 ·rename_i q;obtain ⟨r,e,h⟩:=Wh h;obtain ⟨d,f⟩:=r;obtain ⟨a,-⟩:=Prod.mk.inj (Option.some.inj h);have a:d=0:=a;subst a;exact ⟨fun g=>absurd g q,fun _=>⟨_,_,e⟩⟩
 ·rename_i q;have c:∀ b,Lu Kf b=some (0,k)→b=false:=by
   intro b h;cases b with
   | false=>rfl
   | true=>cases h
  split at h
  ·cases c _ h
  ·have:=of_decide_eq_false (c _ h);exact ⟨fun _=>⟨by omega,by omega⟩,fun g=>absurd g q⟩
theorem mD (a:20≤fu) (h:vo fu x Kf=some (0,k)):(x.Kind≠4→yr x.vb)∧(x.Kind=1→1≤x.Jf∧x.Jf≤20)∧(x.Kind≠1→∃ c' k',(Qg fu).ah c' x.Body 2=some (0,k')):=by
 rw [vo] at h;split at h
 ·obtain ⟨r,e,h⟩:=Wh h;split at h
  ·rename_i z;exact absurd (congrArg (fun o:Option (Int×Int)=>o.map (·.1)) h) (by simpa using z)
  ·rename_i z;obtain rfl:r=0:=Decidable.not_not.1 z;exact ⟨fun _=>UA a e,lD h⟩
 ·rename_i q;exact ⟨fun g=>absurd g q,lD h⟩
theorem KH (a:20≤fu) (h:Rm fu x Kf=some (0,k)):(x.Kind=3→yr x.Cd)∧(x.Kind≠4→yr x.vb)∧(x.Kind=1→1≤x.Jf∧x.Jf≤20)∧(x.Kind≠1→∃ c' k',(Qg fu).ah c' x.Body 2=some (0,k')):=by
 rw [Rm] at h;split at h
 ·obtain ⟨r,e,h⟩:=Wh h;split at h
  ·rename_i z;exact absurd (congrArg (fun o:Option (Int×Int)=>o.map (·.1)) h) (by simpa using z)
  ·rename_i z;obtain rfl:r=0:=Decidable.not_not.1 z;exact ⟨fun _=>UA a e,mD a h⟩
 ·rename_i q;exact ⟨fun g=>absurd g q,mD a h⟩
theorem LH (c:20≤fu) (ia:x.Params.length≤6):∀ (m i:Nat),i≤x.Params.length→wo fu x Kf m i=some (0,k)→(∀ j (a:j<x.Params.length),i≤j→Yn x.Params[j].Name∧yr x.Params[j].vb)∧Rm fu x Kf=some (0,k):=by
 intro m
 induction m with
 | zero=>intro i _ h; cases h
 | succ m d =>
  intro i p h;rw [wo] at h;by_cases q:i<x.Params.length
  ·rw [if_pos (by omega),Ce,List.getElem?_eq_getElem q,ma] at h;obtain ⟨b,qa,h⟩:=Wh h;cases b with
   | false=>cases h
   | true =>
    rw [if_pos rfl] at h;obtain ⟨r,f,h⟩:=Wh h;by_cases z:r≠0
    ·rw [if_pos z] at h;exact absurd (congrArg (fun o:Option (Int×Int)=>o.map (·.1)) h) (by simpa using z)
    ·rw [if_neg z,De (by omega),ma] at h;obtain rfl:r=0:=Decidable.not_not.1 z;obtain ⟨g,l⟩:=d (i+1) q h;refine ⟨fun j a n=>?_,l⟩;by_cases e:j=i
     ·subst e;exact ⟨ev c qa,UA c f⟩
     ·exact g j a (by omega)
  ·rw [if_neg (by omega)] at h;exact ⟨fun j a n=>by omega,h⟩
theorem zM (B:300≤fu) (ok:Dq x) (h:Co fu node x=some (0,k)):Us x:=by
 rw [Co] at h;obtain ⟨f,-,h⟩:=Wh h;split at h
 ·rename_i z;exact absurd (congrArg (fun o:Option (Int×Int)=>o.map (·.1)) h) (by simpa using z)
 ·have fin:Yn x.Name→(x.Kind=2∨x.Kind=3→x.Params.length≤6∧∀ q ∈ x.Params,Yn q.Name∧yr q.vb)→Rm fu x f=some (0,k)→Us x:=by
   intro d m h;obtain ⟨a,b,c,e⟩:=KH (by omega) h;refine ⟨ok.k1,ok.Ue,d,m,a,b,c,fun k1=>⟨ok.Ud k1,fun y i=>?_⟩⟩;obtain ⟨c',k',p⟩:=e k1;obtain ⟨n,rfl⟩:∃ q,fu=q+1:=⟨fu - 1,by omega⟩;obtain ⟨c2,r,s⟩:=ED (ok.Ud k1) (show ah (Qg n) c' x.Body 2=some (0,k') from p) y i;exact IE 39 n y c2 2 r (by omega) (ok.Ih k1 y i) s
  have l:∀ b,(b=true ↔ x.Kind=2∨x.Kind=3)→Yn x.Name→xo fu x f b=some (0,k)→Us x:=by
   intro b g d h;rw [xo] at h;split at h
   ·rename_i q;split at h
    ·cases h
    ·rename_i z;obtain ⟨t,u⟩:=LH (by omega) (by omega) _ 0 (Nat.zero_le _) h;exact fin d (fun _=>⟨by omega,fun q v=>by
      obtain ⟨j,w,rfl⟩:=List.getElem_of_mem v;exact t j w (Nat.zero_le _)⟩) u
   ·rename_i q;exact fin d (fun z=>absurd (g.2 z) q) h
  have A:∀ b,Sm fu x f b=some (0,k)→Us x:=by
   intro b h;rw [Sm] at h;split at h
   ·cases h
   ·obtain ⟨Ic,e,h⟩:=Wh h;cases Ic with
    | false=>cases h
    | true =>
     rw [if_pos rfl] at h;split at h
     ·rename_i q;exact l _ (by simp [q]) (ev (by omega) e) h
     ·rename_i q;exact l _ (by simp [q]) (ev (by omega) e) h
  split at h<;>exact A _ h
end
theorem AM {fu:Nat}(g:300≤fu){l:List sa}{f:df}(h:zo fu l=some f) (b:f.Hg=0):l.length≤30∧∀ x ∈ l,Us x:=by
 obtain ⟨s,d,k⟩:=Gx fu (by omega) l;rw [h] at d;obtain rfl:=Option.some.inj d;obtain ⟨-,ok⟩:=k b;have ia:=ok.le;refine ⟨ia,?_⟩;rw [zo,if_neg (by omega)] at h;have L:∀ (m i:Nat) (c:Int),ho fu l m i c=some f→∀ j (a:j<l.length),i≤j→Us l[j]:=by
  intro m
  induction m with
  | zero=>intro i c h; cases h
  | succ m n =>
   intro i c h j a t;rw [ho,if_pos (by omega),Ce,List.getElem?_eq_getElem (show i<l.length by omega),ma] at h;obtain ⟨r,e,h⟩:=Wh h;by_cases z:r.1≠0
   ·rw [if_pos z] at h;rw [← Option.some.inj h] at b;exact absurd b z
   ·rw [if_neg z,De (by omega),ma] at h;by_cases q:j=i
    ·subst q;obtain ⟨o,u⟩:=r;obtain rfl:o=0:=Decidable.not_not.1 z;exact zM g (ok.ok _ (List.getElem_mem _)) e
    ·exact n (i+1) r.2 h j a (by omega)
 intro x p;obtain ⟨j,a,rfl⟩:=List.getElem_of_mem p;exact L _ 0 0 h j a (Nat.zero_le _)
end Go.Y
namespace Go.Y
open Go.Rb Go.ec
def ck (B:Yd) (n:Nm):Option Sa:=B.reverse.findSome? fun m=>Ua m n
inductive bf (p:pb) (d:sa) (B:Yd):Da→Sa→Prop
 | num {x:Da}:x.Kind=1→bf p d B x ⟨1,[]⟩
 | bool {x:Da}:x.Kind=2→bf p d B x ⟨2,[]⟩
 | var {x:Da} {t:Sa}:x.Kind=3→ck B x.Name=some t→bf p d B x t
 | neg {x a:Da}:x.Kind=4→x.Kids=[a]→bf p d B a ⟨1,[]⟩→bf p d B x ⟨1,[]⟩
 | not {x a:Da}:x.Kind=5→x.Kids=[a]→bf p d B a ⟨2,[]⟩→bf p d B x ⟨2,[]⟩
 | bx {x a b:Da}:6≤x.Kind∧x.Kind≤10→x.Kids=[a,b]→bf p d B a ⟨1,[]⟩→bf p d B b ⟨1,[]⟩→bf p d B x ⟨1,[]⟩
 | eq {x a b:Da} {t:Sa}:x.Kind=11∨x.Kind=12→x.Kids=[a,b]→bf p d B a t→bf p d B b t→t.Kind≠3→bf p d B x ⟨2,[]⟩
 | lt {x a b:Da}:13≤x.Kind∧x.Kind≤16→x.Kids=[a,b]→bf p d B a ⟨1,[]⟩→bf p d B b ⟨1,[]⟩→bf p d B x ⟨2,[]⟩
 | cl {x a b:Da}:17≤x.Kind∧x.Kind≤18→x.Kids=[a,b]→bf p d B a ⟨2,[]⟩→bf p d B b ⟨2,[]⟩→bf p d B x ⟨2,[]⟩
 | call {x:Da} {f:sa}:x.Kind=19→Ua p.named x.Name=some f→f.Kind=2→x.Kids.length=f.Params.length→(∀ (i:Nat) (y:Da) (q:TParam),x.Kids[i]?=some y→f.Params[i]?=some q→bf p d B y (Lc q.vb))→bf p d B x (Lc f.vb)
 | recv {x:Da} {f:sa}:x.Kind=20→Ua p.named x.Name=some f→f.Kind=1→bf p d B x (Lc f.vb)
 | Fq {x a:Da}:x.Kind=21→d.Kind=3→x.Kids=[a]→bf p d B a (Lc d.vb)→bf p d B x (Lc d.Cd)
 | start {x:Da} {f:sa}:x.Kind=22→Ua p.named x.Name=some f→f.Kind=3→x.Kids.length=f.Params.length→(∀ (i:Nat) (y:Da) (q:TParam),x.Kids[i]?=some y→f.Params[i]?=some q→bf p d B y (Lc q.vb))→bf p d B x ⟨3,x.Name⟩
 | resume {x a b:Da} {g:Nm} {f:sa}:x.Kind=23→x.Kids=[a,b]→bf p d B a ⟨3,g⟩→Ua p.named g=some f→f.Kind=3→bf p d B b (Lc f.Cd)→bf p d B x (Lc f.vb)
 | alive {x a:Da} {g:Nm} {f:sa}:x.Kind=24→x.Kids=[a]→bf p d B a ⟨3,g⟩→Ua p.named g=some f→f.Kind=3→bf p d B x ⟨2,[]⟩
theorem lG {a b:Sa}(h:jk [decide (a.Kind=b.Kind),decide (a.bc=b.bc)]=true):a=b:=by
 cases a;cases b;simp [jk] at h;simp [h]
theorem BI {B:Yd}{n:Nat}{m:List (Nm×Sa)}{C:Yd}{name:Nm}(h:B.take (n+1)=C++[m]):ck (B.take (n+1)) name=match Ua m name with | some t=>some t | none=>ck C name:=by
 rw [h];unfold ck;rw [List.reverse_append,List.reverse_singleton,List.singleton_append,List.findSome?_cons];cases Ua m name<;>rfl
theorem pB {p:pb}{B:Yd}(hB:al p B) (ia:B.length≤100) (fu:Nat) (k:110≤fu) (d:sa) (name:Nm):∃ t b,cp fu p d B name=some (t,b)∧(b=true→Ek p t∧ck B name=some t)∧(b=false→ck B name=none):=by
 have L:∀ (n j:Nat),j≤B.length→j<n→∃ t b,Mr name B n ((j:Int) - 1)=some (t,b)∧(b=true→Ek p t∧ck (B.take j) name=some t)∧(b=false→ck (B.take j) name=none):=by
  intro n
  induction n with
  | zero=>intro j c f; omega
  | succ n g =>
   intro j c f;rw [Mr];cases j with
   | zero=>rw [if_neg (by omega)]; exact ⟨_,_,rfl,by simp,fun _=>by rw [List.take_zero]; rfl⟩
   | succ j =>
    have a:j<B.length:=by omega
    have e:((j+1:Nat):Int) - 1=(j:Int):=by omega
    have i:=BI (B:=B) (n:=j) (m:=B[j]) (C:=B.take j) (name:=name) (List.take_append_getElem a).symm;rw [e,if_pos (by omega),Ce,List.getElem?_eq_getElem a,ma,i];cases h:Ua B[j] name with
    | none =>
     rw [if_neg (by simp),De (by omega),ma];exact g j (by omega) (by omega)
    | some t=>exact ⟨t,true,rfl,fun _=>⟨hB _ (List.getElem_mem _) _ _ h,rfl⟩,fun h=>by cases h⟩
 rw [cp,De (by omega),ma];have:=L fu B.length (by omega) (by omega);rwa [List.take_length] at this
structure BM (n:Nat):Prop where
 typed:∀ (k:Nat) (p:pb) (d:sa) (B:Yd) (x:Da) (t:Sa),gk p d B→ph k x→3*k+111≤n→∃ e,(se n).Rg p d B x t=some e∧(e=0→bf p d B x (Lc t))
 args:∀ (k:Nat) (p:pb) (d:sa) (B:Yd) (x:Da) (kind:Int),gk p d B→(∀ y ∈ x.Kids,ph k y)→x.Kids.length≤6→(kind=2∨kind=3)→3*k+112≤n →
  ∃ Ae e,(se n).Lj p d B x kind=some (Ae,e)∧(e=0→∃ f,Ae=some f∧Ua p.named x.Name=some f∧f.Kind=kind∧x.Kids.length=f.Params.length∧∀ (i:Nat) (y:Da) (q:TParam),x.Kids[i]?=some y→f.Params[i]?=some q→bf p d B y (Lc q.vb))
 both:∀ (k:Nat) (p:pb) (d:sa) (B:Yd) (x a b:Da),gk p d B→x.Kids=[a,b]→ph k a→ph k b→3*k+112≤n→∃ t e,(se n).yk p d B x=some (t,e)∧(e=0→bf p d B a t∧bf p d B b t∧t.Kind≠3)
 handle:∀ (k:Nat) (p:pb) (d:sa) (B:Yd) (x:Da),gk p d B→ph k x→3*k+112≤n→∃ Ae e,(se n).Kj p d B x=some (Ae,e)∧(e=0→∃ f g,Ae=some f∧Ua p.named g=some f∧f.Kind=3∧bf p d B x ⟨3,g⟩)
 expr:∀ (k:Nat) (p:pb) (d:sa) (B:Yd) (x:Da),gk p d B→ph k x→3*k+110≤n→∃ t e,(se n).Ah p d B x=some (t,e)∧(e=0→Ek p t∧bf p d B x t)
theorem sF:∀ n,BM n:=by
 intro n
 induction n with
 | zero=>exact ⟨fun _ _ _ _ _ _ _ _ h=>by omega,fun _ _ _ _ _ _ _ _ _ _ h=>by omega,fun _ _ _ _ _ _ _ _ _ _ _ h=>by omega,fun _ _ _ _ _ _ _ h=>by omega,fun _ _ _ _ _ _ _ h=>by omega⟩
 | succ n v =>
  refine ⟨fun k p d B x t H A Q=>?_,fun k p d B x kind H A ia F Q=>?_,fun k p d B x a b H A o N Q=>?_,fun k p d B x H A Q=>?_,fun k p d B x H A Q=>?_⟩
  ·show ∃ e,Rg (se n) p d B x t=some e∧_;obtain ⟨ib,e,u,s⟩:=v.expr k p d B x H A (by omega);rw [Rg,u,ma];by_cases z:e=0
   ·rw [if_pos z,hj,ma,ix];refine ⟨_,rfl,fun r=>?_⟩;simp only at r;split at r
    ·exact absurd r (by decide)
    ·rename_i q;have gc:jk [decide (ib.Kind=(Lc t).Kind),decide (ib.bc=(Lc t).bc)]=true:=by simpa using q
     exact lG gc ▸ (s z).2
   ·rw [if_neg z,ix];exact ⟨e,rfl,fun h=>absurd h z⟩
  ·show ∃ Ae e,Lj (se n) p d B x kind=some (Ae,e)∧_;rw [Lj,km,ma];by_cases c:Bj (Ua p.named x.Name) kind=true
   ·obtain ⟨f,G,U⟩:=mq c;rw [if_pos c,G];simp only [ma];have lc:=H.Vo _ _ G;have wd:=lc.pl (by omega);by_cases q:(f.Params.length:Int)≠x.Kids.length
    ·rw [decide_eq_true q];exact ⟨none,5,rfl,fun h=>absurd h (by decide)⟩
    ·rw [decide_eq_false q,kt,if_neg (by decide)];simp only [ma];have L:∀ (m i:Nat),i≤f.Params.length→f.Params.length<m+i→∃ Ae e,jo (se n) x p d B (some f,Bj (some f) kind) f m i=some (Ae,e)∧(e=0→Ae=some f∧∀ (j:Nat) (y:Da) (q:TParam),i≤j→x.Kids[j]?=some y→f.Params[j]?=some q→bf p d B y (Lc q.vb)):=by
      intro m
      induction m with
      | zero=>intro i u s; omega
      | succ m V =>
       intro i u s;rw [jo];by_cases c:i<f.Params.length
       ·have bb:i<x.Kids.length:=by omega
        obtain ⟨e,qa,w⟩:=v.typed k p d B x.Kids[i] f.Params[i].vb H (A _ (List.getElem_mem _)) (by omega);rw [if_pos (by omega),Ce,List.getElem?_eq_getElem c,ma,Ce,List.getElem?_eq_getElem bb,ma,qa,ma];by_cases z:e=0
        ·rw [if_neg (by simpa using z),De (by omega),ma];obtain ⟨Ae,O,P,K⟩:=V (i+1) c (by omega);refine ⟨Ae,O,P,fun r=>⟨(K r).1,fun j y q rc C D=>?_⟩⟩;by_cases fd:i=j
         ·subst fd;rw [List.getElem?_eq_getElem bb] at C;rw [List.getElem?_eq_getElem c] at D;obtain rfl:=Option.some.inj C;obtain rfl:=Option.some.inj D;exact w z
         ·exact (K r).2 j y q (by omega) C D
        ·rw [if_pos z];exact ⟨none,e,rfl,fun h=>absurd h z⟩
       ·rw [if_neg (by omega)];refine ⟨some f,0,rfl,fun _=>⟨rfl,fun j y q rc C D=>?_⟩⟩;rw [List.getElem?_eq_none (by omega)] at D;cases D
     obtain ⟨Ae,e,P,K⟩:=L (f.Params.length+1) 0 (by omega) (by omega);refine ⟨Ae,e,P,fun r=>?_⟩;obtain ⟨s1,s2⟩:=K r;exact ⟨f,s1,rfl,U,by omega,fun i y q=>s2 i y q (by omega)⟩
   ·rw [if_neg c];exact ⟨none,7,rfl,fun h=>absurd h (by decide)⟩
  ·show ∃ t e,yk (se n) p d B x=some (t,e)∧_;obtain ⟨t1,qa,u,s⟩:=v.expr k p d B a H o (by omega);obtain ⟨t2,w,g1,g2⟩:=v.expr k p d B b H N (by omega);have k0:at_ x.Kids 0=some a:=by rw [A];rfl
   have k1:at_ x.Kids 1=some b:=by rw [A];rfl
   rw [yk,k0,ma,u,ma];by_cases z:qa=0
   ·rw [if_neg (by simpa using z),k1,ma,g1,ma];by_cases z2:w=0
    ·rw [if_pos z2];split
     ·rename_i D;obtain rfl:=lG D;rw [gm,ma,Gv];refine ⟨_,_,rfl,fun r=>⟨(s z).2,(g2 z2).2,fun id=>?_⟩⟩;have md:t1.Kind=3:=id;simp [md] at r
     ·rw [Gv];exact ⟨_,9,rfl,fun h=>absurd h (by decide)⟩
    ·rw [if_neg z2,Gv];exact ⟨_,w,rfl,fun h=>absurd h z2⟩
   ·rw [if_pos z];exact ⟨_,qa,rfl,fun h=>absurd h z⟩
  ·show ∃ Ae e,Kj (se n) p d B x=some (Ae,e)∧_;obtain ⟨t,e,u,s⟩:=v.expr k p d B x H A (by omega);rw [Kj,u,ma];by_cases z:e=0
   ·rw [if_neg (by simpa using z),gm,ma];by_cases q:t.Kind≠3
    ·rw [if_pos (decide_eq_true q)];exact ⟨none,9,rfl,fun h=>absurd h (by decide)⟩
    ·obtain ⟨f,f1,f2⟩:=(s z).1 (Decidable.not_not.1 q);rw [if_neg (by simpa using q)];have aa:t=⟨3,t.bc⟩:=by cases t;simp at q;simp [q]
     exact ⟨_,0,rfl,fun _=>⟨f,t.bc,f1,f1,f2,by rw [← aa];exact (s z).2⟩⟩
   ·rw [if_pos z];exact ⟨none,e,rfl,fun h=>absurd h z⟩
  ·show ∃ t e,Ah n (se n) p d B x=some (t,e)∧_;cases k with
   | zero=>cases A
   | succ k =>
   obtain ⟨k1,Fd,F,M⟩:=A;have R:Lh x.Kind=1→∃ a,x.Kids=[a]∧ph k a:=fun h=>by
    obtain ⟨a,o⟩:=one (l:=x.Kids) (by have:=F.eq (by omega);omega);exact ⟨a,o,M a (by simp [o])⟩
   have W:Lh x.Kind=2→∃ a b,x.Kids=[a,b]∧ph k a∧ph k b:=fun h=>by
    obtain ⟨a,b,o⟩:=two (l:=x.Kids) (by have:=F.eq (by omega);omega);exact ⟨a,b,o,M a (by simp [o]),M b (by simp [o])⟩
   rw [Ah];by_cases jb:x.Kind=1
   ·rw [if_pos jb];exact ⟨_,0,rfl,fun _=>⟨.of (by decide),.num jb⟩⟩
   rw [if_neg jb];by_cases c2:x.Kind=2
   ·rw [if_pos c2];exact ⟨_,0,rfl,fun _=>⟨.of (by decide),.bool c2⟩⟩
   rw [if_neg c2];by_cases c3:x.Kind=3
   ·obtain ⟨t,b,u,s,-⟩:=pB H.gd H.Ud n (by omega) d x.Name;rw [if_pos c3,u,ma];cases b with
    | true=>exact ⟨t,0,rfl,fun _=>⟨(s rfl).1,.var c3 (s rfl).2⟩⟩
    | false=>exact ⟨_,7,rfl,fun h=>absurd h (by decide)⟩
   rw [if_neg c3];by_cases c4:x.Kind=4
   ·obtain ⟨a,o,E⟩:=R (by rw [c4];rfl);obtain ⟨e,qa,w⟩:=v.typed k p d B a ⟨1,[]⟩ H E (by omega);have k0:at_ x.Kids 0=some a:=by rw [o];rfl
    rw [if_pos c4,k0,ma,Vk,ma,ma,qa,ma];exact ⟨_,e,rfl,fun r=>⟨.of (by decide),.neg c4 o (w r)⟩⟩
   rw [if_neg c4];by_cases c5:x.Kind=5
   ·obtain ⟨a,o,E⟩:=R (by rw [c5];rfl);obtain ⟨e,qa,w⟩:=v.typed k p d B a ⟨2,[]⟩ H E (by omega);have k0:at_ x.Kids 0=some a:=by rw [o];rfl
    rw [if_pos c5,k0,ma,gj,ma,ma,qa,ma];exact ⟨_,e,rfl,fun r=>⟨.of (by decide),.not c5 o (w r)⟩⟩
   rw [if_neg c5];have Gb:∀ b,(b=true ↔ x.Kind=11∨x.Kind=12)→∃ t e,lo (se n) x p d B b=some (t,e)∧(e=0→Ek p t∧bf p d B x t):=by
    intro b N;rw [lo];by_cases q:b=true
    ·have c:=N.1 q;obtain ⟨a,nd,o,S,zg⟩:=W (by rcases c with c | c<;>rw [c]<;>rfl);obtain ⟨t,e,u,s⟩:=v.both k p d B x a nd H o S zg (by omega);rw [if_pos q,u,ma,gj,ma];exact ⟨_,e,rfl,fun r=>⟨.of (by decide),.eq c o (s r).1 (s r).2.1 (s r).2.2⟩⟩
    rw [if_neg q];have Id:x.Kind≠11:=fun h=>q (N.2 (.inl h));have be:x.Kind≠12:=fun h=>q (N.2 (.inr h));by_cases X:x.Kind=19
    ·obtain ⟨Ae,e,u,s⟩:=v.args k p d B x 2 H M F.le (.inl rfl) (by omega);rw [if_pos X,u,ma];by_cases z:e=0
     ·obtain ⟨f,rfl,g1,g2,g3,g4⟩:=s z;rw [if_neg (by simpa using z)];simp only [ma];rw [hj,ma];exact ⟨_,0,rfl,fun _=>⟨.of (by rw [Kl];exact (H.Vo _ _ g1).ty (by omega)),.call X g1 g2 g3 g4⟩⟩
     ·rw [if_pos z];exact ⟨_,e,rfl,fun h=>absurd h z⟩
    rw [if_neg X];by_cases c20:x.Kind=20
    ·rw [if_pos c20,km,ma];by_cases c:Bj (Ua p.named x.Name) 1=true
     ·obtain ⟨f,G,U⟩:=mq c;rw [if_pos c,G];simp only [ma];rw [hj,ma];exact ⟨_,0,rfl,fun _=>⟨.of (by rw [Kl];exact (H.Vo _ _ G).ty (by omega)),.recv c20 G U⟩⟩
     ·rw [if_neg c];exact ⟨_,7,rfl,fun h=>absurd h (by decide)⟩
    rw [if_neg c20];by_cases c21:x.Kind=21
    ·obtain ⟨a,o,E⟩:=R (by rw [c21];rfl);obtain ⟨e,qa,w⟩:=v.typed k p d B a d.vb H E (by omega);have k0:at_ x.Kids 0=some a:=by rw [o];rfl
     rw [if_pos c21];by_cases ni:d.Kind=3
     ·rw [if_neg (by simpa using ni),k0,ma,hj,ma,qa,ma];exact ⟨Lc d.Cd,e,rfl,fun r=>⟨.of (by rw [Kl];exact H.xa.uk ni),.Fq c21 ni o (w r)⟩⟩
     ·rw [if_pos ni];exact ⟨_,8,rfl,fun h=>absurd h (by decide)⟩
    rw [if_neg c21];by_cases Y:x.Kind=22
    ·obtain ⟨Ae,e,u,s⟩:=v.args k p d B x 3 H M F.le (.inr rfl) (by omega);rw [if_pos Y,u,ma];refine ⟨_,e,rfl,fun r=>?_⟩;obtain ⟨f,-,g1,g2,g3,g4⟩:=s r;exact ⟨fun _=>⟨f,g1,g2⟩,.start Y g1 g2 g3 g4⟩
    rw [if_neg Y];by_cases T:x.Kind=23
    ·obtain ⟨a,Ic,o,S,zg⟩:=W (by rw [T];rfl);obtain ⟨Ae,e,u,s⟩:=v.handle k p d B a H S (by omega);have k0:at_ x.Kids 0=some a:=by rw [o];rfl
     have k1:at_ x.Kids 1=some Ic:=by rw [o];rfl
     rw [if_pos T,k0,ma,u,ma];by_cases z:e=0
     ·obtain ⟨f,g,rfl,f1,f2,f3⟩:=s z;obtain ⟨O,qa,w⟩:=v.typed k p d B Ic f.Cd H zg (by omega);rw [if_neg (by simpa using z)];simp only [ma];rw [hj,k1];simp only [ma];rw [qa,ma];exact ⟨Lc f.vb,O,rfl,fun r=>⟨.of (by rw [Kl];exact (H.Vo _ _ f1).ty (by omega)),.resume T o f3 f1 f2 (w r)⟩⟩
     ·rw [if_pos z];exact ⟨_,e,rfl,fun h=>absurd h z⟩
    rw [if_neg T];by_cases c24:x.Kind=24
    ·obtain ⟨a,o,E⟩:=R (by rw [c24];rfl);obtain ⟨Ae,e,u,s⟩:=v.handle k p d B a H E (by omega);have k0:at_ x.Kids 0=some a:=by rw [o];rfl
     rw [if_pos c24,k0,ma,u,ma,gj,ma];refine ⟨_,e,rfl,fun r=>?_⟩;obtain ⟨f,g,-,f1,f2,f3⟩:=s r;exact ⟨.of (by decide),.alive c24 o f3 f1 f2⟩
    rw [if_neg c24];obtain ⟨a,Ic,o,S,zg⟩:=W (by unfold Lh;rw [if_neg (by omega),if_neg (by omega),if_pos (by omega)]);have L:∀ (i1 i2:Int) (s1 s2:List UInt8) (m i:Nat),i≤x.Kids.length→x.Kids.length<m+i→∃ e,ko (se n) x p d B i1 s1 i2 s2 m i=some (⟨i2,s2⟩,e)∧(e=0→∀ y ∈ x.Kids.drop i,bf p d B y (Lc ⟨i1,s1⟩)):=by
     intro i1 i2 s1 s2 m
     induction m with
     | zero=>intro i u s; omega
     | succ m V =>
      intro i u s;rw [ko];by_cases c:i<x.Kids.length
      ·have:=F.le;obtain ⟨e,qa,w⟩:=v.typed k p d B x.Kids[i] ⟨i1,s1⟩ H (M _ (List.getElem_mem _)) (by omega);rw [if_pos (by omega),Ce,List.getElem?_eq_getElem c,ma,qa,ma];by_cases z:e=0
       ·rw [if_neg (by simpa using z),De (by omega),ma];obtain ⟨O,P,K⟩:=V (i+1) c (by omega);refine ⟨O,P,fun r y C=>?_⟩;rw [List.drop_eq_getElem_cons c] at C;rcases List.mem_cons.1 C with rfl | C
        ·exact w z
        ·exact K r y C
       ·rw [if_pos z];exact ⟨e,rfl,fun h=>absurd h z⟩
      ·rw [if_neg (by omega),List.drop_eq_nil_of_le (by omega)];exact ⟨0,rfl,fun _=>by simp⟩
    have Z:∀ (i1 i2:Int) (s1 s2:List UInt8),i2≠3→(bf p d B a (Lc ⟨i1,s1⟩)→bf p d B Ic (Lc ⟨i1,s1⟩)→bf p d B x ⟨i2,s2⟩)→∃ t e,Yo (se n) x p d B i1 s1 i2 s2=some (t,e)∧(e=0→Ek p t∧bf p d B x t):=by
     intro i1 i2 s1 s2 h rd;obtain ⟨e,u,s⟩:=L i1 i2 s1 s2 (x.Kids.length+1) 0 (by omega) (by omega);refine ⟨_,e,u,fun r=>⟨.of h,?_⟩⟩;have:=s r;rw [List.drop_zero,o] at this;exact rd (this a (by simp)) (this Ic (by simp))
    rw [Vk,ma,ma,gj];simp only [ma];split
    ·exact Z _ _ _ _ (by decide) fun g1 g2=>.cl (by omega) o g1 g2
    ·split
     ·exact Z _ _ _ _ (by decide) fun g1 g2=>.lt (by omega) o g1 g2
     ·exact Z _ _ _ _ (by decide) fun g1 g2=>.bx (by omega) o g1 g2
   split
   ·rename_i h;exact Gb _ (by simp [h])
   ·rename_i h;exact Gb _ (by simp [h])
mutual
inductive sk (p:pb) (d:sa):Yd→List Ea→Yd→Prop
 | nil (B:Yd):sk p d B [] B
 | cons {B a b:Yd} {s:Ea} {l:List Ea}:Km p d B s a→sk p d a l b→sk p d B (s::l) b
inductive Km (p:pb) (d:sa):Yd→Ea→Yd→Prop
 | Ko {B:Yd} {s:Ea} {t:Sa} (h:B.length - 1<B.length):s.Kind=1→bf p d B s.X t→ck B s.Name=none→Km p d B s (B.set (B.length - 1) (zd B[B.length - 1] s.Name t))
 | sset {B:Yd} {s:Ea} {t:Sa}:s.Kind=2→ck B s.Name=some t→bf p d B s.X (Lc t)→Km p d B s B
 | Gq {B a b:Yd} {s:Ea}:s.Kind=3→bf p d B s.X ⟨2,[]⟩→sk p d (B++[[]]) s.Body a→sk p d (B++[[]]) s.me b→Km p d B s B
 | eC {B a:Yd} {s:Ea}:s.Kind=4→bf p d B s.X ⟨2,[]⟩→sk p d (B++[[]]) s.Body a→Km p d B s B
 | sq {B:Yd} {s:Ea}:s.Kind=5→d.Kind=2→bf p d B s.X (Lc d.vb)→Km p d B s B
 | HB {B:Yd} {s:Ea}:s.Kind=6→d.Kind≠2→Km p d B s B
 | nq {B:Yd} {s:Ea} {f:sa}:s.Kind=7→Ua p.named s.Name=some f→f.Kind=1→bf p d B s.X (Lc f.vb)→Km p d B s B
 | tq {B:Yd} {s:Ea} {t:Sa}:s.Kind=8→bf p d B s.X t→t.Kind≠3→Km p d B s B
 | Hq {B:Yd} {s:Ea} {t:Sa}:s.Kind=9→bf p d B s.X t→Km p d B s B
end
structure NK (n:Nat):Prop where
 stats:∀ (k:Nat) (p:pb) (d:sa) (B:Yd) (l:List Ea),gk p d B→l.length≤50→(∀ y ∈ l,yl k y)→B.length+k≤90→5*k+130≤n →
  ∃ e,(di n).ij p d B l=some (e,B)∧(e=0→∃ a,sk p d (B++[[]]) l a)
 stat:∀ (k:Nat) (p:pb) (d:sa) (B:Yd) (s:Ea),gk p d B→0<B.length→yl k s→B.length+k≤91→5*k+129≤n →
  ∃ e a,(di n).zk p d B s=some (e,a)∧a.length=B.length∧a.take (B.length - 1)=B.take (B.length - 1)∧al p a∧(e=0→Km p d B s a)
theorem OK:∀ n,NK n:=by
 intro n
 induction n with
 | zero=>exact ⟨fun _ _ _ _ _ _ _ _ _ h=>by omega,fun _ _ _ _ _ _ _ _ _ h=>by omega⟩
 | succ n D =>
  refine ⟨fun k p d B l H ia y hB T=>?_,fun k p d B s H id y hB T=>?_⟩
  ·show ∃ e,ij (di n) p d B l=some (e,B)∧_;rw [ij,app,if_pos (by simp;omega),ma,ht];have L:∀ (m i:Nat) (a:Yd),i≤l.length→l.length<m+i→a.length=B.length+1→a.take B.length=B→al p a →
     ∃ e,eo (di n) l p d m i a=some (e,B)∧(e=0→∃ x,sk p d a (l.drop i) x):=by
    intro m
    induction m with
    | zero=>intro i a j g; omega
    | succ m U =>
     intro i a j g g1 g2 g3;rw [eo];have pop:∀ C:Yd,C.length=B.length+1→C.take B.length=B→Tp p d C=some B:=fun C qa v=>by
      rw [jD p d C (by omega) (by omega),qa,Nat.add_sub_cancel,v]
     by_cases c:i<l.length
     ·obtain ⟨e,x,V,E,N,W,Y⟩:=D.stat k p d a l[i] ⟨H.Vo,H.xa,g3,by omega⟩ (by omega) (y _ (List.getElem_mem _)) (by omega) (by omega);rw [g1,Nat.add_sub_cancel] at N;rw [g1] at E;have v:x.take B.length=B:=N.trans g2;rw [if_pos (by omega),Ce,List.getElem?_eq_getElem c,ma,V,ma];by_cases z:e=0
      ·rw [if_neg (by simpa using z),De (by omega),ma];obtain ⟨Z,s1,s2⟩:=U (i+1) x c (by omega) E v W;refine ⟨Z,s1,fun r=>?_⟩;rw [List.drop_eq_getElem_cons c];obtain ⟨bb,Gb⟩:=s2 r;exact ⟨bb,.cons (Y z) Gb⟩
      ·rw [if_pos z];simp only [];rw [pop x E v,ma];exact ⟨e,rfl,fun h=>absurd h z⟩
     ·rw [if_neg (by omega),pop a g1 g2,ma,List.drop_eq_nil_of_le (by omega)];exact ⟨0,rfl,fun _=>⟨a,.nil a⟩⟩
   have:=L (l.length+1) 0 (B++[[]]) (by omega) (by omega) (by simp) (by simp) (fun m hm k' t F=>by
    rcases List.mem_append.1 hm with hm | hm
    ·exact H.gd m hm k' t F
    ·rw [List.mem_singleton.1 hm] at F;cases F)
   obtain ⟨e,qa,v⟩:=this;rw [List.drop_zero] at v;exact ⟨e,qa,v⟩
  ·show ∃ e a,zk n (di n) p d B s=some (e,a)∧_;cases k with
   | zero=>cases y
   | succ k =>
   obtain ⟨k1,md,w,O,he⟩:=y;have A:=(sF n).typed k p d B s.X;have G:=(sF n).expr k p d B s.X;have same:∀ e:Int,(e=0→Km p d B s B)→∀ o:Option (Int×Yd),o=some (e,B)→∃ e a,o=some (e,a)∧a.length=B.length∧a.take (B.length - 1)=B.take (B.length - 1)∧al p a∧(e=0→Km p d B s a):=
    fun e h o gc=>⟨e,B,gc,rfl,rfl,H.gd,h⟩
   rw [zk];by_cases jb:s.Kind=1
   ·obtain ⟨t,e,j,g⟩:=G H (w (by omega)) (by omega);rw [if_pos jb,j,ma];by_cases z:e=0
    ·obtain ⟨ib,b,g1,g2,g3⟩:=pB H.gd H.Ud n (by omega) d s.Name;rw [if_neg (by simpa using z),g1,ma];cases b with
     | true=>exact same 7 (fun h=>absurd h (by decide)) _ rfl
     | false =>
      have P:B.length - 1<B.length:=by omega
      have qa:(B.length:Int) - 1=((B.length - 1:Nat):Int):=by omega
      rw [if_neg (by simp),De (by omega),ma,qa,Ce,List.getElem?_eq_getElem P,ma,ot];refine ⟨0,_,rfl,by simp,?_,fun m hm k' u hu=>?_,fun _=>.Ko P jb (g z).2 (g3 rfl)⟩
      ·simp [List.take_set_of_le]
      ·rcases List.mem_or_eq_of_mem_set hm with hm | rfl
       ·exact H.gd m hm k' u hu
       ·rw [Mj] at hu;split at hu
        ·obtain rfl:=Option.some.inj hu;exact (g z).1
        ·exact H.gd _ (List.getElem_mem _) k' u hu
    ·rw [if_pos z];exact same e (fun h=>absurd h z) _ rfl
   rw [if_neg jb];by_cases c2:s.Kind=2
   ·obtain ⟨ib,b,g1,g2,-⟩:=pB H.gd H.Ud n (by omega) d s.Name;rw [if_pos c2,g1,ma];cases b with
    | false=>exact same 7 (fun h=>absurd h (by decide)) _ rfl
    | true =>
     obtain ⟨e,j,g⟩:=A ib H (w (by omega)) (by omega);rw [if_pos rfl,j,ma];exact same e (fun r=>.sset c2 (g2 rfl).2 (g r)) _ rfl
   rw [if_neg c2];have Q:∀ b,(b=true ↔ s.Kind=3∨s.Kind=4)→∃ e a,mo n (di n) s p d B b=some (e,a)∧a.length=B.length∧a.take (B.length - 1)=B.take (B.length - 1)∧al p a∧(e=0→Km p d B s a):=by
    intro b K;rw [mo];by_cases q:b=true
    ·have c:=K.1 q;obtain ⟨e,j,g⟩:=A ⟨2,[]⟩ H (w (by omega)) (by omega);rw [if_pos q,gj,ma,j,ma];by_cases z:e=0
     ·rw [if_neg (by simpa using z)];obtain ⟨v,g1,g2⟩:=D.stats k p d B s.Body H (O c).1 (O c).2 (by omega) (by omega);rw [g1,ma];by_cases z2:v=0
      ·rw [if_neg (by simpa using z2)];obtain ⟨nd,g3⟩:=g2 z2;by_cases c4:s.Kind=4
       ·rw [decide_eq_true c4];exact same v (fun _=>.eC c4 (g z) g3) _ rfl
       ·have c3:s.Kind=3:=by omega
        obtain ⟨lc,f1,f2⟩:=D.stats k p d B s.me H (he c3).1 (he c3).2 (by omega) (by omega);rw [decide_eq_false c4,Ip,if_neg (by decide)];simp only [];rw [f1,ma];refine same lc (fun r=>?_) _ rfl;obtain ⟨x,f3⟩:=f2 r;exact .Gq c3 (g z) g3 f3
      ·rw [if_pos z2];exact same v (fun h=>absurd h z2) _ rfl
     ·rw [if_pos z];exact same e (fun h=>absurd h z) _ rfl
    rw [if_neg q];have rd:s.Kind≠3:=fun h=>q (K.2 (.inl h));have wd:s.Kind≠4:=fun h=>q (K.2 (.inr h));by_cases c5:s.Kind=5
    ·rw [if_pos c5];split
     ·exact same 8 (fun h=>absurd h (by decide)) _ rfl
     ·rename_i R;obtain ⟨e,j,g⟩:=A d.vb H (w (by omega)) (by omega);rw [j,ma];exact same e (fun r=>.sq c5 (by omega) (g r)) _ rfl
    rw [if_neg c5];by_cases ae:s.Kind=6
    ·rw [if_pos ae];split
     ·exact same 8 (fun h=>absurd h (by decide)) _ rfl
     ·rename_i R;exact same 0 (fun r=>.HB ae R) _ rfl
    rw [if_neg ae];by_cases M:s.Kind=7
    ·rw [if_pos M,km,ma];by_cases c:Bj (Ua p.named s.Name) 1=true
     ·obtain ⟨f,S,rc⟩:=mq c;obtain ⟨e,j,g⟩:=A f.vb H (w (by omega)) (by omega);rw [if_pos c,S];simp only [ma];rw [j,ma];exact same e (fun r=>.nq M S rc (g r)) _ rfl
     ·rw [if_neg c];exact same 7 (fun h=>absurd h (by decide)) _ rfl
    rw [if_neg M];by_cases hh:s.Kind=8
    ·obtain ⟨t,e,j,g⟩:=G H (w (by omega)) (by omega);rw [if_pos hh,j,ma];by_cases z:e=0
     ·rw [if_pos z,gm,ma,kx];refine same _ (fun r=>.tq hh (g z).2 fun fd=>?_) _ rfl;simp [fd] at r
     ·rw [if_neg z,kx];exact same e (fun h=>absurd h z) _ rfl
    rw [if_neg hh];by_cases c9:s.Kind=9
    ·obtain ⟨t,e,j,g⟩:=G H (w (by omega)) (by omega);rw [if_pos c9,j,ma];exact same e (fun r=>.Hq c9 (g r).2) _ rfl
    ·omega
   split
   ·rename_i h;exact Q _ (by simp [h])
   ·rename_i h;exact Q _ (by simp [h])
def Ns (d:sa):List (Nm×Sa):=d.Params.foldl (fun m q=>zd m q.Name (Lc q.vb)) []
theorem PK (fu:Nat) (z:500≤fu) (p:pb) (d:sa) (s:yz p) (g:vm p d) (xa:Dq d):∃ e,Tm fu p d=some e∧(e=0→d.Kind≠1→∃ f,sk p d ([if d.Kind=4 then [] else Ns d]++[[]]) d.Body f):=by
 rw [Tm];by_cases jb:d.Kind=1
 ·rw [if_pos jb];exact ⟨0,rfl,fun _ h=>absurd jb h⟩
 ·rw [if_neg jb];have n:∀ B:Yd,B.length=1→al p B→∃ e,oo fu p d B=some e∧(e=0→∃ f,sk p d (B++[[]]) d.Body f):=by
   intro B o j;obtain ⟨e,u,v⟩:=(OK fu).stats 39 p d B d.Body ⟨s,g,j,by omega⟩ (xa.Ud jb) (xa.Ih jb) (by omega) (by omega);rw [oo,u,ma];exact ⟨e,rfl,v⟩
  by_cases c4:d.Kind=4
  ·rw [if_neg (by simpa using c4),if_pos c4];obtain ⟨e,qa,l⟩:=n [[]] rfl (fun m hm k t a=>by rw [List.mem_singleton.1 hm] at a;cases a);exact ⟨e,qa,fun h _=>l h⟩
  ·rw [if_pos c4,if_neg c4];have r:d.Kind=2∨d.Kind=3:=by have:=xa.k1;have:=xa.Ue;omega
   have A:=g.pl r;have L:∀ (m i:Nat) (b:List (Nm×Sa)),i≤d.Params.length→d.Params.length<m+i→b=(d.Params.take i).foldl (fun m q=>zd m q.Name (Lc q.vb)) []→al p [b]→∃ e,vn fu p d m i [b]=some e∧(e=0→∃ f,sk p d ([Ns d]++[[]]) d.Body f):=by
    intro m
    induction m with
    | zero=>intro i B o j; omega
    | succ m w =>
     intro i b o j g1 g2;rw [vn];by_cases c:i<d.Params.length
     ·have x:0<[b].length:=by simp
      rw [if_pos (by omega),Ce,List.getElem?_eq_getElem c,ma,ez x,ma,hj,ma,pt,De (by omega),ma];refine w (i+1) (zd b d.Params[i].Name (Lc d.Params[i].vb)) c (by omega) ?_ (fun C y k t a=>?_)
      ·rw [← List.take_append_getElem c,List.foldl_append,← g1];rfl
      ·rw [List.mem_singleton.1 y,Mj] at a;split at a
       ·obtain rfl:=Option.some.inj a;exact (g.Nf r _ (List.getElem_mem _)).bare
       ·exact g2 b (by simp) k t a
     ·rw [if_neg (by omega)];have e:b=Ns d:=by rw [g1,List.take_of_length_le (by omega)];rfl
      rw [e] at g2 ⊢;exact n _ rfl g2
   obtain ⟨e,qa,l⟩:=L (d.Params.length+1) 0 [] (by omega) (by omega) rfl (fun m hm k t a=>by rw [List.mem_singleton.1 hm] at a;cases a);exact ⟨e,qa,fun h _=>l h⟩
end Go.Y
namespace Go.Y
open Go.Rb Go.ec
section
variable {fu:Nat}{l:List sa}
theorem fC {α β:Type}{f:α→Option β}:Option.bind (none:Option α) f=none:=rfl
theorem CM (ia:l.length≤30) (N:List (Nm×sa)) (p:pb) (f:df):∀ (m i:Nat),rn fu l N m i=some (p,f)→f.Hg=0→p=⟨l,N⟩∧∀ j (a:j<l.length),i≤j→Tm fu ⟨l,N⟩ l[j]=some 0:=by
 intro m
 induction m with
 | zero=>intro i h; cases h
 | succ m d =>
  intro i h b;rw [rn] at h;by_cases c:i<l.length
  ·rw [if_pos (by omega),Ce,List.getElem?_eq_getElem c,ma] at h;cases e:Tm fu ⟨l,N⟩ l[i] with
   | none=>rw [e,fC] at h; cases h
   | some r =>
    rw [e,ma] at h;by_cases z:r≠0
    ·rw [if_pos z] at h;obtain ⟨rfl,rfl⟩:=Prod.mk.inj (Option.some.inj h);exact absurd b z
    ·rw [if_neg z,De (by omega),ma] at h;obtain ⟨g,k⟩:=d (i+1) h b;refine ⟨g,fun j a n=>?_⟩;by_cases q:j=i
     ·subst q;rw [e,Decidable.not_not.1 z]
     ·exact k j a (by omega)
  ·rw [if_neg (by omega)] at h;obtain ⟨rfl,rfl⟩:=Prod.mk.inj (Option.some.inj h);exact ⟨rfl,fun j a n=>by omega⟩
theorem DM (ia:l.length≤30) (N:List (Nm×sa)) (p:pb) (f:df):∀ (m i:Nat),sn fu l N m i=some (p,f)→f.Hg=0→rn fu l N (l.length+1) 0=some (p,f):=by
 intro m
 induction m with
 | zero=>intro i h; cases h
 | succ m b =>
  intro i h a;rw [sn] at h;by_cases c:i<l.length
  ·rw [if_pos (by omega),Ce,List.getElem?_eq_getElem c,ma] at h;cases e:Qp ⟨l,N⟩ l[i] with
   | none=>rw [e,fC] at h; cases h
   | some r =>
    rw [e,ma] at h;by_cases z:r≠0
    ·rw [if_pos z] at h;obtain ⟨rfl,rfl⟩:=Prod.mk.inj (Option.some.inj h);exact absurd a z
    ·rw [if_neg z,De (by omega),ma] at h;exact b (i+1) h a
  ·rw [if_neg (by omega)] at h;exact h
theorem EM (ia:l.length≤30) (p:pb) (f:df):∀ (m i:Nat) (t:Int) (N:List (Nm×sa)),tn fu l m t i N=some (p,f)→f.Hg=0→∃ N,sn fu l N (l.length+1) 0=some (p,f):=by
 intro m
 induction m with
 | zero=>intro i t N h; cases h
 | succ m b =>
  intro i t N h a;rw [tn] at h;by_cases c:i<l.length
  ·have nb:at_ l (i:Int)=some l[i]:=by rw [Ce,List.getElem?_eq_getElem c]
   rw [if_pos (by omega),nb,ma] at h;by_cases q:(Ua N l[i].Name).isSome=true
   ·rw [if_pos q] at h;obtain ⟨rfl,rfl⟩:=Prod.mk.inj (Option.some.inj h);exact absurd a (by show ¬ (7:Int)=0;decide)
   ·rw [if_neg q,ma,ma,ma] at h;by_cases Ue:l[i].Kind=4
    ·rw [if_pos Ue] at h;cases e:i64 (t+1) with
     | none=>rw [e,fC] at h; cases h
     | some ib =>
      rw [e,ma,De (by omega),ma] at h;exact b (i+1) ib _ h a
    ·rw [if_neg Ue,De (by omega),ma] at h;exact b (i+1) t _ h a
  ·rw [if_neg (by omega)] at h;by_cases t0:t=0
   ·rw [if_pos t0] at h;obtain ⟨rfl,rfl⟩:=Prod.mk.inj (Option.some.inj h);exact absurd a (by show ¬ (6:Int)=0;decide)
   ·rw [if_neg t0] at h;exact ⟨N,h⟩
theorem vJ (b:500≤fu){p:pb}{f:df}(h:yo fu l=some (p,f)) (a:f.Hg=0):(∀ d ∈ l,Us d)∧∀ d ∈ l,d.Kind≠1→∃ i,sk p d ([if d.Kind=4 then [] else Ns d]++[[]]) d.Body i:=by
 obtain ⟨dc,s,c,m⟩:=yC fu b l;rw [h] at c;obtain ⟨rfl,rfl⟩:=Prod.mk.inj (Option.some.inj c);have R:=m a;have ia:=R.ok.le;obtain ⟨g,g1,-⟩:=Gx fu (by omega) l;rw [yo,g1,ma] at h;by_cases z:g.Hg≠0
 ·rw [if_pos z] at h;obtain ⟨-,rfl⟩:=Prod.mk.inj (Option.some.inj h);exact absurd a z
 ·rw [if_neg z] at h;refine ⟨(AM (by omega) g1 (Decidable.not_not.1 z)).2,?_⟩;obtain ⟨N,h⟩:=EM ia p f _ 0 0 _ h a;obtain ⟨rfl,n⟩:=CM ia N p f _ 0 (DM ia N p f _ 0 h a) a;intro d xa k1;obtain ⟨j,o,rfl⟩:=List.getElem_of_mem xa;obtain ⟨e,qa,q⟩:=PK fu b ⟨l,N⟩ l[j] (fun k d r=>R.xa d (R.only k d r).1) (R.xa _ xa) (R.ok.ok _ xa);rw [n j o (Nat.zero_le _)] at qa;exact q (Option.some.inj qa).symm k1
end
def IB (u:jf) (H:List Nm) (d:sa):Prop:=(∀ z ∈ mn d,z ∈ u.Dk)∧(∀ z ∈ nn d,z ∈ u.Rj)∧∀ c ∈ Ci d,c ∈ H
theorem xA (N:List (Nm×sa)):∀ (cs a:List Nm) (todo:List (Option sa)),(∀ c ∈ a,c ∈ (Oi N cs a todo).1)∧(∀ c ∈ cs,c ∈ (Oi N cs a todo).1)∧(∀ o ∈ todo,o ∈ (Oi N cs a todo).2)∧∀ c ∈ (Oi N cs a todo).1,c ∈ a∨Ua N c ∈ (Oi N cs a todo).2
 | [],a,todo=>⟨fun c h=>h,fun c h=>(by cases h),fun o h=>h,fun c h=>.inl h⟩
 | c::cs,a,todo=>by
  rw [Oi];by_cases k:a.contains c=true
  ·rw [if_pos k];obtain ⟨d,f,e,g⟩:=xA N cs a todo;refine ⟨d,fun x b=>?_,e,g⟩;rcases List.mem_cons.1 b with rfl | b
   ·exact d _ (by simpa using k)
   ·exact f x b
  ·rw [if_neg k];obtain ⟨d,f,e,g⟩:=xA N cs (a++[c]) (todo++[Ua N c]);refine ⟨fun x b=>d x (List.mem_append_left _ b),fun x b=>?_,fun o i=>e o (List.mem_append_left _ i),fun x b=>?_⟩
   ·rcases List.mem_cons.1 b with rfl | b
    ·exact d _ (by simp)
    ·exact f x b
   ·rcases g x b with h | h
    ·rcases List.mem_append.1 h with h | h
     ·exact .inl h
     ·rw [List.mem_singleton.1 h];exact .inr (e _ (by simp))
    ·exact .inr h
theorem QK (N:List (Nm×sa)):∀ (n:Nat) (a:List Nm) (todo:List (Option sa)) (s r:List Nm) (u:jf),Kk N n a todo s r=some u→∃ H,(∀ c ∈ a,c ∈ H)∧(∀ z ∈ s,z ∈ u.Dk)∧(∀ z ∈ r,z ∈ u.Rj)∧(∀ d,some d ∈ todo→IB u H d)∧∀ c ∈ H,c ∉ a→∀ d,Ua N c=some d→IB u H d:=by
 intro n
 induction n with
 | zero=>intro a todo s r u h; cases h
 | succ n p =>
  intro a todo s r u h;cases todo with
  | nil =>
   rw [Kk] at h;obtain rfl:=Option.some.inj h;exact ⟨a,fun c h=>h,fun z h=>h,fun z h=>h,fun d h=>(by cases h),fun c h v=>absurd h v⟩
  | cons o t =>
   cases o with
   | none=>rw [Kk] at h; cases h
   | some d =>
    rw [Kk] at h;obtain ⟨oa,a2,a3,a4⟩:=xA N (Ci d) a t;obtain ⟨H,j,k,l,m,w⟩:=p _ _ _ _ u h;refine ⟨H,fun c g=>j c (oa c g),fun z b=>k z (List.mem_append_left _ b),fun z b=>l z (List.mem_append_left _ b),fun i f=>?_,fun c g x i f=>?_⟩
    ·rcases List.mem_cons.1 f with e | f
     ·obtain rfl:=Option.some.inj e;exact ⟨fun z b=>k z (List.mem_append_right _ b),fun z b=>l z (List.mem_append_right _ b),fun c g=>j c (a2 c g)⟩
     ·exact m i (a3 _ f)
    ·by_cases q:c ∈ (Oi N (Ci d) a t).1
     ·rcases a4 c q with q | q
      ·exact absurd q x
      ·rw [f] at q;exact m i q
     ·exact w c g q i f
inductive uq (N:List (Nm×sa)) (a:sa):sa→Prop
 | refl:uq N a a
 | step {b e:sa} {c:Nm}:uq N a b→c ∈ Ci b→Ua N c=some e→uq N a e
theorem wJ {N:List (Nm×sa)}{n:Nat}{a:sa}{u:jf}(h:Kk N n [] [some a] [] []=some u):∀ {d:sa},uq N a d→(∀ z ∈ mn d,z ∈ u.Dk)∧∀ z ∈ nn d,z ∈ u.Rj:=by
 obtain ⟨H,-,-,-,b,c⟩:=QK N n [] [some a] [] [] u h;have key:∀ {d:sa},uq N a d→IB u H d:=by
  intro d xa
  induction xa with
  | refl=>exact b a (by simp)
  | step i e f g=>exact c _ (g.2.2 _ e) (by simp) _ f
 exact fun {d} xa=>⟨(key xa).1,(key xa).2.1⟩
theorem VA (N:List (Nm×sa)) (fu:Nat) (n:Nm):∀ (ds:List sa) (L:List (Nm×jf)),(∀ d ∈ ds,d.Name≠n)→Ua (Xj N fu ds L) n=Ua L n
 | [],L,h=>rfl
 | d::ds,L,h=>by
  rw [Xj];have a:∀ e ∈ ds,e.Name≠n:=fun e he=>h e (List.mem_cons_of_mem _ he);split
  ·rw [VA N fu n ds _ a,Mj,if_neg (h d (List.mem_cons_self ..))]
  ·exact VA N fu n ds L a
theorem yA (N:List (Nm×sa)) (fu:Nat){t:sa}(Ue:t.Kind=4):∀ (ds:List sa) (L:List (Nm×jf)),(ds.Pairwise fun a b=>a.Name≠b.Name)→t ∈ ds→Ua (Xj N fu ds L) t.Name=some ((Kk N fu [] [some t] [] []).getD Uk)
 | d::ds,L,xa,c=>by
  obtain ⟨g,f⟩:=List.pairwise_cons.1 xa;rw [Xj];rcases List.mem_cons.1 c with rfl | c
  ·rw [if_pos Ue,VA N fu t.Name ds _ (fun e he=>(g e he).symm),Mj,if_pos rfl]
  ·split
   ·exact yA N fu Ue ds _ f c
   ·exact yA N fu Ue ds _ f c
def Ps (L:List (Nm×jf)) (b:Nm) (t:sa):Prop:=t.Kind=4∧((Ua L t.Name).getD Uk).Dk.contains b=true
def Qs (L:List (Nm×jf)) (b:Nm) (t:sa):Prop:=t.Kind=4∧((Ua L t.Name).getD Uk).Rj.contains b=true
theorem zA (L:List (Nm×jf)) (b:Nm):∀ (la:List sa) (w r:Nm) (x:Nm×Nm),(∀ t ∈ la,t.Name≠[])→Pk L b la w r=some x→((w≠[]→∀ t ∈ la,¬ Ps L b t)∧la.Pairwise fun a c=>¬ (Ps L b a∧Ps L b c))∧((r≠[]→∀ t ∈ la,¬ Qs L b t)∧la.Pairwise fun a c=>¬ (Qs L b a∧Qs L b c))
 | [],w,r,x,f,h=>⟨⟨fun _ t d=>(by cases d),List.Pairwise.nil⟩,fun _ t d=>(by cases d),List.Pairwise.nil⟩
 | t::la,w,r,x,f,h=>by
  have g:∀ e ∈ la,e.Name≠[]:=fun e he=>f e (List.mem_cons_of_mem _ he);have d:=f t (List.mem_cons_self ..);rw [Pk] at h;by_cases Ue:t.Kind≠4
  ·rw [if_pos Ue] at h;obtain ⟨⟨oa,a2⟩,za,sd⟩:=zA L b la w r x g h;have de:¬ Ps L b t:=fun q=>Ue q.1;have i:¬ Qs L b t:=fun q=>Ue q.1;refine ⟨⟨fun hw e he=>?_,List.pairwise_cons.2 ⟨fun e _ q=>de q.1,a2⟩⟩,fun hw e he=>?_,List.pairwise_cons.2 ⟨fun e _ q=>i q.1,sd⟩⟩
   ·rcases List.mem_cons.1 he with rfl | he
    ·exact de
    ·exact oa hw e he
   ·rcases List.mem_cons.1 he with rfl | he
    ·exact i
    ·exact za hw e he
  ·rw [if_neg Ue] at h;have Ue:t.Kind=4:=Decidable.not_not.1 Ue;by_cases jb:((Ua L t.Name).getD Uk).Dk.contains b=true∧w≠[]
   ·rw [if_pos jb] at h;cases h
   rw [if_neg jb] at h;by_cases c2:((Ua L t.Name).getD Uk).Rj.contains b=true∧r≠[]
   ·rw [if_pos c2] at h;cases h
   rw [if_neg c2] at h;obtain ⟨⟨oa,a2⟩,za,sd⟩:=zA L b la _ _ x g h;refine ⟨⟨fun hw e he=>?_,List.pairwise_cons.2 ⟨fun e he q=>?_,a2⟩⟩,fun hw e he=>?_,List.pairwise_cons.2 ⟨fun e he q=>?_,sd⟩⟩
   ·rcases List.mem_cons.1 he with rfl | he
    ·exact fun q=>jb ⟨q.2,hw⟩
    ·exact oa (by split<;>assumption) e he
   ·rw [if_pos q.1.2] at oa;exact oa d e he q.2
   ·rcases List.mem_cons.1 he with rfl | he
    ·exact fun q=>c2 ⟨q.2,hw⟩
    ·exact za (by split<;>assumption) e he
   ·rw [if_pos q.1.2] at za;exact za d e he q.2
theorem AA (L:List (Nm×jf)) (l:List sa):∀ (xs:List sa) (i:Int) (acc:List Rh),(Dm L l xs i acc).2.Hg=0→∀ x ∈ xs,x.Kind=1→∃ y,Pk L x.Name l [] []=some y
 | [],i,acc,h,x,a,_=>by cases a
 | z::xs,i,acc,h,x,a,k1=>by
  rw [Dm] at h;by_cases c:z.Kind≠1
  ·rw [if_pos c] at h;rcases List.mem_cons.1 a with rfl | a
   ·exact absurd k1 c
   ·exact AA L l xs _ _ h x a k1
  ·rw [if_neg c] at h;cases e:Pk L z.Name l [] [] with
   | none=>rw [e] at h; exact absurd h (by show ¬ (8:Int)=0; decide)
   | some y =>
    rw [e] at h;rcases List.mem_cons.1 a with rfl | a
    ·exact ⟨y,e⟩
    ·exact AA L l xs _ _ h x a k1
end Go.Y
namespace Go.Y
def wv:Nat→Da→Prop
 | 0,_=>False
 | k+1,x=>x.Kids.length≤2513169434916∧∀ y ∈ x.Kids,wv k y
def zr:Nat→Ea→Prop
 | 0,_=>False
 | k+1,s=>wv k s.X∧(s.Body.length≤1099511627776∧∀ y ∈ s.Body,zr k y)∧(s.me.length≤1099511627776∧∀ y ∈ s.me,zr k y)
def Vs (k:Nat) (d:sa):Prop:=d.Params.length≤3518437208883∧d.Body.length≤1099511627776∧∀ y ∈ d.Body,zr k y
def Lm (k:Nat) (l:List sa):Prop:=l.length≤1099511627776∧∀ d ∈ l,Vs k d
end Go.Y
namespace Go.Y
open Go.Rb Go.ec
structure il (d a:sa):Prop where
 kind:a.Kind=d.Kind
 Ws:d.Kind≠4→Lc a.vb=Lc d.vb
 uk:d.Kind=3→Lc a.Cd=Lc d.Cd
 Nf:d.Kind=2∨d.Kind=3→a.Params.map (fun q=>(q.Name,Lc q.vb))=d.Params.map (fun q=>(q.Name,Lc q.vb))
theorem il.len {d a:sa}(h:il d a) (k:d.Kind=2∨d.Kind=3):a.Params.length=d.Params.length:=by
 have:=congrArg List.length (h.Nf k);simpa using this
theorem il.at {d a:sa}(h:il d a) (k:d.Kind=2∨d.Kind=3){i:Nat}(b:i<d.Params.length) (c:i<a.Params.length):a.Params[i].Name=d.Params[i].Name∧Lc a.Params[i].vb=Lc d.Params[i].vb:=by
 have:=congrArg (fun l=>l[i]?) (h.Nf k);simp only [List.getElem?_map,List.getElem?_eq_getElem b,List.getElem?_eq_getElem c,Option.map_some,Option.some.injEq,Prod.mk.injEq] at this;exact this
def ie (p dc:pb) (n:List UInt8):Prop:=(Ua p.named n=none∧Ua dc.named n=none)∨∃ d a,Ua p.named n=some d∧Ua dc.named n=some a∧il d a
def bt (p dc:pb):Prop:=∀ n d,Ua p.named n=some d→ie p dc n
theorem ie.Bj {p dc:pb}{n:List UInt8}(h:ie p dc n) (k:Int):Bj (Ua dc.named n) k=Bj (Ua p.named n) k:=by
 rcases h with ⟨a,b⟩ | ⟨d,c,a,b,e⟩
 ·rw [a,b]
 ·rw [a,b];show decide (c.Kind=k)=decide (d.Kind=k);rw [e.kind]
theorem ie.get {p dc:pb}{n:List UInt8}{d:sa}(h:ie p dc n) (xa:Ua p.named n=some d):∃ a,Ua dc.named n=some a∧il d a:=by
 rcases h with ⟨b,-⟩ | ⟨e,a,b,c,f⟩
 ·rw [b] at xa;cases xa
 ·rw [b] at xa;obtain rfl:=Option.some.inj xa;exact ⟨a,c,f⟩
def Dh {α:Type}(R:α→α→Prop) (l a:List α):Prop:=a.length=l.length∧∀ (i:Nat) (y:α),l[i]?=some y→∃ b,a[i]?=some b∧R y b
theorem Dh.at {α:Type}{R:α→α→Prop}{l a:List α}(h:Dh R l a){i:Nat}(c:i<l.length):∃ b:i<a.length,R l[i] a[i]:=by
 have b:i<a.length:=by rw [h.1];exact c
 obtain ⟨d,e,r⟩:=h.2 i _ (List.getElem?_eq_getElem c);rw [List.getElem?_eq_getElem b] at e;obtain rfl:=Option.some.inj e;exact ⟨b,r⟩
theorem Dh.one {α:Type}{R:α→α→Prop}{l c:List α}{a:α}(h:Dh R l c) (ia:l=[a]):∃ b,c=[b]∧R a b:=by
 subst ia;obtain ⟨b,d⟩:=Go.Y.one (l:=c) h.1;subst d;obtain ⟨y,e,r⟩:=h.2 0 a rfl;cases e;exact ⟨b,rfl,r⟩
theorem Dh.two {α:Type}{R:α→α→Prop}{l d:List α}{a b:α}(h:Dh R l d) (ia:l=[a,b]):∃ c Ic,d=[c,Ic]∧R a c∧R b Ic:=by
 subst ia;obtain ⟨c,Ic,f⟩:=Go.Y.two (l:=d) h.1;subst f;obtain ⟨y,e,r⟩:=h.2 0 a rfl;obtain ⟨z,g,i⟩:=h.2 1 b rfl;cases e;cases g;exact ⟨c,Ic,rfl,r,i⟩
def Gj (p dc:pb):Nat→Da→Da→Prop
 | 0,_,_=>True
 | k+1,x,a=>a.Kind=x.Kind∧(x.Kind=3→a.Name=x.Name)∧(x.Kind=19∨x.Kind=20∨x.Kind=22→a.Name=x.Name∧ie p dc x.Name)∧Dh (Gj p dc k) x.Kids a.Kids
structure bO (n:Nat):Prop where
 typed:∀ (k:Nat) (p dc:pb) (d g:sa) (B:Yd) (x c:Da) (t ib:Sa),bt p dc→gk p d B→il d g→ph k x→Gj p dc k x c→Lc ib=Lc t→3*k+111≤n→(se n).Rg dc g B c ib=(se n).Rg p d B x t
 args:∀ (k:Nat) (p dc:pb) (d g:sa) (B:Yd) (x c:Da) (kind:Int),bt p dc→gk p d B→il d g→(∀ y ∈ x.Kids,ph k y)→x.Kids.length≤6→(kind=2∨kind=3)→c.Name=x.Name→ie p dc x.Name→Dh (Gj p dc k) x.Kids c.Kids→3*k+112≤n →
  ∃ Ae h e,(se n).Lj p d B x kind=some (Ae,e)∧(se n).Lj dc g B c kind=some (h,e)∧(e=0→∃ f i,Ae=some f∧h=some i∧il f i∧f.Kind=kind)
 both:∀ (k:Nat) (p dc:pb) (d g:sa) (B:Yd) (x c a b j Ic:Da),bt p dc→gk p d B→il d g→x.Kids=[a,b]→c.Kids=[j,Ic]→ph k a→ph k b→Gj p dc k a j→Gj p dc k b Ic→3*k+112≤n→(se n).yk dc g B c=(se n).yk p d B x
 handle:∀ (k:Nat) (p dc:pb) (d g:sa) (B:Yd) (x c:Da),bt p dc→gk p d B→il d g→ph k x→Gj p dc k x c→3*k+112≤n →
  ∃ Ae h e,(se n).Kj p d B x=some (Ae,e)∧(se n).Kj dc g B c=some (h,e)∧(e=0→∃ f i,Ae=some f∧h=some i∧il f i∧f.Kind=3)
 expr:∀ (k:Nat) (p dc:pb) (d g:sa) (B:Yd) (x c:Da),bt p dc→gk p d B→il d g→ph k x→Gj p dc k x c→3*k+110≤n→(se n).Ah dc g B c=(se n).Ah p d B x
theorem FD (fu:Nat) (p dc:pb) (d a:sa) (B:Yd) (n:List UInt8):cp fu dc a B n=cp fu p d B n:=rfl
theorem eG:∀ n,bO n:=by
 intro n
 induction n with
 | zero=>exact ⟨fun _ _ _ _ _ _ _ _ _ _ _ _ _ _ _ _ h=>by omega,fun _ _ _ _ _ _ _ _ _ _ _ _ _ _ _ _ _ _ h=>by omega,fun _ _ _ _ _ _ _ _ _ _ _ _ _ _ _ _ _ _ _ _ _ h=>by omega,fun _ _ _ _ _ _ _ _ _ _ _ _ _ h=>by omega,fun _ _ _ _ _ _ _ _ _ _ _ _ _ h=>by omega⟩
 | succ n y =>
  refine ⟨fun k p dc d g B x j t ib v H u A T wf Gb=>?_,fun k p dc d g B x j kind v H u A ia R O K U Gb=>?_,fun k p dc d g B x j a b o Ic v H u A be s V If dg Gb=>?_,fun k p dc d g B x j v H u A T Gb=>?_,fun k p dc d g B x j v H u A T Gb=>?_⟩
  ·show Rg (se n) dc g B j ib=Rg (se n) p d B x t;rw [Rg,Rg,y.expr k p dc d g B x j v H u A T (by omega),hj,hj,wf]
  ·show ∃ Ae F e,Lj (se n) p d B x kind=some (Ae,e)∧Lj (se n) dc g B j kind=some (F,e)∧_;have gc:=K.Bj kind;rw [Lj,Lj,km,km,O,ma,ma,gc];by_cases c:Bj (Ua p.named x.Name) kind=true
   ·obtain ⟨f,S,ce⟩:=mq c;obtain ⟨C,rc,W⟩:=K.get S;have fd:f.Kind=2∨f.Kind=3:=by omega
    have id:=W.len fd;rw [if_pos c,if_pos c,S,rc];simp only [ma];rw [id,U.1];have li:=(H.Vo _ _ S).pl fd;by_cases q:(f.Params.length:Int)≠x.Kids.length
    ·rw [decide_eq_true q];exact ⟨none,none,5,rfl,rfl,fun h=>absurd h (by decide)⟩
    ·rw [decide_eq_false q,kt,kt,if_neg (by decide),if_neg (by decide)];simp only [ma];have L:∀ (m i:Nat),i≤f.Params.length→f.Params.length<m+i→∃ Ae F e,jo (se n) x p d B (some f,Bj (some f) kind) f m i=some (Ae,e)∧jo (se n) j dc g B (some C,Bj (some f) kind) C m i=some (F,e)∧(e=0→Ae=some f∧F=some C):=by
      intro m
      induction m with
      | zero=>intro i D E; omega
      | succ m md =>
       intro i D E;rw [jo,jo,id];by_cases c:i<f.Params.length
       ·have gc:i<x.Kids.length:=by omega
        have c':i<C.Params.length:=by omega
        obtain ⟨rg,nd⟩:=U.at gc;obtain ⟨e,qa,-⟩:=(dv n).typed k p d B x.Kids[i] f.Params[i].vb H (A _ (List.getElem_mem _)) (by omega);have X:=y.typed k p dc d g B x.Kids[i] j.Kids[i] f.Params[i].vb C.Params[i].vb v H u (A _ (List.getElem_mem _)) nd (W.at fd c c').2 (by omega);rw [if_pos (by omega),if_pos (by omega),Ce,List.getElem?_eq_getElem c,ma,Ce,List.getElem?_eq_getElem gc,ma,qa,ma,Ce,List.getElem?_eq_getElem c',ma,Ce,List.getElem?_eq_getElem rg,ma,X,qa,ma];by_cases z:e=0
        ·rw [if_neg (by simpa using z),if_neg (by simpa using z),De (by omega),ma,ma];exact md (i+1) c (by omega)
        ·rw [if_pos z,if_pos z];exact ⟨none,none,e,rfl,rfl,fun h=>absurd h z⟩
       ·rw [if_neg (by omega),if_neg (by omega)];exact ⟨some f,some C,0,rfl,rfl,fun _=>⟨rfl,rfl⟩⟩
     obtain ⟨Ae,F,e,bi,ci,ge⟩:=L (f.Params.length+1) 0 (by omega) (by omega);refine ⟨Ae,F,e,bi,?_,fun ne=>⟨f,C,(ge ne).1,(ge ne).2,W,ce⟩⟩;rw [id];exact ci
   ·rw [if_neg c,if_neg c];exact ⟨none,none,7,rfl,rfl,fun h=>absurd h (by decide)⟩
  ·show yk (se n) dc g B j=yk (se n) p d B x;have k0:at_ x.Kids 0=some a:=by rw [A];rfl
   have k1:at_ x.Kids 1=some b:=by rw [A];rfl
   have G:at_ j.Kids 0=some o:=by rw [be];rfl
   have rd:at_ j.Kids 1=some Ic:=by rw [be];rfl
   rw [yk,yk,k0,G,ma,ma,k1,rd];simp only [ma];rw [y.expr k p dc d g B a o v H u s If (by omega),y.expr k p dc d g B b Ic v H u V dg (by omega)]
  ·show ∃ Ae F e,Kj (se n) p d B x=some (Ae,e)∧Kj (se n) dc g B j=some (F,e)∧_;obtain ⟨t,e,D,E⟩:=(dv n).expr k p d B x H A (by omega);have M:=y.expr k p dc d g B x j v H u A T (by omega);rw [Kj,Kj,M,D,ma,ma];by_cases z:e=0
   ·rw [if_neg (by simpa using z),if_neg (by simpa using z),gm,ma,ma];by_cases q:t.Kind≠3
    ·rw [if_pos (decide_eq_true q),if_pos (decide_eq_true q)];exact ⟨none,none,9,rfl,rfl,fun h=>absurd h (by decide)⟩
    ·obtain ⟨f,f1,f2⟩:=(E z).1 (Decidable.not_not.1 q);obtain ⟨C,f3,f4⟩:=(v _ _ f1).get f1;rw [if_neg (by simpa using q),if_neg (by simpa using q)];exact ⟨_,_,0,rfl,rfl,fun _=>⟨f,C,f1,f3,f4,f2⟩⟩
   ·rw [if_pos z,if_pos z];exact ⟨none,none,e,rfl,rfl,fun h=>absurd h z⟩
  ·show Ah n (se n) dc g B j=Ah n (se n) p d B x;cases k with
   | zero=>cases A
   | succ k =>
   obtain ⟨U,M,wd,P⟩:=T;obtain ⟨k1,pi,R,Q⟩:=A;have lc:Lh x.Kind=1→∃ a o,x.Kids=[a]∧j.Kids=[o]∧ph k a∧Gj p dc k a o:=fun h=>by
    obtain ⟨a,s⟩:=one (l:=x.Kids) (by have:=R.eq (by omega);omega);obtain ⟨o,w,r⟩:=P.one s;exact ⟨a,o,s,w,Q a (by simp [s]),r⟩
   have Ne:Lh x.Kind=2→∃ a b o Ic,x.Kids=[a,b]∧j.Kids=[o,Ic]∧ph k a∧ph k b∧Gj p dc k a o∧Gj p dc k b Ic:=fun h=>by
    obtain ⟨a,b,s⟩:=two (l:=x.Kids) (by have:=R.eq (by omega);omega);obtain ⟨o,Ic,w,r,r'⟩:=P.two s;exact ⟨a,b,o,Ic,s,w,Q a (by simp [s]),Q b (by simp [s]),r,r'⟩
   rw [Ah,Ah,U];by_cases jb:x.Kind=1
   ·rw [if_pos jb,if_pos jb]
   rw [if_neg jb,if_neg jb];by_cases c2:x.Kind=2
   ·rw [if_pos c2,if_pos c2]
   rw [if_neg c2,if_neg c2];by_cases c3:x.Kind=3
   ·rw [if_pos c3,if_pos c3,M c3,FD n p dc d g]
   rw [if_neg c3,if_neg c3];have Fd:∀ (a o:Da) (t:Sa),ph k a→Gj p dc k a o→(se n).Rg dc g B o t=(se n).Rg p d B a t:=fun a o t N he=>y.typed k p dc d g B a o t t v H u N he rfl (by omega);by_cases c4:x.Kind=4
   ·obtain ⟨a,o,s,w,N,he⟩:=lc (by rw [c4];rfl);have k0:at_ x.Kids 0=some a:=by rw [s];rfl
    have G:at_ j.Kids 0=some o:=by rw [w];rfl
    rw [if_pos c4,if_pos c4,k0,G];simp only [Vk,ma];rw [Fd a o _ N he]
   rw [if_neg c4,if_neg c4];by_cases c5:x.Kind=5
   ·obtain ⟨a,o,s,w,N,he⟩:=lc (by rw [c5];rfl);have k0:at_ x.Kids 0=some a:=by rw [s];rfl
    have G:at_ j.Kids 0=some o:=by rw [w];rfl
    rw [if_pos c5,if_pos c5,k0,G];simp only [gj,ma];rw [Fd a o _ N he]
   rw [if_neg c5,if_neg c5];have of:∀ b,(b=true ↔ x.Kind=11∨x.Kind=12)→lo (se n) j dc g B b=lo (se n) x p d B b:=by
    intro b V;rw [lo,lo,U];by_cases q:b=true
    ·have c:=V.1 q;obtain ⟨a,Ic,a2,sd,s,w,Id,zg,qa,X⟩:=Ne (by rcases c with c | c<;>rw [c]<;>rfl);rw [if_pos q,if_pos q,y.both k p dc d g B x j a Ic a2 sd v H u s w Id zg qa X (by omega)]
    rw [if_neg q,if_neg q];have Pi:x.Kind≠11:=fun h=>q (V.2 (.inl h));have kk:x.Kind≠12:=fun h=>q (V.2 (.inr h));by_cases Y:x.Kind=19
    ·obtain ⟨O,K⟩:=wd (.inl Y);obtain ⟨Ae,F,e,D,E,M⟩:=y.args k p dc d g B x j 2 v H u Q R.le (.inl rfl) O K P (by omega);rw [if_pos Y,if_pos Y,D,E,ma,ma];by_cases z:e=0
     ·obtain ⟨f,C,rfl,rfl,g1,g2⟩:=M z;rw [if_neg (by simpa using z),if_neg (by simpa using z)];simp only [ma];rw [hj,hj,g1.Ws (by omega)]
     ·rw [if_pos z,if_pos z]
    rw [if_neg Y,if_neg Y];by_cases c20:x.Kind=20
    ·obtain ⟨O,K⟩:=wd (.inr (.inl c20));rw [if_pos c20,if_pos c20,km,km,O,ma,ma,K.Bj];by_cases c:Bj (Ua p.named x.Name) 1=true
     ·obtain ⟨f,S,ce⟩:=mq c;obtain ⟨C,rc,W⟩:=K.get S;rw [if_pos c,if_pos c,S,rc];simp only [ma];rw [hj,hj,W.Ws (by omega)]
     ·rw [if_neg c,if_neg c]
    rw [if_neg c20,if_neg c20];by_cases c21:x.Kind=21
    ·obtain ⟨a,o,s,w,N,he⟩:=lc (by rw [c21];rfl);have k0:at_ x.Kids 0=some a:=by rw [s];rfl
     have G:at_ j.Kids 0=some o:=by rw [w];rfl
     rw [if_pos c21,if_pos c21,u.kind];by_cases ni:d.Kind=3
     ·rw [if_neg (by simpa using ni),if_neg (by simpa using ni),k0,G,hj,hj,u.uk ni];simp only [ma];rw [y.typed k p dc d g B a o d.vb g.vb v H u N he (u.Ws (by omega)) (by omega)]
     ·rw [if_pos ni,if_pos ni]
    rw [if_neg c21,if_neg c21];by_cases Z:x.Kind=22
    ·obtain ⟨O,K⟩:=wd (.inr (.inr Z));obtain ⟨Ae,F,e,D,E,M⟩:=y.args k p dc d g B x j 3 v H u Q R.le (.inr rfl) O K P (by omega);rw [if_pos Z,if_pos Z,D,E,O];rfl
    rw [if_neg Z,if_neg Z];by_cases bb:x.Kind=23
    ·obtain ⟨a,Ic,a2,sd,s,w,Id,zg,qa,X⟩:=Ne (by rw [bb];rfl);obtain ⟨Ae,F,e,D,E,M⟩:=y.handle k p dc d g B a a2 v H u Id qa (by omega);have k0:at_ x.Kids 0=some a:=by rw [s];rfl
     have k1:at_ x.Kids 1=some Ic:=by rw [s];rfl
     have G:at_ j.Kids 0=some a2:=by rw [w];rfl
     have rd:at_ j.Kids 1=some sd:=by rw [w];rfl
     rw [if_pos bb,if_pos bb,k0,G,ma,ma,D,E,ma,ma];by_cases z:e=0
     ·obtain ⟨f,C,rfl,rfl,g1,g2⟩:=M z;rw [if_neg (by simpa using z),if_neg (by simpa using z)];simp only [ma];rw [hj,hj,g1.Ws (by omega),k1,rd];simp only [ma];rw [y.typed k p dc d g B Ic sd f.Cd C.Cd v H u zg X (g1.uk g2) (by omega)]
     ·rw [if_pos z,if_pos z]
    rw [if_neg bb,if_neg bb];by_cases c24:x.Kind=24
    ·obtain ⟨a,o,s,w,N,he⟩:=lc (by rw [c24];rfl);obtain ⟨Ae,F,e,D,E,M⟩:=y.handle k p dc d g B a o v H u N he (by omega);have k0:at_ x.Kids 0=some a:=by rw [s];rfl
     have G:at_ j.Kids 0=some o:=by rw [w];rfl
     rw [if_pos c24,if_pos c24,k0,G,ma,ma,D,E];rfl
    rw [if_neg c24,if_neg c24];have L:∀ (i1 i2:Int) (s1 s2:List UInt8) (m i:Nat),i≤x.Kids.length→x.Kids.length<m+i→ko (se n) j dc g B i1 s1 i2 s2 m i=ko (se n) x p d B i1 s1 i2 s2 m i:=by
     intro i1 i2 s1 s2 m
     induction m with
     | zero=>intro i D E; omega
     | succ m md =>
      intro i D E;rw [ko,ko,P.1];by_cases c:i<x.Kids.length
      ·have:=R.le;obtain ⟨c',nd⟩:=P.at c;obtain ⟨e,qa,-⟩:=(dv n).typed k p d B x.Kids[i] ⟨i1,s1⟩ H (Q _ (List.getElem_mem _)) (by omega);rw [if_pos (by omega),if_pos (by omega),Ce,List.getElem?_eq_getElem c',ma,Fd _ _ _ (Q _ (List.getElem_mem c)) nd,qa,ma,Ce,List.getElem?_eq_getElem c,ma,qa,ma];by_cases z:e=0
       ·rw [if_neg (by simpa using z),if_neg (by simpa using z),De (by omega),ma,ma];exact md (i+1) c (by omega)
       ·rw [if_pos z,if_pos z]
      ·rw [if_neg (by omega),if_neg (by omega)]
    have ii:∀ (i1 i2:Int) (s1 s2:List UInt8),Yo (se n) j dc g B i1 s1 i2 s2=Yo (se n) x p d B i1 s1 i2 s2:=by
     intro i1 i2 s1 s2;rw [Yo,Yo,P.1];exact L i1 i2 s1 s2 (x.Kids.length+1) 0 (by omega) (by omega)
    simp only [Vk,gj,ma,ii]
   by_cases Xn:x.Kind=11
   ·rw [if_pos Xn,if_pos Xn];exact of _ (by simp [Xn])
   ·rw [if_neg Xn,if_neg Xn];exact of _ (by simp [Xn])
end Go.Y
namespace Go.Y
open Go.Rb Go.ec
def ct (p dc:pb):Nat→Ea→Ea→Prop
 | 0,_,_=>True
 | k+1,s,a=>a.Kind=s.Kind∧(s.Kind=1∨s.Kind=2→a.Name=s.Name)∧(s.Kind=7→a.Name=s.Name∧ie p dc s.Name)∧(s.Kind≠6→Gj p dc k s.X a.X) ∧
   ((s.Kind=3∨s.Kind=4)→Dh (ct p dc k) s.Body a.Body)∧(s.Kind=3→Dh (ct p dc k) s.me a.me)
theorem Qh {α β:Type}{f:α→Option β}:Option.bind (none:Option α) f=none:=rfl
theorem cE (p dc:pb) (d a:sa) (B:Yd):Tp dc a B=Tp p d B:=rfl
structure cO (n:Nat):Prop where
 stats:∀ (k:Nat) (p dc:pb) (d a:sa) (B:Yd) (l b:List Ea),bt p dc→gk p d B→il d a→l.length≤50→(∀ y ∈ l,yl k y)→Dh (ct p dc k) l b→B.length+k≤90→5*k+130≤n→(di n).ij dc a B b=(di n).ij p d B l
 stat:∀ (k:Nat) (p dc:pb) (d a:sa) (B:Yd) (s c:Ea),bt p dc→gk p d B→il d a→0<B.length→yl k s→ct p dc k s c→B.length+k≤91→5*k+129≤n→(di n).zk dc a B c=(di n).zk p d B s
theorem dO:∀ n,cO n:=by
 intro n
 induction n with
 | zero=>exact ⟨fun _ _ _ _ _ _ _ _ _ _ _ _ _ _ _ h=>by omega,fun _ _ _ _ _ _ _ _ _ _ _ _ _ _ _ h=>by omega⟩
 | succ n F =>
  refine ⟨fun k p dc d a B l G r H o ia v u hB Gb=>?_,fun k p dc d a B s j r H o ge v gc hB Gb=>?_⟩
  ·show ij (di n) dc a B G=ij (di n) p d B l;rw [ij,ij,app,if_pos (by simp;omega),ma,ma,ht,ht,u.1];have L:∀ (m i:Nat) (g:Yd),i≤l.length→l.length<m+i→g.length=B.length+1→g.take B.length=B→al p g→eo (di n) G dc a m i g=eo (di n) l p d m i g:=by
    intro m
    induction m with
    | zero=>intro i g K lc; omega
    | succ m rc =>
     intro i g K lc g1 g2 g3;rw [eo,eo,u.1];by_cases c:i<l.length
     ·obtain ⟨c',fd⟩:=u.at c;have O:gk p d g:=⟨H.Vo,H.xa,g3,by omega⟩;obtain ⟨e,id,P,Q,R,md,-⟩:=(TA n).stat k p d g l[i] O (by omega) (v _ (List.getElem_mem _)) (by omega) (by omega);have w:=F.stat k p dc d a g l[i] G[i] r O o (by omega) (v _ (List.getElem_mem _)) fd (by omega) (by omega);rw [g1,Nat.add_sub_cancel] at R;rw [g1] at Q;rw [if_pos (by omega),if_pos (by omega),Ce,List.getElem?_eq_getElem c',ma,w,P,ma,Ce,List.getElem?_eq_getElem c,ma,P,ma];by_cases z:e=0
      ·rw [if_neg (by simpa using z),if_neg (by simpa using z),De (by omega),ma,ma];exact rc (i+1) id c (by omega) Q (R.trans g2) md
      ·rw [if_pos z,if_pos z,cE p dc d a]
     ·rw [if_neg (by omega),if_neg (by omega),cE p dc d a]
   have:=L (l.length+1) 0 (B++[[]]) (by omega) (by omega) (by simp) (by simp) (fun m hm k' t x=>by
    rcases List.mem_append.1 hm with hm | hm
    ·exact H.gd m hm k' t x
    ·rw [List.mem_singleton.1 hm] at x;cases x)
   simpa using this
  ·show zk n (di n) dc a B j=zk n (di n) p d B s;cases k with
   | zero=>cases v
   | succ k =>
   obtain ⟨u,S,nd,T,rd,he⟩:=gc;obtain ⟨k1,le,M,D,U⟩:=v;have E:∀ (t ib:Sa),s.Kind≠6→Lc ib=Lc t→(se n).Rg dc a B j.X ib=(se n).Rg p d B s.X t:=fun t ib y x=>(eG n).typed k p dc d a B s.X j.X t ib r H o (M y) (T y) x (by omega);have V:s.Kind≠6→(se n).Ah dc a B j.X=(se n).Ah p d B s.X:=fun y=>(eG n).expr k p dc d a B s.X j.X r H o (M y) (T y) (by omega);rw [zk,zk,u];by_cases jb:s.Kind=1
   ·rw [if_pos jb,if_pos jb,V (by omega),S (.inl jb)];rfl
   rw [if_neg jb,if_neg jb];by_cases c2:s.Kind=2
   ·rw [if_pos c2,if_pos c2,S (.inr c2),FD n p dc d a];obtain ⟨ib,b,g1,-⟩:=Hx H.gd H.Ud n (by omega) d s.Name;rw [g1,ma,ma];cases b with
    | false=>rw [if_neg (by simp),if_neg (by simp)]
    | true=>rw [if_pos rfl,if_pos rfl,E ib ib (by omega) rfl]
   rw [if_neg c2,if_neg c2];have W:∀ b,(b=true ↔ s.Kind=3∨s.Kind=4)→mo n (di n) j dc a B b=mo n (di n) s p d B b:=by
    intro b N;rw [mo,mo,u,o.kind];by_cases q:b=true
    ·have c:=N.1 q;rw [if_pos q,if_pos q,gj,ma,ma,E _ _ (by omega) rfl];obtain ⟨e,K,-⟩:=(dv n).typed k p d B s.X ⟨2,[]⟩ H (M (by omega)) (by omega);rw [K,ma,ma];by_cases z:e=0
     ·rw [if_neg (by simpa using z),if_neg (by simpa using z),F.stats k p dc d a B s.Body j.Body r H o (D c).1 (D c).2 (rd c) (by omega) (by omega)];obtain ⟨w,g1,-⟩:=(TA n).stats k p d B s.Body H (D c).1 (D c).2 (by omega) (by omega);rw [g1,ma,ma];have Y:∀ sd,(s.Kind=4→sd=true)→Ip (di n) j dc a (w,B) sd=Ip (di n) s p d (w,B) sd:=by
       intro sd wd;rw [Ip,Ip];by_cases A:sd=true
       ·rw [if_pos A,if_pos A]
       ·have c3:s.Kind=3:=by
         rcases c with c | c
         ·exact c
         ·exact absurd (wd c) A
        rw [if_neg A,if_neg A];simp only [];rw [F.stats k p dc d a B s.me j.me r H o (U c3).1 (U c3).2 (he c3) (by omega) (by omega)]
      by_cases z2:w=0
      ·rw [if_neg (by simpa using z2),if_neg (by simpa using z2),Y _ (fun h=>by simp [h])]
      ·rw [if_pos z2,if_pos z2,Y _ (fun _=>rfl)]
     ·rw [if_pos z,if_pos z]
    rw [if_neg q,if_neg q];have ne:s.Kind≠3:=fun h=>q (N.2 (.inl h));have Ne:s.Kind≠4:=fun h=>q (N.2 (.inr h));by_cases c5:s.Kind=5
    ·rw [if_pos c5,if_pos c5];by_cases ni:d.Kind≠2
     ·rw [if_pos ni,if_pos ni]
     ·rw [if_neg ni,if_neg ni,E d.vb a.vb (by omega) (o.Ws (by omega))]
    rw [if_neg c5,if_neg c5];by_cases ae:s.Kind=6
    ·rw [if_pos ae,if_pos ae]
    rw [if_neg ae,if_neg ae];by_cases C:s.Kind=7
    ·obtain ⟨Fd,Z⟩:=nd C;rw [if_pos C,if_pos C,km,km,Fd,ma,ma,Z.Bj];by_cases c:Bj (Ua p.named s.Name) 1=true
     ·obtain ⟨f,bb,of⟩:=mq c;obtain ⟨Id,be,ce⟩:=Z.get bb;rw [if_pos c,if_pos c,bb,be];simp only [ma];rw [E f.vb Id.vb (by omega) (ce.Ws (by omega))]
     ·rw [if_neg c,if_neg c]
    rw [if_neg C,if_neg C,V ae]
   by_cases c3:s.Kind=3
   ·rw [if_pos c3,if_pos c3];exact W _ (by simp [c3])
   ·rw [if_neg c3,if_neg c3];exact W _ (by simp [c3])
theorem CI (p dc:pb) (d a:sa) (xa:Dq d) (e:il d a) (y:d.Kind=2∨d.Kind=3→∀ q ∈ d.Params,q.vb.Kind=3→ie p dc q.vb.bc):Qp dc a=Qp p d:=by
 have f:∀ (t ib:Sa),Lc ib=Lc t→ib.Kind=t.Kind:=fun t ib h=>by
  have:=congrArg Sa.Kind h;rwa [Kl,Kl] at this
 have n:Jp a=Jp d:=by
  rw [Jp,Jp,e.kind];simp only [gm,ma];by_cases c3:d.Kind=3
  ·rw [if_pos c3,if_pos c3,f _ _ (e.uk c3),f _ _ (e.Ws (by omega))]
  ·rw [if_neg c3,if_neg c3];by_cases c4:d.Kind≠4
   ·rw [if_pos c4,if_pos c4,f _ _ (e.Ws c4)]
   ·rw [if_neg c4,if_neg c4]
 have s:∀ b,(b=true→d.Kind=2∨d.Kind=3)→Lp dc a b=Lp p d b:=by
  intro b A;rw [Lp,Lp];by_cases q:b=true
  ·have g:=A q;have u:=e.len g;have E:=(xa.Nf g).1;rw [if_pos q,if_pos q,u];have L:∀ (m i:Nat) (S:List (List UInt8×Int)),i≤d.Params.length→d.Params.length<m+i→Kp dc a m i S=Kp p d m i S:=by
    intro m
    induction m with
    | zero=>intro i S B C; omega
    | succ m D =>
     intro i S B C;rw [Kp,Kp,u];by_cases c:i<d.Params.length
     ·have c':i<a.Params.length:=by omega
      obtain ⟨qa,j⟩:=e.at g c c';have aa:Sp dc a.Params[i].vb=Sp p d.Params[i].vb:=by
       rw [Sp,Sp,gm,gm,f _ _ j,ma,ma];by_cases k:d.Params[i].vb.Kind≠3
       ·rw [if_pos (decide_eq_true k),if_pos (decide_eq_true k)]
       ·have l:d.Params[i].vb.Kind=3:=Decidable.not_not.1 k;have sO:a.Params[i].vb.bc=d.Params[i].vb.bc:=by
         have x:=f _ _ j;rw [l] at x;rw [Lc,Lc,if_neg (by simpa using x),if_neg (by simpa using l)] at j;rw [j]
        rw [if_neg (by simpa using k),if_neg (by simpa using k),km,km,sO,(y g _ (List.getElem_mem c) l).Bj];rfl
      rw [if_pos (by omega),if_pos (by omega),Ce,List.getElem?_eq_getElem c',ma,Ce,List.getElem?_eq_getElem c,ma,qa];generalize i64 ((Ua S d.Params[i].Name).getD 0+1)=o;cases o with
      | none=>rw [Qh,Qh]
      | some v =>
       rw [ma,ma,aa];by_cases w:(1:Int)<(Ua (zd S d.Params[i].Name v) d.Params[i].Name).getD 0
       ·rw [if_pos w,if_pos w]
       ·rw [if_neg w,if_neg w];generalize Sp p d.Params[i].vb=o;cases o with
        | none=>rw [Qh,Qh]
        | some r =>
         rw [ma,ma];by_cases z:r≠0
         ·rw [if_pos z,if_pos z]
         ·rw [if_neg z,if_neg z,De (by omega),ma,ma];exact D (i+1) _ c (by omega)
     ·rw [if_neg (by omega),if_neg (by omega),n]
   exact L (d.Params.length+1) 0 [] (by omega) (by omega)
  ·rw [if_neg q,if_neg q,n]
 rw [Qp,Qp,e.kind];by_cases c:d.Kind=2
 ·rw [if_pos c,if_pos c];exact s _ fun _=>.inl c
 ·rw [if_neg c,if_neg c];exact s _ fun h=>.inr (of_decide_eq_true h)
theorem DI (fu:Nat) (x:500≤fu) (p dc:pb) (d b:sa) (q:bt p dc) (r:yz p) (g:vm p d) (xa:Dq d) (e:il d b) (hB:d.Kind≠1→Dh (ct p dc 39) d.Body b.Body):Tm fu dc b=Tm fu p d:=by
 rw [Tm,Tm,e.kind];by_cases jb:d.Kind=1
 ·rw [if_pos jb,if_pos jb]
 ·rw [if_neg jb,if_neg jb];have l:∀ B:Yd,B.length=1→al p B→oo fu dc b B=oo fu p d B:=by
   intro B n h;rw [oo,oo,(dO fu).stats 39 p dc d b B d.Body b.Body q ⟨r,g,h,by omega⟩ e (xa.Ud jb) (xa.Ih jb) (hB jb) (by omega) (by omega)]
  by_cases c4:d.Kind=4
  ·rw [if_neg (by simpa using c4),if_neg (by simpa using c4)];exact l _ rfl (fun m hm k t a=>by rw [List.mem_singleton.1 hm] at a;cases a)
  ·rw [if_pos c4,if_pos c4];have f:d.Kind=2∨d.Kind=3:=by have:=xa.k1;have:=xa.Ue;omega
   have y:=g.pl f;have o:=e.len f;rw [o];have L:∀ (m i:Nat) (B:Yd),i≤d.Params.length→d.Params.length<m+i→B.length=1→al p B→vn fu dc b m i B=vn fu p d m i B:=by
    intro m
    induction m with
    | zero=>intro i B n h; omega
    | succ m s =>
     intro i B n h g1 g2;rw [vn,vn,o];by_cases c:i<d.Params.length
     ·have c':i<b.Params.length:=by omega
      obtain ⟨qa,u⟩:=e.at f c c';have v:0<B.length:=by omega
      rw [if_pos (by omega),if_pos (by omega),Ce,List.getElem?_eq_getElem c',ma,Ce,List.getElem?_eq_getElem c,ma,ez v,ma,ma,hj,hj,ma,ma,qa,u,pt,pt,De (by omega),ma,ma];refine s (i+1) _ c (by omega) (by simpa using g1) fun w j k t a=>?_;rcases List.mem_or_eq_of_mem_set j with j | rfl
      ·exact g2 w j k t a
      ·rw [Mj] at a;split at a
       ·obtain rfl:=Option.some.inj a;exact (g.Nf f _ (List.getElem_mem _)).bare
       ·exact g2 _ (List.getElem_mem _) k t a
     ·rw [if_neg (by omega),if_neg (by omega)];exact l B g1 g2
   exact L (d.Params.length+1) 0 _ (by omega) (by omega) rfl (fun m hm k t a=>by rw [List.mem_singleton.1 hm] at a;cases a)
end Go.Y
namespace Go.Y
open Go.Rb Go.ec
def lu:Nat→Da→Da→Prop
 | 0,_,_=>False
 | k+1,x,a=>a.Kind=x.Kind∧(x.Kind=1∨x.Kind=2→a.N=x.N)∧(x.Kind=3∨x.Kind=20∨x.Kind=19∨x.Kind=22→a.Name=x.Name)∧Dh (lu k) x.Kids a.Kids
def pn:Nat→Ea→Ea→Prop
 | 0,_,_=>False
 | k+1,s,a=>a.Kind=s.Kind∧(s.Kind=1∨s.Kind=2∨s.Kind=7→a.Name=s.Name)∧(s.Kind≠6→lu k s.X a.X)∧(s.Kind=3∨s.Kind=4→Dh (pn k) s.Body a.Body)∧(s.Kind=3→Dh (pn k) s.me a.me)
end Go.Y
namespace Go.Y
open Go.Rb Go.ec
def Nn:Nat→Da→Da
 | 0,x=>x
 | k+1,x=>Da.mk x.Kind (if x.Kind=1∨x.Kind=2 then x.N else 0) (if x.Kind=3∨x.Kind=20∨x.Kind=19∨x.Kind=22 then x.Name else []) (x.Kids.map (Nn k))
def vh:Nat→Ea→Ea
 | 0,s=>s
 | k+1,s=>Ea.mk s.Kind (if s.Kind=1∨s.Kind=2∨s.Kind=7 then s.Name else []) (if s.Kind≠6 then Nn k s.X else Da.mk 0 0 [] []) (if s.Kind=3∨s.Kind=4 then s.Body.map (vh k) else []) (if s.Kind=3 then s.me.map (vh k) else [])
def Oc (k:Nat) (d:sa):sa:=sa.mk d.Kind d.Name (if d.Kind≠4 then Lc d.vb else Sa.mk 0 []) (if d.Kind=3 then Lc d.Cd else Sa.mk 0 []) (if d.Kind=1 then d.Jf else 0)
 (if d.Kind=2∨d.Kind=3 then d.Params.map (fun q=>TParam.mk q.Name (Lc q.vb)) else []) (if d.Kind=1 then [] else d.Body.map (vh k))
theorem WA (t:Sa):Et t=some (Lc t):=by
 rw [Et,Lc];split
 ·rfl
 ·cases t;rfl
theorem qy {α:Type}{B:Nat}{l xs:List α}(h:l.length+xs.length≤B):cn B l xs=some (l++xs):=if_pos h
theorem SK:∀ (n k:Nat) (x:Da),k≤n→wv k x→(Rp n).Dn x=some (Nn k x):=by
 intro n
 induction n with
 | zero =>
  intro k x g a;obtain rfl:k=0:=by omega
  cases a
 | succ n r =>
  intro k x g a;cases k with
  | zero=>cases a
  | succ k =>
  obtain ⟨ia,t⟩:=a;show Dn (Rp n) x=_;have L:∀ (i:Int) (s:Nm) (m j:Nat) (acc:List Da),j≤x.Kids.length→x.Kids.length<m+j→acc.length≤j→vt (Rp n) x i s m j acc=some (Da.mk x.Kind i s (acc++(x.Kids.drop j).map (Nn k))):=by
   intro i s m
   induction m with
   | zero=>intro j acc g a; omega
   | succ m u =>
    intro j acc g1 g2 g3;rw [vt];by_cases c:j<x.Kids.length
    ·rw [if_pos (by omega),Ce,List.getElem?_eq_getElem c,ma,r k x.Kids[j] (by omega) (t _ (List.getElem_mem c)),ma,qy (by simp;omega),ma,Dx,De (by omega),ma];refine (u (j+1) _ c (by omega) (by simp;omega)).trans ?_;rw [List.drop_eq_getElem_cons c];simp only [List.map_cons,List.append_assoc,List.singleton_append]
    ·rw [if_neg (by omega),List.drop_eq_nil_of_le (by omega)];simp
  have l:∀ (i:Int) (s:Nm),Fu (Rp n) x i s=some (Da.mk x.Kind i s (x.Kids.map (Nn k))):=by
   intro i s;have:=L i s (x.Kids.length+1) 0 [] (by omega) (by omega) (by simp);simpa [Fu] using this
  have o:∀ i:Int,Gu (Rp n) x i=some (Da.mk x.Kind i (if x.Kind=3∨x.Kind=20∨x.Kind=19∨x.Kind=22 then x.Name else []) (x.Kids.map (Nn k))):=by
   intro i;have e:∀ b,(b=true ↔ x.Kind=3∨x.Kind=20∨x.Kind=19∨x.Kind=22)→Rr (Rp n) x i b=some (Da.mk x.Kind i (if x.Kind=3∨x.Kind=20∨x.Kind=19∨x.Kind=22 then x.Name else []) (x.Kids.map (Nn k))):=by
    intro b d;rw [Rr];by_cases q:b=true
    ·rw [if_pos q,if_pos (d.1 q),l]
    ·rw [if_neg q,if_neg (fun h=>q (d.2 h)),l]
   rw [Gu];by_cases c3:x.Kind=3
   ·rw [if_pos c3];exact e _ (by simp [c3])
   rw [if_neg c3];by_cases c20:x.Kind=20
   ·rw [if_pos c20];exact e _ (by simp [c20])
   rw [if_neg c20];by_cases f:x.Kind=19
   ·rw [if_pos f];exact e _ (by simp [f])
   rw [if_neg f];exact e _ (by simp [c3,c20,f])
  have p:∀ b,(b=true ↔ x.Kind=1∨x.Kind=2)→Hu (Rp n) x b=some (Nn (k+1) x):=by
   intro b d;rw [Hu,Nn];by_cases q:b=true
   ·rw [if_pos q,if_pos (d.1 q),o]
   ·rw [if_neg q,if_neg (fun h=>q (d.2 h)),o]
  rw [Dn];by_cases jb:x.Kind=1
  ·rw [if_pos jb];exact p _ (by simp [jb])
  ·rw [if_neg jb];exact p _ (by simp [jb])
theorem xJ:∀ (n k:Nat) (l:List Ea),k+1≤n→l.length≤1099511627776→(∀ y ∈ l,zr k y)→(jl n).nm l=some (l.map (vh k)):=by
 intro n
 induction n with
 | zero=>intro k l f; omega
 | succ n g =>
  intro k l f ia D;show nm n (jl n) l=_;have L:∀ (m i:Nat) (acc:List Ea),i≤l.length→l.length<m+i→acc.length≤i→wk n (jl n) l m i acc=some (acc++(l.drop i).map (vh k)):=by
   intro m
   induction m with
   | zero=>intro i acc f N; omega
   | succ m E =>
    intro i acc g1 g2 g3;rw [wk];by_cases c:i<l.length
    ·rw [if_pos (by omega),Ce,List.getElem?_eq_getElem c,ma];have j:=D _ (List.getElem_mem c);have Bb:=fun z (d:z=vh k l[i])=>(E (i+1) (acc++[z]) c (by omega) (by simp;omega)).trans (show _=some (acc++(l.drop i).map (vh k)) by
      rw [List.drop_eq_getElem_cons c,d];simp only [List.map_cons,List.append_assoc,List.singleton_append])
     generalize l[i]=y at *;cases k with
     | zero=>cases j
     | succ k =>
     obtain ⟨F,⟨G,H⟩,⟨K,M⟩⟩:=j;have o:∀ (s:Nm) (a b:Int) (t:Nm) (q:List Da) (Ih el:List Ea),Ea.mk y.Kind s (Da.mk a b t q) Ih el=vh (k+1) y→xu (i:Int) acc y s a b t q Ih (wk n (jl n) l m) el=some (acc++(l.drop i).map (vh (k+1))):=by
      intro s a b t q Ih el d;rw [xu,qy (by simp;omega),ma,De (by omega),ma];exact Bb _ d
     have p:∀ (s:Nm) (a b:Int) (t:Nm) (q:List Da) (Ih:List Ea),Ea.mk y.Kind s (Da.mk a b t q) Ih (if y.Kind=3 then y.me.map (vh k) else [])=vh (k+1) y→yu (jl n) (i:Int) acc y s a b t q (wk n (jl n) l m) Ih=some (acc++(l.drop i).map (vh (k+1))):=by
      intro s a b t q Ih d;rw [yu];by_cases c3:y.Kind=3
      ·rw [if_pos c3] at d ⊢;rw [g k y.me (by omega) K M,ma];exact o _ _ _ _ _ _ _ d
      ·rw [if_neg c3] at d ⊢;exact o _ _ _ _ _ _ _ d
     have r:∀ (s:Nm) (a b:Int) (t:Nm) (q:List Da) (v:Bool),(v=true ↔ y.Kind=3∨y.Kind=4)→Ea.mk y.Kind s (Da.mk a b t q) (if y.Kind=3∨y.Kind=4 then y.Body.map (vh k) else []) (if y.Kind=3 then y.me.map (vh k) else [])=vh (k+1) y→zu (jl n) (i:Int) acc y s a b t q (wk n (jl n) l m) v=some (acc++(l.drop i).map (vh (k+1))):=by
      intro s a b t q v u d;rw [zu];by_cases w:v=true
      ·rw [if_pos (u.1 w)] at d;rw [if_pos w,g k y.Body (by omega) G H,ma];exact p _ _ _ _ _ _ d
      ·rw [if_neg (fun h=>w (u.2 h))] at d;rw [if_neg w];exact p _ _ _ _ _ _ d
     have x:∀ (s:Nm) (a b:Int) (t:Nm) (q:List Da),Ea.mk y.Kind s (Da.mk a b t q) (if y.Kind=3∨y.Kind=4 then y.Body.map (vh k) else []) (if y.Kind=3 then y.me.map (vh k) else [])=vh (k+1) y→Au (jl n) (i:Int) acc y s (wk n (jl n) l m) a b t q=some (acc++(l.drop i).map (vh (k+1))):=by
      intro s a b t q d;rw [Au];by_cases c3:y.Kind=3
      ·rw [if_pos c3];exact r _ _ _ _ _ _ (by simp [c3]) d
      ·rw [if_neg c3];exact r _ _ _ _ _ _ (by simp [c3]) d
     have A:∀ s:Nm,s=(if y.Kind=1∨y.Kind=2∨y.Kind=7 then y.Name else [])→Bu n (jl n) (i:Int) acc y (wk n (jl n) l m) s=some (acc++(l.drop i).map (vh (k+1))):=by
      intro s B;rw [Bu];by_cases ae:y.Kind≠6
      ·rw [if_pos ae,SK n k y.X (by omega) F,ma];refine x _ _ _ _ _ ?_;rw [vh,if_pos ae,← B];generalize Nn k y.X=z;cases z;rfl
      ·rw [if_neg ae];refine x _ _ _ _ _ ?_;rw [vh,if_neg ae,← B]
     have e:∀ b,(b=true ↔ y.Kind=1∨y.Kind=2∨y.Kind=7)→tt n (jl n) (i:Int) acc y (wk n (jl n) l m) b=some (acc++(l.drop i).map (vh (k+1))):=by
      intro b C;rw [tt];by_cases q:b=true
      ·rw [if_pos q];exact A _ (by rw [if_pos (C.1 q)])
      ·rw [if_neg q];exact A _ (by rw [if_neg (fun h=>q (C.2 h))])
     by_cases jb:y.Kind=1
     ·rw [if_pos jb];exact e _ (by simp [jb])
     rw [if_neg jb];by_cases c2:y.Kind=2
     ·rw [if_pos c2];exact e _ (by simp [c2])
     rw [if_neg c2];exact e _ (by simp [jb,c2])
    ·rw [if_neg (by omega),List.drop_eq_nil_of_le (by omega)];simp
  have:=L (l.length+1) 0 [] (by omega) (by omega) (by simp);simpa [nm] using this
theorem FM (fu k:Nat) (l:List sa) (A:k+1≤fu) (ia:Lm k l):Uu fu l=some (l.map (Oc k)):=by
 have L:∀ (m i:Nat) (acc:List sa),i≤l.length→l.length<m+i→acc.length≤i→hk fu l m i acc=some (acc++(l.drop i).map (Oc k)):=by
  have G:=ia.1;intro m
  induction m with
  | zero=>intro i acc e f; omega
  | succ m B =>
   intro i acc g1 g2 g3;rw [hk];by_cases c:i<l.length
   ·rw [if_pos (by omega),Ce,List.getElem?_eq_getElem c,ma];obtain ⟨H,C,D⟩:=ia.2 _ (List.getElem_mem c);have Bb:=fun z (d:z=Oc k l[i])=>(B (i+1) (acc++[z]) c (by omega) (by simp;omega)).trans (show _=some (acc++(l.drop i).map (Oc k)) by
     rw [List.drop_eq_getElem_cons c,d];simp only [List.map_cons,List.append_assoc,List.singleton_append])
    generalize l[i]=y at *;have g:∀ (a:Int) (s:Nm) (Ig:Int) (Ih:List Ea) (b:Int) (t:Nm) (Nf:List TParam),sa.mk y.Kind y.Name (Sa.mk a s) (Sa.mk b t) Ig Nf Ih=Oc k y→xt (i:Int) acc y a s Ig Ih b t (hk fu l m) Nf=some (acc++(l.drop i).map (Oc k)):=by
     intro a s Ig Ih b t Nf d;rw [xt,qy (by simp;omega),ma,De (by omega),ma];exact Bb _ d
    have n:∀ (a:Int) (s:Nm) (Ig:Int) (Ih:List Ea) (b:Int) (t:Nm) (v:Bool),(v=true ↔ y.Kind=2∨y.Kind=3)→sa.mk y.Kind y.Name (Sa.mk a s) (Sa.mk b t) Ig (if y.Kind=2∨y.Kind=3 then y.Params.map (fun q=>TParam.mk q.Name (Lc q.vb)) else []) Ih=Oc k y→Nu (i:Int) acc y a s Ig Ih b t (hk fu l m) v=some (acc++(l.drop i).map (Oc k)):=by
     intro a s Ig Ih b t v o d;rw [Nu];by_cases w:v=true
     ·rw [if_pos (o.1 w)] at d;rw [if_pos w];have E:∀ (m2 j:Nat) (Nf:List TParam),j≤y.Params.length→y.Params.length<m2+j→Nf.length≤j→yt (i:Int) acc y a s Ig Ih b t (hk fu l m) m2 j Nf=xt (i:Int) acc y a s Ig Ih b t (hk fu l m) (Nf++(y.Params.drop j).map (fun q=>TParam.mk q.Name (Lc q.vb))):=by
       intro m2
       induction m2 with
       | zero=>intro j Nf e f; omega
       | succ m2 F =>
        intro j Nf g4 g5 g6;rw [yt];by_cases c2:j<y.Params.length
        ·rw [if_pos (by omega),Ce,List.getElem?_eq_getElem c2,ma,WA,ma,qy (by simp;omega),ma,Lx,De (by omega),ma];refine (F (j+1) _ c2 (by omega) (by simp;omega)).trans ?_;rw [List.drop_eq_getElem_cons c2];simp only [List.map_cons,List.append_assoc,List.singleton_append]
        ·rw [if_neg (by omega),List.drop_eq_nil_of_le (by omega)];simp
      have:=E (y.Params.length+1) 0 [] (by omega) (by omega) (by simp);simp only [List.drop_zero,List.nil_append] at this;rw [show ((0:Nat):Int)=0 from rfl] at this;rw [this];exact g _ _ _ _ _ _ _ d
     ·rw [if_neg (fun h=>w (o.2 h))] at d;rw [if_neg w];exact g _ _ _ _ _ _ _ d
    have p:∀ (a:Int) (s:Nm) (Ig:Int) (Ih:List Ea) (b:Int) (t:Nm),sa.mk y.Kind y.Name (Sa.mk a s) (Sa.mk b t) Ig (if y.Kind=2∨y.Kind=3 then y.Params.map (fun q=>TParam.mk q.Name (Lc q.vb)) else []) Ih=Oc k y→Ou (i:Int) acc y a s Ig Ih (hk fu l m) b t=some (acc++(l.drop i).map (Oc k)):=by
     intro a s Ig Ih b t d;rw [Ou];by_cases c2:y.Kind=2
     ·rw [if_pos c2];exact n _ _ _ _ _ _ _ (by simp [c2]) d
     ·rw [if_neg c2];exact n _ _ _ _ _ _ _ (by simp [c2]) d
    have r:∀ (a:Int) (s:Nm) (Ig:Int) (Ih:List Ea),Sa.mk a s=(if y.Kind≠4 then Lc y.vb else Sa.mk 0 [])→Ig=(if y.Kind=1 then y.Jf else 0)→Ih=(if y.Kind=1 then [] else y.Body.map (vh k))→Pu (i:Int) acc y a s (hk fu l m) Ig Ih=some (acc++(l.drop i).map (Oc k)):=by
     intro a s Ig Ih e f u;rw [Pu];by_cases c3:y.Kind=3
     ·rw [if_pos c3,WA,ma];refine p _ _ _ _ _ _ ?_;rw [Oc,e,f,u,if_pos c3]
     ·rw [if_neg c3];refine p _ _ _ _ _ _ ?_;rw [Oc,e,f,u,if_neg c3]
    have x:∀ (a:Int) (s:Nm),Sa.mk a s=(if y.Kind≠4 then Lc y.vb else Sa.mk 0 [])→Qu fu (i:Int) acc y (hk fu l m) a s=some (acc++(l.drop i).map (Oc k)):=by
     intro a s e;rw [Qu];by_cases jb:y.Kind=1
     ·rw [if_pos jb];exact r _ _ _ _ e (by rw [if_pos jb]) (by rw [if_pos jb])
     ·rw [if_neg jb,xJ fu k y.Body A C D,ma];exact r _ _ _ _ e (by rw [if_neg jb]) (by rw [if_neg jb])
    by_cases c4:y.Kind≠4
    ·rw [if_pos c4,WA,ma];exact x _ _ (by rw [if_pos c4])
    ·rw [if_neg c4];exact x _ _ (by rw [if_neg c4])
   ·rw [if_neg (by omega),List.drop_eq_nil_of_le (by omega)];simp
 have:=L (l.length+1) 0 [] (by omega) (by omega) (by simp);simpa [Uu] using this
theorem Dh.map {α:Type}{R:α→α→Prop}{f:α→α}{l:List α}(h:∀ y ∈ l,R y (f y)):Dh R l (l.map f):=
 ⟨by simp,fun i y a=>⟨f y,by rw [List.getElem?_map,a];rfl,h y (List.mem_of_getElem? a)⟩⟩
theorem dE:∀ (k:Nat) (x:Da),wv k x→lu k x (Nn k x)
 | 0,x,h=>by cases h
 | k+1,x,h=>⟨rfl,fun c=>by simp only [Nn]; rw [if_pos c],fun c=>by simp only [Nn]; rw [if_pos c],Dh.map fun y a=>dE k y (h.2 y a)⟩
theorem Ft:∀ (k:Nat) (x:Ea),zr k x→pn k x (vh k x)
 | 0,x,h=>by cases h
 | k+1,x,h=>⟨rfl,fun c=>by simp only [vh]; rw [if_pos c],fun c=>by simp only [vh]; rw [if_pos c]; exact dE k _ h.1,fun c=>by simp only [vh]; rw [if_pos c]; exact Dh.map fun y a=>Ft k y (h.2.1.2 y a),fun c=>by simp only [vh]; rw [if_pos c]; exact Dh.map fun y a=>Ft k y (h.2.2.2 y a)⟩
theorem EI:∀ (n k:Nat) (x a:Da) (d node:Int),lu k x a→(Pg n).ei node a d=(Pg n).ei node x d:=by
 intro n
 induction n with
 | zero=>intro k x a d node h; rfl
 | succ n y =>
  intro k x a d node h;cases k with
  | zero=>cases h
  | succ k =>
  obtain ⟨g,s,l,f⟩:=h;show ei n (Pg n) node a d=ei n (Pg n) node x d;have L:∀ (m i:Nat) (c:Int),xk (Pg n) a d m i c=xk (Pg n) x d m i c:=by
   intro m
   induction m with
   | zero=>intro i c; rfl
   | succ m A =>
    intro i c;rw [xk,xk,f.1];by_cases q:i<x.Kids.length
    ·obtain ⟨B,r⟩:=f.at q;rw [if_pos (by omega),if_pos (by omega),Ce,List.getElem?_eq_getElem B,ma,Ce,List.getElem?_eq_getElem q,ma];generalize i64 (d+1)=o;cases o with
     | none=>rw [Qh,Qh]
     | some t =>
      rw [ma,ma,y k x.Kids[i] a.Kids[i] t c r];generalize (Pg n).ei c x.Kids[i] t=o;cases o with
      | none=>rw [Qh,Qh]
      | some e =>
       rw [ma,ma];by_cases z:e.1≠0
       ·rw [if_pos z,if_pos z]
       ·rw [if_neg z,if_neg z];by_cases w:(i:Int)+1≤9223372036854775807
        ·rw [De (by omega),ma,ma];exact A (i+1) e.2
        ·rw [i64,if_neg (by omega),Qh,Qh]
    ·rw [if_neg (by omega),if_neg (by omega)]
  have p:∀ (r:Int×Int) b,yn (Pg n) a d r b=yn (Pg n) x d r b:=by
   intro r b;rw [yn,yn,f.1];have:=L (x.Kids.length+1) 0 r.2;rw [show ((0:Nat):Int)=0 from rfl] at this;rw [this]
  have u:∀ (r:Int×Int) (q:Int) b,zn (Pg n) a d r q b=zn (Pg n) x d r q b:=by
   intro r q b;rw [zn,zn,f.1,p,p,p]
  have C:∀ (r:Int×Int) (q:Int) b,im (Pg n) a d r q b=im (Pg n) x d r q b:=by
   intro r q b;rw [im,im,f.1,u,u]
  have D:∀ (r:Int×Int) b,1≤x.Kind→x.Kind≤24→Pm n (Pg n) a d r (Lh x.Kind) b=Pm n (Pg n) x d r (Lh x.Kind) b:=by
   intro r b k1 j;rw [Pm,Pm,g];simp only [C];by_cases q:b=true
   ·rw [if_pos q,if_pos q]
   rw [if_neg q,if_neg q];by_cases c3:x.Kind=3
   ·rw [if_pos c3,if_pos c3,l (.inl c3)]
   rw [if_neg c3,if_neg c3];by_cases c20:x.Kind=20
   ·rw [if_pos c20,if_pos c20,l (.inr (.inl c20))]
   rw [if_neg c20,if_neg c20];by_cases c:Lh x.Kind<0
   ·rw [if_pos c,if_pos c,l (.inr (.inr ?_))];unfold Lh at c;split at c
    ·omega
    ·split at c
     ·omega
     ·split at c
      ·omega
      ·omega
   ·rw [if_neg c,if_neg c]
  have E:∀ (r:Int×Int) b,1≤x.Kind→x.Kind≤24→An n (Pg n) a d r (Lh x.Kind) b=An n (Pg n) x d r (Lh x.Kind) b:=by
   intro r b k1 j;rw [An,An,g];simp only [D _ _ k1 j];by_cases q:b=true
   ·rw [if_pos q,if_pos q]
   rw [if_neg q,if_neg q];by_cases c2:x.Kind=2
   ·rw [if_pos c2,if_pos c2,s (.inr c2)]
   ·rw [if_neg c2,if_neg c2]
  have v:∀ (r:Int×Int) b,(b=false→1≤x.Kind∧x.Kind≤24)→Il n (Pg n) a d r b=Il n (Pg n) x d r b:=by
   intro r b F;rw [Il,Il,g,Zz];by_cases q:b=true
   ·rw [if_pos q,if_pos q]
   ·obtain ⟨k1,j⟩:=F (by simpa using q);rw [if_neg q,if_neg q,ma,ma];simp only [E _ _ k1 j];by_cases jb:x.Kind=1
    ·rw [if_pos jb,if_pos jb,s (.inl jb)]
    ·rw [if_neg jb,if_neg jb]
  rw [ei,ei,g];congr 1;funext r;by_cases z:r.1≠0
  ·rw [if_pos z,if_pos z]
  ·rw [if_neg z,if_neg z];by_cases c:x.Kind<1
   ·rw [if_pos c,if_pos c,v r true fun h=>by cases h]
   ·rw [if_neg c,if_neg c,v r _ fun h=>⟨by omega,by have:=of_decide_eq_false h;omega⟩]
theorem FI:∀ (n:Nat),(∀ (k:Nat) (l f:List Ea) (d node:Int),Dh (pn k) l f→(Qg n).ah node f d=(Qg n).ah node l d)∧(∀ (k:Nat) (x a:Ea) (d node:Int),pn k x a→(Qg n).jj node a d=(Qg n).jj node x d):=by
 intro n
 induction n with
 | zero=>exact ⟨fun _ _ _ _ _ _=>rfl,fun _ _ _ _ _ _=>rfl⟩
 | succ n v =>
  obtain ⟨t,y⟩:=v;refine ⟨fun k l f d node h=>?_,fun k x a d node h=>?_⟩
  ·show ah (Qg n) node f d=ah (Qg n) node l d;have L:∀ (m i:Nat) (c:Int),fo (Qg n) f d m i c=fo (Qg n) l d m i c:=by
    intro m
    induction m with
    | zero=>intro i c; rfl
    | succ m A =>
     intro i c;rw [fo,fo,h.1];by_cases q:i<l.length
     ·obtain ⟨B,r⟩:=h.at q;rw [if_pos (by omega),if_pos (by omega),Ce,List.getElem?_eq_getElem B,ma,Ce,List.getElem?_eq_getElem q,ma,y k l[i] f[i] d c r];generalize (Qg n).jj c l[i] d=o;cases o with
      | none=>rw [Qh,Qh]
      | some e =>
       rw [ma,ma];by_cases z:e.1≠0
       ·rw [if_pos z,if_pos z]
       ·rw [if_neg z,if_neg z];by_cases w:(i:Int)+1≤9223372036854775807
        ·rw [De (by omega),ma,ma];exact A (i+1) e.2
        ·rw [i64,if_neg (by omega),Qh,Qh]
     ·rw [if_neg (by omega),if_neg (by omega)]
   rw [ah,ah,h.1];have:=L (l.length+1) 0 node;rw [show ((0:Nat):Int)=0 from rfl] at this;rw [this]
  ·show jj n (Qg n) node a d=jj n (Qg n) node x d;cases k with
   | zero=>cases h
   | succ k =>
   obtain ⟨p,s,C,hB,D⟩:=h;have E:∀ c,po (Qg n) a d c=po (Qg n) x d c:=by
    intro c;rw [po,po,p];by_cases c3:x.Kind=3
    ·rw [if_pos c3,if_pos c3];generalize i64 (d+1)=o;cases o with
     | none=>rw [Qh,Qh]
     | some g=>rw [ma,ma,t k x.me a.me g c (D c3)]
    ·rw [if_neg c3,if_neg c3]
   have u:∀ (r:Int×Int) b,(b=true→x.Kind=3∨x.Kind=4)→qo (Qg n) a d r b=qo (Qg n) x d r b:=by
    intro r b F;rw [qo,qo];simp only [E];by_cases q:b=true
    ·rw [if_pos q,if_pos q];generalize i64 (d+1)=o;cases o with
     | none=>rw [Qh,Qh]
     | some g=>rw [ma,ma,t k x.Body a.Body g r.2 (hB (F q))]
    ·rw [if_neg q,if_neg q]
   have G:∀ (r:Int×Int) b,jm n (Qg n) a d r b=jm n (Qg n) x d r b:=by
    intro r b;rw [jm,jm,p];by_cases q:b=true
    ·rw [if_pos q,if_pos q]
    rw [if_neg q,if_neg q];by_cases ae:x.Kind=6
    ·rw [if_pos ae,if_pos ae]
    rw [if_neg ae,if_neg ae];generalize i64 (d+1)=o;cases o with
    | none=>rw [Qh,Qh]
    | some g =>
     rw [ma,ma,EI n k x.X a.X g r.2 (C ae)];generalize (Pg n).ei r.2 x.X g=o;cases o with
     | none=>rw [Qh,Qh]
     | some e =>
      rw [ma,ma];by_cases z:e.1≠0
      ·rw [if_pos z,if_pos z]
      rw [if_neg z,if_neg z];by_cases c3:x.Kind=3
      ·rw [if_pos c3,if_pos c3,u e true fun _=>.inl c3]
      ·rw [if_neg c3,if_neg c3,u e _ fun h=>.inr (of_decide_eq_true h)]
   have H:∀ (r:Int×Int) b,Qm n (Qg n) a d r b=Qm n (Qg n) x d r b:=by
    intro r b;rw [Qm,Qm,p];simp only [G];by_cases q:b=true
    ·rw [if_pos q,if_pos q]
    rw [if_neg q,if_neg q];by_cases jb:x.Kind=1
    ·rw [if_pos jb,if_pos jb,s (.inl jb)]
    rw [if_neg jb,if_neg jb];by_cases c2:x.Kind=2
    ·rw [if_pos c2,if_pos c2,s (.inr (.inl c2))]
    rw [if_neg c2,if_neg c2];by_cases j:x.Kind=7
    ·rw [if_pos j,if_pos j,s (.inr (.inr j))]
    ·rw [if_neg j,if_neg j]
   rw [jj,jj,p];simp only [H]
theorem Oz (t:Sa):Lc (Lc t)=Lc t:=by
 unfold Lc;by_cases c:t.Kind≠3
 ·simp [c]
 ·simp [c]
theorem BA (fu:Nat) (t:Sa):Vm fu (Lc t)=Vm fu t:=by
 have a:=Kl (t:=t);have:∀ b,Zo fu (Lc t) b=Zo fu t b:=by
  intro b;rw [Zo,Zo,a];by_cases c:t.Kind=3
  ·have e:Lc t=t:=by rw [Lc,if_neg (by simpa using c)]
   rw [e]
  ·rw [if_neg c,if_neg c]
 rw [Vm,Vm,a,this,this]
theorem yJ (fu k:Nat) (d:sa) (node:Int) (xa:Vs k d):Co fu node (Oc k d)=Co fu node d:=by
 have a:(Oc k d).Kind=d.Kind:=rfl;have p:(Oc k d).Name=d.Name:=rfl;have s:∀ r:Int×Int,uo fu (Oc k d) r=uo fu d r:=by
  intro r;rw [uo,uo,a];by_cases c:d.Kind≠1
  ·have f:Dh (pn k) d.Body (Oc k d).Body:=by
    show Dh (pn k) d.Body (if d.Kind=1 then [] else d.Body.map (vh k));rw [if_neg c];exact Dh.map fun y t=>Ft k y (xa.2.2 y t)
   rw [if_pos c,if_pos c,(FI fu).1 k d.Body (Oc k d).Body 2 r.2 f]
  ·have u:(Oc k d).Jf=d.Jf:=by
    show (if d.Kind=1 then d.Jf else 0)=d.Jf;rw [if_pos (Decidable.not_not.1 c)]
   rw [if_neg c,if_neg c,u]
 have x:∀ r:Int×Int,vo fu (Oc k d) r=vo fu d r:=by
  intro r;rw [vo,vo,a];simp only [s];by_cases c:d.Kind≠4
  ·have g:(Oc k d).vb=Lc d.vb:=by
    show (if d.Kind≠4 then Lc d.vb else _)=_;rw [if_pos c]
   rw [if_pos c,if_pos c,g,BA]
  ·rw [if_neg c,if_neg c]
 have j:∀ r:Int×Int,Rm fu (Oc k d) r=Rm fu d r:=by
  intro r;rw [Rm,Rm,a];simp only [x];by_cases c:d.Kind=3
  ·have g:(Oc k d).Cd=Lc d.Cd:=by
    show (if d.Kind=3 then Lc d.Cd else _)=_;rw [if_pos c]
   rw [if_pos c,if_pos c,g,BA]
  ·rw [if_neg c,if_neg c]
 have l:∀ (r:Int×Int) b,(b=true→d.Kind=2∨d.Kind=3)→xo fu (Oc k d) r b=xo fu d r b:=by
  intro r b f;rw [xo,xo];simp only [j];by_cases q:b=true
  ·have n:(Oc k d).Params=d.Params.map (fun q=>TParam.mk q.Name (Lc q.vb)):=by
    show (if d.Kind=2∨d.Kind=3 then _ else _)=_;rw [if_pos (f q)]
   have L:∀ (m i:Nat),wo fu (Oc k d) r m i=wo fu d r m i:=by
    intro m
    induction m with
    | zero=>intro i; rfl
    | succ m A =>
     intro i;rw [wo,wo,n,List.length_map];by_cases w:i<d.Params.length
     ·rw [if_pos (by omega),if_pos (by omega),Ce,List.getElem?_map,List.getElem?_eq_getElem w,Ce,List.getElem?_eq_getElem w,ma];simp only [Option.map_some,ma];rw [BA];generalize ai fu d.Params[i].Name=o;cases o with
      | none=>rw [Qh,Qh]
      | some v =>
       rw [ma,ma];by_cases y:v=true
       ·rw [if_pos y,if_pos y];generalize Vm fu d.Params[i].vb=o;cases o with
        | none=>rw [Qh,Qh]
        | some e =>
         rw [ma,ma];by_cases z:e≠0
         ·rw [if_pos z,if_pos z]
         ·rw [if_neg z,if_neg z];have hle:=xa.1;rw [De (by omega),ma,ma];exact A (i+1)
       ·rw [if_neg y,if_neg y]
     ·rw [if_neg (by omega),if_neg (by omega),j]
   have e:=L (d.Params.length+1) 0;rw [show ((0:Nat):Int)=0 from rfl] at e;rw [if_pos q,if_pos q,n,List.length_map,e]
  ·rw [if_neg q,if_neg q]
 have B:∀ (r:Int×Int) b,Sm fu (Oc k d) r b=Sm fu d r b:=by
  intro r b;rw [Sm,Sm,a,p];by_cases c2:d.Kind=2
  ·rw [if_pos c2,if_pos c2,l r true fun _=>.inl c2]
  ·rw [if_neg c2,if_neg c2,l r _ fun h=>.inr (of_decide_eq_true h)]
 rw [Co,Co,a];simp only [B]
theorem MH (fu k:Nat) (l:List sa) (ia:Lm k l):zo fu (l.map (Oc k))=zo fu l:=by
 have L:∀ (m i:Nat) (c:Int),ho fu (l.map (Oc k)) m i c=ho fu l m i c:=by
  intro m
  induction m with
  | zero=>intro i c; rfl
  | succ m a =>
   intro i c;rw [ho,ho,List.length_map];by_cases w:i<l.length
   ·rw [if_pos (by omega),if_pos (by omega),Ce,List.getElem?_map,List.getElem?_eq_getElem w,Ce,List.getElem?_eq_getElem w,ma];simp only [Option.map_some,ma];rw [yJ fu k _ c (ia.2 _ (List.getElem_mem w))];generalize Co fu c l[i]=o;cases o with
    | none=>rw [Qh,Qh]
    | some e =>
     rw [ma,ma];by_cases z:e.1≠0
     ·rw [if_pos z,if_pos z]
     ·have:=ia.1;rw [if_neg z,if_neg z,De (by omega),ma,ma];exact a (i+1) e.2
   ·rw [if_neg (by omega),if_neg (by omega)]
 rw [zo,zo,List.length_map];have:=L (l.length+1) 0 0;rw [show ((0:Nat):Int)=0 from rfl] at this;rw [this]
end Go.Y
namespace Go.Y
open Go.Rb Go.ec
theorem CA (k:Nat) (d:sa):il d (Oc k d):=by
 refine ⟨rfl,fun h=>?_,fun h=>?_,fun h=>?_⟩
 ·show Lc (if d.Kind≠4 then Lc d.vb else _)=_;rw [if_pos h,Oz]
 ·show Lc (if d.Kind=3 then Lc d.Cd else _)=_;rw [if_pos h,Oz]
 ·show (if d.Kind=2∨d.Kind=3 then d.Params.map (fun q=>TParam.mk q.Name (Lc q.vb)) else []).map (fun q=>(q.Name,Lc q.vb))=_;rw [if_pos h,List.map_map];apply List.map_congr_left;intro q _;simp [Oz]
def lj (k:Nat) (N:List (Nm×sa)):List (Nm×sa):=N.map fun x=>(x.1,Oc k x.2)
theorem Nx (k:Nat):∀ (N:List (Nm×sa)) (n:Nm),Ua (lj k N) n=(Ua N n).map (Oc k)
 | [],n=>rfl
 | (a,d)::N,n=>by
  show Ua ((a,Oc k d)::lj k N) n=_;rw [Ua,Ua];by_cases c:a=n
  ·rw [if_pos c,if_pos c];rfl
  ·rw [if_neg c,if_neg c,Nx k N n]
theorem nD (k:Nat):∀ (N:List (Nm×sa)) (n:Nm) (d:sa),zd (lj k N) n (Oc k d)=lj k (zd N n d)
 | [],n,d=>rfl
 | (a,e)::N,n,d=>by
  show zd ((a,Oc k e)::lj k N) n (Oc k d)=_;rw [zd,zd];by_cases c:a=n
  ·rw [if_pos c,if_pos c];rfl
  ·rw [if_neg c,if_neg c,nD k N n d];rfl
theorem JE (k:Nat) (l a:List sa) (N:List (Nm×sa)) (n:Nm):ie ⟨l,N⟩ ⟨a,lj k N⟩ n:=by
 have h:=Nx k N n;cases e:Ua N n with
 | none=>rw [e] at h; exact .inl ⟨e,h⟩
 | some d=>rw [e] at h; exact .inr ⟨d,_,e,h,CA k d⟩
theorem SF {p dc:pb}(b:∀ n,ie p dc n):∀ (k:Nat) (x a:Da) (m:Nat),lu k x a→Gj p dc m x a
 | 0,x,a,m,h=>by cases h
 | k+1,x,a,0,h=>trivial
 | k+1,x,a,m+1,h=>by
  obtain ⟨j,o,d,f⟩:=h;refine ⟨j,fun c=>d (.inl c),fun c=>⟨d (by rcases c with c | c | c<;>simp [c]),b _⟩,f.1,fun i y l=>?_⟩;obtain ⟨g,e,r⟩:=f.2 i y l;exact ⟨g,e,SF b k y g m r⟩
theorem JB {p dc:pb}(d:∀ n,ie p dc n):∀ (k:Nat) (x a:Ea) (m:Nat),pn k x a→ct p dc m x a
 | 0,x,a,m,h=>by cases h
 | k+1,x,a,0,h=>trivial
 | k+1,x,a,m+1,h=>by
  obtain ⟨o,g,q,j,l⟩:=h;refine ⟨o,fun c=>g (by rcases c with c | c<;>simp [c]),fun c=>⟨g (by simp [c]),d _⟩,fun c=>SF d k _ _ m (q c),fun c=>⟨(j c).1,fun i y f=>?_⟩,fun c=>⟨(l c).1,fun i y f=>?_⟩⟩
  ·obtain ⟨b,e,r⟩:=(j c).2 i y f;exact ⟨b,e,JB d k y b m r⟩
  ·obtain ⟨b,e,r⟩:=(l c).2 i y f;exact ⟨b,e,JB d k y b m r⟩
theorem GI (k m:Nat){p dc:pb}(a:∀ n,ie p dc n) (d:sa) (xa:Vs k d) (k1:d.Kind≠1):Dh (ct p dc m) d.Body (Oc k d).Body:=by
 show Dh (ct p dc m) d.Body (if d.Kind=1 then [] else d.Body.map (vh k));rw [if_neg k1];exact Dh.map fun y b=>JB a k y _ m (Ft k y (xa.2.2 y b))
section
variable {fu k:Nat}{l:List sa}
theorem TK (f:500≤fu) (ok:vv l) (ia:Lm k l) (N:List (Nm×sa)) (g:∀ n d,Ua N n=some d→d ∈ l) (a:∀ d ∈ l,vm ⟨l,N⟩ d):∀ (m i:Nat),rn fu (l.map (Oc k)) (lj k N) m i=(rn fu l N m i).map fun r=>(⟨l.map (Oc k),lj k r.1.named⟩,r.2):=by
 have hle:=ok.le;intro m
 induction m with
 | zero=>intro i; rfl
 | succ m h =>
  intro i;rw [rn,rn,List.length_map];by_cases c:i<l.length
  ·have b:=JE k l (l.map (Oc k)) N;have hm:l[i] ∈ l:=List.getElem_mem c;have e:=DI fu f ⟨l,N⟩ ⟨l.map (Oc k),lj k N⟩ l[i] (Oc k l[i]) (fun n d _=>b n) (fun n d xa=>a d (g n d xa)) (a _ hm) (ok.ok _ hm) (CA k _) fun k1=>GI k 39 b _ (ia.2 _ hm) k1;rw [if_pos (by omega),if_pos (by omega),Ce,List.getElem?_map,List.getElem?_eq_getElem c,Ce,List.getElem?_eq_getElem c,ma];simp only [Option.map_some,ma];rw [e];generalize Tm fu ⟨l,N⟩ l[i]=o;cases o with
   | none=>rw [Qh,Qh]; rfl
   | some r =>
    rw [ma,ma];by_cases z:r≠0
    ·rw [if_pos z,if_pos z];rfl
    ·rw [if_neg z,if_neg z,De (by omega),ma,ma];exact h (i+1)
  ·rw [if_neg (by omega),if_neg (by omega)];rfl
theorem UK (a:500≤fu) (ok:vv l) (ia:Lm k l) (N:List (Nm×sa)) (b:∀ n d,Ua N n=some d→d ∈ l):∀ (m i:Nat),i≤l.length→(∀ d ∈ l.take i,vm ⟨l,N⟩ d)→sn fu (l.map (Oc k)) (lj k N) m i=(sn fu l N m i).map fun r=>(⟨l.map (Oc k),lj k r.1.named⟩,r.2):=by
 have hle:=ok.le;intro m
 induction m with
 | zero=>intro i _ _; rfl
 | succ m f =>
  intro i o g;rw [sn,sn,List.length_map];by_cases c:i<l.length
  ·have h:=JE k l (l.map (Oc k)) N;have hm:l[i] ∈ l:=List.getElem_mem c;have e:=CI ⟨l,N⟩ ⟨l.map (Oc k),lj k N⟩ l[i] (Oc k l[i]) (ok.ok _ hm) (CA k _) fun _ q _ _=>h _;obtain ⟨r,qa,j⟩:=PC ⟨l,N⟩ l[i] (ok.ok _ hm);rw [if_pos (by omega),if_pos (by omega),Ce,List.getElem?_map,List.getElem?_eq_getElem c,Ce,List.getElem?_eq_getElem c,ma];simp only [Option.map_some,ma];rw [e,qa,ma,ma];by_cases z:r≠0
   ·rw [if_pos z,if_pos z];rfl
   ·rw [if_neg z,if_neg z,De (by omega),ma,ma];refine f (i+1) c fun d xa=>?_;rw [List.take_succ_eq_append_getElem c] at xa;rcases List.mem_append.1 xa with xa | xa
    ·exact g d xa
    ·rw [List.mem_singleton.1 xa];exact j (Decidable.not_not.1 z)
  ·rw [if_neg (by omega),if_neg (by omega)];rw [List.take_of_length_le (by omega)] at g;exact TK a ok ia N b g _ 0
theorem VK (f:500≤fu) (ok:vv l) (ia:Lm k l):∀ (m i:Nat) (t:Int) (N:List (Nm×sa)),(∀ n d,Ua N n=some d→d ∈ l)→tn fu (l.map (Oc k)) m t i (lj k N)=(tn fu l m t i N).map fun r=>(⟨l.map (Oc k),lj k r.1.named⟩,r.2):=by
 have hle:=ok.le;intro m
 induction m with
 | zero=>intro i t N _; rfl
 | succ m a =>
  intro i t N b;rw [tn,tn,List.length_map];by_cases c:i<l.length
  ·have nb:at_ l (i:Int)=some l[i]:=by rw [Ce,List.getElem?_eq_getElem c]
   have qa:at_ (l.map (Oc k)) (i:Int)=some (Oc k l[i]):=by rw [Ce,List.getElem?_map,List.getElem?_eq_getElem c];rfl
   have g:(Ua (lj k N) l[i].Name).isSome=(Ua N l[i].Name).isSome:=by rw [Nx,Option.isSome_map]
   have e:∀ n d,Ua (zd N l[i].Name l[i]) n=some d→d ∈ l:=by
    intro n d xa;rw [Mj] at xa;split at xa
    ·obtain rfl:=Option.some.inj xa;exact List.getElem_mem c
    ·exact b n d xa
   rw [if_pos (by omega),if_pos (by omega),nb,qa,ma,ma,ma,ma,ma,ma,ma,ma];show (if (Ua (lj k N) l[i].Name).isSome=true then _ else _)=_;rw [g];by_cases q:(Ua N l[i].Name).isSome=true
   ·rw [if_pos q,if_pos q];rfl
   ·rw [if_neg q,if_neg q];show (if l[i].Kind=4 then _ else _)=_;have h:zd (lj k N) (Oc k l[i]).Name (Oc k l[i])=lj k (zd N l[i].Name l[i]):=nD k N l[i].Name l[i];rw [h];by_cases Ue:l[i].Kind=4
    ·rw [if_pos Ue,if_pos Ue];generalize i64 (t+1)=o;cases o with
     | none=>rw [Qh,Qh]; rfl
     | some ib =>
      rw [ma,ma,De (by omega),ma,ma];exact a (i+1) ib _ e
    ·rw [if_neg Ue,if_neg Ue,De (by omega),ma,ma];exact a (i+1) t _ e
  ·have c':¬ (i:Int)<(l.length:Int):=by omega
   rw [if_neg c',if_neg c'];by_cases t0:t=0
   ·rw [if_pos t0,if_pos t0];rfl
   ·rw [if_neg t0,if_neg t0];exact UK f ok ia N b _ 0 (by omega) (by simp)
theorem NH (a:500≤fu) (ia:Lm k l):yo fu (l.map (Oc k))=(yo fu l).map fun r=>(⟨l.map (Oc k),lj k r.1.named⟩,r.2):=by
 obtain ⟨f,b,c⟩:=Gx fu (by omega) l;rw [yo,yo,MH fu k l ia,b,ma,ma];by_cases z:f.Hg≠0
 ·rw [if_pos z,if_pos z];rfl
 ·obtain ⟨-,ok⟩:=c (Decidable.not_not.1 z);rw [if_neg z,if_neg z,List.length_map];exact VK a ok ia _ 0 0 [] fun n d h=>by cases h
end
theorem Lt {α β:Type}{R:α→α→Prop}(f:α→β) (c:∀ y a,R y a→f a=f y){l b:List α}(h:Dh R l b):b.map f=l.map f:=by
 apply List.ext_getElem?;intro i;rw [List.getElem?_map,List.getElem?_map];cases e:l[i]? with
 | none =>
  have d:l.length≤i:=List.getElem?_eq_none_iff.1 e;rw [List.getElem?_eq_none (by rw [h.1];exact d)]
 | some y =>
  obtain ⟨a,g,r⟩:=h.2 i y e;rw [g];exact congrArg some (c y a r)
theorem ry:∀ (m k:Nat) (x a:Da),lu k x a→Xi m a=Xi m x∧tj m a=tj m x
 | 0,k,x,a,h=>⟨rfl,rfl⟩
 | m+1,0,x,a,h=>by cases h
 | m+1,k+1,x,a,h=>by
  obtain ⟨f,g,d,e⟩:=h;rw [Xi,Xi,tj,tj,f,Lt (Xi m) (fun y b r=>(ry m k y b r).1) e,Lt (tj m) (fun y b r=>(ry m k y b r).2) e];constructor
  ·by_cases c:x.Kind=19∨x.Kind=22
   ·rw [if_pos c,if_pos c,d (by rcases c with c | c<;>simp [c])]
   ·rw [if_neg c,if_neg c]
  ·by_cases c:x.Kind=20
   ·rw [if_pos c,if_pos c,d (by simp [c])]
   ·rw [if_neg c,if_neg c]
theorem Wu:∀ (m k:Nat) (x a:Ea),pn k x a→Di m a=Di m x∧Yi m a=Yi m x∧Zi m a=Zi m x
 | 0,k,x,a,h=>⟨rfl,rfl,rfl⟩
 | m+1,0,x,a,h=>by cases h
 | m+1,k+1,x,a,h=>by
  obtain ⟨g,i,e,j,l⟩:=h;have oa:(if x.Kind=6 then [] else Xi m a.X)=(if x.Kind=6 then [] else Xi m x.X)∧(if x.Kind=6 then [] else tj m a.X)=(if x.Kind=6 then [] else tj m x.X):=by
   by_cases c:x.Kind=6
   ·rw [if_pos c,if_pos c,if_pos c,if_pos c];exact ⟨rfl,rfl⟩
   ·rw [if_neg c,if_neg c,if_neg c,if_neg c,(ry m k _ _ (e c)).1,(ry m k _ _ (e c)).2];exact ⟨rfl,rfl⟩
  have a2:∀ f:Ea→List Nm,(∀ y b,pn k y b→f b=f y)→(if x.Kind=3∨x.Kind=4 then (a.Body.map f).flatten else [])=(if x.Kind=3∨x.Kind=4 then (x.Body.map f).flatten else []):=by
   intro f d;by_cases c:x.Kind=3∨x.Kind=4
   ·rw [if_pos c,if_pos c,Lt f d (j c)]
   ·rw [if_neg c,if_neg c]
  have a3:∀ f:Ea→List Nm,(∀ y b,pn k y b→f b=f y)→(if x.Kind=3 then (a.me.map f).flatten else [])=(if x.Kind=3 then (x.me.map f).flatten else []):=by
   intro f d;by_cases c:x.Kind=3
   ·rw [if_pos c,if_pos c,Lt f d (l c)]
   ·rw [if_neg c,if_neg c]
  have a4:(if x.Kind=7 then [a.Name] else [])=(if x.Kind=7 then [x.Name] else []):=by
   by_cases c:x.Kind=7
   ·rw [if_pos c,if_pos c,i (by simp [c])]
   ·rw [if_neg c,if_neg c]
  have f1:=fun y b r=>(Wu m k y b r).1;have f2:=fun y b r=>(Wu m k y b r).2.1;have f3:=fun y b r=>(Wu m k y b r).2.2;rw [Di,Di,Yi,Yi,Zi,Zi,g,oa.1,oa.2,a2 _ f1,a2 _ f2,a2 _ f3,a3 _ f1,a3 _ f2,a3 _ f3,a4];exact ⟨rfl,rfl,rfl⟩
theorem WK (k:Nat) (d:sa) (xa:Vs k d) (k1:d.Kind≠1):Ci (Oc k d)=Ci d∧nn (Oc k d)=nn d∧mn (Oc k d)=mn d:=by
 have b:Dh (pn k) d.Body (Oc k d).Body:=by
  show Dh (pn k) d.Body (if d.Kind=1 then [] else d.Body.map (vh k));rw [if_neg k1];exact Dh.map fun y c=>Ft k y (xa.2.2 y c)
 refine ⟨?_,?_,?_⟩
 ·rw [Ci,Ci,Lt _ (fun y a r=>(Wu 39 k y a r).1) b]
 ·rw [nn,nn,Lt _ (fun y a r=>(Wu 39 k y a r).2.1) b]
 ·rw [mn,mn,Lt _ (fun y a r=>(Wu 39 k y a r).2.2) b]
theorem hA (k:Nat) (N:List (Nm×sa)):∀ (cs a:List Nm) (todo:List (Option sa)),Oi (lj k N) cs a (todo.map (Option.map (Oc k)))=((Oi N cs a todo).1,(Oi N cs a todo).2.map (Option.map (Oc k)))
 | [],a,todo=>rfl
 | c::cs,a,todo=>by
  rw [Oi,Oi];split
  ·exact hA k N cs a todo
  ·rw [Nx];have:=hA k N cs (a++[c]) (todo++[Ua N c]);rw [List.map_append,List.map_singleton] at this;exact this
theorem eE {p:pb}{l:List sa}(R:an p l) (k:Nat) (ia:Lm k l):∀ (n:Nat) (b:List Nm) (todo:List (Option sa)) (s r:List Nm),(∀ o ∈ todo,∃ d ∈ l,o=some d∧d.Kind≠1)→Kk (lj k p.named) n b (todo.map (Option.map (Oc k))) s r=Kk p.named n b todo s r
 | 0,b,todo,s,r,g=>by cases todo <;> rfl
 | n+1,b,[],s,r,g=>rfl
 | n+1,b,none::t,s,r,g=>rfl
 | n+1,b,some d::t,s,r,g=>by
  obtain ⟨i,xa,e,k1⟩:=g _ (List.mem_cons_self ..);obtain rfl:=Option.some.inj e;obtain ⟨jb,c2,c3⟩:=WK k d (ia.2 d xa) k1;show Kk (lj k p.named) (n+1) b (some (Oc k d)::t.map (Option.map (Oc k))) s r=_;rw [Kk,Kk,jb,c2,c3,hA];refine eE R k ia n _ _ _ _ ?_;have j:∀ c ∈ Ci d,∃ i,Ua p.named c=some i∧(i.Kind=2∨i.Kind=3):=fun c j=>by
   obtain ⟨a,u,v⟩:=Xv j;exact gy 39 a (R.cs d xa k1 a u) c v
  have w:∀ (cs b:List Nm) (todo:List (Option sa)),(∀ c ∈ cs,∃ d,Ua p.named c=some d∧(d.Kind=2∨d.Kind=3))→(∀ o ∈ todo,∃ d ∈ l,o=some d∧d.Kind≠1)→∀ o ∈ (Oi p.named cs b todo).2,∃ d ∈ l,o=some d∧d.Kind≠1:=by
   intro cs
   induction cs with
   | nil=>intro b todo _ g; exact g
   | cons c cs m =>
    intro b todo h g;have q:∀ c ∈ cs,∃ d,Ua p.named c=some d∧(d.Kind=2∨d.Kind=3):=fun x y=>h x (List.mem_cons_of_mem _ y);rw [Oi];split
    ·exact m b todo q g
    ·refine m _ _ q fun o f=>?_;rcases List.mem_append.1 f with f | f
     ·exact g o f
     ·obtain ⟨d,qa,z⟩:=h c (List.mem_cons_self ..);rw [List.mem_singleton.1 f];exact ⟨d,(R.only _ _ qa).1,qa,by omega⟩
  exact w _ _ _ j fun o f=>g o (List.mem_cons_of_mem _ f)
theorem iA {p:pb}{l:List sa}(R:an p l) (k:Nat) (ia:Lm k l) (fu:Nat):∀ (xs:List sa) (L:List (Nm×jf)),(∀ x ∈ xs,x ∈ l)→Xj (lj k p.named) fu (xs.map (Oc k)) L=Xj p.named fu xs L
 | [],L,h=>rfl
 | x::xs,L,h=>by
  have a:∀ x ∈ xs,x ∈ l:=fun y b=>h y (List.mem_cons_of_mem _ b);rw [List.map_cons,Xj,Xj];show (if x.Kind=4 then _ else _)=_;by_cases c:x.Kind=4
  ·have e:=eE R k ia fu [] [some x] [] [] fun o d=>⟨x,h x (List.mem_cons_self ..),List.mem_singleton.1 d,by omega⟩;have f:Kk (lj k p.named) fu [] [some (Oc k x)] [] []=Kk p.named fu [] [some x] [] []:=e;rw [if_pos c,if_pos c,f];exact iA R k ia fu xs _ a
  ·rw [if_neg c,if_neg c];exact iA R k ia fu xs _ a
theorem jA (k:Nat) (L:List (Nm×jf)) (b:Nm):∀ (la:List sa) (w r:Nm),Pk L b (la.map (Oc k)) w r=Pk L b la w r
 | [],w,r=>rfl
 | t::la,w,r=>by
  rw [List.map_cons,Pk,Pk];show (if t.Kind≠4 then Pk L b (la.map (Oc k)) w r else if ((Ua L t.Name).getD Uk).Dk.contains b=true∧w≠[] then none else if ((Ua L t.Name).getD Uk).Rj.contains b=true∧r≠[] then none else Pk L b (la.map (Oc k)) (if ((Ua L t.Name).getD Uk).Dk.contains b=true then t.Name else w) (if ((Ua L t.Name).getD Uk).Rj.contains b=true then t.Name else r))=_;rw [jA k L b la,jA k L b la]
theorem kA (k:Nat) (L:List (Nm×jf)) (l:List sa):∀ (xs:List sa) (i:Int) (acc:List Rh),Dm L (l.map (Oc k)) (xs.map (Oc k)) i acc=Dm L l xs i acc
 | [],i,acc=>rfl
 | x::xs,i,acc=>by
  rw [List.map_cons,Dm,Dm,jA];show (if x.Kind≠1 then Dm L (l.map (Oc k)) (xs.map (Oc k)) (i+1) acc else match Pk L x.Name l [] [] with | none=>([],⟨8,i⟩) | some (w,r)=>Dm L (l.map (Oc k)) (xs.map (Oc k)) (i+1) (acc++[⟨x.Name,w,r⟩]))=_;rw [kA k L l xs];split
  ·rfl
  ·cases Pk L x.Name l [] [] with
   | none=>rfl
   | some v=>exact kA k L l xs _ _
theorem jH (fu k:Nat) (a:500≤fu) (l:List sa) (ia:Lm k l):Uq fu (l.map (Oc k))=Uq fu l∧∃ r,Uq fu l=some r:=by
 obtain ⟨p,f,c,d⟩:=ox fu a l;obtain ⟨dc,e,g1,g2⟩:=ox fu a (l.map (Oc k));rw [NH a ia,c] at g1;obtain ⟨rfl,rfl⟩:=Prod.mk.inj (Option.some.inj g1);rcases d with ⟨z,h⟩ | ⟨z,R,h⟩
 ·rcases g2 with ⟨-,g⟩ | ⟨b,-⟩
  ·exact ⟨g.trans h.symm,_,h⟩
  ·exact absurd b z
 ·rcases g2 with ⟨b,-⟩ | ⟨-,-,g⟩
  ·exact absurd z b
  ·refine ⟨?_,_,h⟩;rw [g,h];simp only [];rw [iA R k ia fu l [] fun x h=>h,kA]
end Go.Y
