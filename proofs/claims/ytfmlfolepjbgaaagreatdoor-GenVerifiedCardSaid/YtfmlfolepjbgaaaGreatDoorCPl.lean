/- Texts of GenVerified Pl. -/
import Derived.Test.YtfmlfolepjbgaaaGreatDoorCMd
import Derived.KernelRfl
set_option linter.unusedSimpArgs false
set_option linter.unusedVariables false
set_option linter.unusedSectionVars false
namespace Go.Y
open Go.oc Go.sd
theorem Td {n:Int}(h:-9223372036854775808≤n∧n≤9223372036854775807):i64 n=some n:=if_pos h
theorem pa {α β:Type}{x:α}{f:α→Option β}:Option.bind (some x) f=f x:=rfl
theorem sf {α:Type}{l:List α}{i:Nat}:at_ l (i:Int)=l[i]?:=by simp [at_]
theorem Ez {α:Type}{l:List α}(h:0<l.length):at_ l 0=some l[0]:=by simp [at_,h]
theorem zA (c:UInt8):∃ b,Dp c=some b:=by
 unfold Dp;split
 ·split<;>exact ⟨_,rfl⟩
 ·exact ⟨_,rfl⟩
theorem qF (c:UInt8):∃ b,Hp c=some b:=by
 unfold Hp;split<;>exact ⟨_,rfl⟩
theorem vH (c:UInt8):∃ b,Vp c=some b:=by
 obtain ⟨a,d⟩:=zA c;obtain ⟨b,e⟩:=qF c;unfold Vp;rw [d,pa,e,pa];split<;>exact ⟨_,rfl⟩
theorem RA (l:List UInt8) (p:UInt8→Option Bool) (a:∀ c,∃ b,p c=some b) (qa:l.length≤65536):∀ (n i:Nat),i≤l.length→l.length<n+i→∃ r,Fl l p n (i:Int)=some r
 | 0,i,d,e=>by omega
 | n+1,i,d,e=>by
  rw [Fl];by_cases c:i<l.length
  ·obtain ⟨b,f⟩:=a l[i];rw [if_pos (by omega),sf,List.getElem?_eq_getElem c,pa,f,pa];cases b with
   | true=>rw [np,if_pos rfl,Td (by omega),pa]; exact RA l p a qa n (i+1) c (by omega)
   | false=>exact ⟨_,rfl⟩
  ·rw [if_neg (by omega)];exact ⟨_,rfl⟩
theorem Xr (fu:Nat) (i:20≤fu) (s:List UInt8):∃ b,lh fu s=some b:=by
 have a:∀ b,(b=true∨s.length≤12)→∃ r,xm fu s b=some r:=by
  intro b c;cases b with
  | true=>exact ⟨_,rfl⟩
  | false =>
   have hs:s.length≤12:=by simpa using c
   obtain ⟨r,f⟩:=RA s Vp vH (by omega) fu 0 (by omega) (by omega);have g:Cq fu s Vp=some r:=f;exact ⟨_,by rw [xm,if_neg (by decide),g,pa]⟩
 rw [lh];by_cases d:(s.length:Int)<1
 ·rw [if_pos d];exact a _ (.inl rfl)
 ·rw [if_neg d];by_cases e:(12:Int)<s.length
  ·rw [if_pos e];exact a _ (.inl rfl)
  ·have h:0<s.length:=by omega
   obtain ⟨b,c⟩:=zA s[0];rw [if_neg e,Ez h,pa,c,pa];cases b with
   | false=>rw [if_neg (by decide)]; exact a _ (.inl rfl)
   | true =>
    rw [if_pos rfl,cat,if_pos (by simp;omega),pa,cat,if_pos (by simp;omega),pa,Zw,if_pos (by decide +kernel),pa];exact a _ (.inr (by omega))
def Sh (k:Int):Int:=if k≤3∨k=20 then 0 else if k≤5∨k=21∨k=24 then 1 else if k≤18∨k=23 then 2 else -1
theorem SA (k:Int):mu k=some (Sh k):=by
 unfold mu Sh;by_cases a:k≤3
 ·rw [if_pos a,if_pos (.inl a)];rfl
 ·rw [if_neg a];by_cases b:k=20
  ·rw [decide_eq_true b,if_pos (.inr b)];rfl
  ·rw [decide_eq_false b,Lt,if_neg (by decide),if_neg (show ¬ (k≤3∨k=20) by omega)];by_cases c:k≤5
   ·rw [if_pos c,if_pos (.inl c)];rfl
   ·rw [if_neg c];by_cases d:k=21
    ·rw [if_pos d,if_pos (.inr (.inl d))];rfl
    ·rw [if_neg d];by_cases e:k=24
     ·rw [decide_eq_true e,if_pos (.inr (.inr e))];rfl
     ·rw [decide_eq_false e,Mr,if_neg (by decide),if_neg (show ¬ (k≤5∨k=21∨k=24) by omega)];by_cases f:k≤18
      ·rw [if_pos f,if_pos (.inl f)];rfl
      ·rw [if_neg f];by_cases g:k=23
       ·rw [decide_eq_true g,if_pos (.inr g)];rfl
       ·rw [decide_eq_false g,if_neg (show ¬ (k≤18∨k=23) by omega)];rfl
theorem Yx (node d:Int) (a:0≤node) (b:node≤4294967296):∃ e,Dq node d=some (e,node+1)∧(e=0→node+1≤2000∧d≤40):=by
 unfold Dq;rw [Td (by omega),pa];by_cases c:2000<node+1
 ·rw [if_pos c];exact ⟨4,rfl,fun h=>absurd h (by decide)⟩
 ·rw [if_neg c];by_cases e:40<d
  ·rw [decide_eq_true e];exact ⟨4,rfl,fun h=>absurd h (by decide)⟩
  ·rw [decide_eq_false e];exact ⟨0,rfl,fun _=>⟨by omega,by omega⟩⟩
structure fz (x:sb):Prop where
 eq:0≤Sh x.Kind→(x.Kids.length:Int)=Sh x.Kind
 le:x.Kids.length≤6
def Eh:Nat→sb→Prop
 | 0,_=>False
 | k+1,x=>1≤x.Kind∧x.Kind≤24∧fz x∧∀ y ∈ x.Kids,Eh k y
def xh:Nat→sb→Nat
 | 0,_=>0
 | k+1,x=>1+(x.Kids.map (xh k)).sum
theorem wH (k:Int):Sh k≤2:=by
 unfold Sh;split
 ·decide
 ·split
  ·decide
  ·split<;>decide
theorem rF:∀ (n:Nat) (x:sb) (d node:Int),62≤n+d→0≤d→d≤41→0≤node→node≤2000 →
  ∃ e k,(ri n).si node x d=some (e,k)∧node≤k∧(e=0→k≤2000∧Eh (41 - d).toNat x∧k=node+(xh (41 - d).toNat x:Nat)):=by
 intro n
 induction n with
 | zero=>intro x d node C t u; omega
 | succ n D =>
  intro x d node C t u E Y;show ∃ e k,si n (ri n) node x d=some (e,k)∧_;obtain ⟨b,F⟩:=Xr n (by omega) x.Name;obtain ⟨e,H,he⟩:=Yx node d E (by omega);rw [si,H,pa];by_cases c:e=0
  ·subst c;obtain ⟨Z,ya⟩:=he rfl;rw [if_neg (by simp)];have K:(41 - d).toNat=(40 - d).toNat+1:=by omega
   rw [K];generalize a:(fun o:Option (Int×Int)=>∃ e k,o=some (e,k)∧node≤k∧(e=0→k≤2000∧Eh ((40 - d).toNat+1) x∧k=node+(xh ((40 - d).toNat+1) x:Nat)))=P;have bad:∀ e:Int,e≠0→P (some (e,node+1)):=fun e h=>by rw [← a];exact ⟨e,_,rfl,by omega,fun M=>absurd M h⟩
   have L:x.Kids.length≤6→∀ (m i:Nat) (c:Int),i≤x.Kids.length→x.Kids.length<m+i→0≤c→c≤2000 →
     ∃ e k,ik (ri n) x d m i c=some (e,k)∧c≤k∧(e=0→k≤2000∧(∀ y ∈ x.Kids.drop i,Eh (40 - d).toNat y)∧k=c+(((x.Kids.drop i).map (xh (40 - d).toNat)).sum:Nat)):=by
    intro qa m
    induction m with
    | zero=>intro i c t u; omega
    | succ m N =>
     intro i c g1 g2 g3 g4;rw [ik];by_cases q:i<x.Kids.length
     ·obtain ⟨e,k,na,Q,R⟩:=D x.Kids[i] (d+1) c (by omega) (by omega) (by omega) g3 g4;rw [if_pos (by omega),sf,List.getElem?_eq_getElem q,pa,Td (by omega),pa,na,pa];by_cases z:e=0
      ·subst z;obtain ⟨f1,f2,f3⟩:=R rfl;rw [if_neg (by simp),Td (by omega),pa];obtain ⟨S,T,g,U,j⟩:=N (i+1) k q (by omega) (by omega) f1;refine ⟨S,T,g,by omega,fun l=>?_⟩;obtain ⟨s1,s2,v⟩:=j l;have W:(41 - (d+1)).toNat=(40 - d).toNat:=by omega
       rw [W] at f2 f3;refine ⟨s1,fun y f=>?_,?_⟩
       ·rw [List.drop_eq_getElem_cons q] at f;rcases List.mem_cons.1 f with rfl | f
        ·exact f2
        ·exact s2 y f
       ·rw [List.drop_eq_getElem_cons q,List.map_cons,List.sum_cons];omega
      ·rw [if_pos z];exact ⟨e,k,rfl,Q,fun h=>absurd h z⟩
     ·rw [if_neg (by omega),List.drop_eq_nil_of_le (by omega)];exact ⟨0,c,rfl,by omega,fun _=>⟨g4,by simp,by simp⟩⟩
   by_cases bg:1≤x.Kind∧x.Kind≤24
   ·have p:∀ b,(b=false→fz x)→P (lo (ri n) x d (0,node+1) b):=by
     intro b h;cases b with
     | true=>exact bad 5 (by decide)
     | false =>
      have w:=h rfl;rw [lo,if_neg (by decide),← a];obtain ⟨e,k,g,U,j⟩:=L w.le (x.Kids.length+1) 0 (node+1) (by omega) (by omega) (by omega) (by omega);refine ⟨e,k,g,by omega,fun l=>?_⟩;obtain ⟨s1,s2,v⟩:=j l;rw [List.drop_zero] at s2 v;exact ⟨s1,⟨bg.1,bg.2,w,s2⟩,by rw [xh];omega⟩
    have gc:=wH x.Kind;have A:∀ b,(b=false→0≤Sh x.Kind→(x.Kids.length:Int)=Sh x.Kind)→P (mo (ri n) x d (0,node+1) (Sh x.Kind) b):=by
     intro b h;cases b with
     | true=>rw [mo,if_pos rfl]; exact p _ (fun h=>absurd h (by decide))
     | false =>
      rw [mo,if_neg (by decide)];by_cases q:Sh x.Kind<0
      ·rw [if_pos q];exact p _ fun ya=>⟨h rfl,by have:=of_decide_eq_false ya;omega⟩
      ·rw [if_neg q];exact p _ fun _=>⟨h rfl,by have:=h rfl (by omega);omega⟩
    have r:∀ b,P (zm (ri n) x d (0,node+1) (Sh x.Kind) b):=by
     intro b;cases b with
     | true=>exact bad 7 (by decide)
     | false =>
      rw [zm,if_neg (by decide)];by_cases q:0≤Sh x.Kind
      ·rw [if_pos q];exact A _ fun ya _=>by have:=of_decide_eq_false ya;omega
      ·rw [if_neg q];exact A _ fun _ h=>absurd h q
    have s:∀ b,P (rn n (ri n) x d (0,node+1) (Sh x.Kind) b):=by
     intro Ke;cases Ke with
     | true=>exact bad 3 (by decide)
     | false =>
      rw [rn,if_neg (by decide),F];simp only [pa];split
      ·exact r _
      ·split
       ·exact r _
       ·split<;>exact r _
    have B:∀ b,P (oo n (ri n) x d (0,node+1) (Sh x.Kind) b):=by
     intro Ke;unfold oo;split
     ·exact s _
     ·split
      ·split<;>exact s _
      ·exact s _
    have X:∀ b,P (bm n (ri n) x d (0,node+1) b):=by
     intro Ke;cases Ke with
     | true=>exact bad 1 (by decide)
     | false =>
      rw [bm,if_neg (by decide),SA,pa];split
      ·split<;>exact B _
      ·exact B _
    have G:P (if x.Kind<1 then bm n (ri n) x d (0,node+1) true else bm n (ri n) x d (0,node+1) (decide ((24:Int)<x.Kind))):=by
     split<;>exact X _
    rw [← a] at G;exact G
   ·have G:P (if x.Kind<1 then bm n (ri n) x d (0,node+1) true else bm n (ri n) x d (0,node+1) (decide ((24:Int)<x.Kind))):=by
     split
     ·exact bad 1 (by decide)
     ·rw [decide_eq_true (show 24<x.Kind by omega)];exact bad 1 (by decide)
    rw [← a] at G;exact G
  ·rw [if_pos c];exact ⟨e,_,rfl,by omega,fun h=>absurd h c⟩
def Yk:Nat→Ub→Prop
 | 0,_=>False
 | k+1,s=>1≤s.Kind∧s.Kind≤9∧(s.Kind≠6→Eh k s.X)∧((s.Kind=3∨s.Kind=4)→s.Body.length≤50∧∀ y ∈ s.Body,Yk k y)∧(s.Kind=3→s.mf.length≤50∧∀ y ∈ s.mf,Yk k y)
def pf:Nat→Ub→Nat
 | 0,_=>0
 | k+1,s=>1+(if s.Kind=6 then 0 else xh k s.X)+(if s.Kind=3∨s.Kind=4 then (s.Body.map (pf k)).sum else 0)+(if s.Kind=3 then (s.mf.map (pf k)).sum else 0)
theorem sF:∀ (n:Nat),(∀ (l:List Ub) (d node:Int),2*(42 - d)+65≤n→0≤d→d≤41→0≤node→node≤2000 →
   ∃ e k,(gi n).Jg node l d=some (e,k)∧node≤k∧(e=0→k≤2000∧(l.length≤50∧∀ y ∈ l,Yk (41 - d).toNat y)∧k=node+((l.map (pf (41 - d).toNat)).sum:Nat))) ∧
  (∀ (x:Ub) (d node:Int),2*(42 - d)+64≤n→0≤d→d≤41→0≤node→node≤2000 →
   ∃ e k,(gi n).Mj node x d=some (e,k)∧node≤k∧(e=0→k≤2000∧Yk (41 - d).toNat x∧k=node+(pf (41 - d).toNat x:Nat))):=by
 intro n
 induction n with
 | zero=>exact ⟨fun l d node D s t=>by omega,fun l d node D s t=>by omega⟩
 | succ n Q =>
  obtain ⟨R,S⟩:=Q;refine ⟨fun l d node D s t j F=>?_,fun x d node D s t j F=>?_⟩
  ·show ∃ e k,Jg (gi n) node l d=some (e,k)∧_;rw [Jg];by_cases qa:(50:Int)<l.length
   ·rw [if_pos qa];exact ⟨5,node,rfl,by omega,fun h=>absurd h (by decide)⟩
   ·rw [if_neg qa];have L:∀ (m i:Nat) (c:Int),i≤l.length→l.length<m+i→0≤c→c≤2000 →
      ∃ e k,Zo (gi n) l d m i c=some (e,k)∧c≤k∧(e=0→k≤2000∧(∀ y ∈ l.drop i,Yk (41 - d).toNat y)∧k=c+(((l.drop i).map (pf (41 - d).toNat)).sum:Nat)):=by
     intro m
     induction m with
     | zero=>intro i c s t; omega
     | succ m T =>
      intro i c g1 g2 g3 g4;rw [Zo];by_cases q:i<l.length
      ·obtain ⟨e,k,na,U,W⟩:=S l[i] d c (by omega) s t g3 g4;rw [if_pos (by omega),sf,List.getElem?_eq_getElem q,pa,na,pa];by_cases z:e=0
       ·subst z;obtain ⟨f1,f2,f3⟩:=W rfl;rw [if_neg (by simp),Td (by omega),pa];obtain ⟨Y,Z,g,u,f⟩:=T (i+1) k q (by omega) (by omega) f1;refine ⟨Y,Z,g,by omega,fun v=>?_⟩;obtain ⟨s1,s2,p⟩:=f v;refine ⟨s1,fun y C=>?_,?_⟩
        ·rw [List.drop_eq_getElem_cons q] at C;rcases List.mem_cons.1 C with rfl | C
         ·exact f2
         ·exact s2 y C
        ·rw [List.drop_eq_getElem_cons q,List.map_cons,List.sum_cons];omega
       ·rw [if_pos z];exact ⟨e,k,rfl,U,fun h=>absurd h z⟩
      ·rw [if_neg (by omega),List.drop_eq_nil_of_le (by omega)];exact ⟨0,c,rfl,by omega,fun _=>⟨g4,by simp,by simp⟩⟩
    obtain ⟨e,k,g,u,f⟩:=L (l.length+1) 0 node (by omega) (by omega) j F;refine ⟨e,k,g,u,fun v=>?_⟩;obtain ⟨s1,s2,p⟩:=f v;rw [List.drop_zero] at s2 p;exact ⟨s1,⟨by omega,s2⟩,p⟩
  ·show ∃ e k,Mj n (gi n) node x d=some (e,k)∧_;obtain ⟨b,lc⟩:=Xr n (by omega) x.Name;obtain ⟨e,rc,he⟩:=Yx node d j (by omega);rw [Mj,rc,pa];by_cases c:e=0
   ·subst c;obtain ⟨td,ya⟩:=he rfl;rw [if_neg (by simp)];have fd:(41 - d).toNat=(40 - d).toNat+1:=by omega
    have H:(41 - (d+1)).toNat=(40 - d).toNat:=by omega
    rw [fd];generalize w:(fun o:Option (Int×Int)=>∃ e k,o=some (e,k)∧node≤k∧(e=0→k≤2000∧Yk ((40 - d).toNat+1) x∧k=node+(pf ((40 - d).toNat+1) x:Nat)))=P;have bad:∀ e c:Int,e≠0→node≤c→P (some (e,c)):=fun e c h K=>by rw [← w];exact ⟨e,_,rfl,K,fun id=>absurd id h⟩
    have kids:=fun (l:List Ub) (c:Int) (K:node≤c) (md:c≤2000)=>R l (d+1) c (by omega) (by omega) (by omega) (by omega) md;rw [H] at kids;have G:P (if x.Kind<1 then sn n (gi n) x d (0,node+1) true else sn n (gi n) x d (0,node+1) (decide ((9:Int)<x.Kind))):=by
     by_cases bg:1≤x.Kind∧x.Kind≤9
     ·have M:∀ (c:Int),node≤c→c≤2000→x.Kind≠6→Eh (40 - d).toNat x.X→((x.Kind=3∨x.Kind=4)→x.Body.length≤50∧∀ y ∈ x.Body,Yk (40 - d).toNat y) →
        c=node+1+(xh (40 - d).toNat x.X:Nat)+((if x.Kind=3∨x.Kind=4 then (x.Body.map (pf (40 - d).toNat)).sum else 0:Nat):Int)→P (qp (gi n) x d c):=by
       intro c g1 g2 a A r gc;rw [qp];by_cases B:x.Kind=3
       ·obtain ⟨e,k,g,u,f⟩:=kids x.mf c g1 g2;rw [if_pos B,Td (by omega),pa,g,pa];rw [← w];refine ⟨e,k,rfl,by omega,fun v=>?_⟩;obtain ⟨s1,s2,p⟩:=f v;refine ⟨s1,⟨bg.1,bg.2,fun _=>A,r,fun _=>s2⟩,?_⟩;rw [pf,if_neg a,if_pos B];omega
       ·rw [if_neg B,← w];refine ⟨0,c,rfl,g1,fun _=>⟨g2,⟨bg.1,bg.2,fun _=>A,r,fun h=>absurd h B⟩,?_⟩⟩;rw [pf,if_neg a,if_neg B];omega
      have N:∀ (c:Int) b,node≤c→c≤2000→x.Kind≠6→Eh (40 - d).toNat x.X→(b=true ↔ x.Kind=3∨x.Kind=4)→c=node+1+(xh (40 - d).toNat x.X:Nat)→P (rp (gi n) x d (0,c) b):=by
       intro c b g1 g2 a A r gc;rw [rp];by_cases q:b=true
       ·obtain ⟨e,k,g,u,f⟩:=kids x.Body c g1 g2;rw [if_pos q,Td (by omega),pa,g,pa];by_cases z:e=0
        ·subst z;obtain ⟨s1,s2,p⟩:=f rfl;rw [if_neg (by simp)];exact M k (by omega) s1 a A (fun _=>s2) (by rw [if_pos (r.1 q)];omega)
        ·rw [if_pos z];exact bad e k z (by omega)
       ·rw [if_neg q];exact M c g1 g2 a A (fun h=>absurd (r.2 h) q) (by rw [if_neg fun h=>q (r.2 h)];omega)
      have E:∀ b,P (Am n (gi n) x d (0,node+1) b):=by
       intro b;cases b with
       | true=>exact bad 7 _ (by decide) (by omega)
       | false =>
        rw [Am,if_neg (by decide)];by_cases a:x.Kind=6
        ·rw [if_pos a,← w];refine ⟨0,node+1,rfl,by omega,fun _=>⟨by omega,⟨bg.1,bg.2,fun h=>absurd a h,fun h=>by omega,fun h=>by omega⟩,?_⟩⟩;rw [pf,if_pos a,if_neg (by omega),if_neg (by omega)];omega
        ·obtain ⟨e,k,g,u,f⟩:=rF n x.X (d+1) (node+1) (by omega) (by omega) (by omega) (by omega) (by omega);rw [H] at f;rw [if_neg a,Td (by omega),pa,g,pa];by_cases z:e=0
         ·subst z;obtain ⟨s1,s2,p⟩:=f rfl;rw [if_neg (by simp)];split
          ·rename_i j;exact N k true (by omega) s1 a s2 (by simp [j]) (by omega)
          ·rename_i j;exact N k _ (by omega) s1 a s2 (by simp [j]) (by omega)
         ·rw [if_pos z];exact bad e k z (by omega)
      have rd:∀ b,P (sn n (gi n) x d (0,node+1) b):=by
       intro Ke;cases Ke with
       | true=>exact bad 1 _ (by decide) (by omega)
       | false =>
        rw [sn,if_neg (by decide),lc];simp only [pa];split
        ·exact E _
        ·split
         ·exact E _
         ·split<;>exact E _
      split<;>exact rd _
     ·split
      ·exact bad 1 _ (by decide) (by omega)
      ·rw [decide_eq_true (show 9<x.Kind by omega)];exact bad 1 _ (by decide) (by omega)
    rw [← w] at G;exact G
   ·rw [if_pos c];exact ⟨e,_,rfl,by omega,fun h=>absurd h c⟩
def dk (t:Ya):Prop:=1≤t.Kind∧t.Kind≤3
theorem mw (fu:Nat) (a:20≤fu) (t:Ya):∃ e,Co fu t=some e∧(e=0→dk t):=by
 obtain ⟨b,d⟩:=Xr fu a t.yc;rw [Co];by_cases c:1≤t.Kind∧t.Kind≤3
 ·rw [if_neg (by omega),decide_eq_false (by omega),xq,if_neg (by decide),d];simp only [pa];have:∀ b,∃ e,Rt b=some e:=fun b=>by cases b<;>exact ⟨_,rfl⟩
  split
  ·obtain ⟨e,he⟩:=this (!b);exact ⟨e,he,fun _=>c⟩
  ·obtain ⟨e,he⟩:=this false;exact ⟨e,he,fun _=>c⟩
 ·split
  ·exact ⟨1,rfl,fun h=>absurd h (by decide)⟩
  ·rw [decide_eq_true (show 3<t.Kind by omega)];exact ⟨1,rfl,fun h=>absurd h (by decide)⟩
structure Fj (x:va):Prop where
 k1:1≤x.Kind
 Gd:x.Kind≤4
 hg:x.Kind=2∨x.Kind=3→x.Params.length≤6∧∀ p ∈ x.Params,dk p.tb
 Fg:x.Kind=3→dk x.fc
 ty:x.Kind≠4→dk x.tb
 Rd:x.Kind≠1→x.Body.length≤50
 lr:x.Kind≠1→∀ y ∈ x.Body,Yk 39 y
def en (x:va):Nat:=1+if x.Kind≠1 then (x.Body.map (pf 39)).sum else 0
theorem TF (fu:Nat) (N:200≤fu) (x:va) (node:Int) (u:0≤node) (Q:node≤2000):∃ e k,Hq fu node x=some (e,k)∧node≤k∧(e=0→k≤2000∧Fj x∧k=node+(en x:Nat)):=by
 obtain ⟨b,v⟩:=Xr fu (by omega) x.Name;obtain ⟨e,w,he⟩:=Yx node 1 u (by omega);rw [Hq,w,pa];by_cases c:e=0
 ·subst c;obtain ⟨R,ya⟩:=he rfl;rw [if_neg (by simp)];generalize j:(fun o:Option (Int×Int)=>∃ e k,o=some (e,k)∧node≤k∧(e=0→k≤2000∧Fj x∧k=node+(en x:Nat)))=P;have bad:∀ e c:Int,e≠0→node≤c→P (some (e,c)):=fun e c h y=>by rw [← j];exact ⟨e,_,rfl,y,fun A=>absurd A h⟩
  have G:P (if x.Kind<1 then xn fu x (0,node+1) true else xn fu x (0,node+1) (decide ((4:Int)<x.Kind))):=by
   by_cases bg:1≤x.Kind∧x.Kind≤4
   ·have n:(x.Kind=2∨x.Kind=3→x.Params.length≤6∧∀ p ∈ x.Params,dk p.tb)→(x.Kind=3→dk x.fc)→(x.Kind≠4→dk x.tb)→P (vp fu x (0,node+1)):=by
     intro g1 g2 g3;rw [vp];by_cases k1:x.Kind=1
     ·rw [if_neg (by simpa using k1)];have B:∀ b,P (Zr (0,node+1) b):=by
       intro b;cases b with
       | true=>exact bad 3 _ (by decide) (by omega)
       | false =>
        rw [← j];exact ⟨0,node+1,rfl,by omega,fun _=>⟨by omega,⟨bg.1,bg.2,g1,g2,g3,fun h=>absurd k1 h,fun h=>absurd k1 h⟩,by rw [en,if_neg (by simpa using k1)];omega⟩⟩
      split<;>exact B _
     ·obtain ⟨e,k,C,S,D⟩:=(sF fu).1 x.Body 2 (node+1) (by omega) (by omega) (by omega) (by omega) (by omega);rw [if_pos k1,C,pa,← j];refine ⟨e,k,rfl,by omega,fun E=>?_⟩;obtain ⟨s1,s2,F⟩:=D E;exact ⟨s1,⟨bg.1,bg.2,g1,g2,g3,fun _=>s2.1,fun _=>s2.2⟩,by rw [en,if_pos k1];rw [show (41 - (2:Int)).toNat=39 from rfl] at F;omega⟩
    have r:(x.Kind=2∨x.Kind=3→x.Params.length≤6∧∀ p ∈ x.Params,dk p.tb)→(x.Kind=3→dk x.fc)→P (xp fu x (0,node+1)):=by
     intro g1 g2;rw [xp];by_cases Gd:x.Kind=4
     ·rw [if_neg (by simpa using Gd)];exact n g1 g2 fun h=>absurd Gd h
     ·obtain ⟨e,d,a⟩:=mw fu (by omega) x.tb;rw [if_pos Gd,d,pa];by_cases z:e=0
      ·rw [if_neg (by simpa using z)];exact n g1 g2 fun _=>a z
      ·rw [if_pos z];exact bad e _ z (by omega)
    have s:(x.Kind=2∨x.Kind=3→x.Params.length≤6∧∀ p ∈ x.Params,dk p.tb)→P (vn fu x (0,node+1)):=by
     intro g1;rw [vn];by_cases l:x.Kind=3
     ·obtain ⟨e,d,a⟩:=mw fu (by omega) x.fc;rw [if_pos l,d,pa];by_cases z:e=0
      ·rw [if_neg (by simpa using z)];exact r g1 fun _=>a z
      ·rw [if_pos z];exact bad e _ z (by omega)
     ·rw [if_neg l];exact r g1 fun h=>absurd h l
    have L:x.Params.length≤6→∀ (m i:Nat),i≤x.Params.length→x.Params.length<m+i→(∀ p ∈ x.Params.take i,dk p.tb)→P (yp fu x (0,node+1) m i):=by
     intro qa m
     induction m with
     | zero=>intro i d a; omega
     | succ m H =>
      intro i g1 g2 g3;rw [yp];by_cases q:i<x.Params.length
      ·obtain ⟨Ke,K⟩:=Xr fu (by omega) x.Params[i].Name;obtain ⟨e,d,a⟩:=mw fu (by omega) x.Params[i].tb;rw [if_pos (by omega),sf,List.getElem?_eq_getElem q,pa,K,pa];cases Ke with
       | false=>rw [if_neg (by decide)]; exact bad 7 _ (by decide) (by omega)
       | true =>
        rw [if_pos rfl,d,pa];by_cases z:e=0
        ·rw [if_neg (by simpa using z),Td (by omega),pa];refine H (i+1) q (by omega) fun p f=>?_;rw [List.take_succ_eq_append_getElem q] at f;rcases List.mem_append.1 f with f | f
         ·exact g3 p f
         ·rw [List.mem_singleton.1 f];exact a z
        ·rw [if_pos z];exact bad e _ z (by omega)
      ·rw [if_neg (by omega)];rw [List.take_of_length_le (by omega)] at g3;exact s fun _=>⟨qa,g3⟩
    have t:∀ b,(b=true ↔ x.Kind=2∨x.Kind=3)→P (zp fu x (0,node+1) b):=by
     intro b g;rw [zp];by_cases q:b=true
     ·rw [if_pos q];by_cases qa:(6:Int)<x.Params.length
      ·rw [if_pos qa];exact bad 5 _ (by decide) (by omega)
      ·rw [if_neg qa];exact L (by omega) (x.Params.length+1) 0 (by omega) (by omega) (by simp)
     ·rw [if_neg q];exact s fun h=>absurd (g.2 h) q
    have M:∀ b,P (xn fu x (0,node+1) b):=by
     intro Ke;cases Ke with
     | true=>exact bad 1 _ (by decide) (by omega)
     | false =>
      rw [xn,if_neg (by decide),v,pa];cases b with
      | false=>rw [if_neg (by decide)]; exact bad 7 _ (by decide) (by omega)
      | true =>
       rw [if_pos rfl];split
       ·rename_i a;exact t _ (by simp [a])
       ·rename_i a;exact t _ (by simp [a])
    split<;>exact M _
   ·split
    ·exact bad 1 _ (by decide) (by omega)
    ·rw [decide_eq_true (show 4<x.Kind by omega)];exact bad 1 _ (by decide) (by omega)
  rw [← j] at G;exact G
 ·rw [if_pos c];exact ⟨e,_,rfl,by omega,fun h=>absurd h c⟩
structure Mz (l:List va):Prop where
 le:l.length≤30
 ok:∀ d ∈ l,Fj d
 n:(l.map en).sum≤2000
theorem Px (fu:Nat) (b:200≤fu) (l:List va):∃ f,Ep fu l=some f∧(f.ve=0→f.Ec=0∧Mz l):=by
 rw [Ep];by_cases qa:(30:Int)<l.length
 ·rw [if_pos qa];exact ⟨_,rfl,fun h=>absurd h (by decide:(5:Int)≠0)⟩
 ·rw [if_neg qa];have L:∀ (m i:Nat) (c:Int),i≤l.length→l.length<m+i→0≤c→c≤2000→(∀ d ∈ l.take i,Fj d)→c=(((l.take i).map en).sum:Nat)→∃ f,bp fu l m i c=some f∧(f.ve=0→f.Ec=0∧Mz l):=by
   intro m
   induction m with
   | zero=>intro i c n o; omega
   | succ m g =>
    intro i c g1 g2 g3 g4 g5 g6;rw [bp];by_cases q:i<l.length
    ·obtain ⟨e,k,na,r,j⟩:=TF fu b l[i] c g3 g4;rw [if_pos (by omega),sf,List.getElem?_eq_getElem q,pa,na,pa];by_cases z:e=0
     ·subst z;obtain ⟨f1,f2,f3⟩:=j rfl;rw [if_neg (by simp),Td (by omega),pa];refine g (i+1) k q (by omega) (by omega) f1 (fun p a=>?_) ?_
      ·rw [List.take_succ_eq_append_getElem q] at a;rcases List.mem_append.1 a with a | a
       ·exact g5 p a
       ·rw [List.mem_singleton.1 a];exact f2
      ·rw [List.take_succ_eq_append_getElem q,List.map_append,List.sum_append,List.map_cons,List.map_nil,List.sum_cons,List.sum_nil];omega
     ·rw [if_pos z];exact ⟨_,rfl,fun h=>absurd h z⟩
    ·rw [if_neg (by omega)];rw [List.take_of_length_le (by omega)] at g5 g6;exact ⟨_,rfl,fun _=>⟨rfl,by omega,g5,by omega⟩⟩
  exact L (l.length+1) 0 0 (by omega) (by omega) (by omega) (by omega) (by simp) (by simp)
end Go.Y
namespace Go.Y
open Go.oc Go.sd
abbrev ye:=List (List (List UInt8×Ya))
def kf (t:Ya):Ya:=if t.Kind≠3 then ⟨t.Kind,[]⟩ else t
theorem ym (t:Ya):Cm t=some (decide (t.Kind≠3)):=rfl
theorem dm (t:Ya):An t=some (kf t):=by
 rw [An,ym,pa,kf];by_cases c:t.Kind≠3
 ·rw [decide_eq_true c,if_pos rfl,if_pos c];rfl
 ·rw [decide_eq_false c,if_neg (by decide),if_neg c];rfl
def Ym (o:Option va) (k:Int):Bool:=match o with | some d=>decide (d.Kind=k) | none=>false
theorem vq (p:Eb) (kind:Int) (name:List UInt8):Fp p kind name=some (Aa p.named name,Ym (Aa p.named name) kind):=by
 rw [Fp];cases h:Aa p.named name with
 | none=>rfl
 | some d=>rfl
theorem Sq {o:Option va}{k:Int}(h:Ym o k=true):∃ d,o=some d∧d.Kind=k:=by
 cases o with
 | none=>cases h
 | some d=>exact ⟨d,rfl,of_decide_eq_true h⟩
def ui (p:Eb) (t:Ya):Prop:=t.Kind=3→∃ d,Aa p.named t.yc=some d∧d.Kind=3
theorem ui.bare {p:Eb}{t:Ya}(h:ui p t):ui p (kf t):=by
 unfold kf;split
 ·rename_i c;exact fun a=>absurd a c
 ·exact h
theorem ui.of {p:Eb}{t:Ya}(h:t.Kind≠3):ui p t:=fun a=>absurd a h
theorem Gl {t:Ya}:(kf t).Kind=t.Kind:=by
 unfold kf;split<;>rfl
structure Gi (p:Eb) (d:va):Prop where
 ty:d.Kind≠4→d.tb.Kind≠3
 Fg:d.Kind=3→d.fc.Kind≠3
 hg:d.Kind=2∨d.Kind=3→∀ q ∈ d.Params,ui p q.tb
 pl:d.Kind=2∨d.Kind=3→d.Params.length≤6
def Vz (p:Eb):Prop:=∀ k d,Aa p.named k=some d→Gi p d
def Uk (p:Eb) (B:ye):Prop:=∀ m ∈ B,∀ k t,Aa m k=some t→ui p t
structure El (p:Eb) (d:va) (B:ye):Prop where
 ao:Vz p
 ya:Gi p d
 Wg:Uk p B
 Rd:B.length≤100
theorem Qx {p:Eb}{B:ye}(a:Uk p B) (qa:B.length≤100) (fu:Nat) (i:110≤fu) (d:va) (name:List UInt8):∃ t b,xo fu p d B name=some (t,b)∧(b=true→ui p t):=by
 have L:∀ (n j:Nat),j≤B.length→j<n→∃ t b,cp name B n ((j:Int) - 1)=some (t,b)∧(b=true→ui p t):=by
  intro n
  induction n with
  | zero=>intro j c f; omega
  | succ n g =>
   intro j c f;rw [cp];cases j with
   | zero=>rw [if_neg (by omega)]; exact ⟨_,_,rfl,by simp⟩
   | succ j =>
    have e:((j+1:Nat):Int) - 1=(j:Int):=by omega
    rw [e,if_pos (by omega),sf,List.getElem?_eq_getElem (show j<B.length by omega),pa];cases h:Aa B[j] name with
    | none =>
     rw [if_neg (by simp),Td (by omega),pa];exact g j (by omega) (by omega)
    | some t=>exact ⟨t,true,rfl,fun _=>a _ (List.getElem_mem _) _ _ h⟩
 rw [xo,Td (by omega),pa];exact L fu B.length (by omega) (by omega)
def Calls (p:Eb):Nat→sb→Prop
 | 0,_=>False
 | k+1,x=>(x.Kind=19→∃ d,Aa p.named x.Name=some d∧d.Kind=2)∧(x.Kind=22→∃ d,Aa p.named x.Name=some d∧d.Kind=3)∧(x.Kind=20→∃ d,Aa p.named x.Name=some d∧d.Kind=1)∧∀ y ∈ x.Kids,Calls p k y
theorem two {α:Type}{l:List α}(h:l.length=2):∃ a b,l=[a,b]:=by
 match l,h with
 | [a,b],_=>exact ⟨a,b,rfl⟩
theorem one {α:Type}{l:List α}(h:l.length=1):∃ a,l=[a]:=by
 match l,h with
 | [a],_=>exact ⟨a,rfl⟩
structure JJ (n:Nat):Prop where
 typed:∀ (k:Nat) (p:Eb) (d:va) (B:ye) (x:sb) (t:Ya),El p d B→Eh k x→3*k+111≤n→∃ e,(gg n).Tg p d B x t=some e∧(e=0→Calls p k x)
 args:∀ (k:Nat) (p:Eb) (d:va) (B:ye) (x:sb) (kind:Int),El p d B→(∀ y ∈ x.Kids,Eh k y)→x.Kids.length≤6→(kind=2∨kind=3)→3*k+112≤n →
  ∃ c e,(gg n).pk p d B x kind=some (c,e)∧(e=0→∃ f,c=some f∧Aa p.named x.Name=some f∧f.Kind=kind∧∀ y ∈ x.Kids,Calls p k y)
 both:∀ (k:Nat) (p:Eb) (d:va) (B:ye) (x a b:sb),El p d B→x.Kids=[a,b]→Eh k a→Eh k b→3*k+112≤n→∃ t e,(gg n).ml p d B x=some (t,e)∧(e=0→Calls p k a∧Calls p k b)
 handle:∀ (k:Nat) (p:Eb) (d:va) (B:ye) (x:sb),El p d B→Eh k x→3*k+112≤n→∃ c e,(gg n).jk p d B x=some (c,e)∧(e=0→(∃ f g,c=some f∧Aa p.named g=some f∧f.Kind=3)∧Calls p k x)
 expr:∀ (k:Nat) (p:Eb) (d:va) (B:ye) (x:sb),El p d B→Eh k x→3*k+110≤n→∃ t e,(gg n).Hh p d B x=some (t,e)∧(e=0→ui p t∧Calls p k x)
theorem vv (r:Ya×Int) (b:Bool):Gt r b=some (if b=true then 9 else r.2):=by cases b<;>rfl
theorem Dt (r s:Ya×Int) (b:Bool):pq r s b=some (r.1,if b=true then 9 else s.2):=by cases b<;>rfl
theorem JC:∀ n,JJ n:=by
 intro n
 induction n with
 | zero=>exact ⟨fun _ _ _ _ _ _ _ _ h=>by omega,fun _ _ _ _ _ _ _ _ _ _ h=>by omega,fun _ _ _ _ _ _ _ _ _ _ _ h=>by omega,fun _ _ _ _ _ _ _ h=>by omega,fun _ _ _ _ _ _ _ h=>by omega⟩
 | succ n u =>
  refine ⟨fun k p d B x t H A Q=>?_,fun k p d B x kind H A qa E Q=>?_,fun k p d B x a b H A j N Q=>?_,fun k p d B x H A Q=>?_,fun k p d B x H A Q=>?_⟩
  ·show ∃ e,Tg (gg n) p d B x t=some e∧_;obtain ⟨qd,e,r,o⟩:=u.expr k p d B x H A (by omega);rw [Tg,r,pa];by_cases z:e=0
   ·rw [if_pos z,dm,pa,vv];exact ⟨_,rfl,fun _=>(o z).2⟩
   ·rw [if_neg z,vv];exact ⟨e,rfl,fun h=>absurd h z⟩
  ·show ∃ v e,pk (gg n) p d B x kind=some (v,e)∧_;rw [pk,vq,pa];by_cases c:Ym (Aa p.named x.Name) kind=true
   ·obtain ⟨f,K,U⟩:=Sq c;rw [if_pos c,K];simp only [pa];have rd:=H.ao _ _ K;have Fd:=rd.pl (by omega);by_cases q:(f.Params.length:Int)≠x.Kids.length
    ·rw [decide_eq_true q];exact ⟨none,5,rfl,fun h=>absurd h (by decide)⟩
    ·rw [decide_eq_false q,It,if_neg (by decide)];simp only [pa];have L:∀ (m i:Nat),i≤f.Params.length→f.Params.length<m+i→∃ v e,dp (gg n) x p d B (some f,Ym (some f) kind) f m i=some (v,e)∧(e=0→v=some f∧∀ y ∈ x.Kids.drop i,Calls p k y):=by
      intro m
      induction m with
      | zero=>intro i r o; omega
      | succ m W =>
       intro i r o;rw [dp];by_cases c:i<f.Params.length
       ·have lc:i<x.Kids.length:=by omega
        obtain ⟨e,na,w⟩:=u.typed k p d B x.Kids[i] f.Params[i].tb H (A _ (List.getElem_mem _)) (by omega);rw [if_pos (by omega),sf,List.getElem?_eq_getElem c,pa,sf,List.getElem?_eq_getElem lc,pa,na,pa];by_cases z:e=0
        ·rw [if_neg (by simpa using z),Td (by omega),pa];obtain ⟨v,P,F,D⟩:=W (i+1) c (by omega);refine ⟨v,P,F,fun s=>⟨(D s).1,fun y C=>?_⟩⟩;rw [List.drop_eq_getElem_cons lc] at C;rcases List.mem_cons.1 C with rfl | C
         ·exact w z
         ·exact (D s).2 y C
        ·rw [if_pos z];exact ⟨none,e,rfl,fun h=>absurd h z⟩
       ·rw [if_neg (by omega),List.drop_eq_nil_of_le (by omega)];exact ⟨some f,0,rfl,fun _=>⟨rfl,by simp⟩⟩
     obtain ⟨v,e,F,D⟩:=L (f.Params.length+1) 0 (by omega) (by omega);refine ⟨v,e,F,fun s=>?_⟩;obtain ⟨s1,s2⟩:=D s;rw [List.drop_zero] at s2;exact ⟨f,s1,rfl,U,s2⟩
   ·rw [if_neg c];exact ⟨none,7,rfl,fun h=>absurd h (by decide)⟩
  ·show ∃ t e,ml (gg n) p d B x=some (t,e)∧_;obtain ⟨t1,na,r,o⟩:=u.expr k p d B a H j (by omega);obtain ⟨t2,w,g1,g2⟩:=u.expr k p d B b H N (by omega);have k0:at_ x.Kids 0=some a:=by rw [A];rfl
   have k1:at_ x.Kids 1=some b:=by rw [A];rfl
   rw [ml,k0,pa,r,pa];by_cases z:na=0
   ·rw [if_neg (by simpa using z),k1,pa,g1,pa];by_cases z2:w=0
    ·have fin:∀ Ke,∃ t e,pq (t1,na) (t2,w) Ke=some (t,e)∧(e=0→Calls p k a∧Calls p k b):=fun Ke=>by rw [Dt];exact ⟨_,_,rfl,fun _=>⟨(o z).2,(g2 z2).2⟩⟩
     rw [if_pos z2];split
     ·rw [ym,pa];exact fin _
     ·exact fin _
    ·rw [if_neg z2,Dt];exact ⟨_,w,rfl,fun h=>absurd h z2⟩
   ·rw [if_pos z];exact ⟨_,na,rfl,fun h=>absurd h z⟩
  ·show ∃ v e,jk (gg n) p d B x=some (v,e)∧_;obtain ⟨t,e,r,o⟩:=u.expr k p d B x H A (by omega);rw [jk,r,pa];by_cases z:e=0
   ·rw [if_neg (by simpa using z),ym,pa];by_cases q:t.Kind≠3
    ·rw [if_pos (decide_eq_true q)];exact ⟨none,9,rfl,fun h=>absurd h (by decide)⟩
    ·obtain ⟨f,f1,f2⟩:=(o z).1 (Decidable.not_not.1 q);rw [if_neg (by simpa using q)];exact ⟨_,0,rfl,fun _=>⟨⟨f,t.yc,f1,f1,f2⟩,(o z).2⟩⟩
   ·rw [if_pos z];exact ⟨none,e,rfl,fun h=>absurd h z⟩
  ·show ∃ t e,Hh n (gg n) p d B x=some (t,e)∧_;cases k with
   | zero=>cases A
   | succ k =>
   obtain ⟨k1,Id,E,M⟩:=A;have R:Sh x.Kind=1→∃ a,x.Kids=[a]∧Eh k a:=fun h=>by
    obtain ⟨a,j⟩:=one (l:=x.Kids) (by have:=E.eq (by omega);omega);exact ⟨a,j,M a (by simp [j])⟩
   have rc:Sh x.Kind=2→∃ a b,x.Kids=[a,b]∧Eh k a∧Eh k b:=fun h=>by
    obtain ⟨a,b,j⟩:=two (l:=x.Kids) (by have:=E.eq (by omega);omega);exact ⟨a,b,j,M a (by simp [j]),M b (by simp [j])⟩
   have S:Sh x.Kind=0→x.Kids=[]:=fun h=>List.length_eq_zero_iff.1 (by have:=E.eq (by omega);omega);have Ua:x.Kind≠19→x.Kind≠20→x.Kind≠22→(∀ y ∈ x.Kids,Calls p k y)→Calls p (k+1) x:=fun r o td wd=>⟨fun h=>absurd h r,fun h=>absurd h td,fun h=>absurd h o,wd⟩;rw [Hh];by_cases Wa:x.Kind=1
   ·rw [if_pos Wa];exact ⟨_,0,rfl,fun _=>⟨.of (by decide),Ua (by omega) (by omega) (by omega) (by rw [S (by rw [Wa];rfl)];simp)⟩⟩
   rw [if_neg Wa];by_cases c2:x.Kind=2
   ·rw [if_pos c2];exact ⟨_,0,rfl,fun _=>⟨.of (by decide),Ua (by omega) (by omega) (by omega) (by rw [S (by rw [c2];rfl)];simp)⟩⟩
   rw [if_neg c2];by_cases c3:x.Kind=3
   ·obtain ⟨t,b,r,o⟩:=Qx H.Wg H.Rd n (by omega) d x.Name;rw [if_pos c3,r,pa];cases b with
    | true=>exact ⟨t,0,rfl,fun _=>⟨o rfl,Ua (by omega) (by omega) (by omega) (by rw [S (by rw [c3]; rfl)]; simp)⟩⟩
    | false=>exact ⟨_,7,rfl,fun h=>absurd h (by decide)⟩
   rw [if_neg c3];by_cases c4:x.Kind=4
   ·obtain ⟨a,j,G⟩:=R (by rw [c4];rfl);obtain ⟨e,na,w⟩:=u.typed k p d B a ⟨1,[]⟩ H G (by omega);have k0:at_ x.Kids 0=some a:=by rw [j];rfl
    rw [if_pos c4,k0,pa,rk,pa,pa,na,pa];exact ⟨_,e,rfl,fun s=>⟨.of (by decide),Ua (by omega) (by omega) (by omega) (by rw [j];simpa using w s)⟩⟩
   rw [if_neg c4];by_cases c5:x.Kind=5
   ·obtain ⟨a,j,G⟩:=R (by rw [c5];rfl);obtain ⟨e,na,w⟩:=u.typed k p d B a ⟨2,[]⟩ H G (by omega);have k0:at_ x.Kids 0=some a:=by rw [j];rfl
    rw [if_pos c5,k0,pa,Di,pa,pa,na,pa];exact ⟨_,e,rfl,fun s=>⟨.of (by decide),Ua (by omega) (by omega) (by omega) (by rw [j];simpa using w s)⟩⟩
   rw [if_neg c5];have fd:∀ b,(b=true ↔ x.Kind=11∨x.Kind=12)→∃ t e,fp (gg n) x p d B b=some (t,e)∧(e=0→ui p t∧Calls p (k+1) x):=by
    intro b N;rw [fp];by_cases q:b=true
    ·have c:=N.1 q;obtain ⟨a,T,j,X,Wd⟩:=rc (by rcases c with c | c<;>rw [c]<;>rfl);obtain ⟨t,e,r,o⟩:=u.both k p d B x a T H j X Wd (by omega);rw [if_pos q,r,pa,Di,pa];exact ⟨_,e,rfl,fun s=>⟨.of (by decide),Ua (by omega) (by omega) (by omega) (by rw [j];simpa using o s)⟩⟩
    rw [if_neg q];have be:x.Kind≠11:=fun h=>q (N.2 (.inl h));have ce:x.Kind≠12:=fun h=>q (N.2 (.inr h));by_cases id:x.Kind=19
    ·obtain ⟨v,e,r,o⟩:=u.args k p d B x 2 H M E.le (.inl rfl) (by omega);rw [if_pos id,r,pa];by_cases z:e=0
     ·obtain ⟨f,rfl,g1,g2,g3⟩:=o z;rw [if_neg (by simpa using z)];simp only [pa];rw [dm,pa];exact ⟨_,0,rfl,fun _=>⟨.of (by rw [Gl];exact (H.ao _ _ g1).ty (by omega)),⟨fun _=>⟨f,g1,g2⟩,fun h=>by omega,fun h=>by omega,g3⟩⟩⟩
     ·rw [if_pos z];exact ⟨_,e,rfl,fun h=>absurd h z⟩
    rw [if_neg id];by_cases c20:x.Kind=20
    ·rw [if_pos c20,vq,pa];by_cases c:Ym (Aa p.named x.Name) 1=true
     ·obtain ⟨f,K,U⟩:=Sq c;rw [if_pos c,K];simp only [pa];rw [dm,pa];exact ⟨_,0,rfl,fun _=>⟨.of (by rw [Gl];exact (H.ao _ _ K).ty (by omega)),⟨fun h=>by omega,fun h=>by omega,fun _=>⟨f,K,U⟩,by rw [S (by rw [c20];rfl)];simp⟩⟩⟩
     ·rw [if_neg c];exact ⟨_,7,rfl,fun h=>absurd h (by decide)⟩
    rw [if_neg c20];by_cases c21:x.Kind=21
    ·obtain ⟨a,j,G⟩:=R (by rw [c21];rfl);obtain ⟨e,na,w⟩:=u.typed k p d B a d.tb H G (by omega);have k0:at_ x.Kids 0=some a:=by rw [j];rfl
     rw [if_pos c21];by_cases Y:d.Kind=3
     ·rw [if_neg (by simpa using Y),k0,pa,dm,pa,na,pa];exact ⟨_,e,rfl,fun s=>⟨.of (by show (kf d.fc).Kind≠3;rw [Gl];exact H.ya.Fg Y),Ua (by omega) (by omega) (by omega) (by rw [j];simpa using w s)⟩⟩
     ·rw [if_pos Y];exact ⟨_,8,rfl,fun h=>absurd h (by decide)⟩
    rw [if_neg c21];by_cases md:x.Kind=22
    ·obtain ⟨v,e,r,o⟩:=u.args k p d B x 3 H M E.le (.inr rfl) (by omega);rw [if_pos md,r,pa];refine ⟨_,e,rfl,fun s=>?_⟩;obtain ⟨f,-,g1,g2,g3⟩:=o s;exact ⟨fun _=>⟨f,g1,g2⟩,⟨fun h=>by omega,fun _=>⟨f,g1,g2⟩,fun h=>by omega,g3⟩⟩
    rw [if_neg md];by_cases Z:x.Kind=23
    ·obtain ⟨a,T,j,X,Wd⟩:=rc (by rw [Z];rfl);obtain ⟨v,e,r,o⟩:=u.handle k p d B a H X (by omega);have k0:at_ x.Kids 0=some a:=by rw [j];rfl
     have k1:at_ x.Kids 1=some T:=by rw [j];rfl
     rw [if_pos Z,k0,pa,r,pa];by_cases z:e=0
     ·obtain ⟨⟨f,g,rfl,g1,g2⟩,g3⟩:=o z;obtain ⟨P,F,D⟩:=u.typed k p d B T f.fc H Wd (by omega);rw [if_neg (by simpa using z)];simp only [pa];rw [k1,pa,dm,pa,F,pa];exact ⟨_,P,rfl,fun s=>⟨.of (by show (kf f.tb).Kind≠3;rw [Gl];exact (H.ao _ _ g1).ty (by omega)),Ua (by omega) (by omega) (by omega) (by rw [j];simpa using ⟨g3,D s⟩)⟩⟩
     ·rw [if_pos z];exact ⟨_,e,rfl,fun h=>absurd h z⟩
    rw [if_neg Z];by_cases c24:x.Kind=24
    ·obtain ⟨a,j,G⟩:=R (by rw [c24];rfl);obtain ⟨v,e,r,o⟩:=u.handle k p d B a H G (by omega);have k0:at_ x.Kids 0=some a:=by rw [j];rfl
     rw [if_pos c24,k0,pa,r,pa,Di,pa];exact ⟨_,e,rfl,fun s=>⟨.of (by decide),Ua (by omega) (by omega) (by omega) (by rw [j];simpa using (o s).2)⟩⟩
    rw [if_neg c24];have L:∀ (i1 i2:Int) (s1 s2:List UInt8) (m i:Nat),i≤x.Kids.length→x.Kids.length<m+i→∃ e,ep (gg n) x p d B i1 s1 i2 s2 m i=some (⟨i2,s2⟩,e)∧(e=0→∀ y ∈ x.Kids.drop i,Calls p k y):=by
     intro i1 i2 s1 s2 m
     induction m with
     | zero=>intro i r o; omega
     | succ m W =>
      intro i r o;rw [ep];by_cases c:i<x.Kids.length
      ·have:=E.le;obtain ⟨e,na,w⟩:=u.typed k p d B x.Kids[i] ⟨i1,s1⟩ H (M _ (List.getElem_mem _)) (by omega);rw [if_pos (by omega),sf,List.getElem?_eq_getElem c,pa,na,pa];by_cases z:e=0
       ·rw [if_neg (by simpa using z),Td (by omega),pa];obtain ⟨P,F,D⟩:=W (i+1) c (by omega);refine ⟨P,F,fun s y C=>?_⟩;rw [List.drop_eq_getElem_cons c] at C;rcases List.mem_cons.1 C with rfl | C
        ·exact w z
        ·exact D s y C
       ·rw [if_pos z];exact ⟨e,rfl,fun h=>absurd h z⟩
      ·rw [if_neg (by omega),List.drop_eq_nil_of_le (by omega)];exact ⟨0,rfl,fun _=>by simp⟩
    have gc:∀ (i1 i2:Int) (s1 s2:List UInt8),i2≠3→∃ t e,qq (gg n) x p d B i1 s1 i2 s2=some (t,e)∧(e=0→ui p t∧Calls p (k+1) x):=by
     intro i1 i2 s1 s2 h;obtain ⟨e,r,o⟩:=L i1 i2 s1 s2 (x.Kids.length+1) 0 (by omega) (by omega);exact ⟨_,e,r,fun s=>⟨.of h,Ua (by omega) (by omega) (by omega) (by simpa using o s)⟩⟩
    rw [rk,pa,pa,Di];simp only [pa];split
    ·exact gc _ _ _ _ (by decide)
    ·split
     ·exact gc _ _ _ _ (by decide)
     ·exact gc _ _ _ _ (by decide)
   split
   ·rename_i h;exact fd _ (by simp [h])
   ·rename_i h;exact fd _ (by simp [h])
end Go.Y
namespace Go.Y
open Go.oc Go.sd
theorem Si {κ β:Type}[DecidableEq κ]:∀ (m:List (κ×β)) (k e:κ) (x:β),Aa (Fc m k x) e=if k=e then some x else Aa m e
 | [],k,e,x=>rfl
 | (a,b)::m,k,e,x=>by
  rw [Fc];by_cases c:a=k
  ·subst c;rw [if_pos rfl,Aa,Aa];by_cases d:a=e
   ·rw [if_pos d,if_pos d]
   ·rw [if_neg d,if_neg d,if_neg d]
  ·rw [if_neg c,Aa,Aa,Si m k e x];by_cases d:a=e
   ·rw [if_pos d,if_pos d,if_neg fun h=>c (d.trans h.symm)]
   ·rw [if_neg d,if_neg d]
def Sj (p:Eb):Nat→Ub→Prop
 | 0,_=>False
 | k+1,s=>(s.Kind≠6→Calls p k s.X)∧((s.Kind=3∨s.Kind=4)→∀ y ∈ s.Body,Sj p k y)∧(s.Kind=3→∀ y ∈ s.mf,Sj p k y)∧(s.Kind=7→∃ d,Aa p.named s.Name=some d∧d.Kind=1)
theorem TA (p:Eb) (d:va) (B:ye) (h:0<B.length) (a:B.length≤100):Ip p d B=some (B.take (B.length - 1)):=by
 rw [Ip,Td (by omega),pa,cut,if_pos (by omega),pa,Qv];simp
structure BI (n:Nat):Prop where
 stats:∀ (k:Nat) (p:Eb) (d:va) (B:ye) (l:List Ub),El p d B→l.length≤50→(∀ y ∈ l,Yk k y)→B.length+k≤90→5*k+130≤n →
  ∃ e,(qk n).rj p d B l=some (e,B)∧(e=0→∀ y ∈ l,Sj p k y)
 stat:∀ (k:Nat) (p:Eb) (d:va) (B:ye) (s:Ub),El p d B→0<B.length→Yk k s→B.length+k≤91→5*k+129≤n →
  ∃ e a,(qk n).ql p d B s=some (e,a)∧a.length=B.length∧a.take (B.length - 1)=B.take (B.length - 1)∧Uk p a∧(e=0→Sj p k s)
theorem Av (B:ye) (r:Ya×Int) (b:Bool):Jt B r b=some (if b=true then 9 else r.2,B):=by cases b<;>rfl
theorem xH:∀ n,BI n:=by
 intro n
 induction n with
 | zero=>exact ⟨fun _ _ _ _ _ _ _ _ _ h=>by omega,fun _ _ _ _ _ _ _ _ _ h=>by omega⟩
 | succ n K =>
  refine ⟨fun k p d B l H qa x gc lc=>?_,fun k p d B s H ge x gc lc=>?_⟩
  ·show ∃ e,rj (qk n) p d B l=some (e,B)∧_;rw [rj,app,if_pos (by simp;omega),pa,Ht];have L:∀ (m i:Nat) (a:ye),i≤l.length→l.length<m+i→a.length=B.length+1→a.take B.length=B→Uk p a →
     ∃ e,Xo (qk n) l p d m i a=some (e,B)∧(e=0→∀ y ∈ l.drop i,Sj p k y):=by
    intro m
    induction m with
    | zero=>intro i a j g; omega
    | succ m rc =>
     intro i a j g g1 g2 g3;rw [Xo];have pop:∀ C:ye,C.length=B.length+1→C.take B.length=B→Ip p d C=some B:=fun C na v=>by
      rw [TA p d C (by omega) (by omega),na,Nat.add_sub_cancel,v]
     by_cases c:i<l.length
     ·obtain ⟨e,M,fd,N,S,id,md⟩:=K.stat k p d a l[i] ⟨H.ao,H.ya,g3,by omega⟩ (by omega) (x _ (List.getElem_mem _)) (by omega) (by omega);rw [g1,Nat.add_sub_cancel] at S;rw [g1] at N;have v:M.take B.length=B:=S.trans g2;rw [if_pos (by omega),sf,List.getElem?_eq_getElem c,pa,fd,pa];by_cases z:e=0
      ·rw [if_neg (by simpa using z),Td (by omega),pa];obtain ⟨rd,s1,s2⟩:=rc (i+1) M c (by omega) N v id;refine ⟨rd,s1,fun r y A=>?_⟩;rw [List.drop_eq_getElem_cons c] at A;rcases List.mem_cons.1 A with rfl | A
       ·exact md z
       ·exact s2 r y A
      ·rw [if_pos z];simp only [];rw [pop M N v,pa];exact ⟨e,rfl,fun h=>absurd h z⟩
     ·rw [if_neg (by omega),pop a g1 g2,pa,List.drop_eq_nil_of_le (by omega)];exact ⟨0,rfl,fun _=>by simp⟩
   have:=L (l.length+1) 0 (B++[[]]) (by omega) (by omega) (by simp) (by simp) (fun m hm D t P=>by
    rcases List.mem_append.1 hm with hm | hm
    ·exact H.Wg m hm D t P
    ·rw [List.mem_singleton.1 hm] at P;cases P)
   simpa using this
  ·show ∃ e a,ql n (qk n) p d B s=some (e,a)∧_;cases k with
   | zero=>cases x
   | succ k =>
   obtain ⟨k1,le,w,T,he⟩:=x;have E:=(JC n).typed k p d B s.X;have Q:=(JC n).expr k p d B s.X;have same:∀ e:Int,(e=0→Sj p (k+1) s)→∀ o:Option (Int×ye),o=some (e,B)→∃ e a,o=some (e,a)∧a.length=B.length∧a.take (B.length - 1)=B.take (B.length - 1)∧Uk p a∧(e=0→Sj p (k+1) s):=
    fun e h o td=>⟨e,B,td,rfl,rfl,H.Wg,h⟩
   have cs:s.Kind≠3→s.Kind≠4→s.Kind≠7→(s.Kind≠6→Calls p k s.X)→Sj p (k+1) s:=fun wd ne Fd h=>⟨h,fun h=>by omega,fun h=>absurd h wd,fun h=>absurd h Fd⟩;rw [ql];by_cases Wa:s.Kind=1
   ·obtain ⟨t,e,j,g⟩:=Q H (w (by omega)) (by omega);rw [if_pos Wa,j,pa];by_cases z:e=0
    ·obtain ⟨qd,b,g1,g2⟩:=Qx H.Wg H.Rd n (by omega) d s.Name;rw [if_neg (by simpa using z),g1,pa];cases b with
     | true=>exact same 7 (fun h=>absurd h (by decide)) _ rfl
     | false =>
      have Id:B.length - 1<B.length:=by omega
      have na:(B.length:Int) - 1=((B.length - 1:Nat):Int):=by omega
      rw [if_neg (by simp),Td (by omega),pa,na,sf,List.getElem?_eq_getElem Id,pa,rq];refine ⟨0,_,rfl,by simp,?_,fun m hm D u hu=>?_,fun _=>cs (by omega) (by omega) (by omega) fun _=>(g z).2⟩
      ·simp [List.take_set_of_le]
      ·rcases List.mem_or_eq_of_mem_set hm with hm | rfl
       ·exact H.Wg m hm D u hu
       ·rw [Si] at hu;split at hu
        ·obtain rfl:=Option.some.inj hu;exact (g z).1
        ·exact H.Wg _ (List.getElem_mem _) D u hu
    ·rw [if_pos z];exact same e (fun h=>absurd h z) _ rfl
   rw [if_neg Wa];by_cases c2:s.Kind=2
   ·obtain ⟨qd,b,g1,g2⟩:=Qx H.Wg H.Rd n (by omega) d s.Name;rw [if_pos c2,g1,pa];cases b with
    | false=>exact same 7 (fun h=>absurd h (by decide)) _ rfl
    | true =>
     obtain ⟨e,j,g⟩:=E qd H (w (by omega)) (by omega);rw [if_pos rfl,j,pa];exact same e (fun r=>cs (by omega) (by omega) (by omega) fun _=>g r) _ rfl
   rw [if_neg c2];have U:∀ b,(b=true ↔ s.Kind=3∨s.Kind=4)→∃ e a,gp n (qk n) s p d B b=some (e,a)∧a.length=B.length∧a.take (B.length - 1)=B.take (B.length - 1)∧Uk p a∧(e=0→Sj p (k+1) s):=by
    intro b R;rw [gp];by_cases q:b=true
    ·have c:=R.1 q;obtain ⟨e,j,g⟩:=E ⟨2,[]⟩ H (w (by omega)) (by omega);rw [if_pos q,Di,pa,j,pa];by_cases z:e=0
     ·rw [if_neg (by simpa using z)];obtain ⟨v,g1,g2⟩:=K.stats k p d B s.Body H (T c).1 (T c).2 (by omega) (by omega);rw [g1,pa];by_cases z2:v=0
      ·rw [if_neg (by simpa using z2)];by_cases c4:s.Kind=4
       ·rw [decide_eq_true c4];exact same v (fun _=>⟨fun _=>g z,fun _=>g2 z2,fun h=>by omega,fun h=>by omega⟩) _ rfl
       ·have c3:s.Kind=3:=by omega
        obtain ⟨be,f1,f2⟩:=K.stats k p d B s.mf H (he c3).1 (he c3).2 (by omega) (by omega);rw [decide_eq_false c4,Cr,if_neg (by decide)];simp only [];rw [f1,pa];exact same be (fun r=>⟨fun _=>g z,fun _=>g2 z2,fun _=>f2 r,fun h=>by omega⟩) _ rfl
      ·rw [if_pos z2];exact same v (fun h=>absurd h z2) _ rfl
     ·rw [if_pos z];exact same e (fun h=>absurd h z) _ rfl
    rw [if_neg q];have F:s.Kind≠3:=fun h=>q (R.2 (.inl h));have G:s.Kind≠4:=fun h=>q (R.2 (.inr h));by_cases c5:s.Kind=5
    ·rw [if_pos c5];split
     ·exact same 8 (fun h=>absurd h (by decide)) _ rfl
     ·obtain ⟨e,j,g⟩:=E d.tb H (w (by omega)) (by omega);rw [j,pa];exact same e (fun r=>cs F G (by omega) fun _=>g r) _ rfl
    rw [if_neg c5];by_cases He:s.Kind=6
    ·rw [if_pos He];split
     ·exact same 8 (fun h=>absurd h (by decide)) _ rfl
     ·exact same 0 (fun r=>cs F G (by omega) fun h=>absurd He h) _ rfl
    rw [if_neg He];by_cases W:s.Kind=7
    ·rw [if_pos W,vq,pa];by_cases c:Ym (Aa p.named s.Name) 1=true
     ·obtain ⟨f,Y,ce⟩:=Sq c;obtain ⟨e,j,g⟩:=E f.tb H (w (by omega)) (by omega);rw [if_pos c,Y];simp only [pa];rw [j,pa];exact same e (fun r=>⟨fun _=>g r,fun h=>by omega,fun h=>by omega,fun _=>⟨f,Y,ce⟩⟩) _ rfl
     ·rw [if_neg c];exact same 7 (fun h=>absurd h (by decide)) _ rfl
    rw [if_neg W];by_cases Z:s.Kind=8
    ·obtain ⟨t,e,j,g⟩:=Q H (w (by omega)) (by omega);rw [if_pos Z,j,pa];by_cases z:e=0
     ·rw [if_pos z,ym,pa,Av];exact same _ (fun _=>cs F G (by omega) fun _=>(g z).2) _ rfl
     ·rw [if_neg z,Av];exact same e (fun h=>absurd h z) _ rfl
    rw [if_neg Z];by_cases c9:s.Kind=9
    ·obtain ⟨t,e,j,g⟩:=Q H (w (by omega)) (by omega);rw [if_pos c9,j,pa];exact same e (fun r=>cs F G (by omega) fun _=>(g r).2) _ rfl
    ·omega
   split
   ·rename_i h;exact U _ (by simp [h])
   ·rename_i h;exact U _ (by simp [h])
theorem tF (p:Eb) (t:Ya):∃ e,nu p t=some e∧(e=0→ui p t):=by
 rw [nu,ym,pa];by_cases c:t.Kind≠3
 ·rw [if_pos (decide_eq_true c)];exact ⟨0,rfl,fun _=>.of c⟩
 ·rw [if_neg (by simpa using c),vq,pa];by_cases q:Ym (Aa p.named t.yc) 3=true
  ·rw [if_pos q];exact ⟨0,rfl,fun _ _=>Sq q⟩
  ·rw [if_neg q];exact ⟨7,rfl,fun h=>absurd h (by decide)⟩
theorem IE (p:Eb) (d:va) (ya:Fj d):∃ e,ss p d=some e∧(e=0→Gi p d):=by
 have f:∀ b,hp b=some (if b=true then 9 else 0):=fun b=>by cases b<;>rfl
 have n:(d.Kind=2∨d.Kind=3→∀ q ∈ d.Params,ui p q.tb)→∃ e,Dr d=some e∧(e=0→Gi p d):=by
  intro g;rw [Dr];have j:d.Kind=2∨d.Kind=3→d.Params.length≤6:=fun h=>(ya.hg h).1;by_cases c3:d.Kind=3
  ·rw [if_pos c3,ym,pa];by_cases q:d.fc.Kind≠3
   ·rw [if_pos (decide_eq_true q),if_pos (by omega),ym,pa,f];refine ⟨_,rfl,fun l=>⟨fun _ h=>?_,fun _=>q,g,j⟩⟩;simp [h] at l
   ·rw [if_neg (by simpa using q),f];exact ⟨9,rfl,fun h=>absurd h (by decide)⟩
  ·rw [if_neg c3];by_cases c4:d.Kind=4
   ·rw [if_neg (by simpa using c4),f];exact ⟨0,rfl,fun _=>⟨fun h=>absurd c4 h,fun h=>absurd h c3,g,j⟩⟩
   ·rw [if_pos c4,ym,pa,f];refine ⟨_,rfl,fun l=>⟨fun _ h=>?_,fun h=>absurd h c3,g,j⟩⟩;simp [h] at l
 have o:∀ b,(b=true ↔ d.Kind=2∨d.Kind=3)→∃ e,Gr p d b=some e∧(e=0→Gi p d):=by
  intro b r;rw [Gr];by_cases q:b=true
  ·rw [if_pos q];have A:=ya.hg (r.1 q);have L:∀ (m i:Nat) (S:List (List UInt8×Int)),i≤d.Params.length→d.Params.length<m+i→(∀ k c,Aa S k=some c→0≤c∧c≤1)→(∀ q ∈ d.Params.take i,ui p q.tb)→∃ e,Er p d m i S=some e∧(e=0→Gi p d):=by
    intro m
    induction m with
    | zero=>intro i S s t; omega
    | succ m u =>
     intro i S s t g1 g2;rw [Er];by_cases c:i<d.Params.length
     ·have B:0≤(Aa S d.Params[i].Name).getD 0∧(Aa S d.Params[i].Name).getD 0≤1:=by
       cases h:Aa S d.Params[i].Name with
       | none=>decide
       | some v=>exact g1 _ _ h
      rw [if_pos (by omega),sf,List.getElem?_eq_getElem c,pa,Td (by omega),pa,Si,if_pos rfl];simp only [Option.getD_some];by_cases w:(1:Int)<(Aa S d.Params[i].Name).getD 0+1
      ·rw [if_pos w];exact ⟨7,rfl,fun h=>absurd h (by decide)⟩
      ·obtain ⟨e,na,x⟩:=tF p d.Params[i].tb;rw [if_neg w,na,pa];by_cases z:e=0
       ·rw [if_neg (by simpa using z),Td (by omega),pa];refine u (i+1) _ c (by omega) (fun k v Ab=>?_) fun y a=>?_
        ·rw [Si] at Ab;split at Ab
         ·obtain rfl:=Option.some.inj Ab;omega
         ·exact g1 _ _ Ab
        ·rw [List.take_succ_eq_append_getElem c] at a;rcases List.mem_append.1 a with a | a
         ·exact g2 y a
         ·rw [List.mem_singleton.1 a];exact x z
       ·rw [if_pos z];exact ⟨e,rfl,fun h=>absurd h z⟩
     ·rw [if_neg (by omega)];rw [List.take_of_length_le (by omega)] at g2;exact n fun _=>g2
   exact L (d.Params.length+1) 0 [] (by omega) (by omega) (fun k c h=>by cases h) (by simp)
  ·rw [if_neg q];exact n fun h=>absurd (r.2 h) q
 rw [ss];split
 ·rename_i h;exact o _ (by simp [h])
 ·rename_i h;exact o _ (by simp [h])
theorem JE (fu:Nat) (x:500≤fu) (p:Eb) (d:va) (o:Vz p) (b:Gi p d) (ya:Fj d):∃ e,yo fu p d=some e∧(e=0→d.Kind≠1→∀ y ∈ d.Body,Sj p 39 y):=by
 rw [yo];by_cases Wa:d.Kind=1
 ·rw [if_pos Wa];exact ⟨0,rfl,fun _ h=>absurd Wa h⟩
 ·rw [if_neg Wa];have j:∀ B:ye,B.length=1→Uk p B→∃ e,kp fu p d B=some e∧(e=0→d.Kind≠1→∀ y ∈ d.Body,Sj p 39 y):=by
   intro B l f;obtain ⟨e,q,r⟩:=(xH fu).stats 39 p d B d.Body ⟨o,b,f,by omega⟩ (ya.Rd Wa) (ya.lr Wa) (by omega) (by omega);rw [kp,q,pa];exact ⟨e,rfl,fun s _=>r s⟩
  by_cases c4:d.Kind=4
  ·rw [if_neg (by simpa using c4)];exact j _ rfl (fun m hm k t a=>by rw [List.mem_singleton.1 hm] at a;cases a)
  ·rw [if_pos c4];have n:d.Kind=2∨d.Kind=3:=by have:=ya.k1;have:=ya.Gd;omega
   have z:=b.pl n;have L:∀ (m i:Nat) (B:ye),i≤d.Params.length→d.Params.length<m+i→B.length=1→Uk p B→∃ e,ko fu p d m i B=some e∧(e=0→d.Kind≠1→∀ y ∈ d.Body,Sj p 39 y):=by
    intro m
    induction m with
    | zero=>intro i B l f; omega
    | succ m u =>
     intro i B l f g1 g2;rw [ko];by_cases c:i<d.Params.length
     ·have v:0<B.length:=by omega
      rw [if_pos (by omega),sf,List.getElem?_eq_getElem c,pa,Ez v,pa,dm,pa,Kt,Td (by omega),pa];refine u (i+1) _ c (by omega) (by simpa using g1) fun w g k t a=>?_;rcases List.mem_or_eq_of_mem_set g with g | rfl
      ·exact g2 w g k t a
      ·rw [Si] at a;split at a
       ·obtain rfl:=Option.some.inj a;exact (b.hg n _ (List.getElem_mem _)).bare
       ·exact g2 _ (List.getElem_mem _) k t a
     ·rw [if_neg (by omega)];exact j B g1 g2
   exact L (d.Params.length+1) 0 _ (by omega) (by omega) rfl (fun m hm k t a=>by rw [List.mem_singleton.1 hm] at a;cases a)
structure Pk (p:Eb) (l:List va):Prop where
 ok:Mz l
 yh:∀ d ∈ l,Aa p.named d.Name=some d
 only:∀ k d,Aa p.named k=some d→d ∈ l∧d.Name=k
 MD:l.Pairwise fun a b=>a.Name≠b.Name
 Fg:∃ d ∈ l,d.Kind=4
 ya:∀ d ∈ l,Gi p d
 cs:∀ d ∈ l,d.Kind≠1→∀ y ∈ d.Body,Sj p 39 y
theorem iA (fu:Nat) (D:500≤fu) (l:List va):∃ p f,Ap fu l=some (p,f)∧(f.ve=0→Pk p l):=by
 obtain ⟨f,j,n⟩:=Px fu (by omega) l;rw [Ap,j,pa];by_cases z:f.ve=0
 ·obtain ⟨-,ok⟩:=n z;have qa:=ok.le;rw [if_neg (by simpa using z)];have E:∀ (N:List (List UInt8×va)),(∀ d ∈ l,Aa N d.Name=some d)→(∀ k d,Aa N k=some d→d ∈ l∧d.Name=k)→l.Pairwise (fun a b=>a.Name≠b.Name)→(∃ d ∈ l,d.Kind=4)→(∀ d ∈ l,Gi ⟨l,N⟩ d) →
    ∀ (m i:Nat),i≤l.length→l.length<m+i→(∀ d ∈ l.take i,d.Kind≠1→∀ y ∈ d.Body,Sj ⟨l,N⟩ 39 y)→∃ p f,fo fu l N m i=some (p,f)∧(f.ve=0→Pk p l):=by
   intro N r q s u w m
   induction m with
   | zero=>intro i j n; omega
   | succ m o =>
    intro i j n g;rw [fo];by_cases c:i<l.length
    ·obtain ⟨e,na,x⟩:=JE fu D ⟨l,N⟩ l[i] (fun k d ya=>w d (q k d ya).1) (w _ (List.getElem_mem _)) (ok.ok _ (List.getElem_mem _));rw [if_pos (by omega),sf,List.getElem?_eq_getElem c,pa,na,pa];by_cases z:e=0
     ·rw [if_neg (by simpa using z),Td (by omega),pa];refine o (i+1) c (by omega) fun d ya=>?_;rw [List.take_succ_eq_append_getElem c] at ya;rcases List.mem_append.1 ya with ya | ya
      ·exact g d ya
      ·rw [List.mem_singleton.1 ya];exact x z
     ·rw [if_pos z];exact ⟨_,_,rfl,fun h=>absurd h z⟩
    ·rw [if_neg (by omega)];rw [List.take_of_length_le (by omega)] at g;exact ⟨_,_,rfl,fun _=>⟨ok,r,q,s,u,w,g⟩⟩
  have F:∀ (N:List (List UInt8×va)),(∀ d ∈ l,Aa N d.Name=some d)→(∀ k d,Aa N k=some d→d ∈ l∧d.Name=k)→l.Pairwise (fun a b=>a.Name≠b.Name)→(∃ d ∈ l,d.Kind=4) →
    ∀ (m i:Nat),i≤l.length→l.length<m+i→(∀ d ∈ l.take i,Gi ⟨l,N⟩ d)→∃ p f,ho fu l N m i=some (p,f)∧(f.ve=0→Pk p l):=by
   intro N r q s u m
   induction m with
   | zero=>intro i j n; omega
   | succ m o =>
    intro i j n g;rw [ho];by_cases c:i<l.length
    ·obtain ⟨e,na,x⟩:=IE ⟨l,N⟩ l[i] (ok.ok _ (List.getElem_mem _));rw [if_pos (by omega),sf,List.getElem?_eq_getElem c,pa,na,pa];by_cases z:e=0
     ·rw [if_neg (by simpa using z),Td (by omega),pa];refine o (i+1) c (by omega) fun d ya=>?_;rw [List.take_succ_eq_append_getElem c] at ya;rcases List.mem_append.1 ya with ya | ya
      ·exact g d ya
      ·rw [List.mem_singleton.1 ya];exact x z
     ·rw [if_pos z];exact ⟨_,_,rfl,fun h=>absurd h z⟩
    ·rw [if_neg (by omega)];rw [List.take_of_length_le (by omega)] at g;exact E N r q s u g (l.length+1) 0 (by omega) (by omega) (by simp)
  have G:∀ (m i:Nat) (t:Int) (N:List (List UInt8×va)),i≤l.length→l.length<m+i→0≤t→t≤i→(t≠0→∃ d ∈ l,d.Kind=4)→(∀ d ∈ l.take i,Aa N d.Name=some d)→(∀ k d,Aa N k=some d→d ∈ l.take i∧d.Name=k)→(l.take i).Pairwise (fun a b=>a.Name≠b.Name) →
    ∃ p f,jo fu l m t i N=some (p,f)∧(f.ve=0→Pk p l):=by
   intro m
   induction m with
   | zero=>intro i t N j n; omega
   | succ m o =>
    intro i t N j n g1 g2 g3 g4 g5 g6;rw [jo];by_cases c:i<l.length
    ·have Va:at_ l (i:Int)=some l[i]:=by rw [sf,List.getElem?_eq_getElem c]
     rw [if_pos (by omega),Va,pa];cases h:Aa N l[i].Name with
     | some v=>rw [if_pos (by simp)]; exact ⟨_,_,rfl,fun h=>absurd h (by decide:(7:Int)≠0)⟩
     | none =>
      rw [if_neg (by simp)];simp only [pa];have hm:l[i] ∈ l:=List.getElem_mem _;have Fg:=List.take_succ_eq_append_getElem c;have bo:∀ d ∈ l.take i,d.Name≠l[i].Name:=fun d ya he=>by
       have:=g4 d ya;rw [he,h] at this;cases this
      have A:∀ d ∈ l.take (i+1),Aa (Fc N l[i].Name l[i]) d.Name=some d:=by
       intro d ya;rw [Fg] at ya;rw [Si];rcases List.mem_append.1 ya with ya | ya
       ·rw [if_neg fun he=>bo d ya he.symm];exact g4 d ya
       ·rw [List.mem_singleton.1 ya,if_pos rfl]
      have B:∀ k d,Aa (Fc N l[i].Name l[i]) k=some d→d ∈ l.take (i+1)∧d.Name=k:=by
       intro k d ya;rw [Si] at ya;rw [Fg];split at ya
       ·rename_i H;obtain rfl:=Option.some.inj ya;exact ⟨List.mem_append.2 (.inr (List.mem_singleton.2 rfl)),H⟩
       ·obtain ⟨K,L⟩:=g5 k d ya;exact ⟨List.mem_append.2 (.inl K),L⟩
      have C:(l.take (i+1)).Pairwise (fun a b=>a.Name≠b.Name):=by
       rw [Fg,List.pairwise_append];refine ⟨g6,List.pairwise_singleton _ _,fun a M b P=>?_⟩;rw [List.mem_singleton.1 P];exact bo a M
      by_cases Gd:l[i].Kind=4
      ·rw [if_pos Gd,Td (by omega),pa,Td (by omega),pa];exact o (i+1) (t+1) _ c (by omega) (by omega) (by omega) (fun _=>⟨_,hm,Gd⟩) A B C
      ·rw [if_neg Gd,Td (by omega),pa];exact o (i+1) t _ c (by omega) g1 (by omega) g3 A B C
    ·rw [if_neg (by omega)];rw [List.take_of_length_le (by omega)] at g4 g5 g6;by_cases t0:t=0
     ·rw [if_pos t0];exact ⟨_,_,rfl,fun h=>absurd h (by decide:(6:Int)≠0)⟩
     ·rw [if_neg t0];exact F N g4 g5 g6 (g3 t0) (l.length+1) 0 (by omega) (by omega) (by simp)
  exact G (l.length+1) 0 0 [] (by omega) (by omega) (by omega) (by omega) (fun h=>absurd rfl h) (by simp) (fun k d h=>by cases h) (by simp)
 ·rw [if_pos z];exact ⟨_,_,rfl,fun h=>absurd h z⟩
end Go.Y
namespace Go.Y
open Go.oc Go.sd
abbrev Nm:=List UInt8
def Oi:Nat→sb→List Nm
 | 0,_=>[]
 | k+1,x=>(if x.Kind=19∨x.Kind=22 then [x.Name] else [])++(x.Kids.map (Oi k)).flatten
def Qi:Nat→sb→List Nm
 | 0,_=>[]
 | k+1,x=>(if x.Kind=20 then [x.Name] else [])++(x.Kids.map (Qi k)).flatten
def oh:Nat→Ub→List Nm
 | 0,_=>[]
 | k+1,s=>(if s.Kind=6 then [] else Oi k s.X)++(if s.Kind=3∨s.Kind=4 then (s.Body.map (oh k)).flatten else [])++(if s.Kind=3 then (s.mf.map (oh k)).flatten else [])
def ph:Nat→Ub→List Nm
 | 0,_=>[]
 | k+1,s=>(if s.Kind=6 then [] else Qi k s.X)++(if s.Kind=3∨s.Kind=4 then (s.Body.map (ph k)).flatten else [])++(if s.Kind=3 then (s.mf.map (ph k)).flatten else [])
def qh:Nat→Ub→List Nm
 | 0,_=>[]
 | k+1,s=>(if s.Kind=7 then [s.Name] else [])++(if s.Kind=3∨s.Kind=4 then (s.Body.map (qh k)).flatten else [])++(if s.Kind=3 then (s.mf.map (qh k)).flatten else [])
theorem Mk {α β:Type}(f:α→List β) (g:α→Nat) (h:∀ x,(f x).length≤g x):∀ l:List α,(l.map f).flatten.length≤(l.map g).sum
 | []=>by simp
 | x::l=>by
  have:=Mk f g h l;have:=h x;simp only [List.map_cons,List.flatten_cons,List.length_append,List.sum_cons];omega
theorem gz {α:Type}(g:α→Nat):∀ (l:List α) (x:α),x ∈ l→g x≤(l.map g).sum
 | y::l,x,h=>by
  rw [List.map_cons,List.sum_cons];rcases List.mem_cons.1 h with rfl | h
  ·omega
  ·have:=gz g l x h;omega
theorem bx:∀ (k:Nat) (x:sb),(Oi k x).length≤xh k x
 | 0,x=>by simp [Oi]
 | k+1,x=>by
  have:=Mk (Oi k) (xh k) (bx k) x.Kids;rw [Oi,xh,List.length_append];split<;>simp only [List.length_cons,List.length_nil]<;>omega
theorem cx:∀ (k:Nat) (x:sb),(Qi k x).length≤xh k x
 | 0,x=>by simp [Qi]
 | k+1,x=>by
  have:=Mk (Qi k) (xh k) (cx k) x.Kids;rw [Qi,xh,List.length_append];split<;>simp only [List.length_cons,List.length_nil]<;>omega
theorem Qu:∀ (k:Nat) (x:Ub),(oh k x).length≤pf k x
 | 0,x=>by simp [oh]
 | k+1,x=>by
  have:=Mk (oh k) (pf k) (Qu k) x.Body;have:=Mk (oh k) (pf k) (Qu k) x.mf;have:=bx k x.X;rw [oh,pf,List.length_append,List.length_append];split<;>split<;>split<;>(try simp only [List.length_nil])<;>omega
theorem Ru:∀ (k:Nat) (x:Ub),(ph k x).length≤pf k x
 | 0,x=>by simp [ph]
 | k+1,x=>by
  have:=Mk (ph k) (pf k) (Ru k) x.Body;have:=Mk (ph k) (pf k) (Ru k) x.mf;have:=cx k x.X;rw [ph,pf,List.length_append,List.length_append];split<;>split<;>split<;>(try simp only [List.length_nil])<;>omega
theorem Su:∀ (k:Nat) (x:Ub),(qh k x).length≤pf k x
 | 0,x=>by simp [qh]
 | k+1,x=>by
  have:=Mk (qh k) (pf k) (Su k) x.Body;have:=Mk (qh k) (pf k) (Su k) x.mf;rw [qh,pf,List.length_append,List.length_append];by_cases a:x.Kind=7
  ·rw [if_pos a,if_neg (by omega),if_neg (by omega),if_neg (by omega),if_neg (by omega),if_neg (by omega)];simp
  ·rw [if_neg a];split<;>split<;>split<;>(try simp only [List.length_nil])<;>omega
theorem tl {α:Type}{l xs:List α}(h:l.length+xs.length≤4294967296):app l xs=some (l++xs):=if_pos h
theorem KE:∀ (n k:Nat) (x:sb) (c s r:List Nm),k≤n→Eh k x→c.length+xh k x≤1000000→r.length+xh k x≤1000000→(Gp n).Hl c s r x=some (c++Oi k x,s,r++Qi k x):=by
 intro n
 induction n with
 | zero =>
  intro k x c s r e a;obtain rfl:k=0:=by omega
  cases a
 | succ n l =>
  intro k x c s r e a o p;cases k with
  | zero=>cases a
  | succ k =>
  obtain ⟨k1,w,t,u⟩:=a;show Hl (Gp n) c s r x=_;have L:∀ (m i:Nat) (c r:List Nm),i≤x.Kids.length→x.Kids.length<m+i→c.length+((x.Kids.drop i).map (xh k)).sum≤1000000→r.length+((x.Kids.drop i).map (xh k)).sum≤1000000 →
    Hr (Gp n) x m i c s r=some (c++((x.Kids.drop i).map (Oi k)).flatten,s,r++((x.Kids.drop i).map (Qi k)).flatten):=by
   intro m
   induction m with
   | zero=>intro i c r e a; omega
   | succ m v =>
    intro i c r g1 g2 g3 g4;rw [Hr];have qa:=t.le;by_cases q:i<x.Kids.length
    ·rw [List.drop_eq_getElem_cons q,List.map_cons,List.sum_cons] at g3 g4;have V:=bx k x.Kids[i];have Ed:=cx k x.Kids[i];rw [if_pos (by omega),sf,List.getElem?_eq_getElem q,pa,l k x.Kids[i] c s r (by omega) (u _ (List.getElem_mem _)) (by omega) (by omega),pa,Td (by omega),pa];refine (v (i+1) _ _ q (by omega) (by simp only [List.length_append];omega) (by simp only [List.length_append];omega)).trans ?_;rw [List.drop_eq_getElem_cons q];simp only [List.map_cons,List.flatten_cons,List.append_assoc]
    ·rw [if_neg (by omega),List.drop_eq_nil_of_le (by omega)];simp
  have d:∀ c r:List Nm,c.length+(x.Kids.map (xh k)).sum≤1000000→r.length+(x.Kids.map (xh k)).sum≤1000000→sq (Gp n) x s c r=some (c++(x.Kids.map (Oi k)).flatten,s,r++(x.Kids.map (Qi k)).flatten):=by
   intro c r g1 g2;have:=L (x.Kids.length+1) 0 c r (by omega) (by omega) (by simpa using g1) (by simpa using g2);simpa [sq] using this
  rw [xh] at o p;have f:∀ b,(b=true ↔ x.Kind=19∨x.Kind=22)→Ir (Gp n) c x s r b=some (c++Oi (k+1) x,s,r++Qi (k+1) x):=by
   intro b g;rw [Ir,Oi,Qi];by_cases q:b=true
   ·have:=g.1 q;rw [if_pos q,tl (by simp;omega),pa,Lv,d _ _ (by simp;omega) (by omega),if_pos this,if_neg (by omega)];simp
   ·rw [if_neg q];have j:¬ (x.Kind=19∨x.Kind=22):=fun h=>q (g.2 h);by_cases c20:x.Kind=20
    ·rw [if_pos c20,tl (by simp;omega),pa,Mv,d _ _ (by omega) (by simp;omega),if_neg j,if_pos c20];simp
    ·rw [if_neg c20,d _ _ (by omega) (by omega),if_neg j,if_neg c20];simp
  rw [Hl];split
  ·rename_i h;exact f _ (by simp [h])
  ·rename_i h;exact f _ (by simp [h])
theorem lE:∀ (n k:Nat) (l:List Ub) (c s r:List Nm),k+1≤n→l.length≤50→(∀ y ∈ l,Yk k y)→c.length+(l.map (pf k)).sum≤1000000→s.length+(l.map (pf k)).sum≤1000000→r.length+(l.map (pf k)).sum≤1000000 →
  (Jk n).nk c s r l=some (c++(l.map (oh k)).flatten,s++(l.map (qh k)).flatten,r++(l.map (ph k)).flatten):=by
 intro n
 induction n with
 | zero=>intro k l c s r p; omega
 | succ n t =>
  intro k l c s r p qa C f D E;show nk n (Jk n) c s r l=_;have L:∀ (m i:Nat) (c s r:List Nm),i≤l.length→l.length<m+i→c.length+((l.drop i).map (pf k)).sum≤1000000→s.length+((l.drop i).map (pf k)).sum≤1000000→r.length+((l.drop i).map (pf k)).sum≤1000000 →
    hk n (Jk n) l m i c s r=some (c++((l.drop i).map (oh k)).flatten,s++((l.drop i).map (qh k)).flatten,r++((l.drop i).map (ph k)).flatten):=by
   intro m
   induction m with
   | zero=>intro i c s r p K; omega
   | succ m F =>
    intro i c s r g1 g2 g3 g4 g5;rw [hk];by_cases q:i<l.length
    ·rw [List.drop_eq_getElem_cons q,List.map_cons,List.sum_cons] at g3 g4 g5;rw [if_pos (by omega),sf,List.getElem?_eq_getElem q,pa];have u:=C _ (List.getElem_mem q);have V:=Qu k l[i];have Ed:=Su k l[i];have Ta:=Ru k l[i];have vb:=fun Db oe r' (na:Db=c++oh k l[i]) (a:oe=s++qh k l[i]) (d:r'=r++ph k l[i]) =>
      (F (i+1) Db oe r' q (by omega) (by rw [na,List.length_append];omega) (by rw [a,List.length_append];omega) (by rw [d,List.length_append];omega)).trans
       (show _=some (c++((l.drop i).map (oh k)).flatten,s++((l.drop i).map (qh k)).flatten,r++((l.drop i).map (ph k)).flatten) by
        rw [List.drop_eq_getElem_cons q,na,a,d];simp only [List.map_cons,List.flatten_cons,List.append_assoc])
     generalize l[i]=y at *;cases k with
     | zero=>cases u
     | succ k =>
     obtain ⟨k1,M,G,v,w⟩:=u;rw [pf] at g3 g4 g5;rw [oh] at V vb;rw [qh] at Ed vb;rw [ph] at Ta vb;have x:∀ Db oe r',(y.Kind=3→Db.length+(y.mf.map (pf k)).sum≤1000000∧oe.length+(y.mf.map (pf k)).sum≤1000000∧r'.length+(y.mf.map (pf k)).sum≤1000000) →
       Db=c++((if y.Kind=6 then [] else Oi k y.X)++(if y.Kind=3∨y.Kind=4 then (y.Body.map (oh k)).flatten else []))→oe=s++((if y.Kind=7 then [y.Name] else [])++(if y.Kind=3∨y.Kind=4 then (y.Body.map (qh k)).flatten else [])) →
       r'=r++((if y.Kind=6 then [] else Qi k y.X)++(if y.Kind=3∨y.Kind=4 then (y.Body.map (ph k)).flatten else [])) →
       sr (Jk n) i y (hk n (Jk n) l m) Db oe r'=some (c++((l.drop i).map (oh (k+1))).flatten,s++((l.drop i).map (qh (k+1))).flatten,r++((l.drop i).map (ph (k+1))).flatten):=by
      intro Db oe r' g na a d;rw [sr];by_cases c3:y.Kind=3
      ·obtain ⟨H,z2,z3⟩:=g c3;rw [if_pos c3,t k y.mf Db oe r' (by omega) (w c3).1 (w c3).2 H z2 z3,pa,Td (by omega),pa];refine vb _ _ _ ?_ ?_ ?_
       ·rw [na];simp only [if_pos c3,List.append_assoc]
       ·rw [a];simp only [if_pos c3,List.append_assoc]
       ·rw [d];simp only [if_pos c3,List.append_assoc]
      ·rw [if_neg c3,Td (by omega),pa];refine vb _ _ _ ?_ ?_ ?_
       ·rw [na];simp only [if_neg c3,List.append_nil]
       ·rw [a];simp only [if_neg c3,List.append_nil]
       ·rw [d];simp only [if_neg c3,List.append_nil]
     have z:∀ Db oe r' b,(b=true ↔ y.Kind=3∨y.Kind=4)→Db=c++(if y.Kind=6 then [] else Oi k y.X)→oe=s++(if y.Kind=7 then [y.Name] else [])→r'=r++(if y.Kind=6 then [] else Qi k y.X) →
       tr (Jk n) i y Db oe r' (hk n (Jk n) l m) b=some (c++((l.drop i).map (oh (k+1))).flatten,s++((l.drop i).map (qh (k+1))).flatten,r++((l.drop i).map (ph (k+1))).flatten):=by
      intro Db oe r' b g na a d;rw [tr];have N:=bx k y.X;have P:=cx k y.X;have Q:=Mk (oh k) (pf k) (Qu k) y.Body;have R:=Mk (qh k) (pf k) (Su k) y.Body;have S:=Mk (ph k) (pf k) (Ru k) y.Body;by_cases q:b=true
      ·have e:=g.1 q;rw [if_neg (show y.Kind≠6 by omega),if_pos e] at g3 g4 g5;rw [if_neg (show y.Kind≠6 by omega)] at na d;rw [if_neg (show y.Kind≠7 by omega)] at a;have T:Db.length=c.length+(Oi k y.X).length:=by rw [na,List.length_append]
       have U:oe.length=s.length:=by rw [a];simp
       have W:r'.length=r.length+(Qi k y.X).length:=by rw [d,List.length_append]
       rw [if_pos q,t k y.Body Db oe r' (by omega) (v e).1 (v e).2 (by omega) (by omega) (by omega),pa];refine x _ _ _ (fun f=>?_) ?_ ?_ ?_
       ·rw [if_pos f] at g3 g4 g5;simp only [List.length_append];omega
       ·rw [na,if_neg (show y.Kind≠6 by omega),if_pos e,List.append_assoc]
       ·rw [a,if_neg (show y.Kind≠7 by omega),if_pos e,List.append_assoc]
       ·rw [d,if_neg (show y.Kind≠6 by omega),if_pos e,List.append_assoc]
      ·have j:¬ (y.Kind=3∨y.Kind=4):=fun h=>q (g.2 h);rw [if_neg q];refine x _ _ _ (fun f=>absurd (.inl f) j) ?_ ?_ ?_
       ·rw [na,if_neg j,List.append_nil]
       ·rw [a,if_neg j,List.append_nil]
       ·rw [d,if_neg j,List.append_nil]
     have A:∀ oe,oe=s++(if y.Kind=7 then [y.Name] else [])→vr n (Jk n) i c r y (hk n (Jk n) l m) oe=some (c++((l.drop i).map (oh (k+1))).flatten,s++((l.drop i).map (qh (k+1))).flatten,r++((l.drop i).map (ph (k+1))).flatten):=by
      intro oe a;have B:∀ Db r',Db=c++(if y.Kind=6 then [] else Oi k y.X)→r'=r++(if y.Kind=6 then [] else Qi k y.X)→ur (Jk n) i y (hk n (Jk n) l m) Db oe r'=some (c++((l.drop i).map (oh (k+1))).flatten,s++((l.drop i).map (qh (k+1))).flatten,r++((l.drop i).map (ph (k+1))).flatten):=by
       intro Db r' na d;rw [ur];split
       ·rename_i h;exact z _ _ _ _ (by simp [h]) na a d
       ·rename_i h;exact z _ _ _ _ (by simp [h]) na a d
      rw [vr];by_cases He:y.Kind=6
      ·rw [if_neg (by simpa using He)];exact B _ _ (by rw [if_pos He,List.append_nil]) (by rw [if_pos He,List.append_nil])
      ·rw [if_neg He] at g3 g4 g5;rw [if_pos He,KE n k y.X c oe r (by omega) (G He) (by omega) (by omega),pa];exact B _ _ (by rw [if_neg He]) (by rw [if_neg He])
     by_cases o:y.Kind=7
     ·rw [if_pos o,tl (by simp;omega),pa,Cv];exact A _ (by rw [if_pos o])
     ·rw [if_neg o];exact A _ (by rw [if_neg o,List.append_nil])
    ·rw [if_neg (by omega),List.drop_eq_nil_of_le (by omega)];simp
  rw [nk];have:=L (l.length+1) 0 c s r (by omega) (by omega) (by simpa using f) (by simpa using D) (by simpa using E);simpa using this
end Go.Y
namespace Go.Y
open Go.oc Go.sd
def Gj (B:ye) (n:Nm):Option Ya:=B.reverse.findSome? fun m=>Aa m n
inductive Ge (p:Eb) (d:va) (B:ye):sb→Ya→Prop
 | num {x:sb}:x.Kind=1→Ge p d B x ⟨1,[]⟩
 | bool {x:sb}:x.Kind=2→Ge p d B x ⟨2,[]⟩
 | var {x:sb} {t:Ya}:x.Kind=3→Gj B x.Name=some t→Ge p d B x t
 | neg {x a:sb}:x.Kind=4→x.Kids=[a]→Ge p d B a ⟨1,[]⟩→Ge p d B x ⟨1,[]⟩
 | not {x a:sb}:x.Kind=5→x.Kids=[a]→Ge p d B a ⟨2,[]⟩→Ge p d B x ⟨2,[]⟩
 | Wz {x a b:sb}:6≤x.Kind∧x.Kind≤10→x.Kids=[a,b]→Ge p d B a ⟨1,[]⟩→Ge p d B b ⟨1,[]⟩→Ge p d B x ⟨1,[]⟩
 | eq {x a b:sb} {t:Ya}:x.Kind=11∨x.Kind=12→x.Kids=[a,b]→Ge p d B a t→Ge p d B b t→t.Kind≠3→Ge p d B x ⟨2,[]⟩
 | lt {x a b:sb}:13≤x.Kind∧x.Kind≤16→x.Kids=[a,b]→Ge p d B a ⟨1,[]⟩→Ge p d B b ⟨1,[]⟩→Ge p d B x ⟨2,[]⟩
 | Rg {x a b:sb}:17≤x.Kind∧x.Kind≤18→x.Kids=[a,b]→Ge p d B a ⟨2,[]⟩→Ge p d B b ⟨2,[]⟩→Ge p d B x ⟨2,[]⟩
 | call {x:sb} {f:va}:x.Kind=19→Aa p.named x.Name=some f→f.Kind=2→x.Kids.length=f.Params.length→(∀ (i:Nat) (y:sb) (q:TParam),x.Kids[i]?=some y→f.Params[i]?=some q→Ge p d B y (kf q.tb))→Ge p d B x (kf f.tb)
 | recv {x:sb} {f:va}:x.Kind=20→Aa p.named x.Name=some f→f.Kind=1→Ge p d B x (kf f.tb)
 | Nz {x a:sb}:x.Kind=21→d.Kind=3→x.Kids=[a]→Ge p d B a (kf d.tb)→Ge p d B x (kf d.fc)
 | start {x:sb} {f:va}:x.Kind=22→Aa p.named x.Name=some f→f.Kind=3→x.Kids.length=f.Params.length→(∀ (i:Nat) (y:sb) (q:TParam),x.Kids[i]?=some y→f.Params[i]?=some q→Ge p d B y (kf q.tb))→Ge p d B x ⟨3,x.Name⟩
 | resume {x a b:sb} {g:Nm} {f:va}:x.Kind=23→x.Kids=[a,b]→Ge p d B a ⟨3,g⟩→Aa p.named g=some f→f.Kind=3→Ge p d B b (kf f.fc)→Ge p d B x (kf f.tb)
 | alive {x a:sb} {g:Nm} {f:va}:x.Kind=24→x.Kids=[a]→Ge p d B a ⟨3,g⟩→Aa p.named g=some f→f.Kind=3→Ge p d B x ⟨2,[]⟩
theorem GD {a b:Ya}(h:kj [decide (a.Kind=b.Kind),decide (a.yc=b.yc)]=true):a=b:=by
 cases a;cases b;simp [kj] at h;simp [h]
theorem UF {B:ye}{n:Nat}{m:List (Nm×Ya)}{C:ye}{name:Nm}(h:B.take (n+1)=C++[m]):Gj (B.take (n+1)) name=match Aa m name with | some t=>some t | none=>Gj C name:=by
 rw [h];unfold Gj;rw [List.reverse_append,List.reverse_singleton,List.singleton_append,List.findSome?_cons];cases Aa m name<;>rfl
theorem hz {p:Eb}{B:ye}(c:Uk p B) (qa:B.length≤100) (fu:Nat) (k:110≤fu) (d:va) (name:Nm):∃ t b,xo fu p d B name=some (t,b)∧(b=true→ui p t∧Gj B name=some t)∧(b=false→Gj B name=none):=by
 have L:∀ (n j:Nat),j≤B.length→j<n→∃ t b,cp name B n ((j:Int) - 1)=some (t,b)∧(b=true→ui p t∧Gj (B.take j) name=some t)∧(b=false→Gj (B.take j) name=none):=by
  intro n
  induction n with
  | zero=>intro j f g; omega
  | succ n i =>
   intro j f g;rw [cp];cases j with
   | zero=>rw [if_neg (by omega)]; exact ⟨_,_,rfl,by simp,fun _=>by rw [List.take_zero]; rfl⟩
   | succ j =>
    have a:j<B.length:=by omega
    have e:((j+1:Nat):Int) - 1=(j:Int):=by omega
    have hs:=UF (B:=B) (n:=j) (m:=B[j]) (C:=B.take j) (name:=name) (List.take_append_getElem a).symm;rw [e,if_pos (by omega),sf,List.getElem?_eq_getElem a,pa,hs];cases h:Aa B[j] name with
    | none =>
     rw [if_neg (by simp),Td (by omega),pa];exact i j (by omega) (by omega)
    | some t=>exact ⟨t,true,rfl,fun _=>⟨c _ (List.getElem_mem _) _ _ h,rfl⟩,fun h=>by cases h⟩
 rw [xo,Td (by omega),pa];have:=L fu B.length (by omega) (by omega);rwa [List.take_length] at this
structure CI (n:Nat):Prop where
 typed:∀ (k:Nat) (p:Eb) (d:va) (B:ye) (x:sb) (t:Ya),El p d B→Eh k x→3*k+111≤n→∃ e,(gg n).Tg p d B x t=some e∧(e=0→Ge p d B x (kf t))
 args:∀ (k:Nat) (p:Eb) (d:va) (B:ye) (x:sb) (kind:Int),El p d B→(∀ y ∈ x.Kids,Eh k y)→x.Kids.length≤6→(kind=2∨kind=3)→3*k+112≤n →
  ∃ c e,(gg n).pk p d B x kind=some (c,e)∧(e=0→∃ f,c=some f∧Aa p.named x.Name=some f∧f.Kind=kind∧x.Kids.length=f.Params.length∧∀ (i:Nat) (y:sb) (q:TParam),x.Kids[i]?=some y→f.Params[i]?=some q→Ge p d B y (kf q.tb))
 both:∀ (k:Nat) (p:Eb) (d:va) (B:ye) (x a b:sb),El p d B→x.Kids=[a,b]→Eh k a→Eh k b→3*k+112≤n→∃ t e,(gg n).ml p d B x=some (t,e)∧(e=0→Ge p d B a t∧Ge p d B b t∧t.Kind≠3)
 handle:∀ (k:Nat) (p:Eb) (d:va) (B:ye) (x:sb),El p d B→Eh k x→3*k+112≤n→∃ c e,(gg n).jk p d B x=some (c,e)∧(e=0→∃ f g,c=some f∧Aa p.named g=some f∧f.Kind=3∧Ge p d B x ⟨3,g⟩)
 expr:∀ (k:Nat) (p:Eb) (d:va) (B:ye) (x:sb),El p d B→Eh k x→3*k+110≤n→∃ t e,(gg n).Hh p d B x=some (t,e)∧(e=0→ui p t∧Ge p d B x t)
theorem KC:∀ n,CI n:=by
 intro n
 induction n with
 | zero=>exact ⟨fun _ _ _ _ _ _ _ _ h=>by omega,fun _ _ _ _ _ _ _ _ _ _ h=>by omega,fun _ _ _ _ _ _ _ _ _ _ _ h=>by omega,fun _ _ _ _ _ _ _ h=>by omega,fun _ _ _ _ _ _ _ h=>by omega⟩
 | succ n v =>
  refine ⟨fun k p d B x t H C S=>?_,fun k p d B x kind H C qa G S=>?_,fun k p d B x a b H C o P S=>?_,fun k p d B x H C S=>?_,fun k p d B x H C S=>?_⟩
  ·show ∃ e,Tg (gg n) p d B x t=some e∧_;obtain ⟨qd,e,u,s⟩:=v.expr k p d B x H C (by omega);rw [Tg,u,pa];by_cases z:e=0
   ·rw [if_pos z,dm,pa,vv];refine ⟨_,rfl,fun r=>?_⟩;simp only at r;split at r
    ·exact absurd r (by decide)
    ·rename_i q;have rd:kj [decide (qd.Kind=(kf t).Kind),decide (qd.yc=(kf t).yc)]=true:=by simpa using q
     exact GD rd ▸ (s z).2
   ·rw [if_neg z,vv];exact ⟨e,rfl,fun h=>absurd h z⟩
  ·show ∃ w e,pk (gg n) p d B x kind=some (w,e)∧_;rw [pk,vq,pa];by_cases c:Ym (Aa p.named x.Name) kind=true
   ·obtain ⟨f,K,Y⟩:=Sq c;rw [if_pos c,K];simp only [pa];have td:=H.ao _ _ K;have he:=td.pl (by omega);by_cases q:(f.Params.length:Int)≠x.Kids.length
    ·rw [decide_eq_true q];exact ⟨none,5,rfl,fun h=>absurd h (by decide)⟩
    ·rw [decide_eq_false q,It,if_neg (by decide)];simp only [pa];have L:∀ (m i:Nat),i≤f.Params.length→f.Params.length<m+i→∃ w e,dp (gg n) x p d B (some f,Ym (some f) kind) f m i=some (w,e)∧(e=0→w=some f∧∀ (j:Nat) (y:sb) (q:TParam),i≤j→x.Kids[j]?=some y→f.Params[j]?=some q→Ge p d B y (kf q.tb)):=by
      intro m
      induction m with
      | zero=>intro i u s; omega
      | succ m Z =>
       intro i u s;rw [dp];by_cases c:i<f.Params.length
       ·have id:i<x.Kids.length:=by omega
        obtain ⟨e,na,A⟩:=v.typed k p d B x.Kids[i] f.Params[i].tb H (C _ (List.getElem_mem _)) (by omega);rw [if_pos (by omega),sf,List.getElem?_eq_getElem c,pa,sf,List.getElem?_eq_getElem id,pa,na,pa];by_cases z:e=0
        ·rw [if_neg (by simpa using z),Td (by omega),pa];obtain ⟨w,Q,R,M⟩:=Z (i+1) c (by omega);refine ⟨w,Q,R,fun r=>⟨(M r).1,fun j y q wd D E=>?_⟩⟩;by_cases Fd:i=j
         ·subst Fd;rw [List.getElem?_eq_getElem id] at D;rw [List.getElem?_eq_getElem c] at E;obtain rfl:=Option.some.inj D;obtain rfl:=Option.some.inj E;exact A z
         ·exact (M r).2 j y q (by omega) D E
        ·rw [if_pos z];exact ⟨none,e,rfl,fun h=>absurd h z⟩
       ·rw [if_neg (by omega)];refine ⟨some f,0,rfl,fun _=>⟨rfl,fun j y q wd D E=>?_⟩⟩;rw [List.getElem?_eq_none (by omega)] at E;cases E
     obtain ⟨w,e,R,M⟩:=L (f.Params.length+1) 0 (by omega) (by omega);refine ⟨w,e,R,fun r=>?_⟩;obtain ⟨s1,s2⟩:=M r;exact ⟨f,s1,rfl,Y,by omega,fun i y q=>s2 i y q (by omega)⟩
   ·rw [if_neg c];exact ⟨none,7,rfl,fun h=>absurd h (by decide)⟩
  ·show ∃ t e,ml (gg n) p d B x=some (t,e)∧_;obtain ⟨t1,na,u,s⟩:=v.expr k p d B a H o (by omega);obtain ⟨t2,A,g1,g2⟩:=v.expr k p d B b H P (by omega);have k0:at_ x.Kids 0=some a:=by rw [C];rfl
   have k1:at_ x.Kids 1=some b:=by rw [C];rfl
   rw [ml,k0,pa,u,pa];by_cases z:na=0
   ·rw [if_neg (by simpa using z),k1,pa,g1,pa];by_cases z2:A=0
    ·rw [if_pos z2];split
     ·rename_i E;obtain rfl:=GD E;rw [ym,pa,Dt];refine ⟨_,_,rfl,fun r=>⟨(s z).2,(g2 z2).2,fun Id=>?_⟩⟩;have be:t1.Kind=3:=Id;simp [be] at r
     ·rw [Dt];exact ⟨_,9,rfl,fun h=>absurd h (by decide)⟩
    ·rw [if_neg z2,Dt];exact ⟨_,A,rfl,fun h=>absurd h z2⟩
   ·rw [if_pos z];exact ⟨_,na,rfl,fun h=>absurd h z⟩
  ·show ∃ w e,jk (gg n) p d B x=some (w,e)∧_;obtain ⟨t,e,u,s⟩:=v.expr k p d B x H C (by omega);rw [jk,u,pa];by_cases z:e=0
   ·rw [if_neg (by simpa using z),ym,pa];by_cases q:t.Kind≠3
    ·rw [if_pos (decide_eq_true q)];exact ⟨none,9,rfl,fun h=>absurd h (by decide)⟩
    ·obtain ⟨f,f1,f2⟩:=(s z).1 (Decidable.not_not.1 q);rw [if_neg (by simpa using q)];have aa:t=⟨3,t.yc⟩:=by cases t;simp at q;simp [q]
     exact ⟨_,0,rfl,fun _=>⟨f,t.yc,f1,f1,f2,by rw [← aa];exact (s z).2⟩⟩
   ·rw [if_pos z];exact ⟨none,e,rfl,fun h=>absurd h z⟩
  ·show ∃ t e,Hh n (gg n) p d B x=some (t,e)∧_;cases k with
   | zero=>cases C
   | succ k =>
   obtain ⟨k1,ne,G,N⟩:=C;have T:Sh x.Kind=1→∃ a,x.Kids=[a]∧Eh k a:=fun h=>by
    obtain ⟨a,o⟩:=one (l:=x.Kids) (by have:=G.eq (by omega);omega);exact ⟨a,o,N a (by simp [o])⟩
   have gc:Sh x.Kind=2→∃ a b,x.Kids=[a,b]∧Eh k a∧Eh k b:=fun h=>by
    obtain ⟨a,b,o⟩:=two (l:=x.Kids) (by have:=G.eq (by omega);omega);exact ⟨a,b,o,N a (by simp [o]),N b (by simp [o])⟩
   rw [Hh];by_cases Wa:x.Kind=1
   ·rw [if_pos Wa];exact ⟨_,0,rfl,fun _=>⟨.of (by decide),.num Wa⟩⟩
   rw [if_neg Wa];by_cases c2:x.Kind=2
   ·rw [if_pos c2];exact ⟨_,0,rfl,fun _=>⟨.of (by decide),.bool c2⟩⟩
   rw [if_neg c2];by_cases c3:x.Kind=3
   ·obtain ⟨t,b,u,s,-⟩:=hz H.Wg H.Rd n (by omega) d x.Name;rw [if_pos c3,u,pa];cases b with
    | true=>exact ⟨t,0,rfl,fun _=>⟨(s rfl).1,.var c3 (s rfl).2⟩⟩
    | false=>exact ⟨_,7,rfl,fun h=>absurd h (by decide)⟩
   rw [if_neg c3];by_cases c4:x.Kind=4
   ·obtain ⟨a,o,F⟩:=T (by rw [c4];rfl);obtain ⟨e,na,A⟩:=v.typed k p d B a ⟨1,[]⟩ H F (by omega);have k0:at_ x.Kids 0=some a:=by rw [o];rfl
    rw [if_pos c4,k0,pa,rk,pa,pa,na,pa];exact ⟨_,e,rfl,fun r=>⟨.of (by decide),.neg c4 o (A r)⟩⟩
   rw [if_neg c4];by_cases c5:x.Kind=5
   ·obtain ⟨a,o,F⟩:=T (by rw [c5];rfl);obtain ⟨e,na,A⟩:=v.typed k p d B a ⟨2,[]⟩ H F (by omega);have k0:at_ x.Kids 0=some a:=by rw [o];rfl
    rw [if_pos c5,k0,pa,Di,pa,pa,na,pa];exact ⟨_,e,rfl,fun r=>⟨.of (by decide),.not c5 o (A r)⟩⟩
   rw [if_neg c5];have md:∀ b,(b=true ↔ x.Kind=11∨x.Kind=12)→∃ t e,fp (gg n) x p d B b=some (t,e)∧(e=0→ui p t∧Ge p d B x t):=by
    intro b P;rw [fp];by_cases q:b=true
    ·have c:=P.1 q;obtain ⟨a,ce,o,U,Wd⟩:=gc (by rcases c with c | c<;>rw [c]<;>rfl);obtain ⟨t,e,u,s⟩:=v.both k p d B x a ce H o U Wd (by omega);rw [if_pos q,u,pa,Di,pa];exact ⟨_,e,rfl,fun r=>⟨.of (by decide),.eq c o (s r).1 (s r).2.1 (s r).2.2⟩⟩
    rw [if_neg q];have Ne:x.Kind≠11:=fun h=>q (P.2 (.inl h));have wf:x.Kind≠12:=fun h=>q (P.2 (.inr h));by_cases lc:x.Kind=19
    ·obtain ⟨w,e,u,s⟩:=v.args k p d B x 2 H N G.le (.inl rfl) (by omega);rw [if_pos lc,u,pa];by_cases z:e=0
     ·obtain ⟨f,rfl,g1,g2,g3,g4⟩:=s z;rw [if_neg (by simpa using z)];simp only [pa];rw [dm,pa];exact ⟨_,0,rfl,fun _=>⟨.of (by rw [Gl];exact (H.ao _ _ g1).ty (by omega)),.call lc g1 g2 g3 g4⟩⟩
     ·rw [if_pos z];exact ⟨_,e,rfl,fun h=>absurd h z⟩
    rw [if_neg lc];by_cases c20:x.Kind=20
    ·rw [if_pos c20,vq,pa];by_cases c:Ym (Aa p.named x.Name) 1=true
     ·obtain ⟨f,K,Y⟩:=Sq c;rw [if_pos c,K];simp only [pa];rw [dm,pa];exact ⟨_,0,rfl,fun _=>⟨.of (by rw [Gl];exact (H.ao _ _ K).ty (by omega)),.recv c20 K Y⟩⟩
     ·rw [if_neg c];exact ⟨_,7,rfl,fun h=>absurd h (by decide)⟩
    rw [if_neg c20];by_cases c21:x.Kind=21
    ·obtain ⟨a,o,F⟩:=T (by rw [c21];rfl);obtain ⟨e,na,A⟩:=v.typed k p d B a d.tb H F (by omega);have k0:at_ x.Kids 0=some a:=by rw [o];rfl
     rw [if_pos c21];by_cases W:d.Kind=3
     ·rw [if_neg (by simpa using W),k0,pa,dm,pa,na,pa];exact ⟨kf d.fc,e,rfl,fun r=>⟨.of (by rw [Gl];exact H.ya.Fg W),.Nz c21 W o (A r)⟩⟩
     ·rw [if_pos W];exact ⟨_,8,rfl,fun h=>absurd h (by decide)⟩
    rw [if_neg c21];by_cases rc:x.Kind=22
    ·obtain ⟨w,e,u,s⟩:=v.args k p d B x 3 H N G.le (.inr rfl) (by omega);rw [if_pos rc,u,pa];refine ⟨_,e,rfl,fun r=>?_⟩;obtain ⟨f,-,g1,g2,g3,g4⟩:=s r;exact ⟨fun _=>⟨f,g1,g2⟩,.start rc g1 g2 g3 g4⟩
    rw [if_neg rc];by_cases X:x.Kind=23
    ·obtain ⟨a,Ke,o,U,Wd⟩:=gc (by rw [X];rfl);obtain ⟨w,e,u,s⟩:=v.handle k p d B a H U (by omega);have k0:at_ x.Kids 0=some a:=by rw [o];rfl
     have k1:at_ x.Kids 1=some Ke:=by rw [o];rfl
     rw [if_pos X,k0,pa,u,pa];by_cases z:e=0
     ·obtain ⟨f,g,rfl,f1,f2,f3⟩:=s z;obtain ⟨Q,na,A⟩:=v.typed k p d B Ke f.fc H Wd (by omega);rw [if_neg (by simpa using z)];simp only [pa];rw [dm,k1];simp only [pa];rw [na,pa];exact ⟨kf f.tb,Q,rfl,fun r=>⟨.of (by rw [Gl];exact (H.ao _ _ f1).ty (by omega)),.resume X o f3 f1 f2 (A r)⟩⟩
     ·rw [if_pos z];exact ⟨_,e,rfl,fun h=>absurd h z⟩
    rw [if_neg X];by_cases c24:x.Kind=24
    ·obtain ⟨a,o,F⟩:=T (by rw [c24];rfl);obtain ⟨w,e,u,s⟩:=v.handle k p d B a H F (by omega);have k0:at_ x.Kids 0=some a:=by rw [o];rfl
     rw [if_pos c24,k0,pa,u,pa,Di,pa];refine ⟨_,e,rfl,fun r=>?_⟩;obtain ⟨f,g,-,f1,f2,f3⟩:=s r;exact ⟨.of (by decide),.alive c24 o f3 f1 f2⟩
    rw [if_neg c24];obtain ⟨a,Ke,o,U,Wd⟩:=gc (by unfold Sh;rw [if_neg (by omega),if_neg (by omega),if_pos (by omega)]);have L:∀ (i1 i2:Int) (s1 s2:List UInt8) (m i:Nat),i≤x.Kids.length→x.Kids.length<m+i→∃ e,ep (gg n) x p d B i1 s1 i2 s2 m i=some (⟨i2,s2⟩,e)∧(e=0→∀ y ∈ x.Kids.drop i,Ge p d B y (kf ⟨i1,s1⟩)):=by
     intro i1 i2 s1 s2 m
     induction m with
     | zero=>intro i u s; omega
     | succ m Z =>
      intro i u s;rw [ep];by_cases c:i<x.Kids.length
      ·have:=G.le;obtain ⟨e,na,A⟩:=v.typed k p d B x.Kids[i] ⟨i1,s1⟩ H (N _ (List.getElem_mem _)) (by omega);rw [if_pos (by omega),sf,List.getElem?_eq_getElem c,pa,na,pa];by_cases z:e=0
       ·rw [if_neg (by simpa using z),Td (by omega),pa];obtain ⟨Q,R,M⟩:=Z (i+1) c (by omega);refine ⟨Q,R,fun r y D=>?_⟩;rw [List.drop_eq_getElem_cons c] at D;rcases List.mem_cons.1 D with rfl | D
        ·exact A z
        ·exact M r y D
       ·rw [if_pos z];exact ⟨e,rfl,fun h=>absurd h z⟩
      ·rw [if_neg (by omega),List.drop_eq_nil_of_le (by omega)];exact ⟨0,rfl,fun _=>by simp⟩
    have fd:∀ (i1 i2:Int) (s1 s2:List UInt8),i2≠3→(Ge p d B a (kf ⟨i1,s1⟩)→Ge p d B Ke (kf ⟨i1,s1⟩)→Ge p d B x ⟨i2,s2⟩)→∃ t e,qq (gg n) x p d B i1 s1 i2 s2=some (t,e)∧(e=0→ui p t∧Ge p d B x t):=by
     intro i1 i2 s1 s2 h ge;obtain ⟨e,u,s⟩:=L i1 i2 s1 s2 (x.Kids.length+1) 0 (by omega) (by omega);refine ⟨_,e,u,fun r=>⟨.of h,?_⟩⟩;have:=s r;rw [List.drop_zero,o] at this;exact ge (this a (by simp)) (this Ke (by simp))
    rw [rk,pa,pa,Di];simp only [pa];split
    ·exact fd _ _ _ _ (by decide) fun g1 g2=>.Rg (by omega) o g1 g2
    ·split
     ·exact fd _ _ _ _ (by decide) fun g1 g2=>.lt (by omega) o g1 g2
     ·exact fd _ _ _ _ (by decide) fun g1 g2=>.Wz (by omega) o g1 g2
   split
   ·rename_i h;exact md _ (by simp [h])
   ·rename_i h;exact md _ (by simp [h])
mutual
inductive Hj (p:Eb) (d:va):ye→List Ub→ye→Prop
 | nil (B:ye):Hj p d B [] B
 | cons {B a b:ye} {s:Ub} {l:List Ub}:Zk p d B s a→Hj p d a l b→Hj p d B (s::l) b
inductive Zk (p:Eb) (d:va):ye→Ub→ye→Prop
 | vD {B:ye} {s:Ub} {t:Ya} (h:B.length - 1<B.length):s.Kind=1→Ge p d B s.X t→Gj B s.Name=none→Zk p d B s (B.set (B.length - 1) (Fc B[B.length - 1] s.Name t))
 | sset {B:ye} {s:Ub} {t:Ya}:s.Kind=2→Gj B s.Name=some t→Ge p d B s.X (kf t)→Zk p d B s B
 | HD {B a b:ye} {s:Ub}:s.Kind=3→Ge p d B s.X ⟨2,[]⟩→Hj p d (B++[[]]) s.Body a→Hj p d (B++[[]]) s.mf b→Zk p d B s B
 | ID {B a:ye} {s:Ub}:s.Kind=4→Ge p d B s.X ⟨2,[]⟩→Hj p d (B++[[]]) s.Body a→Zk p d B s B
 | wD {B:ye} {s:Ub}:s.Kind=5→d.Kind=2→Ge p d B s.X (kf d.tb)→Zk p d B s B
 | iD {B:ye} {s:Ub}:s.Kind=6→d.Kind≠2→Zk p d B s B
 | jD {B:ye} {s:Ub} {f:va}:s.Kind=7→Aa p.named s.Name=some f→f.Kind=1→Ge p d B s.X (kf f.tb)→Zk p d B s B
 | xD {B:ye} {s:Ub} {t:Ya}:s.Kind=8→Ge p d B s.X t→t.Kind≠3→Zk p d B s B
 | JD {B:ye} {s:Ub} {t:Ya}:s.Kind=9→Ge p d B s.X t→Zk p d B s B
end
structure yH (n:Nat):Prop where
 stats:∀ (k:Nat) (p:Eb) (d:va) (B:ye) (l:List Ub),El p d B→l.length≤50→(∀ y ∈ l,Yk k y)→B.length+k≤90→5*k+130≤n →
  ∃ e,(qk n).rj p d B l=some (e,B)∧(e=0→∃ a,Hj p d (B++[[]]) l a)
 stat:∀ (k:Nat) (p:Eb) (d:va) (B:ye) (s:Ub),El p d B→0<B.length→Yk k s→B.length+k≤91→5*k+129≤n →
  ∃ e a,(qk n).ql p d B s=some (e,a)∧a.length=B.length∧a.take (B.length - 1)=B.take (B.length - 1)∧Uk p a∧(e=0→Zk p d B s a)
theorem zH:∀ n,yH n:=by
 intro n
 induction n with
 | zero=>exact ⟨fun _ _ _ _ _ _ _ _ _ h=>by omega,fun _ _ _ _ _ _ _ _ _ h=>by omega⟩
 | succ n E =>
  refine ⟨fun k p d B l H qa y Y Z=>?_,fun k p d B s H be y Y Z=>?_⟩
  ·show ∃ e,rj (qk n) p d B l=some (e,B)∧_;rw [rj,app,if_pos (by simp;omega),pa,Ht];have L:∀ (m i:Nat) (a:ye),i≤l.length→l.length<m+i→a.length=B.length+1→a.take B.length=B→Uk p a →
     ∃ e,Xo (qk n) l p d m i a=some (e,B)∧(e=0→∃ x,Hj p d a (l.drop i) x):=by
    intro m
    induction m with
    | zero=>intro i a j g; omega
    | succ m gc =>
     intro i a j g g1 g2 g3;rw [Xo];have pop:∀ C:ye,C.length=B.length+1→C.take B.length=B→Ip p d C=some B:=fun C na v=>by
      rw [TA p d C (by omega) (by omega),na,Nat.add_sub_cancel,v]
     by_cases c:i<l.length
     ·obtain ⟨e,x,lc,F,Q,rc,fd⟩:=E.stat k p d a l[i] ⟨H.ao,H.ya,g3,by omega⟩ (by omega) (y _ (List.getElem_mem _)) (by omega) (by omega);rw [g1,Nat.add_sub_cancel] at Q;rw [g1] at F;have v:x.take B.length=B:=Q.trans g2;rw [if_pos (by omega),sf,List.getElem?_eq_getElem c,pa,lc,pa];by_cases z:e=0
      ·rw [if_neg (by simpa using z),Td (by omega),pa];obtain ⟨id,s1,s2⟩:=gc (i+1) x c (by omega) F v rc;refine ⟨id,s1,fun r=>?_⟩;rw [List.drop_eq_getElem_cons c];obtain ⟨md,rd⟩:=s2 r;exact ⟨md,.cons (fd z) rd⟩
      ·rw [if_pos z];simp only [];rw [pop x F v,pa];exact ⟨e,rfl,fun h=>absurd h z⟩
     ·rw [if_neg (by omega),pop a g1 g2,pa,List.drop_eq_nil_of_le (by omega)];exact ⟨0,rfl,fun _=>⟨a,.nil a⟩⟩
   have:=L (l.length+1) 0 (B++[[]]) (by omega) (by omega) (by simp) (by simp) (fun m hm A t G=>by
    rcases List.mem_append.1 hm with hm | hm
    ·exact H.Wg m hm A t G
    ·rw [List.mem_singleton.1 hm] at G;cases G)
   obtain ⟨e,na,v⟩:=this;rw [List.drop_zero] at v;exact ⟨e,na,v⟩
  ·show ∃ e a,ql n (qk n) p d B s=some (e,a)∧_;cases k with
   | zero=>cases y
   | succ k =>
   obtain ⟨k1,ce,w,R,he⟩:=y;have D:=(KC n).typed k p d B s.X;have K:=(KC n).expr k p d B s.X;have same:∀ e:Int,(e=0→Zk p d B s B)→∀ o:Option (Int×ye),o=some (e,B)→∃ e a,o=some (e,a)∧a.length=B.length∧a.take (B.length - 1)=B.take (B.length - 1)∧Uk p a∧(e=0→Zk p d B s a):=
    fun e h o td=>⟨e,B,td,rfl,rfl,H.Wg,h⟩
   rw [ql];by_cases Wa:s.Kind=1
   ·obtain ⟨t,e,j,g⟩:=K H (w (by omega)) (by omega);rw [if_pos Wa,j,pa];by_cases z:e=0
    ·obtain ⟨qd,b,g1,g2,g3⟩:=hz H.Wg H.Rd n (by omega) d s.Name;rw [if_neg (by simpa using z),g1,pa];cases b with
     | true=>exact same 7 (fun h=>absurd h (by decide)) _ rfl
     | false =>
      have S:B.length - 1<B.length:=by omega
      have na:(B.length:Int) - 1=((B.length - 1:Nat):Int):=by omega
      rw [if_neg (by simp),Td (by omega),pa,na,sf,List.getElem?_eq_getElem S,pa,rq];refine ⟨0,_,rfl,by simp,?_,fun m hm A u hu=>?_,fun _=>.vD S Wa (g z).2 (g3 rfl)⟩
      ·simp [List.take_set_of_le]
      ·rcases List.mem_or_eq_of_mem_set hm with hm | rfl
       ·exact H.Wg m hm A u hu
       ·rw [Si] at hu;split at hu
        ·obtain rfl:=Option.some.inj hu;exact (g z).1
        ·exact H.Wg _ (List.getElem_mem _) A u hu
    ·rw [if_pos z];exact same e (fun h=>absurd h z) _ rfl
   rw [if_neg Wa];by_cases c2:s.Kind=2
   ·obtain ⟨qd,b,g1,g2,-⟩:=hz H.Wg H.Rd n (by omega) d s.Name;rw [if_pos c2,g1,pa];cases b with
    | false=>exact same 7 (fun h=>absurd h (by decide)) _ rfl
    | true =>
     obtain ⟨e,j,g⟩:=D qd H (w (by omega)) (by omega);rw [if_pos rfl,j,pa];exact same e (fun r=>.sset c2 (g2 rfl).2 (g r)) _ rfl
   rw [if_neg c2];have T:∀ b,(b=true ↔ s.Kind=3∨s.Kind=4)→∃ e a,gp n (qk n) s p d B b=some (e,a)∧a.length=B.length∧a.take (B.length - 1)=B.take (B.length - 1)∧Uk p a∧(e=0→Zk p d B s a):=by
    intro b M;rw [gp];by_cases q:b=true
    ·have c:=M.1 q;obtain ⟨e,j,g⟩:=D ⟨2,[]⟩ H (w (by omega)) (by omega);rw [if_pos q,Di,pa,j,pa];by_cases z:e=0
     ·rw [if_neg (by simpa using z)];obtain ⟨v,g1,g2⟩:=E.stats k p d B s.Body H (R c).1 (R c).2 (by omega) (by omega);rw [g1,pa];by_cases z2:v=0
      ·rw [if_neg (by simpa using z2)];obtain ⟨ge,g3⟩:=g2 z2;by_cases c4:s.Kind=4
       ·rw [decide_eq_true c4];exact same v (fun _=>.ID c4 (g z) g3) _ rfl
       ·have c3:s.Kind=3:=by omega
        obtain ⟨wd,f1,f2⟩:=E.stats k p d B s.mf H (he c3).1 (he c3).2 (by omega) (by omega);rw [decide_eq_false c4,Cr,if_neg (by decide)];simp only [];rw [f1,pa];refine same wd (fun r=>?_) _ rfl;obtain ⟨x,f3⟩:=f2 r;exact .HD c3 (g z) g3 f3
      ·rw [if_pos z2];exact same v (fun h=>absurd h z2) _ rfl
     ·rw [if_pos z];exact same e (fun h=>absurd h z) _ rfl
    rw [if_neg q];have le:s.Kind≠3:=fun h=>q (M.2 (.inl h));have ne:s.Kind≠4:=fun h=>q (M.2 (.inr h));by_cases c5:s.Kind=5
    ·rw [if_pos c5];split
     ·exact same 8 (fun h=>absurd h (by decide)) _ rfl
     ·rename_i U;obtain ⟨e,j,g⟩:=D d.tb H (w (by omega)) (by omega);rw [j,pa];exact same e (fun r=>.wD c5 (by omega) (g r)) _ rfl
    rw [if_neg c5];by_cases He:s.Kind=6
    ·rw [if_pos He];split
     ·exact same 8 (fun h=>absurd h (by decide)) _ rfl
     ·rename_i U;exact same 0 (fun r=>.iD He U) _ rfl
    rw [if_neg He];by_cases N:s.Kind=7
    ·rw [if_pos N,vq,pa];by_cases c:Ym (Aa p.named s.Name) 1=true
     ·obtain ⟨f,W,Fd⟩:=Sq c;obtain ⟨e,j,g⟩:=D f.tb H (w (by omega)) (by omega);rw [if_pos c,W];simp only [pa];rw [j,pa];exact same e (fun r=>.jD N W Fd (g r)) _ rfl
     ·rw [if_neg c];exact same 7 (fun h=>absurd h (by decide)) _ rfl
    rw [if_neg N];by_cases P:s.Kind=8
    ·obtain ⟨t,e,j,g⟩:=K H (w (by omega)) (by omega);rw [if_pos P,j,pa];by_cases z:e=0
     ·rw [if_pos z,ym,pa,Av];refine same _ (fun r=>.xD P (g z).2 fun Id=>?_) _ rfl;simp [Id] at r
     ·rw [if_neg z,Av];exact same e (fun h=>absurd h z) _ rfl
    rw [if_neg P];by_cases c9:s.Kind=9
    ·obtain ⟨t,e,j,g⟩:=K H (w (by omega)) (by omega);rw [if_pos c9,j,pa];exact same e (fun r=>.JD c9 (g r).2) _ rfl
    ·omega
   split
   ·rename_i h;exact T _ (by simp [h])
   ·rename_i h;exact T _ (by simp [h])
def Qm (d:va):List (Nm×Ya):=d.Params.foldl (fun m q=>Fc m q.Name (kf q.tb)) []
theorem AH (fu:Nat) (z:500≤fu) (p:Eb) (d:va) (s:Vz p) (g:Gi p d) (ya:Fj d):∃ e,yo fu p d=some e∧(e=0→d.Kind≠1→∃ f,Hj p d ([if d.Kind=4 then [] else Qm d]++[[]]) d.Body f):=by
 rw [yo];by_cases Wa:d.Kind=1
 ·rw [if_pos Wa];exact ⟨0,rfl,fun _ h=>absurd Wa h⟩
 ·rw [if_neg Wa];have n:∀ B:ye,B.length=1→Uk p B→∃ e,kp fu p d B=some e∧(e=0→∃ f,Hj p d (B++[[]]) d.Body f):=by
   intro B o j;obtain ⟨e,u,v⟩:=(zH fu).stats 39 p d B d.Body ⟨s,g,j,by omega⟩ (ya.Rd Wa) (ya.lr Wa) (by omega) (by omega);rw [kp,u,pa];exact ⟨e,rfl,v⟩
  by_cases c4:d.Kind=4
  ·rw [if_neg (by simpa using c4),if_pos c4];obtain ⟨e,na,l⟩:=n [[]] rfl (fun m hm k t a=>by rw [List.mem_singleton.1 hm] at a;cases a);exact ⟨e,na,fun h _=>l h⟩
  ·rw [if_pos c4,if_neg c4];have r:d.Kind=2∨d.Kind=3:=by have:=ya.k1;have:=ya.Gd;omega
   have A:=g.pl r;have L:∀ (m i:Nat) (b:List (Nm×Ya)),i≤d.Params.length→d.Params.length<m+i→b=(d.Params.take i).foldl (fun m q=>Fc m q.Name (kf q.tb)) []→Uk p [b]→∃ e,ko fu p d m i [b]=some e∧(e=0→∃ f,Hj p d ([Qm d]++[[]]) d.Body f):=by
    intro m
    induction m with
    | zero=>intro i B o j; omega
    | succ m w =>
     intro i b o j g1 g2;rw [ko];by_cases c:i<d.Params.length
     ·have x:0<[b].length:=by simp
      rw [if_pos (by omega),sf,List.getElem?_eq_getElem c,pa,Ez x,pa,dm,pa,Kt,Td (by omega),pa];refine w (i+1) (Fc b d.Params[i].Name (kf d.Params[i].tb)) c (by omega) ?_ (fun C y k t a=>?_)
      ·rw [← List.take_append_getElem c,List.foldl_append,← g1];rfl
      ·rw [List.mem_singleton.1 y,Si] at a;split at a
       ·obtain rfl:=Option.some.inj a;exact (g.hg r _ (List.getElem_mem _)).bare
       ·exact g2 b (by simp) k t a
     ·rw [if_neg (by omega)];have e:b=Qm d:=by rw [g1,List.take_of_length_le (by omega)];rfl
      rw [e] at g2 ⊢;exact n _ rfl g2
   obtain ⟨e,na,l⟩:=L (d.Params.length+1) 0 [] (by omega) (by omega) rfl (fun m hm k t a=>by rw [List.mem_singleton.1 hm] at a;cases a);exact ⟨e,na,fun h _=>l h⟩
end Go.Y
namespace Go.Y
open Go.oc Go.sd
theorem im {α β:Type}{f:α→List β}{l:List α}{b:β}(h:b ∈ (l.map f).flatten):∃ a ∈ l,b ∈ f a:=by
 obtain ⟨q,c,d⟩:=List.mem_flatten.1 h;obtain ⟨a,e,rfl⟩:=List.mem_map.1 c;exact ⟨a,e,d⟩
theorem Gm {β:Type}{c:Prop}[Decidable c]{l m:List β}{b:β}(h:b ∈ (if c then l else m)):(c∧b ∈ l)∨(¬ c∧b ∈ m):=by
 by_cases q:c
 ·rw [if_pos q] at h;exact .inl ⟨q,h⟩
 ·rw [if_neg q] at h;exact .inr ⟨q,h⟩
theorem bC {p:Eb}:∀ (k:Nat) (x:sb),Calls p k x→∀ c ∈ Oi k x,∃ d,Aa p.named c=some d∧(d.Kind=2∨d.Kind=3)
 | 0,x,h=>by cases h
 | k+1,x,h=>by
  obtain ⟨f,g,m,i⟩:=h;intro c b;rw [Oi] at b;rcases List.mem_append.1 b with b | b
  ·rcases Gm b with ⟨q,b⟩ | ⟨q,b⟩
   ·rw [List.mem_singleton.1 b];rcases q with q | q
    ·obtain ⟨d,na,e⟩:=f q;exact ⟨d,na,.inl e⟩
    ·obtain ⟨d,na,e⟩:=g q;exact ⟨d,na,.inr e⟩
   ·cases b
  ·obtain ⟨a,j,l⟩:=im b;exact bC k a (i a j) c l
theorem cC {p:Eb}:∀ (k:Nat) (x:sb),Calls p k x→∀ c ∈ Qi k x,∃ d,Aa p.named c=some d∧d.Kind=1
 | 0,x,h=>by cases h
 | k+1,x,h=>by
  obtain ⟨j,l,e,f⟩:=h;intro c b;rw [Qi] at b;rcases List.mem_append.1 b with b | b
  ·rcases Gm b with ⟨q,b⟩ | ⟨q,b⟩
   ·rw [List.mem_singleton.1 b];exact e q
   ·cases b
  ·obtain ⟨a,g,i⟩:=im b;exact cC k a (f a g) c i
theorem vw {p:Eb}:∀ (k:Nat) (x:Ub),Sj p k x→∀ c ∈ oh k x,∃ d,Aa p.named c=some d∧(d.Kind=2∨d.Kind=3)
 | 0,x,h=>by cases h
 | k+1,x,h=>by
  obtain ⟨g,i,j,l⟩:=h;intro c b;rw [oh] at b;rcases List.mem_append.1 b with b | b
  ·rcases List.mem_append.1 b with b | b
   ·rcases Gm b with ⟨q,b⟩ | ⟨q,b⟩
    ·cases b
    ·exact bC k _ (g q) c b
   ·rcases Gm b with ⟨q,b⟩ | ⟨q,b⟩
    ·obtain ⟨a,e,f⟩:=im b;exact vw k a (i q a e) c f
    ·cases b
  ·rcases Gm b with ⟨q,b⟩ | ⟨q,b⟩
   ·obtain ⟨a,e,f⟩:=im b;exact vw k a (j q a e) c f
   ·cases b
theorem wy {p:Eb}:∀ (k:Nat) (x:Ub),Sj p k x→∀ c ∈ ph k x,∃ d,Aa p.named c=some d∧d.Kind=1
 | 0,x,h=>by cases h
 | k+1,x,h=>by
  obtain ⟨g,i,j,l⟩:=h;intro c b;rw [ph] at b;rcases List.mem_append.1 b with b | b
  ·rcases List.mem_append.1 b with b | b
   ·rcases Gm b with ⟨q,b⟩ | ⟨q,b⟩
    ·cases b
    ·exact cC k _ (g q) c b
   ·rcases Gm b with ⟨q,b⟩ | ⟨q,b⟩
    ·obtain ⟨a,e,f⟩:=im b;exact wy k a (i q a e) c f
    ·cases b
  ·rcases Gm b with ⟨q,b⟩ | ⟨q,b⟩
   ·obtain ⟨a,e,f⟩:=im b;exact wy k a (j q a e) c f
   ·cases b
theorem xy {p:Eb}:∀ (k:Nat) (x:Ub),Sj p k x→∀ c ∈ qh k x,∃ d,Aa p.named c=some d∧d.Kind=1
 | 0,x,h=>by cases h
 | k+1,x,h=>by
  obtain ⟨l,g,i,j⟩:=h;intro c b;rw [qh] at b;rcases List.mem_append.1 b with b | b
  ·rcases List.mem_append.1 b with b | b
   ·rcases Gm b with ⟨q,b⟩ | ⟨q,b⟩
    ·rw [List.mem_singleton.1 b];exact j q
    ·cases b
   ·rcases Gm b with ⟨q,b⟩ | ⟨q,b⟩
    ·obtain ⟨a,e,f⟩:=im b;exact xy k a (g q a e) c f
    ·cases b
  ·rcases Gm b with ⟨q,b⟩ | ⟨q,b⟩
   ·obtain ⟨a,e,f⟩:=im b;exact xy k a (i q a e) c f
   ·cases b
def cl (d:va):List Nm:=(d.Body.map (oh 39)).flatten
def gn (d:va):List Nm:=(d.Body.map (qh 39)).flatten
def hn (d:va):List Nm:=(d.Body.map (ph 39)).flatten
def mj (N:List (Nm×va)):List Nm→List Nm→List (Option va)→List Nm×List (Option va)
 | [],a,todo=>(a,todo)
 | c::cs,a,todo=>if a.contains c=true then mj N cs a todo else mj N cs (a++[c]) (todo++[Aa N c])
def Xl (N:List (Nm×va)):Nat→List Nm→List (Option va)→List Nm→List Nm→Option Ze
 | 0,_,_,_,_=>none
 | n+1,a,[],s,r=>some ⟨[],s,r⟩
 | n+1,a,none::t,s,r=>none
 | n+1,a,some d::t,s,r=>Xl N n (mj N (cl d) a t).1 (mj N (cl d) a t).2 (s++gn d) (r++hn d)
def ev (l:List va) (a:List Nm):Nat:=(l.filter fun d=>!a.contains d.Name).length
theorem filter_le {α:Type}(P Q:α→Bool) (h:∀ x,Q x=true→P x=true):∀ l:List α,(l.filter Q).length≤(l.filter P).length
 | []=>by simp
 | x::l=>by
  have a:=filter_le P Q h l;rw [List.filter_cons,List.filter_cons];by_cases q:Q x=true
  ·rw [if_pos q,if_pos (h x q),List.length_cons,List.length_cons];omega
  ·rw [if_neg q];split
   ·rw [List.length_cons];omega
   ·exact a
theorem filter_lt {α:Type}(P Q:α→Bool) (h:∀ x,Q x=true→P x=true):∀ (l:List α) (x:α),x ∈ l→P x=true→Q x=false→(l.filter Q).length<(l.filter P).length
 | y::l,x,a,b,c=>by
  have le:=filter_le P Q h l;rw [List.filter_cons,List.filter_cons];rcases List.mem_cons.1 a with rfl | a
  ·rw [if_pos b,if_neg (by simp [c]),List.length_cons];omega
  ·have d:=filter_lt P Q h l x a b c;by_cases q:Q y=true
   ·rw [if_pos q,if_pos (h y q),List.length_cons,List.length_cons];omega
   ·rw [if_neg q];split
    ·rw [List.length_cons];omega
    ·exact d
theorem BH (l:List va) (a:List Nm) (d:va) (ya:d ∈ l) (h:a.contains d.Name=false):ev l (a++[d.Name])<ev l a:=by
 refine filter_lt _ _ (fun x b=>?_) l d ya (by simpa using h) (by simp);simp only [Bool.not_eq_true',List.contains_eq_mem,List.mem_append,decide_eq_false_iff_not] at b ⊢;exact fun h=>b (.inl h)
structure fv (p:Eb) (l:List va) (a:List Nm) (todo:List (Option va)) (q:Nat):Prop where
 qa:a.length+ev l a≤30
 td:∀ o ∈ todo,∃ d ∈ l,o=some d∧d.Kind≠1
 q:ev l a+todo.length≤q
theorem Iw {p:Eb}{l:List va}(R:Pk p l):∀ (cs:List Nm) (a:List Nm) (todo:List (Option va)) (q:Nat),(∀ c ∈ cs,∃ d,Aa p.named c=some d∧(d.Kind=2∨d.Kind=3))→fv p l a todo q→fv p l (mj p.named cs a todo).1 (mj p.named cs a todo).2 q
 | [],a,todo,q,h,T=>T
 | c::cs,a,todo,q,h,T=>by
  rw [mj];have e:∀ c ∈ cs,∃ d,Aa p.named c=some d∧(d.Kind=2∨d.Kind=3):=fun c f=>h c (List.mem_cons_of_mem _ f);by_cases k:a.contains c=true
  ·rw [if_pos k];exact Iw R cs a todo q e T
  ·rw [if_neg k];obtain ⟨d,na,i⟩:=h c (List.mem_cons_self ..);obtain ⟨m1,m2⟩:=R.only _ _ na;have g:=BH l a d m1 (by rw [m2];simpa using k);rw [m2] at g;refine Iw R cs _ _ q e ⟨?_,fun o b=>?_,?_⟩
   ·rw [List.length_append,List.length_singleton];have:=T.qa;omega
   ·rcases List.mem_append.1 b with b | b
    ·exact T.td o b
    ·rw [List.mem_singleton.1 b];exact ⟨d,m1,na,by omega⟩
   ·rw [List.length_append,List.length_singleton];have:=T.q;omega
theorem uF {p:Eb}{l:List va}(R:Pk p l) (u:List Nm×List Nm×List Nm) (s r:List Nm) (K:List Nm→List (Option va)→List Nm→List Nm→Option Ze) (hu:∀ c ∈ u.1,∃ d,Aa p.named c=some d∧(d.Kind=2∨d.Kind=3)) (qa:u.1.length≤1000000) :
  ∀ (m i:Nat) (a:List Nm) (todo:List (Option va)) (q:Nat),i≤u.1.length→u.1.length<m+i→q≤1000→fv p l a todo q →
   oq p u s r K m i a todo=K (mj p.named (u.1.drop i) a todo).1 (mj p.named (u.1.drop i) a todo).2 s r:=by
 intro m
 induction m with
 | zero=>intro i a todo q g h; omega
 | succ m b =>
  intro i a todo q g h e T;rw [oq];by_cases c:i<u.1.length
  ·rw [if_pos (by omega),sf,List.getElem?_eq_getElem c,pa,List.drop_eq_getElem_cons c,mj];have j:=hu _ (List.getElem_mem c);by_cases k:a.contains u.1[i]=true
   ·rw [if_pos k,if_pos k,Td (by omega),pa];exact b (i+1) a todo q c (by omega) e T
   ·have o:=T.qa;have t:=T.q;have f:=Iw R [u.1[i]] a todo q (fun c n=>by rw [List.mem_singleton.1 n];exact j) T;rw [mj,if_neg k,mj] at f;rw [if_neg k,if_neg k,tl (by simp;omega),pa,tl (by simp;omega),pa,Td (by omega),pa];exact b (i+1) _ _ q c (by omega) e f
  ·rw [if_neg (by omega),List.drop_eq_nil_of_le (by omega)];rfl
theorem VF {p:Eb}{l:List va}(R:Pk p l) (fu:Nat) (c:500≤fu) (d:va) (ya:d ∈ l) (a:d.Kind≠1):(Jk fu).nk [] [] [] d.Body=some (cl d,gn d,hn d)∧(cl d).length≤2000∧(gn d).length≤2000∧(hn d).length≤2000:=by
 have ok:=R.ok.ok d ya;have b:en d≤2000:=Nat.le_trans (gz en l d ya) R.ok.n;rw [en,if_pos a] at b;have:=lE fu 39 d.Body [] [] [] (by omega) (ok.Rd a) (ok.lr a) (by simp;omega) (by simp;omega) (by simp;omega);have ta:=Mk (oh 39) (pf 39) (Qu 39) d.Body;have a2:=Mk (qh 39) (pf 39) (Su 39) d.Body;have a3:=Mk (ph 39) (pf 39) (Ru 39) d.Body;exact ⟨by rw [this];rfl,by rw [cl];omega,by rw [gn];omega,by rw [hn];omega⟩
theorem vF {p:Eb}{l:List va}(R:Pk p l) (fu:Nat) (h:500≤fu):∀ (n q:Nat) (b:List Nm) (todo:List (Option va)) (s r:List Nm),q<n→q≤1000→fv p l b todo q→s.length+2000*q≤1000000000→r.length+2000*q≤1000000000 →
  Yo fu p n b todo s r=Xl p.named n b todo s r∧(∃ u,Xl p.named n b todo s r=some u∧u.calls=[]):=by
 intro n
 induction n with
 | zero=>intro q b todo s r i; omega
 | succ n j =>
  intro q b todo s r i A T V Ed;rw [Yo];cases todo with
  | nil=>exact ⟨by rw [if_neg (by simp)]; rfl,_,rfl,rfl⟩
  | cons o t =>
   obtain ⟨d,ya,rfl,k1⟩:=T.td o (List.mem_cons_self ..);obtain ⟨Ye,yd,B,C⟩:=VF R fu h d ya k1;have k:=T.q;have m:=T.qa;rw [List.length_cons] at k;have na:at_ (some d::t) 0=some (some d):=rfl;have v:cut (some d::t) 1 ((some d::t).length:Int)=some t:=by
    rw [cut,if_pos (by simp;omega)];simp
   have e:∀ c ∈ cl d,∃ f,Aa p.named c=some f∧(f.Kind=2∨f.Kind=3):=fun c e=>by
    obtain ⟨a,w,x⟩:=im e;exact vw 39 a (R.cs d ya k1 a w) c x
   have g:fv p l b t (q - 1):=⟨m,fun o y=>T.td o (List.mem_cons_of_mem _ y),by omega⟩;have z:=Iw R (cl d) b t (q - 1) e g;rw [if_pos (by simp),na,pa,v,pa,pa,Ye,pa,tl (by simp only [];omega),pa,tl (by simp only [];omega),pa,Dv];rw [show ((0:Int))=((0:Nat):Int) from rfl,uF R (cl d,gn d,hn d) _ _ _ e (by simp only [];omega) _ 0 b t (q - 1) (by omega) (by simp only [];omega) (by omega) g,List.drop_zero];rw [Xl];exact j (q - 1) _ _ (s++gn d) (r++hn d) (by omega) (by omega) z (by rw [List.length_append];omega) (by rw [List.length_append];omega)
theorem dC {p:Eb}{l:List va}(R:Pk p l) (fu:Nat) (a:500≤fu) (d:va) (ya:d ∈ l) (b:d.Kind≠1):bw fu p d=Xl p.named fu [] [some d] [] []∧(∃ u,Xl p.named fu [] [some d] [] []=some u∧u.calls=[]):=by
 have c:ev l []≤30:=Nat.le_trans (List.length_filter_le _ _) R.ok.le;exact vF R fu a fu 31 [] [some d] [] [] (by omega) (by omega) ⟨by simpa using c,fun o e=>by rw [List.mem_singleton.1 e];exact ⟨d,ya,rfl,b⟩,by simp;omega⟩ (by simp) (by simp)
def al:Ze:=⟨[],[],[]⟩
def Rm (L:List (Nm×Ze)) (b:Nm):List va→Nm→Nm→Option (Nm×Nm)
 | [],w,r=>some (w,r)
 | t::a,w,r=>if t.Kind≠4 then Rm L b a w r else
   if ((Aa L t.Name).getD al).wj.contains b=true∧w≠[] then none else
   if ((Aa L t.Name).getD al).Wi.contains b=true∧r≠[] then none else
   Rm L b a (if ((Aa L t.Name).getD al).wj.contains b=true then t.Name else w) (if ((Aa L t.Name).getD al).Wi.contains b=true then t.Name else r)
def Sm (L:List (Nm×Ze)) (l:List va):List va→Int→List dh→List dh×fe
 | [],i,acc=>(acc,⟨0,0⟩)
 | x::xs,i,acc=>if x.Kind≠1 then Sm L l xs (i+1) acc else
   match Rm L x.Name l [] [] with
   | none=>([],⟨8,i⟩)
   | some (w,r)=>Sm L l xs (i+1) (acc++[⟨x.Name,w,r⟩])
def Cl (N:List (Nm×va)) (fu:Nat):List va→List (Nm×Ze)→List (Nm×Ze)
 | [],L=>L
 | d::ds,L=>if d.Kind=4 then Cl N fu ds (Fc L d.Name ((Xl N fu [] [some d] [] []).getD al)) else Cl N fu ds L
theorem DG (l:List va) (qa:l.length≤30) (L:List (Nm×Ze)) (i:Int) (acc:List dh) (x:va) (K:Int→List dh→Option (List dh×fe)) (f:0≤i∧i≤1000) (g:acc.length≤1000) :
  ∀ (m j:Nat) (w r:Nm),j≤l.length→l.length<m+j→wm l L i acc x K m j w r=match Rm L x.Name (l.drop j) w r with | none=>some ([],⟨8,i⟩) | some (w',r')=>K (i+1) (acc++[⟨x.Name,w',r'⟩]):=by
 intro m
 induction m with
 | zero=>intro j w r b d; omega
 | succ m e =>
  intro j w r b d;rw [wm];by_cases c:j<l.length
  ·rw [if_pos (by omega),sf,List.getElem?_eq_getElem c,pa,List.drop_eq_getElem_cons c,Rm];have Va:(Ze.mk [] [] [])=al:=rfl;have vb:=fun w r=>e (j+1) w r c (by omega);generalize l[j]=t at *;by_cases Gd:t.Kind≠4
   ·rw [if_pos Gd,if_pos Gd,Td (by omega),pa];exact vb w r
   ·rw [if_neg Gd,if_neg Gd,Va];have a:∀ w',pr L i x j r t (wm l L i acc x K m) w'=if ((Aa L t.Name).getD al).Wi.contains x.Name=true∧r≠[] then some ([],⟨8,i⟩) else
      match Rm L x.Name (l.drop (j+1)) w' (if ((Aa L t.Name).getD al).Wi.contains x.Name=true then t.Name else r) with | none=>some ([],⟨8,i⟩) | some (w',r')=>K (i+1) (acc++[⟨x.Name,w',r'⟩]):=by
     intro w';rw [pr,Va];by_cases q:((Aa L t.Name).getD al).Wi.contains x.Name=true
     ·rw [if_pos q];by_cases z:r≠[]
      ·rw [if_pos z,if_pos ⟨q,z⟩]
      ·rw [if_neg z,if_neg (fun h=>z h.2),if_pos q,nr,Td (by omega),pa];exact vb _ _
     ·rw [if_neg q,if_neg (fun h=>q h.1),if_neg q,nr,Td (by omega),pa];exact vb _ _
    by_cases q:((Aa L t.Name).getD al).wj.contains x.Name=true
    ·rw [if_pos q];by_cases z:w≠[]
     ·rw [if_pos z,if_pos ⟨q,z⟩]
     ·rw [if_neg z,if_neg (fun h=>z h.2),if_pos q,a];split<;>rfl
    ·rw [if_neg q,if_neg (fun h=>q h.1),if_neg q,a];split<;>rfl
  ·rw [if_neg (by omega),List.drop_eq_nil_of_le (by omega),tl (by simp;omega),pa,Td (by omega),pa];rfl
theorem EG (l:List va) (qa:l.length≤30) (L:List (Nm×Ze)):∀ (m i:Nat) (acc:List dh),i≤l.length→l.length<m+i→acc.length≤i→nn l L m i acc=some (Sm L l (l.drop i) i acc):=by
 intro m
 induction m with
 | zero=>intro i acc b d; omega
 | succ m a =>
  intro i acc b d e;rw [nn];by_cases c:i<l.length
  ·rw [if_pos (by omega),sf,List.getElem?_eq_getElem c,pa,List.drop_eq_getElem_cons c,Sm];by_cases k1:l[i].Kind≠1
   ·rw [if_pos k1,if_pos k1,Td (by omega),pa];exact a (i+1) acc c (by omega) (by omega)
   ·rw [if_neg k1,if_neg k1,show ((0:Int))=((0:Nat):Int) from rfl,DG l qa L i acc l[i] _ (by omega) (by omega) _ 0 [] [] (by omega) (by omega),List.drop_zero];cases h:Rm L l[i].Name l [] [] with
    | none=>rfl
    | some v=>exact a (i+1) _ c (by omega) (by simp; omega)
  ·rw [if_neg (by omega),List.drop_eq_nil_of_le (by omega)];rfl
theorem FG {p:Eb}{l:List va}(R:Pk p l) (fu:Nat) (b:500≤fu) (f:fe):∀ (m i:Nat) (L:List (Nm×Ze)),i≤l.length→l.length<m+i→Wo fu l (p,f) m i L=some (Sm (Cl p.named fu (l.drop i) L) l l 0 []):=by
 have qa:=R.ok.le;intro m
 induction m with
 | zero=>intro i L d e; omega
 | succ m a =>
  intro i L d e;rw [Wo];by_cases c:i<l.length
  ·have Va:at_ l (i:Int)=some l[i]:=by rw [sf,List.getElem?_eq_getElem c]
   rw [if_pos (by omega),Va,pa,List.drop_eq_getElem_cons c,Cl];by_cases Gd:l[i].Kind=4
   ·obtain ⟨g,u,h,-⟩:=dC R fu b l[i] (List.getElem_mem _) (by omega);rw [if_pos Gd,if_pos Gd];simp only [pa];rw [g,h,pa,wv,Td (by omega),pa];exact a (i+1) _ c (by omega)
   ·rw [if_neg Gd,if_neg Gd,Td (by omega),pa];exact a (i+1) L c (by omega)
  ·rw [if_neg (by omega),List.drop_eq_nil_of_le (by omega)];exact EG l qa L (l.length+1) 0 [] (by omega) (by omega) (by simp)
theorem XD (fu:Nat) (a:500≤fu) (l:List va):∃ p f,Ap fu l=some (p,f)∧((f.ve≠0∧Nr fu l=some ([],f))∨(f.ve=0∧Pk p l∧Nr fu l=some (Sm (Cl p.named fu l []) l l 0 []))):=by
 obtain ⟨p,f,b,c⟩:=iA fu a l;refine ⟨p,f,b,?_⟩;rw [Nr,b,pa];by_cases z:f.ve=0
 ·rw [if_neg (by simpa using z)];exact .inr ⟨z,c z,FG (c z) fu a f (l.length+1) 0 [] (by omega) (by omega)⟩
 ·rw [if_pos z];exact .inl ⟨z,rfl⟩
end Go.Y
namespace Go.Y
def sx:Nat→sb→Prop
 | 0,_=>False
 | k+1,x=>x.Kids.length≤2513169434916∧∀ y ∈ x.Kids,sx k y
def cr:Nat→Ub→Prop
 | 0,_=>False
 | k+1,s=>sx k s.X∧(s.Body.length≤1099511627776∧∀ y ∈ s.Body,cr k y)∧(s.mf.length≤1099511627776∧∀ y ∈ s.mf,cr k y)
def Oz (k:Nat) (d:va):Prop:=d.Params.length≤3518437208883∧d.Body.length≤1099511627776∧∀ y ∈ d.Body,cr k y
def wK (k:Nat) (l:List va):Prop:=l.length≤1099511627776∧∀ d ∈ l,Oz k d
end Go.Y
namespace Go.Y
open Go.oc Go.sd
theorem Pz {α β:Type}{f:α→Option β}:Option.bind (none:Option α) f=none:=rfl
section
variable {fu:Nat}{l:List va}
theorem DI (qa:l.length≤30) (N:List (Nm×va)) (p:Eb) (f:fe):∀ (m i:Nat),fo fu l N m i=some (p,f)→f.ve=0→p=⟨l,N⟩∧∀ j (a:j<l.length),i≤j→yo fu ⟨l,N⟩ l[j]=some 0:=by
 intro m
 induction m with
 | zero=>intro i h; cases h
 | succ m d =>
  intro i h b;rw [fo] at h;by_cases c:i<l.length
  ·rw [if_pos (by omega),sf,List.getElem?_eq_getElem c,pa] at h;cases e:yo fu ⟨l,N⟩ l[i] with
   | none=>rw [e,Pz] at h; cases h
   | some r =>
    rw [e,pa] at h;by_cases z:r≠0
    ·rw [if_pos z] at h;obtain ⟨rfl,rfl⟩:=Prod.mk.inj (Option.some.inj h);exact absurd b z
    ·rw [if_neg z,Td (by omega),pa] at h;obtain ⟨g,k⟩:=d (i+1) h b;refine ⟨g,fun j a n=>?_⟩;by_cases q:j=i
     ·subst q;rw [e,Decidable.not_not.1 z]
     ·exact k j a (by omega)
  ·rw [if_neg (by omega)] at h;obtain ⟨rfl,rfl⟩:=Prod.mk.inj (Option.some.inj h);exact ⟨rfl,fun j a n=>by omega⟩
theorem EI (qa:l.length≤30) (N:List (Nm×va)) (p:Eb) (f:fe):∀ (m i:Nat),ho fu l N m i=some (p,f)→f.ve=0→fo fu l N (l.length+1) 0=some (p,f):=by
 intro m
 induction m with
 | zero=>intro i h; cases h
 | succ m b =>
  intro i h a;rw [ho] at h;by_cases c:i<l.length
  ·rw [if_pos (by omega),sf,List.getElem?_eq_getElem c,pa] at h;cases e:ss ⟨l,N⟩ l[i] with
   | none=>rw [e,Pz] at h; cases h
   | some r =>
    rw [e,pa] at h;by_cases z:r≠0
    ·rw [if_pos z] at h;obtain ⟨rfl,rfl⟩:=Prod.mk.inj (Option.some.inj h);exact absurd a z
    ·rw [if_neg z,Td (by omega),pa] at h;exact b (i+1) h a
  ·rw [if_neg (by omega)] at h;exact h
theorem FI (qa:l.length≤30) (p:Eb) (f:fe):∀ (m i:Nat) (t:Int) (N:List (Nm×va)),jo fu l m t i N=some (p,f)→f.ve=0→∃ N,ho fu l N (l.length+1) 0=some (p,f):=by
 intro m
 induction m with
 | zero=>intro i t N h; cases h
 | succ m b =>
  intro i t N h a;rw [jo] at h;by_cases c:i<l.length
  ·have Va:at_ l (i:Int)=some l[i]:=by rw [sf,List.getElem?_eq_getElem c]
   rw [if_pos (by omega),Va,pa] at h;by_cases q:(Aa N l[i].Name).isSome=true
   ·rw [if_pos q] at h;obtain ⟨rfl,rfl⟩:=Prod.mk.inj (Option.some.inj h);exact absurd a (by show ¬ (7:Int)=0;decide)
   ·rw [if_neg q,pa,pa,pa] at h;by_cases Gd:l[i].Kind=4
    ·rw [if_pos Gd] at h;cases e:i64 (t+1) with
     | none=>rw [e,Pz] at h; cases h
     | some qd =>
      rw [e,pa,Td (by omega),pa] at h;exact b (i+1) qd _ h a
    ·rw [if_neg Gd,Td (by omega),pa] at h;exact b (i+1) t _ h a
  ·rw [if_neg (by omega)] at h;by_cases t0:t=0
   ·rw [if_pos t0] at h;obtain ⟨rfl,rfl⟩:=Prod.mk.inj (Option.some.inj h);exact absurd a (by show ¬ (6:Int)=0;decide)
   ·rw [if_neg t0] at h;exact ⟨N,h⟩
end
end Go.Y
namespace Go.Y
open Go.oc Go.sd
abbrev wg:=List (List (Nm×Int))
structure Xp (p:Eb) (T:Fe):Prop where
 Uo:∀ n d,Aa p.named n=some d→Aa T.defs n=some d
 un:∀ n d,Aa p.named n=some d→d.Kind≠1→∃ u,Aa T.Pg n=some u∧0≤u∧u≤30
 CK:∀ n u,Aa T.Pg n=some u→Km T.Pg u=some (some (n,u))
 wx:∀ y,y<0→Km T.Pg y=some none
 ok:∀ n d,Aa p.named n=some d→Fj d∧Gi p d
variable {p:Eb}{T:Fe}{G:Prop}
theorem gy {kind para:Int}{loca:List Int}{resu take:Int}{code:List fb}{bloc:wg}(a b c:Int) (h:code.length≤2000000) :
  Xg T kind para loca resu take code bloc a b c=some ((code.length:Int),kind,para,loca,resu,take,code++[⟨a,b,c⟩],bloc):=by
 rw [Xg,tl (by simp;omega),pa,Td (by simp;omega),pa];simp
theorem GG {α:Type}{l:List α}(h:0<l.length):cut l 0 ((l.length:Int) - 1)=some (l.take (l.length - 1)):=by
 rw [cut,if_pos (by omega)];simp
end Go.Y
namespace Go.Y
open Go.oc Go.sd
section
variable {p:Eb}{T:Fe}
end
theorem yy {κ β:Type}[DecidableEq κ]:∀ (m:List (κ×β)) (k:κ) (x:β),Aa m k=none→Fc m k x=m++[(k,x)]
 | [],k,x,_=>rfl
 | (a,b)::m,k,x,h=>by
  rw [Aa] at h;by_cases c:a=k
  ·rw [if_pos c] at h;cases h
  ·rw [if_neg c] at h;rw [Fc,if_neg c,yy m k x h];rfl
theorem xw {κ β:Type}[DecidableEq κ]:∀ (m:List (κ×β)) (k:κ) (x:β),Aa m k=some x→(k,x) ∈ m
 | (a,b)::m,k,x,h=>by
  rw [Aa] at h;by_cases c:a=k
  ·rw [if_pos c] at h;cases h;rw [c];exact List.mem_cons_self ..
  ·rw [if_neg c] at h;exact List.mem_cons_of_mem _ (xw m k x h)
theorem filter_one {α:Type}(f:α→Int) (y:Int):∀ (l:List α) (x:α),(l.Pairwise fun a b=>f a≠f b)→x ∈ l→f x=y→(l.filter fun a=>decide (f a=y))=[x]
 | a::l,x,h,c,d=>by
  obtain ⟨e,g⟩:=List.pairwise_cons.1 h;rcases List.mem_cons.1 c with rfl | c
  ·rw [List.filter_cons_of_pos (by simpa using d)];rw [List.filter_eq_nil_iff.2 fun b i=>by have:=e b i;simp;omega]
  ·rw [List.filter_cons_of_neg (by have:=e x c;simp;omega)];exact filter_one f y l x g c d
structure Qz (l:List va) (i:Nat) (U:List (Nm×Int)) (D:List (Nm×va)) (m:List Bi):Prop where
 le:U.length≤i
 lt:∀ x ∈ U,0≤x.2∧x.2<U.length
 ne:U.Pairwise fun a b=>a.2≠b.2
 yh:∀ n u,Aa U n=some u→∃ d ∈ l.take i,d.Name=n
 un:∀ d ∈ l.take i,d.Kind≠1→∃ u,Aa U d.Name=some u
 Uo:∀ d ∈ l.take i,Aa D d.Name=some d
 Sg:m=((l.take i).filter fun d=>decide (d.Kind=1)).map fun d=>⟨d.tb.Kind,d.Ue⟩
theorem Qz.xK {p:Eb}{l:List va}(R:Pk p l){U B:List (Nm×Int)}{D:List (Nm×va)}{m:List Bi}(h:Qz l l.length U D m):Xp p ⟨B,U,D⟩:=by
 have c:l.take l.length=l:=List.take_length;have qa:=R.ok.le;refine ⟨fun n d ya=>?_,fun n d ya k1=>?_,fun n u hu=>?_,fun y g=>?_,fun n d ya=>?_⟩
 ·obtain ⟨a,rfl⟩:=R.only n d ya;exact h.Uo d (by rw [c];exact a)
 ·obtain ⟨a,rfl⟩:=R.only n d ya;obtain ⟨u,hu⟩:=h.un d (by rw [c];exact a) k1;have:=h.lt _ (xw _ _ _ hu);have:=h.le;refine ⟨u,hu,?_⟩;simp only at *;omega
 ·show Km U u=_;rw [Km,filter_one (fun e:Nm×Int=>e.2) u U (n,u) h.ne (xw _ _ _ hu) rfl];rfl
 ·show Km U y=_;rw [Km,List.filter_eq_nil_iff.2 fun b f=>by have:=h.lt b f;simp;omega];rfl
 ·obtain ⟨a,-⟩:=R.only n d ya;exact ⟨R.ok.ok d a,R.ya d a⟩
section
variable {p:Eb}{l:List va}{fu:Nat}
theorem wq {i:Nat}(c:i<l.length) (P:va→Bool):(l.take (i+1)).filter P=(l.take i).filter P++[l[i]].filter P:=by
 rw [List.take_succ_eq_append_getElem c,List.filter_append]
end
end Go.Y
namespace Go.Y
open Go.oc Go.sd
abbrev rv:=List UInt8
def Yl (w:rv):Prop:=∀ fu,20≤fu→lh fu w=some true
def tx:Nat→sb→Prop
 | 0,_=>False
 | k+1,x=>1≤x.Kind∧x.Kind≤24∧fz x∧(x.Kind=1→0≤x.N∧x.N≤999999999999999)∧(x.Kind=2→x.N=0∨x.N=1)∧((x.Kind=3∨x.Kind=20∨x.Kind=19∨x.Kind=22)→Yl x.Name)∧∀ y ∈ x.Kids,tx k y
def dr:Nat→Ub→Prop
 | 0,_=>False
 | k+1,s=>1≤s.Kind∧s.Kind≤9∧(s.Kind≠6→tx k s.X)∧((s.Kind=1∨s.Kind=2∨s.Kind=7)→Yl s.Name)∧((s.Kind=3∨s.Kind=4)→s.Body.length≤50∧∀ y ∈ s.Body,dr k y)∧(s.Kind=3→s.mf.length≤50∧∀ y ∈ s.mf,dr k y)
def Qo (t:Ya):Prop:=dk t∧(t.Kind=3→Yl t.yc)
structure Zm (d:va):Prop where
 k1:1≤d.Kind
 Gd:d.Kind≤4
 yh:Yl d.Name
 hg:d.Kind=2∨d.Kind=3→d.Params.length≤6∧∀ q ∈ d.Params,Yl q.Name∧Qo q.tb
 Fg:d.Kind=3→Qo d.fc
 ty:d.Kind≠4→Qo d.tb
 zt:d.Kind=1→1≤d.Ue∧d.Ue≤20
 lr:d.Kind≠1→d.Body.length≤50∧∀ y ∈ d.Body,dr 39 y
theorem Yl.bo {w:rv}(h:Yl w):w≠[]:=fun e=>by have:=h 20 (Nat.le_refl _);rw [e] at this;revert this;decide
theorem bh {α β:Type}{o:Option α}{f:α→Option β}{r:β}(h:Option.bind o f=some r):∃ x,o=some x∧f x=some r:=ga h
theorem wF {w:rv}{p:UInt8→Option Bool}:∀ (m a:Nat) (i r:Int),m≤a→Fl w p m i=some r→Fl w p a i=some r:=by
 intro m
 induction m with
 | zero=>intro a i r h g; cases g
 | succ m d =>
  intro a i r h g;obtain ⟨a,rfl⟩:∃ q,a=q+1:=⟨a - 1,by omega⟩;rw [Fl] at g ⊢;have Ri:∀ b,np i (Fl w p m) b=some r→np i (Fl w p a) b=some r:=by
   intro b g;rw [np] at g ⊢;split
   ·rename_i c;rw [if_pos c] at g;obtain ⟨x,e,g⟩:=bh g;rw [e,pa];exact d a x r (by omega) g
   ·rename_i c;rw [if_neg c] at g;exact g
  split
  ·rename_i c;rw [if_pos c] at g;obtain ⟨x,e,g⟩:=bh g;obtain ⟨y,f,g⟩:=bh g;rw [e,pa,f,pa];exact Ri y g
  ·rename_i c;rw [if_neg c] at g;exact Ri _ g
theorem UA {fu a:Nat}(h:fu≤a){w:rv}{b:Bool}(g:lh fu w=some b):lh a w=some b:=by
 have Ri:∀ c,xm fu w c=some b→xm a w c=some b:=by
  intro c g;rw [xm] at g ⊢;split
  ·rename_i q;rw [if_pos q] at g;exact g
  ·rename_i q;rw [if_neg q] at g;obtain ⟨x,e,g⟩:=bh g;have:Cq a w Vp=some x:=wF fu a 0 x h e;rw [this,pa];exact g
 rw [lh] at g ⊢;split
 ·rename_i q;rw [if_pos q] at g;exact Ri _ g
 ·rename_i q;rw [if_neg q] at g;split
  ·rename_i q;rw [if_pos q] at g;exact Ri _ g
  ·rename_i q;rw [if_neg q] at g;obtain ⟨x,e,g⟩:=bh g;obtain ⟨y,d,g⟩:=bh g;rw [e,pa,d,pa];split
   ·rename_i q;rw [if_pos q] at g;obtain ⟨s1,na,g⟩:=bh g;obtain ⟨s2,f,g⟩:=bh g;obtain ⟨Ta,i,g⟩:=bh g;rw [na,pa,f,pa,i,pa];exact Ri _ g
   ·rename_i q;rw [if_neg q] at g;exact Ri _ g
theorem Xs {fu:Nat}(d:20≤fu){w:rv}(h:lh fu w=some true):Yl w:=by
 intro f e;obtain ⟨b,a⟩:=Xr 20 (Nat.le_refl _) w;have c:=UA d a;rw [h] at c;obtain rfl:=Option.some.inj c;exact UA e a
section
variable {fu:Nat}{self:jm}{x:sb}{d node k:Int}
theorem ME:∀ (m i:Nat) (c:Int),x.Kids.length≤6→ik self x d m i c=some (0,k)→∀ j (b:j<x.Kids.length),i≤j→∃ Db a e,self.si Db x.Kids[j] a=some (0,e):=by
 intro m
 induction m with
 | zero=>intro i c _ h; cases h
 | succ m f =>
  intro i c qa h j b p;rw [ik,if_pos (by omega),sf,List.getElem?_eq_getElem (show i<x.Kids.length by omega),pa] at h;obtain ⟨a,na,h⟩:=bh h;obtain ⟨r,g,h⟩:=bh h;by_cases z:r.1≠0
  ·rw [if_pos z] at h;exact absurd (congrArg (fun o:Option (Int×Int)=>o.map (·.1)) h) (by simpa using z)
  ·rw [if_neg z,Td (by omega),pa] at h;by_cases q:j=i
   ·subst q;obtain ⟨l,n⟩:=r;obtain rfl:l=0:=Decidable.not_not.1 z;exact ⟨c,a,n,g⟩
   ·exact f (i+1) r.2 qa h j b (by omega)
theorem AA {a:Int×Int}{b:Bool}(h:lo self x d a b=some (0,k)):∃ m c,ik self x d m (0:Nat) c=some (0,k):=by
 rw [lo] at h;split at h
 ·cases h
 ·exact ⟨_,_,h⟩
theorem OE {a:Int×Int}{r:Int}{b:Bool}(h:mo self x d a r b=some (0,k)):∃ m c,ik self x d m (0:Nat) c=some (0,k):=by
 rw [mo] at h;split at h
 ·exact AA h
 ·split at h<;>exact AA h
theorem BA {a:Int×Int}{r:Int}{b:Bool}(h:zm self x d a r b=some (0,k)):b=false∧∃ m c,ik self x d m (0:Nat) c=some (0,k):=by
 rw [zm] at h;split at h
 ·cases h
 ·rename_i q;refine ⟨by simpa using q,?_⟩;split at h<;>exact OE h
theorem Yv {f:Int×Int}{r:Int}{b:Bool}(h:rn fu self x d f r b=some (0,k)):b=false∧(x.Kind=3∨x.Kind=20∨r<0→lh fu x.Name=some true)∧∃ m c,ik self x d m (0:Nat) c=some (0,k):=by
 rw [rn] at h;split at h
 ·cases h
 ·rename_i q;refine ⟨by simpa using q,?_⟩;have Ri:(Option.bind (lh fu x.Name) fun i=>zm self x d f r (!i))=some (0,k)→(x.Kind=3∨x.Kind=20∨r<0→lh fu x.Name=some true)∧∃ m c,ik self x d m (0:Nat) c=some (0,k):=by
   intro h;obtain ⟨Ke,e,h⟩:=bh h;obtain ⟨j,a⟩:=BA h;cases Ke with
   | true=>exact ⟨fun _=>e,a⟩
   | false=>cases j
  split at h
  ·exact Ri h
  ·split at h
   ·exact Ri h
   ·split at h
    ·exact Ri h
    ·obtain ⟨-,a⟩:=BA h;exact ⟨fun g=>by omega,a⟩
theorem HG (h:si fu self node x d=some (0,k)):(x.Kind=1→0≤x.N∧x.N≤999999999999999)∧(x.Kind=2→x.N=0∨x.N=1)∧(x.Kind=3∨x.Kind=20∨Sh x.Kind<0→lh fu x.Name=some true)∧∃ m c,ik self x d m (0:Nat) c=some (0,k):=by
 rw [si] at h;obtain ⟨i,-,h⟩:=bh h;split at h
 ·rename_i z;exact absurd (congrArg (fun o:Option (Int×Int)=>o.map (·.1)) h) (by simpa using z)
 ·have f:∀ b,oo fu self x d i (Sh x.Kind) b=some (0,k)→b=false∧(x.Kind=2→x.N=0∨x.N=1)∧(x.Kind=3∨x.Kind=20∨Sh x.Kind<0→lh fu x.Name=some true)∧∃ m c,ik self x d m (0:Nat) c=some (0,k):=by
   intro b h;rw [oo] at h;split at h
   ·rename_i q;obtain ⟨a,-⟩:=Yv h;rw [q] at a;cases a
   ·rename_i q;refine ⟨by simpa using q,?_⟩;split at h
    ·split at h
     ·obtain ⟨a,e⟩:=Yv h;exact ⟨fun _=>.inr (by simpa using a),e⟩
     ·rename_i z;obtain ⟨a,e⟩:=Yv h;exact ⟨fun _=>.inl (Decidable.not_not.1 z),e⟩
    ·rename_i z;obtain ⟨a,e⟩:=Yv h;exact ⟨fun g=>absurd g z,e⟩
  have j:∀ b,bm fu self x d i b=some (0,k)→(x.Kind=1→0≤x.N∧x.N≤999999999999999)∧(x.Kind=2→x.N=0∨x.N=1)∧(x.Kind=3∨x.Kind=20∨Sh x.Kind<0→lh fu x.Name=some true)∧∃ m c,ik self x d m (0:Nat) c=some (0,k):=by
   intro b h;rw [bm] at h;split at h
   ·cases h
   ·rw [SA,pa] at h;split at h
    ·split at h
     ·obtain ⟨a,-⟩:=f _ h;cases a
     ·rename_i z;obtain ⟨a,e⟩:=f _ h;have:=of_decide_eq_false a;exact ⟨fun _=>⟨by omega,by omega⟩,e⟩
    ·rename_i z;obtain ⟨-,e⟩:=f _ h;exact ⟨fun g=>absurd g z,e⟩
  split at h<;>exact j _ h
end
theorem eC:∀ (j n:Nat) (x:sb) (node d k:Int),30+j≤n→Eh j x→(ri n).si node x d=some (0,k)→tx j x
 | 0,n,x,node,d,k,f,h,g=>h.elim
 | j+1,n,x,node,d,k,f,h,g=>by
  obtain ⟨k1,l,a,o⟩:=h;obtain ⟨n,rfl⟩:∃ q,n=q+1:=⟨n - 1,by omega⟩;obtain ⟨p,r,s,m,c,t⟩:=HG (show si n (ri n) node x d=some (0,k) from g);refine ⟨k1,l,a,p,r,fun q=>Xs (by omega) (s ?_),fun y b=>?_⟩
  ·rcases q with q | q | q | q
   ·exact .inl q
   ·exact .inr (.inl q)
   ·rw [q];exact .inr (.inr (by decide))
   ·rw [q];exact .inr (.inr (by decide))
  ·obtain ⟨i,u,rfl⟩:=List.getElem_of_mem b;obtain ⟨Db,v,w,e⟩:=ME m 0 c a.le t i u (Nat.zero_le _);exact eC j n _ Db v w (by omega) (o _ b) e
section
variable {fu:Nat}{self:km}{x:Ub}{d node k:Int}
theorem mE {l:List Ub}:∀ (m i:Nat) (c:Int),l.length≤50→Zo self l d m i c=some (0,k)→∀ j (a:j<l.length),i≤j→∃ Db b,self.Mj Db l[j] d=some (0,b):=by
 intro m
 induction m with
 | zero=>intro i c _ h; cases h
 | succ m e =>
  intro i c qa h j a p;rw [Zo,if_pos (by omega),sf,List.getElem?_eq_getElem (show i<l.length by omega),pa] at h;obtain ⟨r,f,h⟩:=bh h;by_cases z:r.1≠0
  ·rw [if_pos z] at h;exact absurd (congrArg (fun o:Option (Int×Int)=>o.map (·.1)) h) (by simpa using z)
  ·rw [if_neg z,Td (by omega),pa] at h;by_cases q:j=i
   ·subst q;obtain ⟨g,n⟩:=r;obtain rfl:g=0:=Decidable.not_not.1 z;exact ⟨c,n,f⟩
   ·exact e (i+1) r.2 qa h j a (by omega)
theorem pB {l:List Ub}(qa:l.length≤50) (h:Jg self node l d=some (0,k)):∀ y ∈ l,∃ Db a,self.Mj Db y d=some (0,a):=by
 intro y b;obtain ⟨j,c,rfl⟩:=List.getElem_of_mem b;rw [Jg] at h;split at h
 ·cases h
 ·exact mE _ 0 _ qa h j c (Nat.zero_le _)
theorem CA {c:Int}(h:qp self x d c=some (0,k)):x.Kind=3→∃ Db b f,self.Jg Db x.mf b=some (0,f):=by
 intro g;rw [qp,if_pos g] at h;obtain ⟨b,-,h⟩:=bh h;obtain ⟨r,e,h⟩:=bh h;obtain ⟨i,j⟩:=r;obtain ⟨a,-⟩:=Prod.mk.inj (Option.some.inj h);have a:i=0:=a;subst a;exact ⟨_,_,_,e⟩
theorem DA {f:Int×Int}{b:Bool}(h:rp self x d f b=some (0,k)):(b=true→∃ Db a c,self.Jg Db x.Body a=some (0,c))∧(x.Kind=3→∃ Db a c,self.Jg Db x.mf a=some (0,c)):=by
 rw [rp] at h;split at h
 ·obtain ⟨a,-,h⟩:=bh h;obtain ⟨r,e,h⟩:=bh h;split at h
  ·rename_i z;exact absurd (congrArg (fun o:Option (Int×Int)=>o.map (·.1)) h) (by simpa using z)
  ·rename_i z;obtain ⟨i,j⟩:=r;obtain rfl:i=0:=Decidable.not_not.1 z;exact ⟨fun _=>⟨_,_,_,e⟩,CA h⟩
 ·rename_i q;exact ⟨fun g=>absurd g q,CA h⟩
theorem IG (h:Mj fu self node x d=some (0,k)):(x.Kind=1∨x.Kind=2∨x.Kind=7→lh fu x.Name=some true)∧(x.Kind≠6→(∃ Db a c,(ri fu).si Db x.X a=some (0,c))∧(x.Kind=3∨x.Kind=4→∃ Db a c,self.Jg Db x.Body a=some (0,c))∧(x.Kind=3→∃ Db a c,self.Jg Db x.mf a=some (0,c))):=by
 rw [Mj] at h;obtain ⟨j,-,h⟩:=bh h;split at h
 ·rename_i z;exact absurd (congrArg (fun o:Option (Int×Int)=>o.map (·.1)) h) (by simpa using z)
 ·have l:∀ b,Am fu self x d j b=some (0,k)→b=false∧(x.Kind≠6→(∃ Db a c,(ri fu).si Db x.X a=some (0,c))∧(x.Kind=3∨x.Kind=4→∃ Db a c,self.Jg Db x.Body a=some (0,c))∧(x.Kind=3→∃ Db a c,self.Jg Db x.mf a=some (0,c))):=by
   intro b h;rw [Am] at h;split at h
   ·cases h
   ·rename_i q;refine ⟨by simpa using q,fun m=>?_⟩;rw [if_neg m] at h;obtain ⟨a,-,h⟩:=bh h;obtain ⟨r,e,h⟩:=bh h;split at h
    ·rename_i z;exact absurd (congrArg (fun o:Option (Int×Int)=>o.map (·.1)) h) (by simpa using z)
    ·rename_i z;obtain ⟨n,u⟩:=r;obtain rfl:n=0:=Decidable.not_not.1 z;refine ⟨⟨_,_,_,e⟩,?_⟩;split at h
     ·rename_i p;obtain ⟨f,i⟩:=DA h;exact ⟨fun _=>f rfl,i⟩
     ·rename_i p;obtain ⟨f,i⟩:=DA h;exact ⟨fun g=>f (decide_eq_true (by omega)),i⟩
  have s:∀ b,sn fu self x d j b=some (0,k)→(x.Kind=1∨x.Kind=2∨x.Kind=7→lh fu x.Name=some true)∧(x.Kind≠6→(∃ Db a c,(ri fu).si Db x.X a=some (0,c))∧(x.Kind=3∨x.Kind=4→∃ Db a c,self.Jg Db x.Body a=some (0,c))∧(x.Kind=3→∃ Db a c,self.Jg Db x.mf a=some (0,c))):=by
   intro b h;rw [sn] at h;have N:(Option.bind (lh fu x.Name) fun t=>Am fu self x d j (!t))=some (0,k)→(x.Kind=1∨x.Kind=2∨x.Kind=7→lh fu x.Name=some true)∧(x.Kind≠6→(∃ Db a c,(ri fu).si Db x.X a=some (0,c))∧(x.Kind=3∨x.Kind=4→∃ Db a c,self.Jg Db x.Body a=some (0,c))∧(x.Kind=3→∃ Db a c,self.Jg Db x.mf a=some (0,c))):=by
    intro h;obtain ⟨Ke,e,h⟩:=bh h;obtain ⟨f,i⟩:=l _ h;cases Ke with
    | true=>exact ⟨fun _=>e,i⟩
    | false=>cases f
   split at h
   ·cases h
   ·split at h
    ·exact N h
    ·split at h
     ·exact N h
     ·split at h
      ·exact N h
      ·exact ⟨fun g=>by omega,(l _ h).2⟩
  split at h<;>exact s _ h
end
theorem fC:∀ (j n:Nat) (x:Ub) (node d k:Int),60+3*j≤n→Yk j x→(gi n).Mj node x d=some (0,k)→dr j x
 | 0,n,x,node,d,k,r,h,g=>h.elim
 | j+1,n,x,node,d,k,r,h,g=>by
  obtain ⟨k1,s,t,u,v⟩:=h;obtain ⟨n,rfl⟩:∃ q,n=q+2:=⟨n - 2,by omega⟩;obtain ⟨w,i⟩:=IG (show Mj (n+1) (gi (n+1)) node x d=some (0,k) from g);have L:∀ (l:List Ub) (Db c f:Int),l.length≤50→(∀ y ∈ l,Yk j y)→(gi (n+1)).Jg Db l c=some (0,f)→∀ y ∈ l,dr j y:=by
   intro l Db c f qa z hs y o;obtain ⟨c2,A,e⟩:=pB qa (show Jg (gi n) Db l c=some (0,f) from hs) y o;exact fC j n y c2 c A (by omega) (z y o) e
  refine ⟨k1,s,fun p=>?_,fun q=>Xs (by omega) (w q),fun q=>?_,fun q=>?_⟩
  ·obtain ⟨⟨Db,c,f,e⟩,-⟩:=i p;exact eC j (n+1) x.X Db c f (by omega) (t p) e
  ·obtain ⟨a,b⟩:=u q;obtain ⟨-,m,-⟩:=i (by omega);obtain ⟨Db,c,f,e⟩:=m q;exact ⟨a,L x.Body Db c f a b e⟩
  ·obtain ⟨a,b⟩:=v q;obtain ⟨-,-,m⟩:=i (by omega);obtain ⟨Db,c,f,e⟩:=m q;exact ⟨a,L x.mf Db c f a b e⟩
theorem Py {fu:Nat}(a:20≤fu){t:Ya}(h:Co fu t=some 0):Qo t:=by
 obtain ⟨e,c,d⟩:=mw fu a t;rw [h] at c;obtain rfl:=Option.some.inj c;refine ⟨d rfl,fun f=>?_⟩;rw [Co] at h;have Ri:∀ b,xq fu t b=some 0→Yl t.yc:=by
  intro b h;rw [xq] at h;split at h
  ·cases h
  ·obtain ⟨Ke,e,h⟩:=bh (by simpa only [if_pos f] using h);cases Ke with
   | true=>exact Xs a e
   | false=>cases h
 split at h<;>exact Ri _ h
section
variable {fu:Nat}{x:va}{jf:Int×Int}{k node:Int}
theorem VA (h:vp fu x jf=some (0,k)):(x.Kind=1→1≤x.Ue∧x.Ue≤20)∧(x.Kind≠1→∃ Db c,(gi fu).Jg Db x.Body 2=some (0,c)):=by
 rw [vp] at h;split at h
 ·rename_i q;obtain ⟨r,e,h⟩:=bh h;obtain ⟨d,f⟩:=r;obtain ⟨a,-⟩:=Prod.mk.inj (Option.some.inj h);have a:d=0:=a;subst a;exact ⟨fun g=>absurd g q,fun _=>⟨_,_,e⟩⟩
 ·rename_i q;have Ri:∀ b,Zr jf b=some (0,k)→b=false:=by
   intro b h;cases b with
   | false=>rfl
   | true=>cases h
  split at h
  ·cases Ri _ h
  ·have:=of_decide_eq_false (Ri _ h);exact ⟨fun _=>⟨by omega,by omega⟩,fun g=>absurd g q⟩
theorem WA (a:20≤fu) (h:xp fu x jf=some (0,k)):(x.Kind≠4→Qo x.tb)∧(x.Kind=1→1≤x.Ue∧x.Ue≤20)∧(x.Kind≠1→∃ Db b,(gi fu).Jg Db x.Body 2=some (0,b)):=by
 rw [xp] at h;split at h
 ·obtain ⟨r,e,h⟩:=bh h;split at h
  ·rename_i z;exact absurd (congrArg (fun o:Option (Int×Int)=>o.map (·.1)) h) (by simpa using z)
  ·rename_i z;obtain rfl:r=0:=Decidable.not_not.1 z;exact ⟨fun _=>Py a e,VA h⟩
 ·rename_i q;exact ⟨fun g=>absurd g q,VA h⟩
theorem xF (a:20≤fu) (h:vn fu x jf=some (0,k)):(x.Kind=3→Qo x.fc)∧(x.Kind≠4→Qo x.tb)∧(x.Kind=1→1≤x.Ue∧x.Ue≤20)∧(x.Kind≠1→∃ Db b,(gi fu).Jg Db x.Body 2=some (0,b)):=by
 rw [vn] at h;split at h
 ·obtain ⟨r,e,h⟩:=bh h;split at h
  ·rename_i z;exact absurd (congrArg (fun o:Option (Int×Int)=>o.map (·.1)) h) (by simpa using z)
  ·rename_i z;obtain rfl:r=0:=Decidable.not_not.1 z;exact ⟨fun _=>Py a e,WA a h⟩
 ·rename_i q;exact ⟨fun g=>absurd g q,WA a h⟩
theorem yF (c:20≤fu) (qa:x.Params.length≤6):∀ (m i:Nat),i≤x.Params.length→yp fu x jf m i=some (0,k)→(∀ j (a:j<x.Params.length),i≤j→Yl x.Params[j].Name∧Qo x.Params[j].tb)∧vn fu x jf=some (0,k):=by
 intro m
 induction m with
 | zero=>intro i _ h; cases h
 | succ m d =>
  intro i p h;rw [yp] at h;by_cases q:i<x.Params.length
  ·rw [if_pos (by omega),sf,List.getElem?_eq_getElem q,pa] at h;obtain ⟨b,na,h⟩:=bh h;cases b with
   | false=>cases h
   | true =>
    rw [if_pos rfl] at h;obtain ⟨r,f,h⟩:=bh h;by_cases z:r≠0
    ·rw [if_pos z] at h;exact absurd (congrArg (fun o:Option (Int×Int)=>o.map (·.1)) h) (by simpa using z)
    ·rw [if_neg z,Td (by omega),pa] at h;obtain rfl:r=0:=Decidable.not_not.1 z;obtain ⟨g,l⟩:=d (i+1) q h;refine ⟨fun j a n=>?_,l⟩;by_cases e:j=i
     ·subst e;exact ⟨Xs c na,Py c f⟩
     ·exact g j a (by omega)
  ·rw [if_neg (by omega)] at h;exact ⟨fun j a n=>by omega,h⟩
theorem GI (B:300≤fu) (ok:Fj x) (h:Hq fu node x=some (0,k)):Zm x:=by
 rw [Hq] at h;obtain ⟨f,-,h⟩:=bh h;split at h
 ·rename_i z;exact absurd (congrArg (fun o:Option (Int×Int)=>o.map (·.1)) h) (by simpa using z)
 ·have fin:Yl x.Name→(x.Kind=2∨x.Kind=3→x.Params.length≤6∧∀ q ∈ x.Params,Yl q.Name∧Qo q.tb)→vn fu x f=some (0,k)→Zm x:=by
   intro d m h;obtain ⟨a,b,c,e⟩:=xF (by omega) h;refine ⟨ok.k1,ok.Gd,d,m,a,b,c,fun k1=>⟨ok.Rd k1,fun y i=>?_⟩⟩;obtain ⟨Db,p,hs⟩:=e k1;obtain ⟨n,rfl⟩:∃ q,fu=q+1:=⟨fu - 1,by omega⟩;obtain ⟨c2,r,s⟩:=pB (ok.Rd k1) (show Jg (gi n) Db x.Body 2=some (0,p) from hs) y i;exact fC 39 n y c2 2 r (by omega) (ok.lr k1 y i) s
  have l:∀ b,(b=true ↔ x.Kind=2∨x.Kind=3)→Yl x.Name→zp fu x f b=some (0,k)→Zm x:=by
   intro b g d h;rw [zp] at h;split at h
   ·rename_i q;split at h
    ·cases h
    ·rename_i z;obtain ⟨t,u⟩:=yF (by omega) (by omega) _ 0 (Nat.zero_le _) h;exact fin d (fun _=>⟨by omega,fun q v=>by
      obtain ⟨j,w,rfl⟩:=List.getElem_of_mem v;exact t j w (Nat.zero_le _)⟩) u
   ·rename_i q;exact fin d (fun z=>absurd (g.2 z) q) h
  have A:∀ b,xn fu x f b=some (0,k)→Zm x:=by
   intro b h;rw [xn] at h;split at h
   ·cases h
   ·obtain ⟨Ke,e,h⟩:=bh h;cases Ke with
    | false=>cases h
    | true =>
     rw [if_pos rfl] at h;split at h
     ·rename_i q;exact l _ (by simp [q]) (Xs (by omega) e) h
     ·rename_i q;exact l _ (by simp [q]) (Xs (by omega) e) h
  split at h<;>exact A _ h
end
theorem HI {fu:Nat}(g:300≤fu){l:List va}{f:fe}(h:Ep fu l=some f) (b:f.ve=0):l.length≤30∧∀ x ∈ l,Zm x:=by
 obtain ⟨s,d,k⟩:=Px fu (by omega) l;rw [h] at d;obtain rfl:=Option.some.inj d;obtain ⟨-,ok⟩:=k b;have qa:=ok.le;refine ⟨qa,?_⟩;rw [Ep,if_neg (by omega)] at h;have L:∀ (m i:Nat) (c:Int),bp fu l m i c=some f→∀ j (a:j<l.length),i≤j→Zm l[j]:=by
  intro m
  induction m with
  | zero=>intro i c h; cases h
  | succ m n =>
   intro i c h j a t;rw [bp,if_pos (by omega),sf,List.getElem?_eq_getElem (show i<l.length by omega),pa] at h;obtain ⟨r,e,h⟩:=bh h;by_cases z:r.1≠0
   ·rw [if_pos z] at h;rw [← Option.some.inj h] at b;exact absurd b z
   ·rw [if_neg z,Td (by omega),pa] at h;by_cases q:j=i
    ·subst q;obtain ⟨o,u⟩:=r;obtain rfl:o=0:=Decidable.not_not.1 z;exact GI g (ok.ok _ (List.getElem_mem _)) e
    ·exact n (i+1) r.2 h j a (by omega)
 intro x p;obtain ⟨j,a,rfl⟩:=List.getElem_of_mem p;exact L _ 0 0 h j a (Nat.zero_le _)
end Go.Y
