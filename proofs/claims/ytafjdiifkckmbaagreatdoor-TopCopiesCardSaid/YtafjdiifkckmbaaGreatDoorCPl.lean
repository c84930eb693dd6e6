/- Texts of TopCopies Pl. -/
import Derived.Test.YtafjdiifkckmbaaGreatDoorCMd
set_option linter.unusedSimpArgs false
set_option linter.unusedVariables false
set_option linter.unusedSectionVars false
namespace Go.Y
section
open Go.Bc Go.Re
theorem Hf {n:Int}(h:-9223372036854775808<=n/\n<=9223372036854775807):i64 n=some n:=if_pos h
theorem Ga {α β:Type}{x:α}{f:α->Option β}:Option.bind (some x) f=f x:=rfl
theorem Pg {α:Type}{l:List α}{i:Nat}:at_ l (i:Int)=l[i]?:=by simp [at_]
theorem AG {α:Type}{l:List α}(h:0<l.length):at_ l 0=some l[0]:=by simp [at_,h]
theorem HH (c:UInt8):∃ b,Gs c=some b:=by
 unfold Gs;split
 ·split<;>exact ⟨_,rfl⟩
 ·exact ⟨_,rfl⟩
theorem LN (c:UInt8):∃ b,Ks c=some b:=by
 unfold Ks;split<;>exact ⟨_,rfl⟩
theorem ZR (c:UInt8):∃ b,pt c=some b:=by
 obtain ⟨a,d⟩:=HH c;obtain ⟨b,e⟩:=LN c;unfold pt;rw [d,Ga,e,Ga];split<;>exact ⟨_,rfl⟩
theorem eI (l:List UInt8) (p:UInt8->Option Bool) (a:∀ c,∃ b,p c=some b) (la:l.length<=65536):∀ (n i:Nat),i<=l.length->l.length<n+i->∃ r,Cn l p n (i:Int)=some r
 | 0,i,d,e=>by omega
 | n+1,i,d,e=>by
  rw [Cn];by_cases c:i<l.length
  ·obtain ⟨b,f⟩:=a l[i];rw [if_pos (by omega),Pg,List.getElem?_eq_getElem c,Ga,f,Ga];cases b with
   | true=>rw [qs,if_pos rfl,Hf (by omega),Ga]; exact eI l p a la n (i+1) c (by omega)
   | false=>exact ⟨_,rfl⟩
  ·rw [if_neg (by omega)];exact ⟨_,rfl⟩
theorem Kv (fu:Nat) (i:20<=fu) (s:List UInt8):∃ b,ki fu s=some b:=by
 have a:∀ b,(b=true\/s.length<=12)->∃ r,Po fu s b=some r:=by
  intro b c;cases b with
  | true=>exact ⟨_,rfl⟩
  | false =>
   have j:s.length<=12:=by simpa using c
   obtain ⟨r,f⟩:=eI s pt ZR (by omega) fu 0 (by omega) (by omega);have g:tu fu s pt=some r:=f;exact ⟨_,by rw [Po,if_neg (by decide),g,Ga]⟩
 rw [ki];by_cases d:(s.length:Int)<1
 ·rw [if_pos d];exact a _<|.inl rfl
 ·rw [if_neg d];by_cases e:(12:Int)<s.length
  ·rw [if_pos e];exact a _<|.inl rfl
  ·have h:0<s.length:=by omega
   obtain ⟨b,c⟩:=HH s[0];rw [if_neg e,AG h,Ga,c,Ga];cases b with
   | false=>rw [if_neg (by decide)]; exact a _<|.inl rfl
   | true =>
    rw [if_pos rfl,cat,if_pos (by simp;omega),Ga,cat,if_pos (by simp;omega),Ga,gB,if_pos (by decide +kernel),Ga];exact a _<|.inr (by omega)
def qj (k:Int):Int:=if k<=3\/k=20 then 0 else if k<=5\/k=21\/k=24 then 1 else if k<=18\/k=23 then 2 else -1
theorem fI (k:Int):Px k=some (qj k):=by
 unfold Px qj;by_cases a:k<=3
 ·rw [if_pos a,if_pos (.inl a)];rfl
 ·rw [if_neg a];by_cases b:k=20
  ·rw [decide_eq_true b,if_pos (.inr b)];rfl
  ·rw [decide_eq_false b,tx,if_neg (by decide),if_neg (show ¬ (k<=3\/k=20) by omega)];by_cases c:k<=5
   ·rw [if_pos c,if_pos (.inl c)];rfl
   ·rw [if_neg c];by_cases d:k=21
    ·rw [if_pos d,if_pos (.inr (.inl d))];rfl
    ·rw [if_neg d];by_cases e:k=24
     ·rw [decide_eq_true e,if_pos (.inr (.inr e))];rfl
     ·rw [decide_eq_false e,Ev,if_neg (by decide),if_neg (show ¬ (k<=5\/k=21\/k=24) by omega)];by_cases f:k<=18
      ·rw [if_pos f,if_pos (.inl f)];rfl
      ·rw [if_neg f];by_cases g:k=23
       ·rw [decide_eq_true g,if_pos (.inr g)];rfl
       ·rw [decide_eq_false g,if_neg (show ¬ (k<=18\/k=23) by omega)];rfl
theorem AD (node d:Int) (a:0<=node) (b:node<=4294967296):∃ e,uu node d=some (e,node+1)/\(e=0->node+1<=2000/\d<=40):=by
 unfold uu;rw [Hf (by omega),Ga];by_cases c:2000<node+1
 ·rw [if_pos c];exact ⟨4,rfl,λh=>absurd h (by decide)⟩
 ·rw [if_neg c];by_cases e:40<d
  ·rw [decide_eq_true e];exact ⟨4,rfl,λh=>absurd h (by decide)⟩
  ·rw [decide_eq_false e];exact ⟨0,rfl,λ_=>⟨by omega,by omega⟩⟩
structure MF (x:Na):Prop where
 eq:0<=qj x.Kind->(x.Kids.length:Int)=qj x.Kind
 le:x.Kids.length<=6
def Ji:Nat->Na->Prop
 | 0,_=>False
 | k+1,x=>1<=x.Kind/\x.Kind<=24/\MF x/\∀ y ∈ x.Kids,Ji k y
def rk:Nat->Na->Nat
 | 0,_=>0
 | k+1,x=>1+(x.Kids.map (rk k)).sum
theorem aS (k:Int):qj k<=2:=by
 unfold qj;split
 ·decide
 ·split
  ·decide
  ·split<;>decide
theorem MN:∀ (n:Nat) (x:Na) (d node:Int),62<=n+d->0<=d->d<=41->0<=node->node<=2000 ->
  ∃ e k,(Ij n).Jj node x d=some (e,k)/\node<=k/\(e=0->k<=2000/\Ji (41 - d).toNat x/\k=node+(rk (41 - d).toNat x:Nat)):=by
 intro n
 induction n with
 | zero=>intro x d node F v w; omega
 | succ n H =>
  intro x d node F v w K bb;show ∃ e k,Jj n (Ij n) node x d=some (e,k)/\_;obtain ⟨b,M⟩:=Kv n (by omega) x.Name;obtain ⟨e,N,he⟩:=AD node d K (by omega);rw [Jj,N,Ga];by_cases c:e=0
  ·subst c;obtain ⟨Gb,Ca⟩:=he rfl;rw [if_neg (by simp)];have O:(41 - d).toNat=(40 - d).toNat+1:=by omega
   rw [O];generalize a:(λo:Option (Int×Int)=>∃ e k,o=some (e,k)/\node<=k/\(e=0->k<=2000/\Ji ((40 - d).toNat+1) x/\k=node+(rk ((40 - d).toNat+1) x:Nat)))=P;have bad:∀ e:Int,e≠0->P (some (e,node+1)):=λe h=>by rw [<- a];exact ⟨e,_,rfl,by omega,λQ=>absurd Q h⟩
   have L:x.Kids.length<=6->∀ (m i:Nat) (c:Int),i<=x.Kids.length->x.Kids.length<m+i->0<=c->c<=2000 ->
     ∃ e k,Kl (Ij n) x d m i c=some (e,k)/\c<=k/\(e=0->k<=2000/\(∀ y ∈ x.Kids.drop i,Ji (40 - d).toNat y)/\k=c+(((x.Kids.drop i).map (rk (40 - d).toNat)).sum:Nat)):=by
    intro la m
    induction m with
    | zero=>intro i c v w; omega
    | succ m R =>
     intro i c gc lc S A;rw [Kl];by_cases q:i<x.Kids.length
     ·obtain ⟨e,k,sa,T,U⟩:=H x.Kids[i] (d+1) c (by omega) (by omega) (by omega) S A;rw [if_pos (by omega),Pg,List.getElem?_eq_getElem q,Ga,Hf (by omega),Ga,sa,Ga];by_cases z:e=0
      ·subst z;obtain ⟨V,f2,f3⟩:=U rfl;rw [if_neg (by simp),Hf (by omega),Ga];obtain ⟨W,k',j,X,l⟩:=R (i+1) k q (by omega) (by omega) V;refine ⟨W,k',j,by omega,λp=>?_⟩;obtain ⟨r,f,B⟩:=l p;have Y:(41 - (d+1)).toNat=(40 - d).toNat:=by omega
       rw [Y] at f2 f3;refine ⟨r,λy g=>?_,?_⟩
       ·rw [List.drop_eq_getElem_cons q] at g;rcases List.mem_cons.1 g with rfl | g
        ·exact f2
        ·exact f y g
       ·rw [List.drop_eq_getElem_cons q,List.map_cons,List.sum_cons];omega
      ·rw [if_pos z];exact ⟨e,k,rfl,T,λh=>absurd h z⟩
     ·rw [if_neg (by omega),List.drop_eq_nil_of_le (by omega)];exact ⟨0,c,rfl,by omega,λ_=>⟨A,by simp,by simp⟩⟩
   by_cases hd:1<=x.Kind/\x.Kind<=24
   ·have s:∀ b,(b=false->MF x)->P (Uq (Ij n) x d (0,node+1) b):=by
     intro b h;cases b with
     | true=>exact bad 5 (by decide)
     | false =>
      have C:=h rfl;rw [Uq,if_neg (by decide),<- a];obtain ⟨e,k,j,X,l⟩:=L C.le (x.Kids.length+1) 0 (node+1) (by omega) (by omega) (by omega) (by omega);refine ⟨e,k,j,by omega,λp=>?_⟩;obtain ⟨r,f,B⟩:=l p;rw [List.drop_zero] at f B;exact ⟨r,⟨hd.1,hd.2,C,f⟩,by rw [rk];omega⟩
    have rc:=aS x.Kind;have D:∀ b,(b=false->0<=qj x.Kind->(x.Kids.length:Int)=qj x.Kind)->P (Vq (Ij n) x d (0,node+1) (qj x.Kind) b):=by
     intro b h;cases b with
     | true=>rw [Vq,if_pos rfl]; exact s _<|λh=>absurd h (by decide)
     | false =>
      rw [Vq,if_neg (by decide)];by_cases q:qj x.Kind<0
      ·rw [if_pos q];exact s _ λCa=>⟨h rfl,by have:=of_decide_eq_false Ca;omega⟩
      ·rw [if_neg q];exact s _ λ_=>⟨h rfl,by have:=h rfl (by omega);omega⟩
    have t:∀ b,P (Ro (Ij n) x d (0,node+1) (qj x.Kind) b):=by
     intro b;cases b with
     | true=>exact bad 7 (by decide)
     | false =>
      rw [Ro,if_neg (by decide)];by_cases q:0<=qj x.Kind
      ·rw [if_pos q];exact D _ λCa _=>by have:=of_decide_eq_false Ca;omega
      ·rw [if_neg q];exact D _ λ_ h=>absurd h q
    have u:∀ b,P (Mp n (Ij n) x d (0,node+1) (qj x.Kind) b):=by
     intro Rc;cases Rc with
     | true=>exact bad 3 (by decide)
     | false =>
      rw [Mp,if_neg (by decide),M];simp only [Ga];split
      ·exact t _
      ·split
       ·exact t _
       ·split<;>exact t _
    have E:∀ b,P (Wq n (Ij n) x d (0,node+1) (qj x.Kind) b):=by
     intro Rc;unfold Wq;split
     ·exact u _
     ·split
      ·split<;>exact u _
      ·exact u _
    have Z:∀ b,P (fo n (Ij n) x d (0,node+1) b):=by
     intro Rc;cases Rc with
     | true=>exact bad 1 (by decide)
     | false =>
      rw [fo,if_neg (by decide),fI,Ga];split
      ·split<;>exact E _
      ·exact E _
    have G:P (if x.Kind<1 then fo n (Ij n) x d (0,node+1) true else fo n (Ij n) x d (0,node+1) (decide ((24:Int)<x.Kind))):=by
     split<;>exact Z _
    rw [<- a] at G;exact G
   ·have G:P (if x.Kind<1 then fo n (Ij n) x d (0,node+1) true else fo n (Ij n) x d (0,node+1) (decide ((24:Int)<x.Kind))):=by
     split
     ·exact bad 1 (by decide)
     ·rw [decide_eq_true (show 24<x.Kind by omega)];exact bad 1 (by decide)
    rw [<- a] at G;exact G
  ·rw [if_pos c];exact ⟨e,_,rfl,by omega,λh=>absurd h c⟩
def Tm:Nat->Pa->Prop
 | 0,_=>False
 | k+1,s=>1<=s.Kind/\s.Kind<=9/\(s.Kind≠6->Ji k s.X)/\((s.Kind=3\/s.Kind=4)->s.Body.length<=50/\∀ y ∈ s.Body,Tm k y)/\(s.Kind=3->s.kf.length<=50/\∀ y ∈ s.kf,Tm k y)
def dh:Nat->Pa->Nat
 | 0,_=>0
 | k+1,s=>1+(if s.Kind=6 then 0 else rk k s.X)+(if s.Kind=3\/s.Kind=4 then (s.Body.map (dh k)).sum else 0)+(if s.Kind=3 then (s.kf.map (dh k)).sum else 0)
theorem NN:∀ (n:Nat),(∀ (l:List Pa) (d node:Int),2*(42 - d)+65<=n->0<=d->d<=41->0<=node->node<=2000 ->
   ∃ e k,(xj n).yh node l d=some (e,k)/\node<=k/\(e=0->k<=2000/\(l.length<=50/\∀ y ∈ l,Tm (41 - d).toNat y)/\k=node+((l.map (dh (41 - d).toNat)).sum:Nat))) /\
  (∀ (x:Pa) (d node:Int),2*(42 - d)+64<=n->0<=d->d<=41->0<=node->node<=2000 ->
   ∃ e k,(xj n).cl node x d=some (e,k)/\node<=k/\(e=0->k<=2000/\Tm (41 - d).toNat x/\k=node+(dh (41 - d).toNat x:Nat))):=by
 intro n
 induction n with
 | zero=>exact ⟨λl d node H w A=>by omega,λl d node H w A=>by omega⟩
 | succ n T =>
  obtain ⟨U,V⟩:=T;refine ⟨λl d node H w A r M=>?_,λx d node H w A r M=>?_⟩
  ·show ∃ e k,yh (xj n) node l d=some (e,k)/\_;rw [yh];by_cases la:(50:Int)<l.length
   ·rw [if_pos la];exact ⟨5,node,rfl,by omega,λh=>absurd h (by decide)⟩
   ·rw [if_neg la];have L:∀ (m i:Nat) (c:Int),i<=l.length->l.length<m+i->0<=c->c<=2000 ->
      ∃ e k,Wr (xj n) l d m i c=some (e,k)/\c<=k/\(e=0->k<=2000/\(∀ y ∈ l.drop i,Tm (41 - d).toNat y)/\k=c+(((l.drop i).map (dh (41 - d).toNat)).sum:Nat)):=by
     intro m
     induction m with
     | zero=>intro i c w A; omega
     | succ m W =>
      intro i c s t Y N;rw [Wr];by_cases q:i<l.length
      ·obtain ⟨e,k,sa,Z,bb⟩:=V l[i] d c (by omega) w A Y N;rw [if_pos (by omega),Pg,List.getElem?_eq_getElem q,Ga,sa,Ga];by_cases z:e=0
       ·subst z;obtain ⟨Gb,f2,f3⟩:=bb rfl;rw [if_neg (by simp),Hf (by omega),Ga];obtain ⟨lc,k',p,B,g⟩:=W (i+1) k q (by omega) (by omega) Gb;refine ⟨lc,k',p,by omega,λC=>?_⟩;obtain ⟨j,f,u⟩:=g C;refine ⟨j,λy F=>?_,?_⟩
        ·rw [List.drop_eq_getElem_cons q] at F;rcases List.mem_cons.1 F with rfl | F
         ·exact f2
         ·exact f y F
        ·rw [List.drop_eq_getElem_cons q,List.map_cons,List.sum_cons];omega
       ·rw [if_pos z];exact ⟨e,k,rfl,Z,λh=>absurd h z⟩
      ·rw [if_neg (by omega),List.drop_eq_nil_of_le (by omega)];exact ⟨0,c,rfl,by omega,λ_=>⟨N,by simp,by simp⟩⟩
    obtain ⟨e,k,p,B,g⟩:=L (l.length+1) 0 node (by omega) (by omega) r M;refine ⟨e,k,p,B,λC=>?_⟩;obtain ⟨j,f,u⟩:=g C;rw [List.drop_zero] at f u;exact ⟨j,⟨by omega,f⟩,u⟩
  ·show ∃ e k,cl n (xj n) node x d=some (e,k)/\_;obtain ⟨b,rc⟩:=Kv n (by omega) x.Name;obtain ⟨e,fd,he⟩:=AD node d r (by omega);rw [cl,fd,Ga];by_cases c:e=0
   ·subst c;obtain ⟨wd,Ca⟩:=he rfl;rw [if_neg (by simp)];have id:(41 - d).toNat=(40 - d).toNat+1:=by omega
    have O:(41 - (d+1)).toNat=(40 - d).toNat:=by omega
    rw [id];generalize D:(λo:Option (Int×Int)=>∃ e k,o=some (e,k)/\node<=k/\(e=0->k<=2000/\Tm ((40 - d).toNat+1) x/\k=node+(dh ((40 - d).toNat+1) x:Nat)))=P;have bad:∀ e c:Int,e≠0->node<=c->P (some (e,c)):=λe c h Q=>by rw [<- D];exact ⟨e,_,rfl,Q,λmd=>absurd md h⟩
    have kids:=λ(l:List Pa) (c:Int) (Q:node<=c) (nd:c<=2000)=>U l (d+1) c (by omega) (by omega) (by omega) (by omega) nd;rw [O] at kids;have G:P (if x.Kind<1 then Np n (xj n) x d (0,node+1) true else Np n (xj n) x d (0,node+1) (decide ((9:Int)<x.Kind))):=by
     by_cases hd:1<=x.Kind/\x.Kind<=9
     ·have R:∀ (c:Int),node<=c->c<=2000->x.Kind≠6->Ji (40 - d).toNat x.X->((x.Kind=3\/x.Kind=4)->x.Body.length<=50/\∀ y ∈ x.Body,Tm (40 - d).toNat y) ->
        c=node+1+(rk (40 - d).toNat x.X:Nat)+((if x.Kind=3\/x.Kind=4 then (x.Body.map (dh (40 - d).toNat)).sum else 0:Nat):Int)->P (ss (xj n) x d c):=by
       intro c s t a uc v gc;rw [ss];by_cases E:x.Kind=3
       ·obtain ⟨e,k,p,B,g⟩:=kids x.kf c s t;rw [if_pos E,Hf (by omega),Ga,p,Ga];rw [<- D];refine ⟨e,k,rfl,by omega,λC=>?_⟩;obtain ⟨j,f,u⟩:=g C;refine ⟨j,⟨hd.1,hd.2,λ_=>uc,v,λ_=>f⟩,?_⟩;rw [dh,if_neg a,if_pos E];omega
       ·rw [if_neg E,<- D];refine ⟨0,c,rfl,s,λ_=>⟨t,⟨hd.1,hd.2,λ_=>uc,v,λh=>absurd h E⟩,?_⟩⟩;rw [dh,if_neg a,if_neg E];omega
      have S:∀ (c:Int) b,node<=c->c<=2000->x.Kind≠6->Ji (40 - d).toNat x.X->(b=true ↔ x.Kind=3\/x.Kind=4)->c=node+1+(rk (40 - d).toNat x.X:Nat)->P (ts (xj n) x d (0,c) b):=by
       intro c b s t a uc v gc;rw [ts];by_cases q:b=true
       ·obtain ⟨e,k,p,B,g⟩:=kids x.Body c s t;rw [if_pos q,Hf (by omega),Ga,p,Ga];by_cases z:e=0
        ·subst z;obtain ⟨j,f,u⟩:=g rfl;rw [if_neg (by simp)];exact R k (by omega) j a uc (λ_=>f) (by rw [if_pos (v.1 q)];omega)
        ·rw [if_pos z];exact bad e k z (by omega)
       ·rw [if_neg q];exact R c s t a uc (λh=>absurd (v.2 h) q) (by rw [if_neg λh=>q (v.2 h)];omega)
      have K:∀ b,P (So n (xj n) x d (0,node+1) b):=by
       intro b;cases b with
       | true=>exact bad 7 _ (by decide) (by omega)
       | false =>
        rw [So,if_neg (by decide)];by_cases a:x.Kind=6
        ·rw [if_pos a,<- D];refine ⟨0,node+1,rfl,by omega,λ_=>⟨by omega,⟨hd.1,hd.2,λh=>absurd a h,λh=>by omega,λh=>by omega⟩,?_⟩⟩;rw [dh,if_pos a,if_neg (by omega),if_neg (by omega)];omega
        ·obtain ⟨e,k,p,B,g⟩:=MN n x.X (d+1) (node+1) (by omega) (by omega) (by omega) (by omega) (by omega);rw [O] at g;rw [if_neg a,Hf (by omega),Ga,p,Ga];by_cases z:e=0
         ·subst z;obtain ⟨j,f,u⟩:=g rfl;rw [if_neg (by simp)];split
          ·rename_i r;exact S k true (by omega) j a f (by simp [r]) (by omega)
          ·rename_i r;exact S k _ (by omega) j a f (by simp [r]) (by omega)
         ·rw [if_pos z];exact bad e k z (by omega)
      have rd:∀ b,P (Np n (xj n) x d (0,node+1) b):=by
       intro Rc;cases Rc with
       | true=>exact bad 1 _ (by decide) (by omega)
       | false =>
        rw [Np,if_neg (by decide),rc];simp only [Ga];split
        ·exact K _
        ·split
         ·exact K _
         ·split<;>exact K _
      split<;>exact rd _
     ·split
      ·exact bad 1 _ (by decide) (by omega)
      ·rw [decide_eq_true (show 9<x.Kind by omega)];exact bad 1 _ (by decide) (by omega)
    rw [<- D] at G;exact G
   ·rw [if_pos c];exact ⟨e,_,rfl,by omega,λh=>absurd h c⟩
def Jo (t:Qa):Prop:=1<=t.Kind/\t.Kind<=3
theorem nA (fu:Nat) (a:20<=fu) (t:Qa):∃ e,gr fu t=some e/\(e=0->Jo t):=by
 obtain ⟨b,d⟩:=Kv fu a t.xc;rw [gr];by_cases c:1<=t.Kind/\t.Kind<=3
 ·rw [if_neg (by omega),decide_eq_false (by omega),qu,if_neg (by decide),d];simp only [Ga];have:∀ b,∃ e,Fx b=some e:=λb=>by cases b<;>exact ⟨_,rfl⟩
  split
  ·obtain ⟨e,he⟩:=this (!b);exact ⟨e,he,λ_=>c⟩
  ·obtain ⟨e,he⟩:=this false;exact ⟨e,he,λ_=>c⟩
 ·split
  ·exact ⟨1,rfl,λh=>absurd h (by decide)⟩
  ·rw [decide_eq_true (show 3<t.Kind by omega)];exact ⟨1,rfl,λh=>absurd h (by decide)⟩
structure Ut (x:va):Prop where
 k1:1<=x.Kind
 Xe:x.Kind<=4
 zg:x.Kind=2\/x.Kind=3->x.Params.length<=6/\∀ p ∈ x.Params,Jo p.Cb
 Gl:x.Kind=3->Jo x.cd
 ty:x.Kind≠4->Jo x.Cb
 Od:x.Kind≠1->x.Body.length<=50
 dx:x.Kind≠1->∀ y ∈ x.Body,Tm 39 y
def Qr (x:va):Nat:=1+if x.Kind≠1 then (x.Body.map (dh 39)).sum else 0
theorem ZO (fu:Nat) (S:200<=fu) (x:va) (node:Int) (y:0<=node) (T:node<=2000):∃ e k,zu fu node x=some (e,k)/\node<=k/\(e=0->k<=2000/\Ut x/\k=node+(Qr x:Nat)):=by
 obtain ⟨b,A⟩:=Kv fu (by omega) x.Name;obtain ⟨e,B,he⟩:=AD node 1 y (by omega);rw [zu,B,Ga];by_cases c:e=0
 ·subst c;obtain ⟨U,Ca⟩:=he rfl;rw [if_neg (by simp)];generalize r:(λo:Option (Int×Int)=>∃ e k,o=some (e,k)/\node<=k/\(e=0->k<=2000/\Ut x/\k=node+(Qr x:Nat)))=P;have bad:∀ e c:Int,e≠0->node<=c->P (some (e,c)):=λe c h C=>by rw [<- r];exact ⟨e,_,rfl,C,λD=>absurd D h⟩
  have G:P (if x.Kind<1 then Sp fu x (0,node+1) true else Sp fu x (0,node+1) (decide ((4:Int)<x.Kind))):=by
   by_cases hd:1<=x.Kind/\x.Kind<=4
   ·have t:(x.Kind=2\/x.Kind=3->x.Params.length<=6/\∀ p ∈ x.Params,Jo p.Cb)->(x.Kind=3->Jo x.cd)->(x.Kind≠4->Jo x.Cb)->P (Bs fu x (0,node+1)):=by
     intro d f j;rw [Bs];by_cases k1:x.Kind=1
     ·rw [if_neg (by simpa using k1)];have E:∀ b,P (Lv (0,node+1) b):=by
       intro b;cases b with
       | true=>exact bad 3 _ (by decide) (by omega)
       | false =>
        rw [<- r];exact ⟨0,node+1,rfl,by omega,λ_=>⟨by omega,⟨hd.1,hd.2,d,f,j,λh=>absurd k1 h,λh=>absurd k1 h⟩,by rw [Qr,if_neg (by simpa using k1)];omega⟩⟩
      split<;>exact E _
     ·obtain ⟨e,k,F,V,H⟩:=(NN fu).1 x.Body 2 (node+1) (by omega) (by omega) (by omega) (by omega) (by omega);rw [if_pos k1,F,Ga,<- r];refine ⟨e,k,rfl,by omega,λK=>?_⟩;obtain ⟨M,s2,N⟩:=H K;exact ⟨M,⟨hd.1,hd.2,d,f,j,λ_=>s2.1,λ_=>s2.2⟩,by rw [Qr,if_pos k1];rw [show (41 - (2:Int)).toNat=39 from rfl] at N;omega⟩
    have u:(x.Kind=2\/x.Kind=3->x.Params.length<=6/\∀ p ∈ x.Params,Jo p.Cb)->(x.Kind=3->Jo x.cd)->P (Cs fu x (0,node+1)):=by
     intro d f;rw [Cs];by_cases Xe:x.Kind=4
     ·rw [if_neg (by simpa using Xe)];exact t d f λh=>absurd Xe h
     ·obtain ⟨e,l,a⟩:=nA fu (by omega) x.Cb;rw [if_pos Xe,l,Ga];by_cases z:e=0
      ·rw [if_neg (by simpa using z)];exact t d f λ_=>a z
      ·rw [if_pos z];exact bad e _ z (by omega)
    have v:(x.Kind=2\/x.Kind=3->x.Params.length<=6/\∀ p ∈ x.Params,Jo p.Cb)->P (Rp fu x (0,node+1)):=by
     intro d;rw [Rp];by_cases s:x.Kind=3
     ·obtain ⟨e,l,a⟩:=nA fu (by omega) x.cd;rw [if_pos s,l,Ga];by_cases z:e=0
      ·rw [if_neg (by simpa using z)];exact u d λ_=>a z
      ·rw [if_pos z];exact bad e _ z (by omega)
     ·rw [if_neg s];exact u d λh=>absurd h s
    have L:x.Params.length<=6->∀ (m i:Nat),i<=x.Params.length->x.Params.length<m+i->(∀ p ∈ x.Params.take i,Jo p.Cb)->P (Ds fu x (0,node+1) m i):=by
     intro la m
     induction m with
     | zero=>intro i l a; omega
     | succ m O =>
      intro i d f j;rw [Ds];by_cases q:i<x.Params.length
      ·obtain ⟨Rc,Q⟩:=Kv fu (by omega) x.Params[i].Name;obtain ⟨e,l,a⟩:=nA fu (by omega) x.Params[i].Cb;rw [if_pos (by omega),Pg,List.getElem?_eq_getElem q,Ga,Q,Ga];cases Rc with
       | false=>rw [if_neg (by decide)]; exact bad 7 _ (by decide) (by omega)
       | true =>
        rw [if_pos rfl,l,Ga];by_cases z:e=0
        ·rw [if_neg (by simpa using z),Hf (by omega),Ga];refine O (i+1) q (by omega) λp n=>?_;rw [List.take_succ_eq_append_getElem q] at n;rcases List.mem_append.1 n with n | n
         ·exact j p n
         ·rw [List.mem_singleton.1 n];exact a z
        ·rw [if_pos z];exact bad e _ z (by omega)
      ·rw [if_neg (by omega)];rw [List.take_of_length_le (by omega)] at j;exact v λ_=>⟨la,j⟩
    have w:∀ b,(b=true ↔ x.Kind=2\/x.Kind=3)->P (Es fu x (0,node+1) b):=by
     intro b g;rw [Es];by_cases q:b=true
     ·rw [if_pos q];by_cases la:(6:Int)<x.Params.length
      ·rw [if_pos la];exact bad 5 _ (by decide) (by omega)
      ·rw [if_neg la];exact L (by omega) (x.Params.length+1) 0 (by omega) (by omega) (by simp)
     ·rw [if_neg q];exact v λh=>absurd (g.2 h) q
    have R:∀ b,P (Sp fu x (0,node+1) b):=by
     intro Rc;cases Rc with
     | true=>exact bad 1 _ (by decide) (by omega)
     | false =>
      rw [Sp,if_neg (by decide),A,Ga];cases b with
      | false=>rw [if_neg (by decide)]; exact bad 7 _ (by decide) (by omega)
      | true =>
       rw [if_pos rfl];split
       ·rename_i a;exact w _ (by simp [a])
       ·rename_i a;exact w _ (by simp [a])
    split<;>exact R _
   ·split
    ·exact bad 1 _ (by decide) (by omega)
    ·rw [decide_eq_true (show 4<x.Kind by omega)];exact bad 1 _ (by decide) (by omega)
  rw [<- r] at G;exact G
 ·rw [if_pos c];exact ⟨e,_,rfl,by omega,λh=>absurd h c⟩
structure NG (l:List va):Prop where
 le:l.length<=30
 ok:∀ d ∈ l,Ut d
 n:(l.map Qr).sum<=2000
theorem dD (fu:Nat) (g:200<=fu) (l:List va):∃ f,Hs fu l=some f/\(f.Te=0->f.xa=0/\NG l):=by
 rw [Hs];by_cases la:(30:Int)<l.length
 ·rw [if_pos la];exact ⟨_,rfl,λh=>absurd h (by decide:(5:Int)≠0)⟩
 ·rw [if_neg la];have L:∀ (m i:Nat) (c:Int),i<=l.length->l.length<m+i->0<=c->c<=2000->(∀ d ∈ l.take i,Ut d)->c=(((l.take i).map Qr).sum:Nat)->∃ f,Xr fu l m i c=some f/\(f.Te=0->f.xa=0/\NG l):=by
   intro m
   induction m with
   | zero=>intro i c u v; omega
   | succ m j =>
    intro i c w x n o b r;rw [Xr];by_cases q:i<l.length
    ·obtain ⟨e,k,sa,y,s⟩:=ZO fu g l[i] c n o;rw [if_pos (by omega),Pg,List.getElem?_eq_getElem q,Ga,sa,Ga];by_cases z:e=0
     ·subst z;obtain ⟨t,f2,f3⟩:=s rfl;rw [if_neg (by simp),Hf (by omega),Ga];refine j (i+1) k q (by omega) (by omega) t (λp a=>?_) ?_
      ·rw [List.take_succ_eq_append_getElem q] at a;rcases List.mem_append.1 a with a | a
       ·exact b p a
       ·rw [List.mem_singleton.1 a];exact f2
      ·rw [List.take_succ_eq_append_getElem q,List.map_append,List.sum_append,List.map_cons,List.map_nil,List.sum_cons,List.sum_nil];omega
     ·rw [if_pos z];exact ⟨_,rfl,λh=>absurd h z⟩
    ·rw [if_neg (by omega)];rw [List.take_of_length_le (by omega)] at b r;exact ⟨_,rfl,λ_=>⟨rfl,by omega,b,by omega⟩⟩
  exact L (l.length+1) 0 0 (by omega) (by omega) (by omega) (by omega) (by simp) (by simp)
end
section
open Go.Bc Go.Re
abbrev se:=List (List (List UInt8×Qa))
def He (t:Qa):Qa:=if t.Kind≠3 then ⟨t.Kind,[]⟩ else t
theorem Qo (t:Qa):To t=some (decide (t.Kind≠3)):=rfl
theorem jo (t:Qa):Up t=some (He t):=by
 rw [Up,Qo,Ga,He];by_cases c:t.Kind≠3
 ·rw [decide_eq_true c,if_pos rfl,if_pos c];rfl
 ·rw [decide_eq_false c,if_neg (by decide),if_neg c];rfl
def Cp (o:Option va) (k:Int):Bool:=match o with | some d=>decide (d.Kind=k) | none=>false
theorem ou (p:qb) (kind:Int) (name:List UInt8):Is p kind name=some (Sa p.named name,Cp (Sa p.named name) kind):=by
 rw [Is];cases h:Sa p.named name with
 | none=>rfl
 | some d=>rfl
theorem Mu {o:Option va}{k:Int}(h:Cp o k=true):∃ d,o=some d/\d.Kind=k:=by
 cases o with
 | none=>cases h
 | some d=>exact ⟨d,rfl,of_decide_eq_true h⟩
def Bk (p:qb) (t:Qa):Prop:=t.Kind=3->∃ d,Sa p.named t.xc=some d/\d.Kind=3
theorem Bk.bare {p:qb}{t:Qa}(h:Bk p t):Bk p (He t):=by
 unfold He;split
 ·rename_i c;exact λa=>absurd a c
 ·exact h
theorem Bk.of {p:qb}{t:Qa}(h:t.Kind≠3):Bk p t:=λa=>absurd a h
theorem Dn {t:Qa}:(He t).Kind=t.Kind:=by
 unfold He;split<;>rfl
structure vo (p:qb) (d:va):Prop where
 ty:d.Kind≠4->d.Cb.Kind≠3
 Gl:d.Kind=3->d.cd.Kind≠3
 zg:d.Kind=2\/d.Kind=3->∀ q ∈ d.Params,Bk p q.Cb
 pl:d.Kind=2\/d.Kind=3->d.Params.length<=6
def ZG (p:qb):Prop:=∀ k d,Sa p.named k=some d->vo p d
def Lm (p:qb) (B:se):Prop:=∀ m ∈ B,∀ k t,Sa m k=some t->Bk p t
structure An (p:qb) (d:va) (B:se):Prop where
 Iq:ZG p
 Ca:vo p d
 Tc:Lm p B
 Od:B.length<=100
theorem eD {p:qb}{B:se}(hB:Lm p B) (la:B.length<=100) (fu:Nat) (g:110<=fu) (d:va) (name:List UInt8):∃ t b,Zq fu p d B name=some (t,b)/\(b=true->Bk p t):=by
 have L:∀ (n j:Nat),j<=B.length->j<n->∃ t b,Yr name B n ((j:Int) - 1)=some (t,b)/\(b=true->Bk p t):=by
  intro n
  induction n with
  | zero=>intro j a c; omega
  | succ n f =>
   intro j a c;rw [Yr];cases j with
   | zero=>rw [if_neg (by omega)]; exact ⟨_,_,rfl,by simp⟩
   | succ j =>
    have e:((j+1:Nat):Int) - 1=(j:Int):=by omega
    rw [e,if_pos (by omega),Pg,List.getElem?_eq_getElem (show j<B.length by omega),Ga];cases h:Sa B[j] name with
    | none =>
     rw [if_neg (by simp),Hf (by omega),Ga];exact f j (by omega) (by omega)
    | some t=>exact ⟨t,true,rfl,λ_=>hB _ (List.getElem_mem _) _ _ h⟩
 rw [Zq,Hf (by omega),Ga];exact L fu B.length (by omega) (by omega)
def Calls (p:qb):Nat->Na->Prop
 | 0,_=>False
 | k+1,x=>(x.Kind=19->∃ d,Sa p.named x.Name=some d/\d.Kind=2)/\(x.Kind=22->∃ d,Sa p.named x.Name=some d/\d.Kind=3)/\(x.Kind=20->∃ d,Sa p.named x.Name=some d/\d.Kind=1)/\∀ y ∈ x.Kids,Calls p k y
theorem two {α:Type}{l:List α}(h:l.length=2):∃ a b,l=[a,b]:=by
 match l,h with
 | [a,b],_=>exact ⟨a,b,rfl⟩
theorem one {α:Type}{l:List α}(h:l.length=1):∃ a,l=[a]:=by
 match l,h with
 | [a],_=>exact ⟨a,rfl⟩
structure LV (n:Nat):Prop where
 typed:∀ (k:Nat) (p:qb) (d:va) (B:se) (x:Na) (t:Qa),An p d B->Ji k x->3*k+111<=n->∃ e,(Lg n).Lh p d B x t=some e/\(e=0->Calls p k x)
 args:∀ (k:Nat) (p:qb) (d:va) (B:se) (x:Na) (kind:Int),An p d B->(∀ y ∈ x.Kids,Ji k y)->x.Kids.length<=6->(kind=2\/kind=3)->3*k+112<=n ->
  ∃ Wf e,(Lg n).Ol p d B x kind=some (Wf,e)/\(e=0->∃ f,Wf=some f/\Sa p.named x.Name=some f/\f.Kind=kind/\∀ y ∈ x.Kids,Calls p k y)
 both:∀ (k:Nat) (p:qb) (d:va) (B:se) (x a b:Na),An p d B->x.Kids=[a,b]->Ji k a->Ji k b->3*k+112<=n->∃ t e,(Lg n).cn p d B x=some (t,e)/\(e=0->Calls p k a/\Calls p k b)
 handle:∀ (k:Nat) (p:qb) (d:va) (B:se) (x:Na),An p d B->Ji k x->3*k+112<=n->∃ Wf e,(Lg n).Ll p d B x=some (Wf,e)/\(e=0->(∃ f g,Wf=some f/\Sa p.named g=some f/\f.Kind=3)/\Calls p k x)
 expr:∀ (k:Nat) (p:qb) (d:va) (B:se) (x:Na),An p d B->Ji k x->3*k+110<=n->∃ t e,(Lg n).Qi p d B x=some (t,e)/\(e=0->Bk p t/\Calls p k x)
theorem jz (r:Qa×Int) (b:Bool):lx r b=some (if b=true then 9 else r.2):=by cases b<;>rfl
theorem ix (r s:Qa×Int) (b:Bool):ku r s b=some (r.1,if b=true then 9 else s.2):=by cases b<;>rfl
theorem tK:∀ n,LV n:=by
 intro n
 induction n with
 | zero=>exact ⟨λ_ _ _ _ _ _ _ _ h=>by omega,λ_ _ _ _ _ _ _ _ _ _ h=>by omega,λ_ _ _ _ _ _ _ _ _ _ _ h=>by omega,λ_ _ _ _ _ _ _ h=>by omega,λ_ _ _ _ _ _ _ h=>by omega⟩
 | succ n u =>
  refine ⟨λk p d B x t H w V=>?_,λk p d B x kind H w la K V=>?_,λk p d B x a b H w j S V=>?_,λk p d B x H w V=>?_,λk p d B x H w V=>?_⟩
  ·show ∃ e,Lh (Lg n) p d B x t=some e/\_;obtain ⟨cb,e,r,o⟩:=u.expr k p d B x H w (by omega);rw [Lh,r,Ga];by_cases z:e=0
   ·rw [if_pos z,jo,Ga,jz];exact ⟨_,rfl,λ_=>(o z).2⟩
   ·rw [if_neg z,jz];exact ⟨e,rfl,λh=>absurd h z⟩
  ·show ∃ Wf e,Ol (Lg n) p d B x kind=some (Wf,e)/\_;rw [Ol,ou,Ga];by_cases c:Cp (Sa p.named x.Name) kind=true
   ·obtain ⟨f,Q,bb⟩:=Mu c;rw [if_pos c,Q];simp only [Ga];have be:=H.Iq _ _ Q;have If:=be.pl (by omega);by_cases q:(f.Params.length:Int)≠x.Kids.length
    ·rw [decide_eq_true q];exact ⟨none,5,rfl,λh=>absurd h (by decide)⟩
    ·rw [decide_eq_false q,ox,if_neg (by decide)];simp only [Ga];have L:∀ (m i:Nat),i<=f.Params.length->f.Params.length<m+i->∃ Wf e,Zr (Lg n) x p d B (some f,Cp (some f) kind) f m i=some (Wf,e)/\(e=0->Wf=some f/\∀ y ∈ x.Kids.drop i,Calls p k y):=by
      intro m
      induction m with
      | zero=>intro i r o; omega
      | succ m Gb =>
       intro i r o;rw [Zr];by_cases c:i<f.Params.length
       ·have md:i<x.Kids.length:=by omega
        obtain ⟨e,sa,v⟩:=u.typed k p d B x.Kids[i] f.Params[i].Cb H (w _ (List.getElem_mem _)) (by omega);rw [if_pos (by omega),Pg,List.getElem?_eq_getElem c,Ga,Pg,List.getElem?_eq_getElem md,Ga,sa,Ga];by_cases z:e=0
        ·rw [if_neg (by simpa using z),Hf (by omega),Ga];obtain ⟨Wf,T,M,F⟩:=Gb (i+1) c (by omega);refine ⟨Wf,T,M,λs=>⟨(F s).1,λy C=>?_⟩⟩;rw [List.drop_eq_getElem_cons md] at C;rcases List.mem_cons.1 C with rfl | C
         ·exact v z
         ·exact (F s).2 y C
        ·rw [if_pos z];exact ⟨none,e,rfl,λh=>absurd h z⟩
       ·rw [if_neg (by omega),List.drop_eq_nil_of_le (by omega)];exact ⟨some f,0,rfl,λ_=>⟨rfl,by simp⟩⟩
     obtain ⟨Wf,e,M,F⟩:=L (f.Params.length+1) 0 (by omega) (by omega);refine ⟨Wf,e,M,λs=>?_⟩;obtain ⟨D,A⟩:=F s;rw [List.drop_zero] at A;exact ⟨f,D,rfl,bb,A⟩
   ·rw [if_neg c];exact ⟨none,7,rfl,λh=>absurd h (by decide)⟩
  ·show ∃ t e,cn (Lg n) p d B x=some (t,e)/\_;obtain ⟨ce,sa,r,o⟩:=u.expr k p d B a H j (by omega);obtain ⟨ge,v,E,N⟩:=u.expr k p d B b H S (by omega);have k0:at_ x.Kids 0=some a:=by rw [w];rfl
   have k1:at_ x.Kids 1=some b:=by rw [w];rfl
   rw [cn,k0,Ga,r,Ga];by_cases z:sa=0
   ·rw [if_neg (by simpa using z),k1,Ga,E,Ga];by_cases W:v=0
    ·have fin:∀ Rc,∃ t e,ku (ce,sa) (ge,v) Rc=some (t,e)/\(e=0->Calls p k a/\Calls p k b):=λRc=>by rw [ix];exact ⟨_,_,rfl,λ_=>⟨(o z).2,(N W).2⟩⟩
     rw [if_pos W];split
     ·rw [Qo,Ga];exact fin _
     ·exact fin _
    ·rw [if_neg W,ix];exact ⟨_,v,rfl,λh=>absurd h W⟩
   ·rw [if_pos z];exact ⟨_,sa,rfl,λh=>absurd h z⟩
  ·show ∃ Wf e,Ll (Lg n) p d B x=some (Wf,e)/\_;obtain ⟨t,e,r,o⟩:=u.expr k p d B x H w (by omega);rw [Ll,r,Ga];by_cases z:e=0
   ·rw [if_neg (by simpa using z),Qo,Ga];by_cases q:t.Kind≠3
    ·rw [if_pos (decide_eq_true q)];exact ⟨none,9,rfl,λh=>absurd h (by decide)⟩
    ·obtain ⟨f,nd,ne⟩:=(o z).1 (Decidable.not_not.1 q);rw [if_neg (by simpa using q)];exact ⟨_,0,rfl,λ_=>⟨⟨f,t.xc,nd,nd,ne⟩,(o z).2⟩⟩
   ·rw [if_pos z];exact ⟨none,e,rfl,λh=>absurd h z⟩
  ·show ∃ t e,Qi n (Lg n) p d B x=some (t,e)/\_;cases k with
   | zero=>cases w
   | succ k =>
   obtain ⟨k1,dg,K,R⟩:=w;have X:qj x.Kind=1->∃ a,x.Kids=[a]/\Ji k a:=λh=>by
    obtain ⟨a,j⟩:=one (l:=x.Kids) (by have:=K.eq (by omega);omega);exact ⟨a,j,R a (by simp [j])⟩
   have rd:qj x.Kind=2->∃ a b,x.Kids=[a,b]/\Ji k a/\Ji k b:=λh=>by
    obtain ⟨a,b,j⟩:=two (l:=x.Kids) (by have:=K.eq (by omega);omega);exact ⟨a,b,j,R a (by simp [j]),R b (by simp [j])⟩
   have Y:qj x.Kind=0->x.Kids=[]:=λh=>List.length_eq_zero_iff.1 (by have:=K.eq (by omega);omega);have Xa:x.Kind≠19->x.Kind≠20->x.Kind≠22->(∀ y ∈ x.Kids,Calls p k y)->Calls p (k+1) x:=λr o Ne wf=>⟨λh=>absurd h r,λh=>absurd h Ne,λh=>absurd h o,wf⟩;rw [Qi];by_cases gb:x.Kind=1
   ·rw [if_pos gb];exact ⟨_,0,rfl,λ_=>⟨.of (by decide),Xa (by omega) (by omega) (by omega) (by rw [Y (by rw [gb];rfl)];simp)⟩⟩
   rw [if_neg gb];by_cases gc:x.Kind=2
   ·rw [if_pos gc];exact ⟨_,0,rfl,λ_=>⟨.of (by decide),Xa (by omega) (by omega) (by omega) (by rw [Y (by rw [gc];rfl)];simp)⟩⟩
   rw [if_neg gc];by_cases lc:x.Kind=3
   ·obtain ⟨t,b,r,o⟩:=eD H.Tc H.Od n (by omega) d x.Name;rw [if_pos lc,r,Ga];cases b with
    | true=>exact ⟨t,0,rfl,λ_=>⟨o rfl,Xa (by omega) (by omega) (by omega) (by rw [Y (by rw [lc]; rfl)]; simp)⟩⟩
    | false=>exact ⟨_,7,rfl,λh=>absurd h (by decide)⟩
   rw [if_neg lc];by_cases c4:x.Kind=4
   ·obtain ⟨a,j,O⟩:=X (by rw [c4];rfl);obtain ⟨e,sa,v⟩:=u.typed k p d B a ⟨1,[]⟩ H O (by omega);have k0:at_ x.Kids 0=some a:=by rw [j];rfl
    rw [if_pos c4,k0,Ga,Ql,Ga,Ga,sa,Ga];exact ⟨_,e,rfl,λs=>⟨.of (by decide),Xa (by omega) (by omega) (by omega) (by rw [j];simpa using v s)⟩⟩
   rw [if_neg c4];by_cases c5:x.Kind=5
   ·obtain ⟨a,j,O⟩:=X (by rw [c5];rfl);obtain ⟨e,sa,v⟩:=u.typed k p d B a ⟨2,[]⟩ H O (by omega);have k0:at_ x.Kids 0=some a:=by rw [j];rfl
    rw [if_pos c5,k0,Ga,Zj,Ga,Ga,sa,Ga];exact ⟨_,e,rfl,λs=>⟨.of (by decide),Xa (by omega) (by omega) (by omega) (by rw [j];simpa using v s)⟩⟩
   rw [if_neg c5];have wd:∀ b,(b=true ↔ x.Kind=11\/x.Kind=12)->∃ t e,hs (Lg n) x p d B b=some (t,e)/\(e=0->Bk p t/\Calls p (k+1) x):=by
    intro b S;rw [hs];by_cases q:b=true
    ·have c:=S.1 q;obtain ⟨a,Z,j,rc,bd⟩:=rd (by rcases c with c | c<;>rw [c]<;>rfl);obtain ⟨t,e,r,o⟩:=u.both k p d B x a Z H j rc bd (by omega);rw [if_pos q,r,Ga,Zj,Ga];exact ⟨_,e,rfl,λs=>⟨.of (by decide),Xa (by omega) (by omega) (by omega) (by rw [j];simpa using o s)⟩⟩
    rw [if_neg q];have rg:x.Kind≠11:=λh=>q (S.2 (.inl h));have bi:x.Kind≠12:=λh=>q (S.2 (.inr h));by_cases Fd:x.Kind=19
    ·obtain ⟨Wf,e,r,o⟩:=u.args k p d B x 2 H R K.le (.inl rfl) (by omega);rw [if_pos Fd,r,Ga];by_cases z:e=0
     ·obtain ⟨f,rfl,E,N,U⟩:=o z;rw [if_neg (by simpa using z)];simp only [Ga];rw [jo,Ga];exact ⟨_,0,rfl,λ_=>⟨.of (by rw [Dn];exact (H.Iq _ _ E).ty (by omega)),⟨λ_=>⟨f,E,N⟩,λh=>by omega,λh=>by omega,U⟩⟩⟩
     ·rw [if_pos z];exact ⟨_,e,rfl,λh=>absurd h z⟩
    rw [if_neg Fd];by_cases c20:x.Kind=20
    ·rw [if_pos c20,ou,Ga];by_cases c:Cp (Sa p.named x.Name) 1=true
     ·obtain ⟨f,Q,bb⟩:=Mu c;rw [if_pos c,Q];simp only [Ga];rw [jo,Ga];exact ⟨_,0,rfl,λ_=>⟨.of (by rw [Dn];exact (H.Iq _ _ Q).ty (by omega)),⟨λh=>by omega,λh=>by omega,λ_=>⟨f,Q,bb⟩,by rw [Y (by rw [c20];rfl)];simp⟩⟩⟩
     ·rw [if_neg c];exact ⟨_,7,rfl,λh=>absurd h (by decide)⟩
    rw [if_neg c20];by_cases c21:x.Kind=21
    ·obtain ⟨a,j,O⟩:=X (by rw [c21];rfl);obtain ⟨e,sa,v⟩:=u.typed k p d B a d.Cb H O (by omega);have k0:at_ x.Kids 0=some a:=by rw [j];rfl
     rw [if_pos c21];by_cases Pk:d.Kind=3
     ·rw [if_neg (by simpa using Pk),k0,Ga,jo,Ga,sa,Ga];exact ⟨_,e,rfl,λs=>⟨.of (by show (He d.cd).Kind≠3;rw [Dn];exact H.Ca.Gl Pk),Xa (by omega) (by omega) (by omega) (by rw [j];simpa using v s)⟩⟩
     ·rw [if_pos Pk];exact ⟨_,8,rfl,λh=>absurd h (by decide)⟩
    rw [if_neg c21];by_cases Id:x.Kind=22
    ·obtain ⟨Wf,e,r,o⟩:=u.args k p d B x 3 H R K.le (.inr rfl) (by omega);rw [if_pos Id,r,Ga];refine ⟨_,e,rfl,λs=>?_⟩;obtain ⟨f,-,E,N,U⟩:=o s;exact ⟨λ_=>⟨f,E,N⟩,⟨λh=>by omega,λ_=>⟨f,E,N⟩,λh=>by omega,U⟩⟩
    rw [if_neg Id];by_cases fd:x.Kind=23
    ·obtain ⟨a,Z,j,rc,bd⟩:=rd (by rw [fd];rfl);obtain ⟨Wf,e,r,o⟩:=u.handle k p d B a H rc (by omega);have k0:at_ x.Kids 0=some a:=by rw [j];rfl
     have k1:at_ x.Kids 1=some Z:=by rw [j];rfl
     rw [if_pos fd,k0,Ga,r,Ga];by_cases z:e=0
     ·obtain ⟨⟨f,g,rfl,E,N⟩,U⟩:=o z;obtain ⟨T,M,F⟩:=u.typed k p d B Z f.cd H bd (by omega);rw [if_neg (by simpa using z)];simp only [Ga];rw [k1,Ga,jo,Ga,M,Ga];exact ⟨_,T,rfl,λs=>⟨.of (by show (He f.Cb).Kind≠3;rw [Dn];exact (H.Iq _ _ E).ty (by omega)),Xa (by omega) (by omega) (by omega) (by rw [j];simpa using ⟨U,F s⟩)⟩⟩
     ·rw [if_pos z];exact ⟨_,e,rfl,λh=>absurd h z⟩
    rw [if_neg fd];by_cases c24:x.Kind=24
    ·obtain ⟨a,j,O⟩:=X (by rw [c24];rfl);obtain ⟨Wf,e,r,o⟩:=u.handle k p d B a H O (by omega);have k0:at_ x.Kids 0=some a:=by rw [j];rfl
     rw [if_pos c24,k0,Ga,r,Ga,Zj,Ga];exact ⟨_,e,rfl,λs=>⟨.of (by decide),Xa (by omega) (by omega) (by omega) (by rw [j];simpa using (o s).2)⟩⟩
    rw [if_neg c24];have L:∀ (P G:Int) (D A:List UInt8) (m i:Nat),i<=x.Kids.length->x.Kids.length<m+i->∃ e,fs (Lg n) x p d B P D G A m i=some (⟨G,A⟩,e)/\(e=0->∀ y ∈ x.Kids.drop i,Calls p k y):=by
     intro P G D A m
     induction m with
     | zero=>intro i r o; omega
     | succ m Gb =>
      intro i r o;rw [fs];by_cases c:i<x.Kids.length
      ·have:=K.le;obtain ⟨e,sa,v⟩:=u.typed k p d B x.Kids[i] ⟨P,D⟩ H (R _ (List.getElem_mem _)) (by omega);rw [if_pos (by omega),Pg,List.getElem?_eq_getElem c,Ga,sa,Ga];by_cases z:e=0
       ·rw [if_neg (by simpa using z),Hf (by omega),Ga];obtain ⟨T,M,F⟩:=Gb (i+1) c (by omega);refine ⟨T,M,λs y C=>?_⟩;rw [List.drop_eq_getElem_cons c] at C;rcases List.mem_cons.1 C with rfl | C
        ·exact v z
        ·exact F s y C
       ·rw [if_pos z];exact ⟨e,rfl,λh=>absurd h z⟩
      ·rw [if_neg (by omega),List.drop_eq_nil_of_le (by omega)];exact ⟨0,rfl,λ_=>by simp⟩
    have id:∀ (P G:Int) (D A:List UInt8),G≠3->∃ t e,lu (Lg n) x p d B P D G A=some (t,e)/\(e=0->Bk p t/\Calls p (k+1) x):=by
     intro P G D A h;obtain ⟨e,r,o⟩:=L P G D A (x.Kids.length+1) 0 (by omega) (by omega);exact ⟨_,e,r,λs=>⟨.of h,Xa (by omega) (by omega) (by omega) (by simpa using o s)⟩⟩
    rw [Ql,Ga,Ga,Zj];simp only [Ga];split
    ·exact id _ _ _ _ (by decide)
    ·split
     ·exact id _ _ _ _ (by decide)
     ·exact id _ _ _ _ (by decide)
   split
   ·rename_i h;exact wd _ (by simp [h])
   ·rename_i h;exact wd _ (by simp [h])
end
section
open Go.Bc Go.Re
theorem sk {κ β:Type}[DecidableEq κ]:∀ (m:List (κ×β)) (k k':κ) (x:β),Sa (dd m k x) k'=if k=k' then some x else Sa m k'
 | [],k,k',x=>rfl
 | (a,b)::m,k,k',x=>by
  rw [dd];by_cases c:a=k
  ·subst c;rw [if_pos rfl,Sa,Sa];by_cases d:a=k'
   ·rw [if_pos d,if_pos d]
   ·rw [if_neg d,if_neg d,if_neg d]
  ·rw [if_neg c,Sa,Sa,sk m k k' x];by_cases d:a=k'
   ·rw [if_pos d,if_pos d,if_neg λh=>c (d.trans h.symm)]
   ·rw [if_neg d,if_neg d]
def Am (p:qb):Nat->Pa->Prop
 | 0,_=>False
 | k+1,s=>(s.Kind≠6->Calls p k s.X)/\((s.Kind=3\/s.Kind=4)->∀ y ∈ s.Body,Am p k y)/\(s.Kind=3->∀ y ∈ s.kf,Am p k y)/\(s.Kind=7->∃ d,Sa p.named s.Name=some d/\d.Kind=1)
theorem gI (p:qb) (d:va) (B:se) (h:0<B.length) (a:B.length<=100):Ls p d B=some (B.take (B.length - 1)):=by
 rw [Ls,Hf (by omega),Ga,cut,if_pos (by omega),Ga,Cz];simp
structure bU (n:Nat):Prop where
 stats:∀ (k:Nat) (p:qb) (d:va) (B:se) (l:List Pa),An p d B->l.length<=50->(∀ y ∈ l,Tm k y)->B.length+k<=90->5*k+130<=n ->
  ∃ e,(Pl n).Rk p d B l=some (e,B)/\(e=0->∀ y ∈ l,Am p k y)
 stat:∀ (k:Nat) (p:qb) (d:va) (B:se) (s:Pa),An p d B->0<B.length->Tm k s->B.length+k<=91->5*k+129<=n ->
  ∃ e a,(Pl n).dn p d B s=some (e,a)/\a.length=B.length/\a.take (B.length - 1)=B.take (B.length - 1)/\Lm p a/\(e=0->Am p k s)
theorem lz (B:se) (r:Qa×Int) (b:Bool):px B r b=some (if b=true then 9 else r.2,B):=by cases b<;>rfl
theorem bS:∀ n,bU n:=by
 intro n
 induction n with
 | zero=>exact ⟨λ_ _ _ _ _ _ _ _ _ h=>by omega,λ_ _ _ _ _ _ _ _ _ h=>by omega⟩
 | succ n O =>
  refine ⟨λk p d B l H la F hB bb=>?_,λk p d B s H be F hB bb=>?_⟩
  ·show ∃ e,Rk (Pl n) p d B l=some (e,B)/\_;rw [Rk,app,if_pos (by simp;omega),Ga,mx];have L:∀ (m i:Nat) (a:se),i<=l.length->l.length<m+i->a.length=B.length+1->a.take B.length=B->Lm p a ->
     ∃ e,Ur (Pl n) l p d m i a=some (e,B)/\(e=0->∀ y ∈ l.drop i,Am p k y):=by
    intro m
    induction m with
    | zero=>intro i a j g; omega
    | succ m Gb =>
     intro i a j g v A gc;rw [Ur];have pop:∀ C:se,C.length=B.length+1->C.take B.length=B->Ls p d C=some B:=λC sa x=>by
      rw [gI p d C (by omega) (by omega),sa,Nat.add_sub_cancel,x]
     by_cases c:i<l.length
     ·obtain ⟨e,P,lc,Q,U,rc,fd⟩:=O.stat k p d a l[i] ⟨H.Iq,H.Ca,gc,by omega⟩ (by omega) (F _ (List.getElem_mem _)) (by omega) (by omega);rw [v,Nat.add_sub_cancel] at U;rw [v] at Q;have x:P.take B.length=B:=U.trans A;rw [if_pos (by omega),Pg,List.getElem?_eq_getElem c,Ga,lc,Ga];by_cases z:e=0
      ·rw [if_neg (by simpa using z),Hf (by omega),Ga];obtain ⟨id,s1,s2⟩:=Gb (i+1) P c (by omega) Q x rc;refine ⟨id,s1,λr y G=>?_⟩;rw [List.drop_eq_getElem_cons c] at G;rcases List.mem_cons.1 G with rfl | G
       ·exact fd z
       ·exact s2 r y G
      ·rw [if_pos z];simp only [];rw [pop P Q x,Ga];exact ⟨e,rfl,λh=>absurd h z⟩
     ·rw [if_neg (by omega),pop a v A,Ga,List.drop_eq_nil_of_le (by omega)];exact ⟨0,rfl,λ_=>by simp⟩
   have:=L (l.length+1) 0 (B++[[]]) (by omega) (by omega) (by simp) (by simp) (λm w k' t R=>by
    rcases List.mem_append.1 w with w | w
    ·exact H.Tc m w k' t R
    ·rw [List.mem_singleton.1 w] at R;cases R)
   simpa using this
  ·show ∃ e a,dn n (Pl n) p d B s=some (e,a)/\_;cases k with
   | zero=>cases F
   | succ k =>
   obtain ⟨k1,ce,D,V,he⟩:=F;have K:=(tK n).typed k p d B s.X;have S:=(tK n).expr k p d B s.X;have same:∀ e:Int,(e=0->Am p (k+1) s)->∀ o:Option (Int×se),o=some (e,B)->∃ e a,o=some (e,a)/\a.length=B.length/\a.take (B.length - 1)=B.take (B.length - 1)/\Lm p a/\(e=0->Am p (k+1) s):=
    λe h o md=>⟨e,B,md,rfl,rfl,H.Tc,h⟩
   have cs:s.Kind≠3->s.Kind≠4->s.Kind≠7->(s.Kind≠6->Calls p k s.X)->Am p (k+1) s:=λnd ge rd h=>⟨h,λh=>by omega,λh=>absurd h nd,λh=>absurd h rd⟩;rw [dn];by_cases gb:s.Kind=1
   ·obtain ⟨t,e,j,g⟩:=S H (D (by omega)) (by omega);rw [if_pos gb,j,Ga];by_cases z:e=0
    ·obtain ⟨cb,b,v,A⟩:=eD H.Tc H.Od n (by omega) d s.Name;rw [if_neg (by simpa using z),v,Ga];cases b with
     | true=>exact same 7 (λh=>absurd h (by decide)) _ rfl
     | false =>
      have wd:B.length - 1<B.length:=by omega
      have sa:(B.length:Int) - 1=((B.length - 1:Nat):Int):=by omega
      rw [if_neg (by simp),Hf (by omega),Ga,sa,Pg,List.getElem?_eq_getElem wd,Ga,mu];refine ⟨0,_,rfl,by simp,?_,λm w k' u E=>?_,λ_=>cs (by omega) (by omega) (by omega) λ_=>(g z).2⟩
      ·simp [List.take_set_of_le]
      ·rcases List.mem_or_eq_of_mem_set w with w | rfl
       ·exact H.Tc m w k' u E
       ·rw [sk] at E;split at E
        ·obtain rfl:=Option.some.inj E;exact (g z).1
        ·exact H.Tc _ (List.getElem_mem _) k' u E
    ·rw [if_pos z];exact same e (λh=>absurd h z) _ rfl
   rw [if_neg gb];by_cases c2:s.Kind=2
   ·obtain ⟨cb,b,v,A⟩:=eD H.Tc H.Od n (by omega) d s.Name;rw [if_pos c2,v,Ga];cases b with
    | false=>exact same 7 (λh=>absurd h (by decide)) _ rfl
    | true =>
     obtain ⟨e,j,g⟩:=K cb H (D (by omega)) (by omega);rw [if_pos rfl,j,Ga];exact same e (λr=>cs (by omega) (by omega) (by omega) λ_=>g r) _ rfl
   rw [if_neg c2];have W:∀ b,(b=true ↔ s.Kind=3\/s.Kind=4)->∃ e a,js n (Pl n) s p d B b=some (e,a)/\a.length=B.length/\a.take (B.length - 1)=B.take (B.length - 1)/\Lm p a/\(e=0->Am p (k+1) s):=by
    intro b T;rw [js];by_cases q:b=true
    ·have c:=T.1 q;obtain ⟨e,j,g⟩:=K ⟨2,[]⟩ H (D (by omega)) (by omega);rw [if_pos q,Zj,Ga,j,Ga];by_cases z:e=0
     ·rw [if_neg (by simpa using z)];obtain ⟨x,v,A⟩:=O.stats k p d B s.Body H (V c).1 (V c).2 (by omega) (by omega);rw [v,Ga];by_cases z2:x=0
      ·rw [if_neg (by simpa using z2)];by_cases c4:s.Kind=4
       ·rw [decide_eq_true c4];exact same x (λ_=>⟨λ_=>g z,λ_=>A z2,λh=>by omega,λh=>by omega⟩) _ rfl
       ·have Y:s.Kind=3:=by omega
        obtain ⟨Fd,f1,f2⟩:=O.stats k p d B s.kf H (he Y).1 (he Y).2 (by omega) (by omega);rw [decide_eq_false c4,vv,if_neg (by decide)];simp only [];rw [f1,Ga];exact same Fd (λr=>⟨λ_=>g z,λ_=>A z2,λ_=>f2 r,λh=>by omega⟩) _ rfl
      ·rw [if_pos z2];exact same x (λh=>absurd h z2) _ rfl
     ·rw [if_pos z];exact same e (λh=>absurd h z) _ rfl
    rw [if_neg q];have M:s.Kind≠3:=λh=>q (T.2 (.inl h));have N:s.Kind≠4:=λh=>q (T.2 (.inr h));by_cases c5:s.Kind=5
    ·rw [if_pos c5];split
     ·exact same 8 (λh=>absurd h (by decide)) _ rfl
     ·obtain ⟨e,j,g⟩:=K d.Cb H (D (by omega)) (by omega);rw [j,Ga];exact same e (λr=>cs M N (by omega) λ_=>g r) _ rfl
    rw [if_neg c5];by_cases Uc:s.Kind=6
    ·rw [if_pos Uc];split
     ·exact same 8 (λh=>absurd h (by decide)) _ rfl
     ·exact same 0 (λr=>cs M N (by omega) λh=>absurd Uc h) _ rfl
    rw [if_neg Uc];by_cases ng:s.Kind=7
    ·rw [if_pos ng,ou,Ga];by_cases c:Cp (Sa p.named s.Name) 1=true
     ·obtain ⟨f,Z,Id⟩:=Mu c;obtain ⟨e,j,g⟩:=K f.Cb H (D (by omega)) (by omega);rw [if_pos c,Z];simp only [Ga];rw [j,Ga];exact same e (λr=>⟨λ_=>g r,λh=>by omega,λh=>by omega,λ_=>⟨f,Z,Id⟩⟩) _ rfl
     ·rw [if_neg c];exact same 7 (λh=>absurd h (by decide)) _ rfl
    rw [if_neg ng];by_cases Lf:s.Kind=8
    ·obtain ⟨t,e,j,g⟩:=S H (D (by omega)) (by omega);rw [if_pos Lf,j,Ga];by_cases z:e=0
     ·rw [if_pos z,Qo,Ga,lz];exact same _ (λ_=>cs M N (by omega) λ_=>(g z).2) _ rfl
     ·rw [if_neg z,lz];exact same e (λh=>absurd h z) _ rfl
    rw [if_neg Lf];by_cases c9:s.Kind=9
    ·obtain ⟨t,e,j,g⟩:=S H (D (by omega)) (by omega);rw [if_pos c9,j,Ga];exact same e (λr=>cs M N (by omega) λ_=>(g r).2) _ rfl
    ·omega
   split
   ·rename_i h;exact W _ (by simp [h])
   ·rename_i h;exact W _ (by simp [h])
theorem ON (p:qb) (t:Qa):∃ e,Qx p t=some e/\(e=0->Bk p t):=by
 rw [Qx,Qo,Ga];by_cases c:t.Kind≠3
 ·rw [if_pos (decide_eq_true c)];exact ⟨0,rfl,λ_=>.of c⟩
 ·rw [if_neg (by simpa using c),ou,Ga];by_cases q:Cp (Sa p.named t.xc) 3=true
  ·rw [if_pos q];exact ⟨0,rfl,λ_ _=>Mu q⟩
  ·rw [if_neg q];exact ⟨7,rfl,λh=>absurd h (by decide)⟩
theorem TM (p:qb) (d:va) (Ca:Ut d):∃ e,Rv p d=some e/\(e=0->vo p d):=by
 have f:∀ b,ks b=some (if b=true then 9 else 0):=λb=>by cases b<;>rfl
 have o:(d.Kind=2\/d.Kind=3->∀ q ∈ d.Params,Bk p q.Cb)->∃ e,wv d=some e/\(e=0->vo p d):=by
  intro g;rw [wv];have j:d.Kind=2\/d.Kind=3->d.Params.length<=6:=λh=>(Ca.zg h).1;by_cases c3:d.Kind=3
  ·rw [if_pos c3,Qo,Ga];by_cases q:d.cd.Kind≠3
   ·rw [if_pos (decide_eq_true q),if_pos (by omega),Qo,Ga,f];refine ⟨_,rfl,λl=>⟨λ_ h=>?_,λ_=>q,g,j⟩⟩;simp [h] at l
   ·rw [if_neg (by simpa using q),f];exact ⟨9,rfl,λh=>absurd h (by decide)⟩
  ·rw [if_neg c3];by_cases c4:d.Kind=4
   ·rw [if_neg (by simpa using c4),f];exact ⟨0,rfl,λ_=>⟨λh=>absurd c4 h,λh=>absurd h c3,g,j⟩⟩
   ·rw [if_pos c4,Qo,Ga,f];refine ⟨_,rfl,λl=>⟨λ_ h=>?_,λh=>absurd h c3,g,j⟩⟩;simp [h] at l
 have r:∀ b,(b=true ↔ d.Kind=2\/d.Kind=3)->∃ e,yv p d b=some e/\(e=0->vo p d):=by
  intro b s;rw [yv];by_cases q:b=true
  ·rw [if_pos q];have C:=Ca.zg (s.1 q);have L:∀ (m i:Nat) (S:List (List UInt8×Int)),i<=d.Params.length->d.Params.length<m+i->(∀ k c,Sa S k=some c->0<=c/\c<=1)->(∀ q ∈ d.Params.take i,Bk p q.Cb)->∃ e,xv p d m i S=some e/\(e=0->vo p d):=by
    intro m
    induction m with
    | zero=>intro i S u x; omega
    | succ m A =>
     intro i S u x t n;rw [xv];by_cases c:i<d.Params.length
     ·have D:0<=(Sa S d.Params[i].Name).getD 0/\(Sa S d.Params[i].Name).getD 0<=1:=by
       cases h:Sa S d.Params[i].Name with
       | none=>decide
       | some v=>exact t _ _ h
      rw [if_pos (by omega),Pg,List.getElem?_eq_getElem c,Ga,Hf (by omega),Ga,sk,if_pos rfl];simp only [Option.getD_some];by_cases w:(1:Int)<(Sa S d.Params[i].Name).getD 0+1
      ·rw [if_pos w];exact ⟨7,rfl,λh=>absurd h (by decide)⟩
      ·obtain ⟨e,sa,B⟩:=ON p d.Params[i].Cb;rw [if_neg w,sa,Ga];by_cases z:e=0
       ·rw [if_neg (by simpa using z),Hf (by omega),Ga];refine A (i+1) _ c (by omega) (λk v Oa=>?_) λy a=>?_
        ·rw [sk] at Oa;split at Oa
         ·obtain rfl:=Option.some.inj Oa;omega
         ·exact t _ _ Oa
        ·rw [List.take_succ_eq_append_getElem c] at a;rcases List.mem_append.1 a with a | a
         ·exact n y a
         ·rw [List.mem_singleton.1 a];exact B z
       ·rw [if_pos z];exact ⟨e,rfl,λh=>absurd h z⟩
     ·rw [if_neg (by omega)];rw [List.take_of_length_le (by omega)] at n;exact o λ_=>n
   exact L (d.Params.length+1) 0 [] (by omega) (by omega) (λk c h=>by cases h) (by simp)
  ·rw [if_neg q];exact o λh=>absurd (s.2 h) q
 rw [Rv];split
 ·rename_i h;exact r _ (by simp [h])
 ·rename_i h;exact r _ (by simp [h])
theorem UM (fu:Nat) (C:500<=fu) (p:qb) (d:va) (s:ZG p) (b:vo p d) (Ca:Ut d):∃ e,ar fu p d=some e/\(e=0->d.Kind≠1->∀ y ∈ d.Body,Am p 39 y):=by
 rw [ar];by_cases gb:d.Kind=1
 ·rw [if_pos gb];exact ⟨0,rfl,λ_ h=>absurd gb h⟩
 ·rw [if_neg gb];have n:∀ B:se,B.length=1->Lm p B->∃ e,ns fu p d B=some e/\(e=0->d.Kind≠1->∀ y ∈ d.Body,Am p 39 y):=by
   intro B o f;obtain ⟨e,u,v⟩:=(bS fu).stats 39 p d B d.Body ⟨s,b,f,by omega⟩ (Ca.Od gb) (Ca.dx gb) (by omega) (by omega);rw [ns,u,Ga];exact ⟨e,rfl,λw _=>v w⟩
  by_cases c4:d.Kind=4
  ·rw [if_neg (by simpa using c4)];exact n _ rfl (λm g k t a=>by rw [List.mem_singleton.1 g] at a;cases a)
  ·rw [if_pos c4];have q:d.Kind=2\/d.Kind=3:=by have:=Ca.k1;have:=Ca.Xe;omega
   have D:=b.pl q;have L:∀ (m i:Nat) (B:se),i<=d.Params.length->d.Params.length<m+i->B.length=1->Lm p B->∃ e,Tq fu p d m i B=some e/\(e=0->d.Kind≠1->∀ y ∈ d.Body,Am p 39 y):=by
    intro m
    induction m with
    | zero=>intro i B o f; omega
    | succ m x =>
     intro i B o f r j;rw [Tq];by_cases c:i<d.Params.length
     ·have z:0<B.length:=by omega
      rw [if_pos (by omega),Pg,List.getElem?_eq_getElem c,Ga,AG z,Ga,jo,Ga,qx,Hf (by omega),Ga];refine x (i+1) _ c (by omega) (by simpa using r) λA l k t a=>?_;rcases List.mem_or_eq_of_mem_set l with l | rfl
      ·exact j A l k t a
      ·rw [sk] at a;split at a
       ·obtain rfl:=Option.some.inj a;exact (b.zg q _<|List.getElem_mem _).bare
       ·exact j _ (List.getElem_mem _) k t a
     ·rw [if_neg (by omega)];exact n B r j
   exact L (d.Params.length+1) 0 _ (by omega) (by omega) rfl (λm g k t a=>by rw [List.mem_singleton.1 g] at a;cases a)
structure yo (p:qb) (l:List va):Prop where
 ok:NG l
 hc:∀ d ∈ l,Sa p.named d.Name=some d
 only:∀ k d,Sa p.named k=some d->d ∈ l/\d.Name=k
 nd:l.Pairwise λa b=>a.Name≠b.Name
 Gl:∃ d ∈ l,d.Kind=4
 Ca:∀ d ∈ l,vo p d
 cs:∀ d ∈ l,d.Kind≠1->∀ y ∈ d.Body,Am p 39 y
theorem rH (fu:Nat) (D:500<=fu) (l:List va):∃ p f,Fs fu l=some (p,f)/\(f.Te=0->yo p l):=by
 obtain ⟨f,j,n⟩:=dD fu (by omega) l;rw [Fs,j,Ga];by_cases z:f.Te=0
 ·obtain ⟨-,ok⟩:=n z;have la:=ok.le;rw [if_neg (by simpa using z)];have E:∀ (N:List (List UInt8×va)),(∀ d ∈ l,Sa N d.Name=some d)->(∀ k d,Sa N k=some d->d ∈ l/\d.Name=k)->l.Pairwise (λa b=>a.Name≠b.Name)->(∃ d ∈ l,d.Kind=4)->(∀ d ∈ l,vo ⟨l,N⟩ d) ->
    ∀ (m i:Nat),i<=l.length->l.length<m+i->(∀ d ∈ l.take i,d.Kind≠1->∀ y ∈ d.Body,Am ⟨l,N⟩ 39 y)->∃ p f,Qq fu l N m i=some (p,f)/\(f.Te=0->yo p l):=by
   intro N ld ao Zw ax bx m
   induction m with
   | zero=>intro i j n; omega
   | succ m o =>
    intro i j n g;rw [Qq];by_cases c:i<l.length
    ·obtain ⟨e,sa,r⟩:=UM fu D ⟨l,N⟩ l[i] (λk d Ca=>bx d (ao k d Ca).1) (bx _ (List.getElem_mem _)) (ok.ok _ (List.getElem_mem _));rw [if_pos (by omega),Pg,List.getElem?_eq_getElem c,Ga,sa,Ga];by_cases z:e=0
     ·rw [if_neg (by simpa using z),Hf (by omega),Ga];refine o (i+1) c (by omega) λd Ca=>?_;rw [List.take_succ_eq_append_getElem c] at Ca;rcases List.mem_append.1 Ca with Ca | Ca
      ·exact g d Ca
      ·rw [List.mem_singleton.1 Ca];exact r z
     ·rw [if_pos z];exact ⟨_,_,rfl,λh=>absurd h z⟩
    ·rw [if_neg (by omega)];rw [List.take_of_length_le (by omega)] at g;exact ⟨_,_,rfl,λ_=>⟨ok,ld,ao,Zw,ax,bx,g⟩⟩
  have F:∀ (N:List (List UInt8×va)),(∀ d ∈ l,Sa N d.Name=some d)->(∀ k d,Sa N k=some d->d ∈ l/\d.Name=k)->l.Pairwise (λa b=>a.Name≠b.Name)->(∃ d ∈ l,d.Kind=4) ->
    ∀ (m i:Nat),i<=l.length->l.length<m+i->(∀ d ∈ l.take i,vo ⟨l,N⟩ d)->∃ p f,Rq fu l N m i=some (p,f)/\(f.Te=0->yo p l):=by
   intro N ld ao Zw ax m
   induction m with
   | zero=>intro i j n; omega
   | succ m o =>
    intro i j n g;rw [Rq];by_cases c:i<l.length
    ·obtain ⟨e,sa,r⟩:=TM ⟨l,N⟩ l[i] (ok.ok _ (List.getElem_mem _));rw [if_pos (by omega),Pg,List.getElem?_eq_getElem c,Ga,sa,Ga];by_cases z:e=0
     ·rw [if_neg (by simpa using z),Hf (by omega),Ga];refine o (i+1) c (by omega) λd Ca=>?_;rw [List.take_succ_eq_append_getElem c] at Ca;rcases List.mem_append.1 Ca with Ca | Ca
      ·exact g d Ca
      ·rw [List.mem_singleton.1 Ca];exact r z
     ·rw [if_pos z];exact ⟨_,_,rfl,λh=>absurd h z⟩
    ·rw [if_neg (by omega)];rw [List.take_of_length_le (by omega)] at g;exact E N ld ao Zw ax g (l.length+1) 0 (by omega) (by omega) (by simp)
  have G:∀ (m i:Nat) (t:Int) (N:List (List UInt8×va)),i<=l.length->l.length<m+i->0<=t->t<=i->(t≠0->∃ d ∈ l,d.Kind=4)->(∀ d ∈ l.take i,Sa N d.Name=some d)->(∀ k d,Sa N k=some d->d ∈ l.take i/\d.Name=k)->(l.take i).Pairwise (λa b=>a.Name≠b.Name) ->
    ∃ p f,Sq fu l m t i N=some (p,f)/\(f.Te=0->yo p l):=by
   intro m
   induction m with
   | zero=>intro i t N j n; omega
   | succ m o =>
    intro i t N j n H R x q s u;rw [Sq];by_cases c:i<l.length
    ·have lb:at_ l (i:Int)=some l[i]:=by rw [Pg,List.getElem?_eq_getElem c]
     rw [if_pos (by omega),lb,Ga];cases h:Sa N l[i].Name with
     | some v=>rw [if_pos (by simp)]; exact ⟨_,_,rfl,λh=>absurd h (by decide:(7:Int)≠0)⟩
     | none =>
      rw [if_neg (by simp)];simp only [Ga];have K:l[i] ∈ l:=List.getElem_mem _;have Gl:=List.take_succ_eq_append_getElem c;have Gq:∀ d ∈ l.take i,d.Name≠l[i].Name:=λd Ca w=>by
       have:=q d Ca;rw [w,h] at this;cases this
      have A:∀ d ∈ l.take (i+1),Sa (dd N l[i].Name l[i]) d.Name=some d:=by
       intro d Ca;rw [Gl] at Ca;rw [sk];rcases List.mem_append.1 Ca with Ca | Ca
       ·rw [if_neg λw=>Gq d Ca w.symm];exact q d Ca
       ·rw [List.mem_singleton.1 Ca,if_pos rfl]
      have B:∀ k d,Sa (dd N l[i].Name l[i]) k=some d->d ∈ l.take (i+1)/\d.Name=k:=by
       intro k d Ca;rw [sk] at Ca;rw [Gl];split at Ca
       ·rename_i L;obtain rfl:=Option.some.inj Ca;exact ⟨List.mem_append.2<|.inr<|List.mem_singleton.2 rfl,L⟩
       ·obtain ⟨M,O⟩:=s k d Ca;exact ⟨List.mem_append.2<|.inl M,O⟩
      have C:(l.take (i+1)).Pairwise (λa b=>a.Name≠b.Name):=by
       rw [Gl,List.pairwise_append];refine ⟨u,List.pairwise_singleton _ _,λa P b Q=>?_⟩;rw [List.mem_singleton.1 Q];exact Gq a P
      by_cases Xe:l[i].Kind=4
      ·rw [if_pos Xe,Hf (by omega),Ga,Hf (by omega),Ga];exact o (i+1) (t+1) _ c (by omega) (by omega) (by omega) (λ_=>⟨_,K,Xe⟩) A B C
      ·rw [if_neg Xe,Hf (by omega),Ga];exact o (i+1) t _ c (by omega) H (by omega) x A B C
    ·rw [if_neg (by omega)];rw [List.take_of_length_le (by omega)] at q s u;by_cases t0:t=0
     ·rw [if_pos t0];exact ⟨_,_,rfl,λh=>absurd h (by decide:(6:Int)≠0)⟩
     ·rw [if_neg t0];exact F N q s u (x t0) (l.length+1) 0 (by omega) (by omega) (by simp)
  exact G (l.length+1) 0 0 [] (by omega) (by omega) (by omega) (by omega) (λh=>absurd rfl h) (by simp) (λk d h=>by cases h) (by simp)
 ·rw [if_pos z];exact ⟨_,_,rfl,λh=>absurd h z⟩
end
section
open Go.Bc Go.Re
abbrev Nm:=List UInt8
def Qk:Nat->Na->List Nm
 | 0,_=>[]
 | k+1,x=>(if x.Kind=19\/x.Kind=22 then [x.Name] else [])++(x.Kids.map (Qk k)).flatten
def Hl:Nat->Na->List Nm
 | 0,_=>[]
 | k+1,x=>(if x.Kind=20 then [x.Name] else [])++(x.Kids.map (Hl k)).flatten
def wj:Nat->Pa->List Nm
 | 0,_=>[]
 | k+1,s=>(if s.Kind=6 then [] else Qk k s.X)++(if s.Kind=3\/s.Kind=4 then (s.Body.map (wj k)).flatten else [])++(if s.Kind=3 then (s.kf.map (wj k)).flatten else [])
def Wj:Nat->Pa->List Nm
 | 0,_=>[]
 | k+1,s=>(if s.Kind=6 then [] else Hl k s.X)++(if s.Kind=3\/s.Kind=4 then (s.Body.map (Wj k)).flatten else [])++(if s.Kind=3 then (s.kf.map (Wj k)).flatten else [])
def Xj:Nat->Pa->List Nm
 | 0,_=>[]
 | k+1,s=>(if s.Kind=7 then [s.Name] else [])++(if s.Kind=3\/s.Kind=4 then (s.Body.map (Xj k)).flatten else [])++(if s.Kind=3 then (s.kf.map (Xj k)).flatten else [])
theorem wm {α β:Type}(f:α->List β) (g:α->Nat) (h:∀ x,(f x).length<=g x):∀ l:List α,(l.map f).flatten.length<=(l.map g).sum
 | []=>by simp
 | x::l=>by
  have:=wm f g h l;have:=h x;simp only [List.map_cons,List.flatten_cons,List.length_append,List.sum_cons];omega
theorem uK {α:Type}(g:α->Nat):∀ (l:List α) (x:α),x ∈ l->g x<=(l.map g).sum
 | y::l,x,h=>by
  rw [List.map_cons,List.sum_cons];rcases List.mem_cons.1 h with rfl | h
  ·omega
  ·have:=uK g l x h;omega
theorem pB:∀ (k:Nat) (x:Na),(Qk k x).length<=rk k x
 | 0,x=>by simp [Qk]
 | k+1,x=>by
  have:=wm (Qk k) (rk k) (pB k) x.Kids;rw [Qk,rk,List.length_append];split<;>simp only [List.length_cons,List.length_nil]<;>omega
theorem qB:∀ (k:Nat) (x:Na),(Hl k x).length<=rk k x
 | 0,x=>by simp [Hl]
 | k+1,x=>by
  have:=wm (Hl k) (rk k) (qB k) x.Kids;rw [Hl,rk,List.length_append];split<;>simp only [List.length_cons,List.length_nil]<;>omega
theorem xy:∀ (k:Nat) (x:Pa),(wj k x).length<=dh k x
 | 0,x=>by simp [wj]
 | k+1,x=>by
  have:=wm (wj k) (dh k) (xy k) x.Body;have:=wm (wj k) (dh k) (xy k) x.kf;have:=pB k x.X;rw [wj,dh,List.length_append,List.length_append];split<;>split<;>split<;>(try simp only [List.length_nil])<;>omega
theorem yy:∀ (k:Nat) (x:Pa),(Wj k x).length<=dh k x
 | 0,x=>by simp [Wj]
 | k+1,x=>by
  have:=wm (Wj k) (dh k) (yy k) x.Body;have:=wm (Wj k) (dh k) (yy k) x.kf;have:=qB k x.X;rw [Wj,dh,List.length_append,List.length_append];split<;>split<;>split<;>(try simp only [List.length_nil])<;>omega
theorem zy:∀ (k:Nat) (x:Pa),(Xj k x).length<=dh k x
 | 0,x=>by simp [Xj]
 | k+1,x=>by
  have:=wm (Xj k) (dh k) (zy k) x.Body;have:=wm (Xj k) (dh k) (zy k) x.kf;rw [Xj,dh,List.length_append,List.length_append];by_cases a:x.Kind=7
  ·rw [if_pos a,if_neg (by omega),if_neg (by omega),if_neg (by omega),if_neg (by omega),if_neg (by omega)];simp
  ·rw [if_neg a];split<;>split<;>split<;>(try simp only [List.length_nil])<;>omega
theorem et {α:Type}{l xs:List α}(h:l.length+xs.length<=4294967296):app l xs=some (l++xs):=if_pos h
theorem VM:∀ (n k:Nat) (x:Na) (c s r:List Nm),k<=n->Ji k x->c.length+rk k x<=1000000->r.length+rk k x<=1000000->(Js n).En c s r x=some (c++Qk k x,s,r++Hl k x):=by
 intro n
 induction n with
 | zero =>
  intro k x c s r e a;obtain rfl:k=0:=by omega
  cases a
 | succ n p =>
  intro k x c s r e a t u;cases k with
  | zero=>cases a
  | succ k =>
  obtain ⟨k1,B,v,w⟩:=a;show En (Js n) c s r x=_;have L:∀ (m i:Nat) (c r:List Nm),i<=x.Kids.length->x.Kids.length<m+i->c.length+((x.Kids.drop i).map (rk k)).sum<=1000000->r.length+((x.Kids.drop i).map (rk k)).sum<=1000000 ->
    zv (Js n) x m i c s r=some (c++((x.Kids.drop i).map (Qk k)).flatten,s,r++((x.Kids.drop i).map (Hl k)).flatten):=by
   intro m
   induction m with
   | zero=>intro i c r e a; omega
   | succ m y =>
    intro i c r f g z A;rw [zv];have la:=v.le;by_cases q:i<x.Kids.length
    ·rw [List.drop_eq_getElem_cons q,List.map_cons,List.sum_cons] at z A;have ka:=pB k x.Kids[i];have jd:=qB k x.Kids[i];rw [if_pos (by omega),Pg,List.getElem?_eq_getElem q,Ga,p k x.Kids[i] c s r (by omega) (w _ (List.getElem_mem _)) (by omega) (by omega),Ga,Hf (by omega),Ga];refine (y (i+1) _ _ q (by omega) (by simp only [List.length_append];omega) (by simp only [List.length_append];omega)).trans ?_;rw [List.drop_eq_getElem_cons q];simp only [List.map_cons,List.flatten_cons,List.append_assoc]
    ·rw [if_neg (by omega),List.drop_eq_nil_of_le (by omega)];simp
  have d:∀ c r:List Nm,c.length+(x.Kids.map (rk k)).sum<=1000000->r.length+(x.Kids.map (rk k)).sum<=1000000->nu (Js n) x s c r=some (c++(x.Kids.map (Qk k)).flatten,s,r++(x.Kids.map (Hl k)).flatten):=by
   intro c r f g;have:=L (x.Kids.length+1) 0 c r (by omega) (by omega) (by simpa using f) (by simpa using g);simpa [nu] using this
  rw [rk] at t u;have j:∀ b,(b=true ↔ x.Kind=19\/x.Kind=22)->Av (Js n) c x s r b=some (c++Qk (k+1) x,s,r++Hl (k+1) x):=by
   intro b l;rw [Av,Qk,Hl];by_cases q:b=true
   ·have:=l.1 q;rw [if_pos q,et (by simp;omega),Ga,uz,d _ _ (by simp;omega) (by omega),if_pos this,if_neg (by omega)];simp
   ·rw [if_neg q];have o:¬ (x.Kind=19\/x.Kind=22):=λh=>q (l.2 h);by_cases c20:x.Kind=20
    ·rw [if_pos c20,et (by simp;omega),Ga,vz,d _ _ (by omega) (by simp;omega),if_neg o,if_pos c20];simp
    ·rw [if_neg c20,d _ _ (by omega) (by omega),if_neg o,if_neg c20];simp
  rw [En];split
  ·rename_i h;exact j _ (by simp [h])
  ·rename_i h;exact j _ (by simp [h])
theorem vM:∀ (n k:Nat) (l:List Pa) (c s r:List Nm),k+1<=n->l.length<=50->(∀ y ∈ l,Tm k y)->c.length+(l.map (dh k)).sum<=1000000->s.length+(l.map (dh k)).sum<=1000000->r.length+(l.map (dh k)).sum<=1000000 ->
  (um n).Nl c s r l=some (c++(l.map (wj k)).flatten,s++(l.map (Xj k)).flatten,r++(l.map (Wj k)).flatten):=by
 intro n
 induction n with
 | zero=>intro k l c s r u; omega
 | succ n v =>
  intro k l c s r u la E f F G;show Nl n (um n) c s r l=_;have L:∀ (m i:Nat) (c s r:List Nm),i<=l.length->l.length<m+i->c.length+((l.drop i).map (dh k)).sum<=1000000->s.length+((l.drop i).map (dh k)).sum<=1000000->r.length+((l.drop i).map (dh k)).sum<=1000000 ->
    Jl n (um n) l m i c s r=some (c++((l.drop i).map (wj k)).flatten,s++((l.drop i).map (Xj k)).flatten,r++((l.drop i).map (Wj k)).flatten):=by
   intro m
   induction m with
   | zero=>intro i c s r u N; omega
   | succ m H =>
    intro i c s r O P g j o;rw [Jl];by_cases q:i<l.length
    ·rw [List.drop_eq_getElem_cons q,List.map_cons,List.sum_cons] at g j o;rw [if_pos (by omega),Pg,List.getElem?_eq_getElem q,Ga];have w:=E _ (List.getElem_mem q);have ka:=xy k l[i];have jd:=zy k l[i];have Ua:=yy k l[i];have Rh:=λc' Ib r' (sa:c'=c++wj k l[i]) (a:Ib=s++Xj k l[i]) (d:r'=r++Wj k l[i]) =>
      (H (i+1) c' Ib r' q (by omega) (by rw [sa,List.length_append];omega) (by rw [a,List.length_append];omega) (by rw [d,List.length_append];omega)).trans
       (show _=some (c++((l.drop i).map (wj k)).flatten,s++((l.drop i).map (Xj k)).flatten,r++((l.drop i).map (Wj k)).flatten) by
        rw [List.drop_eq_getElem_cons q,sa,a,d];simp only [List.map_cons,List.flatten_cons,List.append_assoc])
     generalize l[i]=y at *;cases k with
     | zero=>cases w
     | succ k =>
     obtain ⟨k1,Q,K,x,z⟩:=w;rw [dh] at g j o;rw [wj] at ka Rh;rw [Xj] at jd Rh;rw [Wj] at Ua Rh;have A:∀ c' Ib r',(y.Kind=3->c'.length+(y.kf.map (dh k)).sum<=1000000/\Ib.length+(y.kf.map (dh k)).sum<=1000000/\r'.length+(y.kf.map (dh k)).sum<=1000000) ->
       c'=c++((if y.Kind=6 then [] else Qk k y.X)++(if y.Kind=3\/y.Kind=4 then (y.Body.map (wj k)).flatten else []))->Ib=s++((if y.Kind=7 then [y.Name] else [])++(if y.Kind=3\/y.Kind=4 then (y.Body.map (Xj k)).flatten else [])) ->
       r'=r++((if y.Kind=6 then [] else Hl k y.X)++(if y.Kind=3\/y.Kind=4 then (y.Body.map (Wj k)).flatten else [])) ->
       rv (um n) i y (Jl n (um n) l m) c' Ib r'=some (c++((l.drop i).map (wj (k+1))).flatten,s++((l.drop i).map (Xj (k+1))).flatten,r++((l.drop i).map (Wj (k+1))).flatten):=by
      intro c' Ib r' p sa a d;rw [rv];by_cases c3:y.Kind=3
      ·obtain ⟨M,z2,z3⟩:=p c3;rw [if_pos c3,v k y.kf c' Ib r' (by omega) (z c3).1 (z c3).2 M z2 z3,Ga,Hf (by omega),Ga];refine Rh _ _ _ ?_ ?_ ?_
       ·rw [sa];simp only [if_pos c3,List.append_assoc]
       ·rw [a];simp only [if_pos c3,List.append_assoc]
       ·rw [d];simp only [if_pos c3,List.append_assoc]
      ·rw [if_neg c3,Hf (by omega),Ga];refine Rh _ _ _ ?_ ?_ ?_
       ·rw [sa];simp only [if_neg c3,List.append_nil]
       ·rw [a];simp only [if_neg c3,List.append_nil]
       ·rw [d];simp only [if_neg c3,List.append_nil]
     have B:∀ c' Ib r' b,(b=true ↔ y.Kind=3\/y.Kind=4)->c'=c++(if y.Kind=6 then [] else Qk k y.X)->Ib=s++(if y.Kind=7 then [y.Name] else [])->r'=r++(if y.Kind=6 then [] else Hl k y.X) ->
       sv (um n) i y c' Ib r' (Jl n (um n) l m) b=some (c++((l.drop i).map (wj (k+1))).flatten,s++((l.drop i).map (Xj (k+1))).flatten,r++((l.drop i).map (Wj (k+1))).flatten):=by
      intro c' Ib r' b p sa a d;rw [sv];have R:=pB k y.X;have S:=qB k y.X;have T:=wm (wj k) (dh k) (xy k) y.Body;have U:=wm (Xj k) (dh k) (zy k) y.Body;have V:=wm (Wj k) (dh k) (yy k) y.Body;by_cases q:b=true
      ·have e:=p.1 q;rw [if_neg (show y.Kind≠6 by omega),if_pos e] at g j o;rw [if_neg (show y.Kind≠6 by omega)] at sa d;rw [if_neg (show y.Kind≠7 by omega)] at a;have W:c'.length=c.length+(Qk k y.X).length:=by rw [sa,List.length_append]
       have Y:Ib.length=s.length:=by rw [a];simp
       have Z:r'.length=r.length+(Hl k y.X).length:=by rw [d,List.length_append]
       rw [if_pos q,v k y.Body c' Ib r' (by omega) (x e).1 (x e).2 (by omega) (by omega) (by omega),Ga];refine A _ _ _ (λf=>?_) ?_ ?_ ?_
       ·rw [if_pos f] at g j o;simp only [List.length_append];omega
       ·rw [sa,if_neg (show y.Kind≠6 by omega),if_pos e,List.append_assoc]
       ·rw [a,if_neg (show y.Kind≠7 by omega),if_pos e,List.append_assoc]
       ·rw [d,if_neg (show y.Kind≠6 by omega),if_pos e,List.append_assoc]
      ·have t:¬ (y.Kind=3\/y.Kind=4):=λh=>q (p.2 h);rw [if_neg q];refine A _ _ _ (λf=>absurd (.inl f) t) ?_ ?_ ?_
       ·rw [sa,if_neg t,List.append_nil]
       ·rw [a,if_neg t,List.append_nil]
       ·rw [d,if_neg t,List.append_nil]
     have C:∀ Ib,Ib=s++(if y.Kind=7 then [y.Name] else [])->uv n (um n) i c r y (Jl n (um n) l m) Ib=some (c++((l.drop i).map (wj (k+1))).flatten,s++((l.drop i).map (Xj (k+1))).flatten,r++((l.drop i).map (Wj (k+1))).flatten):=by
      intro Ib a;have D:∀ c' r',c'=c++(if y.Kind=6 then [] else Qk k y.X)->r'=r++(if y.Kind=6 then [] else Hl k y.X)->tv (um n) i y (Jl n (um n) l m) c' Ib r'=some (c++((l.drop i).map (wj (k+1))).flatten,s++((l.drop i).map (Xj (k+1))).flatten,r++((l.drop i).map (Wj (k+1))).flatten):=by
       intro c' r' sa d;rw [tv];split
       ·rename_i h;exact B _ _ _ _ (by simp [h]) sa a d
       ·rename_i h;exact B _ _ _ _ (by simp [h]) sa a d
      rw [uv];by_cases Uc:y.Kind=6
      ·rw [if_neg (by simpa using Uc)];exact D _ _ (by rw [if_pos Uc,List.append_nil]) (by rw [if_pos Uc,List.append_nil])
      ·rw [if_neg Uc] at g j o;rw [if_pos Uc,VM n k y.X c Ib r (by omega) (K Uc) (by omega) (by omega),Ga];exact D _ _ (by rw [if_neg Uc]) (by rw [if_neg Uc])
     by_cases ng:y.Kind=7
     ·rw [if_pos ng,et (by simp;omega),Ga,nz];exact C _ (by rw [if_pos ng])
     ·rw [if_neg ng];exact C _ (by rw [if_neg ng,List.append_nil])
    ·rw [if_neg (by omega),List.drop_eq_nil_of_le (by omega)];simp
  rw [Nl];have:=L (l.length+1) 0 c s r (by omega) (by omega) (by simpa using f) (by simpa using F) (by simpa using G);simpa using this
end
section
open Go.Bc Go.Re
theorem DA {α β:Type}{f:α->List β}{l:List α}{b:β}(h:b ∈ (l.map f).flatten):∃ a ∈ l,b ∈ f a:=by
 obtain ⟨q,c,d⟩:=List.mem_flatten.1 h;obtain ⟨a,e,rfl⟩:=List.mem_map.1 c;exact ⟨a,e,d⟩
theorem MA {β:Type}{c:Prop}[Decidable c]{l m:List β}{b:β}(h:b ∈ (if c then l else m)):(c/\b ∈ l)\/(¬ c/\b ∈ m):=by
 by_cases q:c
 ·rw [if_pos q] at h;exact .inl ⟨q,h⟩
 ·rw [if_neg q] at h;exact .inr ⟨q,h⟩
theorem HJ {p:qb}:∀ (k:Nat) (x:Na),Calls p k x->∀ c ∈ Qk k x,∃ d,Sa p.named c=some d/\(d.Kind=2\/d.Kind=3)
 | 0,x,h=>by cases h
 | k+1,x,h=>by
  obtain ⟨f,g,m,i⟩:=h;intro c b;rw [Qk] at b;rcases List.mem_append.1 b with b | b
  ·rcases MA b with ⟨q,b⟩ | ⟨q,b⟩
   ·rw [List.mem_singleton.1 b];rcases q with q | q
    ·obtain ⟨d,sa,e⟩:=f q;exact ⟨d,sa,.inl e⟩
    ·obtain ⟨d,sa,e⟩:=g q;exact ⟨d,sa,.inr e⟩
   ·cases b
  ·obtain ⟨a,j,l⟩:=DA b;exact HJ k a (i a j) c l
theorem yE {p:qb}:∀ (k:Nat) (x:Pa),Am p k x->∀ c ∈ wj k x,∃ d,Sa p.named c=some d/\(d.Kind=2\/d.Kind=3)
 | 0,x,h=>by cases h
 | k+1,x,h=>by
  obtain ⟨g,i,j,l⟩:=h;intro c b;rw [wj] at b;rcases List.mem_append.1 b with b | b
  ·rcases List.mem_append.1 b with b | b
   ·rcases MA b with ⟨q,b⟩ | ⟨q,b⟩
    ·cases b
    ·exact HJ k _ (g q) c b
   ·rcases MA b with ⟨q,b⟩ | ⟨q,b⟩
    ·obtain ⟨a,e,f⟩:=DA b;exact yE k a (i q a e) c f
    ·cases b
  ·rcases MA b with ⟨q,b⟩ | ⟨q,b⟩
   ·obtain ⟨a,e,f⟩:=DA b;exact yE k a (j q a e) c f
   ·cases b
def Hj (d:va):List Nm:=(d.Body.map (wj 39)).flatten
def Jq (d:va):List Nm:=(d.Body.map (Xj 39)).flatten
def Kq (d:va):List Nm:=(d.Body.map (Wj 39)).flatten
def Nk (N:List (Nm×va)):List Nm->List Nm->List (Option va)->List Nm×List (Option va)
 | [],a,todo=>(a,todo)
 | c::cs,a,todo=>if a.contains c=true then Nk N cs a todo else Nk N cs (a++[c]) (todo++[Sa N c])
def Yn (N:List (Nm×va)):Nat->List Nm->List (Option va)->List Nm->List Nm->Option rf
 | 0,_,_,_,_=>none
 | n+1,a,[],s,r=>some ⟨[],s,r⟩
 | n+1,a,none::t,s,r=>none
 | n+1,a,some d::t,s,r=>Yn N n (Nk N (Hj d) a t).1 (Nk N (Hj d) a t).2 (s++Jq d) (r++Kq d)
def Jy (l:List va) (a:List Nm):Nat:=(l.filter λd=>!a.contains d.Name).length
theorem filter_le {α:Type}(P Q:α->Bool) (h:∀ x,Q x=true->P x=true):∀ l:List α,(l.filter Q).length<=(l.filter P).length
 | []=>by simp
 | x::l=>by
  have a:=filter_le P Q h l;rw [List.filter_cons,List.filter_cons];by_cases q:Q x=true
  ·rw [if_pos q,if_pos (h x q),List.length_cons,List.length_cons];omega
  ·rw [if_neg q];split
   ·rw [List.length_cons];omega
   ·exact a
theorem filter_lt {α:Type}(P Q:α->Bool) (h:∀ x,Q x=true->P x=true):∀ (l:List α) (x:α),x ∈ l->P x=true->Q x=false->(l.filter Q).length<(l.filter P).length
 | y::l,x,a,b,c=>by
  have le:=filter_le P Q h l;rw [List.filter_cons,List.filter_cons];rcases List.mem_cons.1 a with rfl | a
  ·rw [if_pos b,if_neg (by simp [c]),List.length_cons];omega
  ·have d:=filter_lt P Q h l x a b c;by_cases q:Q y=true
   ·rw [if_pos q,if_pos (h y q),List.length_cons,List.length_cons];omega
   ·rw [if_neg q];split
    ·rw [List.length_cons];omega
    ·exact d
theorem cS (l:List va) (a:List Nm) (d:va) (Ca:d ∈ l) (h:a.contains d.Name=false):Jy l (a++[d.Name])<Jy l a:=by
 refine filter_lt _ _ (λx b=>?_) l d Ca (by simpa using h) (by simp);simp only [Bool.not_eq_true',List.contains_eq_mem,List.mem_append,decide_eq_false_iff_not] at b ⊢;exact λh=>b<|.inl h
structure Ky (p:qb) (l:List va) (a:List Nm) (todo:List (Option va)) (q:Nat):Prop where
 la:a.length+Jy l a<=30
 aH:∀ o ∈ todo,∃ d ∈ l,o=some d/\d.Kind≠1
 q:Jy l a+todo.length<=q
theorem NA {p:qb}{l:List va}(R:yo p l):∀ (cs:List Nm) (a:List Nm) (todo:List (Option va)) (q:Nat),(∀ c ∈ cs,∃ d,Sa p.named c=some d/\(d.Kind=2\/d.Kind=3))->Ky p l a todo q->Ky p l (Nk p.named cs a todo).1 (Nk p.named cs a todo).2 q
 | [],a,todo,q,h,T=>T
 | c::cs,a,todo,q,h,T=>by
  rw [Nk];have e:∀ c ∈ cs,∃ d,Sa p.named c=some d/\(d.Kind=2\/d.Kind=3):=λc g=>h c (List.mem_cons_of_mem _ g);by_cases k:a.contains c=true
  ·rw [if_pos k];exact NA R cs a todo q e T
  ·rw [if_neg k];obtain ⟨d,sa,j⟩:=h c (List.mem_cons_self ..);obtain ⟨f,m2⟩:=R.only _ _ sa;have i:=cS l a d f (by rw [m2];simpa using k);rw [m2] at i;refine NA R cs _ _ q e ⟨?_,λo b=>?_,?_⟩
   ·rw [List.length_append,List.length_singleton];have:=T.la;omega
   ·rcases List.mem_append.1 b with b | b
    ·exact T.aH o b
    ·rw [List.mem_singleton.1 b];exact ⟨d,f,sa,by omega⟩
   ·rw [List.length_append,List.length_singleton];have:=T.q;omega
theorem PN {p:qb}{l:List va}(R:yo p l) (u:List Nm×List Nm×List Nm) (s r:List Nm) (K:List Nm->List (Option va)->List Nm->List Nm->Option rf) (f:∀ c ∈ u.1,∃ d,Sa p.named c=some d/\(d.Kind=2\/d.Kind=3)) (la:u.1.length<=1000000) :
  ∀ (m i:Nat) (a:List Nm) (todo:List (Option va)) (q:Nat),i<=u.1.length->u.1.length<m+i->q<=1000->Ky p l a todo q ->
   ju p u s r K m i a todo=K (Nk p.named (u.1.drop i) a todo).1 (Nk p.named (u.1.drop i) a todo).2 s r:=by
 intro m
 induction m with
 | zero=>intro i a todo q g h; omega
 | succ m b =>
  intro i a todo q g h e T;rw [ju];by_cases c:i<u.1.length
  ·rw [if_pos (by omega),Pg,List.getElem?_eq_getElem c,Ga,List.drop_eq_getElem_cons c,Nk];have j:=f _ (List.getElem_mem c);by_cases k:a.contains u.1[i]=true
   ·rw [if_pos k,if_pos k,Hf (by omega),Ga];exact b (i+1) a todo q c (by omega) e T
   ·have o:=T.la;have t:=T.q;have Ef:=NA R [u.1[i]] a todo q (λc n=>by rw [List.mem_singleton.1 n];exact j) T;rw [Nk,if_neg k,Nk] at Ef;rw [if_neg k,if_neg k,et (by simp;omega),Ga,et (by simp;omega),Ga,Hf (by omega),Ga];exact b (i+1) _ _ q c (by omega) e Ef
  ·rw [if_neg (by omega),List.drop_eq_nil_of_le (by omega)];rfl
theorem aP {p:qb}{l:List va}(R:yo p l) (fu:Nat) (c:500<=fu) (d:va) (Ca:d ∈ l) (a:d.Kind≠1):(um fu).Nl [] [] [] d.Body=some (Hj d,Jq d,Kq d)/\(Hj d).length<=2000/\(Jq d).length<=2000/\(Kq d).length<=2000:=by
 have ok:=R.ok.ok d Ca;have b:Qr d<=2000:=Nat.le_trans (uK Qr l d Ca) R.ok.n;rw [Qr,if_pos a] at b;have:=vM fu 39 d.Body [] [] [] (by omega) (ok.Od a) (ok.dx a) (by simp;omega) (by simp;omega) (by simp;omega);have pa:=wm (wj 39) (dh 39) (xy 39) d.Body;have e:=wm (Xj 39) (dh 39) (zy 39) d.Body;have f:=wm (Wj 39) (dh 39) (yy 39) d.Body;exact ⟨by rw [this];rfl,by rw [Hj];omega,by rw [Jq];omega,by rw [Kq];omega⟩
theorem QN {p:qb}{l:List va}(R:yo p l) (fu:Nat) (g:500<=fu):∀ (n q:Nat) (b:List Nm) (todo:List (Option va)) (s r:List Nm),q<n->q<=1000->Ky p l b todo q->s.length+2000*q<=1000000000->r.length+2000*q<=1000000000 ->
  Vr fu p n b todo s r=Yn p.named n b todo s r/\(∃ u,Yn p.named n b todo s r=some u/\u.calls=[]):=by
 intro n
 induction n with
 | zero=>intro q b todo s r h; omega
 | succ n i =>
  intro q b todo s r h z T ka jd;rw [Vr];cases todo with
  | nil=>exact ⟨by rw [if_neg (by simp)]; rfl,_,rfl,rfl⟩
  | cons o t =>
   obtain ⟨d,Ca,rfl,k1⟩:=T.aH o (List.mem_cons_self ..);obtain ⟨Dd,jb,A,B⟩:=aP R fu g d Ca k1;have j:=T.q;have k:=T.la;rw [List.length_cons] at j;have sa:at_ (some d::t) 0=some (some d):=rfl;have m:cut (some d::t) 1 ((some d::t).length:Int)=some t:=by
    rw [cut,if_pos (by simp;omega)];simp
   have e:∀ c ∈ Hj d,∃ f,Sa p.named c=some f/\(f.Kind=2\/f.Kind=3):=λc e=>by
    obtain ⟨a,v,w⟩:=DA e;exact yE 39 a (R.cs d Ca k1 a v) c w
   have Ef:Ky p l b t (q - 1):=⟨k,λo x=>T.aH o (List.mem_cons_of_mem _ x),by omega⟩;have y:=NA R (Hj d) b t (q - 1) e Ef;rw [if_pos (by simp),sa,Ga,m,Ga,Ga,Dd,Ga,et (by simp only [];omega),Ga,et (by simp only [];omega),Ga,oz];rw [show ((0:Int))=((0:Nat):Int) from rfl,PN R (Hj d,Jq d,Kq d) _ _ _ e (by simp only [];omega) _ 0 b t (q - 1) (by omega) (by simp only [];omega) (by omega) Ef,List.drop_zero];rw [Yn];exact i (q - 1) _ _ (s++Jq d) (r++Kq d) (by omega) (by omega) y (by rw [List.length_append];omega) (by rw [List.length_append];omega)
theorem IJ {p:qb}{l:List va}(R:yo p l) (fu:Nat) (a:500<=fu) (d:va) (Ca:d ∈ l) (b:d.Kind≠1):Sz fu p d=Yn p.named fu [] [some d] [] []/\(∃ u,Yn p.named fu [] [some d] [] []=some u/\u.calls=[]):=by
 have c:Jy l []<=30:=Nat.le_trans (List.length_filter_le _ _) R.ok.le;exact QN R fu a fu 31 [] [some d] [] [] (by omega) (by omega) ⟨by simpa using c,λo e=>by rw [List.mem_singleton.1 e];exact ⟨d,Ca,rfl,b⟩,by simp;omega⟩ (by simp) (by simp)
def Um:rf:=⟨[],[],[]⟩
def vp (L:List (Nm×rf)) (b:Nm):List va->Nm->Nm->Option (Nm×Nm)
 | [],w,r=>some (w,r)
 | t::na,w,r=>if t.Kind≠4 then vp L b na w r else
   if ((Sa L t.Name).getD Um).Sk.contains b=true/\w≠[] then none else
   if ((Sa L t.Name).getD Um).wk.contains b=true/\r≠[] then none else
   vp L b na (if ((Sa L t.Name).getD Um).Sk.contains b=true then t.Name else w) (if ((Sa L t.Name).getD Um).wk.contains b=true then t.Name else r)
def Ar (L:List (Nm×rf)) (l:List va):List va->Int->List ai->List ai×Vd
 | [],i,acc=>(acc,⟨0,0⟩)
 | x::xs,i,acc=>if x.Kind≠1 then Ar L l xs (i+1) acc else
   match vp L x.Name l [] [] with
   | none=>([],⟨8,i⟩)
   | some (w,r)=>Ar L l xs (i+1) (acc++[⟨x.Name,w,r⟩])
def Uk (N:List (Nm×va)) (fu:Nat):List va->List (Nm×rf)->List (Nm×rf)
 | [],L=>L
 | d::ds,L=>if d.Kind=4 then Uk N fu ds (dd L d.Name ((Yn N fu [] [some d] [] []).getD Um)) else Uk N fu ds L
theorem fQ (l:List va) (la:l.length<=30) (L:List (Nm×rf)) (i:Int) (acc:List ai) (x:va) (K:Int->List ai->Option (List ai×Vd)) (f:0<=i/\i<=1000) (g:acc.length<=1000) :
  ∀ (m j:Nat) (w r:Nm),j<=l.length->l.length<m+j->Oo l L i acc x K m j w r=match vp L x.Name (l.drop j) w r with | none=>some ([],⟨8,i⟩) | some (w',r')=>K (i+1) (acc++[⟨x.Name,w',r'⟩]):=by
 intro m
 induction m with
 | zero=>intro j w r b d; omega
 | succ m e =>
  intro j w r b d;rw [Oo];by_cases c:j<l.length
  ·rw [if_pos (by omega),Pg,List.getElem?_eq_getElem c,Ga,List.drop_eq_getElem_cons c,vp];have lb:(rf.mk [] [] [])=Um:=rfl;have Rh:=λw r=>e (j+1) w r c (by omega);generalize l[j]=t at *;by_cases Xe:t.Kind≠4
   ·rw [if_pos Xe,if_pos Xe,Hf (by omega),Ga];exact Rh w r
   ·rw [if_neg Xe,if_neg Xe,lb];have a:∀ w',qv L i x j r t (Oo l L i acc x K m) w'=if ((Sa L t.Name).getD Um).wk.contains x.Name=true/\r≠[] then some ([],⟨8,i⟩) else
      match vp L x.Name (l.drop (j+1)) w' (if ((Sa L t.Name).getD Um).wk.contains x.Name=true then t.Name else r) with | none=>some ([],⟨8,i⟩) | some (w',r')=>K (i+1) (acc++[⟨x.Name,w',r'⟩]):=by
     intro w';rw [qv,lb];by_cases q:((Sa L t.Name).getD Um).wk.contains x.Name=true
     ·rw [if_pos q];by_cases z:r≠[]
      ·rw [if_pos z,if_pos ⟨q,z⟩]
      ·rw [if_neg z,if_neg (λh=>z h.2),if_pos q,pv,Hf (by omega),Ga];exact Rh _ _
     ·rw [if_neg q,if_neg (λh=>q h.1),if_neg q,pv,Hf (by omega),Ga];exact Rh _ _
    by_cases q:((Sa L t.Name).getD Um).Sk.contains x.Name=true
    ·rw [if_pos q];by_cases z:w≠[]
     ·rw [if_pos z,if_pos ⟨q,z⟩]
     ·rw [if_neg z,if_neg (λh=>z h.2),if_pos q,a];split<;>rfl
    ·rw [if_neg q,if_neg (λh=>q h.1),if_neg q,a];split<;>rfl
  ·rw [if_neg (by omega),List.drop_eq_nil_of_le (by omega),et (by simp;omega),Ga,Hf (by omega),Ga];rfl
theorem gQ (l:List va) (la:l.length<=30) (L:List (Nm×rf)):∀ (m i:Nat) (acc:List ai),i<=l.length->l.length<m+i->acc.length<=i->Lp l L m i acc=some (Ar L l (l.drop i) i acc):=by
 intro m
 induction m with
 | zero=>intro i acc b d; omega
 | succ m a =>
  intro i acc b d e;rw [Lp];by_cases c:i<l.length
  ·rw [if_pos (by omega),Pg,List.getElem?_eq_getElem c,Ga,List.drop_eq_getElem_cons c,Ar];by_cases k1:l[i].Kind≠1
   ·rw [if_pos k1,if_pos k1,Hf (by omega),Ga];exact a (i+1) acc c (by omega) (by omega)
   ·rw [if_neg k1,if_neg k1,show ((0:Int))=((0:Nat):Int) from rfl,fQ l la L i acc l[i] _ (by omega) (by omega) _ 0 [] [] (by omega) (by omega),List.drop_zero];cases h:vp L l[i].Name l [] [] with
    | none=>rfl
    | some v=>exact a (i+1) _ c (by omega) (by simp; omega)
  ·rw [if_neg (by omega),List.drop_eq_nil_of_le (by omega)];rfl
theorem hQ {p:qb}{l:List va}(R:yo p l) (fu:Nat) (b:500<=fu) (f:Vd):∀ (m i:Nat) (L:List (Nm×rf)),i<=l.length->l.length<m+i->Sr fu l (p,f) m i L=some (Ar (Uk p.named fu (l.drop i) L) l l 0 []):=by
 have la:=R.ok.le;intro m
 induction m with
 | zero=>intro i L d e; omega
 | succ m a =>
  intro i L d e;rw [Sr];by_cases c:i<l.length
  ·have lb:at_ l (i:Int)=some l[i]:=by rw [Pg,List.getElem?_eq_getElem c]
   rw [if_pos (by omega),lb,Ga,List.drop_eq_getElem_cons c,Uk];by_cases Xe:l[i].Kind=4
   ·obtain ⟨g,u,h,-⟩:=IJ R fu b l[i] (List.getElem_mem _) (by omega);rw [if_pos Xe,if_pos Xe];simp only [Ga];rw [g,h,Ga,kz,Hf (by omega),Ga];exact a (i+1) _ c (by omega)
   ·rw [if_neg Xe,if_neg Xe,Hf (by omega),Ga];exact a (i+1) L c (by omega)
  ·rw [if_neg (by omega),List.drop_eq_nil_of_le (by omega)];exact gQ l la L (l.length+1) 0 [] (by omega) (by omega) (by simp)
theorem kH (fu:Nat) (a:500<=fu) (l:List va):∃ p f,Fs fu l=some (p,f)/\((f.Te≠0/\Fv fu l=some ([],f))\/(f.Te=0/\yo p l/\Fv fu l=some (Ar (Uk p.named fu l []) l l 0 []))):=by
 obtain ⟨p,f,b,c⟩:=rH fu a l;refine ⟨p,f,b,?_⟩;rw [Fv,b,Ga];by_cases z:f.Te=0
 ·rw [if_neg (by simpa using z)];exact .inr ⟨z,c z,hQ (c z) fu a f (l.length+1) 0 [] (by omega) (by omega)⟩
 ·rw [if_pos z];exact .inl ⟨z,rfl⟩
end
section
open Go.Bc Go.Re
abbrev bz:=List UInt8
def Zn (w:bz):Prop:=∀ fu,20<=fu->ki fu w=some true
def Uy:Nat->Na->Prop
 | 0,_=>False
 | k+1,x=>1<=x.Kind/\x.Kind<=24/\MF x/\(x.Kind=1->0<=x.N/\x.N<=999999999999999)/\(x.Kind=2->x.N=0\/x.N=1)/\((x.Kind=3\/x.Kind=20\/x.Kind=19\/x.Kind=22)->Zn x.Name)/\∀ y ∈ x.Kids,Uy k y
def fv:Nat->Pa->Prop
 | 0,_=>False
 | k+1,s=>1<=s.Kind/\s.Kind<=9/\(s.Kind≠6->Uy k s.X)/\((s.Kind=1\/s.Kind=2\/s.Kind=7)->Zn s.Name)/\((s.Kind=3\/s.Kind=4)->s.Body.length<=50/\∀ y ∈ s.Body,fv k y)/\(s.Kind=3->s.kf.length<=50/\∀ y ∈ s.kf,fv k y)
def Ir (t:Qa):Prop:=Jo t/\(t.Kind=3->Zn t.xc)
structure Vt (d:va):Prop where
 k1:1<=d.Kind
 Xe:d.Kind<=4
 hc:Zn d.Name
 zg:d.Kind=2\/d.Kind=3->d.Params.length<=6/\∀ q ∈ d.Params,Zn q.Name/\Ir q.Cb
 Gl:d.Kind=3->Ir d.cd
 ty:d.Kind≠4->Ir d.Cb
 bj:d.Kind=1->1<=d.Ie/\d.Ie<=20
 dx:d.Kind≠1->d.Body.length<=50/\∀ y ∈ d.Body,fv 39 y
theorem Zn.Gq {w:bz}(h:Zn w):w≠[]:=λe=>by have:=h 20 (Nat.le_refl _);rw [e] at this;revert this;decide
theorem Yh {α β:Type}{o:Option α}{f:α->Option β}{r:β}(h:Option.bind o f=some r):∃ x,o=some x/\f x=some r:=te h
theorem RN {w:bz}{p:UInt8->Option Bool}:∀ (m a:Nat) (i r:Int),m<=a->Cn w p m i=some r->Cn w p a i=some r:=by
 intro m
 induction m with
 | zero=>intro a i r h g; cases g
 | succ m f =>
  intro a i r h g;obtain ⟨a,rfl⟩:∃ q,a=q+1:=⟨a - 1,by omega⟩;rw [Cn] at g ⊢;have d:∀ b,qs i (Cn w p m) b=some r->qs i (Cn w p a) b=some r:=by
   intro b g;rw [qs] at g ⊢;split
   ·rename_i c;rw [if_pos c] at g;obtain ⟨x,e,g⟩:=Yh g;rw [e,Ga];exact f a x r (by omega) g
   ·rename_i c;rw [if_neg c] at g;exact g
  split
  ·rename_i c;rw [if_pos c] at g;obtain ⟨x,e,g⟩:=Yh g;obtain ⟨y,j,g⟩:=Yh g;rw [e,Ga,j,Ga];exact d y g
  ·rename_i c;rw [if_neg c] at g;exact d _ g
theorem hI {fu a:Nat}(h:fu<=a){w:bz}{b:Bool}(g:ki fu w=some b):ki a w=some b:=by
 have d:∀ c,Po fu w c=some b->Po a w c=some b:=by
  intro c g;rw [Po] at g ⊢;split
  ·rename_i q;rw [if_pos q] at g;exact g
  ·rename_i q;rw [if_neg q] at g;obtain ⟨x,e,g⟩:=Yh g;have:tu a w pt=some x:=RN fu a 0 x h e;rw [this,Ga];exact g
 rw [ki] at g ⊢;split
 ·rename_i q;rw [if_pos q] at g;exact d _ g
 ·rename_i q;rw [if_neg q] at g;split
  ·rename_i q;rw [if_pos q] at g;exact d _ g
  ·rename_i q;rw [if_neg q] at g;obtain ⟨x,e,g⟩:=Yh g;obtain ⟨y,f,g⟩:=Yh g;rw [e,Ga,f,Ga];split
   ·rename_i q;rw [if_pos q] at g;obtain ⟨k,sa,g⟩:=Yh g;obtain ⟨l,i,g⟩:=Yh g;obtain ⟨Ua,j,g⟩:=Yh g;rw [sa,Ga,i,Ga,j,Ga];exact d _ g
   ·rename_i q;rw [if_neg q] at g;exact d _ g
theorem fw {fu:Nat}(d:20<=fu){w:bz}(h:ki fu w=some true):Zn w:=by
 intro f e;obtain ⟨b,a⟩:=Kv 20 (Nat.le_refl _) w;have c:=hI d a;rw [h] at c;obtain rfl:=Option.some.inj c;exact hI e a
section
variable {fu:Nat}{self:ko}{x:Na}{d node k:Int}
theorem WM:∀ (m i:Nat) (c:Int),x.Kids.length<=6->Kl self x d m i c=some (0,k)->∀ j (b:j<x.Kids.length),i<=j->∃ c' a k',self.Jj c' x.Kids[j] a=some (0,k'):=by
 intro m
 induction m with
 | zero=>intro i c _ h; cases h
 | succ m e =>
  intro i c la h j b n;rw [Kl,if_pos (by omega),Pg,List.getElem?_eq_getElem (show i<x.Kids.length by omega),Ga] at h;obtain ⟨a,sa,h⟩:=Yh h;obtain ⟨r,f,h⟩:=Yh h;by_cases z:r.1≠0
  ·rw [if_pos z] at h;exact absurd (congrArg (λo:Option (Int×Int)=>o.map (·.1)) h) (by simpa using z)
  ·rw [if_neg z,Hf (by omega),Ga] at h;by_cases q:j=i
   ·subst q;obtain ⟨g,l⟩:=r;obtain rfl:g=0:=Decidable.not_not.1 z;exact ⟨c,a,l,f⟩
   ·exact e (i+1) r.2 la h j b (by omega)
theorem IH {a:Int×Int}{b:Bool}(h:Uq self x d a b=some (0,k)):∃ m c,Kl self x d m (0:Nat) c=some (0,k):=by
 rw [Uq] at h;split at h
 ·cases h
 ·exact ⟨_,_,h⟩
theorem XM {a:Int×Int}{r:Int}{b:Bool}(h:Vq self x d a r b=some (0,k)):∃ m c,Kl self x d m (0:Nat) c=some (0,k):=by
 rw [Vq] at h;split at h
 ·exact IH h
 ·split at h<;>exact IH h
theorem JH {a:Int×Int}{r:Int}{b:Bool}(h:Ro self x d a r b=some (0,k)):b=false/\∃ m c,Kl self x d m (0:Nat) c=some (0,k):=by
 rw [Ro] at h;split at h
 ·cases h
 ·rename_i q;refine ⟨by simpa using q,?_⟩;split at h<;>exact XM h
theorem Oz {i:Int×Int}{r:Int}{b:Bool}(h:Mp fu self x d i r b=some (0,k)):b=false/\(x.Kind=3\/x.Kind=20\/r<0->ki fu x.Name=some true)/\∃ m c,Kl self x d m (0:Nat) c=some (0,k):=by
 rw [Mp] at h;split at h
 ·cases h
 ·rename_i q;refine ⟨by simpa using q,?_⟩;have a:(Option.bind (ki fu x.Name) λj=>Ro self x d i r (!j))=some (0,k)->(x.Kind=3\/x.Kind=20\/r<0->ki fu x.Name=some true)/\∃ m c,Kl self x d m (0:Nat) c=some (0,k):=by
   intro h;obtain ⟨Rc,e,h⟩:=Yh h;obtain ⟨l,f⟩:=JH h;cases Rc with
   | true=>exact ⟨λ_=>e,f⟩
   | false=>cases l
  split at h
  ·exact a h
  ·split at h
   ·exact a h
   ·split at h
    ·exact a h
    ·obtain ⟨-,f⟩:=JH h;exact ⟨λg=>by omega,f⟩
theorem iQ (h:Jj fu self node x d=some (0,k)):(x.Kind=1->0<=x.N/\x.N<=999999999999999)/\(x.Kind=2->x.N=0\/x.N=1)/\(x.Kind=3\/x.Kind=20\/qj x.Kind<0->ki fu x.Name=some true)/\∃ m c,Kl self x d m (0:Nat) c=some (0,k):=by
 rw [Jj] at h;obtain ⟨i,-,h⟩:=Yh h;split at h
 ·rename_i z;exact absurd (congrArg (λo:Option (Int×Int)=>o.map (·.1)) h) (by simpa using z)
 ·have f:∀ b,Wq fu self x d i (qj x.Kind) b=some (0,k)->b=false/\(x.Kind=2->x.N=0\/x.N=1)/\(x.Kind=3\/x.Kind=20\/qj x.Kind<0->ki fu x.Name=some true)/\∃ m c,Kl self x d m (0:Nat) c=some (0,k):=by
   intro b h;rw [Wq] at h;split at h
   ·rename_i q;obtain ⟨a,-⟩:=Oz h;rw [q] at a;cases a
   ·rename_i q;refine ⟨by simpa using q,?_⟩;split at h
    ·split at h
     ·obtain ⟨a,e⟩:=Oz h;exact ⟨λ_=>.inr (by simpa using a),e⟩
     ·rename_i z;obtain ⟨a,e⟩:=Oz h;exact ⟨λ_=>.inl<|Decidable.not_not.1 z,e⟩
    ·rename_i z;obtain ⟨a,e⟩:=Oz h;exact ⟨λg=>absurd g z,e⟩
  have j:∀ b,fo fu self x d i b=some (0,k)->(x.Kind=1->0<=x.N/\x.N<=999999999999999)/\(x.Kind=2->x.N=0\/x.N=1)/\(x.Kind=3\/x.Kind=20\/qj x.Kind<0->ki fu x.Name=some true)/\∃ m c,Kl self x d m (0:Nat) c=some (0,k):=by
   intro b h;rw [fo] at h;split at h
   ·cases h
   ·rw [fI,Ga] at h;split at h
    ·split at h
     ·obtain ⟨a,-⟩:=f _ h;cases a
     ·rename_i z;obtain ⟨a,e⟩:=f _ h;have:=of_decide_eq_false a;exact ⟨λ_=>⟨by omega,by omega⟩,e⟩
    ·rename_i z;obtain ⟨-,e⟩:=f _ h;exact ⟨λg=>absurd g z,e⟩
  split at h<;>exact j _ h
end
theorem JJ:∀ (j n:Nat) (x:Na) (node d k:Int),30+j<=n->Ji j x->(Ij n).Jj node x d=some (0,k)->Uy j x
 | 0,n,x,node,d,k,f,h,g=>h.elim
 | j+1,n,x,node,d,k,f,h,g=>by
  obtain ⟨k1,l,a,o⟩:=h;obtain ⟨n,rfl⟩:∃ q,n=q+1:=⟨n - 1,by omega⟩;obtain ⟨p,r,s,m,c,t⟩:=iQ (show Jj n (Ij n) node x d=some (0,k) from g);refine ⟨k1,l,a,p,r,λq=>fw (by omega)<|s ?_,λy b=>?_⟩
  ·rcases q with q | q | q | q
   ·exact .inl q
   ·exact .inr<|.inl q
   ·rw [q];exact .inr<|.inr (by decide)
   ·rw [q];exact .inr<|.inr (by decide)
  ·obtain ⟨i,u,rfl⟩:=List.getElem_of_mem b;obtain ⟨c',v,k',e⟩:=WM m 0 c a.le t i u (Nat.zero_le _);exact JJ j n _ c' v k' (by omega) (o _ b) e
section
variable {fu:Nat}{self:lo}{x:Pa}{d node k:Int}
theorem wM {l:List Pa}:∀ (m i:Nat) (c:Int),l.length<=50->Wr self l d m i c=some (0,k)->∀ j (a:j<l.length),i<=j->∃ c' k',self.cl c' l[j] d=some (0,k'):=by
 intro m
 induction m with
 | zero=>intro i c _ h; cases h
 | succ m b =>
  intro i c la h j a n;rw [Wr,if_pos (by omega),Pg,List.getElem?_eq_getElem (show i<l.length by omega),Ga] at h;obtain ⟨r,e,h⟩:=Yh h;by_cases z:r.1≠0
  ·rw [if_pos z] at h;exact absurd (congrArg (λo:Option (Int×Int)=>o.map (·.1)) h) (by simpa using z)
  ·rw [if_neg z,Hf (by omega),Ga] at h;by_cases q:j=i
   ·subst q;obtain ⟨f,g⟩:=r;obtain rfl:f=0:=Decidable.not_not.1 z;exact ⟨c,g,e⟩
   ·exact b (i+1) r.2 la h j a (by omega)
theorem DI {l:List Pa}(la:l.length<=50) (h:yh self node l d=some (0,k)):∀ y ∈ l,∃ c' k',self.cl c' y d=some (0,k'):=by
 intro y a;obtain ⟨j,b,rfl⟩:=List.getElem_of_mem a;rw [yh] at h;split at h
 ·cases h
 ·exact wM _ 0 _ la h j b<|Nat.zero_le _
theorem KH {c:Int}(h:ss self x d c=some (0,k)):x.Kind=3->∃ c' b k',self.yh c' x.kf b=some (0,k'):=by
 intro f;rw [ss,if_pos f] at h;obtain ⟨b,-,h⟩:=Yh h;obtain ⟨r,e,h⟩:=Yh h;obtain ⟨g,i⟩:=r;obtain ⟨a,-⟩:=Prod.mk.inj (Option.some.inj h);have a:g=0:=a;subst a;exact ⟨_,_,_,e⟩
theorem LH {c:Int×Int}{b:Bool}(h:ts self x d c b=some (0,k)):(b=true->∃ c' a k',self.yh c' x.Body a=some (0,k'))/\(x.Kind=3->∃ c' a k',self.yh c' x.kf a=some (0,k')):=by
 rw [ts] at h;split at h
 ·obtain ⟨a,-,h⟩:=Yh h;obtain ⟨r,e,h⟩:=Yh h;split at h
  ·rename_i z;exact absurd (congrArg (λo:Option (Int×Int)=>o.map (·.1)) h) (by simpa using z)
  ·rename_i z;obtain ⟨f,i⟩:=r;obtain rfl:f=0:=Decidable.not_not.1 z;exact ⟨λ_=>⟨_,_,_,e⟩,KH h⟩
 ·rename_i q;exact ⟨λg=>absurd g q,KH h⟩
theorem jQ (h:cl fu self node x d=some (0,k)):(x.Kind=1\/x.Kind=2\/x.Kind=7->ki fu x.Name=some true)/\(x.Kind≠6->(∃ c' a k',(Ij fu).Jj c' x.X a=some (0,k'))/\(x.Kind=3\/x.Kind=4->∃ c' a k',self.yh c' x.Body a=some (0,k'))/\(x.Kind=3->∃ c' a k',self.yh c' x.kf a=some (0,k'))):=by
 rw [cl] at h;obtain ⟨i,-,h⟩:=Yh h;split at h
 ·rename_i z;exact absurd (congrArg (λo:Option (Int×Int)=>o.map (·.1)) h) (by simpa using z)
 ·have j:∀ b,So fu self x d i b=some (0,k)->b=false/\(x.Kind≠6->(∃ c' a k',(Ij fu).Jj c' x.X a=some (0,k'))/\(x.Kind=3\/x.Kind=4->∃ c' a k',self.yh c' x.Body a=some (0,k'))/\(x.Kind=3->∃ c' a k',self.yh c' x.kf a=some (0,k'))):=by
   intro b h;rw [So] at h;split at h
   ·cases h
   ·rename_i q;refine ⟨by simpa using q,λl=>?_⟩;rw [if_neg l] at h;obtain ⟨a,-,h⟩:=Yh h;obtain ⟨r,e,h⟩:=Yh h;split at h
    ·rename_i z;exact absurd (congrArg (λo:Option (Int×Int)=>o.map (·.1)) h) (by simpa using z)
    ·rename_i z;obtain ⟨m,t⟩:=r;obtain rfl:m=0:=Decidable.not_not.1 z;refine ⟨⟨_,_,_,e⟩,?_⟩;split at h
     ·rename_i n;obtain ⟨c,f⟩:=LH h;exact ⟨λ_=>c rfl,f⟩
     ·rename_i n;obtain ⟨c,f⟩:=LH h;exact ⟨λg=>c<|decide_eq_true (by omega),f⟩
  have p:∀ b,Np fu self x d i b=some (0,k)->(x.Kind=1\/x.Kind=2\/x.Kind=7->ki fu x.Name=some true)/\(x.Kind≠6->(∃ c' a k',(Ij fu).Jj c' x.X a=some (0,k'))/\(x.Kind=3\/x.Kind=4->∃ c' a k',self.yh c' x.Body a=some (0,k'))/\(x.Kind=3->∃ c' a k',self.yh c' x.kf a=some (0,k'))):=by
   intro b h;rw [Np] at h;have N:(Option.bind (ki fu x.Name) λs=>So fu self x d i (!s))=some (0,k)->(x.Kind=1\/x.Kind=2\/x.Kind=7->ki fu x.Name=some true)/\(x.Kind≠6->(∃ c' a k',(Ij fu).Jj c' x.X a=some (0,k'))/\(x.Kind=3\/x.Kind=4->∃ c' a k',self.yh c' x.Body a=some (0,k'))/\(x.Kind=3->∃ c' a k',self.yh c' x.kf a=some (0,k'))):=by
    intro h;obtain ⟨Rc,e,h⟩:=Yh h;obtain ⟨c,f⟩:=j _ h;cases Rc with
    | true=>exact ⟨λ_=>e,f⟩
    | false=>cases c
   split at h
   ·cases h
   ·split at h
    ·exact N h
    ·split at h
     ·exact N h
     ·split at h
      ·exact N h
      ·exact ⟨λg=>by omega,(j _ h).2⟩
  split at h<;>exact p _ h
end
theorem KJ:∀ (j n:Nat) (x:Pa) (node d k:Int),60+3*j<=n->Tm j x->(xj n).cl node x d=some (0,k)->fv j x
 | 0,n,x,node,d,k,p,h,g=>h.elim
 | j+1,n,x,node,d,k,p,h,g=>by
  obtain ⟨k1,r,s,hB,t⟩:=h;obtain ⟨n,rfl⟩:∃ q,n=q+2:=⟨n - 2,by omega⟩;obtain ⟨u,f⟩:=jQ (show cl (n+1) (xj (n+1)) node x d=some (0,k) from g);have L:∀ (l:List Pa) (c' c k':Int),l.length<=50->(∀ y ∈ l,Tm j y)->(xj (n+1)).yh c' l c=some (0,k')->∀ y ∈ l,fv j y:=by
   intro l c' c k' la v w y m;obtain ⟨z,A,e⟩:=DI la (show yh (xj n) c' l c=some (0,k') from w) y m;exact KJ j n y z c A (by omega) (v y m) e
  refine ⟨k1,r,λo=>?_,λq=>fw (by omega)<|u q,λq=>?_,λq=>?_⟩
  ·obtain ⟨⟨c',c,k',e⟩,-⟩:=f o;exact JJ j (n+1) x.X c' c k' (by omega) (s o) e
  ·obtain ⟨a,b⟩:=hB q;obtain ⟨-,i,-⟩:=f (by omega);obtain ⟨c',c,k',e⟩:=i q;exact ⟨a,L x.Body c' c k' a b e⟩
  ·obtain ⟨a,b⟩:=t q;obtain ⟨-,-,i⟩:=f (by omega);obtain ⟨c',c,k',e⟩:=i q;exact ⟨a,L x.kf c' c k' a b e⟩
theorem hF {fu:Nat}(a:20<=fu){t:Qa}(h:gr fu t=some 0):Ir t:=by
 obtain ⟨e,c,d⟩:=nA fu a t;rw [h] at c;obtain rfl:=Option.some.inj c;refine ⟨d rfl,λf=>?_⟩;rw [gr] at h;have g:∀ b,qu fu t b=some 0->Zn t.xc:=by
  intro b h;rw [qu] at h;split at h
  ·cases h
  ·obtain ⟨Rc,e,h⟩:=Yh (by simpa only [if_pos f] using h);cases Rc with
   | true=>exact fw a e
   | false=>cases h
 split at h<;>exact g _ h
section
variable {fu:Nat}{x:va}{Ue:Int×Int}{k node:Int}
theorem iI (h:Bs fu x Ue=some (0,k)):(x.Kind=1->1<=x.Ie/\x.Ie<=20)/\(x.Kind≠1->∃ c' k',(xj fu).yh c' x.Body 2=some (0,k')):=by
 rw [Bs] at h;split at h
 ·rename_i q;obtain ⟨r,e,h⟩:=Yh h;obtain ⟨d,f⟩:=r;obtain ⟨a,-⟩:=Prod.mk.inj (Option.some.inj h);have a:d=0:=a;subst a;exact ⟨λg=>absurd g q,λ_=>⟨_,_,e⟩⟩
 ·rename_i q;have c:∀ b,Lv Ue b=some (0,k)->b=false:=by
   intro b h;cases b with
   | false=>rfl
   | true=>cases h
  split at h
  ·cases c _ h
  ·have:=of_decide_eq_false (c _ h);exact ⟨λ_=>⟨by omega,by omega⟩,λg=>absurd g q⟩
theorem jI (a:20<=fu) (h:Cs fu x Ue=some (0,k)):(x.Kind≠4->Ir x.Cb)/\(x.Kind=1->1<=x.Ie/\x.Ie<=20)/\(x.Kind≠1->∃ c' k',(xj fu).yh c' x.Body 2=some (0,k')):=by
 rw [Cs] at h;split at h
 ·obtain ⟨r,e,h⟩:=Yh h;split at h
  ·rename_i z;exact absurd (congrArg (λo:Option (Int×Int)=>o.map (·.1)) h) (by simpa using z)
  ·rename_i z;obtain rfl:r=0:=Decidable.not_not.1 z;exact ⟨λ_=>hF a e,iI h⟩
 ·rename_i q;exact ⟨λg=>absurd g q,iI h⟩
theorem SN (a:20<=fu) (h:Rp fu x Ue=some (0,k)):(x.Kind=3->Ir x.cd)/\(x.Kind≠4->Ir x.Cb)/\(x.Kind=1->1<=x.Ie/\x.Ie<=20)/\(x.Kind≠1->∃ c' k',(xj fu).yh c' x.Body 2=some (0,k')):=by
 rw [Rp] at h;split at h
 ·obtain ⟨r,e,h⟩:=Yh h;split at h
  ·rename_i z;exact absurd (congrArg (λo:Option (Int×Int)=>o.map (·.1)) h) (by simpa using z)
  ·rename_i z;obtain rfl:r=0:=Decidable.not_not.1 z;exact ⟨λ_=>hF a e,jI a h⟩
 ·rename_i q;exact ⟨λg=>absurd g q,jI a h⟩
theorem TN (c:20<=fu) (la:x.Params.length<=6):∀ (m i:Nat),i<=x.Params.length->Ds fu x Ue m i=some (0,k)->(∀ j (a:j<x.Params.length),i<=j->Zn x.Params[j].Name/\Ir x.Params[j].Cb)/\Rp fu x Ue=some (0,k):=by
 intro m
 induction m with
 | zero=>intro i _ h; cases h
 | succ m d =>
  intro i p h;rw [Ds] at h;by_cases q:i<x.Params.length
  ·rw [if_pos (by omega),Pg,List.getElem?_eq_getElem q,Ga] at h;obtain ⟨b,sa,h⟩:=Yh h;cases b with
   | false=>cases h
   | true =>
    rw [if_pos rfl] at h;obtain ⟨r,f,h⟩:=Yh h;by_cases z:r≠0
    ·rw [if_pos z] at h;exact absurd (congrArg (λo:Option (Int×Int)=>o.map (·.1)) h) (by simpa using z)
    ·rw [if_neg z,Hf (by omega),Ga] at h;obtain rfl:r=0:=Decidable.not_not.1 z;obtain ⟨g,l⟩:=d (i+1) q h;refine ⟨λj a n=>?_,l⟩;by_cases e:j=i
     ·subst e;exact ⟨fw c sa,hF c f⟩
     ·exact g j a (by omega)
  ·rw [if_neg (by omega)] at h;exact ⟨λj a n=>by omega,h⟩
theorem cU (C:300<=fu) (ok:Ut x) (h:zu fu node x=some (0,k)):Vt x:=by
 rw [zu] at h;obtain ⟨f,-,h⟩:=Yh h;split at h
 ·rename_i z;exact absurd (congrArg (λo:Option (Int×Int)=>o.map (·.1)) h) (by simpa using z)
 ·have fin:Zn x.Name->(x.Kind=2\/x.Kind=3->x.Params.length<=6/\∀ q ∈ x.Params,Zn q.Name/\Ir q.Cb)->Rp fu x f=some (0,k)->Vt x:=by
   intro d m h;obtain ⟨a,b,c,e⟩:=SN (by omega) h;refine ⟨ok.k1,ok.Xe,d,m,a,b,c,λk1=>⟨ok.Od k1,λy i=>?_⟩⟩;obtain ⟨c',k',p⟩:=e k1;obtain ⟨n,rfl⟩:∃ q,fu=q+1:=⟨fu - 1,by omega⟩;obtain ⟨r,s,t⟩:=DI (ok.Od k1) (show yh (xj n) c' x.Body 2=some (0,k') from p) y i;exact KJ 39 n y r 2 s (by omega) (ok.dx k1 y i) t
  have l:∀ b,(b=true ↔ x.Kind=2\/x.Kind=3)->Zn x.Name->Es fu x f b=some (0,k)->Vt x:=by
   intro b g d h;rw [Es] at h;split at h
   ·rename_i q;split at h
    ·cases h
    ·rename_i z;obtain ⟨u,v⟩:=TN (by omega) (by omega) _ 0 (Nat.zero_le _) h;exact fin d (λ_=>⟨by omega,λq w=>by
      obtain ⟨j,A,rfl⟩:=List.getElem_of_mem w;exact u j A (Nat.zero_le _)⟩) v
   ·rename_i q;exact fin d (λz=>absurd (g.2 z) q) h
  have B:∀ b,Sp fu x f b=some (0,k)->Vt x:=by
   intro b h;rw [Sp] at h;split at h
   ·cases h
   ·obtain ⟨Rc,e,h⟩:=Yh h;cases Rc with
    | false=>cases h
    | true =>
     rw [if_pos rfl] at h;split at h
     ·rename_i q;exact l _ (by simp [q]) (fw (by omega) e) h
     ·rename_i q;exact l _ (by simp [q]) (fw (by omega) e) h
  split at h<;>exact B _ h
end
theorem dU {fu:Nat}(g:300<=fu){l:List va}{f:Vd}(h:Hs fu l=some f) (b:f.Te=0):l.length<=30/\∀ x ∈ l,Vt x:=by
 obtain ⟨s,d,k⟩:=dD fu (by omega) l;rw [h] at d;obtain rfl:=Option.some.inj d;obtain ⟨-,ok⟩:=k b;have la:=ok.le;refine ⟨la,?_⟩;rw [Hs,if_neg (by omega)] at h;have L:∀ (m i:Nat) (c:Int),Xr fu l m i c=some f->∀ j (a:j<l.length),i<=j->Vt l[j]:=by
  intro m
  induction m with
  | zero=>intro i c h; cases h
  | succ m n =>
   intro i c h j a t;rw [Xr,if_pos (by omega),Pg,List.getElem?_eq_getElem (show i<l.length by omega),Ga] at h;obtain ⟨r,e,h⟩:=Yh h;by_cases z:r.1≠0
   ·rw [if_pos z] at h;rw [<- Option.some.inj h] at b;exact absurd b z
   ·rw [if_neg z,Hf (by omega),Ga] at h;by_cases q:j=i
    ·subst q;obtain ⟨o,u⟩:=r;obtain rfl:o=0:=Decidable.not_not.1 z;exact cU g (ok.ok _<|List.getElem_mem _) e
    ·exact n (i+1) r.2 h j a (by omega)
 intro x p;obtain ⟨j,a,rfl⟩:=List.getElem_of_mem p;exact L _ 0 0 h j a<|Nat.zero_le _
end
section
open Go.Bc Go.Re
def Qj (B:se) (n:Nm):Option Qa:=B.reverse.findSome? λm=>Sa m n
inductive Ve (p:qb) (d:va) (B:se):Na->Qa->Prop
 | num {x:Na}:x.Kind=1->Ve p d B x ⟨1,[]⟩
 | bool {x:Na}:x.Kind=2->Ve p d B x ⟨2,[]⟩
 | var {x:Na} {t:Qa}:x.Kind=3->Qj B x.Name=some t->Ve p d B x t
 | neg {x a:Na}:x.Kind=4->x.Kids=[a]->Ve p d B a ⟨1,[]⟩->Ve p d B x ⟨1,[]⟩
 | not {x a:Na}:x.Kind=5->x.Kids=[a]->Ve p d B a ⟨2,[]⟩->Ve p d B x ⟨2,[]⟩
 | cz {x a b:Na}:6<=x.Kind/\x.Kind<=10->x.Kids=[a,b]->Ve p d B a ⟨1,[]⟩->Ve p d B b ⟨1,[]⟩->Ve p d B x ⟨1,[]⟩
 | eq {x a b:Na} {t:Qa}:x.Kind=11\/x.Kind=12->x.Kids=[a,b]->Ve p d B a t->Ve p d B b t->t.Kind≠3->Ve p d B x ⟨2,[]⟩
 | lt {x a b:Na}:13<=x.Kind/\x.Kind<=16->x.Kids=[a,b]->Ve p d B a ⟨1,[]⟩->Ve p d B b ⟨1,[]⟩->Ve p d B x ⟨2,[]⟩
 | jk {x a b:Na}:17<=x.Kind/\x.Kind<=18->x.Kids=[a,b]->Ve p d B a ⟨2,[]⟩->Ve p d B b ⟨2,[]⟩->Ve p d B x ⟨2,[]⟩
 | call {x:Na} {f:va}:x.Kind=19->Sa p.named x.Name=some f->f.Kind=2->x.Kids.length=f.Params.length->(∀ (i:Nat) (y:Na) (q:TParam),x.Kids[i]?=some y->f.Params[i]?=some q->Ve p d B y (He q.Cb))->Ve p d B x (He f.Cb)
 | recv {x:Na} {f:va}:x.Kind=20->Sa p.named x.Name=some f->f.Kind=1->Ve p d B x (He f.Cb)
 | xq {x a:Na}:x.Kind=21->d.Kind=3->x.Kids=[a]->Ve p d B a (He d.Cb)->Ve p d B x (He d.cd)
 | start {x:Na} {f:va}:x.Kind=22->Sa p.named x.Name=some f->f.Kind=3->x.Kids.length=f.Params.length->(∀ (i:Nat) (y:Na) (q:TParam),x.Kids[i]?=some y->f.Params[i]?=some q->Ve p d B y (He q.Cb))->Ve p d B x ⟨3,x.Name⟩
 | resume {x a b:Na} {g:Nm} {f:va}:x.Kind=23->x.Kids=[a,b]->Ve p d B a ⟨3,g⟩->Sa p.named g=some f->f.Kind=3->Ve p d B b (He f.cd)->Ve p d B x (He f.Cb)
 | alive {x a:Na} {g:Nm} {f:va}:x.Kind=24->x.Kids=[a]->Ve p d B a ⟨3,g⟩->Sa p.named g=some f->f.Kind=3->Ve p d B x ⟨2,[]⟩
theorem JL {a b:Qa}(h:Fm [decide (a.Kind=b.Kind),decide (a.xc=b.xc)]=true):a=b:=by
 cases a;cases b;simp [Fm] at h;simp [h]
theorem bP {B:se}{n:Nat}{m:List (Nm×Qa)}{C:se}{name:Nm}(h:B.take (n+1)=C++[m]):Qj (B.take (n+1)) name=match Sa m name with | some t=>some t | none=>Qj C name:=by
 rw [h];unfold Qj;rw [List.reverse_append,List.reverse_singleton,List.singleton_append,List.findSome?_cons];cases Sa m name<;>rfl
theorem NF {p:qb}{B:se}(hB:Lm p B) (la:B.length<=100) (fu:Nat) (k:110<=fu) (d:va) (name:Nm):∃ t b,Zq fu p d B name=some (t,b)/\(b=true->Bk p t/\Qj B name=some t)/\(b=false->Qj B name=none):=by
 have L:∀ (n j:Nat),j<=B.length->j<n->∃ t b,Yr name B n ((j:Int) - 1)=some (t,b)/\(b=true->Bk p t/\Qj (B.take j) name=some t)/\(b=false->Qj (B.take j) name=none):=by
  intro n
  induction n with
  | zero=>intro j c f; omega
  | succ n g =>
   intro j c f;rw [Yr];cases j with
   | zero=>rw [if_neg (by omega)]; exact ⟨_,_,rfl,by simp,λ_=>by rw [List.take_zero]; rfl⟩
   | succ j =>
    have a:j<B.length:=by omega
    have e:((j+1:Nat):Int) - 1=(j:Int):=by omega
    have i:=bP (B:=B) (n:=j) (m:=B[j]) (C:=B.take j) (name:=name) (List.take_append_getElem a).symm;rw [e,if_pos (by omega),Pg,List.getElem?_eq_getElem a,Ga,i];cases h:Sa B[j] name with
    | none =>
     rw [if_neg (by simp),Hf (by omega),Ga];exact g j (by omega) (by omega)
    | some t=>exact ⟨t,true,rfl,λ_=>⟨hB _ (List.getElem_mem _) _ _ h,rfl⟩,λh=>by cases h⟩
 rw [Zq,Hf (by omega),Ga];have:=L fu B.length (by omega) (by omega);rwa [List.take_length] at this
structure eU (n:Nat):Prop where
 typed:∀ (k:Nat) (p:qb) (d:va) (B:se) (x:Na) (t:Qa),An p d B->Ji k x->3*k+111<=n->∃ e,(Lg n).Lh p d B x t=some e/\(e=0->Ve p d B x (He t))
 args:∀ (k:Nat) (p:qb) (d:va) (B:se) (x:Na) (kind:Int),An p d B->(∀ y ∈ x.Kids,Ji k y)->x.Kids.length<=6->(kind=2\/kind=3)->3*k+112<=n ->
  ∃ Wf e,(Lg n).Ol p d B x kind=some (Wf,e)/\(e=0->∃ f,Wf=some f/\Sa p.named x.Name=some f/\f.Kind=kind/\x.Kids.length=f.Params.length/\∀ (i:Nat) (y:Na) (q:TParam),x.Kids[i]?=some y->f.Params[i]?=some q->Ve p d B y (He q.Cb))
 both:∀ (k:Nat) (p:qb) (d:va) (B:se) (x a b:Na),An p d B->x.Kids=[a,b]->Ji k a->Ji k b->3*k+112<=n->∃ t e,(Lg n).cn p d B x=some (t,e)/\(e=0->Ve p d B a t/\Ve p d B b t/\t.Kind≠3)
 handle:∀ (k:Nat) (p:qb) (d:va) (B:se) (x:Na),An p d B->Ji k x->3*k+112<=n->∃ Wf e,(Lg n).Ll p d B x=some (Wf,e)/\(e=0->∃ f g,Wf=some f/\Sa p.named g=some f/\f.Kind=3/\Ve p d B x ⟨3,g⟩)
 expr:∀ (k:Nat) (p:qb) (d:va) (B:se) (x:Na),An p d B->Ji k x->3*k+110<=n->∃ t e,(Lg n).Qi p d B x=some (t,e)/\(e=0->Bk p t/\Ve p d B x t)
theorem vK:∀ n,eU n:=by
 intro n
 induction n with
 | zero=>exact ⟨λ_ _ _ _ _ _ _ _ h=>by omega,λ_ _ _ _ _ _ _ _ _ _ h=>by omega,λ_ _ _ _ _ _ _ _ _ _ _ h=>by omega,λ_ _ _ _ _ _ _ h=>by omega,λ_ _ _ _ _ _ _ h=>by omega⟩
 | succ n v =>
  refine ⟨λk p d B x t H E Y=>?_,λk p d B x kind H E la Q Y=>?_,λk p d B x a b H E o U Y=>?_,λk p d B x H E Y=>?_,λk p d B x H E Y=>?_⟩
  ·show ∃ e,Lh (Lg n) p d B x t=some e/\_;obtain ⟨cb,e,u,s⟩:=v.expr k p d B x H E (by omega);rw [Lh,u,Ga];by_cases z:e=0
   ·rw [if_pos z,jo,Ga,jz];refine ⟨_,rfl,λr=>?_⟩;simp only at r;split at r
    ·exact absurd r (by decide)
    ·rename_i q;have pk:Fm [decide (cb.Kind=(He t).Kind),decide (cb.xc=(He t).xc)]=true:=by simpa using q
     exact JL pk ▸ (s z).2
   ·rw [if_neg z,jz];exact ⟨e,rfl,λh=>absurd h z⟩
  ·show ∃ Wf e,Ol (Lg n) p d B x kind=some (Wf,e)/\_;rw [Ol,ou,Ga];by_cases c:Cp (Sa p.named x.Name) kind=true
   ·obtain ⟨f,R,id⟩:=Mu c;rw [if_pos c,R];simp only [Ga];have dg:=H.Iq _ _ R;have dl:=dg.pl (by omega);by_cases q:(f.Params.length:Int)≠x.Kids.length
    ·rw [decide_eq_true q];exact ⟨none,5,rfl,λh=>absurd h (by decide)⟩
    ·rw [decide_eq_false q,ox,if_neg (by decide)];simp only [Ga];have L:∀ (m i:Nat),i<=f.Params.length->f.Params.length<m+i->∃ Wf e,Zr (Lg n) x p d B (some f,Cp (some f) kind) f m i=some (Wf,e)/\(e=0->Wf=some f/\∀ (j:Nat) (y:Na) (q:TParam),i<=j->x.Kids[j]?=some y->f.Params[j]?=some q->Ve p d B y (He q.Cb)):=by
      intro m
      induction m with
      | zero=>intro i u s; omega
      | succ m md =>
       intro i u s;rw [Zr];by_cases c:i<f.Params.length
       ·have wf:i<x.Kids.length:=by omega
        obtain ⟨e,sa,w⟩:=v.typed k p d B x.Kids[i] f.Params[i].Cb H (E _ (List.getElem_mem _)) (by omega);rw [if_pos (by omega),Pg,List.getElem?_eq_getElem c,Ga,Pg,List.getElem?_eq_getElem wf,Ga,sa,Ga];by_cases z:e=0
        ·rw [if_neg (by simpa using z),Hf (by omega),Ga];obtain ⟨Wf,V,W,S⟩:=md (i+1) c (by omega);refine ⟨Wf,V,W,λr=>⟨(S r).1,λj y q rg K N=>?_⟩⟩;by_cases bi:i=j
         ·subst bi;rw [List.getElem?_eq_getElem wf] at K;rw [List.getElem?_eq_getElem c] at N;obtain rfl:=Option.some.inj K;obtain rfl:=Option.some.inj N;exact w z
         ·exact (S r).2 j y q (by omega) K N
        ·rw [if_pos z];exact ⟨none,e,rfl,λh=>absurd h z⟩
       ·rw [if_neg (by omega)];refine ⟨some f,0,rfl,λ_=>⟨rfl,λj y q rg K N=>?_⟩⟩;rw [List.getElem?_eq_none (by omega)] at N;cases N
     obtain ⟨Wf,e,W,S⟩:=L (f.Params.length+1) 0 (by omega) (by omega);refine ⟨Wf,e,W,λr=>?_⟩;obtain ⟨C,F⟩:=S r;exact ⟨f,C,rfl,id,by omega,λi y q=>F i y q (by omega)⟩
   ·rw [if_neg c];exact ⟨none,7,rfl,λh=>absurd h (by decide)⟩
  ·show ∃ t e,cn (Lg n) p d B x=some (t,e)/\_;obtain ⟨ci,sa,u,s⟩:=v.expr k p d B a H o (by omega);obtain ⟨el,w,A,D⟩:=v.expr k p d B b H U (by omega);have k0:at_ x.Kids 0=some a:=by rw [E];rfl
   have k1:at_ x.Kids 1=some b:=by rw [E];rfl
   rw [cn,k0,Ga,u,Ga];by_cases z:sa=0
   ·rw [if_neg (by simpa using z),k1,Ga,A,Ga];by_cases z2:w=0
    ·rw [if_pos z2];split
     ·rename_i N;obtain rfl:=JL N;rw [Qo,Ga,ix];refine ⟨_,_,rfl,λr=>⟨(s z).2,(D z2).2,λii=>?_⟩⟩;have li:ci.Kind=3:=ii;simp [li] at r
     ·rw [ix];exact ⟨_,9,rfl,λh=>absurd h (by decide)⟩
    ·rw [if_neg z2,ix];exact ⟨_,w,rfl,λh=>absurd h z2⟩
   ·rw [if_pos z];exact ⟨_,sa,rfl,λh=>absurd h z⟩
  ·show ∃ Wf e,Ll (Lg n) p d B x=some (Wf,e)/\_;obtain ⟨t,e,u,s⟩:=v.expr k p d B x H E (by omega);rw [Ll,u,Ga];by_cases z:e=0
   ·rw [if_neg (by simpa using z),Qo,Ga];by_cases q:t.Kind≠3
    ·rw [if_pos (decide_eq_true q)];exact ⟨none,9,rfl,λh=>absurd h (by decide)⟩
    ·obtain ⟨f,O,X⟩:=(s z).1 (Decidable.not_not.1 q);rw [if_neg (by simpa using q)];have ba:t=⟨3,t.xc⟩:=by cases t;simp at q;simp [q]
     exact ⟨_,0,rfl,λ_=>⟨f,t.xc,O,O,X,by rw [<- ba];exact (s z).2⟩⟩
   ·rw [if_pos z];exact ⟨none,e,rfl,λh=>absurd h z⟩
  ·show ∃ t e,Qi n (Lg n) p d B x=some (t,e)/\_;cases k with
   | zero=>cases E
   | succ k =>
   obtain ⟨k1,nl,Q,T⟩:=E;have Z:qj x.Kind=1->∃ a,x.Kids=[a]/\Ji k a:=λh=>by
    obtain ⟨a,o⟩:=one (l:=x.Kids) (by have:=Q.eq (by omega);omega);exact ⟨a,o,T a (by simp [o])⟩
   have nd:qj x.Kind=2->∃ a b,x.Kids=[a,b]/\Ji k a/\Ji k b:=λh=>by
    obtain ⟨a,b,o⟩:=two (l:=x.Kids) (by have:=Q.eq (by omega);omega);exact ⟨a,b,o,T a (by simp [o]),T b (by simp [o])⟩
   rw [Qi];by_cases gb:x.Kind=1
   ·rw [if_pos gb];exact ⟨_,0,rfl,λ_=>⟨.of (by decide),.num gb⟩⟩
   rw [if_neg gb];by_cases rd:x.Kind=2
   ·rw [if_pos rd];exact ⟨_,0,rfl,λ_=>⟨.of (by decide),.bool rd⟩⟩
   rw [if_neg rd];by_cases wd:x.Kind=3
   ·obtain ⟨t,b,u,s,-⟩:=NF H.Tc H.Od n (by omega) d x.Name;rw [if_pos wd,u,Ga];cases b with
    | true=>exact ⟨t,0,rfl,λ_=>⟨(s rfl).1,.var wd (s rfl).2⟩⟩
    | false=>exact ⟨_,7,rfl,λh=>absurd h (by decide)⟩
   rw [if_neg wd];by_cases bb:x.Kind=4
   ·obtain ⟨a,o,P⟩:=Z (by rw [bb];rfl);obtain ⟨e,sa,w⟩:=v.typed k p d B a ⟨1,[]⟩ H P (by omega);have k0:at_ x.Kids 0=some a:=by rw [o];rfl
    rw [if_pos bb,k0,Ga,Ql,Ga,Ga,sa,Ga];exact ⟨_,e,rfl,λr=>⟨.of (by decide),.neg bb o<|w r⟩⟩
   rw [if_neg bb];by_cases Gb:x.Kind=5
   ·obtain ⟨a,o,P⟩:=Z (by rw [Gb];rfl);obtain ⟨e,sa,w⟩:=v.typed k p d B a ⟨2,[]⟩ H P (by omega);have k0:at_ x.Kids 0=some a:=by rw [o];rfl
    rw [if_pos Gb,k0,Ga,Zj,Ga,Ga,sa,Ga];exact ⟨_,e,rfl,λr=>⟨.of (by decide),.not Gb o<|w r⟩⟩
   rw [if_neg Gb];have If:∀ b,(b=true ↔ x.Kind=11\/x.Kind=12)->∃ t e,hs (Lg n) x p d B b=some (t,e)/\(e=0->Bk p t/\Ve p d B x t):=by
    intro b U;rw [hs];by_cases q:b=true
    ·have c:=U.1 q;obtain ⟨a,pi,o,gc,bd⟩:=nd (by rcases c with c | c<;>rw [c]<;>rfl);obtain ⟨t,e,u,s⟩:=v.both k p d B x a pi H o gc bd (by omega);rw [if_pos q,u,Ga,Zj,Ga];exact ⟨_,e,rfl,λr=>⟨.of (by decide),.eq c o (s r).1 (s r).2.1 (s r).2.2⟩⟩
    rw [if_neg q];have ol:x.Kind≠11:=λh=>q (U.2 (.inl h));have ul:x.Kind≠12:=λh=>q (U.2 (.inr h));by_cases Fd:x.Kind=19
    ·obtain ⟨Wf,e,u,s⟩:=v.args k p d B x 2 H T Q.le (.inl rfl) (by omega);rw [if_pos Fd,u,Ga];by_cases z:e=0
     ·obtain ⟨f,rfl,A,D,Id,be⟩:=s z;rw [if_neg (by simpa using z)];simp only [Ga];rw [jo,Ga];exact ⟨_,0,rfl,λ_=>⟨.of (by rw [Dn];exact (H.Iq _ _ A).ty (by omega)),.call Fd A D Id be⟩⟩
     ·rw [if_pos z];exact ⟨_,e,rfl,λh=>absurd h z⟩
    rw [if_neg Fd];by_cases ce:x.Kind=20
    ·rw [if_pos ce,ou,Ga];by_cases c:Cp (Sa p.named x.Name) 1=true
     ·obtain ⟨f,R,id⟩:=Mu c;rw [if_pos c,R];simp only [Ga];rw [jo,Ga];exact ⟨_,0,rfl,λ_=>⟨.of (by rw [Dn];exact (H.Iq _ _ R).ty (by omega)),.recv ce R id⟩⟩
     ·rw [if_neg c];exact ⟨_,7,rfl,λh=>absurd h (by decide)⟩
    rw [if_neg ce];by_cases lc:x.Kind=21
    ·obtain ⟨a,o,P⟩:=Z (by rw [lc];rfl);obtain ⟨e,sa,w⟩:=v.typed k p d B a d.Cb H P (by omega);have k0:at_ x.Kids 0=some a:=by rw [o];rfl
     rw [if_pos lc];by_cases Pk:d.Kind=3
     ·rw [if_neg (by simpa using Pk),k0,Ga,jo,Ga,sa,Ga];exact ⟨He d.cd,e,rfl,λr=>⟨.of (by rw [Dn];exact H.Ca.Gl Pk),.xq lc Pk o<|w r⟩⟩
     ·rw [if_pos Pk];exact ⟨_,8,rfl,λh=>absurd h (by decide)⟩
    rw [if_neg lc];by_cases ge:x.Kind=22
    ·obtain ⟨Wf,e,u,s⟩:=v.args k p d B x 3 H T Q.le (.inr rfl) (by omega);rw [if_pos ge,u,Ga];refine ⟨_,e,rfl,λr=>?_⟩;obtain ⟨f,-,A,D,Id,be⟩:=s r;exact ⟨λ_=>⟨f,A,D⟩,.start ge A D Id be⟩
    rw [if_neg ge];by_cases rc:x.Kind=23
    ·obtain ⟨a,Rc,o,gc,bd⟩:=nd (by rw [rc];rfl);obtain ⟨Wf,e,u,s⟩:=v.handle k p d B a H gc (by omega);have k0:at_ x.Kids 0=some a:=by rw [o];rfl
     have k1:at_ x.Kids 1=some Rc:=by rw [o];rfl
     rw [if_pos rc,k0,Ga,u,Ga];by_cases z:e=0
     ·obtain ⟨f,g,rfl,O,X,ne⟩:=s z;obtain ⟨V,sa,w⟩:=v.typed k p d B Rc f.cd H bd (by omega);rw [if_neg (by simpa using z)];simp only [Ga];rw [jo,k1];simp only [Ga];rw [sa,Ga];exact ⟨He f.Cb,V,rfl,λr=>⟨.of (by rw [Dn];exact (H.Iq _ _ O).ty (by omega)),.resume rc o ne O X<|w r⟩⟩
     ·rw [if_pos z];exact ⟨_,e,rfl,λh=>absurd h z⟩
    rw [if_neg rc];by_cases fd:x.Kind=24
    ·obtain ⟨a,o,P⟩:=Z (by rw [fd];rfl);obtain ⟨Wf,e,u,s⟩:=v.handle k p d B a H P (by omega);have k0:at_ x.Kids 0=some a:=by rw [o];rfl
     rw [if_pos fd,k0,Ga,u,Ga,Zj,Ga];refine ⟨_,e,rfl,λr=>?_⟩;obtain ⟨f,g,-,O,X,ne⟩:=s r;exact ⟨.of (by decide),.alive fd o ne O X⟩
    rw [if_neg fd];obtain ⟨a,Rc,o,gc,bd⟩:=nd (by unfold qj;rw [if_neg (by omega),if_neg (by omega),if_pos (by omega)]);have L:∀ (G M:Int) (C F:List UInt8) (m i:Nat),i<=x.Kids.length->x.Kids.length<m+i->∃ e,fs (Lg n) x p d B G C M F m i=some (⟨M,F⟩,e)/\(e=0->∀ y ∈ x.Kids.drop i,Ve p d B y (He ⟨G,C⟩)):=by
     intro G M C F m
     induction m with
     | zero=>intro i u s; omega
     | succ m md =>
      intro i u s;rw [fs];by_cases c:i<x.Kids.length
      ·have:=Q.le;obtain ⟨e,sa,w⟩:=v.typed k p d B x.Kids[i] ⟨G,C⟩ H (T _ (List.getElem_mem _)) (by omega);rw [if_pos (by omega),Pg,List.getElem?_eq_getElem c,Ga,sa,Ga];by_cases z:e=0
       ·rw [if_neg (by simpa using z),Hf (by omega),Ga];obtain ⟨V,W,S⟩:=md (i+1) c (by omega);refine ⟨V,W,λr y K=>?_⟩;rw [List.drop_eq_getElem_cons c] at K;rcases List.mem_cons.1 K with rfl | K
        ·exact w z
        ·exact S r y K
       ·rw [if_pos z];exact ⟨e,rfl,λh=>absurd h z⟩
      ·rw [if_neg (by omega),List.drop_eq_nil_of_le (by omega)];exact ⟨0,rfl,λ_=>by simp⟩
    have Ne:∀ (G M:Int) (C F:List UInt8),M≠3->(Ve p d B a (He ⟨G,C⟩)->Ve p d B Rc (He ⟨G,C⟩)->Ve p d B x ⟨M,F⟩)->∃ t e,lu (Lg n) x p d B G C M F=some (t,e)/\(e=0->Bk p t/\Ve p d B x t):=by
     intro G M C F h Pi;obtain ⟨e,u,s⟩:=L G M C F (x.Kids.length+1) 0 (by omega) (by omega);refine ⟨_,e,u,λr=>⟨.of h,?_⟩⟩;have:=s r;rw [List.drop_zero,o] at this;exact Pi (this a (by simp))<|this Rc (by simp)
    rw [Ql,Ga,Ga,Zj];simp only [Ga];split
    ·exact Ne _ _ _ _ (by decide) λA D=>.jk (by omega) o A D
    ·split
     ·exact Ne _ _ _ _ (by decide) λA D=>.lt (by omega) o A D
     ·exact Ne _ _ _ _ (by decide) λA D=>.cz (by omega) o A D
   split
   ·rename_i h;exact If _ (by simp [h])
   ·rename_i h;exact If _ (by simp [h])
mutual
inductive hk (p:qb) (d:va):se->List Pa->se->Prop
 | nil (B:se):hk p d B [] B
 | cons {B a b:se} {s:Pa} {l:List Pa}:Vm p d B s a->hk p d a l b->hk p d B (s::l) b
inductive Vm (p:qb) (d:va):se->Pa->se->Prop
 | Eo {B:se} {s:Pa} {t:Qa} (h:B.length - 1<B.length):s.Kind=1->Ve p d B s.X t->Qj B s.Name=none->Vm p d B s (B.set (B.length - 1) (dd B[B.length - 1] s.Name t))
 | sset {B:se} {s:Pa} {t:Qa}:s.Kind=2->Qj B s.Name=some t->Ve p d B s.X (He t)->Vm p d B s B
 | yq {B a b:se} {s:Pa}:s.Kind=3->Ve p d B s.X ⟨2,[]⟩->hk p d (B++[[]]) s.Body a->hk p d (B++[[]]) s.kf b->Vm p d B s B
 | OG {B a:se} {s:Pa}:s.Kind=4->Ve p d B s.X ⟨2,[]⟩->hk p d (B++[[]]) s.Body a->Vm p d B s B
 | oq {B:se} {s:Pa}:s.Kind=5->d.Kind=2->Ve p d B s.X (He d.Cb)->Vm p d B s B
 | jG {B:se} {s:Pa}:s.Kind=6->d.Kind≠2->Vm p d B s B
 | jq {B:se} {s:Pa} {f:va}:s.Kind=7->Sa p.named s.Name=some f->f.Kind=1->Ve p d B s.X (He f.Cb)->Vm p d B s B
 | xp {B:se} {s:Pa} {t:Qa}:s.Kind=8->Ve p d B s.X t->t.Kind≠3->Vm p d B s B
 | zq {B:se} {s:Pa} {t:Qa}:s.Kind=9->Ve p d B s.X t->Vm p d B s B
end
structure dS (n:Nat):Prop where
 stats:∀ (k:Nat) (p:qb) (d:va) (B:se) (l:List Pa),An p d B->l.length<=50->(∀ y ∈ l,Tm k y)->B.length+k<=90->5*k+130<=n ->
  ∃ e,(Pl n).Rk p d B l=some (e,B)/\(e=0->∃ a,hk p d (B++[[]]) l a)
 stat:∀ (k:Nat) (p:qb) (d:va) (B:se) (s:Pa),An p d B->0<B.length->Tm k s->B.length+k<=91->5*k+129<=n ->
  ∃ e a,(Pl n).dn p d B s=some (e,a)/\a.length=B.length/\a.take (B.length - 1)=B.take (B.length - 1)/\Lm p a/\(e=0->Vm p d B s a)
theorem eS:∀ n,dS n:=by
 intro n
 induction n with
 | zero=>exact ⟨λ_ _ _ _ _ _ _ _ _ h=>by omega,λ_ _ _ _ _ _ _ _ _ h=>by omega⟩
 | succ n M =>
  refine ⟨λk p d B l H la G hB Z=>?_,λk p d B s H Fd G hB Z=>?_⟩
  ·show ∃ e,Rk (Pl n) p d B l=some (e,B)/\_;rw [Rk,app,if_pos (by simp;omega),Ga,mx];have L:∀ (m i:Nat) (a:se),i<=l.length->l.length<m+i->a.length=B.length+1->a.take B.length=B->Lm p a ->
     ∃ e,Ur (Pl n) l p d m i a=some (e,B)/\(e=0->∃ D,hk p d a (l.drop i) D):=by
    intro m
    induction m with
    | zero=>intro i a j g; omega
    | succ m bb =>
     intro i a j g w y E;rw [Ur];have pop:∀ C:se,C.length=B.length+1->C.take B.length=B->Ls p d C=some B:=λC sa v=>by
      rw [gI p d C (by omega) (by omega),sa,Nat.add_sub_cancel,v]
     by_cases c:i<l.length
     ·obtain ⟨e,D,Gb,N,S,gc,lc⟩:=M.stat k p d a l[i] ⟨H.Iq,H.Ca,E,by omega⟩ (by omega) (G _ (List.getElem_mem _)) (by omega) (by omega);rw [w,Nat.add_sub_cancel] at S;rw [w] at N;have v:D.take B.length=B:=S.trans y;rw [if_pos (by omega),Pg,List.getElem?_eq_getElem c,Ga,Gb,Ga];by_cases z:e=0
      ·rw [if_neg (by simpa using z),Hf (by omega),Ga];obtain ⟨rc,s1,s2⟩:=bb (i+1) D c (by omega) N v gc;refine ⟨rc,s1,λr=>?_⟩;rw [List.drop_eq_getElem_cons c];obtain ⟨fd,id⟩:=s2 r;exact ⟨fd,.cons (lc z) id⟩
      ·rw [if_pos z];simp only [];rw [pop D N v,Ga];exact ⟨e,rfl,λh=>absurd h z⟩
     ·rw [if_neg (by omega),pop a w y,Ga,List.drop_eq_nil_of_le (by omega)];exact ⟨0,rfl,λ_=>⟨a,.nil a⟩⟩
   have:=L (l.length+1) 0 (B++[[]]) (by omega) (by omega) (by simp) (by simp) (λm x k' t O=>by
    rcases List.mem_append.1 x with x | x
    ·exact H.Tc m x k' t O
    ·rw [List.mem_singleton.1 x] at O;cases O)
   obtain ⟨e,sa,v⟩:=this;rw [List.drop_zero] at v;exact ⟨e,sa,v⟩
  ·show ∃ e a,dn n (Pl n) p d B s=some (e,a)/\_;cases k with
   | zero=>cases G
   | succ k =>
   obtain ⟨k1,Id,A,T,he⟩:=G;have K:=(vK n).typed k p d B s.X;have P:=(vK n).expr k p d B s.X;have same:∀ e:Int,(e=0->Vm p d B s B)->∀ o:Option (Int×se),o=some (e,B)->∃ e a,o=some (e,a)/\a.length=B.length/\a.take (B.length - 1)=B.take (B.length - 1)/\Lm p a/\(e=0->Vm p d B s a):=
    λe h o md=>⟨e,B,md,rfl,rfl,H.Tc,h⟩
   rw [dn];by_cases gb:s.Kind=1
   ·obtain ⟨t,e,j,g⟩:=P H (A (by omega)) (by omega);rw [if_pos gb,j,Ga];by_cases z:e=0
    ·obtain ⟨cb,b,w,y,E⟩:=NF H.Tc H.Od n (by omega) d s.Name;rw [if_neg (by simpa using z),w,Ga];cases b with
     | true=>exact same 7 (λh=>absurd h (by decide)) _ rfl
     | false =>
      have U:B.length - 1<B.length:=by omega
      have sa:(B.length:Int) - 1=((B.length - 1:Nat):Int):=by omega
      rw [if_neg (by simp),Hf (by omega),Ga,sa,Pg,List.getElem?_eq_getElem U,Ga,mu];refine ⟨0,_,rfl,by simp,?_,λm x k' u F=>?_,λ_=>.Eo U gb (g z).2 (E rfl)⟩
      ·simp [List.take_set_of_le]
      ·rcases List.mem_or_eq_of_mem_set x with x | rfl
       ·exact H.Tc m x k' u F
       ·rw [sk] at F;split at F
        ·obtain rfl:=Option.some.inj F;exact (g z).1
        ·exact H.Tc _ (List.getElem_mem _) k' u F
    ·rw [if_pos z];exact same e (λh=>absurd h z) _ rfl
   rw [if_neg gb];by_cases c2:s.Kind=2
   ·obtain ⟨cb,b,w,y,-⟩:=NF H.Tc H.Od n (by omega) d s.Name;rw [if_pos c2,w,Ga];cases b with
    | false=>exact same 7 (λh=>absurd h (by decide)) _ rfl
    | true =>
     obtain ⟨e,j,g⟩:=K cb H (A (by omega)) (by omega);rw [if_pos rfl,j,Ga];exact same e (λr=>.sset c2 (y rfl).2 (g r)) _ rfl
   rw [if_neg c2];have V:∀ b,(b=true ↔ s.Kind=3\/s.Kind=4)->∃ e a,js n (Pl n) s p d B b=some (e,a)/\a.length=B.length/\a.take (B.length - 1)=B.take (B.length - 1)/\Lm p a/\(e=0->Vm p d B s a):=by
    intro b Q;rw [js];by_cases q:b=true
    ·have c:=Q.1 q;obtain ⟨e,j,g⟩:=K ⟨2,[]⟩ H (A (by omega)) (by omega);rw [if_pos q,Zj,Ga,j,Ga];by_cases z:e=0
     ·rw [if_neg (by simpa using z)];obtain ⟨v,w,y⟩:=M.stats k p d B s.Body H (T c).1 (T c).2 (by omega) (by omega);rw [w,Ga];by_cases z2:v=0
      ·rw [if_neg (by simpa using z2)];obtain ⟨be,E⟩:=y z2;by_cases c4:s.Kind=4
       ·rw [decide_eq_true c4];exact same v (λ_=>.OG c4 (g z) E) _ rfl
       ·have R:s.Kind=3:=by omega
        obtain ⟨nd,f1,f2⟩:=M.stats k p d B s.kf H (he R).1 (he R).2 (by omega) (by omega);rw [decide_eq_false c4,vv,if_neg (by decide)];simp only [];rw [f1,Ga];refine same nd (λr=>?_) _ rfl;obtain ⟨D,f3⟩:=f2 r;exact .yq R (g z) E f3
      ·rw [if_pos z2];exact same v (λh=>absurd h z2) _ rfl
     ·rw [if_pos z];exact same e (λh=>absurd h z) _ rfl
    rw [if_neg q];have ce:s.Kind≠3:=λh=>q (Q.2 (.inl h));have ge:s.Kind≠4:=λh=>q (Q.2 (.inr h));by_cases c5:s.Kind=5
    ·rw [if_pos c5];split
     ·exact same 8 (λh=>absurd h (by decide)) _ rfl
     ·rename_i W;obtain ⟨e,j,g⟩:=K d.Cb H (A (by omega)) (by omega);rw [j,Ga];exact same e (λr=>.oq c5 (by omega)<|g r) _ rfl
    rw [if_neg c5];by_cases Uc:s.Kind=6
    ·rw [if_pos Uc];split
     ·exact same 8 (λh=>absurd h (by decide)) _ rfl
     ·rename_i W;exact same 0 (λr=>.jG Uc W) _ rfl
    rw [if_neg Uc];by_cases ng:s.Kind=7
    ·rw [if_pos ng,ou,Ga];by_cases c:Cp (Sa p.named s.Name) 1=true
     ·obtain ⟨f,Y,rd⟩:=Mu c;obtain ⟨e,j,g⟩:=K f.Cb H (A (by omega)) (by omega);rw [if_pos c,Y];simp only [Ga];rw [j,Ga];exact same e (λr=>.jq ng Y rd<|g r) _ rfl
     ·rw [if_neg c];exact same 7 (λh=>absurd h (by decide)) _ rfl
    rw [if_neg ng];by_cases Lf:s.Kind=8
    ·obtain ⟨t,e,j,g⟩:=P H (A (by omega)) (by omega);rw [if_pos Lf,j,Ga];by_cases z:e=0
     ·rw [if_pos z,Qo,Ga,lz];refine same _ (λr=>.xp Lf (g z).2 λwd=>?_) _ rfl;simp [wd] at r
     ·rw [if_neg z,lz];exact same e (λh=>absurd h z) _ rfl
    rw [if_neg Lf];by_cases c9:s.Kind=9
    ·obtain ⟨t,e,j,g⟩:=P H (A (by omega)) (by omega);rw [if_pos c9,j,Ga];exact same e (λr=>.zq c9 (g r).2) _ rfl
    ·omega
   split
   ·rename_i h;exact V _ (by simp [h])
   ·rename_i h;exact V _ (by simp [h])
def Kt (d:va):List (Nm×Qa):=d.Params.foldl (λm q=>dd m q.Name (He q.Cb)) []
theorem fS (fu:Nat) (D:500<=fu) (p:qb) (d:va) (w:ZG p) (g:vo p d) (Ca:Ut d):∃ e,ar fu p d=some e/\(e=0->d.Kind≠1->∃ f,hk p d ([if d.Kind=4 then [] else Kt d]++[[]]) d.Body f):=by
 rw [ar];by_cases gb:d.Kind=1
 ·rw [if_pos gb];exact ⟨0,rfl,λ_ h=>absurd gb h⟩
 ·rw [if_neg gb];have r:∀ B:se,B.length=1->Lm p B->∃ e,ns fu p d B=some e/\(e=0->∃ f,hk p d (B++[[]]) d.Body f):=by
   intro B s j;obtain ⟨e,x,y⟩:=(eS fu).stats 39 p d B d.Body ⟨w,g,j,by omega⟩ (Ca.Od gb) (Ca.dx gb) (by omega) (by omega);rw [ns,x,Ga];exact ⟨e,rfl,y⟩
  by_cases c4:d.Kind=4
  ·rw [if_neg (by simpa using c4),if_pos c4];obtain ⟨e,sa,l⟩:=r [[]] rfl (λm n k t a=>by rw [List.mem_singleton.1 n] at a;cases a);exact ⟨e,sa,λh _=>l h⟩
  ·rw [if_pos c4,if_neg c4];have u:d.Kind=2\/d.Kind=3:=by have:=Ca.k1;have:=Ca.Xe;omega
   have E:=g.pl u;have L:∀ (m i:Nat) (b:List (Nm×Qa)),i<=d.Params.length->d.Params.length<m+i->b=(d.Params.take i).foldl (λm q=>dd m q.Name (He q.Cb)) []->Lm p [b]->∃ e,Tq fu p d m i [b]=some e/\(e=0->∃ f,hk p d ([Kt d]++[[]]) d.Body f):=by
    intro m
    induction m with
    | zero=>intro i B s j; omega
    | succ m z =>
     intro i b s j v o;rw [Tq];by_cases c:i<d.Params.length
     ·have A:0<[b].length:=by simp
      rw [if_pos (by omega),Pg,List.getElem?_eq_getElem c,Ga,AG A,Ga,jo,Ga,qx,Hf (by omega),Ga];refine z (i+1) (dd b d.Params[i].Name<|He d.Params[i].Cb) c (by omega) ?_<|λF C k t a=>?_
      ·rw [<- List.take_append_getElem c,List.foldl_append,<- v];rfl
      ·rw [List.mem_singleton.1 C,sk] at a;split at a
       ·obtain rfl:=Option.some.inj a;exact (g.zg u _<|List.getElem_mem _).bare
       ·exact o b (by simp) k t a
     ·rw [if_neg (by omega)];have e:b=Kt d:=by rw [v,List.take_of_length_le (by omega)];rfl
      rw [e] at o ⊢;exact r _ rfl o
   obtain ⟨e,sa,l⟩:=L (d.Params.length+1) 0 [] (by omega) (by omega) rfl (λm n k t a=>by rw [List.mem_singleton.1 n] at a;cases a);exact ⟨e,sa,λh _=>l h⟩
end
section
open Go.Bc Go.Re
section
variable {fu:Nat}{l:List va}
theorem PG {α β:Type}{f:α->Option β}:Option.bind (none:Option α) f=none:=rfl
theorem fU (la:l.length<=30) (N:List (Nm×va)) (p:qb) (f:Vd):∀ (m i:Nat),Qq fu l N m i=some (p,f)->f.Te=0->p=⟨l,N⟩/\∀ j (a:j<l.length),i<=j->ar fu ⟨l,N⟩ l[j]=some 0:=by
 intro m
 induction m with
 | zero=>intro i h; cases h
 | succ m d =>
  intro i h b;rw [Qq] at h;by_cases c:i<l.length
  ·rw [if_pos (by omega),Pg,List.getElem?_eq_getElem c,Ga] at h;cases e:ar fu ⟨l,N⟩ l[i] with
   | none=>rw [e,PG] at h; cases h
   | some r =>
    rw [e,Ga] at h;by_cases z:r≠0
    ·rw [if_pos z] at h;obtain ⟨rfl,rfl⟩:=Prod.mk.inj (Option.some.inj h);exact absurd b z
    ·rw [if_neg z,Hf (by omega),Ga] at h;obtain ⟨g,k⟩:=d (i+1) h b;refine ⟨g,λj a n=>?_⟩;by_cases q:j=i
     ·subst q;rw [e,Decidable.not_not.1 z]
     ·exact k j a (by omega)
  ·rw [if_neg (by omega)] at h;obtain ⟨rfl,rfl⟩:=Prod.mk.inj (Option.some.inj h);exact ⟨rfl,λj a n=>by omega⟩
theorem gU (la:l.length<=30) (N:List (Nm×va)) (p:qb) (f:Vd):∀ (m i:Nat),Rq fu l N m i=some (p,f)->f.Te=0->Qq fu l N (l.length+1) 0=some (p,f):=by
 intro m
 induction m with
 | zero=>intro i h; cases h
 | succ m b =>
  intro i h a;rw [Rq] at h;by_cases c:i<l.length
  ·rw [if_pos (by omega),Pg,List.getElem?_eq_getElem c,Ga] at h;cases e:Rv ⟨l,N⟩ l[i] with
   | none=>rw [e,PG] at h; cases h
   | some r =>
    rw [e,Ga] at h;by_cases z:r≠0
    ·rw [if_pos z] at h;obtain ⟨rfl,rfl⟩:=Prod.mk.inj (Option.some.inj h);exact absurd a z
    ·rw [if_neg z,Hf (by omega),Ga] at h;exact b (i+1) h a
  ·rw [if_neg (by omega)] at h;exact h
theorem hU (la:l.length<=30) (p:qb) (f:Vd):∀ (m i:Nat) (t:Int) (N:List (Nm×va)),Sq fu l m t i N=some (p,f)->f.Te=0->∃ N,Rq fu l N (l.length+1) 0=some (p,f):=by
 intro m
 induction m with
 | zero=>intro i t N h; cases h
 | succ m b =>
  intro i t N h a;rw [Sq] at h;by_cases c:i<l.length
  ·have lb:at_ l (i:Int)=some l[i]:=by rw [Pg,List.getElem?_eq_getElem c]
   rw [if_pos (by omega),lb,Ga] at h;by_cases q:(Sa N l[i].Name).isSome=true
   ·rw [if_pos q] at h;obtain ⟨rfl,rfl⟩:=Prod.mk.inj (Option.some.inj h);exact absurd a (by show ¬ (7:Int)=0;decide)
   ·rw [if_neg q,Ga,Ga,Ga] at h;by_cases Xe:l[i].Kind=4
    ·rw [if_pos Xe] at h;cases e:i64 (t+1) with
     | none=>rw [e,PG] at h; cases h
     | some cb =>
      rw [e,Ga,Hf (by omega),Ga] at h;exact b (i+1) cb _ h a
    ·rw [if_neg Xe,Hf (by omega),Ga] at h;exact b (i+1) t _ h a
  ·rw [if_neg (by omega)] at h;by_cases t0:t=0
   ·rw [if_pos t0] at h;obtain ⟨rfl,rfl⟩:=Prod.mk.inj (Option.some.inj h);exact absurd a (by show ¬ (6:Int)=0;decide)
   ·rw [if_neg t0] at h;exact ⟨N,h⟩
theorem kQ (b:500<=fu){p:qb}{f:Vd}(h:Fs fu l=some (p,f)) (a:f.Te=0):(∀ d ∈ l,Vt d)/\∀ d ∈ l,d.Kind≠1->∃ m,hk p d ([if d.Kind=4 then [] else Kt d]++[[]]) d.Body m:=by
 obtain ⟨dz,t,c,n⟩:=rH fu b l;rw [h] at c;obtain ⟨rfl,rfl⟩:=Prod.mk.inj (Option.some.inj c);have R:=n a;have la:=R.ok.le;obtain ⟨g,i,-⟩:=dD fu (by omega) l;rw [Fs,i,Ga] at h;by_cases z:g.Te≠0
 ·rw [if_pos z] at h;obtain ⟨-,rfl⟩:=Prod.mk.inj (Option.some.inj h);exact absurd a z
 ·rw [if_neg z] at h;refine ⟨(dU (by omega) i<|Decidable.not_not.1 z).2,?_⟩;obtain ⟨N,h⟩:=hU la p f _ 0 0 _ h a;obtain ⟨rfl,o⟩:=fU la N p f _ 0 (gU la N p f _ 0 h a) a;intro d Ca k1;obtain ⟨j,q,rfl⟩:=List.getElem_of_mem Ca;obtain ⟨e,sa,r⟩:=fS fu b ⟨l,N⟩ l[j] (λk d s=>R.Ca d (R.only k d s).1) (R.Ca _ Ca) (R.ok.ok _ Ca);rw [o j q (Nat.zero_le _)] at sa;exact r (Option.some.inj sa).symm k1
end
def kG (u:rf) (H:List Nm) (d:va):Prop:=(∀ z ∈ Jq d,z ∈ u.Sk)/\(∀ z ∈ Kq d,z ∈ u.wk)/\∀ c ∈ Hj d,c ∈ H
theorem zE (N:List (Nm×va)):∀ (cs a:List Nm) (todo:List (Option va)),(∀ c ∈ a,c ∈ (Nk N cs a todo).1)/\(∀ c ∈ cs,c ∈ (Nk N cs a todo).1)/\(∀ o ∈ todo,o ∈ (Nk N cs a todo).2)/\∀ c ∈ (Nk N cs a todo).1,c ∈ a\/Sa N c ∈ (Nk N cs a todo).2
 | [],a,todo=>⟨λc h=>h,λc h=>(by cases h),λo h=>h,λc h=>.inl h⟩
 | c::cs,a,todo=>by
  rw [Nk];by_cases k:a.contains c=true
  ·rw [if_pos k];obtain ⟨d,f,e,g⟩:=zE N cs a todo;refine ⟨d,λx b=>?_,e,g⟩;rcases List.mem_cons.1 b with rfl | b
   ·exact d _ (by simpa using k)
   ·exact f x b
  ·rw [if_neg k];obtain ⟨d,f,e,g⟩:=zE N cs (a++[c]) (todo++[Sa N c]);refine ⟨λx b=>d x (List.mem_append_left _ b),λx b=>?_,λo i=>e o (List.mem_append_left _ i),λx b=>?_⟩
   ·rcases List.mem_cons.1 b with rfl | b
    ·exact d _ (by simp)
    ·exact f x b
   ·rcases g x b with h | h
    ·rcases List.mem_append.1 h with h | h
     ·exact .inl h
     ·rw [List.mem_singleton.1 h];exact .inr<|e _ (by simp)
    ·exact .inr h
theorem gS (N:List (Nm×va)):∀ (n:Nat) (a:List Nm) (todo:List (Option va)) (s r:List Nm) (u:rf),Yn N n a todo s r=some u->∃ H,(∀ c ∈ a,c ∈ H)/\(∀ z ∈ s,z ∈ u.Sk)/\(∀ z ∈ r,z ∈ u.wk)/\(∀ d,some d ∈ todo->kG u H d)/\∀ c ∈ H,c ∉ a->∀ d,Sa N c=some d->kG u H d:=by
 intro n
 induction n with
 | zero=>intro a todo s r u h; cases h
 | succ n p =>
  intro a todo s r u h;cases todo with
  | nil =>
   rw [Yn] at h;obtain rfl:=Option.some.inj h;exact ⟨a,λc h=>h,λz h=>h,λz h=>h,λd h=>(by cases h),λc h v=>absurd h v⟩
  | cons o t =>
   cases o with
   | none=>rw [Yn] at h; cases h
   | some d =>
    rw [Yn] at h;obtain ⟨pa,a2,a3,a4⟩:=zE N (Hj d) a t;obtain ⟨H,j,k,l,m,w⟩:=p _ _ _ _ u h;refine ⟨H,λc g=>j c<|pa c g,λz b=>k z<|List.mem_append_left _ b,λz b=>l z<|List.mem_append_left _ b,λi f=>?_,λc g x i f=>?_⟩
    ·rcases List.mem_cons.1 f with e | f
     ·obtain rfl:=Option.some.inj e;exact ⟨λz b=>k z<|List.mem_append_right _ b,λz b=>l z<|List.mem_append_right _ b,λc g=>j c<|a2 c g⟩
     ·exact m i<|a3 _ f
    ·by_cases q:c ∈ (Nk N (Hj d) a t).1
     ·rcases a4 c q with q | q
      ·exact absurd q x
      ·rw [f] at q;exact m i q
     ·exact w c g q i f
inductive pq (N:List (Nm×va)) (a:va):va->Prop
 | refl:pq N a a
 | step {b e:va} {c:Nm}:pq N a b->c ∈ Hj b->Sa N c=some e->pq N a e
theorem lQ {N:List (Nm×va)}{n:Nat}{a:va}{u:rf}(h:Yn N n [] [some a] [] []=some u):∀ {d:va},pq N a d->(∀ z ∈ Jq d,z ∈ u.Sk)/\∀ z ∈ Kq d,z ∈ u.wk:=by
 obtain ⟨H,-,-,-,b,c⟩:=gS N n [] [some a] [] [] u h;have key:∀ {d:va},pq N a d->kG u H d:=by
  intro d Ca
  induction Ca with
  | refl=>exact b a (by simp)
  | step i e f g=>exact c _ (g.2.2 _ e) (by simp) _ f
 exact λ{d} Ca=>⟨(key Ca).1,(key Ca).2.1⟩
theorem iF (N:List (Nm×va)) (fu:Nat) (n:Nm):∀ (ds:List va) (L:List (Nm×rf)),(∀ d ∈ ds,d.Name≠n)->Sa (Uk N fu ds L) n=Sa L n
 | [],L,h=>rfl
 | d::ds,L,h=>by
  rw [Uk];have a:∀ e ∈ ds,e.Name≠n:=λe b=>h e (List.mem_cons_of_mem _ b);split
  ·rw [iF N fu n ds _ a,sk,if_neg (h d (List.mem_cons_self ..))]
  ·exact iF N fu n ds L a
theorem AE (N:List (Nm×va)) (fu:Nat){t:va}(Xe:t.Kind=4):∀ (ds:List va) (L:List (Nm×rf)),(ds.Pairwise λa b=>a.Name≠b.Name)->t ∈ ds->Sa (Uk N fu ds L) t.Name=some ((Yn N fu [] [some t] [] []).getD Um)
 | d::ds,L,Ca,c=>by
  obtain ⟨g,f⟩:=List.pairwise_cons.1 Ca;rw [Uk];rcases List.mem_cons.1 c with rfl | c
  ·rw [if_pos Xe,iF N fu t.Name ds _ (λe h=>(g e h).symm),sk,if_pos rfl]
  ·split
   ·exact AE N fu Xe ds _ f c
   ·exact AE N fu Xe ds _ f c
def Lt (L:List (Nm×rf)) (b:Nm) (t:va):Prop:=t.Kind=4/\((Sa L t.Name).getD Um).Sk.contains b=true
def Mt (L:List (Nm×rf)) (b:Nm) (t:va):Prop:=t.Kind=4/\((Sa L t.Name).getD Um).wk.contains b=true
theorem BE (L:List (Nm×rf)) (b:Nm):∀ (na:List va) (w r:Nm) (x:Nm×Nm),(∀ t ∈ na,t.Name≠[])->vp L b na w r=some x->((w≠[]->∀ t ∈ na,¬ Lt L b t)/\na.Pairwise λa c=>¬ (Lt L b a/\Lt L b c))/\((r≠[]->∀ t ∈ na,¬ Mt L b t)/\na.Pairwise λa c=>¬ (Mt L b a/\Mt L b c))
 | [],w,r,x,i,h=>⟨⟨λ_ t g=>(by cases g),List.Pairwise.nil⟩,λ_ t g=>(by cases g),List.Pairwise.nil⟩
 | t::na,w,r,x,i,h=>by
  have j:∀ e ∈ na,e.Name≠[]:=λe d=>i e (List.mem_cons_of_mem _ d);have g:=i t (List.mem_cons_self ..);rw [vp] at h;by_cases Xe:t.Kind≠4
  ·rw [if_pos Xe] at h;obtain ⟨⟨pa,a2⟩,ka,jd⟩:=BE L b na w r x j h;have ld:¬ Lt L b t:=λq=>Xe q.1;have ao:¬ Mt L b t:=λq=>Xe q.1;refine ⟨⟨λf e d=>?_,List.pairwise_cons.2 ⟨λe _ q=>ld q.1,a2⟩⟩,λf e d=>?_,List.pairwise_cons.2 ⟨λe _ q=>ao q.1,jd⟩⟩
   ·rcases List.mem_cons.1 d with rfl | d
    ·exact ld
    ·exact pa f e d
   ·rcases List.mem_cons.1 d with rfl | d
    ·exact ao
    ·exact ka f e d
  ·rw [if_neg Xe] at h;have Xe:t.Kind=4:=Decidable.not_not.1 Xe;by_cases gb:((Sa L t.Name).getD Um).Sk.contains b=true/\w≠[]
   ·rw [if_pos gb] at h;cases h
   rw [if_neg gb] at h;by_cases c2:((Sa L t.Name).getD Um).wk.contains b=true/\r≠[]
   ·rw [if_pos c2] at h;cases h
   rw [if_neg c2] at h;obtain ⟨⟨pa,a2⟩,ka,jd⟩:=BE L b na _ _ x j h;refine ⟨⟨λf e d=>?_,List.pairwise_cons.2 ⟨λe d q=>?_,a2⟩⟩,λf e d=>?_,List.pairwise_cons.2 ⟨λe d q=>?_,jd⟩⟩
   ·rcases List.mem_cons.1 d with rfl | d
    ·exact λq=>gb ⟨q.2,f⟩
    ·exact pa (by split<;>assumption) e d
   ·rw [if_pos q.1.2] at pa;exact pa g e d q.2
   ·rcases List.mem_cons.1 d with rfl | d
    ·exact λq=>c2 ⟨q.2,f⟩
    ·exact ka (by split<;>assumption) e d
   ·rw [if_pos q.1.2] at ka;exact ka g e d q.2
theorem CE (L:List (Nm×rf)) (l:List va):∀ (xs:List va) (i:Int) (acc:List ai),(Ar L l xs i acc).2.Te=0->∀ x ∈ xs,x.Kind=1->∃ y,vp L x.Name l [] []=some y
 | [],i,acc,h,x,a,_=>by cases a
 | z::xs,i,acc,h,x,a,k1=>by
  rw [Ar] at h;by_cases c:z.Kind≠1
  ·rw [if_pos c] at h;rcases List.mem_cons.1 a with rfl | a
   ·exact absurd k1 c
   ·exact CE L l xs _ _ h x a k1
  ·rw [if_neg c] at h;cases e:vp L z.Name l [] [] with
   | none=>rw [e] at h; exact absurd h (by show ¬ (8:Int)=0; decide)
   | some y =>
    rw [e] at h;rcases List.mem_cons.1 a with rfl | a
    ·exact ⟨y,e⟩
    ·exact CE L l xs _ _ h x a k1
end
def lC:Nat->Na->Prop
 | 0,_=>False
 | k+1,x=>x.Kids.length<=2513169434916/\∀ y ∈ x.Kids,lC k y
def gv:Nat->Pa->Prop
 | 0,_=>False
 | k+1,s=>lC k s.X/\(s.Body.length<=1099511627776/\∀ y ∈ s.Body,gv k y)/\(s.kf.length<=1099511627776/\∀ y ∈ s.kf,gv k y)
def QG (k:Nat) (d:va):Prop:=d.Params.length<=3518437208883/\d.Body.length<=1099511627776/\∀ y ∈ d.Body,gv k y
def KL (k:Nat) (l:List va):Prop:=l.length<=1099511627776/\∀ d ∈ l,QG k d
section
open Go.Bc Go.Re
def xC {α:Type}(R:α->α->Prop) (l Aa:List α):Prop:=Aa.length=l.length/\∀ (i:Nat) (y:α),l[i]?=some y->∃ a,Aa[i]?=some a/\R y a
end
open Go.Bc Go.Re
def bH:Nat->Na->Na->Prop
 | 0,_,_=>False
 | k+1,x,a=>a.Kind=x.Kind/\(x.Kind=1\/x.Kind=2->a.N=x.N)/\(x.Kind=3\/x.Kind=20\/x.Kind=19\/x.Kind=22->a.Name=x.Name)/\xC (bH k) x.Kids a.Kids
def cH:Nat->Pa->Pa->Prop
 | 0,_,_=>False
 | k+1,s,Ib=>Ib.Kind=s.Kind/\(s.Kind=1\/s.Kind=2\/s.Kind=7->Ib.Name=s.Name)/\(s.Kind≠6->bH k s.X Ib.X)/\(s.Kind=3\/s.Kind=4->xC (cH k) s.Body Ib.Body)/\(s.Kind=3->xC (cH k) s.kf Ib.kf)
end Go.Y
