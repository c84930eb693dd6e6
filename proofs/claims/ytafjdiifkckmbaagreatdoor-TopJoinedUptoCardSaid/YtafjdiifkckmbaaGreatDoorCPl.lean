/- Texts of TopJoined Pl. -/
import Derived.Test.YtafjdiifkckmbaaGreatDoorCMd
set_option linter.unusedSimpArgs false
set_option linter.unusedVariables false
set_option linter.unusedSectionVars false
namespace Go.Y
open Go.Mc Go.Kf
theorem Gf {n:Int}(h:-9223372036854775808<=n/\n<=9223372036854775807):i64 n=some n:=if_pos h
theorem Ga {α β:Type}{x:α}{f:α->Option β}:Option.bind (some x) f=f x:=rfl
theorem Lg {α:Type}{l:List α}{i:Nat}:at_ l (i:Int)=l[i]?:=by simp [at_]
theorem OG {α:Type}{l:List α}(h:0<l.length):at_ l 0=some l[0]:=by simp [at_,h]
theorem QH (c:UInt8):∃ b,Zs c=some b:=by
 unfold Zs;split
 ·split<;>exact ⟨_,rfl⟩
 ·exact ⟨_,rfl⟩
theorem cO (c:UInt8):∃ b,et c=some b:=by
 unfold et;split<;>exact ⟨_,rfl⟩
theorem iS (c:UInt8):∃ b,Kt c=some b:=by
 obtain ⟨a,d⟩:=QH c;obtain ⟨b,e⟩:=cO c;unfold Kt;rw [d,Ga,e,Ga];split<;>exact ⟨_,rfl⟩
theorem mI (l:List UInt8) (p:UInt8->Option Bool) (a:∀ c,∃ b,p c=some b) (ma:l.length<=65536):∀ (n i:Nat),i<=l.length->l.length<n+i->∃ r,En l p n (i:Int)=some r
 | 0,i,d,e=>by omega
 | n+1,i,d,e=>by
  rw [En];by_cases c:i<l.length
  ·obtain ⟨b,f⟩:=a l[i];rw [if_pos (by omega),Lg,List.getElem?_eq_getElem c,Ga,f,Ga];cases b with
   | true=>rw [Qs,if_pos rfl,Gf (by omega),Ga]; exact mI l p a ma n (i+1) c (by omega)
   | false=>exact ⟨_,rfl⟩
  ·rw [if_neg (by omega)];exact ⟨_,rfl⟩
theorem Uv (fu:Nat) (i:20<=fu) (s:List UInt8):∃ b,qi fu s=some b:=by
 have a:∀ b,(b=true\/s.length<=12)->∃ r,Uo fu s b=some r:=by
  intro b c;cases b with
  | true=>exact ⟨_,rfl⟩
  | false =>
   have j:s.length<=12:=by simpa using c
   obtain ⟨r,f⟩:=mI s Kt iS (by omega) fu 0 (by omega) (by omega);have g:Hu fu s Kt=some r:=f;exact ⟨_,by rw [Uo,if_neg (by decide),g,Ga]⟩
 rw [qi];by_cases d:(s.length:Int)<1
 ·rw [if_pos d];exact a _<|.inl rfl
 ·rw [if_neg d];by_cases e:(12:Int)<s.length
  ·rw [if_pos e];exact a _<|.inl rfl
  ·have h:0<s.length:=by omega
   obtain ⟨b,c⟩:=QH s[0];rw [if_neg e,OG h,Ga,c,Ga];cases b with
   | false=>rw [if_neg (by decide)]; exact a _<|.inl rfl
   | true =>
    rw [if_pos rfl,cat,if_pos (by simp;omega),Ga,cat,if_pos (by simp;omega),Ga,rB,if_pos (by decide +kernel),Ga];exact a _<|.inr (by omega)
def uj (k:Int):Int:=if k<=3\/k=20 then 0 else if k<=5\/k=21\/k=24 then 1 else if k<=18\/k=23 then 2 else -1
theorem nI (k:Int):dy k=some (uj k):=by
 unfold dy uj;by_cases a:k<=3
 ·rw [if_pos a,if_pos (.inl a)];rfl
 ·rw [if_neg a];by_cases b:k=20
  ·rw [decide_eq_true b,if_pos (.inr b)];rfl
  ·rw [decide_eq_false b,Jx,if_neg (by decide),if_neg (show ¬ (k<=3\/k=20) by omega)];by_cases c:k<=5
   ·rw [if_pos c,if_pos (.inl c)];rfl
   ·rw [if_neg c];by_cases d:k=21
    ·rw [if_pos d,if_pos (.inr (.inl d))];rfl
    ·rw [if_neg d];by_cases e:k=24
     ·rw [decide_eq_true e,if_pos (.inr (.inr e))];rfl
     ·rw [decide_eq_false e,Qv,if_neg (by decide),if_neg (show ¬ (k<=5\/k=21\/k=24) by omega)];by_cases f:k<=18
      ·rw [if_pos f,if_pos (.inl f)];rfl
      ·rw [if_neg f];by_cases g:k=23
       ·rw [decide_eq_true g,if_pos (.inr g)];rfl
       ·rw [decide_eq_false g,if_neg (show ¬ (k<=18\/k=23) by omega)];rfl
theorem ID (node d:Int) (a:0<=node) (b:node<=4294967296):∃ e,Iu node d=some (e,node+1)/\(e=0->node+1<=2000/\d<=40):=by
 unfold Iu;rw [Gf (by omega),Ga];by_cases c:2000<node+1
 ·rw [if_pos c];exact ⟨4,rfl,λh=>absurd h (by decide)⟩
 ·rw [if_neg c];by_cases e:40<d
  ·rw [decide_eq_true e];exact ⟨4,rfl,λh=>absurd h (by decide)⟩
  ·rw [decide_eq_false e];exact ⟨0,rfl,λ_=>⟨by omega,by omega⟩⟩
structure ZF (x:Na):Prop where
 eq:0<=uj x.Kind->(x.Kids.length:Int)=uj x.Kind
 le:x.Kids.length<=6
def Ti:Nat->Na->Prop
 | 0,_=>False
 | k+1,x=>1<=x.Kind/\x.Kind<=24/\ZF x/\∀ y ∈ x.Kids,Ti k y
def rk:Nat->Na->Nat
 | 0,_=>0
 | k+1,x=>1+(x.Kids.map (rk k)).sum
theorem jS (k:Int):uj k<=2:=by
 unfold uj;split
 ·decide
 ·split
  ·decide
  ·split<;>decide
theorem dO:∀ (n:Nat) (x:Na) (d node:Int),62<=n+d->0<=d->d<=41->0<=node->node<=2000 ->
  ∃ e k,(Ij n).Jj node x d=some (e,k)/\node<=k/\(e=0->k<=2000/\Ti (41 - d).toNat x/\k=node+(rk (41 - d).toNat x:Nat)):=by
 intro n
 induction n with
 | zero=>intro x d node F v w; omega
 | succ n H =>
  intro x d node F v w K bb;show ∃ e k,Jj n (Ij n) node x d=some (e,k)/\_;obtain ⟨b,M⟩:=Uv n (by omega) x.Name;obtain ⟨e,N,he⟩:=ID node d K (by omega);rw [Jj,N,Ga];by_cases c:e=0
  ·subst c;obtain ⟨Gb,Ea⟩:=he rfl;rw [if_neg (by simp)];have O:(41 - d).toNat=(40 - d).toNat+1:=by omega
   rw [O];generalize a:(λo:Option (Int×Int)=>∃ e k,o=some (e,k)/\node<=k/\(e=0->k<=2000/\Ti ((40 - d).toNat+1) x/\k=node+(rk ((40 - d).toNat+1) x:Nat)))=P;have bad:∀ e:Int,e≠0->P (some (e,node+1)):=λe h=>by rw [<- a];exact ⟨e,_,rfl,by omega,λQ=>absurd Q h⟩
   have L:x.Kids.length<=6->∀ (m i:Nat) (c:Int),i<=x.Kids.length->x.Kids.length<m+i->0<=c->c<=2000 ->
     ∃ e k,Nl (Ij n) x d m i c=some (e,k)/\c<=k/\(e=0->k<=2000/\(∀ y ∈ x.Kids.drop i,Ti (40 - d).toNat y)/\k=c+(((x.Kids.drop i).map (rk (40 - d).toNat)).sum:Nat)):=by
    intro ma m
    induction m with
    | zero=>intro i c v w; omega
    | succ m R =>
     intro i c gc lc S A;rw [Nl];by_cases q:i<x.Kids.length
     ·obtain ⟨e,k,ua,T,U⟩:=H x.Kids[i] (d+1) c (by omega) (by omega) (by omega) S A;rw [if_pos (by omega),Lg,List.getElem?_eq_getElem q,Ga,Gf (by omega),Ga,ua,Ga];by_cases z:e=0
      ·subst z;obtain ⟨V,f2,f3⟩:=U rfl;rw [if_neg (by simp),Gf (by omega),Ga];obtain ⟨W,k',j,X,l⟩:=R (i+1) k q (by omega) (by omega) V;refine ⟨W,k',j,by omega,λp=>?_⟩;obtain ⟨r,f,B⟩:=l p;have Y:(41 - (d+1)).toNat=(40 - d).toNat:=by omega
       rw [Y] at f2 f3;refine ⟨r,λy g=>?_,?_⟩
       ·rw [List.drop_eq_getElem_cons q] at g;rcases List.mem_cons.1 g with rfl | g
        ·exact f2
        ·exact f y g
       ·rw [List.drop_eq_getElem_cons q,List.map_cons,List.sum_cons];omega
      ·rw [if_pos z];exact ⟨e,k,rfl,T,λh=>absurd h z⟩
     ·rw [if_neg (by omega),List.drop_eq_nil_of_le (by omega)];exact ⟨0,c,rfl,by omega,λ_=>⟨A,by simp,by simp⟩⟩
   by_cases bd:1<=x.Kind/\x.Kind<=24
   ·have s:∀ b,(b=false->ZF x)->P (hr (Ij n) x d (0,node+1) b):=by
     intro b h;cases b with
     | true=>exact bad 5 (by decide)
     | false =>
      have C:=h rfl;rw [hr,if_neg (by decide),<- a];obtain ⟨e,k,j,X,l⟩:=L C.le (x.Kids.length+1) 0 (node+1) (by omega) (by omega) (by omega) (by omega);refine ⟨e,k,j,by omega,λp=>?_⟩;obtain ⟨r,f,B⟩:=l p;rw [List.drop_zero] at f B;exact ⟨r,⟨bd.1,bd.2,C,f⟩,by rw [rk];omega⟩
    have rc:=jS x.Kind;have D:∀ b,(b=false->0<=uj x.Kind->(x.Kids.length:Int)=uj x.Kind)->P (ir (Ij n) x d (0,node+1) (uj x.Kind) b):=by
     intro b h;cases b with
     | true=>rw [ir,if_pos rfl]; exact s _<|λh=>absurd h (by decide)
     | false =>
      rw [ir,if_neg (by decide)];by_cases q:uj x.Kind<0
      ·rw [if_pos q];exact s _ λEa=>⟨h rfl,by have:=of_decide_eq_false Ea;omega⟩
      ·rw [if_neg q];exact s _ λ_=>⟨h rfl,by have:=h rfl (by omega);omega⟩
    have t:∀ b,P (Yo (Ij n) x d (0,node+1) (uj x.Kind) b):=by
     intro b;cases b with
     | true=>exact bad 7 (by decide)
     | false =>
      rw [Yo,if_neg (by decide)];by_cases q:0<=uj x.Kind
      ·rw [if_pos q];exact D _ λEa _=>by have:=of_decide_eq_false Ea;omega
      ·rw [if_neg q];exact D _ λ_ h=>absurd h q
    have u:∀ b,P (Tp n (Ij n) x d (0,node+1) (uj x.Kind) b):=by
     intro Qc;cases Qc with
     | true=>exact bad 3 (by decide)
     | false =>
      rw [Tp,if_neg (by decide),M];simp only [Ga];split
      ·exact t _
      ·split
       ·exact t _
       ·split<;>exact t _
    have E:∀ b,P (jr n (Ij n) x d (0,node+1) (uj x.Kind) b):=by
     intro Qc;unfold jr;split
     ·exact u _
     ·split
      ·split<;>exact u _
      ·exact u _
    have Z:∀ b,P (mo n (Ij n) x d (0,node+1) b):=by
     intro Qc;cases Qc with
     | true=>exact bad 1 (by decide)
     | false =>
      rw [mo,if_neg (by decide),nI,Ga];split
      ·split<;>exact E _
      ·exact E _
    have G:P (if x.Kind<1 then mo n (Ij n) x d (0,node+1) true else mo n (Ij n) x d (0,node+1) (decide ((24:Int)<x.Kind))):=by
     split<;>exact Z _
    rw [<- a] at G;exact G
   ·have G:P (if x.Kind<1 then mo n (Ij n) x d (0,node+1) true else mo n (Ij n) x d (0,node+1) (decide ((24:Int)<x.Kind))):=by
     split
     ·exact bad 1 (by decide)
     ·rw [decide_eq_true (show 24<x.Kind by omega)];exact bad 1 (by decide)
    rw [<- a] at G;exact G
  ·rw [if_pos c];exact ⟨e,_,rfl,by omega,λh=>absurd h c⟩
def Vm:Nat->Ra->Prop
 | 0,_=>False
 | k+1,s=>1<=s.Kind/\s.Kind<=9/\(s.Kind≠6->Ti k s.X)/\((s.Kind=3\/s.Kind=4)->s.Body.length<=50/\∀ y ∈ s.Body,Vm k y)/\(s.Kind=3->s.sf.length<=50/\∀ y ∈ s.sf,Vm k y)
def eh:Nat->Ra->Nat
 | 0,_=>0
 | k+1,s=>1+(if s.Kind=6 then 0 else rk k s.X)+(if s.Kind=3\/s.Kind=4 then (s.Body.map (eh k)).sum else 0)+(if s.Kind=3 then (s.sf.map (eh k)).sum else 0)
theorem eO:∀ (n:Nat),(∀ (l:List Ra) (d node:Int),2*(42 - d)+65<=n->0<=d->d<=41->0<=node->node<=2000 ->
   ∃ e k,(Aj n).Bh node l d=some (e,k)/\node<=k/\(e=0->k<=2000/\(l.length<=50/\∀ y ∈ l,Vm (41 - d).toNat y)/\k=node+((l.map (eh (41 - d).toNat)).sum:Nat))) /\
  (∀ (x:Ra) (d node:Int),2*(42 - d)+64<=n->0<=d->d<=41->0<=node->node<=2000 ->
   ∃ e k,(Aj n).jl node x d=some (e,k)/\node<=k/\(e=0->k<=2000/\Vm (41 - d).toNat x/\k=node+(eh (41 - d).toNat x:Nat))):=by
 intro n
 induction n with
 | zero=>exact ⟨λl d node H w A=>by omega,λl d node H w A=>by omega⟩
 | succ n T =>
  obtain ⟨U,V⟩:=T;refine ⟨λl d node H w A r M=>?_,λx d node H w A r M=>?_⟩
  ·show ∃ e k,Bh (Aj n) node l d=some (e,k)/\_;rw [Bh];by_cases ma:(50:Int)<l.length
   ·rw [if_pos ma];exact ⟨5,node,rfl,by omega,λh=>absurd h (by decide)⟩
   ·rw [if_neg ma];have L:∀ (m i:Nat) (c:Int),i<=l.length->l.length<m+i->0<=c->c<=2000 ->
      ∃ e k,Fs (Aj n) l d m i c=some (e,k)/\c<=k/\(e=0->k<=2000/\(∀ y ∈ l.drop i,Vm (41 - d).toNat y)/\k=c+(((l.drop i).map (eh (41 - d).toNat)).sum:Nat)):=by
     intro m
     induction m with
     | zero=>intro i c w A; omega
     | succ m W =>
      intro i c s t Y N;rw [Fs];by_cases q:i<l.length
      ·obtain ⟨e,k,ua,Z,bb⟩:=V l[i] d c (by omega) w A Y N;rw [if_pos (by omega),Lg,List.getElem?_eq_getElem q,Ga,ua,Ga];by_cases z:e=0
       ·subst z;obtain ⟨Gb,f2,f3⟩:=bb rfl;rw [if_neg (by simp),Gf (by omega),Ga];obtain ⟨lc,k',p,B,g⟩:=W (i+1) k q (by omega) (by omega) Gb;refine ⟨lc,k',p,by omega,λC=>?_⟩;obtain ⟨j,f,u⟩:=g C;refine ⟨j,λy F=>?_,?_⟩
        ·rw [List.drop_eq_getElem_cons q] at F;rcases List.mem_cons.1 F with rfl | F
         ·exact f2
         ·exact f y F
        ·rw [List.drop_eq_getElem_cons q,List.map_cons,List.sum_cons];omega
       ·rw [if_pos z];exact ⟨e,k,rfl,Z,λh=>absurd h z⟩
      ·rw [if_neg (by omega),List.drop_eq_nil_of_le (by omega)];exact ⟨0,c,rfl,by omega,λ_=>⟨N,by simp,by simp⟩⟩
    obtain ⟨e,k,p,B,g⟩:=L (l.length+1) 0 node (by omega) (by omega) r M;refine ⟨e,k,p,B,λC=>?_⟩;obtain ⟨j,f,u⟩:=g C;rw [List.drop_zero] at f u;exact ⟨j,⟨by omega,f⟩,u⟩
  ·show ∃ e k,jl n (Aj n) node x d=some (e,k)/\_;obtain ⟨b,rc⟩:=Uv n (by omega) x.Name;obtain ⟨e,fd,he⟩:=ID node d r (by omega);rw [jl,fd,Ga];by_cases c:e=0
   ·subst c;obtain ⟨wd,Ea⟩:=he rfl;rw [if_neg (by simp)];have id:(41 - d).toNat=(40 - d).toNat+1:=by omega
    have O:(41 - (d+1)).toNat=(40 - d).toNat:=by omega
    rw [id];generalize D:(λo:Option (Int×Int)=>∃ e k,o=some (e,k)/\node<=k/\(e=0->k<=2000/\Vm ((40 - d).toNat+1) x/\k=node+(eh ((40 - d).toNat+1) x:Nat)))=P;have bad:∀ e c:Int,e≠0->node<=c->P (some (e,c)):=λe c h Q=>by rw [<- D];exact ⟨e,_,rfl,Q,λmd=>absurd md h⟩
    have kids:=λ(l:List Ra) (c:Int) (Q:node<=c) (nd:c<=2000)=>U l (d+1) c (by omega) (by omega) (by omega) (by omega) nd;rw [O] at kids;have G:P (if x.Kind<1 then Up n (Aj n) x d (0,node+1) true else Up n (Aj n) x d (0,node+1) (decide ((9:Int)<x.Kind))):=by
     by_cases bd:1<=x.Kind/\x.Kind<=9
     ·have R:∀ (c:Int),node<=c->c<=2000->x.Kind≠6->Ti (40 - d).toNat x.X->((x.Kind=3\/x.Kind=4)->x.Body.length<=50/\∀ y ∈ x.Body,Vm (40 - d).toNat y) ->
        c=node+1+(rk (40 - d).toNat x.X:Nat)+((if x.Kind=3\/x.Kind=4 then (x.Body.map (eh (40 - d).toNat)).sum else 0:Nat):Int)->P (Rs (Aj n) x d c):=by
       intro c s t a uc v gc;rw [Rs];by_cases E:x.Kind=3
       ·obtain ⟨e,k,p,B,g⟩:=kids x.sf c s t;rw [if_pos E,Gf (by omega),Ga,p,Ga];rw [<- D];refine ⟨e,k,rfl,by omega,λC=>?_⟩;obtain ⟨j,f,u⟩:=g C;refine ⟨j,⟨bd.1,bd.2,λ_=>uc,v,λ_=>f⟩,?_⟩;rw [eh,if_neg a,if_pos E];omega
       ·rw [if_neg E,<- D];refine ⟨0,c,rfl,s,λ_=>⟨t,⟨bd.1,bd.2,λ_=>uc,v,λh=>absurd h E⟩,?_⟩⟩;rw [eh,if_neg a,if_neg E];omega
      have S:∀ (c:Int) b,node<=c->c<=2000->x.Kind≠6->Ti (40 - d).toNat x.X->(b=true ↔ x.Kind=3\/x.Kind=4)->c=node+1+(rk (40 - d).toNat x.X:Nat)->P (Ss (Aj n) x d (0,c) b):=by
       intro c b s t a uc v gc;rw [Ss];by_cases q:b=true
       ·obtain ⟨e,k,p,B,g⟩:=kids x.Body c s t;rw [if_pos q,Gf (by omega),Ga,p,Ga];by_cases z:e=0
        ·subst z;obtain ⟨j,f,u⟩:=g rfl;rw [if_neg (by simp)];exact R k (by omega) j a uc (λ_=>f) (by rw [if_pos (v.1 q)];omega)
        ·rw [if_pos z];exact bad e k z (by omega)
       ·rw [if_neg q];exact R c s t a uc (λh=>absurd (v.2 h) q) (by rw [if_neg λh=>q (v.2 h)];omega)
      have K:∀ b,P (Zo n (Aj n) x d (0,node+1) b):=by
       intro b;cases b with
       | true=>exact bad 7 _ (by decide) (by omega)
       | false =>
        rw [Zo,if_neg (by decide)];by_cases a:x.Kind=6
        ·rw [if_pos a,<- D];refine ⟨0,node+1,rfl,by omega,λ_=>⟨by omega,⟨bd.1,bd.2,λh=>absurd a h,λh=>by omega,λh=>by omega⟩,?_⟩⟩;rw [eh,if_pos a,if_neg (by omega),if_neg (by omega)];omega
        ·obtain ⟨e,k,p,B,g⟩:=dO n x.X (d+1) (node+1) (by omega) (by omega) (by omega) (by omega) (by omega);rw [O] at g;rw [if_neg a,Gf (by omega),Ga,p,Ga];by_cases z:e=0
         ·subst z;obtain ⟨j,f,u⟩:=g rfl;rw [if_neg (by simp)];split
          ·rename_i r;exact S k true (by omega) j a f (by simp [r]) (by omega)
          ·rename_i r;exact S k _ (by omega) j a f (by simp [r]) (by omega)
         ·rw [if_pos z];exact bad e k z (by omega)
      have rd:∀ b,P (Up n (Aj n) x d (0,node+1) b):=by
       intro Qc;cases Qc with
       | true=>exact bad 1 _ (by decide) (by omega)
       | false =>
        rw [Up,if_neg (by decide),rc];simp only [Ga];split
        ·exact K _
        ·split
         ·exact K _
         ·split<;>exact K _
      split<;>exact rd _
     ·split
      ·exact bad 1 _ (by decide) (by omega)
      ·rw [decide_eq_true (show 9<x.Kind by omega)];exact bad 1 _ (by decide) (by omega)
    rw [<- D] at G;exact G
   ·rw [if_pos c];exact ⟨e,_,rfl,by omega,λh=>absurd h c⟩
def Mo (t:Sa):Prop:=1<=t.Kind/\t.Kind<=3
theorem wA (fu:Nat) (a:20<=fu) (t:Sa):∃ e,sr fu t=some e/\(e=0->Mo t):=by
 obtain ⟨b,d⟩:=Uv fu a t.Pc;rw [sr];by_cases c:1<=t.Kind/\t.Kind<=3
 ·rw [if_neg (by omega),decide_eq_false (by omega),Eu,if_neg (by decide),d];simp only [Ga];have:∀ b,∃ e,Tx b=some e:=λb=>by cases b<;>exact ⟨_,rfl⟩
  split
  ·obtain ⟨e,he⟩:=this (!b);exact ⟨e,he,λ_=>c⟩
  ·obtain ⟨e,he⟩:=this false;exact ⟨e,he,λ_=>c⟩
 ·split
  ·exact ⟨1,rfl,λh=>absurd h (by decide)⟩
  ·rw [decide_eq_true (show 3<t.Kind by omega)];exact ⟨1,rfl,λh=>absurd h (by decide)⟩
structure nu (x:va):Prop where
 k1:1<=x.Kind
 pf:x.Kind<=4
 Hg:x.Kind=2\/x.Kind=3->x.Params.length<=6/\∀ p ∈ x.Params,Mo p.Ob
 Kl:x.Kind=3->Mo x.Yd
 ty:x.Kind≠4->Mo x.Ob
 Jd:x.Kind≠1->x.Body.length<=50
 vx:x.Kind≠1->∀ y ∈ x.Body,Vm 39 y
def ps (x:va):Nat:=1+if x.Kind≠1 then (x.Body.map (eh 39)).sum else 0
theorem pP (fu:Nat) (S:200<=fu) (x:va) (node:Int) (y:0<=node) (T:node<=2000):∃ e k,Nu fu node x=some (e,k)/\node<=k/\(e=0->k<=2000/\nu x/\k=node+(ps x:Nat)):=by
 obtain ⟨b,A⟩:=Uv fu (by omega) x.Name;obtain ⟨e,B,he⟩:=ID node 1 y (by omega);rw [Nu,B,Ga];by_cases c:e=0
 ·subst c;obtain ⟨U,Ea⟩:=he rfl;rw [if_neg (by simp)];generalize r:(λo:Option (Int×Int)=>∃ e k,o=some (e,k)/\node<=k/\(e=0->k<=2000/\nu x/\k=node+(ps x:Nat)))=P;have bad:∀ e c:Int,e≠0->node<=c->P (some (e,c)):=λe c h C=>by rw [<- r];exact ⟨e,_,rfl,C,λD=>absurd D h⟩
  have G:P (if x.Kind<1 then Xp fu x (0,node+1) true else Xp fu x (0,node+1) (decide ((4:Int)<x.Kind))):=by
   by_cases bd:1<=x.Kind/\x.Kind<=4
   ·have t:(x.Kind=2\/x.Kind=3->x.Params.length<=6/\∀ p ∈ x.Params,Mo p.Ob)->(x.Kind=3->Mo x.Yd)->(x.Kind≠4->Mo x.Ob)->P (Us fu x (0,node+1)):=by
     intro d f j;rw [Us];by_cases k1:x.Kind=1
     ·rw [if_neg (by simpa using k1)];have E:∀ b,P (Vv (0,node+1) b):=by
       intro b;cases b with
       | true=>exact bad 3 _ (by decide) (by omega)
       | false =>
        rw [<- r];exact ⟨0,node+1,rfl,by omega,λ_=>⟨by omega,⟨bd.1,bd.2,d,f,j,λh=>absurd k1 h,λh=>absurd k1 h⟩,by rw [ps,if_neg (by simpa using k1)];omega⟩⟩
      split<;>exact E _
     ·obtain ⟨e,k,F,V,H⟩:=(eO fu).1 x.Body 2 (node+1) (by omega) (by omega) (by omega) (by omega) (by omega);rw [if_pos k1,F,Ga,<- r];refine ⟨e,k,rfl,by omega,λK=>?_⟩;obtain ⟨M,s2,N⟩:=H K;exact ⟨M,⟨bd.1,bd.2,d,f,j,λ_=>s2.1,λ_=>s2.2⟩,by rw [ps,if_pos k1];rw [show (41 - (2:Int)).toNat=39 from rfl] at N;omega⟩
    have u:(x.Kind=2\/x.Kind=3->x.Params.length<=6/\∀ p ∈ x.Params,Mo p.Ob)->(x.Kind=3->Mo x.Yd)->P (Vs fu x (0,node+1)):=by
     intro d f;rw [Vs];by_cases pf:x.Kind=4
     ·rw [if_neg (by simpa using pf)];exact t d f λh=>absurd pf h
     ·obtain ⟨e,l,a⟩:=wA fu (by omega) x.Ob;rw [if_pos pf,l,Ga];by_cases z:e=0
      ·rw [if_neg (by simpa using z)];exact t d f λ_=>a z
      ·rw [if_pos z];exact bad e _ z (by omega)
    have v:(x.Kind=2\/x.Kind=3->x.Params.length<=6/\∀ p ∈ x.Params,Mo p.Ob)->P (Wp fu x (0,node+1)):=by
     intro d;rw [Wp];by_cases s:x.Kind=3
     ·obtain ⟨e,l,a⟩:=wA fu (by omega) x.Yd;rw [if_pos s,l,Ga];by_cases z:e=0
      ·rw [if_neg (by simpa using z)];exact u d λ_=>a z
      ·rw [if_pos z];exact bad e _ z (by omega)
     ·rw [if_neg s];exact u d λh=>absurd h s
    have L:x.Params.length<=6->∀ (m i:Nat),i<=x.Params.length->x.Params.length<m+i->(∀ p ∈ x.Params.take i,Mo p.Ob)->P (Ws fu x (0,node+1) m i):=by
     intro ma m
     induction m with
     | zero=>intro i l a; omega
     | succ m O =>
      intro i d f j;rw [Ws];by_cases q:i<x.Params.length
      ·obtain ⟨Qc,Q⟩:=Uv fu (by omega) x.Params[i].Name;obtain ⟨e,l,a⟩:=wA fu (by omega) x.Params[i].Ob;rw [if_pos (by omega),Lg,List.getElem?_eq_getElem q,Ga,Q,Ga];cases Qc with
       | false=>rw [if_neg (by decide)]; exact bad 7 _ (by decide) (by omega)
       | true =>
        rw [if_pos rfl,l,Ga];by_cases z:e=0
        ·rw [if_neg (by simpa using z),Gf (by omega),Ga];refine O (i+1) q (by omega) λp n=>?_;rw [List.take_succ_eq_append_getElem q] at n;rcases List.mem_append.1 n with n | n
         ·exact j p n
         ·rw [List.mem_singleton.1 n];exact a z
        ·rw [if_pos z];exact bad e _ z (by omega)
      ·rw [if_neg (by omega)];rw [List.take_of_length_le (by omega)] at j;exact v λ_=>⟨ma,j⟩
    have w:∀ b,(b=true ↔ x.Kind=2\/x.Kind=3)->P (Xs fu x (0,node+1) b):=by
     intro b g;rw [Xs];by_cases q:b=true
     ·rw [if_pos q];by_cases ma:(6:Int)<x.Params.length
      ·rw [if_pos ma];exact bad 5 _ (by decide) (by omega)
      ·rw [if_neg ma];exact L (by omega) (x.Params.length+1) 0 (by omega) (by omega) (by simp)
     ·rw [if_neg q];exact v λh=>absurd (g.2 h) q
    have R:∀ b,P (Xp fu x (0,node+1) b):=by
     intro Qc;cases Qc with
     | true=>exact bad 1 _ (by decide) (by omega)
     | false =>
      rw [Xp,if_neg (by decide),A,Ga];cases b with
      | false=>rw [if_neg (by decide)]; exact bad 7 _ (by decide) (by omega)
      | true =>
       rw [if_pos rfl];split
       ·rename_i a;exact w _ (by simp [a])
       ·rename_i a;exact w _ (by simp [a])
    split<;>exact R _
   ·split
    ·exact bad 1 _ (by decide) (by omega)
    ·rw [decide_eq_true (show 4<x.Kind by omega)];exact bad 1 _ (by decide) (by omega)
  rw [<- r] at G;exact G
 ·rw [if_pos c];exact ⟨e,_,rfl,by omega,λh=>absurd h c⟩
structure ZG (l:List va):Prop where
 le:l.length<=30
 ok:∀ d ∈ l,nu d
 n:(l.map ps).sum<=2000
theorem kD (fu:Nat) (g:200<=fu) (l:List va):∃ f,bt fu l=some f/\(f.De=0->f.xa=0/\ZG l):=by
 rw [bt];by_cases ma:(30:Int)<l.length
 ·rw [if_pos ma];exact ⟨_,rfl,λh=>absurd h (by decide:(5:Int)≠0)⟩
 ·rw [if_neg ma];have L:∀ (m i:Nat) (c:Int),i<=l.length->l.length<m+i->0<=c->c<=2000->(∀ d ∈ l.take i,nu d)->c=(((l.take i).map ps).sum:Nat)->∃ f,Gs fu l m i c=some f/\(f.De=0->f.xa=0/\ZG l):=by
   intro m
   induction m with
   | zero=>intro i c u v; omega
   | succ m j =>
    intro i c w x n o b r;rw [Gs];by_cases q:i<l.length
    ·obtain ⟨e,k,ua,y,s⟩:=pP fu g l[i] c n o;rw [if_pos (by omega),Lg,List.getElem?_eq_getElem q,Ga,ua,Ga];by_cases z:e=0
     ·subst z;obtain ⟨t,f2,f3⟩:=s rfl;rw [if_neg (by simp),Gf (by omega),Ga];refine j (i+1) k q (by omega) (by omega) t (λp a=>?_) ?_
      ·rw [List.take_succ_eq_append_getElem q] at a;rcases List.mem_append.1 a with a | a
       ·exact b p a
       ·rw [List.mem_singleton.1 a];exact f2
      ·rw [List.take_succ_eq_append_getElem q,List.map_append,List.sum_append,List.map_cons,List.map_nil,List.sum_cons,List.sum_nil];omega
     ·rw [if_pos z];exact ⟨_,rfl,λh=>absurd h z⟩
    ·rw [if_neg (by omega)];rw [List.take_of_length_le (by omega)] at b r;exact ⟨_,rfl,λ_=>⟨rfl,by omega,b,by omega⟩⟩
  exact L (l.length+1) 0 0 (by omega) (by omega) (by omega) (by omega) (by simp) (by simp)
abbrev ye:=List (List (List UInt8×Sa))
def Ke (t:Sa):Sa:=if t.Kind≠3 then ⟨t.Kind,[]⟩ else t
theorem Xo (t:Sa):bp t=some (decide (t.Kind≠3)):=rfl
theorem po (t:Sa):Zp t=some (Ke t):=by
 rw [Zp,Xo,Ga,Ke];by_cases c:t.Kind≠3
 ·rw [decide_eq_true c,if_pos rfl,if_pos c];rfl
 ·rw [decide_eq_false c,if_neg (by decide),if_neg c];rfl
def Gp (o:Option va) (k:Int):Bool:=match o with | some d=>decide (d.Kind=k) | none=>false
theorem Du (p:mb) (kind:Int) (name:List UInt8):ct p kind name=some (Oa p.named name,Gp (Oa p.named name) kind):=by
 rw [ct];cases h:Oa p.named name with
 | none=>rfl
 | some d=>rfl
theorem Zu {o:Option va}{k:Int}(h:Gp o k=true):∃ d,o=some d/\d.Kind=k:=by
 cases o with
 | none=>cases h
 | some d=>exact ⟨d,rfl,of_decide_eq_true h⟩
def zk (p:mb) (t:Sa):Prop:=t.Kind=3->∃ d,Oa p.named t.Pc=some d/\d.Kind=3
theorem zk.bare {p:mb}{t:Sa}(h:zk p t):zk p (Ke t):=by
 unfold Ke;split
 ·rename_i c;exact λa=>absurd a c
 ·exact h
theorem zk.of {p:mb}{t:Sa}(h:t.Kind≠3):zk p t:=λa=>absurd a h
theorem Hn {t:Sa}:(Ke t).Kind=t.Kind:=by
 unfold Ke;split<;>rfl
structure zo (p:mb) (d:va):Prop where
 ty:d.Kind≠4->d.Ob.Kind≠3
 Kl:d.Kind=3->d.Yd.Kind≠3
 Hg:d.Kind=2\/d.Kind=3->∀ q ∈ d.Params,zk p q.Ob
 pl:d.Kind=2\/d.Kind=3->d.Params.length<=6
def jH (p:mb):Prop:=∀ k d,Oa p.named k=some d->zo p d
def Om (p:mb) (B:ye):Prop:=∀ m ∈ B,∀ k t,Oa m k=some t->zk p t
structure Cn (p:mb) (d:va) (B:ye):Prop where
 Tq:jH p
 Ea:zo p d
 Tc:Om p B
 Jd:B.length<=100
theorem lD {p:mb}{B:ye}(hB:Om p B) (ma:B.length<=100) (fu:Nat) (g:110<=fu) (d:va) (name:List UInt8):∃ t b,lr fu p d B name=some (t,b)/\(b=true->zk p t):=by
 have L:∀ (n j:Nat),j<=B.length->j<n->∃ t b,Hs name B n ((j:Int) - 1)=some (t,b)/\(b=true->zk p t):=by
  intro n
  induction n with
  | zero=>intro j a c; omega
  | succ n f =>
   intro j a c;rw [Hs];cases j with
   | zero=>rw [if_neg (by omega)]; exact ⟨_,_,rfl,by simp⟩
   | succ j =>
    have e:((j+1:Nat):Int) - 1=(j:Int):=by omega
    rw [e,if_pos (by omega),Lg,List.getElem?_eq_getElem (show j<B.length by omega),Ga];cases h:Oa B[j] name with
    | none =>
     rw [if_neg (by simp),Gf (by omega),Ga];exact f j (by omega) (by omega)
    | some t=>exact ⟨t,true,rfl,λ_=>hB _ (List.getElem_mem _) _ _ h⟩
 rw [lr,Gf (by omega),Ga];exact L fu B.length (by omega) (by omega)
def Calls (p:mb):Nat->Na->Prop
 | 0,_=>False
 | k+1,x=>(x.Kind=19->∃ d,Oa p.named x.Name=some d/\d.Kind=2)/\(x.Kind=22->∃ d,Oa p.named x.Name=some d/\d.Kind=3)/\(x.Kind=20->∃ d,Oa p.named x.Name=some d/\d.Kind=1)/\∀ y ∈ x.Kids,Calls p k y
theorem two {α:Type}{l:List α}(h:l.length=2):∃ a b,l=[a,b]:=by
 match l,h with
 | [a,b],_=>exact ⟨a,b,rfl⟩
theorem one {α:Type}{l:List α}(h:l.length=1):∃ a,l=[a]:=by
 match l,h with
 | [a],_=>exact ⟨a,rfl⟩
structure OV (n:Nat):Prop where
 typed:∀ (k:Nat) (p:mb) (d:va) (B:ye) (x:Na) (t:Sa),Cn p d B->Ti k x->3*k+111<=n->∃ e,(Og n).Oh p d B x t=some e/\(e=0->Calls p k x)
 args:∀ (k:Nat) (p:mb) (d:va) (B:ye) (x:Na) (kind:Int),Cn p d B->(∀ y ∈ x.Kids,Ti k y)->x.Kids.length<=6->(kind=2\/kind=3)->3*k+112<=n ->
  ∃ Ff e,(Og n).Ql p d B x kind=some (Ff,e)/\(e=0->∃ f,Ff=some f/\Oa p.named x.Name=some f/\f.Kind=kind/\∀ y ∈ x.Kids,Calls p k y)
 both:∀ (k:Nat) (p:mb) (d:va) (B:ye) (x a b:Na),Cn p d B->x.Kids=[a,b]->Ti k a->Ti k b->3*k+112<=n->∃ t e,(Og n).en p d B x=some (t,e)/\(e=0->Calls p k a/\Calls p k b)
 handle:∀ (k:Nat) (p:mb) (d:va) (B:ye) (x:Na),Cn p d B->Ti k x->3*k+112<=n->∃ Ff e,(Og n).Ol p d B x=some (Ff,e)/\(e=0->(∃ f g,Ff=some f/\Oa p.named g=some f/\f.Kind=3)/\Calls p k x)
 expr:∀ (k:Nat) (p:mb) (d:va) (B:ye) (x:Na),Cn p d B->Ti k x->3*k+110<=n->∃ t e,(Og n).Wi p d B x=some (t,e)/\(e=0->zk p t/\Calls p k x)
theorem uz (r:Sa×Int) (b:Bool):Cx r b=some (if b=true then 9 else r.2):=by cases b<;>rfl
theorem yx (r s:Sa×Int) (b:Bool):zu r s b=some (r.1,if b=true then 9 else s.2):=by cases b<;>rfl
theorem DK:∀ n,OV n:=by
 intro n
 induction n with
 | zero=>exact ⟨λ_ _ _ _ _ _ _ _ h=>by omega,λ_ _ _ _ _ _ _ _ _ _ h=>by omega,λ_ _ _ _ _ _ _ _ _ _ _ h=>by omega,λ_ _ _ _ _ _ _ h=>by omega,λ_ _ _ _ _ _ _ h=>by omega⟩
 | succ n u =>
  refine ⟨λk p d B x t H w V=>?_,λk p d B x kind H w ma K V=>?_,λk p d B x a b H w j S V=>?_,λk p d B x H w V=>?_,λk p d B x H w V=>?_⟩
  ·show ∃ e,Oh (Og n) p d B x t=some e/\_;obtain ⟨hb,e,r,o⟩:=u.expr k p d B x H w (by omega);rw [Oh,r,Ga];by_cases z:e=0
   ·rw [if_pos z,po,Ga,uz];exact ⟨_,rfl,λ_=>(o z).2⟩
   ·rw [if_neg z,uz];exact ⟨e,rfl,λh=>absurd h z⟩
  ·show ∃ Ff e,Ql (Og n) p d B x kind=some (Ff,e)/\_;rw [Ql,Du,Ga];by_cases c:Gp (Oa p.named x.Name) kind=true
   ·obtain ⟨f,Q,bb⟩:=Zu c;rw [if_pos c,Q];simp only [Ga];have be:=H.Tq _ _ Q;have If:=be.pl (by omega);by_cases q:(f.Params.length:Int)≠x.Kids.length
    ·rw [decide_eq_true q];exact ⟨none,5,rfl,λh=>absurd h (by decide)⟩
    ·rw [decide_eq_false q,Fx,if_neg (by decide)];simp only [Ga];have L:∀ (m i:Nat),i<=f.Params.length->f.Params.length<m+i->∃ Ff e,Is (Og n) x p d B (some f,Gp (some f) kind) f m i=some (Ff,e)/\(e=0->Ff=some f/\∀ y ∈ x.Kids.drop i,Calls p k y):=by
      intro m
      induction m with
      | zero=>intro i r o; omega
      | succ m Gb =>
       intro i r o;rw [Is];by_cases c:i<f.Params.length
       ·have md:i<x.Kids.length:=by omega
        obtain ⟨e,ua,v⟩:=u.typed k p d B x.Kids[i] f.Params[i].Ob H (w _ (List.getElem_mem _)) (by omega);rw [if_pos (by omega),Lg,List.getElem?_eq_getElem c,Ga,Lg,List.getElem?_eq_getElem md,Ga,ua,Ga];by_cases z:e=0
        ·rw [if_neg (by simpa using z),Gf (by omega),Ga];obtain ⟨Ff,T,M,F⟩:=Gb (i+1) c (by omega);refine ⟨Ff,T,M,λs=>⟨(F s).1,λy C=>?_⟩⟩;rw [List.drop_eq_getElem_cons md] at C;rcases List.mem_cons.1 C with rfl | C
         ·exact v z
         ·exact (F s).2 y C
        ·rw [if_pos z];exact ⟨none,e,rfl,λh=>absurd h z⟩
       ·rw [if_neg (by omega),List.drop_eq_nil_of_le (by omega)];exact ⟨some f,0,rfl,λ_=>⟨rfl,by simp⟩⟩
     obtain ⟨Ff,e,M,F⟩:=L (f.Params.length+1) 0 (by omega) (by omega);refine ⟨Ff,e,M,λs=>?_⟩;obtain ⟨D,A⟩:=F s;rw [List.drop_zero] at A;exact ⟨f,D,rfl,bb,A⟩
   ·rw [if_neg c];exact ⟨none,7,rfl,λh=>absurd h (by decide)⟩
  ·show ∃ t e,en (Og n) p d B x=some (t,e)/\_;obtain ⟨ce,ua,r,o⟩:=u.expr k p d B a H j (by omega);obtain ⟨ge,v,E,N⟩:=u.expr k p d B b H S (by omega);have k0:at_ x.Kids 0=some a:=by rw [w];rfl
   have k1:at_ x.Kids 1=some b:=by rw [w];rfl
   rw [en,k0,Ga,r,Ga];by_cases z:ua=0
   ·rw [if_neg (by simpa using z),k1,Ga,E,Ga];by_cases W:v=0
    ·have fin:∀ Qc,∃ t e,zu (ce,ua) (ge,v) Qc=some (t,e)/\(e=0->Calls p k a/\Calls p k b):=λQc=>by rw [yx];exact ⟨_,_,rfl,λ_=>⟨(o z).2,(N W).2⟩⟩
     rw [if_pos W];split
     ·rw [Xo,Ga];exact fin _
     ·exact fin _
    ·rw [if_neg W,yx];exact ⟨_,v,rfl,λh=>absurd h W⟩
   ·rw [if_pos z];exact ⟨_,ua,rfl,λh=>absurd h z⟩
  ·show ∃ Ff e,Ol (Og n) p d B x=some (Ff,e)/\_;obtain ⟨t,e,r,o⟩:=u.expr k p d B x H w (by omega);rw [Ol,r,Ga];by_cases z:e=0
   ·rw [if_neg (by simpa using z),Xo,Ga];by_cases q:t.Kind≠3
    ·rw [if_pos (decide_eq_true q)];exact ⟨none,9,rfl,λh=>absurd h (by decide)⟩
    ·obtain ⟨f,nd,ne⟩:=(o z).1 (Decidable.not_not.1 q);rw [if_neg (by simpa using q)];exact ⟨_,0,rfl,λ_=>⟨⟨f,t.Pc,nd,nd,ne⟩,(o z).2⟩⟩
   ·rw [if_pos z];exact ⟨none,e,rfl,λh=>absurd h z⟩
  ·show ∃ t e,Wi n (Og n) p d B x=some (t,e)/\_;cases k with
   | zero=>cases w
   | succ k =>
   obtain ⟨k1,dg,K,R⟩:=w;have X:uj x.Kind=1->∃ a,x.Kids=[a]/\Ti k a:=λh=>by
    obtain ⟨a,j⟩:=one (l:=x.Kids) (by have:=K.eq (by omega);omega);exact ⟨a,j,R a (by simp [j])⟩
   have rd:uj x.Kind=2->∃ a b,x.Kids=[a,b]/\Ti k a/\Ti k b:=λh=>by
    obtain ⟨a,b,j⟩:=two (l:=x.Kids) (by have:=K.eq (by omega);omega);exact ⟨a,b,j,R a (by simp [j]),R b (by simp [j])⟩
   have Y:uj x.Kind=0->x.Kids=[]:=λh=>List.length_eq_zero_iff.1 (by have:=K.eq (by omega);omega);have Xa:x.Kind≠19->x.Kind≠20->x.Kind≠22->(∀ y ∈ x.Kids,Calls p k y)->Calls p (k+1) x:=λr o Ne wf=>⟨λh=>absurd h r,λh=>absurd h Ne,λh=>absurd h o,wf⟩;rw [Wi];by_cases eb:x.Kind=1
   ·rw [if_pos eb];exact ⟨_,0,rfl,λ_=>⟨.of (by decide),Xa (by omega) (by omega) (by omega) (by rw [Y (by rw [eb];rfl)];simp)⟩⟩
   rw [if_neg eb];by_cases gc:x.Kind=2
   ·rw [if_pos gc];exact ⟨_,0,rfl,λ_=>⟨.of (by decide),Xa (by omega) (by omega) (by omega) (by rw [Y (by rw [gc];rfl)];simp)⟩⟩
   rw [if_neg gc];by_cases lc:x.Kind=3
   ·obtain ⟨t,b,r,o⟩:=lD H.Tc H.Jd n (by omega) d x.Name;rw [if_pos lc,r,Ga];cases b with
    | true=>exact ⟨t,0,rfl,λ_=>⟨o rfl,Xa (by omega) (by omega) (by omega) (by rw [Y (by rw [lc]; rfl)]; simp)⟩⟩
    | false=>exact ⟨_,7,rfl,λh=>absurd h (by decide)⟩
   rw [if_neg lc];by_cases c4:x.Kind=4
   ·obtain ⟨a,j,O⟩:=X (by rw [c4];rfl);obtain ⟨e,ua,v⟩:=u.typed k p d B a ⟨1,[]⟩ H O (by omega);have k0:at_ x.Kids 0=some a:=by rw [j];rfl
    rw [if_pos c4,k0,Ga,Sl,Ga,Ga,ua,Ga];exact ⟨_,e,rfl,λs=>⟨.of (by decide),Xa (by omega) (by omega) (by omega) (by rw [j];simpa using v s)⟩⟩
   rw [if_neg c4];by_cases c5:x.Kind=5
   ·obtain ⟨a,j,O⟩:=X (by rw [c5];rfl);obtain ⟨e,ua,v⟩:=u.typed k p d B a ⟨2,[]⟩ H O (by omega);have k0:at_ x.Kids 0=some a:=by rw [j];rfl
    rw [if_pos c5,k0,Ga,ak,Ga,Ga,ua,Ga];exact ⟨_,e,rfl,λs=>⟨.of (by decide),Xa (by omega) (by omega) (by omega) (by rw [j];simpa using v s)⟩⟩
   rw [if_neg c5];have wd:∀ b,(b=true ↔ x.Kind=11\/x.Kind=12)->∃ t e,Ks (Og n) x p d B b=some (t,e)/\(e=0->zk p t/\Calls p (k+1) x):=by
    intro b S;rw [Ks];by_cases q:b=true
    ·have c:=S.1 q;obtain ⟨a,Z,j,rc,hd⟩:=rd (by rcases c with c | c<;>rw [c]<;>rfl);obtain ⟨t,e,r,o⟩:=u.both k p d B x a Z H j rc hd (by omega);rw [if_pos q,r,Ga,ak,Ga];exact ⟨_,e,rfl,λs=>⟨.of (by decide),Xa (by omega) (by omega) (by omega) (by rw [j];simpa using o s)⟩⟩
    rw [if_neg q];have rg:x.Kind≠11:=λh=>q (S.2 (.inl h));have bi:x.Kind≠12:=λh=>q (S.2 (.inr h));by_cases Fd:x.Kind=19
    ·obtain ⟨Ff,e,r,o⟩:=u.args k p d B x 2 H R K.le (.inl rfl) (by omega);rw [if_pos Fd,r,Ga];by_cases z:e=0
     ·obtain ⟨f,rfl,E,N,U⟩:=o z;rw [if_neg (by simpa using z)];simp only [Ga];rw [po,Ga];exact ⟨_,0,rfl,λ_=>⟨.of (by rw [Hn];exact (H.Tq _ _ E).ty (by omega)),⟨λ_=>⟨f,E,N⟩,λh=>by omega,λh=>by omega,U⟩⟩⟩
     ·rw [if_pos z];exact ⟨_,e,rfl,λh=>absurd h z⟩
    rw [if_neg Fd];by_cases c20:x.Kind=20
    ·rw [if_pos c20,Du,Ga];by_cases c:Gp (Oa p.named x.Name) 1=true
     ·obtain ⟨f,Q,bb⟩:=Zu c;rw [if_pos c,Q];simp only [Ga];rw [po,Ga];exact ⟨_,0,rfl,λ_=>⟨.of (by rw [Hn];exact (H.Tq _ _ Q).ty (by omega)),⟨λh=>by omega,λh=>by omega,λ_=>⟨f,Q,bb⟩,by rw [Y (by rw [c20];rfl)];simp⟩⟩⟩
     ·rw [if_neg c];exact ⟨_,7,rfl,λh=>absurd h (by decide)⟩
    rw [if_neg c20];by_cases c21:x.Kind=21
    ·obtain ⟨a,j,O⟩:=X (by rw [c21];rfl);obtain ⟨e,ua,v⟩:=u.typed k p d B a d.Ob H O (by omega);have k0:at_ x.Kids 0=some a:=by rw [j];rfl
     rw [if_pos c21];by_cases Ok:d.Kind=3
     ·rw [if_neg (by simpa using Ok),k0,Ga,po,Ga,ua,Ga];exact ⟨_,e,rfl,λs=>⟨.of (by show (Ke d.Yd).Kind≠3;rw [Hn];exact H.Ea.Kl Ok),Xa (by omega) (by omega) (by omega) (by rw [j];simpa using v s)⟩⟩
     ·rw [if_pos Ok];exact ⟨_,8,rfl,λh=>absurd h (by decide)⟩
    rw [if_neg c21];by_cases Id:x.Kind=22
    ·obtain ⟨Ff,e,r,o⟩:=u.args k p d B x 3 H R K.le (.inr rfl) (by omega);rw [if_pos Id,r,Ga];refine ⟨_,e,rfl,λs=>?_⟩;obtain ⟨f,-,E,N,U⟩:=o s;exact ⟨λ_=>⟨f,E,N⟩,⟨λh=>by omega,λ_=>⟨f,E,N⟩,λh=>by omega,U⟩⟩
    rw [if_neg Id];by_cases fd:x.Kind=23
    ·obtain ⟨a,Z,j,rc,hd⟩:=rd (by rw [fd];rfl);obtain ⟨Ff,e,r,o⟩:=u.handle k p d B a H rc (by omega);have k0:at_ x.Kids 0=some a:=by rw [j];rfl
     have k1:at_ x.Kids 1=some Z:=by rw [j];rfl
     rw [if_pos fd,k0,Ga,r,Ga];by_cases z:e=0
     ·obtain ⟨⟨f,g,rfl,E,N⟩,U⟩:=o z;obtain ⟨T,M,F⟩:=u.typed k p d B Z f.Yd H hd (by omega);rw [if_neg (by simpa using z)];simp only [Ga];rw [k1,Ga,po,Ga,M,Ga];exact ⟨_,T,rfl,λs=>⟨.of (by show (Ke f.Ob).Kind≠3;rw [Hn];exact (H.Tq _ _ E).ty (by omega)),Xa (by omega) (by omega) (by omega) (by rw [j];simpa using ⟨U,F s⟩)⟩⟩
     ·rw [if_pos z];exact ⟨_,e,rfl,λh=>absurd h z⟩
    rw [if_neg fd];by_cases c24:x.Kind=24
    ·obtain ⟨a,j,O⟩:=X (by rw [c24];rfl);obtain ⟨Ff,e,r,o⟩:=u.handle k p d B a H O (by omega);have k0:at_ x.Kids 0=some a:=by rw [j];rfl
     rw [if_pos c24,k0,Ga,r,Ga,ak,Ga];exact ⟨_,e,rfl,λs=>⟨.of (by decide),Xa (by omega) (by omega) (by omega) (by rw [j];simpa using (o s).2)⟩⟩
    rw [if_neg c24];have L:∀ (P G:Int) (D A:List UInt8) (m i:Nat),i<=x.Kids.length->x.Kids.length<m+i->∃ e,Js (Og n) x p d B P D G A m i=some (⟨G,A⟩,e)/\(e=0->∀ y ∈ x.Kids.drop i,Calls p k y):=by
     intro P G D A m
     induction m with
     | zero=>intro i r o; omega
     | succ m Gb =>
      intro i r o;rw [Js];by_cases c:i<x.Kids.length
      ·have:=K.le;obtain ⟨e,ua,v⟩:=u.typed k p d B x.Kids[i] ⟨P,D⟩ H (R _ (List.getElem_mem _)) (by omega);rw [if_pos (by omega),Lg,List.getElem?_eq_getElem c,Ga,ua,Ga];by_cases z:e=0
       ·rw [if_neg (by simpa using z),Gf (by omega),Ga];obtain ⟨T,M,F⟩:=Gb (i+1) c (by omega);refine ⟨T,M,λs y C=>?_⟩;rw [List.drop_eq_getElem_cons c] at C;rcases List.mem_cons.1 C with rfl | C
        ·exact v z
        ·exact F s y C
       ·rw [if_pos z];exact ⟨e,rfl,λh=>absurd h z⟩
      ·rw [if_neg (by omega),List.drop_eq_nil_of_le (by omega)];exact ⟨0,rfl,λ_=>by simp⟩
    have id:∀ (P G:Int) (D A:List UInt8),G≠3->∃ t e,Au (Og n) x p d B P D G A=some (t,e)/\(e=0->zk p t/\Calls p (k+1) x):=by
     intro P G D A h;obtain ⟨e,r,o⟩:=L P G D A (x.Kids.length+1) 0 (by omega) (by omega);exact ⟨_,e,r,λs=>⟨.of h,Xa (by omega) (by omega) (by omega) (by simpa using o s)⟩⟩
    rw [Sl,Ga,Ga,ak];simp only [Ga];split
    ·exact id _ _ _ _ (by decide)
    ·split
     ·exact id _ _ _ _ (by decide)
     ·exact id _ _ _ _ (by decide)
   split
   ·rename_i h;exact wd _ (by simp [h])
   ·rename_i h;exact wd _ (by simp [h])
theorem sk {κ β:Type}[DecidableEq κ]:∀ (m:List (κ×β)) (k k':κ) (x:β),Oa (kd m k x) k'=if k=k' then some x else Oa m k'
 | [],k,k',x=>rfl
 | (a,b)::m,k,k',x=>by
  rw [kd];by_cases c:a=k
  ·subst c;rw [if_pos rfl,Oa,Oa];by_cases d:a=k'
   ·rw [if_pos d,if_pos d]
   ·rw [if_neg d,if_neg d,if_neg d]
  ·rw [if_neg c,Oa,Oa,sk m k k' x];by_cases d:a=k'
   ·rw [if_pos d,if_pos d,if_neg λh=>c (d.trans h.symm)]
   ·rw [if_neg d,if_neg d]
def Em (p:mb):Nat->Ra->Prop
 | 0,_=>False
 | k+1,s=>(s.Kind≠6->Calls p k s.X)/\((s.Kind=3\/s.Kind=4)->∀ y ∈ s.Body,Em p k y)/\(s.Kind=3->∀ y ∈ s.sf,Em p k y)/\(s.Kind=7->∃ d,Oa p.named s.Name=some d/\d.Kind=1)
theorem oI (p:mb) (d:va) (B:ye) (h:0<B.length) (a:B.length<=100):ft p d B=some (B.take (B.length - 1)):=by
 rw [ft,Gf (by omega),Ga,cut,if_pos (by omega),Ga,Mz];simp
structure hU (n:Nat):Prop where
 stats:∀ (k:Nat) (p:mb) (d:va) (B:ye) (l:List Ra),Cn p d B->l.length<=50->(∀ y ∈ l,Vm k y)->B.length+k<=90->5*k+130<=n ->
  ∃ e,(Rl n).Sk p d B l=some (e,B)/\(e=0->∀ y ∈ l,Em p k y)
 stat:∀ (k:Nat) (p:mb) (d:va) (B:ye) (s:Ra),Cn p d B->0<B.length->Vm k s->B.length+k<=91->5*k+129<=n ->
  ∃ e a,(Rl n).gn p d B s=some (e,a)/\a.length=B.length/\a.take (B.length - 1)=B.take (B.length - 1)/\Om p a/\(e=0->Em p k s)
theorem wz (B:ye) (r:Sa×Int) (b:Bool):Gx B r b=some (if b=true then 9 else r.2,B):=by cases b<;>rfl
theorem kS:∀ n,hU n:=by
 intro n
 induction n with
 | zero=>exact ⟨λ_ _ _ _ _ _ _ _ _ h=>by omega,λ_ _ _ _ _ _ _ _ _ h=>by omega⟩
 | succ n O =>
  refine ⟨λk p d B l H ma F hB bb=>?_,λk p d B s H be F hB bb=>?_⟩
  ·show ∃ e,Sk (Rl n) p d B l=some (e,B)/\_;rw [Sk,app,if_pos (by simp;omega),Ga,Dx];have L:∀ (m i:Nat) (a:ye),i<=l.length->l.length<m+i->a.length=B.length+1->a.take B.length=B->Om p a ->
     ∃ e,Ds (Rl n) l p d m i a=some (e,B)/\(e=0->∀ y ∈ l.drop i,Em p k y):=by
    intro m
    induction m with
    | zero=>intro i a j g; omega
    | succ m Gb =>
     intro i a j g v A gc;rw [Ds];have pop:∀ C:ye,C.length=B.length+1->C.take B.length=B->ft p d C=some B:=λC ua x=>by
      rw [oI p d C (by omega) (by omega),ua,Nat.add_sub_cancel,x]
     by_cases c:i<l.length
     ·obtain ⟨e,P,lc,Q,U,rc,fd⟩:=O.stat k p d a l[i] ⟨H.Tq,H.Ea,gc,by omega⟩ (by omega) (F _ (List.getElem_mem _)) (by omega) (by omega);rw [v,Nat.add_sub_cancel] at U;rw [v] at Q;have x:P.take B.length=B:=U.trans A;rw [if_pos (by omega),Lg,List.getElem?_eq_getElem c,Ga,lc,Ga];by_cases z:e=0
      ·rw [if_neg (by simpa using z),Gf (by omega),Ga];obtain ⟨id,s1,s2⟩:=Gb (i+1) P c (by omega) Q x rc;refine ⟨id,s1,λr y G=>?_⟩;rw [List.drop_eq_getElem_cons c] at G;rcases List.mem_cons.1 G with rfl | G
       ·exact fd z
       ·exact s2 r y G
      ·rw [if_pos z];simp only [];rw [pop P Q x,Ga];exact ⟨e,rfl,λh=>absurd h z⟩
     ·rw [if_neg (by omega),pop a v A,Ga,List.drop_eq_nil_of_le (by omega)];exact ⟨0,rfl,λ_=>by simp⟩
   have:=L (l.length+1) 0 (B++[[]]) (by omega) (by omega) (by simp) (by simp) (λm w k' t R=>by
    rcases List.mem_append.1 w with w | w
    ·exact H.Tc m w k' t R
    ·rw [List.mem_singleton.1 w] at R;cases R)
   simpa using this
  ·show ∃ e a,gn n (Rl n) p d B s=some (e,a)/\_;cases k with
   | zero=>cases F
   | succ k =>
   obtain ⟨k1,ce,D,V,he⟩:=F;have K:=(DK n).typed k p d B s.X;have S:=(DK n).expr k p d B s.X;have same:∀ e:Int,(e=0->Em p (k+1) s)->∀ o:Option (Int×ye),o=some (e,B)->∃ e a,o=some (e,a)/\a.length=B.length/\a.take (B.length - 1)=B.take (B.length - 1)/\Om p a/\(e=0->Em p (k+1) s):=
    λe h o md=>⟨e,B,md,rfl,rfl,H.Tc,h⟩
   have cs:s.Kind≠3->s.Kind≠4->s.Kind≠7->(s.Kind≠6->Calls p k s.X)->Em p (k+1) s:=λnd ge rd h=>⟨h,λh=>by omega,λh=>absurd h nd,λh=>absurd h rd⟩;rw [gn];by_cases eb:s.Kind=1
   ·obtain ⟨t,e,j,g⟩:=S H (D (by omega)) (by omega);rw [if_pos eb,j,Ga];by_cases z:e=0
    ·obtain ⟨hb,b,v,A⟩:=lD H.Tc H.Jd n (by omega) d s.Name;rw [if_neg (by simpa using z),v,Ga];cases b with
     | true=>exact same 7 (λh=>absurd h (by decide)) _ rfl
     | false =>
      have wd:B.length - 1<B.length:=by omega
      have ua:(B.length:Int) - 1=((B.length - 1:Nat):Int):=by omega
      rw [if_neg (by simp),Gf (by omega),Ga,ua,Lg,List.getElem?_eq_getElem wd,Ga,Bu];refine ⟨0,_,rfl,by simp,?_,λm w k' u E=>?_,λ_=>cs (by omega) (by omega) (by omega) λ_=>(g z).2⟩
      ·simp [List.take_set_of_le]
      ·rcases List.mem_or_eq_of_mem_set w with w | rfl
       ·exact H.Tc m w k' u E
       ·rw [sk] at E;split at E
        ·obtain rfl:=Option.some.inj E;exact (g z).1
        ·exact H.Tc _ (List.getElem_mem _) k' u E
    ·rw [if_pos z];exact same e (λh=>absurd h z) _ rfl
   rw [if_neg eb];by_cases c2:s.Kind=2
   ·obtain ⟨hb,b,v,A⟩:=lD H.Tc H.Jd n (by omega) d s.Name;rw [if_pos c2,v,Ga];cases b with
    | false=>exact same 7 (λh=>absurd h (by decide)) _ rfl
    | true =>
     obtain ⟨e,j,g⟩:=K hb H (D (by omega)) (by omega);rw [if_pos rfl,j,Ga];exact same e (λr=>cs (by omega) (by omega) (by omega) λ_=>g r) _ rfl
   rw [if_neg c2];have W:∀ b,(b=true ↔ s.Kind=3\/s.Kind=4)->∃ e a,Ls n (Rl n) s p d B b=some (e,a)/\a.length=B.length/\a.take (B.length - 1)=B.take (B.length - 1)/\Om p a/\(e=0->Em p (k+1) s):=by
    intro b T;rw [Ls];by_cases q:b=true
    ·have c:=T.1 q;obtain ⟨e,j,g⟩:=K ⟨2,[]⟩ H (D (by omega)) (by omega);rw [if_pos q,ak,Ga,j,Ga];by_cases z:e=0
     ·rw [if_neg (by simpa using z)];obtain ⟨x,v,A⟩:=O.stats k p d B s.Body H (V c).1 (V c).2 (by omega) (by omega);rw [v,Ga];by_cases z2:x=0
      ·rw [if_neg (by simpa using z2)];by_cases c4:s.Kind=4
       ·rw [decide_eq_true c4];exact same x (λ_=>⟨λ_=>g z,λ_=>A z2,λh=>by omega,λh=>by omega⟩) _ rfl
       ·have Y:s.Kind=3:=by omega
        obtain ⟨Fd,f1,f2⟩:=O.stats k p d B s.sf H (he Y).1 (he Y).2 (by omega) (by omega);rw [decide_eq_false c4,Fv,if_neg (by decide)];simp only [];rw [f1,Ga];exact same Fd (λr=>⟨λ_=>g z,λ_=>A z2,λ_=>f2 r,λh=>by omega⟩) _ rfl
      ·rw [if_pos z2];exact same x (λh=>absurd h z2) _ rfl
     ·rw [if_pos z];exact same e (λh=>absurd h z) _ rfl
    rw [if_neg q];have M:s.Kind≠3:=λh=>q (T.2 (.inl h));have N:s.Kind≠4:=λh=>q (T.2 (.inr h));by_cases c5:s.Kind=5
    ·rw [if_pos c5];split
     ·exact same 8 (λh=>absurd h (by decide)) _ rfl
     ·obtain ⟨e,j,g⟩:=K d.Ob H (D (by omega)) (by omega);rw [j,Ga];exact same e (λr=>cs M N (by omega) λ_=>g r) _ rfl
    rw [if_neg c5];by_cases Wc:s.Kind=6
    ·rw [if_pos Wc];split
     ·exact same 8 (λh=>absurd h (by decide)) _ rfl
     ·exact same 0 (λr=>cs M N (by omega) λh=>absurd Wc h) _ rfl
    rw [if_neg Wc];by_cases tg:s.Kind=7
    ·rw [if_pos tg,Du,Ga];by_cases c:Gp (Oa p.named s.Name) 1=true
     ·obtain ⟨f,Z,Id⟩:=Zu c;obtain ⟨e,j,g⟩:=K f.Ob H (D (by omega)) (by omega);rw [if_pos c,Z];simp only [Ga];rw [j,Ga];exact same e (λr=>⟨λ_=>g r,λh=>by omega,λh=>by omega,λ_=>⟨f,Z,Id⟩⟩) _ rfl
     ·rw [if_neg c];exact same 7 (λh=>absurd h (by decide)) _ rfl
    rw [if_neg tg];by_cases Rf:s.Kind=8
    ·obtain ⟨t,e,j,g⟩:=S H (D (by omega)) (by omega);rw [if_pos Rf,j,Ga];by_cases z:e=0
     ·rw [if_pos z,Xo,Ga,wz];exact same _ (λ_=>cs M N (by omega) λ_=>(g z).2) _ rfl
     ·rw [if_neg z,wz];exact same e (λh=>absurd h z) _ rfl
    rw [if_neg Rf];by_cases c9:s.Kind=9
    ·obtain ⟨t,e,j,g⟩:=S H (D (by omega)) (by omega);rw [if_pos c9,j,Ga];exact same e (λr=>cs M N (by omega) λ_=>(g r).2) _ rfl
    ·omega
   split
   ·rename_i h;exact W _ (by simp [h])
   ·rename_i h;exact W _ (by simp [h])
theorem fO (p:mb) (t:Sa):∃ e,ey p t=some e/\(e=0->zk p t):=by
 rw [ey,Xo,Ga];by_cases c:t.Kind≠3
 ·rw [if_pos (decide_eq_true c)];exact ⟨0,rfl,λ_=>.of c⟩
 ·rw [if_neg (by simpa using c),Du,Ga];by_cases q:Gp (Oa p.named t.Pc) 3=true
  ·rw [if_pos q];exact ⟨0,rfl,λ_ _=>Zu q⟩
  ·rw [if_neg q];exact ⟨7,rfl,λh=>absurd h (by decide)⟩
theorem lN (p:mb) (d:va) (Ea:nu d):∃ e,cw p d=some e/\(e=0->zo p d):=by
 have f:∀ b,Ms b=some (if b=true then 9 else 0):=λb=>by cases b<;>rfl
 have o:(d.Kind=2\/d.Kind=3->∀ q ∈ d.Params,zk p q.Ob)->∃ e,Gv d=some e/\(e=0->zo p d):=by
  intro g;rw [Gv];have j:d.Kind=2\/d.Kind=3->d.Params.length<=6:=λh=>(Ea.Hg h).1;by_cases c3:d.Kind=3
  ·rw [if_pos c3,Xo,Ga];by_cases q:d.Yd.Kind≠3
   ·rw [if_pos (decide_eq_true q),if_pos (by omega),Xo,Ga,f];refine ⟨_,rfl,λl=>⟨λ_ h=>?_,λ_=>q,g,j⟩⟩;simp [h] at l
   ·rw [if_neg (by simpa using q),f];exact ⟨9,rfl,λh=>absurd h (by decide)⟩
  ·rw [if_neg c3];by_cases c4:d.Kind=4
   ·rw [if_neg (by simpa using c4),f];exact ⟨0,rfl,λ_=>⟨λh=>absurd c4 h,λh=>absurd h c3,g,j⟩⟩
   ·rw [if_pos c4,Xo,Ga,f];refine ⟨_,rfl,λl=>⟨λ_ h=>?_,λh=>absurd h c3,g,j⟩⟩;simp [h] at l
 have r:∀ b,(b=true ↔ d.Kind=2\/d.Kind=3)->∃ e,Iv p d b=some e/\(e=0->zo p d):=by
  intro b s;rw [Iv];by_cases q:b=true
  ·rw [if_pos q];have C:=Ea.Hg (s.1 q);have L:∀ (m i:Nat) (S:List (List UInt8×Int)),i<=d.Params.length->d.Params.length<m+i->(∀ k c,Oa S k=some c->0<=c/\c<=1)->(∀ q ∈ d.Params.take i,zk p q.Ob)->∃ e,Hv p d m i S=some e/\(e=0->zo p d):=by
    intro m
    induction m with
    | zero=>intro i S u x; omega
    | succ m A =>
     intro i S u x t n;rw [Hv];by_cases c:i<d.Params.length
     ·have D:0<=(Oa S d.Params[i].Name).getD 0/\(Oa S d.Params[i].Name).getD 0<=1:=by
       cases h:Oa S d.Params[i].Name with
       | none=>decide
       | some v=>exact t _ _ h
      rw [if_pos (by omega),Lg,List.getElem?_eq_getElem c,Ga,Gf (by omega),Ga,sk,if_pos rfl];simp only [Option.getD_some];by_cases w:(1:Int)<(Oa S d.Params[i].Name).getD 0+1
      ·rw [if_pos w];exact ⟨7,rfl,λh=>absurd h (by decide)⟩
      ·obtain ⟨e,ua,B⟩:=fO p d.Params[i].Ob;rw [if_neg w,ua,Ga];by_cases z:e=0
       ·rw [if_neg (by simpa using z),Gf (by omega),Ga];refine A (i+1) _ c (by omega) (λk v Pa=>?_) λy a=>?_
        ·rw [sk] at Pa;split at Pa
         ·obtain rfl:=Option.some.inj Pa;omega
         ·exact t _ _ Pa
        ·rw [List.take_succ_eq_append_getElem c] at a;rcases List.mem_append.1 a with a | a
         ·exact n y a
         ·rw [List.mem_singleton.1 a];exact B z
       ·rw [if_pos z];exact ⟨e,rfl,λh=>absurd h z⟩
     ·rw [if_neg (by omega)];rw [List.take_of_length_le (by omega)] at n;exact o λ_=>n
   exact L (d.Params.length+1) 0 [] (by omega) (by omega) (λk c h=>by cases h) (by simp)
  ·rw [if_neg q];exact o λh=>absurd (s.2 h) q
 rw [cw];split
 ·rename_i h;exact r _ (by simp [h])
 ·rename_i h;exact r _ (by simp [h])
theorem mN (fu:Nat) (C:500<=fu) (p:mb) (d:va) (s:jH p) (b:zo p d) (Ea:nu d):∃ e,mr fu p d=some e/\(e=0->d.Kind≠1->∀ y ∈ d.Body,Em p 39 y):=by
 rw [mr];by_cases eb:d.Kind=1
 ·rw [if_pos eb];exact ⟨0,rfl,λ_ h=>absurd eb h⟩
 ·rw [if_neg eb];have n:∀ B:ye,B.length=1->Om p B->∃ e,Ns fu p d B=some e/\(e=0->d.Kind≠1->∀ y ∈ d.Body,Em p 39 y):=by
   intro B o f;obtain ⟨e,u,v⟩:=(kS fu).stats 39 p d B d.Body ⟨s,b,f,by omega⟩ (Ea.Jd eb) (Ea.vx eb) (by omega) (by omega);rw [Ns,u,Ga];exact ⟨e,rfl,λw _=>v w⟩
  by_cases c4:d.Kind=4
  ·rw [if_neg (by simpa using c4)];exact n _ rfl (λm g k t a=>by rw [List.mem_singleton.1 g] at a;cases a)
  ·rw [if_pos c4];have q:d.Kind=2\/d.Kind=3:=by have:=Ea.k1;have:=Ea.pf;omega
   have D:=b.pl q;have L:∀ (m i:Nat) (B:ye),i<=d.Params.length->d.Params.length<m+i->B.length=1->Om p B->∃ e,dr fu p d m i B=some e/\(e=0->d.Kind≠1->∀ y ∈ d.Body,Em p 39 y):=by
    intro m
    induction m with
    | zero=>intro i B o f; omega
    | succ m x =>
     intro i B o f r j;rw [dr];by_cases c:i<d.Params.length
     ·have z:0<B.length:=by omega
      rw [if_pos (by omega),Lg,List.getElem?_eq_getElem c,Ga,OG z,Ga,po,Ga,Hx,Gf (by omega),Ga];refine x (i+1) _ c (by omega) (by simpa using r) λA l k t a=>?_;rcases List.mem_or_eq_of_mem_set l with l | rfl
      ·exact j A l k t a
      ·rw [sk] at a;split at a
       ·obtain rfl:=Option.some.inj a;exact (b.Hg q _<|List.getElem_mem _).bare
       ·exact j _ (List.getElem_mem _) k t a
     ·rw [if_neg (by omega)];exact n B r j
   exact L (d.Params.length+1) 0 _ (by omega) (by omega) rfl (λm g k t a=>by rw [List.mem_singleton.1 g] at a;cases a)
structure Bo (p:mb) (l:List va):Prop where
 ok:ZG l
 bc:∀ d ∈ l,Oa p.named d.Name=some d
 only:∀ k d,Oa p.named k=some d->d ∈ l/\d.Name=k
 nd:l.Pairwise λa b=>a.Name≠b.Name
 Kl:∃ d ∈ l,d.Kind=4
 Ea:∀ d ∈ l,zo p d
 cs:∀ d ∈ l,d.Kind≠1->∀ y ∈ d.Body,Em p 39 y
theorem zH (fu:Nat) (D:500<=fu) (l:List va):∃ p f,Ys fu l=some (p,f)/\(f.De=0->Bo p l):=by
 obtain ⟨f,j,n⟩:=kD fu (by omega) l;rw [Ys,j,Ga];by_cases z:f.De=0
 ·obtain ⟨-,ok⟩:=n z;have ma:=ok.le;rw [if_neg (by simpa using z)];have E:∀ (N:List (List UInt8×va)),(∀ d ∈ l,Oa N d.Name=some d)->(∀ k d,Oa N k=some d->d ∈ l/\d.Name=k)->l.Pairwise (λa b=>a.Name≠b.Name)->(∃ d ∈ l,d.Kind=4)->(∀ d ∈ l,zo ⟨l,N⟩ d) ->
    ∀ (m i:Nat),i<=l.length->l.length<m+i->(∀ d ∈ l.take i,d.Kind≠1->∀ y ∈ d.Body,Em ⟨l,N⟩ 39 y)->∃ p f,ar fu l N m i=some (p,f)/\(f.De=0->Bo p l):=by
   intro N od Bn qx sx tx m
   induction m with
   | zero=>intro i j n; omega
   | succ m o =>
    intro i j n g;rw [ar];by_cases c:i<l.length
    ·obtain ⟨e,ua,r⟩:=mN fu D ⟨l,N⟩ l[i] (λk d Ea=>tx d (Bn k d Ea).1) (tx _ (List.getElem_mem _)) (ok.ok _ (List.getElem_mem _));rw [if_pos (by omega),Lg,List.getElem?_eq_getElem c,Ga,ua,Ga];by_cases z:e=0
     ·rw [if_neg (by simpa using z),Gf (by omega),Ga];refine o (i+1) c (by omega) λd Ea=>?_;rw [List.take_succ_eq_append_getElem c] at Ea;rcases List.mem_append.1 Ea with Ea | Ea
      ·exact g d Ea
      ·rw [List.mem_singleton.1 Ea];exact r z
     ·rw [if_pos z];exact ⟨_,_,rfl,λh=>absurd h z⟩
    ·rw [if_neg (by omega)];rw [List.take_of_length_le (by omega)] at g;exact ⟨_,_,rfl,λ_=>⟨ok,od,Bn,qx,sx,tx,g⟩⟩
  have F:∀ (N:List (List UInt8×va)),(∀ d ∈ l,Oa N d.Name=some d)->(∀ k d,Oa N k=some d->d ∈ l/\d.Name=k)->l.Pairwise (λa b=>a.Name≠b.Name)->(∃ d ∈ l,d.Kind=4) ->
    ∀ (m i:Nat),i<=l.length->l.length<m+i->(∀ d ∈ l.take i,zo ⟨l,N⟩ d)->∃ p f,br fu l N m i=some (p,f)/\(f.De=0->Bo p l):=by
   intro N od Bn qx sx m
   induction m with
   | zero=>intro i j n; omega
   | succ m o =>
    intro i j n g;rw [br];by_cases c:i<l.length
    ·obtain ⟨e,ua,r⟩:=lN ⟨l,N⟩ l[i] (ok.ok _ (List.getElem_mem _));rw [if_pos (by omega),Lg,List.getElem?_eq_getElem c,Ga,ua,Ga];by_cases z:e=0
     ·rw [if_neg (by simpa using z),Gf (by omega),Ga];refine o (i+1) c (by omega) λd Ea=>?_;rw [List.take_succ_eq_append_getElem c] at Ea;rcases List.mem_append.1 Ea with Ea | Ea
      ·exact g d Ea
      ·rw [List.mem_singleton.1 Ea];exact r z
     ·rw [if_pos z];exact ⟨_,_,rfl,λh=>absurd h z⟩
    ·rw [if_neg (by omega)];rw [List.take_of_length_le (by omega)] at g;exact E N od Bn qx sx g (l.length+1) 0 (by omega) (by omega) (by simp)
  have G:∀ (m i:Nat) (t:Int) (N:List (List UInt8×va)),i<=l.length->l.length<m+i->0<=t->t<=i->(t≠0->∃ d ∈ l,d.Kind=4)->(∀ d ∈ l.take i,Oa N d.Name=some d)->(∀ k d,Oa N k=some d->d ∈ l.take i/\d.Name=k)->(l.take i).Pairwise (λa b=>a.Name≠b.Name) ->
    ∃ p f,cr fu l m t i N=some (p,f)/\(f.De=0->Bo p l):=by
   intro m
   induction m with
   | zero=>intro i t N j n; omega
   | succ m o =>
    intro i t N j n H R x q s u;rw [cr];by_cases c:i<l.length
    ·have qb:at_ l (i:Int)=some l[i]:=by rw [Lg,List.getElem?_eq_getElem c]
     rw [if_pos (by omega),qb,Ga];cases h:Oa N l[i].Name with
     | some v=>rw [if_pos (by simp)]; exact ⟨_,_,rfl,λh=>absurd h (by decide:(7:Int)≠0)⟩
     | none =>
      rw [if_neg (by simp)];simp only [Ga];have K:l[i] ∈ l:=List.getElem_mem _;have Kl:=List.take_succ_eq_append_getElem c;have Rq:∀ d ∈ l.take i,d.Name≠l[i].Name:=λd Ea w=>by
       have:=q d Ea;rw [w,h] at this;cases this
      have A:∀ d ∈ l.take (i+1),Oa (kd N l[i].Name l[i]) d.Name=some d:=by
       intro d Ea;rw [Kl] at Ea;rw [sk];rcases List.mem_append.1 Ea with Ea | Ea
       ·rw [if_neg λw=>Rq d Ea w.symm];exact q d Ea
       ·rw [List.mem_singleton.1 Ea,if_pos rfl]
      have B:∀ k d,Oa (kd N l[i].Name l[i]) k=some d->d ∈ l.take (i+1)/\d.Name=k:=by
       intro k d Ea;rw [sk] at Ea;rw [Kl];split at Ea
       ·rename_i L;obtain rfl:=Option.some.inj Ea;exact ⟨List.mem_append.2<|.inr<|List.mem_singleton.2 rfl,L⟩
       ·obtain ⟨M,O⟩:=s k d Ea;exact ⟨List.mem_append.2<|.inl M,O⟩
      have C:(l.take (i+1)).Pairwise (λa b=>a.Name≠b.Name):=by
       rw [Kl,List.pairwise_append];refine ⟨u,List.pairwise_singleton _ _,λa P b Q=>?_⟩;rw [List.mem_singleton.1 Q];exact Rq a P
      by_cases pf:l[i].Kind=4
      ·rw [if_pos pf,Gf (by omega),Ga,Gf (by omega),Ga];exact o (i+1) (t+1) _ c (by omega) (by omega) (by omega) (λ_=>⟨_,K,pf⟩) A B C
      ·rw [if_neg pf,Gf (by omega),Ga];exact o (i+1) t _ c (by omega) H (by omega) x A B C
    ·rw [if_neg (by omega)];rw [List.take_of_length_le (by omega)] at q s u;by_cases t0:t=0
     ·rw [if_pos t0];exact ⟨_,_,rfl,λh=>absurd h (by decide:(6:Int)≠0)⟩
     ·rw [if_neg t0];exact F N q s u (x t0) (l.length+1) 0 (by omega) (by omega) (by simp)
  exact G (l.length+1) 0 0 [] (by omega) (by omega) (by omega) (by omega) (λh=>absurd rfl h) (by simp) (λk d h=>by cases h) (by simp)
 ·rw [if_pos z];exact ⟨_,_,rfl,λh=>absurd h z⟩
abbrev Nm:=List UInt8
def Pk:Nat->Na->List Nm
 | 0,_=>[]
 | k+1,x=>(if x.Kind=19\/x.Kind=22 then [x.Name] else [])++(x.Kids.map (Pk k)).flatten
def Ll:Nat->Na->List Nm
 | 0,_=>[]
 | k+1,x=>(if x.Kind=20 then [x.Name] else [])++(x.Kids.map (Ll k)).flatten
def zj:Nat->Ra->List Nm
 | 0,_=>[]
 | k+1,s=>(if s.Kind=6 then [] else Pk k s.X)++(if s.Kind=3\/s.Kind=4 then (s.Body.map (zj k)).flatten else [])++(if s.Kind=3 then (s.sf.map (zj k)).flatten else [])
def Xj:Nat->Ra->List Nm
 | 0,_=>[]
 | k+1,s=>(if s.Kind=6 then [] else Ll k s.X)++(if s.Kind=3\/s.Kind=4 then (s.Body.map (Xj k)).flatten else [])++(if s.Kind=3 then (s.sf.map (Xj k)).flatten else [])
def Yj:Nat->Ra->List Nm
 | 0,_=>[]
 | k+1,s=>(if s.Kind=7 then [s.Name] else [])++(if s.Kind=3\/s.Kind=4 then (s.Body.map (Yj k)).flatten else [])++(if s.Kind=3 then (s.sf.map (Yj k)).flatten else [])
theorem Am {α β:Type}(f:α->List β) (g:α->Nat) (h:∀ x,(f x).length<=g x):∀ l:List α,(l.map f).flatten.length<=(l.map g).sum
 | []=>by simp
 | x::l=>by
  have:=Am f g h l;have:=h x;simp only [List.map_cons,List.flatten_cons,List.length_append,List.sum_cons];omega
theorem EK {α:Type}(g:α->Nat):∀ (l:List α) (x:α),x ∈ l->g x<=(l.map g).sum
 | y::l,x,h=>by
  rw [List.map_cons,List.sum_cons];rcases List.mem_cons.1 h with rfl | h
  ·omega
  ·have:=EK g l x h;omega
theorem zB:∀ (k:Nat) (x:Na),(Pk k x).length<=rk k x
 | 0,x=>by simp [Pk]
 | k+1,x=>by
  have:=Am (Pk k) (rk k) (zB k) x.Kids;rw [Pk,rk,List.length_append];split<;>simp only [List.length_cons,List.length_nil]<;>omega
theorem AB:∀ (k:Nat) (x:Na),(Ll k x).length<=rk k x
 | 0,x=>by simp [Ll]
 | k+1,x=>by
  have:=Am (Ll k) (rk k) (AB k) x.Kids;rw [Ll,rk,List.length_append];split<;>simp only [List.length_cons,List.length_nil]<;>omega
theorem Jy:∀ (k:Nat) (x:Ra),(zj k x).length<=eh k x
 | 0,x=>by simp [zj]
 | k+1,x=>by
  have:=Am (zj k) (eh k) (Jy k) x.Body;have:=Am (zj k) (eh k) (Jy k) x.sf;have:=zB k x.X;rw [zj,eh,List.length_append,List.length_append];split<;>split<;>split<;>(try simp only [List.length_nil])<;>omega
theorem Ky:∀ (k:Nat) (x:Ra),(Xj k x).length<=eh k x
 | 0,x=>by simp [Xj]
 | k+1,x=>by
  have:=Am (Xj k) (eh k) (Ky k) x.Body;have:=Am (Xj k) (eh k) (Ky k) x.sf;have:=AB k x.X;rw [Xj,eh,List.length_append,List.length_append];split<;>split<;>split<;>(try simp only [List.length_nil])<;>omega
theorem Ly:∀ (k:Nat) (x:Ra),(Yj k x).length<=eh k x
 | 0,x=>by simp [Yj]
 | k+1,x=>by
  have:=Am (Yj k) (eh k) (Ly k) x.Body;have:=Am (Yj k) (eh k) (Ly k) x.sf;rw [Yj,eh,List.length_append,List.length_append];by_cases a:x.Kind=7
  ·rw [if_pos a,if_neg (by omega),if_neg (by omega),if_neg (by omega),if_neg (by omega),if_neg (by omega)];simp
  ·rw [if_neg a];split<;>split<;>split<;>(try simp only [List.length_nil])<;>omega
theorem Et {α:Type}{l xs:List α}(h:l.length+xs.length<=4294967296):app l xs=some (l++xs):=if_pos h
theorem nN:∀ (n k:Nat) (x:Na) (c s r:List Nm),k<=n->Ti k x->c.length+rk k x<=1000000->r.length+rk k x<=1000000->(dt n).Jn c s r x=some (c++Pk k x,s,r++Ll k x):=by
 intro n
 induction n with
 | zero =>
  intro k x c s r e a;obtain rfl:k=0:=by omega
  cases a
 | succ n p =>
  intro k x c s r e a t u;cases k with
  | zero=>cases a
  | succ k =>
  obtain ⟨k1,B,v,w⟩:=a;show Jn (dt n) c s r x=_;have L:∀ (m i:Nat) (c r:List Nm),i<=x.Kids.length->x.Kids.length<m+i->c.length+((x.Kids.drop i).map (rk k)).sum<=1000000->r.length+((x.Kids.drop i).map (rk k)).sum<=1000000 ->
    Jv (dt n) x m i c s r=some (c++((x.Kids.drop i).map (Pk k)).flatten,s,r++((x.Kids.drop i).map (Ll k)).flatten):=by
   intro m
   induction m with
   | zero=>intro i c r e a; omega
   | succ m y =>
    intro i c r f g z A;rw [Jv];have ma:=v.le;by_cases q:i<x.Kids.length
    ·rw [List.drop_eq_getElem_cons q,List.map_cons,List.sum_cons] at z A;have ka:=zB k x.Kids[i];have ad:=AB k x.Kids[i];rw [if_pos (by omega),Lg,List.getElem?_eq_getElem q,Ga,p k x.Kids[i] c s r (by omega) (w _ (List.getElem_mem _)) (by omega) (by omega),Ga,Gf (by omega),Ga];refine (y (i+1) _ _ q (by omega) (by simp only [List.length_append];omega) (by simp only [List.length_append];omega)).trans ?_;rw [List.drop_eq_getElem_cons q];simp only [List.map_cons,List.flatten_cons,List.append_assoc]
    ·rw [if_neg (by omega),List.drop_eq_nil_of_le (by omega)];simp
  have d:∀ c r:List Nm,c.length+(x.Kids.map (rk k)).sum<=1000000->r.length+(x.Kids.map (rk k)).sum<=1000000->Cu (dt n) x s c r=some (c++(x.Kids.map (Pk k)).flatten,s,r++(x.Kids.map (Ll k)).flatten):=by
   intro c r f g;have:=L (x.Kids.length+1) 0 c r (by omega) (by omega) (by simpa using f) (by simpa using g);simpa [Cu] using this
  rw [rk] at t u;have j:∀ b,(b=true ↔ x.Kind=19\/x.Kind=22)->Kv (dt n) c x s r b=some (c++Pk (k+1) x,s,r++Ll (k+1) x):=by
   intro b l;rw [Kv,Pk,Ll];by_cases q:b=true
   ·have:=l.1 q;rw [if_pos q,Et (by simp;omega),Ga,Ez,d _ _ (by simp;omega) (by omega),if_pos this,if_neg (by omega)];simp
   ·rw [if_neg q];have o:¬ (x.Kind=19\/x.Kind=22):=λh=>q (l.2 h);by_cases c20:x.Kind=20
    ·rw [if_pos c20,Et (by simp;omega),Ga,Fz,d _ _ (by omega) (by simp;omega),if_neg o,if_pos c20];simp
    ·rw [if_neg c20,d _ _ (by omega) (by omega),if_neg o,if_neg c20];simp
  rw [Jn];split
  ·rename_i h;exact j _ (by simp [h])
  ·rename_i h;exact j _ (by simp [h])
theorem MM:∀ (n k:Nat) (l:List Ra) (c s r:List Nm),k+1<=n->l.length<=50->(∀ y ∈ l,Vm k y)->c.length+(l.map (eh k)).sum<=1000000->s.length+(l.map (eh k)).sum<=1000000->r.length+(l.map (eh k)).sum<=1000000 ->
  (ym n).Pl c s r l=some (c++(l.map (zj k)).flatten,s++(l.map (Yj k)).flatten,r++(l.map (Xj k)).flatten):=by
 intro n
 induction n with
 | zero=>intro k l c s r u; omega
 | succ n v =>
  intro k l c s r u ma E f F G;show Pl n (ym n) c s r l=_;have L:∀ (m i:Nat) (c s r:List Nm),i<=l.length->l.length<m+i->c.length+((l.drop i).map (eh k)).sum<=1000000->s.length+((l.drop i).map (eh k)).sum<=1000000->r.length+((l.drop i).map (eh k)).sum<=1000000 ->
    Ml n (ym n) l m i c s r=some (c++((l.drop i).map (zj k)).flatten,s++((l.drop i).map (Yj k)).flatten,r++((l.drop i).map (Xj k)).flatten):=by
   intro m
   induction m with
   | zero=>intro i c s r u N; omega
   | succ m H =>
    intro i c s r O P g j o;rw [Ml];by_cases q:i<l.length
    ·rw [List.drop_eq_getElem_cons q,List.map_cons,List.sum_cons] at g j o;rw [if_pos (by omega),Lg,List.getElem?_eq_getElem q,Ga];have w:=E _ (List.getElem_mem q);have ka:=Jy k l[i];have ad:=Ly k l[i];have Ua:=Ky k l[i];have Vh:=λc' Bb r' (ua:c'=c++zj k l[i]) (a:Bb=s++Yj k l[i]) (d:r'=r++Xj k l[i]) =>
      (H (i+1) c' Bb r' q (by omega) (by rw [ua,List.length_append];omega) (by rw [a,List.length_append];omega) (by rw [d,List.length_append];omega)).trans
       (show _=some (c++((l.drop i).map (zj k)).flatten,s++((l.drop i).map (Yj k)).flatten,r++((l.drop i).map (Xj k)).flatten) by
        rw [List.drop_eq_getElem_cons q,ua,a,d];simp only [List.map_cons,List.flatten_cons,List.append_assoc])
     generalize l[i]=y at *;cases k with
     | zero=>cases w
     | succ k =>
     obtain ⟨k1,Q,K,x,z⟩:=w;rw [eh] at g j o;rw [zj] at ka Vh;rw [Yj] at ad Vh;rw [Xj] at Ua Vh;have A:∀ c' Bb r',(y.Kind=3->c'.length+(y.sf.map (eh k)).sum<=1000000/\Bb.length+(y.sf.map (eh k)).sum<=1000000/\r'.length+(y.sf.map (eh k)).sum<=1000000) ->
       c'=c++((if y.Kind=6 then [] else Pk k y.X)++(if y.Kind=3\/y.Kind=4 then (y.Body.map (zj k)).flatten else []))->Bb=s++((if y.Kind=7 then [y.Name] else [])++(if y.Kind=3\/y.Kind=4 then (y.Body.map (Yj k)).flatten else [])) ->
       r'=r++((if y.Kind=6 then [] else Ll k y.X)++(if y.Kind=3\/y.Kind=4 then (y.Body.map (Xj k)).flatten else [])) ->
       Av (ym n) i y (Ml n (ym n) l m) c' Bb r'=some (c++((l.drop i).map (zj (k+1))).flatten,s++((l.drop i).map (Yj (k+1))).flatten,r++((l.drop i).map (Xj (k+1))).flatten):=by
      intro c' Bb r' p ua a d;rw [Av];by_cases c3:y.Kind=3
      ·obtain ⟨M,z2,z3⟩:=p c3;rw [if_pos c3,v k y.sf c' Bb r' (by omega) (z c3).1 (z c3).2 M z2 z3,Ga,Gf (by omega),Ga];refine Vh _ _ _ ?_ ?_ ?_
       ·rw [ua];simp only [if_pos c3,List.append_assoc]
       ·rw [a];simp only [if_pos c3,List.append_assoc]
       ·rw [d];simp only [if_pos c3,List.append_assoc]
      ·rw [if_neg c3,Gf (by omega),Ga];refine Vh _ _ _ ?_ ?_ ?_
       ·rw [ua];simp only [if_neg c3,List.append_nil]
       ·rw [a];simp only [if_neg c3,List.append_nil]
       ·rw [d];simp only [if_neg c3,List.append_nil]
     have B:∀ c' Bb r' b,(b=true ↔ y.Kind=3\/y.Kind=4)->c'=c++(if y.Kind=6 then [] else Pk k y.X)->Bb=s++(if y.Kind=7 then [y.Name] else [])->r'=r++(if y.Kind=6 then [] else Ll k y.X) ->
       Bv (ym n) i y c' Bb r' (Ml n (ym n) l m) b=some (c++((l.drop i).map (zj (k+1))).flatten,s++((l.drop i).map (Yj (k+1))).flatten,r++((l.drop i).map (Xj (k+1))).flatten):=by
      intro c' Bb r' b p ua a d;rw [Bv];have R:=zB k y.X;have S:=AB k y.X;have T:=Am (zj k) (eh k) (Jy k) y.Body;have U:=Am (Yj k) (eh k) (Ly k) y.Body;have V:=Am (Xj k) (eh k) (Ky k) y.Body;by_cases q:b=true
      ·have e:=p.1 q;rw [if_neg (show y.Kind≠6 by omega),if_pos e] at g j o;rw [if_neg (show y.Kind≠6 by omega)] at ua d;rw [if_neg (show y.Kind≠7 by omega)] at a;have W:c'.length=c.length+(Pk k y.X).length:=by rw [ua,List.length_append]
       have Y:Bb.length=s.length:=by rw [a];simp
       have Z:r'.length=r.length+(Ll k y.X).length:=by rw [d,List.length_append]
       rw [if_pos q,v k y.Body c' Bb r' (by omega) (x e).1 (x e).2 (by omega) (by omega) (by omega),Ga];refine A _ _ _ (λf=>?_) ?_ ?_ ?_
       ·rw [if_pos f] at g j o;simp only [List.length_append];omega
       ·rw [ua,if_neg (show y.Kind≠6 by omega),if_pos e,List.append_assoc]
       ·rw [a,if_neg (show y.Kind≠7 by omega),if_pos e,List.append_assoc]
       ·rw [d,if_neg (show y.Kind≠6 by omega),if_pos e,List.append_assoc]
      ·have t:¬ (y.Kind=3\/y.Kind=4):=λh=>q (p.2 h);rw [if_neg q];refine A _ _ _ (λf=>absurd (.inl f) t) ?_ ?_ ?_
       ·rw [ua,if_neg t,List.append_nil]
       ·rw [a,if_neg t,List.append_nil]
       ·rw [d,if_neg t,List.append_nil]
     have C:∀ Bb,Bb=s++(if y.Kind=7 then [y.Name] else [])->Dv n (ym n) i c r y (Ml n (ym n) l m) Bb=some (c++((l.drop i).map (zj (k+1))).flatten,s++((l.drop i).map (Yj (k+1))).flatten,r++((l.drop i).map (Xj (k+1))).flatten):=by
      intro Bb a;have D:∀ c' r',c'=c++(if y.Kind=6 then [] else Pk k y.X)->r'=r++(if y.Kind=6 then [] else Ll k y.X)->Cv (ym n) i y (Ml n (ym n) l m) c' Bb r'=some (c++((l.drop i).map (zj (k+1))).flatten,s++((l.drop i).map (Yj (k+1))).flatten,r++((l.drop i).map (Xj (k+1))).flatten):=by
       intro c' r' ua d;rw [Cv];split
       ·rename_i h;exact B _ _ _ _ (by simp [h]) ua a d
       ·rename_i h;exact B _ _ _ _ (by simp [h]) ua a d
      rw [Dv];by_cases Wc:y.Kind=6
      ·rw [if_neg (by simpa using Wc)];exact D _ _ (by rw [if_pos Wc,List.append_nil]) (by rw [if_pos Wc,List.append_nil])
      ·rw [if_neg Wc] at g j o;rw [if_pos Wc,nN n k y.X c Bb r (by omega) (K Wc) (by omega) (by omega),Ga];exact D _ _ (by rw [if_neg Wc]) (by rw [if_neg Wc])
     by_cases tg:y.Kind=7
     ·rw [if_pos tg,Et (by simp;omega),Ga,yz];exact C _ (by rw [if_pos tg])
     ·rw [if_neg tg];exact C _ (by rw [if_neg tg,List.append_nil])
    ·rw [if_neg (by omega),List.drop_eq_nil_of_le (by omega)];simp
  rw [Pl];have:=L (l.length+1) 0 c s r (by omega) (by omega) (by simpa using f) (by simpa using F) (by simpa using G);simpa using this
theorem NA {α β:Type}{f:α->List β}{l:List α}{b:β}(h:b ∈ (l.map f).flatten):∃ a ∈ l,b ∈ f a:=by
 obtain ⟨q,c,d⟩:=List.mem_flatten.1 h;obtain ⟨a,e,rfl⟩:=List.mem_map.1 c;exact ⟨a,e,d⟩
theorem VA {β:Type}{c:Prop}[Decidable c]{l m:List β}{b:β}(h:b ∈ (if c then l else m)):(c/\b ∈ l)\/(¬ c/\b ∈ m):=by
 by_cases q:c
 ·rw [if_pos q] at h;exact .inl ⟨q,h⟩
 ·rw [if_neg q] at h;exact .inr ⟨q,h⟩
theorem RJ {p:mb}:∀ (k:Nat) (x:Na),Calls p k x->∀ c ∈ Pk k x,∃ d,Oa p.named c=some d/\(d.Kind=2\/d.Kind=3)
 | 0,x,h=>by cases h
 | k+1,x,h=>by
  obtain ⟨f,g,m,i⟩:=h;intro c b;rw [Pk] at b;rcases List.mem_append.1 b with b | b
  ·rcases VA b with ⟨q,b⟩ | ⟨q,b⟩
   ·rw [List.mem_singleton.1 b];rcases q with q | q
    ·obtain ⟨d,ua,e⟩:=f q;exact ⟨d,ua,.inl e⟩
    ·obtain ⟨d,ua,e⟩:=g q;exact ⟨d,ua,.inr e⟩
   ·cases b
  ·obtain ⟨a,j,l⟩:=NA b;exact RJ k a (i a j) c l
theorem JE {p:mb}:∀ (k:Nat) (x:Ra),Em p k x->∀ c ∈ zj k x,∃ d,Oa p.named c=some d/\(d.Kind=2\/d.Kind=3)
 | 0,x,h=>by cases h
 | k+1,x,h=>by
  obtain ⟨g,i,j,l⟩:=h;intro c b;rw [zj] at b;rcases List.mem_append.1 b with b | b
  ·rcases List.mem_append.1 b with b | b
   ·rcases VA b with ⟨q,b⟩ | ⟨q,b⟩
    ·cases b
    ·exact RJ k _ (g q) c b
   ·rcases VA b with ⟨q,b⟩ | ⟨q,b⟩
    ·obtain ⟨a,e,f⟩:=NA b;exact JE k a (i q a e) c f
    ·cases b
  ·rcases VA b with ⟨q,b⟩ | ⟨q,b⟩
   ·obtain ⟨a,e,f⟩:=NA b;exact JE k a (j q a e) c f
   ·cases b
def Hj (d:va):List Nm:=(d.Body.map (zj 39)).flatten
def Uq (d:va):List Nm:=(d.Body.map (Yj 39)).flatten
def Vq (d:va):List Nm:=(d.Body.map (Xj 39)).flatten
def Kk (N:List (Nm×va)):List Nm->List Nm->List (Option va)->List Nm×List (Option va)
 | [],a,todo=>(a,todo)
 | c::cs,a,todo=>if a.contains c=true then Kk N cs a todo else Kk N cs (a++[c]) (todo++[Oa N c])
def eo (N:List (Nm×va)):Nat->List Nm->List (Option va)->List Nm->List Nm->Option rf
 | 0,_,_,_,_=>none
 | n+1,a,[],s,r=>some ⟨[],s,r⟩
 | n+1,a,none::t,s,r=>none
 | n+1,a,some d::t,s,r=>eo N n (Kk N (Hj d) a t).1 (Kk N (Hj d) a t).2 (s++Uq d) (r++Vq d)
def Vy (l:List va) (a:List Nm):Nat:=(l.filter λd=>!a.contains d.Name).length
theorem filter_le {α:Type}(P Q:α->Bool) (h:∀ x,Q x=true->P x=true):∀ l:List α,(l.filter Q).length<=(l.filter P).length
 | []=>by simp
 | x::l=>by
  have a:=filter_le P Q h l;rw [List.filter_cons,List.filter_cons];by_cases q:Q x=true
  ·rw [if_pos q,if_pos (h x q),List.length_cons,List.length_cons];omega
  ·rw [if_neg q];split
   ·rw [List.length_cons];omega
   ·exact a
theorem filter_lt {α:Type}(P Q:α->Bool) (h:∀ x,Q x=true->P x=true):∀ (l:List α) (x:α),x ∈ l->P x=true->Q x=false->(l.filter Q).length<(l.filter P).length
 | y::l,x,a,b,c=>by
  have le:=filter_le P Q h l;rw [List.filter_cons,List.filter_cons];rcases List.mem_cons.1 a with rfl | a
  ·rw [if_pos b,if_neg (by simp [c]),List.length_cons];omega
  ·have d:=filter_lt P Q h l x a b c;by_cases q:Q y=true
   ·rw [if_pos q,if_pos (h y q),List.length_cons,List.length_cons];omega
   ·rw [if_neg q];split
    ·rw [List.length_cons];omega
    ·exact d
theorem lS (l:List va) (a:List Nm) (d:va) (Ea:d ∈ l) (h:a.contains d.Name=false):Vy l (a++[d.Name])<Vy l a:=by
 refine filter_lt _ _ (λx b=>?_) l d Ea (by simpa using h) (by simp);simp only [Bool.not_eq_true',List.contains_eq_mem,List.mem_append,decide_eq_false_iff_not] at b ⊢;exact λh=>b<|.inl h
structure Wy (p:mb) (l:List va) (a:List Nm) (todo:List (Option va)) (q:Nat):Prop where
 ma:a.length+Vy l a<=30
 kH:∀ o ∈ todo,∃ d ∈ l,o=some d/\d.Kind≠1
 q:Vy l a+todo.length<=q
theorem WA {p:mb}{l:List va}(R:Bo p l):∀ (cs:List Nm) (a:List Nm) (todo:List (Option va)) (q:Nat),(∀ c ∈ cs,∃ d,Oa p.named c=some d/\(d.Kind=2\/d.Kind=3))->Wy p l a todo q->Wy p l (Kk p.named cs a todo).1 (Kk p.named cs a todo).2 q
 | [],a,todo,q,h,T=>T
 | c::cs,a,todo,q,h,T=>by
  rw [Kk];have e:∀ c ∈ cs,∃ d,Oa p.named c=some d/\(d.Kind=2\/d.Kind=3):=λc g=>h c (List.mem_cons_of_mem _ g);by_cases k:a.contains c=true
  ·rw [if_pos k];exact WA R cs a todo q e T
  ·rw [if_neg k];obtain ⟨d,ua,j⟩:=h c (List.mem_cons_self ..);obtain ⟨f,m2⟩:=R.only _ _ ua;have i:=lS l a d f (by rw [m2];simpa using k);rw [m2] at i;refine WA R cs _ _ q e ⟨?_,λo b=>?_,?_⟩
   ·rw [List.length_append,List.length_singleton];have:=T.ma;omega
   ·rcases List.mem_append.1 b with b | b
    ·exact T.kH o b
    ·rw [List.mem_singleton.1 b];exact ⟨d,f,ua,by omega⟩
   ·rw [List.length_append,List.length_singleton];have:=T.q;omega
theorem gO {p:mb}{l:List va}(R:Bo p l) (u:List Nm×List Nm×List Nm) (s r:List Nm) (K:List Nm->List (Option va)->List Nm->List Nm->Option rf) (f:∀ c ∈ u.1,∃ d,Oa p.named c=some d/\(d.Kind=2\/d.Kind=3)) (ma:u.1.length<=1000000) :
  ∀ (m i:Nat) (a:List Nm) (todo:List (Option va)) (q:Nat),i<=u.1.length->u.1.length<m+i->q<=1000->Wy p l a todo q ->
   yu p u s r K m i a todo=K (Kk p.named (u.1.drop i) a todo).1 (Kk p.named (u.1.drop i) a todo).2 s r:=by
 intro m
 induction m with
 | zero=>intro i a todo q g h; omega
 | succ m b =>
  intro i a todo q g h e T;rw [yu];by_cases c:i<u.1.length
  ·rw [if_pos (by omega),Lg,List.getElem?_eq_getElem c,Ga,List.drop_eq_getElem_cons c,Kk];have j:=f _ (List.getElem_mem c);by_cases k:a.contains u.1[i]=true
   ·rw [if_pos k,if_pos k,Gf (by omega),Ga];exact b (i+1) a todo q c (by omega) e T
   ·have o:=T.ma;have t:=T.q;have vf:=WA R [u.1[i]] a todo q (λc n=>by rw [List.mem_singleton.1 n];exact j) T;rw [Kk,if_neg k,Kk] at vf;rw [if_neg k,if_neg k,Et (by simp;omega),Ga,Et (by simp;omega),Ga,Gf (by omega),Ga];exact b (i+1) _ _ q c (by omega) e vf
  ·rw [if_neg (by omega),List.drop_eq_nil_of_le (by omega)];rfl
theorem qP {p:mb}{l:List va}(R:Bo p l) (fu:Nat) (c:500<=fu) (d:va) (Ea:d ∈ l) (a:d.Kind≠1):(ym fu).Pl [] [] [] d.Body=some (Hj d,Uq d,Vq d)/\(Hj d).length<=2000/\(Uq d).length<=2000/\(Vq d).length<=2000:=by
 have ok:=R.ok.ok d Ea;have b:ps d<=2000:=Nat.le_trans (EK ps l d Ea) R.ok.n;rw [ps,if_pos a] at b;have:=MM fu 39 d.Body [] [] [] (by omega) (ok.Jd a) (ok.vx a) (by simp;omega) (by simp;omega) (by simp;omega);have oa:=Am (zj 39) (eh 39) (Jy 39) d.Body;have e:=Am (Yj 39) (eh 39) (Ly 39) d.Body;have f:=Am (Xj 39) (eh 39) (Ky 39) d.Body;exact ⟨by rw [this];rfl,by rw [Hj];omega,by rw [Uq];omega,by rw [Vq];omega⟩
theorem hO {p:mb}{l:List va}(R:Bo p l) (fu:Nat) (g:500<=fu):∀ (n q:Nat) (b:List Nm) (todo:List (Option va)) (s r:List Nm),q<n->q<=1000->Wy p l b todo q->s.length+2000*q<=1000000000->r.length+2000*q<=1000000000 ->
  Es fu p n b todo s r=eo p.named n b todo s r/\(∃ u,eo p.named n b todo s r=some u/\u.calls=[]):=by
 intro n
 induction n with
 | zero=>intro q b todo s r h; omega
 | succ n i =>
  intro q b todo s r h z T ka ad;rw [Es];cases todo with
  | nil=>exact ⟨by rw [if_neg (by simp)]; rfl,_,rfl,rfl⟩
  | cons o t =>
   obtain ⟨d,Ea,rfl,k1⟩:=T.kH o (List.mem_cons_self ..);obtain ⟨Kd,ib,A,B⟩:=qP R fu g d Ea k1;have j:=T.q;have k:=T.ma;rw [List.length_cons] at j;have ua:at_ (some d::t) 0=some (some d):=rfl;have m:cut (some d::t) 1 ((some d::t).length:Int)=some t:=by
    rw [cut,if_pos (by simp;omega)];simp
   have e:∀ c ∈ Hj d,∃ f,Oa p.named c=some f/\(f.Kind=2\/f.Kind=3):=λc e=>by
    obtain ⟨a,v,w⟩:=NA e;exact JE 39 a (R.cs d Ea k1 a v) c w
   have vf:Wy p l b t (q - 1):=⟨k,λo x=>T.kH o (List.mem_cons_of_mem _ x),by omega⟩;have y:=WA R (Hj d) b t (q - 1) e vf;rw [if_pos (by simp),ua,Ga,m,Ga,Ga,Kd,Ga,Et (by simp only [];omega),Ga,Et (by simp only [];omega),Ga,zz];rw [show ((0:Int))=((0:Nat):Int) from rfl,gO R (Hj d,Uq d,Vq d) _ _ _ e (by simp only [];omega) _ 0 b t (q - 1) (by omega) (by simp only [];omega) (by omega) vf,List.drop_zero];rw [eo];exact i (q - 1) _ _ (s++Uq d) (r++Vq d) (by omega) (by omega) y (by rw [List.length_append];omega) (by rw [List.length_append];omega)
theorem SJ {p:mb}{l:List va}(R:Bo p l) (fu:Nat) (a:500<=fu) (d:va) (Ea:d ∈ l) (b:d.Kind≠1):bA fu p d=eo p.named fu [] [some d] [] []/\(∃ u,eo p.named fu [] [some d] [] []=some u/\u.calls=[]):=by
 have c:Vy l []<=30:=Nat.le_trans (List.length_filter_le _ _) R.ok.le;exact hO R fu a fu 31 [] [some d] [] [] (by omega) (by omega) ⟨by simpa using c,λo e=>by rw [List.mem_singleton.1 e];exact ⟨d,Ea,rfl,b⟩,by simp;omega⟩ (by simp) (by simp)
def Wm:rf:=⟨[],[],[]⟩
def Bp (L:List (Nm×rf)) (b:Nm):List va->Nm->Nm->Option (Nm×Nm)
 | [],w,r=>some (w,r)
 | t::na,w,r=>if t.Kind≠4 then Bp L b na w r else
   if ((Oa L t.Name).getD Wm).Tk.contains b=true/\w≠[] then none else
   if ((Oa L t.Name).getD Wm).vk.contains b=true/\r≠[] then none else
   Bp L b na (if ((Oa L t.Name).getD Wm).Tk.contains b=true then t.Name else w) (if ((Oa L t.Name).getD Wm).vk.contains b=true then t.Name else r)
def Lr (L:List (Nm×rf)) (l:List va):List va->Int->List fi->List fi×Nd
 | [],i,acc=>(acc,⟨0,0⟩)
 | x::xs,i,acc=>if x.Kind≠1 then Lr L l xs (i+1) acc else
   match Bp L x.Name l [] [] with
   | none=>([],⟨8,i⟩)
   | some (w,r)=>Lr L l xs (i+1) (acc++[⟨x.Name,w,r⟩])
def Wk (N:List (Nm×va)) (fu:Nat):List va->List (Nm×rf)->List (Nm×rf)
 | [],L=>L
 | d::ds,L=>if d.Kind=4 then Wk N fu ds (kd L d.Name ((eo N fu [] [some d] [] []).getD Wm)) else Wk N fu ds L
theorem vQ (l:List va) (ma:l.length<=30) (L:List (Nm×rf)) (i:Int) (acc:List fi) (x:va) (K:Int->List fi->Option (List fi×Nd)) (f:0<=i/\i<=1000) (g:acc.length<=1000) :
  ∀ (m j:Nat) (w r:Nm),j<=l.length->l.length<m+j->To l L i acc x K m j w r=match Bp L x.Name (l.drop j) w r with | none=>some ([],⟨8,i⟩) | some (w',r')=>K (i+1) (acc++[⟨x.Name,w',r'⟩]):=by
 intro m
 induction m with
 | zero=>intro j w r b d; omega
 | succ m e =>
  intro j w r b d;rw [To];by_cases c:j<l.length
  ·rw [if_pos (by omega),Lg,List.getElem?_eq_getElem c,Ga,List.drop_eq_getElem_cons c,Bp];have qb:(rf.mk [] [] [])=Wm:=rfl;have Vh:=λw r=>e (j+1) w r c (by omega);generalize l[j]=t at *;by_cases pf:t.Kind≠4
   ·rw [if_pos pf,if_pos pf,Gf (by omega),Ga];exact Vh w r
   ·rw [if_neg pf,if_neg pf,qb];have a:∀ w',zv L i x j r t (To l L i acc x K m) w'=if ((Oa L t.Name).getD Wm).vk.contains x.Name=true/\r≠[] then some ([],⟨8,i⟩) else
      match Bp L x.Name (l.drop (j+1)) w' (if ((Oa L t.Name).getD Wm).vk.contains x.Name=true then t.Name else r) with | none=>some ([],⟨8,i⟩) | some (w',r')=>K (i+1) (acc++[⟨x.Name,w',r'⟩]):=by
     intro w';rw [zv,qb];by_cases q:((Oa L t.Name).getD Wm).vk.contains x.Name=true
     ·rw [if_pos q];by_cases z:r≠[]
      ·rw [if_pos z,if_pos ⟨q,z⟩]
      ·rw [if_neg z,if_neg (λh=>z h.2),if_pos q,yv,Gf (by omega),Ga];exact Vh _ _
     ·rw [if_neg q,if_neg (λh=>q h.1),if_neg q,yv,Gf (by omega),Ga];exact Vh _ _
    by_cases q:((Oa L t.Name).getD Wm).Tk.contains x.Name=true
    ·rw [if_pos q];by_cases z:w≠[]
     ·rw [if_pos z,if_pos ⟨q,z⟩]
     ·rw [if_neg z,if_neg (λh=>z h.2),if_pos q,a];split<;>rfl
    ·rw [if_neg q,if_neg (λh=>q h.1),if_neg q,a];split<;>rfl
  ·rw [if_neg (by omega),List.drop_eq_nil_of_le (by omega),Et (by simp;omega),Ga,Gf (by omega),Ga];rfl
theorem wQ (l:List va) (ma:l.length<=30) (L:List (Nm×rf)):∀ (m i:Nat) (acc:List fi),i<=l.length->l.length<m+i->acc.length<=i->Sp l L m i acc=some (Lr L l (l.drop i) i acc):=by
 intro m
 induction m with
 | zero=>intro i acc b d; omega
 | succ m a =>
  intro i acc b d e;rw [Sp];by_cases c:i<l.length
  ·rw [if_pos (by omega),Lg,List.getElem?_eq_getElem c,Ga,List.drop_eq_getElem_cons c,Lr];by_cases k1:l[i].Kind≠1
   ·rw [if_pos k1,if_pos k1,Gf (by omega),Ga];exact a (i+1) acc c (by omega) (by omega)
   ·rw [if_neg k1,if_neg k1,show ((0:Int))=((0:Nat):Int) from rfl,vQ l ma L i acc l[i] _ (by omega) (by omega) _ 0 [] [] (by omega) (by omega),List.drop_zero];cases h:Bp L l[i].Name l [] [] with
    | none=>rfl
    | some v=>exact a (i+1) _ c (by omega) (by simp; omega)
  ·rw [if_neg (by omega),List.drop_eq_nil_of_le (by omega)];rfl
theorem xQ {p:mb}{l:List va}(R:Bo p l) (fu:Nat) (b:500<=fu) (f:Nd):∀ (m i:Nat) (L:List (Nm×rf)),i<=l.length->l.length<m+i->Bs fu l (p,f) m i L=some (Lr (Wk p.named fu (l.drop i) L) l l 0 []):=by
 have ma:=R.ok.le;intro m
 induction m with
 | zero=>intro i L d e; omega
 | succ m a =>
  intro i L d e;rw [Bs];by_cases c:i<l.length
  ·have qb:at_ l (i:Int)=some l[i]:=by rw [Lg,List.getElem?_eq_getElem c]
   rw [if_pos (by omega),qb,Ga,List.drop_eq_getElem_cons c,Wk];by_cases pf:l[i].Kind=4
   ·obtain ⟨g,u,h,-⟩:=SJ R fu b l[i] (List.getElem_mem _) (by omega);rw [if_pos pf,if_pos pf];simp only [Ga];rw [g,h,Ga,vz,Gf (by omega),Ga];exact a (i+1) _ c (by omega)
   ·rw [if_neg pf,if_neg pf,Gf (by omega),Ga];exact a (i+1) L c (by omega)
  ·rw [if_neg (by omega),List.drop_eq_nil_of_le (by omega)];exact wQ l ma L (l.length+1) 0 [] (by omega) (by omega) (by simp)
theorem tH (fu:Nat) (a:500<=fu) (l:List va):∃ p f,Ys fu l=some (p,f)/\((f.De≠0/\Rv fu l=some ([],f))\/(f.De=0/\Bo p l/\Rv fu l=some (Lr (Wk p.named fu l []) l l 0 []))):=by
 obtain ⟨p,f,b,c⟩:=zH fu a l;refine ⟨p,f,b,?_⟩;rw [Rv,b,Ga];by_cases z:f.De=0
 ·rw [if_neg (by simpa using z)];exact .inr ⟨z,c z,xQ (c z) fu a f (l.length+1) 0 [] (by omega) (by omega)⟩
 ·rw [if_pos z];exact .inl ⟨z,rfl⟩
abbrev oz:=List UInt8
def fo (w:oz):Prop:=∀ fu,20<=fu->qi fu w=some true
def iz:Nat->Na->Prop
 | 0,_=>False
 | k+1,x=>1<=x.Kind/\x.Kind<=24/\ZF x/\(x.Kind=1->0<=x.N/\x.N<=999999999999999)/\(x.Kind=2->x.N=0\/x.N=1)/\((x.Kind=3\/x.Kind=20\/x.Kind=19\/x.Kind=22)->fo x.Name)/\∀ y ∈ x.Kids,iz k y
def rv:Nat->Ra->Prop
 | 0,_=>False
 | k+1,s=>1<=s.Kind/\s.Kind<=9/\(s.Kind≠6->iz k s.X)/\((s.Kind=1\/s.Kind=2\/s.Kind=7)->fo s.Name)/\((s.Kind=3\/s.Kind=4)->s.Body.length<=50/\∀ y ∈ s.Body,rv k y)/\(s.Kind=3->s.sf.length<=50/\∀ y ∈ s.sf,rv k y)
def Wr (t:Sa):Prop:=Mo t/\(t.Kind=3->fo t.Pc)
structure ou (d:va):Prop where
 k1:1<=d.Kind
 pf:d.Kind<=4
 bc:fo d.Name
 Hg:d.Kind=2\/d.Kind=3->d.Params.length<=6/\∀ q ∈ d.Params,fo q.Name/\Wr q.Ob
 Kl:d.Kind=3->Wr d.Yd
 ty:d.Kind≠4->Wr d.Ob
 yj:d.Kind=1->1<=d.cg/\d.cg<=20
 vx:d.Kind≠1->d.Body.length<=50/\∀ y ∈ d.Body,rv 39 y
theorem fo.Rq {w:oz}(h:fo w):w≠[]:=λe=>by have:=h 20 (Nat.le_refl _);rw [e] at this;revert this;decide
theorem di {α β:Type}{o:Option α}{f:α->Option β}{r:β}(h:Option.bind o f=some r):∃ x,o=some x/\f x=some r:=td h
theorem iO {w:oz}{p:UInt8->Option Bool}:∀ (m a:Nat) (i r:Int),m<=a->En w p m i=some r->En w p a i=some r:=by
 intro m
 induction m with
 | zero=>intro a i r h g; cases g
 | succ m f =>
  intro a i r h g;obtain ⟨a,rfl⟩:∃ q,a=q+1:=⟨a - 1,by omega⟩;rw [En] at g ⊢;have d:∀ b,Qs i (En w p m) b=some r->Qs i (En w p a) b=some r:=by
   intro b g;rw [Qs] at g ⊢;split
   ·rename_i c;rw [if_pos c] at g;obtain ⟨x,e,g⟩:=di g;rw [e,Ga];exact f a x r (by omega) g
   ·rename_i c;rw [if_neg c] at g;exact g
  split
  ·rename_i c;rw [if_pos c] at g;obtain ⟨x,e,g⟩:=di g;obtain ⟨y,j,g⟩:=di g;rw [e,Ga,j,Ga];exact d y g
  ·rename_i c;rw [if_neg c] at g;exact d _ g
theorem pI {fu a:Nat}(h:fu<=a){w:oz}{b:Bool}(g:qi fu w=some b):qi a w=some b:=by
 have d:∀ c,Uo fu w c=some b->Uo a w c=some b:=by
  intro c g;rw [Uo] at g ⊢;split
  ·rename_i q;rw [if_pos q] at g;exact g
  ·rename_i q;rw [if_neg q] at g;obtain ⟨x,e,g⟩:=di g;have:Hu a w Kt=some x:=iO fu a 0 x h e;rw [this,Ga];exact g
 rw [qi] at g ⊢;split
 ·rename_i q;rw [if_pos q] at g;exact d _ g
 ·rename_i q;rw [if_neg q] at g;split
  ·rename_i q;rw [if_pos q] at g;exact d _ g
  ·rename_i q;rw [if_neg q] at g;obtain ⟨x,e,g⟩:=di g;obtain ⟨y,f,g⟩:=di g;rw [e,Ga,f,Ga];split
   ·rename_i q;rw [if_pos q] at g;obtain ⟨k,ua,g⟩:=di g;obtain ⟨l,i,g⟩:=di g;obtain ⟨Ua,j,g⟩:=di g;rw [ua,Ga,i,Ga,j,Ga];exact d _ g
   ·rename_i q;rw [if_neg q] at g;exact d _ g
theorem xw {fu:Nat}(d:20<=fu){w:oz}(h:qi fu w=some true):fo w:=by
 intro f e;obtain ⟨b,a⟩:=Uv 20 (Nat.le_refl _) w;have c:=pI d a;rw [h] at c;obtain rfl:=Option.some.inj c;exact pI e a
section
variable {fu:Nat}{self:qo}{x:Na}{d node k:Int}
theorem oN:∀ (m i:Nat) (c:Int),x.Kids.length<=6->Nl self x d m i c=some (0,k)->∀ j (b:j<x.Kids.length),i<=j->∃ c' a k',self.Jj c' x.Kids[j] a=some (0,k'):=by
 intro m
 induction m with
 | zero=>intro i c _ h; cases h
 | succ m e =>
  intro i c ma h j b n;rw [Nl,if_pos (by omega),Lg,List.getElem?_eq_getElem (show i<x.Kids.length by omega),Ga] at h;obtain ⟨a,ua,h⟩:=di h;obtain ⟨r,f,h⟩:=di h;by_cases z:r.1≠0
  ·rw [if_pos z] at h;exact absurd (congrArg (λo:Option (Int×Int)=>o.map (·.1)) h) (by simpa using z)
  ·rw [if_neg z,Gf (by omega),Ga] at h;by_cases q:j=i
   ·subst q;obtain ⟨g,l⟩:=r;obtain rfl:g=0:=Decidable.not_not.1 z;exact ⟨c,a,l,f⟩
   ·exact e (i+1) r.2 ma h j b (by omega)
theorem RH {a:Int×Int}{b:Bool}(h:hr self x d a b=some (0,k)):∃ m c,Nl self x d m (0:Nat) c=some (0,k):=by
 rw [hr] at h;split at h
 ·cases h
 ·exact ⟨_,_,h⟩
theorem pN {a:Int×Int}{r:Int}{b:Bool}(h:ir self x d a r b=some (0,k)):∃ m c,Nl self x d m (0:Nat) c=some (0,k):=by
 rw [ir] at h;split at h
 ·exact RH h
 ·split at h<;>exact RH h
theorem SH {a:Int×Int}{r:Int}{b:Bool}(h:Yo self x d a r b=some (0,k)):b=false/\∃ m c,Nl self x d m (0:Nat) c=some (0,k):=by
 rw [Yo] at h;split at h
 ·cases h
 ·rename_i q;refine ⟨by simpa using q,?_⟩;split at h<;>exact pN h
theorem Yz {i:Int×Int}{r:Int}{b:Bool}(h:Tp fu self x d i r b=some (0,k)):b=false/\(x.Kind=3\/x.Kind=20\/r<0->qi fu x.Name=some true)/\∃ m c,Nl self x d m (0:Nat) c=some (0,k):=by
 rw [Tp] at h;split at h
 ·cases h
 ·rename_i q;refine ⟨by simpa using q,?_⟩;have a:(Option.bind (qi fu x.Name) λj=>Yo self x d i r (!j))=some (0,k)->(x.Kind=3\/x.Kind=20\/r<0->qi fu x.Name=some true)/\∃ m c,Nl self x d m (0:Nat) c=some (0,k):=by
   intro h;obtain ⟨Qc,e,h⟩:=di h;obtain ⟨l,f⟩:=SH h;cases Qc with
   | true=>exact ⟨λ_=>e,f⟩
   | false=>cases l
  split at h
  ·exact a h
  ·split at h
   ·exact a h
   ·split at h
    ·exact a h
    ·obtain ⟨-,f⟩:=SH h;exact ⟨λg=>by omega,f⟩
theorem yQ (h:Jj fu self node x d=some (0,k)):(x.Kind=1->0<=x.N/\x.N<=999999999999999)/\(x.Kind=2->x.N=0\/x.N=1)/\(x.Kind=3\/x.Kind=20\/uj x.Kind<0->qi fu x.Name=some true)/\∃ m c,Nl self x d m (0:Nat) c=some (0,k):=by
 rw [Jj] at h;obtain ⟨i,-,h⟩:=di h;split at h
 ·rename_i z;exact absurd (congrArg (λo:Option (Int×Int)=>o.map (·.1)) h) (by simpa using z)
 ·have f:∀ b,jr fu self x d i (uj x.Kind) b=some (0,k)->b=false/\(x.Kind=2->x.N=0\/x.N=1)/\(x.Kind=3\/x.Kind=20\/uj x.Kind<0->qi fu x.Name=some true)/\∃ m c,Nl self x d m (0:Nat) c=some (0,k):=by
   intro b h;rw [jr] at h;split at h
   ·rename_i q;obtain ⟨a,-⟩:=Yz h;rw [q] at a;cases a
   ·rename_i q;refine ⟨by simpa using q,?_⟩;split at h
    ·split at h
     ·obtain ⟨a,e⟩:=Yz h;exact ⟨λ_=>.inr (by simpa using a),e⟩
     ·rename_i z;obtain ⟨a,e⟩:=Yz h;exact ⟨λ_=>.inl<|Decidable.not_not.1 z,e⟩
    ·rename_i z;obtain ⟨a,e⟩:=Yz h;exact ⟨λg=>absurd g z,e⟩
  have j:∀ b,mo fu self x d i b=some (0,k)->(x.Kind=1->0<=x.N/\x.N<=999999999999999)/\(x.Kind=2->x.N=0\/x.N=1)/\(x.Kind=3\/x.Kind=20\/uj x.Kind<0->qi fu x.Name=some true)/\∃ m c,Nl self x d m (0:Nat) c=some (0,k):=by
   intro b h;rw [mo] at h;split at h
   ·cases h
   ·rw [nI,Ga] at h;split at h
    ·split at h
     ·obtain ⟨a,-⟩:=f _ h;cases a
     ·rename_i z;obtain ⟨a,e⟩:=f _ h;have:=of_decide_eq_false a;exact ⟨λ_=>⟨by omega,by omega⟩,e⟩
    ·rename_i z;obtain ⟨-,e⟩:=f _ h;exact ⟨λg=>absurd g z,e⟩
  split at h<;>exact j _ h
end
theorem TJ:∀ (j n:Nat) (x:Na) (node d k:Int),30+j<=n->Ti j x->(Ij n).Jj node x d=some (0,k)->iz j x
 | 0,n,x,node,d,k,f,h,g=>h.elim
 | j+1,n,x,node,d,k,f,h,g=>by
  obtain ⟨k1,l,a,o⟩:=h;obtain ⟨n,rfl⟩:∃ q,n=q+1:=⟨n - 1,by omega⟩;obtain ⟨p,r,s,m,c,t⟩:=yQ (show Jj n (Ij n) node x d=some (0,k) from g);refine ⟨k1,l,a,p,r,λq=>xw (by omega)<|s ?_,λy b=>?_⟩
  ·rcases q with q | q | q | q
   ·exact .inl q
   ·exact .inr<|.inl q
   ·rw [q];exact .inr<|.inr (by decide)
   ·rw [q];exact .inr<|.inr (by decide)
  ·obtain ⟨i,u,rfl⟩:=List.getElem_of_mem b;obtain ⟨c',v,k',e⟩:=oN m 0 c a.le t i u (Nat.zero_le _);exact TJ j n _ c' v k' (by omega) (o _ b) e
section
variable {fu:Nat}{self:so}{x:Ra}{d node k:Int}
theorem NM {l:List Ra}:∀ (m i:Nat) (c:Int),l.length<=50->Fs self l d m i c=some (0,k)->∀ j (a:j<l.length),i<=j->∃ c' k',self.jl c' l[j] d=some (0,k'):=by
 intro m
 induction m with
 | zero=>intro i c _ h; cases h
 | succ m b =>
  intro i c ma h j a n;rw [Fs,if_pos (by omega),Lg,List.getElem?_eq_getElem (show i<l.length by omega),Ga] at h;obtain ⟨r,e,h⟩:=di h;by_cases z:r.1≠0
  ·rw [if_pos z] at h;exact absurd (congrArg (λo:Option (Int×Int)=>o.map (·.1)) h) (by simpa using z)
  ·rw [if_neg z,Gf (by omega),Ga] at h;by_cases q:j=i
   ·subst q;obtain ⟨f,g⟩:=r;obtain rfl:f=0:=Decidable.not_not.1 z;exact ⟨c,g,e⟩
   ·exact b (i+1) r.2 ma h j a (by omega)
theorem KI {l:List Ra}(ma:l.length<=50) (h:Bh self node l d=some (0,k)):∀ y ∈ l,∃ c' k',self.jl c' y d=some (0,k'):=by
 intro y a;obtain ⟨j,b,rfl⟩:=List.getElem_of_mem a;rw [Bh] at h;split at h
 ·cases h
 ·exact NM _ 0 _ ma h j b<|Nat.zero_le _
theorem TH {c:Int}(h:Rs self x d c=some (0,k)):x.Kind=3->∃ c' b k',self.Bh c' x.sf b=some (0,k'):=by
 intro f;rw [Rs,if_pos f] at h;obtain ⟨b,-,h⟩:=di h;obtain ⟨r,e,h⟩:=di h;obtain ⟨g,i⟩:=r;obtain ⟨a,-⟩:=Prod.mk.inj (Option.some.inj h);have a:g=0:=a;subst a;exact ⟨_,_,_,e⟩
theorem UH {c:Int×Int}{b:Bool}(h:Ss self x d c b=some (0,k)):(b=true->∃ c' a k',self.Bh c' x.Body a=some (0,k'))/\(x.Kind=3->∃ c' a k',self.Bh c' x.sf a=some (0,k')):=by
 rw [Ss] at h;split at h
 ·obtain ⟨a,-,h⟩:=di h;obtain ⟨r,e,h⟩:=di h;split at h
  ·rename_i z;exact absurd (congrArg (λo:Option (Int×Int)=>o.map (·.1)) h) (by simpa using z)
  ·rename_i z;obtain ⟨f,i⟩:=r;obtain rfl:f=0:=Decidable.not_not.1 z;exact ⟨λ_=>⟨_,_,_,e⟩,TH h⟩
 ·rename_i q;exact ⟨λg=>absurd g q,TH h⟩
theorem zQ (h:jl fu self node x d=some (0,k)):(x.Kind=1\/x.Kind=2\/x.Kind=7->qi fu x.Name=some true)/\(x.Kind≠6->(∃ c' a k',(Ij fu).Jj c' x.X a=some (0,k'))/\(x.Kind=3\/x.Kind=4->∃ c' a k',self.Bh c' x.Body a=some (0,k'))/\(x.Kind=3->∃ c' a k',self.Bh c' x.sf a=some (0,k'))):=by
 rw [jl] at h;obtain ⟨i,-,h⟩:=di h;split at h
 ·rename_i z;exact absurd (congrArg (λo:Option (Int×Int)=>o.map (·.1)) h) (by simpa using z)
 ·have j:∀ b,Zo fu self x d i b=some (0,k)->b=false/\(x.Kind≠6->(∃ c' a k',(Ij fu).Jj c' x.X a=some (0,k'))/\(x.Kind=3\/x.Kind=4->∃ c' a k',self.Bh c' x.Body a=some (0,k'))/\(x.Kind=3->∃ c' a k',self.Bh c' x.sf a=some (0,k'))):=by
   intro b h;rw [Zo] at h;split at h
   ·cases h
   ·rename_i q;refine ⟨by simpa using q,λl=>?_⟩;rw [if_neg l] at h;obtain ⟨a,-,h⟩:=di h;obtain ⟨r,e,h⟩:=di h;split at h
    ·rename_i z;exact absurd (congrArg (λo:Option (Int×Int)=>o.map (·.1)) h) (by simpa using z)
    ·rename_i z;obtain ⟨m,t⟩:=r;obtain rfl:m=0:=Decidable.not_not.1 z;refine ⟨⟨_,_,_,e⟩,?_⟩;split at h
     ·rename_i n;obtain ⟨c,f⟩:=UH h;exact ⟨λ_=>c rfl,f⟩
     ·rename_i n;obtain ⟨c,f⟩:=UH h;exact ⟨λg=>c<|decide_eq_true (by omega),f⟩
  have p:∀ b,Up fu self x d i b=some (0,k)->(x.Kind=1\/x.Kind=2\/x.Kind=7->qi fu x.Name=some true)/\(x.Kind≠6->(∃ c' a k',(Ij fu).Jj c' x.X a=some (0,k'))/\(x.Kind=3\/x.Kind=4->∃ c' a k',self.Bh c' x.Body a=some (0,k'))/\(x.Kind=3->∃ c' a k',self.Bh c' x.sf a=some (0,k'))):=by
   intro b h;rw [Up] at h;have N:(Option.bind (qi fu x.Name) λs=>Zo fu self x d i (!s))=some (0,k)->(x.Kind=1\/x.Kind=2\/x.Kind=7->qi fu x.Name=some true)/\(x.Kind≠6->(∃ c' a k',(Ij fu).Jj c' x.X a=some (0,k'))/\(x.Kind=3\/x.Kind=4->∃ c' a k',self.Bh c' x.Body a=some (0,k'))/\(x.Kind=3->∃ c' a k',self.Bh c' x.sf a=some (0,k'))):=by
    intro h;obtain ⟨Qc,e,h⟩:=di h;obtain ⟨c,f⟩:=j _ h;cases Qc with
    | true=>exact ⟨λ_=>e,f⟩
    | false=>cases c
   split at h
   ·cases h
   ·split at h
    ·exact N h
    ·split at h
     ·exact N h
     ·split at h
      ·exact N h
      ·exact ⟨λg=>by omega,(j _ h).2⟩
  split at h<;>exact p _ h
end
theorem UJ:∀ (j n:Nat) (x:Ra) (node d k:Int),60+3*j<=n->Vm j x->(Aj n).jl node x d=some (0,k)->rv j x
 | 0,n,x,node,d,k,p,h,g=>h.elim
 | j+1,n,x,node,d,k,p,h,g=>by
  obtain ⟨k1,r,s,hB,t⟩:=h;obtain ⟨n,rfl⟩:∃ q,n=q+2:=⟨n - 2,by omega⟩;obtain ⟨u,f⟩:=zQ (show jl (n+1) (Aj (n+1)) node x d=some (0,k) from g);have L:∀ (l:List Ra) (c' c k':Int),l.length<=50->(∀ y ∈ l,Vm j y)->(Aj (n+1)).Bh c' l c=some (0,k')->∀ y ∈ l,rv j y:=by
   intro l c' c k' ma v w y m;obtain ⟨z,A,e⟩:=KI ma (show Bh (Aj n) c' l c=some (0,k') from w) y m;exact UJ j n y z c A (by omega) (v y m) e
  refine ⟨k1,r,λo=>?_,λq=>xw (by omega)<|u q,λq=>?_,λq=>?_⟩
  ·obtain ⟨⟨c',c,k',e⟩,-⟩:=f o;exact TJ j (n+1) x.X c' c k' (by omega) (s o) e
  ·obtain ⟨a,b⟩:=hB q;obtain ⟨-,i,-⟩:=f (by omega);obtain ⟨c',c,k',e⟩:=i q;exact ⟨a,L x.Body c' c k' a b e⟩
  ·obtain ⟨a,b⟩:=t q;obtain ⟨-,-,i⟩:=f (by omega);obtain ⟨c',c,k',e⟩:=i q;exact ⟨a,L x.sf c' c k' a b e⟩
theorem sF {fu:Nat}(a:20<=fu){t:Sa}(h:sr fu t=some 0):Wr t:=by
 obtain ⟨e,c,d⟩:=wA fu a t;rw [h] at c;obtain rfl:=Option.some.inj c;refine ⟨d rfl,λf=>?_⟩;rw [sr] at h;have g:∀ b,Eu fu t b=some 0->fo t.Pc:=by
  intro b h;rw [Eu] at h;split at h
  ·cases h
  ·obtain ⟨Qc,e,h⟩:=di (by simpa only [if_pos f] using h);cases Qc with
   | true=>exact xw a e
   | false=>cases h
 split at h<;>exact g _ h
section
variable {fu:Nat}{x:va}{Ue:Int×Int}{k node:Int}
theorem qI (h:Us fu x Ue=some (0,k)):(x.Kind=1->1<=x.cg/\x.cg<=20)/\(x.Kind≠1->∃ c' k',(Aj fu).Bh c' x.Body 2=some (0,k')):=by
 rw [Us] at h;split at h
 ·rename_i q;obtain ⟨r,e,h⟩:=di h;obtain ⟨d,f⟩:=r;obtain ⟨a,-⟩:=Prod.mk.inj (Option.some.inj h);have a:d=0:=a;subst a;exact ⟨λg=>absurd g q,λ_=>⟨_,_,e⟩⟩
 ·rename_i q;have c:∀ b,Vv Ue b=some (0,k)->b=false:=by
   intro b h;cases b with
   | false=>rfl
   | true=>cases h
  split at h
  ·cases c _ h
  ·have:=of_decide_eq_false (c _ h);exact ⟨λ_=>⟨by omega,by omega⟩,λg=>absurd g q⟩
theorem rI (a:20<=fu) (h:Vs fu x Ue=some (0,k)):(x.Kind≠4->Wr x.Ob)/\(x.Kind=1->1<=x.cg/\x.cg<=20)/\(x.Kind≠1->∃ c' k',(Aj fu).Bh c' x.Body 2=some (0,k')):=by
 rw [Vs] at h;split at h
 ·obtain ⟨r,e,h⟩:=di h;split at h
  ·rename_i z;exact absurd (congrArg (λo:Option (Int×Int)=>o.map (·.1)) h) (by simpa using z)
  ·rename_i z;obtain rfl:r=0:=Decidable.not_not.1 z;exact ⟨λ_=>sF a e,qI h⟩
 ·rename_i q;exact ⟨λg=>absurd g q,qI h⟩
theorem jO (a:20<=fu) (h:Wp fu x Ue=some (0,k)):(x.Kind=3->Wr x.Yd)/\(x.Kind≠4->Wr x.Ob)/\(x.Kind=1->1<=x.cg/\x.cg<=20)/\(x.Kind≠1->∃ c' k',(Aj fu).Bh c' x.Body 2=some (0,k')):=by
 rw [Wp] at h;split at h
 ·obtain ⟨r,e,h⟩:=di h;split at h
  ·rename_i z;exact absurd (congrArg (λo:Option (Int×Int)=>o.map (·.1)) h) (by simpa using z)
  ·rename_i z;obtain rfl:r=0:=Decidable.not_not.1 z;exact ⟨λ_=>sF a e,rI a h⟩
 ·rename_i q;exact ⟨λg=>absurd g q,rI a h⟩
theorem kO (c:20<=fu) (ma:x.Params.length<=6):∀ (m i:Nat),i<=x.Params.length->Ws fu x Ue m i=some (0,k)->(∀ j (a:j<x.Params.length),i<=j->fo x.Params[j].Name/\Wr x.Params[j].Ob)/\Wp fu x Ue=some (0,k):=by
 intro m
 induction m with
 | zero=>intro i _ h; cases h
 | succ m d =>
  intro i p h;rw [Ws] at h;by_cases q:i<x.Params.length
  ·rw [if_pos (by omega),Lg,List.getElem?_eq_getElem q,Ga] at h;obtain ⟨b,ua,h⟩:=di h;cases b with
   | false=>cases h
   | true =>
    rw [if_pos rfl] at h;obtain ⟨r,f,h⟩:=di h;by_cases z:r≠0
    ·rw [if_pos z] at h;exact absurd (congrArg (λo:Option (Int×Int)=>o.map (·.1)) h) (by simpa using z)
    ·rw [if_neg z,Gf (by omega),Ga] at h;obtain rfl:r=0:=Decidable.not_not.1 z;obtain ⟨g,l⟩:=d (i+1) q h;refine ⟨λj a n=>?_,l⟩;by_cases e:j=i
     ·subst e;exact ⟨xw c ua,sF c f⟩
     ·exact g j a (by omega)
  ·rw [if_neg (by omega)] at h;exact ⟨λj a n=>by omega,h⟩
theorem iU (C:300<=fu) (ok:nu x) (h:Nu fu node x=some (0,k)):ou x:=by
 rw [Nu] at h;obtain ⟨f,-,h⟩:=di h;split at h
 ·rename_i z;exact absurd (congrArg (λo:Option (Int×Int)=>o.map (·.1)) h) (by simpa using z)
 ·have fin:fo x.Name->(x.Kind=2\/x.Kind=3->x.Params.length<=6/\∀ q ∈ x.Params,fo q.Name/\Wr q.Ob)->Wp fu x f=some (0,k)->ou x:=by
   intro d m h;obtain ⟨a,b,c,e⟩:=jO (by omega) h;refine ⟨ok.k1,ok.pf,d,m,a,b,c,λk1=>⟨ok.Jd k1,λy i=>?_⟩⟩;obtain ⟨c',k',p⟩:=e k1;obtain ⟨n,rfl⟩:∃ q,fu=q+1:=⟨fu - 1,by omega⟩;obtain ⟨r,s,t⟩:=KI (ok.Jd k1) (show Bh (Aj n) c' x.Body 2=some (0,k') from p) y i;exact UJ 39 n y r 2 s (by omega) (ok.vx k1 y i) t
  have l:∀ b,(b=true ↔ x.Kind=2\/x.Kind=3)->fo x.Name->Xs fu x f b=some (0,k)->ou x:=by
   intro b g d h;rw [Xs] at h;split at h
   ·rename_i q;split at h
    ·cases h
    ·rename_i z;obtain ⟨u,v⟩:=kO (by omega) (by omega) _ 0 (Nat.zero_le _) h;exact fin d (λ_=>⟨by omega,λq w=>by
      obtain ⟨j,A,rfl⟩:=List.getElem_of_mem w;exact u j A (Nat.zero_le _)⟩) v
   ·rename_i q;exact fin d (λz=>absurd (g.2 z) q) h
  have B:∀ b,Xp fu x f b=some (0,k)->ou x:=by
   intro b h;rw [Xp] at h;split at h
   ·cases h
   ·obtain ⟨Qc,e,h⟩:=di h;cases Qc with
    | false=>cases h
    | true =>
     rw [if_pos rfl] at h;split at h
     ·rename_i q;exact l _ (by simp [q]) (xw (by omega) e) h
     ·rename_i q;exact l _ (by simp [q]) (xw (by omega) e) h
  split at h<;>exact B _ h
end
theorem jU {fu:Nat}(g:300<=fu){l:List va}{f:Nd}(h:bt fu l=some f) (b:f.De=0):l.length<=30/\∀ x ∈ l,ou x:=by
 obtain ⟨s,d,k⟩:=kD fu (by omega) l;rw [h] at d;obtain rfl:=Option.some.inj d;obtain ⟨-,ok⟩:=k b;have ma:=ok.le;refine ⟨ma,?_⟩;rw [bt,if_neg (by omega)] at h;have L:∀ (m i:Nat) (c:Int),Gs fu l m i c=some f->∀ j (a:j<l.length),i<=j->ou l[j]:=by
  intro m
  induction m with
  | zero=>intro i c h; cases h
  | succ m n =>
   intro i c h j a t;rw [Gs,if_pos (by omega),Lg,List.getElem?_eq_getElem (show i<l.length by omega),Ga] at h;obtain ⟨r,e,h⟩:=di h;by_cases z:r.1≠0
   ·rw [if_pos z] at h;rw [<- Option.some.inj h] at b;exact absurd b z
   ·rw [if_neg z,Gf (by omega),Ga] at h;by_cases q:j=i
    ·subst q;obtain ⟨o,u⟩:=r;obtain rfl:o=0:=Decidable.not_not.1 z;exact iU g (ok.ok _<|List.getElem_mem _) e
    ·exact n (i+1) r.2 h j a (by omega)
 intro x p;obtain ⟨j,a,rfl⟩:=List.getElem_of_mem p;exact L _ 0 0 h j a<|Nat.zero_le _
def Rj (B:ye) (n:Nm):Option Sa:=B.reverse.findSome? λm=>Oa m n
inductive Ve (p:mb) (d:va) (B:ye):Na->Sa->Prop
 | num {x:Na}:x.Kind=1->Ve p d B x ⟨1,[]⟩
 | bool {x:Na}:x.Kind=2->Ve p d B x ⟨2,[]⟩
 | var {x:Na} {t:Sa}:x.Kind=3->Rj B x.Name=some t->Ve p d B x t
 | neg {x a:Na}:x.Kind=4->x.Kids=[a]->Ve p d B a ⟨1,[]⟩->Ve p d B x ⟨1,[]⟩
 | not {x a:Na}:x.Kind=5->x.Kids=[a]->Ve p d B a ⟨2,[]⟩->Ve p d B x ⟨2,[]⟩
 | pz {x a b:Na}:6<=x.Kind/\x.Kind<=10->x.Kids=[a,b]->Ve p d B a ⟨1,[]⟩->Ve p d B b ⟨1,[]⟩->Ve p d B x ⟨1,[]⟩
 | eq {x a b:Na} {t:Sa}:x.Kind=11\/x.Kind=12->x.Kids=[a,b]->Ve p d B a t->Ve p d B b t->t.Kind≠3->Ve p d B x ⟨2,[]⟩
 | lt {x a b:Na}:13<=x.Kind/\x.Kind<=16->x.Kids=[a,b]->Ve p d B a ⟨1,[]⟩->Ve p d B b ⟨1,[]⟩->Ve p d B x ⟨2,[]⟩
 | jk {x a b:Na}:17<=x.Kind/\x.Kind<=18->x.Kids=[a,b]->Ve p d B a ⟨2,[]⟩->Ve p d B b ⟨2,[]⟩->Ve p d B x ⟨2,[]⟩
 | call {x:Na} {f:va}:x.Kind=19->Oa p.named x.Name=some f->f.Kind=2->x.Kids.length=f.Params.length->(∀ (i:Nat) (y:Na) (q:TParam),x.Kids[i]?=some y->f.Params[i]?=some q->Ve p d B y (Ke q.Ob))->Ve p d B x (Ke f.Ob)
 | recv {x:Na} {f:va}:x.Kind=20->Oa p.named x.Name=some f->f.Kind=1->Ve p d B x (Ke f.Ob)
 | Gq {x a:Na}:x.Kind=21->d.Kind=3->x.Kids=[a]->Ve p d B a (Ke d.Ob)->Ve p d B x (Ke d.Yd)
 | start {x:Na} {f:va}:x.Kind=22->Oa p.named x.Name=some f->f.Kind=3->x.Kids.length=f.Params.length->(∀ (i:Nat) (y:Na) (q:TParam),x.Kids[i]?=some y->f.Params[i]?=some q->Ve p d B y (Ke q.Ob))->Ve p d B x ⟨3,x.Name⟩
 | resume {x a b:Na} {g:Nm} {f:va}:x.Kind=23->x.Kids=[a,b]->Ve p d B a ⟨3,g⟩->Oa p.named g=some f->f.Kind=3->Ve p d B b (Ke f.Yd)->Ve p d B x (Ke f.Ob)
 | alive {x a:Na} {g:Nm} {f:va}:x.Kind=24->x.Kids=[a]->Ve p d B a ⟨3,g⟩->Oa p.named g=some f->f.Kind=3->Ve p d B x ⟨2,[]⟩
theorem VL {a b:Sa}(h:Jm [decide (a.Kind=b.Kind),decide (a.Pc=b.Pc)]=true):a=b:=by
 cases a;cases b;simp [Jm] at h;simp [h]
theorem rP {B:ye}{n:Nat}{m:List (Nm×Sa)}{C:ye}{name:Nm}(h:B.take (n+1)=C++[m]):Rj (B.take (n+1)) name=match Oa m name with | some t=>some t | none=>Rj C name:=by
 rw [h];unfold Rj;rw [List.reverse_append,List.reverse_singleton,List.singleton_append,List.findSome?_cons];cases Oa m name<;>rfl
theorem aG {p:mb}{B:ye}(hB:Om p B) (ma:B.length<=100) (fu:Nat) (k:110<=fu) (d:va) (name:Nm):∃ t b,lr fu p d B name=some (t,b)/\(b=true->zk p t/\Rj B name=some t)/\(b=false->Rj B name=none):=by
 have L:∀ (n j:Nat),j<=B.length->j<n->∃ t b,Hs name B n ((j:Int) - 1)=some (t,b)/\(b=true->zk p t/\Rj (B.take j) name=some t)/\(b=false->Rj (B.take j) name=none):=by
  intro n
  induction n with
  | zero=>intro j c f; omega
  | succ n g =>
   intro j c f;rw [Hs];cases j with
   | zero=>rw [if_neg (by omega)]; exact ⟨_,_,rfl,by simp,λ_=>by rw [List.take_zero]; rfl⟩
   | succ j =>
    have a:j<B.length:=by omega
    have e:((j+1:Nat):Int) - 1=(j:Int):=by omega
    have i:=rP (B:=B) (n:=j) (m:=B[j]) (C:=B.take j) (name:=name) (List.take_append_getElem a).symm;rw [e,if_pos (by omega),Lg,List.getElem?_eq_getElem a,Ga,i];cases h:Oa B[j] name with
    | none =>
     rw [if_neg (by simp),Gf (by omega),Ga];exact g j (by omega) (by omega)
    | some t=>exact ⟨t,true,rfl,λ_=>⟨hB _ (List.getElem_mem _) _ _ h,rfl⟩,λh=>by cases h⟩
 rw [lr,Gf (by omega),Ga];have:=L fu B.length (by omega) (by omega);rwa [List.take_length] at this
structure kU (n:Nat):Prop where
 typed:∀ (k:Nat) (p:mb) (d:va) (B:ye) (x:Na) (t:Sa),Cn p d B->Ti k x->3*k+111<=n->∃ e,(Og n).Oh p d B x t=some e/\(e=0->Ve p d B x (Ke t))
 args:∀ (k:Nat) (p:mb) (d:va) (B:ye) (x:Na) (kind:Int),Cn p d B->(∀ y ∈ x.Kids,Ti k y)->x.Kids.length<=6->(kind=2\/kind=3)->3*k+112<=n ->
  ∃ Ff e,(Og n).Ql p d B x kind=some (Ff,e)/\(e=0->∃ f,Ff=some f/\Oa p.named x.Name=some f/\f.Kind=kind/\x.Kids.length=f.Params.length/\∀ (i:Nat) (y:Na) (q:TParam),x.Kids[i]?=some y->f.Params[i]?=some q->Ve p d B y (Ke q.Ob))
 both:∀ (k:Nat) (p:mb) (d:va) (B:ye) (x a b:Na),Cn p d B->x.Kids=[a,b]->Ti k a->Ti k b->3*k+112<=n->∃ t e,(Og n).en p d B x=some (t,e)/\(e=0->Ve p d B a t/\Ve p d B b t/\t.Kind≠3)
 handle:∀ (k:Nat) (p:mb) (d:va) (B:ye) (x:Na),Cn p d B->Ti k x->3*k+112<=n->∃ Ff e,(Og n).Ol p d B x=some (Ff,e)/\(e=0->∃ f g,Ff=some f/\Oa p.named g=some f/\f.Kind=3/\Ve p d B x ⟨3,g⟩)
 expr:∀ (k:Nat) (p:mb) (d:va) (B:ye) (x:Na),Cn p d B->Ti k x->3*k+110<=n->∃ t e,(Og n).Wi p d B x=some (t,e)/\(e=0->zk p t/\Ve p d B x t)
theorem FK:∀ n,kU n:=by
 intro n
 induction n with
 | zero=>exact ⟨λ_ _ _ _ _ _ _ _ h=>by omega,λ_ _ _ _ _ _ _ _ _ _ h=>by omega,λ_ _ _ _ _ _ _ _ _ _ _ h=>by omega,λ_ _ _ _ _ _ _ h=>by omega,λ_ _ _ _ _ _ _ h=>by omega⟩
 | succ n v =>
  refine ⟨λk p d B x t H E Y=>?_,λk p d B x kind H E ma Q Y=>?_,λk p d B x a b H E o U Y=>?_,λk p d B x H E Y=>?_,λk p d B x H E Y=>?_⟩
  ·show ∃ e,Oh (Og n) p d B x t=some e/\_;obtain ⟨hb,e,u,s⟩:=v.expr k p d B x H E (by omega);rw [Oh,u,Ga];by_cases z:e=0
   ·rw [if_pos z,po,Ga,uz];refine ⟨_,rfl,λr=>?_⟩;simp only at r;split at r
    ·exact absurd r (by decide)
    ·rename_i q;have pk:Jm [decide (hb.Kind=(Ke t).Kind),decide (hb.Pc=(Ke t).Pc)]=true:=by simpa using q
     exact VL pk ▸ (s z).2
   ·rw [if_neg z,uz];exact ⟨e,rfl,λh=>absurd h z⟩
  ·show ∃ Ff e,Ql (Og n) p d B x kind=some (Ff,e)/\_;rw [Ql,Du,Ga];by_cases c:Gp (Oa p.named x.Name) kind=true
   ·obtain ⟨f,R,id⟩:=Zu c;rw [if_pos c,R];simp only [Ga];have dg:=H.Tq _ _ R;have dl:=dg.pl (by omega);by_cases q:(f.Params.length:Int)≠x.Kids.length
    ·rw [decide_eq_true q];exact ⟨none,5,rfl,λh=>absurd h (by decide)⟩
    ·rw [decide_eq_false q,Fx,if_neg (by decide)];simp only [Ga];have L:∀ (m i:Nat),i<=f.Params.length->f.Params.length<m+i->∃ Ff e,Is (Og n) x p d B (some f,Gp (some f) kind) f m i=some (Ff,e)/\(e=0->Ff=some f/\∀ (j:Nat) (y:Na) (q:TParam),i<=j->x.Kids[j]?=some y->f.Params[j]?=some q->Ve p d B y (Ke q.Ob)):=by
      intro m
      induction m with
      | zero=>intro i u s; omega
      | succ m md =>
       intro i u s;rw [Is];by_cases c:i<f.Params.length
       ·have wf:i<x.Kids.length:=by omega
        obtain ⟨e,ua,w⟩:=v.typed k p d B x.Kids[i] f.Params[i].Ob H (E _ (List.getElem_mem _)) (by omega);rw [if_pos (by omega),Lg,List.getElem?_eq_getElem c,Ga,Lg,List.getElem?_eq_getElem wf,Ga,ua,Ga];by_cases z:e=0
        ·rw [if_neg (by simpa using z),Gf (by omega),Ga];obtain ⟨Ff,V,W,S⟩:=md (i+1) c (by omega);refine ⟨Ff,V,W,λr=>⟨(S r).1,λj y q rg K N=>?_⟩⟩;by_cases bi:i=j
         ·subst bi;rw [List.getElem?_eq_getElem wf] at K;rw [List.getElem?_eq_getElem c] at N;obtain rfl:=Option.some.inj K;obtain rfl:=Option.some.inj N;exact w z
         ·exact (S r).2 j y q (by omega) K N
        ·rw [if_pos z];exact ⟨none,e,rfl,λh=>absurd h z⟩
       ·rw [if_neg (by omega)];refine ⟨some f,0,rfl,λ_=>⟨rfl,λj y q rg K N=>?_⟩⟩;rw [List.getElem?_eq_none (by omega)] at N;cases N
     obtain ⟨Ff,e,W,S⟩:=L (f.Params.length+1) 0 (by omega) (by omega);refine ⟨Ff,e,W,λr=>?_⟩;obtain ⟨C,F⟩:=S r;exact ⟨f,C,rfl,id,by omega,λi y q=>F i y q (by omega)⟩
   ·rw [if_neg c];exact ⟨none,7,rfl,λh=>absurd h (by decide)⟩
  ·show ∃ t e,en (Og n) p d B x=some (t,e)/\_;obtain ⟨ci,ua,u,s⟩:=v.expr k p d B a H o (by omega);obtain ⟨el,w,A,D⟩:=v.expr k p d B b H U (by omega);have k0:at_ x.Kids 0=some a:=by rw [E];rfl
   have k1:at_ x.Kids 1=some b:=by rw [E];rfl
   rw [en,k0,Ga,u,Ga];by_cases z:ua=0
   ·rw [if_neg (by simpa using z),k1,Ga,A,Ga];by_cases z2:w=0
    ·rw [if_pos z2];split
     ·rename_i N;obtain rfl:=VL N;rw [Xo,Ga,yx];refine ⟨_,_,rfl,λr=>⟨(s z).2,(D z2).2,λii=>?_⟩⟩;have li:ci.Kind=3:=ii;simp [li] at r
     ·rw [yx];exact ⟨_,9,rfl,λh=>absurd h (by decide)⟩
    ·rw [if_neg z2,yx];exact ⟨_,w,rfl,λh=>absurd h z2⟩
   ·rw [if_pos z];exact ⟨_,ua,rfl,λh=>absurd h z⟩
  ·show ∃ Ff e,Ol (Og n) p d B x=some (Ff,e)/\_;obtain ⟨t,e,u,s⟩:=v.expr k p d B x H E (by omega);rw [Ol,u,Ga];by_cases z:e=0
   ·rw [if_neg (by simpa using z),Xo,Ga];by_cases q:t.Kind≠3
    ·rw [if_pos (decide_eq_true q)];exact ⟨none,9,rfl,λh=>absurd h (by decide)⟩
    ·obtain ⟨f,O,X⟩:=(s z).1 (Decidable.not_not.1 q);rw [if_neg (by simpa using q)];have ba:t=⟨3,t.Pc⟩:=by cases t;simp at q;simp [q]
     exact ⟨_,0,rfl,λ_=>⟨f,t.Pc,O,O,X,by rw [<- ba];exact (s z).2⟩⟩
   ·rw [if_pos z];exact ⟨none,e,rfl,λh=>absurd h z⟩
  ·show ∃ t e,Wi n (Og n) p d B x=some (t,e)/\_;cases k with
   | zero=>cases E
   | succ k =>
   obtain ⟨k1,nl,Q,T⟩:=E;have Z:uj x.Kind=1->∃ a,x.Kids=[a]/\Ti k a:=λh=>by
    obtain ⟨a,o⟩:=one (l:=x.Kids) (by have:=Q.eq (by omega);omega);exact ⟨a,o,T a (by simp [o])⟩
   have nd:uj x.Kind=2->∃ a b,x.Kids=[a,b]/\Ti k a/\Ti k b:=λh=>by
    obtain ⟨a,b,o⟩:=two (l:=x.Kids) (by have:=Q.eq (by omega);omega);exact ⟨a,b,o,T a (by simp [o]),T b (by simp [o])⟩
   rw [Wi];by_cases eb:x.Kind=1
   ·rw [if_pos eb];exact ⟨_,0,rfl,λ_=>⟨.of (by decide),.num eb⟩⟩
   rw [if_neg eb];by_cases rd:x.Kind=2
   ·rw [if_pos rd];exact ⟨_,0,rfl,λ_=>⟨.of (by decide),.bool rd⟩⟩
   rw [if_neg rd];by_cases wd:x.Kind=3
   ·obtain ⟨t,b,u,s,-⟩:=aG H.Tc H.Jd n (by omega) d x.Name;rw [if_pos wd,u,Ga];cases b with
    | true=>exact ⟨t,0,rfl,λ_=>⟨(s rfl).1,.var wd (s rfl).2⟩⟩
    | false=>exact ⟨_,7,rfl,λh=>absurd h (by decide)⟩
   rw [if_neg wd];by_cases bb:x.Kind=4
   ·obtain ⟨a,o,P⟩:=Z (by rw [bb];rfl);obtain ⟨e,ua,w⟩:=v.typed k p d B a ⟨1,[]⟩ H P (by omega);have k0:at_ x.Kids 0=some a:=by rw [o];rfl
    rw [if_pos bb,k0,Ga,Sl,Ga,Ga,ua,Ga];exact ⟨_,e,rfl,λr=>⟨.of (by decide),.neg bb o<|w r⟩⟩
   rw [if_neg bb];by_cases Gb:x.Kind=5
   ·obtain ⟨a,o,P⟩:=Z (by rw [Gb];rfl);obtain ⟨e,ua,w⟩:=v.typed k p d B a ⟨2,[]⟩ H P (by omega);have k0:at_ x.Kids 0=some a:=by rw [o];rfl
    rw [if_pos Gb,k0,Ga,ak,Ga,Ga,ua,Ga];exact ⟨_,e,rfl,λr=>⟨.of (by decide),.not Gb o<|w r⟩⟩
   rw [if_neg Gb];have If:∀ b,(b=true ↔ x.Kind=11\/x.Kind=12)->∃ t e,Ks (Og n) x p d B b=some (t,e)/\(e=0->zk p t/\Ve p d B x t):=by
    intro b U;rw [Ks];by_cases q:b=true
    ·have c:=U.1 q;obtain ⟨a,pi,o,gc,hd⟩:=nd (by rcases c with c | c<;>rw [c]<;>rfl);obtain ⟨t,e,u,s⟩:=v.both k p d B x a pi H o gc hd (by omega);rw [if_pos q,u,Ga,ak,Ga];exact ⟨_,e,rfl,λr=>⟨.of (by decide),.eq c o (s r).1 (s r).2.1 (s r).2.2⟩⟩
    rw [if_neg q];have ol:x.Kind≠11:=λh=>q (U.2 (.inl h));have ul:x.Kind≠12:=λh=>q (U.2 (.inr h));by_cases Fd:x.Kind=19
    ·obtain ⟨Ff,e,u,s⟩:=v.args k p d B x 2 H T Q.le (.inl rfl) (by omega);rw [if_pos Fd,u,Ga];by_cases z:e=0
     ·obtain ⟨f,rfl,A,D,Id,be⟩:=s z;rw [if_neg (by simpa using z)];simp only [Ga];rw [po,Ga];exact ⟨_,0,rfl,λ_=>⟨.of (by rw [Hn];exact (H.Tq _ _ A).ty (by omega)),.call Fd A D Id be⟩⟩
     ·rw [if_pos z];exact ⟨_,e,rfl,λh=>absurd h z⟩
    rw [if_neg Fd];by_cases ce:x.Kind=20
    ·rw [if_pos ce,Du,Ga];by_cases c:Gp (Oa p.named x.Name) 1=true
     ·obtain ⟨f,R,id⟩:=Zu c;rw [if_pos c,R];simp only [Ga];rw [po,Ga];exact ⟨_,0,rfl,λ_=>⟨.of (by rw [Hn];exact (H.Tq _ _ R).ty (by omega)),.recv ce R id⟩⟩
     ·rw [if_neg c];exact ⟨_,7,rfl,λh=>absurd h (by decide)⟩
    rw [if_neg ce];by_cases lc:x.Kind=21
    ·obtain ⟨a,o,P⟩:=Z (by rw [lc];rfl);obtain ⟨e,ua,w⟩:=v.typed k p d B a d.Ob H P (by omega);have k0:at_ x.Kids 0=some a:=by rw [o];rfl
     rw [if_pos lc];by_cases Ok:d.Kind=3
     ·rw [if_neg (by simpa using Ok),k0,Ga,po,Ga,ua,Ga];exact ⟨Ke d.Yd,e,rfl,λr=>⟨.of (by rw [Hn];exact H.Ea.Kl Ok),.Gq lc Ok o<|w r⟩⟩
     ·rw [if_pos Ok];exact ⟨_,8,rfl,λh=>absurd h (by decide)⟩
    rw [if_neg lc];by_cases ge:x.Kind=22
    ·obtain ⟨Ff,e,u,s⟩:=v.args k p d B x 3 H T Q.le (.inr rfl) (by omega);rw [if_pos ge,u,Ga];refine ⟨_,e,rfl,λr=>?_⟩;obtain ⟨f,-,A,D,Id,be⟩:=s r;exact ⟨λ_=>⟨f,A,D⟩,.start ge A D Id be⟩
    rw [if_neg ge];by_cases rc:x.Kind=23
    ·obtain ⟨a,Qc,o,gc,hd⟩:=nd (by rw [rc];rfl);obtain ⟨Ff,e,u,s⟩:=v.handle k p d B a H gc (by omega);have k0:at_ x.Kids 0=some a:=by rw [o];rfl
     have k1:at_ x.Kids 1=some Qc:=by rw [o];rfl
     rw [if_pos rc,k0,Ga,u,Ga];by_cases z:e=0
     ·obtain ⟨f,g,rfl,O,X,ne⟩:=s z;obtain ⟨V,ua,w⟩:=v.typed k p d B Qc f.Yd H hd (by omega);rw [if_neg (by simpa using z)];simp only [Ga];rw [po,k1];simp only [Ga];rw [ua,Ga];exact ⟨Ke f.Ob,V,rfl,λr=>⟨.of (by rw [Hn];exact (H.Tq _ _ O).ty (by omega)),.resume rc o ne O X<|w r⟩⟩
     ·rw [if_pos z];exact ⟨_,e,rfl,λh=>absurd h z⟩
    rw [if_neg rc];by_cases fd:x.Kind=24
    ·obtain ⟨a,o,P⟩:=Z (by rw [fd];rfl);obtain ⟨Ff,e,u,s⟩:=v.handle k p d B a H P (by omega);have k0:at_ x.Kids 0=some a:=by rw [o];rfl
     rw [if_pos fd,k0,Ga,u,Ga,ak,Ga];refine ⟨_,e,rfl,λr=>?_⟩;obtain ⟨f,g,-,O,X,ne⟩:=s r;exact ⟨.of (by decide),.alive fd o ne O X⟩
    rw [if_neg fd];obtain ⟨a,Qc,o,gc,hd⟩:=nd (by unfold uj;rw [if_neg (by omega),if_neg (by omega),if_pos (by omega)]);have L:∀ (G M:Int) (C F:List UInt8) (m i:Nat),i<=x.Kids.length->x.Kids.length<m+i->∃ e,Js (Og n) x p d B G C M F m i=some (⟨M,F⟩,e)/\(e=0->∀ y ∈ x.Kids.drop i,Ve p d B y (Ke ⟨G,C⟩)):=by
     intro G M C F m
     induction m with
     | zero=>intro i u s; omega
     | succ m md =>
      intro i u s;rw [Js];by_cases c:i<x.Kids.length
      ·have:=Q.le;obtain ⟨e,ua,w⟩:=v.typed k p d B x.Kids[i] ⟨G,C⟩ H (T _ (List.getElem_mem _)) (by omega);rw [if_pos (by omega),Lg,List.getElem?_eq_getElem c,Ga,ua,Ga];by_cases z:e=0
       ·rw [if_neg (by simpa using z),Gf (by omega),Ga];obtain ⟨V,W,S⟩:=md (i+1) c (by omega);refine ⟨V,W,λr y K=>?_⟩;rw [List.drop_eq_getElem_cons c] at K;rcases List.mem_cons.1 K with rfl | K
        ·exact w z
        ·exact S r y K
       ·rw [if_pos z];exact ⟨e,rfl,λh=>absurd h z⟩
      ·rw [if_neg (by omega),List.drop_eq_nil_of_le (by omega)];exact ⟨0,rfl,λ_=>by simp⟩
    have Ne:∀ (G M:Int) (C F:List UInt8),M≠3->(Ve p d B a (Ke ⟨G,C⟩)->Ve p d B Qc (Ke ⟨G,C⟩)->Ve p d B x ⟨M,F⟩)->∃ t e,Au (Og n) x p d B G C M F=some (t,e)/\(e=0->zk p t/\Ve p d B x t):=by
     intro G M C F h Pi;obtain ⟨e,u,s⟩:=L G M C F (x.Kids.length+1) 0 (by omega) (by omega);refine ⟨_,e,u,λr=>⟨.of h,?_⟩⟩;have:=s r;rw [List.drop_zero,o] at this;exact Pi (this a (by simp))<|this Qc (by simp)
    rw [Sl,Ga,Ga,ak];simp only [Ga];split
    ·exact Ne _ _ _ _ (by decide) λA D=>.jk (by omega) o A D
    ·split
     ·exact Ne _ _ _ _ (by decide) λA D=>.lt (by omega) o A D
     ·exact Ne _ _ _ _ (by decide) λA D=>.pz (by omega) o A D
   split
   ·rename_i h;exact If _ (by simp [h])
   ·rename_i h;exact If _ (by simp [h])
mutual
inductive ik (p:mb) (d:va):ye->List Ra->ye->Prop
 | nil (B:ye):ik p d B [] B
 | cons {B a b:ye} {s:Ra} {l:List Ra}:Xm p d B s a->ik p d a l b->ik p d B (s::l) b
inductive Xm (p:mb) (d:va):ye->Ra->ye->Prop
 | Io {B:ye} {s:Ra} {t:Sa} (h:B.length - 1<B.length):s.Kind=1->Ve p d B s.X t->Rj B s.Name=none->Xm p d B s (B.set (B.length - 1) (kd B[B.length - 1] s.Name t))
 | sset {B:ye} {s:Ra} {t:Sa}:s.Kind=2->Rj B s.Name=some t->Ve p d B s.X (Ke t)->Xm p d B s B
 | Hq {B a b:ye} {s:Ra}:s.Kind=3->Ve p d B s.X ⟨2,[]⟩->ik p d (B++[[]]) s.Body a->ik p d (B++[[]]) s.sf b->Xm p d B s B
 | aH {B a:ye} {s:Ra}:s.Kind=4->Ve p d B s.X ⟨2,[]⟩->ik p d (B++[[]]) s.Body a->Xm p d B s B
 | vq {B:ye} {s:Ra}:s.Kind=5->d.Kind=2->Ve p d B s.X (Ke d.Ob)->Xm p d B s B
 | vG {B:ye} {s:Ra}:s.Kind=6->d.Kind≠2->Xm p d B s B
 | qq {B:ye} {s:Ra} {f:va}:s.Kind=7->Oa p.named s.Name=some f->f.Kind=1->Ve p d B s.X (Ke f.Ob)->Xm p d B s B
 | wq {B:ye} {s:Ra} {t:Sa}:s.Kind=8->Ve p d B s.X t->t.Kind≠3->Xm p d B s B
 | Iq {B:ye} {s:Ra} {t:Sa}:s.Kind=9->Ve p d B s.X t->Xm p d B s B
end
structure mS (n:Nat):Prop where
 stats:∀ (k:Nat) (p:mb) (d:va) (B:ye) (l:List Ra),Cn p d B->l.length<=50->(∀ y ∈ l,Vm k y)->B.length+k<=90->5*k+130<=n ->
  ∃ e,(Rl n).Sk p d B l=some (e,B)/\(e=0->∃ a,ik p d (B++[[]]) l a)
 stat:∀ (k:Nat) (p:mb) (d:va) (B:ye) (s:Ra),Cn p d B->0<B.length->Vm k s->B.length+k<=91->5*k+129<=n ->
  ∃ e a,(Rl n).gn p d B s=some (e,a)/\a.length=B.length/\a.take (B.length - 1)=B.take (B.length - 1)/\Om p a/\(e=0->Xm p d B s a)
theorem nS:∀ n,mS n:=by
 intro n
 induction n with
 | zero=>exact ⟨λ_ _ _ _ _ _ _ _ _ h=>by omega,λ_ _ _ _ _ _ _ _ _ h=>by omega⟩
 | succ n M =>
  refine ⟨λk p d B l H ma G hB Z=>?_,λk p d B s H Fd G hB Z=>?_⟩
  ·show ∃ e,Sk (Rl n) p d B l=some (e,B)/\_;rw [Sk,app,if_pos (by simp;omega),Ga,Dx];have L:∀ (m i:Nat) (a:ye),i<=l.length->l.length<m+i->a.length=B.length+1->a.take B.length=B->Om p a ->
     ∃ e,Ds (Rl n) l p d m i a=some (e,B)/\(e=0->∃ D,ik p d a (l.drop i) D):=by
    intro m
    induction m with
    | zero=>intro i a j g; omega
    | succ m bb =>
     intro i a j g w y E;rw [Ds];have pop:∀ C:ye,C.length=B.length+1->C.take B.length=B->ft p d C=some B:=λC ua v=>by
      rw [oI p d C (by omega) (by omega),ua,Nat.add_sub_cancel,v]
     by_cases c:i<l.length
     ·obtain ⟨e,D,Gb,N,S,gc,lc⟩:=M.stat k p d a l[i] ⟨H.Tq,H.Ea,E,by omega⟩ (by omega) (G _ (List.getElem_mem _)) (by omega) (by omega);rw [w,Nat.add_sub_cancel] at S;rw [w] at N;have v:D.take B.length=B:=S.trans y;rw [if_pos (by omega),Lg,List.getElem?_eq_getElem c,Ga,Gb,Ga];by_cases z:e=0
      ·rw [if_neg (by simpa using z),Gf (by omega),Ga];obtain ⟨rc,s1,s2⟩:=bb (i+1) D c (by omega) N v gc;refine ⟨rc,s1,λr=>?_⟩;rw [List.drop_eq_getElem_cons c];obtain ⟨fd,id⟩:=s2 r;exact ⟨fd,.cons (lc z) id⟩
      ·rw [if_pos z];simp only [];rw [pop D N v,Ga];exact ⟨e,rfl,λh=>absurd h z⟩
     ·rw [if_neg (by omega),pop a w y,Ga,List.drop_eq_nil_of_le (by omega)];exact ⟨0,rfl,λ_=>⟨a,.nil a⟩⟩
   have:=L (l.length+1) 0 (B++[[]]) (by omega) (by omega) (by simp) (by simp) (λm x k' t O=>by
    rcases List.mem_append.1 x with x | x
    ·exact H.Tc m x k' t O
    ·rw [List.mem_singleton.1 x] at O;cases O)
   obtain ⟨e,ua,v⟩:=this;rw [List.drop_zero] at v;exact ⟨e,ua,v⟩
  ·show ∃ e a,gn n (Rl n) p d B s=some (e,a)/\_;cases k with
   | zero=>cases G
   | succ k =>
   obtain ⟨k1,Id,A,T,he⟩:=G;have K:=(FK n).typed k p d B s.X;have P:=(FK n).expr k p d B s.X;have same:∀ e:Int,(e=0->Xm p d B s B)->∀ o:Option (Int×ye),o=some (e,B)->∃ e a,o=some (e,a)/\a.length=B.length/\a.take (B.length - 1)=B.take (B.length - 1)/\Om p a/\(e=0->Xm p d B s a):=
    λe h o md=>⟨e,B,md,rfl,rfl,H.Tc,h⟩
   rw [gn];by_cases eb:s.Kind=1
   ·obtain ⟨t,e,j,g⟩:=P H (A (by omega)) (by omega);rw [if_pos eb,j,Ga];by_cases z:e=0
    ·obtain ⟨hb,b,w,y,E⟩:=aG H.Tc H.Jd n (by omega) d s.Name;rw [if_neg (by simpa using z),w,Ga];cases b with
     | true=>exact same 7 (λh=>absurd h (by decide)) _ rfl
     | false =>
      have U:B.length - 1<B.length:=by omega
      have ua:(B.length:Int) - 1=((B.length - 1:Nat):Int):=by omega
      rw [if_neg (by simp),Gf (by omega),Ga,ua,Lg,List.getElem?_eq_getElem U,Ga,Bu];refine ⟨0,_,rfl,by simp,?_,λm x k' u F=>?_,λ_=>.Io U eb (g z).2 (E rfl)⟩
      ·simp [List.take_set_of_le]
      ·rcases List.mem_or_eq_of_mem_set x with x | rfl
       ·exact H.Tc m x k' u F
       ·rw [sk] at F;split at F
        ·obtain rfl:=Option.some.inj F;exact (g z).1
        ·exact H.Tc _ (List.getElem_mem _) k' u F
    ·rw [if_pos z];exact same e (λh=>absurd h z) _ rfl
   rw [if_neg eb];by_cases c2:s.Kind=2
   ·obtain ⟨hb,b,w,y,-⟩:=aG H.Tc H.Jd n (by omega) d s.Name;rw [if_pos c2,w,Ga];cases b with
    | false=>exact same 7 (λh=>absurd h (by decide)) _ rfl
    | true =>
     obtain ⟨e,j,g⟩:=K hb H (A (by omega)) (by omega);rw [if_pos rfl,j,Ga];exact same e (λr=>.sset c2 (y rfl).2 (g r)) _ rfl
   rw [if_neg c2];have V:∀ b,(b=true ↔ s.Kind=3\/s.Kind=4)->∃ e a,Ls n (Rl n) s p d B b=some (e,a)/\a.length=B.length/\a.take (B.length - 1)=B.take (B.length - 1)/\Om p a/\(e=0->Xm p d B s a):=by
    intro b Q;rw [Ls];by_cases q:b=true
    ·have c:=Q.1 q;obtain ⟨e,j,g⟩:=K ⟨2,[]⟩ H (A (by omega)) (by omega);rw [if_pos q,ak,Ga,j,Ga];by_cases z:e=0
     ·rw [if_neg (by simpa using z)];obtain ⟨v,w,y⟩:=M.stats k p d B s.Body H (T c).1 (T c).2 (by omega) (by omega);rw [w,Ga];by_cases z2:v=0
      ·rw [if_neg (by simpa using z2)];obtain ⟨be,E⟩:=y z2;by_cases c4:s.Kind=4
       ·rw [decide_eq_true c4];exact same v (λ_=>.aH c4 (g z) E) _ rfl
       ·have R:s.Kind=3:=by omega
        obtain ⟨nd,f1,f2⟩:=M.stats k p d B s.sf H (he R).1 (he R).2 (by omega) (by omega);rw [decide_eq_false c4,Fv,if_neg (by decide)];simp only [];rw [f1,Ga];refine same nd (λr=>?_) _ rfl;obtain ⟨D,f3⟩:=f2 r;exact .Hq R (g z) E f3
      ·rw [if_pos z2];exact same v (λh=>absurd h z2) _ rfl
     ·rw [if_pos z];exact same e (λh=>absurd h z) _ rfl
    rw [if_neg q];have ce:s.Kind≠3:=λh=>q (Q.2 (.inl h));have ge:s.Kind≠4:=λh=>q (Q.2 (.inr h));by_cases c5:s.Kind=5
    ·rw [if_pos c5];split
     ·exact same 8 (λh=>absurd h (by decide)) _ rfl
     ·rename_i W;obtain ⟨e,j,g⟩:=K d.Ob H (A (by omega)) (by omega);rw [j,Ga];exact same e (λr=>.vq c5 (by omega)<|g r) _ rfl
    rw [if_neg c5];by_cases Wc:s.Kind=6
    ·rw [if_pos Wc];split
     ·exact same 8 (λh=>absurd h (by decide)) _ rfl
     ·rename_i W;exact same 0 (λr=>.vG Wc W) _ rfl
    rw [if_neg Wc];by_cases tg:s.Kind=7
    ·rw [if_pos tg,Du,Ga];by_cases c:Gp (Oa p.named s.Name) 1=true
     ·obtain ⟨f,Y,rd⟩:=Zu c;obtain ⟨e,j,g⟩:=K f.Ob H (A (by omega)) (by omega);rw [if_pos c,Y];simp only [Ga];rw [j,Ga];exact same e (λr=>.qq tg Y rd<|g r) _ rfl
     ·rw [if_neg c];exact same 7 (λh=>absurd h (by decide)) _ rfl
    rw [if_neg tg];by_cases Rf:s.Kind=8
    ·obtain ⟨t,e,j,g⟩:=P H (A (by omega)) (by omega);rw [if_pos Rf,j,Ga];by_cases z:e=0
     ·rw [if_pos z,Xo,Ga,wz];refine same _ (λr=>.wq Rf (g z).2 λwd=>?_) _ rfl;simp [wd] at r
     ·rw [if_neg z,wz];exact same e (λh=>absurd h z) _ rfl
    rw [if_neg Rf];by_cases c9:s.Kind=9
    ·obtain ⟨t,e,j,g⟩:=P H (A (by omega)) (by omega);rw [if_pos c9,j,Ga];exact same e (λr=>.Iq c9 (g r).2) _ rfl
    ·omega
   split
   ·rename_i h;exact V _ (by simp [h])
   ·rename_i h;exact V _ (by simp [h])
def bu (d:va):List (Nm×Sa):=d.Params.foldl (λm q=>kd m q.Name (Ke q.Ob)) []
theorem oS (fu:Nat) (D:500<=fu) (p:mb) (d:va) (w:jH p) (g:zo p d) (Ea:nu d):∃ e,mr fu p d=some e/\(e=0->d.Kind≠1->∃ f,ik p d ([if d.Kind=4 then [] else bu d]++[[]]) d.Body f):=by
 rw [mr];by_cases eb:d.Kind=1
 ·rw [if_pos eb];exact ⟨0,rfl,λ_ h=>absurd eb h⟩
 ·rw [if_neg eb];have r:∀ B:ye,B.length=1->Om p B->∃ e,Ns fu p d B=some e/\(e=0->∃ f,ik p d (B++[[]]) d.Body f):=by
   intro B s j;obtain ⟨e,x,y⟩:=(nS fu).stats 39 p d B d.Body ⟨w,g,j,by omega⟩ (Ea.Jd eb) (Ea.vx eb) (by omega) (by omega);rw [Ns,x,Ga];exact ⟨e,rfl,y⟩
  by_cases c4:d.Kind=4
  ·rw [if_neg (by simpa using c4),if_pos c4];obtain ⟨e,ua,l⟩:=r [[]] rfl (λm n k t a=>by rw [List.mem_singleton.1 n] at a;cases a);exact ⟨e,ua,λh _=>l h⟩
  ·rw [if_pos c4,if_neg c4];have u:d.Kind=2\/d.Kind=3:=by have:=Ea.k1;have:=Ea.pf;omega
   have E:=g.pl u;have L:∀ (m i:Nat) (b:List (Nm×Sa)),i<=d.Params.length->d.Params.length<m+i->b=(d.Params.take i).foldl (λm q=>kd m q.Name (Ke q.Ob)) []->Om p [b]->∃ e,dr fu p d m i [b]=some e/\(e=0->∃ f,ik p d ([bu d]++[[]]) d.Body f):=by
    intro m
    induction m with
    | zero=>intro i B s j; omega
    | succ m z =>
     intro i b s j v o;rw [dr];by_cases c:i<d.Params.length
     ·have A:0<[b].length:=by simp
      rw [if_pos (by omega),Lg,List.getElem?_eq_getElem c,Ga,OG A,Ga,po,Ga,Hx,Gf (by omega),Ga];refine z (i+1) (kd b d.Params[i].Name<|Ke d.Params[i].Ob) c (by omega) ?_<|λF C k t a=>?_
      ·rw [<- List.take_append_getElem c,List.foldl_append,<- v];rfl
      ·rw [List.mem_singleton.1 C,sk] at a;split at a
       ·obtain rfl:=Option.some.inj a;exact (g.Hg u _<|List.getElem_mem _).bare
       ·exact o b (by simp) k t a
     ·rw [if_neg (by omega)];have e:b=bu d:=by rw [v,List.take_of_length_le (by omega)];rfl
      rw [e] at o ⊢;exact r _ rfl o
   obtain ⟨e,ua,l⟩:=L (d.Params.length+1) 0 [] (by omega) (by omega) rfl (λm n k t a=>by rw [List.mem_singleton.1 n] at a;cases a);exact ⟨e,ua,λh _=>l h⟩
section
variable {fu:Nat}{l:List va}
theorem bH {α β:Type}{f:α->Option β}:Option.bind (none:Option α) f=none:=rfl
theorem lU (ma:l.length<=30) (N:List (Nm×va)) (p:mb) (f:Nd):∀ (m i:Nat),ar fu l N m i=some (p,f)->f.De=0->p=⟨l,N⟩/\∀ j (a:j<l.length),i<=j->mr fu ⟨l,N⟩ l[j]=some 0:=by
 intro m
 induction m with
 | zero=>intro i h; cases h
 | succ m d =>
  intro i h b;rw [ar] at h;by_cases c:i<l.length
  ·rw [if_pos (by omega),Lg,List.getElem?_eq_getElem c,Ga] at h;cases e:mr fu ⟨l,N⟩ l[i] with
   | none=>rw [e,bH] at h; cases h
   | some r =>
    rw [e,Ga] at h;by_cases z:r≠0
    ·rw [if_pos z] at h;obtain ⟨rfl,rfl⟩:=Prod.mk.inj (Option.some.inj h);exact absurd b z
    ·rw [if_neg z,Gf (by omega),Ga] at h;obtain ⟨g,k⟩:=d (i+1) h b;refine ⟨g,λj a n=>?_⟩;by_cases q:j=i
     ·subst q;rw [e,Decidable.not_not.1 z]
     ·exact k j a (by omega)
  ·rw [if_neg (by omega)] at h;obtain ⟨rfl,rfl⟩:=Prod.mk.inj (Option.some.inj h);exact ⟨rfl,λj a n=>by omega⟩
theorem mU (ma:l.length<=30) (N:List (Nm×va)) (p:mb) (f:Nd):∀ (m i:Nat),br fu l N m i=some (p,f)->f.De=0->ar fu l N (l.length+1) 0=some (p,f):=by
 intro m
 induction m with
 | zero=>intro i h; cases h
 | succ m b =>
  intro i h a;rw [br] at h;by_cases c:i<l.length
  ·rw [if_pos (by omega),Lg,List.getElem?_eq_getElem c,Ga] at h;cases e:cw ⟨l,N⟩ l[i] with
   | none=>rw [e,bH] at h; cases h
   | some r =>
    rw [e,Ga] at h;by_cases z:r≠0
    ·rw [if_pos z] at h;obtain ⟨rfl,rfl⟩:=Prod.mk.inj (Option.some.inj h);exact absurd a z
    ·rw [if_neg z,Gf (by omega),Ga] at h;exact b (i+1) h a
  ·rw [if_neg (by omega)] at h;exact h
theorem nU (ma:l.length<=30) (p:mb) (f:Nd):∀ (m i:Nat) (t:Int) (N:List (Nm×va)),cr fu l m t i N=some (p,f)->f.De=0->∃ N,br fu l N (l.length+1) 0=some (p,f):=by
 intro m
 induction m with
 | zero=>intro i t N h; cases h
 | succ m b =>
  intro i t N h a;rw [cr] at h;by_cases c:i<l.length
  ·have qb:at_ l (i:Int)=some l[i]:=by rw [Lg,List.getElem?_eq_getElem c]
   rw [if_pos (by omega),qb,Ga] at h;by_cases q:(Oa N l[i].Name).isSome=true
   ·rw [if_pos q] at h;obtain ⟨rfl,rfl⟩:=Prod.mk.inj (Option.some.inj h);exact absurd a (by show ¬ (7:Int)=0;decide)
   ·rw [if_neg q,Ga,Ga,Ga] at h;by_cases pf:l[i].Kind=4
    ·rw [if_pos pf] at h;cases e:i64 (t+1) with
     | none=>rw [e,bH] at h; cases h
     | some hb =>
      rw [e,Ga,Gf (by omega),Ga] at h;exact b (i+1) hb _ h a
    ·rw [if_neg pf,Gf (by omega),Ga] at h;exact b (i+1) t _ h a
  ·rw [if_neg (by omega)] at h;by_cases t0:t=0
   ·rw [if_pos t0] at h;obtain ⟨rfl,rfl⟩:=Prod.mk.inj (Option.some.inj h);exact absurd a (by show ¬ (6:Int)=0;decide)
   ·rw [if_neg t0] at h;exact ⟨N,h⟩
theorem AQ (b:500<=fu){p:mb}{f:Nd}(h:Ys fu l=some (p,f)) (a:f.De=0):(∀ d ∈ l,ou d)/\∀ d ∈ l,d.Kind≠1->∃ m,ik p d ([if d.Kind=4 then [] else bu d]++[[]]) d.Body m:=by
 obtain ⟨TW,t,c,n⟩:=zH fu b l;rw [h] at c;obtain ⟨rfl,rfl⟩:=Prod.mk.inj (Option.some.inj c);have R:=n a;have ma:=R.ok.le;obtain ⟨g,i,-⟩:=kD fu (by omega) l;rw [Ys,i,Ga] at h;by_cases z:g.De≠0
 ·rw [if_pos z] at h;obtain ⟨-,rfl⟩:=Prod.mk.inj (Option.some.inj h);exact absurd a z
 ·rw [if_neg z] at h;refine ⟨(jU (by omega) i<|Decidable.not_not.1 z).2,?_⟩;obtain ⟨N,h⟩:=nU ma p f _ 0 0 _ h a;obtain ⟨rfl,o⟩:=lU ma N p f _ 0 (mU ma N p f _ 0 h a) a;intro d Ea k1;obtain ⟨j,q,rfl⟩:=List.getElem_of_mem Ea;obtain ⟨e,ua,r⟩:=oS fu b ⟨l,N⟩ l[j] (λk d s=>R.Ea d (R.only k d s).1) (R.Ea _ Ea) (R.ok.ok _ Ea);rw [o j q (Nat.zero_le _)] at ua;exact r (Option.some.inj ua).symm k1
end
def wG (u:rf) (H:List Nm) (d:va):Prop:=(∀ z ∈ Uq d,z ∈ u.Tk)/\(∀ z ∈ Vq d,z ∈ u.vk)/\∀ c ∈ Hj d,c ∈ H
theorem KE (N:List (Nm×va)):∀ (cs a:List Nm) (todo:List (Option va)),(∀ c ∈ a,c ∈ (Kk N cs a todo).1)/\(∀ c ∈ cs,c ∈ (Kk N cs a todo).1)/\(∀ o ∈ todo,o ∈ (Kk N cs a todo).2)/\∀ c ∈ (Kk N cs a todo).1,c ∈ a\/Oa N c ∈ (Kk N cs a todo).2
 | [],a,todo=>⟨λc h=>h,λc h=>(by cases h),λo h=>h,λc h=>.inl h⟩
 | c::cs,a,todo=>by
  rw [Kk];by_cases k:a.contains c=true
  ·rw [if_pos k];obtain ⟨d,f,e,g⟩:=KE N cs a todo;refine ⟨d,λx b=>?_,e,g⟩;rcases List.mem_cons.1 b with rfl | b
   ·exact d _ (by simpa using k)
   ·exact f x b
  ·rw [if_neg k];obtain ⟨d,f,e,g⟩:=KE N cs (a++[c]) (todo++[Oa N c]);refine ⟨λx b=>d x (List.mem_append_left _ b),λx b=>?_,λo i=>e o (List.mem_append_left _ i),λx b=>?_⟩
   ·rcases List.mem_cons.1 b with rfl | b
    ·exact d _ (by simp)
    ·exact f x b
   ·rcases g x b with h | h
    ·rcases List.mem_append.1 h with h | h
     ·exact .inl h
     ·rw [List.mem_singleton.1 h];exact .inr<|e _ (by simp)
    ·exact .inr h
theorem pS (N:List (Nm×va)):∀ (n:Nat) (a:List Nm) (todo:List (Option va)) (s r:List Nm) (u:rf),eo N n a todo s r=some u->∃ H,(∀ c ∈ a,c ∈ H)/\(∀ z ∈ s,z ∈ u.Tk)/\(∀ z ∈ r,z ∈ u.vk)/\(∀ d,some d ∈ todo->wG u H d)/\∀ c ∈ H,c ∉ a->∀ d,Oa N c=some d->wG u H d:=by
 intro n
 induction n with
 | zero=>intro a todo s r u h; cases h
 | succ n p =>
  intro a todo s r u h;cases todo with
  | nil =>
   rw [eo] at h;obtain rfl:=Option.some.inj h;exact ⟨a,λc h=>h,λz h=>h,λz h=>h,λd h=>(by cases h),λc h v=>absurd h v⟩
  | cons o t =>
   cases o with
   | none=>rw [eo] at h; cases h
   | some d =>
    rw [eo] at h;obtain ⟨oa,a2,a3,a4⟩:=KE N (Hj d) a t;obtain ⟨H,j,k,l,m,w⟩:=p _ _ _ _ u h;refine ⟨H,λc g=>j c<|oa c g,λz b=>k z<|List.mem_append_left _ b,λz b=>l z<|List.mem_append_left _ b,λi f=>?_,λc g x i f=>?_⟩
    ·rcases List.mem_cons.1 f with e | f
     ·obtain rfl:=Option.some.inj e;exact ⟨λz b=>k z<|List.mem_append_right _ b,λz b=>l z<|List.mem_append_right _ b,λc g=>j c<|a2 c g⟩
     ·exact m i<|a3 _ f
    ·by_cases q:c ∈ (Kk N (Hj d) a t).1
     ·rcases a4 c q with q | q
      ·exact absurd q x
      ·rw [f] at q;exact m i q
     ·exact w c g q i f
inductive xq (N:List (Nm×va)) (a:va):va->Prop
 | refl:xq N a a
 | step {b e:va} {c:Nm}:xq N a b->c ∈ Hj b->Oa N c=some e->xq N a e
theorem BQ {N:List (Nm×va)}{n:Nat}{a:va}{u:rf}(h:eo N n [] [some a] [] []=some u):∀ {d:va},xq N a d->(∀ z ∈ Uq d,z ∈ u.Tk)/\∀ z ∈ Vq d,z ∈ u.vk:=by
 obtain ⟨H,-,-,-,b,c⟩:=pS N n [] [some a] [] [] u h;have key:∀ {d:va},xq N a d->wG u H d:=by
  intro d Ea
  induction Ea with
  | refl=>exact b a (by simp)
  | step i e f g=>exact c _ (g.2.2 _ e) (by simp) _ f
 exact λ{d} Ea=>⟨(key Ea).1,(key Ea).2.1⟩
theorem tF (N:List (Nm×va)) (fu:Nat) (n:Nm):∀ (ds:List va) (L:List (Nm×rf)),(∀ d ∈ ds,d.Name≠n)->Oa (Wk N fu ds L) n=Oa L n
 | [],L,h=>rfl
 | d::ds,L,h=>by
  rw [Wk];have a:∀ e ∈ ds,e.Name≠n:=λe b=>h e (List.mem_cons_of_mem _ b);split
  ·rw [tF N fu n ds _ a,sk,if_neg (h d (List.mem_cons_self ..))]
  ·exact tF N fu n ds L a
theorem ME (N:List (Nm×va)) (fu:Nat){t:va}(pf:t.Kind=4):∀ (ds:List va) (L:List (Nm×rf)),(ds.Pairwise λa b=>a.Name≠b.Name)->t ∈ ds->Oa (Wk N fu ds L) t.Name=some ((eo N fu [] [some t] [] []).getD Wm)
 | d::ds,L,Ea,c=>by
  obtain ⟨g,f⟩:=List.pairwise_cons.1 Ea;rw [Wk];rcases List.mem_cons.1 c with rfl | c
  ·rw [if_pos pf,tF N fu t.Name ds _ (λe h=>(g e h).symm),sk,if_pos rfl]
  ·split
   ·exact ME N fu pf ds _ f c
   ·exact ME N fu pf ds _ f c
def cu (L:List (Nm×rf)) (b:Nm) (t:va):Prop:=t.Kind=4/\((Oa L t.Name).getD Wm).Tk.contains b=true
def du (L:List (Nm×rf)) (b:Nm) (t:va):Prop:=t.Kind=4/\((Oa L t.Name).getD Wm).vk.contains b=true
theorem OE (L:List (Nm×rf)) (b:Nm):∀ (na:List va) (w r:Nm) (x:Nm×Nm),(∀ t ∈ na,t.Name≠[])->Bp L b na w r=some x->((w≠[]->∀ t ∈ na,¬ cu L b t)/\na.Pairwise λa c=>¬ (cu L b a/\cu L b c))/\((r≠[]->∀ t ∈ na,¬ du L b t)/\na.Pairwise λa c=>¬ (du L b a/\du L b c))
 | [],w,r,x,i,h=>⟨⟨λ_ t g=>(by cases g),List.Pairwise.nil⟩,λ_ t g=>(by cases g),List.Pairwise.nil⟩
 | t::na,w,r,x,i,h=>by
  have j:∀ e ∈ na,e.Name≠[]:=λe d=>i e (List.mem_cons_of_mem _ d);have g:=i t (List.mem_cons_self ..);rw [Bp] at h;by_cases pf:t.Kind≠4
  ·rw [if_pos pf] at h;obtain ⟨⟨oa,a2⟩,ka,ad⟩:=OE L b na w r x j h;have od:¬ cu L b t:=λq=>pf q.1;have Bn:¬ du L b t:=λq=>pf q.1;refine ⟨⟨λf e d=>?_,List.pairwise_cons.2 ⟨λe _ q=>od q.1,a2⟩⟩,λf e d=>?_,List.pairwise_cons.2 ⟨λe _ q=>Bn q.1,ad⟩⟩
   ·rcases List.mem_cons.1 d with rfl | d
    ·exact od
    ·exact oa f e d
   ·rcases List.mem_cons.1 d with rfl | d
    ·exact Bn
    ·exact ka f e d
  ·rw [if_neg pf] at h;have pf:t.Kind=4:=Decidable.not_not.1 pf;by_cases eb:((Oa L t.Name).getD Wm).Tk.contains b=true/\w≠[]
   ·rw [if_pos eb] at h;cases h
   rw [if_neg eb] at h;by_cases c2:((Oa L t.Name).getD Wm).vk.contains b=true/\r≠[]
   ·rw [if_pos c2] at h;cases h
   rw [if_neg c2] at h;obtain ⟨⟨oa,a2⟩,ka,ad⟩:=OE L b na _ _ x j h;refine ⟨⟨λf e d=>?_,List.pairwise_cons.2 ⟨λe d q=>?_,a2⟩⟩,λf e d=>?_,List.pairwise_cons.2 ⟨λe d q=>?_,ad⟩⟩
   ·rcases List.mem_cons.1 d with rfl | d
    ·exact λq=>eb ⟨q.2,f⟩
    ·exact oa (by split<;>assumption) e d
   ·rw [if_pos q.1.2] at oa;exact oa g e d q.2
   ·rcases List.mem_cons.1 d with rfl | d
    ·exact λq=>c2 ⟨q.2,f⟩
    ·exact ka (by split<;>assumption) e d
   ·rw [if_pos q.1.2] at ka;exact ka g e d q.2
theorem PE (L:List (Nm×rf)) (l:List va):∀ (xs:List va) (i:Int) (acc:List fi),(Lr L l xs i acc).2.De=0->∀ x ∈ xs,x.Kind=1->∃ y,Bp L x.Name l [] []=some y
 | [],i,acc,h,x,a,_=>by cases a
 | z::xs,i,acc,h,x,a,k1=>by
  rw [Lr] at h;by_cases c:z.Kind≠1
  ·rw [if_pos c] at h;rcases List.mem_cons.1 a with rfl | a
   ·exact absurd k1 c
   ·exact PE L l xs _ _ h x a k1
  ·rw [if_neg c] at h;cases e:Bp L z.Name l [] [] with
   | none=>rw [e] at h; exact absurd h (by show ¬ (8:Int)=0; decide)
   | some y =>
    rw [e] at h;rcases List.mem_cons.1 a with rfl | a
    ·exact ⟨y,e⟩
    ·exact PE L l xs _ _ h x a k1
def FC {α:Type}(R:α->α->Prop) (l Ba:List α):Prop:=Ba.length=l.length/\∀ (i:Nat) (y:α),l[i]?=some y->∃ a,Ba[i]?=some a/\R y a
def lH:Nat->Na->Na->Prop
 | 0,_,_=>False
 | k+1,x,a=>a.Kind=x.Kind/\(x.Kind=1\/x.Kind=2->a.N=x.N)/\(x.Kind=3\/x.Kind=20\/x.Kind=19\/x.Kind=22->a.Name=x.Name)/\FC (lH k) x.Kids a.Kids
def mH:Nat->Ra->Ra->Prop
 | 0,_,_=>False
 | k+1,s,Bb=>Bb.Kind=s.Kind/\(s.Kind=1\/s.Kind=2\/s.Kind=7->Bb.Name=s.Name)/\(s.Kind≠6->lH k s.X Bb.X)/\(s.Kind=3\/s.Kind=4->FC (mH k) s.Body Bb.Body)/\(s.Kind=3->FC (mH k) s.sf Bb.sf)
end Go.Y
