/- Texts of GenMakes Pm. -/
import Derived.Test.YteiemedhecjgiaaCPl
import Derived.Laws.RangeString
import Derived.KernelRfl
set_option linter.unusedSimpArgs false
set_option linter.unusedVariables false
set_option linter.unusedSectionVars false
namespace Go.Y
open Go.pc Go.nd
theorem Kf {α β:Type}{o:Option α}{f:α→Option β}{r:β}(h:Option.bind o f=some r):∃ x,o=some x∧f x=some r:=ia h
theorem JE {w:Hm}{p:UInt8→Option Bool}:∀ (m a:Nat) (i r:Int),m≤a→Dk w p m i=some r→Dk w p a i=some r:=by
 intro m
 induction m with
 | zero=>intro a i r h g; cases g
 | succ m d =>
  intro a i r h g;obtain ⟨a,rfl⟩:∃ q,a=q+1:=⟨a - 1,by omega⟩;rw [Dk] at g ⊢;have We:∀ b,Tn i (Dk w p m) b=some r→Tn i (Dk w p a) b=some r:=by
   intro b g;rw [Tn] at g ⊢;split
   ·rename_i c;rw [if_pos c] at g;obtain ⟨x,e,g⟩:=Kf g;rw [e,da];exact d a x r (by omega) g
   ·rename_i c;rw [if_neg c] at g;exact g
  split
  ·rename_i c;rw [if_pos c] at g;obtain ⟨x,e,g⟩:=Kf g;obtain ⟨y,f,g⟩:=Kf g;rw [e,da,f,da];exact We y g
  ·rename_i c;rw [if_neg c] at g;exact We _ g
theorem uA {fu a:Nat}(h:fu≤a){w:Hm}{b:Bool}(g:kh fu w=some b):kh a w=some b:=by
 have We:∀ c,Bk fu w c=some b→Bk a w c=some b:=by
  intro c g;rw [Bk] at g ⊢;split
  ·rename_i q;rw [if_pos q] at g;exact g
  ·rename_i q;rw [if_neg q] at g;obtain ⟨x,e,g⟩:=Kf g;have:hr a w ym=some x:=JE fu a 0 x h e;rw [this,da];exact g
 rw [kh] at g ⊢;split
 ·rename_i q;rw [if_pos q] at g;exact We _ g
 ·rename_i q;rw [if_neg q] at g;split
  ·rename_i q;rw [if_pos q] at g;exact We _ g
  ·rename_i q;rw [if_neg q] at g;obtain ⟨x,e,g⟩:=Kf g;obtain ⟨y,d,g⟩:=Kf g;rw [e,da,d,da];split
   ·rename_i q;rw [if_pos q] at g;obtain ⟨s1,ma,g⟩:=Kf g;obtain ⟨s2,f,g⟩:=Kf g;obtain ⟨wb,i,g⟩:=Kf g;rw [ma,da,f,da,i,da];exact We _ g
   ·rename_i q;rw [if_neg q] at g;exact We _ g
theorem Tt {fu:Nat}(d:20≤fu){w:Hm}(h:kh fu w=some true):Ul w:=by
 intro f e;obtain ⟨b,a⟩:=Qs 20 (Nat.le_refl _) w;have c:=uA d a;rw [h] at c;obtain rfl:=Option.some.inj c;exact uA e a
section
variable {fu:Nat}{self:um}{x:hb}{d node k:Int}
theorem iE:∀ (m i:Nat) (c:Int),x.Kids.length≤6→Cj self x d m i c=some (0,k)→∀ j (b:j<x.Kids.length),i≤j→∃ Fc a e,self.Qh Fc x.Kids[j] a=some (0,e):=by
 intro m
 induction m with
 | zero=>intro i c _ h; cases h
 | succ m f =>
  intro i c za h j b p;rw [Cj,if_pos (by omega),od,List.getElem?_eq_getElem (show i<x.Kids.length by omega),da] at h;obtain ⟨a,ma,h⟩:=Kf h;obtain ⟨r,g,h⟩:=Kf h;by_cases z:r.1≠0
  ·rw [if_pos z] at h;exact absurd (congrArg (fun o:Option (Int×Int)=>o.map (·.1)) h) (by simpa using z)
  ·rw [if_neg z,Ib (by omega),da] at h;by_cases q:j=i
   ·subst q;obtain ⟨l,n⟩:=r;obtain rfl:l=0:=Decidable.not_not.1 z;exact ⟨c,a,n,g⟩
   ·exact f (i+1) r.2 za h j b (by omega)
theorem dA {a:Int×Int}{b:Bool}(h:Lm self x d a b=some (0,k)):∃ m c,Cj self x d m (0:Nat) c=some (0,k):=by
 rw [Lm] at h;split at h
 ·cases h
 ·exact ⟨_,_,h⟩
theorem jE {a:Int×Int}{r:Int}{b:Bool}(h:Mm self x d a r b=some (0,k)):∃ m c,Cj self x d m (0:Nat) c=some (0,k):=by
 rw [Mm] at h;split at h
 ·exact dA h
 ·split at h<;>exact dA h
theorem eA {a:Int×Int}{r:Int}{b:Bool}(h:zl self x d a r b=some (0,k)):b=false∧∃ m c,Cj self x d m (0:Nat) c=some (0,k):=by
 rw [zl] at h;split at h
 ·cases h
 ·rename_i q;refine ⟨by simpa using q,?_⟩;split at h<;>exact jE h
theorem Sv {f:Int×Int}{r:Int}{b:Bool}(h:nk fu self x d f r b=some (0,k)):b=false∧(x.Kind=3∨x.Kind=20∨r<0→kh fu x.Name=some true)∧∃ m c,Cj self x d m (0:Nat) c=some (0,k):=by
 rw [nk] at h;split at h
 ·cases h
 ·rename_i q;refine ⟨by simpa using q,?_⟩;have We:(Option.bind (kh fu x.Name) fun i=>zl self x d f r (!i))=some (0,k)→(x.Kind=3∨x.Kind=20∨r<0→kh fu x.Name=some true)∧∃ m c,Cj self x d m (0:Nat) c=some (0,k):=by
   intro h;obtain ⟨Te,e,h⟩:=Kf h;obtain ⟨j,a⟩:=eA h;cases Te with
   | true=>exact ⟨fun _=>e,a⟩
   | false=>cases j
  split at h
  ·exact We h
  ·split at h
   ·exact We h
   ·split at h
    ·exact We h
    ·obtain ⟨-,a⟩:=eA h;exact ⟨fun g=>by omega,a⟩
theorem MF (h:Qh fu self node x d=some (0,k)):(x.Kind=1→0≤x.N∧x.N≤999999999999999)∧(x.Kind=2→x.N=0∨x.N=1)∧(x.Kind=3∨x.Kind=20∨ng x.Kind<0→kh fu x.Name=some true)∧∃ m c,Cj self x d m (0:Nat) c=some (0,k):=by
 rw [Qh] at h;obtain ⟨i,-,h⟩:=Kf h;split at h
 ·rename_i z;exact absurd (congrArg (fun o:Option (Int×Int)=>o.map (·.1)) h) (by simpa using z)
 ·have f:∀ b,Om fu self x d i (ng x.Kind) b=some (0,k)→b=false∧(x.Kind=2→x.N=0∨x.N=1)∧(x.Kind=3∨x.Kind=20∨ng x.Kind<0→kh fu x.Name=some true)∧∃ m c,Cj self x d m (0:Nat) c=some (0,k):=by
   intro b h;rw [Om] at h;split at h
   ·rename_i q;obtain ⟨a,-⟩:=Sv h;rw [q] at a;cases a
   ·rename_i q;refine ⟨by simpa using q,?_⟩;split at h
    ·split at h
     ·obtain ⟨a,e⟩:=Sv h;exact ⟨fun _=>.inr (by simpa using a),e⟩
     ·rename_i z;obtain ⟨a,e⟩:=Sv h;exact ⟨fun _=>.inl (Decidable.not_not.1 z),e⟩
    ·rename_i z;obtain ⟨a,e⟩:=Sv h;exact ⟨fun g=>absurd g z,e⟩
  have j:∀ b,Tk fu self x d i b=some (0,k)→(x.Kind=1→0≤x.N∧x.N≤999999999999999)∧(x.Kind=2→x.N=0∨x.N=1)∧(x.Kind=3∨x.Kind=20∨ng x.Kind<0→kh fu x.Name=some true)∧∃ m c,Cj self x d m (0:Nat) c=some (0,k):=by
   intro b h;rw [Tk] at h;split at h
   ·cases h
   ·rw [Zx,da] at h;split at h
    ·split at h
     ·obtain ⟨a,-⟩:=f _ h;cases a
     ·rename_i z;obtain ⟨a,e⟩:=f _ h;have:=of_decide_eq_false a;exact ⟨fun _=>⟨by omega,by omega⟩,e⟩
    ·rename_i z;obtain ⟨-,e⟩:=f _ h;exact ⟨fun g=>absurd g z,e⟩
  split at h<;>exact j _ h
end
theorem ZB:∀ (j n:Nat) (x:hb) (node d k:Int),30+j≤n→jh j x→(Kg n).Qh node x d=some (0,k)→yk j x
 | 0,n,x,node,d,k,f,h,g=>h.elim
 | j+1,n,x,node,d,k,f,h,g=>by
  obtain ⟨Qb,l,a,o⟩:=h;obtain ⟨n,rfl⟩:∃ q,n=q+1:=⟨n - 1,by omega⟩;obtain ⟨p,r,s,m,c,t⟩:=MF (show Qh n (Kg n) node x d=some (0,k) from g);refine ⟨Qb,l,a,p,r,fun q=>Tt (by omega) (s ?_),fun y b=>?_⟩
  ·rcases q with q | q | q | q
   ·exact .inl q
   ·exact .inr (.inl q)
   ·rw [q];exact .inr (.inr (by decide))
   ·rw [q];exact .inr (.inr (by decide))
  ·obtain ⟨i,u,rfl⟩:=List.getElem_of_mem b;obtain ⟨Fc,v,w,e⟩:=iE m 0 c a.le t i u (Nat.zero_le _);exact ZB j n _ Fc v w (by omega) (o _ b) e
section
variable {fu:Nat}{self:vm}{x:cb}{d node k:Int}
theorem KD {l:List cb}:∀ (m i:Nat) (c:Int),l.length≤50→Nn self l d m i c=some (0,k)→∀ j (a:j<l.length),i≤j→∃ Fc b,self.ej Fc l[j] d=some (0,b):=by
 intro m
 induction m with
 | zero=>intro i c _ h; cases h
 | succ m e =>
  intro i c za h j a p;rw [Nn,if_pos (by omega),od,List.getElem?_eq_getElem (show i<l.length by omega),da] at h;obtain ⟨r,f,h⟩:=Kf h;by_cases z:r.1≠0
  ·rw [if_pos z] at h;exact absurd (congrArg (fun o:Option (Int×Int)=>o.map (·.1)) h) (by simpa using z)
  ·rw [if_neg z,Ib (by omega),da] at h;by_cases q:j=i
   ·subst q;obtain ⟨g,n⟩:=r;obtain rfl:g=0:=Decidable.not_not.1 z;exact ⟨c,n,f⟩
   ·exact e (i+1) r.2 za h j a (by omega)
theorem PA {l:List cb}(za:l.length≤50) (h:tg self node l d=some (0,k)):∀ y ∈ l,∃ Fc a,self.ej Fc y d=some (0,a):=by
 intro y b;obtain ⟨j,c,rfl⟩:=List.getElem_of_mem b;rw [tg] at h;split at h
 ·cases h
 ·exact KD _ 0 _ za h j c (Nat.zero_le _)
theorem fA {c:Int}(h:Un self x d c=some (0,k)):x.Kind=3→∃ Fc b f,self.tg Fc x.Qd b=some (0,f):=by
 intro g;rw [Un,if_pos g] at h;obtain ⟨b,-,h⟩:=Kf h;obtain ⟨r,e,h⟩:=Kf h;obtain ⟨i,j⟩:=r;obtain ⟨a,-⟩:=Prod.mk.inj (Option.some.inj h);have a:i=0:=a;subst a;exact ⟨_,_,_,e⟩
theorem gA {f:Int×Int}{b:Bool}(h:Vn self x d f b=some (0,k)):(b=true→∃ Fc a c,self.tg Fc x.Body a=some (0,c))∧(x.Kind=3→∃ Fc a c,self.tg Fc x.Qd a=some (0,c)):=by
 rw [Vn] at h;split at h
 ·obtain ⟨a,-,h⟩:=Kf h;obtain ⟨r,e,h⟩:=Kf h;split at h
  ·rename_i z;exact absurd (congrArg (fun o:Option (Int×Int)=>o.map (·.1)) h) (by simpa using z)
  ·rename_i z;obtain ⟨i,j⟩:=r;obtain rfl:i=0:=Decidable.not_not.1 z;exact ⟨fun _=>⟨_,_,_,e⟩,fA h⟩
 ·rename_i q;exact ⟨fun g=>absurd g q,fA h⟩
theorem NF (h:ej fu self node x d=some (0,k)):(x.Kind=1∨x.Kind=2∨x.Kind=7→kh fu x.Name=some true)∧(x.Kind≠6→(∃ Fc a c,(Kg fu).Qh Fc x.X a=some (0,c))∧(x.Kind=3∨x.Kind=4→∃ Fc a c,self.tg Fc x.Body a=some (0,c))∧(x.Kind=3→∃ Fc a c,self.tg Fc x.Qd a=some (0,c))):=by
 rw [ej] at h;obtain ⟨j,-,h⟩:=Kf h;split at h
 ·rename_i z;exact absurd (congrArg (fun o:Option (Int×Int)=>o.map (·.1)) h) (by simpa using z)
 ·have l:∀ b,Al fu self x d j b=some (0,k)→b=false∧(x.Kind≠6→(∃ Fc a c,(Kg fu).Qh Fc x.X a=some (0,c))∧(x.Kind=3∨x.Kind=4→∃ Fc a c,self.tg Fc x.Body a=some (0,c))∧(x.Kind=3→∃ Fc a c,self.tg Fc x.Qd a=some (0,c))):=by
   intro b h;rw [Al] at h;split at h
   ·cases h
   ·rename_i q;refine ⟨by simpa using q,fun m=>?_⟩;rw [if_neg m] at h;obtain ⟨a,-,h⟩:=Kf h;obtain ⟨r,e,h⟩:=Kf h;split at h
    ·rename_i z;exact absurd (congrArg (fun o:Option (Int×Int)=>o.map (·.1)) h) (by simpa using z)
    ·rename_i z;obtain ⟨n,u⟩:=r;obtain rfl:n=0:=Decidable.not_not.1 z;refine ⟨⟨_,_,_,e⟩,?_⟩;split at h
     ·rename_i p;obtain ⟨f,i⟩:=gA h;exact ⟨fun _=>f rfl,i⟩
     ·rename_i p;obtain ⟨f,i⟩:=gA h;exact ⟨fun g=>f (decide_eq_true (by omega)),i⟩
  have s:∀ b,mm fu self x d j b=some (0,k)→(x.Kind=1∨x.Kind=2∨x.Kind=7→kh fu x.Name=some true)∧(x.Kind≠6→(∃ Fc a c,(Kg fu).Qh Fc x.X a=some (0,c))∧(x.Kind=3∨x.Kind=4→∃ Fc a c,self.tg Fc x.Body a=some (0,c))∧(x.Kind=3→∃ Fc a c,self.tg Fc x.Qd a=some (0,c))):=by
   intro b h;rw [mm] at h;have N:(Option.bind (kh fu x.Name) fun t=>Al fu self x d j (!t))=some (0,k)→(x.Kind=1∨x.Kind=2∨x.Kind=7→kh fu x.Name=some true)∧(x.Kind≠6→(∃ Fc a c,(Kg fu).Qh Fc x.X a=some (0,c))∧(x.Kind=3∨x.Kind=4→∃ Fc a c,self.tg Fc x.Body a=some (0,c))∧(x.Kind=3→∃ Fc a c,self.tg Fc x.Qd a=some (0,c))):=by
    intro h;obtain ⟨Te,e,h⟩:=Kf h;obtain ⟨f,i⟩:=l _ h;cases Te with
    | true=>exact ⟨fun _=>e,i⟩
    | false=>cases f
   split at h
   ·cases h
   ·split at h
    ·exact N h
    ·split at h
     ·exact N h
     ·split at h
      ·exact N h
      ·exact ⟨fun g=>by omega,(l _ h).2⟩
  split at h<;>exact s _ h
end
theorem aC:∀ (j n:Nat) (x:cb) (node d k:Int),60+3*j≤n→mj j x→(Xg n).ej node x d=some (0,k)→nj j x
 | 0,n,x,node,d,k,r,h,g=>h.elim
 | j+1,n,x,node,d,k,r,h,g=>by
  obtain ⟨Qb,s,t,u,v⟩:=h;obtain ⟨n,rfl⟩:∃ q,n=q+2:=⟨n - 2,by omega⟩;obtain ⟨w,i⟩:=NF (show ej (n+1) (Xg (n+1)) node x d=some (0,k) from g);have L:∀ (l:List cb) (Fc c f:Int),l.length≤50→(∀ y ∈ l,mj j y)→(Xg (n+1)).tg Fc l c=some (0,f)→∀ y ∈ l,nj j y:=by
   intro l Fc c f za z A y o;obtain ⟨c2,B,e⟩:=PA za (show tg (Xg n) Fc l c=some (0,f) from A) y o;exact aC j n y c2 c B (by omega) (z y o) e
  refine ⟨Qb,s,fun p=>?_,fun q=>Tt (by omega) (w q),fun q=>?_,fun q=>?_⟩
  ·obtain ⟨⟨Fc,c,f,e⟩,-⟩:=i p;exact ZB j (n+1) x.X Fc c f (by omega) (t p) e
  ·obtain ⟨a,b⟩:=u q;obtain ⟨-,m,-⟩:=i (by omega);obtain ⟨Fc,c,f,e⟩:=m q;exact ⟨a,L x.Body Fc c f a b e⟩
  ·obtain ⟨a,b⟩:=v q;obtain ⟨-,-,m⟩:=i (by omega);obtain ⟨Fc,c,f,e⟩:=m q;exact ⟨a,L x.Qd Fc c f a b e⟩
theorem Cy {fu:Nat}(a:20≤fu){t:pb}(h:cn fu t=some 0):yj t:=by
 obtain ⟨e,c,d⟩:=pw fu a t;rw [h] at c;obtain rfl:=Option.some.inj c;refine ⟨d rfl,fun f=>?_⟩;rw [cn] at h;have We:∀ b,cp fu t b=some 0→Ul t.Pa:=by
  intro b h;rw [cp] at h;split at h
  ·cases h
  ·obtain ⟨Te,e,h⟩:=Kf (by simpa only [if_pos f] using h);cases Te with
   | true=>exact Tt a e
   | false=>cases h
 split at h<;>exact We _ h
section
variable {fu:Nat}{x:na}{df:Int×Int}{k node:Int}
theorem vA (h:Yn fu x df=some (0,k)):(x.Kind=1→1≤x.oc∧x.oc≤20)∧(x.Kind≠1→∃ Fc c,(Xg fu).tg Fc x.Body 2=some (0,c)):=by
 rw [Yn] at h;split at h
 ·rename_i q;obtain ⟨r,e,h⟩:=Kf h;obtain ⟨d,f⟩:=r;obtain ⟨a,-⟩:=Prod.mk.inj (Option.some.inj h);have a:d=0:=a;subst a;exact ⟨fun g=>absurd g q,fun _=>⟨_,_,e⟩⟩
 ·rename_i q;have We:∀ b,Sq df b=some (0,k)→b=false:=by
   intro b h;cases b with
   | false=>rfl
   | true=>cases h
  split at h
  ·cases We _ h
  ·have:=of_decide_eq_false (We _ h);exact ⟨fun _=>⟨by omega,by omega⟩,fun g=>absurd g q⟩
theorem wA (a:20≤fu) (h:Zn fu x df=some (0,k)):(x.Kind≠4→yj x.Ja)∧(x.Kind=1→1≤x.oc∧x.oc≤20)∧(x.Kind≠1→∃ Fc b,(Xg fu).tg Fc x.Body 2=some (0,b)):=by
 rw [Zn] at h;split at h
 ·obtain ⟨r,e,h⟩:=Kf h;split at h
  ·rename_i z;exact absurd (congrArg (fun o:Option (Int×Int)=>o.map (·.1)) h) (by simpa using z)
  ·rename_i z;obtain rfl:r=0:=Decidable.not_not.1 z;exact ⟨fun _=>Cy a e,vA h⟩
 ·rename_i q;exact ⟨fun g=>absurd g q,vA h⟩
theorem KE (a:20≤fu) (h:om fu x df=some (0,k)):(x.Kind=3→yj x.eb)∧(x.Kind≠4→yj x.Ja)∧(x.Kind=1→1≤x.oc∧x.oc≤20)∧(x.Kind≠1→∃ Fc b,(Xg fu).tg Fc x.Body 2=some (0,b)):=by
 rw [om] at h;split at h
 ·obtain ⟨r,e,h⟩:=Kf h;split at h
  ·rename_i z;exact absurd (congrArg (fun o:Option (Int×Int)=>o.map (·.1)) h) (by simpa using z)
  ·rename_i z;obtain rfl:r=0:=Decidable.not_not.1 z;exact ⟨fun _=>Cy a e,wA a h⟩
 ·rename_i q;exact ⟨fun g=>absurd g q,wA a h⟩
theorem ME (c:20≤fu) (za:x.Params.length≤6):∀ (m i:Nat),i≤x.Params.length→ao fu x df m i=some (0,k)→(∀ j (a:j<x.Params.length),i≤j→Ul x.Params[j].Name∧yj x.Params[j].Ja)∧om fu x df=some (0,k):=by
 intro m
 induction m with
 | zero=>intro i _ h; cases h
 | succ m d =>
  intro i p h;rw [ao] at h;by_cases q:i<x.Params.length
  ·rw [if_pos (by omega),od,List.getElem?_eq_getElem q,da] at h;obtain ⟨b,ma,h⟩:=Kf h;cases b with
   | false=>cases h
   | true =>
    rw [if_pos rfl] at h;obtain ⟨r,f,h⟩:=Kf h;by_cases z:r≠0
    ·rw [if_pos z] at h;exact absurd (congrArg (fun o:Option (Int×Int)=>o.map (·.1)) h) (by simpa using z)
    ·rw [if_neg z,Ib (by omega),da] at h;obtain rfl:r=0:=Decidable.not_not.1 z;obtain ⟨g,l⟩:=d (i+1) q h;refine ⟨fun j a n=>?_,l⟩;by_cases e:j=i
     ·subst e;exact ⟨Tt c ma,Cy c f⟩
     ·exact g j a (by omega)
  ·rw [if_neg (by omega)] at h;exact ⟨fun j a n=>by omega,h⟩
theorem tH (C:300≤fu) (ok:Mk x) (h:np fu node x=some (0,k)):zk x:=by
 rw [np] at h;obtain ⟨f,-,h⟩:=Kf h;split at h
 ·rename_i z;exact absurd (congrArg (fun o:Option (Int×Int)=>o.map (·.1)) h) (by simpa using z)
 ·have fin:Ul x.Name→(x.Kind=2∨x.Kind=3→x.Params.length≤6∧∀ q ∈ x.Params,Ul q.Name∧yj q.Ja)→om fu x f=some (0,k)→zk x:=by
   intro d m h;obtain ⟨a,b,c,e⟩:=KE (by omega) h;refine ⟨ok.Qb,ok.De,d,m,a,b,c,fun Qb=>⟨ok.Nd Qb,fun y i=>?_⟩⟩;obtain ⟨Fc,p,r⟩:=e Qb;obtain ⟨n,rfl⟩:∃ q,fu=q+1:=⟨fu - 1,by omega⟩;obtain ⟨c2,s,t⟩:=PA (ok.Nd Qb) (show tg (Xg n) Fc x.Body 2=some (0,p) from r) y i;exact aC 39 n y c2 2 s (by omega) (ok.fk Qb y i) t
  have l:∀ b,(b=true ↔ x.Kind=2∨x.Kind=3)→Ul x.Name→bo fu x f b=some (0,k)→zk x:=by
   intro b g d h;rw [bo] at h;split at h
   ·rename_i q;split at h
    ·cases h
    ·rename_i z;obtain ⟨u,v⟩:=ME (by omega) (by omega) _ 0 (Nat.zero_le _) h;exact fin d (fun _=>⟨by omega,fun q w=>by
      obtain ⟨j,A,rfl⟩:=List.getElem_of_mem w;exact u j A (Nat.zero_le _)⟩) v
   ·rename_i q;exact fin d (fun z=>absurd (g.2 z) q) h
  have B:∀ b,qm fu x f b=some (0,k)→zk x:=by
   intro b h;rw [qm] at h;split at h
   ·cases h
   ·obtain ⟨Te,e,h⟩:=Kf h;cases Te with
    | false=>cases h
    | true =>
     rw [if_pos rfl] at h;split at h
     ·rename_i q;exact l _ (by simp [q]) (Tt (by omega) e) h
     ·rename_i q;exact l _ (by simp [q]) (Tt (by omega) e) h
  split at h<;>exact B _ h
end
theorem uH {fu:Nat}(g:300≤fu){l:List na}{f:Oc}(h:kp fu l=some f) (b:f.gg=0):l.length≤30∧∀ x ∈ l,zk x:=by
 obtain ⟨s,d,k⟩:=Rv fu (by omega) l;rw [h] at d;obtain rfl:=Option.some.inj d;obtain ⟨-,ok⟩:=k b;have za:=ok.le;refine ⟨za,?_⟩;rw [kp,if_neg (by omega)] at h;have L:∀ (m i:Nat) (c:Int),On fu l m i c=some f→∀ j (a:j<l.length),i≤j→zk l[j]:=by
  intro m
  induction m with
  | zero=>intro i c h; cases h
  | succ m n =>
   intro i c h j a t;rw [On,if_pos (by omega),od,List.getElem?_eq_getElem (show i<l.length by omega),da] at h;obtain ⟨r,e,h⟩:=Kf h;by_cases z:r.1≠0
   ·rw [if_pos z] at h;rw [← Option.some.inj h] at b;exact absurd b z
   ·rw [if_neg z,Ib (by omega),da] at h;by_cases q:j=i
    ·subst q;obtain ⟨o,u⟩:=r;obtain rfl:o=0:=Decidable.not_not.1 z;exact tH g (ok.ok _ (List.getElem_mem _)) e
    ·exact n (i+1) r.2 h j a (by omega)
 intro x p;obtain ⟨j,a,rfl⟩:=List.getElem_of_mem p;exact L _ 0 0 h j a (Nat.zero_le _)
end Go.Y
namespace Go.Y
open Go.pc Go.nd
def cm:List Hm:=[[98,111,120],[102,110],[103,101,110],[116,97,115,107],[116,97,107,101,115],[121,105,101,108,100,115],[108,101,116],[105,102],[101,108,115,101],[119,104,105,108,101],[114,101,116,117,114,110],[115,116,111,112],[115,101,110,100],[111,117,116],[100,111],[114,101,99,118],[121,105,101,108,100],[115,116,97,114,116],[114,101,115,117,109,101],[97,108,105,118,101],[110,117,109],[98,111,111,108],[116,114,117,101],[102,97,108,115,101],[97,110,100],[111,114],[110,111,116]]
def Qi (c:UInt8):Bool:=isLet c || Nl c
def nv:Hm→Bool
 | c::_=>isLet c
 | []=>true
def Df (w:Hm):Bool:=decide (0<w.length) && decide (w.length≤12) && nv w && w.all Qi && !cm.contains w
theorem mF (sub:List UInt8):∀ s:List UInt8,0≤Lib.index s sub ↔ ∃ i,i≤s.length∧sub.isPrefixOf (s.drop i)=true:=by
 intro s
 induction s with
 | nil =>
  simp only [Lib.index];cases sub with
  | nil=>simp
  | cons a l=>simp
 | cons b l j =>
  simp only [Lib.index];by_cases h:sub.isPrefixOf (b::l)=true
  ·rw [if_pos h];exact ⟨fun _=>⟨0,by simp,h⟩,fun _=>by omega⟩
  ·rw [if_neg h];have e:(0≤(if (Lib.index l sub == -1)=true then (-1:Int) else Lib.index l sub+1)) ↔ 0≤Lib.index l sub:=by
    by_cases f:Lib.index l sub=-1
    ·simp [f]
    ·have k:(Lib.index l sub == -1)=false:=by simpa using f
     rw [k];simp only [Bool.false_eq_true,if_false];have:-1≤Lib.index l sub:=by
      clear j f k h
      induction l with
      | nil=>simp only [Lib.index]; split <;> omega
      | cons c l m =>
       simp only [Lib.index];split
       ·omega
       ·split
        ·omega
        ·have:=m;omega
     omega
   rw [e,j];constructor
   ·rintro ⟨i,g,d⟩;exact ⟨i+1,by simpa using g,by simpa using d⟩
   ·rintro ⟨i,g,d⟩;cases i with
    | zero=>exact absurd (by simpa using d) h
    | succ i=>exact ⟨i,by simpa using g,by simpa using d⟩
theorem nF:∀ i,i<Am.length→(Am.drop i).head?=some 32→((Am.drop (i+1)).takeWhile (fun c=>c != 32)) ∈ cm∨(Am.drop (i+1)).takeWhile (fun c=>c != 32)=[]:=by decide +kernel
theorem BG:∀ w ∈ cm,Lib.contains Am (32::w++[32])=true:=by decide +kernel
theorem bC (l r:List UInt8) (h:∀ c ∈ l,c≠32):(l++32::r).takeWhile (fun c=>c != 32)=l:=by
 induction l with
 | nil=>simp
 | cons c l a =>
  have b:=h c (by simp);rw [List.cons_append,List.takeWhile_cons];simp only [bne_iff_ne,ne_eq,b,not_false_eq_true,if_true];rw [a fun d Ba=>h d (by simp [Ba])]
theorem CG {l:List UInt8}(d:l≠[]) (hw:∀ c ∈ l,c≠32):Lib.contains Am (32::l++[32])=cm.contains l:=by
 rw [Bool.eq_iff_iff];constructor
 ·intro h;have e:=(mF _ _).1 (of_decide_eq_true h);obtain ⟨i,k,f⟩:=e;obtain ⟨r,a⟩:=List.isPrefixOf_iff_prefix.1 f;have g:i<Am.length:=by
   rcases Nat.lt_or_ge i Am.length with h | h
   ·exact h
   ·rw [List.drop_eq_nil_of_le h] at a;simp at a
  have b:Am.drop (i+1)=l++32::r:=by
   have:=congrArg List.tail a;simpa using this.symm
  have j:(Am.drop i).head?=some 32:=by rw [← a];rfl
  rcases nF i g j with h | h
  ·rw [b,bC l r hw] at h;simpa using h
  ·rw [b,bC l r hw] at h;exact absurd h d
 ·intro h;exact BG l (by simpa using h)
theorem vH {l:List UInt8}(h:l.all Qi=true):∀ c ∈ l,c≠32:=by
 intro c a e;subst e;exact absurd (List.all_eq_true.1 h 32 a) (by decide)
theorem UI (c:UInt8):ym c=some (Qi c):=by
 rw [ym,sB,da,Qi];cases h:isLet c with
 | true=>rfl
 | false=>rw [if_neg (by decide),AG,da,Bool.false_or]
theorem OF (w:Hm) (hw:w.length≤12):∀ (m i:Nat),i≤w.length→w.length<m+i→Dk w ym m i=some ((i+((w.drop i).takeWhile Qi).length:Nat):Int):=by
 intro m
 induction m with
 | zero=>intro i a b; omega
 | succ m d =>
  intro i a b;rw [Dk];by_cases c:i<w.length
  ·rw [if_pos (by omega),od,List.getElem?_eq_getElem c,da,UI,da,Tn,List.drop_eq_getElem_cons c,List.takeWhile_cons];cases h:Qi w[i] with
   | true =>
    rw [if_pos rfl,Ib (by omega),da,show ((i:Int)+1)=((i+1:Nat):Int) from rfl,d (i+1) (by omega) (by omega)];simp;omega
   | false=>simp
  ·rw [if_neg (by omega),Tn,if_neg (by decide),List.drop_eq_nil_of_le (by omega)];simp
theorem wC (l:Hm):decide (((l.takeWhile Qi).length:Int)=(l.length:Int))=l.all Qi:=by
 induction l with
 | nil=>rfl
 | cons c l a =>
  rw [List.all_cons,List.takeWhile_cons];cases h:Qi c with
  | false=>simp; omega
  | true =>
   rw [Bool.true_and,← a];simp only [if_true,List.length_cons];exact decide_eq_decide.2 (by omega)
theorem vu {fu:Nat}(i:20≤fu) (w:Hm):kh fu w=some (Df w):=by
 have bad:Bk fu w true=some false:=rfl;rw [kh];by_cases b:(w.length:Int)<1
 ·rw [if_pos b,bad,Df,decide_eq_false (by omega)];rfl
 rw [if_neg b];by_cases d:(12:Int)<w.length
 ·rw [if_pos d,bad,Df,decide_eq_false (show ¬ w.length≤12 by omega)];simp
 rw [if_neg d];cases w with
 | nil=>simp at b
 | cons c u =>
  rw [Fo (by simp),da];show Option.bind (hp c) _=_;rw [sB,da];cases e:isLet c with
  | false =>
   rw [if_neg (by decide),bad,Df,nv,e];simp
  | true =>
   have za:(c::u).length≤12:=by omega
   have ma:cat [32] (c::u)=some (32::c::u):=if_pos (by simp at za ⊢;omega);have g:cat (32::c::u) [32]=some (32::(c::u)++[32]):=if_pos (by simp at za ⊢;omega);rw [if_pos rfl,ma,da,g,da,Zu,if_pos (by decide +kernel),da];have h:Df (c::u)=((c::u).all Qi && !cm.contains (c::u)):=by
    rw [Df,nv,e,decide_eq_true (by simp),decide_eq_true za];simp
   rw [h];have f:hr fu (c::u) ym=some ((((c::u).takeWhile Qi).length:Nat):Int):=by
    rw [hr,show (0:Int)=((0:Nat):Int) from rfl,OF _ za fu 0 (by omega) (by omega)];simp
   by_cases a:(c::u).all Qi=true
   ·rw [CG (by simp) (vH a),a,Bool.true_and];cases j:cm.contains (c::u) with
    | true=>rfl
    | false=>rw [Bk,if_neg (by decide),f,da,wC,a]; rfl
   ·have a:(c::u).all Qi=false:=by simpa using a
    rw [a,Bool.false_and];cases Lib.contains Am (32::(c::u)++[32]) with
    | true=>rfl
    | false=>rw [Bk,if_neg (by decide),f,da,wC,a]
def cls (c:UInt8):Int:=if isLet c then 1 else if Nl c then 2 else if c.toNat=32∨c.toNat=9∨c.toNat=10 then 3 else if c.toNat=35 then 4 else 5
theorem DG (c:UInt8):Iu c=some (cls c):=by
 have e:isLet c=decide (97≤c.toNat∧c.toNat≤122∨c.toNat=95):=rfl;have f:Nl c=decide (48≤c.toNat∧c.toNat≤57):=rfl;have d:∀ b,b=decide (c.toNat=32∨c.toNat=9∨c.toNat=10)→Nq c b=some (if c.toNat=32∨c.toNat=9∨c.toNat=10 then 3 else if c.toNat=35 then 4 else 5):=by
  intro b a;rw [Nq,a];by_cases h:c.toNat=32∨c.toNat=9∨c.toNat=10
  ·rw [decide_eq_true h,if_pos rfl,if_pos h]
  ·rw [decide_eq_false h,if_neg (by decide),if_neg h];by_cases g:c.toNat=35
   ·rw [if_pos (by omega),if_pos g]
   ·rw [if_neg (by omega),if_neg g]
 have i:∀ b,b=Nl c→Hs c b=some (if Nl c then 2 else if c.toNat=32∨c.toNat=9∨c.toNat=10 then 3 else if c.toNat=35 then 4 else 5):=by
  intro b a;rw [Hs,a];cases Nl c with
  | true=>rfl
  | false =>
   simp only [Bool.false_eq_true,if_false];by_cases l:c.toNat=32
   ·rw [if_pos (show ((c.toNat:Int)=32) by omega),d _ (decide_eq_true (.inl l)).symm]
   rw [if_neg (show ¬ ((c.toNat:Int)=32) by omega)];by_cases m:c.toNat=9
   ·rw [if_pos (show ((c.toNat:Int)=9) by omega),d _ (decide_eq_true (.inr (.inl m))).symm]
   rw [if_neg (show ¬ ((c.toNat:Int)=9) by omega),d _ (decide_eq_decide.2 (by omega))]
 have j:∀ b,b=isLet c→Is c b=some (cls c):=by
  intro b a;rw [Is,a,cls];cases isLet c with
  | true=>rfl
  | false =>
   simp only [Bool.false_eq_true,if_false];by_cases h:(48:Int)≤(c.toNat:Int)
   ·rw [if_pos h,i _ (by rw [f];exact decide_eq_decide.2 (by omega))]
   ·rw [if_neg h,i _ (by rw [f];exact (decide_eq_false (by omega)).symm)]
 rw [Iu];have k:∀ b,b=decide (97≤c.toNat∧c.toNat≤122)→Js c b=some (cls c):=by
  intro b a;rw [Js,a];by_cases h:97≤c.toNat∧c.toNat≤122
  ·rw [decide_eq_true h,if_pos rfl,j true (by rw [e];exact (decide_eq_true (.inl h)).symm)]
  ·rw [decide_eq_false h,if_neg (by decide),j _ (by rw [e];exact decide_eq_decide.2 (by omega))]
 by_cases h:(97:Int)≤(c.toNat:Int)
 ·rw [if_pos h,k _ (decide_eq_decide.2 (by omega))]
 ·rw [if_neg h,k _ (decide_eq_false (by omega)).symm]
theorem pI (w:Hm):Vu w=some (cm.contains w):=by
 have L:∀ (m i:Nat),i≤27→27<m+i→qt w m i=some ((cm.drop i).contains w):=by
  intro m
  induction m with
  | zero=>intro i b d; omega
  | succ m f =>
   intro i b d;rw [qt];by_cases c:i<27
   ·have hlen:cm.length=27:=rfl;have a:i<cm.length:=by omega
    rw [if_pos (by omega)];show Option.bind (at_ cm (i:Int)) _=_;rw [od,List.getElem?_eq_getElem a,da,List.drop_eq_getElem_cons a,List.contains_cons];by_cases e:cm[i]=w
    ·rw [if_pos e,e];simp
    ·have g:(w == cm[i])=false:=by simpa using Ne.symm e
     rw [if_neg e,Ib (by omega),da,g,Bool.false_or];exact f (i+1) (by omega) (by omega)
   ·rw [if_neg (by omega),List.drop_eq_nil_of_le (by show 27≤i;omega)];rfl
 rw [Vu];exact L 28 0 (by omega) (by omega)
theorem Du (w:Hm):Wk w=some (Df w):=by
 have l:∀ c,(cls c=1 ↔ isLet c=true)∧(isLet c=false→(cls c=2 ↔ Nl c=true)):=by
  intro c;unfold cls;cases isLet c<;>cases Nl c<;>simp;split
  ·decide
  ·split<;>decide
 have small:∀ c,Qi c=true→c.toNat<128:=by
  intro c h;unfold Qi isLet Nl at h;simp at h;omega
 have L:∀ (m q:Nat),q≤w.length→w.length<m+q→(w.take q).all Qi=true→(0<q→nv w=true)→Pm w m q=some (Df w):=by
  intro m
  induction m with
  | zero=>intro q n o; omega
  | succ m r =>
   intro q n o b g;rw [Pm];by_cases c:q<w.length
   ·rw [if_pos c,od,List.getElem?_eq_getElem c,da,DG,da];obtain ⟨Qb,i⟩:=l w[q];have bad:Df w=false→Qp w q (Pm w m) true=some (Df w):=fun h=>by rw [h];rfl
    have j:Qi w[q]=true→(q=0→isLet w[q]=true)→Qp w q (Pm w m) false=some (Df w):=by
     intro hw f;rw [Qp,if_neg (by decide)];have e:wd w q=1:=by
      show (Utf8.decode ⟨⟨w⟩⟩ q).2=1;rw [decode_ascii ⟨⟨w⟩⟩ q c (small _ hw)]
     rw [e];refine r (q+1) (by omega) (by omega) ?_ fun _=>?_
     ·rw [List.take_succ_eq_append_getElem c,List.all_append,b];simp [hw]
     ·rcases Nat.eq_zero_or_pos q with h | h
      ·subst h;cases w with
       | nil=>rfl
       | cons d u=>exact f rfl
      ·exact g h
    have ja:Qi w[q]=false→Df w=false:=fun h=>by
     have:w.all Qi=false:=List.all_eq_false.2 ⟨_,List.getElem_mem c,by simp [h]⟩;rw [Df,this];simp
    by_cases a:cls w[q]=1
    ·rw [if_neg (by simpa using a)];have:=Qb.1 a;exact j (by rw [Qi,this];rfl) fun _=>this
    ·rw [if_pos a];have za:isLet w[q]=false:=by
      cases h:isLet w[q] with
      | false=>rfl
      | true=>exact absurd (Qb.2 h) a
     by_cases c2:cls w[q]=2
     ·have Ba:=(i za).1 c2;rw [if_neg (by simpa using c2)];by_cases k:q=0
      ·rw [decide_eq_true (by omega)];refine bad ?_;subst k;cases w with
       | nil=>simp at c
       | cons d u =>
        have:isLet d=false:=za;rw [Df,nv,this];simp
      ·rw [decide_eq_false (by omega)];exact j (by rw [Qi,Ba];simp) fun h=>absurd h k
     ·rw [if_pos c2];refine bad (ja ?_);have:Nl w[q]=false:=by
       cases h:Nl w[q] with
       | false=>rfl
       | true=>exact absurd ((i za).2 h) c2
      rw [Qi,za,this];rfl
   ·have f:q=w.length:=by omega
    subst f;rw [List.take_length] at b;rw [if_neg c];by_cases p:(0:Int)<(w.length:Int)
    ·rw [if_pos p];by_cases Tb:(w.length:Int)≤12
     ·rw [if_pos Tb,pI,da,Df,b,g (by omega),decide_eq_true (by omega),decide_eq_true (by omega)];simp
     ·rw [if_neg Tb,Df,decide_eq_false (show ¬ w.length≤12 by omega)];simp
    ·rw [if_neg p,Df,decide_eq_false (by omega)];simp
 rw [Wk];exact L (w.length+1) 0 (by omega) (by omega) (by simp) (by omega)
end Go.Y
namespace Go.Y
open Go.pc Go.nd
theorem iu {α β:Type}{f:α→Option β}:Option.bind (none:Option α) f=none:=rfl
theorem Qy (k d:Int):(i64 (k+1)=none∧en k d=none∧Vk k d=none)∨(∃ i,en k d=some (false,i)∧Vk k d=some (4,i))∨(∃ i,en k d=some (true,i)∧Vk k d=some (0,i)):=by
 cases h:i64 (k+1) with
 | none=>exact .inl ⟨rfl,by rw [en,h,iu],by rw [Vk,h,iu]⟩
 | some i =>
  rw [en,Vk,h,da,da];by_cases c:i≤2000
  ·rw [if_pos c,if_neg (by omega)];by_cases c2:d≤40
   ·rw [decide_eq_true c2,decide_eq_false (by omega)];exact .inr (.inr ⟨i,rfl,rfl⟩)
   ·rw [decide_eq_false c2,decide_eq_true (by omega)];exact .inr (.inl ⟨i,rfl,rfl⟩)
  ·rw [if_neg c,if_pos (by omega)];exact .inr (.inl ⟨i,rfl,rfl⟩)
theorem oF {k:Int}(a:1≤k) (b:k≤24):Cw k=some (ng k):=by
 have:k=1∨k=2∨k=3∨k=4∨k=5∨k=6∨k=7∨k=8∨k=9∨k=10∨k=11∨k=12∨k=13∨k=14∨k=15∨k=16∨k=17∨k=18∨k=19∨k=20∨k=21∨k=22∨k=23∨k=24:=by omega
 rcases this with rfl | rfl | rfl | rfl | rfl | rfl | rfl | rfl | rfl | rfl | rfl | rfl | rfl | rfl | rfl | rfl | rfl | rfl | rfl | rfl | rfl | rfl | rfl | rfl<;>rfl
theorem PF {k:Int}(a:1≤k) (b:k≤24):ng k<0 ↔ k=19∨k=22:=by
 have:k=1∨k=2∨k=3∨k=4∨k=5∨k=6∨k=7∨k=8∨k=9∨k=10∨k=11∨k=12∨k=13∨k=14∨k=15∨k=16∨k=17∨k=18∨k=19∨k=20∨k=21∨k=22∨k=23∨k=24:=by omega
 rcases this with rfl | rfl | rfl | rfl | rfl | rfl | rfl | rfl | rfl | rfl | rfl | rfl | rfl | rfl | rfl | rfl | rfl | rfl | rfl | rfl | rfl | rfl | rfl | rfl<;>decide
theorem EG:∀ (n a:Nat) (x:hb) (d k:Int),62≤n+d→62≤a+d→0≤d→d≤41→(gn a).Gl k x d=(Kg n).Qh k x d:=by
 intro n
 induction n with
 | zero=>intro a x d k A B C D; omega
 | succ n E =>
  intro a x d k A B C D;obtain ⟨a,rfl⟩:∃ m,a=m+1:=⟨a - 1,by omega⟩;show Gl (gn a) k x d=Qh n (Kg n) k x d;rw [Gl,Qh];rcases Qy k d with ⟨-,ma,e⟩ | ⟨i,ma,e⟩ | ⟨i,ma,e⟩
  ·rw [ma,e,iu,iu]
  ·rw [ma,e,da,da,if_neg (show ¬ ((false,i):Bool×Int).1=true by simp),if_pos (show ((4,i):Int×Int).1≠0 by simp)]
  ·rw [ma,e,da,da,if_pos rfl,if_neg (show ¬ ((0,i):Int×Int).1≠0 by simp)];by_cases Ba:d=41
   ·subst Ba;exfalso;rw [Vk] at e;cases h:i64 (k+1) with
    | none=>rw [h,iu] at e; cases e
    | some j =>
     rw [h,da,decide_eq_true (by decide)] at e;split at e<;>cases e
   have F:20≤n:=by omega
   have L:∀ (m:Nat) (j q:Int),Vs (gn a) x d m j q=Cj (Kg n) x d m j q:=by
    intro m
    induction m with
    | zero=>intro j q; rfl
    | succ m G =>
     intro j q;rw [Vs,Cj];split
     ·congr 1;funext y;rw [Ib (by omega),da,da,E a y (d+1) q (by omega) (by omega) (by omega) (by omega)];congr 1;funext r;split
      ·rfl
      ·congr 1;funext H;exact G H r.2
     ·rfl
   have p:∀ b,Tq (gn a) x d (true,i) b=Lm (Kg n) x d (0,i) b:=by
    intro b;cases b with
    | true=>rfl
    | false=>rw [Tq,Lm]; exact L _ _ _
   have t:∀ b,(b=false→1≤x.Kind∧x.Kind≤24)→Ws (gn a) x d (true,i) b=Tk n (Kg n) x d (0,i) b:=by
    intro b K;cases b with
    | true=>rfl
    | false =>
     obtain ⟨Qb,u⟩:=K rfl;have O:=UB x.Kind;have M:∀ b,dp (gn a) x d (true,i) b=zl (Kg n) x d (0,i) (ng x.Kind) b:=by
      intro b;cases b with
      | true=>rfl
      | false =>
       rw [dp,zl];simp only [Bool.false_eq_true,if_false];rw [oF Qb u,da];by_cases c:0≤ng x.Kind
       ·rw [if_pos c,if_pos c];by_cases c2:(x.Kids.length:Int)≠ng x.Kind
        ·rw [if_pos c2,decide_eq_true c2,p];rfl
        ·rw [if_neg c2,decide_eq_false c2,Mm,if_neg (by decide),if_neg (by omega),p,decide_eq_false (by omega)]
       ·rw [if_neg c,if_neg c,Mm,if_neg (by decide),if_pos (by omega),p]
     have f:Bl (gn a) x d (true,i) false=nk n (Kg n) x d (0,i) (ng x.Kind) false:=by
      have s:=PF Qb u;rw [Bl,nk];simp only [Bool.false_eq_true,if_false,Du,vu F,da,M];by_cases c3:x.Kind=3
      ·rw [if_pos c3,if_pos c3]
      rw [if_neg c3,if_neg c3];by_cases c20:x.Kind=20
      ·rw [if_pos c20,if_pos c20]
      rw [if_neg c20,if_neg c20];by_cases g:x.Kind=19
      ·rw [if_pos g,if_pos (s.2 (.inl g))]
      rw [if_neg g];by_cases l:x.Kind=22
      ·rw [if_pos l,if_pos (s.2 (.inr l))]
      rw [if_neg l,if_neg (fun h=>by rcases s.1 h with h | h;exact g h;exact l h)]
     have T:Bl (gn a) x d (true,i) true=some (3,i):=rfl;have v:Om n (Kg n) x d (0,i) (ng x.Kind) true=some (3,i):=rfl;have w:nk n (Kg n) x d (0,i) (ng x.Kind) true=some (3,i):=rfl;have z:Om n (Kg n) x d (0,i) (ng x.Kind) false=(if x.Kind=2 then (if x.N≠0 then nk n (Kg n) x d (0,i) (ng x.Kind) (decide (x.N≠1)) else nk n (Kg n) x d (0,i) (ng x.Kind) false) else nk n (Kg n) x d (0,i) (ng x.Kind) false):=rfl;rw [Ws,Tk];simp only [Bool.false_eq_true,if_false];rw [Zx,da];by_cases o:x.Kind=1
     ·rw [if_pos o,if_pos o,if_neg (show ¬ x.Kind=2 by omega)];by_cases Cb:x.N<0
      ·rw [if_pos Cb,if_pos Cb,T,v]
      rw [if_neg Cb,if_neg Cb];by_cases Tb:(999999999999999:Int)<x.N
      ·rw [if_pos Tb,decide_eq_true Tb,T,v]
      ·rw [if_neg Tb,decide_eq_false Tb,z,if_neg (show ¬ x.Kind=2 by omega),f]
     rw [if_neg o,if_neg o,z];by_cases c2:x.Kind=2
     ·rw [if_pos c2,if_pos c2];by_cases Cb:x.N<0
      ·rw [if_pos Cb,if_pos (by omega),decide_eq_true (by omega),T,w]
      rw [if_neg Cb];by_cases Wa:x.N≠0
      ·rw [if_pos Wa];by_cases Tb:(1:Int)<x.N
       ·rw [decide_eq_true Tb,decide_eq_true (by omega),T,w]
       ·rw [decide_eq_false Tb,decide_eq_false (by omega),f]
      ·rw [if_neg Wa,decide_eq_false (by omega),f]
     ·rw [if_neg c2,if_neg c2,f]
   by_cases c:x.Kind<1
   ·rw [if_pos c,if_pos c];exact t true (fun h=>by cases h)
   ·rw [if_neg c,if_neg c];exact t _ (fun h=>by have:=of_decide_eq_false h;omega)
theorem QF:∀ (n a:Nat) (l:List cb) (d k:Int),2*(42 - d)+65≤n→(42 - d)+65≤a→0≤d→d≤41→(wm a).Gk k l d=(Xg n).tg k l d:=by
 intro n
 induction n using Nat.strongRecOn with
 | _ n s =>
  intro a l d k D E F G;obtain ⟨n,rfl⟩:∃ m,n=m+2:=⟨n - 2,by omega⟩;obtain ⟨a,rfl⟩:∃ m,a=m+1:=⟨a - 1,by omega⟩;show Gk a (wm a) k l d=tg (Xg (n+1)) k l d;rw [Gk,tg];by_cases g:(50:Int)<(l.length:Int)
  ·rw [if_pos g,if_pos g]
  rw [if_neg g,if_neg g];have w:20≤n:=by omega
  have S:∀ (x:cb) (i k:Int) (K:Int→Int→Option (Int×Int)),((en k d).bind fun o=>if o.1=true then (if x.Kind<1 then Sp a (wm a) d i x o K true else Sp a (wm a) d i x o K (decide ((9:Int)<x.Kind))) else some (4,o.2)) =
    (ej n (Xg n) k x d).bind fun r=>if r.1≠0 then some (r.1,r.2) else (i64 (i+1)).bind fun j=>K j r.2:=by
   intro x i k K;rw [ej];have fin:∀ q:Int,((some ((0:Int),q):Option (Int×Int)).bind fun r=>if r.1≠0 then some (r.1,r.2) else (i64 (i+1)).bind fun j=>K j r.2)=(i64 (i+1)).bind fun j=>K j q:=fun q=>by rw [da,if_neg (by simp)]
   have bad:∀ e q:Int,e≠0→((some (e,q):Option (Int×Int)).bind fun r=>if r.1≠0 then some (r.1,r.2) else (i64 (i+1)).bind fun j=>K j r.2)=some (e,q):=fun e q h=>by rw [da,if_pos h]
   rcases Qy k d with ⟨-,ma,f⟩ | ⟨q,ma,f⟩ | ⟨q,ma,f⟩
   ·rw [ma,f];rfl
   ·rw [ma,f,da,da,if_neg (show ¬ ((false,q):Bool×Int).1=true by simp),if_pos (show ((4,q):Int×Int).1≠0 by simp),bad 4 q (by decide)]
   ·rw [ma,f,da,da,if_pos rfl,if_neg (show ¬ ((0,q):Int×Int).1≠0 by simp)];by_cases Ba:d=41
    ·subst Ba;exfalso;rw [Vk] at f;cases h:i64 (k+1) with
     | none=>rw [h,iu] at f; cases f
     | some j =>
      rw [h,da,decide_eq_true (by decide)] at f;split at f<;>cases f
    have t:∀ z:Int,Ks (wm a) d i x K z=(Un (Xg n) x d z).bind fun r=>if r.1≠0 then some (r.1,r.2) else (i64 (i+1)).bind fun j=>K j r.2:=by
     intro z;rw [Ks,Un];by_cases c3:x.Kind=3
     ·rw [if_pos c3,if_pos c3,Ib (by omega),da,da,s n (by omega) a x.Qd (d+1) z (by omega) (by omega) (by omega) (by omega)];cases (Xg n).tg z x.Qd (d+1) with
      | none=>rfl
      | some r=>rfl
     ·rw [if_neg c3,if_neg c3,fin]
    have u:∀ (r:Int×Int) b,Ls (wm a) d i x r K b=(Vn (Xg n) x d r b).bind fun r=>if r.1≠0 then some (r.1,r.2) else (i64 (i+1)).bind fun j=>K j r.2:=by
     intro r b;cases b with
     | false=>exact t r.2
     | true =>
      rw [Ls,Vn,if_pos rfl,if_pos rfl,Ib (by omega),da,da,s n (by omega) a x.Body (d+1) r.2 (by omega) (by omega) (by omega) (by omega)];cases (Xg n).tg r.2 x.Body (d+1) with
      | none=>rfl
      | some r' =>
       rw [da,da];by_cases c:r'.1≠0
       ·rw [if_pos c,if_pos c,bad _ _ c]
       ·rw [if_neg c,if_neg c];exact t r'.2
    have A:∀ b,Rp a (wm a) d i x (true,q) K b=(Al n (Xg n) x d (0,q) b).bind fun r=>if r.1≠0 then some (r.1,r.2) else (i64 (i+1)).bind fun j=>K j r.2:=by
     intro b;cases b with
     | true=>rfl
     | false =>
      rw [Rp,Al];simp only [Bool.false_eq_true,if_false];by_cases Sd:x.Kind=6
      ·rw [if_pos Sd,if_pos Sd,fin]
      rw [if_neg Sd,if_neg Sd,Ib (by omega),da,da,EG n a x.X (d+1) q (by omega) (by omega) (by omega) (by omega)];cases (Kg n).Qh q x.X (d+1) with
      | none=>rfl
      | some r' =>
       rw [da,da];by_cases c:r'.1≠0
       ·rw [if_pos c,if_pos c,bad _ _ c]
       ·rw [if_neg c,if_neg c];by_cases c3:x.Kind=3
        ·rw [if_pos c3,if_pos c3];exact u r' true
        ·rw [if_neg c3,if_neg c3];exact u r' _
    have v:∀ b,Sp a (wm a) d i x (true,q) K b=(mm n (Xg n) x d (0,q) b).bind fun r=>if r.1≠0 then some (r.1,r.2) else (i64 (i+1)).bind fun j=>K j r.2:=by
     intro b;cases b with
     | true=>rfl
     | false =>
      rw [Sp,mm];simp only [Bool.false_eq_true,if_false,Du,vu w,da,A];by_cases p:x.Kind=1
      ·rw [if_pos p,if_pos p]
      rw [if_neg p,if_neg p];by_cases c2:x.Kind=2
      ·rw [if_pos c2,if_pos c2]
      rw [if_neg c2,if_neg c2];by_cases Tf:x.Kind=7
      ·rw [if_pos Tf,if_pos Tf]
      ·rw [if_neg Tf,if_neg Tf]
    by_cases c:x.Kind<1
    ·rw [if_pos c,if_pos c];exact v true
    ·rw [if_neg c,if_neg c];exact v _
  have L:∀ (m:Nat) (j q:Int),Qm a (wm a) l d m j q=Nn (Xg (n+1)) l d m j q:=by
   intro m
   induction m with
   | zero=>intro j q; rfl
   | succ m B =>
    intro j q;rw [Qm,Nn];split
    ·congr 1;funext y;rw [S];show _=Option.bind (ej n (Xg n) q y d) _;congr 1;funext r;split
     ·rfl
     ·congr 1;funext C;exact B C r.2
    ·rfl
  exact L _ _ _
theorem Ry {fu:Nat}(a:20≤fu) (t:pb):kr t=cn fu t:=by
 rw [kr,cn];have We:∀ b,Us t b=cp fu t b:=by
  intro b;cases b with
  | true=>rfl
  | false =>
   rw [Us,cp];simp only [Bool.false_eq_true,if_false,Du,vu a,da];rfl
 rw [We,We]
theorem wH {fu:Nat}(p:200≤fu) (x:na) (k:Int):Wu fu k x=np fu k x:=by
 rw [Wu,np];rcases Qy k 1 with ⟨-,ma,a⟩ | ⟨q,ma,a⟩ | ⟨q,ma,a⟩
 ·rw [ma,a];rfl
 ·rw [ma,a,da,da,if_neg (show ¬ ((false,q):Bool×Int).1=true by simp),if_pos (show ((4,q):Int×Int).1≠0 by simp)]
 ·rw [ma,a,da,da,if_pos rfl,if_neg (show ¬ ((0,q):Int×Int).1≠0 by simp)];have e:∀ b,(b=false→1≤x.Kind∧x.Kind≤4)→At fu x (true,q) b=qm fu x (0,q) b:=by
   intro b g;cases b with
   | true=>rfl
   | false =>
    obtain ⟨Qb,De⟩:=g rfl;have j:tt fu x (true,q)=Yn fu x (0,q):=by
     rw [tt,Yn];by_cases c:x.Kind=1
     ·rw [if_pos c,if_neg (show ¬ x.Kind≠1 by omega)];have f:∀ b,jq fu x (true,q) b=Sq (0,q) b:=by
       intro b;cases b with
       | true=>rfl
       | false=>rw [jq]; simp only [Bool.false_eq_true,if_false]; rw [if_pos c]; rfl
      rw [f,f]
     ·rw [if_neg c,if_pos c,jq];simp only [Bool.false_eq_true,if_false];rw [if_neg c,QF fu fu x.Body 2 q (by omega) (by omega) (by omega) (by omega)]
    have l:vt fu x (true,q)=Zn fu x (0,q):=by
     rw [vt,Zn,Ry (by omega:20≤fu),j];by_cases c:x.Kind<4
     ·rw [if_pos c,if_pos (by omega)]
     ·rw [if_neg c,if_neg (by omega)]
    have d:xt fu x (true,q)=om fu x (0,q):=by
     rw [xt,om,Ry (by omega:20≤fu),l]
    have L:∀ (m:Nat) (i:Int),yt fu x (true,q) m i=ao fu x (0,q) m i:=by
     intro m
     induction m with
     | zero=>intro i; rfl
     | succ m n =>
      intro i;rw [yt,ao,d];simp only [Ry (by omega:20≤fu),Du,vu (by omega:20≤fu),da,n]
    have o:∀ b,zt fu x (true,q) b=bo fu x (0,q) b:=by
     intro b;cases b with
     | false=>exact d
     | true =>
      rw [zt,bo,L,d];try rfl
    rw [At,qm];simp only [Bool.false_eq_true,if_false,Du,vu (by omega:20≤fu),da,o]
  by_cases c:x.Kind<1
  ·rw [if_pos c,if_pos c];exact e true (fun h=>by cases h)
  ·rw [if_neg c,if_neg c];exact e _ (fun h=>by have:=of_decide_eq_false h;omega)
theorem RF {fu:Nat}(a:200≤fu) (l:List na):Ju fu l=kp fu l:=by
 rw [Ju,kp];have L:∀ (m:Nat) (i k:Int),Ms fu l m i k=On fu l m i k:=by
  intro m
  induction m with
  | zero=>intro i k; rfl
  | succ m b =>
   intro i k;rw [Ms,On];simp only [wH a,b]
 rw [L]
end Go.Y
namespace Go.Y
open Go.pc Go.nd
def wd (t:pb):List UInt8:=if t.Kind=1 then [110,117,109] else if t.Kind=2 then [98,111,111,108] else 61::t.Pa
theorem xC {w:List UInt8}(h:Ul w):w.length≤12:=by
 have h:=h 20 (Nat.le_refl _);rw [kh] at h;have bad:Bk 20 w true≠some true:=fun h=>by cases h
 split at h
 ·exact absurd h bad
 ·split at h
  ·exact absurd h bad
  ·omega
theorem mo {t:pb}(h:yj t):rk t=some (wd t):=by
 obtain ⟨⟨c,d⟩,b⟩:=h;rw [rk,wd];by_cases a:t.Kind=1
 ·rw [if_pos a,if_pos a]
 rw [if_neg a,if_neg a];by_cases c2:t.Kind=2
 ·rw [if_pos c2,if_pos c2]
 rw [if_neg c2,if_neg c2];have:=xC (b (by omega));rw [cat,if_pos (by simp;omega),da];rfl
def ql (t:pb):Prop:=ai t=t∧yj t
theorem yj.Gr {t:pb}(h:yj t):ql (ai t):=by
 obtain ⟨⟨a,b⟩,d⟩:=h;unfold ai;by_cases c:t.Kind≠3
 ·rw [if_pos c];refine ⟨?_,⟨a,b⟩,fun e=>absurd e c⟩;unfold ai;rw [if_pos c]
 ·rw [if_neg c];refine ⟨?_,⟨a,b⟩,d⟩;unfold ai;rw [if_neg c]
theorem nr {t:pb}(h:ll t):wd (ai t)=wd t:=by
 unfold ai;by_cases c:t.Kind≠3
 ·rw [if_pos c,wd,wd];dsimp only;obtain ⟨b,d⟩:=h;by_cases a:t.Kind=1
  ·rw [if_pos a,if_pos a]
  ·rw [if_neg a,if_neg a,if_pos (by omega),if_pos (by omega)]
 ·rw [if_neg c]
theorem ql.case {t:pb}(h:ql t):t=⟨1,[]⟩∨t=⟨2,[]⟩∨∃ g,t=⟨3,g⟩∧Ul g:=by
 obtain ⟨a,⟨c,d⟩,b⟩:=h;obtain ⟨k,g⟩:=t;dsimp only at c d b;have:k=1∨k=2∨k=3:=by omega
 rcases this with rfl | rfl | rfl
 ·exact .inl a.symm
 ·exact .inr (.inl a.symm)
 ·exact .inr (.inr ⟨g,rfl,b rfl⟩)
theorem nx:ql ⟨1,[]⟩:=⟨rfl,⟨by decide,by decide⟩,fun h=>absurd h (by decide)⟩
theorem Br:ql ⟨2,[]⟩:=⟨rfl,⟨by decide,by decide⟩,fun h=>absurd h (by decide)⟩
theorem Sy {a b:pb}(c:ql a) (d:ql b):wd a=wd b ↔ a=b:=by
 constructor
 ·intro h;rcases c.case with rfl | rfl | ⟨g,rfl,-⟩<;>rcases d.case with rfl | rfl | ⟨e,rfl,-⟩<;>simp [wd] at h ⊢;exact h
 ·rintro rfl;rfl
theorem tz (a b:pb):yi [(decide (a.Kind=b.Kind)),(decide (a.Pa=b.Pa))]=decide (a=b):=by
 obtain ⟨k,g⟩:=a;obtain ⟨c,d⟩:=b;simp [yi]
theorem Yw {t:pb}(h:ql t):∃ c:UInt8,at_ (wd t) 0=some c∧(((c.toNat:Int)=61) ↔ t.Kind=3):=by
 rcases h.case with rfl | rfl | ⟨g,rfl,-⟩
 ·exact ⟨110,rfl,by decide⟩
 ·exact ⟨98,rfl,by decide⟩
 ·exact ⟨61,rfl,by simp⟩
def z0:na:=na.mk 0 [] (pb.mk 0 []) (pb.mk 0 []) 0 ([]:List TParam) ([]:List cb)
def Bi (k:Int) (n:List UInt8):List na→na×Bool
 | []=>(z0,false)
 | d::t=>if d.Kind=k∧d.Name=n then (d,true) else Bi k n t
theorem FG {l:List na}(za:l.length≤1000) (k:Int) (n:List UInt8):∀ (m i:Nat),i≤l.length→l.length<m+i→ep l k n m i=some (Bi k n (l.drop i)):=by
 intro m
 induction m with
 | zero=>intro i b d; omega
 | succ m e =>
  intro i b d;rw [ep];by_cases c:i<l.length
  ·rw [if_pos (by omega),od,List.getElem?_eq_getElem c,da,List.drop_eq_getElem_cons c,Bi];have xb:(i64 ((i:Int)+1)).bind (fun i=>ep l k n m i)=some (Bi k n (l.drop (i+1))):=by
    rw [Ib (by omega),da];exact e (i+1) c (by omega)
   by_cases a:l[i].Kind=k
   ·rw [if_pos a,Xs];by_cases c2:l[i].Name=n
    ·rw [if_pos (by simpa using c2),if_pos ⟨a,c2⟩]
    ·rw [if_neg (by simpa using c2),if_neg (fun h=>c2 h.2)];exact xb
   ·rw [if_neg a,Xs,if_neg (by decide),if_neg (fun h=>a h.1)];exact xb
  ·rw [if_neg (by omega),List.drop_eq_nil_of_le (by omega)];rfl
theorem tB (k:Int) (n:List UInt8):∀ l:List na,(∃ d ∈ l,d.Kind=k∧d.Name=n∧Bi k n l=(d,true))∨((∀ d ∈ l,¬ (d.Kind=k∧d.Name=n))∧Bi k n l=(z0,false))
 | []=>.inr ⟨fun d h=>(by cases h),rfl⟩
 | a::l=>by
  rw [Bi];by_cases c:a.Kind=k∧a.Name=n
  ·rw [if_pos c];exact .inl ⟨a,List.mem_cons_self ..,c.1,c.2,rfl⟩
  ·rw [if_neg c];rcases tB k n l with ⟨d,b,e,f,g⟩ | ⟨b,e⟩
   ·exact .inl ⟨d,List.mem_cons_of_mem _ b,e,f,g⟩
   ·refine .inr ⟨fun d Ba=>?_,e⟩;rcases List.mem_cons.1 Ba with rfl | Ba
    ·exact c
    ·exact b d Ba
def Hp (o:Option na) (k:Int):na×Bool:=if Yi o k=true then (o.getD z0,true) else (z0,false)
structure Ctx (l:List na) (p:Pb):Prop where
 len:l.length≤30
 only:∀ n d,yb p.named n=some d→d ∈ l∧d.Name=n
 Df:∀ d ∈ l,yb p.named d.Name=some d
 Oj:∀ d ∈ l,zk d
theorem Ctx.find {l:List na}{p:Pb}(C:Ctx l p) (k:Int) (n:List UInt8):hn l k n=some (Hp (yb p.named n) k):=by
 have za:=C.len;have:=FG (l:=l) (by omega) k n (l.length+1) 0 (by omega) (by omega);rw [hn,show (0:Int)=((0:Nat):Int) from rfl,this,List.drop_zero];rcases tB k n l with ⟨d,a,b,e,f⟩ | ⟨a,b⟩
 ·have:=C.Df d a;rw [e] at this;rw [f,this,Hp,if_pos (Yy b)];rfl
 ·rw [b,Hp];by_cases c:Yi (yb p.named n) k=true
  ·obtain ⟨d,ma,g⟩:=rn c;obtain ⟨m1,m2⟩:=C.only _ _ ma;exact absurd ⟨g,m2⟩ (a d m1)
  ·rw [if_neg c]
def Nj (n:List UInt8):bg→Option pb
 | []=>none
 | m::B=>match Nj n B with
  | some t=>some t
  | none=>yb m n
def xq (n:List UInt8):List Vb→Option (List UInt8)
 | []=>none
 | v::V=>match xq n V with
  | some t=>some t
  | none=>if v.Name=n then some v.Word else none
theorem Jt (n:List UInt8) (m:List (List UInt8×pb)):∀ B:bg,Nj n (B++[m])=match yb m n with | some t=>some t | none=>Nj n B
 | []=>by
  rw [List.nil_append,Nj,Nj];cases yb m n<;>rfl
 | a::B=>by
  rw [List.cons_append,Nj,Jt n m B];cases h:yb m n with
  | some t=>rfl
  | none=>simp only; rw [Nj]
theorem Dy (n:List UInt8) (v:Vb):∀ V:List Vb,xq n (V++[v])=if v.Name=n then some v.Word else xq n V
 | []=>rfl
 | a::V=>by
  rw [List.cons_append,xq,Dy n v V];by_cases c:v.Name=n
  ·rw [if_pos c,if_pos c]
  ·rw [if_neg c,if_neg c,xq]
theorem Rx {p:Pb}{B:bg}(za:B.length≤100) (fu:Nat) (f:110≤fu) (d:na) (name:List UInt8):Wm fu p d B name=some (match Nj name B with | some t=>(t,true) | none=>(⟨0,[]⟩,false)):=by
 have L:∀ (n j:Nat),j≤B.length→j<n→Pn name B n ((j:Int) - 1)=some (match Nj name (B.take j) with | some t=>(t,true) | none=>(⟨0,[]⟩,false)):=by
  intro n
  induction n with
  | zero=>intro j a b; omega
  | succ n c =>
   intro j a b;rw [Pn];cases j with
   | zero=>rw [if_neg (by omega)]; rfl
   | succ j =>
    have e:((j+1:Nat):Int) - 1=(j:Int):=by omega
    rw [e,if_pos (by omega),od,List.getElem?_eq_getElem (show j<B.length by omega),da,List.take_succ_eq_append_getElem (by omega),Jt];cases h:yb B[j] name with
    | none =>
     rw [if_neg (by simp),Ib (by omega),da];exact c j (by omega) (by omega)
    | some t=>rfl
 rw [Wm,Ib (by omega),da,L fu B.length (by omega) (by omega),List.take_of_length_le (by omega)]
theorem gy {V:List Vb}{fu:Nat}(za:V.length<fu) (f:V.length≤4294967296) (name:List UInt8):lr fu V name=some (match xq name V with | some t=>(t,true) | none=>([],false)):=by
 have L:∀ (n j:Nat),j≤V.length→j<n→Ys V name n ((j:Int) - 1)=some (match xq name (V.take j) with | some t=>(t,true) | none=>([],false)):=by
  intro n
  induction n with
  | zero=>intro j a b; omega
  | succ n d =>
   intro j a b;rw [Ys];cases j with
   | zero=>rw [if_neg (by omega)]; rfl
   | succ j =>
    have e:((j+1:Nat):Int) - 1=(j:Int):=by omega
    rw [e,if_pos (by omega),od,List.getElem?_eq_getElem (show j<V.length by omega),da,da,List.take_succ_eq_append_getElem (by omega),Dy];by_cases c:V[j].Name=name
    ·rw [if_pos c,if_pos c]
    ·rw [if_neg c,if_neg c,Ib (by omega),da];exact d j (by omega) (by omega)
 rw [lr,Ib (by omega),da,L fu V.length (by omega) (by omega),List.take_of_length_le (by omega)]
structure Rel (B:bg) (V:List Vb):Prop where
 eq:∀ n,xq n V=(Nj n B).map wd
 ok:∀ n t,Nj n B=some t→ql t
theorem yk.ok:∀ (k:Nat) (x:hb),yk k x→jh k x
 | 0,_,h=>h
 | k+1,x,h=>⟨h.1,h.2.1,h.2.2.1,fun y a=>yk.ok k y (h.2.2.2.2.2.2 y a)⟩
end Go.Y
namespace Go.Y
open Go.pc Go.nd
theorem dh:¬ (false=true):=by decide
theorem cy:Sj=some ⟨1,[]⟩:=rfl
theorem Dx:Gi=some ⟨2,[]⟩:=rfl
def Ax (l:List na) (p:Pb) (d:na) (B:bg) (V:List Vb) (k:Nat):Prop:=∀ (x:hb) (n m:Nat),yk k x→3*k+110≤n→5*k+3100≤m→∃ t w e,(Ee n).rh p d B x=some (t,e)∧(mg m).Xj l d V x=some (w,e)∧(e=0→w=wd t∧ql t)
section
variable {l:List na}{p:Pb}{d:na}{B:bg}{V:List Vb}
theorem uB {k:Nat}(H:Ax l p d B V k){x y:hb}{i:Nat}{want:pb}(a:x.Kids[i]?=some y) (b:yk k y) (hw:yj want){n m:Nat}(r:3*k+111≤n) (hm:5*k+3102≤m):∃ e,(Ee n).ig p d B y want=some e∧(mg m).sh (i:Int) (wd want) l d V x=some e:=by
 obtain ⟨n,rfl⟩:∃ q,n=q+1:=⟨n - 1,by omega⟩;obtain ⟨m,rfl⟩:∃ q,m=q+2:=⟨m - 2,by omega⟩;obtain ⟨t,w,e,c,f,g⟩:=H y n m b (by omega) (by omega);have j:(mg (m+1)).xi (i:Int) l d V x=some (w,e):=by
  show xi (mg m) (i:Int) l d V x=_;rw [xi,od,a,da,f,da]
 refine ⟨if e=0∧t≠ai want then 9 else e,?_,?_⟩
 ·show ig (Ee n) p d B y want=_;rw [ig,c,da];dsimp only;by_cases z:e=0
  ·rw [if_pos z,rj,da,Ip,tz];by_cases q:t=ai want
   ·rw [decide_eq_true q,if_neg (show ¬ ((!true)=true) by decide),if_neg (fun h=>h.2 q)]
   ·rw [decide_eq_false q,if_pos (by decide),if_pos ⟨z,q⟩]
  ·rw [if_neg z,Ip,if_neg dh,if_neg (fun h=>z h.1)]
 ·show sh (mg (m+1)) (i:Int) (wd want) l d V x=_;rw [sh,j,da];dsimp only;by_cases z:e=0
  ·obtain ⟨rfl,o⟩:=g z;rw [if_pos z,ct];have iff:=Sy o hw.Gr;rw [nr hw.1] at iff;by_cases q:t=ai want
   ·rw [if_neg (by simpa using iff.2 q),if_neg (fun h=>h.2 q)]
   ·rw [if_pos (show decide (wd t≠wd want)=true from decide_eq_true fun h=>q (iff.1 h)),if_pos ⟨z,q⟩]
  ·rw [if_neg z,ct,if_neg dh,if_neg (fun h=>z h.1)]
theorem hz:yj ⟨1,[]⟩:=nx.2
theorem iz:yj ⟨2,[]⟩:=Br.2
theorem vB (C:Ctx l p) (G:aj p d B){k:Nat}(H:Ax l p d B V k){x:hb}(K:x.Kids.length≤6) (u:∀ y ∈ x.Kids,yk k y){kind:Int}(M:kind=2∨kind=3){n m:Nat}(N:3*k+112≤n) (hm:5*k+3103≤m) :
  ∃ a e g,(Ee n).sj p d B x kind=some (a,e)∧(mg m).El kind l x l d V x=some (g,e)∧(e=0→a=some g∧yb p.named x.Name=some g∧g.Kind=kind):=by
 obtain ⟨n,rfl⟩:∃ q,n=q+1:=⟨n - 1,by omega⟩;obtain ⟨m,rfl⟩:∃ q,m=q+1:=⟨m - 1,by omega⟩;show ∃ a e g,sj (Ee n) p d B x kind=_∧El (mg m) kind l x l d V x=_∧_;rw [sj,El,Sm,da,C.find,da,Hp];dsimp only;by_cases q:Yi (yb p.named x.Name) kind=true
 ·obtain ⟨g,s,v⟩:=rn q;obtain ⟨m1,m2⟩:=C.only _ _ s;have Oj:=C.Oj g m1;obtain ⟨O,w⟩:=Oj.qh (by omega);rw [if_pos q,if_pos q,if_pos rfl,s,da];dsimp only [Option.getD];by_cases c:(g.Params.length:Int)≠(x.Kids.length:Int)
  ·rw [decide_eq_true c,if_pos c,Fq,if_pos rfl];exact ⟨_,5,_,rfl,rfl,fun h=>absurd h (by decide)⟩
  ·rw [decide_eq_false c,if_neg c,Fq,if_neg dh];show ∃ a e b,(Option.bind (some g) _)=_∧_;rw [da];have L:∀ (q i:Nat),i≤g.Params.length→g.Params.length<q+i→∃ a e b,Qn (Ee n) x p d B (some g,Yi (some g) kind) g q i=some (a,e)∧Pq (mg m) l d V x (g,true) q i=some (b,e)∧(e=0→a=some b∧b=g):=by
    intro q
    induction q with
    | zero=>intro i o A; omega
    | succ q D =>
     intro i o A;rw [Qn,Pq];dsimp only;by_cases ci:i<g.Params.length
     ·have r:i<x.Kids.length:=by omega
      have ma:at_ g.Params (i:Int)=some g.Params[i]:=by rw [od,List.getElem?_eq_getElem ci]
      have E:at_ x.Kids (i:Int)=some x.Kids[i]:=by rw [od,List.getElem?_eq_getElem r]
      have t:=(w _ (List.getElem_mem ci)).2;obtain ⟨e,f,j⟩:=uB (n:=n) (m:=m) H (List.getElem?_eq_getElem r) (u _ (List.getElem_mem r)) t (by omega) (by omega);rw [if_pos (by omega),if_pos (by omega),ma,da,E,da,da,f,da,mo t,da,j,da,Ov];by_cases z:e=0
      ·rw [if_neg (by simpa using z),if_neg (by simpa using z),Ib (by omega),da,da];exact D (i+1) (by omega) (by omega)
      ·rw [if_pos z,if_pos z];exact ⟨_,e,_,rfl,rfl,fun h=>absurd h z⟩
     ·rw [if_neg (by omega),if_neg (by omega)];exact ⟨_,0,_,rfl,rfl,fun _=>⟨rfl,rfl⟩⟩
   obtain ⟨a,e,b,f,j,F⟩:=L (g.Params.length+1) 0 (by omega) (by omega);rw [show ((0:Nat):Int)=0 from rfl] at f j;rw [f,j];exact ⟨a,e,b,rfl,rfl,fun z=>by
    obtain ⟨o,rfl⟩:=F z;exact ⟨o,rfl,v⟩⟩
 ·rw [if_neg q,if_neg q,if_neg dh];exact ⟨_,7,_,rfl,rfl,fun h=>absurd h (by decide)⟩
theorem GG (C:Ctx l p) (rd:zk d) (S:aj p d B) (Fd:Rel B V) (ol:V.length≤3000):∀ k,Ax l p d B V k:=by
 intro k
 induction k with
 | zero=>intro x n m fd; exact fd.elim
 | succ k H =>
  intro x n m fd pl hm;obtain ⟨Qb,ul,W,wl,am,wf,X⟩:=fd;obtain ⟨n,rfl⟩:∃ q,n=q+1:=⟨n - 1,by omega⟩;obtain ⟨m,rfl⟩:∃ q,m=q+1:=⟨m - 1,by omega⟩;show ∃ t w e,rh n (Ee n) p d B x=_∧Xj m (mg m) l d V x=_∧_;have T:∀ (i:Nat) (y:hb) (want:pb),x.Kids[i]?=some y→yj want→∃ e,(Ee n).ig p d B y want=some e∧(mg m).sh (i:Int) (wd want) l d V x=some e:=fun i y want O hw=>uB H O (X y (List.mem_of_getElem? O)) hw (by omega) (by omega);have A:∀ (i:Nat) (y:hb) (q:Nat),x.Kids[i]?=some y→3*k+110≤q→∃ t w e,(Ee q).rh p d B y=some (t,e)∧(mg m).xi (i:Int) l d V x=some (w,e)∧(e=0→w=wd t∧ql t∧Ai p t):=by
   intro i y q O Id;obtain ⟨be,rfl⟩:∃ q,m=q+1:=⟨m - 1,by omega⟩;have ce:=X y (List.mem_of_getElem? O);obtain ⟨t,w,e,j,u,D⟩:=H y q be ce Id (by omega);obtain ⟨Rd,F,s1,s2⟩:=(Py q).expr k p d B y S (yk.ok k y ce) Id;rw [j] at s1;obtain ⟨rfl,rfl⟩:t=Rd∧e=F:=by simpa using s1
   refine ⟨t,w,e,j,?_,fun z=>⟨(D z).1,(D z).2,(s2 z).1⟩⟩;show xi (mg be) (i:Int) l d V x=_;rw [xi,od,O,da,u,da]
  have Y:ng x.Kind=1→∃ a,x.Kids=[a]:=fun h=>one (by have:=W.eq (by omega);omega);have Z:ng x.Kind=2→∃ a b,x.Kids=[a,b]:=fun h=>two (by have:=W.eq (by omega);omega);rw [rh,Xj];by_cases gc:x.Kind=1
  ·rw [if_pos gc,if_pos gc];exact ⟨⟨1,[]⟩,_,0,rfl,rfl,fun _=>⟨rfl,nx⟩⟩
  rw [if_neg gc,if_neg gc];by_cases c2:x.Kind=2
  ·rw [if_pos c2,if_pos c2];exact ⟨⟨2,[]⟩,_,0,rfl,rfl,fun _=>⟨rfl,Br⟩⟩
  rw [if_neg c2,if_neg c2];by_cases c3:x.Kind=3
  ·rw [if_pos c3,if_pos c3,Rx S.Nd n (by omega),gy (by omega) (by omega),da,da,Fd.eq];cases h:Nj x.Name B with
   | none=>exact ⟨⟨1,[]⟩,[],7,rfl,rfl,fun h=>absurd h (by decide)⟩
   | some t=>exact ⟨t,wd t,0,rfl,rfl,fun _=>⟨rfl,Fd.ok _ _ h⟩⟩
  rw [if_neg c3,if_neg c3];by_cases c4:x.Kind=4
  ·rw [if_pos c4,if_pos c4];obtain ⟨a,f⟩:=Y (by rw [c4];rfl);obtain ⟨e,j,u⟩:=T 0 a ⟨1,[]⟩ (by rw [f];rfl) hz;refine ⟨⟨1,[]⟩,[110,117,109],e,?_,?_,fun _=>⟨rfl,nx⟩⟩
   ·rw [f];show ((Ee n).ig p d B a ⟨1,[]⟩).bind (fun r=>some (pb.mk 1 [],r))=_;rw [j,da]
   ·show ((mg m).sh ((0:Nat):Int) (wd ⟨1,[]⟩) l d V x).bind _=_;rw [u,da]
  rw [if_neg c4,if_neg c4];by_cases c5:x.Kind=5
  ·rw [if_pos c5,if_pos c5];obtain ⟨a,f⟩:=Y (by rw [c5];rfl);obtain ⟨e,j,u⟩:=T 0 a ⟨2,[]⟩ (by rw [f];rfl) iz;refine ⟨⟨2,[]⟩,[98,111,111,108],e,?_,?_,fun _=>⟨rfl,Br⟩⟩
   ·rw [f];show ((Ee n).ig p d B a ⟨2,[]⟩).bind (fun r=>some (pb.mk 2 [],r))=_;rw [j,da]
   ·show ((mg m).sh ((0:Nat):Int) (wd ⟨2,[]⟩) l d V x).bind _=_;rw [u,da]
  rw [if_neg c5,if_neg c5];have If:(if x.Kind=11 then im (Ee n) x p d B (decide (x.Kind=11)) else im (Ee n) x p d B (decide (x.Kind=12)))=im (Ee n) x p d B (decide (x.Kind=11∨x.Kind=12)):=by
   by_cases c:x.Kind=11
   ·rw [if_pos c,decide_eq_true c,decide_eq_true (.inl c)]
   ·rw [if_neg c];congr 1;exact decide_eq_decide.2 (by omega)
  have dg:(if x.Kind=11 then bq (mg m) l d V x (decide (x.Kind=11)) else bq (mg m) l d V x (decide (x.Kind=12)))=bq (mg m) l d V x (decide (x.Kind=11∨x.Kind=12)):=by
   by_cases c:x.Kind=11
   ·rw [if_pos c,decide_eq_true c,decide_eq_true (.inl c)]
   ·rw [if_neg c];congr 1;exact decide_eq_decide.2 (by omega)
  rw [If,dg,im,bq];by_cases c12:x.Kind=11∨x.Kind=12
  ·rw [decide_eq_true c12,if_pos rfl,if_pos rfl];obtain ⟨a,b,f⟩:=Z (by rcases c12 with c | c<;>rw [c]<;>rfl);obtain ⟨L,rfl⟩:∃ q,n=q+1:=⟨n - 1,by omega⟩;obtain ⟨t,w,e,j,u,D⟩:=A 0 a L (by rw [f];rfl) (by omega);obtain ⟨Rd,w',F,s1,s2,rg⟩:=A 1 b L (by rw [f];rfl) (by omega);show ∃ t w e,(qk (Ee L) p d B x).bind _=_∧((mg m).xi ((0:Nat):Int) l d V x).bind _=_∧_;rw [u,da,qk,f,Fo (by simp),da];dsimp only [List.getElem_cons_zero];rw [j,da];dsimp only;by_cases z:e=0
   ·obtain ⟨rfl,M,-⟩:=D z;rw [if_neg (by simpa using z),if_neg (by simpa using z),fD (by simp),da];dsimp only [List.getElem_cons_succ,List.getElem_cons_zero];rw [s1,da];show ∃ t w e,_=_∧((mg m).xi ((1:Nat):Int) l d V x).bind _=_∧_;rw [s2,da];dsimp only;by_cases v:F=0
    ·obtain ⟨rfl,bi,-⟩:=rg v;have iff:=Sy M bi;rw [if_pos v,if_neg (show ¬ F≠0 by simpa using v),tz];by_cases q:t=Rd
     ·subst q;obtain ⟨c,ma,G⟩:=Yw M;rw [decide_eq_true rfl,if_pos rfl,Bj,da,Aq,da,if_neg (show ¬ (wd t≠wd t) by simp),ma,da,xu];by_cases E:t.Kind=3
      ·refine ⟨⟨2,[]⟩,[],9,?_,?_,fun h=>absurd h (by decide)⟩
       ·rw [decide_eq_false (by simpa using E)];rfl
       ·rw [if_pos (decide_eq_true (G.2 E))]
      ·refine ⟨⟨2,[]⟩,[98,111,111,108],F,?_,?_,fun _=>⟨rfl,Br⟩⟩
       ·rw [decide_eq_true E];rfl
       ·rw [if_neg (by simpa using fun h=>E (G.1 h)),v]
     ·rw [decide_eq_false q,if_neg dh,Aq,da,if_pos (fun h=>q (iff.1 h))];exact ⟨⟨2,[]⟩,[],9,rfl,rfl,fun h=>absurd h (by decide)⟩
    ·rw [if_neg v,if_pos v,Aq,da];exact ⟨⟨2,[]⟩,[],F,rfl,rfl,fun h=>absurd h v⟩
   ·rw [if_pos z,if_pos z];exact ⟨⟨2,[]⟩,[],e,rfl,rfl,fun h=>absurd h z⟩
  rw [decide_eq_false c12,if_neg dh,if_neg dh];by_cases lc:x.Kind=19
  ·rw [if_pos lc,if_pos lc];obtain ⟨ci,e,g,j,u,D⟩:=vB (n:=n) (m:=m) C S H W.le X (.inl rfl) (by omega) (by omega);rw [j,da,u,da];dsimp only;by_cases z:e=0
   ·obtain ⟨rfl,ii,em⟩:=D z;have Oj:=C.Oj g (C.only _ _ ii).1;have ty:=Oj.ty (by omega);rw [if_neg (by simpa using z),if_neg (by simpa using z),da,rj,da,mo ty,da];exact ⟨_,_,0,rfl,rfl,fun _=>⟨(nr ty.1).symm,ty.Gr⟩⟩
   ·rw [if_pos z,if_pos z];exact ⟨⟨1,[]⟩,[],e,rfl,rfl,fun h=>absurd h z⟩
  rw [if_neg lc,if_neg lc];by_cases c20:x.Kind=20
  ·rw [if_pos c20,if_neg (show ¬ x.Kind=22 by omega),if_pos c20,Sm,da,C.find,da,Hp];dsimp only;by_cases q:Yi (yb p.named x.Name) 1=true
   ·obtain ⟨g,N,id⟩:=rn q;have Oj:=C.Oj g (C.only _ _ N).1;have ty:=Oj.ty (by omega);rw [if_pos q,if_pos q,if_pos rfl,N,da];dsimp only [Option.getD];rw [rj,da,mo ty,da];exact ⟨_,_,0,rfl,rfl,fun _=>⟨(nr ty.1).symm,ty.Gr⟩⟩
   ·rw [if_neg q,if_neg q,if_neg dh];exact ⟨⟨1,[]⟩,[],7,rfl,rfl,fun h=>absurd h (by decide)⟩
  rw [if_neg c20];by_cases c21:x.Kind=21
  ·rw [if_pos c21,if_neg (show ¬ x.Kind=22 by omega),if_neg c20,if_pos c21];by_cases d3:d.Kind≠3
   ·rw [if_pos d3,if_pos d3];exact ⟨⟨1,[]⟩,[],8,rfl,rfl,fun h=>absurd h (by decide)⟩
   ·rw [if_neg d3,if_neg d3];obtain ⟨a,f⟩:=Y (by rw [c21];rfl);have tf:=rd.tf (by omega);have ty:=rd.ty (by omega);obtain ⟨e,j,u⟩:=T 0 a d.Ja (by rw [f];rfl) ty;rw [mo tf,da,mo ty,da];refine ⟨ai d.eb,wd d.eb,e,?_,?_,fun _=>⟨(nr tf.1).symm,tf.Gr⟩⟩
    ·rw [f,Fo (by simp),da];dsimp only [List.getElem_cons_zero];rw [rj,da,j,da,Ev]
    ·show ((mg m).sh ((0:Nat):Int) (wd d.Ja) l d V x).bind _=_;rw [u,da,Vv]
  rw [if_neg c21];by_cases P:x.Kind=22
  ·rw [if_pos P,if_pos P];obtain ⟨ci,e,g,j,u,D⟩:=vB (n:=n) (m:=m) C S H W.le X (.inr rfl) (by omega) (by omega);have ge:=wf (.inr (.inr (.inr P)));have:=xC ge;rw [j,da,u,da,cat,if_pos (by simp;omega),da];exact ⟨⟨3,x.Name⟩,_,e,rfl,rfl,fun _=>⟨rfl,rfl,⟨show (1:Int)≤3 by decide,show (3:Int)≤3 by decide⟩,fun _=>ge⟩⟩
  rw [if_neg P,if_neg P,if_neg c20,if_neg c21];have li:(if x.Kind=23 then aq (mg m) l d V x (decide (x.Kind=23)) else aq (mg m) l d V x (decide (x.Kind=24)))=aq (mg m) l d V x (decide (x.Kind=23∨x.Kind=24)):=by
   by_cases c:x.Kind=23
   ·rw [if_pos c,decide_eq_true c,decide_eq_true (.inl c)]
   ·rw [if_neg c];congr 1;exact decide_eq_decide.2 (by omega)
  rw [li,aq];by_cases c24:x.Kind=23∨x.Kind=24
  ·rw [decide_eq_true c24,if_pos rfl];obtain ⟨L,rfl⟩:∃ q,n=q+1:=⟨n - 1,by omega⟩;have pi:∃ a,x.Kids[0]?=some a∧at_ x.Kids 0=some a:=by
    rcases c24 with c | c
    ·obtain ⟨a,b,f⟩:=Z (by rw [c];rfl);exact ⟨a,by rw [f];rfl,by rw [f];rfl⟩
    ·obtain ⟨a,f⟩:=Y (by rw [c];rfl);exact ⟨a,by rw [f];rfl,by rw [f];rfl⟩
   obtain ⟨a,f,he⟩:=pi;obtain ⟨t,w,e,j,u,D⟩:=A 0 a L f (by omega);have ne:(Ee (L+1)).qj p d B a=if e≠0 then some (none,e) else if t.Kind≠3 then some (none,9) else some (yb p.named t.Pa,0):=by
    show qj (Ee L) p d B a=_;rw [qj,j,da];dsimp only;by_cases z:e=0
    ·rw [if_neg (by simpa using z),if_neg (by simpa using z),Bj,da];by_cases q:t.Kind≠3
     ·rw [if_pos (decide_eq_true q),if_pos q]
     ·rw [if_neg (by simpa using q),if_neg q]
    ·rw [if_pos z,if_pos z]
   have a0:(mg m).xi 0 l d V x=some (w,e):=u;rcases c24 with c | c
   ·rw [if_pos c,he,da,ne,a0,da];dsimp only;by_cases z:e=0
    ·obtain ⟨rfl,M,Ne⟩:=D z;obtain ⟨Q,ma,G⟩:=Yw M;have v:¬ e≠0:=fun h=>h z;rw [if_neg v,if_neg v,ma,da];by_cases q:t.Kind≠3
     ·rw [if_pos q,if_pos (show (Q.toNat:Int)≠61 from fun h=>q (G.1 h)),da];dsimp only;rw [if_pos (show (9:Int)≠0 by decide)];exact ⟨⟨1,[]⟩,[],9,rfl,rfl,fun h=>absurd h (by decide)⟩
     ·have E:t.Kind=3:=by omega
      obtain ⟨g,N,id⟩:=Ne E;have Oj:=C.Oj g (C.only _ _ N).1;have ty:=Oj.ty (by omega);have tf:=Oj.tf id;obtain ⟨lm,Te,K⟩:=Z (by rw [c];rfl);obtain ⟨F,s1,s2⟩:=T 1 Te g.eb (by rw [K];rfl) tf;have Pi:cut (wd t) 1 ((wd t).length:Int)=some t.Pa:=by
       rw [wd,if_neg (by omega),if_neg (by omega),cut,if_pos (by simp;omega)];simp
      rw [if_neg q,if_neg (show ¬ (Q.toNat:Int)≠61 from fun h=>h (G.2 E)),da];dsimp only;rw [if_neg (show ¬ ((0:Int)≠0) by decide),N,da,if_neg (show ¬ x.Kind=24 by omega),Pi,da,C.find,da,Hp,N,if_pos (Yy id)];dsimp only [Option.getD];rw [Xv];refine ⟨ai g.Ja,wd g.Ja,F,?_,?_,fun _=>⟨(nr ty.1).symm,ty.Gr⟩⟩
      ·rw [K,fD (by simp),da];dsimp only [List.getElem_cons_succ,List.getElem_cons_zero];rw [rj,da,s1,da,Fv]
      ·show (rk g.Ja).bind _=_;rw [mo ty,da];show (rk g.eb).bind _=_;rw [mo tf,da];show ((mg m).sh ((1:Nat):Int) (wd g.eb) l d V x).bind _=_;rw [s2,da,Wv]
    ·rw [if_pos z,if_pos z,da];dsimp only;rw [if_pos z];exact ⟨⟨1,[]⟩,[],e,rfl,rfl,fun h=>absurd h z⟩
   ·rw [if_neg (show ¬ x.Kind=23 by omega),if_pos c,he,da,ne,a0,da];dsimp only;by_cases z:e=0
    ·obtain ⟨rfl,M,Ne⟩:=D z;obtain ⟨Q,ma,G⟩:=Yw M;have v:¬ e≠0:=fun h=>h z;rw [if_neg v,if_neg v,ma,da];by_cases q:t.Kind≠3
     ·rw [if_pos q,if_pos (show (Q.toNat:Int)≠61 from fun h=>q (G.1 h)),da];exact ⟨⟨2,[]⟩,[],9,rfl,rfl,fun h=>absurd h (by decide)⟩
     ·have E:t.Kind=3:=by omega
      rw [if_neg q,if_neg (show ¬ (Q.toNat:Int)≠61 from fun h=>h (G.2 E)),da,if_pos c];exact ⟨⟨2,[]⟩,_,0,rfl,rfl,fun _=>⟨rfl,Br⟩⟩
    ·rw [if_pos z,if_pos z,da];exact ⟨⟨2,[]⟩,[],e,rfl,rfl,fun h=>absurd h z⟩
  rw [decide_eq_false c24,if_neg dh,if_neg (show ¬ x.Kind=23 by omega),if_neg (show ¬ x.Kind=24 by omega)];obtain ⟨a,b,K⟩:=Z (by unfold ng;rw [if_neg (by omega),if_neg (by omega),if_pos (by omega)]);have md:∀ (want out:pb),yj want→ql out→∃ w e,Qo (Ee n) x p d B want.Kind want.Pa out.Kind out.Pa=some (out,e)∧Oq (mg m) l d V x (wd want) (wd out)=some (w,e)∧(e=0→w=wd out∧ql out):=by
   intro want out hw kk;obtain ⟨bb,j,u⟩:=T 0 a want (by rw [K];rfl) hw;obtain ⟨ma,s1,s2⟩:=T 1 b want (by rw [K];rfl) hw;have dl:(mg m).sh 0 (wd want) l d V x=some bb:=u;have el:(mg m).sh 1 (wd want) l d V x=some ma:=s2;have hlen:x.Kids.length=2:=by rw [K];rfl
   have a0:at_ x.Kids 0=some a:=by rw [K];rfl
   have Da:at_ x.Kids 1=some b:=by rw [K];rfl
   rw [Qo,hlen,yl,if_pos (by omega),a0,da,Oq,dl,da];show ∃ w e,((Ee n).ig p d B a want).bind _=_∧_;rw [j,da];by_cases z:bb=0
   ·rw [if_neg (by simpa using z),if_neg (by simpa using z),Ib (by omega),da,el,da];show ∃ w e,yl (Ee n) x p d B want.Kind want.Pa out.Kind out.Pa (1+1) 1=_∧_;rw [yl,if_pos (by omega),Da,da];show ∃ w e,((Ee n).ig p d B b want).bind _=_∧_;rw [s1,da];by_cases rc:ma=0
    ·rw [if_neg (by simpa using rc),Ib (by omega),da];show ∃ w e,yl (Ee n) x p d B want.Kind want.Pa out.Kind out.Pa (0+1) 2=_∧_;rw [yl,if_neg (by omega)];exact ⟨wd out,0,rfl,by rw [rc],fun _=>⟨rfl,kk⟩⟩
    ·rw [if_pos rc];exact ⟨wd out,ma,rfl,rfl,fun h=>absurd h rc⟩
   ·rw [if_pos z,if_pos z];exact ⟨[],bb,rfl,rfl,fun h=>absurd h z⟩
  have nl:(if x.Kind=17 then Zp (mg m) l d V x true else Zp (mg m) l d V x (decide (x.Kind=18)))=Zp (mg m) l d V x (decide (17≤x.Kind)):=by
   by_cases c:x.Kind=17
   ·rw [if_pos c,decide_eq_true (by omega)]
   ·rw [if_neg c];congr 1;exact decide_eq_decide.2 (by omega)
  have of:∀ s o,bt (mg m) l d V x s o=Oq (mg m) l d V x s (if 13≤x.Kind∧x.Kind≤16 then [98,111,111,108] else o):=by
   intro s o;rw [bt];by_cases c:(13:Int)≤x.Kind
   ·rw [if_pos c,Zs];by_cases Fc:x.Kind≤16
    ·rw [if_pos (decide_eq_true Fc),if_pos ⟨c,Fc⟩]
    ·rw [if_neg (by simpa using Fc),if_neg (fun h=>Fc h.2)]
   ·rw [if_neg c,Zs,if_neg dh,if_neg (fun h=>c h.1)]
  rw [nl,Zp];by_cases R:(17:Int)≤x.Kind
  ·rw [decide_eq_true R,if_pos rfl,of,if_neg (fun h=>by omega)];obtain ⟨w,e,q1,q2,q3⟩:=md ⟨2,[]⟩ ⟨2,[]⟩ iz Br;refine ⟨_,w,e,?_,q2,q3⟩;rw [cy,da,da,if_pos R,Dx,da,da];exact q1
  ·rw [decide_eq_false R,if_neg dh,of];by_cases Hr:(13:Int)≤x.Kind
   ·rw [if_pos ⟨Hr,by omega⟩];obtain ⟨w,e,q1,q2,q3⟩:=md ⟨1,[]⟩ ⟨2,[]⟩ hz Br;refine ⟨_,w,e,?_,q2,q3⟩;rw [cy,da,da,if_neg R,if_pos Hr,Dx,da];exact q1
   ·rw [if_neg (fun h=>Hr h.1)];obtain ⟨w,e,q1,q2,q3⟩:=md ⟨1,[]⟩ ⟨1,[]⟩ hz nx;refine ⟨_,w,e,?_,q2,q3⟩;rw [cy,da,da,if_neg R,if_neg Hr];exact q1
end
end Go.Y
namespace Go.Y
open Go.pc Go.nd
section
variable {l:List na}{p:Pb}{d:na}
theorem Zw {B:bg}{V:List Vb}{k:Nat}(H:Ax l p d B V k){y:hb}{want:pb}(a:yk k y) (hw:yj want){n m:Nat}(i:3*k+111≤n) (hm:5*k+3100≤m):∃ e,(Ee n).ig p d B y want=some e∧zp m l d V y (wd want)=some e:=by
 obtain ⟨n,rfl⟩:∃ q,n=q+1:=⟨n - 1,by omega⟩;obtain ⟨t,w,e,b,c,f⟩:=H y n m a (by omega) (by omega);refine ⟨if e=0∧t≠ai want then 9 else e,?_,?_⟩
 ·show ig (Ee n) p d B y want=_;rw [ig,b,da];dsimp only;by_cases z:e=0
  ·rw [if_pos z,rj,da,Ip,tz];by_cases q:t=ai want
   ·rw [decide_eq_true q,if_neg (show ¬ ((!true)=true) by decide),if_neg (fun h=>h.2 q)]
   ·rw [decide_eq_false q,if_pos (by decide),if_pos ⟨z,q⟩]
  ·rw [if_neg z,Ip,if_neg dh,if_neg (fun h=>z h.1)]
 ·rw [zp,c,da];dsimp only;by_cases z:e=0
  ·obtain ⟨rfl,g⟩:=f z;rw [if_pos z,Et];have iff:=Sy g hw.Gr;rw [nr hw.1] at iff;by_cases q:t=ai want
   ·rw [if_neg (by simpa using iff.2 q),if_neg (fun h=>h.2 q)]
   ·rw [if_pos (show decide (wd t≠wd want)=true from decide_eq_true fun h=>q (iff.1 h)),if_pos ⟨z,q⟩]
  ·rw [if_neg z,Et,if_neg dh,if_neg (fun h=>z h.1)]
theorem nj.ok:∀ (k:Nat) (x:cb),nj k x→mj k x
 | 0,_,h=>h
 | k+1,x,h=>by
  obtain ⟨e,f,g,i,b,d⟩:=h;exact ⟨e,f,fun c=>yk.ok k _ (g c),fun c=>⟨(b c).1,fun y a=>nj.ok k y ((b c).2 y a)⟩,fun c=>⟨(d c).1,fun y a=>nj.ok k y ((d c).2 y a)⟩⟩
theorem Rel.nil {B:bg}{V:List Vb}(h:Rel B V):Rel (B++[[]]) V:=⟨fun n=>by rw [Jt,h.eq];rfl,fun n t a=>h.ok n t (by rw [Jt] at a;exact a)⟩
theorem Rel.gD {B:bg}{V:List Vb}(h:Rel B V) (g:0<B.length){n:List UInt8}{t:pb}(d:ql t):Rel (B.set (B.length - 1) (Ue (B[B.length - 1]'(by omega)) n t)) (V++[⟨n,wd t⟩]):=by
 have ma:B=B.take (B.length - 1)++[B[B.length - 1]'(by omega)]:=by
  have:=List.take_succ_eq_append_getElem (l:=B) (i:=B.length - 1) (by omega);rw [← this,List.take_of_length_le (by omega)]
 have e:B.set (B.length - 1) (Ue (B[B.length - 1]'(by omega)) n t)=B.take (B.length - 1)++[Ue (B[B.length - 1]'(by omega)) n t]:=by
  rw [List.set_eq_take_append_cons_drop,if_pos (by omega),List.drop_eq_nil_of_le (by omega)]
 have key:∀ a,Nj a (B.set (B.length - 1) (Ue (B[B.length - 1]'(by omega)) n t))=if n=a then some t else Nj a B:=by
  intro a;have f:Nj a B=match yb (B[B.length - 1]'(by omega)) a with | some t=>some t | none=>Nj a (B.take (B.length - 1)):=by
   have:=Jt a (B[B.length - 1]'(by omega)) (B.take (B.length - 1));rw [← ma] at this;exact this
  rw [e,Jt,lh,f];by_cases c:n=a
  ·rw [if_pos c,if_pos c]
  ·rw [if_neg c,if_neg c];all_goals rfl
 refine ⟨fun a=>?_,fun a Rd b=>?_⟩
 ·rw [Dy,key];by_cases c:n=a
  ·rw [if_pos c,if_pos c];rfl
  ·rw [if_neg c,if_neg c,h.eq]
 ·rw [key] at b;by_cases c:n=a
  ·rw [if_pos c] at b;cases b;exact d
  ·rw [if_neg c] at b;exact h.ok a Rd b
def rD (l:List na) (p:Pb) (d:na) (k:Nat):Prop:=∀ (L:List cb) (B:bg) (V:List Vb) (n m:Nat),aj p d B→Rel B V→B.length+k≤90→V.length+60*(k+1)≤3000→L.length≤50→(∀ y ∈ L,nj k y)→5*k+130≤n→6*k+3400≤m →
 ∃ e,(Xh n).ui p d B L=some (e,B)∧(gj m).Tj l d V L=some e
theorem HG (C:Ctx l p) (H:zk d){k:Nat}(K:rD l p d k){B:bg}{V:List Vb}(s:aj p d B) (a:Rel B V) (S:0<B.length) (M:B.length+k≤90) (N:V.length+60*(k+1)≤3000){x:cb}(O:nj (k+1) x){n m:Nat}(rd:5*k+133≤n) (hm:6*k+3405≤m)
  {L:List cb}{q i:Nat}(wd:L.length≤50) (Fd:i<L.length) (T:at_ L (i:Int)=some x) :
  ∃ e P,Qj n (Xh n) p d B x=some (e,P)∧(e≠0→gi m (gj m) l d L (q+1) i V=some e)∧(e=0→∃ o,gi m (gj m) l d L (q+1) i V=gi m (gj m) l d L q ((i+1:Nat):Int) o∧Rel P o∧o.length≤V.length+1):=by
 have Id:=nj.ok (k+1) x O;obtain ⟨be,ce,r,ge,W,Y⟩:=O;have X:=GG C H s a (by omega) k;have xb:∀ o,(i64 ((i:Int)+1)).bind (fun j=>gi m (gj m) l d L q j o)=gi m (gj m) l d L q ((i+1:Nat):Int) o:=fun o=>by rw [Ib (by omega),da];rfl
 have he:∀ o,(i64 ((i:Int)+1)).bind (fun j=>(gi m (gj m) l d L q) j o)=gi m (gj m) l d L q ((i+1:Nat):Int) o:=xb;rw [gi,if_pos (by omega),T,da,Qj];by_cases v:x.Kind=1
 ·rw [if_pos v,if_pos v];obtain ⟨t,w,e,b,f,E⟩:=X x.X n m (r (by omega)) (by omega) (by omega);rw [b,da,f,da];dsimp only;by_cases z:e=0
  ·obtain ⟨rfl,F⟩:=E z;have u:¬ e≠0:=fun h=>h z;rw [if_neg u,if_neg u,Rx s.Nd n (by omega),da,gy (by omega) (by omega),da,a.eq];cases h:Nj x.Name B with
   | some Rd =>
    refine ⟨7,B,rfl,fun _=>rfl,fun h=>absurd h (by decide)⟩
   | none =>
    dsimp only [Option.map];rw [if_neg dh,if_neg dh,Gf (by simp;omega),da,Ib (by omega),da,show ((B.length:Int) - 1)=((B.length - 1:Nat):Int) by omega,od,List.getElem?_eq_getElem (by omega),da];refine ⟨0,_,rfl,fun h=>absurd rfl h,fun _=>⟨_,xb _,?_,by simp⟩⟩;exact a.gD S F
  ·rw [if_pos z,if_pos z];exact ⟨e,B,rfl,fun _=>rfl,fun h=>absurd h z⟩
 rw [if_neg v,if_neg v];by_cases c2:x.Kind=2
 ·rw [if_pos c2,if_pos c2,Rx s.Nd n (by omega),da,gy (by omega) (by omega),da,a.eq];cases h:Nj x.Name B with
  | none=>exact ⟨7,B,rfl,fun _=>rfl,fun h=>absurd h (by decide)⟩
  | some t =>
   obtain ⟨e,b,f⟩:=Zw X (n:=n) (m:=m) (r (by omega)) (a.ok _ _ h).2 (by omega) (by omega);dsimp only [Option.map];rw [if_pos rfl,if_pos rfl,b,da,f,da];refine ⟨e,B,rfl,fun z=>by rw [if_pos z],fun z=>⟨V,?_,a,by omega⟩⟩;rw [if_neg (fun h=>h z)];exact xb V
 rw [if_neg c2,if_neg c2];have Z:(if x.Kind=3 then jm n (Xh n) x p d B (decide (x.Kind=3)) else jm n (Xh n) x p d B (decide (x.Kind=4)))=jm n (Xh n) x p d B (decide (x.Kind=3∨x.Kind=4)):=by
  by_cases c:x.Kind=3
  ·rw [if_pos c,decide_eq_true c,decide_eq_true (.inl c)]
  ·rw [if_neg c];congr 1;exact decide_eq_decide.2 (by omega)
 have gc:(if x.Kind=3 then Tp m (gj m) l d i V x (gi m (gj m) l d L q) (decide (x.Kind=3)) else Tp m (gj m) l d i V x (gi m (gj m) l d L q) (decide (x.Kind=4)))=Tp m (gj m) l d i V x (gi m (gj m) l d L q) (decide (x.Kind=3∨x.Kind=4)):=by
  by_cases c:x.Kind=3
  ·rw [if_pos c,decide_eq_true c,decide_eq_true (.inl c)]
  ·rw [if_neg c];congr 1;exact decide_eq_decide.2 (by omega)
 rw [Z,gc,jm,Tp];by_cases G:x.Kind=3∨x.Kind=4
 ·rw [decide_eq_true G,if_pos rfl,if_pos rfl,Dx,da];obtain ⟨e,b,f⟩:=Zw X (n:=n) (m:=m) (r (by omega)) iz (by omega) (by omega);have lc:zp m l d V x.X [98,111,111,108]=some e:=f;rw [b,da,lc,da];by_cases z:e=0
  ·have u:¬ e≠0:=fun h=>h z;obtain ⟨rc,fd⟩:=W G;obtain ⟨ma,s1,s2⟩:=K x.Body B V n m s a M N rc fd (by omega) (by omega);rw [if_neg u,if_neg u,s1,da,s2,da];dsimp only;by_cases y:ma=0
   ·have Q:¬ ma≠0:=fun h=>h y;rw [if_neg Q,if_neg Q,Mp];by_cases c3:x.Kind=3
    ·obtain ⟨id,md⟩:=Y c3;obtain ⟨A,t1,t2⟩:=K x.Qd B V n m s a M N id md (by omega) (by omega);rw [decide_eq_false (show ¬ x.Kind=4 by omega),if_neg dh,if_pos c3,t1,da,t2,da];refine ⟨A,B,rfl,fun z=>by rw [if_pos z],fun z=>⟨V,?_,a,by omega⟩⟩;rw [if_neg (fun h=>h z)];exact xb V
    ·rw [decide_eq_true (show x.Kind=4 by omega),if_pos rfl,if_neg c3];exact ⟨ma,B,rfl,fun z=>absurd y z,fun z=>⟨V,xb V,a,by omega⟩⟩
   ·rw [if_pos y,if_pos y,Mp,if_pos rfl];exact ⟨ma,B,rfl,fun _=>rfl,fun h=>absurd h y⟩
  ·rw [if_pos z,if_pos z];exact ⟨e,B,rfl,fun _=>rfl,fun h=>absurd h z⟩
 rw [decide_eq_false G,if_neg dh,if_neg dh];by_cases c5:x.Kind=5
 ·rw [if_pos c5,if_pos c5];by_cases d2:d.Kind≠2
  ·rw [if_pos d2,if_pos d2];exact ⟨8,B,rfl,fun _=>rfl,fun h=>absurd h (by decide)⟩
  ·have ty:=H.ty (by omega);obtain ⟨e,b,f⟩:=Zw X (n:=n) (m:=m) (r (by omega)) ty (by omega) (by omega);rw [if_neg d2,if_neg d2,b,da,mo ty,da,f,da,Pv];refine ⟨e,B,rfl,fun z=>by rw [if_pos z],fun z=>⟨V,?_,a,by omega⟩⟩;rw [if_neg (fun h=>h z)];exact xb V
 rw [if_neg c5,if_neg c5];by_cases Sd:x.Kind=6
 ·rw [if_pos Sd,if_pos Sd];by_cases d2:d.Kind=2
  ·rw [if_pos d2,if_pos d2];exact ⟨8,B,rfl,fun _=>rfl,fun h=>absurd h (by decide)⟩
  ·rw [if_neg d2,if_neg d2];exact ⟨0,B,rfl,fun h=>absurd rfl h,fun _=>⟨V,xb V,a,by omega⟩⟩
 rw [if_neg Sd,if_neg Sd];by_cases Tf:x.Kind=7
 ·rw [if_pos Tf,if_pos Tf,Sm,da,C.find,da,Hp];dsimp only;by_cases w:Yi (yb p.named x.Name) 1=true
  ·obtain ⟨g,R,le⟩:=rn w;have ty:=(C.Oj g (C.only _ _ R).1).ty (by omega);obtain ⟨e,b,f⟩:=Zw X (n:=n) (m:=m) (r (by omega)) ty (by omega) (by omega);rw [if_pos w,if_pos w,if_pos rfl,R,da];dsimp only [Option.getD];rw [b,da,mo ty,da,f,da,Qv];refine ⟨e,B,rfl,fun z=>by rw [if_pos z],fun z=>⟨V,?_,a,by omega⟩⟩;rw [if_neg (fun h=>h z)];exact xb V
  ·rw [if_neg w,if_neg w,if_neg dh];exact ⟨7,B,rfl,fun _=>rfl,fun h=>absurd h (by decide)⟩
 rw [if_neg Tf,if_neg Tf];obtain ⟨t,w,e,b,f,E⟩:=X x.X n m (r Sd) (by omega) (by omega);rw [f,da];dsimp only;by_cases ee:x.Kind=8
 ·rw [if_pos ee,b,da,if_pos ee];dsimp only;by_cases z:e=0
  ·obtain ⟨rfl,F⟩:=E z;obtain ⟨ne,ma,A⟩:=Yw F;rw [if_pos z,if_neg (show ¬ e≠0 from fun h=>h z),Bj,da,Rr,ma,da,Ns];by_cases D:t.Kind=3
   ·refine ⟨9,B,?_,fun _=>?_,fun h=>absurd h (by decide)⟩
    ·rw [decide_eq_false (by simpa using D),if_pos (by decide)]
    ·rw [if_pos (decide_eq_true (A.2 D))]
   ·refine ⟨e,B,?_,fun h=>absurd z h,fun _=>⟨V,?_,a,by omega⟩⟩
    ·rw [decide_eq_true D,if_neg (by decide)]
    ·rw [if_neg (by simpa using fun h=>D (A.1 h))];exact xb V
  ·rw [if_neg z,if_pos z,Rr,if_neg dh];exact ⟨e,B,rfl,fun _=>rfl,fun h=>absurd h z⟩
 ·rw [if_neg ee,if_pos (show x.Kind=9 by omega),b,da,if_neg ee];refine ⟨e,B,rfl,fun z=>by rw [if_pos z],fun z=>⟨V,?_,a,by omega⟩⟩;rw [if_neg (fun h=>h z),Ns,if_neg dh];exact xb V
theorem SF (C:Ctx l p) (F:zk d):∀ k,rD l p d k:=by
 intro k
 induction k with
 | zero =>
  intro L B V n m a x G H v g K hm;have:L=[]:=by
   cases L with
   | nil=>rfl
   | cons y L=>exact (g y (List.mem_cons_self ..)).elim
  subst this;obtain ⟨e,j,-⟩:=(Dw n).stats 0 p d B [] a (by simp) (by simp) (by omega) (by omega);refine ⟨e,j,?_⟩;obtain ⟨n,rfl⟩:∃ q,n=q+1:=⟨n - 1,by omega⟩;obtain ⟨m,rfl⟩:∃ q,m=q+1:=⟨m - 1,by omega⟩;have Nd:=a.Nd;have f:ui (Xh n) p d B []=some (e,B):=j;rw [ui,Gf (by simp;omega),da,Bq] at f;have A:(lp p d (B++[[]])).bind (fun M=>some ((0:Int),M))=some (e,B):=f;rw [Cu p d _ (by simp) (by simp;omega),da] at A;have he:(0:Int)=e:=congrArg Prod.fst (Option.some.inj A);subst he;show Tj m (gj m) l d V []=_;rw [Tj,Gf (by simp;omega),da];rfl
 | succ k N =>
  intro L B V n m a x G H v g K hm;obtain ⟨e,j,-⟩:=(Dw n).stats (k+1) p d B L a v (fun y h=>nj.ok _ _ (g y h)) (by omega) (by omega);refine ⟨e,j,?_⟩;obtain ⟨n,rfl⟩:∃ q,n=q+2:=⟨n - 2,by omega⟩;obtain ⟨m,rfl⟩:∃ q,m=q+1:=⟨m - 1,by omega⟩;have Nd:=a.Nd;have f:ui (Xh (n+1)) p d B L=some (e,B):=j;rw [ui,Gf (by simp;omega),da,Bq] at f;have loop:∀ (q i:Nat) (b:bg) (o:List Vb),i≤L.length→L.length<q+i→aj p d b→Rel b o→b.length=B.length+1→o.length≤V.length+i →
    ∃ e r,Ln (Xh (n+1)) L p d q i b=some (e,r)∧gi m (gj m) l d L q i o=some e:=by
   intro q
   induction q with
   | zero=>intro i b o O P; omega
   | succ q Q =>
    intro i b o O P s R Y Z;rw [Ln];by_cases c:i<L.length
    ·have D:at_ L (i:Int)=some L[i]:=by rw [od,List.getElem?_eq_getElem c]
     obtain ⟨e,r,s1,s2,S⟩:=HG C F N s R (by omega) (by omega) (by omega) (g _ (List.getElem_mem c)) (n:=n) (m:=m) (by omega) (by omega) (q:=q) v c D;obtain ⟨u,E,t1,t2,t3,t4,-⟩:=(Dw (n+1)).stat (k+1) p d b L[i] s (by omega) (nj.ok _ _ (g _ (List.getElem_mem c))) (by omega) (by omega);have t0:Qj n (Xh n) p d b L[i]=some (u,E):=t1;rw [s1] at t0;obtain ⟨rfl,rfl⟩:e=u∧r=E:=by simpa using t0
     rw [if_pos (by omega),D,da,t1,da];dsimp only;by_cases z:e=0
     ·obtain ⟨T,v1,v2,v3⟩:=S z;rw [if_neg (fun h=>h z),Ib (by omega),da,v1];exact Q (i+1) r T (by omega) (by omega) ⟨s.Fm,s.Ba,t4,by omega⟩ v2 (by omega) (by omega)
     ·rw [if_pos z,Cu p d _ (by omega) (by omega),da,s2 z];exact ⟨e,_,rfl,rfl⟩
    ·rw [if_neg (by omega),Cu p d _ (by omega) (by omega),da,gi,if_neg (by omega)];exact ⟨0,_,rfl,rfl⟩
  have uz:Kj p (B++[[]]):=by
   intro gc W k t w;rcases List.mem_append.1 W with h | h
   ·exact a.Ad _ h k t w
   ·rw [List.mem_singleton.1 h] at w;cases w
  have X:aj p d (B++[[]]):=⟨a.Fm,a.Ba,uz,by simp;omega⟩;obtain ⟨u,r,s1,s2⟩:=loop (L.length+1) 0 (B++[[]]) V (by omega) (by omega) X x.nil (by simp) (by omega);rw [show ((0:Nat):Int)=0 from rfl] at s1 s2;rw [s1] at f;have he:u=e:=congrArg Prod.fst (Option.some.inj f);subst he;show Tj m (gj m) l d V L=_;rw [Tj,Gf (by simp;omega),da];exact s2
end
end Go.Y
namespace Go.Y
open Go.pc Go.nd
theorem qw {α:Type}{l:List α}{i:Nat}(h:i<l.length):l[i] ∈ l.take (i+1):=by
 rw [List.take_succ_eq_append_getElem h];exact List.mem_append_right _ (List.mem_singleton.2 rfl)
section
variable {l:List na}{p:Pb}{d:na}
theorem IG (C:Ctx l p) (r:wx p) (j:uj p d) (b:zk d){fu:Nat}(hu:5000≤fu):∃ e,Ym fu p d=some e∧Nu fu l d=some e:=by
 rw [Ym,Nu];by_cases f:d.Kind=1
 ·rw [if_pos f,if_pos f];exact ⟨0,rfl,rfl⟩
 rw [if_neg f,if_neg f];obtain ⟨x,y⟩:=b.fk f;have We:∀ (B:bg) (V:List Vb),aj p d B→Rel B V→B.length=1→V.length≤6→∃ e,Sn fu p d B=some e∧et fu l d V=some e:=by
  intro B V z g o A;obtain ⟨e,D,E⟩:=SF C b 39 d.Body B V fu fu z g (by omega) (by omega) x y (by omega) (by omega);rw [Sn,et,D,da,E,da];exact ⟨e,rfl,rfl⟩
 have s:Kj p [([]:List (List UInt8×pb))]:=by
  intro m hm k t a;rw [List.mem_singleton.1 hm] at a;cases a
 have u:Rel [([]:List (List UInt8×pb))] []:=⟨fun n=>rfl,fun n t h=>by cases h⟩;by_cases c4:d.Kind=4
 ·rw [if_neg (by simpa using c4),if_neg (by simpa using c4)];exact We _ _ ⟨r,j,s,by simp⟩ u rfl (by simp)
 rw [if_pos c4,if_pos c4];have v:d.Kind=2∨d.Kind=3:=by have:=b.Qb;have:=b.De;omega
 obtain ⟨N,F⟩:=b.qh v;have L:∀ (m i:Nat) (B:bg) (V:List Vb),i≤d.Params.length→d.Params.length<m+i→Kj p B→Rel B V→B.length=1→V.length=i→∃ e,Jm fu p d m i B=some e∧Vq fu l d m i V=some e:=by
  intro m
  induction m with
  | zero=>intro i B V G H; omega
  | succ m K =>
   intro i B V G H Ad g o A;rw [Jm,Vq];by_cases c:i<d.Params.length
   ·have ma:at_ d.Params (i:Int)=some d.Params[i]:=by rw [od,List.getElem?_eq_getElem c]
    have ty:=(F _ (List.getElem_mem c)).2;have w:0<B.length:=by omega
    rw [if_pos (by omega),if_pos (by omega),ma,da,da,Fo w,da,rj,da,mo ty,da,Gf (by simp;omega),da,Wr,Yv,Ib (by omega),da,da];have key:=g.gD w (n:=d.Params[i].Name) ty.Gr;have i0:B.length - 1=0:=by omega
    simp only [i0,nr ty.1] at key;refine K (i+1) _ _ c (by omega) ?_ key (by simpa using o) (by simp;omega);intro M q k t a;rcases List.mem_or_eq_of_mem_set q with q | rfl
    ·exact Ad M q k t a
    ·rw [lh] at a;split at a
     ·obtain rfl:=Option.some.inj a;exact (j.qh v _ (List.getElem_mem _)).bare
     ·exact Ad _ (List.getElem_mem _) k t a
   ·rw [if_neg (by omega),if_neg (by omega)];exact We B V ⟨r,j,Ad,by omega⟩ g o (by omega)
 exact L (d.Params.length+1) 0 _ [] (by omega) (by omega) s u rfl rfl
theorem JG (C:Ctx l p) (t:zk d):∃ e,Xm p d=some e∧mr l d=some e:=by
 have o:∀ b,Ro b=some (if b=true then 9 else 0):=fun b=>by cases b<;>rfl
 have r:∀ b,cq b=some (if b=true then 9 else 0):=fun b=>by cases b<;>rfl
 have We:∃ e,To d=some e∧Uq d=some e:=by
  rw [To,Uq];by_cases c3:d.Kind=3
  ·rw [if_pos c3,if_pos c3,Bj,da];by_cases t3:d.eb.Kind=3
   ·rw [if_neg (by simpa using t3),if_pos t3,o,r];exact ⟨_,rfl,rfl⟩
   ·rw [if_pos (by simpa using t3),if_neg t3,if_pos (by omega),if_pos (by omega),Bj,da,o,r];refine ⟨_,rfl,?_⟩;by_cases y:d.Ja.Kind=3
    ·simp [y]
    ·simp [y]
  ·rw [if_neg c3,if_neg c3];by_cases c4:d.Kind≠4
   ·rw [if_pos c4,if_pos c4,Bj,da,o,r];refine ⟨_,rfl,?_⟩;by_cases y:d.Ja.Kind=3
    ·simp [y]
    ·simp [y]
   ·rw [if_neg c4,if_neg c4,o,r];exact ⟨_,rfl,rfl⟩
 by_cases D:d.Kind=2∨d.Kind=3
 ·have bb:Xm p d=Rn p d (d.Params.length+1) 0 []:=by
   rw [Xm];by_cases c2:d.Kind=2
   ·rw [if_pos c2,Uo,if_pos rfl]
   ·rw [if_neg c2,decide_eq_true (show d.Kind=3 by omega),Uo,if_pos rfl]
  rw [bb,mr];obtain ⟨M,N⟩:=t.qh D;have E:∀ (x:TParam) (i:Nat) (L:List TParam) (K:Int→Option Int),L.length≤6→i≤10→∀ (m j:Nat),j≤L.length→L.length<m+j→dt l i x L K m j=if (∃ y ∈ L.drop j,y.Name=x.Name) then some 7 else if x.Ja.Kind=3∧Yi (yb p.named x.Ja.Pa) 3=false then some 7 else K ((i:Int)+1):=by
   intro x i L K O P m
   induction m with
   | zero=>intro j u v; omega
   | succ m A =>
    intro j u v;rw [dt];by_cases c:j<L.length
    ·rw [if_pos (by omega),od,List.getElem?_eq_getElem c,da,List.drop_eq_getElem_cons c];by_cases q:L[j].Name=x.Name
     ·rw [if_pos q,if_pos ⟨_,List.mem_cons_self ..,q⟩]
     ·rw [if_neg q,Ib (by omega),da];have:=A (j+1) c (by omega);rw [show ((j:Int)+1)=((j+1:Nat):Int) from rfl,this];by_cases w:∃ y ∈ L.drop (j+1),y.Name=x.Name
      ·obtain ⟨y,a,g⟩:=w;rw [if_pos ⟨y,a,g⟩,if_pos ⟨y,List.mem_cons_of_mem _ a,g⟩]
      ·have w':¬ ∃ y ∈ L[j]::L.drop (j+1),y.Name=x.Name:=by
        rintro ⟨y,a,g⟩;rcases List.mem_cons.1 a with rfl | a
        ·exact q g
        ·exact w ⟨y,a,g⟩
       rw [if_neg w,if_neg w']
    ·rw [if_neg (by omega),List.drop_eq_nil_of_le (by omega),if_neg (show ¬ ∃ y ∈ ([]:List TParam),y.Name=x.Name by simp)];by_cases f:x.Ja.Kind=3
     ·rw [if_pos f,C.find,da,Hp];by_cases q:Yi (yb p.named x.Ja.Pa) 3=true
      ·rw [if_pos q,if_pos rfl,if_neg (fun h=>by rw [q] at h;exact absurd h.2 (by decide)),Ib (by omega),da]
      ·rw [if_neg q,if_neg dh,if_pos ⟨f,by simpa using q⟩]
     ·rw [if_neg f,if_neg (fun h=>f h.1),Ib (by omega),da]
  have L:∀ (m i:Nat) (S:List (List UInt8×Int)),i≤d.Params.length→d.Params.length<m+i→(∀ n,(yb S n).getD 0=if (∃ y ∈ d.Params.take i,y.Name=n) then 1 else 0)→∃ e,Rn p d m i S=some e∧Uk l d m i=some e:=by
   intro m
   induction m with
   | zero=>intro i S u v; omega
   | succ m A =>
    intro i S u v B;rw [Rn,Uk];by_cases c:i<d.Params.length
    ·have ma:at_ d.Params (i:Int)=some d.Params[i]:=by rw [od,List.getElem?_eq_getElem c]
     have F:(if d.Kind≠2 then fp l d i d.Params[i] (Uk l d m) (decide (d.Kind≠3)) else fp l d i d.Params[i] (Uk l d m) false)=fp l d i d.Params[i] (Uk l d m) false:=by
      by_cases c2:d.Kind≠2
      ·rw [if_pos c2,decide_eq_false (by omega)]
      ·rw [if_neg c2]
     have G:cut d.Params 0 (i:Int)=some (d.Params.take i):=by
      rw [cut,if_pos (by omega)];simp
     rw [if_pos (by omega),if_pos (by omega),ma,da,da,F,fp,if_neg dh,G,da,show (0:Int)=((0:Nat):Int) from rfl,E d.Params[i] i (d.Params.take i) _ (by simp;omega) (by omega) _ 0 (by omega) (by omega),List.drop_zero];have s:=B d.Params[i].Name;by_cases w:∃ y ∈ d.Params.take i,y.Name=d.Params[i].Name
     ·rw [if_pos w] at s;rw [if_pos w,show ((0:Nat):Int)=0 from rfl,s,Ib (by decide),da,lh,if_pos rfl];exact ⟨7,rfl,rfl⟩
     ·rw [if_neg w] at s;rw [if_neg w,show ((0:Nat):Int)=0 from rfl,s,Ib (by decide),da,lh,if_pos rfl];show ∃ e,(if (1:Int)<1 then some 7 else _)=_∧_;rw [if_neg (by decide),Dt,Bj,da,Sm];have next:∃ e,(i64 ((i:Int)+1)).bind (fun i104=>Rn p d m i104 (Ue S d.Params[i].Name ((0:Int)+1)))=some e∧Uk l d m ((i:Int)+1)=some e:=by
       rw [Ib (by omega),da];refine A (i+1) _ c (by omega) fun n=>?_;rw [lh];by_cases q:d.Params[i].Name=n
       ·rw [if_pos q,if_pos ⟨d.Params[i],qw c,q⟩];rfl
       ·rw [if_neg q,B n];by_cases y:∃ y ∈ d.Params.take i,y.Name=n
        ·obtain ⟨y,a,g⟩:=y;rw [if_pos ⟨y,a,g⟩,if_pos ⟨y,by rw [List.take_succ_eq_append_getElem c];exact List.mem_append_left _ a,g⟩]
        ·have H:¬ ∃ z ∈ d.Params.take (i+1),z.Name=n:=by
          rintro ⟨z,k,z2⟩;rw [List.take_succ_eq_append_getElem c] at k;rcases List.mem_append.1 k with k | k
          ·exact y ⟨z,k,z2⟩
          ·rw [List.mem_singleton.1 k] at z2;exact q z2
         rw [if_neg y,if_neg H]
      by_cases f:d.Params[i].Ja.Kind=3
      ·rw [if_neg (by simpa using f)];simp only [da];by_cases q:Yi (yb p.named d.Params[i].Ja.Pa) 3=true
       ·rw [if_pos q,if_neg (fun h=>by rw [q] at h;exact absurd h.2 (by decide)),da,if_neg (show ¬ ((0:Int)≠0) by decide)];exact next
       ·rw [if_neg q,if_pos ⟨f,by simpa using q⟩];exact ⟨7,rfl,rfl⟩
      ·rw [if_pos (by simpa using f),if_neg (fun h=>f h.1),da,if_neg (show ¬ ((0:Int)≠0) by decide)];exact next
    ·rw [if_neg (by omega),if_neg (by omega)];exact We
  exact L (d.Params.length+1) 0 [] (by omega) (by omega) fun n=>by simp [yb]
 ·have Qb:d.Kind=1∨d.Kind=4:=by have:=t.Qb;have:=t.De;omega
  have bb:Xm p d=To d:=by
   rw [Xm,if_neg (by omega),decide_eq_false (by omega),Uo,if_neg dh]
  have ma:mr l d=Uq d:=by
   rw [mr,Uk];by_cases c:(0:Int)<(d.Params.length:Int)
   ·rw [if_pos c,Fo (by omega),da,if_pos (by omega),decide_eq_true (by omega),fp,if_pos rfl]
   ·rw [if_neg c]
  rw [bb,ma];exact We
end
def jz (a:Option (Pb×Oc)) (b:Option (List pe×Oc)):Prop:=∃ p f,a=some (p,f)∧f.gg≠0∧b=some ([],f)
theorem qI {fu:Nat}(hu:5000≤fu){l:List na}{N:List (List UInt8×na)}(C:Ctx l ⟨l,N⟩) (Ba:∀ d ∈ l,uj ⟨l,N⟩ d):∀ (m i:Nat),i≤l.length→l.length<m+i→jz (fm fu l N m i) (Kq fu l m i)∨(fm fu l N m i=some (⟨l,N⟩,⟨0,0⟩)∧Kq fu l m i=Ck fu l (l.length+1) 0 []):=by
 have za:=C.len;intro m
 induction m with
 | zero=>intro i a b; omega
 | succ m f =>
  intro i a b;rw [fm,Kq];by_cases c:i<l.length
  ·have hm:=List.getElem_mem c;obtain ⟨e,g,j⟩:=IG C (fun k d h=>Ba d (C.only k d h).1) (Ba _ hm) (C.Oj _ hm) hu;have ma:at_ l (i:Int)=some l[i]:=by rw [od,List.getElem?_eq_getElem c]
   rw [if_pos (by omega),if_pos (by omega),ma,da,da,g,da,j,da];by_cases z:e=0
   ·rw [if_neg (fun h=>h z),if_neg (fun h=>h z),Ib (by omega),da,da];exact f (i+1) c (by omega)
   ·rw [if_pos z,if_pos z];exact .inl ⟨_,_,rfl,z,rfl⟩
  ·rw [if_neg (by omega),if_neg (by omega)];exact .inr ⟨rfl,rfl⟩
theorem rI {fu:Nat}(hu:5000≤fu){l:List na}{N:List (List UInt8×na)}(C:Ctx l ⟨l,N⟩) (ok:sv l):∀ (m i:Nat),i≤l.length→l.length<m+i→(∀ d ∈ l.take i,uj ⟨l,N⟩ d)→jz (gm fu l N m i) (Lq fu l m i)∨(gm fu l N m i=some (⟨l,N⟩,⟨0,0⟩)∧Lq fu l m i=Ck fu l (l.length+1) 0 []):=by
 have za:=C.len;intro m
 induction m with
 | zero=>intro i b f; omega
 | succ m g =>
  intro i b f Ba;rw [gm,Lq];by_cases c:i<l.length
  ·have hm:=List.getElem_mem c;obtain ⟨e,a,j⟩:=JG C (C.Oj _ hm);obtain ⟨k,s1,s2⟩:=cA ⟨l,N⟩ l[i] (ok.ok _ hm);rw [a] at s1;obtain rfl:=Option.some.inj s1;have ma:at_ l (i:Int)=some l[i]:=by rw [od,List.getElem?_eq_getElem c]
   rw [if_pos (by omega),if_pos (by omega),ma,da,da,a,da,j,da];by_cases z:e=0
   ·rw [if_neg (fun h=>h z),if_neg (fun h=>h z),Ib (by omega),da,da];refine g (i+1) c (by omega) fun d h=>?_;rw [List.take_succ_eq_append_getElem c] at h;rcases List.mem_append.1 h with h | h
    ·exact Ba d h
    ·rw [List.mem_singleton.1 h];exact s2 z
   ·rw [if_pos z,if_pos z];exact .inl ⟨_,_,rfl,z,rfl⟩
  ·rw [if_neg (by omega),if_neg (by omega)];rw [List.take_of_length_le (by omega)] at Ba;exact qI hu C Ba _ 0 (by omega) (by omega)
theorem KG {fu:Nat}(hu:100≤fu){l:List na}(za:l.length≤30) (t:Int) (n:0≤t∧t≤100){i:Nat}(d:i<l.length) (K:Int→Int→Option (List pe×Oc)):∀ (m j:Nat),j≤i→i<m+j→ps l t i K m j=if (∃ y ∈ (l.take i).drop j,y.Name=l[i].Name) then some ([],⟨7,i⟩) else if l[i].Kind=4 then K (t+1) ((i:Int)+1) else K t ((i:Int)+1):=by
 have ma:at_ l (i:Int)=some l[i]:=by rw [od,List.getElem?_eq_getElem d]
 have hlen:(l.take i).length=i:=by rw [List.length_take];omega
 intro m
 induction m with
 | zero=>intro j e f; omega
 | succ m g =>
  intro j e f;rw [ps];by_cases c:j<i
  ·have h:at_ l (j:Int)=some (l[j]'(by omega)):=by rw [od,List.getElem?_eq_getElem (by omega)]
   have k:(l.take i).drop j=l[j]'(by omega)::(l.take i).drop (j+1):=by
    rw [List.drop_eq_getElem_cons (by omega),List.getElem_take]
   rw [if_pos (by omega),h,da,ma,da,k];by_cases q:(l[j]'(by omega)).Name=l[i].Name
   ·rw [if_pos q,if_pos ⟨_,List.mem_cons_self ..,q⟩]
   ·rw [if_neg q,Ib (by omega),da];have:=g (j+1) c (by omega);rw [show ((j:Int)+1)=((j+1:Nat):Int) from rfl,this];by_cases w:∃ y ∈ (l.take i).drop (j+1),y.Name=l[i].Name
    ·obtain ⟨y,a,b⟩:=w;rw [if_pos ⟨y,a,b⟩,if_pos ⟨y,List.mem_cons_of_mem _ a,b⟩]
    ·have w':¬ ∃ y ∈ l[j]'(by omega)::(l.take i).drop (j+1),y.Name=l[i].Name:=by
      rintro ⟨y,a,b⟩;rcases List.mem_cons.1 a with rfl | a
      ·exact q b
      ·exact w ⟨y,a,b⟩
     rw [if_neg w,if_neg w']
  ·rw [if_neg (by omega),ma,da,List.drop_eq_nil_of_le (by omega),if_neg (show ¬ ∃ y ∈ ([]:List na),y.Name=l[i].Name by simp)];by_cases De:l[i].Kind=4
   ·rw [if_pos De,if_pos De,Ib (by omega),da,Ib (by omega),da]
   ·rw [if_neg De,if_neg De,Ib (by omega),da]
theorem TF {fu:Nat}(hu:5000≤fu){l:List na}(ok:sv l) (j:∀ d ∈ l,zk d):∀ (m i:Nat) (t:Int) (N:List (List UInt8×na)),i≤l.length→l.length<m+i→0≤t∧t≤i→(∀ n d,yb N n=some d→d ∈ l.take i∧d.Name=n)→(∀ d ∈ l.take i,yb N d.Name=some d) →
  jz (xl fu l m t i N) (Vo fu l m t i)∨(∃ k,xl fu l m t i N=some (⟨l,k⟩,⟨0,0⟩)∧Vo fu l m t i=Ck fu l (l.length+1) 0 []):=by
 have za:=ok.le;intro m
 induction m with
 | zero=>intro i t N o p; omega
 | succ m r =>
  intro i t N o p x e f;rw [xl,Vo];by_cases c:i<l.length
  ·have ma:at_ l (i:Int)=some l[i]:=by rw [od,List.getElem?_eq_getElem c]
   have tf:=List.take_succ_eq_append_getElem c;rw [if_pos (by omega),if_pos (by omega),ma];simp only [da];rw [show (0:Int)=((0:Nat):Int) from rfl,KG (fu:=fu) (by omega) za t (by omega) c _ fu 0 (by omega) (by omega)];by_cases q:(yb N l[i].Name).isSome=true
   ·rw [if_pos q];obtain ⟨d,Ba⟩:=Option.isSome_iff_exists.1 q;obtain ⟨m1,m2⟩:=e _ _ Ba;rw [List.drop_zero,if_pos ⟨d,m1,m2⟩];exact .inl ⟨_,_,rfl,(show (7:Int)≠0 by decide),rfl⟩
   ·have s:¬ ∃ y ∈ (l.take i).drop 0,y.Name=l[i].Name:=by
     rintro ⟨y,g,u⟩;rw [List.drop_zero] at g;have:=f _ g;rw [u] at this;rw [this] at q;exact q rfl
    rw [if_neg q,if_neg s];have key:∀ Rd,0≤Rd∧Rd≤((i+1:Nat):Int)→_:=fun Rd h=>r (i+1) Rd (Ue N l[i].Name l[i]) c (by omega) h (fun n d Ba=>by
     rw [lh] at Ba;by_cases w:l[i].Name=n
     ·rw [if_pos w] at Ba;obtain rfl:=Option.some.inj Ba;exact ⟨qw c,w⟩
     ·rw [if_neg w] at Ba;obtain ⟨a,b⟩:=e _ _ Ba;exact ⟨by rw [tf];exact List.mem_append_left _ a,b⟩) (fun d Ba=>by
     rw [lh];rw [tf] at Ba;rcases List.mem_append.1 Ba with Ba | Ba
     ·have:=f d Ba;by_cases w:l[i].Name=d.Name
      ·rw [w,this] at q;exact absurd rfl q
      ·rw [if_neg w,this]
     ·rw [List.mem_singleton.1 Ba,if_pos rfl])
    by_cases De:l[i].Kind=4
    ·rw [if_pos De,if_pos De,Ib (by omega),da,Ib (by omega),da];exact key (t+1) (by omega)
    ·rw [if_neg De,if_neg De,Ib (by omega),da];exact key t (by omega)
  ·rw [if_neg (show ¬ ((i:Int)<(l.length:Int)) by omega),if_neg (show ¬ ((i:Int)<(l.length:Int)) by omega)];rw [List.take_of_length_le (by omega)] at e f;by_cases z:t=0
   ·rw [if_pos z,if_pos z];exact .inl ⟨_,_,rfl,(show (6:Int)≠0 by decide),rfl⟩
   ·rw [if_neg z,if_neg z];have C:Ctx l ⟨l,N⟩:=⟨za,e,f,j⟩;rcases rI hu C ok (l.length+1) 0 (by omega) (by omega) (by simp) with h | ⟨h,v⟩
    ·exact .inl h
    ·exact .inr ⟨N,h,v⟩
end Go.Y
namespace Go.Y
open Go.pc Go.nd
def fi (q:Int):Nat→hb→List Nm
 | 0,_=>[]
 | k+1,x=>(if x.Kind=q then [x.Name] else [])++(x.Kids.map (fi q k)).flatten
def wg (q:Int):Nat→cb→List Nm
 | 0,_=>[]
 | k+1,s=>(if q=0 then (if s.Kind=7 then [s.Name] else []) else if s.Kind=6 then [] else fi q k s.X)++(if s.Kind=3∨s.Kind=4 then (s.Body.map (wg q k)).flatten else [])++(if s.Kind=3 then (s.Qd.map (wg q k)).flatten else [])
def Pk (q:Int) (d:na):List Nm:=(d.Body.map (wg q 39)).flatten
theorem fw {α β:Type}(f:α→α) (g:α→β) (l:List α) (h:∀ y ∈ l,g (f y)=g y):(l.map f).map g=l.map g:=by
 rw [List.map_map];exact List.map_congr_left h
section
variable {q:Int}
theorem wB (o:q=0∨q=19∨q=20∨q=22):∀ (k K:Nat) (x:hb),yk k x→k≤K→yk k (Zj K x)∧Io k (Zj K x)∧fi q k (Zj K x)=fi q k x:=by
 intro k
 induction k with
 | zero=>intro K x h; exact h.elim
 | succ k f =>
  intro K x h p;obtain ⟨K,rfl⟩:∃ m,K=m+1:=⟨K - 1,by omega⟩;obtain ⟨Qb,g,b,i,j,l,n⟩:=h;have d:=fun y a=>f K y (n y a) (by omega);rw [Zj];refine ⟨⟨Qb,g,⟨by simpa using b.eq,by simpa using b.le⟩,fun h=>?_,fun h=>?_,fun h=>?_,fun y a=>?_⟩,⟨?_,fun y a=>?_⟩,?_⟩
  ·dsimp only at h ⊢;rw [if_pos (.inl h)];exact i h
  ·dsimp only at h ⊢;rw [if_pos (.inr h)];exact j h
  ·dsimp only at h ⊢;rw [if_pos h];exact l h
  ·obtain ⟨z,e,rfl⟩:=List.mem_map.1 a;exact (d z e).1
  ·have:=b.le;simp only [List.length_map];omega
  ·obtain ⟨z,e,rfl⟩:=List.mem_map.1 a;exact (d z e).2.1
  ·rw [fi,fi];dsimp only;rw [fw _ _ _ fun y a=>(d y a).2.2];congr 1;by_cases c:x.Kind=q
   ·rw [if_pos c,if_pos c,if_pos (by omega)]
   ·rw [if_neg c,if_neg c]
theorem xB (l:q=0∨q=19∨q=20∨q=22):∀ (k K:Nat) (x:cb),nj k x→k≤K→nj k (vf K x)∧Nk (k+1) (vf K x)∧wg q k (vf K x)=wg q k x:=by
 intro k
 induction k with
 | zero=>intro K x h; exact h.elim
 | succ k j =>
  intro K x h r;obtain ⟨K,rfl⟩:∃ m,K=m+1:=⟨K - 1,by omega⟩;obtain ⟨Qb,n,o,p,d,e⟩:=h;rw [vf];have f:x.Kind≠6→yk k (Zj K x.X)∧Io k (Zj K x.X)∧fi q k (Zj K x.X)=fi q k x.X:=fun h=>wB l k K x.X (o h) (by omega);have g:(x.Kind=3∨x.Kind=4)→∀ y ∈ x.Body,nj k (vf K y)∧Nk (k+1) (vf K y)∧wg q k (vf K y)=wg q k y:=fun h y a=>j K y ((d h).2 y a) (by omega);have i:x.Kind=3→∀ y ∈ x.Qd,nj k (vf K y)∧Nk (k+1) (vf K y)∧wg q k (vf K y)=wg q k y:=fun h y a=>j K y ((e h).2 y a) (by omega);refine ⟨⟨Qb,n,fun h=>?_,fun h=>?_,fun h=>⟨?_,fun y a=>?_⟩,fun h=>⟨?_,fun y a=>?_⟩⟩,⟨?_,⟨?_,fun y a=>?_⟩,⟨?_,fun y a=>?_⟩⟩,?_⟩
  ·dsimp only at h ⊢;rw [if_pos h];exact (f h).1
  ·dsimp only at h ⊢;rw [if_pos h];exact p h
  ·dsimp only at h ⊢;rw [if_pos h,List.length_map];exact (d h).1
  ·dsimp only at h a;rw [if_pos h] at a;obtain ⟨z,b,rfl⟩:=List.mem_map.1 a;exact (g h z b).1
  ·dsimp only at h ⊢;rw [if_pos h,List.length_map];exact (e h).1
  ·dsimp only at h a;rw [if_pos h] at a;obtain ⟨z,b,rfl⟩:=List.mem_map.1 a;exact (i h z b).1
  ·dsimp only;by_cases c:x.Kind≠6
   ·rw [if_pos c];exact (f c).2.1.up (by omega)
   ·rw [if_neg c];exact ⟨by simp,by simp⟩
  ·dsimp only;by_cases c:x.Kind=3∨x.Kind=4
   ·have:=(d c).1;rw [if_pos c,List.length_map];omega
   ·rw [if_neg c];simp
  ·dsimp only at a;by_cases c:x.Kind=3∨x.Kind=4
   ·rw [if_pos c] at a;obtain ⟨z,b,rfl⟩:=List.mem_map.1 a;exact (g c z b).2.1
   ·rw [if_neg c] at a;cases a
  ·dsimp only;by_cases c:x.Kind=3
   ·have:=(e c).1;rw [if_pos c,List.length_map];omega
   ·rw [if_neg c];simp
  ·dsimp only at a;by_cases c:x.Kind=3
   ·rw [if_pos c] at a;obtain ⟨z,b,rfl⟩:=List.mem_map.1 a;exact (i c z b).2.1
   ·rw [if_neg c] at a;cases a
  ·rw [wg,wg];dsimp only;congr 1
   ·congr 1
    ·by_cases z:q=0
     ·rw [if_pos z,if_pos z];by_cases c:x.Kind=7
      ·rw [if_pos c,if_pos c,if_pos (by omega)]
      ·rw [if_neg c,if_neg c]
     ·rw [if_neg z,if_neg z];by_cases c:x.Kind=6
      ·rw [if_pos c,if_pos c]
      ·rw [if_neg c,if_neg c,if_pos c];exact (f c).2.2
    ·by_cases c:x.Kind=3∨x.Kind=4
     ·rw [if_pos c,if_pos c,if_pos c,fw _ _ _ fun y a=>(g c y a).2.2]
     ·rw [if_neg c,if_neg c]
   ·by_cases c:x.Kind=3
    ·rw [if_pos c,if_pos c,if_pos c,fw _ _ _ fun y a=>(i c y a).2.2]
    ·rw [if_neg c,if_neg c]
end
theorem al {α:Type}{f:α→List Nm}{l:List α}{n:Nm}:n ∈ (l.map f).flatten ↔ ∃ y ∈ l,n ∈ f y:=by
 constructor
 ·intro h;obtain ⟨a,b,c⟩:=Vj h;exact ⟨a,b,c⟩
 ·rintro ⟨y,d,e⟩;exact List.mem_flatten.2 ⟨f y,List.mem_map.2 ⟨y,d,rfl⟩,e⟩
theorem UF (q:Int) (n:Nm):∀ (k m:Nat) (x:hb),yk k x→k+1≤m→(jn m).dj x q n=some (decide (n ∈ fi q k x)):=by
 intro k
 induction k with
 | zero=>intro m x h; exact h.elim
 | succ k a =>
  intro m x h hm;obtain ⟨m,rfl⟩:∃ q,m=q+1:=⟨m - 1,by omega⟩;obtain ⟨Qb,p,d,r,s,t,g⟩:=h;show dj (jn m) x q n=_;have u:=d.le;have L:∀ (f i:Nat),i≤x.Kids.length→x.Kids.length<f+i→ks (jn m) x q n f i=some (decide (n ∈ ((x.Kids.drop i).map (fi q k)).flatten)):=by
   intro f
   induction f with
   | zero=>intro i j l; omega
   | succ f o =>
    intro i j l;rw [ks];by_cases c:i<x.Kids.length
    ·rw [if_pos (by omega),od,List.getElem?_eq_getElem c,da,a m _ (g _ (List.getElem_mem c)) (by omega),da,List.drop_eq_getElem_cons c,List.map_cons,List.flatten_cons];by_cases w:n ∈ fi q k x.Kids[i]
     ·rw [if_pos (decide_eq_true w),decide_eq_true (List.mem_append_left _ w)]
     ·rw [if_neg (by simpa using w),Ib (by omega),da];have:=o (i+1) c (by omega);rw [show ((i:Int)+1)=((i+1:Nat):Int) from rfl,this];congr 1;exact decide_eq_decide.2 ⟨fun h=>List.mem_append_right _ h,fun h=>(List.mem_append.1 h).resolve_left w⟩
    ·rw [if_neg (by omega),List.drop_eq_nil_of_le (by omega)];rfl
  have We:∀ b,ns (jn m) x q n b=some (b || decide (n ∈ (x.Kids.map (fi q k)).flatten)):=by
   intro b;rw [ns];cases b with
   | true=>rfl
   | false =>
    have:=L (x.Kids.length+1) 0 (by omega) (by omega);rw [show ((0:Nat):Int)=0 from rfl,List.drop_zero] at this;rw [if_neg dh,this,Bool.false_or]
  rw [dj,fi];by_cases c:x.Kind=q
  ·rw [if_pos c,We,if_pos c];congr 1;rw [← Bool.decide_or];exact decide_eq_decide.2 ⟨fun h=>h.elim (fun e=>List.mem_append_left _ (List.mem_singleton.2 e.symm)) fun e=>List.mem_append_right _ e,fun h=>(List.mem_append.1 h).imp (fun e=>(List.mem_singleton.1 e).symm) id⟩
  ·rw [if_neg c,We,if_neg c,Bool.false_or,List.nil_append]
theorem xH (q:Int) (g:q=0∨q=19∨q=20∨q=22) (n:Nm):∀ (k K m:Nat) (L:List cb),L.length≤50→(∀ y ∈ L,nj k y∧Nk K y)→k≤K→K+50+k≤m→(Wi m).Ff L q n=some (decide (n ∈ (L.map (wg q k)).flatten)):=by
 intro k
 induction k with
 | zero =>
  intro K m L C h E hm;have:L=[]:=by
   cases L with
   | nil=>rfl
   | cons y L=>exact ((h y (List.mem_cons_self ..)).1).elim
  subst this;obtain ⟨m,rfl⟩:∃ q,m=q+1:=⟨m - 1,by omega⟩;show Ff m (Wi m) [] q n=_;rw [Ff,rB m K [] (by omega) (by simp) (by simp),da];rfl
 | succ k F =>
  intro K m L C h E hm;obtain ⟨m,rfl⟩:∃ q,m=q+1:=⟨m - 1,by omega⟩;obtain ⟨K,rfl⟩:∃ q,K=q+1:=⟨K - 1,by omega⟩;show Ff m (Wi m) L q n=_;rw [Ff,rB m (K+1) L (by omega) (by omega) (fun y a=>(h y a).2),da,List.length_map];have j:∀ (M:List cb),M.length≤50→(∀ y ∈ M,nj k y)→(Wi m).Ff (M.map (vf K)) q n=some (decide (n ∈ (M.map (wg q k)).flatten)):=by
   intro M G a;have:=F (k+1) m (M.map (vf K)) (by simpa using G) (fun y l=>by
    obtain ⟨z,N,rfl⟩:=List.mem_map.1 l;have:=xB g k K z (a z N) (by omega);exact ⟨this.1,this.2.1⟩) (Nat.le_succ _) (by omega)
   rw [this,fw _ _ _ fun y l=>(xB g k K y (a y l) (by omega)).2.2]
  have p:(Wi m).Ff [] q n=some false:=by
   have:=j [] (by simp) (by simp);exact this
  have O:∀ (f i:Nat),i≤L.length→L.length<f+i→Ph m (Wi m) q n (L.map (vf (K+1))) f i=some (decide (n ∈ ((L.drop i).map (wg q (k+1))).flatten)):=by
   intro f
   induction f with
   | zero=>intro i P Q; omega
   | succ f R =>
    intro i P Q;rw [Ph,List.length_map];by_cases c:i<L.length
    ·obtain ⟨s,S⟩:=h _ (List.getElem_mem c);rw [if_pos (by omega),od,List.getElem?_map,List.getElem?_eq_getElem c];dsimp only [Option.map];rw [da,List.drop_eq_getElem_cons c,List.map_cons,List.flatten_cons];have xb:=R (i+1) c (by omega);generalize L[i]=x at s S ⊢;have t:∀ b,vi i (Ph m (Wi m) q n (L.map (vf (K+1))) f) b=some (b || decide (n ∈ ((L.drop (i+1)).map (wg q (k+1))).flatten)):=by
      intro b;rw [vi];cases b with
      | true=>rfl
      | false=>rw [if_neg dh,Ib (by omega),da,Bool.false_or]; exact xb
     obtain ⟨Qb,gc,T,lc,u,v⟩:=s;have V:(Wi m).Ff (vf (K+1) x).Body q n=some (decide (n ∈ (if x.Kind=3∨x.Kind=4 then (x.Body.map (wg q k)).flatten else []))):=by
      rw [vf];dsimp only;by_cases w:x.Kind=3∨x.Kind=4
      ·rw [if_pos w,if_pos w];exact j _ (u w).1 (u w).2
      ·rw [if_neg w,if_neg w,p];rfl
     have W:(Wi m).Ff (vf (K+1) x).Qd q n=some (decide (n ∈ (if x.Kind=3 then (x.Qd.map (wg q k)).flatten else []))):=by
      rw [vf];dsimp only;by_cases w:x.Kind=3
      ·rw [if_pos w,if_pos w];exact j _ (v w).1 (v w).2
      ·rw [if_neg w,if_neg w,p];rfl
     have kk:(vf (K+1) x).Kind=x.Kind:=rfl;have fin:∀ (H A B D:List Nm) (b:Bool),(b=true ↔ n ∈ H)→((b || decide (n ∈ A)) || decide (n ∈ B) || decide (n ∈ D))=decide (n ∈ H++A++B++D):=by
      intro H A B D b d;cases b with
      | true =>
       rw [Bool.true_or,Bool.true_or,Bool.true_or];exact (decide_eq_true (by simp [d.1 rfl])).symm
      | false =>
       have:n ∉ H:=fun h=>by have:=d.2 h;cases this
       rw [Bool.false_or,← Bool.decide_or,← Bool.decide_or];exact decide_eq_decide.2 (by simp [this,or_assoc])
     have rest:∀ (H:List Nm) (b:Bool),(b=true ↔ n ∈ H)→∀ o:Option Bool,o=some b→(o.bind fun r=>if r=true then vi i (Ph m (Wi m) q n (L.map (vf (K+1))) f) true else ((Wi m).Ff (vf (K+1) x).Body q n).bind fun r=>if r=true then vi i (Ph m (Wi m) q n (L.map (vf (K+1))) f) true else ((Wi m).Ff (vf (K+1) x).Qd q n).bind fun r=>vi i (Ph m (Wi m) q n (L.map (vf (K+1))) f) r)=some (decide (n ∈ H++(if x.Kind=3∨x.Kind=4 then (x.Body.map (wg q k)).flatten else [])++(if x.Kind=3 then (x.Qd.map (wg q k)).flatten else [])++((L.drop (i+1)).map (wg q (k+1))).flatten)):=by
      intro H b d o Y;rw [Y,da,← fin H _ _ _ b d,V,da,W,da,t,t];cases b with
      | true=>rfl
      | false =>
       rw [if_neg dh,Bool.false_or];by_cases w:n ∈ (if x.Kind=3∨x.Kind=4 then (x.Body.map (wg q k)).flatten else [])
       ·rw [decide_eq_true w];rfl
       ·rw [decide_eq_false w,if_neg dh,Bool.false_or]
     rw [wg,kk];by_cases z:q=0
     ·have e:¬ (0:Int)<q:=by omega
      rw [if_pos z,if_pos z];by_cases Tf:x.Kind=7
      ·have Z:(vf (K+1) x).Name=x.Name:=by
        rw [vf];dsimp only;rw [if_pos (by omega)]
       rw [if_pos Tf,if_pos Tf,Z];by_cases w:x.Name=n
       ·rw [if_pos w];have:=rest [x.Name] true (by simp [w]) (some true) rfl;rw [da,if_pos rfl] at this;exact this
       ·rw [if_neg w,if_neg e];have:=rest [x.Name] false (by simp [Ne.symm w]) (some false) rfl;rw [da,if_neg dh] at this;exact this
      ·rw [if_neg Tf,if_neg Tf,if_neg e];have:=rest [] false (by simp) (some false) rfl;rw [da,if_neg dh] at this;exact this
     ·have e:(0:Int)<q:=by omega
      have sp:(jn m).dj (vf (K+1) x).X q n=some (decide (n ∈ (if x.Kind=6 then [] else fi q k x.X))):=by
       rw [vf];dsimp only;by_cases Sd:x.Kind≠6
       ·have:=wB g k K x.X (T Sd) (by omega);rw [if_pos Sd,if_neg Sd,UF q n k m _ this.1 (by omega),this.2.2]
       ·obtain ⟨m,rfl⟩:∃ q,m=q+1:=⟨m - 1,by omega⟩;rw [if_neg Sd,if_pos (by simpa using Sd)];show dj (jn m) ⟨0,0,[],[]⟩ q n=_;rw [dj,if_neg (show ¬ (0:Int)=q from fun h=>z h.symm)];rfl
      rw [if_neg z,if_neg z,if_pos e];exact rest _ _ (by simp) _ sp
    ·rw [if_neg (by omega),List.drop_eq_nil_of_le (by omega)];rfl
  have:=O (L.length+1) 0 (by omega) (by omega);rw [show ((0:Nat):Int)=0 from rfl,List.drop_zero] at this;exact this
end Go.Y
namespace Go.Y
open Go.pc Go.nd
inductive vl (l:List na) (t:na):na→Prop
 | base:vl l t t
 | step {d e:na}:vl l t d→e ∈ l→(e.Kind=2∨e.Kind=3)→e.Name ∈ Gm d→vl l t e
theorem ox:∀ (k:Nat) (x:hb) (c:Nm),c ∈ fi 19 k x∨c ∈ fi 22 k x→c ∈ Vi k x
 | 0,_,_,h=>by rcases h with h | h <;> cases h
 | k+1,x,c,h=>by
  rw [Vi];rcases h with h | h
  ·rw [fi] at h;rcases List.mem_append.1 h with h | h
   ·rcases Hl h with ⟨q,h⟩ | ⟨q,h⟩
    ·rw [if_pos (.inl q)];exact List.mem_append_left _ h
    ·cases h
   ·obtain ⟨a,b,d⟩:=Vj h;exact List.mem_append_right _ (al.2 ⟨a,b,ox k a c (.inl d)⟩)
  ·rw [fi] at h;rcases List.mem_append.1 h with h | h
   ·rcases Hl h with ⟨q,h⟩ | ⟨q,h⟩
    ·rw [if_pos (.inr q)];exact List.mem_append_left _ h
    ·cases h
   ·obtain ⟨a,b,d⟩:=Vj h;exact List.mem_append_right _ (al.2 ⟨a,b,ox k a c (.inr d)⟩)
theorem hD {p:Pb}:∀ (k:Nat) (x:hb),Calls p k x→∀ c ∈ Vi k x,(c ∈ fi 19 k x∧∃ d,yb p.named c=some d∧d.Kind=2)∨(c ∈ fi 22 k x∧∃ d,yb p.named c=some d∧d.Kind=3)
 | 0,_,h,_,_=>h.elim
 | k+1,x,h,c,b=>by
  obtain ⟨g,i,m,j⟩:=h;rw [Vi] at b;rw [fi,fi];rcases List.mem_append.1 b with b | b
  ·rcases Hl b with ⟨q,b⟩ | ⟨q,b⟩
   ·have e:=List.mem_singleton.1 b;rcases q with q | q
    ·refine .inl ⟨?_,?_⟩
     ·rw [if_pos q];exact List.mem_append_left _ b
     ·rw [e];exact g q
    ·refine .inr ⟨?_,?_⟩
     ·rw [if_pos q];exact List.mem_append_left _ b
     ·rw [e];exact i q
   ·cases b
  ·obtain ⟨a,f,l⟩:=Vj b;rcases hD k a (j a f) c l with ⟨q1,q2⟩ | ⟨q1,q2⟩
   ·exact .inl ⟨List.mem_append_right _ (al.2 ⟨a,f,q1⟩),q2⟩
   ·exact .inr ⟨List.mem_append_right _ (al.2 ⟨a,f,q1⟩),q2⟩
theorem iD:∀ (k:Nat) (x:hb),gk k x=fi 20 k x
 | 0,_=>rfl
 | k+1,x=>by rw [gk,fi,List.map_congr_left fun y _=>iD k y]
theorem kz:∀ (k:Nat) (x:cb),ti k x=wg 0 k x
 | 0,_=>rfl
 | k+1,x=>by rw [ti,wg,if_pos rfl,List.map_congr_left (f:=ti k) (g:=wg 0 k) fun y _=>kz k y,List.map_congr_left (f:=ti k) (g:=wg 0 k) fun y _=>kz k y]
theorem lz:∀ (k:Nat) (x:cb),si k x=wg 20 k x
 | 0,_=>rfl
 | k+1,x=>by rw [si,wg,if_neg (show ¬ (20:Int)=0 by decide),iD,List.map_congr_left (f:=si k) (g:=wg 20 k) fun y _=>lz k y,List.map_congr_left (f:=si k) (g:=wg 20 k) fun y _=>lz k y]
theorem VI (d:na):Zl d=Pk 0 d:=by rw [Zl,Pk,List.map_congr_left fun y _=>kz 39 y]
theorem WI (d:na):bm d=Pk 20 d:=by rw [bm,Pk,List.map_congr_left fun y _=>lz 39 y]
theorem Gt {c:Prop}[Decidable c]{l:List Nm}{b:Nm}(h:c) (a:b ∈ l):b ∈ (if c then l else []):=by rw [if_pos h];exact a
theorem px:∀ (k:Nat) (x:cb) (c:Nm),c ∈ wg 19 k x∨c ∈ wg 22 k x→c ∈ Jh k x
 | 0,_,_,h=>by rcases h with h | h <;> cases h
 | k+1,x,c,h=>by
  have key:∀ q:Int,q≠0→(∀ y,c ∈ fi q k y→c ∈ Vi k y)→(∀ y,c ∈ wg q k y→c ∈ Jh k y)→c ∈ wg q (k+1) x→c ∈ Jh (k+1) x:=by
   intro q g i f h;rw [wg,if_neg g] at h;rw [Jh];rcases List.mem_append.1 h with h | h
   ·rcases List.mem_append.1 h with h | h
    ·refine List.mem_append_left _ (List.mem_append_left _ ?_);rcases Hl h with ⟨w,h⟩ | ⟨w,h⟩
     ·cases h
     ·rw [if_neg w];exact i _ h
    ·refine List.mem_append_left _ (List.mem_append_right _ ?_);rcases Hl h with ⟨w,h⟩ | ⟨w,h⟩
     ·obtain ⟨a,d,e⟩:=Vj h;exact Gt w (al.2 ⟨a,d,f a e⟩)
     ·cases h
   ·refine List.mem_append_right _ ?_;rcases Hl h with ⟨w,h⟩ | ⟨w,h⟩
    ·obtain ⟨a,d,e⟩:=Vj h;exact Gt w (al.2 ⟨a,d,f a e⟩)
    ·cases h
  rcases h with h | h
  ·exact key 19 (by decide) (fun y b=>ox k y c (.inl b)) (fun y b=>px k y c (.inl b)) h
  ·exact key 22 (by decide) (fun y b=>ox k y c (.inr b)) (fun y b=>px k y c (.inr b)) h
theorem mz {p:Pb}:∀ (k:Nat) (x:cb),tk p k x→∀ c ∈ Jh k x,(c ∈ wg 19 k x∧∃ d,yb p.named c=some d∧d.Kind=2)∨(c ∈ wg 22 k x∧∃ d,yb p.named c=some d∧d.Kind=3)
 | 0,_,h,_,_=>h.elim
 | k+1,x,h,c,e=>by
  obtain ⟨i,j,l,m⟩:=h;rw [Jh] at e;rw [wg,wg,if_neg (show ¬ (19:Int)=0 by decide),if_neg (show ¬ (22:Int)=0 by decide)];rcases List.mem_append.1 e with e | e
  ·rcases List.mem_append.1 e with e | e
   ·rcases Hl e with ⟨w,e⟩ | ⟨w,e⟩
    ·cases e
    ·rw [if_neg w,if_neg w];exact (hD k _ (i w) c e).imp (fun ⟨a,b⟩=>⟨List.mem_append_left _ (List.mem_append_left _ a),b⟩) (fun ⟨a,b⟩=>⟨List.mem_append_left _ (List.mem_append_left _ a),b⟩)
   ·rcases Hl e with ⟨w,e⟩ | ⟨w,e⟩
    ·obtain ⟨a,f,g⟩:=Vj e;exact (mz k a (j w a f) c g).imp (fun ⟨q,b⟩=>⟨List.mem_append_left _ (List.mem_append_right _ (Gt w (al.2 ⟨a,f,q⟩))),b⟩) (fun ⟨q,b⟩=>⟨List.mem_append_left _ (List.mem_append_right _ (Gt w (al.2 ⟨a,f,q⟩))),b⟩)
    ·cases e
  ·rcases Hl e with ⟨w,e⟩ | ⟨w,e⟩
   ·obtain ⟨a,f,g⟩:=Vj e;exact (mz k a (l w a f) c g).imp (fun ⟨q,b⟩=>⟨List.mem_append_right _ (Gt w (al.2 ⟨a,f,q⟩)),b⟩) (fun ⟨q,b⟩=>⟨List.mem_append_right _ (Gt w (al.2 ⟨a,f,q⟩)),b⟩)
   ·cases e
def rl (d e:na):Prop:=(e.Kind=2∧e.Name ∈ Pk 19 d)∨(e.Kind=3∧e.Name ∈ Pk 22 d)
instance (d e:na):Decidable (rl d e):=by unfold rl;infer_instance
theorem KC {p:Pb}{l:List na}(R:ki p l){d e:na}(Ba:d ∈ l) (Qb:d.Kind≠1) (he:e ∈ l):rl d e ↔ (e.Kind=2∨e.Kind=3)∧e.Name ∈ Gm d:=by
 constructor
 ·rintro (⟨g,c⟩ | ⟨g,c⟩)
  ·obtain ⟨a,b,f⟩:=Vj c;exact ⟨.inl g,al.2 ⟨a,b,px 39 a _ (.inl f)⟩⟩
  ·obtain ⟨a,b,f⟩:=Vj c;exact ⟨.inr g,al.2 ⟨a,b,px 39 a _ (.inr f)⟩⟩
 ·rintro ⟨-,c⟩;obtain ⟨a,b,f⟩:=Vj c;have i:=R.Df e he;rcases mz 39 a (R.cs d Ba Qb a b) _ f with ⟨q,j,ma,h⟩ | ⟨q,j,ma,h⟩
  ·rw [i] at ma;obtain rfl:=Option.some.inj ma;exact .inl ⟨h,al.2 ⟨a,b,q⟩⟩
  ·rw [i] at ma;obtain rfl:=Option.some.inj ma;exact .inr ⟨h,al.2 ⟨a,b,q⟩⟩
theorem Ey (N:List (Nm×na)):∀ (cs a:List Nm) (todo:List (Option na)),
  (∀ c ∈ cs,c ∈ (xj N cs a todo).1)∧(∀ c ∈ a,c ∈ (xj N cs a todo).1)∧(∀ c ∈ (xj N cs a todo).1,c ∈ a∨(c ∈ cs∧yb N c ∈ (xj N cs a todo).2))∧(∀ o ∈ todo,o ∈ (xj N cs a todo).2)∧(∀ o ∈ (xj N cs a todo).2,o ∈ todo∨∃ c ∈ cs,o=yb N c)
 | [],a,todo=>⟨fun c h=>(by cases h),fun c h=>h,fun c h=>.inl h,fun o h=>h,fun o h=>.inl h⟩
 | c::cs,a,todo=>by
  rw [xj];by_cases k:a.contains c=true
  ·rw [if_pos k];obtain ⟨Da,a2,a3,a4,a5⟩:=Ey N cs a todo;have g:c ∈ a:=by simpa using k
   refine ⟨fun x b=>?_,a2,fun x b=>(a3 x b).imp id fun ⟨y,z⟩=>⟨List.mem_cons_of_mem _ y,z⟩,a4,fun o d=>(a5 o d).imp id fun ⟨y,e,f⟩=>⟨y,List.mem_cons_of_mem _ e,f⟩⟩;rcases List.mem_cons.1 b with rfl | b
   ·exact a2 _ g
   ·exact Da x b
  ·rw [if_neg k];obtain ⟨Da,a2,a3,a4,a5⟩:=Ey N cs (a++[c]) (todo++[yb N c]);refine ⟨fun x b=>?_,fun x b=>a2 x (List.mem_append_left _ b),fun x b=>?_,fun o d=>a4 o (List.mem_append_left _ d),fun o d=>?_⟩
   ·rcases List.mem_cons.1 b with rfl | b
    ·exact a2 _ (List.mem_append_right _ (List.mem_singleton.2 rfl))
    ·exact Da x b
   ·rcases a3 x b with h | ⟨h,i⟩
    ·rcases List.mem_append.1 h with h | h
     ·exact .inl h
     ·obtain rfl:=List.mem_singleton.1 h;exact .inr ⟨List.mem_cons_self ..,a4 _ (List.mem_append_right _ (List.mem_singleton.2 rfl))⟩
    ·exact .inr ⟨List.mem_cons_of_mem _ h,i⟩
   ·rcases a5 o d with h | ⟨y,e,f⟩
    ·rcases List.mem_append.1 h with h | h
     ·exact .inl h
     ·exact .inr ⟨c,List.mem_cons_self ..,List.mem_singleton.1 h⟩
    ·exact .inr ⟨y,List.mem_cons_of_mem _ e,f⟩
structure jJ (p:Pb) (l:List na) (t:na) (a:List Nm) (todo:List (Option na)) (s r:List Nm) (D:List na):Prop where
 i1:∀ b,b ∈ s ↔ ∃ d ∈ D,b ∈ Zl d
 i2:∀ b,b ∈ r ↔ ∃ d ∈ D,b ∈ bm d
 i3:∀ d,d ∈ D∨some d ∈ todo→vl l t d∧d ∈ l∧d.Kind≠1
 i4:∀ d ∈ D,∀ c ∈ Gm d,c ∈ a
 i5:∀ c ∈ a,∃ e,yb p.named c=some e∧(e ∈ D∨some e ∈ todo)
 i6:t ∈ D∨some t ∈ todo
theorem yH {p:Pb}{l:List na}(R:ki p l){t:na}:∀ (n:Nat) (k:List Nm) (todo:List (Option na)) (s r:List Nm) (D:List na) (u:uf),ml p.named n k todo s r=some u→jJ p l t k todo s r D →
  ∀ b,(b ∈ u.Hj ↔ ∃ d,vl l t d∧b ∈ Zl d)∧(b ∈ u.hj ↔ ∃ d,vl l t d∧b ∈ bm d):=by
 intro n
 induction n with
 | zero=>intro k todo s r D u h; cases h
 | succ n A =>
  intro k todo s r D u h i;cases todo with
  | nil =>
   rw [ml] at h;obtain rfl:=Option.some.inj h;have all:∀ d,vl l t d→d ∈ D:=by
    intro d Ba
    induction Ba with
    | base=>exact i.i6.resolve_right (by simp)
    | step f g E B C =>
     obtain ⟨e,ma,j⟩:=i.i5 _ (i.i4 _ C _ B);rw [R.Df _ g] at ma;obtain rfl:=Option.some.inj ma;exact j.resolve_right (by simp)
   intro b;refine ⟨(i.i1 b).trans ⟨fun ⟨d,f,g⟩=>⟨d,(i.i3 d (.inl f)).1,g⟩,fun ⟨d,f,g⟩=>⟨d,all d f,g⟩⟩,(i.i2 b).trans ⟨fun ⟨d,f,g⟩=>⟨d,(i.i3 d (.inl f)).1,g⟩,fun ⟨d,f,g⟩=>⟨d,all d f,g⟩⟩⟩
  | cons o todo =>
   cases o with
   | none=>cases h
   | some d =>
    rw [ml] at h;obtain ⟨Da,a2,a3,a4,a5⟩:=Ey p.named (Gm d) k todo;obtain ⟨Ba,q,v⟩:=i.i3 d (.inr (List.mem_cons_self ..));refine A _ _ _ _ (D++[d]) u h ⟨fun b=>?_,fun b=>?_,fun e he=>?_,fun e he c m=>?_,fun c m=>?_,?_⟩
    ·rw [List.mem_append,i.i1];constructor
     ·rintro (⟨e,f,g⟩ | h)
      ·exact ⟨e,List.mem_append_left _ f,g⟩
      ·exact ⟨d,List.mem_append_right _ (List.mem_singleton.2 rfl),h⟩
     ·rintro ⟨e,f,g⟩;rcases List.mem_append.1 f with f | f
      ·exact .inl ⟨e,f,g⟩
      ·rw [List.mem_singleton.1 f] at g;exact .inr g
    ·rw [List.mem_append,i.i2];constructor
     ·rintro (⟨e,f,g⟩ | h)
      ·exact ⟨e,List.mem_append_left _ f,g⟩
      ·exact ⟨d,List.mem_append_right _ (List.mem_singleton.2 rfl),h⟩
     ·rintro ⟨e,f,g⟩;rcases List.mem_append.1 f with f | f
      ·exact .inl ⟨e,f,g⟩
      ·rw [List.mem_singleton.1 f] at g;exact .inr g
    ·rcases he with he | he
     ·rcases List.mem_append.1 he with he | he
      ·exact i.i3 e (.inl he)
      ·rw [List.mem_singleton.1 he];exact ⟨Ba,q,v⟩
     ·rcases a5 _ he with he | ⟨c,y,c2⟩
      ·exact i.i3 e (.inr (List.mem_cons_of_mem _ he))
      ·obtain ⟨m1,m2⟩:=R.only c e c2.symm;obtain ⟨a,w,x⟩:=Vj y;obtain ⟨z,q1,q2⟩:=Lu 39 a (R.cs d q v a w) c x;rw [← c2] at q1;obtain rfl:=Option.some.inj q1;exact ⟨.step Ba m1 q2 (by rw [m2];exact y),m1,by omega⟩
    ·rcases List.mem_append.1 he with he | he
     ·exact a2 _ (i.i4 e he c m)
     ·rw [List.mem_singleton.1 he] at m;exact Da c m
    ·rcases a3 c m with f | ⟨f,g⟩
     ·obtain ⟨e,ma,j⟩:=i.i5 c f;refine ⟨e,ma,?_⟩;rcases j with j | j
      ·exact .inl (List.mem_append_left _ j)
      ·rcases List.mem_cons.1 j with j | j
       ·exact .inl (List.mem_append_right _ (List.mem_singleton.2 (Option.some.inj j)))
       ·exact .inr (a4 _ j)
     ·obtain ⟨a,w,x⟩:=Vj f;obtain ⟨z,q1,q2⟩:=Lu 39 a (R.cs d q v a w) c x;rw [q1] at g;exact ⟨z,q1,.inr g⟩
    ·rcases i.i6 with f | f
     ·exact .inl (List.mem_append_left _ f)
     ·rcases List.mem_cons.1 f with f | f
      ·exact .inl (List.mem_append_right _ (List.mem_singleton.2 (Option.some.inj f)))
      ·exact .inr (a4 _ f)
theorem VF {p:Pb}{l:List na}(R:ki p l){t:na}(a:t ∈ l) (Qb:t.Kind≠1){fu:Nat}{u:uf}(h:ml p.named fu [] [some t] [] []=some u) (b:Nm):(b ∈ u.Hj ↔ ∃ d,vl l t d∧b ∈ Zl d)∧(b ∈ u.hj ↔ ∃ d,vl l t d∧b ∈ bm d):=by
 refine yH R fu [] [some t] [] [] [] u h ⟨by simp,by simp,fun d Ba=>?_,by simp,by simp,.inr (by simp)⟩ b;rcases Ba with Ba | Ba
 ·cases Ba
 ·obtain rfl:=Option.some.inj (List.mem_singleton.1 Ba);exact ⟨.base,a,Qb⟩
theorem LD (i:Nat) (l:i≤100) (out:List na) (za:out.length≤100) (x:na) (K:Int→List na→Option (List na)):∀ (m j:Nat) (b:Bool),j≤out.length→out.length<m+j→Dq i out x K m b j=if b=true∨∃ o ∈ out.drop j,o.Name=x.Name then K ((i:Int)+1) out else K ((i:Int)+1) (out++[x]):=by
 intro m
 induction m with
 | zero=>intro j b f g; omega
 | succ m e =>
  intro j b f g;rw [Dq];by_cases c:j<out.length
  ·rw [if_pos (by omega),od,List.getElem?_eq_getElem c,da,List.drop_eq_getElem_cons c];cases b with
   | true =>
    rw [if_pos rfl,Ib (by omega),da,if_pos (.inl rfl)];have:=e (j+1) true c (by omega);rw [if_pos (.inl rfl)] at this;exact this
   | false =>
    rw [if_neg dh,Ib (by omega),da];have:=e (j+1) (decide (out[j].Name=x.Name)) c (by omega);rw [show ((j:Int)+1)=((j+1:Nat):Int) from rfl,this];by_cases w:out[j].Name=x.Name
    ·rw [if_pos (.inl (decide_eq_true w)),if_pos (.inr ⟨_,List.mem_cons_self ..,w⟩)]
    ·by_cases y:∃ o ∈ out.drop (j+1),o.Name=x.Name
     ·obtain ⟨o,a,Ge⟩:=y;rw [if_pos (.inr ⟨o,a,Ge⟩),if_pos (.inr ⟨o,List.mem_cons_of_mem _ a,Ge⟩)]
     ·have k:¬ (decide (out[j].Name=x.Name)=true∨∃ o ∈ out.drop (j+1),o.Name=x.Name):=by
       rintro (h | h)
       ·exact w (of_decide_eq_true h)
       ·exact y h
      have d:¬ (false=true∨∃ o ∈ out[j]::out.drop (j+1),o.Name=x.Name):=by
       rintro (h | ⟨o,a,Ge⟩)
       ·cases h
       ·rcases List.mem_cons.1 a with rfl | a
        ·exact w Ge
        ·exact y ⟨o,a,Ge⟩
      rw [if_neg k,if_neg d]
  ·rw [if_neg (by omega),List.drop_eq_nil_of_le (by omega)];cases b with
   | true=>rw [if_pos rfl,if_pos (.inl rfl),Ib (by omega),da]
   | false =>
    have d:¬ (false=true∨∃ o ∈ ([]:List na),o.Name=x.Name):=by simp
    rw [if_neg dh,if_neg d,Gf (by simp;omega),da,Ib (by omega),da]
def sl (cur:na):List na→List na→List na
 | [],out=>out
 | x::xs,out=>sl cur xs (if rl cur x∧¬ ∃ o ∈ out,o.Name=x.Name then out++[x] else out)
theorem Ty (l:List na) (cur:na):∀ (xs out:List na),(∀ x ∈ xs,x ∈ l)→tn l (out.map (·.Name))+out.length≤31 →
  (∃ ys,sl cur xs out=out++ys)∧tn l ((sl cur xs out).map (·.Name))+(sl cur xs out).length≤31∧(∀ x ∈ xs,rl cur x→∃ o ∈ sl cur xs out,o.Name=x.Name)∧∀ o ∈ sl cur xs out,o ∈ out∨(o ∈ xs∧rl cur o)
 | [],out,_,h=>⟨⟨[],by rw [sl,List.append_nil]⟩,h,fun x d=>(by cases d),fun o b=>.inl b⟩
 | x::xs,out,d,h=>by
  have n:∀ x ∈ xs,x ∈ l:=fun y a=>d y (List.mem_cons_of_mem _ a);rw [sl];by_cases c:rl cur x∧¬ ∃ o ∈ out,o.Name=x.Name
  ·rw [if_pos c];have p:(out.map (·.Name)).contains x.Name=false:=by
    rw [Bool.eq_false_iff];intro q;have:x.Name ∈ out.map (·.Name):=by simpa using q
    obtain ⟨o,g,Ge⟩:=List.mem_map.1 this;exact c.2 ⟨o,g,Ge⟩
   have s:=By l (out.map (·.Name)) x (d x (List.mem_cons_self ..)) p;obtain ⟨⟨ys,e⟩,i,wb,j⟩:=Ty l cur xs (out++[x]) n (by rw [List.map_append,List.length_append,List.map_cons,List.map_nil,List.length_singleton];omega);refine ⟨⟨x::ys,by rw [e];simp⟩,i,fun y a f=>?_,fun o b=>?_⟩
   ·rcases List.mem_cons.1 a with rfl | a
    ·exact ⟨y,by rw [e];simp,rfl⟩
    ·exact wb y a f
   ·rcases j o b with h | ⟨k,m⟩
    ·rcases List.mem_append.1 h with h | h
     ·exact .inl h
     ·obtain rfl:=List.mem_singleton.1 h;exact .inr ⟨List.mem_cons_self ..,c.1⟩
    ·exact .inr ⟨List.mem_cons_of_mem _ k,m⟩
  ·rw [if_neg c];obtain ⟨⟨ys,e⟩,i,wb,j⟩:=Ty l cur xs out n h;refine ⟨⟨ys,e⟩,i,fun y a f=>?_,fun o b=>(j o b).imp id fun ⟨k,m⟩=>⟨List.mem_cons_of_mem _ k,m⟩⟩;rcases List.mem_cons.1 a with rfl | a
   ·have:∃ o ∈ out,o.Name=y.Name:=Classical.byContradiction fun r=>c ⟨f,r⟩;obtain ⟨o,g,Ge⟩:=this;exact ⟨o,by rw [e];exact List.mem_append_left _ g,Ge⟩
   ·exact wb y a f
section
variable {l:List na}{fu pj:Nat}
theorem Uy (b:∀ d ∈ l,zk d) (c:Jo pj l) (e:39≤pj) (hu:pj+100≤fu){q:Int}(f:q=0∨q=19∨q=20∨q=22){d:na}(Ba:d ∈ l) (Qb:d.Kind≠1) (n:Nm):(Wi fu).Ff d.Body q n=some (decide (n ∈ Pk q d)):=by
 obtain ⟨g,h⟩:=(b d Ba).fk Qb;exact xH q f n 39 pj fu d.Body g (fun y a=>⟨h y a,(c.2 d Ba).2.2 y a⟩) e (by omega)
theorem MD (za:l.length≤30) (u:∀ d ∈ l,zk d) (v:Jo pj l) (z:39≤pj) (hu:pj+100≤fu){cur:na}(p:cur ∈ l) (A:cur.Kind≠1){i:Nat}(N:i≤100) (K:Int→List na→Option (List na)):∀ (m j:Nat) (out:List na),j≤l.length→l.length<m+j→tn l (out.map (·.Name))+out.length≤31→out[i]?=some cur→jk fu l i K m j out=K ((i:Int)+1) (sl cur (l.drop j) out):=by
 intro m
 induction m with
 | zero=>intro j out B f; omega
 | succ m C =>
  intro j out B f r g;rw [jk];by_cases c:j<l.length
  ·rw [if_pos (by omega),od,List.getElem?_eq_getElem c,da,List.drop_eq_getElem_cons c,sl];have s:=List.getElem_mem c;generalize l[j]=x at s ⊢;have xb:∀ e,tn l (e.map (·.Name))+e.length≤31→e[i]?=some cur→jk fu l i K m ((j:Int)+1) e=K ((i:Int)+1) (sl cur (l.drop (j+1)) e):=fun e a b=>C (j+1) e c (by omega) a b;have skip:¬ rl cur x→jk fu l i K m ((j:Int)+1) out=K ((i:Int)+1) (sl cur (l.drop (j+1)) (if rl cur x∧¬ ∃ o ∈ out,o.Name=x.Name then out++[x] else out)):=fun h=>by
    rw [if_neg (fun w=>h w.1)];exact xb out r g
   have t:Po j out x (jk fu l i K m) true=jk fu l i K m ((j:Int)+1) out:=by
    rw [Po,if_pos rfl,Ib (by omega),da]
   have go:∀ q:Int,(q=19∧x.Kind=2∨q=22∧x.Kind=3)→((at_ out (i:Int)).bind fun D=>((Wi fu).Ff D.Body q x.Name).bind fun E=>Po j out x (jk fu l i K m) (!E))=K ((i:Int)+1) (sl cur (l.drop (j+1)) (if rl cur x∧¬ ∃ o ∈ out,o.Name=x.Name then out++[x] else out)):=by
    intro q F;rw [od,g,da,Uy u v z hu (by omega) p A,da];have iff:rl cur x ↔ x.Name ∈ Pk q cur:=by
     rcases F with ⟨rfl,f⟩ | ⟨rfl,f⟩
     ·exact ⟨fun h=>h.elim (fun a=>a.2) (fun a=>by omega),fun h=>.inl ⟨f,h⟩⟩
     ·exact ⟨fun h=>h.elim (fun a=>by omega) (fun a=>a.2),fun h=>.inr ⟨f,h⟩⟩
    by_cases w:x.Name ∈ Pk q cur
    ·have G:=iff.2 w;rw [decide_eq_true w,Po,if_neg (show ¬ ((!true)=true) by decide)];have:=LD j (by omega) out (by omega) x (jk fu l i K m) (out.length+1) 0 false (by omega) (by omega);rw [show ((0:Nat):Int)=0 from rfl,List.drop_zero] at this;rw [this];by_cases y:∃ o ∈ out,o.Name=x.Name
     ·rw [if_pos (.inr y),if_neg (fun h=>h.2 y)];exact xb out r g
     ·have H:(out.map (·.Name)).contains x.Name=false:=by
       rw [Bool.eq_false_iff];intro p;have:x.Name ∈ out.map (·.Name):=by simpa using p
       obtain ⟨o,L,Ge⟩:=List.mem_map.1 this;exact y ⟨o,L,Ge⟩
      have O:=By l (out.map (·.Name)) x s H;have M:¬ (false=true∨∃ o ∈ out,o.Name=x.Name):=by
       rintro (h | h)
       ·cases h
       ·exact y h
      rw [if_neg M,if_pos ⟨G,y⟩];refine xb _ (by rw [List.map_append,List.length_append,List.map_cons,List.map_nil,List.length_singleton];omega) ?_;have:=(List.getElem?_eq_some_iff.1 g).1;rw [List.getElem?_append_left this];exact g
    ·rw [decide_eq_false w];show Po j out x (jk fu l i K m) true=_;rw [t];exact skip fun h=>w (iff.1 h)
   have zero:x.Kind≠2→x.Kind≠3→¬ rl cur x:=fun a b h=>h.elim (fun h=>a h.1) (fun h=>b h.1);by_cases k:x.Kind=2
   ·rw [k];show (if (19:Int)=0 then _ else _)=_;rw [if_neg (by decide)];exact go 19 (.inl ⟨rfl,k⟩)
   ·by_cases n:x.Kind=3
    ·rw [n];show (if (22:Int)=0 then _ else _)=_;rw [if_neg (by decide)];exact go 22 (.inr ⟨rfl,n⟩)
    ·have bb:((yb (Ue (Ue ([]:List (Int×Int)) 2 19) 3 22) x.Kind).getD 0)=0:=by
      rw [lh,if_neg (fun h=>n h.symm),lh,if_neg (fun h=>k h.symm)];rfl
     rw [if_pos bb,t];exact skip (zero k n)
  ·rw [if_neg (by omega),List.drop_eq_nil_of_le (by omega),Ib (by omega),da,sl]
theorem OE {p:Pb}(R:ki p l) (C:Ctx l p) (z:Jo pj l) (A:39≤pj) (hu:pj+100≤fu){t:na}(v:t ∈ l) (De:t.Kind=4):∃ out,yu fu l t.Name=some out∧out.length≤31∧∀ d,(d ∈ out ↔ vl l t d)∧(d ∈ out→d ∈ l∧d.Kind≠1):=by
 have za:=C.len;have L:∀ (m i:Nat) (out:List na),31<m+i→i≤out.length→tn l (out.map (·.Name))+out.length≤31→t ∈ out→(∀ o ∈ out,o ∈ l∧o.Kind≠1∧vl l t o)→(∀ d ∈ out.take i,∀ e ∈ l,rl d e→∃ o ∈ out,o.Name=e.Name) →
   ∃ f,Mn fu l m i out=some f∧f.length≤31∧t ∈ f∧(∀ o ∈ f,o ∈ l∧o.Kind≠1∧vl l t o)∧(∀ d ∈ f,∀ e ∈ l,rl d e→∃ o ∈ f,o.Name=e.Name):=by
  intro m
  induction m with
  | zero=>intro i out n q g; omega
  | succ m B =>
   intro i out n q g b j r;rw [Mn];by_cases c:i<out.length
   ·have hm:=List.getElem_mem c;obtain ⟨w,c2,c3⟩:=j _ hm;have e:=MD (fu:=fu) za C.Oj z A hu w c2 (i:=i) (by omega) (Mn fu l m) (l.length+1) 0 out (by omega) (by omega) g (List.getElem?_eq_getElem c);rw [show ((0:Nat):Int)=0 from rfl,List.drop_zero] at e;rw [if_pos (by omega),e];obtain ⟨⟨ys,ma⟩,D,wb,E⟩:=Ty l out[i] l out (fun x F=>F) g;refine B (i+1) _ (by omega) (by rw [ma,List.length_append];omega) D (by rw [ma];exact List.mem_append_left _ b) (fun o s=>?_) (fun d Ba e he u=>?_)
    ·rcases E o s with h | ⟨q1,q2⟩
     ·exact j o h
     ·obtain ⟨G,H⟩:=(KC R w c2 q1).1 q2;exact ⟨q1,by omega,.step c3 q1 G H⟩
    ·rw [ma,List.take_append_of_le_length (by omega),List.take_succ_eq_append_getElem c] at Ba;rcases List.mem_append.1 Ba with Ba | Ba
     ·obtain ⟨o,k,Ge⟩:=r d Ba e he u;exact ⟨o,by rw [ma];exact List.mem_append_left _ k,Ge⟩
     ·rw [List.mem_singleton.1 Ba] at u;exact wb e he u
   ·rw [if_neg (by omega)];rw [List.take_of_length_le (by omega)] at r;exact ⟨out,rfl,by omega,b,j,r⟩
 have bb:hn l 4 t.Name=some (t,true):=by
  rw [C.find,R.Df t v,Hp,if_pos (Yy De)];rfl
 have K:tn l [t.Name]≤30:=Nat.le_trans (List.length_filter_le _ _) za;obtain ⟨out,n,q,g,b,j⟩:=L fu 0 [t] (by omega) (by simp) (by simpa using (by omega)) (by simp) (fun o s=>by rw [List.mem_singleton.1 s];exact ⟨v,by omega,.base⟩) (by simp);refine ⟨out,?_,q,fun d=>⟨⟨fun h=>(b d h).2.2,fun h=>?_⟩,fun h=>⟨(b d h).1,(b d h).2.1⟩⟩⟩
 ·rw [yu,bb,da];exact n
 ·induction h with
  | base=>exact g
  | step q1 q2 q3 q4 y =>
   obtain ⟨m1,m2,-⟩:=b _ y;obtain ⟨o,k,Ge⟩:=j _ y _ q2 ((KC R m1 m2 q2).2 ⟨q3,q4⟩);have a:=R.Df _ (b o k).1;rw [Ge,R.Df _ q2] at a;rw [Option.some.inj a];exact k
end
end Go.Y
namespace Go.Y
open Go.pc Go.nd
def vq (i:Int) (T:Nm) (K:Nm→Nm→Option (List pe×Oc)) (s r:Bool) (W V:Nm):Option (List pe×Oc):=
 if (s=true∧W≠[]∧W≠T)∨(r=true∧V≠[]∧V≠T) then some ([],⟨8,i⟩) else K (if s=true then T else W) (if r=true then T else V)
theorem LG (i:Int) (T:Nm) (K:Nm→Nm→Option (List pe×Oc)) (s r c r':Bool) (W V:Nm) :
  (if s=true∧W≠[]∧W≠T then some ([],⟨8,i⟩) else if r=true∧V≠[]∧V≠T then some ([],⟨8,i⟩) else vq i T K c r' (if s=true then T else W) (if r=true then T else V))=vq i T K (s || c) (r || r') W V:=by
 unfold vq;cases s<;>cases r<;>cases c<;>cases r'<;>by_cases a:W≠[]∧W≠T<;>by_cases b:V≠[]∧V≠T<;>simp_all<;>(repeat' split)<;>simp_all<;>(rename_i h;exact (h.elim (fun h=>h.2 (a h.1)) (fun h=>h.2 (b h.1))).elim)
def zn (b:Nm) (out:List na):Bool:=out.any fun d=>(Zl d).contains b
def An (b:Nm) (out:List na):Bool:=out.any fun d=>(bm d).contains b
section
variable {l:List na}{fu pj:Nat}
theorem XF (f:∀ d ∈ l,zk d) (g:Jo pj l) (k:39≤pj) (hu:pj+100≤fu) (i a:Int) (x T:na) (out:List na) (z:out.length≤100) (hm:∀ d ∈ out,d ∈ l∧d.Kind≠1) (A:0≤a∧a≤1000) (K:Int→Nm→Nm→Option (List pe×Oc)) :
  ∀ (m j:Nat) (W V:Nm),j≤out.length→out.length<m+j→lk fu i x a T out K m j W V=vq i T.Name (K (a+1)) (zn x.Name (out.drop j)) (An x.Name (out.drop j)) W V:=by
 intro m
 induction m with
 | zero=>intro j W V p r; omega
 | succ m s =>
  intro j W V p r;rw [lk];by_cases c:j<out.length
  ·obtain ⟨d1,d2⟩:=hm _ (List.getElem_mem c);rw [if_pos (by omega),od,List.getElem?_eq_getElem c,da,List.drop_eq_getElem_cons c];have xb:∀ W V,lk fu i x a T out K m ((j:Int)+1) W V=_:=fun W V=>s (j+1) W V c (by omega);generalize out[j]=d at d1 d2 ⊢;have t:zn x.Name (d::out.drop (j+1))=(decide (x.Name ∈ Pk 0 d) || zn x.Name (out.drop (j+1))):=by
    rw [zn,List.any_cons,← VI];simp [zn]
   have u:An x.Name (d::out.drop (j+1))=(decide (x.Name ∈ Pk 20 d) || An x.Name (out.drop (j+1))):=by
    rw [An,List.any_cons,← WI];simp [An]
   rw [t,u,← LG,Uy f g k hu (.inl rfl) d1 d2,da];have e:∀ S,Jq fu i x T j V d (lk fu i x a T out K m) S=if decide (x.Name ∈ Pk 20 d)=true∧V≠[]∧V≠T.Name then some ([],⟨8,i⟩) else vq i T.Name (K (a+1)) (zn x.Name (out.drop (j+1))) (An x.Name (out.drop (j+1))) S (if decide (x.Name ∈ Pk 20 d)=true then T.Name else V):=by
    intro S;rw [Jq,Uy f g k hu (.inr (.inr (.inl rfl))) d1 d2,da];have n:∀ b,qs i T j S (lk fu i x a T out K m) b=if b=true then some ([],⟨8,i⟩) else vq i T.Name (K (a+1)) (zn x.Name (out.drop (j+1))) (An x.Name (out.drop (j+1))) S T.Name:=by
     intro b;rw [qs];by_cases q:b=true
     ·rw [if_pos q,if_pos q]
     ·rw [if_neg q,if_neg q,Ib (by omega),da];exact xb S T.Name
    by_cases w:decide (x.Name ∈ Pk 20 d)=true
    ·rw [if_pos w,if_pos w];by_cases v:V≠[]
     ·rw [if_pos v,n];by_cases y:V≠T.Name
      ·rw [if_pos (decide_eq_true y),if_pos ⟨w,v,y⟩]
      ·rw [if_neg (by simpa using y),if_neg (fun h=>y h.2.2)]
     ·rw [if_neg v,n,if_neg dh,if_neg (fun h=>v h.2.1)]
    ·rw [if_neg w,if_neg w,if_neg (fun h=>w h.1),Ib (by omega),da];exact xb S V
   have o:∀ b,ss fu i x T j V d (lk fu i x a T out K m) b=if b=true then some ([],⟨8,i⟩) else Jq fu i x T j V d (lk fu i x a T out K m) T.Name:=fun b=>by
    rw [ss]
   by_cases w:decide (x.Name ∈ Pk 0 d)=true
   ·rw [if_pos w,if_pos w];by_cases v:W≠[]
    ·rw [if_pos v,o];by_cases y:W≠T.Name
     ·rw [if_pos (decide_eq_true y),if_pos ⟨w,v,y⟩]
     ·rw [if_neg (by simpa using y),if_neg (fun h=>y h.2.2),e]
    ·rw [if_neg v,o,if_neg dh,if_neg (fun h=>v h.2.1),e]
   ·rw [if_neg w,if_neg w,if_neg (fun h=>w h.1),e]
  ·rw [if_neg (by omega),List.drop_eq_nil_of_le (by omega),Ib (by omega),da,vq,if_neg (by simp [zn,An])];simp [zn,An]
def az (l:List na) (L:List (Nm×uf)):Prop:=∀ t ∈ l,t.Kind=4→∃ u,yb L t.Name=some u∧∀ b,(b ∈ u.Hj ↔ ∃ d,vl l t d∧b ∈ Zl d)∧(b ∈ u.hj ↔ ∃ d,vl l t d∧b ∈ bm d)
theorem YF {p:Pb}(R:ki p l) (C:Ctx l p) (k:Jo pj l) (n:39≤pj) (hu:pj+100≤fu){L:List (Nm×uf)}(z:az l L) (i:Int) (M:0≤i∧i≤1000) (acc:List pe) (N:acc.length≤1000) (x:na) (K:Int→List pe→Option (List pe×Oc)) :
  ∀ (m j:Nat) (w r:Nm),j≤l.length→l.length<m+j→(w=[]∨∃ t ∈ l.take j,t.Name=w)→(r=[]∨∃ t ∈ l.take j,t.Name=r)→km fu l i acc x K m j w r=match Pl L x.Name (l.drop j) w r with | none=>some ([],⟨8,i⟩) | some (w',r')=>K (i+1) (acc++[⟨x.Name,w',r'⟩]):=by
 have za:=C.len;intro m
 induction m with
 | zero=>intro j w r A B; omega
 | succ m o =>
  intro j w r A B hw g;rw [km];by_cases c:j<l.length
  ·have tf:=List.take_succ_eq_append_getElem c;have up:∀ w:Nm,(w=[]∨∃ t ∈ l.take j,t.Name=w)→(w=[]∨∃ t ∈ l.take (j+1),t.Name=w):=fun w h=>h.imp id fun ⟨t,t1,t2⟩=>⟨t,by rw [tf];exact List.mem_append_left _ t1,t2⟩;rw [if_pos (by omega),od,List.getElem?_eq_getElem c,da,List.drop_eq_getElem_cons c,Pl];have s:=List.getElem_mem c;by_cases De:l[j].Kind≠4
   ·rw [if_pos De,if_pos De,Ib (by omega),da];exact o (j+1) w r c (by omega) (up w hw) (up r g)
   ·rw [if_neg De,if_neg De];have v:l[j].Kind=4:=by omega
    obtain ⟨u,je,td⟩:=z _ s v;obtain ⟨out,D,Ge,f⟩:=OE R C k n hu s v;have ne:∀ w:Nm,(∃ t ∈ l.take j,t.Name=w)→w≠l[j].Name:=by
     rintro w ⟨t,t1,t2⟩ e;have h:=R.Yl;rw [List.pairwise_iff_getElem] at h;obtain ⟨q,q1,q2⟩:=List.getElem_of_mem t1;rw [List.length_take] at q1;rw [List.getElem_take] at q2;have:=h q j (by omega) c (by omega);rw [q2] at this;exact this (t2.trans e)
    have ja:w≠[]→w≠l[j].Name:=fun h=>ne w (hw.resolve_left h);have E:r≠[]→r≠l[j].Name:=fun h=>ne r (g.resolve_left h);have F:zn x.Name out=u.Hj.contains x.Name:=by
     rw [Bool.eq_iff_iff];simp only [zn,List.any_eq_true,List.contains_iff_mem];rw [(td x.Name).1];exact ⟨fun ⟨d,d1,d2⟩=>⟨d,(f d).1.1 d1,d2⟩,fun ⟨d,d1,d2⟩=>⟨d,(f d).1.2 d1,d2⟩⟩
    have G:An x.Name out=u.hj.contains x.Name:=by
     rw [Bool.eq_iff_iff];simp only [An,List.any_eq_true,List.contains_iff_mem];rw [(td x.Name).2];exact ⟨fun ⟨d,d1,d2⟩=>⟨d,(f d).1.1 d1,d2⟩,fun ⟨d,d1,d2⟩=>⟨d,(f d).1.2 d1,d2⟩⟩
    have y:=XF (fu:=fu) C.Oj k n hu i j x l[j] out (by omega) (fun d Ba=>(f d).2 Ba) (by omega) (km fu l i acc x K m) (out.length+1) 0 w r (by omega) (by omega);rw [show ((0:Nat):Int)=0 from rfl,List.drop_zero,F,G] at y;rw [D,da,y,je,vq];dsimp only [Option.getD];by_cases a:u.Hj.contains x.Name=true∧w≠[]
    ·rw [if_pos (.inl ⟨a.1,a.2,ja a.2⟩),if_pos a]
    ·by_cases b:u.hj.contains x.Name=true∧r≠[]
     ·rw [if_pos (.inr ⟨b.1,b.2,E b.2⟩),if_neg a,if_pos b]
     ·have H:¬ ((u.Hj.contains x.Name=true∧w≠[]∧w≠l[j].Name)∨(u.hj.contains x.Name=true∧r≠[]∧r≠l[j].Name)):=by
       rintro (h | h)
       ·exact a ⟨h.1,h.2.1⟩
       ·exact b ⟨h.1,h.2.1⟩
      rw [if_neg H,if_neg a,if_neg b];refine o (j+1) _ _ c (by omega) ?_ ?_
      ·by_cases q:u.Hj.contains x.Name=true
       ·rw [if_pos q];exact .inr ⟨l[j],qw c,rfl⟩
       ·rw [if_neg q];exact up w hw
      ·by_cases q:u.hj.contains x.Name=true
       ·rw [if_pos q];exact .inr ⟨l[j],qw c,rfl⟩
       ·rw [if_neg q];exact up r g
  ·rw [if_neg (by omega),List.drop_eq_nil_of_le (by omega),Gf (by simp;omega),da,Ib (by omega),da];rfl
theorem ZF {p:Pb}(R:ki p l) (C:Ctx l p) (b:Jo pj l) (d:39≤pj) (hu:pj+100≤fu){L:List (Nm×uf)}(e:az l L):∀ (m i:Nat) (acc:List pe),i≤l.length→l.length<m+i→acc.length≤i→Ck fu l m i acc=some (Ql L l (l.drop i) i acc):=by
 have za:=C.len;intro m
 induction m with
 | zero=>intro i acc f g; omega
 | succ m a =>
  intro i acc f g j;rw [Ck];by_cases c:i<l.length
  ·rw [if_pos (by omega),od,List.getElem?_eq_getElem c,da,List.drop_eq_getElem_cons c,Ql];by_cases Qb:l[i].Kind≠1
   ·rw [if_pos Qb,if_pos Qb,Ib (by omega),da];exact a (i+1) acc c (by omega) (by omega)
   ·rw [if_neg Qb,if_neg Qb,show ((0:Int))=((0:Nat):Int) from rfl,YF R C b d hu e i (by omega) acc (by omega) l[i] _ _ 0 [] [] (by omega) (by omega) (.inl rfl) (.inl rfl),List.drop_zero];cases h:Pl L l[i].Name l [] [] with
    | none=>rfl
    | some v=>exact a (i+1) _ c (by omega) (by simp; omega)
  ·rw [if_neg (by omega),List.drop_eq_nil_of_le (by omega)];rfl
theorem ry (N:List (Nm×na)) (fu:Nat):∀ (ds:List na) (L:List (Nm×uf)),ds.Pairwise (fun a b=>a.Name≠b.Name)→(∀ n,(∀ d ∈ ds,d.Name≠n)→yb (Cm N fu ds L) n=yb L n)∧∀ t ∈ ds,t.Kind=4→yb (Cm N fu ds L) t.Name=some ((ml N fu [] [some t] [] []).getD Em)
 | [],L,_=>⟨fun n _=>rfl,fun t h=>by cases h⟩
 | d::ds,L,j=>by
  obtain ⟨k,i⟩:=List.pairwise_cons.1 j;rw [Cm];by_cases De:d.Kind=4
  ·rw [if_pos De];obtain ⟨a,b⟩:=ry N fu ds (Ue L d.Name ((ml N fu [] [some d] [] []).getD Em)) i;refine ⟨fun n f=>?_,fun t c g=>?_⟩
   ·rw [a n fun e he=>f e (List.mem_cons_of_mem _ he),lh,if_neg (f d (List.mem_cons_self ..))]
   ·rcases List.mem_cons.1 c with rfl | c
    ·rw [a t.Name fun e he q=>k e he q.symm,lh,if_pos rfl]
    ·exact b t c g
  ·rw [if_neg De];obtain ⟨a,b⟩:=ry N fu ds L i;refine ⟨fun n f=>a n fun e he=>f e (List.mem_cons_of_mem _ he),fun t c g=>?_⟩;rcases List.mem_cons.1 c with rfl | c
   ·exact absurd g De
   ·exact b t c g
end
end Go.Y
namespace Go.Y
open Go.pc Go.nd
theorem kE (k:Nat) (l:List na) (za:Jo k l):∃ r,Xo (k+60001) l=some r∧Zq (k+60001) l=some r∧((r.2.gg≠0∧r.1=[])∨(l.length≤30∧(l.Pairwise fun a b=>a.Name≠b.Name)∧Fit l l r.1)):=by
 obtain ⟨f,c,s⟩:=Rv (k+60001) (by omega) l;have hw:=RF (fu:=k+60001) (by omega) l;by_cases z:f.gg=0
 ·obtain ⟨-,ok⟩:=s z;obtain ⟨-,o⟩:=uH (by omega) c z;have ma:Um (k+60001) l=xl (k+60001) l (l.length+1) 0 0 []:=by
   rw [Um,c,da,if_neg (fun h=>h z)]
  have q:Zq (k+60001) l=Vo (k+60001) l (l.length+1) 0 0:=by
   rw [Zq,hw,c,da,if_neg (fun h=>h z)]
  rcases TF (fu:=k+60001) (by omega) ok o (l.length+1) 0 0 [] (by omega) (by omega) (by omega) (fun n d h=>by cases h) (by simp) with ⟨p,i,Da,a2,a3⟩ | ⟨N,Da,a3⟩
  ·rw [show ((0:Nat):Int)=0 from rfl] at Da a3;refine ⟨([],i),?_,by rw [q,a3],.inl ⟨a2,rfl⟩⟩;rw [Xo,ma,Da,da,if_pos a2]
  ·rw [show ((0:Nat):Int)=0 from rfl] at Da a3;obtain ⟨p,i,Aa,j⟩:=Fx (k+60001) (by omega) l;rw [ma,Da] at Aa;obtain ⟨rfl,rfl⟩:Pb.mk l N=p∧(Oc.mk 0 0)=i:=by simpa using Aa
   rcases j with ⟨j,-⟩ | ⟨-,R,wb⟩
   ·exact absurd rfl j
   ·have C:Ctx l ⟨l,N⟩:=⟨ok.le,R.only,R.Df,o⟩;have v:Jo (max k 39) l:=⟨za.1,fun d Ba=>⟨(za.2 d Ba).1,(za.2 d Ba).2.1,fun y w=>((za.2 d Ba).2.2 y w).up (by omega)⟩⟩;have x:az l (Cm N (k+60001) l []):=by
     intro t m De;have g:=(ry N (k+60001) l [] R.Yl).2 t m De;obtain ⟨q1,u,q2,-⟩:=XB R (k+60001) (by omega) t m (by omega);have A:ml N (k+60001) [] [some t] [] []=some u:=q2;rw [A] at g;exact ⟨u,g,fun b=>VF R m (by omega) q2 b⟩
    refine ⟨Ql (Cm N (k+60001) l []) l l 0 [],wb,?_,?_⟩
    ·have:=ZF (fu:=k+60001) R C v (by omega) (by omega) x (l.length+1) 0 [] (by omega) (by omega) (by simp);rw [show ((0:Nat):Int)=0 from rfl,List.drop_zero] at this;rw [q,a3,this]
    ·generalize B:Ql (Cm N (k+60001) l []) l l 0 []=res;obtain ⟨os,g⟩:=res;rcases qy _ _ _ _ _ _ _ B with ⟨e,h⟩ | ⟨e,E,h,D⟩
     ·exact .inl ⟨e,h⟩
     ·refine .inr ⟨ok.le,R.Yl,?_⟩;rw [h];exact D
 ·refine ⟨([],f),?_,?_,.inl ⟨z,rfl⟩⟩
  ·rw [Xo,Um,c,da,if_pos z,da,if_pos z]
  ·rw [Zq,hw,c,da,if_pos z]
end Go.Y
namespace Go.Y
open Go.pc Go.nd
theorem vz {α β:Type}{f:α→Option β}:Option.bind (none:Option α) f=none:=rfl
section
variable {fu:Nat}{l:List na}
theorem zH (za:l.length≤30) (N:List (Nm×na)) (p:Pb) (f:Oc):∀ (m i:Nat),fm fu l N m i=some (p,f)→f.gg=0→p=⟨l,N⟩∧∀ j (a:j<l.length),i≤j→Ym fu ⟨l,N⟩ l[j]=some 0:=by
 intro m
 induction m with
 | zero=>intro i h; cases h
 | succ m d =>
  intro i h b;rw [fm] at h;by_cases c:i<l.length
  ·rw [if_pos (by omega),od,List.getElem?_eq_getElem c,da] at h;cases e:Ym fu ⟨l,N⟩ l[i] with
   | none=>rw [e,vz] at h; cases h
   | some r =>
    rw [e,da] at h;by_cases z:r≠0
    ·rw [if_pos z] at h;obtain ⟨rfl,rfl⟩:=Prod.mk.inj (Option.some.inj h);exact absurd b z
    ·rw [if_neg z,Ib (by omega),da] at h;obtain ⟨g,k⟩:=d (i+1) h b;refine ⟨g,fun j a n=>?_⟩;by_cases q:j=i
     ·subst q;rw [e,Decidable.not_not.1 z]
     ·exact k j a (by omega)
  ·rw [if_neg (by omega)] at h;obtain ⟨rfl,rfl⟩:=Prod.mk.inj (Option.some.inj h);exact ⟨rfl,fun j a n=>by omega⟩
theorem AH (za:l.length≤30) (N:List (Nm×na)) (p:Pb) (f:Oc):∀ (m i:Nat),gm fu l N m i=some (p,f)→f.gg=0→fm fu l N (l.length+1) 0=some (p,f):=by
 intro m
 induction m with
 | zero=>intro i h; cases h
 | succ m b =>
  intro i h a;rw [gm] at h;by_cases c:i<l.length
  ·rw [if_pos (by omega),od,List.getElem?_eq_getElem c,da] at h;cases e:Xm ⟨l,N⟩ l[i] with
   | none=>rw [e,vz] at h; cases h
   | some r =>
    rw [e,da] at h;by_cases z:r≠0
    ·rw [if_pos z] at h;obtain ⟨rfl,rfl⟩:=Prod.mk.inj (Option.some.inj h);exact absurd a z
    ·rw [if_neg z,Ib (by omega),da] at h;exact b (i+1) h a
  ·rw [if_neg (by omega)] at h;exact h
theorem BH (za:l.length≤30) (p:Pb) (f:Oc):∀ (m i:Nat) (t:Int) (N:List (Nm×na)),xl fu l m t i N=some (p,f)→f.gg=0→∃ N,gm fu l N (l.length+1) 0=some (p,f):=by
 intro m
 induction m with
 | zero=>intro i t N h; cases h
 | succ m b =>
  intro i t N h a;rw [xl] at h;by_cases c:i<l.length
  ·have bb:at_ l (i:Int)=some l[i]:=by rw [od,List.getElem?_eq_getElem c]
   rw [if_pos (by omega),bb,da] at h;by_cases q:(yb N l[i].Name).isSome=true
   ·rw [if_pos q] at h;obtain ⟨rfl,rfl⟩:=Prod.mk.inj (Option.some.inj h);exact absurd a (by show ¬ (7:Int)=0;decide)
   ·rw [if_neg q,da,da,da] at h;by_cases De:l[i].Kind=4
    ·rw [if_pos De] at h;cases e:i64 (t+1) with
     | none=>rw [e,vz] at h; cases h
     | some Rd =>
      rw [e,da,Ib (by omega),da] at h;exact b (i+1) Rd _ h a
    ·rw [if_neg De,Ib (by omega),da] at h;exact b (i+1) t _ h a
  ·rw [if_neg (by omega)] at h;by_cases t0:t=0
   ·rw [if_pos t0] at h;obtain ⟨rfl,rfl⟩:=Prod.mk.inj (Option.some.inj h);exact absurd a (by show ¬ (6:Int)=0;decide)
   ·rw [if_neg t0] at h;exact ⟨N,h⟩
theorem xA (b:500≤fu){p:Pb}{f:Oc}(h:Um fu l=some (p,f)) (a:f.gg=0):ki p l∧∀ d ∈ l,d.Kind≠1→ph (og p (d.Kind=3) 39) (d.Kind≠4∧d.Params≠[]) d.Body:=by
 obtain ⟨r,s,c,i⟩:=Mz fu b l;rw [h] at c;obtain ⟨rfl,rfl⟩:=Prod.mk.inj (Option.some.inj c);have R:=i a;refine ⟨R,?_⟩;have za:=R.ok.le;obtain ⟨g,g1,-⟩:=Rv fu (by omega) l;rw [Um,g1,da] at h;by_cases z:g.gg≠0
 ·rw [if_pos z] at h;obtain ⟨-,rfl⟩:=Prod.mk.inj (Option.some.inj h);exact absurd a z
 ·rw [if_neg z] at h;obtain ⟨N,h⟩:=BH za p f _ 0 0 _ h a;obtain ⟨rfl,m⟩:=zH za N p f _ 0 (AH za N p f _ 0 h a) a;intro d Ba Qb;obtain ⟨j,n,rfl⟩:=List.getElem_of_mem Ba;obtain ⟨e,ma,o⟩:=oI fu b ⟨l,N⟩ l[j] (fun k d q=>R.Ba d (R.only k d q).1) (R.Ba _ Ba) (R.ok.ok _ Ba);rw [m j n (Nat.zero_le _)] at ma;exact o (Option.some.inj ma).symm Qb
end
end Go.Y
namespace Go.Y
open Go.pc Go.nd
abbrev Jg:=List (List (Nm×Int))
structure wj (p:Pb) (T:Jf):Prop where
 Fi:∀ n d,yb p.named n=some d→yb T.defs n=some d
 un:∀ n d,yb p.named n=some d→d.Kind≠1→∃ u,yb T.ij n=some u∧0≤u∧u≤30
 Bx:∀ n u,yb T.ij n=some u→pn T.ij u=some (some (n,u))
 sD:∀ y,y<0→pn T.ij y=some none
 ok:∀ n d,yb p.named n=some d→Mk d∧uj p d
def bj (p:Pb) (T:Jf) (t:Int):Prop:=(0≤t∧t≤9)∨∃ n d u,yb p.named n=some d∧d.Kind=3∧yb T.ij n=some u∧t=10+u∧0≤u∧u≤30
variable {p:Pb}{T:Jf}{G:Prop}
theorem ar (H:wj p T){t:pb}(h:ll t) (e:Ai p t):∃ r,bl T t=some r∧bj p T r:=by
 obtain ⟨a,b⟩:=h;rw [bl];by_cases c:t.Kind=3
 ·obtain ⟨d,d1,d2⟩:=e c;obtain ⟨u,je,td,f⟩:=H.un _ d d1 (by omega);rw [if_pos c,je];show ∃ r,Option.bind (i64 (10+u)) _=some r∧_;rw [Ib (by omega),da];exact ⟨_,rfl,.inr ⟨_,d,u,d1,d2,je,rfl,td,f⟩⟩
 ·rw [if_neg c];exact ⟨_,rfl,.inl (by omega)⟩
theorem Bt (H:wj p T){n:Nm}{d:na}(h:yb p.named n=some d) (De:d.Kind≠4):∃ r,bl T d.Ja=some r∧bj p T r:=by
 obtain ⟨o,Ba⟩:=H.ok n d h;exact ar H (o.ty De) (.of (Ba.ty De))
structure We (p:Pb) (T:Jf) (loca:List Int) (take:Int) (bloc:Jg):Prop where
 ri:∀ t ∈ loca,bj p T t
 tf:bj p T take
 Nd:∀ m ∈ bloc,∀ n k,yb m n=some k→0≤k∧k<loca.length
 Sb:bloc.length≤100
 ch:loca.length≤100000
theorem br {kind para:Int}{loca:List Int}{resu take:Int}{code:List Oa}{bloc:Jg}(a b c:Int) (h:code.length≤2000000) :
  mh T kind para loca resu take code bloc a b c=some ((code.length:Int),kind,para,loca,resu,take,code++[⟨a,b,c⟩],bloc):=by
 rw [mh,Gf (by simp;omega),da,Ib (by simp;omega),da];simp
theorem yA {kind para:Int}{loca:List Int}{resu take:Int}{code:List Oa}{bloc:Jg}(j:We p T loca take bloc) (fu:Nat) (d:110≤fu) (name:Nm) :
  ∃ k,mq fu T kind para loca resu take code bloc name=some k∧0≤k∧(loca≠[]→k<loca.length):=by
 have f:=j.Sb;have L:∀ (n i:Nat),i≤bloc.length→i<n→∃ k,Zo name bloc n ((i:Int) - 1)=some k∧0≤k∧(loca≠[]→k<loca.length):=by
  intro n
  induction n with
  | zero=>intro i a b; omega
  | succ n c =>
   intro i a b;rw [Zo];cases i with
   | zero =>
    rw [if_neg (by omega)];refine ⟨0,rfl,by omega,fun h=>?_⟩;have:=List.length_pos_iff.2 h;omega
   | succ i =>
    have e:((i+1:Nat):Int) - 1=(i:Int):=by omega
    rw [e,if_pos (by omega),od,List.getElem?_eq_getElem (show i<bloc.length by omega),da];cases h:yb bloc[i] name with
    | none =>
     rw [if_neg (by simp),Ib (by omega),da];exact c i (by omega) (by omega)
    | some t =>
     have:=j.Nd _ (List.getElem_mem _) _ _ h;exact ⟨t,rfl,this.1,fun _=>this.2⟩
 rw [mq,Ib (by omega),da];exact L fu bloc.length (by omega) (by omega)
theorem yD (H:wj p T){k:Nat}{x:hb}{V:Prop}{kind para:Int}{loca:List Int}{resu take:Int}{code:List Oa}{bloc:Jg}{l:List Int}(s:jh (k+1) x) (v:nc p G V (k+1) x) (j:We p T loca take bloc) (za:code.length≤1000000) (E:l.length=x.Kids.length) (w:∀ t ∈ l,bj p T t)
  (F:¬ (x.Kind≤5)) (b:Bool) (m:b=true ↔ x.Kind≤18):∃ t i,Qq x T kind para resu take loca code bloc l b=some (t,kind,para,loca,resu,take,code++[i],bloc)∧bj p T t:=by
 obtain ⟨Qb,K,y,L⟩:=s;obtain ⟨z,A,c20,-,-,-⟩:=v;have P:=fun a b c=>br (T:=T) (kind:=kind) (para:=para) (loca:=loca) (resu:=resu) (take:=take) (bloc:=bloc) a b c (show code.length≤2000000 by omega);rw [Qq];by_cases q:b=true
 ·have:=m.1 q;rw [if_pos q,Ib (by omega),da,Ib (by omega),da,P,da];split
  ·exact ⟨1,_,rfl,.inl (by omega)⟩
  ·exact ⟨2,_,rfl,.inl (by omega)⟩
 have M:¬ x.Kind≤18:=fun h=>q (m.2 h);rw [if_neg q];by_cases d19:x.Kind=19
 ·obtain ⟨d,d1,d2⟩:=z d19;obtain ⟨r,f,g⟩:=Bt H d1 (by omega);rw [if_pos d19,P,da,H.Fi _ _ d1,da,f,da];exact ⟨r,_,rfl,g⟩
 rw [if_neg d19];by_cases d20:x.Kind=20
 ·obtain ⟨d,d1,d2⟩:=c20 d20;obtain ⟨r,f,g⟩:=Bt H d1 (by omega);rw [if_pos d20,P,da,H.Fi _ _ d1,da,f,da];exact ⟨r,_,rfl,g⟩
 rw [if_neg d20];by_cases d22:x.Kind=22
 ·obtain ⟨d,d1,d2⟩:=A d22;obtain ⟨u,je,td,B⟩:=H.un _ d d1 (by omega);rw [if_pos d22,P,da,je];show ∃ t i,Option.bind (i64 (10+u)) _=_∧_;rw [Ib (by omega),da];exact ⟨_,_,rfl,.inr ⟨_,d,u,d1,d2,je,rfl,td,B⟩⟩
 rw [if_neg d22];by_cases d21:x.Kind=21
 ·rw [if_pos d21,P,da];exact ⟨take,_,rfl,j.tf⟩
 rw [if_neg d21];by_cases d24:x.Kind=24
 ·rw [if_pos d24,P,da];exact ⟨2,_,rfl,.inl (by omega)⟩
 rw [if_neg d24];have d23:x.Kind=23:=by omega
 have N:x.Kids.length=2:=by have:=y.eq (by rw [d23];decide);rw [d23] at this;have e:ng 23=2:=(by decide);omega
 have o:0<l.length:=by omega
 rw [P,da,Fo o,da];rcases w _ (List.getElem_mem o) with ⟨Da,a2⟩ | ⟨n,d,u,ma,O,C,D,Q,R⟩
 ·rw [Ib (by omega),da,H.sD _ (by omega),da];exact ⟨0,_,rfl,.inl (by omega)⟩
 ·rw [Ib (by omega),da,D,show (10+u - 10:Int)=u by omega,H.Bx _ _ C,da];obtain ⟨r,f,g⟩:=Bt H ma (by omega);rw [if_pos (show (some (n,u):Option (Nm×Int)).isSome=true from rfl)];show ∃ t i,Option.bind (yb T.defs n) _=_∧_;rw [H.Fi _ _ ma,da,f,da];exact ⟨r,_,rfl,g⟩
theorem PE (H:wj p T):∀ (n k:Nat) (x:hb) (V:Prop) (kind para:Int) (loca:List Int) (resu take:Int) (code:List Oa) (bloc:Jg),130+k≤n→jh k x→nc p G V k x→(V→loca≠[])→We p T loca take bloc→code.length+Ig k x≤1000000 →
  ∃ t Fc,(Hk n).Hi T kind para loca resu take code bloc x=some (t,kind,para,loca,resu,take,code++Fc,bloc)∧Fc.length=Ig k x∧bj p T t:=by
 intro n
 induction n with
 | zero=>intro k x V kind para loca resu take code bloc h; omega
 | succ n w =>
  intro k x V kind para loca resu take code bloc N g q r j za;cases k with
  | zero=>cases g
  | succ k =>
  show ∃ t Fc,Hi n (Hk n) T kind para loca resu take code bloc x=_∧_;have y:=g;have z:=q;obtain ⟨Qb,O,A,B⟩:=g;obtain ⟨Q,R,c20,c3,-,C⟩:=q;have S:=A.le;rw [Ig] at za ⊢;rw [Hi];have L:∀ (m i:Nat) (code:List Oa) (d:List Int),i≤x.Kids.length→x.Kids.length<m+i→d.length=i→(∀ t ∈ d,bj p T t)→code.length+(((x.Kids.drop i).map (Ig k)).sum+1)≤1000000 →
    ∃ t Fc,Rm n (Hk n) x T m i kind para resu take loca code bloc d=some (t,kind,para,loca,resu,take,code++Fc,bloc)∧Fc.length=((x.Kids.drop i).map (Ig k)).sum+1∧bj p T t:=by
   intro m
   induction m with
   | zero=>intro i code d D E; omega
   | succ m F =>
    intro i code d D E K s l;rw [Rm];by_cases c:i<x.Kids.length
    ·have hm:x.Kids[i] ∈ x.Kids:=List.getElem_mem _;rw [List.drop_eq_getElem_cons c,List.map_cons,List.sum_cons] at l ⊢;obtain ⟨t,v,ma,f,e⟩:=w k x.Kids[i] V kind para loca resu take code bloc (by omega) (B _ hm) (C _ hm) r j (by omega);rw [if_pos (by omega),od,List.getElem?_eq_getElem c,da,ma,da];simp only [];rw [Gf (by simp;omega),da,Ib (by omega),da];obtain ⟨Rd,c2,f1,f2,f3⟩:=F (i+1) (code++v) (d++[t]) c (by omega) (by simp [K]) (fun u hu=>by
      rcases List.mem_append.1 hu with hu | hu
      ·exact s u hu
      ·rw [List.mem_singleton.1 hu];exact e) (by rw [List.length_append];omega)
     refine ⟨Rd,v++c2,?_,by rw [List.length_append];omega,f3⟩;rw [← List.append_assoc];exact f1
    ·have Ba:x.Kids.drop i=[]:=List.drop_eq_nil_of_le (by omega);rw [Ba] at l ⊢;simp only [List.map_nil,List.sum_nil] at l ⊢;have P:=fun a b c=>br (T:=T) (kind:=kind) (para:=para) (loca:=loca) (resu:=resu) (take:=take) (bloc:=bloc) a b c (show code.length≤2000000 by omega);rw [if_neg (by omega)];by_cases d1:x.Kind=1
     ·rw [if_pos d1,P,da];exact ⟨1,[_],rfl,rfl,.inl (by omega)⟩
     rw [if_neg d1];by_cases d2:x.Kind=2
     ·rw [if_pos d2,P,da];exact ⟨2,[_],rfl,rfl,.inl (by omega)⟩
     rw [if_neg d2];by_cases d3:x.Kind=3
     ·have M:=r (c3 d3);obtain ⟨i,ma,f,e⟩:=yA (kind:=kind) (para:=para) (resu:=resu) (code:=code) j n (by omega) x.Name;have e:=e M;obtain ⟨o,rfl⟩:∃ o:Nat,i=(o:Int):=⟨i.toNat,by omega⟩;rw [if_pos d3,ma,da,P,da];simp only [];rw [od,List.getElem?_eq_getElem (show o<loca.length by omega),da];exact ⟨_,[_],rfl,rfl,j.ri _ (List.getElem_mem _)⟩
     rw [if_neg d3];by_cases d4:x.Kind=4
     ·rw [if_pos d4,P,da];exact ⟨1,[_],rfl,rfl,.inl (by omega)⟩
     rw [if_neg d4];by_cases d5:x.Kind=5
     ·rw [if_pos d5,P,da];exact ⟨2,[_],rfl,rfl,.inl (by omega)⟩
     rw [if_neg d5,if_pos (by omega)];obtain ⟨t,i,ma,f⟩:=yD (kind:=kind) (para:=para) (resu:=resu) H y z j (show code.length≤1000000 by omega) (show d.length=x.Kids.length by omega) s (by omega) (decide (x.Kind≤18)) (by simp);exact ⟨t,[i],ma,rfl,f⟩
  obtain ⟨t,Fc,ma,f,e⟩:=L (x.Kids.length+1) 0 code [] (by omega) (by omega) rfl (by simp) (by rw [List.drop_zero];omega);refine ⟨t,Fc,ma,?_,e⟩;rw [f,List.drop_zero];omega
structure Left (p:Pb) (T:Jf) (loca:List Int) (take:Int) (code:List Oa) (b q:Nat) (a:List Int) (d:List Oa) (e:Jg):Prop where
 j:We p T a take e
 b:e.length=b
 c:code.length≤d.length
 Fc:d.length≤code.length+4*q
 l:loca.length≤a.length
 ab:a.length≤loca.length+q
theorem Left.ne {loca a:List Int}{take:Int}{code c:List Oa}{b q:Nat}{d:Jg}(h:Left p T loca take code b q a c d) (e:loca≠[]):a≠[]:=by
 have:=h.l;have:=List.length_pos_iff.2 e;exact List.length_pos_iff.1 (by omega)
theorem We.take {loca:List Int}{take:Int}{bloc:Jg}(j:We p T loca take bloc) (n:Nat):We p T loca take (bloc.take n):=
 ⟨j.ri,j.tf,fun m hm=>j.Nd m (List.mem_of_mem_take hm),by have:=j.Sb;rw [List.length_take];omega,j.ch⟩
theorem hA {kind para:Int}{loca:List Int}{resu take:Int}{code:List Oa}{bloc:Jg}(j:We p T loca take bloc) (name:Nm) (t:Int) (d:bj p T t) (e:0<bloc.length) (za:loca.length<100000) :
  ∃ b,kq T kind para loca resu take code bloc name t=some ((loca.length:Int),kind,para,loca++[t],resu,take,code,b)∧b.length=bloc.length∧We p T (loca++[t]) take b:=by
 have f:=j.Sb;have c:bloc.length - 1<bloc.length:=by omega
 have ma:(bloc.length:Int) - 1=((bloc.length - 1:Nat):Int):=by omega
 refine ⟨bloc.set (bloc.length - 1) (Ue bloc[bloc.length - 1] name (loca.length:Int)),?_,by simp,?_,j.tf,?_,by simpa using j.Sb,by simp;omega⟩
 ·rw [kq,Gf (by simp;omega),da,Ib (by simp;omega),da,Ib (by omega),da,ma,od,List.getElem?_eq_getElem c,da];simp
 ·intro u hu;rcases List.mem_append.1 hu with hu | hu
  ·exact j.ri u hu
  ·rw [List.mem_singleton.1 hu];exact d
 ·intro m hm n k a;rw [List.length_append,List.length_singleton];rcases List.mem_or_eq_of_mem_set hm with hm | rfl
  ·have:=j.Nd m hm n k a;omega
  ·rw [lh] at a;split at a
   ·obtain rfl:=Option.some.inj a;omega
   ·have:=j.Nd _ (List.getElem_mem c) n k a;omega
structure XI (p:Pb) (G:Prop) (T:Jf) (n:Nat):Prop where
 body:∀ (k:Nat) (l:List cb) (V:Prop) (kind para:Int) (loca:List Int) (resu take:Int) (code:List Oa) (bloc:Jg),l.length≤50→(∀ y ∈ l,mj k y)→ph (og p G k) V l→bloc.length+k≤90→5*k+160≤n→(V→loca≠[])→We p T loca take bloc→code.length+4*(l.map (re k)).sum≤100000→loca.length+(l.map (re k)).sum≤100000 →
  ∃ a b c,(Zk n).fj T kind para loca resu take code bloc l=some (kind,para,a,resu,take,b,c)∧Left p T loca take code bloc.length (l.map (re k)).sum a b c
 stat:∀ (k:Nat) (s:cb) (V:Prop) (kind para:Int) (loca:List Int) (resu take:Int) (code:List Oa) (bloc:Jg),mj k s→og p G k V s→0<bloc.length→bloc.length+k≤91→5*k+159≤n→(V→loca≠[])→We p T loca take bloc→code.length+4*re k s≤100000→loca.length+re k s≤100000 →
  ∃ a b c,(Zk n).Yk T kind para loca resu take code bloc s=some (kind,para,a,resu,take,b,c)∧Left p T loca take code bloc.length (re k s) a b c∧(s.Kind=1→a≠[])
theorem aG {α:Type}{l:List α}(h:0<l.length):cut l 0 ((l.length:Int) - 1)=some (l.take (l.length - 1)):=by
 rw [cut,if_pos (by omega)];simp
theorem YI (H:wj p T):∀ n,XI p G T n:=by
 intro n
 induction n with
 | zero=>exact ⟨fun _ _ _ _ _ _ _ _ _ _ _ _ _ _ h=>by omega,fun _ _ _ _ _ _ _ _ _ _ _ _ _ _ h=>by omega⟩
 | succ n A =>
  refine ⟨fun k l V kind para loca resu take code bloc za B u Z gc f j v w=>?_,fun k s V kind para loca resu take code bloc B u lc Z gc f j v w=>?_⟩
  ·show ∃ C D F,fj (Zk n) T kind para loca resu take code bloc l=_∧_;have le:=j.Sb;rw [fj,Gf (by simp;omega),da];have L:∀ (m i:Nat) (V:Prop) (loca:List Int) (code:List Oa) (Nd:Jg),i≤l.length→l.length<m+i→ph (og p G k) V (l.drop i)→(V→loca≠[])→Nd.length=bloc.length+1→We p T loca take Nd→code.length+4*((l.drop i).map (re k)).sum≤100000→loca.length+((l.drop i).map (re k)).sum≤100000 →
     ∃ C D F,Up (Zk n) l T m i kind para resu take loca code Nd=some (kind,para,C,resu,take,D,F)∧Left p T loca take code bloc.length ((l.drop i).map (re k)).sum C D F:=by
    intro m
    induction m with
    | zero=>intro i V loca code Nd rc fd; omega
    | succ m id =>
     intro i V loca code Nd rc fd u f Ne j v w;rw [Up];by_cases c:i<l.length
     ·have hm:l[i] ∈ l:=List.getElem_mem _;rw [List.drop_eq_getElem_cons c] at u;rw [List.drop_eq_getElem_cons c,List.map_cons,List.sum_cons] at v w ⊢;obtain ⟨v1,v2⟩:=u;obtain ⟨y,md,o,ma,e,z⟩:=A.stat k l[i] V kind para loca resu take code Nd (B _ hm) v1 (by omega) (by omega) (by omega) f j (by omega) (by omega);have Da:=e.b;have a2:=e.c;have a3:=e.Fc;have a4:=e.l;have a5:=e.ab;rw [if_pos (by omega),od,List.getElem?_eq_getElem c,da,ma,da];simp only [];rw [Ib (by omega),da];obtain ⟨M,rd,N,f1,f2⟩:=id (i+1) _ y md o c (by omega) v2 (fun q=>q.elim (fun q=>e.ne (f q)) z) (by omega) e.j (by omega) (by omega);have Aa:=f2.b;have K:=f2.c;have wb:=f2.Fc;have R:=f2.l;have zf:=f2.ab;exact ⟨M,rd,N,f1,f2.j,Aa,by omega,by omega,by omega,by omega⟩
     ·have Ba:l.drop i=[]:=List.drop_eq_nil_of_le (by omega);rw [Ba] at v w ⊢;rw [if_neg (by omega),Ib (by omega),da,aG (by omega),da];exact ⟨loca,code,_,rfl,j.take _,by rw [List.length_take];omega,Nat.le_refl _,by omega,Nat.le_refl _,by omega⟩
   have:=L (l.length+1) 0 V loca code (bloc++[[]]) (by omega) (by omega) u f (by simp) ⟨j.ri,j.tf,(fun m hm n k O=>by
    rcases List.mem_append.1 hm with hm | hm
    ·exact j.Nd m hm n k O
    ·rw [List.mem_singleton.1 hm] at O;cases O),by rw [List.length_append];simp;omega,j.ch⟩ v w
   exact this
  ·show ∃ C D F,Yk n (Zk n) T kind para loca resu take code bloc s=_∧_;cases k with
   | zero=>cases B
   | succ k =>
   obtain ⟨Qb,of,wd,S,Fd⟩:=B;obtain ⟨Id,W,be,wf,v2⟩:=u;have r:re (k+1) s=1+(if s.Kind=6 then 0 else Ig k s.X)+(if s.Kind=3∨s.Kind=4 then (s.Body.map (re k)).sum else 0)+(if s.Kind=3 then (s.Qd.map (re k)).sum else 0):=rfl;generalize re (k+1) s=Q at v w r ⊢;have P:=fun (kind para:Int) (loca:List Int) (resu take:Int) (code:List Oa) (bloc:Jg) (a b c:Int) (h:code.length≤2000000)=>br (T:=T) (kind:=kind) (para:=para) (loca:=loca) (resu:=resu) (take:=take) (bloc:=bloc) a b c h;have E:s.Kind≠6→∃ t Fc,(Hk n).Hi T kind para loca resu take code bloc s.X=some (t,kind,para,loca,resu,take,code++Fc,bloc)∧Fc.length=Ig k s.X∧bj p T t:=fun h=>by
    rw [if_neg h] at r;exact PE H n k s.X V kind para loca resu take code bloc (by omega) (wd h) (Id h) f j (by omega)
   rw [Yk];by_cases d3:s.Kind=3
   ·obtain ⟨t,d,ma,e,z⟩:=E (by omega);obtain ⟨Aa,K⟩:=S (.inl d3);obtain ⟨wb,R⟩:=Fd d3;rw [if_neg (by omega),if_pos (.inl d3),if_pos d3] at r;rw [if_pos d3,ma,da];simp only [];rw [P _ _ _ _ _ (code++d) _ _ _ _ (by simp;omega),da];simp only [];obtain ⟨y,g,o,f1,f2⟩:=A.body k s.Body V kind para loca resu take (code++d++[⟨22,0,0⟩]) bloc Aa K (W (.inl d3)) (by omega) (by omega) f j (by simp;omega) (by omega);have g1:=f2.b;have g2:=f2.c;have g3:=f2.Fc;have g4:=f2.l;have g5:=f2.ab;simp only [List.length_append,List.length_singleton] at g2 g3;rw [f1,da];simp only [];rw [P _ _ _ _ _ g _ _ _ _ (by omega),da,Xk,da];simp only [];have q1:(code++d).length<(g++[(⟨21,0,0⟩:Oa)]).length:=by simp;omega
    rw [od,List.getElem?_eq_getElem q1,da,ru];simp only [];generalize ce:(g++[(⟨21,0,0⟩:Oa)]).set _ _=Y;have If:Y.length=g.length+1:=by rw [← ce];simp
    obtain ⟨M,ge,N,he,x⟩:=A.body k s.Qd V kind para y resu take Y o wb R (be d3) (by omega) (by omega) (fun q=>f2.ne (f q)) f2.j (by omega) (by omega);have s1:=x.b;have s2:=x.c;have dg:=x.Fc;have rg:=x.l;have bi:=x.ab;rw [he,da,Xk,da];simp only [];rw [od,List.getElem?_eq_getElem (show g.length<ge.length by omega),da,qu];exact ⟨M,_,N,rfl,⟨x.j,by omega,by rw [List.length_set];omega,by rw [List.length_set];omega,by omega,by omega⟩,fun h=>by omega⟩
   rw [if_neg d3];by_cases d4:s.Kind=4
   ·obtain ⟨t,d,ma,e,z⟩:=E (by omega);obtain ⟨Aa,K⟩:=S (.inr d4);rw [if_neg (by omega),if_pos (.inr d4),if_neg d3] at r;rw [if_pos d4,Xk,da,ma,da];simp only [];rw [P _ _ _ _ _ (code++d) _ _ _ _ (by simp;omega),da];simp only [];obtain ⟨y,g,o,f1,f2⟩:=A.body k s.Body V kind para loca resu take (code++d++[⟨22,0,0⟩]) bloc Aa K (W (.inr d4)) (by omega) (by omega) f j (by simp;omega) (by omega);have g1:=f2.b;have g2:=f2.c;have g3:=f2.Fc;have g4:=f2.l;have g5:=f2.ab;simp only [List.length_append,List.length_singleton] at g2 g3;rw [f1,da];simp only [];rw [P _ _ _ _ _ g _ _ _ _ (by omega),da,Xk,da];simp only [];have q1:(code++d).length<(g++[(⟨21,(code.length:Int),0⟩:Oa)]).length:=by simp;omega
    rw [od,List.getElem?_eq_getElem q1,da,su];exact ⟨y,_,o,rfl,⟨f2.j,by omega,by simp;omega,by simp;omega,by omega,by omega⟩,fun h=>by omega⟩
   rw [if_neg d4];rw [if_neg (show ¬ (s.Kind=3∨s.Kind=4) by omega),if_neg d3] at r;by_cases d6:s.Kind=6
   ·rw [if_pos d6] at r;rw [if_pos d6,P _ _ _ _ _ code _ _ _ _ (by omega),da];exact ⟨loca,_,bloc,rfl,⟨j,rfl,by simp only [List.length_append,List.length_singleton];omega,by simp only [List.length_append,List.length_singleton];omega,Nat.le_refl _,by omega⟩,fun h=>by omega⟩
   rw [if_neg d6];rw [if_neg d6] at r;obtain ⟨t,d,ma,e,z⟩:=E d6;rw [ma,da];simp only [];by_cases d1:s.Kind=1
   ·obtain ⟨o,f1,f2,f3⟩:=hA (kind:=kind) (para:=para) (resu:=resu) (code:=code++d) j s.Name t z lc (by omega);rw [if_pos d1,f1,da];simp only [];rw [P _ _ _ _ _ (code++d) _ _ _ _ (by simp;omega),da];exact ⟨loca++[t],_,o,rfl,⟨f3,f2,by simp only [List.length_append,List.length_singleton];omega,by simp only [List.length_append,List.length_singleton];omega,by simp only [List.length_append,List.length_singleton];omega,by simp only [List.length_append,List.length_singleton];omega⟩,fun _=>by simp⟩
   rw [if_neg d1];have fin:∀ i:Oa,Left p T loca take code bloc.length Q loca (code++d++[i]) bloc:=fun i=>⟨j,rfl,by simp only [List.length_append,List.length_singleton];omega,by simp only [List.length_append,List.length_singleton];omega,Nat.le_refl _,by omega⟩;by_cases d2:s.Kind=2
   ·obtain ⟨i,f1,-,-⟩:=yA (kind:=kind) (para:=para) (resu:=resu) (code:=code++d) j n (by omega) s.Name;rw [if_pos d2,f1,da,P _ _ _ _ _ (code++d) _ _ _ _ (by simp;omega),da];exact ⟨loca,_,bloc,rfl,fin _,fun h=>by omega⟩
   rw [if_neg d2];by_cases d5:s.Kind=5
   ·rw [if_pos d5,P _ _ _ _ _ (code++d) _ _ _ _ (by simp;omega),da];exact ⟨loca,_,bloc,rfl,fin _,fun h=>by omega⟩
   rw [if_neg d5];by_cases d7:s.Kind=7
   ·rw [if_pos d7,P _ _ _ _ _ (code++d) _ _ _ _ (by simp;omega),da];exact ⟨loca,_,bloc,rfl,fin _,fun h=>by omega⟩
   rw [if_neg d7];by_cases d8:s.Kind=8
   ·rw [if_pos d8,P _ _ _ _ _ (code++d) _ _ _ _ (by simp;omega),da];exact ⟨loca,_,bloc,rfl,fin _,fun h=>by omega⟩
   rw [if_neg d8];have d9:s.Kind=9:=by omega
   rw [if_pos d9,P _ _ _ _ _ (code++d) _ _ _ _ (by simp;omega),da];exact ⟨loca,_,bloc,rfl,fin _,fun h=>by omega⟩
end Go.Y
namespace Go.Y
open Go.pc Go.nd
section
variable {p:Pb}{T:Jf}
theorem Fz (H:wj p T) (fu:Nat) (k:500≤fu) (d:na) (V:Prop) (ok:Mk d) (Qb:d.Kind≠1) (f:ph (og p (d.Kind=3) 39) V d.Body) (l:(d.Body.map (re 39)).sum≤2000) (bloc:Jg) (para resu:Int) (loca:List Int) (take:Int) (m:bloc.length=1) (g:V→loca≠[]) (j:We p T loca take bloc) (za:loca.length≤100) :
  ∃ u,Wp fu T d bloc d.Kind para resu loca [] take=some u∧u.Kind=d.Kind:=by
 obtain ⟨n,e,o,ma,i⟩:=(YI H fu).body 39 d.Body V d.Kind para loca resu take [] bloc (ok.Nd Qb) (ok.fk Qb) f (by omega) (by omega) g j (by simp;omega) (by omega);have a3:=i.Fc;simp only [List.length_nil] at a3;have P:=fun (kind para:Int) (loca:List Int) (resu take:Int) (code:List Oa) (bloc:Jg) (a b c:Int) (h:code.length≤2000000)=>br (T:=T) (kind:=kind) (para:=para) (loca:=loca) (resu:=resu) (take:=take) (bloc:=bloc) a b c h;rw [Wp,ma,da];simp only [];by_cases c:d.Kind≠2
 ·rw [if_pos c,P _ _ _ _ _ e _ _ _ _ (by omega),da];exact ⟨_,rfl,rfl⟩
 ·rw [if_neg c];by_cases q:resu=2
  ·rw [if_pos q,P _ _ _ _ _ e _ _ _ _ (by omega),da,Vp];simp only [];rw [P _ _ _ _ _ (e++[_]) _ _ _ _ (by simp;omega),da];exact ⟨_,rfl,rfl⟩
  ·rw [if_neg q,P _ _ _ _ _ e _ _ _ _ (by omega),da,Vp];simp only [];rw [P _ _ _ _ _ (e++[_]) _ _ _ _ (by simp;omega),da];exact ⟨_,rfl,rfl⟩
theorem Gz (H:wj p T) (fu:Nat) (a:500≤fu) (d:na) (V:Prop) (ok:Mk d) (Ba:uj p d) (Qb:d.Kind≠1) (b:ph (og p (d.Kind=3) 39) V d.Body) (e:(d.Body.map (re 39)).sum≤2000) (bloc:Jg) (para resu:Int) (loca:List Int) (f:bloc.length=1) (g:V→loca≠[]) (j:We p T loca 0 bloc) (za:loca.length≤100) :
  ∃ u,Xp fu T d bloc d.Kind para resu 0 loca []=some u∧u.Kind=d.Kind:=by
 rw [Xp];by_cases c:d.Kind=3
 ·obtain ⟨r,h,i⟩:=ar H (ok.tf c) (.of (Ba.tf c));rw [if_pos c,h,da];exact Fz H fu a d V ok Qb b e bloc para resu loca r f g ⟨j.ri,i,j.Nd,j.Sb,j.ch⟩ za
 ·rw [if_neg c];exact Fz H fu a d V ok Qb b e bloc para resu loca 0 f g j za
theorem QE (H:wj p T) (fu:Nat) (a:500≤fu) (d:na) (ok:Mk d) (Ba:uj p d) (Qb:d.Kind≠1) (b:ph (og p (d.Kind=3) 39) (d.Kind≠4∧d.Params≠[]) d.Body) (e:(d.Body.map (re 39)).sum≤2000) :
  ∃ u,ir fu T d=some u∧u.Kind=d.Kind:=by
 have f:We p T [] 0 [[]]:=⟨by simp,.inl (by omega),(fun m hm n k g=>by rw [List.mem_singleton.1 hm] at g;cases g),by simp,by simp⟩;rw [ir];by_cases c4:d.Kind=4
 ·rw [if_neg (by simpa using c4)];exact Gz H fu a d _ ok Ba Qb b e _ 0 0 [] rfl (fun h=>absurd c4 h.1) f (by simp)
 ·have l:d.Kind=2∨d.Kind=3:=by have:=ok.Qb;have:=ok.De;omega
  obtain ⟨z,o⟩:=ok.qh l;obtain ⟨r,q,A⟩:=ar H (ok.ty c4) (.of (Ba.ty c4));rw [if_pos c4,q,da,uu];have L:∀ (m i:Nat) (bloc:Jg) (loca:List Int),i≤d.Params.length→d.Params.length<m+i→bloc.length=1→loca.length=i→We p T loca 0 bloc→∃ u,bp fu T d m i bloc d.Kind (d.Params.length:Int) r 0 loca []=some u∧u.Kind=d.Kind:=by
   intro m
   induction m with
   | zero=>intro i bloc loca s v; omega
   | succ m w =>
    intro i bloc loca s v x za j;rw [bp];by_cases c:i<d.Params.length
    ·have hm:d.Params[i] ∈ d.Params:=List.getElem_mem _;obtain ⟨t,t1,t2⟩:=ar H (o _ hm) (Ba.qh l _ hm);obtain ⟨y,f1,f2,f3⟩:=hA (kind:=d.Kind) (para:=(d.Params.length:Int)) (resu:=r) (code:=[]) j d.Params[i].Name t t2 (by omega) (by omega);rw [if_pos (by omega),od,List.getElem?_eq_getElem c,da,t1,da,f1,da,tu,Ib (by omega),da];exact w (i+1) y (loca++[t]) c (by omega) (by omega) (by simp [za]) f3
    ·rw [if_neg (by omega)];exact Gz H fu a d _ ok Ba Qb b e bloc _ r loca x (fun h=>by
      have:=List.length_pos_iff.2 h.2;exact List.length_pos_iff.1 (by omega)) j (by omega)
  exact L (d.Params.length+1) 0 _ [] (by omega) (by omega) rfl rfl f
end
theorem yw {κ β:Type}[DecidableEq κ]:∀ (m:List (κ×β)) (k:κ) (x:β),yb m k=none→Ue m k x=m++[(k,x)]
 | [],k,x,_=>rfl
 | (a,b)::m,k,x,h=>by
  rw [yb] at h;by_cases c:a=k
  ·rw [if_pos c] at h;cases h
  ·rw [if_neg c] at h;rw [Ue,if_neg c,yw m k x h];rfl
theorem sy {κ β:Type}[DecidableEq κ]:∀ (m:List (κ×β)) (k:κ) (x:β),yb m k=some x→(k,x) ∈ m
 | (a,b)::m,k,x,h=>by
  rw [yb] at h;by_cases c:a=k
  ·rw [if_pos c] at h;cases h;rw [c];exact List.mem_cons_self ..
  ·rw [if_neg c] at h;exact List.mem_cons_of_mem _ (sy m k x h)
theorem filter_one {α:Type}(f:α→Int) (y:Int):∀ (l:List α) (x:α),(l.Pairwise fun a b=>f a≠f b)→x ∈ l→f x=y→(l.filter fun a=>decide (f a=y))=[x]
 | a::l,x,h,c,d=>by
  obtain ⟨e,g⟩:=List.pairwise_cons.1 h;rcases List.mem_cons.1 c with rfl | c
  ·rw [List.filter_cons_of_pos (by simpa using d)];rw [List.filter_eq_nil_iff.2 fun b i=>by have:=e b i;simp;omega]
  ·rw [List.filter_cons_of_neg (by have:=e x c;simp;omega)];exact filter_one f y l x g c d
structure tv (l:List na) (i:Nat) (c:List (Nm×Int)) (D:List (Nm×na)) (m:List bh):Prop where
 le:c.length≤i
 lt:∀ x ∈ c,0≤x.2∧x.2<c.length
 ne:c.Pairwise fun a b=>a.2≠b.2
 Df:∀ n u,yb c n=some u→∃ d ∈ l.take i,d.Name=n
 un:∀ d ∈ l.take i,d.Kind≠1→∃ u,yb c d.Name=some u
 Fi:∀ d ∈ l.take i,yb D d.Name=some d
 Ef:m=((l.take i).filter fun d=>decide (d.Kind=1)).map fun d=>⟨d.Ja.Kind,d.oc⟩
theorem tv.pD {p:Pb}{l:List na}(R:ki p l){c B:List (Nm×Int)}{D:List (Nm×na)}{m:List bh}(h:tv l l.length c D m):wj p ⟨B,c,D⟩:=by
 have f:l.take l.length=l:=List.take_length;have za:=R.ok.le;refine ⟨fun n d Ba=>?_,fun n d Ba Qb=>?_,fun n u hu=>?_,fun y i=>?_,fun n d Ba=>?_⟩
 ·obtain ⟨a,rfl⟩:=R.only n d Ba;exact h.Fi d (by rw [f];exact a)
 ·obtain ⟨a,rfl⟩:=R.only n d Ba;obtain ⟨u,hu⟩:=h.un d (by rw [f];exact a) Qb;have:=h.lt _ (sy _ _ _ hu);have:=h.le;refine ⟨u,hu,?_⟩;simp only at *;omega
 ·show pn c u=_;rw [pn,filter_one (fun e:Nm×Int=>e.2) u c (n,u) h.ne (sy _ _ _ hu) rfl];rfl
 ·show pn c y=_;rw [pn,List.filter_eq_nil_iff.2 fun b g=>by have:=h.lt b g;simp;omega];rfl
 ·obtain ⟨a,-⟩:=R.only n d Ba;exact ⟨R.ok.ok d a,R.Ba d a⟩
section
variable {p:Pb}{l:List na}{fu:Nat}
theorem Xn {i:Nat}(c:i<l.length) (P:na→Bool):(l.take (i+1)).filter P=(l.take i).filter P++[l[i]].filter P:=by
 rw [List.take_succ_eq_append_getElem c,List.filter_append]
theorem ND (R:ki p l) (k:∀ d ∈ l,d.Kind≠1→ph (og p (d.Kind=3) 39) (d.Kind≠4∧d.Params≠[]) d.Body) (o:500≤fu) (B a:List (Nm×Int)) (D:List (Nm×na)) (Ef:List bh) (H:wj p ⟨B,a,D⟩):∀ (m i:Nat) (us:List Xf),i≤l.length→l.length<m+i→us.map (·.Kind)=((l.take i).filter fun d=>decide (d.Kind≠1)).map (·.Kind) →
  ∃ r f,Pj fu l B a D Ef m i us=some (r,f)∧(f.gg=0→r.Qg=Ef∧r.sg.map (·.Kind)=(l.filter fun d=>decide (d.Kind≠1)).map (·.Kind)):=by
 have za:=R.ok.le;intro m
 induction m with
 | zero=>intro i us s t; omega
 | succ m g =>
  intro i us s t hu;have w:us.length≤30:=by
   have e:=congrArg List.length hu;rw [List.length_map,List.length_map] at e;have:=List.length_filter_le (fun d:na=>decide (d.Kind≠1)) (l.take i);rw [List.length_take] at this;omega
  rw [Pj];by_cases c:i<l.length
  ·have hm:l[i] ∈ l:=List.getElem_mem _;have bb:at_ l (i:Int)=some l[i]:=by rw [od,List.getElem?_eq_getElem c]
   rw [if_pos (by omega),bb,da];by_cases Qb:l[i].Kind=1
   ·rw [if_pos Qb,Ib (by omega),da];refine g (i+1) us c (by omega) ?_;rw [Xn c,List.filter_cons_of_neg (by simpa using Qb),List.filter_nil,List.append_nil];exact hu
   ·have v:(l[i].Body.map (re 39)).sum≤2000:=by
     have h:=Ow Xl l l[i] hm;have:=R.ok.n;rw [Xl,if_pos Qb] at h;omega
    obtain ⟨u,je,td⟩:=QE H fu o l[i] (R.ok.ok _ hm) (R.Ba _ hm) Qb (k _ hm Qb) v;rw [if_neg Qb,da,je,da];have j:∀ b,∃ r f,Kn (i:Int) us u (Pj fu l B a D Ef m) b=some (r,f)∧(f.gg=0→r.Qg=Ef∧r.sg.map (·.Kind)=(l.filter fun d=>decide (d.Kind≠1)).map (·.Kind)):=by
     intro b;rw [Kn];by_cases q:b=true
     ·rw [if_pos q];exact ⟨_,_,rfl,fun h=>absurd h (by show ¬ (5:Int)=0;decide)⟩
     ·rw [if_neg q,Gf (by simp;omega),da,Ib (by omega),da];refine g (i+1) (us++[u]) c (by omega) ?_;rw [Xn c,List.filter_cons_of_pos (by simpa using Qb),List.filter_nil,List.map_append,List.map_append,hu];simp [td]
    split
    ·exact j _
    ·exact j _
  ·rw [if_neg (by omega)];rw [List.take_of_length_le (by omega)] at hu;exact ⟨_,_,rfl,fun _=>⟨rfl,hu⟩⟩
theorem OD (R:ki p l) (w:∀ d ∈ l,d.Kind≠1→ph (og p (d.Kind=3) 39) (d.Kind≠4∧d.Params≠[]) d.Body) (y:500≤fu):∀ (m i:Nat) (B g:List (Nm×Int)) (D:List (Nm×na)) (Ef:List bh),i≤l.length→l.length<m+i→tv l i g D Ef →
  ∃ r f,Sk fu l m i B g D Ef=some (r,f)∧(f.gg=0→r.Qg=((l.filter fun d=>decide (d.Kind=1)).map fun d=>⟨d.Ja.Kind,d.oc⟩)∧r.sg.map (·.Kind)=(l.filter fun d=>decide (d.Kind≠1)).map (·.Kind)):=by
 have za:=R.ok.le;intro m
 induction m with
 | zero=>intro i B g D Ef z A; omega
 | succ m v =>
  intro i B g D Ef z A h;rw [Sk];by_cases c:i<l.length
  ·have hm:l[i] ∈ l:=List.getElem_mem _;have bb:at_ l (i:Int)=some l[i]:=by rw [od,List.getElem?_eq_getElem c]
   have tf:=List.take_succ_eq_append_getElem c;have s:∀ d ∈ l.take i,d.Name≠l[i].Name:=fun d Ba=>by
    obtain ⟨j,C,rfl⟩:=List.getElem_of_mem Ba;rw [List.length_take] at C;rw [List.getElem_take];exact (List.pairwise_iff_getElem.1 R.Yl) j i (by omega) c (by omega)
   have Fi:∀ d ∈ l.take (i+1),yb (Ue D l[i].Name l[i]) d.Name=some d:=by
    intro d Ba;rw [tf] at Ba;rw [lh];rcases List.mem_append.1 Ba with Ba | Ba
    ·rw [if_neg fun he=>s d Ba he.symm];exact h.Fi d Ba
    ·rw [List.mem_singleton.1 Ba,if_pos rfl]
   rw [if_pos (by omega),bb,da,da,da];by_cases Qb:l[i].Kind=1
   ·have E:l[i].Ja.Kind≠3:=(R.Ba _ hm).ty (by omega);have L:Ef.length≤30:=by
     rw [h.Ef,List.length_map];have:=List.length_filter_le (fun d:na=>decide (d.Kind=1)) (l.take i);rw [List.length_take] at this;omega
    rw [if_pos Qb,da,Pr,bb,da,da,Ku,if_neg E,da,Gf (by simp;omega),da,Nr,Ib (by omega),da];refine v (i+1) _ g _ _ c (by omega) ⟨by have:=h.le;omega,h.lt,h.ne,fun n u hu=>?_,fun d Ba k=>?_,Fi,?_⟩
    ·obtain ⟨d,d1,d2⟩:=h.Df n u hu;exact ⟨d,by rw [tf];exact List.mem_append.2 (.inl d1),d2⟩
    ·rw [tf] at Ba;rcases List.mem_append.1 Ba with Ba | Ba
     ·exact h.un d Ba k
     ·rw [List.mem_singleton.1 Ba] at k;exact absurd Qb k
    ·rw [Xn c,List.filter_cons_of_pos (by simpa using Qb),List.filter_nil,List.map_append,h.Ef];rfl
   ·have F:yb g l[i].Name=none:=by
     cases e:yb g l[i].Name with
     | none=>rfl
     | some u =>
      obtain ⟨d,d1,d2⟩:=h.Df _ u e;exact absurd d2 (s d d1)
    have t:=yw g l[i].Name (g.length:Int) F;rw [if_neg Qb,da,Qr,Ib (by omega),da];refine v (i+1) B _ _ Ef c (by omega) ⟨?_,fun x o=>?_,?_,fun n u hu=>?_,fun d Ba k=>?_,Fi,?_⟩
    ·rw [t,List.length_append,List.length_singleton];have:=h.le;omega
    ·rw [t] at o ⊢;rw [List.length_append,List.length_singleton];rcases List.mem_append.1 o with o | o
     ·have:=h.lt x o;omega
     ·rw [List.mem_singleton.1 o];simp only;omega
    ·rw [t,List.pairwise_append];refine ⟨h.ne,List.pairwise_singleton _ _,fun a G b q=>?_⟩;rw [List.mem_singleton.1 q];have:=h.lt a G;simp only;omega
    ·rw [lh] at hu;rw [tf];split at hu
     ·rename_i k;exact ⟨l[i],List.mem_append.2 (.inr (List.mem_singleton.2 rfl)),k⟩
     ·obtain ⟨d,d1,d2⟩:=h.Df n u hu;exact ⟨d,List.mem_append.2 (.inl d1),d2⟩
    ·rw [tf] at Ba;rw [lh];rcases List.mem_append.1 Ba with Ba | Ba
     ·rw [if_neg fun he=>s d Ba he.symm];exact h.un d Ba k
     ·rw [List.mem_singleton.1 Ba,if_pos rfl];exact ⟨_,rfl⟩
    ·rw [Xn c,List.filter_cons_of_neg (by simpa using Qb),List.filter_nil,List.append_nil];exact h.Ef
  ·rw [if_neg (by omega)];have e:i=l.length:=by omega
   subst e;have q:=h.Ef;rw [List.take_length] at q;obtain ⟨r,f,ma,H⟩:=ND R w y B g D Ef (h.pD R) (l.length+1) 0 [] (by omega) (by omega) (by simp);refine ⟨r,f,ma,fun K=>?_⟩;obtain ⟨s1,s2⟩:=H K;exact ⟨s1.trans q,s2⟩
theorem zD (b:500≤fu) (l:List na):∃ r f,Wn fu l=some (r,f)∧(f.gg=0→l.length≤30∧r.Qg=((l.filter fun d=>decide (d.Kind=1)).map fun d=>⟨d.Ja.Kind,d.oc⟩)∧r.sg.map (·.Kind)=(l.filter fun d=>decide (d.Kind≠1)).map (·.Kind)):=by
 obtain ⟨p,f,c,e⟩:=Fx fu b l;rcases e with ⟨z,h⟩ | ⟨z,R,h⟩
 ·rw [Wn,Ss,h,da,da,if_pos z,Mr];exact ⟨_,f,rfl,fun a=>absurd a z⟩
 ·obtain ⟨-,g⟩:=xA b c z;rw [Wn,Ss,h,da,da];by_cases q:(Ql (Cm p.named fu l []) l l 0 []).2.gg≠0
  ·rw [if_pos q,Mr];exact ⟨_,_,rfl,fun a=>absurd a q⟩
  ·rw [if_neg q];obtain ⟨r,f,ma,i⟩:=OD R g b (l.length+1) 0 [] [] [] [] (by omega) (by omega) ⟨by simp,by simp,List.Pairwise.nil,(fun n u h=>by cases h),by simp,by simp,by simp⟩;exact ⟨r,f,ma,fun a=>⟨R.ok.le,i a⟩⟩
end
end Go.Y
namespace Go.Y
open Go.pc Go.nd
def Dn (k:Nat) (i:Oa):Oa:=if i.Op=21∨i.Op=22 then ⟨i.Op,i.A+(k:Int),i.N⟩ else i
def ue (k:Nat) (c:List Oa):List Oa:=c.map (Dn k)
theorem sI (a b:Nat) (i:Oa):Dn a (Dn b i)=Dn (a+b) i:=by
 unfold Dn;by_cases c:i.Op=21∨i.Op=22
 ·rw [if_pos c,if_pos c];rw [if_pos c];show Oa.mk i.Op (i.A+b+a) i.N=_;rw [show (i.A+b+a:Int)=i.A+((a+b:Nat):Int) by omega]
 ·rw [if_neg c,if_neg c,if_neg c]
theorem ax (a b:Nat) (c:List Oa):ue a (ue b c)=ue (a+b) c:=by
 unfold ue;rw [List.map_map];exact List.map_congr_left fun i _=>sI a b i
theorem qq (k:Nat) (a b:List Oa):ue k (a++b)=ue k a++ue k b:=List.map_append
theorem ln (k:Nat) (c:List Oa):(ue k c).length=c.length:=List.length_map ..
def zj (c:List Oa):Prop:=∀ i ∈ c,¬ (i.Op=21∨i.Op=22)
theorem zj.ue {c:List Oa}(h:zj c) (k:Nat):Go.Y.ue k c=c:=by
 unfold Go.Y.ue
 conv=>rhs;rw [← List.map_id c]
 exact List.map_congr_left fun i a=>if_neg (h i a)
theorem zj.app {a b:List Oa}(h:zj a) (c:zj b):zj (a++b):=fun i d=>(List.mem_append.1 d).elim (h i) (c i)
theorem zj.one {i:Oa}(h:¬ (i.Op=21∨i.Op=22)):zj [i]:=fun j a=>by rw [List.mem_singleton.1 a];exact h
def Qk (k:Nat) (c:List Oa):Prop:=∀ i ∈ c,(i.Op=21∨i.Op=22)→0≤i.A∧i.A≤(k:Int)
theorem zj.Ti {c:List Oa}(h:zj c) (k:Nat):Qk k c:=fun i a q=>absurd q (h i a)
theorem Qk.app {a b:List Oa}{k:Nat}(h:Qk k a) (c:Qk k b):Qk k (a++b):=fun i d=>(List.mem_append.1 d).elim (h i) (c i)
theorem Qk.up {a:List Oa}{k b:Nat}(h:Qk k a) (le:k≤b):Qk b a:=fun i c q=>by have:=h i c q;omega
theorem Qk.ue {a:List Oa}{k:Nat}(h:Qk k a) (j:Nat):Qk (j+k) (Go.Y.ue j a):=by
 intro i d q;obtain ⟨b,e,rfl⟩:=List.mem_map.1 d;unfold Dn at q ⊢;by_cases c:b.Op=21∨b.Op=22
 ·rw [if_pos c];have:=h b e c;simp only;omega
 ·rw [if_neg c] at q;exact absurd q c
theorem Ht {a b:List Oa}(g:Qk 1000000 b) (p:a.length≤1000000) (r:b.length≤1000000):Zm a b=some (a++ue a.length b):=by
 have L:∀ (m i:Nat) (o:List Oa),i≤b.length→b.length<m+i→o.length≤1000000+i→Km a b m i o=some (o++ue a.length (b.drop i)):=by
  intro m
  induction m with
  | zero=>intro i o j k; omega
  | succ m l =>
   intro i o j k s;rw [Km];by_cases c:i<b.length
   ·rw [if_pos (by omega),od,List.getElem?_eq_getElem c,da,List.drop_eq_getElem_cons c];have We:∀ q,(q=true ↔ b[i].Op=21∨b[i].Op=22)→As a i o b[i] (Km a b m) q=some (o++ue a.length (b[i]::b.drop (i+1))):=by
     intro q d;have e:∀ x:Int,Oa.mk b[i].Op x b[i].N=Dn a.length b[i]→zs i o b[i] (Km a b m) x=some (o++ue a.length (b[i]::b.drop (i+1))):=by
      intro x n;rw [zs,Gf (by simp;omega),da,Ib (by omega),da];refine (l (i+1) _ c (by omega) (by simp;omega)).trans ?_;rw [n,List.append_assoc];rfl
     rw [As];by_cases t:q=true
     ·have f:=d.1 t;have:=g _ (List.getElem_mem c) f;rw [if_pos t,Ib (by omega),da];exact e _ (by rw [Dn,if_pos f])
     ·rw [if_neg t];exact e _ (by rw [Dn,if_neg fun h=>t (d.2 h)])
    by_cases q:b[i].Op=21
    ·rw [if_pos q];exact We _ (by simp [q])
    ·rw [if_neg q];exact We _ (by simp [q])
   ·rw [if_neg (by omega),List.drop_eq_nil_of_le (by omega)];simp [ue]
 rw [Zm,Gf (by simp;omega),da];have:=L (b.length+1) 0 ([]++a) (by omega) (by omega) (by simp;omega);rw [List.drop_zero] at this;exact this
abbrev Xb:=List Vb
def yq (N:Xb) (k:Int):Option Nm:=(at_ N k).map (·.Name)
def Gh (N:Xb):List Int→Nm→Option Int
 | [],_=>none
 | k::s,n=>if yq N k=some n then some k else Gh N s n
def Ir:Jg→Nm→Int
 | [],_=>0
 | m::O,n=>match yb m n with
  | some k=>k
  | none=>Ir O n
inductive Rk (N:Xb):Jg→List Int→Prop
 | nil:Rk N [] []
 | cons {m:List (Nm×Int)} {O:Jg} {Ad a:List Int}:Rk N O a→(∀ n,yb m n=Gh N Ad n)→Rk N (m::O) (Ad++a)
theorem cC (N:Xb) (n:Nm):∀ a b:List Int,Gh N (a++b) n=match Gh N a n with
  | some k=>some k
  | none=>Gh N b n
 | [],b=>rfl
 | k::a,b=>by
  rw [List.cons_append,Gh,Gh];split
  ·rfl
  ·exact cC N n a b
theorem dC {N:Xb}{n:Nm}{k:Int}:∀ {s:List Int},Gh N s n=some k→k ∈ s
 | a::s,h=>by
  rw [Gh] at h;split at h
  ·rw [Option.some.inj h];exact List.mem_cons_self ..
  ·exact List.mem_cons_of_mem _ (dC h)
theorem CH {N:Xb}(X:Xb){k:Int}(h:0≤k∧k<N.length):yq (N++X) k=yq N k:=by
 obtain ⟨a,rfl⟩:∃ a:Nat,k=a:=⟨k.toNat,by omega⟩;rw [yq,yq,od,od,List.getElem?_append_left (by omega)]
theorem Ut {N:Xb}(X:Xb) (n:Nm):∀ {s:List Int},(∀ k ∈ s,0≤k∧k<N.length)→Gh (N++X) s n=Gh N s n
 | [],_=>rfl
 | k::s,h=>by rw [Gh,Gh,CH X (h k (List.mem_cons_self ..)),Ut X n fun j a=>h j (List.mem_cons_of_mem _ a)]
theorem Rk.up {N:Xb}(X:Xb){R:Jg}{S:List Int}(h:Rk N R S):(∀ k ∈ S,0≤k∧k<N.length)→Rk (N++X) R S:=by
 induction h with
 | nil=>exact fun _=>.nil
 | cons e c d =>
  intro b;exact .cons (d fun k a=>b k (List.mem_append.2 (.inr a))) fun n=>by rw [c,Ut X n fun k a=>b k (List.mem_append.2 (.inl a))]
theorem Rk.look {N:Xb}{R:Jg}{S:List Int}(h:Rk N R S) (n:Nm):Ir R n=(Gh N S n).getD 0:=by
 induction h with
 | nil=>rfl
 | cons c a b =>
  rw [Ir,cC,a];split
  ·simp
  ·simp [b]
variable {p:Pb}{T:Jf}{G:Prop}{l:List na}
theorem yC {kind para:Int}{loca:List Int}{resu take:Int}{code:List Oa}{R:Jg}(d:R.length≤100) (fu:Nat) (i:110≤fu) (name:Nm) :
  mq fu T kind para loca resu take code R.reverse name=some (Ir R name):=by
 have L:∀ (R O:Jg) (n:Nat),R.length<n→R.length≤100→Zo name (R.reverse++O) n ((R.length:Int) - 1)=some (Ir R name):=by
  intro R
  induction R with
  | nil =>
   intro O n a c;obtain ⟨n,rfl⟩:∃ b,n=b+1:=⟨n - 1,by simp at a;omega⟩;rw [Zo,if_neg (by simp)];rfl
  | cons m R f =>
   intro O n a c;simp only [List.length_cons] at a c;obtain ⟨n,rfl⟩:∃ b,n=b+1:=⟨n - 1,by omega⟩;have e:(((m::R).length:Nat):Int) - 1=(R.length:Int):=by simp
   have g:((m::R).reverse++O)[R.length]?=some m:=by simp
   rw [Zo,e,if_pos (by omega),od,g,da,Ir];cases h:yb m name with
   | none =>
    rw [if_neg (by simp),Ib (by omega),da,List.reverse_cons,List.append_assoc];exact f _ n (by omega) (by omega)
   | some t=>rw [if_pos (by simp)]; rfl
 rw [mq,List.length_reverse,Ib (by omega),da];have:=L R [] fu (by omega) d;rwa [List.append_nil] at this
section
variable {q1:Int}{q2:Nm}{q3:Int}{q4:Nm}{q5:Int}{q6:Nm}{q7:Int}{q8:List TParam}{q9:List cb}
theorem zC {loca:List Int}{N:Xb}{S:List Int}(i:∀ k ∈ S,0≤k∧k<N.length) (za:S.length≤3000) (fu:Nat) (q:3010≤fu) (name:Nm) :
  It fu l false q1 q2 q3 q4 q5 q6 q7 q8 q9 loca N S.reverse name=some ((Gh N S name).getD 0):=by
 have L:∀ (S O:List Int) (n:Nat),S.length<n→S.length≤3000→(∀ k ∈ S,0≤k∧k<N.length)→Wq name N (S.reverse++O) n ((S.length:Int) - 1)=some ((Gh N S name).getD 0):=by
  intro S
  induction S with
  | nil =>
   intro O n b f _;obtain ⟨n,rfl⟩:∃ d,n=d+1:=⟨n - 1,by simp at b;omega⟩;rw [Wq,if_neg (by simp)];rfl
  | cons k S m =>
   intro O n b f g;simp only [List.length_cons] at b f;obtain ⟨n,rfl⟩:∃ d,n=d+1:=⟨n - 1,by omega⟩;have e:(((k::S).length:Nat):Int) - 1=(S.length:Int):=by simp
   have o:((k::S).reverse++O)[S.length]?=some k:=by simp
   have r:=g k (List.mem_cons_self ..);obtain ⟨a,rfl⟩:∃ a:Nat,k=a:=⟨k.toNat,by omega⟩;have h:a<N.length:=by omega
   rw [Wq,e,if_pos (by omega),od,o,da,od,List.getElem?_eq_getElem h,da,Gh,yq,od,List.getElem?_eq_getElem h];by_cases c:N[a].Name=name
   ·rw [if_pos c,da,if_pos (by simp [c])];rfl
   ·rw [if_neg c,Ib (by omega),da,List.reverse_cons,List.append_assoc,if_neg (by simpa using c)];exact m _ n (by omega) (by omega) fun j p=>g j (List.mem_cons_of_mem _ p)
 rw [It,List.length_reverse,Ib (by omega),da];have:=L S [] fu (by omega) za i;rwa [List.append_nil] at this
def Vl (l:List na) (n:Nm):Option Int:=Wo l n (l.length+1) 0 0 0
def Ko (l:List na) (t:pb):Option Int:=if t.Kind=3 then (Vl l t.Pa).bind fun r=>(i64 (10+r)).bind fun i=>some i else some t.Kind
structure vn (p:Pb) (T:Jf) (l:List na):Prop where
 nl:l.length≤30
 un:∀ n d,yb p.named n=some d→d.Kind≠1→Vl l n=yb T.ij n
 Ef:∀ n d,yb p.named n=some d→d.Kind=1→∃ u,yb T.boxes n=some u∧Vl l n=some u
 Fi:∀ n d,yb p.named n=some d→lq l n (l.length+1) 0=some d
 Df:∀ d ∈ l,yb p.named d.Name=some d
 mem:∀ n d,yb p.named n=some d→d ∈ l∧d.Name=n
theorem bx (H:wj p T) (a:vn p T l){t:pb}(b:Ai p t):Ko l t=bl T t:=by
 rw [Ko,bl];by_cases c:t.Kind=3
 ·obtain ⟨d,d1,d2⟩:=b c;obtain ⟨u,je,td,e⟩:=H.un _ d d1 (by omega);rw [if_pos c,if_pos c,a.un _ d d1 (by omega),je];rfl
 ·rw [if_neg c,if_neg c]
theorem bz (H:wj p T) (a:vn p T l){n:Nm}{d:na}(h:yb p.named n=some d) (De:d.Kind≠4):Ko l d.Ja=bl T d.Ja :=
 bx H a (.of ((H.ok n d h).2.ty De))
theorem LC {a b t:Int}{z:List Oa}(h:z.length≤2000000):Jk a b t z=some (z++[⟨a,b,0⟩],t):=by
 rw [Jk,Lg,da,Gf (by simp;omega),da,ow]
theorem MC (n:vn p T l){loca:List Int}{N:Xb}{S:List Int}{first:Int}{o:List Oa}(q:o.length≤2000000){r v:Int}(hu:∀ d ∈ l,d.Kind=3→∃ u,Vl l d.Name=some u∧0≤u∧u≤30) (s:∀ d ∈ l,d.Kind=3→Vl l d.Name=some (first - 10)→Ko l d.Ja=some r):∀ (m i:Nat) (acc:Int),i≤l.length→l.length<m+i →
  ((∃ d ∈ l.drop i,d.Kind=3∧Vl l d.Name=some (first - 10))→v=r)→((∀ d ∈ l.drop i,¬ (d.Kind=3∧Vl l d.Name=some (first - 10)))→v=acc) →
  dq l false q1 q2 q3 q4 q5 q6 q7 q8 q9 loca N S first o m acc i=some (o++[⟨30,0,0⟩],v):=by
 have za:=n.nl;intro m
 induction m with
 | zero=>intro i acc t w; omega
 | succ m g =>
  intro i acc t w f b;rw [dq];by_cases c:i<l.length
  ·have hm:l[i] ∈ l:=List.getElem_mem c;rw [if_pos (by omega),od,List.getElem?_eq_getElem c,da];rw [List.drop_eq_getElem_cons c] at f b;by_cases a:l[i].Kind=3
   ·obtain ⟨u,je,td,y⟩:=hu _ hm a;have x:rm l false q1 q2 q3 q4 q5 q6 q7 q8 q9 loca N S l[i].Name=some u:=je;rw [if_pos a,x,da,Ib (by omega),da,ht];by_cases e:10+u=first
    ·have j:Vl l l[i].Name=some (first - 10):=by rw [je];congr 1;omega
     have t1:sk l false q1 q2 q3 q4 q5 q6 q7 q8 q9 loca N S l[i].Ja=some r:=s _ hm a j;rw [if_pos (by simpa using e),t1,da,Ib (by omega),da];have k:=f ⟨_,List.mem_cons_self ..,a,j⟩;exact g (i+1) r c (by omega) (fun _=>k) fun _=>k
    ·rw [if_neg (by simpa using e),Ib (by omega),da];refine g (i+1) acc c (by omega) (fun ⟨d,d1,d2⟩=>f ⟨d,List.mem_cons_of_mem _ d1,d2⟩) fun h=>b fun d Ba=>?_;rcases List.mem_cons.1 Ba with rfl | Ba
     ·rintro ⟨-,h⟩;rw [je] at h;have:=Option.some.inj h;omega
     ·exact h d Ba
   ·rw [if_neg a,ht,if_neg (by decide),Ib (by omega),da];refine g (i+1) acc c (by omega) (fun ⟨d,d1,d2⟩=>f ⟨d,List.mem_cons_of_mem _ d1,d2⟩) fun h=>b fun d Ba=>?_;rcases List.mem_cons.1 Ba with rfl | Ba
    ·exact fun h=>a h.1
    ·exact h d Ba
  ·rw [List.drop_eq_nil_of_le (by omega)] at b;rw [if_neg (by omega),LC q,da,b (by simp)]
structure K (p:Pb) (T:Jf) (loca:List Int) (take:Int) (R:Jg) (N:Xb) (S:List Int):Prop where
 ri:∀ t ∈ loca,bj p T t
 tf:bj p T take
 Sb:R.length≤100
 nl:N.length=loca.length
 ch:loca.length≤3000
 Cx:Rk N R S
 Ad:∀ k ∈ S,0≤k∧k<loca.length
 tl:S.length≤loca.length
theorem K.tD {loca:List Int}{take:Int}{R:Jg}{N:Xb}{S:List Int}(h:K p T loca take R N S) (name:Nm):∃ i:Nat,Ir R name=(i:Int)∧(Gh N S name).getD 0=(i:Int)∧(loca≠[]→i<loca.length):=by
 have e:=h.Cx.look name;cases q:Gh N S name with
 | none =>
  rw [q] at e;exact ⟨0,e,rfl,fun h=>List.length_pos_iff.2 h⟩
 | some k =>
  rw [q] at e;have:=h.Ad k (dC q);exact ⟨k.toNat,by rw [e];simp;omega,by simp;omega,fun _=>by omega⟩
end
end Go.Y
namespace Go.Y
open Go.pc Go.nd
section
variable {p:Pb}{T:Jf}{G:Prop}{l:List na}
variable {q1:Int}{q2:Nm}{q3:Int}{q4:Nm}{q5:Int}{q6:Nm}{q7:Int}{q8:List TParam}{q9:List cb}
theorem bG (H:wj p T) (f:vn p T l){take:Int}(gc:G→Ko l ⟨q5,q6⟩=some take){k n:Nat}{x:hb}{V:Prop}{kind para:Int}{loca:List Int}{resu:Int}{code out:List Oa}{R:Jg}{N:Xb}{S:List Int}{A:List Int}{first:Int}(lc:3010≤n) (rc:jh (k+1) x) (fd:nc p G V (k+1) x) (id:V→loca≠[]) (j:K p T loca take R N S) (za:code.length+out.length≤1000000) (le:A.length=x.Kids.length) (md:∀ t ∈ A,bj p T t) (rd:∀ t,A.head?=some t→first=t)
  (self:cu) (wd:gu) (m Fd:Nat) (i:Nat) (ne:i=x.Kids.length):∃ t c,Rm n self x T (m+1) i kind para resu take loca (code++out) R.reverse A=some (t,kind,para,loca,resu,take,code++out++[c],R.reverse)∧fo n wd l x false q1 q2 q3 q4 q5 q6 q7 q8 q9 loca N S.reverse (Fd+1) first i out=some (out++[c],t)∧bj p T t∧¬ (c.Op=21∨c.Op=22):=by
 obtain ⟨Qb,Ne,F,of⟩:=rc;obtain ⟨Id,be,c20,c3,c21,wf⟩:=fd;have ce:(code++out).length≤2000000:=by rw [List.length_append];omega
 have P:=fun a b c=>br (T:=T) (kind:=kind) (para:=para) (loca:=loca) (resu:=resu) (take:=take) (bloc:=R.reverse) (code:=code++out) a b c ce;have Q:=fun a b t=>LC (a:=a) (b:=b) (t:=t) (z:=out) (show out.length≤2000000 by omega);have If:=j.ch;have dm:=j.nl;have M:¬ ((i:Int)<(x.Kids.length:Int)):=by omega
 rw [Rm,fo,if_neg M,if_neg M];by_cases d1:x.Kind=1
 ·rw [if_pos d1,if_pos d1,P,da,Gf (by simp;omega),da];exact ⟨1,_,rfl,rfl,.inl (by omega),by show ¬ ((1:Int)=21∨(1:Int)=22);decide⟩
 rw [if_neg d1,if_neg d1];by_cases d2:x.Kind=2
 ·rw [if_pos d2,if_pos d2,P,da,Q,da];exact ⟨2,_,rfl,rfl,.inl (by omega),by show ¬ ((2:Int)=21∨(2:Int)=22);decide⟩
 rw [if_neg d2,if_neg d2];by_cases d3:x.Kind=3
 ·obtain ⟨dg,ma,g,y⟩:=j.tD x.Name;have y:=y (id (c3 d3));rw [if_pos d3,if_pos d3,yC j.Sb n (by omega),da,ma,P,da,zC (fun k F=>by rw [dm];exact j.Ad k F) (by have:=j.tl;omega) n lc,da,g];simp only [];rw [od,List.getElem?_eq_getElem y,da,da,Q,da];exact ⟨_,_,rfl,rfl,j.ri _ (List.getElem_mem _),by show ¬ ((3:Int)=21∨(3:Int)=22);decide⟩
 rw [if_neg d3,if_neg d3];by_cases d4:x.Kind=4
 ·rw [if_pos d4,if_pos d4,P,da,Q,da];exact ⟨1,_,rfl,rfl,.inl (by omega),by show ¬ ((6:Int)=21∨(6:Int)=22);decide⟩
 rw [if_neg d4,if_neg d4];by_cases d5:x.Kind=5
 ·rw [if_pos d5,if_pos d5,P,da,Q,da];exact ⟨2,_,rfl,rfl,.inl (by omega),by show ¬ ((7:Int)=21∨(7:Int)=22);decide⟩
 rw [if_neg d5,if_neg d5,if_pos (by omega)];rw [Qq];by_cases q:x.Kind≤18
 ·rw [if_pos (decide_eq_true q),Ib (by omega),da,Ib (by omega),da,P,da,if_neg (show ¬ x.Kind=19 by omega),if_neg (show ¬ x.Kind=20 by omega),if_neg (show ¬ x.Kind=21 by omega),if_neg (show ¬ x.Kind=22 by omega),if_neg (show ¬ x.Kind=24 by omega),if_neg (show ¬ x.Kind=23 by omega)];have O:∀ t,ft x out t=some (out++[⟨8+x.Kind - 6,0,0⟩],t):=by
   intro t;rw [ft,Ib (by omega),da,Ib (by omega),da,Q,da,show (x.Kind - 6+8:Int)=8+x.Kind - 6 by omega]
  have B:¬ ((8+x.Kind - 6:Int)=21∨(8+x.Kind - 6:Int)=22):=by omega
  by_cases c:x.Kind≤10
  ·rw [if_pos c,if_pos c,O];exact ⟨1,_,rfl,rfl,.inl (by omega),B⟩
  ·rw [if_neg c,if_neg c,O];exact ⟨2,_,rfl,rfl,.inl (by omega),B⟩
 rw [if_neg (by simpa using q)];have num:∀ u,Vl l x.Name=some u→rm l false q1 q2 q3 q4 q5 q6 q7 q8 q9 loca N S.reverse x.Name=some u:=fun u h=>h;by_cases d19:x.Kind=19
 ·obtain ⟨d,ma,g⟩:=Id d19;obtain ⟨r,s,C⟩:=Bt H ma (by omega);obtain ⟨u,je,td,D⟩:=H.un _ d ma (by omega);have Fi:Rt l false q1 q2 q3 q4 q5 q6 q7 q8 q9 loca N S.reverse x.Name=some d:=f.Fi _ d ma;have ty:sk l false q1 q2 q3 q4 q5 q6 q7 q8 q9 loca N S.reverse d.Ja=some r:=(bz H f ma (by omega)).trans s;rw [if_pos d19,if_pos d19,P,da,H.Fi _ _ ma,da,s,da,num u (by rw [f.un _ d ma (by omega),je]),da,Fi,da,ty,da,Q,da,je];exact ⟨r,_,rfl,rfl,C,by show ¬ ((23:Int)=21∨(23:Int)=22);decide⟩
 rw [if_neg d19,if_neg d19];by_cases d20:x.Kind=20
 ·obtain ⟨d,ma,g⟩:=c20 d20;obtain ⟨r,s,C⟩:=Bt H ma (by omega);obtain ⟨u,je,td⟩:=f.Ef _ d ma g;have Fi:Rt l false q1 q2 q3 q4 q5 q6 q7 q8 q9 loca N S.reverse x.Name=some d:=f.Fi _ d ma;have ty:sk l false q1 q2 q3 q4 q5 q6 q7 q8 q9 loca N S.reverse d.Ja=some r:=(bz H f ma (by omega)).trans s;rw [if_pos d20,if_pos d20,P,da,H.Fi _ _ ma,da,s,da,num u td,da,Fi,da,ty,da,Q,da,je];exact ⟨r,_,rfl,rfl,C,by show ¬ ((27:Int)=21∨(27:Int)=22);decide⟩
 rw [if_neg d20,if_neg d20];by_cases d22:x.Kind=22
 ·obtain ⟨d,ma,g⟩:=be d22;obtain ⟨u,je,td,D⟩:=H.un _ d ma (by omega);have Az:=num u (by rw [f.un _ d ma (by omega),je]);rw [if_pos d22,if_neg (show ¬ x.Kind=21 by omega),if_pos d22,P,da,je,Option.getD_some,Az,da,da,Ib (by omega),da,da,Q,da];exact ⟨_,_,rfl,rfl,.inr ⟨_,d,u,ma,g,je,rfl,td,D⟩,by show ¬ ((29:Int)=21∨(29:Int)=22);decide⟩
 rw [if_neg d22,if_neg d22];by_cases d21:x.Kind=21
 ·have ty:sk l false q1 q2 q3 q4 q5 q6 q7 q8 q9 loca N S.reverse ⟨q5,q6⟩=some take:=gc (c21 d21);rw [if_pos d21,if_pos d21,P,da,ty,da,Q,da];exact ⟨take,_,rfl,rfl,j.tf,by show ¬ ((31:Int)=21∨(31:Int)=22);decide⟩
 rw [if_neg d21,if_neg d21];by_cases d24:x.Kind=24
 ·rw [if_pos d24,if_pos d24,P,da,Q,da];exact ⟨2,_,rfl,rfl,.inl (by omega),by show ¬ ((32:Int)=21∨(32:Int)=22);decide⟩
 have d23:x.Kind=23:=by omega
 rw [if_neg d24,if_neg d24,if_pos d23];have W:x.Kids.length=2:=by have:=F.eq (by rw [d23];decide);rw [d23] at this;have e:ng 23=2:=(by decide);omega
 have L:0<A.length:=by omega
 have rg:first=A[0]:=rd _ (by rw [List.head?_eq_getElem?,List.getElem?_eq_getElem L])
 have hu:∀ d ∈ l,d.Kind=3→∃ u,Vl l d.Name=some u∧0≤u∧u≤30:=fun d Ba E=>by
  obtain ⟨u,je,td,D⟩:=H.un _ d (f.Df d Ba) (by omega);exact ⟨u,by rw [f.un _ d (f.Df d Ba) (by omega),je],td,D⟩
 have B:¬ ((30:Int)=21∨(30:Int)=22):=by decide
 rw [P,da,Fo L,da];rcases md _ (List.getElem_mem L) with ⟨Da,a2⟩ | ⟨Df,d,u,ma,g,y,ge,bi,ci⟩
 ·have no:∀ d ∈ l,¬ (d.Kind=3∧Vl l d.Name=some (first - 10)):=fun d Ba ⟨E,h⟩=>by
   obtain ⟨u,je,td,D⟩:=hu d Ba E;rw [je] at h;have:=Option.some.inj h;omega
  rw [Ib (by omega),da,H.sD _ (by omega),da];have:=MC (q1:=q1) (q2:=q2) (q3:=q3) (q4:=q4) (q5:=q5) (q6:=q6) (q7:=q7) (q8:=q8) (q9:=q9) f (loca:=loca) (N:=N) (S:=S.reverse) (first:=first) (o:=out) (by omega) (r:=0) (v:=0) hu (fun d Ba E h=>absurd ⟨E,h⟩ (no d Ba)) (l.length+1) 0 0 (by omega) (by omega) (fun _=>rfl) fun _=>rfl;exact ⟨0,_,rfl,this,.inl (by omega),B⟩
 ·obtain ⟨m1,m2⟩:=f.mem _ d ma;obtain ⟨r,s,C⟩:=Bt H ma (by omega);have Dc:first - 10=u:=by omega
  rw [Ib (by omega),da,ge,show (10+u - 10:Int)=u by omega,H.Bx _ _ y,da];rw [if_pos (show (some (Df,u):Option (Nm×Int)).isSome=true from rfl)];show ∃ t c,Option.bind (yb T.defs Df) _=_∧_;rw [H.Fi _ _ ma,da,s,da];have he:∀ w ∈ l,w.Kind=3→Vl l w.Name=some (first - 10)→Ko l w.Ja=some r:=fun w X E h=>by
   rw [f.un _ w (f.Df w X) (by omega),Dc] at h;have Y:=H.Bx _ _ h;rw [H.Bx _ _ y] at Y;have W:Df=w.Name:=(Prod.mk.inj (Option.some.inj (Option.some.inj Y))).1;have Z:=f.Df w X;rw [← W,ma] at Z;rw [← Option.some.inj Z,bz H f ma (by omega),s]
  have:=MC (q1:=q1) (q2:=q2) (q3:=q3) (q4:=q4) (q5:=q5) (q6:=q6) (q7:=q7) (q8:=q8) (q9:=q9) f (loca:=loca) (N:=N) (S:=S.reverse) (first:=first) (o:=out) (by omega) (r:=r) (v:=r) hu he (l.length+1) 0 0 (by omega) (by omega) (fun _=>rfl) fun h=>absurd ⟨g,by rw [m2,f.un _ d ma (by omega),y,Dc]⟩ (h d (by rw [List.drop_zero];exact m1));exact ⟨r,_,rfl,this,C,B⟩
theorem DH (H:wj p T) (E:vn p T l){take:Int}(F:G→Ko l ⟨q5,q6⟩=some take):∀ (n k:Nat) (x:hb) (V:Prop) (kind para:Int) (loca:List Int) (resu:Int) (code:List Oa) (R:Jg) (N:Xb) (S:List Int),3020+k≤n→jh k x→nc p G V k x→(V→loca≠[])→K p T loca take R N S→code.length+Ig k x≤1000000 →
  ∃ t c,(Hk n).Hi T kind para loca resu take code R.reverse x=some (t,kind,para,loca,resu,take,code++c,R.reverse)∧(qp n).cl l false q1 q2 q3 q4 q5 q6 q7 q8 q9 loca N S.reverse x=some (c,t)∧c.length=Ig k x∧bj p T t∧zj c:=by
 intro n
 induction n with
 | zero=>intro k x V kind para loca resu code R N S h; omega
 | succ n M =>
  intro k x V kind para loca resu code R N S wd s w y j za;cases k with
  | zero=>cases s
  | succ k =>
  show ∃ t c,Hi n (Hk n) T kind para loca resu take code R.reverse x=_∧cl n (qp n) l false q1 q2 q3 q4 q5 q6 q7 q8 q9 loca N S.reverse x=_∧_;have O:=s;have P:=w;obtain ⟨Qb,Fd,Q,W⟩:=s;obtain ⟨Id,be,c20,c3,-,X⟩:=w;have ce:=Q.le;rw [Ig] at za ⊢;rw [Hi,cl,Ft,if_neg (by decide),da];have L:∀ (m i:Nat) (out:List Oa) (d:List Int) (first:Int),i≤x.Kids.length→x.Kids.length<m+i→d.length=i→(∀ t ∈ d,bj p T t)→(∀ t,d.head?=some t→first=t)→zj out→code.length+out.length+(((x.Kids.drop i).map (Ig k)).sum+1)≤1000000 →
    ∃ t c,Rm n (Hk n) x T m i kind para resu take loca (code++out) R.reverse d=some (t,kind,para,loca,resu,take,code++(out++c),R.reverse)∧fo n (qp n) l x false q1 q2 q3 q4 q5 q6 q7 q8 q9 loca N S.reverse m first i out=some (out++c,t)∧c.length=((x.Kids.drop i).map (Ig k)).sum+1∧bj p T t∧zj c:=by
   intro m
   induction m with
   | zero=>intro i out d first Y Z; omega
   | succ m gc =>
    intro i out d first Y Z A B C lc v
    by_cases c:i<x.Kids.length
    ·have hm:x.Kids[i] ∈ x.Kids:=List.getElem_mem _;rw [List.drop_eq_getElem_cons c,List.map_cons,List.sum_cons] at v ⊢;obtain ⟨t,f,ma,rc,g,o,e⟩:=M k x.Kids[i] V kind para loca resu (code++out) R N S (by omega) (W _ hm) (X _ hm) y j (by rw [List.length_append];omega);rw [Rm,fo,if_pos (by omega),if_pos (by omega),od,List.getElem?_eq_getElem c,da,da,ma,da,rc,da];simp only [];rw [Gf (by simp;omega),da,Ib (by omega),da,Ht (e.Ti _) (by omega) (by omega),da,e.ue];have next:∀ q:Int,(∀ Rd,(d++[t]).head?=some Rd→q=Rd)→∃ t2 c,Rm n (Hk n) x T m (i+1:Nat) kind para resu take loca (code++(out++f)) R.reverse (d++[t])=some (t2,kind,para,loca,resu,take,code++(out++c),R.reverse)∧fo n (qp n) l x false q1 q2 q3 q4 q5 q6 q7 q8 q9 loca N S.reverse m q (i+1:Nat) (out++f)=some (out++c,t2)∧c.length=Ig k x.Kids[i]+((x.Kids.drop (i+1)).map (Ig k)).sum+1∧bj p T t2∧zj c:=by
      intro q fd;obtain ⟨Rd,c2,f1,D,f2,f3,f4⟩:=gc (i+1) (out++f) (d++[t]) q c (by omega) (by simp [A]) (fun u hu=>by
       rcases List.mem_append.1 hu with hu | hu
       ·exact B u hu
       ·rw [List.mem_singleton.1 hu];exact o) fd (lc.app e) (by rw [List.length_append];omega)
      rw [List.append_assoc out f c2] at f1 D;exact ⟨Rd,f++c2,f1,D,by rw [List.length_append];omega,f3,e.app f4⟩
     rw [List.append_assoc code out f];by_cases z:(i:Int)=0
     ·have id:d=[]:=List.length_eq_zero_iff.1 (by omega);rw [if_pos z,da];exact next t fun Rd r=>by rw [id] at r;exact Option.some.inj r
     ·rw [if_neg z,da];exact next first fun Rd r=>C Rd (by
       cases d with
       | nil=>exact absurd (by simpa using A.symm) z
       | cons a b=>exact r)
    ·have Ba:x.Kids.drop i=[]:=List.drop_eq_nil_of_le (by omega);rw [Ba] at v ⊢;simp only [List.map_nil,List.sum_nil] at v ⊢;obtain ⟨t,Fc,ma,g,o,e⟩:=bG (q1:=q1) (q2:=q2) (q3:=q3) (q4:=q4) (q7:=q7) (q8:=q8) (q9:=q9) (kind:=kind) (para:=para) (resu:=resu) (out:=out) H E F (n:=n) (by omega) O P y j (show code.length+out.length≤1000000 by omega) (show d.length=x.Kids.length by omega) B C (Hk n) (qp n) m m i (by omega);rw [List.append_assoc] at ma;exact ⟨t,[Fc],ma,g,rfl,o,.one e⟩
  obtain ⟨t,c,ma,g,o,e,md⟩:=L (x.Kids.length+1) 0 [] [] 0 (by omega) (by omega) rfl (by simp) (by simp) (fun i rd=>absurd rd (by simp)) (by rw [List.drop_zero];simp;omega);rw [List.append_nil,List.nil_append] at ma;rw [List.nil_append] at g;exact ⟨t,c,ma,g,by rw [o,List.drop_zero];omega,e,md⟩
end
end Go.Y
namespace Go.Y
open Go.pc Go.nd
theorem Fy {α:Type}(a b:List α) (x y:α):(a++x::b).set a.length y=a++y::b:=by simp
theorem Pw {α:Type}(a b:List α) (x:α):at_ (a++x::b) (a.length:Int)=some x:=by rw [od];simp
theorem eC {α:Type}(a b:List α):cut (a++b) 0 (a.length:Int)=some a:=by
 rw [cut,if_pos (by simp;omega)];simp
theorem Qw (k:Nat) (o a n:Int) (h:o=21∨o=22) (c:List Oa):ue k (⟨o,a,n⟩::c)=⟨o,a+(k:Int),n⟩::ue k c:=by
 rw [ue,List.map_cons,Dn,if_pos h];rfl
structure Out (loca:List Int) (q:Nat) (a:List Int) (c:List Oa):Prop where
 le:c.length≤4*q
 Ti:Qk c.length c
 l:loca.length≤a.length
 ab:a.length≤loca.length+q
theorem Out.ne {loca a:List Int}{q:Nat}{c:List Oa}(h:Out loca q a c) (b:loca≠[]):a≠[]:=by
 have:=h.l;have:=List.length_pos_iff.2 b;exact List.length_pos_iff.1 (by omega)
section
variable {p:Pb}{T:Jf}{G:Prop}{l:List na}
theorem fC {kind para:Int}{loca:List Int}{resu take:Int}{code:List Oa}{m:List (Nm×Int)}{O:Jg}(name:Nm) (t:Int) (b:O.length≤100) (za:loca.length≤3000) :
  kq T kind para loca resu take code (m::O).reverse name t=some ((loca.length:Int),kind,para,loca++[t],resu,take,code,(Ue m name (loca.length:Int)::O).reverse):=by
 have ma:(((m::O).reverse.length:Nat):Int) - 1=(O.length:Int):=by simp
 have a:(m::O).reverse[O.length]?=some m:=by simp
 rw [kq,Gf (by simp;omega),da,Ib (by simp;omega),da,Ib (by simp;omega),da,ma,od,a,da];simp
theorem K.add {loca:List Int}{take:Int}{m:List (Nm×Int)}{O:Jg}{N:Xb}{Ad b:List Int}(j:K p T loca take (m::O) N (Ad++b)) (hm:∀ n,yb m n=Gh N Ad n) (g:Rk N O b) (name:Nm) (t:Int) (h:bj p T t) (za:loca.length<3000) :
  K p T (loca++[t]) take (Ue m name (loca.length:Int)::O) (N++[⟨name,[]⟩]) (((loca.length:Int)::Ad)++b)∧(∀ n,yb (Ue m name (loca.length:Int)) n=Gh (N++[⟨name,[]⟩]) ((loca.length:Int)::Ad) n)∧Rk (N++[⟨name,[]⟩]) O b:=by
 have dm:=j.nl;have s1:∀ k ∈ Ad,0≤k∧k<N.length:=fun k a=>by rw [dm];exact j.Ad k (List.mem_append.2 (.inl a))
 have s2:∀ k ∈ b,0≤k∧k<N.length:=fun k a=>by rw [dm];exact j.Ad k (List.mem_append.2 (.inr a))
 have d:∀ n,yb (Ue m name (loca.length:Int)) n=Gh (N++[⟨name,[]⟩]) ((loca.length:Int)::Ad) n:=by
  intro n;have e:yq (N++[⟨name,[]⟩]) (loca.length:Int)=some name:=by rw [yq,← dm,Pw];rfl
  rw [lh,Gh,e,Ut _ n s1,← hm];by_cases c:name=n
  ·rw [if_pos c,if_pos (by rw [c])]
  ·rw [if_neg c,if_neg (by simpa using c)]
 have f:=g.up [⟨name,[]⟩] s2;refine ⟨⟨fun u hu=>?_,j.tf,j.Sb,by simp [dm],by simp;omega,.cons f d,fun k a=>?_,by have:=j.tl;simp at this ⊢;omega⟩,d,f⟩
 ·rcases List.mem_append.1 hu with hu | hu
  ·exact j.ri u hu
  ·rw [List.mem_singleton.1 hu];exact h
 ·rw [List.length_append,List.length_singleton];rcases List.mem_cons.1 (show k ∈ (loca.length:Int)::(Ad++b) from a) with rfl | a
  ·omega
  ·have:=j.Ad k a;omega
theorem Out.simple {loca:List Int}{q k:Nat}{c:List Oa}{i:Oa}(h:zj c) (a:¬ (i.Op=21∨i.Op=22)) (b:c.length+1≤4*q):Out loca q loca (c++[i]):=
 ⟨by simpa using b,(h.app (.one a)).Ti _,Nat.le_refl _,by omega⟩
theorem BC {code c:List Oa}{i:Oa}(h:zj c) (a:¬ (i.Op=21∨i.Op=22)):code++c++[i]=code++ue code.length (c++[i]):=by
 rw [(h.app (.one a)).ue,List.append_assoc]
variable {q1:Int}{q2:Nm}{q3:Int}{q4:Nm}{q5:Int}{q6:Nm}{q7:Int}{q8:List TParam}{q9:List cb}
theorem NC {loca:List Int}{N:Xb}{S:List Int}(name:Nm) (t:Int) (a:loca.length≤3000) (b:N.length=loca.length) (c:S.length≤loca.length):St l false q1 q2 q3 q4 q5 q6 q7 q8 q9 loca N S.reverse name t=some ((loca.length:Int),loca++[t],N++[⟨name,[]⟩],((loca.length:Int)::S).reverse):=by
 rw [St,Gf (by simp;omega),da,Gf (by simp;omega),da,Ib (by simp;omega),da,Gf (by simp;omega),da];simp
structure fJ (p:Pb) (T:Jf) (G:Prop) (l:List na) (q1:Int) (q2:Nm) (q3:Int) (q4:Nm) (q5:Int) (q6:Nm) (q7:Int) (q8:List TParam) (q9:List cb) (take:Int) (n:Nat):Prop where
 body:∀ (k:Nat) (Wg:List cb) (V:Prop) (kind para:Int) (loca:List Int) (resu:Int) (code:List Oa) (R:Jg) (N:Xb) (S:List Int),Wg.length≤50→(∀ y ∈ Wg,mj k y)→ph (og p G k) V Wg→R.length+k≤90→5*k+3100≤n→(V→loca≠[])→K p T loca take R N S→code.length+4*(Wg.map (re k)).sum≤100000→loca.length+(Wg.map (re k)).sum≤2900 →
  ∃ a X c,(Zk n).fj T kind para loca resu take code R.reverse Wg=some (kind,para,a,resu,take,code++ue code.length c,R.reverse)∧(rp n).Uj l false q1 q2 q3 q4 q5 q6 q7 q8 q9 loca N S.reverse Wg=some (c,a,N++X,S.reverse)∧Out loca (Wg.map (re k)).sum a c∧K p T a take R (N++X) S
 stat:∀ (k:Nat) (s:cb) (V:Prop) (kind para:Int) (loca:List Int) (resu:Int) (code:List Oa) (m:List (Nm×Int)) (O:Jg) (N:Xb) (Ad b:List Int),mj k s→og p G k V s→(m::O).length+k≤91→5*k+3099≤n→(V→loca≠[])→K p T loca take (m::O) N (Ad++b)→(∀ n,yb m n=Gh N Ad n)→Rk N O b→code.length+4*re k s≤100000→loca.length+re k s≤2900 →
  ∃ a X d e c,(Zk n).Yk T kind para loca resu take code (m::O).reverse s=some (kind,para,a,resu,take,code++ue code.length c,(d::O).reverse)∧(rp n).kn l false q1 q2 q3 q4 q5 q6 q7 q8 q9 loca N (Ad++b).reverse s=some (c,a,N++X,(e++b).reverse)∧(∀ n,yb d n=Gh (N++X) e n)∧Rk (N++X) O b∧K p T a take (d::O) (N++X) (e++b)∧Out loca (re k s) a c∧(s.Kind=1→a≠[])
theorem gJ (H:wj p T) (kk:vn p T l){take:Int}(am:G→Ko l ⟨q5,q6⟩=some take):∀ n,fJ p T G l q1 q2 q3 q4 q5 q6 q7 q8 q9 take n:=by
 intro n
 induction n with
 | zero=>exact ⟨fun _ _ _ _ _ _ _ _ _ _ _ _ _ _ _ h=>by omega,fun _ _ _ _ _ _ _ _ _ _ _ _ _ _ _ _ h=>by omega⟩
 | succ n rd =>
  refine ⟨fun k Wg V kind para loca resu code R N S za wd M em lm x j Y W=>?_,fun k s V kind para loca resu code m O N Ad w wd M em lm x j hm Z Y W=>?_⟩
  ·show ∃ f X c,fj (Zk n) T kind para loca resu take code R.reverse Wg=_∧Uj (rp n) l false q1 q2 q3 q4 q5 q6 q7 q8 q9 loca N S.reverse Wg=_∧_;have eq:=j.Sb;rw [fj,Uj,Gf (by simp;omega),da,show R.reverse++[[]]=([]::R).reverse by simp];have L:∀ (m i:Nat) (V:Prop) (loca:List Int) (out:List Oa) (mp:List (Nm×Int)) (N:Xb) (Ad:List Int),i≤Wg.length→Wg.length<m+i→ph (og p G k) V (Wg.drop i)→(V→loca≠[])→K p T loca take (mp::R) N (Ad++S)→(∀ n,yb mp n=Gh N Ad n)→Rk N R S→Qk out.length out→code.length+out.length+4*((Wg.drop i).map (re k)).sum≤100000→loca.length+((Wg.drop i).map (re k)).sum≤2900 →
     ∃ f X c,Up (Zk n) Wg T m i kind para resu take loca (code++ue code.length out) (mp::R).reverse=some (kind,para,f,resu,take,code++ue code.length (out++c),R.reverse)∧Ps (rp n) l Wg false q1 q2 q3 q4 q5 q6 q7 q8 q9 S.reverse m i loca N (Ad++S).reverse out=some (out++c,f,N++X,S.reverse)∧c.length≤4*((Wg.drop i).map (re k)).sum∧Qk (out++c).length (out++c)∧loca.length≤f.length∧f.length≤loca.length+((Wg.drop i).map (re k)).sum∧K p T f take R (N++X) S:=by
    intro m
    induction m with
    | zero=>intro i V loca out mp N Ad pm sm; omega
    | succ m fn =>
     intro i V loca out mp N Ad pm sm M x j on he ok Y W;rw [Up,Ps];by_cases c:i<Wg.length
     ·have hm:Wg[i] ∈ Wg:=List.getElem_mem _;rw [List.drop_eq_getElem_cons c] at M;rw [List.drop_eq_getElem_cons c,List.map_cons,List.sum_cons] at Y W ⊢;obtain ⟨v1,v2⟩:=M;have Eq:=ln code.length out;obtain ⟨gc,D,un,uz,lc,ma,Ne,dl,of,v,C,wf⟩:=rd.stat k Wg[i] V kind para loca resu (code++ue code.length out) mp R N Ad S (wd _ hm) v1 (by simp;omega) (by omega) x j on he (by rw [List.length_append];omega) (by omega);have Da:=C.le;have a2:=C.l;have a3:=C.ab;have rc:(↑i:Int)<(Wg.length:Int):=by omega
      rw [if_pos rc,if_pos rc,od,List.getElem?_eq_getElem c,da,da,ma,da,Ne,da];simp only [];rw [Ib (by omega),da,Ht (C.Ti.up (by omega)) (by omega) (by omega),da,da];have Ma:code++ue code.length out++ue (code++ue code.length out).length lc=code++ue code.length (out++ue out.length lc):=by
       rw [qq,ax,List.length_append,ln,List.append_assoc]
      have If:=ln out.length lc;rw [Ma];obtain ⟨dg,rg,c2,f1,z,f2,f3,f4,f5,f6⟩:=fn (i+1) _ gc (out++ue out.length lc) un (N++D) uz c (by omega) v2 (fun q=>q.elim (fun q=>C.ne (x q)) wf) v dl of (by
       rw [List.length_append,If];exact (ok.up (by omega)).app (C.Ti.ue out.length)) (by rw [List.length_append];omega) (by omega)
      rw [List.append_assoc out] at f1 z f3;rw [List.append_assoc N] at z f6;exact ⟨dg,D++rg,ue out.length lc++c2,f1,z,by rw [List.length_append];omega,f3,by omega,by omega,f6⟩
     ·have Ba:Wg.drop i=[]:=List.drop_eq_nil_of_le (by omega);rw [Ba] at Y W ⊢;have rc:¬ (↑i:Int)<(Wg.length:Int):=by omega
      have Ti:=j.Sb;have ma:(((mp::R).reverse.length:Nat):Int) - 1=((R.reverse).length:Int):=by simp
      rw [if_neg rc,if_neg rc,ma,Ib (by simp;omega),da,List.reverse_cons,eC,da,List.reverse_append,eC,da];exact ⟨loca,[],[],by rw [List.append_nil],by rw [List.append_nil,List.append_nil],by simp,by rw [List.append_nil];exact ok,Nat.le_refl _,by omega,⟨j.ri,j.tf,by simp at Ti;omega,by rw [List.append_nil];exact j.nl,j.ch,by rw [List.append_nil];exact he,fun k o=>j.Ad k (List.mem_append.2 (.inr o)),by have:=j.tl;rw [List.length_append] at this;omega⟩⟩
   obtain ⟨f,X,c,f1,z,f2,f3,f4,f5,f6⟩:=L (Wg.length+1) 0 V loca [] [] N [] (by omega) (by omega) M x ⟨j.ri,j.tf,by simp;omega,j.nl,j.ch,.cons j.Cx (fun _=>rfl),j.Ad,j.tl⟩ (fun _=>rfl) j.Cx (fun i A=>absurd A (by simp)) (by rw [List.drop_zero];simp;omega) (by rw [List.drop_zero];exact W);rw [List.drop_zero] at f2 f5;exact ⟨f,X,c,by simpa [ue] using f1,by simpa using z,⟨f2,by simpa using f3,f4,f5⟩,f6⟩
  ·show ∃ f X Fd Id c,Yk n (Zk n) T kind para loca resu take code (m::O).reverse s=_∧kn n (rp n) l false q1 q2 q3 q4 q5 q6 q7 q8 q9 loca N (Ad++w).reverse s=_∧_;cases k with
   | zero=>cases wd
   | succ k =>
   have he:(m::O).length=O.length+1:=rfl;obtain ⟨Qb,fr,wn,el,Fn⟩:=wd;obtain ⟨In,ol,co,go,v2⟩:=M;have F:re (k+1) s=1+(if s.Kind=6 then 0 else Ig k s.X)+(if s.Kind=3∨s.Kind=4 then (s.Body.map (re k)).sum else 0)+(if s.Kind=3 then (s.Qd.map (re k)).sum else 0):=rfl;generalize re (k+1) s=Q at Y W F ⊢;have P:=fun (kind para:Int) (loca:List Int) (resu take:Int) (code:List Oa) (bloc:Jg) (a b c:Int) (h:code.length≤2000000)=>br (T:=T) (kind:=kind) (para:=para) (loca:=loca) (resu:=resu) (take:=take) (bloc:=bloc) a b c h;have dm:=j.nl;have pl:=j.ch;have io:=j.tl;have E:s.Kind≠6→∃ t c,(Hk n).Hi T kind para loca resu take code (m::O).reverse s.X=some (t,kind,para,loca,resu,take,code++c,(m::O).reverse)∧(qp n).cl l false q1 q2 q3 q4 q5 q6 q7 q8 q9 loca N (Ad++w).reverse s.X=some (c,t)∧c.length=Ig k s.X∧bj p T t∧zj c:=fun h=>by
    rw [if_neg h] at F;exact DH H kk am n k s.X V kind para loca resu code (m::O) N (Ad++w) (by omega) (wn h) (In h) x j (by omega)
   rw [Yk,kn,Ft,if_neg (show ¬ (false=true) by decide),da];by_cases d6:s.Kind=6
   ·rw [if_pos d6] at F;rw [if_neg (show ¬ s.Kind=3 by omega),if_neg (show ¬ s.Kind=4 by omega),if_pos d6,if_pos d6,P _ _ _ _ _ code _ _ _ _ (by omega),da,Lg,da,Gf (by simp),da];have e:¬ ((25:Int)=21∨(25:Int)=22):=by decide
    have no:ue code.length [⟨25,0,0⟩]=[(⟨25,0,0⟩:Oa)]:=(zj.one e).ue _;refine ⟨loca,[],m,Ad,[⟨25,0,0⟩],by rw [no],by rw [List.append_nil];rfl,by rw [List.append_nil];exact hm,by rw [List.append_nil];exact Z,by rw [List.append_nil];exact j,⟨by simp;omega,(zj.one e).Ti _,Nat.le_refl _,by omega⟩,fun h=>by omega⟩
   rw [if_neg d6] at F;obtain ⟨t,ce,ma,Ne,dl,of,v⟩:=E d6;have ro:Zm [] ce=some ce:=by
    rw [Ht (v.Ti _) (by simp) (by omega),v.ue];rfl
   rw [if_neg d6,if_neg d6,Ne,da];simp only [];rw [ro,da];by_cases d3:s.Kind=3
   ·obtain ⟨Aa,bi⟩:=el (.inl d3);obtain ⟨wb,to⟩:=Fn d3;rw [if_pos (.inl d3),if_pos d3] at F;have be:(code++ce++[(⟨22,0,0⟩:Oa)]).length=code.length+ce.length+1:=by simp;omega
    obtain ⟨gc,D,Le,f1,z,f2,f3⟩:=rd.body k s.Body V kind para loca resu (code++ce++[⟨22,0,0⟩]) (m::O) N (Ad++w) Aa bi (ol (.inl d3)) (by omega) (by omega) x j (by omega) (by omega);have g1:=f2.le;have g2:=f2.l;have g3:=f2.ab;rw [if_pos d3,if_pos d3,ma,da];simp only [];rw [P _ _ _ _ _ (code++ce) _ _ _ _ (by simp;omega),da];simp only [];rw [f1,da,z,da];simp only [];have If:=ln (code++ce++[(⟨22,0,0⟩:Oa)]).length Le;rw [P _ _ _ _ _ _ _ _ _ _ (by rw [List.length_append];omega),da,Xk,da];simp only [];have ci:code++ce++[(⟨22,0,0⟩:Oa)]++ue (code++ce++[(⟨22,0,0⟩:Oa)]).length Le++[(⟨21,0,0⟩:Oa)]=(code++ce)++⟨22,0,0⟩::(ue (code.length+ce.length+1) Le++[⟨21,0,0⟩]):=by
     rw [be];simp
    rw [ci,Pw,da,ru];simp only [Int.toNat_natCast];rw [Fy];have fd:=ln (code.length+ce.length+1) Le;have ii:((code++ce)++(⟨22,0,0⟩:Oa)::(ue (code.length+ce.length+1) Le++[(⟨21,0,0⟩:Oa)])).length=code.length+ce.length+1+Le.length+1:=by simp [fd];omega
    have ul:∀ y:Oa,((code++ce)++y::(ue (code.length+ce.length+1) Le++[(⟨21,0,0⟩:Oa)])).length=code.length+ce.length+1+Le.length+1:=fun y=>by simp [fd];omega
    rw [ii];generalize Do:Oa.mk 22 ((code.length+ce.length+1+Le.length+1:Nat):Int) 0=y;obtain ⟨dg,rg,B,Go,So,id,ap⟩:=rd.body k s.Qd V kind para gc resu ((code++ce)++y::(ue (code.length+ce.length+1) Le++[(⟨21,0,0⟩:Oa)])) (m::O) (N++D) (Ad++w) wb to (co d3) (by omega) (by omega) (fun q=>f2.ne (x q)) f3 (by rw [ul];omega) (by omega);have s1:=id.le;have s2:=id.l;have or:=id.ab;rw [Go,da,Xk,da,So,da];simp only [];rw [ul];have ip:=ln (code.length+ce.length+1+Le.length+1) B;have Ma:((code++ce++[(⟨22,0,0⟩:Oa)])++ue (code++ce++[(⟨22,0,0⟩:Oa)]).length Le).length=((code++ce)++y::ue (code.length+ce.length+1) Le).length:=by rw [be];simp
    have jp:(code++ce)++y::(ue (code.length+ce.length+1) Le++[(⟨21,0,0⟩:Oa)])++ue (code.length+ce.length+1+Le.length+1) B=((code++ce)++y::ue (code.length+ce.length+1) Le)++⟨21,0,0⟩::ue (code.length+ce.length+1+Le.length+1) B:=by simp
    rw [Ma,jp,Pw,da,qu];simp only [];rw [Fy];have op:(((code++ce)++y::ue (code.length+ce.length+1) Le)++(⟨21,0,0⟩:Oa)::ue (code.length+ce.length+1+Le.length+1) B).length=code.length+ce.length+1+Le.length+1+B.length:=by simp [fd,ip];omega
    rw [op];rw [Ib (by omega),da,Ib (by omega),da,Ib (by omega),da,Lg,da,Gf (by simp;omega),da,Ht (f2.Ti.up (by omega)) (by simp;omega) (by omega),da];have li:(ce++[(⟨22,(ce.length:Int)+1+(Le.length:Int)+1,0⟩:Oa)]).length=ce.length+1:=by simp
    have ge:=ln (ce.length+1) Le;have md:(ce++[(⟨22,(ce.length:Int)+1+(Le.length:Int)+1,0⟩:Oa)]++ue (ce.length+1) Le).length=ce.length+1+Le.length:=by simp [ge];omega
    rw [li,md,Ib (by omega),da,Ib (by omega),da,Lg,da,Gf (by simp;omega),da,Ht (id.Ti.up (by omega)) (by simp;omega) (by omega),da];have pi:(ce++[(⟨22,(ce.length:Int)+1+(Le.length:Int)+1,0⟩:Oa)]++ue (ce.length+1) Le++[(⟨21,((ce.length+1+Le.length:Nat):Int)+1+(B.length:Int),0⟩:Oa)]).length=ce.length+1+Le.length+1:=by simp [ge];omega
    rw [pi];have wl:=ln (ce.length+1+Le.length+1) B;refine ⟨dg,D++rg,m,Ad,_,?_,by rw [← List.append_assoc],?_,?_,?_,⟨?_,?_,by omega,by omega⟩,fun h=>by omega⟩
    ·rw [qq,qq,qq,qq,ax,ax,v.ue,Qw _ _ _ _ (.inr rfl),Qw _ _ _ _ (.inl rfl),← Do];have Pi:((code.length+ce.length+1+Le.length+1:Nat):Int)=(ce.length:Int)+1+(Le.length:Int)+1+(code.length:Int):=by omega
     have pp:((code.length+ce.length+1+Le.length+1+B.length:Nat):Int)=((ce.length+1+Le.length:Nat):Int)+1+(B.length:Int)+(code.length:Int):=by omega
     rw [Pi,pp,show code.length+ce.length+1=code.length+(ce.length+1) by omega,show code.length+(ce.length+1)+Le.length+1=code.length+(ce.length+1+Le.length+1) by omega];simp [ue]
    ·rw [← List.append_assoc];exact fun n=>by rw [hm n,Ut _ n fun k o=>by rw [List.length_append];have:=j.Ad k (List.mem_append.2 (.inl o));omega,Ut _ n fun k o=>by rw [dm];exact j.Ad k (List.mem_append.2 (.inl o))]
    ·exact Z.up _ fun k o=>by rw [dm];exact j.Ad k (List.mem_append.2 (.inr o))
    ·rw [← List.append_assoc];exact ap
    ·rw [List.length_append,pi,wl];omega
    ·rw [List.length_append,pi,wl];refine ((((v.Ti _).app ?_).app ((f2.Ti.ue _).up (by omega))).app ?_).app ((id.Ti.ue _).up (by omega))
     ·intro i A _;rw [List.mem_singleton.1 A];simp only;omega
     ·intro i A _;rw [List.mem_singleton.1 A];simp only;omega
   rw [if_neg d3,if_neg d3];by_cases d4:s.Kind=4
   ·obtain ⟨Aa,bi⟩:=el (.inr d4);rw [if_pos (.inr d4),if_neg d3] at F;have be:(code++ce++[(⟨22,0,0⟩:Oa)]).length=code.length+ce.length+1:=by simp;omega
    obtain ⟨gc,D,Le,f1,z,f2,f3⟩:=rd.body k s.Body V kind para loca resu (code++ce++[⟨22,0,0⟩]) (m::O) N (Ad++w) Aa bi (ol (.inr d4)) (by omega) (by omega) x j (by omega) (by omega);have g1:=f2.le;have g2:=f2.l;have g3:=f2.ab;rw [if_pos d4,if_pos d4,Xk,da,ma,da];simp only [];rw [P _ _ _ _ _ (code++ce) _ _ _ _ (by simp;omega),da];simp only [];rw [f1,da,z,da];simp only [];have If:=ln (code++ce++[(⟨22,0,0⟩:Oa)]).length Le;rw [P _ _ _ _ _ _ _ _ _ _ (by rw [List.length_append];omega),da,Xk,da];simp only [];have ci:code++ce++[(⟨22,0,0⟩:Oa)]++ue (code++ce++[(⟨22,0,0⟩:Oa)]).length Le++[(⟨21,(code.length:Int),0⟩:Oa)]=(code++ce)++⟨22,0,0⟩::(ue (code.length+ce.length+1) Le++[⟨21,(code.length:Int),0⟩]):=by
     rw [be];simp
    have fd:=ln (code.length+ce.length+1) Le;have ii:((code++ce)++(⟨22,0,0⟩:Oa)::(ue (code.length+ce.length+1) Le++[(⟨21,(code.length:Int),0⟩:Oa)])).length=code.length+ce.length+1+Le.length+1:=by simp [fd];omega
    rw [ci,Pw,da,su];simp only [Int.toNat_natCast];rw [Fy,ii,if_neg (show ¬ (false=true) by decide),zu];simp only [];rw [Ib (by omega),da,Ib (by omega),da,Ib (by omega),da,Lg,da,Gf (by simp;omega),da,Ht (f2.Ti.up (by omega)) (by simp;omega) (by omega),da,Lg,da];have li:(ce++[(⟨22,(ce.length:Int)+1+(Le.length:Int)+1,0⟩:Oa)]).length=ce.length+1:=by simp
    have ge:=ln (ce.length+1) Le;have md:(ce++[(⟨22,(ce.length:Int)+1+(Le.length:Int)+1,0⟩:Oa)]++ue (ce.length+1) Le).length=ce.length+1+Le.length:=by simp [ge];omega
    rw [li,Gf (by rw [md];simp;omega),da];refine ⟨gc,D,m,Ad,_,?_,rfl,?_,?_,f3,⟨?_,?_,by omega,by omega⟩,fun h=>by omega⟩
    ·rw [qq,qq,qq,ax,v.ue,Qw _ _ _ _ (.inr rfl),Qw _ _ _ _ (.inl rfl)];have Pi:((code.length+ce.length+1+Le.length+1:Nat):Int)=(ce.length:Int)+1+(Le.length:Int)+1+(code.length:Int):=by omega
     rw [Pi,show code.length+ce.length+1=code.length+(ce.length+1) by omega];simp [ue]
    ·exact fun n=>by rw [hm n,Ut _ n fun k o=>by rw [dm];exact j.Ad k (List.mem_append.2 (.inl o))]
    ·exact Z.up _ fun k o=>by rw [dm];exact j.Ad k (List.mem_append.2 (.inr o))
    ·rw [List.length_append,md];simp;omega
    ·rw [List.length_append,md];refine (((v.Ti _).app ?_).app ((f2.Ti.ue _).up (by omega))).app ?_
     ·intro i A _;rw [List.mem_singleton.1 A];simp;omega
     ·intro i A _;rw [List.mem_singleton.1 A];simp only;simp;omega
   rw [if_neg d4,if_neg d4];rw [if_neg (show ¬ (s.Kind=3∨s.Kind=4) by omega),if_neg d3] at F;rw [ma,da];simp only [];by_cases d1:s.Kind=1
   ·obtain ⟨f1,f2,f3⟩:=j.add hm Z s.Name t of (by omega);have e:¬ ((4:Int)=21∨(4:Int)=22):=by decide
    rw [if_pos d1,if_pos d1,fC s.Name t (by have:=j.Sb;omega) pl,da,NC s.Name t pl dm io,da];simp only [];rw [P _ _ _ _ _ (code++ce) _ _ _ _ (by simp;omega),da,Lg,da,Gf (by simp;omega),da];refine ⟨loca++[t],[⟨s.Name,[]⟩],_,(loca.length:Int)::Ad,ce++[⟨4,(loca.length:Int),0⟩],by rw [← BC v e],rfl,f2,f3,f1,⟨by simp;omega,(v.app (.one e)).Ti _,by simp,by simp;omega⟩,fun _=>by simp⟩
   rw [if_neg d1,if_neg d1];have fin:∀ i:Oa,¬ (i.Op=21∨i.Op=22)→∀ (g:Option (Int×Int×List Int×Int×Int×List Oa×Jg)) (r:Option (List Oa×List Int×Xb×List Int)),g=some (kind,para,loca,resu,take,code++ce++[i],(m::O).reverse)→r=some (ce++[i],loca,N,(Ad++w).reverse) →
     ∃ f X Fd Id c,g=some (kind,para,f,resu,take,code++ue code.length c,(Fd::O).reverse)∧r=some (c,f,N++X,(Id++w).reverse)∧(∀ n,yb Fd n=Gh (N++X) Id n)∧Rk (N++X) O w∧K p T f take (Fd::O) (N++X) (Id++w)∧Out loca Q f c∧(s.Kind=1→f≠[]):=by
    intro i e g r sp wp;refine ⟨loca,[],m,Ad,ce++[i],by rw [← BC v e];exact sp,by rw [List.append_nil];exact wp,by rw [List.append_nil];exact hm,by rw [List.append_nil];exact Z,by rw [List.append_nil];exact j,.simple (k:=0) v e (by omega),fun h=>absurd h d1⟩
   by_cases d2:s.Kind=2
   ·obtain ⟨i,g1,g2,-⟩:=j.tD s.Name;have e:¬ ((4:Int)=21∨(4:Int)=22):=by decide
    rw [if_pos d2,if_pos d2,yC j.Sb n (by omega),da,g1,P _ _ _ _ _ (code++ce) _ _ _ _ (by simp;omega),da,zC (fun k o=>by rw [dm];exact j.Ad k o) (by omega) n (by omega),da,g2,Lg,da,Gf (by simp;omega),da];exact fin ⟨4,(i:Int),0⟩ e _ _ rfl rfl
   rw [if_neg d2,if_neg d2];by_cases d5:s.Kind=5
   ·have e:¬ ((24:Int)=21∨(24:Int)=22):=by decide
    rw [if_pos d5,if_pos d5,P _ _ _ _ _ (code++ce) _ _ _ _ (by simp;omega),da,Lg,da,Gf (by simp;omega),da];exact fin ⟨24,0,0⟩ e _ _ rfl rfl
   rw [if_neg d5,if_neg d5];by_cases d7:s.Kind=7
   ·have e:¬ ((26:Int)=21∨(26:Int)=22):=by decide
    obtain ⟨d,C,wf⟩:=go d7;obtain ⟨u,je,td⟩:=kk.Ef _ d C wf;have Az:rm l false q1 q2 q3 q4 q5 q6 q7 q8 q9 loca N (Ad++w).reverse s.Name=some u:=td;rw [if_pos d7,if_pos d7,P _ _ _ _ _ (code++ce) _ _ _ _ (by simp;omega),da,Az,da,Lg,da,Gf (by simp;omega),da,je];exact fin ⟨26,u,0⟩ e _ _ rfl rfl
   rw [if_neg d7,if_neg d7];by_cases d8:s.Kind=8
   ·have e:¬ ((28:Int)=21∨(28:Int)=22):=by decide
    rw [if_pos d8,if_pos d8,P _ _ _ _ _ (code++ce) _ _ _ _ (by simp;omega),da,Lg,da,Gf (by simp;omega),da];exact fin ⟨28,0,0⟩ e _ _ rfl rfl
   have e:¬ ((5:Int)=21∨(5:Int)=22):=by decide
   rw [if_neg d8,if_neg d8,if_pos (show s.Kind=9 by omega),P _ _ _ _ _ (code++ce) _ _ _ _ (by simp;omega),da,Lg,da,Gf (by simp;omega),da];exact fin ⟨5,0,0⟩ e _ _ rfl rfl
end
end Go.Y
namespace Go.Y
open Go.pc Go.nd
structure Cp (r:ug):Prop where
 b:r.Qg.length≤4294967296
 u:r.sg.length≤4294967296
 e:∀ x ∈ r.sg,x.wi.length≤200∧x.Code.length≤4000
theorem Cp.nil:Cp ⟨[],[]⟩:=⟨by decide,by decide,fun x h=>absurd h (by simp)⟩
theorem gC {α:Type}{a b c:List α}(h:app a b=some c):c=a++b∧a.length+b.length≤4294967296:=by
 unfold app at h;split at h
 ·exact ⟨(Option.some.inj h).symm,by assumption⟩
 ·cases h
theorem lE {fu:Nat}{l:List na}{B g:List (Nm×Int)}{D:List (Nm×na)}{Ef:List bh}(o:Ef.length≤4294967296){r:ug}{f:Oc}:∀ (m:Nat) (i:Int) (us:List Xf),us.length≤4294967296→(∀ x ∈ us,x.wi.length≤200∧x.Code.length≤4000)→Pj fu l B g D Ef m i us=some (r,f)→Cp r:=by
 intro m
 induction m with
 | zero=>intro i us _ _ h; cases h
 | succ m k =>
  intro i us n d h;rw [Pj] at h;split at h
  ·obtain ⟨x,-,h⟩:=Kf h;split at h
   ·obtain ⟨j,-,h⟩:=Kf h;exact k j us n d h
   ·obtain ⟨x,-,h⟩:=Kf h;obtain ⟨y,-,h⟩:=Kf h;have We:∀ b,(b=false→y.wi.length≤200∧y.Code.length≤4000)→Kn i us y (Pj fu l B g D Ef m) b=some (r,f)→Cp r:=by
     intro b p h;rw [Kn] at h;split at h
     ·obtain ⟨e,-⟩:=Prod.mk.inj (Option.some.inj h);rw [← e];exact Cp.nil
     ·rename_i q;obtain ⟨t,e,h⟩:=Kf h;obtain ⟨j,-,h⟩:=Kf h;obtain ⟨rfl,s⟩:=gC e;refine k j _ (by rw [List.length_append];exact s) (fun z a=>?_) h;rcases List.mem_append.1 a with a | a
      ·exact d z a
      ·rw [List.mem_singleton.1 a];exact p (by simpa using q)
    split at h
    ·exact We true (fun h=>by cases h) h
    ·rename_i c;exact We _ (fun h=>⟨by omega,by have:=of_decide_eq_false h;omega⟩) h
  ·obtain ⟨e,-⟩:=Prod.mk.inj (Option.some.inj h);rw [← e];exact ⟨o,n,d⟩
theorem mE {fu:Nat}{l:List na}{r:ug}{f:Oc}:∀ (m:Nat) (i:Int) (B a:List (Nm×Int)) (D:List (Nm×na)) (Ef:List bh),Ef.length≤4294967296→Sk fu l m i B a D Ef=some (r,f)→Cp r:=by
 intro m
 induction m with
 | zero=>intro i B a D Ef _ h; cases h
 | succ m b =>
  intro i B a D Ef c h;rw [Sk] at h;split at h
  ·obtain ⟨x,-,h⟩:=Kf h;obtain ⟨x,-,h⟩:=Kf h;obtain ⟨x,-,h⟩:=Kf h;split at h
   ·obtain ⟨x,-,h⟩:=Kf h;rw [Pr] at h;obtain ⟨x,-,h⟩:=Kf h;obtain ⟨x,-,h⟩:=Kf h;obtain ⟨x,-,h⟩:=Kf h;obtain ⟨g,e,h⟩:=Kf h;obtain ⟨rfl,d⟩:=gC e;rw [Nr] at h;obtain ⟨j,-,h⟩:=Kf h;exact b j _ _ _ _ (by rw [List.length_append];exact d) h
   ·obtain ⟨x,-,h⟩:=Kf h;rw [Qr] at h;obtain ⟨j,-,h⟩:=Kf h;exact b j _ _ _ _ c h
  ·exact lE c (l.length+1) 0 [] (by simp) (fun x h=>absurd h (by simp)) h
theorem cG {fu:Nat}{l:List na}{r:ug}{f:Oc}(h:Wn fu l=some (r,f)):Cp r:=by
 rw [Wn] at h;obtain ⟨x,-,h⟩:=Kf h;split at h
 ·rw [Mr] at h;obtain ⟨e,-⟩:=Prod.mk.inj (Option.some.inj h);rw [← e];exact Cp.nil
 ·exact mE _ _ _ _ _ _ (by simp) h
theorem pF {l:List Int}(za:l.length≤4294967296):Qu l l=some true:=by
 have L:∀ (m i:Nat),i≤l.length→l.length<m+i→nt l l m i=some true:=by
  intro m
  induction m with
  | zero=>intro i a b; omega
  | succ m d =>
   intro i a b;rw [nt];by_cases c:i<l.length
   ·rw [if_pos (by omega),od,List.getElem?_eq_getElem c,da,da,if_neg (by simp),Ib (by omega),da];exact d (i+1) (by omega) (by omega)
   ·rw [if_neg (by omega)]
 rw [Qu,if_neg (by simp)];exact L (l.length+1) 0 (by omega) (by omega)
theorem PD {l:List Oa}(za:l.length≤4294967296){j:Int}(a:i64 (j+1)=some (j+1)) (K:Int→Option Bool):∀ (m i:Nat),i≤l.length→l.length<m+i→ot j l l K m i=K (j+1):=by
 intro m
 induction m with
 | zero=>intro i b d; omega
 | succ m e =>
  intro i b d;rw [ot];by_cases c:i<l.length
  ·rw [if_pos (by omega),od,List.getElem?_eq_getElem c,da,da,if_pos (by simp [yi]),Ib (by omega),da];exact e (i+1) (by omega) (by omega)
  ·rw [if_neg (by omega),a,da]
theorem RE {r:ug}(g:Cp r):Ru r r=some true:=by
 have n:=g.b;have o:=g.u;have h:∀ (m i:Nat),i≤r.sg.length→r.sg.length<m+i→ho r r m i=some true:=by
  intro m
  induction m with
  | zero=>intro i a d; omega
  | succ m f =>
   intro i a d;rw [ho];by_cases c:i<r.sg.length
   ·obtain ⟨ma,p⟩:=g.e _ (List.getElem_mem c);rw [if_pos (by omega),od,List.getElem?_eq_getElem c,da,da,ew,if_neg (by simp),if_neg (by simp),if_neg (by simp),if_neg (by simp),pF (by omega),da,if_pos rfl,decide_eq_false (by simp),gp,if_neg (by decide)];have:=PD (l:=r.sg[i].Code) (by omega) (j:=i) (Ib (by omega)) (ho r r m) (r.sg[i].Code.length+1) 0 (by omega) (by omega);refine this.trans ?_;exact f (i+1) (by omega) (by omega)
   ·rw [if_neg (by omega)]
 have k:∀ (m i:Nat),i≤r.Qg.length→r.Qg.length<m+i→pt r r m i=some true:=by
  intro m
  induction m with
  | zero=>intro i a d; omega
  | succ m f =>
   intro i a d;rw [pt];by_cases c:i<r.Qg.length
   ·rw [if_pos (by omega),od,List.getElem?_eq_getElem c,da,da,if_pos (by simp [yi]),Ib (by omega),da];exact f (i+1) (by omega) (by omega)
   ·rw [if_neg (by omega)];exact h (r.sg.length+1) 0 (by omega) (by omega)
 rw [Ru,if_neg (by simp),decide_eq_false (by simp),Au,if_neg (by decide)];exact k (r.Qg.length+1) 0 (by omega) (by omega)
theorem ZI (c:List Oa):ue 0 c=c:=by
 unfold ue
 conv=>rhs;rw [← List.map_id c]
 refine List.map_congr_left fun i _=>?_;unfold Dn;split
 ·simp
 ·rfl
section
variable {p:Pb}{T:Jf}{l:List na}
theorem QA (H:wj p T) (f:vn p T l) (fu:Nat) (o:3300≤fu) (d:na) (V:Prop) (ok:Mk d) (Qb:d.Kind≠1) (g:ph (og p (d.Kind=3) 39) V d.Body) (r:(d.Body.map (re 39)).sum≤2000) (R:Jg) (N:Xb) (S:List Int) (para resu:Int) (loca:List Int) (take:Int) (i:d.Kind=3→Ko l d.eb=some take) (s:R.length=1) (k:V→loca≠[]) (j:K p T loca take R N S) (za:loca.length≤100) :
  ∃ u,Wp fu T d R.reverse d.Kind para resu loca [] take=some u∧jt fu l d false para resu loca N S.reverse take=some u:=by
 obtain ⟨t,X,c,ma,m,n,v⟩:=(gJ (q1:=d.Kind) (q2:=d.Name) (q3:=d.Ja.Kind) (q4:=d.Ja.Pa) (q5:=d.eb.Kind) (q6:=d.eb.Pa) (q7:=d.oc) (q8:=d.Params) (q9:=d.Body) H f i fu).body 39 d.Body V d.Kind para loca resu [] R N S (ok.Nd Qb) (ok.fk Qb) g (by omega) (by omega) k j (by simp;omega) (by omega);have a3:=n.le;rw [List.nil_append,List.length_nil,ZI] at ma;have P:=fun (kind para:Int) (loca:List Int) (resu take:Int) (code:List Oa) (bloc:Jg) (a b c:Int) (h:code.length≤2000000)=>br (T:=T) (kind:=kind) (para:=para) (loca:=loca) (resu:=resu) (take:=take) (bloc:=bloc) a b c h;rw [Wp,jt,ma,da,m,da];simp only [];by_cases e:d.Kind≠2
 ·rw [if_pos e,if_pos e,P _ _ _ _ _ c _ _ _ _ (by omega),da,Lg,da,Gf (by simp;omega),da,Zv,fq];exact ⟨_,rfl,rfl⟩
 ·rw [if_neg e,if_neg e];by_cases q:resu=2
  ·rw [if_pos q,if_pos q,P _ _ _ _ _ c _ _ _ _ (by omega),da,Vp];simp only [];rw [P _ _ _ _ _ (c++[_]) _ _ _ _ (by simp;omega),da,Lg,da,Lg,da,Gf (by simp;omega),da,aw,fq];exact ⟨_,rfl,by rw [List.append_assoc];rfl⟩
  ·rw [if_neg q,if_neg q,P _ _ _ _ _ c _ _ _ _ (by omega),da,Vp];simp only [];rw [P _ _ _ _ _ (c++[_]) _ _ _ _ (by simp;omega),da,Lg,da,Lg,da,Gf (by simp;omega),da,bw,fq];exact ⟨_,rfl,by rw [List.append_assoc];rfl⟩
theorem RA (H:wj p T) (a:vn p T l) (fu:Nat) (b:3300≤fu) (d:na) (V:Prop) (ok:Mk d) (Ba:uj p d) (Qb:d.Kind≠1) (e:ph (og p (d.Kind=3) 39) V d.Body) (f:(d.Body.map (re 39)).sum≤2000) (R:Jg) (N:Xb) (S:List Int) (para resu:Int) (loca:List Int) (g:R.length=1) (i:V→loca≠[]) (j:K p T loca 0 R N S) (za:loca.length≤100) :
  ∃ u,Xp fu T d R.reverse d.Kind para resu 0 loca []=some u∧kt fu l d false para resu loca N S.reverse=some u:=by
 rw [Xp,kt];by_cases c:d.Kind=3
 ·obtain ⟨r,k,m⟩:=ar H (ok.tf c) (.of (Ba.tf c));have t1:Ko l d.eb=some r:=(bx H a (.of (Ba.tf c))).trans k;have t2:sk l false d.Kind d.Name d.Ja.Kind d.Ja.Pa d.eb.Kind d.eb.Pa d.oc d.Params d.Body loca N S.reverse d.eb=some r:=t1;rw [if_pos c,if_pos c,k,da,t2,da];exact QA H a fu b d V ok Qb e f R N S para resu loca r (fun _=>t1) g i ⟨j.ri,m,j.Sb,j.nl,j.ch,j.Cx,j.Ad,j.tl⟩ za
 ·rw [if_neg c,if_neg c];exact QA H a fu b d V ok Qb e f R N S para resu loca 0 (fun h=>absurd h c) g i j za
theorem EH (H:wj p T) (b:vn p T l) (fu:Nat) (f:3300≤fu) (d:na) (ok:Mk d) (Ba:uj p d) (Qb:d.Kind≠1) (g:ph (og p (d.Kind=3) 39) (d.Kind≠4∧d.Params≠[]) d.Body) (k:(d.Body.map (re 39)).sum≤2000) :
  ∃ u,ir fu T d=some u∧Ou fu l d false=some u:=by
 have o:K p T [] 0 [[]] [] ([]++[]):=⟨by simp,.inl (by omega),by simp,rfl,by simp,.cons .nil fun _=>rfl,by simp,by simp⟩;rw [ir,Ou];by_cases c4:d.Kind=4
 ·rw [if_neg (by simpa using c4),if_neg (by simpa using c4)];exact RA H b fu f d _ ok Ba Qb g k [[]] [] [] 0 0 [] rfl (fun h=>absurd c4 h.1) o (by simp)
 ·have e:d.Kind=2∨d.Kind=3:=by have:=ok.Qb;have:=ok.De;omega
  obtain ⟨A,s⟩:=ok.qh e;obtain ⟨r,q,B⟩:=ar H (ok.ty c4) (.of (Ba.ty c4));have t1:sk l false d.Kind d.Name d.Ja.Kind d.Ja.Pa d.eb.Kind d.eb.Pa d.oc d.Params d.Body [] [] [] d.Ja=some r:=(bx H b (.of (Ba.ty c4))).trans q;rw [if_pos c4,if_pos c4,q,da,t1,da,uu,dw];have L:∀ (m i:Nat) (mp:List (Nm×Int)) (loca:List Int) (N:Xb) (Ad:List Int),i≤d.Params.length→d.Params.length<m+i→loca.length=i→K p T loca 0 [mp] N (Ad++[])→(∀ n,yb mp n=Gh N Ad n)→∃ u,bp fu T d m i [mp] d.Kind (d.Params.length:Int) r 0 loca []=some u∧Xq fu l d false r m i loca N (Ad++[]).reverse=some u:=by
   intro m
   induction m with
   | zero=>intro i mp loca N Ad v w; omega
   | succ m x =>
    intro i mp loca N Ad v w za j y;rw [bp,Xq];by_cases c:i<d.Params.length
    ·have hm:d.Params[i] ∈ d.Params:=List.getElem_mem _;have a:(↑i:Int)<(d.Params.length:Int):=by omega
     obtain ⟨t,je,td⟩:=ar H (s _ hm) (Ba.qh e _ hm);have z:sk l false d.Kind d.Name d.Ja.Kind d.Ja.Pa d.eb.Kind d.eb.Pa d.oc d.Params d.Body loca N (Ad++[]).reverse d.Params[i].Ja=some t:=(bx H b (Ba.qh e _ hm)).trans je;obtain ⟨f1,f2,f3⟩:=j.add y .nil d.Params[i].Name t td (by omega);rw [if_pos a,if_pos a,od,List.getElem?_eq_getElem c,da,da,je,da,z,da,show [mp]=[mp].reverse from rfl,fC d.Params[i].Name t (by simp) (by omega),da,NC d.Params[i].Name t (by omega) j.nl j.tl,da,tu,cw,Ib (by omega),da,da];exact x (i+1) _ (loca++[t]) _ _ c (by omega) (by simp [za]) f1 f2
    ·have a:¬ (↑i:Int)<(d.Params.length:Int):=by omega
     rw [if_neg a,if_neg a];exact RA H b fu f d _ ok Ba Qb g k [mp] N (Ad++[]) _ r loca rfl (fun h=>by
      have:=List.length_pos_iff.2 h.2;exact List.length_pos_iff.1 (by omega)) j (by omega)
  exact L (d.Params.length+1) 0 [] [] [] [] (by omega) (by omega) rfl o fun _=>rfl
end
def Le (l:List na) (j:Nat):Nat:=((l.take j).filter fun d=>decide (d.Kind=1)).length
def En (l:List na) (j:Nat):Nat:=((l.take j).filter fun d=>decide (d.Kind≠1)).length
section
variable {p:Pb}{l:List na}{fu:Nat}
theorem jD {i:Nat}(c:i<l.length):Le l (i+1)=Le l i+if l[i].Kind=1 then 1 else 0:=by
 rw [Le,Xn c,List.length_append,Le];by_cases k:l[i].Kind=1
 ·rw [if_pos k,List.filter_cons_of_pos (by simpa using k)];rfl
 ·rw [if_neg k,List.filter_cons_of_neg (by simpa using k)];rfl
theorem kD {i:Nat}(c:i<l.length):En l (i+1)=En l i+if l[i].Kind=1 then 0 else 1:=by
 rw [En,Xn c,List.length_append,En];by_cases k:l[i].Kind=1
 ·rw [if_pos k,List.filter_cons_of_neg (by simpa using k)];rfl
 ·rw [if_neg k,List.filter_cons_of_pos (by simpa using k)];rfl
theorem tI (i:Nat):Le l i≤i:=by
 have:=List.length_filter_le (fun d:na=>decide (d.Kind=1)) (l.take i);rw [List.length_take] at this;rw [Le];omega
theorem uI (i:Nat):En l i≤i:=by
 have:=List.length_filter_le (fun d:na=>decide (d.Kind≠1)) (l.take i);rw [List.length_take] at this;rw [En];omega
theorem OC (za:l.length≤30) (Yl:l.Pairwise fun a b=>a.Name≠b.Name) (j:Nat) (d:j<l.length):Vl l l[j].Name=some (if l[j].Kind=1 then (Le l j:Int) else (En l j:Int)):=by
 have L:∀ (m i:Nat),i≤j→l.length<m+i→Wo l l[j].Name m (Le l i:Nat) (En l i:Nat) (i:Nat)=some (if l[j].Kind=1 then (Le l j:Int) else (En l j:Int)):=by
  intro m
  induction m with
  | zero=>intro i f g; omega
  | succ m h =>
   intro i f g;have c:i<l.length:=by omega
   have Aa:=tI (l:=l) i;have n:=uI (l:=l) i;rw [Wo,if_pos (by omega),od,List.getElem?_eq_getElem c,da];by_cases e:i=j
   ·subst e;rw [if_pos rfl,ts];by_cases k:l[i].Kind=1
    ·rw [if_pos (by simpa using k),if_pos k]
    ·rw [if_neg (by simpa using k),if_pos rfl,if_neg k]
   ·have ne:¬ l[i].Name=l[j].Name:=(List.pairwise_iff_getElem.1 Yl) i j c d (by omega);have s1:=jD c;have s2:=kD c;have:=h (i+1) (by omega) (by omega);rw [if_neg ne,ts,if_neg (by decide),if_neg ne];by_cases k:l[i].Kind=1
    ·rw [if_pos k] at s1 s2;rw [if_pos k,Ib (by omega),da,Ib (by omega),da];rw [s1,s2] at this;exact this
    ·rw [if_neg k] at s1 s2;rw [if_neg k,Ib (by omega),da,Ib (by omega),da];rw [s1,s2] at this;exact this
 exact L (l.length+1) 0 (by omega) (by omega)
theorem vI (za:l.length≤30) (Yl:l.Pairwise fun a b=>a.Name≠b.Name) (j:Nat) (d:j<l.length):lq l l[j].Name (l.length+1) 0=some l[j]:=by
 have L:∀ (m i:Nat),i≤j→l.length<m+i→lq l l[j].Name m (i:Nat)=some l[j]:=by
  intro m
  induction m with
  | zero=>intro i f g; omega
  | succ m h =>
   intro i f g;have c:i<l.length:=by omega
   rw [lq,if_pos (by omega),od,List.getElem?_eq_getElem c,da];by_cases e:i=j
   ·subst e;rw [if_pos rfl]
   ·have ne:¬ l[i].Name=l[j].Name:=(List.pairwise_iff_getElem.1 Yl) i j c d (by omega);rw [if_neg ne,Ib (by omega),da];exact h (i+1) (by omega) (by omega)
 exact L (l.length+1) 0 (by omega) (by omega)
structure qx (l:List na) (i:Nat) (B a:List (Nm×Int)):Prop where
 ul:a.length=En l i
 Nd:B.length=Le l i
 Sb:∀ n u,yb B n=some u→∃ d ∈ l.take i,d.Name=n
 un:∀ (j:Nat) (h:j<l.length),j<i→l[j].Kind≠1→yb a l[j].Name=some (En l j:Int)
 Ef:∀ (j:Nat) (h:j<l.length),j<i→l[j].Kind=1→yb B l[j].Name=some (Le l j:Int)
theorem qx.num (R:ki p l){B c:List (Nm×Int)}{D:List (Nm×na)}(h:qx l l.length B c):vn p ⟨B,c,D⟩ l:=by
 have za:=R.ok.le;refine ⟨za,fun n d Ba Qb=>?_,fun n d Ba Qb=>?_,fun n d Ba=>?_,R.Df,R.only⟩
 ·obtain ⟨b,rfl⟩:=R.only n d Ba;obtain ⟨j,a,rfl⟩:=List.getElem_of_mem b;rw [OC za R.Yl j a,if_neg Qb];exact (h.un j a a Qb).symm
 ·obtain ⟨b,rfl⟩:=R.only n d Ba;obtain ⟨j,a,rfl⟩:=List.getElem_of_mem b;exact ⟨_,h.Ef j a a Qb,by rw [OC za R.Yl j a,if_pos Qb]⟩
 ·obtain ⟨b,rfl⟩:=R.only n d Ba;obtain ⟨j,a,rfl⟩:=List.getElem_of_mem b;exact vI za R.Yl j a
theorem wI (R:ki p l):∀ (m i:Nat) (B o:List (Nm×Int)) (D:List (Nm×na)) (Ef:List bh),i≤l.length→l.length<m+i→tv l i o D Ef→qx l i B o →
  ∃ y t z A,Sk fu l m i B o D Ef=Pj fu l y t z A (l.length+1) 0 []∧tv l l.length t z A∧qx l l.length y t:=by
 have za:=R.ok.le;intro m
 induction m with
 | zero=>intro i B o D Ef F G; omega
 | succ m C =>
  intro i B o D Ef F G h g;rw [Sk];by_cases c:i<l.length
  ·have hm:l[i] ∈ l:=List.getElem_mem _;have bb:at_ l (i:Int)=some l[i]:=by rw [od,List.getElem?_eq_getElem c]
   have tf:=List.take_succ_eq_append_getElem c;have r:∀ d ∈ l.take i,d.Name≠l[i].Name:=fun d Ba=>by
    obtain ⟨j,k,rfl⟩:=List.getElem_of_mem Ba;rw [List.length_take] at k;rw [List.getElem_take];exact (List.pairwise_iff_getElem.1 R.Yl) j i (by omega) c (by omega)
   have E:∀ (j:Nat) (k:j<l.length),j<i→l[i].Name≠l[j].Name:=fun j k h=>((List.pairwise_iff_getElem.1 R.Yl) j i k c h).symm;have Fi:∀ d ∈ l.take (i+1),yb (Ue D l[i].Name l[i]) d.Name=some d:=by
    intro d Ba;rw [tf] at Ba;rw [lh];rcases List.mem_append.1 Ba with Ba | Ba
    ·rw [if_neg fun he=>r d Ba he.symm];exact h.Fi d Ba
    ·rw [List.mem_singleton.1 Ba,if_pos rfl]
   have s1:=jD c;have s2:=kD c;rw [if_pos (by omega),bb,da,da,da];by_cases Qb:l[i].Kind=1
   ·have H:l[i].Ja.Kind≠3:=(R.Ba _ hm).ty (by omega);have M:Ef.length≤30:=by
     rw [h.Ef,List.length_map];have:=List.length_filter_le (fun d:na=>decide (d.Kind=1)) (l.take i);rw [List.length_take] at this;omega
    have v:yb B l[i].Name=none:=by
     cases e:yb B l[i].Name with
     | none=>rfl
     | some u =>
      obtain ⟨d,d1,d2⟩:=g.Sb _ u e;exact absurd d2 (r d d1)
    rw [if_pos Qb] at s1 s2;rw [if_pos Qb,da,Pr,bb,da,da,Ku,if_neg H,da,Gf (by simp;omega),da,Nr,Ib (by omega),da];refine C (i+1) _ o _ _ c (by omega) ⟨by have:=h.le;omega,h.lt,h.ne,fun n u hu=>?_,fun d Ba f=>?_,Fi,?_⟩ ⟨by rw [s2];exact g.ul,by rw [yw _ _ _ v,List.length_append,g.Nd,s1];rfl,fun n u hu=>?_,fun j k w f=>?_,fun j k w f=>?_⟩
    ·obtain ⟨d,d1,d2⟩:=h.Df n u hu;exact ⟨d,by rw [tf];exact List.mem_append.2 (.inl d1),d2⟩
    ·rw [tf] at Ba;rcases List.mem_append.1 Ba with Ba | Ba
     ·exact h.un d Ba f
     ·rw [List.mem_singleton.1 Ba] at f;exact absurd Qb f
    ·rw [Xn c,List.filter_cons_of_pos (by simpa using Qb),List.filter_nil,List.map_append,h.Ef];rfl
    ·rw [lh] at hu;rw [tf];split at hu
     ·rename_i f;exact ⟨l[i],List.mem_append.2 (.inr (List.mem_singleton.2 rfl)),f⟩
     ·obtain ⟨d,d1,d2⟩:=g.Sb n u hu;exact ⟨d,List.mem_append.2 (.inl d1),d2⟩
    ·by_cases e:j=i
     ·subst e;exact absurd Qb f
     ·exact g.un j k (by omega) f
    ·rw [lh];by_cases e:j=i
     ·subst e;rw [if_pos rfl,g.Nd]
     ·rw [if_neg (E j k (by omega))];exact g.Ef j k (by omega) f
   ·have v:yb o l[i].Name=none:=by
     cases e:yb o l[i].Name with
     | none=>rfl
     | some u =>
      obtain ⟨d,d1,d2⟩:=h.Df _ u e;exact absurd d2 (r d d1)
    have s:=yw o l[i].Name (o.length:Int) v;rw [if_neg Qb] at s1 s2;rw [if_neg Qb,da,Qr,Ib (by omega),da];refine C (i+1) B _ _ Ef c (by omega) ⟨?_,fun x q=>?_,?_,fun n u hu=>?_,fun d Ba f=>?_,Fi,?_⟩ ⟨by rw [s,List.length_append,g.ul,s2];rfl,by rw [s1];exact g.Nd,fun n u hu=>?_,fun j k w f=>?_,fun j k w f=>?_⟩
    ·rw [s,List.length_append,List.length_singleton];have:=h.le;omega
    ·rw [s] at q ⊢;rw [List.length_append,List.length_singleton];rcases List.mem_append.1 q with q | q
     ·have:=h.lt x q;omega
     ·rw [List.mem_singleton.1 q];simp only;omega
    ·rw [s,List.pairwise_append];refine ⟨h.ne,List.pairwise_singleton _ _,fun a K b L=>?_⟩;rw [List.mem_singleton.1 L];have:=h.lt a K;simp only;omega
    ·rw [lh] at hu;rw [tf];split at hu
     ·rename_i f;exact ⟨l[i],List.mem_append.2 (.inr (List.mem_singleton.2 rfl)),f⟩
     ·obtain ⟨d,d1,d2⟩:=h.Df n u hu;exact ⟨d,List.mem_append.2 (.inl d1),d2⟩
    ·rw [tf] at Ba;rw [lh];rcases List.mem_append.1 Ba with Ba | Ba
     ·rw [if_neg fun he=>r d Ba he.symm];exact h.un d Ba f
     ·rw [List.mem_singleton.1 Ba,if_pos rfl];exact ⟨_,rfl⟩
    ·rw [Xn c,List.filter_cons_of_neg (by simpa using Qb),List.filter_nil,List.append_nil];exact h.Ef
    ·obtain ⟨d,d1,d2⟩:=g.Sb n u hu;exact ⟨d,by rw [tf];exact List.mem_append.2 (.inl d1),d2⟩
    ·rw [lh];by_cases e:j=i
     ·subst e;rw [if_pos rfl,g.ul]
     ·rw [if_neg (E j k (by omega))];exact g.un j k (by omega) f
    ·by_cases e:j=i
     ·subst e;exact absurd f Qb
     ·exact g.Ef j k (by omega) f
  ·rw [if_neg (by omega)];have e:i=l.length:=by omega
   subst e;exact ⟨B,o,D,Ef,rfl,h,g⟩
theorem FH (R:ki p l) (j:∀ d ∈ l,d.Kind≠1→ph (og p (d.Kind=3) 39) (d.Kind≠4∧d.Params≠[]) d.Body) (k:3300≤fu){B f:List (Nm×Int)}{D:List (Nm×na)}{Ef:List bh}(H:wj p ⟨B,f,D⟩) (o:vn p ⟨B,f,D⟩ l) (r:Ef=(l.filter fun d=>decide (d.Kind=1)).map fun d=>⟨d.Ja.Kind,d.oc⟩):∀ (m i:Nat) (us:List Xf) (b:List bh),i≤l.length→l.length<m+i→us.length≤i→b=((l.take i).filter fun d=>decide (d.Kind=1)).map (fun d=>⟨d.Ja.Kind,d.oc⟩) →
  Vm fu l false m i b us=Pj fu l B f D Ef m i us:=by
 have za:=R.ok.le;intro m
 induction m with
 | zero=>intro i us b s t _ _; rfl
 | succ m g =>
  intro i us b s t hu a;have w:b.length≤30:=by
   rw [a,List.length_map];have:=List.length_filter_le (fun d:na=>decide (d.Kind=1)) (l.take i);rw [List.length_take] at this;omega
  rw [Vm,Pj];by_cases c:i<l.length
  ·have hm:l[i] ∈ l:=List.getElem_mem _;have bb:at_ l (i:Int)=some l[i]:=by rw [od,List.getElem?_eq_getElem c]
   have e:(↑i:Int)<(l.length:Int):=by omega
   rw [if_pos e,if_pos e,bb,da,da];by_cases Qb:l[i].Kind=1
   ·rw [if_pos Qb,if_pos Qb,Gf (by simp;omega),da,Ib (by omega),da,da];refine g (i+1) us _ c (by omega) (by omega) ?_;rw [Xn c,List.filter_cons_of_pos (by simpa using Qb),List.filter_nil,List.map_append,a];rfl
   ·have v:(l[i].Body.map (re 39)).sum≤2000:=by
     have h:=Ow Xl l l[i] hm;have:=R.ok.n;rw [Xl,if_pos Qb] at h;omega
    obtain ⟨u,je,td⟩:=EH H o fu k l[i] (R.ok.ok _ hm) (R.Ba _ hm) Qb (j _ hm Qb) v;rw [if_neg Qb,if_neg Qb,da,je,da,td,da,if_neg (show ¬ (false=true) by decide)];have We:∀ q,Yq (i:Int) b us u (Vm fu l false m) q=Kn (i:Int) us u (Pj fu l B f D Ef m) q:=by
     intro q;rw [Yq,Kn];by_cases z:q=true
     ·rw [if_pos z,if_pos z]
     ·rw [if_neg z,if_neg z,Gf (by simp;omega),da,da,Ib (by omega),da,da];refine g (i+1) _ b c (by omega) (by simp;omega) ?_;rw [Xn c,List.filter_cons_of_neg (by simpa using Qb),List.filter_nil,List.append_nil];exact a
    rw [We,We]
  ·have e:¬ (↑i:Int)<(l.length:Int):=by omega
   rw [if_neg e,if_neg e];rw [List.take_of_length_le (by omega)] at a;rw [a,r]
end
theorem AD (k:Nat) (l:List na) (za:Jo k l):Bu (k+60001) l=some true:=by
 obtain ⟨r,a,c,-⟩:=kE k l za;obtain ⟨m,f,ma,-⟩:=zD (fu:=k+60001) (by omega) l;have d:Pu (k+60001) l false=Wn (k+60001) l:=by
  rw [Pu,Wn,Ss,a,c,da,da,da];by_cases z:r.2.gg≠0
  ·rw [if_pos z,if_pos z];rfl
  ·rw [if_neg z,if_neg z];obtain ⟨p,o,g1,g2⟩:=Fx (k+60001) (by omega) l;rcases g2 with ⟨y,g⟩ | ⟨y,R,g⟩
   ·rw [a] at g;rw [Option.some.inj g] at z;exact absurd y z
   ·obtain ⟨-,e⟩:=xA (by omega) g1 y;obtain ⟨B,q,D,Ef,t1,t2,t3⟩:=wI (fu:=k+60001) R (l.length+1) 0 [] [] [] [] (by omega) (by omega) ⟨by simp,by simp,List.Pairwise.nil,(fun n u h=>by cases h),by simp,by simp,by simp⟩ ⟨rfl,rfl,(fun n u h=>by cases h),fun j h i=>by omega,fun j h i=>by omega⟩;have b:=t2.Ef;rw [List.take_length] at b;exact (FH R e (by omega) (t2.pD R) (t3.num R) b (l.length+1) 0 [] [] (by omega) (by omega) (by simp) (by simp)).trans t1.symm
 rw [Bu,d,ma,da,da,if_pos (by simp [yi]),RE (cG ma),da]
end Go.Y
