/- Texts of TopCopies Pm. -/
import Derived.Test.YtafjdiifkckmbaaGreatDoorCMd
import Derived.Test.YtafjdiifkckmbaaGreatDoorCPl
import Derived.KernelRfl
set_option linter.unusedSimpArgs false
set_option linter.unusedVariables false
set_option linter.unusedSectionVars false
namespace Go.Y
inductive cm (T:Type) where
 | halt
 | Ig (c:Nat) (t:T)
 | send (b:Nat) (v:Int) (c:Nat) (t:T)
 | recv (b:Nat) (c:Nat) (k:Int->T)
structure yf (T:Type) where
 na:List T
 bs:List (List Int)
section
variable {T:Type}
def RG (act:T->cm T) (cap:List Nat) (s:yf T) (i:Nat) (t:T):Option (Nat×yf T):=
 match act t with
 | .halt=>none
 | .Ig c cb=>some (c,⟨s.na.set i cb,s.bs⟩)
 | .send b v c cb=>(s.bs[b]?).bind λw=>(cap[b]?).bind λk=>if w.length<k then some (c,⟨s.na.set i cb,s.bs.set b (w++[v])⟩) else none
 | .recv b c k=>(s.bs[b]?).bind λw=>match w with | []=>none | v::w=>some (c,⟨s.na.set i (k v),s.bs.set b w⟩)
def lG (act:T->cm T) (cap:List Nat) (s:yf T) (i:Nat):Option (Nat×yf T):=(s.na[i]?).bind λt=>RG act cap s i t
inductive Ag (act:T->cm T) (cap:List Nat) (s:yf T) (i:Nat):Nat->yf T->Prop
 | Ig {t cb:T} {c:Nat}:s.na[i]?=some t->act t=.Ig c cb->Ag act cap s i c ⟨s.na.set i cb,s.bs⟩
 | send {t cb:T} {c b k:Nat} {v:Int} {w:List Int}:s.na[i]?=some t->act t=.send b v c cb->s.bs[b]?=some w->cap[b]?=some k->w.length<k->Ag act cap s i c ⟨s.na.set i cb,s.bs.set b (w++[v])⟩
 | recv {t:T} {c b:Nat} {k:Int->T} {v:Int} {w:List Int}:s.na[i]?=some t->act t=.recv b c k->s.bs[b]?=some (v::w)->Ag act cap s i c ⟨s.na.set i (k v),s.bs.set b w⟩
theorem EI {act:T->cm T}{cap:List Nat}{s Ib:yf T}{i c:Nat}:lG act cap s i=some (c,Ib) ↔ Ag act cap s i c Ib:=by
 constructor
 ·intro h;unfold lG at h;cases d:s.na[i]? with
  | none=>rw [d] at h; cases h
  | some t =>
   rw [d] at h;simp only [Option.bind_some] at h;unfold RG at h;cases a:act t with
   | halt=>rw [a] at h; cases h
   | Ig c' cb=>rw [a] at h; cases h; exact .Ig d a
   | send b v c' cb =>
    rw [a] at h;simp only at h;cases e:s.bs[b]? with
    | none=>rw [e] at h; cases h
    | some w =>
     rw [e] at h;simp only [Option.bind_some] at h;cases f:cap[b]? with
     | none=>rw [f] at h; cases h
     | some k =>
      rw [f] at h;simp only [Option.bind_some] at h;by_cases la:w.length<k
      ·rw [if_pos la] at h;cases h;exact .send d a e f la
      ·rw [if_neg la] at h;cases h
   | recv b c' k =>
    rw [a] at h;simp only at h;cases e:s.bs[b]? with
    | none=>rw [e] at h; cases h
    | some w =>
     rw [e] at h;simp only [Option.bind_some] at h;cases w with
     | nil=>cases h
     | cons v w=>cases h; exact .recv d a e
 ·intro h;unfold lG RG;cases h with
  | Ig d a=>rw [d]; simp only [Option.bind_some]; rw [a]
  | send d a e f la=>rw [d]; simp only [Option.bind_some]; rw [a]; simp only; rw [e]; simp only [Option.bind_some]; rw [f]; simp only [Option.bind_some]; rw [if_pos la]
  | recv d a e=>rw [d]; simp only [Option.bind_some]; rw [a]; simp only; rw [e]; rfl
structure Xu (act:T->cm T) (O:Nat->T->Prop) (V:Nat->Int->Prop) (wr rd:Nat->Nat->Prop):Prop where
 Ig:∀ {i:Nat}{t cb:T}{c:Nat},O i t->act t=.Ig c cb->O i cb
 send:∀ {i:Nat}{t cb:T}{b c:Nat}{v:Int},O i t->act t=.send b v c cb->wr b i/\V b v/\O i cb
 recv:∀ {i:Nat}{t:T}{b c:Nat}{k:Int->T},O i t->act t=.recv b c k->rd b i/\∀ v,V b v->O i (k v)
 El:∀ {b i j:Nat},wr b i->wr b j->i=j
 WL:∀ {b i j:Nat},rd b i->rd b j->i=j
structure Mm (O:Nat->T->Prop) (V:Nat->Int->Prop) (s:yf T):Prop where
 na:∀ (i:Nat) (t:T),s.na[i]?=some t->O i t
 bs:∀ (b:Nat) (w:List Int),s.bs[b]?=some w->∀ v ∈ w,V b v
variable {act:T->cm T}{cap:List Nat}{O:Nat->T->Prop}{V:Nat->Int->Prop}{wr rd:Nat->Nat->Prop}
theorem Mm.set {s:yf T}{i:Nat}{t:T}(h:Mm O V s) (b:O i t):Mm O V ⟨s.na.set i t,s.bs⟩:=by
 refine ⟨λj u a=>?_,h.bs⟩;simp only at a;rw [List.getElem?_set] at a;split at a
 ·rename_i e;subst e;split at a
  ·cases a;exact b
  ·cases a
 ·exact h.na j u a
theorem Mm.box {s:yf T}{b:Nat}{w:List Int}(h:Mm O V s) (c:∀ v ∈ w,V b v):Mm O V ⟨s.na,s.bs.set b w⟩:=by
 refine ⟨h.na,λj u a=>?_⟩;simp only at a;rw [List.getElem?_set] at a;split at a
 ·rename_i e;subst e;split at a
  ·cases a;exact c
  ·cases a
 ·exact h.bs j u a
theorem Ag.own (W:Xu act O V wr rd){s Ib:yf T}{i c:Nat}(h:Ag act cap s i c Ib) (a:Mm O V s):Mm O V Ib:=by
 cases h with
 | Ig e f=>exact a.set (W.Ig (a.na _ _ e) f)
 | @send t cb _ b k v w e f g m la =>
  obtain ⟨-,j,l⟩:=W.send (a.na _ _ e) f;refine (a.set l).box (s:=⟨s.na.set i cb,s.bs⟩) λx d=>?_;rcases List.mem_append.1 d with d | d
  ·exact a.bs _ _ g _ d
  ·rw [List.mem_singleton.1 d];exact j
 | @recv t _ b k v w e f g=>exact (a.set ((W.recv (a.na _ _ e) f).2 v (a.bs _ _ g _ (by simp)))).box (s:=⟨s.na.set i (k v),s.bs⟩) λx d=>a.bs _ _ g _ (by simp [d])
theorem Ag.GW {s a s2:yf T}{i c d:Nat}(b:Ag act cap s i c a) (f:Ag act cap s i d s2):c=d/\a=s2:=by
 have e:=(EI.2 b).symm.trans (EI.2 f);cases e;exact ⟨rfl,rfl⟩
theorem Kg {α:Type}{l:List α}{i j:Nat}{a:α}(h:i≠j):(l.set i a)[j]?=l[j]?:=List.getElem?_set_ne h
theorem bn {α:Type}{l:List α}{i:Nat}{a b:α}(h:l[i]?=some b):(l.set i a)[i]?=some a:=by
 rw [List.getElem?_set_self (List.getElem?_eq_some_iff.1 h).1]
theorem Ag.HW (W:Xu act O V wr rd){s D E:yf T}{i j c d:Nat}(f:i≠j) (x:Mm O V s) (G:Ag act cap s i c D) (A:Ag act cap s j d E):∃ F,Ag act cap D j d F/\Ag act cap E i c F:=by
 have p:=Ne.symm f;cases G with
 | @Ig t cb _ n o =>
  cases A with
  | @Ig u h _ hu g=>exact ⟨⟨(s.na.set i cb).set j h,s.bs⟩,.Ig (by simp only; rw [Kg f]; exact hu) g,by
    rw [List.set_comm _ _ f];exact .Ig (s:=⟨s.na.set j h,s.bs⟩) (by simp only;rw [Kg p];exact n) o⟩
  | @send u h _ b k v w hu g hw r la=>exact ⟨⟨(s.na.set i cb).set j h,s.bs.set b (w++[v])⟩,.send (s:=⟨s.na.set i cb,s.bs⟩) (by simp only; rw [Kg f]; exact hu) g hw r la,by
    rw [List.set_comm _ _ f];exact .Ig (s:=⟨s.na.set j h,s.bs.set b (w++[v])⟩) (by simp only;rw [Kg p];exact n) o⟩
  | @recv u _ b k v w hu g hw=>exact ⟨⟨(s.na.set i cb).set j (k v),s.bs.set b w⟩,.recv (s:=⟨s.na.set i cb,s.bs⟩) (by simp only; rw [Kg f]; exact hu) g hw,by
    rw [List.set_comm _ _ f];exact .Ig (s:=⟨s.na.set j (k v),s.bs.set b w⟩) (by simp only;rw [Kg p];exact n) o⟩
 | @send t cb _ a k v w n o hw r la =>
  have B:=(W.send (x.na _ _ n) o).1;cases A with
  | @Ig u h _ hu g=>exact ⟨⟨(s.na.set i cb).set j h,s.bs.set a (w++[v])⟩,.Ig (s:=⟨s.na.set i cb,s.bs.set a (w++[v])⟩) (by simp only; rw [Kg f]; exact hu) g,by
    rw [List.set_comm _ _ f];exact .send (s:=⟨s.na.set j h,s.bs⟩) (by simp only;rw [Kg p];exact n) o hw r la⟩
  | @send u h _ b k' l w' hu g q y z =>
   have C:=(W.send (x.na _ _ hu) g).1;have m:a≠b:=λe=>f (W.El B (e ▸ C));exact ⟨⟨(s.na.set i cb).set j h,(s.bs.set a (w++[v])).set b (w'++[l])⟩,.send (s:=⟨s.na.set i cb,s.bs.set a (w++[v])⟩) (by simp only;rw [Kg f];exact hu) g (by simp only;rw [Kg m];exact q) y z,by
    rw [List.set_comm _ _ f,List.set_comm _ _ m];exact .send (s:=⟨s.na.set j h,s.bs.set b (w'++[l])⟩) (by simp only;rw [Kg p];exact n) o (by simp only;rw [Kg (Ne.symm m)];exact hw) r la⟩
  | @recv u _ b k' l w' hu g q =>
   by_cases m:a=b
   ·subst m;rw [hw] at q;obtain rfl:=Option.some.inj q;refine ⟨⟨(s.na.set i cb).set j (k' l),s.bs.set a (w'++[v])⟩,?_,?_⟩
    ·have:=Ag.recv (act:=act) (cap:=cap) (s:=⟨s.na.set i cb,s.bs.set a (l::w'++[v])⟩) (i:=j) (t:=u) (w:=w'++[v]) (v:=l) (by simp only;rw [Kg f];exact hu) g (by simp only;rw [bn hw];rfl);simpa only [List.set_set] using this
    ·have:=Ag.send (act:=act) (cap:=cap) (s:=⟨s.na.set j (k' l),s.bs.set a w'⟩) (i:=i) (t:=t) (w:=w') (k:=k) (by simp only;rw [Kg p];exact n) o (by simp only;rw [bn hw]) r (by simp only [List.length_cons] at la;omega);rw [List.set_comm _ _ f];simpa only [List.set_set] using this
   ·exact ⟨⟨(s.na.set i cb).set j (k' l),(s.bs.set a (w++[v])).set b w'⟩,.recv (s:=⟨s.na.set i cb,s.bs.set a (w++[v])⟩) (by simp only;rw [Kg f];exact hu) g (by simp only;rw [Kg m];exact q),by
     rw [List.set_comm _ _ f,List.set_comm _ _ m];exact .send (s:=⟨s.na.set j (k' l),s.bs.set b w'⟩) (by simp only;rw [Kg p];exact n) o (by simp only;rw [Kg (Ne.symm m)];exact hw) r la⟩
 | @recv t _ a k v w n o hw =>
  have B:=(W.recv (x.na _ _ n) o).1;cases A with
  | @Ig u h _ hu g=>exact ⟨⟨(s.na.set i (k v)).set j h,s.bs.set a w⟩,.Ig (s:=⟨s.na.set i (k v),s.bs.set a w⟩) (by simp only; rw [Kg f]; exact hu) g,by
    rw [List.set_comm _ _ f];exact .recv (s:=⟨s.na.set j h,s.bs⟩) (by simp only;rw [Kg p];exact n) o hw⟩
  | @send u h _ b k' l w' hu g q y z =>
   by_cases m:a=b
   ·subst m;rw [hw] at q;obtain rfl:=Option.some.inj q;refine ⟨⟨(s.na.set i (k v)).set j h,s.bs.set a (w++[l])⟩,?_,?_⟩
    ·have:=Ag.send (act:=act) (cap:=cap) (s:=⟨s.na.set i (k v),s.bs.set a w⟩) (i:=j) (t:=u) (w:=w) (k:=k') (by simp only;rw [Kg f];exact hu) g (by simp only;rw [bn hw]) y (by simp only [List.length_cons] at z;omega);simpa only [List.set_set] using this
    ·have:=Ag.recv (act:=act) (cap:=cap) (s:=⟨s.na.set j h,s.bs.set a (v::w++[l])⟩) (i:=i) (t:=t) (w:=w++[l]) (v:=v) (by simp only;rw [Kg p];exact n) o (by simp only;rw [bn hw];rfl);rw [List.set_comm _ _ f];simpa only [List.set_set] using this
   ·exact ⟨⟨(s.na.set i (k v)).set j h,(s.bs.set a w).set b (w'++[l])⟩,.send (s:=⟨s.na.set i (k v),s.bs.set a w⟩) (by simp only;rw [Kg f];exact hu) g (by simp only;rw [Kg m];exact q) y z,by
     rw [List.set_comm _ _ f,List.set_comm _ _ m];exact .recv (s:=⟨s.na.set j h,s.bs.set b (w'++[l])⟩) (by simp only;rw [Kg p];exact n) o (by simp only;rw [Kg (Ne.symm m)];exact hw)⟩
  | @recv u _ b k' l w' hu g q =>
   have C:=(W.recv (x.na _ _ hu) g).1;have m:a≠b:=λe=>f (W.WL B (e ▸ C));exact ⟨⟨(s.na.set i (k v)).set j (k' l),(s.bs.set a w).set b w'⟩,.recv (s:=⟨s.na.set i (k v),s.bs.set a w⟩) (by simp only;rw [Kg f];exact hu) g (by simp only;rw [Kg m];exact q),by
    rw [List.set_comm _ _ f,List.set_comm _ _ m];exact .recv (s:=⟨s.na.set j (k' l),s.bs.set b w'⟩) (by simp only;rw [Kg p];exact n) o (by simp only;rw [Kg (Ne.symm m)];exact hw)⟩
inductive hg (act:T->cm T) (cap:List Nat):yf T->Nat->Nat->yf T->Prop
 | nil {s:yf T}:hg act cap s 0 0 s
 | cons {s s1 e:yf T} {i c n d:Nat}:Ag act cap s i c s1->hg act cap s1 n d e->hg act cap s (n+1) (c+d) e
def Ly (act:T->cm T) (cap:List Nat) (s:yf T):Prop:=∀ i c Ib,¬ Ag act cap s i c Ib
theorem hg.app {s a e:yf T}{n d m f:Nat}(h:hg act cap s n d a) (b:hg act cap a m f e):hg act cap s (n+m) (d+f) e:=by
 induction h with
 | nil=>simpa using b
 | @cons _ _ _ _ c n d k _ g =>
  have:=hg.cons k (g b);rw [show n+1+m=(n+m)+1 by omega,Nat.add_assoc c d f];exact this
theorem hg.one {s e:yf T}{i c:Nat}(h:Ag act cap s i c e):hg act cap s 1 c e:=.cons h .nil
theorem hg.own (W:Xu act O V wr rd){s e:yf T}{n d:Nat}(h:hg act cap s n d e) (a:Mm O V s):Mm O V e:=by
 induction h with
 | nil=>exact a
 | cons k _ b=>exact b (k.own W a)
theorem hg.step (W:Xu act O V wr rd){e:yf T}(g:Ly act cap e):∀ (n:Nat){c:Nat}{s:yf T},Mm O V s->hg act cap s n c e->∀ {i d:Nat}{a:yf T},Ag act cap s i d a->∃ m c',n=m+1/\c=d+c'/\hg act cap a m c' e
 | 0,c,s,b,h,i,d,a,k=>by
  cases h;exact (g _ _ _ k).elim
 | n+1,c,s,b,h,i,d,a,k=>by
  cases h with
  | @cons _ s2 _ j gb _ p f l =>
  by_cases o:i=j
  ·subst o;obtain ⟨rfl,rfl⟩:=k.GW f;exact ⟨n,p,rfl,rfl,l⟩
  ·obtain ⟨r,pa,a2⟩:=Ag.HW W o b k f;obtain ⟨m,c',rfl,rfl,q⟩:=hg.step W g n (f.own W b) l a2;exact ⟨m+1,gb+c',rfl,by omega,.cons pa q⟩
theorem hg.ends (W:Xu act O V wr rd){s e:yf T}{n c:Nat}(i:Ly act cap e) (a:Mm O V s) (h:hg act cap s n c e){m d:Nat}{b:yf T}(k:hg act cap s m d b):∃ f g,n=m+f/\c=d+g/\hg act cap b f g e:=by
 induction k generalizing n c with
 | nil=>exact ⟨n,c,by omega,by omega,h⟩
 | cons k1 _ j =>
  obtain ⟨r,gb,rfl,rfl,l⟩:=hg.step W i n a h k1;obtain ⟨o,p,rfl,rfl,q⟩:=j (k1.own W a) l;exact ⟨o,p,by omega,by omega,q⟩
end
section
open Go.Bc Go.Re
structure Core where
 de:List fi
 Db:List Ng
 now:Nat
 out:List Int
inductive xl where
 | run (c:ah)
 | done
 | ye (n:Int)
def xd.core (t:xd):Core:=⟨t.de,t.Db,t.now,t.out⟩
def sf:ah->ah
 | .sd (.recv n k)=>.recv n k
 | .sd (.send n v k)=>.send n v k
 | c=>c
def Comm:ah->Prop
 | .recv _ _=>True
 | .send _ _ _=>True
 | .sd (.recv _ _)=>True
 | .sd (.send _ _ _)=>True
 | _=>False
inductive Pe (E:Sd):ah->Core->Nat->Core->xl->Prop
 | Vy {x:Na} {s:Option Nat} {k:Ze} {z:Core}:x.Kind=1\/x.Kind=2->Pe E (.expr x s k) z 1 z (.run (.ff k x.N))
 | var {x:Na} {s:Option Nat} {k:Ze} {z:Core} {i:Nat} {c:fi}:x.Kind=3->ym z.de x.Name (z.de.length+1) s=some i->z.de[i]?=some c->Pe E (.expr x s k) z 1 z (.run (.ff k c.v))
 | mC {x:Na} {s:Option Nat} {k:Ze} {z:Core}:x.Kind=20->Pe E (.expr x s k) z 1 z (.run (.recv x.Name k))
 | nC {x:Na} {s:Option Nat} {k:Ze} {z:Core}:x.Kind≠1->x.Kind≠2->x.Kind≠3->x.Kind≠20->Pe E (.expr x s k) z 1 z (.run (.all x.Kids s [] (.ex x k)))
 | KB {l:List Na} {s:Option Nat} {Jd:List Int} {k:Zk} {z:Core} {x:Na}:l.length≠Jd.length->l[Jd.length]?=some x->Pe E (.all l s Jd k) z 0 z (.run (.expr x s (.all l s Jd k)))
 | LB {l:List Na} {s:Option Nat} {Jd:List Int} {k:Zk} {z:Core}:l.length=Jd.length->Pe E (.all l s Jd k) z 0 z (.run (.Jd k Jd))
 | nil {s:Option Nat} {e:hh} {k:fe} {z:Core}:Pe E (.stats [] s e k) z 0 z (.run (.sd k))
 | stop {x:Pa} {l:List Pa} {s:Option Nat} {q k:fe} {z:Core}:x.Kind=6->Pe E (.stats (x::l) s (.stop q) k) z 1 z (.run (.sd q))
 | yC {x:Pa} {l:List Pa} {s:Option Nat} {e:hh} {k:fe} {z:Core}:x.Kind=4->Pe E (.stats (x::l) s e k) z 1 z (.run (.qf x s e (.stats l s e k)))
 | st {x:Pa} {l:List Pa} {s:Option Nat} {e:hh} {k:fe} {z:Core}:x.Kind≠6->x.Kind≠4->Pe E (.stats (x::l) s e k) z 1 z (.run (.expr x.X s (.stat (x::l) s e k)))
 | qf {x:Pa} {s:Option Nat} {e:hh} {k:fe} {z:Core}:Pe E (.qf x s e k) z 0 z (.run (.expr x.X s (.qf x s e k)))
 | MB {l:List Na} {s:Option Nat} {Jd:List Int} {k:Zk} {v:Int} {z:Core} {g:List Int}:app Jd [v]=some g->Pe E (.ff (.all l s Jd k) v) z 0 z (.run (.all l s g k))
 | Eo {x:Pa} {l:List Pa} {s:Option Nat} {e:hh} {k:fe} {v:Int} {z:Core}:x.Kind=1->Pe E (.ff (.stat (x::l) s e k) v) z 0 { z with de:=z.de++[⟨x.Name,v,s⟩] } (.run (.sd (.stats l (some z.de.length) e k)))
 | sset {x:Pa} {l:List Pa} {s:Option Nat} {e:hh} {k:fe} {v:Int} {z:Core} {i:Nat} {c:fi}:x.Kind=2->ym z.de x.Name (z.de.length+1) s=some i->z.de[i]?=some c->Pe E (.ff (.stat (x::l) s e k) v) z 0 { z with de:=z.de.set i { c with v:=v } } (.run (.sd (.stats l s e k)))
 | yq {x:Pa} {l:List Pa} {s:Option Nat} {e:hh} {k:fe} {v:Int} {z:Core}:x.Kind=3->Pe E (.ff (.stat (x::l) s e k) v) z 0 z (.run (.stats (if v≠0 then x.Body else x.kf) s e (.stats l s e k)))
 | oq {x:Pa} {l:List Pa} {s:Option Nat} {q:Ze} {k:fe} {v:Int} {z:Core}:x.Kind=5->Pe E (.ff (.stat (x::l) s (.ret q) k) v) z 0 z (.run (.ff q v))
 | jq {x:Pa} {l:List Pa} {s:Option Nat} {e:hh} {k:fe} {v:Int} {z:Core}:x.Kind=7->Pe E (.ff (.stat (x::l) s e k) v) z 0 z (.run (.send x.Name v (.stats l s e k)))
 | xp {x:Pa} {l:List Pa} {s:Option Nat} {e:hh} {k:fe} {v:Int} {z:Core} {o:List Int}:x.Kind=8->app z.out [v]=some o->Pe E (.ff (.stat (x::l) s e k) v) z 0 { z with out:=o } (.run (.sd (.stats l s e k)))
 | zq {x:Pa} {l:List Pa} {s:Option Nat} {e:hh} {k:fe} {v:Int} {z:Core}:x.Kind≠1->x.Kind≠2->x.Kind≠3->x.Kind≠5->x.Kind≠7->x.Kind≠8->Pe E (.ff (.stat (x::l) s e k) v) z 0 z (.run (.sd (.stats l s e k)))
 | NB {x:Pa} {s:Option Nat} {e:hh} {k:fe} {v:Int} {z:Core}:v=0->Pe E (.ff (.qf x s e k) v) z 0 z (.run (.sd k))
 | win {x:Pa} {s:Option Nat} {e:hh} {k:fe} {v:Int} {z:Core}:v≠0->Pe E (.ff (.qf x s e k) v) z 0 z (.run (.stats x.Body s e (.qf x s e k)))
 | neg {x:Na} {k:Ze} {l:List Int} {z:Core} {a:Int}:x.Kind=4->at_ l 0=some a->Pe E (.Jd (.ex x k) l) z 0 z (.run (.ff k (fm (-a))))
 | not {x:Na} {k:Ze} {l:List Int} {z:Core} {a:Int}:x.Kind=5->at_ l 0=some a->Pe E (.Jd (.ex x k) l) z 0 z (.run (.ff k (fm (1 - a))))
 | call {x:Na} {k:Ze} {l:List Int} {z:Core} {d:va} {S:List fi} {s:Option Nat}:x.Kind=19->Sa E.defs x.Name=some d->Kj d.Params l z.de none=some (S,s)->Pe E (.Jd (.ex x k) l) z 0 { z with de:=S } (.run (.stats d.Body s (.ret k) (.zero k)))
 | xq {x:Na} {k b:Ze} {l:List Int} {z:Core} {a:Int} {c:Ng} {u:Nat}:x.Kind=21->at_ l 0=some a->z.Db[z.now]?=some c->c.up=some u->c.back=some b->Pe E (.Jd (.ex x k) l) z 0 { z with Db:=z.Db.set z.now { c with vk:=some k,going:=false },now:=u } (.run (.ff b a))
 | many {x:Na} {k:Ze} {l:List Int} {z:Core}:x.Kind=22->(z.Db.length:Int) - 1=30->Pe E (.Jd (.ex x k) l) z 0 z (.ye 5)
 | start {x:Na} {k:Ze} {l:List Int} {z:Core} {d:va} {S:List fi} {s:Option Nat}:x.Kind=22->(z.Db.length:Int) - 1≠30->Sa E.defs x.Name=some d->Kj d.Params l z.de none=some (S,s)->Pe E (.Jd (.ex x k) l) z 0 { z with de:=S,Db:=z.Db++[⟨d,s,false,false,false,none,none,none⟩] } (.run (.ff k (z.Db.length - 1)))
 | res {x:Na} {k:Ze} {l:List Int} {z:Core} {a b:Int}:x.Kind=23->at_ l 0=some a->at_ l 1=some b->0<=a/\a<(z.Db.length:Int) - 1->Pe E (.Jd (.ex x k) l) z 0 z (.run (.resume (a.toNat+1) b k))
 | alive {x:Na} {k:Ze} {l:List Int} {z:Core} {a:Int} {c:Ng}:x.Kind=24->at_ l 0=some a->0<=a->z.Db[a.toNat+1]?=some c->Pe E (.Jd (.ex x k) l) z 0 z (.run (.ff k (ak !c.ended)))
 | OB {x:Na} {k:Ze} {l:List Int} {z:Core}:x.Kind=9\/x.Kind=10->at_ l 1=some 0->Pe E (.Jd (.ex x k) l) z 0 z (.ye 1)
 | two {x:Na} {k:Ze} {l:List Int} {z:Core} {a b v:Int}:x.Kind≠4/\x.Kind≠5/\x.Kind≠19/\x.Kind≠21/\x.Kind≠22/\x.Kind≠23/\x.Kind≠24->(x.Kind=9\/x.Kind=10->b≠0)->at_ l 0=some a->at_ l 1=some b->Nn x.Kind a b=some v->Pe E (.Jd (.ex x k) l) z 0 z (.run (.ff k v))
 | zero {k:Ze} {z:Core}:Pe E (.sd (.zero k)) z 0 z (.run (.ff k 0))
 | done {g u:Nat} {z:Core} {c:Ng} {b:Ze}:z.Db[g]?=some c->c.up=some u->c.back=some b->Pe E (.sd (.done g)) z 0 { z with Db:=z.Db.set g { c with ended:=true,going:=false },now:=u } (.run (.ff b 0))
 | stats {l:List Pa} {s:Option Nat} {e:hh} {k:fe} {z:Core}:Pe E (.sd (.stats l s e k)) z 0 z (.run (.stats l s e k))
 | PB {x:Pa} {s:Option Nat} {e:hh} {k:fe} {z:Core}:Pe E (.sd (.qf x s e k)) z 0 z (.run (.qf x s e k))
 | fin {z:Core}:Pe E (.sd .fin) z 0 z .done
 | Yi {d:va} {z:Core}:Pe E (.sd (.Yi d)) z 0 z (.run (.stats d.Body none (.stop .fin) .fin))
 | gone {g:Nat} {v:Int} {k:Ze} {z:Core} {c:Ng}:z.Db[g]?=some c->c.ended=true->Pe E (.resume g v k) z 0 z (.ye 2)
 | busy {g:Nat} {v:Int} {k:Ze} {z:Core} {c:Ng}:z.Db[g]?=some c->c.ended≠true->c.going=true\/g=z.now->Pe E (.resume g v k) z 0 z (.ye 3)
 | on {g:Nat} {v:Int} {k o:Ze} {z:Core} {c:Ng}:z.Db[g]?=some c->c.ended≠true->¬ (c.going=true\/g=z.now)->c.begun=true->c.vk=some o->Pe E (.resume g v k) z 0 { z with Db:=z.Db.set g { c with going:=true,up:=some z.now,back:=some k },now:=g } (.run (.ff o v))
 | first {g:Nat} {v:Int} {k:Ze} {z:Core} {c:Ng}:z.Db[g]?=some c->c.ended≠true->¬ (c.going=true\/g=z.now)->c.begun≠true->Pe E (.resume g v k) z 0 { z with Db:=z.Db.set g { c with going:=true,up:=some z.now,back:=some k,begun:=true },now:=g } (.run (.stats c.Im.Body c.args (.stop (.done g)) (.done g)))
def Xg (t:xd) (bs:List Rd) (nd:Int) (x:Core):xl->fk
 | .run c=>.call c ⟨{ t with de:=x.de,Db:=x.Db,now:=x.now,out:=x.out },bs,nd⟩
 | .done=>.ret none ⟨{ t with de:=x.de,Db:=x.Db,now:=x.now,out:=x.out,state:=4 },bs,nd⟩
 | .ye n=>.ret none ⟨{ t with de:=x.de,Db:=x.Db,now:=x.now,out:=x.out,state:=5,ye:=n },bs,nd⟩
inductive BG:fk->fk->Prop
 | rfl (o:fk):BG o o
 | ret (k:fe) (z:Sc):BG (.ret (some k) z) (.call (.sd k) z)
theorem Pe.step {E:Sd}{c:ah}{t:xd}{bs:List Rd}{nd:Int}{n:Nat}{x:Core}{q:xl}(h:Pe E c t.core n x q) (u:n=0\/nd+1<=20000):∃ o,Wd E c ⟨t,bs,nd⟩=some o/\BG o (Xg t bs (nd+n) x q):=by
 have m:∀ f,nd+1<=20000->Us ⟨t,bs,nd⟩ f=f ⟨t,bs,nd+1⟩:=λf h=>by rw [Us,if_neg (by show ¬ (20000<nd+1);omega)]
 obtain ⟨de,Db,now,mm,state,box,ye,out⟩:=t
 change Pe E c ⟨de,Db,now,out⟩ n x q at h
 cases h with
 | Vy h=>refine ⟨_,?_,.rfl _⟩; rw [Wd,m _ (by omega),if_pos h]; rfl
 | var h d e =>
  refine ⟨_,?_,.rfl _⟩;rw [Wd,m _ (by omega),if_neg (by omega),if_pos h];show (ym de _ _ _).bind _=_;rw [show ym de _ (de.length+1) _=_ from d];simp only [Option.bind_some];show (de[_]?).bind _=_;rw [show de[_]?=_ from e];rfl
 | mC h=>refine ⟨_,?_,.rfl _⟩; rw [Wd,m _ (by omega),if_neg (by omega),if_neg (by omega),if_pos h]; rfl
 | nC p d e g=>refine ⟨_,?_,.rfl _⟩; rw [Wd,m _ (by omega),if_neg (by omega),if_neg (by omega),if_neg g]; rfl
 | KB h d=>refine ⟨_,?_,.rfl _⟩; rw [Wd,if_neg h,d]; simp [Xg]
 | LB h=>refine ⟨_,?_,.rfl _⟩; rw [Wd,if_pos h]; simp [Xg]
 | nil=>refine ⟨_,?_,.ret _ _⟩; rw [Wd]; simp [Xg]
 | stop h=>refine ⟨_,?_,.ret _ _⟩; rw [Wd,m _ (by omega),if_pos h]; rfl
 | yC h=>refine ⟨_,?_,.rfl _⟩; rw [Wd,m _ (by omega),if_neg (by omega),if_pos h]; rfl
 | st p d=>refine ⟨_,?_,.rfl _⟩; rw [Wd,m _ (by omega),if_neg p,if_neg d]; rfl
 | qf=>refine ⟨_,?_,.rfl _⟩; rw [Wd]; simp [Xg]
 | MB h=>refine ⟨_,?_,.rfl _⟩; rw [Wd,h]; simp [Xg]
 | Eo h=>refine ⟨_,?_,.ret _ _⟩; rw [Wd]; simp [gp,h,Xg,Sc.task]
 | sset h d e =>
  refine ⟨_,?_,.ret _ _⟩;rw [Wd];unfold gp;rw [if_neg (by omega),if_pos h,show ym de _ (de.length+1) _=_ from d];simp only [Option.bind_some];rw [show de[_]?=_ from e];simp [Xg,Sc.task]
 | yq h=>refine ⟨_,?_,.rfl _⟩; rw [Wd]; simp [gp,h,Xg,Sc.task]
 | oq h=>refine ⟨_,?_,.rfl _⟩; rw [Wd]; simp [gp,h,Xg,Sc.task]
 | jq h=>refine ⟨_,?_,.rfl _⟩; rw [Wd]; simp [gp,h,Xg,Sc.task]
 | xp h d =>
  refine ⟨_,?_,.ret _ _⟩;rw [Wd];unfold gp;rw [if_neg (by omega),if_neg (by omega),if_neg (by omega),if_neg (by omega),if_neg (by omega),if_pos h,show app out _=_ from d];simp [Xg,Sc.task]
 | zq p d e g j s=>refine ⟨_,?_,.ret _ _⟩; rw [Wd]; simp [gp,p,d,e,g,j,s,Xg,Sc.task]
 | NB h=>refine ⟨_,?_,.ret _ _⟩; rw [Wd,if_pos h]; simp [Xg]
 | win h=>refine ⟨_,?_,.rfl _⟩; rw [Wd,if_neg h]; simp [Xg]
 | neg h d=>refine ⟨_,?_,.rfl _⟩; rw [Wd]; simp [On,h,d,Xg,Sc.task]
 | not h d=>refine ⟨_,?_,.rfl _⟩; rw [Wd]; simp [On,h,d,Xg,Sc.task]
 | call h d e =>
  refine ⟨_,?_,.rfl _⟩;rw [Wd];rw [On];rw [if_neg (by omega),if_neg (by omega),if_pos h,d];simp only [Option.bind_some];rw [show Kj _ _ de _=_ from e];simp [Xg,Sc.task]
 | xq h d e g j =>
  have r:Db[now]?=some _:=e;refine ⟨_,?_,.rfl _⟩;rw [Wd];rw [On];rw [if_neg (by omega),if_neg (by omega),if_neg (by omega),if_pos h,d];simp only [Option.bind_some];rw [r];simp only [Option.bind_some];rw [g];simp only [Option.bind_some];rw [j];simp only [Option.bind_some];simp [Xg,Sc.task,xd.rn,r,g,j]
 | many h d =>
  dsimp only at *;refine ⟨_,?_,.rfl _⟩;rw [Wd];rw [On];rw [if_neg (by omega),if_neg (by omega),if_neg (by omega),if_neg (by omega),if_pos h,if_pos d];simp [Xg,Sc.task,Zs]
 | start h d e g =>
  dsimp only at *;refine ⟨_,?_,.rfl _⟩;rw [Wd];rw [On];rw [if_neg (by omega),if_neg (by omega),if_neg (by omega),if_neg (by omega),if_pos h,if_neg d,e];simp only [Option.bind_some];rw [show Kj _ _ de _=_ from g];simp [Xg,Sc.task]
 | res h d e g =>
  dsimp only at *;refine ⟨_,?_,.rfl _⟩;rw [Wd];rw [On];rw [if_neg (by omega),if_neg (by omega),if_neg (by omega),if_neg (by omega),if_neg (by omega),if_pos h,d];simp only [Option.bind_some];rw [e];simp only [Option.bind_some];rw [if_pos g];simp [Xg]
 | alive h d e g =>
  refine ⟨_,?_,.rfl _⟩;rw [Wd];rw [On];rw [if_neg (by omega),if_neg (by omega),if_neg (by omega),if_neg (by omega),if_neg (by omega),if_neg (by omega),if_pos h,d];simp only [Option.bind_some];rw [if_pos e,show Db[_]?=_ from g];simp [Xg]
 | OB h d =>
  refine ⟨_,?_,.rfl _⟩;rw [Wd];rw [On];rw [if_neg (by omega),if_neg (by omega),if_neg (by omega),if_neg (by omega),if_neg (by omega),if_neg (by omega),if_neg (by omega),if_pos h,d];simp [Xg,Sc.task,Zs]
 | @two x k l z a b v h d e g j =>
  refine ⟨_,?_,.rfl _⟩;rw [Wd];rw [On];rw [if_neg (by omega),if_neg (by omega),if_neg (by omega),if_neg (by omega),if_neg (by omega),if_neg (by omega),if_neg (by omega),e,g];simp only [Option.bind_some];by_cases c:x.Kind=9\/x.Kind=10
  ·rw [if_pos c];simp [d c,j,Xg]
  ·rw [if_neg c];simp [j,Xg]
 | zero=>refine ⟨_,?_,.rfl _⟩; rw [Wd]; simp [Xg]
 | done h d e =>
  have i:Db[_]?=some _:=h;refine ⟨_,?_,.rfl _⟩;rw [Wd];simp only [i,Option.bind_some,d,e];simp [Xg,Sc.task,xd.rn,i,d,e]
 | stats=>refine ⟨_,?_,.rfl _⟩; rw [Wd]; simp [Xg]
 | PB=>refine ⟨_,?_,.rfl _⟩; rw [Wd]; simp [Xg]
 | fin=>refine ⟨_,?_,.rfl _⟩; rw [Wd]; simp [Xg,Sc.task]
 | Yi=>refine ⟨_,?_,.rfl _⟩; rw [Wd]; simp [Xg]
 | gone h d =>
  have i:Db[_]?=some _:=h;refine ⟨_,?_,.rfl _⟩;rw [Wd];simp only [xu,i,Option.bind_some];rw [if_pos d];simp [Xg,Sc.task,Zs]
 | busy h d e =>
  dsimp only at e;have i:Db[_]?=some _:=h;refine ⟨_,?_,.rfl _⟩;rw [Wd];simp only [xu,i,Option.bind_some];rw [if_neg d,if_pos e];simp [Xg,Sc.task,Zs]
 | on h d e g j =>
  dsimp only at e;have i:Db[_]?=some _:=h;refine ⟨_,?_,.rfl _⟩;rw [Wd];simp only [xu,i,Option.bind_some];rw [if_neg d,if_neg e,if_pos g,j];simp [Xg,Sc.task,xd.rn,i,j]
 | first h d e g =>
  dsimp only at e;have i:Db[_]?=some _:=h;refine ⟨_,?_,.rfl _⟩;rw [Wd];simp only [xu,i,Option.bind_some];rw [if_neg d,if_neg e,if_neg g];obtain ⟨la,he⟩:=List.getElem?_eq_some_iff.1 i;simp [Xg,Sc.task,xd.rn,i,la,he]
end
section
open Go.Bc Go.Re
structure bg where
 Gd:List va
 vf:List (Je×Option Nat×Qa)
structure bg.le (C Fg:bg):Prop where
 Gd:∀ (i:Nat) (d:va),C.Gd[i]?=some d->Fg.Gd[i]?=some d
 vf:∀ (i:Nat) (c:Je×Option Nat×Qa),C.vf[i]?=some c->Fg.vf[i]?=some c
theorem bg.le.r {C:bg}:C.le C:=⟨λ_ _ h=>h,λ_ _ h=>h⟩
theorem oo {α:Type}{l m:List α}{i:Nat}{a:α}(h:l[i]?=some a):(l++m)[i]?=some a:=by
 rw [List.getElem?_append_left (List.getElem?_eq_some_iff.1 h).1];exact h
theorem bg.le.app {C:bg}{a:List va}{b:List (Je×Option Nat×Qa)}:C.le ⟨C.Gd++a,C.vf++b⟩:=⟨λ_ _ h=>oo h,λ_ _ h=>oo h⟩
def ti (p:qb) (C:bg) (t:Qa) (v:Int):Prop :=
 (t.Kind=2->v=0\/v=1)/\(t.Kind=3->∃ (j:Nat) (d:va),v=(j:Int)/\C.Gd[j+1]?=some d/\Sa p.named t.xc=some d)
theorem ti.up {p:qb}{C Fg:bg}(l:C.le Fg){t:Qa}{v:Int}(h:ti p C t v):ti p Fg t v:=⟨h.1,λk=>by
 obtain ⟨j,d,a,b,c⟩:=h.2 k;exact ⟨j,d,a,l.Gd _ _ b,c⟩⟩
theorem cP {t:Qa}(h:t.Kind=3):He t=t:=by unfold He;rw [if_neg (by omega)]
theorem ti.bare {p:qb}{C:bg}{t:Qa}{v:Int}:ti p C (He t) v ↔ ti p C t v:=by
 by_cases h:t.Kind=3
 ·rw [cP h]
 ·unfold ti;rw [Dn];exact ⟨λk=>⟨k.1,λe=>absurd e h⟩,λk=>⟨k.1,λe=>absurd e h⟩⟩
theorem ti.plain {p:qb}{C:bg}{t:Qa}{v:Int}(a:t.Kind=2->v=0\/v=1) (h:t.Kind≠3):ti p C t v:=⟨a,λk=>absurd k h⟩
theorem ti.num {p:qb}{C:bg}{v:Int}:ti p C ⟨1,[]⟩ v:=.plain (λh=>by simp at h) (by simp)
theorem ti.bool {p:qb}{C:bg}{v:Int}(h:v=0\/v=1):ti p C ⟨2,[]⟩ v:=.plain (λ_=>h) (by simp)
theorem ti.MV {p:qb}{C:bg}{b:Bool}:ti p C ⟨2,[]⟩ (ak b):=.bool (by cases b<;>simp [ak])
inductive Wm (vf:List (Je×Option Nat×Qa)) (n:Je):Option Nat->Nat->Qa->Prop
 | here {i:Nat} {u:Option Nat} {t:Qa}:vf[i]?=some (n,u,t)->Wm vf n (some i) i t
 | up {i j:Nat} {a:Je} {u:Option Nat} {t cb:Qa}:vf[i]?=some (a,u,cb)->a≠n->Wm vf n u j t->Wm vf n (some i) j t
theorem Wm.mono {vf a:List (Je×Option Nat×Qa)}(l:∀ (i:Nat) (c:Je×Option Nat×Qa),vf[i]?=some c->a[i]?=some c){n:Je}{s:Option Nat}{i:Nat}{t:Qa}(h:Wm vf n s i t):Wm a n s i t:=by
 induction h with
 | here h=>exact .here (l _ _ h)
 | up h b _ d=>exact .up (l _ _ h) b d
theorem Wm.get {vf:List (Je×Option Nat×Qa)}{n:Je}{s:Option Nat}{i:Nat}{t:Qa}(h:Wm vf n s i t):∃ u,vf[i]?=some (n,u,t):=by
 induction h with
 | here h=>exact ⟨_,h⟩
 | up _ _ _ a=>exact a
structure Env (C:bg) (s:Option Nat) (B:se):Prop where
 ok:∀ j,s=some j->j<C.vf.length
 at_:∀ (n:Je) (t:Qa),Qj B n=some t->∃ i,Wm C.vf n s i t
theorem bg.le.len {C Fg:bg}(l:C.le Fg){j:Nat}(h:j<C.vf.length):j<Fg.vf.length:=(List.getElem?_eq_some_iff.1 (l.vf _ _ (List.getElem?_eq_getElem h))).1
theorem Env.up {C Fg:bg}(l:C.le Fg){s:Option Nat}{B:se}(h:Env C s B):Env Fg s B:=⟨λj e=>l.len (h.ok j e),λn t e=>by
 obtain ⟨i,h⟩:=h.at_ n t e;exact ⟨i,h.mono l.vf⟩⟩
theorem LJ (B:se) (n:Je):Qj (B++[[]]) n=Qj B n:=by
 unfold Qj;rw [List.reverse_append,List.reverse_singleton,List.singleton_append,List.findSome?_cons];rfl
theorem Env.ea {C:bg}{s:Option Nat}{B:se}(h:Env C s B):Env C s (B++[[]]):=⟨h.ok,λn t e=>h.at_ n t (by rwa [LJ] at e)⟩
theorem Env.nil {C:bg}:Env C none ([[]]++[[]]):=⟨λj e=>(by cases e),λn t e=>by rw [LJ] at e;cases e⟩
structure nm (p:qb) (C:bg) (S:List fi):Prop where
 len:S.length=C.vf.length
 at_:∀ (i:Nat) (c:fi),S[i]?=some c->∃ t,C.vf[i]?=some (c.name,c.up,t)/\(∀ j,c.up=some j->j<i)/\ti p C t c.v
theorem nm.get {p:qb}{C:bg}{S:List fi}(h:nm p C S){i:Nat}{n:Je}{u:Option Nat}{t:Qa}(e:C.vf[i]?=some (n,u,t)):∃ c,S[i]?=some c/\c.name=n/\c.up=u/\(∀ j,u=some j->j<i)/\ti p C t c.v:=by
 have la:=(List.getElem?_eq_some_iff.1 e).1;rw [<- h.len] at la;have a:S[i]?=some S[i]:=List.getElem?_eq_getElem la;obtain ⟨cb,b,d,f⟩:=h.at_ _ _ a;rw [e] at b;cases b;exact ⟨_,a,rfl,rfl,d,f⟩
theorem Wm.find {p:qb}{C:bg}{S:List fi}(g:nm p C S){n:Je}{s:Option Nat}{i:Nat}{t:Qa}(h:Wm C.vf n s i t):∀ fu,(∀ b,s=some b->b<fu)->ym S n fu s=some i:=by
 induction h with
 | @here i u t h =>
  intro fu a;obtain ⟨c,d,f,-⟩:=g.get h;cases fu with
  | zero=>have:=a _ rfl; omega
  | succ fu=>rw [ym,d]; simp [f]
 | @up i j o u t cb h f _ k =>
  intro fu a;obtain ⟨c,d,l,m,Xe,-⟩:=g.get h;cases fu with
  | zero=>have:=a _ rfl; omega
  | succ fu =>
   rw [ym,d];simp only [Option.bind_some,l,if_neg f,m];have:=a _ rfl;exact k fu λb e=>by have:=Xe _ e;omega
theorem Wm.found {p:qb}{C:bg}{S:List fi}(a:nm p C S){n:Je}{s:Option Nat}{i:Nat}{t:Qa}(h:Wm C.vf n s i t):∃ c,ym S n (S.length+1) s=some i/\S[i]?=some c/\c.name=n/\C.vf[i]?=some (n,c.up,t)/\ti p C t c.v:=by
 obtain ⟨u,hu⟩:=h.get;obtain ⟨c,b,d,rfl,k,f⟩:=a.get hu;refine ⟨c,h.find a _ λg e=>?_,b,d,hu,f⟩;have:∃ x,C.vf[g]?=some x:=by
  subst e;cases h with
  | here h=>exact ⟨_,h⟩
  | up h _ _=>exact ⟨_,h⟩
 obtain ⟨x,j⟩:=this;have:=(List.getElem?_eq_some_iff.1 j).1;rw [<- a.len] at this;omega
def Dp (C:bg) (g:Nat) (d:va):Prop:=d.Kind=3->C.Gd[g]?=some d
theorem Dp.up {C Fg:bg}(l:C.le Fg){g:Nat}{d:va}(h:Dp C g d):Dp Fg g d:=λk=>l.Gd _ _ (h k)
structure Ug where
 c:Je->Prop
 s:Je->Prop
 r:Je->Prop
inductive ez (U:Ug):Na->Prop
 | mk {x:Na}:(x.Kind=19\/x.Kind=22->U.c x.Name)->(x.Kind=20->U.r x.Name)->(∀ y ∈ x.Kids,ez U y)->ez U x
inductive fz (U:Ug):Pa->Prop
 | mk {x:Pa}:(x.Kind=7->U.s x.Name)->(x.Kind≠6->ez U x.X)->(x.Kind=3\/x.Kind=4->∀ y ∈ x.Body,fz U y)->(x.Kind=3->∀ y ∈ x.kf,fz U y)->fz U x
def om (U:Ug) (x:Na):Prop:=(∃ k,Uy k x)/\ez U x
def vj (U:Ug) (l:List Pa):Prop:=(∃ k,∀ y ∈ l,fv k y)/\∀ y ∈ l,fz U y
structure Lw (p:qb) (U:Ug) (d:va) (B:se) (l:List Na) (na:List Qa) (m:Nat):Prop where
 len:l.length=na.length
 le:l.length<=100
 at_:∀ (i:Nat) (y:Na) (t:Qa),m<=i->l[i]?=some y->na[i]?=some t->Ve p d B y t/\om U y
inductive bo (p:qb) (U:Ug) (d:va) (x:Na):List Qa->Qa->Prop
 | neg:x.Kind=4->bo p U d x [⟨1,[]⟩] ⟨1,[]⟩
 | not:x.Kind=5->bo p U d x [⟨2,[]⟩] ⟨2,[]⟩
 | cz:6<=x.Kind/\x.Kind<=10->bo p U d x [⟨1,[]⟩,⟨1,[]⟩] ⟨1,[]⟩
 | eq {t:Qa}:x.Kind=11\/x.Kind=12->t.Kind≠3->bo p U d x [t,t] ⟨2,[]⟩
 | lt:13<=x.Kind/\x.Kind<=16->bo p U d x [⟨1,[]⟩,⟨1,[]⟩] ⟨2,[]⟩
 | jk:17<=x.Kind/\x.Kind<=18->bo p U d x [⟨2,[]⟩,⟨2,[]⟩] ⟨2,[]⟩
 | call {f:va}:x.Kind=19->U.c x.Name->Sa p.named x.Name=some f->f.Kind=2->bo p U d x (f.Params.map λq=>He q.Cb) (He f.Cb)
 | xq:x.Kind=21->d.Kind=3->bo p U d x [He d.Cb] (He d.cd)
 | start {f:va}:x.Kind=22->U.c x.Name->Sa p.named x.Name=some f->f.Kind=3->bo p U d x (f.Params.map λq=>He q.Cb) ⟨3,x.Name⟩
 | resume {g:Nm} {f:va}:x.Kind=23->Sa p.named g=some f->f.Kind=3->bo p U d x [⟨3,g⟩,He f.cd] (He f.Cb)
 | alive {g:Nm} {f:va}:x.Kind=24->Sa p.named g=some f->f.Kind=3->bo p U d x [⟨3,g⟩] ⟨2,[]⟩
inductive Rr (p:qb) (U:Ug) (d:va):se->Pa->Qa->se->Prop
 | Eo {B:se} {s:Pa} {t:Qa} (h:B.length - 1<B.length):s.Kind=1->Qj B s.Name=none->Rr p U d B s t (B.set (B.length - 1) (dd B[B.length - 1] s.Name t))
 | sset {B:se} {s:Pa} {t:Qa}:s.Kind=2->Qj B s.Name=some t->Rr p U d B s (He t) B
 | yq {B a b:se} {s:Pa}:s.Kind=3->hk p d (B++[[]]) s.Body a->hk p d (B++[[]]) s.kf b->Rr p U d B s ⟨2,[]⟩ B
 | oq {B:se} {s:Pa}:s.Kind=5->d.Kind=2->Rr p U d B s (He d.Cb) B
 | jq {B:se} {s:Pa} {f:va}:s.Kind=7->U.s s.Name->Sa p.named s.Name=some f->f.Kind=1->Rr p U d B s (He f.Cb) B
 | xp {B:se} {s:Pa} {t:Qa}:s.Kind=8->t.Kind≠3->Rr p U d B s t B
 | zq {B:se} {s:Pa} {t:Qa}:s.Kind=9->Rr p U d B s t B
def Wt (p:qb) (C:bg) (na:List Qa) (vs:List Int):Prop:=∀ (i:Nat) (t:Qa) (v:Int),na[i]?=some t->vs[i]?=some v->ti p C t v
theorem Wt.up {p:qb}{C Fg:bg}(l:C.le Fg){na:List Qa}{vs:List Int}(h:Wt p C na vs):Wt p Fg na vs:=λi t v a b=>(h i t v a b).up l
mutual
def ml (p:qb) (U:Ug) (C:bg) (g:Nat):Ze->Qa->Prop
 | .all l s Jd k,t=>∃ d B na,Dp C g d/\Env C s B/\Lw p U d B l na (Jd.length+1)/\Wt p C na Jd/\na[Jd.length]?=some t/\hv p U C g k na
 | .stat l s e k,t=>∃ d B a b x r,l=x::r/\Dp C g d/\Env C s B/\Rr p U d B x t a/\hk p d a r b/\vj U l/\Ep p U C g e d/\gk p U C g k
 | .qf x s e k,t=>t=⟨2,[]⟩/\∃ d B a,Dp C g d/\Env C s B/\x.Kind=4/\Ve p d B x.X ⟨2,[]⟩/\hk p d (B++[[]]) x.Body a/\vj U [x]/\Ep p U C g e d/\gk p U C g k
def hv (p:qb) (U:Ug) (C:bg) (g:Nat):Zk->List Qa->Prop
 | .ex x k,na=>∃ d t,Dp C g d/\bo p U d x na t/\ml p U C g k t
def gk (p:qb) (U:Ug) (C:bg) (g:Nat):fe->Prop
 | .zero k=>∃ t,t.Kind≠3/\ml p U C g k t
 | .recv n k=>∃ f,U.r n/\Sa p.named n=some f/\f.Kind=1/\ml p U C g k (He f.Cb)
 | .send n v k=>∃ f,U.s n/\Sa p.named n=some f/\f.Kind=1/\ti p C (He f.Cb) v/\gk p U C g k
 | .done b=>b=g/\1<=g
 | .stats l s e k=>∃ d B a,Dp C g d/\Env C s B/\hk p d B l a/\vj U l/\Ep p U C g e d/\gk p U C g k
 | .qf x s e k=>∃ d B c,Dp C g d/\Env C s B/\x.Kind=4/\Ve p d B x.X ⟨2,[]⟩/\hk p d (B++[[]]) x.Body c/\vj U [x]/\Ep p U C g e d/\gk p U C g k
 | .fin=>g=0
 | .Yi d=>g=0/\d.Kind=4/\vj U d.Body/\∃ a,hk p d ([[]]++[[]]) d.Body a
def Ep (p:qb) (U:Ug) (C:bg) (g:Nat):hh->va->Prop
 | .ret k,d=>d.Kind=2/\ml p U C g k (He d.Cb)
 | .stop k,d=>d.Kind≠2/\gk p U C g k
end
section
variable {p:qb}{U:Ug}{C Fg:bg}(l:C.le Fg){g:Nat}
include l
mutual
theorem ml.up:∀ {k:Ze}{t:Qa},ml p U C g k t->ml p U Fg g k t
 | .all ..,_,⟨d,B,na,a,b,c,e,f,h⟩=>⟨d,B,na,a.up l,b.up l,c,e.up l,f,hv.up h⟩
 | .stat ..,_,⟨d,B,i,n,x,r,a,b,c,e,f,h,j,m⟩=>⟨d,B,i,n,x,r,a,b.up l,c.up l,e,f,h,Ep.up j,gk.up m⟩
 | .qf ..,_,⟨o,d,B,i,a,b,c,e,f,h,j,m⟩=>⟨o,d,B,i,a.up l,b.up l,c,e,f,h,Ep.up j,gk.up m⟩
theorem hv.up:∀ {k:Zk}{na:List Qa},hv p U C g k na->hv p U Fg g k na
 | .ex ..,_,⟨d,t,a,b,c⟩=>⟨d,t,a.up l,b,ml.up c⟩
theorem gk.up:∀ {k:fe},gk p U C g k->gk p U Fg g k
 | .zero ..,⟨t,a,b⟩=>⟨t,a,ml.up b⟩
 | .recv ..,⟨f,i,a,b,c⟩=>⟨f,i,a,b,ml.up c⟩
 | .send ..,⟨f,i,a,b,c,e⟩=>⟨f,i,a,b,c.up l,gk.up e⟩
 | .done ..,h=>h
 | .stats ..,⟨d,B,n,a,b,c,e,j,m⟩=>⟨d,B,n,a.up l,b.up l,c,e,Ep.up j,gk.up m⟩
 | .qf ..,⟨d,B,o,a,b,c,e,j,m,q,r⟩=>⟨d,B,o,a.up l,b.up l,c,e,j,m,Ep.up q,gk.up r⟩
 | .fin,h=>h
 | .Yi ..,h=>h
theorem Ep.up:∀ {e:hh}{d:va},Ep p U C g e d->Ep p U Fg g e d
 | .ret ..,_,⟨a,b⟩=>⟨a,ml.up b⟩
 | .stop ..,_,⟨a,b⟩=>⟨a,gk.up b⟩
end
end
structure Mw (p:qb) (U:Ug) (C:bg) (g:Nat) (c:Ng):Prop where
 d:C.Gd[g]?=some c.Im
 hd:1<=g->c.Im.Kind=3/\∃ n,Sa p.named n=some c.Im/\U.c n
 fresh:1<=g->c.begun=false->c.going=false/\c.ended=false/\Env C c.args [Kt c.Im]
 held:1<=g->c.begun=true->c.going=false->c.ended=false->∃ k,c.vk=some k/\ml p U C g k (He c.Im.cd)
 go:1<=g->c.going=true->c.begun=true/\c.ended=false/\∃ u b,c.up=some u/\c.back=some b/\ml p U C u b (He c.Im.Cb)
 zero:g=0->c.going=false/\c.ended=false
theorem Mw.le {p:qb}{U:Ug}{C Fg:bg}(l:C.le Fg){g:Nat}{c:Ng}(h:Mw p U C g c):Mw p U Fg g c :=
 ⟨l.Gd _ _ h.d,h.hd,λa b=>⟨(h.fresh a b).1,(h.fresh a b).2.1,(h.fresh a b).2.2.up l⟩,λa b e f=>by
  obtain ⟨k,k1,i⟩:=h.held a b e f;exact ⟨k,k1,i.up l⟩,λa b=>by
  obtain ⟨j,m,u,Rc,n,o,q⟩:=h.go a b;exact ⟨j,m,u,Rc,n,o,q.up l⟩,h.zero⟩
inductive tn (Db:List Ng):Nat->List Nat->Prop
 | main:tn Db 0 []
 | up {g u:Nat} {c:Ng} {L:List Nat}:1<=g->Db[g]?=some c->c.going=true->c.up=some u->tn Db u L->tn Db g (g::L)
theorem tn.set {Db:List Ng}{g j:Nat}{L:List Nat}{c:Ng}(h:tn Db g L) (a:j ∉ L):tn (Db.set j c) g L:=by
 induction h with
 | main=>exact .main
 | @up g u c' L b d e f _ i =>
  simp only [List.mem_cons,not_or] at a;exact .up b (by rw [List.getElem?_set_ne a.1];exact d) e f<|i a.2
theorem tn.app {Db m:List Ng}{g:Nat}{L:List Nat}(h:tn Db g L):tn (Db++m) g L:=by
 induction h with
 | main=>exact .main
 | up a b c d _ e=>exact .up a (oo b) c d e
theorem tn.going {Db:List Ng}{g:Nat}{L:List Nat}(h:tn Db g L):∀ j ∈ L,∃ c,Db[j]?=some c/\c.going=true:=by
 induction h with
 | main=>intro j a; cases a
 | up f b d i _ e =>
  intro j a;rcases List.mem_cons.1 a with rfl | a
  ·exact ⟨_,b,d⟩
  ·exact e j a
structure Rj (p:qb) (U:Ug) (C:bg) (L:List Nat) (z:Core):Prop where
 Tc:nm p C z.de
 Jr:z.Db.length=C.Gd.length
 Gd:∀ (g:Nat) (c:Ng),z.Db[g]?=some c->Mw p U C g c
 pos:1<=z.Db.length
 le:z.Db.length<=31
 iv:tn z.Db z.now L
 nd:L.Nodup
 all:∀ (g:Nat) (c:Ng),z.Db[g]?=some c->c.going=true->g ∈ L
 t0:∀ d,C.Gd[0]?=some d->d.Kind≠3
def Bj (p:qb) (U:Ug) (C:bg) (g:Nat):ah->Prop
 | .expr x s k=>∃ d B t,Dp C g d/\Env C s B/\Ve p d B x t/\om U x/\ml p U C g k t
 | .all l s Jd k=>∃ d B na,Dp C g d/\Env C s B/\Lw p U d B l na Jd.length/\Wt p C na Jd/\Jd.length<=l.length/\hv p U C g k na
 | .stats l s e k=>gk p U C g (.stats l s e k)
 | .qf x s e k=>gk p U C g (.qf x s e k)
 | .ff k v=>∃ t,ml p U C g k t/\ti p C t v
 | .Jd k l=>∃ na,hv p U C g k na/\Wt p C na l/\l.length=na.length
 | .sd k=>gk p U C g k
 | .recv n k=>gk p U C g (.recv n k)
 | .send n v k=>gk p U C g (.send n v k)
 | .resume a v k=>∃ f,1<=a/\C.Gd[a]?=some f/\ti p C (He f.cd) v/\ml p U C g k (He f.Cb)
structure vn (p:qb) (U:Ug) (E:Sd):Prop where
 Ca:∀ n f,Sa p.named n=some f->vo p f
 Eh:∀ n f,U.c n->Sa p.named n=some f->f.Kind≠1->vj U f.Body
 ty:∀ n f,Sa p.named n=some f->f.Kind≠1->∃ a,hk p f ([if f.Kind=4 then [] else Kt f]++[[]]) f.Body a
 Lq:∀ n,Sa E.defs n=Sa p.named n
 Wf:∀ n f,Sa p.named n=some f->f.Kind=1->∃ i:Nat,Sa E.order n=some (i:Int)
end
section
open Go.Bc Go.Re
mutual
def Zh:Ze->Nat
 | .all _ _ _ k=>14+yl k
 | .stat _ _ e k=>24+max (Fp e) (Ki k)
 | .qf _ _ e k=>22+max (Fp e) (Ki k)
def yl:Zk->Nat
 | .ex _ k=>8+Zh k
def Ki:fe->Nat
 | .zero k=>2+Zh k
 | .recv _ k=>2+Zh k
 | .send _ _ k=>2+Ki k
 | .done _=>2
 | .stats _ _ e k=>5+max (Fp e) (Ki k)
 | .qf _ _ e k=>12+max (Fp e) (Ki k)
 | .fin=>1
 | .Yi _=>6
def Fp:hh->Nat
 | .ret k=>Zh k
 | .stop k=>Ki k
end
def tf:ah->Nat
 | .expr _ _ k=>Zh k - 12
 | .all _ _ _ k=>3+yl k
 | .stats _ _ e k=>4+max (Fp e) (Ki k)
 | .qf _ _ e k=>11+max (Fp e) (Ki k)
 | .ff k _=>Zh k
 | .Jd k _=>yl k
 | .sd k=>Ki k
 | .recv _ k=>2+Zh k
 | .send _ _ k=>2+Ki k
 | .resume _ _ k=>7+Zh k
theorem wK (k:Ze):14<=Zh k:=by cases k<;>rw [Zh]<;>omega
def zl:xl->Nat
 | .run c=>tf c
 | _=>0
def Sj (c:Ng):Nat:=if c.going=true then (c.back.map Zh).getD 0 else if c.begun=true/\c.ended=false then (c.vk.map Zh).getD 0 else 0
def Li (z:Core) (q:xl):Nat:=zl q+(z.Db.map Sj).sum
theorem Vs {α:Type}(f:α->Nat):∀ {l:List α}{i:Nat}{a b:α},l[i]?=some a->((l.set i b).map f).sum+f a=(l.map f).sum+f b
 | [],i,a,b,h=>by simp at h
 | x::l,0,a,b,h=>by simp at h; subst h; simp; omega
 | x::l,i+1,a,b,h=>by
  have:=Vs f (l:=l) (i:=i) (a:=a) (b:=b) (by simpa using h);simp only [List.set_cons_succ,List.map_cons,List.sum_cons];omega
def eo (p:qb) (U:Ug) (E:Sd) (C:bg) (z:Core) (c:ah):Prop :=
 ∃ n a q Fg b,Pe E c z n a q/\C.le Fg/\(∀ c',q=.run c'->Rj p U Fg b a/\Bj p U Fg a.now c')/\Li a q+1<=Li z (.run c)+30*n/\n<=1/\a.out.length<=z.out.length+1
section
variable {p:qb}{U:Ug}{E:Sd}{C:bg}{L:List Nat}{z:Core}{c c':ah}{n:Nat}
theorem eo.same (h:Rj p U C L z) (t:Pe E c z n z (.run c')) (a:Bj p U C z.now c') (d:tf c'+1<=tf c+30*n) (b:n<=1):eo p U E C z c :=
 ⟨n,z,_,C,L,t,.r,λf e=>by cases e;exact ⟨h,a⟩,(by unfold Li;simp only [zl];omega),b,by omega⟩
theorem eo.ye {k:Int}(t:Pe E c z 0 z (.ye k)) (a:1<=tf c):eo p U E C z c :=
 ⟨0,z,_,C,[],t,.r,λb e=>(by cases e),(by unfold Li;simp only [zl];omega),by omega,by omega⟩
theorem om.kids {x:Na}(h:om U x):∀ y ∈ x.Kids,om U y:=by
 obtain ⟨⟨k,h⟩,u⟩:=h;cases u with
 | mk _ _ u =>
 cases k with
 | zero=>exact h.elim
 | succ k=>exact λy a=>⟨⟨k,h.2.2.2.2.2.2 y a⟩,u y a⟩
theorem om.bool {x:Na}(h:om U x) (a:x.Kind=2):x.N=0\/x.N=1:=by
 obtain ⟨⟨k,h⟩,u⟩:=h;cases k with
 | zero=>exact h.elim
 | succ k=>exact h.2.2.2.2.1 a
theorem om.Pr {x:Na}(h:om U x) (k:x.Kind=19\/x.Kind=22):U.c x.Name:=by
 cases h.2 with
 | mk a _ _=>exact a k
theorem om.OW {x:Na}(h:om U x) (k:x.Kind=20):U.r x.Name:=by
 cases h.2 with
 | mk _ a _=>exact a k
theorem vj.us {x:Pa}{l:List Pa}(h:vj U (x::l)) (k:x.Kind=7):U.s x.Name:=by
 cases h.2 x (by simp) with
 | mk a _ _ _=>exact a k
theorem vj.x {x:Pa}{l:List Pa}(h:vj U (x::l)) (b:x.Kind≠6):om U x.X:=by
 obtain ⟨⟨k,h⟩,u⟩:=h;have:=h x (by simp);cases u x (by simp) with
 | mk _ a _ _ =>
 cases k with
 | zero=>exact this.elim
 | succ k=>exact ⟨⟨k,this.2.2.1 b⟩,a b⟩
theorem vj.hf {x:Pa}{l:List Pa}(h:vj U (x::l)):vj U l:=by
 obtain ⟨⟨k,h⟩,u⟩:=h;exact ⟨⟨k,λy a=>h y (by simp [a])⟩,λy a=>u y (by simp [a])⟩
theorem vj.Ca {x:Pa}{l:List Pa}(h:vj U (x::l)):vj U [x]:=by
 obtain ⟨⟨k,h⟩,u⟩:=h;exact ⟨⟨k,λy a=>h y (by simp at a;simp [a])⟩,λy a=>u y (by simp at a;simp [a])⟩
theorem vj.body {x:Pa}{l:List Pa}(h:vj U (x::l)) (b:x.Kind=3\/x.Kind=4):vj U x.Body:=by
 obtain ⟨⟨k,h⟩,u⟩:=h;have:=h x (by simp);cases u x (by simp) with
 | mk _ _ a _ =>
 cases k with
 | zero=>exact this.elim
 | succ k=>exact ⟨⟨k,(this.2.2.2.2.1 b).2⟩,a b⟩
theorem vj.SG {x:Pa}{l:List Pa}(h:vj U (x::l)) (b:x.Kind=3):vj U x.kf:=by
 obtain ⟨⟨k,h⟩,u⟩:=h;have:=h x (by simp);cases u x (by simp) with
 | mk _ _ _ a =>
 cases k with
 | zero=>exact this.elim
 | succ k=>exact ⟨⟨k,(this.2.2.2.2.2 b).2⟩,a b⟩
theorem QB {d:va}{B:se}{x a:Na}{t:Qa}(e:om U x) (h:x.Kids=[a]) (f:Ve p d B a t):Lw p U d B x.Kids [t] 0:=by
 rw [h];refine ⟨rfl,by simp,λi y cb _ b c=>?_⟩
 match i,b,c with
 | 0,b,c=>simp at b c; subst b c; exact ⟨f,e.kids _ (by rw [h]; simp)⟩
 | i+1,b,_=>simp at b
theorem My {d:va}{B:se}{x a b:Na}{t cb:Qa}(f:om U x) (h:x.Kids=[a,b]) (g:Ve p d B a t) (Ea:Ve p d B b cb):Lw p U d B x.Kids [t,cb] 0:=by
 rw [h];refine ⟨rfl,by simp,λi y cb _ c e=>?_⟩
 match i,c,e with
 | 0,c,e=>simp at c e; subst c e; exact ⟨g,f.kids _ (by rw [h]; simp)⟩
 | 1,c,e=>simp at c e; subst c e; exact ⟨Ea,f.kids _ (by rw [h]; simp)⟩
 | i+2,c,_=>simp at c
theorem vL {d f:va}{B:se}{x:Na}(c:om U x) (la:x.Kids.length=f.Params.length) (g:f.Params.length<=6) (h:∀ (i:Nat) (y:Na) (q:TParam),x.Kids[i]?=some y->f.Params[i]?=some q->Ve p d B y (He q.Cb)):Lw p U d B x.Kids (f.Params.map λq=>He q.Cb) 0:=by
 refine ⟨by simpa using la,by omega,λi y t _ a b=>?_⟩;rw [List.getElem?_map] at b;obtain ⟨q,e,rfl⟩:=Option.map_eq_some_iff.1 b;exact ⟨h i y q a e,c.kids _<|List.mem_of_getElem? a⟩
theorem hS (P:vn p U E){d:va}{B:se}{x:Na}{t:Qa}(h:Ve p d B x t) (c:om U x) (g:x.Kind≠1) (i:x.Kind≠2) (j:x.Kind≠3) (l:x.Kind≠20):∃ na,bo p U d x na t/\Lw p U d B x.Kids na 0:=by
 cases h with
 | num h=>exact absurd h g
 | bool h=>exact absurd h i
 | var h _=>exact absurd h j
 | recv h _ _=>exact absurd h l
 | neg k e a=>exact ⟨_,.neg k,QB c e a⟩
 | not k e a=>exact ⟨_,.not k,QB c e a⟩
 | cz k e a b=>exact ⟨_,.cz k,My c e a b⟩
 | eq k e a b pl=>exact ⟨_,.eq k pl,My c e a b⟩
 | lt k e a b=>exact ⟨_,.lt k,My c e a b⟩
 | jk k e a b=>exact ⟨_,.jk k,My c e a b⟩
 | call k hc hd len f=>exact ⟨_,.call k (c.Pr (.inl k)) hc hd,vL c len ((P.Ca _ _ hc).pl (.inl hd)) f⟩
 | xq k hd e a=>exact ⟨_,.xq k hd,QB c e a⟩
 | start k hc hd len f=>exact ⟨_,.start k (c.Pr (.inr k)) hc hd,vL c len ((P.Ca _ _ hc).pl (.inr hd)) f⟩
 | resume k e a hc hd b=>exact ⟨_,.resume k hc hd,My c e a b⟩
 | alive k e a hc hd=>exact ⟨_,.alive k hc hd,QB c e a⟩
theorem NV {d:va}{B c:se}{x:Pa}{l:List Pa}(Eh:vj U (x::l)) (h:Vm p d B x c) (f:x.Kind≠4) (g:x.Kind≠6):∃ t,Ve p d B x.X t/\Rr p U d B x t c:=by
 cases h with
 | Eo i k e n=>exact ⟨_,e,.Eo i k n⟩
 | sset k n e=>exact ⟨_,e,.sset k n⟩
 | yq k e a b=>exact ⟨_,e,.yq k a b⟩
 | OG k _ _=>exact absurd k f
 | oq k hd e=>exact ⟨_,e,.oq k hd⟩
 | jG k _=>exact absurd k g
 | jq k n hd e=>exact ⟨_,e,.jq k (Eh.us k) n hd⟩
 | xp k e pl=>exact ⟨_,e,.xp k pl⟩
 | zq k e=>exact ⟨_,e,.zq k⟩
theorem dP (P:vn p U E) (h:Rj p U C L z){x:Na}{s:Option Nat}{k:Ze}(l:Bj p U C z.now (.expr x s k)):eo p U E C z (.expr x s k):=by
 obtain ⟨d,B,t,j,he,ty,Eh,a⟩:=l;have q:=wK k;by_cases f:x.Kind=1
 ·cases ty with
  | num _=>exact .same h (.Vy (.inl f)) ⟨_,a,.num⟩ (by simp only [tf]; omega) (by omega)
  | _=>omega
 by_cases b:x.Kind=2
 ·cases ty with
  | bool _=>exact .same h (.Vy (.inr b)) ⟨_,a,.bool (Eh.bool b)⟩ (by simp only [tf]; omega) (by omega)
  | _=>omega
 by_cases g:x.Kind=3
 ·cases ty with
  | var _ m =>
   obtain ⟨i,n⟩:=he.at_ _ _ m;obtain ⟨c,f1,f2,f3,f4,o⟩:=n.found h.Tc;exact .same h (.var g f1 f2) ⟨_,a,o⟩ (by simp only [tf];omega) (by omega)
  | _=>omega
 by_cases e:x.Kind=20
 ·cases ty with
  | recv _ hc hd=>exact .same h (.mC e) ⟨_,Eh.OW e,hc,hd,a⟩ (by simp only [tf]; omega) (by omega)
  | _=>omega
 obtain ⟨na,je,kk⟩:=hS P ty Eh f b g e;exact .same h (.nC f b g e) ⟨d,B,na,j,he,kk,λi t v _ Oa=>by simp at Oa,by simp,d,t,j,je,a⟩ (by simp only [tf,yl];omega) (by omega)
theorem mQ (h:Rj p U C L z){l:List Na}{s:Option Nat}{Jd:List Int}{k:Zk}(m:Bj p U C z.now (.all l s Jd k)):eo p U E C z (.all l s Jd k):=by
 obtain ⟨d,B,na,a,he,kk,b,la,c⟩:=m;by_cases e:l.length=Jd.length
 ·exact .same h (.LB e) ⟨na,c,b,by rw [<- kk.len,e]⟩ (by simp only [tf];omega) (by omega)
 ·have f:Jd.length<l.length:=by omega
  have g:l[Jd.length]?=some l[Jd.length]:=List.getElem?_eq_getElem f;have n:Jd.length<na.length:=by rw [<- kk.len];exact f
  have j:na[Jd.length]?=some na[Jd.length]:=List.getElem?_eq_getElem n;obtain ⟨ty,Eh⟩:=kk.at_ _ _ _ (Nat.le_refl _) g j;refine .same h (.KB e g) ⟨d,B,_,a,he,ty,Eh,d,B,na,a,he,⟨kk.len,kk.le,λi y t o=>kk.at_ i y t (by omega)⟩,b,j,c⟩ (by simp only [tf,Zh];omega) (by omega)
theorem UN (h:Rj p U C L z){l:List Pa}{s:Option Nat}{e:hh}{k:fe}(m:Bj p U C z.now (.stats l s e k)):eo p U E C z (.stats l s e k):=by
 obtain ⟨d,B,j,a,b,hf,Eh,hex,g⟩:=m;cases hf with
 | nil=>exact .same h .nil g (by simp only [tf]; omega) (by omega)
 | @cons _ n _ x l ty hf =>
  by_cases c:x.Kind=6
  ·cases ty with
   | jG _ hd =>
    cases e with
    | ret q=>exact absurd hex.1 hd
    | stop q=>exact .same h (.stop c) hex.2 (by simp only [tf,Fp]; omega) (by omega)
   | _=>omega
  by_cases f:x.Kind=4
  ·cases ty with
   | OG _ i Ea=>exact .same h (.yC f) ⟨d,B,_,a,b,f,i,Ea,Eh.Ca,hex,d,B,j,a,b,hf,Eh.hf,hex,g⟩ (by simp only [tf,Ki]; omega) (by omega)
   | _=>omega
  obtain ⟨t,i,o⟩:=NV Eh ty f c;exact .same h (.st c f) ⟨d,B,t,a,b,i,Eh.x c,d,B,n,j,x,l,rfl,a,b,o,hf,Eh,hex,g⟩ (by simp only [tf,Zh];omega) (by omega)
theorem nQ (h:Rj p U C L z){x:Pa}{s:Option Nat}{e:hh}{k:fe}(f:Bj p U C z.now (.qf x s e k)):eo p U E C z (.qf x s e k):=by
 obtain ⟨d,B,g,a,b,i,c,Ea,Eh,hex,j⟩:=f;exact .same h .qf ⟨d,B,_,a,b,c,Eh.x (by omega),rfl,d,B,g,a,b,i,c,Ea,Eh,hex,j⟩ (by simp only [tf,Zh];omega) (by omega)
end
end
section
open Go.Bc Go.Re
theorem nm.snoc {p:qb}{C:bg}{S:List fi}(h:nm p C S){n:Je}{s:Option Nat}{t:Qa}{v:Int}(b:∀ j,s=some j->j<C.vf.length) (Oa:ti p C t v):nm p ⟨C.Gd,C.vf++[(n,s,t)]⟩ (S++[⟨n,v,s⟩]):=by
 have l:C.le ⟨C.Gd,C.vf++[(n,s,t)]⟩:=⟨λ_ _ h=>h,λ_ _ h=>oo h⟩;refine ⟨by simp [h.len],λi c a=>?_⟩;by_cases d:i<S.length
 ·rw [List.getElem?_append_left d] at a;obtain ⟨cb,f,g,k⟩:=h.at_ i c a;exact ⟨cb,l.vf _ _ f,g,k.up l⟩
 ·rw [List.getElem?_append_right (by omega)] at a;have m:i=S.length:=by
   have:=(List.getElem?_eq_some_iff.1 a).1;simp at this;omega
  subst m;simp at a;subst a;exact ⟨t,by simp [h.len],λj e=>by rw [h.len];exact b j e,Oa.up l⟩
theorem nm.set {p:qb}{C:bg}{S:List fi}(h:nm p C S){i:Nat}{c:fi}(b:S[i]?=some c){t:Qa}(d:C.vf[i]?=some (c.name,c.up,t)){v:Int}(Oa:ti p C t v):nm p C (S.set i { c with v:=v }):=by
 refine ⟨by simp [h.len],λj c' a=>?_⟩;by_cases e:i=j
 ·subst e;rw [bn b] at a;cases a;obtain ⟨cb,f,g,-⟩:=h.at_ _ _ b;rw [d] at f;cases f;exact ⟨t,d,g,Oa⟩
 ·rw [Kg e] at a;exact h.at_ _ _ a
theorem DE (B:se) (b:List (Nm×Qa)) (n:Nm):Qj (B++[b]) n=match Sa b n with | some t=>some t | none=>Qj B n:=by
 unfold Qj;rw [List.reverse_append,List.reverse_singleton,List.singleton_append,List.findSome?_cons];cases Sa b n<;>rfl
theorem iS {B:se}(h:B.length - 1<B.length) (n m:Nm) (t:Qa):Qj (B.set (B.length - 1) (dd B[B.length - 1] n t)) m=if n=m then some t else Qj B m:=by
 rcases List.eq_nil_or_concat B with rfl | ⟨a,b,rfl⟩
 ·simp at h
 have sa:((a.concat b)[(a.concat b).length - 1])=b:=by simp [List.concat_eq_append]
 have c:(a.concat b).set ((a.concat b).length - 1) (dd b n t)=a++[dd b n t]:=by
  rw [List.concat_eq_append,List.length_append,List.length_singleton,Nat.add_sub_cancel,List.set_append_right _ _ (Nat.le_refl _),Nat.sub_self];rfl
 rw [sa,c,List.concat_eq_append,DE,DE,sk];by_cases e:n=m
 ·rw [if_pos e,if_pos e]
 ·rw [if_neg e,if_neg e]
theorem Env.Eo {C:bg}{s:Option Nat}{B:se}{n:Je}{t:Qa}(h:B.length - 1<B.length) (b:Env C s B):Env ⟨C.Gd,C.vf++[(n,s,t)]⟩ (some C.vf.length) (B.set (B.length - 1) (dd B[B.length - 1] n t)):=by
 refine ⟨λj e=>(by cases e;simp),λm cb e=>?_⟩;rw [iS] at e;have a:(C.vf++[(n,s,t)])[C.vf.length]?=some (n,s,t):=by simp
 by_cases c:n=m
 ·rw [if_pos c] at e;cases e;subst c;exact ⟨_,.here a⟩
 ·rw [if_neg c] at e;obtain ⟨i,d⟩:=b.at_ _ _ e;exact ⟨i,.up a c<|d.mono λ_ _ h=>oo h⟩
theorem cJ {p:qb}:∀ (zg:List TParam) (vs:List Int) (C:bg) (S:List fi) (s:Option Nat) (m:List (Nm×Qa)),nm p C S->vs.length=zg.length ->
  Wt p C (zg.map λq=>He q.Cb) vs->(∀ n t,Sa m n=some t->∃ i,Wm C.vf n s i t)->(∀ j,s=some j->j<C.vf.length) ->
  ∃ d Ib b,Kj zg vs S s=some (d,Ib)/\nm p ⟨C.Gd,C.vf++b⟩ d/\(∀ n t,Sa (zg.foldl (λm q=>dd m q.Name (He q.Cb)) m) n=some t->∃ i,Wm (C.vf++b) n Ib i t)/\∀ j,Ib=some j->j<(C.vf++b).length
 | [],vs,C,S,s,m,a,la,Oa,f,g=>⟨S,s,[],by rw [Kj],by simpa using a,by simpa using f,by simpa using g⟩
 | q::zg,[],C,S,s,m,a,la,Oa,f,g=>by simp at la
 | q::zg,v::vs,C,S,s,m,a,la,Oa,f,g=>by
  have l:C.le ⟨C.Gd,C.vf++[(q.Name,s,He q.Cb)]⟩:=⟨λ_ _ h=>h,λ_ _ h=>oo h⟩;have r:(C.vf++[(q.Name,s,He q.Cb)])[C.vf.length]?=some (q.Name,s,He q.Cb):=by simp
  obtain ⟨d,Ib,b,k,o,u,x⟩:=cJ zg vs ⟨C.Gd,C.vf++[(q.Name,s,He q.Cb)]⟩ (S++[⟨q.Name,v,s⟩]) (some S.length) (dd m q.Name (He q.Cb)) (a.snoc g (Oa 0 _ v rfl rfl)) (by simpa using la) (λi t w k o=>(Oa (i+1) t w (by simpa using k) (by simpa using o)).up l) (λn t e=>by
   rw [sk] at e;rw [a.len];by_cases c:q.Name=n
   ·rw [if_pos c] at e;cases e;subst c;exact ⟨_,.here r⟩
   ·rw [if_neg c] at e;obtain ⟨i,y⟩:=f n t e;exact ⟨i,.up r c (y.mono λ_ _ h=>oo h)⟩) (λj e=>by cases e;simp [a.len])
  refine ⟨d,Ib,(q.Name,s,He q.Cb)::b,by rw [Kj];exact k,by simpa using o,by simpa using u,by simpa using x⟩
theorem jS (m:List (Nm×Qa)) (n:Nm):Qj [m] n=Sa m n:=by
 have:=DE [] m n;rw [List.nil_append] at this;rw [this];cases Sa m n<;>rfl
theorem FI {p:qb}{C:bg}{S:List fi}{d:va}{vs:List Int}(c:nm p C S) (la:vs.length=d.Params.length) (Oa:Wt p C (d.Params.map λq=>He q.Cb) vs) :
  ∃ a Ib b,Kj d.Params vs S none=some (a,Ib)/\nm p ⟨C.Gd,C.vf++b⟩ a/\Env ⟨C.Gd,C.vf++b⟩ Ib [Kt d]:=by
 obtain ⟨a,Ib,b,f,g,h,i⟩:=cJ d.Params vs C S none [] c la Oa (λn t e=>by cases e) (λj e=>by cases e);exact ⟨a,Ib,b,f,g,i,λn t e=>h n t (by rwa [jS] at e)⟩
section
variable {p:qb}{U:Ug}{E:Sd}{C:bg}{L:List Nat}{z:Core}{c c':ah}{n:Nat}
def Hp (z:Core) (c:ah):Prop:=∀ (x:Pa) (l:List Pa) (s:Option Nat) (e:hh) (k:fe) (v:Int),c=.ff (.stat (x::l) s e k) v->x.Kind=8->z.out.length<4294967296
theorem Rj.de {Fg:bg}(h:Rj p U C L z) (l:C.le Fg) (e:Fg.Gd=C.Gd){S:List fi}(a:nm p Fg S){o:List Int}:Rj p U Fg L { z with de:=S,out:=o }:=
 ⟨a,by rw [e];exact h.Jr,λg c b=>(h.Gd g c b).le l,h.pos,h.le,h.iv,h.nd,h.all,by rw [e];exact h.t0⟩
theorem oQ (P:vn p U E) (h:Rj p U C L z){k:Ze}{v:Int}(K:Hp z (.ff k v)) (M:Bj p U C z.now (.ff k v)):eo p U E C z (.ff k v):=by
 obtain ⟨t,a,Oa⟩:=M;cases k with
 | all l s Jd k =>
  obtain ⟨d,B,na,f,b,kk,N,y,a⟩:=a;have O:=(List.getElem?_eq_some_iff.1 y).1;rw [<- kk.len] at O;have:=kk.le;refine .same h (.MB<|if_pos (by simp;omega)) ⟨d,B,na,f,b,by simpa using kk,λi cb Q o g=>?_,by simp;omega,a⟩ (by simp only [tf,Zh];omega) (by omega);by_cases R:i<Jd.length
  ·rw [List.getElem?_append_left R] at g;exact N i cb Q o g
  ·rw [List.getElem?_append_right (by omega)] at g;have S:i=Jd.length:=by have:=(List.getElem?_eq_some_iff.1 g).1;simp at this;omega
   subst S;simp at g;subst g;rw [y] at o;cases o;exact Oa
 | qf x s e k =>
  obtain ⟨rfl,d,B,u,f,b,A,T,Ea,Eh,hex,a⟩:=a;by_cases m:v=0
  ·exact .same h (.NB m) a (by simp only [tf,Zh];omega) (by omega)
  ·exact .same h (.win m) ⟨d,_,u,f,b.ea,Ea,Eh.body<|.inr A,hex,d,B,u,f,b,A,T,Ea,Eh,hex,a⟩ (by simp only [tf,Zh,Ki];omega) (by omega)
 | stat l s e k =>
  obtain ⟨d,B,u,j,x,r,rfl,f,b,V,hf,Eh,hex,a⟩:=a;cases V with
  | Eo W k1 D =>
   have l:C.le ⟨C.Gd,C.vf++[(x.Name,s,t)]⟩:=⟨λ_ _ h=>h,λ_ _ h=>oo h⟩;refine ⟨0,_,_,_,L,.Eo k1,l,λc' n=>?_,by unfold Li;simp only [zl,tf,Zh,Ki];omega,by omega,by simp⟩;cases n;refine ⟨h.de l rfl<|h.Tc.snoc b.ok Oa,d,_,j,f.up l,?_,hf,Eh.hf,hex.up l,a.up l⟩;rw [h.Tc.len];exact b.Eo W
  | sset X D =>
   obtain ⟨i,Y⟩:=b.at_ _ _ D;obtain ⟨c,f1,F,Z,bb,f5⟩:=Y.found h.Tc;refine ⟨0,_,_,C,L,.sset X f1 F,.r,λc' n=>?_,by unfold Li;simp only [zl,tf,Zh,Ki];omega,by omega,by simp⟩;cases n;exact ⟨h.de .r rfl<|h.Tc.set F (by rw [Z];exact bb)<|ti.bare.1 Oa,d,B,j,f,b,hf,Eh.hf,hex,a⟩
  | yq w Gb Ea =>
   have G:gk p U C z.now (.stats r s e k):=⟨d,B,j,f,b,hf,Eh.hf,hex,a⟩;refine .same h (.yq w) ?_ (by simp only [tf,Zh,Ki];omega) (by omega);by_cases m:v≠0
   ·rw [if_pos m];exact ⟨d,_,_,f,b.ea,Gb,Eh.body<|.inl w,hex,G⟩
   ·rw [if_neg m];exact ⟨d,_,_,f,b.ea,Ea,Eh.SG w,hex,G⟩
  | oq gc hd =>
   cases e with
   | ret q=>exact .same h (.oq gc) ⟨_,hex.2,Oa⟩ (by simp only [tf,Zh,Fp]; omega) (by omega)
   | stop q=>exact absurd hd hex.1
  | jq lc us hc hd=>exact .same h (.jq lc) ⟨_,us,hc,hd,Oa,d,B,j,f,b,hf,Eh.hf,hex,a⟩ (by simp only [tf,Zh,Ki]; omega) (by omega)
  | xp H pl =>
   refine ⟨0,_,_,C,L,.xp H (if_pos (by have:=K x r s e k v rfl H;simp;omega)),.r,λc' n=>?_,by unfold Li;simp only [zl,tf,Zh,Ki];omega,by omega,by simp⟩;cases n;exact ⟨h.de .r rfl h.Tc,d,B,j,f,b,hf,Eh.hf,hex,a⟩
  | zq rc=>exact .same h (.zq (by omega) (by omega) (by omega) (by omega) (by omega) (by omega)) ⟨d,B,j,f,b,hf,Eh.hf,hex,a⟩ (by simp only [tf,Zh,Ki]; omega) (by omega)
end
end
section
open Go.Bc Go.Re
section
variable {p:qb}{U:Ug}{E:Sd}{C:bg}{L:List Nat}{z:Core}{c c':ah}{n:Nat}
theorem RB {l:List Int}(h:l.length=1):∃ a,l=[a]:=by
 match l,h with
 | [a],_=>exact ⟨a,rfl⟩
theorem Ny {l:List Int}(h:l.length=2):∃ a b,l=[a,b]:=by
 match l,h with
 | [a,b],_=>exact ⟨a,b,rfl⟩
theorem aA {k a b:Int}(h:k=9\/k=10->b≠0):∃ v,Nn k a b=some v:=by
 unfold Nn;by_cases e:k=6
 ·exact ⟨_,if_pos e⟩
 rw [if_neg e];by_cases f:k=7
 ·exact ⟨_,if_pos f⟩
 rw [if_neg f];by_cases g:k=8
 ·exact ⟨_,if_pos g⟩
 rw [if_neg g];by_cases c:k=9
 ·rw [if_pos c];split
  ·exact ⟨_,rfl⟩
  ·exact ⟨_,by unfold quo;rw [if_neg (h (.inl c))]⟩
 rw [if_neg c];by_cases d:k=10
 ·rw [if_pos d];split
  ·exact ⟨_,rfl⟩
  ·exact ⟨_,by unfold Dt;rw [if_neg (h (.inr d))]⟩
 rw [if_neg d];repeat' split
 all_goals exact ⟨_,rfl⟩
theorem MH {k a b v:Int}(h:Nn k a b=some v) (i:11<=k/\k<=16):v=0\/v=1:=by
 have T:∀ b:Bool,ak b=0\/ak b=1:=λb=>by cases b<;>simp [ak]
 unfold Nn at h;rw [if_neg (by omega),if_neg (by omega),if_neg (by omega),if_neg (by omega),if_neg (by omega)] at h;by_cases c:k=11
 ·rw [if_pos c] at h;cases h;exact T _
 rw [if_neg c] at h;by_cases d:k=12
 ·rw [if_pos d] at h;cases h;exact T _
 rw [if_neg d] at h;by_cases e:k=13
 ·rw [if_pos e] at h;cases h;exact T _
 rw [if_neg e] at h;by_cases f:k=14
 ·rw [if_pos f] at h;cases h;exact T _
 rw [if_neg f] at h;by_cases g:k=15
 ·rw [if_pos g] at h;cases h;exact T _
 rw [if_neg g,if_pos (by omega)] at h;cases h;exact T _
theorem pQ {k a b v:Int}(h:Nn k a b=some v) (c:17<=k/\k<=18) (d:a=0\/a=1) (e:b=0\/b=1):v=0\/v=1:=by
 unfold Nn at h;rw [if_neg (by omega),if_neg (by omega),if_neg (by omega),if_neg (by omega),if_neg (by omega),if_neg (by omega),if_neg (by omega),if_neg (by omega),if_neg (by omega),if_neg (by omega),if_neg (by omega)] at h;split at h<;>cases h<;>omega
theorem Rj.YA (h:Rj p U C L z){g:Nat}{f:va}(a:C.Gd[g]?=some f):∃ c,z.Db[g]?=some c/\Mw p U C g c/\c.Im=f:=by
 have la:=(List.getElem?_eq_some_iff.1 a).1;rw [<- h.Jr] at la;have b:z.Db[g]?=some z.Db[g]:=List.getElem?_eq_getElem la;have e:=h.Gd _ _ b;exact ⟨_,b,e,by have:=e.d;rw [a] at this;exact (Option.some.inj this).symm⟩
theorem Rj.put (h:Rj p U C L z){g d:Nat}{c gb:Ng}{a:List Nat}(f:z.Db[g]?=some c) (i:Mw p U C g gb) (k:tn (z.Db.set g gb) d a) (l:a.Nodup) (m:∀ (j:Nat) (c:Ng),(z.Db.set g gb)[j]?=some c->c.going=true->j ∈ a):Rj p U C a { z with Db:=z.Db.set g gb,now:=d }:=
 ⟨h.Tc,by simp [h.Jr],λj n b=>by
  by_cases e:g=j
  ·subst e;rw [bn f] at b;cases b;exact i
  ·rw [Kg e] at b;exact h.Gd _ _ b,by simp [h.pos],by simp [h.le],k,l,m,h.t0⟩
theorem Rj.top (h:Rj p U C L z){f:va}(o:C.Gd[z.now]?=some f) (d:1<=z.now):∃ c u b a,z.Db[z.now]?=some c/\c.Im=f/\c.going=true/\c.begun=true/\c.up=some u/\c.back=some b/\ml p U C u b (He f.Cb)/\f.Kind=3/\(∃ n,Sa p.named n=some f/\U.c n)/\L=z.now::a/\tn z.Db u a/\z.now ∉ a/\a.Nodup:=by
 obtain ⟨c,g,e,rfl⟩:=h.YA o;have i:=h.iv;generalize v:z.now=w at i d g e;cases i with
 | main=>omega
 | @up _ u c' a k1 j k Xe q =>
  rw [g] at j;cases j;obtain ⟨r,x,y,b,l,s,t⟩:=e.go d k;rw [Xe] at l;cases l;have m:=List.nodup_cons.1 h.nd;exact ⟨c,u,b,a,by rw [g],rfl,k,r,Xe,s,t,(e.hd d).1,(e.hd d).2,rfl,q,m.1,m.2⟩
theorem qQ (P:vn p U E) (h:Rj p U C L z){k:Zk}{l:List Int}(m:Bj p U C z.now (.Jd k l)):eo p U E C z (.Jd k l):=by
 obtain ⟨na,n,o,la⟩:=m;cases k with
 | ex x k =>
 obtain ⟨d,t,D,je,n⟩:=n;cases je with
 | neg Xe =>
  obtain ⟨a,rfl⟩:=RB la;exact .same h (.neg Xe rfl) ⟨_,n,.num⟩ (by simp only [tf,yl];omega) (by omega)
 | not W =>
  obtain ⟨a,rfl⟩:=RB la;have F:=(o 0 _ a rfl rfl).1 rfl;exact .same h (.not W rfl) ⟨_,n,.bool (by rcases F with rfl | rfl<;>simp [fm,IntKind.wrap]<;>decide)⟩ (by simp only [tf,yl];omega) (by omega)
 | cz eu =>
  obtain ⟨a,b,rfl⟩:=Ny la;by_cases w:(x.Kind=9\/x.Kind=10)/\b=0
  ·obtain ⟨w,rfl⟩:=w;exact .ye (.OB w rfl) (by simp only [tf,yl];omega)
  ·obtain ⟨v,Oa⟩:=aA (k:=x.Kind) (a:=a) (b:=b) λq e=>w ⟨q,e⟩;exact .same h (.two (by omega) (λq e=>w ⟨q,e⟩) rfl rfl Oa) ⟨_,n,.num⟩ (by simp only [tf,yl];omega) (by omega)
 | eq G pl =>
  obtain ⟨a,b,rfl⟩:=Ny la;obtain ⟨v,Oa⟩:=aA (k:=x.Kind) (a:=a) (b:=b) (by omega);exact .same h (.two (by omega) (by omega) rfl rfl Oa) ⟨_,n,.bool<|MH Oa (by omega)⟩ (by simp only [tf,yl];omega) (by omega)
 | lt G =>
  obtain ⟨a,b,rfl⟩:=Ny la;obtain ⟨v,Oa⟩:=aA (k:=x.Kind) (a:=a) (b:=b) (by omega);exact .same h (.two (by omega) (by omega) rfl rfl Oa) ⟨_,n,.bool<|MH Oa (by omega)⟩ (by simp only [tf,yl];omega) (by omega)
 | jk G =>
  obtain ⟨a,b,rfl⟩:=Ny la;obtain ⟨v,Oa⟩:=aA (k:=x.Kind) (a:=a) (b:=b) (by omega);have F:=(o 0 _ a rfl rfl).1 rfl;have X:=(o 1 _ b rfl rfl).1 rfl;exact .same h (.two (by omega) (by omega) rfl rfl Oa) ⟨_,n,.bool<|pQ Oa G F X⟩ (by simp only [tf,yl];omega) (by omega)
 | @call f Y Pr hc hd =>
  obtain ⟨Z,Ib,b,g1,g2,H⟩:=FI h.Tc (d:=f) (by simpa using la) o;have l:C.le ⟨C.Gd,C.vf++b⟩:=⟨λ_ _ h=>h,λ_ _ h=>oo h⟩;obtain ⟨bb,hf⟩:=P.ty _ _ hc (by omega);rw [if_neg (by omega)] at hf;refine ⟨0,_,_,_,L,.call Y (by rw [P.Lq];exact hc) g1,l,λc' y=>?_,by unfold Li;simp only [zl,tf,yl,Fp,Ki];omega,by omega,by simp⟩;cases y;have N:=n.up l;exact ⟨h.de l rfl g2,f,_,bb,λof=>by omega,H.ea,hf,P.Eh _ _ Pr hc (by omega),⟨hd,N⟩,_,by rw [Dn];exact (P.Ca _ _ hc).ty (by omega),N⟩
 | xq Gb hd =>
  obtain ⟨a,rfl⟩:=RB la;have O:1<=z.now:=Nat.one_le_iff_ne_zero.2 λe=>h.t0 d (by rw [<- e];exact D hd) hd;obtain ⟨c,u,b,gc,s,rfl,Q,R,lc,S,rc,fd,id,rfl,tb,md,rd⟩:=h.top (D hd) O;refine ⟨0,_,_,C,gc,.xq Gb rfl s lc S,.r,λc' y=>?_,?_,by omega,by simp⟩
  ·cases y;refine ⟨h.put s ⟨D hd,λ_=>⟨fd,id⟩,λ_ e=>?_,λ_ _ _ _=>⟨k,rfl,n⟩,λ_ e=>?_,λe=>by omega⟩ (tb.set md) rd λj wd m A=>?_,_,rc,o 0 _ a rfl rfl⟩
   ·exact absurd (e:c.begun=false) (by rw [R];simp)
   ·cases e
   ·by_cases e:z.now=j
    ·subst e;rw [bn s] at m;cases m;cases A
    ·rw [Kg e] at m;rcases List.mem_cons.1 (h.all _ _ m A) with rfl | q
     ·exact absurd rfl e
     ·exact q
  ·have wf:=Vs Sj (b:={ c with vk:=some k,going:=false }) s;have Fd:c.ended=false:=by
    obtain ⟨wd,k1,B,-⟩:=h.YA (D hd);rw [s] at k1;cases k1;exact (B.go O Q).2.1
   have If:Sj c=Zh b:=by simp [Sj,Q,S]
   have dg:Sj { c with vk:=some k,going:=false }=Zh k:=by simp [Sj,R,Fd]
   unfold Li;simp only [zl,tf,yl];omega
 | @start f T Pr hc hd =>
  by_cases hm:(z.Db.length:Int) - 1=30
  ·exact .ye (.many T hm) (by simp only [tf,yl];omega)
  ·obtain ⟨Z,Ib,b,g1,g2,H⟩:=FI h.Tc (d:=f) (by simpa using la) o;have rg:C.le ⟨C.Gd,C.vf++b⟩:=⟨λ_ _ h=>h,λ_ _ h=>oo h⟩;have l:C.le ⟨C.Gd++[f],C.vf++b⟩:=.app;have V:bg.le ⟨C.Gd,C.vf++b⟩ ⟨C.Gd++[f],C.vf++b⟩:=⟨λ_ _ h=>oo h,λ_ _ h=>h⟩;have bi:=h.pos;have hle:=h.le;refine ⟨0,_,_,_,L,.start T hm (by rw [P.Lq];exact hc) g1,l,λc' y=>?_,by unfold Li;simp [zl,tf,yl,Sj];omega,by omega,by simp⟩;cases y;refine ⟨⟨?_,by simp [h.Jr],λg c m=>?_,by simp,by simp;omega,h.iv.app,h.nd,λg c m A=>?_,λd Ca=>?_⟩,_,n.up l,λe=>by simp at e,λ_=>⟨z.Db.length - 1,f,by omega,?_,hc⟩⟩
   ·exact ⟨g2.len,λi c m=>by
     obtain ⟨t,pa,Id,be⟩:=g2.at_ i c m;exact ⟨t,pa,Id,be.up V⟩⟩
   ·by_cases K:g<z.Db.length
    ·rw [List.getElem?_append_left K] at m;exact (h.Gd _ _ m).le l
    ·rw [List.getElem?_append_right (by omega)] at m;have M:g=z.Db.length:=by have:=(List.getElem?_eq_some_iff.1 m).1;simp at this;omega
     subst M;simp at m;subst m;exact ⟨by simp [h.Jr],λ_=>⟨hd,_,hc,Pr⟩,λ_ _=>⟨rfl,rfl,H.up V⟩,λ_ e=>(by cases e),λ_ e=>(by cases e),λe=>by omega⟩
   ·by_cases K:g<z.Db.length
    ·rw [List.getElem?_append_left K] at m;exact h.all _ _ m A
    ·rw [List.getElem?_append_right (by omega)] at m;have M:g=z.Db.length:=by have:=(List.getElem?_eq_some_iff.1 m).1;simp at this;omega
     subst M;simp at m;subst m;cases A
   ·refine h.t0 d ?_;have:0<C.Gd.length:=by rw [<- h.Jr];omega
    rwa [List.getElem?_append_left this] at Ca
   ·show (C.Gd++[f])[z.Db.length - 1+1]?=some f;rw [show z.Db.length - 1+1=C.Gd.length by rw [<- h.Jr];omega];simp
 | @resume g f ce hc hd =>
  obtain ⟨a,b,rfl⟩:=Ny la;obtain ⟨j,ge,rfl,k1,B⟩:=(o 0 _ a rfl rfl).2 rfl;rw [show Sa p.named (Qa.mk 3 g).xc=_ from hc] at B;cases B;have ne:=(List.getElem?_eq_some_iff.1 k1).1;rw [<- h.Jr] at ne;refine .same h (.res ce rfl rfl (by omega)) ⟨f,by omega,by simpa using k1,o 1 _ b rfl rfl,n⟩ (by simp only [tf,yl];omega) (by omega)
 | @alive g f Ne hc hd =>
  obtain ⟨a,rfl⟩:=RB la;obtain ⟨j,ge,rfl,k1,B⟩:=(o 0 _ a rfl rfl).2 rfl;obtain ⟨c,s,-,-⟩:=h.YA k1;exact .same h (.alive Ne rfl (by omega) (by simpa using s)) ⟨_,n,.MV⟩ (by simp only [tf,yl];omega) (by omega)
theorem rQ (P:vn p U E) (h:Rj p U C L z){k:fe}(o:¬ Comm (.sd k)) (a:Bj p U C z.now (.sd k)):eo p U E C z (.sd k):=by
 cases k with
 | zero k =>
  obtain ⟨t,t3,H⟩:=a;exact .same h .zero ⟨t,H,.plain (λ_=>.inl rfl) t3⟩ (by simp only [tf,Ki];omega) (by omega)
 | recv n k=>exact absurd trivial o
 | send n v k=>exact absurd trivial o
 | done g =>
  obtain ⟨rfl,y⟩:=a;have la:z.now<z.Db.length:=by
   have:=h.iv;generalize z.now=w at this y;cases this with
   | main=>omega
   | up _ K _ _ _=>exact (List.getElem?_eq_some_iff.1 K).1
  obtain ⟨f,A⟩:∃ f,C.Gd[z.now]?=some f:=⟨_,List.getElem?_eq_getElem (by rw [<- h.Jr];exact la)⟩;obtain ⟨c,u,b,M,i,rfl,N,O,Q,B,R,S,⟨n,D,T⟩,rfl,tb,V,W⟩:=h.top A y;refine ⟨0,_,_,C,M,.done i Q B,.r,λc' m=>?_,?_,by omega,by simp⟩
  ·cases m;refine ⟨h.put i ⟨A,λ_=>⟨S,n,D,T⟩,λ_ e=>?_,λ_ _ _ e=>(by cases e),λ_ e=>(by cases e),λe=>by omega⟩ (tb.set V) W λj Y a F=>?_,_,R,.plain (λ_=>.inl rfl) ?_⟩
   ·exact absurd (e:c.begun=false) (by rw [O];simp)
   ·by_cases e:z.now=j
    ·subst e;rw [bn i] at a;cases a;cases F
    ·rw [Kg e] at a;rcases List.mem_cons.1 (h.all _ _ a F) with rfl | q
     ·exact absurd rfl e
     ·exact q
   ·rw [Dn];exact (P.Ca _ _ D).ty (by omega)
  ·have Z:=Vs Sj (b:={ c with ended:=true,going:=false }) i;have bb:Sj c=Zh b:=by simp [Sj,N,B]
   have Gb:Sj { c with ended:=true,going:=false }=0:=by simp [Sj]
   unfold Li;simp only [zl,tf,Ki];omega
 | stats l s e k=>exact .same h .stats a (by simp only [tf,Ki]; omega) (by omega)
 | qf x s e k=>exact .same h .PB a (by simp only [tf,Ki]; omega) (by omega)
 | fin=>exact ⟨0,z,_,C,[],.fin,.r,λc' m=>(by cases m),by unfold Li; simp only [zl,tf,Ki]; omega,by omega,by omega⟩
 | Yi d =>
  obtain ⟨G,Xe,Eh,X,hf⟩:=a;exact .same h .Yi ⟨d,_,X,λe=>(by omega),.nil,hf,Eh,⟨by omega,G⟩,G⟩ (by simp only [tf,Ki,Fp];omega) (by omega)
theorem YM (P:vn p U E) (h:Rj p U C L z){g:Nat}{v:Int}{k:Ze}(m:Bj p U C z.now (.resume g v k)):eo p U E C z (.resume g v k):=by
 obtain ⟨f,d,q,Oa,A⟩:=m;obtain ⟨c,a,l,rfl⟩:=h.YA q;have R:=wK k;by_cases he:c.ended=true
 ·exact .ye (.gone a he) (by simp only [tf];omega)
 by_cases s:c.going=true\/g=z.now
 ·exact .ye (.busy a he s) (by simp only [tf];omega)
 have t:c.ended=false:=by simpa using he
 have u:c.going=false:=by
  cases e:c.going with
  | false=>rfl
  | true=>exact absurd (.inl e) s
 have w:g ∉ L:=λG=>by
  obtain ⟨x,pa,a2⟩:=h.iv.going _ G;rw [a] at pa;cases pa;rw [u] at a2;cases a2
 have B:∀ (gb:Ng) (j:Nat) (x:Ng),(z.Db.set g gb)[j]?=some x->x.going=true->j ∈ g::L:=λgb j x m H=>by
  by_cases e:g=j
  ·subst e;simp
  ·rw [Kg e] at m;exact List.mem_cons_of_mem _<|h.all _ _ m H
 by_cases i:c.begun=true
 ·obtain ⟨o,D,bd⟩:=l.held d i u t;refine ⟨0,_,_,C,g::L,.on a he s i D,.r,λc' y=>?_,?_,by omega,by simp⟩
  ·cases y;exact ⟨h.put a ⟨q,l.hd,λ_ e=>absurd (e:c.begun=false) (by rw [i];simp),λ_ _ e=>(by cases e),λ_ _=>⟨i,t,_,_,rfl,rfl,A⟩,λe=>by omega⟩ (.up d (bn a) rfl rfl<|h.iv.set w) (List.nodup_cons.2 ⟨w,h.nd⟩)<|B _,_,bd,Oa⟩
  ·have K:=Vs Sj (b:={ c with going:=true,up:=some z.now,back:=some k }) a;have M:Sj c=Zh o:=by simp [Sj,u,i,t,D]
   have N:Sj { c with going:=true,up:=some z.now,back:=some k }=Zh k:=by simp [Sj]
   unfold Li;simp only [zl,tf];omega
 ·have F:c.begun=false:=by simpa using i
  obtain ⟨-,-,O⟩:=l.fresh d F;obtain ⟨S,n,hc,Pr⟩:=l.hd d;obtain ⟨Q,hf⟩:=P.ty _ _ hc (by omega);rw [if_neg (by omega)] at hf;refine ⟨0,_,_,C,g::L,.first a he s i,.r,λc' y=>?_,?_,by omega,by simp⟩
  ·cases y;exact ⟨h.put a ⟨q,l.hd,λ_ e=>(by cases e),λ_ _ e=>(by cases e),λ_ _=>⟨rfl,t,_,_,rfl,rfl,A⟩,λe=>by omega⟩ (.up d (bn a) rfl rfl<|h.iv.set w) (List.nodup_cons.2 ⟨w,h.nd⟩)<|B _,c.Im,_,Q,λ_=>q,O.ea,hf,P.Eh _ _ Pr hc (by omega),⟨by omega,rfl,d⟩,rfl,d⟩
  ·have K:=Vs Sj (b:={ c with going:=true,up:=some z.now,back:=some k,begun:=true }) a;have M:Sj c=0:=by simp [Sj,u,F]
   have N:Sj { c with going:=true,up:=some z.now,back:=some k,begun:=true }=Zh k:=by simp [Sj]
   unfold Li;simp only [zl,tf,Fp,Ki];omega
theorem safe (P:vn p U E) (h:Rj p U C L z) (b:¬ Comm c) (d:Hp z c) (a:Bj p U C z.now c):eo p U E C z c:=by
 cases c with
 | expr=>exact dP P h a
 | all=>exact mQ h a
 | stats=>exact UN h a
 | qf=>exact nQ h a
 | ff=>exact oQ P h d a
 | Jd=>exact qQ P h a
 | sd=>exact rQ P h b a
 | recv=>exact absurd trivial b
 | send=>exact absurd trivial b
 | resume=>exact YM P h a
end
end
section
open Go.Bc Go.Re
abbrev lg:=Core×xl
def qq:xl->xl
 | .run c=>.run (sf c)
 | q=>q
def Core.Aq (z:Core):xd:=⟨z.de,z.Db,z.now,none,1,0,0,z.out⟩
def Nt:Option fk->cm lg
 | some (.call c z)=>.Ig z.nodes.toNat (z.t.core,.run (sf c))
 | some (.ret (some k) z)=>.Ig z.nodes.toNat (z.t.core,.run (sf (.sd k)))
 | some (.ret none z)=>.Ig z.nodes.toNat (z.t.core,if z.t.state=4 then .done else .ye z.t.ye)
 | _=>.halt
def rh (E:Sd) (z:Core):ah->cm lg
 | .recv n k=>match Sa E.order n with | some i=>.recv i.toNat 0 (λv=>(z,.run (.ff k v))) | none=>.halt
 | .send n v k=>match Sa E.order n with | some i=>.send i.toNat v 0 (z,.run (sf (.sd k))) | none=>.halt
 | c=>Nt (Wd E c ⟨z.Aq,[],0⟩)
def Pf (E:Sd) (x:lg):cm lg:=match x.2 with
 | .run c=>rh E x.1 (sf c)
 | _=>.halt
theorem GI (c:ah):sf (sf c)=sf c:=by
 cases c with
 | sd k=>cases k <;> rfl
 | _=>rfl
theorem cy {c:ah}(h:¬ Comm c):sf c=c:=by
 cases c with
 | sd k=>cases k with
  | recv=>exact absurd trivial h
  | send=>exact absurd trivial h
  | _=>rfl
 | _=>rfl
theorem eP {c:ah}:Comm (sf c) ↔ Comm c:=by
 cases c with
 | sd k=>cases k <;> exact Iff.rfl
 | _=>exact Iff.rfl
theorem dy {E:Sd}{z:Core}{c:ah}(h:¬ Comm c):rh E z c=Nt (Wd E c ⟨z.Aq,[],0⟩):=by
 cases c with
 | recv=>exact absurd trivial h
 | send=>exact absurd trivial h
 | _=>rfl
theorem Pe.act {E:Sd}{c:ah}{z e:Core}{n:Nat}{q:xl}(h:Pe E c z n e q) (i:n<=1):Nt (Wd E c ⟨z.Aq,[],0⟩)=.Ig n (e,qq q):=by
 obtain ⟨o,g,f⟩:=Pe.step (t:=z.Aq) (bs:=[]) (nd:=0) h (by omega);rw [g];obtain ⟨a,b,c',d⟩:=e;cases q with
 | run c'=>cases f <;> simp [Nt,qq,xd.core,Xg]
 | done=>cases f <;> simp [Nt,qq,xd.core,Xg]
 | ye k=>cases f <;> simp [Nt,qq,xd.core,Xg]
theorem BD {E:Sd}{z:Core}{c:ah}{o:fk}(h:Wd E c ⟨z.Aq,[],0⟩=some o):Hp z c:=by
 intro x l s e k v a b;subst a;rw [Wd] at h;unfold gp at h;rw [if_neg (by omega),if_neg (by omega),if_neg (by omega),if_neg (by omega),if_neg (by omega),if_pos b] at h;obtain ⟨f,d,-⟩:=te h;have:=(Eu d).2;simp at this;have e:z.Aq.out.length=z.out.length:=rfl;omega
def Al (p:qb) (U:Ug) (x:lg):Prop:=∀ c,x.2=.run c->∃ C L,Rj p U C L x.1/\Bj p U C x.1.now c
theorem Bj.norm {p:qb}{U:Ug}{C:bg}{g:Nat}{c:ah}:Bj p U C g (sf c) ↔ Bj p U C g c:=by
 cases c with
 | sd k=>cases k <;> exact Iff.rfl
 | _=>exact Iff.rfl
theorem Al.norm {p:qb}{U:Ug}{z:Core}{q:xl}(h:Al p U (z,q)):Al p U (z,qq q):=by
 intro c a;cases q with
 | run c' =>
  obtain ⟨C,L,b,d⟩:=h _ rfl;cases a;exact ⟨C,L,b,Bj.norm.2 d⟩
 | done=>cases a
 | ye k=>cases a
section
variable {p:qb}{U:Ug}{E:Sd}
theorem dJ (P:vn p U E){x d:lg}{n:Nat}(h:Al p U x) (a:Pf E x=.Ig n d):n<=1/\Li d.1 d.2+1<=Li x.1 x.2+30*n/\d.1.out.length<=x.1.out.length+1/\Al p U d:=by
 obtain ⟨z,q⟩:=x;cases q with
 | done=>cases a
 | ye k=>cases a
 | run c =>
 obtain ⟨C,L,m,r⟩:=h _ rfl
 change rh E z (sf c)=_ at a
 by_cases b:Comm (sf c)
 ·exfalso
  revert a b
  cases s:sf c with
  | recv n k=>intro a _; rw [rh] at a; split at a <;> cases a
  | send n v k=>intro a _; rw [rh] at a; split at a <;> cases a
  | sd k =>
   have:sf (sf c)=sf c:=GI c;rw [s] at this;cases k with
   | recv=>cases this
   | send=>cases this
   | _=>intro _ b; exact b.elim
  | _=>intro _ b; exact b.elim
 have f:¬ Comm c:=λk=>b (eP.2 k);rw [cy f,dy f] at a;have u:Hp z c:=by
  cases g:Wd E c ⟨z.Aq,[],0⟩ with
  | none=>rw [g] at a; cases a
  | some o=>exact BD g
 obtain ⟨B,D,pk,Fg,w,t,l,y,i,j,A⟩:=safe P m f u r;rw [t.act j] at a;cases a;refine ⟨j,?_,A,Al.norm λc' e=>⟨Fg,w,y c' e⟩⟩;have:zl (qq pk)=zl pk:=by
  cases pk with
  | run c=>cases c with
   | sd k=>cases k <;> rfl
   | _=>rfl
  | _=>rfl
 unfold Li at i ⊢;rw [this];exact i
theorem ti.any {C Fg:bg}{t:Qa}{v:Int}(a:t.Kind≠3) (h:ti p C t v):ti p Fg t v:=⟨h.1,λk=>absurd k a⟩
def zC (p:qb) (E:Sd) (b:Nat) (v:Int):Prop:=∀ n f,Sa E.order n=some (b:Int)->Sa p.named n=some f->ti p ⟨[],[]⟩ (He f.Cb) v
structure Ord (p:qb) (E:Sd):Prop where
 inj:∀ (n m:Je) (i:Int),Sa E.order n=some i->Sa E.order m=some i->n=m
 Gq:∀ (n:Je) (i:Int),Sa E.order n=some i->0<=i
 ty:∀ n f,Sa p.named n=some f->f.Kind=1->f.Cb.Kind≠3
theorem SD (P:vn p U E) (O:Ord p E){x d:lg}{b c:Nat}{v:Int}(h:Al p U x) (a:Pf E x=.send b v c d):c=0/\(∃ n,U.s n/\Sa E.order n=some (b:Int))/\zC p E b v/\Li d.1 d.2+1<=Li x.1 x.2/\d.1.out=x.1.out/\Al p U d:=by
 obtain ⟨z,q⟩:=x;cases q with
 | done=>cases a
 | ye k=>cases a
 | run c' =>
 obtain ⟨C,L,t,y⟩:=h _ rfl
 change rh E z (sf c')=_ at a
 have A:tf (sf c')=tf c':=by
  cases c' with
  | sd k=>cases k <;> rfl
  | _=>rfl
 have j:=Bj.norm.2 y;unfold Li;simp only [zl];rw [<- A];cases g:sf c' with
 | send n w k =>
  rw [g] at a j;rw [rh] at a;split at a
  ·rename_i i l;cases a;obtain ⟨f,u,hc,hd,Oa,B⟩:=j;have D:=O.Gq _ _ l;have o:Sa E.order n=some ((i.toNat:Nat):Int):=by rw [l];congr 1;omega
   refine ⟨rfl,⟨n,u,o⟩,λm F e r=>?_,?_,rfl,λG e=>?_⟩
   ·obtain rfl:=O.inj _ _ _ e o;rw [hc] at r;cases r;exact Oa.any (by rw [Dn];exact O.ty _ _ hc hd)
   ·have:tf (sf (.sd k))=Ki k:=by cases k<;>rfl
    show tf (sf (.sd k))+_+1<=_;rw [this];simp only [tf];omega
   ·cases e;exact ⟨C,L,t,Bj.norm.2 B⟩
  ·cases a
 | recv n k=>rw [g] at a; rw [rh] at a; split at a <;> cases a
 | _=>rw [g] at a; simp only [rh] at a; unfold Nt at a; split at a <;> cases a
theorem TD (P:vn p U E) (O:Ord p E){x:lg}{b c:Nat}{f:Int->lg}(h:Al p U x) (a:Pf E x=.recv b c f):c=0/\(∃ n,U.r n/\Sa E.order n=some (b:Int))/\∀ v,Li (f v).1 (f v).2+1<=Li x.1 x.2/\(f v).1.out=x.1.out/\(zC p E b v->Al p U (f v)):=by
 obtain ⟨z,q⟩:=x;cases q with
 | done=>cases a
 | ye k=>cases a
 | run c' =>
 obtain ⟨C,L,m,o⟩:=h _ rfl
 change rh E z (sf c')=_ at a
 have s:tf (sf c')=tf c':=by
  cases c' with
  | sd k=>cases k <;> rfl
  | _=>rfl
 have g:=Bj.norm.2 o;unfold Li;simp only [zl];rw [<- s];cases d:sf c' with
 | recv n k =>
  rw [d] at a g;rw [rh] at a;split at a
  ·rename_i i j;cases a;obtain ⟨f,u,hc,hd,t⟩:=g;have w:=O.Gq _ _ j;have l:Sa E.order n=some ((i.toNat:Nat):Int):=by rw [j];congr 1;omega
   refine ⟨rfl,⟨n,u,l⟩,λv=>⟨?_,rfl,λOa y e=>?_⟩⟩
   ·simp only [tf];omega
   ·cases e;exact ⟨C,L,m,_,t,(Oa _ _ l hc).any (by rw [Dn];exact O.ty _ _ hc hd)⟩
  ·cases a
 | send n v k=>rw [d] at a; rw [rh] at a; split at a <;> cases a
 | _=>rw [d] at a; simp only [rh] at a; unfold Nt at a; split at a <;> cases a
end
structure rq (p:qb) (E:Sd) (U:Nat->Ug):Prop where
 ok:∀ i,vn p (U i) E
 ord:Ord p E
 s:∀ (n:Je) (i j:Nat),(∃ b,Sa E.order n=some b)->(U i).s n->(U j).s n->i=j
 r:∀ (n:Je) (i j:Nat),(∃ b,Sa E.order n=some b)->(U i).r n->(U j).r n->i=j
theorem rq.own {p:qb}{E:Sd}{U:Nat->Ug}(h:rq p E U):Xu (Pf E) (λi x=>Al p (U i) x) (zC p E) (λb i=>∃ n,(U i).s n/\Sa E.order n=some (b:Int)) (λb i=>∃ n,(U i).r n/\Sa E.order n=some (b:Int)) where
 Ig d e:=(dJ (h.ok _) d e).2.2.2
 send d e:=by
  obtain ⟨-,a,c,-,-,g⟩:=SD (h.ok _) h.ord d e;exact ⟨a,c,g⟩
 recv d e:=by
  obtain ⟨-,a,c⟩:=TD (h.ok _) h.ord d e;exact ⟨a,λv Oa=>(c v).2.2 Oa⟩
 El a c:=by
  obtain ⟨n,pa,f⟩:=a;obtain ⟨m,ka,jd⟩:=c;obtain rfl:=h.ord.inj _ _ _ f jd;exact h.s n _ _ ⟨_,f⟩ pa ka
 WL a c:=by
  obtain ⟨n,pa,f⟩:=a;obtain ⟨m,ka,jd⟩:=c;obtain rfl:=h.ord.inj _ _ _ f jd;exact h.r n _ _ ⟨_,f⟩ pa ka
end
section
open Go.Bc Go.Re
def kq (E:Sd):Nat->ah->Sc->Option (Option Sc)
 | 0,_,_=>none
 | n+1,c,z=>(Wd E c z).bind λo=>match o with
  | .call c z=>kq E n c z
  | .ret (some k) z=>kq E n (.sd k) z
  | .ret none z=>some (some z)
  | .yr=>some none
theorem xK {E:Sd}:∀ {m:Nat}{c:ah}{z:Sc}{r:Option Sc},kq E m c z=some r->∀ fu,m<=fu->∃ x,dp E fu c z=some x/\(x=none->r=none)/\(∀ d,x=some (none,d)->r=some d)/\∀ k d,x=some (some k,d)->∃ g,g<m/\kq E g (.sd k) d=some r
 | 0,c,z,r,h=>by cases h
 | m+1,c,z,r,h=>by
  intro fu q;obtain ⟨fu,rfl⟩:∃ k,fu=k+1:=⟨fu - 1,by omega⟩;rw [kq] at h;obtain ⟨o,i,h⟩:=te h;rw [dp,i];cases o with
  | call c' d =>
   obtain ⟨x,j,l,n,p⟩:=xK h fu (by omega);refine ⟨x,j,l,n,λk f e=>?_⟩;obtain ⟨g,a,b⟩:=p k f e;exact ⟨g,by omega,b⟩
  | ret k d =>
   cases k with
   | none=>cases h; exact ⟨_,rfl,λe=>(by cases e),λf e=>(by cases e; rfl),λk f e=>(by cases e)⟩
   | some k=>exact ⟨_,rfl,λe=>(by cases e),λf e=>(by cases e),λk' f e=>(by cases e; exact ⟨m,by omega,h⟩)⟩
  | yr=>cases h; exact ⟨_,rfl,λ_=>rfl,λf e=>(by cases e),λk f e=>(by cases e)⟩
theorem yK {E:Sd}:∀ (M:Nat){m:Nat}{k:fe}{z:Sc}{r:Option Sc},m<=M->kq E m (.sd k) z=some r->∀ fu,m+1<=fu->bt E fu (some k) z=some r
 | M,m,k,z,r,hm,h=>by
  intro fu i;obtain ⟨fu,rfl⟩:∃ k,fu=k+1:=⟨fu - 1,by omega⟩;obtain ⟨x,d,e,f,g⟩:=xK h fu (by omega);rw [bt,d];cases x with
  | none=>rw [e rfl]; rfl
  | some x =>
   obtain ⟨k',c⟩:=x;cases k' with
   | none=>rw [f c rfl]; simp only [Option.bind_some]; rw [bt]
   | some k' =>
    obtain ⟨j,a,b⟩:=g k' c rfl;cases M with
    | zero=>omega
    | succ M=>exact yK M (by omega) b fu (by omega)
theorem Pe.yr {E:Sd}{c:ah}{t:xd}{bs:List Rd}{nd:Int}{x:Core}{q:xl}(h:Pe E c t.core 1 x q) (a:20000<nd+1):Wd E c ⟨t,bs,nd⟩=some .yr:=by
 have b:∀ f,Us ⟨t,bs,nd⟩ f=some .yr:=λf=>by rw [Us,if_pos a]
 generalize e:(1:Nat)=n at h;cases h<;>first | exact absurd e (by decide) | (rw [Wd];exact b _)
def ze (t:xd):lg:=(t.core,if t.state=4 then .done else if t.state=5 then .ye t.ye else match t.mm with | some k=>.run (sf (.sd k)) | none=>.done)
def Va (pre:List lg) (x:lg) (post:List lg) (bs:List Rd):yf lg:=⟨pre++x::post,bs.map Rd.words⟩
structure Rn (E:Sd) (cap:List Nat) (bs:List Rd):Prop where
 cap:cap=bs.map λb=>b.cap.toNat
 le:∀ b ∈ bs,0<=b.cap/\b.cap<=100/\(b.words.length:Int)<=b.cap
 ord:∀ (n:Je) (i:Int),Sa E.order n=some i->0<=i/\i.toNat<bs.length
theorem Rn.at {E:Sd}{cap:List Nat}{bs:List Rd}(h:Rn E cap bs){n:Je}{i:Int}(e:Sa E.order n=some i):∃ b,at_ bs i=some b/\bs[i.toNat]?=some b/\0<=b.cap/\b.cap<=100/\(b.words.length:Int)<=b.cap/\cap[i.toNat]?=some b.cap.toNat/\(bs.map Rd.words)[i.toNat]?=some b.words:=by
 obtain ⟨d,c⟩:=h.ord n i e;have a:bs[i.toNat]?=some bs[i.toNat]:=List.getElem?_eq_getElem c;obtain ⟨f,g,j⟩:=h.le _ (List.getElem_mem c);exact ⟨_,by rw [at_,if_pos d,a],a,f,g,j,by rw [h.cap,List.getElem?_map,a];rfl,by rw [List.getElem?_map,a];rfl⟩
theorem Rn.set {E:Sd}{cap:List Nat}{bs:List Rd}(h:Rn E cap bs){i:Nat}{b:Rd}(a:bs[i]?=some b){ws:List Int}(f:(ws.length:Int)<=b.cap):Rn E cap (bs.set i { b with words:=ws }):=by
 have la:=(List.getElem?_eq_some_iff.1 a).1;refine ⟨?_,λc d=>?_,λn g e=>?_⟩
 ·rw [h.cap];refine List.ext_getElem? λj=>?_;rw [List.getElem?_map,List.getElem?_map,List.getElem?_set];split
  ·rename_i e;subst e;rw [a];rfl
  ·rfl
 ·rcases List.mem_or_eq_of_mem_set d with d | rfl
  ·exact h.le _ d
  ·have:=h.le _ (List.mem_of_getElem? a);exact ⟨this.1,this.2.1,f⟩
 ·have:=h.ord n g e;simpa using this
section
variable {p:qb}{E:Sd}{U:Nat->Ug}{cap:List Nat}
abbrev nv (p:qb) (E:Sd) (U:Nat->Ug):yf lg->Prop:=Mm (λi x=>Al p (U i) x) (zC p E)
def Wy (E:Sd) (cap:List Nat) (pre post:List lg) (s:yf lg) (nd:Nat):Option Sc->Prop
 | none=>∃ m d Ib,hg (Pf E) cap s m d Ib/\20000<nd+d
 | some z=>∃ m d,hg (Pf E) cap s m d (Va pre (ze z.t) post z.boxes)/\z.nodes=((nd+d:Nat):Int)/\nd+d<=20000/\Rn E cap z.boxes/\(∀ a Ib,¬ Ag (Pf E) cap (Va pre (ze z.t) post z.boxes) pre.length a Ib) /\
  (z.t.state=2/\z.t.ye=0/\(∃ n v k,z.t.mm=some (.send n v k)/\Sa E.order n=some z.t.box)\/z.t.state=3/\z.t.ye=0/\(∃ n k,z.t.mm=some (.recv n k)/\Sa E.order n=some z.t.box)\/z.t.state=4/\z.t.box=0/\z.t.ye=0\/z.t.state=5/\z.t.box=0)
theorem Wy.cons {pre post:List lg}{s c:yf lg}{nd d i:Nat}{r:Option Sc}(k:Ag (Pf E) cap s i d c) (h:Wy E cap pre post c (nd+d) r):Wy E cap pre post s nd r:=by
 cases r with
 | none =>
  obtain ⟨m,a,Ib,b,e⟩:=h;exact ⟨m+1,d+a,Ib,.cons k b,by omega⟩
 | some z =>
  obtain ⟨m,a,b,e,g,f⟩:=h;exact ⟨m+1,d+a,.cons k b,by rw [e];congr 1;omega,by omega,f⟩
theorem fl {α:Type}{pre post:List α}{x:α}:(pre++x::post)[pre.length]?=some x:=by
 rw [List.getElem?_append_right (Nat.le_refl _),Nat.sub_self];rfl
theorem jF {α:Type}{pre post:List α}{x y:α}:(pre++x::post).set pre.length y=pre++y::post:=by
 rw [List.set_append_right _ _ (Nat.le_refl _),Nat.sub_self];rfl
theorem OA {pre post:List lg}{z:Core}{bs:List Rd}{q:xl}(f:∀ c,q≠.run c):∀ d Ib,¬ Ag (Pf E) cap (Va pre (z,q) post bs) pre.length d Ib:=by
 intro d Ib h;have e:Pf E (z,q)=.halt:=by
  cases q with
  | run c=>exact absurd rfl (f c)
  | _=>rfl
 cases h with
 | Ig a b=>rw [show (Va pre (z,q) post bs).na[pre.length]?=some (z,q) from fl] at a; cases a; rw [e] at b; cases b
 | send a b=>rw [show (Va pre (z,q) post bs).na[pre.length]?=some (z,q) from fl] at a; cases a; rw [e] at b; cases b
 | recv a b=>rw [show (Va pre (z,q) post bs).na[pre.length]?=some (z,q) from fl] at a; cases a; rw [e] at b; cases b
theorem MJ {pre post:List lg}{z:Core}{bs:List Rd}{n:Je}{v:Int}{k:fe}{i:Int}{b:Rd}(hB:Rn E cap bs) (e:Sa E.order n=some i) (l:bs[i.toNat]?=some b) (p:b.cap<=(b.words.length:Int)):∀ d Ib,¬ Ag (Pf E) cap (Va pre (z,.run (.send n v k)) post bs) pre.length d Ib:=by
 intro d Ib h;have f:Pf E (z,.run (.send n v k))=.send i.toNat v 0 (z,.run (sf (.sd k))):=by
  show rh E z (.send n v k)=_;rw [rh,e]
 obtain ⟨Rc,q,g,r,s,t,m,o⟩:=hB.at e;rw [l] at g;cases g;cases h with
 | Ig a c=>rw [show (Va pre (z,.run (.send n v k)) post bs).na[pre.length]?=some (z,.run (.send n v k)) from fl] at a; cases a; rw [f] at c; cases c
 | send a c hw j la =>
  rw [show (Va pre (z,.run (.send n v k)) post bs).na[pre.length]?=some (z,.run (.send n v k)) from fl] at a;cases a;rw [f] at c;cases c;rw [show (Va pre (z,.run (.send n v k)) post bs).bs=bs.map Rd.words from rfl,o] at hw;cases hw;rw [m] at j;cases j;omega
 | recv a c=>rw [show (Va pre (z,.run (.send n v k)) post bs).na[pre.length]?=some (z,.run (.send n v k)) from fl] at a; cases a; rw [f] at c; cases c
theorem NJ {pre post:List lg}{z:Core}{bs:List Rd}{n:Je}{k:Ze}{i:Int}{b:Rd}(hB:Rn E cap bs) (e:Sa E.order n=some i) (j:bs[i.toNat]?=some b) (l:b.words=[]):∀ d Ib,¬ Ag (Pf E) cap (Va pre (z,.run (.recv n k)) post bs) pre.length d Ib:=by
 intro d Ib h;have f:Pf E (z,.run (.recv n k))=.recv i.toNat 0 (λv=>(z,.run (.ff k v))):=by
  show rh E z (.recv n k)=_;rw [rh,e]
 obtain ⟨Rc,o,g,p,q,r,s,m⟩:=hB.at e;rw [j] at g;cases g;cases h with
 | Ig a c=>rw [show (Va pre (z,.run (.recv n k)) post bs).na[pre.length]?=some (z,.run (.recv n k)) from fl] at a; cases a; rw [f] at c; cases c
 | send a c=>rw [show (Va pre (z,.run (.recv n k)) post bs).na[pre.length]?=some (z,.run (.recv n k)) from fl] at a; cases a; rw [f] at c; cases c
 | recv a c hw =>
  rw [show (Va pre (z,.run (.recv n k)) post bs).na[pre.length]?=some (z,.run (.recv n k)) from fl] at a;cases a;rw [f] at c;cases c;rw [show (Va pre (z,.run (.recv n k)) post bs).bs=bs.map Rd.words from rfl,m,l] at hw;cases hw
theorem rB (W:rq p E U){pre post:List lg}:∀ (M:Nat) (c:ah) (t:xd) (bs:List Rd) (nd:Nat),nv p E U (Va pre (t.core,.run (sf c)) post bs)->nd<=20000->t.out.length+M<=4294967295->Rn E cap bs->t.state=1->t.box=0->t.ye=0 ->
  (∃ r,kq E M c ⟨t,bs,nd⟩=some r/\Wy E cap pre post (Va pre (t.core,.run (sf c)) post bs) nd r)\/∃ d Ib,hg (Pf E) cap (Va pre (t.core,.run (sf c)) post bs) M d Ib/\nd+d<=20000
 | 0,c,t,bs,nd,m,H,V,hB,G,z,y=>.inr ⟨0,_,.nil,by omega⟩
 | M+1,c,t,bs,nd,m,H,V,hB,G,z,y=>by
  have X:Al p (U pre.length) (t.core,.run (sf c)):=m.na pre.length _ fl;obtain ⟨C,L,Y,A⟩:=X _ rfl;replace A:=Bj.norm.1 A;by_cases B:Comm c
  ·-- it speaks
   have Z:(∃ n k,sf c=.recv n k/\Wd E c ⟨t,bs,nd⟩=Hu E n k ⟨t,bs,nd⟩)\/∃ n v k,sf c=.send n v k/\Wd E c ⟨t,bs,nd⟩=Iu E n v k ⟨t,bs,nd⟩:=by
    cases c with
    | recv n k=>exact .inl ⟨n,k,rfl,rfl⟩
    | send n v k=>exact .inr ⟨n,v,k,rfl,rfl⟩
    | sd k=>cases k with
     | recv n k=>exact .inl ⟨n,k,rfl,rfl⟩
     | send n v k=>exact .inr ⟨n,v,k,rfl,rfl⟩
     | _=>exact B.elim
    | _=>exact B.elim
   rw [kq];rcases Z with ⟨n,k,sa,K⟩ | ⟨n,v,k,sa,K⟩
   ·rw [K];have D:=Bj.norm.2 A;rw [sa] at D m;obtain ⟨f,u,hc,hd,bb⟩:=D;obtain ⟨i,g⟩:=(W.ok pre.length).Wf _ _ hc hd;obtain ⟨b,pa,a2,a3,a4,a5,zb,Ab⟩:=hB.at g;rw [Hu,g];simp only [Option.bind_some,pa];rw [sa];have F:Pf E (t.core,.run (.recv n k))=.recv i 0 (λv=>(t.core,.run (.ff k v))):=by
     show rh E t.core (.recv n k)=_;rw [rh,g];simp
    cases hw:b.words with
    | nil =>
     refine .inl ⟨_,rfl,0,0,?_,rfl,by omega,hB,?_,?_⟩
     ·have:Va pre (ze { t with state:=3,box:=(Sa E.order n).getD 0,mm:=some (.recv n k) }) post bs=Va pre (t.core,.run (.recv n k)) post bs:=rfl;rw [g] at this;exact this ▸ .nil
     ·exact NJ hB g a2 hw
     ·exact .inr<|.inl ⟨rfl,y,n,k,rfl,by rw [g];rfl⟩
    | cons v ws =>
     have a:Ag (Pf E) cap (Va pre (t.core,.run (.recv n k)) post bs) pre.length 0 (Va pre (t.core,.run (.ff k v)) post (bs.set i { b with words:=ws })):=by
      have:=Ag.recv (act:=Pf E) (cap:=cap) (s:=Va pre (t.core,.run (.recv n k)) post bs) (i:=pre.length) (v:=v) (w:=ws) fl F (by show (bs.map Rd.words)[i]?=_;rw [show (i:Nat)=(i:Int).toNat by omega,Ab,hw]);unfold Va at this ⊢;rw [jF] at this;rw [List.map_set];exact this
     have N:Rn E cap (bs.set i { b with words:=ws }):=hB.set (by rw [show (i:Nat)=(i:Int).toNat by omega];exact a2) (by rw [hw] at a5;simp at a5;omega);rcases rB W M (.ff k v) t (bs.set i { b with words:=ws }) nd (a.own W.own m) H (by omega) N G z y with ⟨r,h,j⟩ | ⟨d,Ib,h,j⟩
     ·exact .inl ⟨r,by simpa using h,j.cons a⟩
     ·exact .inr ⟨d,Ib,by have:=hg.cons a h;rwa [Nat.zero_add] at this,j⟩
   ·rw [K];have D:=Bj.norm.2 A;rw [sa] at D m;obtain ⟨f,u,hc,hd,Oa,bb⟩:=D;obtain ⟨i,g⟩:=(W.ok pre.length).Wf _ _ hc hd;obtain ⟨b,pa,a2,a3,a4,a5,zb,Ab⟩:=hB.at g;rw [Iu,g];simp only [Option.bind_some,pa];rw [sa];have F:Pf E (t.core,.run (.send n v k))=.send i v 0 (t.core,.run (sf (.sd k))):=by
     show rh E t.core (.send n v k)=_;rw [rh,g];simp
    by_cases R:(b.words.length:Int)=b.cap
    ·rw [if_pos R];refine .inl ⟨_,rfl,0,0,?_,rfl,by omega,hB,?_,?_⟩
     ·have:Va pre (ze { t with state:=2,box:=(Sa E.order n).getD 0,mm:=some (.send n v k) }) post bs=Va pre (t.core,.run (.send n v k)) post bs:=rfl;rw [g] at this;exact this ▸ .nil
     ·exact MJ hB g a2 (by omega)
     ·exact .inl ⟨rfl,y,n,v,k,rfl,by rw [g];rfl⟩
    ·have Gb:app b.words [v]=some (b.words++[v]):=if_pos (by simp;omega);rw [if_neg R,Gb];have a:Ag (Pf E) cap (Va pre (t.core,.run (.send n v k)) post bs) pre.length 0 (Va pre (t.core,.run (sf (.sd k))) post (bs.set i { b with words:=b.words++[v] })):=by
      have:=Ag.send (act:=Pf E) (cap:=cap) (s:=Va pre (t.core,.run (.send n v k)) post bs) (i:=pre.length) (w:=b.words) (k:=b.cap.toNat) fl F (by show (bs.map Rd.words)[i]?=_;rw [show (i:Nat)=(i:Int).toNat by omega,Ab]) (by rw [show (i:Nat)=(i:Int).toNat by omega];exact zb) (by omega);unfold Va at this ⊢;rw [jF] at this;rw [List.map_set];exact this
     have N:Rn E cap (bs.set i { b with words:=b.words++[v] }):=hB.set (by rw [show (i:Nat)=(i:Int).toNat by omega];exact a2) (by simp;omega);rcases rB W M (.sd k) t (bs.set i { b with words:=b.words++[v] }) nd (a.own W.own m) H (by omega) N G z y with ⟨r,h,j⟩ | ⟨d,Ib,h,j⟩
     ·exact .inl ⟨r,by simpa using h,j.cons a⟩
     ·exact .inr ⟨d,Ib,by have:=hg.cons a h;rwa [Nat.zero_add] at this,j⟩
  ·-- it does not
   have gc:Hp t.core c:=λx l s e k v _ _=>by show t.out.length<_;omega
   obtain ⟨n,O,q,Fg,rd,dc,l,wd,Fd,lc,rc⟩:=safe (W.ok pre.length) Y B gc A;have F:Pf E (t.core,.run (sf c))=.Ig n (O,qq q):=by
    show rh E t.core (sf (sf c))=_;rw [GI,cy B,dy B];exact dc.act lc
   have a:Ag (Pf E) cap (Va pre (t.core,.run (sf c)) post bs) pre.length n (Va pre (O,qq q) post bs):=by
    have:=Ag.Ig (act:=Pf E) (cap:=cap) (s:=Va pre (t.core,.run (sf c)) post bs) (i:=pre.length) fl F;unfold Va at this ⊢;rwa [jF] at this
   have fd:=a.own W.own m;rw [kq];by_cases P:n=1/\20000<nd+1
   ·obtain ⟨rfl,P⟩:=P;rw [dc.yr (by omega)];exact .inl ⟨none,rfl,1,1,_,.one a,P⟩
   ·obtain ⟨o,id,bd⟩:=dc.step (bs:=bs) (nd:=(nd:Int)) (by omega);rw [id];simp only [Option.bind_some];obtain ⟨x1,S,T,Q⟩:=O;have md:((nd:Int)+(n:Int))=((nd+n:Nat):Int):=by omega
    rw [md] at bd;cases q with
    | run c' =>
     have go:=rB W M c' { t with de:=x1,Db:=S,now:=T,out:=Q } bs (nd+n) fd (by omega) (by simp only [xd.core] at rc;show Q.length+M<=_;omega) hB G z y;have fin:(∃ r,kq E M c' ⟨{ t with de:=x1,Db:=S,now:=T,out:=Q },bs,((nd+n:Nat):Int)⟩=some r/\Wy E cap pre post (Va pre (t.core,.run (sf c)) post bs) nd r)\/∃ d Ib,hg (Pf E) cap (Va pre (t.core,.run (sf c)) post bs) (M+1) d Ib/\nd+d<=20000:=by
      rcases go with ⟨r,h,j⟩ | ⟨d,Ib,h,j⟩
      ·exact .inl ⟨r,h,j.cons a⟩
      ·exact .inr ⟨n+d,Ib,.cons a h,by omega⟩
     cases bd<;>exact fin
    | done =>
     cases bd;exact .inl ⟨_,rfl,1,n,.one a,rfl,by omega,hB,OA λc=>(by simp [xd.core]),.inr (.inr (.inl ⟨rfl,z,y⟩))⟩
    | ye k =>
     cases bd;exact .inl ⟨_,rfl,1,n,.one a,rfl,by omega,hB,OA λc=>(by simp [xd.core]),.inr (.inr (.inr ⟨rfl,z⟩))⟩
end
end
section
open Go.Bc Go.Re
theorem hg.zero {T:Type}{act:T->cm T}{cap:List Nat}{s Ib:yf T}{d:Nat}(h:hg act cap s 0 d Ib):s=Ib:=by cases h;rfl
def Xb (s:yf lg):Nat:=(s.na.map λx=>Li x.1 x.2).sum
section
variable {p:qb}{E:Sd}{U:Nat->Ug}{cap:List Nat}
theorem VN (W:rq p E U){s Ib:yf lg}{i d:Nat}(l:nv p E U s) (k:Ag (Pf E) cap s i d Ib):Xb Ib+1<=Xb s+30*d/\d<=1/\∀ (j:Nat) (c:lg),Ib.na[j]?=some c->∃ x,s.na[j]?=some x/\c.1.out.length<=x.1.out.length+1:=by
 have O:∀ {x c:lg},s.na[i]?=some x->c.1.out.length<=x.1.out.length+1->∀ (j:Nat) (y:lg),(s.na.set i c)[j]?=some y->∃ x,s.na[j]?=some x/\y.1.out.length<=x.1.out.length+1:=by
  intro x c m la j y g;by_cases e:i=j
  ·subst e;rw [bn m] at g;cases g;exact ⟨x,m,la⟩
  ·rw [Kg e] at g;exact ⟨y,g,by omega⟩
 cases k with
 | @Ig t cb _ a f =>
  obtain ⟨pa,a2,h,-⟩:=dJ (W.ok i) (l.na _ _ a) f;have n:=Vs (λx:lg=>Li x.1 x.2) (b:=cb) a;exact ⟨by unfold Xb;simp only;omega,pa,O a h⟩
 | @send t cb _ b k v w a f o r la =>
  obtain ⟨pa,-,-,a2,h,-⟩:=SD (W.ok i) W.ord (l.na _ _ a) f;have n:=Vs (λx:lg=>Li x.1 x.2) (b:=cb) a;exact ⟨by unfold Xb;simp only;omega,by omega,O a (by rw [h];omega)⟩
 | @recv t _ b k v w a f o =>
  obtain ⟨pa,-,a2⟩:=TD (W.ok i) W.ord (l.na _ _ a) f;obtain ⟨h,q,-⟩:=a2 v;have n:=Vs (λx:lg=>Li x.1 x.2) (b:=k v) a;exact ⟨by unfold Xb;simp only;omega,by omega,O a (by rw [q];omega)⟩
theorem UD (W:rq p E U){s Ib:yf lg}{m d:Nat}(k:hg (Pf E) cap s m d Ib):nv p E U s->Xb Ib+m<=Xb s+30*d/\∀ (j:Nat) (a:lg),Ib.na[j]?=some a->∃ x,s.na[j]?=some x/\a.1.out.length<=x.1.out.length+m:=by
 induction k with
 | nil=>exact λ_=>⟨by omega,λj a h=>⟨a,h,by omega⟩⟩
 | cons k _ c =>
  intro b;obtain ⟨pa,a2,a3⟩:=VN W b k;obtain ⟨ka,jd⟩:=c (k.own W.own b);refine ⟨by omega,λj a h=>?_⟩;obtain ⟨x1,gb,c2⟩:=jd j a h;obtain ⟨x0,d1,d2⟩:=a3 j x1 gb;exact ⟨x0,d1,by omega⟩
def XL (E:Sd) (t:xd):Prop :=
 t.state=1/\t.box=0/\t.ye=0/\(∃ d,t.mm=some (.Yi d))\/t.state=2/\t.ye=0/\(∃ n v k,t.mm=some (.send n v k)/\Sa E.order n=some t.box) \/
 t.state=3/\t.ye=0/\(∃ n k,t.mm=some (.recv n k)/\Sa E.order n=some t.box)\/t.state=4/\t.box=0/\t.ye=0\/t.state=5/\t.box=0
def Ni (na:List xd) (bs:List Rd):yf lg:=⟨na.map ze,bs.map Rd.words⟩
theorem ZA {pre na:List xd}{t:xd}{bs:List Rd}:Ni (pre++t::na) bs=Va (pre.map ze) (ze t) (na.map ze) bs:=by
 unfold Ni Va;rw [List.map_append,List.map_cons]
def Ip (s:yf lg) (nd:Nat):Nat:=Xb s+30*(20000 - nd)
structure Inv (p:qb) (E:Sd) (U:Nat->Ug) (cap:List Nat) (N:Nat) (na:List xd) (bs:List Rd) (nd:Nat):Prop where
 eu:nv p E U (Ni na bs)
 Ya:Rn E cap bs
 j:∀ t ∈ na,XL E t
 TG:nd<=20000
 YL:Ip (Ni na bs) nd<=N
 out:∀ t ∈ na,t.out.length+Ip (Ni na bs) nd<=N
theorem zK {t:xd}{bs:List Rd}(o:XL E t) (hB:Rn E cap bs):∃ c,nr t bs=some c/\(c=false->∀ (pre post:List lg) (d:Nat) (Ib:yf lg),¬ Ag (Pf E) cap (Va pre (ze t) post bs) pre.length d Ib) /\
  (c=true->(∃ k,t.mm=some k/\ze t=(t.core,.run (sf (.sd k))))/\t.ye=0/\∀ (W:rq p E U) (pre post:List lg),nv p E U (Va pre (ze t) post bs)->∃ d Ib,Ag (Pf E) cap (Va pre (ze t) post bs) pre.length d Ib):=by
 unfold nr;rcases o with ⟨g,i,h,d,a⟩ | ⟨g,i,n,v,k,h,a⟩ | ⟨g,i,n,k,h,a⟩ | ⟨g,i,h⟩ | ⟨g,i⟩
 ·rw [if_pos g];have f:ze t=(t.core,.run (.sd (.Yi d))):=by unfold ze;rw [if_neg (by omega),if_neg (by omega),a];rfl
  refine ⟨true,rfl,λe=>(by cases e),λ_=>⟨⟨_,a,f⟩,h,λW pre post j=>?_⟩⟩;rw [f] at j ⊢;obtain ⟨C,L,r,u⟩:=(j.na pre.length _ fl:Al p (U pre.length) (t.core,.run (.sd (.Yi d)))) _ rfl;obtain ⟨n,A,q,Fg,B,dc,-,-,-,w,-⟩:=safe (c:=.sd (.Yi d)) (W.ok pre.length) r (λy=>False.elim y) (λx l s e k v z _=>(by cases z)) u;exact ⟨_,_,.Ig fl<|show Pf E (t.core,.run<|.sd<|.Yi d)=_ from dc.act w⟩
 ·rw [if_neg (by omega),if_pos g];obtain ⟨b,pa,a2,a3,a4,a5,zb,Ab⟩:=hB.at a;have f:ze t=(t.core,.run (.send n v k)):=by unfold ze;rw [if_neg (by omega),if_neg (by omega),h];rfl
  rw [pa,f];simp only [Option.bind_some];refine ⟨_,rfl,λe pre post=>?_,λe=>⟨⟨_,h,rfl⟩,i,λW pre post j=>?_⟩⟩
  ·exact MJ hB a a2 (by simpa using e)
  ·have m:(b.words.length:Int)<b.cap:=by simpa using e
   exact ⟨_,_,.send fl (show rh E t.core (.send n v k)=.send t.box.toNat v 0 _ by rw [rh,a]) Ab zb (by omega)⟩
 ·rw [if_neg (by omega),if_neg (by omega),if_pos g];obtain ⟨b,pa,a2,a3,a4,a5,zb,Ab⟩:=hB.at a;have f:ze t=(t.core,.run (.recv n k)):=by unfold ze;rw [if_neg (by omega),if_neg (by omega),h];rfl
  rw [pa,f];simp only [Option.bind_some];refine ⟨_,rfl,λe pre post=>?_,λe=>⟨⟨_,h,rfl⟩,i,λW pre post j=>?_⟩⟩
  ·refine NJ hB a a2 ?_;have D:¬ (0:Int)<b.words.length:=by simpa using e
   have this:b.words.length=0:=by omega
   exact List.length_eq_zero_iff.1 this
  ·have m:(0:Int)<b.words.length:=by simpa using e
   cases hw:b.words with
   | nil=>rw [hw] at m; simp at m
   | cons v ws=>exact ⟨_,_,.recv fl (show rh E t.core (.recv n k)=.recv t.box.toNat 0 _ by rw [rh,a]) (by rw [<- hw]; exact Ab)⟩
 ·rw [if_neg (by omega),if_neg (by omega),if_neg (by omega)];have f:ze t=(t.core,.done):=by unfold ze;rw [if_pos g]
  rw [f];exact ⟨false,rfl,λ_ pre post=>OA λc=>(by simp),λe=>by cases e⟩
 ·rw [if_neg (by omega),if_neg (by omega),if_neg (by omega)];have f:ze t=(t.core,.ye t.ye):=by unfold ze;rw [if_neg (by omega),if_pos g]
  rw [f];exact ⟨false,rfl,λ_ pre post=>OA λc=>(by simp),λe=>by cases e⟩
def IW (p:qb) (E:Sd) (U:Nat->Ug) (cap:List Nat) (N:Nat) (s:yf lg) (nd:Nat) (mc:Bool) (all:List xd) (na:List xd) (bs:List Rd):Option (List xd×List Rd×Int×Bool)->Prop
 | none=>∃ m d Ib,hg (Pf E) cap s m d Ib/\20000<nd+d
 | some (ts',a,c,b)=>∃ m d,hg (Pf E) cap s m d (Ni ts' a)/\c=((nd+d:Nat):Int)/\Inv p E U cap N ts' a (nd+d)/\(b=true->mc=true\/1<=m)/\(b=false->mc=false/\ts'=all/\a=bs/\∀ t ∈ na,nr t bs=some false)/\ts'.length=all.length/\a.length=bs.length
theorem kS {α:Type}{l:List α}{a:α}(h:a ∈ l):∃ i:Nat,l[i]?=some a:=List.mem_iff_getElem?.1 h
theorem VD (W:rq p E U){N n:Nat}(K:N+2<=n) (L:N<=4000000000):∀ (na pre:List xd) (bs:List Rd) (nd:Nat) (mc:Bool),Inv p E U cap N (pre++na) bs nd->∃ r,Xp E n pre na bs nd mc=some r/\IW p E U cap N (Ni (pre++na) bs) nd mc (pre++na) na bs r
 | [],pre,bs,nd,mc,a=>by
  rw [Xp];rw [List.append_nil] at a ⊢;exact ⟨_,rfl,0,0,.nil,rfl,a,λh=>.inl h,λh=>⟨h,rfl,rfl,λt T=>by cases T⟩,rfl,rfl⟩
 | t::na,pre,bs,nd,mc,a=>by
  have V:=a.j t (by simp);obtain ⟨c,M,gb,c2⟩:=zK (p:=p) (U:=U) V a.Ya;rw [Xp,M];simp only [Option.bind_some];cases c with
  | false =>
   rw [if_neg (by simp)];have A:Inv p E U cap N ((pre++[t])++na) bs nd:=by simpa using a
   obtain ⟨r,g,l⟩:=VD W K L na (pre++[t]) bs nd mc A;refine ⟨r,g,?_⟩;rw [List.append_assoc,List.singleton_append] at l;cases r with
   | none=>exact l
   | some r =>
    obtain ⟨ts',X,Y,Z⟩:=r;obtain ⟨m,d,f,B,C,u,D,F⟩:=l;refine ⟨m,d,f,B,C,u,λh=>?_,F⟩;obtain ⟨pa,a2,a3,a4⟩:=D h;exact ⟨pa,a2,a3,λx b=>by
     rcases List.mem_cons.1 b with rfl | b
     ·exact M
     ·exact a4 x b⟩
  | true =>
   rw [if_pos rfl];obtain ⟨⟨k,bb,O⟩,Gb,gc⟩:=c2 rfl;have q:=a.eu;rw [ZA] at q;obtain ⟨d0,lc,k0⟩:=gc W _ _ q;have v:Ni (pre++t::na) bs=Va (pre.map ze) (t.core,.run (sf (.sd k))) (na.map ze) bs:=by rw [ZA,O]
   rw [O] at q k0;have rc:ly E n ⟨t,bs,nd⟩=bt E n (some k) ⟨{ t with state:=1,box:=0 },bs,nd⟩:=by
    exact congrArg (λo=>bt E n o ⟨{ t with state:=1,box:=0 },bs,nd⟩) bb
   have fd:=a.YL;have id:=a.out t (by simp);rw [v] at fd id;have ne:=a.TG;rcases rB (cap:=cap) W (pre:=pre.map ze) (post:=na.map ze) (Ip (Va (pre.map ze) (t.core,.run (sf (.sd k))) (na.map ze) bs) nd+1) (.sd k) { t with state:=1,box:=0 } bs nd q a.TG (by show t.out.length+_<=_;omega) a.Ya rfl rfl Gb with ⟨r,g,l⟩ | ⟨d,Ib,g,l⟩
   ·have la:=yK _ (Nat.le_refl _) g n (by omega);rw [rc,la];simp only [Option.bind_some];rw [v];cases r with
    | none=>exact ⟨_,rfl,l⟩
    | some z =>
     obtain ⟨m,d,f,B,C,u,D,F⟩:=l;replace f:hg (Pf E) cap (Va (pre.map ze) (t.core,.run (sf (.sd k))) (na.map ze) bs) m d (Va (pre.map ze) (ze z.t) (na.map ze) z.boxes):=f;have Ne:1<=m:=by
      rcases Nat.eq_zero_or_pos m with rfl | h
      ·have e:=f.zero;have md:Ag (Pf E) cap (Va (pre.map ze) (ze z.t) (na.map ze) z.boxes) (pre.map ze).length d0 lc:=by rw [<- e];exact k0
       exact (D _ _ md).elim
      ·exact h
     obtain ⟨ka,jd⟩:=UD W f q;have w:Ni (pre++z.t::na) z.boxes=Va (pre.map ze) (ze z.t) (na.map ze) z.boxes:=ZA;have of:Ip (Ni (pre++z.t::na) z.boxes) (nd+d)+m<=Ip (Va (pre.map ze) (t.core,.run (sf (.sd k))) (na.map ze) bs) nd:=by
      rw [w];unfold Ip;omega
     have A:Inv p E U cap N (pre++z.t::na) z.boxes (nd+d):=by
      refine ⟨?_,u,λx b=>?_,C,by omega,λx b=>?_⟩
      ·rw [w];exact f.own W.own q
      ·simp only [List.mem_append,List.mem_cons] at b;rcases b with b | rfl | b
       ·exact a.j x (by simp [b])
       ·exact .inr F
       ·exact a.j x (by simp [b])
      ·obtain ⟨i,rd⟩:=kS b;obtain ⟨y,P,wf⟩:=jd i (ze x) (by
        rw [<- w];show ((pre++z.t::na).map ze)[i]?=_;rw [List.getElem?_map,rd];rfl)
       rw [<- v] at P;have Q:((pre++t::na).map ze)[i]?=some y:=P;rw [List.getElem?_map] at Q;obtain ⟨t0,t1,t2⟩:=Option.map_eq_some_iff.1 Q;have wd:=a.out t0 (List.mem_of_getElem? t1);rw [v] at wd;have sa:(ze x).1.out.length=x.out.length:=rfl;have If:y.1.out.length=t0.out.length:=by rw [<- t2];rfl
       omega
     have dg:z.boxes.length=bs.length:=by
      have R:=u.cap;have Fd:=a.Ya.cap;rw [Fd] at R;have:=congrArg List.length R;simpa using this.symm
     have Id:Inv p E U cap N ((pre++[z.t])++na) z.boxes (nd+d):=by simpa using A
     obtain ⟨r',s1,s2⟩:=VD W K L na (pre++[z.t]) z.boxes (nd+d) true Id;rw [List.append_assoc,List.singleton_append] at s2;refine ⟨r',by show Xp E n (pre++[z.t]) na z.boxes z.nodes true=_;rw [B];exact s1,?_⟩;rw [w] at s2;cases r' with
     | none =>
      obtain ⟨G,s,Ib,H,S⟩:=s2;exact ⟨m+G,d+s,Ib,f.app H,by omega⟩
     | some r' =>
      obtain ⟨ts',X,Y,Z⟩:=r';obtain ⟨G,s,H,S,be,rg,ce,ge,bi⟩:=s2;refine ⟨m+G,d+s,f.app H,by rw [S];congr 1;omega,by rw [show nd+(d+s)=nd+d+s by omega];exact be,λ_=>.inr (by omega),λh=>?_,by simpa using ge,by omega⟩;have:=(ce h).1;cases this
   ·exfalso;replace g:hg (Pf E) cap (Va (pre.map ze) (t.core,.run (sf (.sd k))) (na.map ze) bs) _ d Ib:=g;have:=(UD W g q).1;unfold Ip at this;omega
theorem kI (W:rq p E U){N n:Nat}(u:N+2<=n) (v:N<=4000000000):∀ (M m:Nat) (na:List xd) (bs:List Rd) (nd:Nat),Inv p E U cap N na bs nd->Ip (Ni na bs) nd<M->M<=m->∃ r,dr E n m na bs nd=some r/\match r with
  | none=>∃ k d Ib,hg (Pf E) cap (Ni na bs) k d Ib/\20000<nd+d
  | some (ts',a,b)=>∃ k d,hg (Pf E) cap (Ni na bs) k d (Ni ts' a)/\b=((nd+d:Nat):Int)/\Inv p E U cap N ts' a (nd+d)/\Ly (Pf E) cap (Ni ts' a)/\(∀ t ∈ ts',nr t a=some false)/\ts'.length=na.length/\a.length=bs.length
 | 0,m,na,bs,nd,l,w,hm=>by omega
 | M+1,m,na,bs,nd,l,w,hm=>by
  obtain ⟨m,rfl⟩:∃ k,m=k+1:=⟨m - 1,by omega⟩;obtain ⟨r,C,o⟩:=VD (cap:=cap) W u v na [] bs nd false l;rw [dr,C];simp only [Option.bind_some];rw [List.nil_append] at o;cases r with
  | none=>exact ⟨_,rfl,o⟩
  | some r =>
   obtain ⟨ts',a,b,D⟩:=r;obtain ⟨k,d,g,y,e,F,G,Q,R⟩:=o;cases D with
   | true =>
    have S:1<=k:=by
     rcases F rfl with h | h
     ·cases h
     ·exact h
    have T:=(UD W g l.eu).1;have V:=e.TG;obtain ⟨r',s1,s2⟩:=kI W u v M m ts' a (nd+d) e (by unfold Ip at w ⊢;omega) (by omega);refine ⟨r',by show (if true=true then dr E n m ts' a b else some (some (ts',a,b)))=_;rw [if_pos rfl,y];exact s1,?_⟩;cases r' with
    | none =>
     obtain ⟨k',f,Ib,q,z⟩:=s2;exact ⟨k+k',d+f,Ib,g.app q,by omega⟩
    | some r' =>
     obtain ⟨X,Y,Z⟩:=r';obtain ⟨k',f,q,z,H,K,L,bb,Gb⟩:=s2;exact ⟨k+k',d+f,g.app q,by rw [z];congr 1;omega,by rw [show nd+(d+f)=nd+d+f by omega];exact H,K,L,by omega,by omega⟩
   | false =>
    obtain ⟨-,rfl,rfl,a4⟩:=G rfl;refine ⟨some (ts',a,b),by show (if false=true then dr E n m ts' a b else some (some (ts',a,b)))=_;rw [if_neg (by simp)],k,d,g,y,e,λi c Ib s=>?_,a4,rfl,rfl⟩;have A:i<ts'.length:=by
     have:∃ x,(Ni ts' a).na[i]?=some x:=by cases s<;>exact ⟨_,by assumption⟩
     obtain ⟨x,O⟩:=this;have:=(List.getElem?_eq_some_iff.1 O).1;simpa [Ni] using this
    have P:ts'=ts'.take i++ts'[i]::ts'.drop (i+1):=by simp
    obtain ⟨gc,lb,sa,-⟩:=zK (p:=p) (U:=U) (e.j _ (List.getElem_mem A)) e.Ya;rw [a4 _ (List.getElem_mem A)] at lb;cases lb;have la:i=((ts'.take i).map ze).length:=by simp;omega
    rw [P,ZA] at s;have B:=sa rfl ((ts'.take i).map ze) ((ts'.drop (i+1)).map ze) c Ib;rw [<- la] at B;exact B s
end
end
section
open Go.Bc Go.Re
def Mi (d:va):Bool:=decide (d.Kind=1)
def ph (d:va):Bool:=decide (d.Kind=4)
structure Yu (l:List va) (u:Qn):Prop where
 D:∀ d ∈ l,Sa u.D d.Name=some d
 Do:∀ n d,Sa u.D n=some d->d ∈ l/\d.Name=n
 bs:u.bs=(l.filter Mi).map λd=>⟨d.Ie,[]⟩
 na:u.na=(l.filter ph).map Hk
 O:∀ (j:Nat) d,(l.filter Mi)[j]?=some d->Sa u.O d.Name=some (j:Int)
 gu:∀ n i,Sa u.O n=some i->∃ (j:Nat) (d:va),i=(j:Int)/\(l.filter Mi)[j]?=some d/\d.Name=n
theorem Yu.snoc {l:List va}{u:Qn}(h:Yu l u){d:va}(k:∀ e ∈ l,e.Name≠d.Name):Yu (l++[d]) (Th u d):=by
 have m:(Th u d).D=dd u.D d.Name d:=by unfold Th tt qt;split<;>split<;>rfl
 have o:(Th u d).O=if d.Kind=1 then dd u.O d.Name (u.bs.length:Int) else u.O:=by unfold Th tt qt;split<;>split<;>rfl
 have hB:(Th u d).bs=if d.Kind=1 then u.bs++[⟨d.Ie,[]⟩] else u.bs:=by unfold Th tt qt;split<;>split<;>rfl
 have r:(Th u d).na=if d.Kind=4 then u.na++[Hk d] else u.na:=by unfold Th tt qt;split<;>split<;>rfl
 have g:(l++[d]).filter Mi=l.filter Mi++if d.Kind=1 then [d] else []:=by
  rw [List.filter_append];congr 1;by_cases c:d.Kind=1<;>simp [Mi,c]
 have s:(l++[d]).filter ph=l.filter ph++if d.Kind=4 then [d] else []:=by
  rw [List.filter_append];congr 1;by_cases c:d.Kind=4<;>simp [ph,c]
 have p:u.bs.length=(l.filter Mi).length:=by rw [h.bs,List.length_map]
 refine ⟨λe f=>?_,λn e f=>?_,?_,?_,λj e f=>?_,λn i f=>?_⟩
 ·rw [m,sk];rcases List.mem_append.1 f with f | f
  ·rw [if_neg (k e f).symm];exact h.D e f
  ·rw [List.mem_singleton.1 f,if_pos rfl]
 ·rw [m,sk] at f;split at f
  ·rename_i q;cases f;exact ⟨by simp,q⟩
  ·obtain ⟨a,b⟩:=h.Do n e f;exact ⟨by simp [a],b⟩
 ·rw [hB,g];split<;>simp [h.bs]
 ·rw [r,s];split<;>simp [h.na]
 ·rw [g] at f;rw [o];by_cases c:d.Kind=1
  ·rw [if_pos c] at f ⊢;rw [sk];by_cases t:j<(l.filter Mi).length
   ·rw [List.getElem?_append_left t] at f;rw [if_neg (k e (List.mem_filter.1 (List.mem_of_getElem? f)).1).symm];exact h.O j e f
   ·rw [List.getElem?_append_right (by omega)] at f;have v:j=(l.filter Mi).length:=by have:=(List.getElem?_eq_some_iff.1 f).1;simp at this;omega
    subst v;simp at f;subst f;rw [if_pos rfl,p]
  ·rw [if_neg c] at f ⊢;rw [List.append_nil] at f;exact h.O j e f
 ·rw [o] at f;rw [g];by_cases c:d.Kind=1
  ·rw [if_pos c] at f ⊢;rw [sk] at f;split at f
   ·rename_i q;cases f;exact ⟨_,d,rfl,by rw [p];simp,q⟩
   ·obtain ⟨j,e,sa,w,x⟩:=h.gu n i f;exact ⟨j,e,sa,oo w,x⟩
  ·rw [if_neg c] at f ⊢;rw [List.append_nil];exact h.gu n i f
theorem eJ:∀ (xs pre:List va) (u:Qn),Yu pre u->(pre++xs).Pairwise (λa b=>a.Name≠b.Name)->Yu (pre++xs) (xs.foldl Th u)
 | [],pre,u,h,_=>by simpa using h
 | d::xs,pre,u,h,c=>by
  have f:∀ e ∈ pre,e.Name≠d.Name:=λe g=>(List.pairwise_append.1 c).2.2 e g d (by simp);have:=eJ xs (pre++[d]) (Th u d) (h.snoc f) (by simpa using c);simpa using this
theorem lS {l:List va}(c:l.Pairwise λa b=>a.Name≠b.Name):Yu l (Mg l):=
 eJ l [] ⟨[],[],[],[]⟩ ⟨λd h=>(by cases h),λn d h=>(by cases h),rfl,rfl,λj d h=>(by simp at h),λn i h=>(by cases h)⟩ c
def UG (N:List (Nm×va)) (t:va):Ug:=⟨λn=>∃ d,pq N t d/\n ∈ Hj d,λn=>∃ d,pq N t d/\n ∈ Jq d,λn=>∃ d,pq N t d/\n ∈ Kq d⟩
def Xm (N:List (Nm×va)) (na:List va) (i:Nat):Ug:=match na[i]? with
 | some t=>UG N t
 | none=>⟨λ_=>False,λ_=>False,λ_=>False⟩
theorem Wo {α β:Type}{f:α->List β}{l:List α}{a:α}{b:β}(c:a ∈ l) (d:b ∈ f a):b ∈ (l.map f).flatten:=by
 simp only [List.mem_flatten,List.mem_map];exact ⟨f a,⟨a,c,rfl⟩,d⟩
theorem ZK {U:Ug}:∀ (k:Nat) (x:Na),Uy k x->(∀ n ∈ Qk k x,U.c n)->(∀ n ∈ Hl k x,U.r n)->ez U x
 | 0,x,h,_,_=>h.elim
 | k+1,x,h,a,b=>by
  rw [Qk] at a;rw [Hl] at b;refine .mk (λe=>a _ ?_) (λe=>b _ ?_) λy d=>ZK k y (h.2.2.2.2.2.2 y d) (λn f=>a n<|List.mem_append_right _<|Wo d f) λn f=>b n (List.mem_append_right _<|Wo d f)
  ·rw [if_pos e];simp
  ·rw [if_pos e];simp
theorem mG {U:Ug}:∀ (k:Nat) (x:Pa),fv k x->(∀ n ∈ wj k x,U.c n)->(∀ n ∈ Xj k x,U.s n)->(∀ n ∈ Wj k x,U.r n)->fz U x
 | 0,x,h,_,_,_=>h.elim
 | k+1,x,h,d,f,g=>by
  rw [wj] at d;rw [Xj] at f;rw [Wj] at g;refine .mk (λe=>f _ ?_) (λe=>ZK k _ (h.2.2.1 e) (λn a=>d n ?_)<|λn a=>g n ?_) (λe y b=>mG k y ((h.2.2.2.2.1 e).2 y b) (λn a=>d n ?_) (λn a=>f n ?_)<|λn a=>g n ?_)<|λe y b=>mG k y ((h.2.2.2.2.2 e).2 y b) (λn a=>d n ?_) (λn a=>f n ?_)<|λn a=>g n ?_
  ·rw [if_pos e];simp
  ·rw [if_neg e];simp [a]
  ·rw [if_neg e];simp [a]
  ·refine List.mem_append_left _<|List.mem_append_right _ ?_;rw [if_pos e];exact Wo b a
  ·refine List.mem_append_left _<|List.mem_append_right _ ?_;rw [if_pos e];exact Wo b a
  ·refine List.mem_append_left _<|List.mem_append_right _ ?_;rw [if_pos e];exact Wo b a
  ·refine List.mem_append_right _ ?_;rw [if_pos e];exact Wo b a
  ·refine List.mem_append_right _ ?_;rw [if_pos e];exact Wo b a
  ·refine List.mem_append_right _ ?_;rw [if_pos e];exact Wo b a
structure Sh (p:qb) (l:List va) (fu:Nat):Prop where
 R:yo p l
 F:∀ d ∈ l,Vt d
 T:∀ d ∈ l,d.Kind≠1->∃ a,hk p d ([if d.Kind=4 then [] else Kt d]++[[]]) d.Body a
 JW:500<=fu
 PW:(Ar (Uk p.named fu l []) l l 0 []).2.Te=0
theorem sQ {fu:Nat}(e:500<=fu){l:List va}{f:Vd}(h:Xq fu l=some f) (i:f.Te=0):∃ p,Sh p l fu:=by
 obtain ⟨p,g,j,k⟩:=kH fu e l;rw [Xq] at h;obtain ⟨r,d,h⟩:=te h;obtain rfl:=Option.some.inj h;rcases k with ⟨a,b⟩ | ⟨a,b,c⟩
 ·rw [b] at d;cases d;exact absurd i a
 ·rw [c] at d;cases d;obtain ⟨m,n⟩:=kQ e j a;exact ⟨p,b,m,n,e,i⟩
theorem mS {fu:Nat}(d:500<=fu) (l:List va):∃ f,Xq fu l=some f:=by
 obtain ⟨p,g,h,e⟩:=kH fu d l;rw [Xq];rcases e with ⟨a,b⟩ | ⟨a,b,c⟩
 ·rw [b];exact ⟨_,rfl⟩
 ·rw [c];exact ⟨_,rfl⟩
section
variable {p:qb}{l:List va}{fu:Nat}
theorem Sh.set (h:Sh p l fu):Yu l (Mg l):=lS h.R.nd
theorem Sh.Lq (h:Sh p l fu) (n:Nm):Sa (Mg l).env.defs n=Sa p.named n:=by
 show Sa (Mg l).D n=_;cases e:Sa p.named n with
 | some d =>
  obtain ⟨a,rfl⟩:=h.R.only _ _ e;exact h.set.D d a
 | none =>
  cases b:Sa (Mg l).D n with
  | none=>rfl
  | some d =>
   obtain ⟨a,rfl⟩:=h.set.Do _ _ b;rw [h.R.hc d a] at e;cases e
theorem Sh.Tw (h:Sh p l fu){N:List (Nm×va)}{t f:va}(e:f ∈ l) (k1:f.Kind≠1) (c:pq N t f):vj (UG N t) f.Body:=by
 have d:=((h.F f e).dx k1).2;exact ⟨⟨39,d⟩,λy b=>mG 39 y (d y b) (λn a=>⟨f,c,Wo b a⟩) (λn a=>⟨f,c,Wo b a⟩) λn a=>⟨f,c,Wo b a⟩⟩
theorem Sh.KW (h:Sh p l fu) (i:Nat):vn p (Xm p.named (l.filter ph) i) (Mg l).env where
 Ca n f e:=h.R.Ca f (h.R.only n f e).1
 Eh n f hu e k1:=by
  unfold Xm at hu ⊢;split at hu
  ·obtain ⟨d,Ca,b⟩:=hu;exact h.Tw (h.R.only n f e).1 k1 (.step Ca b e)
  ·exact hu.elim
 ty n f e k1:=h.T f (h.R.only n f e).1 k1
 Lq n:=h.Lq n
 Wf n f e k1:=by
  obtain ⟨a,rfl⟩:=h.R.only n f e;obtain ⟨j,c⟩:=List.mem_iff_getElem?.1 (List.mem_filter.2 ⟨a,by simp [Mi,k1]⟩:f ∈ l.filter Mi);exact ⟨j,h.set.O j f c⟩
theorem aB {α:Type}{R:α->α->Prop}{l:List α}(h:l.Pairwise R){i j:Nat}{a b:α}(c:l[i]?=some a) (d:l[j]?=some b) (e:i<j):R a b:=by
 obtain ⟨f,rfl⟩:=List.getElem?_eq_some_iff.1 c;obtain ⟨g,rfl⟩:=List.getElem?_eq_some_iff.1 d;exact List.pairwise_iff_getElem.1 h i j f g e
theorem Sh.snd (h:Sh p l fu){t:va}(b:t ∈ l) (Xe:t.Kind=4){d:va}(f:pq p.named t d){n:Nm}:(n ∈ Jq d->Lt (Uk p.named fu l []) n t)/\(n ∈ Kq d->Mt (Uk p.named fu l []) n t):=by
 obtain ⟨-,u,hu,-⟩:=IJ h.R fu h.JW t b (by omega);have c:=lQ hu f;have e:=AE p.named fu Xe l [] h.R.nd b;rw [hu] at e;refine ⟨λa=>⟨Xe,?_⟩,λa=>⟨Xe,?_⟩⟩
 ·rw [e];simpa using c.1 n a
 ·rw [e];simpa using c.2 n a
theorem Sh.one (h:Sh p l fu){n:Nm}{b:Int}(e:Sa (Mg l).env.order n=some b):(l.Pairwise λa c=>¬ (Lt (Uk p.named fu l []) n a/\Lt (Uk p.named fu l []) n c))/\l.Pairwise λa c=>¬ (Mt (Uk p.named fu l []) n a/\Mt (Uk p.named fu l []) n c):=by
 obtain ⟨j,d,rfl,Ca,rfl⟩:=h.set.gu n b e;obtain ⟨f,k1⟩:=List.mem_filter.1 (List.mem_of_getElem? Ca);obtain ⟨y,g⟩:=CE _ l l 0 [] h.PW d f (by simpa [Mi] using k1);obtain ⟨⟨-,pb⟩,-,Fb⟩:=BE _ d.Name l [] [] y (λt i=>(h.F t i).hc.Gq) g;exact ⟨pb,Fb⟩
theorem Sh.names (h:Sh p l fu):rq p (Mg l).env (Xm p.named (l.filter ph)) where
 ok:=h.KW
 ord:=⟨λn m i sa D=>by
   obtain ⟨j,d,rfl,Ca,rfl⟩:=h.set.gu n i sa;obtain ⟨E,F,e,C,rfl⟩:=h.set.gu m _ D;obtain rfl:j=E:=by omega
   rw [Ca] at C;cases C;rfl,λn i e=>by
   obtain ⟨j,d,rfl,-,-⟩:=h.set.gu n i e;omega,λn f e k1=>(h.R.Ca f (h.R.only n f e).1).ty (by omega)⟩
 s n i j k g y:=by
  obtain ⟨b,k⟩:=k;have o:=(h.one k).1.sublist (List.filter_sublist (p:=ph));have key:∀ i,(Xm p.named (l.filter ph) i).s n->∃ t,(l.filter ph)[i]?=some t/\Lt (Uk p.named fu l []) n t:=λi g=>by
   unfold Xm at g;split at g
   ·rename_i t u;obtain ⟨d,Ca,z⟩:=g;obtain ⟨A,B⟩:=List.mem_filter.1 (List.mem_of_getElem? u);exact ⟨t,u,(h.snd A (by simpa [ph] using B) Ca).1 z⟩
   ·exact g.elim
  obtain ⟨a,v,w⟩:=key i g;obtain ⟨c,x,Tc⟩:=key j y;rcases Nat.lt_trichotomy i j with q | q | q
  ·exact absurd ⟨w,Tc⟩<|aB o v x q
  ·exact q
  ·exact absurd ⟨Tc,w⟩<|aB o x v q
 r n i j k g y:=by
  obtain ⟨b,k⟩:=k;have o:=(h.one k).2.sublist (List.filter_sublist (p:=ph));have key:∀ i,(Xm p.named (l.filter ph) i).r n->∃ t,(l.filter ph)[i]?=some t/\Mt (Uk p.named fu l []) n t:=λi g=>by
   unfold Xm at g;split at g
   ·rename_i t u;obtain ⟨d,Ca,z⟩:=g;obtain ⟨A,B⟩:=List.mem_filter.1 (List.mem_of_getElem? u);exact ⟨t,u,(h.snd A (by simpa [ph] using B) Ca).2 z⟩
   ·exact g.elim
  obtain ⟨a,v,w⟩:=key i g;obtain ⟨c,x,Tc⟩:=key j y;rcases Nat.lt_trichotomy i j with q | q | q
  ·exact absurd ⟨w,Tc⟩<|aB o v x q
  ·exact q
  ·exact absurd ⟨Tc,w⟩<|aB o x v q
def gn (l:List va):List Nat:=(l.filter Mi).map λd=>d.Ie.toNat
theorem HI {α:Type}(f:α->Nat) (k:Nat):∀ (l:List α),(∀ x ∈ l,f x=k)->(l.map f).sum=k*l.length
 | [],_=>by simp
 | x::l,h=>by
  rw [List.map_cons,List.sum_cons,HI f k l λy a=>h y (by simp [a]),h x (by simp),List.length_cons,Nat.mul_succ];omega
theorem tQ (d:va):ze (Hk d)=(⟨[],[⟨d,none,false,false,false,none,none,none⟩],0,[]⟩,.run (.sd (.Yi d))):=rfl
theorem Sh.inv (h:Sh p l fu):Inv p (Mg l).env (Xm p.named (l.filter ph)) (gn l) 600180 (Mg l).na (Mg l).bs 0:=by
 have k:=h.set.na;have m:=h.set.bs;have H:(l.filter ph).length<=30:=Nat.le_trans (List.length_filter_le _ _) h.R.ok.le;have z:Xb (Ni (Mg l).na (Mg l).bs)=6*(l.filter ph).length:=by
  unfold Xb Ni;rw [k];simp only [List.map_map];exact HI _ 6 _ λd _=>rfl
 have A:Ip (Ni (Mg l).na (Mg l).bs) 0<=600180:=by unfold Ip;rw [z];omega
 refine ⟨⟨λi x B=>?_,λb w C v Oa=>?_⟩,⟨?_,λb q=>?_,λn i e=>?_⟩,λt f=>?_,by omega,A,λt f=>?_⟩
 ·have r:((Mg l).na.map ze)[i]?=some x:=B;rw [k,List.map_map,List.getElem?_map] at r;obtain ⟨d,Ca,rfl⟩:=Option.map_eq_some_iff.1 r;obtain ⟨o,m2⟩:=List.mem_filter.1 (List.mem_of_getElem? Ca);have Xe:d.Kind=4:=by simpa [ph] using m2
  have D:Xm p.named (l.filter ph) i=UG p.named d:=by unfold Xm;rw [Ca]
  show Al p (Xm p.named (l.filter ph) i) (ze (Hk d));rw [D,tQ];intro c a;cases a;obtain ⟨E,hf⟩:=h.T d o (by omega);rw [if_pos Xe] at hf;have s:∀ (g:Nat) (c:Ng),([⟨d,none,false,false,false,none,none,none⟩]:List Ng)[g]?=some c->g=0/\c=⟨d,none,false,false,false,none,none,none⟩:=λg c a=>by
   cases g with
   | zero=>simp at a; exact ⟨rfl,a.symm⟩
   | succ g=>simp at a
  refine ⟨⟨[d],[]⟩,[],⟨⟨rfl,λi c a=>by simp at a⟩,rfl,λg c a=>?_,by simp,by simp,.main,List.nodup_nil,λg c a G=>?_,λK u=>?_⟩,rfl,Xe,h.Tw o (by omega) .refl,E,hf⟩
  ·obtain ⟨rfl,rfl⟩:=s g c a;exact ⟨rfl,λe=>by omega,λe=>by omega,λe=>by omega,λe=>by omega,λ_=>⟨rfl,rfl⟩⟩
  ·obtain ⟨rfl,rfl⟩:=s g c a;cases G
  ·simp at u;subst u;omega
 ·have y:((Mg l).bs.map Rd.words)[b]?=some w:=C;rw [m,List.map_map,List.getElem?_map] at y;obtain ⟨d,-,rfl⟩:=Option.map_eq_some_iff.1 y;cases Oa
 ·rw [m,List.map_map];rfl
 ·rw [m] at q;obtain ⟨d,Ca,rfl⟩:=List.mem_map.1 q;obtain ⟨o,m2⟩:=List.mem_filter.1 Ca;have:=(h.F d o).bj (by simpa [Mi] using m2);exact ⟨by show 0<=d.Ie;omega,by show d.Ie<=100;omega,by show ((0:Nat):Int)<=d.Ie;omega⟩
 ·obtain ⟨j,d,rfl,Ca,-⟩:=h.set.gu n i e;rw [m,List.length_map];have:=(List.getElem?_eq_some_iff.1 Ca).1;omega
 ·rw [k] at f;obtain ⟨d,-,rfl⟩:=List.mem_map.1 f;exact .inl ⟨rfl,rfl,rfl,d,rfl⟩
 ·rw [k] at f;obtain ⟨d,-,rfl⟩:=List.mem_map.1 f;show 0+_<=_;omega
def Mq (l:List va):yf lg:=⟨(l.filter ph).map λd=>ze (Hk d),(l.filter Mi).map λ_=>[]⟩
theorem Sh.vd (h:Sh p l fu):Ni (Mg l).na (Mg l).bs=Mq l:=by
 unfold Ni Mq;rw [h.set.na,h.set.bs,List.map_map,List.map_map];rfl
theorem Sh.pW (h:Sh p l fu){n:Nat}(q:600200<=n):∃ r,hK n l=some r/\match r with
  | none=>∃ k d Ib,hg (Pf (Mg l).env) (gn l) (Mq l) k d Ib/\20000<d
  | some (ts',c,f)=>∃ k d,hg (Pf (Mg l).env) (gn l) (Mq l) k d (Ni ts' c)/\f=(d:Int)/\Inv p (Mg l).env (Xm p.named (l.filter ph)) (gn l) 600180 ts' c d/\Ly (Pf (Mg l).env) (gn l) (Ni ts' c)/\(∀ t ∈ ts',nr t c=some false)/\ts'.length=(l.filter ph).length/\c.length=(l.filter Mi).length:=by
 have g:=h.inv;obtain ⟨r,m,e⟩:=kI (cap:=gn l) h.names (n:=n) (by omega) (by omega) 600190 n _ _ 0 g (by have:=g.YL;omega) (by omega);refine ⟨r,m,?_⟩;rw [h.vd] at e;cases r with
 | none =>
  obtain ⟨k,d,Ib,a,b⟩:=e;exact ⟨k,d,Ib,a,by omega⟩
 | some r =>
  obtain ⟨ts',c,f⟩:=r;obtain ⟨k,d,pa,i,j,o,a5,zb,Ab⟩:=e;rw [Nat.zero_add] at i j;rw [h.set.na,List.length_map] at zb;rw [h.set.bs,List.length_map] at Ab;exact ⟨k,d,pa,i,j,o,a5,zb,Ab⟩
end
end
section
open Go.Bc Go.Re
structure Xt (p:qb) (l:List va) (na:List xd) (bs:List Rd) (k d:Nat):Prop where
 run:hg (Pf (Mg l).env) (gn l) (Mq l) k d (Ni na bs)
 inv:Inv p (Mg l).env (Xm p.named (l.filter ph)) (gn l) 600180 na bs d
 fin:Ly (Pf (Mg l).env) (gn l) (Ni na bs)
 can:∀ t ∈ na,nr t bs=some false
 hf:na.length=(l.filter ph).length
 Od:bs.length=(l.filter Mi).length
def jv (na:List xd) (bs:List Rd) (d:Nat):Ti:=⟨na.map xk,bs.map Rd.words,(d:Int)⟩
theorem iU {fu:Nat}(i:600200<=fu) (l:List va):∃ f,Xq fu l=some f/\(f.Te≠0->Vo fu l=some (⟨[],[],0⟩,f)) /\
  (f.Te=0->∃ p,Sh p l fu/\((Vo fu l=some (⟨[],[],0⟩,⟨10,0⟩)/\∃ k d Ib,hg (Pf (Mg l).env) (gn l) (Mq l) k d Ib/\20000<d)\/∃ na bs k d,Vo fu l=some (jv na bs d,⟨0,0⟩)/\Xt p l na bs k d)):=by
 obtain ⟨f,a⟩:=mS (fu:=fu) (by omega) l;refine ⟨f,a,λb=>?_,λb=>?_⟩
 ·unfold Vo;rw [a];simp only [Option.bind_some];rw [if_pos b]
 ·obtain ⟨p,P⟩:=sQ (by omega) a b;refine ⟨p,P,?_⟩;obtain ⟨r,j,g⟩:=P.pW i;have la:l.length<=30:=P.R.ok.le;have e:Vo fu l=KD r:=by
   unfold Vo;rw [a];simp only [Option.bind_some];rw [if_neg (by simpa using b),if_pos (by omega),j];rfl
  cases r with
  | none=>exact .inl ⟨e,g⟩
  | some r =>
   obtain ⟨na,bs,nd⟩:=r;obtain ⟨k,d,pa,rfl,h,m,a5,zb,Ab⟩:=g;refine .inr ⟨na,bs,k,d,?_,pa,h,m,a5,zb,Ab⟩;rw [e];show (if _ then _ else _)=_;have o:(l.filter ph).length<=30:=Nat.le_trans (List.length_filter_le _ _) la;have q:(l.filter Mi).length<=30:=Nat.le_trans (List.length_filter_le _ _) la;rw [if_pos ⟨by omega,by omega,List.all_eq_true.2 λc n=>by have:=h.Ya.le c n;simp;omega⟩];rfl
section
variable {p:qb}{l:List va}{na:List xd}{bs:List Rd}{k d:Nat}
end
end
section
open Go.Bc Go.Re
def Bn (x a:Na):Prop:=a=x\/∃ k,bH k x a
def Yj (x a:Pa):Prop:=a=x\/∃ k,cH k x a
def Ai {α:Type}(R:α->α->Prop) (l Aa:List α):Prop:=Aa.length=l.length/\∀ (i:Nat) (y a:α),l[i]?=some y->Aa[i]?=some a->R y a
theorem Ai.Nu {α:Type}{R:α->α->Prop}(h:∀ a,R a a){l:List α}:Ai R l l:=⟨Eq.refl _,λi y c a b=>by rw [a] at b;cases b;exact h y⟩
theorem Ai.get {α:Type}{R:α->α->Prop}{l Aa:List α}(h:Ai R l Aa){i:Nat}{y:α}(e:l[i]?=some y):∃ a,Aa[i]?=some a/\R y a:=by
 have la:=(List.getElem?_eq_some_iff.1 e).1;have b:Aa[i]?=some (Aa[i]'(by rw [h.1];exact la)):=List.getElem?_eq_getElem _;exact ⟨_,b,h.2 i _ _ e b⟩
theorem Ai.cons {α:Type}{R:α->α->Prop}{x:α}{l Aa:List α}(h:Ai R (x::l) Aa):∃ y m,Aa=y::m/\R x y/\Ai R l m:=by
 cases Aa with
 | nil=>have:=h.1; simp at this
 | cons y m=>exact ⟨y,m,rfl,h.2 0 _ _ rfl rfl,by have:=h.1; simpa using this,λi a b c d=>h.2 (i+1) a b (by simpa using c) (by simpa using d)⟩
theorem Ai.nG {α:Type}{R S:α->α->Prop}{l Aa:List α}(h:xC R l Aa) (d:∀ a b,R a b->S a b):Ai S l Aa:=⟨h.1,λi y e a b=>by
 obtain ⟨z,c,z2⟩:=h.2 i y a;rw [b] at c;cases c;exact d _ _ z2⟩
theorem Ai.app {α:Type}{R:α->α->Prop}{l Aa:List α}{a b:α}(h:Ai R l Aa) (f:R a b):Ai R (l++[a]) (Aa++[b]):=by
 refine ⟨by simp [h.1],λi y g e c=>?_⟩;by_cases d:i<l.length
 ·rw [List.getElem?_append_left d] at e;rw [List.getElem?_append_left (by rw [h.1];exact d)] at c;exact h.2 i _ _ e c
 ·rw [List.getElem?_append_right (by omega)] at e;rw [List.getElem?_append_right (by rw [h.1];omega),h.1] at c;generalize i - l.length=j at e c;cases j with
  | zero=>simp at e c; subst e c; exact f
  | succ j=>simp at e
theorem Ai.set {α:Type}{R:α->α->Prop}{l Aa:List α}{a b:α}{j:Nat}(h:Ai R l Aa) (f:R a b):Ai R (l.set j a) (Aa.set j b):=by
 refine ⟨by simp [h.1],λi y g e d=>?_⟩;rw [List.getElem?_set] at e d;by_cases c:j=i
 ·rw [if_pos c] at e d;split at e
  ·split at d
   ·cases e;cases d;exact f
   ·cases d
  ·cases e
 ·rw [if_neg c] at e d;exact h.2 i _ _ e d
theorem Bn.kind {x a:Na}(h:Bn x a):a.Kind=x.Kind:=by
 rcases h with rfl | ⟨k,h⟩
 ·rfl
 ·cases k with
  | zero=>exact h.elim
  | succ k=>exact h.1
theorem Bn.n {x a:Na}(h:Bn x a) (b:x.Kind=1\/x.Kind=2):a.N=x.N:=by
 rcases h with rfl | ⟨k,h⟩
 ·rfl
 ·cases k with
  | zero=>exact h.elim
  | succ k=>exact h.2.1 b
theorem Bn.name {x a:Na}(h:Bn x a) (b:x.Kind=3\/x.Kind=20\/x.Kind=19\/x.Kind=22):a.Name=x.Name:=by
 rcases h with rfl | ⟨k,h⟩
 ·rfl
 ·cases k with
  | zero=>exact h.elim
  | succ k=>exact h.2.2.1 b
theorem Bn.kids {x c:Na}(h:Bn x c):Ai Bn x.Kids c.Kids:=by
 rcases h with rfl | ⟨k,h⟩
 ·exact .Nu λa=>.inl rfl
 ·cases k with
  | zero=>exact h.elim
  | succ k=>exact .nG h.2.2.2 λa b q=>.inr ⟨k,q⟩
theorem Yj.kind {x a:Pa}(h:Yj x a):a.Kind=x.Kind:=by
 rcases h with rfl | ⟨k,h⟩
 ·rfl
 ·cases k with
  | zero=>exact h.elim
  | succ k=>exact h.1
theorem Yj.name {x a:Pa}(h:Yj x a) (b:x.Kind=1\/x.Kind=2\/x.Kind=7):a.Name=x.Name:=by
 rcases h with rfl | ⟨k,h⟩
 ·rfl
 ·cases k with
  | zero=>exact h.elim
  | succ k=>exact h.2.1 b
theorem Yj.x {x a:Pa}(h:Yj x a) (b:x.Kind≠6):Bn x.X a.X:=by
 rcases h with rfl | ⟨k,h⟩
 ·exact .inl rfl
 ·cases k with
  | zero=>exact h.elim
  | succ k=>exact .inr ⟨k,h.2.2.1 b⟩
theorem Yj.body {x c:Pa}(h:Yj x c) (d:x.Kind=3\/x.Kind=4):Ai Yj x.Body c.Body:=by
 rcases h with rfl | ⟨k,h⟩
 ·exact .Nu λa=>.inl rfl
 ·cases k with
  | zero=>exact h.elim
  | succ k=>exact .nG (h.2.2.2.1 d) λa b q=>.inr ⟨k,q⟩
theorem Yj.SG {x c:Pa}(h:Yj x c) (d:x.Kind=3):Ai Yj x.kf c.kf:=by
 rcases h with rfl | ⟨k,h⟩
 ·exact .Nu λa=>.inl rfl
 ·cases k with
  | zero=>exact h.elim
  | succ k=>exact .nG (h.2.2.2.2 d) λa b q=>.inr ⟨k,q⟩
def oC (d a:va):Prop:=a.Params.map TParam.Name=d.Params.map TParam.Name/\Ai Yj d.Body a.Body
theorem oC.Nu {d:va}:oC d d:=⟨Eq.refl _,.Nu λa=>.inl (Eq.refl _)⟩
theorem CD:∀ (zg a:List TParam) (vs:List Int) (S:List fi) (s:Option Nat),a.map TParam.Name=zg.map TParam.Name->Kj a vs S s=Kj zg vs S s
 | [],[],vs,S,s,h=>rfl
 | [],q::a,vs,S,s,h=>by simp at h
 | q::zg,[],vs,S,s,h=>by simp at h
 | q::zg,pk::a,[],S,s,h=>by rw [Kj,Kj]
 | q::zg,pk::a,v::vs,S,s,h=>by
  simp only [List.map_cons,List.cons.injEq] at h;rw [Kj,Kj,h.1];exact CD zg a vs _ _ h.2
mutual
def Nq:Ze->Ze->Prop
 | .all l s Jd k,q=>∃ Aa k',q=.all Aa s Jd k'/\Ai Bn l Aa/\dH k k'
 | .stat l s e k,q=>∃ Aa a k',q=.stat Aa s a k'/\Ai Yj l Aa/\Nw e a/\Oq k k'
 | .qf x s e k,q=>∃ b a k',q=.qf b s a k'/\Yj x b/\x.Kind=4/\Nw e a/\Oq k k'
termination_by structural x=>x
def dH:Zk->Zk->Prop
 | .ex x k,q=>∃ a k',q=.ex a k'/\Bn x a/\Nq k k'
termination_by structural x=>x
def Oq:fe->fe->Prop
 | .zero k,q=>∃ k',q=.zero k'/\Nq k k'
 | .recv n k,q=>∃ k',q=.recv n k'/\Nq k k'
 | .send n v k,q=>∃ k',q=.send n v k'/\Oq k k'
 | .done g,q=>q=.done g
 | .stats l s e k,q=>∃ Aa a k',q=.stats Aa s a k'/\Ai Yj l Aa/\Nw e a/\Oq k k'
 | .qf x s e k,q=>∃ b a k',q=.qf b s a k'/\Yj x b/\x.Kind=4/\Nw e a/\Oq k k'
 | .fin,q=>q=.fin
 | .Yi d,q=>∃ c,q=.Yi c/\Ai Yj d.Body c.Body
termination_by structural x=>x
def Nw:hh->hh->Prop
 | .ret k,q=>∃ k',q=.ret k'/\Nq k k'
 | .stop k,q=>∃ k',q=.stop k'/\Oq k k'
termination_by structural x=>x
end
def BC (o a:Option Ze):Prop:=(o=none/\a=none)\/∃ k k',o=some k/\a=some k'/\Nq k k'
theorem BC.some {o c:Option Ze}(h:BC o c){k:Ze}(e:o=.some k):∃ k',c=.some k'/\Nq k k':=by
 rcases h with ⟨a,b⟩ | ⟨a,b,d,f,g⟩
 ·rw [e] at a;cases a
 ·rw [e] at d;cases d;exact ⟨b,f,g⟩
structure ZL (c c':Ng):Prop where
 d:Ai Yj c.Im.Body c'.Im.Body
 args:c'.args=c.args
 begun:c'.begun=c.begun
 going:c'.going=c.going
 ended:c'.ended=c.ended
 up:c'.up=c.up
 back:BC c.back c'.back
 vk:BC c.vk c'.vk
structure ov (z a:Core):Prop where
 de:a.de=z.de
 now:a.now=z.now
 out:a.out=z.out
 Db:Ai ZL z.Db a.Db
def Kr:ah->ah->Prop
 | .expr x s k,q=>∃ a k',q=.expr a s k'/\Bn x a/\Nq k k'
 | .all l s Jd k,q=>∃ Aa k',q=.all Aa s Jd k'/\Ai Bn l Aa/\dH k k'
 | .stats l s e k,q=>∃ Aa b k',q=.stats Aa s b k'/\Ai Yj l Aa/\Nw e b/\Oq k k'
 | .qf x s e k,q=>∃ a b k',q=.qf a s b k'/\Yj x a/\x.Kind=4/\Nw e b/\Oq k k'
 | .ff k v,q=>∃ k',q=.ff k' v/\Nq k k'
 | .Jd k l,q=>∃ k',q=.Jd k' l/\dH k k'
 | .sd k,q=>∃ k',q=.sd k'/\Oq k k'
 | .recv n k,q=>∃ k',q=.recv n k'/\Nq k k'
 | .send n v k,q=>∃ k',q=.send n v k'/\Oq k k'
 | .resume g v k,q=>∃ k',q=.resume g v k'/\Nq k k'
def gz:xl->xl->Prop
 | .run c,q=>∃ c',q=.run c'/\Kr c c'
 | .done,q=>q=.done
 | .ye n,q=>q=.ye n
theorem ov.put {z a:Core}(h:ov z a){g n:Nat}{c c':Ng}(b:ZL c c'):ov { z with Db:=z.Db.set g c,now:=n } { a with Db:=a.Db.set g c',now:=n }:=⟨h.de,rfl,h.out,h.Db.set b⟩
theorem Pe.Xy {E E':Sd}{c c':ah}{z p x:Core}{n:Nat}{q:xl}(t:Pe E c z n x q) (b:ov z p) (j:Kr c c')
  (Ca:∀ y k l,c=.Jd (.ex y k) l->y.Kind=19\/y.Kind=22->∀ d,Sa E.defs y.Name=some d->∃ M,Sa E'.defs y.Name=some M/\oC d M) :
  ∃ C pk,Pe E' c' p n C pk/\ov x C/\gz q pk:=by
 have G:=b.de;have la:=b.Db.1;cases t with
 | Vy h=>obtain ⟨C,k',rfl,a,f⟩:=j; exact ⟨p,_,.Vy (by rw [a.kind]; exact h),b,_,rfl,k',by rw [a.n h],f⟩
 | var h i u=>obtain ⟨C,k',rfl,a,f⟩:=j; exact ⟨p,_,.var (by rw [a.kind]; exact h) (by rw [G,a.name (.inl h)]; exact i) (by rw [G]; exact u),b,_,rfl,k',rfl,f⟩
 | mC h=>obtain ⟨C,k',rfl,a,f⟩:=j; exact ⟨p,_,.mC (by rw [a.kind]; exact h),b,_,rfl,k',by rw [a.name (.inr (.inl h))],f⟩
 | nC L i u A=>obtain ⟨C,k',rfl,a,f⟩:=j; exact ⟨p,_,.nC (by rw [a.kind]; exact L) (by rw [a.kind]; exact i) (by rw [a.kind]; exact u) (by rw [a.kind]; exact A),b,_,rfl,_,_,rfl,a.kids,_,_,rfl,a,f⟩
 | KB h i =>
  obtain ⟨Aa,k',rfl,a,f⟩:=j;obtain ⟨Q,sa,H⟩:=a.get i;exact ⟨p,_,.KB (by rw [a.1];exact h) sa,b,_,rfl,_,_,rfl,H,_,_,rfl,a,f⟩
 | LB h=>obtain ⟨Aa,k',rfl,a,f⟩:=j; exact ⟨p,_,.LB (by rw [a.1]; exact h),b,_,rfl,_,rfl,f⟩
 | nil =>
  obtain ⟨Aa,F,k',rfl,a,r,f⟩:=j;obtain rfl:Aa=[]:=List.length_eq_zero_iff.1 a.1;exact ⟨p,_,.nil,b,_,rfl,_,rfl,f⟩
 | stop h =>
  obtain ⟨Aa,F,k',rfl,a,r,f⟩:=j;obtain ⟨y,m,rfl,w,D⟩:=a.cons;obtain ⟨pk,rfl,N⟩:=r;exact ⟨p,_,.stop (by rw [w.kind];exact h),b,_,rfl,_,rfl,N⟩
 | yC h =>
  obtain ⟨Aa,F,k',rfl,a,r,f⟩:=j;obtain ⟨y,m,rfl,w,D⟩:=a.cons;exact ⟨p,_,.yC (by rw [w.kind];exact h),b,_,rfl,_,_,_,rfl,w,h,r,_,_,_,rfl,D,r,f⟩
 | st L i =>
  obtain ⟨Aa,F,k',rfl,a,r,f⟩:=j;obtain ⟨y,m,rfl,w,D⟩:=a.cons;exact ⟨p,_,.st (by rw [w.kind];exact L) (by rw [w.kind];exact i),b,_,rfl,_,_,rfl,w.x L,_,_,_,rfl,a,r,f⟩
 | qf =>
  obtain ⟨C,F,k',rfl,a,A,r,f⟩:=j;exact ⟨p,_,.qf,b,_,rfl,_,_,rfl,a.x (by omega),_,_,_,rfl,a,A,r,f⟩
 | MB h =>
  obtain ⟨k',rfl,Aa,B,rfl,a,f⟩:=j;exact ⟨p,_,.MB h,b,_,rfl,_,_,rfl,a,f⟩
 | Eo h =>
  obtain ⟨k',rfl,Aa,F,B,rfl,a,r,f⟩:=j;obtain ⟨y,m,rfl,w,D⟩:=a.cons;exact ⟨_,_,.Eo (by rw [w.kind];exact h),⟨by simp only;rw [G,w.name (.inl h)],b.now,b.out,b.Db⟩,_,rfl,_,rfl,_,_,_,by rw [G],D,r,f⟩
 | sset h i u =>
  obtain ⟨k',rfl,Aa,F,B,rfl,a,r,f⟩:=j;obtain ⟨y,m,rfl,w,D⟩:=a.cons;exact ⟨_,_,.sset (by rw [w.kind];exact h) (by rw [G,w.name (.inr (.inl h))];exact i) (by rw [G];exact u),⟨by simp only;rw [G],b.now,b.out,b.Db⟩,_,rfl,_,rfl,_,_,_,rfl,D,r,f⟩
 | @yq x l s e k v z h =>
  obtain ⟨k',rfl,Aa,F,B,rfl,a,r,f⟩:=j;obtain ⟨y,m,rfl,w,D⟩:=a.cons;refine ⟨p,_,.yq (by rw [w.kind];exact h),b,_,rfl,_,_,_,rfl,?_,r,_,_,_,rfl,D,r,f⟩;by_cases Oa:v≠0
  ·rw [if_pos Oa,if_pos Oa];exact w.body<|.inl h
  ·rw [if_neg Oa,if_neg Oa];exact w.SG h
 | oq h =>
  obtain ⟨k',rfl,Aa,F,B,rfl,a,r,f⟩:=j;obtain ⟨y,m,rfl,w,D⟩:=a.cons;obtain ⟨pk,rfl,N⟩:=r;exact ⟨p,_,.oq (by rw [w.kind];exact h),b,_,rfl,_,rfl,N⟩
 | jq h =>
  obtain ⟨k',rfl,Aa,F,B,rfl,a,r,f⟩:=j;obtain ⟨y,m,rfl,w,D⟩:=a.cons;exact ⟨p,_,.jq (by rw [w.kind];exact h),b,_,rfl,_,by rw [w.name (.inr (.inr h))],_,_,_,rfl,D,r,f⟩
 | @xp x l s e k v z o h i =>
  obtain ⟨k',rfl,Aa,F,B,rfl,a,r,f⟩:=j;obtain ⟨y,m,rfl,w,D⟩:=a.cons;exact ⟨{ p with out:=o },_,.xp (by rw [w.kind];exact h) (by rw [b.out];exact i),⟨G,b.now,rfl,b.Db⟩,_,rfl,_,rfl,_,_,_,rfl,D,r,f⟩
 | zq L i u A K O =>
  obtain ⟨k',rfl,Aa,F,B,rfl,a,r,f⟩:=j;obtain ⟨y,m,rfl,w,D⟩:=a.cons;have e:=w.kind;exact ⟨p,_,.zq (by rw [e];exact L) (by rw [e];exact i) (by rw [e];exact u) (by rw [e];exact A) (by rw [e];exact K) (by rw [e];exact O),b,_,rfl,_,rfl,_,_,_,rfl,D,r,f⟩
 | NB h =>
  obtain ⟨k',rfl,C,F,B,rfl,a,A,r,f⟩:=j;exact ⟨p,_,.NB h,b,_,rfl,_,rfl,f⟩
 | win h =>
  obtain ⟨k',rfl,C,F,B,rfl,a,A,r,f⟩:=j;exact ⟨p,_,.win h,b,_,rfl,_,_,_,rfl,a.body<|.inr A,r,_,_,_,rfl,a,A,r,f⟩
 | neg h i=>obtain ⟨k',rfl,C,B,rfl,a,f⟩:=j; exact ⟨p,_,.neg (by rw [a.kind]; exact h) i,b,_,rfl,_,rfl,f⟩
 | not h i=>obtain ⟨k',rfl,C,B,rfl,a,f⟩:=j; exact ⟨p,_,.not (by rw [a.kind]; exact h) i,b,_,rfl,_,rfl,f⟩
 | call h i u =>
  obtain ⟨k',rfl,C,B,rfl,a,f⟩:=j;obtain ⟨M,sa,H⟩:=Ca _ _ _ rfl (.inl h) _ i;exact ⟨_,_,.call (by rw [a.kind];exact h) (by rw [a.name (.inr (.inr (.inl h)))];exact sa) (by rw [G,CD _ _ _ _ _ H.1];exact u),⟨rfl,b.now,b.out,b.Db⟩,_,rfl,_,_,_,rfl,H.2,⟨_,rfl,f⟩,_,rfl,f⟩
 | xq h i u A K =>
  obtain ⟨k',rfl,C,B,rfl,a,f⟩:=j;obtain ⟨c',gb,g⟩:=b.Db.get u;obtain ⟨Rc,ka,jd⟩:=g.back.some K;refine ⟨_,_,.xq (by rw [a.kind];exact h) i (by rw [b.now];exact gb) (by rw [g.up];exact A) ka,?_,_,rfl,_,rfl,jd⟩;rw [b.now];exact b.put ⟨g.d,g.args,g.begun,rfl,g.ended,g.up,g.back,.inr ⟨_,_,rfl,rfl,f⟩⟩
 | many h i=>obtain ⟨k',rfl,C,B,rfl,a,f⟩:=j; exact ⟨p,_,.many (by rw [a.kind]; exact h) (by rw [la]; exact i),b,rfl⟩
 | start h i u A =>
  obtain ⟨k',rfl,C,B,rfl,a,f⟩:=j;obtain ⟨M,sa,H⟩:=Ca _ _ _ rfl (.inr h) _ u;exact ⟨_,_,.start (by rw [a.kind];exact h) (by rw [la];exact i) (by rw [a.name (.inr (.inr (.inr h)))];exact sa) (by rw [G,CD _ _ _ _ _ H.1];exact A),⟨rfl,b.now,b.out,b.Db.app ⟨H.2,rfl,rfl,rfl,rfl,rfl,.inl ⟨rfl,rfl⟩,.inl ⟨rfl,rfl⟩⟩⟩,_,rfl,_,by rw [la],f⟩
 | res h i u A=>obtain ⟨k',rfl,C,B,rfl,a,f⟩:=j; exact ⟨p,_,.res (by rw [a.kind]; exact h) i u (by rw [la]; exact A),b,_,rfl,_,rfl,f⟩
 | alive h i u A =>
  obtain ⟨k',rfl,C,B,rfl,a,f⟩:=j;obtain ⟨c',gb,g⟩:=b.Db.get A;exact ⟨p,_,.alive (by rw [a.kind];exact h) i u gb,b,_,rfl,_,by rw [g.ended],f⟩
 | OB h i=>obtain ⟨k',rfl,C,B,rfl,a,f⟩:=j; exact ⟨p,_,.OB (by rw [a.kind]; exact h) i,b,rfl⟩
 | two h i u A K=>obtain ⟨k',rfl,C,B,rfl,a,f⟩:=j; exact ⟨p,_,.two (by rw [a.kind]; exact h) (by rw [a.kind]; exact i) u A (by rw [a.kind]; exact K),b,_,rfl,_,rfl,f⟩
 | zero=>obtain ⟨k',rfl,B,rfl,f⟩:=j; exact ⟨p,_,.zero,b,_,rfl,_,rfl,f⟩
 | done h i u =>
  obtain ⟨k',rfl,rfl⟩:=j;obtain ⟨c',gb,g⟩:=b.Db.get h;obtain ⟨Rc,ka,jd⟩:=g.back.some u;exact ⟨_,_,.done gb (by rw [g.up];exact i) ka,b.put ⟨g.d,g.args,g.begun,rfl,rfl,g.up,g.back,g.vk⟩,_,rfl,_,rfl,jd⟩
 | stats=>obtain ⟨k',rfl,Aa,F,B,rfl,a⟩:=j; exact ⟨p,_,.stats,b,_,rfl,_,_,_,rfl,a⟩
 | PB=>obtain ⟨k',rfl,Aa,F,B,rfl,a⟩:=j; exact ⟨p,_,.PB,b,_,rfl,_,_,_,rfl,a⟩
 | fin=>obtain ⟨k',rfl,rfl⟩:=j; exact ⟨p,_,.fin,b,rfl⟩
 | Yi=>obtain ⟨k',rfl,M,rfl,a⟩:=j; exact ⟨p,_,.Yi,b,_,rfl,_,_,_,rfl,a,⟨_,rfl,rfl⟩,rfl⟩
 | gone h i =>
  obtain ⟨k',rfl,f⟩:=j;obtain ⟨c',gb,g⟩:=b.Db.get h;exact ⟨p,_,.gone gb (by rw [g.ended];exact i),b,rfl⟩
 | busy h i u =>
  obtain ⟨k',rfl,f⟩:=j;obtain ⟨c',gb,g⟩:=b.Db.get h;exact ⟨p,_,.busy gb (by rw [g.ended];exact i) (by rw [g.going,b.now];exact u),b,rfl⟩
 | on h i u A K =>
  obtain ⟨k',rfl,f⟩:=j;obtain ⟨c',gb,g⟩:=b.Db.get h;obtain ⟨R,P,bd⟩:=g.vk.some K;refine ⟨_,_,.on gb (by rw [g.ended];exact i) (by rw [g.going,b.now];exact u) (by rw [g.begun];exact A) P,?_,_,rfl,_,rfl,bd⟩;exact b.put ⟨g.d,g.args,g.begun,rfl,g.ended,by rw [b.now],.inr ⟨_,_,rfl,rfl,f⟩,g.vk⟩
 | first h i u A =>
  obtain ⟨k',rfl,f⟩:=j;obtain ⟨c',gb,g⟩:=b.Db.get h;refine ⟨_,_,.first gb (by rw [g.ended];exact i) (by rw [g.going,b.now];exact u) (by rw [g.begun];exact A),?_,_,rfl,_,_,_,by rw [g.args],g.d,⟨_,rfl,rfl⟩,rfl⟩;exact b.put ⟨g.d,g.args,rfl,rfl,g.ended,by rw [b.now],.inr ⟨_,_,rfl,rfl,f⟩,g.vk⟩
end
section
open Go.Bc Go.Re
inductive Ot {T Ef:Type}(o:Nat) (R:T->Ef->Prop):cm T->cm Ef->Prop
 | halt:Ot o R .halt .halt
 | Ig {c:Nat} {t:T} {cb:Ef}:R t cb->Ot o R (.Ig c t) (.Ig c cb)
 | send {b c:Nat} {v:Int} {t:T} {cb:Ef}:R t cb->Ot o R (.send b v c t) (.send (b+o) v c cb)
 | recv {b c:Nat} {k:Int->T} {k':Int->Ef}:(∀ v,R (k v) (k' v))->Ot o R (.recv b c k) (.recv (b+o) c k')
structure kp {T Ef:Type}(a o:Nat) (R:T->Ef->Prop) (s:yf T) (Ib:yf Ef):Prop where
 na:∀ (i:Nat) (t:T),s.na[i]?=some t->∃ cb,Ib.na[i+a]?=some cb/\R t cb
 bs:∀ (b:Nat) (w:List Int),s.bs[b]?=some w->Ib.bs[b+o]?=some w
structure Out {T Ef:Type}(a o:Nat) (s:yf T) (s1 s2:yf Ef):Prop where
 na:∀ j:Nat,j<a\/a+s.na.length<=j->s2.na[j]?=s1.na[j]?
 bs:∀ j:Nat,j<o\/o+s.bs.length<=j->s2.bs[j]?=s1.bs[j]?
 hf:s2.na.length=s1.na.length
 Od:s2.bs.length=s1.bs.length
section
variable {T Ef:Type}{a o:Nat}{R:T->Ef->Prop}{act:T->cm T}{act':Ef->cm Ef}{cap cap':List Nat}
theorem kp.set {s:yf T}{Ib:yf Ef}{i:Nat}{t:T}{cb c:Ef}(h:kp a o R s Ib) (d:Ib.na[i+a]?=some c) (f:R t cb):kp a o R ⟨s.na.set i t,s.bs⟩ ⟨Ib.na.set (i+a) cb,Ib.bs⟩:=by
 refine ⟨λj x b=>?_,h.bs⟩;simp only at b ⊢;rw [List.getElem?_set] at b;by_cases e:i=j
 ·subst e;rw [if_pos rfl] at b;split at b
  ·cases b;exact ⟨cb,bn d,f⟩
  ·cases b
 ·rw [if_neg e] at b;obtain ⟨y,g,k⟩:=h.na j x b;exact ⟨y,by rw [Kg (by omega)];exact g,k⟩
theorem kp.box {s:yf T}{Ib:yf Ef}{b:Nat}{w da:List Int}(h:kp a o R s Ib) (d:Ib.bs[b+o]?=some da):kp a o R ⟨s.na,s.bs.set b w⟩ ⟨Ib.na,Ib.bs.set (b+o) w⟩:=by
 refine ⟨h.na,λj x c=>?_⟩;simp only at c ⊢;rw [List.getElem?_set] at c;by_cases e:b=j
 ·subst e;rw [if_pos rfl] at c;split at c
  ·cases c;exact bn d
  ·cases c
 ·rw [if_neg e] at c;rw [Kg (by omega)];exact h.bs j x c
theorem Ag.Xy (B:∀ (b k:Nat),cap[b]?=some k->∃ k',cap'[b+o]?=some k'/\k<=k'){s y:yf T}{Ib:yf Ef}{i d:Nat}(r:∀ t cb,s.na[i]?=some t->R t cb->Ot o R (act t) (act' cb)) (f:kp a o R s Ib) (k:Ag act cap s i d y) :
  ∃ u,Ag act' cap' Ib (i+a) d u/\kp a o R y u/\Out a o s Ib u:=by
 have x:∀ (cb:Ef),i<s.na.length->∀ j:Nat,j<a\/a+s.na.length<=j->(Ib.na.set (i+a) cb)[j]?=Ib.na[j]?:=λcb C j D=>Kg (by omega);have z:∀ (b:Nat) (w:List Int),b<s.bs.length->∀ j:Nat,j<o\/o+s.bs.length<=j->(Ib.bs.set (b+o) w)[j]?=Ib.bs[j]?:=λb w C j D=>Kg (by omega);cases k with
 | @Ig t A _ c g =>
  obtain ⟨cb,sa,h⟩:=f.na _ _ c;have e:=r t cb c h;rw [g] at e;generalize l:act' cb=q at e;cases e with
  | @Ig _ _ E m =>
   exact ⟨_,.Ig sa l,f.set sa m,x _ (List.getElem?_eq_some_iff.1 c).1,λ_ _=>rfl,by simp,rfl⟩
 | @send t A _ b k v w c g n F la =>
  obtain ⟨cb,sa,h⟩:=f.na _ _ c;have e:=r t cb c h;rw [g] at e;generalize l:act' cb=q at e;cases e with
  | @send _ _ _ _ E m =>
   obtain ⟨k',k1,G⟩:=B _ _ F;have p:=f.bs _ _ n;exact ⟨_,.send sa l p k1 (by omega),(f.set sa m).box (s:=⟨s.na.set i A,s.bs⟩) p,x _ (List.getElem?_eq_some_iff.1 c).1,z _ _ (List.getElem?_eq_some_iff.1 n).1,by simp,by simp⟩
 | @recv t _ b k v w c g n =>
  obtain ⟨cb,sa,h⟩:=f.na _ _ c;have e:=r t cb c h;rw [g] at e;generalize l:act' cb=q at e;cases e with
  | @recv _ _ _ k' m =>
   have p:=f.bs _ _ n;exact ⟨_,.recv sa l p,(f.set sa (m v)).box (s:=⟨s.na.set i (k v),s.bs⟩) p,x _ (List.getElem?_eq_some_iff.1 c).1,z _ _ (List.getElem?_eq_some_iff.1 n).1,by simp,by simp⟩
theorem Out.r {s:yf T}{s1:yf Ef}:Out a o s s1 s1:=⟨λ_ _=>rfl,λ_ _=>rfl,rfl,rfl⟩
theorem Ag.len {s a:yf T}{i d:Nat}(k:Ag act cap s i d a):a.na.length=s.na.length/\a.bs.length=s.bs.length:=by
 cases k<;>simp
theorem hg.Xy {O:Nat->T->Prop}{V:Nat->Int->Prop}{wr rd:Nat->Nat->Prop}(W:Xu act O V wr rd) (m:∀ (b k:Nat),cap[b]?=some k->∃ k',cap'[b+o]?=some k'/\k<=k') (p:∀ (i:Nat) t cb,O i t->R t cb->Ot o R (act t) (act' cb)){s e:yf T}{n d:Nat}(k:hg act cap s n d e):∀ {Ib:yf Ef},Mm O V s->kp a o R s Ib ->
  ∃ f,hg act' cap' Ib n d f/\kp a o R e f/\Out a o s Ib f:=by
 induction k with
 | nil=>exact λ{Ib} _ h=>⟨Ib,.nil,h,.r⟩
 | @cons s s1 e i c n d k w q =>
  intro Ib l h;obtain ⟨x,pa,a2,a3⟩:=k.Xy m (λt cb u v=>p i t cb (l.na _ _ u) v) h;obtain ⟨f,ka,jd,Ua⟩:=q (k.own W l) a2;have la:=k.len;exact ⟨f,.cons pa ka,jd,λj g=>(Ua.na j (by rw [la.1];exact g)).trans (a3.na j g),λj g=>(Ua.bs j (by rw [la.2];exact g)).trans (a3.bs j g),Ua.hf.trans a3.hf,Ua.Od.trans a3.Od⟩
end
def Ow (x a:lg):Prop:=ov x.1 a.1/\gz x.2 a.2
theorem Kr.norm {c c':ah}(h:Kr c c'):Kr (sf c) (sf c'):=by
 cases c with
 | sd k =>
  obtain ⟨k',rfl,a⟩:=h;cases k with
  | recv n k=>obtain ⟨b,rfl,a⟩:=a; exact ⟨_,rfl,a⟩
  | send n v k=>obtain ⟨b,rfl,a⟩:=a; exact ⟨_,rfl,a⟩
  | zero k=>obtain ⟨b,rfl,a⟩:=a; exact ⟨_,rfl,_,rfl,a⟩
  | done g=>obtain rfl:=a; exact ⟨_,rfl,rfl⟩
  | stats l s e k=>obtain ⟨Aa,f,b,rfl,a⟩:=a; exact ⟨_,rfl,_,_,_,rfl,a⟩
  | qf x s e k=>obtain ⟨Aa,f,b,rfl,a⟩:=a; exact ⟨_,rfl,_,_,_,rfl,a⟩
  | fin=>obtain rfl:=a; exact ⟨_,rfl,rfl⟩
  | Yi d=>obtain ⟨i,rfl,a⟩:=a; exact ⟨_,rfl,_,rfl,a⟩
 | expr x s k=>obtain ⟨_,_,rfl,h⟩:=h; exact ⟨_,_,rfl,h⟩
 | all l s Jd k=>obtain ⟨_,_,rfl,h⟩:=h; exact ⟨_,_,rfl,h⟩
 | stats l s e k=>obtain ⟨_,_,_,rfl,h⟩:=h; exact ⟨_,_,_,rfl,h⟩
 | qf x s e k=>obtain ⟨_,_,_,rfl,h⟩:=h; exact ⟨_,_,_,rfl,h⟩
 | ff k v=>obtain ⟨_,rfl,h⟩:=h; exact ⟨_,rfl,h⟩
 | Jd k l=>obtain ⟨_,rfl,h⟩:=h; exact ⟨_,rfl,h⟩
 | recv n k=>obtain ⟨_,rfl,h⟩:=h; exact ⟨_,rfl,h⟩
 | send n v k=>obtain ⟨_,rfl,h⟩:=h; exact ⟨_,rfl,h⟩
 | resume g v k=>obtain ⟨_,rfl,h⟩:=h; exact ⟨_,rfl,h⟩
theorem gz.norm {q pk:xl}(h:gz q pk):gz (qq q) (qq pk):=by
 cases q with
 | run c=>obtain ⟨c',rfl,h⟩:=h; exact ⟨_,rfl,h.norm⟩
 | done=>obtain rfl:=h; rfl
 | ye n=>obtain rfl:=h; rfl
theorem Kr.comm {c c':ah}(h:Kr c c'):Comm c'->Comm c:=by
 cases c with
 | sd k =>
  obtain ⟨k',rfl,a⟩:=h;cases k with
  | recv n k=>exact λ_=>trivial
  | send n v k=>exact λ_=>trivial
  | zero k=>obtain ⟨b,rfl,a⟩:=a; exact id
  | done g=>obtain rfl:=a; exact id
  | stats l s e k=>obtain ⟨Aa,f,b,rfl,a⟩:=a; exact id
  | qf x s e k=>obtain ⟨Aa,f,b,rfl,a⟩:=a; exact id
  | fin=>obtain rfl:=a; exact id
  | Yi d=>obtain ⟨i,rfl,a⟩:=a; exact id
 | expr x s k=>obtain ⟨_,_,rfl,h⟩:=h; exact id
 | all l s Jd k=>obtain ⟨_,_,rfl,h⟩:=h; exact id
 | stats l s e k=>obtain ⟨_,_,_,rfl,h⟩:=h; exact id
 | qf x s e k=>obtain ⟨_,_,_,rfl,h⟩:=h; exact id
 | ff k v=>obtain ⟨_,rfl,h⟩:=h; exact id
 | Jd k l=>obtain ⟨_,rfl,h⟩:=h; exact id
 | recv n k=>exact λ_=>trivial
 | send n v k=>exact λ_=>trivial
 | resume g v k=>obtain ⟨_,rfl,h⟩:=h; exact id
structure aL (p:qb) (U:Ug) (E E':Sd) (o:Nat):Prop where
 Lq:∀ n,U.c n->∀ d,Sa p.named n=some d->d.Kind=2\/d.Kind=3->∃ a,Sa E'.defs n=some a/\oC d a
 Wf:∀ n (i:Nat),U.s n\/U.r n->Sa E.order n=some (i:Int)->Sa E'.order n=some ((i+o:Nat):Int)
theorem AK {E:Sd}{z:Core}{c:ah}(h:¬ Hp z c):Wd E c ⟨z.Aq,[],0⟩=none:=by
 cases a:Wd E c ⟨z.Aq,[],0⟩ with
 | none=>rfl
 | some o=>exact absurd (BD a) h
theorem Hp.rel {z a:Core}{c c':ah}(b:ov z a) (d:Kr c c') (h:Hp a c'):Hp z c:=by
 intro x l s e k v sa f;subst sa;obtain ⟨k',rfl,Aa,g,i,rfl,j,he,o⟩:=d;obtain ⟨y,m,rfl,n,hm⟩:=j.cons;have:=h y m s g i v rfl (by rw [n.kind];exact f);rwa [b.out] at this
theorem uQ {p:qb}{U:Ug}{E E':Sd}{o:Nat}(P:vn p U E) (Or:Ord p E) (w:aL p U E E' o){x A:lg}(N:Al p U x) (O:Ow x A):Ot o Ow (Pf E x) (Pf E' A):=by
 obtain ⟨z,q⟩:=x;obtain ⟨Q,pk⟩:=A;obtain ⟨g,B⟩:=O;cases q with
 | done=>obtain rfl:=B; exact .halt
 | ye n=>obtain rfl:=B; exact .halt
 | run c =>
 obtain ⟨c',rfl,j⟩:=B;obtain ⟨C,L,R,D⟩:=N _ rfl
 change Ot o Ow (rh E z (sf c)) (rh E' Q (sf c'))
 by_cases a:Comm c
 ·have m:=Bj.norm.2 D;have r:=j.norm;have S:(∃ n k,sf c=.recv n k)\/∃ n v k,sf c=.send n v k:=by
   cases c with
   | recv n k=>exact .inl ⟨n,k,rfl⟩
   | send n v k=>exact .inr ⟨n,v,k,rfl⟩
   | sd k=>cases k with
    | recv n k=>exact .inl ⟨n,k,rfl⟩
    | send n v k=>exact .inr ⟨n,v,k,rfl⟩
    | _=>exact a.elim
   | _=>exact a.elim
  rcases S with ⟨n,k,sa⟩ | ⟨n,v,k,sa⟩
  ·rw [sa] at m r ⊢;obtain ⟨k',F,s⟩:=r;rw [F];obtain ⟨f,u,hc,hd,-⟩:=m;obtain ⟨i,b⟩:=P.Wf _ _ hc hd;have G:=w.Wf n i (.inr u) b;rw [rh,rh,b,G];simp only [Int.toNat_natCast];exact .recv λv=>⟨g,_,rfl,_,rfl,s⟩
  ·rw [sa] at m r ⊢;obtain ⟨k',F,s⟩:=r;rw [F];obtain ⟨f,u,hc,hd,-,-⟩:=m;obtain ⟨i,b⟩:=P.Wf _ _ hc hd;have G:=w.Wf n i (.inl u) b;rw [rh,rh,b,G];simp only [Int.toNat_natCast];exact .send ⟨g,_,rfl,(show Kr (.sd k) (.sd k') from ⟨_,rfl,s⟩).norm⟩
 ·have K:¬ Comm c':=λh=>a (j.comm h);rw [cy a,cy K,dy a,dy K];by_cases H:Hp z c
  ·obtain ⟨n,X,Y,Fg,Z,t,l,-,-,M,-⟩:=safe P R a H D;obtain ⟨bb,Gb,cb,T,V⟩:=t.Xy (E':=E') g j λy k l e s d Ca=>by
    subst e;obtain ⟨na,W,-,-⟩:=D;obtain ⟨d0,t0,-,je,-⟩:=W;rw [P.Lq] at Ca;have:U.c y.Name/\(d.Kind=2\/d.Kind=3):=by
     cases je<;>first | omega | skip
     ·rename_i f u hc hd;rw [hc] at Ca;cases Ca;exact ⟨u,.inl hd⟩
     ·rename_i f u hc hd;rw [hc] at Ca;cases Ca;exact ⟨u,.inr hd⟩
    exact w.Lq _ this.1 d Ca this.2
   rw [t.act M,cb.act M];exact .Ig ⟨T,V.norm⟩
  ·rw [AK H,AK λh=>H (h.rel g j)];exact .halt
end
section
open Go.Bc Go.Re
section
variable {p:qb}{l:List va}{fu:Nat}{na:List xd}{bs:List Rd}{k d:Nat}
theorem Sh.eu (h:Sh p l fu):nv p (Mg l).env (Xm p.named (l.filter ph)) (Mq l):=by
 have:=h.inv.eu;rwa [h.vd] at this
theorem Xt.qW (P:Sh p l fu) (h:Xt p l na bs k d){m c:Nat}{s:yf lg}(q:hg (Pf (Mg l).env) (gn l) (Mq l) m c s):∃ a c',k=m+a/\d=c+c'/\hg (Pf (Mg l).env) (gn l) s a c' (Ni na bs):=h.run.ends P.names.own h.fin P.eu q
end
theorem lI (l:List Int) (la:l.length<=4611686018427387904):∀ (n i:Nat),l.length<n+i->i<=l.length->Ov l l n (i:Int)=some true
 | 0,i,a,b=>by omega
 | n+1,i,a,b=>by
  rw [Ov];by_cases c:i<l.length
  ·rw [if_pos (by omega),Pg,List.getElem?_eq_getElem c];simp only [Option.bind_some];rw [if_neg (by simp),Hf (by omega)];have:=lI l la n (i+1) (by omega) (by omega);rw [show ((i+1:Nat):Int)=(i:Int)+1 by omega] at this;exact this
  ·rw [if_neg (by omega)]
theorem xM {l:List Int}(la:l.length<=4611686018427387904):Wv l l=some true:=by
 unfold Wv;rw [if_neg (by simp)];exact lI l la _ 0 (by omega) (by omega)
theorem Xt.small {p:qb}{l:List va}{na:List xd}{bs:List Rd}{k d fu:Nat}(P:Sh p l fu) (h:Xt p l na bs k d):(na.map xk).length<=30/\(∀ t ∈ na.map xk,t.Out.length<=600180)/\(bs.map Rd.words).length<=30/\∀ b ∈ bs.map Rd.words,b.length<=100:=by
 have la:=P.R.ok.le;refine ⟨by rw [List.length_map,h.hf];exact Nat.le_trans (List.length_filter_le _ _) la,λt c=>?_,by rw [List.length_map,h.Od];exact Nat.le_trans (List.length_filter_le _ _) la,λb e=>?_⟩
 ·obtain ⟨x,a,rfl⟩:=List.mem_map.1 c;have:=h.inv.out x a;show x.out.length<=_;omega
 ·obtain ⟨x,a,rfl⟩:=List.mem_map.1 e;have:=h.inv.Ya.le x a;omega
end
section
open Go.Bc Go.Re
theorem Pe.out {E:Sd}{c:ah}{z x:Core}{n:Nat}{q:xl}(t:Pe E c z n x q):∃ o,x.out=z.out++o:=by
 cases t with
 | xp h a=>obtain ⟨rfl,-⟩:=Eu a; exact ⟨_,rfl⟩
 | _=>exact ⟨[],(List.append_nil _).symm⟩
section
variable {p:qb}{U:Ug}{E:Sd}
theorem vQ (P:vn p U E){x d:lg}{n:Nat}(h:Al p U x) (a:Pf E x=.Ig n d):∃ o,d.1.out=x.1.out++o:=by
 obtain ⟨z,q⟩:=x;cases q with
 | done=>cases a
 | ye k=>cases a
 | run c =>
 obtain ⟨C,L,g,i⟩:=h _ rfl
 change rh E z (sf c)=_ at a
 by_cases b:Comm c
 ·exfalso;have j:(∃ n k,sf c=.recv n k)\/∃ n v k,sf c=.send n v k:=by
   cases c with
   | recv n k=>exact .inl ⟨n,k,rfl⟩
   | send n v k=>exact .inr ⟨n,v,k,rfl⟩
   | sd k=>cases k with
    | recv n k=>exact .inl ⟨n,k,rfl⟩
    | send n v k=>exact .inr ⟨n,v,k,rfl⟩
    | _=>exact b.elim
   | _=>exact b.elim
  rcases j with ⟨n,k,e⟩ | ⟨n,v,k,e⟩
  ·rw [e,rh] at a;split at a<;>cases a
  ·rw [e,rh] at a;split at a<;>cases a
 ·rw [cy b,dy b] at a;have m:Hp z c:=by
   cases f:Wd E c ⟨z.Aq,[],0⟩ with
   | none=>rw [f] at a; cases a
   | some o=>exact BD f
  obtain ⟨s,u,pk,Fg,w,t,l,y,A,r,B⟩:=safe P g b m i;rw [t.act r] at a;cases a;exact t.out
end
section
variable {p:qb}{E:Sd}{U:Nat->Ug}{cap:List Nat}
theorem nS (W:rq p E U){s Ib:yf lg}{m d:Nat}(k:hg (Pf E) cap s m d Ib):nv p E U s->∀ (j:Nat) (f:lg),Ib.na[j]?=some f->∃ x o,s.na[j]?=some x/\f.1.out=x.1.out++o:=by
 induction k with
 | nil=>exact λ_ j f h=>⟨f,[],h,(List.append_nil _).symm⟩
 | @cons s s1 e i c n d k _ A =>
  intro l j f h;obtain ⟨x1,B,gb,C⟩:=A (k.own W.own l) j f h;have key:∀ {x y:lg},s.na[i]?=some x->(∃ o,y.1.out=x.1.out++o)->(s.na.set i y)[j]?=some x1->∃ z o,s.na[j]?=some z/\x1.1.out=z.1.out++o:=by
   intro x y u r q;by_cases e:i=j
   ·subst e;rw [bn u] at q;cases q;obtain ⟨o,r⟩:=r;exact ⟨x,o,u,r⟩
   ·rw [Kg e] at q;exact ⟨x1,[],q,(List.append_nil _).symm⟩
  have:∃ z o,s.na[j]?=some z/\x1.1.out=z.1.out++o:=by
   cases k with
   | Ig a g=>exact key a (vQ (W.ok i) (l.na _ _ a) g) gb
   | send a g D L la =>
    obtain ⟨-,-,-,-,F,-⟩:=SD (W.ok i) W.ord (l.na _ _ a) g;exact key a ⟨[],by rw [F,List.append_nil]⟩ gb
   | @recv t _ b k v w a g D =>
    obtain ⟨-,-,G⟩:=TD (W.ok i) W.ord (l.na _ _ a) g;exact key a ⟨[],by rw [(G v).2.1,List.append_nil]⟩ gb
  obtain ⟨z,o,H,K⟩:=this;exact ⟨z,o++B,H,by rw [C,K,List.append_assoc]⟩
end
def Rg (more:Int) (d:va):va:=if d.Kind=1 then { d with Ie:=d.Ie+more } else d
theorem mI (more:Int) (d:va):(Rg more d).Kind=d.Kind:=by unfold Rg;split<;>rfl
theorem WN (more:Int) (d:va):(Rg more d).Name=d.Name:=by unfold Rg;split<;>rfl
theorem sx (q:va->Bool) (more:Int) (a:∀ d,q (Rg more d)=q d) (l:List va):(l.map (Rg more)).filter q=(l.filter q).map (Rg more):=by
 rw [List.filter_map];congr 1;exact List.filter_congr λd _=>a d
theorem WD (more:Int) (d:va):Mi (Rg more d)=Mi d:=by unfold Mi;rw [mI]
theorem II (more:Int) (d:va):ph (Rg more d)=ph d:=by unfold ph;rw [mI]
theorem wQ (d:va):Ow (ze (Hk d)) (ze (Hk d)):=by
 have b:Ai Yj d.Body d.Body:=.Nu λa=>.inl rfl;refine ⟨⟨rfl,rfl,rfl,rfl,λj c c' e f=>?_⟩,_,rfl,_,rfl,_,rfl,b⟩;cases j with
 | zero=>cases e; cases f; exact ⟨b,rfl,rfl,rfl,rfl,rfl,.inl ⟨rfl,rfl⟩,.inl ⟨rfl,rfl⟩⟩
 | succ j=>simp [ze,Hk,xd.core] at e
section
variable {p dz:qb}{l:List va}{fu:Nat}{more:Int}
theorem Sh.xQ (P:Sh p l fu) (a:Sh dz (l.map (Rg more)) fu) (i:Nat):aL p (Xm p.named (l.filter ph) i) (Mg l).env (Mg (l.map (Rg more))).env 0 where
 Lq n _ d Ca c:=by
  obtain ⟨m,rfl⟩:=P.R.only _ _ Ca;have b:Rg more d=d:=by unfold Rg;rw [if_neg (by omega)]
  refine ⟨d,?_,.Nu⟩;rw [a.Lq];have:=a.R.hc (Rg more d) (List.mem_map_of_mem m);rwa [b] at this
 Wf n i _ h:=by
  obtain ⟨j,d,e,Ca,rfl⟩:=P.set.gu n i h;obtain rfl:i=j:=by omega
  have:=a.set.O i (Rg more d) (by rw [sx Mi more (WD more),List.getElem?_map,Ca];rfl);rwa [WN] at this
theorem oS:kp 0 0 Ow (Mq l) (Mq (l.map (Rg more))):=by
 refine ⟨λi t e=>?_,λb w a=>?_⟩
 ·have c:((l.filter ph).map λd=>ze (Hk d))[i]?=some t:=e;rw [List.getElem?_map] at c;obtain ⟨d,Ca,rfl⟩:=Option.map_eq_some_iff.1 c;have Xe:d.Kind=4:=by simpa [ph] using (List.mem_filter.1 (List.mem_of_getElem? Ca)).2
  have a:Rg more d=d:=by unfold Rg;rw [if_neg (by omega)]
  refine ⟨ze<|Hk d,?_,wQ d⟩;show (((l.map (Rg more)).filter ph).map λd=>ze (Hk d))[i+0]?=_;rw [sx ph more (II more),List.map_map,List.getElem?_map,Nat.add_zero,Ca];show some (ze (Hk (Rg more d)))=_;rw [a]
 ·have f:((l.filter Mi).map λ_=>([]:List Int))[b]?=some w:=a;show (((l.map (Rg more)).filter Mi).map λ_=>([]:List Int))[b+0]?=some w;rw [sx Mi more (WD more),List.map_map,Nat.add_zero];exact f
theorem yQ (C:0<=more) (P:Sh p l fu) (c:Sh dz (l.map (Rg more)) fu){na ts':List xd}{bs g:List Rd}{m j d n:Nat}(R:Xt p l na bs m d) (R':Xt dz (l.map (Rg more)) ts' g j n) :
  ts'.length=na.length/\∀ (i:Nat) (t cb:xd),na[i]?=some t->ts'[i]?=some cb->∃ o,cb.out=t.out++o:=by
 have q:=P.xQ c;obtain ⟨D,pa,a2,a3⟩:=hg.Xy (a:=0) (o:=0) (R:=Ow) (act':=Pf (Mg (l.map (Rg more))).env) (cap':=gn (l.map (Rg more))) P.names.own (λb k h=>by
  unfold gn at h ⊢;rw [sx Mi more (WD more),List.map_map,Nat.add_zero,List.getElem?_map];rw [List.getElem?_map] at h;obtain ⟨x,e,rfl⟩:=Option.map_eq_some_iff.1 h;have k1:x.Kind=1:=by simpa [Mi] using (List.mem_filter.1 (List.mem_of_getElem? e)).2
  refine ⟨(x.Ie+more).toNat,?_,by omega⟩;rw [e];show some (Rg more x).Ie.toNat=_;unfold Rg;rw [if_pos k1]) (λi t cb r s=>uQ (P.names.ok i) P.names.ord (q i) r s) R.run P.eu oS
 obtain ⟨E,d2,-,-,u⟩:=R'.qW c pa;refine ⟨?_,λi t cb v w=>?_⟩
 ·rw [R'.hf,R.hf,sx ph more (II more),List.length_map]
 ·obtain ⟨x,o,x1,z⟩:=nS c.names u (pa.own c.names.own c.eu) i (ze cb) (by show (ts'.map ze)[i]?=_;rw [List.getElem?_map,w];rfl);obtain ⟨y,f,A⟩:=a2.na i (ze t) (by show (na.map ze)[i]?=_;rw [List.getElem?_map,v];rfl);rw [Nat.add_zero,x1] at f;cases f;refine ⟨o,?_⟩;have sa:(ze cb).1.out=cb.out:=rfl;have B:(ze t).1.out=t.out:=rfl;rw [<- sa,z,A.1.out,B]
end
end
open Go.Bc Go.Re
theorem xn {α β:Type}{x:α}{f:α->Option β}:(some x).bind f=f x:=rfl
theorem CG {α:Type}{l:List α}{i:Nat}(h:i<l.length):at_ l (i:Int)=some l[i]:=by
 unfold at_;rw [if_pos (by omega),Int.toNat_natCast,List.getElem?_eq_getElem h]
theorem SB {x:Int}(h:-9223372036854775808<=x/\x<=9223372036854775807):i64 x=some x:=if_pos h
theorem XN {a o:List Int}(h:(a++o).length<=4294967296):Jx a (a++o)=some true:=by
 have c:a.length+o.length<=4294967296:=by simpa using h
 unfold Jx;have b:cut (a++o) 0 (a.length:Int)=some a:=by
  unfold cut;rw [if_pos ⟨by omega,by omega,by rw [List.length_append];omega⟩];simp
 rw [if_pos (by rw [List.length_append];omega),b,xn,xM (by omega),xn]
theorem pS {r q:Ti×Vd}(la:r.1.Mh.length<=4294967296) (k:q.1.Mh.length=r.1.Mh.length) (c:∀ (i:Nat) (t cb:Hm),r.1.Mh[i]?=some t->q.1.Mh[i]?=some cb->∃ o,cb.Out=t.Out++o/\(t.Out++o).length<=4294967296):∀ (n i:Nat),r.1.Mh.length<n+i->i<=r.1.Mh.length->Iv r q n (i:Int)=some true:=by
 intro n
 induction n with
 | zero=>intro i d f; omega
 | succ n g =>
  intro i d f;rw [Iv];by_cases a:i<r.1.Mh.length
  ·have b:i<q.1.Mh.length:=by omega
   obtain ⟨o,e,h⟩:=c i _ _ (List.getElem?_eq_getElem a) (List.getElem?_eq_getElem b);have j:=g (i+1) (by omega) (by omega);rw [if_pos (by omega),CG a,xn,CG b,xn,e,XN h,xn,if_pos rfl,SB (by omega),xn];exact j
  ·rw [if_neg (by omega)]
theorem OJ {i:Nat}{l:List va}{d:va}{K:Int->List va->Option Bool}{c:Int}(la:l.length+1<=1099511627776) (a:i<=1099511627776):Hv (i:Int) l d K c=K ((i+1:Nat):Int) (l++[{ d with Ie:=c }]):=by
 rw [Hv,show Et 1099511627776 l [(va.mk d.Kind d.Name (Qa.mk d.Cb.Kind d.Cb.xc) (Qa.mk d.cd.Kind d.cd.xc) c d.Params d.Body)]=some (l++[{ d with Ie:=c }]) from if_pos (by simpa using la),xn,SB (by omega),xn];rfl
theorem qS {fu:Nat}{l:List va}{m:Int}(la:l.length<=1099511627776)
  (key:(∀ d ∈ l,d.Kind=1->0<=m)->∀ n,Ml fu l m (n+1) (l.length:Int) (l.map (Rg m))=some true):∀ (n i:Nat),l.length<n+i->i<=l.length->(∀ d ∈ l.take i,d.Kind=1->0<=m)->Ml fu l m n (i:Int) ((l.take i).map (Rg m))=some true:=by
 intro n
 induction n with
 | zero=>intro i h j; omega
 | succ n o =>
  intro i h j a;by_cases b:i<l.length
  ·have c:((l.take i).map (Rg m)).length+1<=1099511627776:=by simp;omega
   have f:(l[i].Kind=1->0<=m)->Ml fu l m n ((i+1:Nat):Int) ((l.take i).map (Rg m)++[Rg m l[i]])=some true:=λCa=>by
    have:=o (i+1) (by omega) (by omega) (λd g=>by
     rw [<- List.take_append_getElem b] at g;rcases List.mem_append.1 g with q | q
     ·exact a d q
     ·cases List.mem_singleton.1 q;exact Ca)
    rw [<- List.take_append_getElem b,List.map_append] at this;exact this
   rw [Ml,if_pos (by omega),CG b,xn];by_cases k:l[i].Kind=1
   ·rw [if_pos k];by_cases gb:m<0
    ·rw [if_pos gb,Pp,if_pos rfl]
    ·rw [if_neg gb];by_cases c2:l[i].Ie<1
     ·rw [if_pos c2,Pp,if_pos rfl]
     ·rw [if_neg c2];by_cases c3:20<m
      ·rw [if_pos c3,Pp,if_pos rfl]
      ·rw [if_neg c3,SB (by omega),xn,Pp];by_cases c4:20 - m<l[i].Ie
       ·rw [if_pos (by simpa using c4)]
       ·rw [if_neg (by simpa using c4),SB (by omega),xn,OJ c (by omega)];have:=f (λ_=>by omega);have e:Rg m l[i]={ l[i] with Ie:=l[i].Ie+m }:=by
         unfold Rg;rw [if_pos k]
        rw [e] at this;exact this
   ·rw [if_neg k,OJ c (by omega)];have:=f (λq=>absurd q k);rw [show Rg m l[i]=l[i] from if_neg k] at this;exact this
  ·have e:i=l.length:=by omega
   subst e;rw [List.take_length] at a ⊢;exact key a n
theorem fJ {fu:Nat}(b:600200<=fu) (l:List va):∃ w g,Vo fu l=some (w,g)/\(g.Te=0->∃ p na bs k d,Sh p l fu/\w=jv na bs d/\Xt p l na bs k d):=by
 obtain ⟨f,-,c,i⟩:=iU b l;by_cases a:f.Te=0
 ·obtain ⟨p,P,⟨e,-⟩ | ⟨na,bs,k,d,e,R⟩⟩:=i a
  ·exact ⟨_,_,e,λh=>by cases h⟩
  ·exact ⟨_,_,e,λ_=>⟨p,na,bs,k,d,P,rfl,R⟩⟩
 ·exact ⟨_,_,c a,λh=>absurd h a⟩
theorem zQ {fu:Nat}(h:600200<=fu){l:List va}{m:Int}(s:∀ d ∈ l,d.Kind=1->0<=m) (n:Nat):Ml fu l m (n+1) (l.length:Int) (l.map (Rg m))=some true:=by
 have u:∃ b,0<=b/\l.map (Rg m)=l.map (Rg b):=by
  by_cases c:0<=m
  ·exact ⟨m,c,rfl⟩
  ·refine ⟨0,by omega,List.map_congr_left λd Ca=>?_⟩;have:¬ d.Kind=1:=λq=>c (s d Ca q);unfold Rg;rw [if_neg this,if_neg this]
 obtain ⟨b,v,lb⟩:=u;rw [lb];obtain ⟨w,g,e,y⟩:=fJ h l;obtain ⟨w',z,A,B⟩:=fJ h (l.map (Rg b));rw [Ml,if_neg (by omega),e,xn,A,xn];by_cases c:g.Te=0
 ·by_cases c':z.Te=0
  ·obtain ⟨p,na,bs,k,d,P,rfl,R⟩:=y c;obtain ⟨dz,ts',C,k',D,j,rfl,R'⟩:=B c';obtain ⟨pa,a2⟩:=yQ v P j R R';obtain ⟨H,s2,-,-⟩:=R'.small j;have L:(jv ts' C D).Mh.length=(jv na bs d).Mh.length:=by simp [jv,pa]
   have K:(jv na bs d).Mh.length<=30:=(R.small P).1;rw [if_neg (by simpa using c),if_neg (by simpa using c'),zs,if_neg (by simp [L])];refine pS (by show (jv na bs d).Mh.length<=_;omega) L (λi t cb f a=>?_) _ 0 (by omega) (by omega);have f:(na.map xk)[i]?=some t:=f;have a:(ts'.map xk)[i]?=some cb:=a;have M:=s2 cb (List.mem_of_getElem? a);rw [List.getElem?_map] at f a;obtain ⟨x,E,rfl⟩:=Option.map_eq_some_iff.1 f;obtain ⟨r,F,rfl⟩:=Option.map_eq_some_iff.1 a;obtain ⟨o,G⟩:=a2 i x r E F;have q:(xk r).Out=(xk x).Out++o:=G;exact ⟨o,q,by rw [<- q];omega⟩
  ·rw [if_neg (by simpa using c),if_pos (by simpa using c'),zs,if_pos rfl,if_neg (by simpa using c)];simp [c']
 ·rw [if_pos c,zs,if_pos rfl,if_pos c]
theorem fP (k:Nat):iA (k+1000000)=some true:=by kernel_rfl
theorem ZM (k:Nat) (l:List va) (la:KL k l) (m:Int):Sx (k+1000000) l m=some true:=by
 rw [Sx,fP k,xn,if_pos rfl];exact qS la.1 (λa n=>zQ (by omega) a n) (l.length+1) 0 (by omega) (by omega) (λd Ca=>by cases Ca)
end Go.Y
