/- Texts of TopJoined Pm. -/
import Derived.Test.YtafjdiifkckmbaaGreatDoorCMd
import Derived.Test.YtafjdiifkckmbaaGreatDoorCPl
import Derived.KernelRfl
set_option linter.unusedSimpArgs false
set_option linter.unusedVariables false
set_option linter.unusedSectionVars false
namespace Go.Y
inductive gm (T:Type) where
 | halt
 | Gg (c:Nat) (t:T)
 | send (b:Nat) (v:Int) (c:Nat) (t:T)
 | recv (b:Nat) (c:Nat) (k:Int->T)
structure Qe (T:Type) where
 na:List T
 bs:List (List Int)
section
variable {T:Type}
def cH (act:T->gm T) (cap:List Nat) (s:Qe T) (i:Nat) (t:T):Option (Nat×Qe T):=
 match act t with
 | .halt=>none
 | .Gg c hb=>some (c,⟨s.na.set i hb,s.bs⟩)
 | .send b v c hb=>(s.bs[b]?).bind λw=>(cap[b]?).bind λk=>if w.length<k then some (c,⟨s.na.set i hb,s.bs.set b (w++[v])⟩) else none
 | .recv b c k=>(s.bs[b]?).bind λw=>match w with | []=>none | v::w=>some (c,⟨s.na.set i (k v),s.bs.set b w⟩)
def xG (act:T->gm T) (cap:List Nat) (s:Qe T) (i:Nat):Option (Nat×Qe T):=(s.na[i]?).bind λt=>cH act cap s i t
inductive jg (act:T->gm T) (cap:List Nat) (s:Qe T) (i:Nat):Nat->Qe T->Prop
 | Gg {t hb:T} {c:Nat}:s.na[i]?=some t->act t=.Gg c hb->jg act cap s i c ⟨s.na.set i hb,s.bs⟩
 | send {t hb:T} {c b k:Nat} {v:Int} {w:List Int}:s.na[i]?=some t->act t=.send b v c hb->s.bs[b]?=some w->cap[b]?=some k->w.length<k->jg act cap s i c ⟨s.na.set i hb,s.bs.set b (w++[v])⟩
 | recv {t:T} {c b:Nat} {k:Int->T} {v:Int} {w:List Int}:s.na[i]?=some t->act t=.recv b c k->s.bs[b]?=some (v::w)->jg act cap s i c ⟨s.na.set i (k v),s.bs.set b w⟩
theorem LI {act:T->gm T}{cap:List Nat}{s Bb:Qe T}{i c:Nat}:xG act cap s i=some (c,Bb) ↔ jg act cap s i c Bb:=by
 constructor
 ·intro h;unfold xG at h;cases d:s.na[i]? with
  | none=>rw [d] at h; cases h
  | some t =>
   rw [d] at h;simp only [Option.bind_some] at h;unfold cH at h;cases a:act t with
   | halt=>rw [a] at h; cases h
   | Gg c' hb=>rw [a] at h; cases h; exact .Gg d a
   | send b v c' hb =>
    rw [a] at h;simp only at h;cases e:s.bs[b]? with
    | none=>rw [e] at h; cases h
    | some w =>
     rw [e] at h;simp only [Option.bind_some] at h;cases f:cap[b]? with
     | none=>rw [f] at h; cases h
     | some k =>
      rw [f] at h;simp only [Option.bind_some] at h;by_cases ma:w.length<k
      ·rw [if_pos ma] at h;cases h;exact .send d a e f ma
      ·rw [if_neg ma] at h;cases h
   | recv b c' k =>
    rw [a] at h;simp only at h;cases e:s.bs[b]? with
    | none=>rw [e] at h; cases h
    | some w =>
     rw [e] at h;simp only [Option.bind_some] at h;cases w with
     | nil=>cases h
     | cons v w=>cases h; exact .recv d a e
 ·intro h;unfold xG cH;cases h with
  | Gg d a=>rw [d]; simp only [Option.bind_some]; rw [a]
  | send d a e f ma=>rw [d]; simp only [Option.bind_some]; rw [a]; simp only; rw [e]; simp only [Option.bind_some]; rw [f]; simp only [Option.bind_some]; rw [if_pos ma]
  | recv d a e=>rw [d]; simp only [Option.bind_some]; rw [a]; simp only; rw [e]; rfl
structure eu (act:T->gm T) (O:Nat->T->Prop) (V:Nat->Int->Prop) (wr rd:Nat->Nat->Prop):Prop where
 Gg:∀ {i:Nat}{t hb:T}{c:Nat},O i t->act t=.Gg c hb->O i hb
 send:∀ {i:Nat}{t hb:T}{b c:Nat}{v:Int},O i t->act t=.send b v c hb->wr b i/\V b v/\O i hb
 recv:∀ {i:Nat}{t:T}{b c:Nat}{k:Int->T},O i t->act t=.recv b c k->rd b i/\∀ v,V b v->O i (k v)
 Il:∀ {b i j:Nat},wr b i->wr b j->i=j
 hM:∀ {b i j:Nat},rd b i->rd b j->i=j
structure im (O:Nat->T->Prop) (V:Nat->Int->Prop) (s:Qe T):Prop where
 na:∀ (i:Nat) (t:T),s.na[i]?=some t->O i t
 bs:∀ (b:Nat) (w:List Int),s.bs[b]?=some w->∀ v ∈ w,V b v
variable {act:T->gm T}{cap:List Nat}{O:Nat->T->Prop}{V:Nat->Int->Prop}{wr rd:Nat->Nat->Prop}
theorem im.set {s:Qe T}{i:Nat}{t:T}(h:im O V s) (b:O i t):im O V ⟨s.na.set i t,s.bs⟩:=by
 refine ⟨λj u a=>?_,h.bs⟩;simp only at a;rw [List.getElem?_set] at a;split at a
 ·rename_i e;subst e;split at a
  ·cases a;exact b
  ·cases a
 ·exact h.na j u a
theorem im.box {s:Qe T}{b:Nat}{w:List Int}(h:im O V s) (c:∀ v ∈ w,V b v):im O V ⟨s.na,s.bs.set b w⟩:=by
 refine ⟨h.na,λj u a=>?_⟩;simp only at a;rw [List.getElem?_set] at a;split at a
 ·rename_i e;subst e;split at a
  ·cases a;exact c
  ·cases a
 ·exact h.bs j u a
theorem jg.own (W:eu act O V wr rd){s Bb:Qe T}{i c:Nat}(h:jg act cap s i c Bb) (a:im O V s):im O V Bb:=by
 cases h with
 | Gg e f=>exact a.set (W.Gg (a.na _ _ e) f)
 | @send t hb _ b k v w e f g m ma =>
  obtain ⟨-,j,l⟩:=W.send (a.na _ _ e) f;refine (a.set l).box (s:=⟨s.na.set i hb,s.bs⟩) λx d=>?_;rcases List.mem_append.1 d with d | d
  ·exact a.bs _ _ g _ d
  ·rw [List.mem_singleton.1 d];exact j
 | @recv t _ b k v w e f g=>exact (a.set ((W.recv (a.na _ _ e) f).2 v (a.bs _ _ g _ (by simp)))).box (s:=⟨s.na.set i (k v),s.bs⟩) λx d=>a.bs _ _ g _ (by simp [d])
theorem jg.LW {s a s2:Qe T}{i c d:Nat}(b:jg act cap s i c a) (f:jg act cap s i d s2):c=d/\a=s2:=by
 have e:=(LI.2 b).symm.trans (LI.2 f);cases e;exact ⟨rfl,rfl⟩
theorem Tg {α:Type}{l:List α}{i j:Nat}{a:α}(h:i≠j):(l.set i a)[j]?=l[j]?:=List.getElem?_set_ne h
theorem Gn {α:Type}{l:List α}{i:Nat}{a b:α}(h:l[i]?=some b):(l.set i a)[i]?=some a:=by
 rw [List.getElem?_set_self (List.getElem?_eq_some_iff.1 h).1]
theorem jg.MW (W:eu act O V wr rd){s D E:Qe T}{i j c d:Nat}(f:i≠j) (x:im O V s) (G:jg act cap s i c D) (A:jg act cap s j d E):∃ F,jg act cap D j d F/\jg act cap E i c F:=by
 have p:=Ne.symm f;cases G with
 | @Gg t hb _ n o =>
  cases A with
  | @Gg u h _ hu g=>exact ⟨⟨(s.na.set i hb).set j h,s.bs⟩,.Gg (by simp only; rw [Tg f]; exact hu) g,by
    rw [List.set_comm _ _ f];exact .Gg (s:=⟨s.na.set j h,s.bs⟩) (by simp only;rw [Tg p];exact n) o⟩
  | @send u h _ b k v w hu g hw r ma=>exact ⟨⟨(s.na.set i hb).set j h,s.bs.set b (w++[v])⟩,.send (s:=⟨s.na.set i hb,s.bs⟩) (by simp only; rw [Tg f]; exact hu) g hw r ma,by
    rw [List.set_comm _ _ f];exact .Gg (s:=⟨s.na.set j h,s.bs.set b (w++[v])⟩) (by simp only;rw [Tg p];exact n) o⟩
  | @recv u _ b k v w hu g hw=>exact ⟨⟨(s.na.set i hb).set j (k v),s.bs.set b w⟩,.recv (s:=⟨s.na.set i hb,s.bs⟩) (by simp only; rw [Tg f]; exact hu) g hw,by
    rw [List.set_comm _ _ f];exact .Gg (s:=⟨s.na.set j (k v),s.bs.set b w⟩) (by simp only;rw [Tg p];exact n) o⟩
 | @send t hb _ a k v w n o hw r ma =>
  have B:=(W.send (x.na _ _ n) o).1;cases A with
  | @Gg u h _ hu g=>exact ⟨⟨(s.na.set i hb).set j h,s.bs.set a (w++[v])⟩,.Gg (s:=⟨s.na.set i hb,s.bs.set a (w++[v])⟩) (by simp only; rw [Tg f]; exact hu) g,by
    rw [List.set_comm _ _ f];exact .send (s:=⟨s.na.set j h,s.bs⟩) (by simp only;rw [Tg p];exact n) o hw r ma⟩
  | @send u h _ b k' l w' hu g q y z =>
   have C:=(W.send (x.na _ _ hu) g).1;have m:a≠b:=λe=>f (W.Il B (e ▸ C));exact ⟨⟨(s.na.set i hb).set j h,(s.bs.set a (w++[v])).set b (w'++[l])⟩,.send (s:=⟨s.na.set i hb,s.bs.set a (w++[v])⟩) (by simp only;rw [Tg f];exact hu) g (by simp only;rw [Tg m];exact q) y z,by
    rw [List.set_comm _ _ f,List.set_comm _ _ m];exact .send (s:=⟨s.na.set j h,s.bs.set b (w'++[l])⟩) (by simp only;rw [Tg p];exact n) o (by simp only;rw [Tg (Ne.symm m)];exact hw) r ma⟩
  | @recv u _ b k' l w' hu g q =>
   by_cases m:a=b
   ·subst m;rw [hw] at q;obtain rfl:=Option.some.inj q;refine ⟨⟨(s.na.set i hb).set j (k' l),s.bs.set a (w'++[v])⟩,?_,?_⟩
    ·have:=jg.recv (act:=act) (cap:=cap) (s:=⟨s.na.set i hb,s.bs.set a (l::w'++[v])⟩) (i:=j) (t:=u) (w:=w'++[v]) (v:=l) (by simp only;rw [Tg f];exact hu) g (by simp only;rw [Gn hw];rfl);simpa only [List.set_set] using this
    ·have:=jg.send (act:=act) (cap:=cap) (s:=⟨s.na.set j (k' l),s.bs.set a w'⟩) (i:=i) (t:=t) (w:=w') (k:=k) (by simp only;rw [Tg p];exact n) o (by simp only;rw [Gn hw]) r (by simp only [List.length_cons] at ma;omega);rw [List.set_comm _ _ f];simpa only [List.set_set] using this
   ·exact ⟨⟨(s.na.set i hb).set j (k' l),(s.bs.set a (w++[v])).set b w'⟩,.recv (s:=⟨s.na.set i hb,s.bs.set a (w++[v])⟩) (by simp only;rw [Tg f];exact hu) g (by simp only;rw [Tg m];exact q),by
     rw [List.set_comm _ _ f,List.set_comm _ _ m];exact .send (s:=⟨s.na.set j (k' l),s.bs.set b w'⟩) (by simp only;rw [Tg p];exact n) o (by simp only;rw [Tg (Ne.symm m)];exact hw) r ma⟩
 | @recv t _ a k v w n o hw =>
  have B:=(W.recv (x.na _ _ n) o).1;cases A with
  | @Gg u h _ hu g=>exact ⟨⟨(s.na.set i (k v)).set j h,s.bs.set a w⟩,.Gg (s:=⟨s.na.set i (k v),s.bs.set a w⟩) (by simp only; rw [Tg f]; exact hu) g,by
    rw [List.set_comm _ _ f];exact .recv (s:=⟨s.na.set j h,s.bs⟩) (by simp only;rw [Tg p];exact n) o hw⟩
  | @send u h _ b k' l w' hu g q y z =>
   by_cases m:a=b
   ·subst m;rw [hw] at q;obtain rfl:=Option.some.inj q;refine ⟨⟨(s.na.set i (k v)).set j h,s.bs.set a (w++[l])⟩,?_,?_⟩
    ·have:=jg.send (act:=act) (cap:=cap) (s:=⟨s.na.set i (k v),s.bs.set a w⟩) (i:=j) (t:=u) (w:=w) (k:=k') (by simp only;rw [Tg f];exact hu) g (by simp only;rw [Gn hw]) y (by simp only [List.length_cons] at z;omega);simpa only [List.set_set] using this
    ·have:=jg.recv (act:=act) (cap:=cap) (s:=⟨s.na.set j h,s.bs.set a (v::w++[l])⟩) (i:=i) (t:=t) (w:=w++[l]) (v:=v) (by simp only;rw [Tg p];exact n) o (by simp only;rw [Gn hw];rfl);rw [List.set_comm _ _ f];simpa only [List.set_set] using this
   ·exact ⟨⟨(s.na.set i (k v)).set j h,(s.bs.set a w).set b (w'++[l])⟩,.send (s:=⟨s.na.set i (k v),s.bs.set a w⟩) (by simp only;rw [Tg f];exact hu) g (by simp only;rw [Tg m];exact q) y z,by
     rw [List.set_comm _ _ f,List.set_comm _ _ m];exact .recv (s:=⟨s.na.set j h,s.bs.set b (w'++[l])⟩) (by simp only;rw [Tg p];exact n) o (by simp only;rw [Tg (Ne.symm m)];exact hw)⟩
  | @recv u _ b k' l w' hu g q =>
   have C:=(W.recv (x.na _ _ hu) g).1;have m:a≠b:=λe=>f (W.hM B (e ▸ C));exact ⟨⟨(s.na.set i (k v)).set j (k' l),(s.bs.set a w).set b w'⟩,.recv (s:=⟨s.na.set i (k v),s.bs.set a w⟩) (by simp only;rw [Tg f];exact hu) g (by simp only;rw [Tg m];exact q),by
    rw [List.set_comm _ _ f,List.set_comm _ _ m];exact .recv (s:=⟨s.na.set j (k' l),s.bs.set b w'⟩) (by simp only;rw [Tg p];exact n) o (by simp only;rw [Tg (Ne.symm m)];exact hw)⟩
inductive qf (act:T->gm T) (cap:List Nat):Qe T->Nat->Nat->Qe T->Prop
 | nil {s:Qe T}:qf act cap s 0 0 s
 | cons {s s1 e:Qe T} {i c n d:Nat}:jg act cap s i c s1->qf act cap s1 n d e->qf act cap s (n+1) (c+d) e
def Mr (act:T->gm T) (cap:List Nat) (s:Qe T):Prop:=∀ i c Bb,¬ jg act cap s i c Bb
theorem qf.app {s a e:Qe T}{n d m f:Nat}(h:qf act cap s n d a) (b:qf act cap a m f e):qf act cap s (n+m) (d+f) e:=by
 induction h with
 | nil=>simpa using b
 | @cons _ _ _ _ c n d k _ g =>
  have:=qf.cons k (g b);rw [show n+1+m=(n+m)+1 by omega,Nat.add_assoc c d f];exact this
theorem qf.one {s e:Qe T}{i c:Nat}(h:jg act cap s i c e):qf act cap s 1 c e:=.cons h .nil
theorem qf.own (W:eu act O V wr rd){s e:Qe T}{n d:Nat}(h:qf act cap s n d e) (a:im O V s):im O V e:=by
 induction h with
 | nil=>exact a
 | cons k _ b=>exact b (k.own W a)
theorem qf.step (W:eu act O V wr rd){e:Qe T}(g:Mr act cap e):∀ (n:Nat){c:Nat}{s:Qe T},im O V s->qf act cap s n c e->∀ {i d:Nat}{a:Qe T},jg act cap s i d a->∃ m c',n=m+1/\c=d+c'/\qf act cap a m c' e
 | 0,c,s,b,h,i,d,a,k=>by
  cases h;exact (g _ _ _ k).elim
 | n+1,c,s,b,h,i,d,a,k=>by
  cases h with
  | @cons _ s2 _ j eb _ p f l =>
  by_cases o:i=j
  ·subst o;obtain ⟨rfl,rfl⟩:=k.LW f;exact ⟨n,p,rfl,rfl,l⟩
  ·obtain ⟨r,oa,a2⟩:=jg.MW W o b k f;obtain ⟨m,c',rfl,rfl,q⟩:=qf.step W g n (f.own W b) l a2;exact ⟨m+1,eb+c',rfl,by omega,.cons oa q⟩
theorem qf.ends (W:eu act O V wr rd){s e:Qe T}{n c:Nat}(i:Mr act cap e) (a:im O V s) (h:qf act cap s n c e){m d:Nat}{b:Qe T}(k:qf act cap s m d b):∃ f g,n=m+f/\c=d+g/\qf act cap b f g e:=by
 induction k generalizing n c with
 | nil=>exact ⟨n,c,by omega,by omega,h⟩
 | cons k1 _ j =>
  obtain ⟨r,eb,rfl,rfl,l⟩:=qf.step W i n a h k1;obtain ⟨o,p,rfl,rfl,q⟩:=j (k1.own W a) l;exact ⟨o,p,by omega,by omega,q⟩
theorem qf.uniq (W:eu act O V wr rd){s e a:Qe T}{n c m d:Nat}(b:Mr act cap e) (f:Mr act cap a) (g:im O V s) (h:qf act cap s n c e) (k:qf act cap s m d a):n=m/\c=d/\e=a:=by
 obtain ⟨j,l,rfl,rfl,i⟩:=h.ends W b g k;cases i with
 | nil=>exact ⟨rfl,rfl,rfl⟩
 | cons k1 _=>exact (f _ _ _ k1).elim
end
section
open Go.Mc Go.Kf
structure Core where
 fe:List ki
 Db:List Qg
 now:Nat
 out:List Int
inductive rm where
 | run (c:ih)
 | done
 | qe (n:Int)
def Ad.core (t:Ad):Core:=⟨t.fe,t.Db,t.now,t.out⟩
def Nf:ih->ih
 | .vd (.recv n k)=>.recv n k
 | .vd (.send n v k)=>.send n v k
 | c=>c
def Comm:ih->Prop
 | .recv _ _=>True
 | .send _ _ _=>True
 | .vd (.recv _ _)=>True
 | .vd (.send _ _ _)=>True
 | _=>False
inductive Xe (E:Ud):ih->Core->Nat->Core->rm->Prop
 | jz {x:Na} {s:Option Nat} {k:cf} {z:Core}:x.Kind=1\/x.Kind=2->Xe E (.expr x s k) z 1 z (.run (.df k x.N))
 | var {x:Na} {s:Option Nat} {k:cf} {z:Core} {i:Nat} {c:ki}:x.Kind=3->Cm z.fe x.Name (z.fe.length+1) s=some i->z.fe[i]?=some c->Xe E (.expr x s k) z 1 z (.run (.df k c.v))
 | tC {x:Na} {s:Option Nat} {k:cf} {z:Core}:x.Kind=20->Xe E (.expr x s k) z 1 z (.run (.recv x.Name k))
 | uC {x:Na} {s:Option Nat} {k:cf} {z:Core}:x.Kind≠1->x.Kind≠2->x.Kind≠3->x.Kind≠20->Xe E (.expr x s k) z 1 z (.run (.all x.Kids s [] (.ex x k)))
 | TB {l:List Na} {s:Option Nat} {Hd:List Int} {k:fl} {z:Core} {x:Na}:l.length≠Hd.length->l[Hd.length]?=some x->Xe E (.all l s Hd k) z 0 z (.run (.expr x s (.all l s Hd k)))
 | UB {l:List Na} {s:Option Nat} {Hd:List Int} {k:fl} {z:Core}:l.length=Hd.length->Xe E (.all l s Hd k) z 0 z (.run (.Hd k Hd))
 | nil {s:Option Nat} {e:kh} {k:je} {z:Core}:Xe E (.stats [] s e k) z 0 z (.run (.vd k))
 | stop {x:Ra} {l:List Ra} {s:Option Nat} {q k:je} {z:Core}:x.Kind=6->Xe E (.stats (x::l) s (.stop q) k) z 1 z (.run (.vd q))
 | GC {x:Ra} {l:List Ra} {s:Option Nat} {e:kh} {k:je} {z:Core}:x.Kind=4->Xe E (.stats (x::l) s e k) z 1 z (.run (.lf x s e (.stats l s e k)))
 | st {x:Ra} {l:List Ra} {s:Option Nat} {e:kh} {k:je} {z:Core}:x.Kind≠6->x.Kind≠4->Xe E (.stats (x::l) s e k) z 1 z (.run (.expr x.X s (.stat (x::l) s e k)))
 | lf {x:Ra} {s:Option Nat} {e:kh} {k:je} {z:Core}:Xe E (.lf x s e k) z 0 z (.run (.expr x.X s (.lf x s e k)))
 | VB {l:List Na} {s:Option Nat} {Hd:List Int} {k:fl} {v:Int} {z:Core} {g:List Int}:app Hd [v]=some g->Xe E (.df (.all l s Hd k) v) z 0 z (.run (.all l s g k))
 | Io {x:Ra} {l:List Ra} {s:Option Nat} {e:kh} {k:je} {v:Int} {z:Core}:x.Kind=1->Xe E (.df (.stat (x::l) s e k) v) z 0 { z with fe:=z.fe++[⟨x.Name,v,s⟩] } (.run (.vd (.stats l (some z.fe.length) e k)))
 | sset {x:Ra} {l:List Ra} {s:Option Nat} {e:kh} {k:je} {v:Int} {z:Core} {i:Nat} {c:ki}:x.Kind=2->Cm z.fe x.Name (z.fe.length+1) s=some i->z.fe[i]?=some c->Xe E (.df (.stat (x::l) s e k) v) z 0 { z with fe:=z.fe.set i { c with v:=v } } (.run (.vd (.stats l s e k)))
 | Hq {x:Ra} {l:List Ra} {s:Option Nat} {e:kh} {k:je} {v:Int} {z:Core}:x.Kind=3->Xe E (.df (.stat (x::l) s e k) v) z 0 z (.run (.stats (if v≠0 then x.Body else x.sf) s e (.stats l s e k)))
 | vq {x:Ra} {l:List Ra} {s:Option Nat} {q:cf} {k:je} {v:Int} {z:Core}:x.Kind=5->Xe E (.df (.stat (x::l) s (.ret q) k) v) z 0 z (.run (.df q v))
 | qq {x:Ra} {l:List Ra} {s:Option Nat} {e:kh} {k:je} {v:Int} {z:Core}:x.Kind=7->Xe E (.df (.stat (x::l) s e k) v) z 0 z (.run (.send x.Name v (.stats l s e k)))
 | wq {x:Ra} {l:List Ra} {s:Option Nat} {e:kh} {k:je} {v:Int} {z:Core} {o:List Int}:x.Kind=8->app z.out [v]=some o->Xe E (.df (.stat (x::l) s e k) v) z 0 { z with out:=o } (.run (.vd (.stats l s e k)))
 | Iq {x:Ra} {l:List Ra} {s:Option Nat} {e:kh} {k:je} {v:Int} {z:Core}:x.Kind≠1->x.Kind≠2->x.Kind≠3->x.Kind≠5->x.Kind≠7->x.Kind≠8->Xe E (.df (.stat (x::l) s e k) v) z 0 z (.run (.vd (.stats l s e k)))
 | WB {x:Ra} {s:Option Nat} {e:kh} {k:je} {v:Int} {z:Core}:v=0->Xe E (.df (.lf x s e k) v) z 0 z (.run (.vd k))
 | win {x:Ra} {s:Option Nat} {e:kh} {k:je} {v:Int} {z:Core}:v≠0->Xe E (.df (.lf x s e k) v) z 0 z (.run (.stats x.Body s e (.lf x s e k)))
 | neg {x:Na} {k:cf} {l:List Int} {z:Core} {a:Int}:x.Kind=4->at_ l 0=some a->Xe E (.Hd (.ex x k) l) z 0 z (.run (.df k (km (-a))))
 | not {x:Na} {k:cf} {l:List Int} {z:Core} {a:Int}:x.Kind=5->at_ l 0=some a->Xe E (.Hd (.ex x k) l) z 0 z (.run (.df k (km (1 - a))))
 | call {x:Na} {k:cf} {l:List Int} {z:Core} {d:va} {S:List ki} {s:Option Nat}:x.Kind=19->Oa E.defs x.Name=some d->Kj d.Params l z.fe none=some (S,s)->Xe E (.Hd (.ex x k) l) z 0 { z with fe:=S } (.run (.stats d.Body s (.ret k) (.zero k)))
 | Gq {x:Na} {k b:cf} {l:List Int} {z:Core} {a:Int} {c:Qg} {u:Nat}:x.Kind=21->at_ l 0=some a->z.Db[z.now]?=some c->c.up=some u->c.back=some b->Xe E (.Hd (.ex x k) l) z 0 { z with Db:=z.Db.set z.now { c with uk:=some k,going:=false },now:=u } (.run (.df b a))
 | many {x:Na} {k:cf} {l:List Int} {z:Core}:x.Kind=22->(z.Db.length:Int) - 1=30->Xe E (.Hd (.ex x k) l) z 0 z (.qe 5)
 | start {x:Na} {k:cf} {l:List Int} {z:Core} {d:va} {S:List ki} {s:Option Nat}:x.Kind=22->(z.Db.length:Int) - 1≠30->Oa E.defs x.Name=some d->Kj d.Params l z.fe none=some (S,s)->Xe E (.Hd (.ex x k) l) z 0 { z with fe:=S,Db:=z.Db++[⟨d,s,false,false,false,none,none,none⟩] } (.run (.df k (z.Db.length - 1)))
 | res {x:Na} {k:cf} {l:List Int} {z:Core} {a b:Int}:x.Kind=23->at_ l 0=some a->at_ l 1=some b->0<=a/\a<(z.Db.length:Int) - 1->Xe E (.Hd (.ex x k) l) z 0 z (.run (.resume (a.toNat+1) b k))
 | alive {x:Na} {k:cf} {l:List Int} {z:Core} {a:Int} {c:Qg}:x.Kind=24->at_ l 0=some a->0<=a->z.Db[a.toNat+1]?=some c->Xe E (.Hd (.ex x k) l) z 0 z (.run (.df k (bk !c.ended)))
 | XB {x:Na} {k:cf} {l:List Int} {z:Core}:x.Kind=9\/x.Kind=10->at_ l 1=some 0->Xe E (.Hd (.ex x k) l) z 0 z (.qe 1)
 | two {x:Na} {k:cf} {l:List Int} {z:Core} {a b v:Int}:x.Kind≠4/\x.Kind≠5/\x.Kind≠19/\x.Kind≠21/\x.Kind≠22/\x.Kind≠23/\x.Kind≠24->(x.Kind=9\/x.Kind=10->b≠0)->at_ l 0=some a->at_ l 1=some b->Rn x.Kind a b=some v->Xe E (.Hd (.ex x k) l) z 0 z (.run (.df k v))
 | zero {k:cf} {z:Core}:Xe E (.vd (.zero k)) z 0 z (.run (.df k 0))
 | done {g u:Nat} {z:Core} {c:Qg} {b:cf}:z.Db[g]?=some c->c.up=some u->c.back=some b->Xe E (.vd (.done g)) z 0 { z with Db:=z.Db.set g { c with ended:=true,going:=false },now:=u } (.run (.df b 0))
 | stats {l:List Ra} {s:Option Nat} {e:kh} {k:je} {z:Core}:Xe E (.vd (.stats l s e k)) z 0 z (.run (.stats l s e k))
 | YB {x:Ra} {s:Option Nat} {e:kh} {k:je} {z:Core}:Xe E (.vd (.lf x s e k)) z 0 z (.run (.lf x s e k))
 | fin {z:Core}:Xe E (.vd .fin) z 0 z .done
 | cj {d:va} {z:Core}:Xe E (.vd (.cj d)) z 0 z (.run (.stats d.Body none (.stop .fin) .fin))
 | gone {g:Nat} {v:Int} {k:cf} {z:Core} {c:Qg}:z.Db[g]?=some c->c.ended=true->Xe E (.resume g v k) z 0 z (.qe 2)
 | busy {g:Nat} {v:Int} {k:cf} {z:Core} {c:Qg}:z.Db[g]?=some c->c.ended≠true->c.going=true\/g=z.now->Xe E (.resume g v k) z 0 z (.qe 3)
 | on {g:Nat} {v:Int} {k o:cf} {z:Core} {c:Qg}:z.Db[g]?=some c->c.ended≠true->¬ (c.going=true\/g=z.now)->c.begun=true->c.uk=some o->Xe E (.resume g v k) z 0 { z with Db:=z.Db.set g { c with going:=true,up:=some z.now,back:=some k },now:=g } (.run (.df o v))
 | first {g:Nat} {v:Int} {k:cf} {z:Core} {c:Qg}:z.Db[g]?=some c->c.ended≠true->¬ (c.going=true\/g=z.now)->c.begun≠true->Xe E (.resume g v k) z 0 { z with Db:=z.Db.set g { c with going:=true,up:=some z.now,back:=some k,begun:=true },now:=g } (.run (.stats c.Lm.Body c.args (.stop (.done g)) (.done g)))
def Zg (t:Ad) (bs:List ed) (nd:Int) (x:Core):rm->gk
 | .run c=>.call c ⟨{ t with fe:=x.fe,Db:=x.Db,now:=x.now,out:=x.out },bs,nd⟩
 | .done=>.ret none ⟨{ t with fe:=x.fe,Db:=x.Db,now:=x.now,out:=x.out,state:=4 },bs,nd⟩
 | .qe n=>.ret none ⟨{ t with fe:=x.fe,Db:=x.Db,now:=x.now,out:=x.out,state:=5,qe:=n },bs,nd⟩
inductive PG:gk->gk->Prop
 | rfl (o:gk):PG o o
 | ret (k:je) (z:Sc):PG (.ret (some k) z) (.call (.vd k) z)
theorem Xe.step {E:Ud}{c:ih}{t:Ad}{bs:List ed}{nd:Int}{n:Nat}{x:Core}{q:rm}(h:Xe E c t.core n x q) (u:n=0\/nd+1<=20000):∃ o,de E c ⟨t,bs,nd⟩=some o/\PG o (Zg t bs (nd+n) x q):=by
 have m:∀ f,nd+1<=20000->tt ⟨t,bs,nd⟩ f=f ⟨t,bs,nd+1⟩:=λf h=>by rw [tt,if_neg (by show ¬ (20000<nd+1);omega)]
 obtain ⟨fe,Db,now,qm,state,box,qe,out⟩:=t
 change Xe E c ⟨fe,Db,now,out⟩ n x q at h
 cases h with
 | jz h=>refine ⟨_,?_,.rfl _⟩; rw [de,m _ (by omega),if_pos h]; rfl
 | var h d e =>
  refine ⟨_,?_,.rfl _⟩;rw [de,m _ (by omega),if_neg (by omega),if_pos h];show (Cm fe _ _ _).bind _=_;rw [show Cm fe _ (fe.length+1) _=_ from d];simp only [Option.bind_some];show (fe[_]?).bind _=_;rw [show fe[_]?=_ from e];rfl
 | tC h=>refine ⟨_,?_,.rfl _⟩; rw [de,m _ (by omega),if_neg (by omega),if_neg (by omega),if_pos h]; rfl
 | uC p d e g=>refine ⟨_,?_,.rfl _⟩; rw [de,m _ (by omega),if_neg (by omega),if_neg (by omega),if_neg g]; rfl
 | TB h d=>refine ⟨_,?_,.rfl _⟩; rw [de,if_neg h,d]; simp [Zg]
 | UB h=>refine ⟨_,?_,.rfl _⟩; rw [de,if_pos h]; simp [Zg]
 | nil=>refine ⟨_,?_,.ret _ _⟩; rw [de]; simp [Zg]
 | stop h=>refine ⟨_,?_,.ret _ _⟩; rw [de,m _ (by omega),if_pos h]; rfl
 | GC h=>refine ⟨_,?_,.rfl _⟩; rw [de,m _ (by omega),if_neg (by omega),if_pos h]; rfl
 | st p d=>refine ⟨_,?_,.rfl _⟩; rw [de,m _ (by omega),if_neg p,if_neg d]; rfl
 | lf=>refine ⟨_,?_,.rfl _⟩; rw [de]; simp [Zg]
 | VB h=>refine ⟨_,?_,.rfl _⟩; rw [de,h]; simp [Zg]
 | Io h=>refine ⟨_,?_,.ret _ _⟩; rw [de]; simp [rp,h,Zg,Sc.task]
 | sset h d e =>
  refine ⟨_,?_,.ret _ _⟩;rw [de];unfold rp;rw [if_neg (by omega),if_pos h,show Cm fe _ (fe.length+1) _=_ from d];simp only [Option.bind_some];rw [show fe[_]?=_ from e];simp [Zg,Sc.task]
 | Hq h=>refine ⟨_,?_,.rfl _⟩; rw [de]; simp [rp,h,Zg,Sc.task]
 | vq h=>refine ⟨_,?_,.rfl _⟩; rw [de]; simp [rp,h,Zg,Sc.task]
 | qq h=>refine ⟨_,?_,.rfl _⟩; rw [de]; simp [rp,h,Zg,Sc.task]
 | wq h d =>
  refine ⟨_,?_,.ret _ _⟩;rw [de];unfold rp;rw [if_neg (by omega),if_neg (by omega),if_neg (by omega),if_neg (by omega),if_neg (by omega),if_pos h,show app out _=_ from d];simp [Zg,Sc.task]
 | Iq p d e g j s=>refine ⟨_,?_,.ret _ _⟩; rw [de]; simp [rp,p,d,e,g,j,s,Zg,Sc.task]
 | WB h=>refine ⟨_,?_,.ret _ _⟩; rw [de,if_pos h]; simp [Zg]
 | win h=>refine ⟨_,?_,.rfl _⟩; rw [de,if_neg h]; simp [Zg]
 | neg h d=>refine ⟨_,?_,.rfl _⟩; rw [de]; simp [Sn,h,d,Zg,Sc.task]
 | not h d=>refine ⟨_,?_,.rfl _⟩; rw [de]; simp [Sn,h,d,Zg,Sc.task]
 | call h d e =>
  refine ⟨_,?_,.rfl _⟩;rw [de];rw [Sn];rw [if_neg (by omega),if_neg (by omega),if_pos h,d];simp only [Option.bind_some];rw [show Kj _ _ fe _=_ from e];simp [Zg,Sc.task]
 | Gq h d e g j =>
  have r:Db[now]?=some _:=e;refine ⟨_,?_,.rfl _⟩;rw [de];rw [Sn];rw [if_neg (by omega),if_neg (by omega),if_neg (by omega),if_pos h,d];simp only [Option.bind_some];rw [r];simp only [Option.bind_some];rw [g];simp only [Option.bind_some];rw [j];simp only [Option.bind_some];simp [Zg,Sc.task,Ad.tn,r,g,j]
 | many h d =>
  dsimp only at *;refine ⟨_,?_,.rfl _⟩;rw [de];rw [Sn];rw [if_neg (by omega),if_neg (by omega),if_neg (by omega),if_neg (by omega),if_pos h,if_pos d];simp [Zg,Sc.task,At]
 | start h d e g =>
  dsimp only at *;refine ⟨_,?_,.rfl _⟩;rw [de];rw [Sn];rw [if_neg (by omega),if_neg (by omega),if_neg (by omega),if_neg (by omega),if_pos h,if_neg d,e];simp only [Option.bind_some];rw [show Kj _ _ fe _=_ from g];simp [Zg,Sc.task]
 | res h d e g =>
  dsimp only at *;refine ⟨_,?_,.rfl _⟩;rw [de];rw [Sn];rw [if_neg (by omega),if_neg (by omega),if_neg (by omega),if_neg (by omega),if_neg (by omega),if_pos h,d];simp only [Option.bind_some];rw [e];simp only [Option.bind_some];rw [if_pos g];simp [Zg]
 | alive h d e g =>
  refine ⟨_,?_,.rfl _⟩;rw [de];rw [Sn];rw [if_neg (by omega),if_neg (by omega),if_neg (by omega),if_neg (by omega),if_neg (by omega),if_neg (by omega),if_pos h,d];simp only [Option.bind_some];rw [if_pos e,show Db[_]?=_ from g];simp [Zg]
 | XB h d =>
  refine ⟨_,?_,.rfl _⟩;rw [de];rw [Sn];rw [if_neg (by omega),if_neg (by omega),if_neg (by omega),if_neg (by omega),if_neg (by omega),if_neg (by omega),if_neg (by omega),if_pos h,d];simp [Zg,Sc.task,At]
 | @two x k l z a b v h d e g j =>
  refine ⟨_,?_,.rfl _⟩;rw [de];rw [Sn];rw [if_neg (by omega),if_neg (by omega),if_neg (by omega),if_neg (by omega),if_neg (by omega),if_neg (by omega),if_neg (by omega),e,g];simp only [Option.bind_some];by_cases c:x.Kind=9\/x.Kind=10
  ·rw [if_pos c];simp [d c,j,Zg]
  ·rw [if_neg c];simp [j,Zg]
 | zero=>refine ⟨_,?_,.rfl _⟩; rw [de]; simp [Zg]
 | done h d e =>
  have i:Db[_]?=some _:=h;refine ⟨_,?_,.rfl _⟩;rw [de];simp only [i,Option.bind_some,d,e];simp [Zg,Sc.task,Ad.tn,i,d,e]
 | stats=>refine ⟨_,?_,.rfl _⟩; rw [de]; simp [Zg]
 | YB=>refine ⟨_,?_,.rfl _⟩; rw [de]; simp [Zg]
 | fin=>refine ⟨_,?_,.rfl _⟩; rw [de]; simp [Zg,Sc.task]
 | cj=>refine ⟨_,?_,.rfl _⟩; rw [de]; simp [Zg]
 | gone h d =>
  have i:Db[_]?=some _:=h;refine ⟨_,?_,.rfl _⟩;rw [de];simp only [Lu,i,Option.bind_some];rw [if_pos d];simp [Zg,Sc.task,At]
 | busy h d e =>
  dsimp only at e;have i:Db[_]?=some _:=h;refine ⟨_,?_,.rfl _⟩;rw [de];simp only [Lu,i,Option.bind_some];rw [if_neg d,if_pos e];simp [Zg,Sc.task,At]
 | on h d e g j =>
  dsimp only at e;have i:Db[_]?=some _:=h;refine ⟨_,?_,.rfl _⟩;rw [de];simp only [Lu,i,Option.bind_some];rw [if_neg d,if_neg e,if_pos g,j];simp [Zg,Sc.task,Ad.tn,i,j]
 | first h d e g =>
  dsimp only at e;have i:Db[_]?=some _:=h;refine ⟨_,?_,.rfl _⟩;rw [de];simp only [Lu,i,Option.bind_some];rw [if_neg d,if_neg e,if_neg g];obtain ⟨ma,he⟩:=List.getElem?_eq_some_iff.1 i;simp [Zg,Sc.task,Ad.tn,i,ma,he]
end
section
open Go.Mc Go.Kf
structure hg where
 Ld:List va
 yf:List (Ge×Option Nat×Sa)
structure hg.le (C Mg:hg):Prop where
 Ld:∀ (i:Nat) (d:va),C.Ld[i]?=some d->Mg.Ld[i]?=some d
 yf:∀ (i:Nat) (c:Ge×Option Nat×Sa),C.yf[i]?=some c->Mg.yf[i]?=some c
theorem hg.le.r {C:hg}:C.le C:=⟨λ_ _ h=>h,λ_ _ h=>h⟩
theorem Ul {α:Type}{l m:List α}{i:Nat}{a:α}(h:l[i]?=some a):(l++m)[i]?=some a:=by
 rw [List.getElem?_append_left (List.getElem?_eq_some_iff.1 h).1];exact h
theorem hg.le.app {C:hg}{a:List va}{b:List (Ge×Option Nat×Sa)}:C.le ⟨C.Ld++a,C.yf++b⟩:=⟨λ_ _ h=>Ul h,λ_ _ h=>Ul h⟩
def yi (p:mb) (C:hg) (t:Sa) (v:Int):Prop :=
 (t.Kind=2->v=0\/v=1)/\(t.Kind=3->∃ (j:Nat) (d:va),v=(j:Int)/\C.Ld[j+1]?=some d/\Oa p.named t.Pc=some d)
theorem yi.up {p:mb}{C Mg:hg}(l:C.le Mg){t:Sa}{v:Int}(h:yi p C t v):yi p Mg t v:=⟨h.1,λk=>by
 obtain ⟨j,d,a,b,c⟩:=h.2 k;exact ⟨j,d,a,l.Ld _ _ b,c⟩⟩
theorem sP {t:Sa}(h:t.Kind=3):Ke t=t:=by unfold Ke;rw [if_neg (by omega)]
theorem yi.bare {p:mb}{C:hg}{t:Sa}{v:Int}:yi p C (Ke t) v ↔ yi p C t v:=by
 by_cases h:t.Kind=3
 ·rw [sP h]
 ·unfold yi;rw [Hn];exact ⟨λk=>⟨k.1,λe=>absurd e h⟩,λk=>⟨k.1,λe=>absurd e h⟩⟩
theorem yi.plain {p:mb}{C:hg}{t:Sa}{v:Int}(a:t.Kind=2->v=0\/v=1) (h:t.Kind≠3):yi p C t v:=⟨a,λk=>absurd k h⟩
theorem yi.num {p:mb}{C:hg}{v:Int}:yi p C ⟨1,[]⟩ v:=.plain (λh=>by simp at h) (by simp)
theorem yi.bool {p:mb}{C:hg}{v:Int}(h:v=0\/v=1):yi p C ⟨2,[]⟩ v:=.plain (λ_=>h) (by simp)
theorem yi.PV {p:mb}{C:hg}{b:Bool}:yi p C ⟨2,[]⟩ (bk b):=.bool (by cases b<;>simp [bk])
inductive Ym (yf:List (Ge×Option Nat×Sa)) (n:Ge):Option Nat->Nat->Sa->Prop
 | here {i:Nat} {u:Option Nat} {t:Sa}:yf[i]?=some (n,u,t)->Ym yf n (some i) i t
 | up {i j:Nat} {a:Ge} {u:Option Nat} {t hb:Sa}:yf[i]?=some (a,u,hb)->a≠n->Ym yf n u j t->Ym yf n (some i) j t
theorem Ym.mono {yf a:List (Ge×Option Nat×Sa)}(l:∀ (i:Nat) (c:Ge×Option Nat×Sa),yf[i]?=some c->a[i]?=some c){n:Ge}{s:Option Nat}{i:Nat}{t:Sa}(h:Ym yf n s i t):Ym a n s i t:=by
 induction h with
 | here h=>exact .here (l _ _ h)
 | up h b _ d=>exact .up (l _ _ h) b d
theorem Ym.get {yf:List (Ge×Option Nat×Sa)}{n:Ge}{s:Option Nat}{i:Nat}{t:Sa}(h:Ym yf n s i t):∃ u,yf[i]?=some (n,u,t):=by
 induction h with
 | here h=>exact ⟨_,h⟩
 | up _ _ _ a=>exact a
structure Env (C:hg) (s:Option Nat) (B:ye):Prop where
 ok:∀ j,s=some j->j<C.yf.length
 at_:∀ (n:Ge) (t:Sa),Rj B n=some t->∃ i,Ym C.yf n s i t
theorem hg.le.len {C Mg:hg}(l:C.le Mg){j:Nat}(h:j<C.yf.length):j<Mg.yf.length:=(List.getElem?_eq_some_iff.1 (l.yf _ _ (List.getElem?_eq_getElem h))).1
theorem Env.up {C Mg:hg}(l:C.le Mg){s:Option Nat}{B:ye}(h:Env C s B):Env Mg s B:=⟨λj e=>l.len (h.ok j e),λn t e=>by
 obtain ⟨i,h⟩:=h.at_ n t e;exact ⟨i,h.mono l.yf⟩⟩
theorem VJ (B:ye) (n:Ge):Rj (B++[[]]) n=Rj B n:=by
 unfold Rj;rw [List.reverse_append,List.reverse_singleton,List.singleton_append,List.findSome?_cons];rfl
theorem Env.ea {C:hg}{s:Option Nat}{B:ye}(h:Env C s B):Env C s (B++[[]]):=⟨h.ok,λn t e=>h.at_ n t (by rwa [VJ] at e)⟩
theorem Env.nil {C:hg}:Env C none ([[]]++[[]]):=⟨λj e=>(by cases e),λn t e=>by rw [VJ] at e;cases e⟩
structure tm (p:mb) (C:hg) (S:List ki):Prop where
 len:S.length=C.yf.length
 at_:∀ (i:Nat) (c:ki),S[i]?=some c->∃ t,C.yf[i]?=some (c.name,c.up,t)/\(∀ j,c.up=some j->j<i)/\yi p C t c.v
theorem tm.get {p:mb}{C:hg}{S:List ki}(h:tm p C S){i:Nat}{n:Ge}{u:Option Nat}{t:Sa}(e:C.yf[i]?=some (n,u,t)):∃ c,S[i]?=some c/\c.name=n/\c.up=u/\(∀ j,u=some j->j<i)/\yi p C t c.v:=by
 have ma:=(List.getElem?_eq_some_iff.1 e).1;rw [<- h.len] at ma;have a:S[i]?=some S[i]:=List.getElem?_eq_getElem ma;obtain ⟨hb,b,d,f⟩:=h.at_ _ _ a;rw [e] at b;cases b;exact ⟨_,a,rfl,rfl,d,f⟩
theorem Ym.find {p:mb}{C:hg}{S:List ki}(g:tm p C S){n:Ge}{s:Option Nat}{i:Nat}{t:Sa}(h:Ym C.yf n s i t):∀ fu,(∀ b,s=some b->b<fu)->Cm S n fu s=some i:=by
 induction h with
 | @here i u t h =>
  intro fu a;obtain ⟨c,d,f,-⟩:=g.get h;cases fu with
  | zero=>have:=a _ rfl; omega
  | succ fu=>rw [Cm,d]; simp [f]
 | @up i j o u t hb h f _ k =>
  intro fu a;obtain ⟨c,d,l,m,pf,-⟩:=g.get h;cases fu with
  | zero=>have:=a _ rfl; omega
  | succ fu =>
   rw [Cm,d];simp only [Option.bind_some,l,if_neg f,m];have:=a _ rfl;exact k fu λb e=>by have:=pf _ e;omega
theorem Ym.found {p:mb}{C:hg}{S:List ki}(a:tm p C S){n:Ge}{s:Option Nat}{i:Nat}{t:Sa}(h:Ym C.yf n s i t):∃ c,Cm S n (S.length+1) s=some i/\S[i]?=some c/\c.name=n/\C.yf[i]?=some (n,c.up,t)/\yi p C t c.v:=by
 obtain ⟨u,hu⟩:=h.get;obtain ⟨c,b,d,rfl,k,f⟩:=a.get hu;refine ⟨c,h.find a _ λg e=>?_,b,d,hu,f⟩;have:∃ x,C.yf[g]?=some x:=by
  subst e;cases h with
  | here h=>exact ⟨_,h⟩
  | up h _ _=>exact ⟨_,h⟩
 obtain ⟨x,j⟩:=this;have:=(List.getElem?_eq_some_iff.1 j).1;rw [<- a.len] at this;omega
def Hp (C:hg) (g:Nat) (d:va):Prop:=d.Kind=3->C.Ld[g]?=some d
theorem Hp.up {C Mg:hg}(l:C.le Mg){g:Nat}{d:va}(h:Hp C g d):Hp Mg g d:=λk=>l.Ld _ _ (h k)
structure Ng where
 c:Ge->Prop
 s:Ge->Prop
 r:Ge->Prop
inductive qz (U:Ng):Na->Prop
 | mk {x:Na}:(x.Kind=19\/x.Kind=22->U.c x.Name)->(x.Kind=20->U.r x.Name)->(∀ y ∈ x.Kids,qz U y)->qz U x
inductive rz (U:Ng):Ra->Prop
 | mk {x:Ra}:(x.Kind=7->U.s x.Name)->(x.Kind≠6->qz U x.X)->(x.Kind=3\/x.Kind=4->∀ y ∈ x.Body,rz U y)->(x.Kind=3->∀ y ∈ x.sf,rz U y)->rz U x
def um (U:Ng) (x:Na):Prop:=(∃ k,iz k x)/\qz U x
def xj (U:Ng) (l:List Ra):Prop:=(∃ k,∀ y ∈ l,rv k y)/\∀ y ∈ l,rz U y
structure bx (p:mb) (U:Ng) (d:va) (B:ye) (l:List Na) (na:List Sa) (m:Nat):Prop where
 len:l.length=na.length
 le:l.length<=100
 at_:∀ (i:Nat) (y:Na) (t:Sa),m<=i->l[i]?=some y->na[i]?=some t->Ve p d B y t/\um U y
inductive ko (p:mb) (U:Ng) (d:va) (x:Na):List Sa->Sa->Prop
 | neg:x.Kind=4->ko p U d x [⟨1,[]⟩] ⟨1,[]⟩
 | not:x.Kind=5->ko p U d x [⟨2,[]⟩] ⟨2,[]⟩
 | pz:6<=x.Kind/\x.Kind<=10->ko p U d x [⟨1,[]⟩,⟨1,[]⟩] ⟨1,[]⟩
 | eq {t:Sa}:x.Kind=11\/x.Kind=12->t.Kind≠3->ko p U d x [t,t] ⟨2,[]⟩
 | lt:13<=x.Kind/\x.Kind<=16->ko p U d x [⟨1,[]⟩,⟨1,[]⟩] ⟨2,[]⟩
 | jk:17<=x.Kind/\x.Kind<=18->ko p U d x [⟨2,[]⟩,⟨2,[]⟩] ⟨2,[]⟩
 | call {f:va}:x.Kind=19->U.c x.Name->Oa p.named x.Name=some f->f.Kind=2->ko p U d x (f.Params.map λq=>Ke q.Ob) (Ke f.Ob)
 | Gq:x.Kind=21->d.Kind=3->ko p U d x [Ke d.Ob] (Ke d.Yd)
 | start {f:va}:x.Kind=22->U.c x.Name->Oa p.named x.Name=some f->f.Kind=3->ko p U d x (f.Params.map λq=>Ke q.Ob) ⟨3,x.Name⟩
 | resume {g:Nm} {f:va}:x.Kind=23->Oa p.named g=some f->f.Kind=3->ko p U d x [⟨3,g⟩,Ke f.Yd] (Ke f.Ob)
 | alive {g:Nm} {f:va}:x.Kind=24->Oa p.named g=some f->f.Kind=3->ko p U d x [⟨3,g⟩] ⟨2,[]⟩
inductive qs (p:mb) (U:Ng) (d:va):ye->Ra->Sa->ye->Prop
 | Io {B:ye} {s:Ra} {t:Sa} (h:B.length - 1<B.length):s.Kind=1->Rj B s.Name=none->qs p U d B s t (B.set (B.length - 1) (kd B[B.length - 1] s.Name t))
 | sset {B:ye} {s:Ra} {t:Sa}:s.Kind=2->Rj B s.Name=some t->qs p U d B s (Ke t) B
 | Hq {B a b:ye} {s:Ra}:s.Kind=3->ik p d (B++[[]]) s.Body a->ik p d (B++[[]]) s.sf b->qs p U d B s ⟨2,[]⟩ B
 | vq {B:ye} {s:Ra}:s.Kind=5->d.Kind=2->qs p U d B s (Ke d.Ob) B
 | qq {B:ye} {s:Ra} {f:va}:s.Kind=7->U.s s.Name->Oa p.named s.Name=some f->f.Kind=1->qs p U d B s (Ke f.Ob) B
 | wq {B:ye} {s:Ra} {t:Sa}:s.Kind=8->t.Kind≠3->qs p U d B s t B
 | Iq {B:ye} {s:Ra} {t:Sa}:s.Kind=9->qs p U d B s t B
def qu (p:mb) (C:hg) (na:List Sa) (vs:List Int):Prop:=∀ (i:Nat) (t:Sa) (v:Int),na[i]?=some t->vs[i]?=some v->yi p C t v
theorem qu.up {p:mb}{C Mg:hg}(l:C.le Mg){na:List Sa}{vs:List Int}(h:qu p C na vs):qu p Mg na vs:=λi t v a b=>(h i t v a b).up l
mutual
def yl (p:mb) (U:Ng) (C:hg) (g:Nat):cf->Sa->Prop
 | .all l s Hd k,t=>∃ d B na,Hp C g d/\Env C s B/\bx p U d B l na (Hd.length+1)/\qu p C na Hd/\na[Hd.length]?=some t/\sv p U C g k na
 | .stat l s e k,t=>∃ d B a b x r,l=x::r/\Hp C g d/\Env C s B/\qs p U d B x t a/\ik p d a r b/\xj U l/\Ip p U C g e d/\hk p U C g k
 | .lf x s e k,t=>t=⟨2,[]⟩/\∃ d B a,Hp C g d/\Env C s B/\x.Kind=4/\Ve p d B x.X ⟨2,[]⟩/\ik p d (B++[[]]) x.Body a/\xj U [x]/\Ip p U C g e d/\hk p U C g k
def sv (p:mb) (U:Ng) (C:hg) (g:Nat):fl->List Sa->Prop
 | .ex x k,na=>∃ d t,Hp C g d/\ko p U d x na t/\yl p U C g k t
def hk (p:mb) (U:Ng) (C:hg) (g:Nat):je->Prop
 | .zero k=>∃ t,t.Kind≠3/\yl p U C g k t
 | .recv n k=>∃ f,U.r n/\Oa p.named n=some f/\f.Kind=1/\yl p U C g k (Ke f.Ob)
 | .send n v k=>∃ f,U.s n/\Oa p.named n=some f/\f.Kind=1/\yi p C (Ke f.Ob) v/\hk p U C g k
 | .done b=>b=g/\1<=g
 | .stats l s e k=>∃ d B a,Hp C g d/\Env C s B/\ik p d B l a/\xj U l/\Ip p U C g e d/\hk p U C g k
 | .lf x s e k=>∃ d B c,Hp C g d/\Env C s B/\x.Kind=4/\Ve p d B x.X ⟨2,[]⟩/\ik p d (B++[[]]) x.Body c/\xj U [x]/\Ip p U C g e d/\hk p U C g k
 | .fin=>g=0
 | .cj d=>g=0/\d.Kind=4/\xj U d.Body/\∃ a,ik p d ([[]]++[[]]) d.Body a
def Ip (p:mb) (U:Ng) (C:hg) (g:Nat):kh->va->Prop
 | .ret k,d=>d.Kind=2/\yl p U C g k (Ke d.Ob)
 | .stop k,d=>d.Kind≠2/\hk p U C g k
end
section
variable {p:mb}{U:Ng}{C Mg:hg}(l:C.le Mg){g:Nat}
include l
mutual
theorem yl.up:∀ {k:cf}{t:Sa},yl p U C g k t->yl p U Mg g k t
 | .all ..,_,⟨d,B,na,a,b,c,e,f,h⟩=>⟨d,B,na,a.up l,b.up l,c,e.up l,f,sv.up h⟩
 | .stat ..,_,⟨d,B,i,n,x,r,a,b,c,e,f,h,j,m⟩=>⟨d,B,i,n,x,r,a,b.up l,c.up l,e,f,h,Ip.up j,hk.up m⟩
 | .lf ..,_,⟨o,d,B,i,a,b,c,e,f,h,j,m⟩=>⟨o,d,B,i,a.up l,b.up l,c,e,f,h,Ip.up j,hk.up m⟩
theorem sv.up:∀ {k:fl}{na:List Sa},sv p U C g k na->sv p U Mg g k na
 | .ex ..,_,⟨d,t,a,b,c⟩=>⟨d,t,a.up l,b,yl.up c⟩
theorem hk.up:∀ {k:je},hk p U C g k->hk p U Mg g k
 | .zero ..,⟨t,a,b⟩=>⟨t,a,yl.up b⟩
 | .recv ..,⟨f,i,a,b,c⟩=>⟨f,i,a,b,yl.up c⟩
 | .send ..,⟨f,i,a,b,c,e⟩=>⟨f,i,a,b,c.up l,hk.up e⟩
 | .done ..,h=>h
 | .stats ..,⟨d,B,n,a,b,c,e,j,m⟩=>⟨d,B,n,a.up l,b.up l,c,e,Ip.up j,hk.up m⟩
 | .lf ..,⟨d,B,o,a,b,c,e,j,m,q,r⟩=>⟨d,B,o,a.up l,b.up l,c,e,j,m,Ip.up q,hk.up r⟩
 | .fin,h=>h
 | .cj ..,h=>h
theorem Ip.up:∀ {e:kh}{d:va},Ip p U C g e d->Ip p U Mg g e d
 | .ret ..,_,⟨a,b⟩=>⟨a,yl.up b⟩
 | .stop ..,_,⟨a,b⟩=>⟨a,hk.up b⟩
end
end
structure cx (p:mb) (U:Ng) (C:hg) (g:Nat) (c:Qg):Prop where
 d:C.Ld[g]?=some c.Lm
 bd:1<=g->c.Lm.Kind=3/\∃ n,Oa p.named n=some c.Lm/\U.c n
 fresh:1<=g->c.begun=false->c.going=false/\c.ended=false/\Env C c.args [bu c.Lm]
 held:1<=g->c.begun=true->c.going=false->c.ended=false->∃ k,c.uk=some k/\yl p U C g k (Ke c.Lm.Yd)
 go:1<=g->c.going=true->c.begun=true/\c.ended=false/\∃ u b,c.up=some u/\c.back=some b/\yl p U C u b (Ke c.Lm.Ob)
 zero:g=0->c.going=false/\c.ended=false
theorem cx.le {p:mb}{U:Ng}{C Mg:hg}(l:C.le Mg){g:Nat}{c:Qg}(h:cx p U C g c):cx p U Mg g c :=
 ⟨l.Ld _ _ h.d,h.bd,λa b=>⟨(h.fresh a b).1,(h.fresh a b).2.1,(h.fresh a b).2.2.up l⟩,λa b e f=>by
  obtain ⟨k,k1,i⟩:=h.held a b e f;exact ⟨k,k1,i.up l⟩,λa b=>by
  obtain ⟨j,m,u,Qc,n,o,q⟩:=h.go a b;exact ⟨j,m,u,Qc,n,o,q.up l⟩,h.zero⟩
inductive xn (Db:List Qg):Nat->List Nat->Prop
 | main:xn Db 0 []
 | up {g u:Nat} {c:Qg} {L:List Nat}:1<=g->Db[g]?=some c->c.going=true->c.up=some u->xn Db u L->xn Db g (g::L)
theorem xn.set {Db:List Qg}{g j:Nat}{L:List Nat}{c:Qg}(h:xn Db g L) (a:j ∉ L):xn (Db.set j c) g L:=by
 induction h with
 | main=>exact .main
 | @up g u c' L b d e f _ i =>
  simp only [List.mem_cons,not_or] at a;exact .up b (by rw [List.getElem?_set_ne a.1];exact d) e f<|i a.2
theorem xn.app {Db m:List Qg}{g:Nat}{L:List Nat}(h:xn Db g L):xn (Db++m) g L:=by
 induction h with
 | main=>exact .main
 | up a b c d _ e=>exact .up a (Ul b) c d e
theorem xn.going {Db:List Qg}{g:Nat}{L:List Nat}(h:xn Db g L):∀ j ∈ L,∃ c,Db[j]?=some c/\c.going=true:=by
 induction h with
 | main=>intro j a; cases a
 | up f b d i _ e =>
  intro j a;rcases List.mem_cons.1 a with rfl | a
  ·exact ⟨_,b,d⟩
  ·exact e j a
structure Sj (p:mb) (U:Ng) (C:hg) (L:List Nat) (z:Core):Prop where
 Tc:tm p C z.fe
 Xr:z.Db.length=C.Ld.length
 Ld:∀ (g:Nat) (c:Qg),z.Db[g]?=some c->cx p U C g c
 pos:1<=z.Db.length
 le:z.Db.length<=31
 tv:xn z.Db z.now L
 nd:L.Nodup
 all:∀ (g:Nat) (c:Qg),z.Db[g]?=some c->c.going=true->g ∈ L
 t0:∀ d,C.Ld[0]?=some d->d.Kind≠3
def Dj (p:mb) (U:Ng) (C:hg) (g:Nat):ih->Prop
 | .expr x s k=>∃ d B t,Hp C g d/\Env C s B/\Ve p d B x t/\um U x/\yl p U C g k t
 | .all l s Hd k=>∃ d B na,Hp C g d/\Env C s B/\bx p U d B l na Hd.length/\qu p C na Hd/\Hd.length<=l.length/\sv p U C g k na
 | .stats l s e k=>hk p U C g (.stats l s e k)
 | .lf x s e k=>hk p U C g (.lf x s e k)
 | .df k v=>∃ t,yl p U C g k t/\yi p C t v
 | .Hd k l=>∃ na,sv p U C g k na/\qu p C na l/\l.length=na.length
 | .vd k=>hk p U C g k
 | .recv n k=>hk p U C g (.recv n k)
 | .send n v k=>hk p U C g (.send n v k)
 | .resume a v k=>∃ f,1<=a/\C.Ld[a]?=some f/\yi p C (Ke f.Yd) v/\yl p U C g k (Ke f.Ob)
structure yn (p:mb) (U:Ng) (E:Ud):Prop where
 Ea:∀ n f,Oa p.named n=some f->zo p f
 Ih:∀ n f,U.c n->Oa p.named n=some f->f.Kind≠1->xj U f.Body
 ty:∀ n f,Oa p.named n=some f->f.Kind≠1->∃ a,ik p f ([if f.Kind=4 then [] else bu f]++[[]]) f.Body a
 So:∀ n,Oa E.defs n=Oa p.named n
 Ff:∀ n f,Oa p.named n=some f->f.Kind=1->∃ i:Nat,Oa E.order n=some (i:Int)
end
section
open Go.Mc Go.Kf
mutual
def ei:cf->Nat
 | .all _ _ _ k=>14+El k
 | .stat _ _ e k=>24+max (Jp e) (Ui k)
 | .lf _ _ e k=>22+max (Jp e) (Ui k)
def El:fl->Nat
 | .ex _ k=>8+ei k
def Ui:je->Nat
 | .zero k=>2+ei k
 | .recv _ k=>2+ei k
 | .send _ _ k=>2+Ui k
 | .done _=>2
 | .stats _ _ e k=>5+max (Jp e) (Ui k)
 | .lf _ _ e k=>12+max (Jp e) (Ui k)
 | .fin=>1
 | .cj _=>6
def Jp:kh->Nat
 | .ret k=>ei k
 | .stop k=>Ui k
end
def uf:ih->Nat
 | .expr _ _ k=>ei k - 12
 | .all _ _ _ k=>3+El k
 | .stats _ _ e k=>4+max (Jp e) (Ui k)
 | .lf _ _ e k=>11+max (Jp e) (Ui k)
 | .df k _=>ei k
 | .Hd k _=>El k
 | .vd k=>Ui k
 | .recv _ k=>2+ei k
 | .send _ _ k=>2+Ui k
 | .resume _ _ k=>7+ei k
theorem GK (k:cf):14<=ei k:=by cases k<;>rw [ei]<;>omega
def Fl:rm->Nat
 | .run c=>uf c
 | _=>0
def Tj (c:Qg):Nat:=if c.going=true then (c.back.map ei).getD 0 else if c.begun=true/\c.ended=false then (c.uk.map ei).getD 0 else 0
def Vi (z:Core) (q:rm):Nat:=Fl q+(z.Db.map Tj).sum
theorem vt {α:Type}(f:α->Nat):∀ {l:List α}{i:Nat}{a b:α},l[i]?=some a->((l.set i b).map f).sum+f a=(l.map f).sum+f b
 | [],i,a,b,h=>by simp at h
 | x::l,0,a,b,h=>by simp at h; subst h; simp; omega
 | x::l,i+1,a,b,h=>by
  have:=vt f (l:=l) (i:=i) (a:=a) (b:=b) (by simpa using h);simp only [List.set_cons_succ,List.map_cons,List.sum_cons];omega
def lo (p:mb) (U:Ng) (E:Ud) (C:hg) (z:Core) (c:ih):Prop :=
 ∃ n a q Mg b,Xe E c z n a q/\C.le Mg/\(∀ c',q=.run c'->Sj p U Mg b a/\Dj p U Mg a.now c')/\Vi a q+1<=Vi z (.run c)+30*n/\n<=1/\a.out.length<=z.out.length+1
section
variable {p:mb}{U:Ng}{E:Ud}{C:hg}{L:List Nat}{z:Core}{c c':ih}{n:Nat}
theorem lo.same (h:Sj p U C L z) (t:Xe E c z n z (.run c')) (a:Dj p U C z.now c') (d:uf c'+1<=uf c+30*n) (b:n<=1):lo p U E C z c :=
 ⟨n,z,_,C,L,t,.r,λf e=>by cases e;exact ⟨h,a⟩,(by unfold Vi;simp only [Fl];omega),b,by omega⟩
theorem lo.qe {k:Int}(t:Xe E c z 0 z (.qe k)) (a:1<=uf c):lo p U E C z c :=
 ⟨0,z,_,C,[],t,.r,λb e=>(by cases e),(by unfold Vi;simp only [Fl];omega),by omega,by omega⟩
theorem um.kids {x:Na}(h:um U x):∀ y ∈ x.Kids,um U y:=by
 obtain ⟨⟨k,h⟩,u⟩:=h;cases u with
 | mk _ _ u =>
 cases k with
 | zero=>exact h.elim
 | succ k=>exact λy a=>⟨⟨k,h.2.2.2.2.2.2 y a⟩,u y a⟩
theorem um.bool {x:Na}(h:um U x) (a:x.Kind=2):x.N=0\/x.N=1:=by
 obtain ⟨⟨k,h⟩,u⟩:=h;cases k with
 | zero=>exact h.elim
 | succ k=>exact h.2.2.2.2.1 a
theorem um.ns {x:Na}(h:um U x) (k:x.Kind=19\/x.Kind=22):U.c x.Name:=by
 cases h.2 with
 | mk a _ _=>exact a k
theorem um.UW {x:Na}(h:um U x) (k:x.Kind=20):U.r x.Name:=by
 cases h.2 with
 | mk _ a _=>exact a k
theorem xj.us {x:Ra}{l:List Ra}(h:xj U (x::l)) (k:x.Kind=7):U.s x.Name:=by
 cases h.2 x (by simp) with
 | mk a _ _ _=>exact a k
theorem xj.x {x:Ra}{l:List Ra}(h:xj U (x::l)) (b:x.Kind≠6):um U x.X:=by
 obtain ⟨⟨k,h⟩,u⟩:=h;have:=h x (by simp);cases u x (by simp) with
 | mk _ a _ _ =>
 cases k with
 | zero=>exact this.elim
 | succ k=>exact ⟨⟨k,this.2.2.1 b⟩,a b⟩
theorem xj.Ye {x:Ra}{l:List Ra}(h:xj U (x::l)):xj U l:=by
 obtain ⟨⟨k,h⟩,u⟩:=h;exact ⟨⟨k,λy a=>h y (by simp [a])⟩,λy a=>u y (by simp [a])⟩
theorem xj.Ea {x:Ra}{l:List Ra}(h:xj U (x::l)):xj U [x]:=by
 obtain ⟨⟨k,h⟩,u⟩:=h;exact ⟨⟨k,λy a=>h y (by simp at a;simp [a])⟩,λy a=>u y (by simp at a;simp [a])⟩
theorem xj.body {x:Ra}{l:List Ra}(h:xj U (x::l)) (b:x.Kind=3\/x.Kind=4):xj U x.Body:=by
 obtain ⟨⟨k,h⟩,u⟩:=h;have:=h x (by simp);cases u x (by simp) with
 | mk _ _ a _ =>
 cases k with
 | zero=>exact this.elim
 | succ k=>exact ⟨⟨k,(this.2.2.2.2.1 b).2⟩,a b⟩
theorem xj.dH {x:Ra}{l:List Ra}(h:xj U (x::l)) (b:x.Kind=3):xj U x.sf:=by
 obtain ⟨⟨k,h⟩,u⟩:=h;have:=h x (by simp);cases u x (by simp) with
 | mk _ _ _ a =>
 cases k with
 | zero=>exact this.elim
 | succ k=>exact ⟨⟨k,(this.2.2.2.2.2 b).2⟩,a b⟩
theorem ZB {d:va}{B:ye}{x a:Na}{t:Sa}(e:um U x) (h:x.Kids=[a]) (f:Ve p d B a t):bx p U d B x.Kids [t] 0:=by
 rw [h];refine ⟨rfl,by simp,λi y hb _ b c=>?_⟩
 match i,b,c with
 | 0,b,c=>simp at b c; subst b c; exact ⟨f,e.kids _ (by rw [h]; simp)⟩
 | i+1,b,_=>simp at b
theorem Xy {d:va}{B:ye}{x a b:Na}{t hb:Sa}(f:um U x) (h:x.Kids=[a,b]) (g:Ve p d B a t) (Fa:Ve p d B b hb):bx p U d B x.Kids [t,hb] 0:=by
 rw [h];refine ⟨rfl,by simp,λi y hb _ c e=>?_⟩
 match i,c,e with
 | 0,c,e=>simp at c e; subst c e; exact ⟨g,f.kids _ (by rw [h]; simp)⟩
 | 1,c,e=>simp at c e; subst c e; exact ⟨Fa,f.kids _ (by rw [h]; simp)⟩
 | i+2,c,_=>simp at c
theorem HL {d f:va}{B:ye}{x:Na}(c:um U x) (ma:x.Kids.length=f.Params.length) (g:f.Params.length<=6) (h:∀ (i:Nat) (y:Na) (q:TParam),x.Kids[i]?=some y->f.Params[i]?=some q->Ve p d B y (Ke q.Ob)):bx p U d B x.Kids (f.Params.map λq=>Ke q.Ob) 0:=by
 refine ⟨by simpa using ma,by omega,λi y t _ a b=>?_⟩;rw [List.getElem?_map] at b;obtain ⟨q,e,rfl⟩:=Option.map_eq_some_iff.1 b;exact ⟨h i y q a e,c.kids _<|List.mem_of_getElem? a⟩
theorem qS (P:yn p U E){d:va}{B:ye}{x:Na}{t:Sa}(h:Ve p d B x t) (c:um U x) (g:x.Kind≠1) (i:x.Kind≠2) (j:x.Kind≠3) (l:x.Kind≠20):∃ na,ko p U d x na t/\bx p U d B x.Kids na 0:=by
 cases h with
 | num h=>exact absurd h g
 | bool h=>exact absurd h i
 | var h _=>exact absurd h j
 | recv h _ _=>exact absurd h l
 | neg k e a=>exact ⟨_,.neg k,ZB c e a⟩
 | not k e a=>exact ⟨_,.not k,ZB c e a⟩
 | pz k e a b=>exact ⟨_,.pz k,Xy c e a b⟩
 | eq k e a b pl=>exact ⟨_,.eq k pl,Xy c e a b⟩
 | lt k e a b=>exact ⟨_,.lt k,Xy c e a b⟩
 | jk k e a b=>exact ⟨_,.jk k,Xy c e a b⟩
 | call k bc bd len f=>exact ⟨_,.call k (c.ns (.inl k)) bc bd,HL c len ((P.Ea _ _ bc).pl (.inl bd)) f⟩
 | Gq k bd e a=>exact ⟨_,.Gq k bd,ZB c e a⟩
 | start k bc bd len f=>exact ⟨_,.start k (c.ns (.inr k)) bc bd,HL c len ((P.Ea _ _ bc).pl (.inr bd)) f⟩
 | resume k e a bc bd b=>exact ⟨_,.resume k bc bd,Xy c e a b⟩
 | alive k e a bc bd=>exact ⟨_,.alive k bc bd,ZB c e a⟩
theorem QV {d:va}{B c:ye}{x:Ra}{l:List Ra}(Ih:xj U (x::l)) (h:Xm p d B x c) (f:x.Kind≠4) (g:x.Kind≠6):∃ t,Ve p d B x.X t/\qs p U d B x t c:=by
 cases h with
 | Io i k e n=>exact ⟨_,e,.Io i k n⟩
 | sset k n e=>exact ⟨_,e,.sset k n⟩
 | Hq k e a b=>exact ⟨_,e,.Hq k a b⟩
 | aH k _ _=>exact absurd k f
 | vq k bd e=>exact ⟨_,e,.vq k bd⟩
 | vG k _=>exact absurd k g
 | qq k n bd e=>exact ⟨_,e,.qq k (Ih.us k) n bd⟩
 | wq k e pl=>exact ⟨_,e,.wq k pl⟩
 | Iq k e=>exact ⟨_,e,.Iq k⟩
theorem tP (P:yn p U E) (h:Sj p U C L z){x:Na}{s:Option Nat}{k:cf}(l:Dj p U C z.now (.expr x s k)):lo p U E C z (.expr x s k):=by
 obtain ⟨d,B,t,j,he,ty,Ih,a⟩:=l;have q:=GK k;by_cases f:x.Kind=1
 ·cases ty with
  | num _=>exact .same h (.jz (.inl f)) ⟨_,a,.num⟩ (by simp only [uf]; omega) (by omega)
  | _=>omega
 by_cases b:x.Kind=2
 ·cases ty with
  | bool _=>exact .same h (.jz (.inr b)) ⟨_,a,.bool (Ih.bool b)⟩ (by simp only [uf]; omega) (by omega)
  | _=>omega
 by_cases g:x.Kind=3
 ·cases ty with
  | var _ m =>
   obtain ⟨i,n⟩:=he.at_ _ _ m;obtain ⟨c,f1,f2,f3,f4,o⟩:=n.found h.Tc;exact .same h (.var g f1 f2) ⟨_,a,o⟩ (by simp only [uf];omega) (by omega)
  | _=>omega
 by_cases e:x.Kind=20
 ·cases ty with
  | recv _ bc bd=>exact .same h (.tC e) ⟨_,Ih.UW e,bc,bd,a⟩ (by simp only [uf]; omega) (by omega)
  | _=>omega
 obtain ⟨na,me,kk⟩:=qS P ty Ih f b g e;exact .same h (.uC f b g e) ⟨d,B,na,j,he,kk,λi t v _ Pa=>by simp at Pa,by simp,d,t,j,me,a⟩ (by simp only [uf,El];omega) (by omega)
theorem CQ (h:Sj p U C L z){l:List Na}{s:Option Nat}{Hd:List Int}{k:fl}(m:Dj p U C z.now (.all l s Hd k)):lo p U E C z (.all l s Hd k):=by
 obtain ⟨d,B,na,a,he,kk,b,ma,c⟩:=m;by_cases e:l.length=Hd.length
 ·exact .same h (.UB e) ⟨na,c,b,by rw [<- kk.len,e]⟩ (by simp only [uf];omega) (by omega)
 ·have f:Hd.length<l.length:=by omega
  have g:l[Hd.length]?=some l[Hd.length]:=List.getElem?_eq_getElem f;have n:Hd.length<na.length:=by rw [<- kk.len];exact f
  have j:na[Hd.length]?=some na[Hd.length]:=List.getElem?_eq_getElem n;obtain ⟨ty,Ih⟩:=kk.at_ _ _ _ (Nat.le_refl _) g j;refine .same h (.TB e g) ⟨d,B,_,a,he,ty,Ih,d,B,na,a,he,⟨kk.len,kk.le,λi y t o=>kk.at_ i y t (by omega)⟩,b,j,c⟩ (by simp only [uf,ei];omega) (by omega)
theorem lO (h:Sj p U C L z){l:List Ra}{s:Option Nat}{e:kh}{k:je}(m:Dj p U C z.now (.stats l s e k)):lo p U E C z (.stats l s e k):=by
 obtain ⟨d,B,j,a,b,Ye,Ih,hex,g⟩:=m;cases Ye with
 | nil=>exact .same h .nil g (by simp only [uf]; omega) (by omega)
 | @cons _ n _ x l ty Ye =>
  by_cases c:x.Kind=6
  ·cases ty with
   | vG _ bd =>
    cases e with
    | ret q=>exact absurd hex.1 bd
    | stop q=>exact .same h (.stop c) hex.2 (by simp only [uf,Jp]; omega) (by omega)
   | _=>omega
  by_cases f:x.Kind=4
  ·cases ty with
   | aH _ i Fa=>exact .same h (.GC f) ⟨d,B,_,a,b,f,i,Fa,Ih.Ea,hex,d,B,j,a,b,Ye,Ih.Ye,hex,g⟩ (by simp only [uf,Ui]; omega) (by omega)
   | _=>omega
  obtain ⟨t,i,o⟩:=QV Ih ty f c;exact .same h (.st c f) ⟨d,B,t,a,b,i,Ih.x c,d,B,n,j,x,l,rfl,a,b,o,Ye,Ih,hex,g⟩ (by simp only [uf,ei];omega) (by omega)
theorem DQ (h:Sj p U C L z){x:Ra}{s:Option Nat}{e:kh}{k:je}(f:Dj p U C z.now (.lf x s e k)):lo p U E C z (.lf x s e k):=by
 obtain ⟨d,B,g,a,b,i,c,Fa,Ih,hex,j⟩:=f;exact .same h .lf ⟨d,B,_,a,b,c,Ih.x (by omega),rfl,d,B,g,a,b,i,c,Fa,Ih,hex,j⟩ (by simp only [uf,ei];omega) (by omega)
end
end
section
open Go.Mc Go.Kf
theorem tm.snoc {p:mb}{C:hg}{S:List ki}(h:tm p C S){n:Ge}{s:Option Nat}{t:Sa}{v:Int}(b:∀ j,s=some j->j<C.yf.length) (Pa:yi p C t v):tm p ⟨C.Ld,C.yf++[(n,s,t)]⟩ (S++[⟨n,v,s⟩]):=by
 have l:C.le ⟨C.Ld,C.yf++[(n,s,t)]⟩:=⟨λ_ _ h=>h,λ_ _ h=>Ul h⟩;refine ⟨by simp [h.len],λi c a=>?_⟩;by_cases d:i<S.length
 ·rw [List.getElem?_append_left d] at a;obtain ⟨hb,f,g,k⟩:=h.at_ i c a;exact ⟨hb,l.yf _ _ f,g,k.up l⟩
 ·rw [List.getElem?_append_right (by omega)] at a;have m:i=S.length:=by
   have:=(List.getElem?_eq_some_iff.1 a).1;simp at this;omega
  subst m;simp at a;subst a;exact ⟨t,by simp [h.len],λj e=>by rw [h.len];exact b j e,Pa.up l⟩
theorem tm.set {p:mb}{C:hg}{S:List ki}(h:tm p C S){i:Nat}{c:ki}(b:S[i]?=some c){t:Sa}(d:C.yf[i]?=some (c.name,c.up,t)){v:Int}(Pa:yi p C t v):tm p C (S.set i { c with v:=v }):=by
 refine ⟨by simp [h.len],λj c' a=>?_⟩;by_cases e:i=j
 ·subst e;rw [Gn b] at a;cases a;obtain ⟨hb,f,g,-⟩:=h.at_ _ _ b;rw [d] at f;cases f;exact ⟨t,d,g,Pa⟩
 ·rw [Tg e] at a;exact h.at_ _ _ a
theorem QE (B:ye) (b:List (Nm×Sa)) (n:Nm):Rj (B++[b]) n=match Oa b n with | some t=>some t | none=>Rj B n:=by
 unfold Rj;rw [List.reverse_append,List.reverse_singleton,List.singleton_append,List.findSome?_cons];cases Oa b n<;>rfl
theorem rS {B:ye}(h:B.length - 1<B.length) (n m:Nm) (t:Sa):Rj (B.set (B.length - 1) (kd B[B.length - 1] n t)) m=if n=m then some t else Rj B m:=by
 rcases List.eq_nil_or_concat B with rfl | ⟨a,b,rfl⟩
 ·simp at h
 have ua:((a.concat b)[(a.concat b).length - 1])=b:=by simp [List.concat_eq_append]
 have c:(a.concat b).set ((a.concat b).length - 1) (kd b n t)=a++[kd b n t]:=by
  rw [List.concat_eq_append,List.length_append,List.length_singleton,Nat.add_sub_cancel,List.set_append_right _ _ (Nat.le_refl _),Nat.sub_self];rfl
 rw [ua,c,List.concat_eq_append,QE,QE,sk];by_cases e:n=m
 ·rw [if_pos e,if_pos e]
 ·rw [if_neg e,if_neg e]
theorem Env.Io {C:hg}{s:Option Nat}{B:ye}{n:Ge}{t:Sa}(h:B.length - 1<B.length) (b:Env C s B):Env ⟨C.Ld,C.yf++[(n,s,t)]⟩ (some C.yf.length) (B.set (B.length - 1) (kd B[B.length - 1] n t)):=by
 refine ⟨λj e=>(by cases e;simp),λm hb e=>?_⟩;rw [rS] at e;have a:(C.yf++[(n,s,t)])[C.yf.length]?=some (n,s,t):=by simp
 by_cases c:n=m
 ·rw [if_pos c] at e;cases e;subst c;exact ⟨_,.here a⟩
 ·rw [if_neg c] at e;obtain ⟨i,d⟩:=b.at_ _ _ e;exact ⟨i,.up a c<|d.mono λ_ _ h=>Ul h⟩
theorem jJ {p:mb}:∀ (Hg:List TParam) (vs:List Int) (C:hg) (S:List ki) (s:Option Nat) (m:List (Nm×Sa)),tm p C S->vs.length=Hg.length ->
  qu p C (Hg.map λq=>Ke q.Ob) vs->(∀ n t,Oa m n=some t->∃ i,Ym C.yf n s i t)->(∀ j,s=some j->j<C.yf.length) ->
  ∃ d Bb b,Kj Hg vs S s=some (d,Bb)/\tm p ⟨C.Ld,C.yf++b⟩ d/\(∀ n t,Oa (Hg.foldl (λm q=>kd m q.Name (Ke q.Ob)) m) n=some t->∃ i,Ym (C.yf++b) n Bb i t)/\∀ j,Bb=some j->j<(C.yf++b).length
 | [],vs,C,S,s,m,a,ma,Pa,f,g=>⟨S,s,[],by rw [Kj],by simpa using a,by simpa using f,by simpa using g⟩
 | q::Hg,[],C,S,s,m,a,ma,Pa,f,g=>by simp at ma
 | q::Hg,v::vs,C,S,s,m,a,ma,Pa,f,g=>by
  have l:C.le ⟨C.Ld,C.yf++[(q.Name,s,Ke q.Ob)]⟩:=⟨λ_ _ h=>h,λ_ _ h=>Ul h⟩;have r:(C.yf++[(q.Name,s,Ke q.Ob)])[C.yf.length]?=some (q.Name,s,Ke q.Ob):=by simp
  obtain ⟨d,Bb,b,k,o,u,x⟩:=jJ Hg vs ⟨C.Ld,C.yf++[(q.Name,s,Ke q.Ob)]⟩ (S++[⟨q.Name,v,s⟩]) (some S.length) (kd m q.Name (Ke q.Ob)) (a.snoc g (Pa 0 _ v rfl rfl)) (by simpa using ma) (λi t w k o=>(Pa (i+1) t w (by simpa using k) (by simpa using o)).up l) (λn t e=>by
   rw [sk] at e;rw [a.len];by_cases c:q.Name=n
   ·rw [if_pos c] at e;cases e;subst c;exact ⟨_,.here r⟩
   ·rw [if_neg c] at e;obtain ⟨i,y⟩:=f n t e;exact ⟨i,.up r c (y.mono λ_ _ h=>Ul h)⟩) (λj e=>by cases e;simp [a.len])
  refine ⟨d,Bb,(q.Name,s,Ke q.Ob)::b,by rw [Kj];exact k,by simpa using o,by simpa using u,by simpa using x⟩
theorem sS (m:List (Nm×Sa)) (n:Nm):Rj [m] n=Oa m n:=by
 have:=QE [] m n;rw [List.nil_append] at this;rw [this];cases Oa m n<;>rfl
theorem MI {p:mb}{C:hg}{S:List ki}{d:va}{vs:List Int}(c:tm p C S) (ma:vs.length=d.Params.length) (Pa:qu p C (d.Params.map λq=>Ke q.Ob) vs) :
  ∃ a Bb b,Kj d.Params vs S none=some (a,Bb)/\tm p ⟨C.Ld,C.yf++b⟩ a/\Env ⟨C.Ld,C.yf++b⟩ Bb [bu d]:=by
 obtain ⟨a,Bb,b,f,g,h,i⟩:=jJ d.Params vs C S none [] c ma Pa (λn t e=>by cases e) (λj e=>by cases e);exact ⟨a,Bb,b,f,g,i,λn t e=>h n t (by rwa [sS] at e)⟩
section
variable {p:mb}{U:Ng}{E:Ud}{C:hg}{L:List Nat}{z:Core}{c c':ih}{n:Nat}
def Wq (z:Core) (c:ih):Prop:=∀ (x:Ra) (l:List Ra) (s:Option Nat) (e:kh) (k:je) (v:Int),c=.df (.stat (x::l) s e k) v->x.Kind=8->z.out.length<4294967296
theorem Sj.fe {Mg:hg}(h:Sj p U C L z) (l:C.le Mg) (e:Mg.Ld=C.Ld){S:List ki}(a:tm p Mg S){o:List Int}:Sj p U Mg L { z with fe:=S,out:=o }:=
 ⟨a,by rw [e];exact h.Xr,λg c b=>(h.Ld g c b).le l,h.pos,h.le,h.tv,h.nd,h.all,by rw [e];exact h.t0⟩
theorem FQ (P:yn p U E) (h:Sj p U C L z){k:cf}{v:Int}(K:Wq z (.df k v)) (M:Dj p U C z.now (.df k v)):lo p U E C z (.df k v):=by
 obtain ⟨t,a,Pa⟩:=M;cases k with
 | all l s Hd k =>
  obtain ⟨d,B,na,f,b,kk,N,y,a⟩:=a;have O:=(List.getElem?_eq_some_iff.1 y).1;rw [<- kk.len] at O;have:=kk.le;refine .same h (.VB<|if_pos (by simp;omega)) ⟨d,B,na,f,b,by simpa using kk,λi hb Q o g=>?_,by simp;omega,a⟩ (by simp only [uf,ei];omega) (by omega);by_cases R:i<Hd.length
  ·rw [List.getElem?_append_left R] at g;exact N i hb Q o g
  ·rw [List.getElem?_append_right (by omega)] at g;have S:i=Hd.length:=by have:=(List.getElem?_eq_some_iff.1 g).1;simp at this;omega
   subst S;simp at g;subst g;rw [y] at o;cases o;exact Pa
 | lf x s e k =>
  obtain ⟨rfl,d,B,u,f,b,A,T,Fa,Ih,hex,a⟩:=a;by_cases m:v=0
  ·exact .same h (.WB m) a (by simp only [uf,ei];omega) (by omega)
  ·exact .same h (.win m) ⟨d,_,u,f,b.ea,Fa,Ih.body<|.inr A,hex,d,B,u,f,b,A,T,Fa,Ih,hex,a⟩ (by simp only [uf,ei,Ui];omega) (by omega)
 | stat l s e k =>
  obtain ⟨d,B,u,j,x,r,rfl,f,b,V,Ye,Ih,hex,a⟩:=a;cases V with
  | Io W k1 D =>
   have l:C.le ⟨C.Ld,C.yf++[(x.Name,s,t)]⟩:=⟨λ_ _ h=>h,λ_ _ h=>Ul h⟩;refine ⟨0,_,_,_,L,.Io k1,l,λc' n=>?_,by unfold Vi;simp only [Fl,uf,ei,Ui];omega,by omega,by simp⟩;cases n;refine ⟨h.fe l rfl<|h.Tc.snoc b.ok Pa,d,_,j,f.up l,?_,Ye,Ih.Ye,hex.up l,a.up l⟩;rw [h.Tc.len];exact b.Io W
  | sset X D =>
   obtain ⟨i,Y⟩:=b.at_ _ _ D;obtain ⟨c,f1,F,Z,bb,f5⟩:=Y.found h.Tc;refine ⟨0,_,_,C,L,.sset X f1 F,.r,λc' n=>?_,by unfold Vi;simp only [Fl,uf,ei,Ui];omega,by omega,by simp⟩;cases n;exact ⟨h.fe .r rfl<|h.Tc.set F (by rw [Z];exact bb)<|yi.bare.1 Pa,d,B,j,f,b,Ye,Ih.Ye,hex,a⟩
  | Hq w Gb Fa =>
   have G:hk p U C z.now (.stats r s e k):=⟨d,B,j,f,b,Ye,Ih.Ye,hex,a⟩;refine .same h (.Hq w) ?_ (by simp only [uf,ei,Ui];omega) (by omega);by_cases m:v≠0
   ·rw [if_pos m];exact ⟨d,_,_,f,b.ea,Gb,Ih.body<|.inl w,hex,G⟩
   ·rw [if_neg m];exact ⟨d,_,_,f,b.ea,Fa,Ih.dH w,hex,G⟩
  | vq gc bd =>
   cases e with
   | ret q=>exact .same h (.vq gc) ⟨_,hex.2,Pa⟩ (by simp only [uf,ei,Jp]; omega) (by omega)
   | stop q=>exact absurd bd hex.1
  | qq lc us bc bd=>exact .same h (.qq lc) ⟨_,us,bc,bd,Pa,d,B,j,f,b,Ye,Ih.Ye,hex,a⟩ (by simp only [uf,ei,Ui]; omega) (by omega)
  | wq H pl =>
   refine ⟨0,_,_,C,L,.wq H (if_pos (by have:=K x r s e k v rfl H;simp;omega)),.r,λc' n=>?_,by unfold Vi;simp only [Fl,uf,ei,Ui];omega,by omega,by simp⟩;cases n;exact ⟨h.fe .r rfl h.Tc,d,B,j,f,b,Ye,Ih.Ye,hex,a⟩
  | Iq rc=>exact .same h (.Iq (by omega) (by omega) (by omega) (by omega) (by omega) (by omega)) ⟨d,B,j,f,b,Ye,Ih.Ye,hex,a⟩ (by simp only [uf,ei,Ui]; omega) (by omega)
end
end
section
open Go.Mc Go.Kf
section
variable {p:mb}{U:Ng}{E:Ud}{C:hg}{L:List Nat}{z:Core}{c c':ih}{n:Nat}
theorem aC {l:List Int}(h:l.length=1):∃ a,l=[a]:=by
 match l,h with
 | [a],_=>exact ⟨a,rfl⟩
theorem Yy {l:List Int}(h:l.length=2):∃ a b,l=[a,b]:=by
 match l,h with
 | [a,b],_=>exact ⟨a,b,rfl⟩
theorem jA {k a b:Int}(h:k=9\/k=10->b≠0):∃ v,Rn k a b=some v:=by
 unfold Rn;by_cases e:k=6
 ·exact ⟨_,if_pos e⟩
 rw [if_neg e];by_cases f:k=7
 ·exact ⟨_,if_pos f⟩
 rw [if_neg f];by_cases g:k=8
 ·exact ⟨_,if_pos g⟩
 rw [if_neg g];by_cases c:k=9
 ·rw [if_pos c];split
  ·exact ⟨_,rfl⟩
  ·exact ⟨_,by unfold quo;rw [if_neg (h (.inl c))]⟩
 rw [if_neg c];by_cases d:k=10
 ·rw [if_pos d];split
  ·exact ⟨_,rfl⟩
  ·exact ⟨_,by unfold Vt;rw [if_neg (h (.inr d))]⟩
 rw [if_neg d];repeat' split
 all_goals exact ⟨_,rfl⟩
theorem VH {k a b v:Int}(h:Rn k a b=some v) (i:11<=k/\k<=16):v=0\/v=1:=by
 have T:∀ b:Bool,bk b=0\/bk b=1:=λb=>by cases b<;>simp [bk]
 unfold Rn at h;rw [if_neg (by omega),if_neg (by omega),if_neg (by omega),if_neg (by omega),if_neg (by omega)] at h;by_cases c:k=11
 ·rw [if_pos c] at h;cases h;exact T _
 rw [if_neg c] at h;by_cases d:k=12
 ·rw [if_pos d] at h;cases h;exact T _
 rw [if_neg d] at h;by_cases e:k=13
 ·rw [if_pos e] at h;cases h;exact T _
 rw [if_neg e] at h;by_cases f:k=14
 ·rw [if_pos f] at h;cases h;exact T _
 rw [if_neg f] at h;by_cases g:k=15
 ·rw [if_pos g] at h;cases h;exact T _
 rw [if_neg g,if_pos (by omega)] at h;cases h;exact T _
theorem HQ {k a b v:Int}(h:Rn k a b=some v) (c:17<=k/\k<=18) (d:a=0\/a=1) (e:b=0\/b=1):v=0\/v=1:=by
 unfold Rn at h;rw [if_neg (by omega),if_neg (by omega),if_neg (by omega),if_neg (by omega),if_neg (by omega),if_neg (by omega),if_neg (by omega),if_neg (by omega),if_neg (by omega),if_neg (by omega),if_neg (by omega)] at h;split at h<;>cases h<;>omega
theorem Sj.jB (h:Sj p U C L z){g:Nat}{f:va}(a:C.Ld[g]?=some f):∃ c,z.Db[g]?=some c/\cx p U C g c/\c.Lm=f:=by
 have ma:=(List.getElem?_eq_some_iff.1 a).1;rw [<- h.Xr] at ma;have b:z.Db[g]?=some z.Db[g]:=List.getElem?_eq_getElem ma;have e:=h.Ld _ _ b;exact ⟨_,b,e,by have:=e.d;rw [a] at this;exact (Option.some.inj this).symm⟩
theorem Sj.put (h:Sj p U C L z){g d:Nat}{c eb:Qg}{a:List Nat}(f:z.Db[g]?=some c) (i:cx p U C g eb) (k:xn (z.Db.set g eb) d a) (l:a.Nodup) (m:∀ (j:Nat) (c:Qg),(z.Db.set g eb)[j]?=some c->c.going=true->j ∈ a):Sj p U C a { z with Db:=z.Db.set g eb,now:=d }:=
 ⟨h.Tc,by simp [h.Xr],λj n b=>by
  by_cases e:g=j
  ·subst e;rw [Gn f] at b;cases b;exact i
  ·rw [Tg e] at b;exact h.Ld _ _ b,by simp [h.pos],by simp [h.le],k,l,m,h.t0⟩
theorem Sj.top (h:Sj p U C L z){f:va}(o:C.Ld[z.now]?=some f) (d:1<=z.now):∃ c u b a,z.Db[z.now]?=some c/\c.Lm=f/\c.going=true/\c.begun=true/\c.up=some u/\c.back=some b/\yl p U C u b (Ke f.Ob)/\f.Kind=3/\(∃ n,Oa p.named n=some f/\U.c n)/\L=z.now::a/\xn z.Db u a/\z.now ∉ a/\a.Nodup:=by
 obtain ⟨c,g,e,rfl⟩:=h.jB o;have i:=h.tv;generalize v:z.now=w at i d g e;cases i with
 | main=>omega
 | @up _ u c' a k1 j k pf q =>
  rw [g] at j;cases j;obtain ⟨r,x,y,b,l,s,t⟩:=e.go d k;rw [pf] at l;cases l;have m:=List.nodup_cons.1 h.nd;exact ⟨c,u,b,a,by rw [g],rfl,k,r,pf,s,t,(e.bd d).1,(e.bd d).2,rfl,q,m.1,m.2⟩
theorem IQ (P:yn p U E) (h:Sj p U C L z){k:fl}{l:List Int}(m:Dj p U C z.now (.Hd k l)):lo p U E C z (.Hd k l):=by
 obtain ⟨na,n,o,ma⟩:=m;cases k with
 | ex x k =>
 obtain ⟨d,t,D,me,n⟩:=n;cases me with
 | neg pf =>
  obtain ⟨a,rfl⟩:=aC ma;exact .same h (.neg pf rfl) ⟨_,n,.num⟩ (by simp only [uf,El];omega) (by omega)
 | not W =>
  obtain ⟨a,rfl⟩:=aC ma;have F:=(o 0 _ a rfl rfl).1 rfl;exact .same h (.not W rfl) ⟨_,n,.bool (by rcases F with rfl | rfl<;>simp [km,IntKind.wrap]<;>decide)⟩ (by simp only [uf,El];omega) (by omega)
 | pz Np =>
  obtain ⟨a,b,rfl⟩:=Yy ma;by_cases w:(x.Kind=9\/x.Kind=10)/\b=0
  ·obtain ⟨w,rfl⟩:=w;exact .qe (.XB w rfl) (by simp only [uf,El];omega)
  ·obtain ⟨v,Pa⟩:=jA (k:=x.Kind) (a:=a) (b:=b) λq e=>w ⟨q,e⟩;exact .same h (.two (by omega) (λq e=>w ⟨q,e⟩) rfl rfl Pa) ⟨_,n,.num⟩ (by simp only [uf,El];omega) (by omega)
 | eq G pl =>
  obtain ⟨a,b,rfl⟩:=Yy ma;obtain ⟨v,Pa⟩:=jA (k:=x.Kind) (a:=a) (b:=b) (by omega);exact .same h (.two (by omega) (by omega) rfl rfl Pa) ⟨_,n,.bool<|VH Pa (by omega)⟩ (by simp only [uf,El];omega) (by omega)
 | lt G =>
  obtain ⟨a,b,rfl⟩:=Yy ma;obtain ⟨v,Pa⟩:=jA (k:=x.Kind) (a:=a) (b:=b) (by omega);exact .same h (.two (by omega) (by omega) rfl rfl Pa) ⟨_,n,.bool<|VH Pa (by omega)⟩ (by simp only [uf,El];omega) (by omega)
 | jk G =>
  obtain ⟨a,b,rfl⟩:=Yy ma;obtain ⟨v,Pa⟩:=jA (k:=x.Kind) (a:=a) (b:=b) (by omega);have F:=(o 0 _ a rfl rfl).1 rfl;have X:=(o 1 _ b rfl rfl).1 rfl;exact .same h (.two (by omega) (by omega) rfl rfl Pa) ⟨_,n,.bool<|HQ Pa G F X⟩ (by simp only [uf,El];omega) (by omega)
 | @call f Y ns bc bd =>
  obtain ⟨Z,Bb,b,g1,g2,H⟩:=MI h.Tc (d:=f) (by simpa using ma) o;have l:C.le ⟨C.Ld,C.yf++b⟩:=⟨λ_ _ h=>h,λ_ _ h=>Ul h⟩;obtain ⟨bb,Ye⟩:=P.ty _ _ bc (by omega);rw [if_neg (by omega)] at Ye;refine ⟨0,_,_,_,L,.call Y (by rw [P.So];exact bc) g1,l,λc' y=>?_,by unfold Vi;simp only [Fl,uf,El,Jp,Ui];omega,by omega,by simp⟩;cases y;have N:=n.up l;exact ⟨h.fe l rfl g2,f,_,bb,λof=>by omega,H.ea,Ye,P.Ih _ _ ns bc (by omega),⟨bd,N⟩,_,by rw [Hn];exact (P.Ea _ _ bc).ty (by omega),N⟩
 | Gq Gb bd =>
  obtain ⟨a,rfl⟩:=aC ma;have O:1<=z.now:=Nat.one_le_iff_ne_zero.2 λe=>h.t0 d (by rw [<- e];exact D bd) bd;obtain ⟨c,u,b,gc,s,rfl,Q,R,lc,S,rc,fd,id,rfl,tb,md,rd⟩:=h.top (D bd) O;refine ⟨0,_,_,C,gc,.Gq Gb rfl s lc S,.r,λc' y=>?_,?_,by omega,by simp⟩
  ·cases y;refine ⟨h.put s ⟨D bd,λ_=>⟨fd,id⟩,λ_ e=>?_,λ_ _ _ _=>⟨k,rfl,n⟩,λ_ e=>?_,λe=>by omega⟩ (tb.set md) rd λj wd m A=>?_,_,rc,o 0 _ a rfl rfl⟩
   ·exact absurd (e:c.begun=false) (by rw [R];simp)
   ·cases e
   ·by_cases e:z.now=j
    ·subst e;rw [Gn s] at m;cases m;cases A
    ·rw [Tg e] at m;rcases List.mem_cons.1 (h.all _ _ m A) with rfl | q
     ·exact absurd rfl e
     ·exact q
  ·have wf:=vt Tj (b:={ c with uk:=some k,going:=false }) s;have Fd:c.ended=false:=by
    obtain ⟨wd,k1,B,-⟩:=h.jB (D bd);rw [s] at k1;cases k1;exact (B.go O Q).2.1
   have If:Tj c=ei b:=by simp [Tj,Q,S]
   have dg:Tj { c with uk:=some k,going:=false }=ei k:=by simp [Tj,R,Fd]
   unfold Vi;simp only [Fl,uf,El];omega
 | @start f T ns bc bd =>
  by_cases hm:(z.Db.length:Int) - 1=30
  ·exact .qe (.many T hm) (by simp only [uf,El];omega)
  ·obtain ⟨Z,Bb,b,g1,g2,H⟩:=MI h.Tc (d:=f) (by simpa using ma) o;have rg:C.le ⟨C.Ld,C.yf++b⟩:=⟨λ_ _ h=>h,λ_ _ h=>Ul h⟩;have l:C.le ⟨C.Ld++[f],C.yf++b⟩:=.app;have V:hg.le ⟨C.Ld,C.yf++b⟩ ⟨C.Ld++[f],C.yf++b⟩:=⟨λ_ _ h=>Ul h,λ_ _ h=>h⟩;have bi:=h.pos;have hle:=h.le;refine ⟨0,_,_,_,L,.start T hm (by rw [P.So];exact bc) g1,l,λc' y=>?_,by unfold Vi;simp [Fl,uf,El,Tj];omega,by omega,by simp⟩;cases y;refine ⟨⟨?_,by simp [h.Xr],λg c m=>?_,by simp,by simp;omega,h.tv.app,h.nd,λg c m A=>?_,λd Ea=>?_⟩,_,n.up l,λe=>by simp at e,λ_=>⟨z.Db.length - 1,f,by omega,?_,bc⟩⟩
   ·exact ⟨g2.len,λi c m=>by
     obtain ⟨t,oa,Id,be⟩:=g2.at_ i c m;exact ⟨t,oa,Id,be.up V⟩⟩
   ·by_cases K:g<z.Db.length
    ·rw [List.getElem?_append_left K] at m;exact (h.Ld _ _ m).le l
    ·rw [List.getElem?_append_right (by omega)] at m;have M:g=z.Db.length:=by have:=(List.getElem?_eq_some_iff.1 m).1;simp at this;omega
     subst M;simp at m;subst m;exact ⟨by simp [h.Xr],λ_=>⟨bd,_,bc,ns⟩,λ_ _=>⟨rfl,rfl,H.up V⟩,λ_ e=>(by cases e),λ_ e=>(by cases e),λe=>by omega⟩
   ·by_cases K:g<z.Db.length
    ·rw [List.getElem?_append_left K] at m;exact h.all _ _ m A
    ·rw [List.getElem?_append_right (by omega)] at m;have M:g=z.Db.length:=by have:=(List.getElem?_eq_some_iff.1 m).1;simp at this;omega
     subst M;simp at m;subst m;cases A
   ·refine h.t0 d ?_;have:0<C.Ld.length:=by rw [<- h.Xr];omega
    rwa [List.getElem?_append_left this] at Ea
   ·show (C.Ld++[f])[z.Db.length - 1+1]?=some f;rw [show z.Db.length - 1+1=C.Ld.length by rw [<- h.Xr];omega];simp
 | @resume g f ce bc bd =>
  obtain ⟨a,b,rfl⟩:=Yy ma;obtain ⟨j,ge,rfl,k1,B⟩:=(o 0 _ a rfl rfl).2 rfl;rw [show Oa p.named (Sa.mk 3 g).Pc=_ from bc] at B;cases B;have ne:=(List.getElem?_eq_some_iff.1 k1).1;rw [<- h.Xr] at ne;refine .same h (.res ce rfl rfl (by omega)) ⟨f,by omega,by simpa using k1,o 1 _ b rfl rfl,n⟩ (by simp only [uf,El];omega) (by omega)
 | @alive g f Ne bc bd =>
  obtain ⟨a,rfl⟩:=aC ma;obtain ⟨j,ge,rfl,k1,B⟩:=(o 0 _ a rfl rfl).2 rfl;obtain ⟨c,s,-,-⟩:=h.jB k1;exact .same h (.alive Ne rfl (by omega) (by simpa using s)) ⟨_,n,.PV⟩ (by simp only [uf,El];omega) (by omega)
theorem JQ (P:yn p U E) (h:Sj p U C L z){k:je}(o:¬ Comm (.vd k)) (a:Dj p U C z.now (.vd k)):lo p U E C z (.vd k):=by
 cases k with
 | zero k =>
  obtain ⟨t,t3,H⟩:=a;exact .same h .zero ⟨t,H,.plain (λ_=>.inl rfl) t3⟩ (by simp only [uf,Ui];omega) (by omega)
 | recv n k=>exact absurd trivial o
 | send n v k=>exact absurd trivial o
 | done g =>
  obtain ⟨rfl,y⟩:=a;have ma:z.now<z.Db.length:=by
   have:=h.tv;generalize z.now=w at this y;cases this with
   | main=>omega
   | up _ K _ _ _=>exact (List.getElem?_eq_some_iff.1 K).1
  obtain ⟨f,A⟩:∃ f,C.Ld[z.now]?=some f:=⟨_,List.getElem?_eq_getElem (by rw [<- h.Xr];exact ma)⟩;obtain ⟨c,u,b,M,i,rfl,N,O,Q,B,R,S,⟨n,D,T⟩,rfl,tb,V,W⟩:=h.top A y;refine ⟨0,_,_,C,M,.done i Q B,.r,λc' m=>?_,?_,by omega,by simp⟩
  ·cases m;refine ⟨h.put i ⟨A,λ_=>⟨S,n,D,T⟩,λ_ e=>?_,λ_ _ _ e=>(by cases e),λ_ e=>(by cases e),λe=>by omega⟩ (tb.set V) W λj Y a F=>?_,_,R,.plain (λ_=>.inl rfl) ?_⟩
   ·exact absurd (e:c.begun=false) (by rw [O];simp)
   ·by_cases e:z.now=j
    ·subst e;rw [Gn i] at a;cases a;cases F
    ·rw [Tg e] at a;rcases List.mem_cons.1 (h.all _ _ a F) with rfl | q
     ·exact absurd rfl e
     ·exact q
   ·rw [Hn];exact (P.Ea _ _ D).ty (by omega)
  ·have Z:=vt Tj (b:={ c with ended:=true,going:=false }) i;have bb:Tj c=ei b:=by simp [Tj,N,B]
   have Gb:Tj { c with ended:=true,going:=false }=0:=by simp [Tj]
   unfold Vi;simp only [Fl,uf,Ui];omega
 | stats l s e k=>exact .same h .stats a (by simp only [uf,Ui]; omega) (by omega)
 | lf x s e k=>exact .same h .YB a (by simp only [uf,Ui]; omega) (by omega)
 | fin=>exact ⟨0,z,_,C,[],.fin,.r,λc' m=>(by cases m),by unfold Vi; simp only [Fl,uf,Ui]; omega,by omega,by omega⟩
 | cj d =>
  obtain ⟨G,pf,Ih,X,Ye⟩:=a;exact .same h .cj ⟨d,_,X,λe=>(by omega),.nil,Ye,Ih,⟨by omega,G⟩,G⟩ (by simp only [uf,Ui,Jp];omega) (by omega)
theorem qN (P:yn p U E) (h:Sj p U C L z){g:Nat}{v:Int}{k:cf}(m:Dj p U C z.now (.resume g v k)):lo p U E C z (.resume g v k):=by
 obtain ⟨f,d,q,Pa,A⟩:=m;obtain ⟨c,a,l,rfl⟩:=h.jB q;have R:=GK k;by_cases he:c.ended=true
 ·exact .qe (.gone a he) (by simp only [uf];omega)
 by_cases s:c.going=true\/g=z.now
 ·exact .qe (.busy a he s) (by simp only [uf];omega)
 have t:c.ended=false:=by simpa using he
 have u:c.going=false:=by
  cases e:c.going with
  | false=>rfl
  | true=>exact absurd (.inl e) s
 have w:g ∉ L:=λG=>by
  obtain ⟨x,oa,a2⟩:=h.tv.going _ G;rw [a] at oa;cases oa;rw [u] at a2;cases a2
 have B:∀ (eb:Qg) (j:Nat) (x:Qg),(z.Db.set g eb)[j]?=some x->x.going=true->j ∈ g::L:=λeb j x m H=>by
  by_cases e:g=j
  ·subst e;simp
  ·rw [Tg e] at m;exact List.mem_cons_of_mem _<|h.all _ _ m H
 by_cases i:c.begun=true
 ·obtain ⟨o,D,hd⟩:=l.held d i u t;refine ⟨0,_,_,C,g::L,.on a he s i D,.r,λc' y=>?_,?_,by omega,by simp⟩
  ·cases y;exact ⟨h.put a ⟨q,l.bd,λ_ e=>absurd (e:c.begun=false) (by rw [i];simp),λ_ _ e=>(by cases e),λ_ _=>⟨i,t,_,_,rfl,rfl,A⟩,λe=>by omega⟩ (.up d (Gn a) rfl rfl<|h.tv.set w) (List.nodup_cons.2 ⟨w,h.nd⟩)<|B _,_,hd,Pa⟩
  ·have K:=vt Tj (b:={ c with going:=true,up:=some z.now,back:=some k }) a;have M:Tj c=ei o:=by simp [Tj,u,i,t,D]
   have N:Tj { c with going:=true,up:=some z.now,back:=some k }=ei k:=by simp [Tj]
   unfold Vi;simp only [Fl,uf];omega
 ·have F:c.begun=false:=by simpa using i
  obtain ⟨-,-,O⟩:=l.fresh d F;obtain ⟨S,n,bc,ns⟩:=l.bd d;obtain ⟨Q,Ye⟩:=P.ty _ _ bc (by omega);rw [if_neg (by omega)] at Ye;refine ⟨0,_,_,C,g::L,.first a he s i,.r,λc' y=>?_,?_,by omega,by simp⟩
  ·cases y;exact ⟨h.put a ⟨q,l.bd,λ_ e=>(by cases e),λ_ _ e=>(by cases e),λ_ _=>⟨rfl,t,_,_,rfl,rfl,A⟩,λe=>by omega⟩ (.up d (Gn a) rfl rfl<|h.tv.set w) (List.nodup_cons.2 ⟨w,h.nd⟩)<|B _,c.Lm,_,Q,λ_=>q,O.ea,Ye,P.Ih _ _ ns bc (by omega),⟨by omega,rfl,d⟩,rfl,d⟩
  ·have K:=vt Tj (b:={ c with going:=true,up:=some z.now,back:=some k,begun:=true }) a;have M:Tj c=0:=by simp [Tj,u,F]
   have N:Tj { c with going:=true,up:=some z.now,back:=some k,begun:=true }=ei k:=by simp [Tj]
   unfold Vi;simp only [Fl,uf,Jp,Ui];omega
theorem safe (P:yn p U E) (h:Sj p U C L z) (b:¬ Comm c) (d:Wq z c) (a:Dj p U C z.now c):lo p U E C z c:=by
 cases c with
 | expr=>exact tP P h a
 | all=>exact CQ h a
 | stats=>exact lO h a
 | lf=>exact DQ h a
 | df=>exact FQ P h d a
 | Hd=>exact IQ P h a
 | vd=>exact JQ P h b a
 | recv=>exact absurd trivial b
 | send=>exact absurd trivial b
 | resume=>exact qN P h a
end
end
section
open Go.Mc Go.Kf
abbrev ig:=Core×rm
def yq:rm->rm
 | .run c=>.run (Nf c)
 | q=>q
def Core.Yr (z:Core):Ad:=⟨z.fe,z.Db,z.now,none,1,0,0,z.out⟩
def gu:Option gk->gm ig
 | some (.call c z)=>.Gg z.nodes.toNat (z.t.core,.run (Nf c))
 | some (.ret (some k) z)=>.Gg z.nodes.toNat (z.t.core,.run (Nf (.vd k)))
 | some (.ret none z)=>.Gg z.nodes.toNat (z.t.core,if z.t.state=4 then .done else .qe z.t.qe)
 | _=>.halt
def Sh (E:Ud) (z:Core):ih->gm ig
 | .recv n k=>match Oa E.order n with | some i=>.recv i.toNat 0 (λv=>(z,.run (.df k v))) | none=>.halt
 | .send n v k=>match Oa E.order n with | some i=>.send i.toNat v 0 (z,.run (Nf (.vd k))) | none=>.halt
 | c=>gu (de E c ⟨z.Yr,[],0⟩)
def tf (E:Ud) (x:ig):gm ig:=match x.2 with
 | .run c=>Sh E x.1 (Nf c)
 | _=>.halt
theorem NI (c:ih):Nf (Nf c)=Nf c:=by
 cases c with
 | vd k=>cases k <;> rfl
 | _=>rfl
theorem XA {c:ih}(h:¬ Comm c):Nf c=c:=by
 cases c with
 | vd k=>cases k with
  | recv=>exact absurd trivial h
  | send=>exact absurd trivial h
  | _=>rfl
 | _=>rfl
theorem uP {c:ih}:Comm (Nf c) ↔ Comm c:=by
 cases c with
 | vd k=>cases k <;> exact Iff.rfl
 | _=>exact Iff.rfl
theorem YA {E:Ud}{z:Core}{c:ih}(h:¬ Comm c):Sh E z c=gu (de E c ⟨z.Yr,[],0⟩):=by
 cases c with
 | recv=>exact absurd trivial h
 | send=>exact absurd trivial h
 | _=>rfl
theorem Xe.act {E:Ud}{c:ih}{z e:Core}{n:Nat}{q:rm}(h:Xe E c z n e q) (i:n<=1):gu (de E c ⟨z.Yr,[],0⟩)=.Gg n (e,yq q):=by
 obtain ⟨o,g,f⟩:=Xe.step (t:=z.Yr) (bs:=[]) (nd:=0) h (by omega);rw [g];obtain ⟨a,b,c',d⟩:=e;cases q with
 | run c'=>cases f <;> simp [gu,yq,Ad.core,Zg]
 | done=>cases f <;> simp [gu,yq,Ad.core,Zg]
 | qe k=>cases f <;> simp [gu,yq,Ad.core,Zg]
theorem sI {E:Ud}{z:Core}{c:ih}{o:gk}(h:de E c ⟨z.Yr,[],0⟩=some o):Wq z c:=by
 intro x l s e k v a b;subst a;rw [de] at h;unfold rp at h;rw [if_neg (by omega),if_neg (by omega),if_neg (by omega),if_neg (by omega),if_neg (by omega),if_pos b] at h;obtain ⟨f,d,-⟩:=td h;have:=(ow d).2;simp at this;have e:z.Yr.out.length=z.out.length:=rfl;omega
def Gl (p:mb) (U:Ng) (x:ig):Prop:=∀ c,x.2=.run c->∃ C L,Sj p U C L x.1/\Dj p U C x.1.now c
theorem Dj.norm {p:mb}{U:Ng}{C:hg}{g:Nat}{c:ih}:Dj p U C g (Nf c) ↔ Dj p U C g c:=by
 cases c with
 | vd k=>cases k <;> exact Iff.rfl
 | _=>exact Iff.rfl
theorem Gl.norm {p:mb}{U:Ng}{z:Core}{q:rm}(h:Gl p U (z,q)):Gl p U (z,yq q):=by
 intro c a;cases q with
 | run c' =>
  obtain ⟨C,L,b,d⟩:=h _ rfl;cases a;exact ⟨C,L,b,Dj.norm.2 d⟩
 | done=>cases a
 | qe k=>cases a
section
variable {p:mb}{U:Ng}{E:Ud}
theorem kJ (P:yn p U E){x d:ig}{n:Nat}(h:Gl p U x) (a:tf E x=.Gg n d):n<=1/\Vi d.1 d.2+1<=Vi x.1 x.2+30*n/\d.1.out.length<=x.1.out.length+1/\Gl p U d:=by
 obtain ⟨z,q⟩:=x;cases q with
 | done=>cases a
 | qe k=>cases a
 | run c =>
 obtain ⟨C,L,m,r⟩:=h _ rfl
 change Sh E z (Nf c)=_ at a
 by_cases b:Comm (Nf c)
 ·exfalso
  revert a b
  cases s:Nf c with
  | recv n k=>intro a _; rw [Sh] at a; split at a <;> cases a
  | send n v k=>intro a _; rw [Sh] at a; split at a <;> cases a
  | vd k =>
   have:Nf (Nf c)=Nf c:=NI c;rw [s] at this;cases k with
   | recv=>cases this
   | send=>cases this
   | _=>intro _ b; exact b.elim
  | _=>intro _ b; exact b.elim
 have f:¬ Comm c:=λk=>b (uP.2 k);rw [XA f,YA f] at a;have u:Wq z c:=by
  cases g:de E c ⟨z.Yr,[],0⟩ with
  | none=>rw [g] at a; cases a
  | some o=>exact sI g
 obtain ⟨B,D,pk,Mg,w,t,l,y,i,j,A⟩:=safe P m f u r;rw [t.act j] at a;cases a;refine ⟨j,?_,A,Gl.norm λc' e=>⟨Mg,w,y c' e⟩⟩;have:Fl (yq pk)=Fl pk:=by
  cases pk with
  | run c=>cases c with
   | vd k=>cases k <;> rfl
   | _=>rfl
  | _=>rfl
 unfold Vi at i ⊢;rw [this];exact i
theorem yi.any {C Mg:hg}{t:Sa}{v:Int}(a:t.Kind≠3) (h:yi p C t v):yi p Mg t v:=⟨h.1,λk=>absurd k a⟩
def HC (p:mb) (E:Ud) (b:Nat) (v:Int):Prop:=∀ n f,Oa E.order n=some (b:Int)->Oa p.named n=some f->yi p ⟨[],[]⟩ (Ke f.Ob) v
structure Ord (p:mb) (E:Ud):Prop where
 inj:∀ (n m:Ge) (i:Int),Oa E.order n=some i->Oa E.order m=some i->n=m
 Rq:∀ (n:Ge) (i:Int),Oa E.order n=some i->0<=i
 ty:∀ n f,Oa p.named n=some f->f.Kind=1->f.Ob.Kind≠3
theorem aE (P:yn p U E) (O:Ord p E){x d:ig}{b c:Nat}{v:Int}(h:Gl p U x) (a:tf E x=.send b v c d):c=0/\(∃ n,U.s n/\Oa E.order n=some (b:Int))/\HC p E b v/\Vi d.1 d.2+1<=Vi x.1 x.2/\d.1.out=x.1.out/\Gl p U d:=by
 obtain ⟨z,q⟩:=x;cases q with
 | done=>cases a
 | qe k=>cases a
 | run c' =>
 obtain ⟨C,L,t,y⟩:=h _ rfl
 change Sh E z (Nf c')=_ at a
 have A:uf (Nf c')=uf c':=by
  cases c' with
  | vd k=>cases k <;> rfl
  | _=>rfl
 have j:=Dj.norm.2 y;unfold Vi;simp only [Fl];rw [<- A];cases g:Nf c' with
 | send n w k =>
  rw [g] at a j;rw [Sh] at a;split at a
  ·rename_i i l;cases a;obtain ⟨f,u,bc,bd,Pa,B⟩:=j;have D:=O.Rq _ _ l;have o:Oa E.order n=some ((i.toNat:Nat):Int):=by rw [l];congr 1;omega
   refine ⟨rfl,⟨n,u,o⟩,λm F e r=>?_,?_,rfl,λG e=>?_⟩
   ·obtain rfl:=O.inj _ _ _ e o;rw [bc] at r;cases r;exact Pa.any (by rw [Hn];exact O.ty _ _ bc bd)
   ·have:uf (Nf (.vd k))=Ui k:=by cases k<;>rfl
    show uf (Nf (.vd k))+_+1<=_;rw [this];simp only [uf];omega
   ·cases e;exact ⟨C,L,t,Dj.norm.2 B⟩
  ·cases a
 | recv n k=>rw [g] at a; rw [Sh] at a; split at a <;> cases a
 | _=>rw [g] at a; simp only [Sh] at a; unfold gu at a; split at a <;> cases a
theorem bE (P:yn p U E) (O:Ord p E){x:ig}{b c:Nat}{f:Int->ig}(h:Gl p U x) (a:tf E x=.recv b c f):c=0/\(∃ n,U.r n/\Oa E.order n=some (b:Int))/\∀ v,Vi (f v).1 (f v).2+1<=Vi x.1 x.2/\(f v).1.out=x.1.out/\(HC p E b v->Gl p U (f v)):=by
 obtain ⟨z,q⟩:=x;cases q with
 | done=>cases a
 | qe k=>cases a
 | run c' =>
 obtain ⟨C,L,m,o⟩:=h _ rfl
 change Sh E z (Nf c')=_ at a
 have s:uf (Nf c')=uf c':=by
  cases c' with
  | vd k=>cases k <;> rfl
  | _=>rfl
 have g:=Dj.norm.2 o;unfold Vi;simp only [Fl];rw [<- s];cases d:Nf c' with
 | recv n k =>
  rw [d] at a g;rw [Sh] at a;split at a
  ·rename_i i j;cases a;obtain ⟨f,u,bc,bd,t⟩:=g;have w:=O.Rq _ _ j;have l:Oa E.order n=some ((i.toNat:Nat):Int):=by rw [j];congr 1;omega
   refine ⟨rfl,⟨n,u,l⟩,λv=>⟨?_,rfl,λPa y e=>?_⟩⟩
   ·simp only [uf];omega
   ·cases e;exact ⟨C,L,m,_,t,(Pa _ _ l bc).any (by rw [Hn];exact O.ty _ _ bc bd)⟩
  ·cases a
 | send n v k=>rw [d] at a; rw [Sh] at a; split at a <;> cases a
 | _=>rw [d] at a; simp only [Sh] at a; unfold gu at a; split at a <;> cases a
end
structure zq (p:mb) (E:Ud) (U:Nat->Ng):Prop where
 ok:∀ i,yn p (U i) E
 ord:Ord p E
 s:∀ (n:Ge) (i j:Nat),(∃ b,Oa E.order n=some b)->(U i).s n->(U j).s n->i=j
 r:∀ (n:Ge) (i j:Nat),(∃ b,Oa E.order n=some b)->(U i).r n->(U j).r n->i=j
theorem zq.own {p:mb}{E:Ud}{U:Nat->Ng}(h:zq p E U):eu (tf E) (λi x=>Gl p (U i) x) (HC p E) (λb i=>∃ n,(U i).s n/\Oa E.order n=some (b:Int)) (λb i=>∃ n,(U i).r n/\Oa E.order n=some (b:Int)) where
 Gg d e:=(kJ (h.ok _) d e).2.2.2
 send d e:=by
  obtain ⟨-,a,c,-,-,g⟩:=aE (h.ok _) h.ord d e;exact ⟨a,c,g⟩
 recv d e:=by
  obtain ⟨-,a,c⟩:=bE (h.ok _) h.ord d e;exact ⟨a,λv Pa=>(c v).2.2 Pa⟩
 Il a c:=by
  obtain ⟨n,oa,f⟩:=a;obtain ⟨m,ka,ad⟩:=c;obtain rfl:=h.ord.inj _ _ _ f ad;exact h.s n _ _ ⟨_,f⟩ oa ka
 hM a c:=by
  obtain ⟨n,oa,f⟩:=a;obtain ⟨m,ka,ad⟩:=c;obtain rfl:=h.ord.inj _ _ _ f ad;exact h.r n _ _ ⟨_,f⟩ oa ka
end
section
open Go.Mc Go.Kf
def rq (E:Ud):Nat->ih->Sc->Option (Option Sc)
 | 0,_,_=>none
 | n+1,c,z=>(de E c z).bind λo=>match o with
  | .call c z=>rq E n c z
  | .ret (some k) z=>rq E n (.vd k) z
  | .ret none z=>some (some z)
  | .Jr=>some none
theorem HK {E:Ud}:∀ {m:Nat}{c:ih}{z:Sc}{r:Option Sc},rq E m c z=some r->∀ fu,m<=fu->∃ x,lp E fu c z=some x/\(x=none->r=none)/\(∀ d,x=some (none,d)->r=some d)/\∀ k d,x=some (some k,d)->∃ g,g<m/\rq E g (.vd k) d=some r
 | 0,c,z,r,h=>by cases h
 | m+1,c,z,r,h=>by
  intro fu q;obtain ⟨fu,rfl⟩:∃ k,fu=k+1:=⟨fu - 1,by omega⟩;rw [rq] at h;obtain ⟨o,i,h⟩:=td h;rw [lp,i];cases o with
  | call c' d =>
   obtain ⟨x,j,l,n,p⟩:=HK h fu (by omega);refine ⟨x,j,l,n,λk f e=>?_⟩;obtain ⟨g,a,b⟩:=p k f e;exact ⟨g,by omega,b⟩
  | ret k d =>
   cases k with
   | none=>cases h; exact ⟨_,rfl,λe=>(by cases e),λf e=>(by cases e; rfl),λk f e=>(by cases e)⟩
   | some k=>exact ⟨_,rfl,λe=>(by cases e),λf e=>(by cases e),λk' f e=>(by cases e; exact ⟨m,by omega,h⟩)⟩
  | Jr=>cases h; exact ⟨_,rfl,λ_=>rfl,λf e=>(by cases e),λk f e=>(by cases e)⟩
theorem IK {E:Ud}:∀ (M:Nat){m:Nat}{k:je}{z:Sc}{r:Option Sc},m<=M->rq E m (.vd k) z=some r->∀ fu,m+1<=fu->Bt E fu (some k) z=some r
 | M,m,k,z,r,hm,h=>by
  intro fu i;obtain ⟨fu,rfl⟩:∃ k,fu=k+1:=⟨fu - 1,by omega⟩;obtain ⟨x,d,e,f,g⟩:=HK h fu (by omega);rw [Bt,d];cases x with
  | none=>rw [e rfl]; rfl
  | some x =>
   obtain ⟨k',c⟩:=x;cases k' with
   | none=>rw [f c rfl]; simp only [Option.bind_some]; rw [Bt]
   | some k' =>
    obtain ⟨j,a,b⟩:=g k' c rfl;cases M with
    | zero=>omega
    | succ M=>exact IK M (by omega) b fu (by omega)
theorem Xe.Jr {E:Ud}{c:ih}{t:Ad}{bs:List ed}{nd:Int}{x:Core}{q:rm}(h:Xe E c t.core 1 x q) (a:20000<nd+1):de E c ⟨t,bs,nd⟩=some .Jr:=by
 have b:∀ f,tt ⟨t,bs,nd⟩ f=some .Jr:=λf=>by rw [tt,if_pos a]
 generalize e:(1:Nat)=n at h;cases h<;>first | exact absurd e (by decide) | (rw [de];exact b _)
def we (t:Ad):ig:=(t.core,if t.state=4 then .done else if t.state=5 then .qe t.qe else match t.qm with | some k=>.run (Nf (.vd k)) | none=>.done)
def Zy (E:Ud) (x:ig):Of:=match x.2 with
 | .done=>⟨4,0,0,x.1.out⟩
 | .qe n=>⟨5,0,n,x.1.out⟩
 | .run (.send n v k)=>⟨2,(Oa E.order n).getD 0,0,x.1.out⟩
 | .run (.recv n k)=>⟨3,(Oa E.order n).getD 0,0,x.1.out⟩
 | .run _=>⟨1,0,0,x.1.out⟩
def Wa (pre:List ig) (x:ig) (post:List ig) (bs:List ed):Qe ig:=⟨pre++x::post,bs.map ed.words⟩
structure Vn (E:Ud) (cap:List Nat) (bs:List ed):Prop where
 cap:cap=bs.map λb=>b.cap.toNat
 le:∀ b ∈ bs,0<=b.cap/\b.cap<=100/\(b.words.length:Int)<=b.cap
 ord:∀ (n:Ge) (i:Int),Oa E.order n=some i->0<=i/\i.toNat<bs.length
theorem Vn.at {E:Ud}{cap:List Nat}{bs:List ed}(h:Vn E cap bs){n:Ge}{i:Int}(e:Oa E.order n=some i):∃ b,at_ bs i=some b/\bs[i.toNat]?=some b/\0<=b.cap/\b.cap<=100/\(b.words.length:Int)<=b.cap/\cap[i.toNat]?=some b.cap.toNat/\(bs.map ed.words)[i.toNat]?=some b.words:=by
 obtain ⟨d,c⟩:=h.ord n i e;have a:bs[i.toNat]?=some bs[i.toNat]:=List.getElem?_eq_getElem c;obtain ⟨f,g,j⟩:=h.le _ (List.getElem_mem c);exact ⟨_,by rw [at_,if_pos d,a],a,f,g,j,by rw [h.cap,List.getElem?_map,a];rfl,by rw [List.getElem?_map,a];rfl⟩
theorem Vn.set {E:Ud}{cap:List Nat}{bs:List ed}(h:Vn E cap bs){i:Nat}{b:ed}(a:bs[i]?=some b){ws:List Int}(f:(ws.length:Int)<=b.cap):Vn E cap (bs.set i { b with words:=ws }):=by
 have ma:=(List.getElem?_eq_some_iff.1 a).1;refine ⟨?_,λc d=>?_,λn g e=>?_⟩
 ·rw [h.cap];refine List.ext_getElem? λj=>?_;rw [List.getElem?_map,List.getElem?_map,List.getElem?_set];split
  ·rename_i e;subst e;rw [a];rfl
  ·rfl
 ·rcases List.mem_or_eq_of_mem_set d with d | rfl
  ·exact h.le _ d
  ·have:=h.le _ (List.mem_of_getElem? a);exact ⟨this.1,this.2.1,f⟩
 ·have:=h.ord n g e;simpa using this
section
variable {p:mb}{E:Ud}{U:Nat->Ng}{cap:List Nat}
abbrev ss (p:mb) (E:Ud) (U:Nat->Ng):Qe ig->Prop:=im (λi x=>Gl p (U i) x) (HC p E)
def kz (E:Ud) (cap:List Nat) (pre post:List ig) (s:Qe ig) (nd:Nat):Option Sc->Prop
 | none=>∃ m d Bb,qf (tf E) cap s m d Bb/\20000<nd+d
 | some z=>∃ m d,qf (tf E) cap s m d (Wa pre (we z.t) post z.boxes)/\z.nodes=((nd+d:Nat):Int)/\nd+d<=20000/\Vn E cap z.boxes/\(∀ a Bb,¬ jg (tf E) cap (Wa pre (we z.t) post z.boxes) pre.length a Bb) /\
  (z.t.state=2/\z.t.qe=0/\(∃ n v k,z.t.qm=some (.send n v k)/\Oa E.order n=some z.t.box)\/z.t.state=3/\z.t.qe=0/\(∃ n k,z.t.qm=some (.recv n k)/\Oa E.order n=some z.t.box)\/z.t.state=4/\z.t.box=0/\z.t.qe=0\/z.t.state=5/\z.t.box=0)
theorem kz.cons {pre post:List ig}{s c:Qe ig}{nd d i:Nat}{r:Option Sc}(k:jg (tf E) cap s i d c) (h:kz E cap pre post c (nd+d) r):kz E cap pre post s nd r:=by
 cases r with
 | none =>
  obtain ⟨m,a,Bb,b,e⟩:=h;exact ⟨m+1,d+a,Bb,.cons k b,by omega⟩
 | some z =>
  obtain ⟨m,a,b,e,g,f⟩:=h;exact ⟨m+1,d+a,.cons k b,by rw [e];congr 1;omega,by omega,f⟩
theorem kl {α:Type}{pre post:List α}{x:α}:(pre++x::post)[pre.length]?=some x:=by
 rw [List.getElem?_append_right (Nat.le_refl _),Nat.sub_self];rfl
theorem uF {α:Type}{pre post:List α}{x y:α}:(pre++x::post).set pre.length y=pre++y::post:=by
 rw [List.set_append_right _ _ (Nat.le_refl _),Nat.sub_self];rfl
theorem ZA {pre post:List ig}{z:Core}{bs:List ed}{q:rm}(f:∀ c,q≠.run c):∀ d Bb,¬ jg (tf E) cap (Wa pre (z,q) post bs) pre.length d Bb:=by
 intro d Bb h;have e:tf E (z,q)=.halt:=by
  cases q with
  | run c=>exact absurd rfl (f c)
  | _=>rfl
 cases h with
 | Gg a b=>rw [show (Wa pre (z,q) post bs).na[pre.length]?=some (z,q) from kl] at a; cases a; rw [e] at b; cases b
 | send a b=>rw [show (Wa pre (z,q) post bs).na[pre.length]?=some (z,q) from kl] at a; cases a; rw [e] at b; cases b
 | recv a b=>rw [show (Wa pre (z,q) post bs).na[pre.length]?=some (z,q) from kl] at a; cases a; rw [e] at b; cases b
theorem WJ {pre post:List ig}{z:Core}{bs:List ed}{n:Ge}{v:Int}{k:je}{i:Int}{b:ed}(hB:Vn E cap bs) (e:Oa E.order n=some i) (l:bs[i.toNat]?=some b) (p:b.cap<=(b.words.length:Int)):∀ d Bb,¬ jg (tf E) cap (Wa pre (z,.run (.send n v k)) post bs) pre.length d Bb:=by
 intro d Bb h;have f:tf E (z,.run (.send n v k))=.send i.toNat v 0 (z,.run (Nf (.vd k))):=by
  show Sh E z (.send n v k)=_;rw [Sh,e]
 obtain ⟨Qc,q,g,r,s,t,m,o⟩:=hB.at e;rw [l] at g;cases g;cases h with
 | Gg a c=>rw [show (Wa pre (z,.run (.send n v k)) post bs).na[pre.length]?=some (z,.run (.send n v k)) from kl] at a; cases a; rw [f] at c; cases c
 | send a c hw j ma =>
  rw [show (Wa pre (z,.run (.send n v k)) post bs).na[pre.length]?=some (z,.run (.send n v k)) from kl] at a;cases a;rw [f] at c;cases c;rw [show (Wa pre (z,.run (.send n v k)) post bs).bs=bs.map ed.words from rfl,o] at hw;cases hw;rw [m] at j;cases j;omega
 | recv a c=>rw [show (Wa pre (z,.run (.send n v k)) post bs).na[pre.length]?=some (z,.run (.send n v k)) from kl] at a; cases a; rw [f] at c; cases c
theorem XJ {pre post:List ig}{z:Core}{bs:List ed}{n:Ge}{k:cf}{i:Int}{b:ed}(hB:Vn E cap bs) (e:Oa E.order n=some i) (j:bs[i.toNat]?=some b) (l:b.words=[]):∀ d Bb,¬ jg (tf E) cap (Wa pre (z,.run (.recv n k)) post bs) pre.length d Bb:=by
 intro d Bb h;have f:tf E (z,.run (.recv n k))=.recv i.toNat 0 (λv=>(z,.run (.df k v))):=by
  show Sh E z (.recv n k)=_;rw [Sh,e]
 obtain ⟨Qc,o,g,p,q,r,s,m⟩:=hB.at e;rw [j] at g;cases g;cases h with
 | Gg a c=>rw [show (Wa pre (z,.run (.recv n k)) post bs).na[pre.length]?=some (z,.run (.recv n k)) from kl] at a; cases a; rw [f] at c; cases c
 | send a c=>rw [show (Wa pre (z,.run (.recv n k)) post bs).na[pre.length]?=some (z,.run (.recv n k)) from kl] at a; cases a; rw [f] at c; cases c
 | recv a c hw =>
  rw [show (Wa pre (z,.run (.recv n k)) post bs).na[pre.length]?=some (z,.run (.recv n k)) from kl] at a;cases a;rw [f] at c;cases c;rw [show (Wa pre (z,.run (.recv n k)) post bs).bs=bs.map ed.words from rfl,m,l] at hw;cases hw
theorem BB (W:zq p E U){pre post:List ig}:∀ (M:Nat) (c:ih) (t:Ad) (bs:List ed) (nd:Nat),ss p E U (Wa pre (t.core,.run (Nf c)) post bs)->nd<=20000->t.out.length+M<=4294967295->Vn E cap bs->t.state=1->t.box=0->t.qe=0 ->
  (∃ r,rq E M c ⟨t,bs,nd⟩=some r/\kz E cap pre post (Wa pre (t.core,.run (Nf c)) post bs) nd r)\/∃ d Bb,qf (tf E) cap (Wa pre (t.core,.run (Nf c)) post bs) M d Bb/\nd+d<=20000
 | 0,c,t,bs,nd,m,H,V,hB,G,z,y=>.inr ⟨0,_,.nil,by omega⟩
 | M+1,c,t,bs,nd,m,H,V,hB,G,z,y=>by
  have X:Gl p (U pre.length) (t.core,.run (Nf c)):=m.na pre.length _ kl;obtain ⟨C,L,Y,A⟩:=X _ rfl;replace A:=Dj.norm.1 A;by_cases B:Comm c
  ·-- it speaks
   have Z:(∃ n k,Nf c=.recv n k/\de E c ⟨t,bs,nd⟩=Uu E n k ⟨t,bs,nd⟩)\/∃ n v k,Nf c=.send n v k/\de E c ⟨t,bs,nd⟩=Vu E n v k ⟨t,bs,nd⟩:=by
    cases c with
    | recv n k=>exact .inl ⟨n,k,rfl,rfl⟩
    | send n v k=>exact .inr ⟨n,v,k,rfl,rfl⟩
    | vd k=>cases k with
     | recv n k=>exact .inl ⟨n,k,rfl,rfl⟩
     | send n v k=>exact .inr ⟨n,v,k,rfl,rfl⟩
     | _=>exact B.elim
    | _=>exact B.elim
   rw [rq];rcases Z with ⟨n,k,ua,K⟩ | ⟨n,v,k,ua,K⟩
   ·rw [K];have D:=Dj.norm.2 A;rw [ua] at D m;obtain ⟨f,u,bc,bd,bb⟩:=D;obtain ⟨i,g⟩:=(W.ok pre.length).Ff _ _ bc bd;obtain ⟨b,oa,a2,a3,a4,a5,zb,Cb⟩:=hB.at g;rw [Uu,g];simp only [Option.bind_some,oa];rw [ua];have F:tf E (t.core,.run (.recv n k))=.recv i 0 (λv=>(t.core,.run (.df k v))):=by
     show Sh E t.core (.recv n k)=_;rw [Sh,g];simp
    cases hw:b.words with
    | nil =>
     refine .inl ⟨_,rfl,0,0,?_,rfl,by omega,hB,?_,?_⟩
     ·have:Wa pre (we { t with state:=3,box:=(Oa E.order n).getD 0,qm:=some (.recv n k) }) post bs=Wa pre (t.core,.run (.recv n k)) post bs:=rfl;rw [g] at this;exact this ▸ .nil
     ·exact XJ hB g a2 hw
     ·exact .inr<|.inl ⟨rfl,y,n,k,rfl,by rw [g];rfl⟩
    | cons v ws =>
     have a:jg (tf E) cap (Wa pre (t.core,.run (.recv n k)) post bs) pre.length 0 (Wa pre (t.core,.run (.df k v)) post (bs.set i { b with words:=ws })):=by
      have:=jg.recv (act:=tf E) (cap:=cap) (s:=Wa pre (t.core,.run (.recv n k)) post bs) (i:=pre.length) (v:=v) (w:=ws) kl F (by show (bs.map ed.words)[i]?=_;rw [show (i:Nat)=(i:Int).toNat by omega,Cb,hw]);unfold Wa at this ⊢;rw [uF] at this;rw [List.map_set];exact this
     have N:Vn E cap (bs.set i { b with words:=ws }):=hB.set (by rw [show (i:Nat)=(i:Int).toNat by omega];exact a2) (by rw [hw] at a5;simp at a5;omega);rcases BB W M (.df k v) t (bs.set i { b with words:=ws }) nd (a.own W.own m) H (by omega) N G z y with ⟨r,h,j⟩ | ⟨d,Bb,h,j⟩
     ·exact .inl ⟨r,by simpa using h,j.cons a⟩
     ·exact .inr ⟨d,Bb,by have:=qf.cons a h;rwa [Nat.zero_add] at this,j⟩
   ·rw [K];have D:=Dj.norm.2 A;rw [ua] at D m;obtain ⟨f,u,bc,bd,Pa,bb⟩:=D;obtain ⟨i,g⟩:=(W.ok pre.length).Ff _ _ bc bd;obtain ⟨b,oa,a2,a3,a4,a5,zb,Cb⟩:=hB.at g;rw [Vu,g];simp only [Option.bind_some,oa];rw [ua];have F:tf E (t.core,.run (.send n v k))=.send i v 0 (t.core,.run (Nf (.vd k))):=by
     show Sh E t.core (.send n v k)=_;rw [Sh,g];simp
    by_cases R:(b.words.length:Int)=b.cap
    ·rw [if_pos R];refine .inl ⟨_,rfl,0,0,?_,rfl,by omega,hB,?_,?_⟩
     ·have:Wa pre (we { t with state:=2,box:=(Oa E.order n).getD 0,qm:=some (.send n v k) }) post bs=Wa pre (t.core,.run (.send n v k)) post bs:=rfl;rw [g] at this;exact this ▸ .nil
     ·exact WJ hB g a2 (by omega)
     ·exact .inl ⟨rfl,y,n,v,k,rfl,by rw [g];rfl⟩
    ·have Gb:app b.words [v]=some (b.words++[v]):=if_pos (by simp;omega);rw [if_neg R,Gb];have a:jg (tf E) cap (Wa pre (t.core,.run (.send n v k)) post bs) pre.length 0 (Wa pre (t.core,.run (Nf (.vd k))) post (bs.set i { b with words:=b.words++[v] })):=by
      have:=jg.send (act:=tf E) (cap:=cap) (s:=Wa pre (t.core,.run (.send n v k)) post bs) (i:=pre.length) (w:=b.words) (k:=b.cap.toNat) kl F (by show (bs.map ed.words)[i]?=_;rw [show (i:Nat)=(i:Int).toNat by omega,Cb]) (by rw [show (i:Nat)=(i:Int).toNat by omega];exact zb) (by omega);unfold Wa at this ⊢;rw [uF] at this;rw [List.map_set];exact this
     have N:Vn E cap (bs.set i { b with words:=b.words++[v] }):=hB.set (by rw [show (i:Nat)=(i:Int).toNat by omega];exact a2) (by simp;omega);rcases BB W M (.vd k) t (bs.set i { b with words:=b.words++[v] }) nd (a.own W.own m) H (by omega) N G z y with ⟨r,h,j⟩ | ⟨d,Bb,h,j⟩
     ·exact .inl ⟨r,by simpa using h,j.cons a⟩
     ·exact .inr ⟨d,Bb,by have:=qf.cons a h;rwa [Nat.zero_add] at this,j⟩
  ·-- it does not
   have gc:Wq t.core c:=λx l s e k v _ _=>by show t.out.length<_;omega
   obtain ⟨n,O,q,Mg,rd,ic,l,wd,Fd,lc,rc⟩:=safe (W.ok pre.length) Y B gc A;have F:tf E (t.core,.run (Nf c))=.Gg n (O,yq q):=by
    show Sh E t.core (Nf (Nf c))=_;rw [NI,XA B,YA B];exact ic.act lc
   have a:jg (tf E) cap (Wa pre (t.core,.run (Nf c)) post bs) pre.length n (Wa pre (O,yq q) post bs):=by
    have:=jg.Gg (act:=tf E) (cap:=cap) (s:=Wa pre (t.core,.run (Nf c)) post bs) (i:=pre.length) kl F;unfold Wa at this ⊢;rwa [uF] at this
   have fd:=a.own W.own m;rw [rq];by_cases P:n=1/\20000<nd+1
   ·obtain ⟨rfl,P⟩:=P;rw [ic.Jr (by omega)];exact .inl ⟨none,rfl,1,1,_,.one a,P⟩
   ·obtain ⟨o,id,hd⟩:=ic.step (bs:=bs) (nd:=(nd:Int)) (by omega);rw [id];simp only [Option.bind_some];obtain ⟨x1,S,T,Q⟩:=O;have md:((nd:Int)+(n:Int))=((nd+n:Nat):Int):=by omega
    rw [md] at hd;cases q with
    | run c' =>
     have go:=BB W M c' { t with fe:=x1,Db:=S,now:=T,out:=Q } bs (nd+n) fd (by omega) (by simp only [Ad.core] at rc;show Q.length+M<=_;omega) hB G z y;have fin:(∃ r,rq E M c' ⟨{ t with fe:=x1,Db:=S,now:=T,out:=Q },bs,((nd+n:Nat):Int)⟩=some r/\kz E cap pre post (Wa pre (t.core,.run (Nf c)) post bs) nd r)\/∃ d Bb,qf (tf E) cap (Wa pre (t.core,.run (Nf c)) post bs) (M+1) d Bb/\nd+d<=20000:=by
      rcases go with ⟨r,h,j⟩ | ⟨d,Bb,h,j⟩
      ·exact .inl ⟨r,h,j.cons a⟩
      ·exact .inr ⟨n+d,Bb,.cons a h,by omega⟩
     cases hd<;>exact fin
    | done =>
     cases hd;exact .inl ⟨_,rfl,1,n,.one a,rfl,by omega,hB,ZA λc=>(by simp [Ad.core]),.inr (.inr (.inl ⟨rfl,z,y⟩))⟩
    | qe k =>
     cases hd;exact .inl ⟨_,rfl,1,n,.one a,rfl,by omega,hB,ZA λc=>(by simp [Ad.core]),.inr (.inr (.inr ⟨rfl,z⟩))⟩
end
end
section
open Go.Mc Go.Kf
theorem qf.zero {T:Type}{act:T->gm T}{cap:List Nat}{s Bb:Qe T}{d:Nat}(h:qf act cap s 0 d Bb):s=Bb:=by cases h;rfl
def Zb (s:Qe ig):Nat:=(s.na.map λx=>Vi x.1 x.2).sum
section
variable {p:mb}{E:Ud}{U:Nat->Ng}{cap:List Nat}
theorem mO (W:zq p E U){s Bb:Qe ig}{i d:Nat}(l:ss p E U s) (k:jg (tf E) cap s i d Bb):Zb Bb+1<=Zb s+30*d/\d<=1/\∀ (j:Nat) (c:ig),Bb.na[j]?=some c->∃ x,s.na[j]?=some x/\c.1.out.length<=x.1.out.length+1:=by
 have O:∀ {x c:ig},s.na[i]?=some x->c.1.out.length<=x.1.out.length+1->∀ (j:Nat) (y:ig),(s.na.set i c)[j]?=some y->∃ x,s.na[j]?=some x/\y.1.out.length<=x.1.out.length+1:=by
  intro x c m ma j y g;by_cases e:i=j
  ·subst e;rw [Gn m] at g;cases g;exact ⟨x,m,ma⟩
  ·rw [Tg e] at g;exact ⟨y,g,by omega⟩
 cases k with
 | @Gg t hb _ a f =>
  obtain ⟨oa,a2,h,-⟩:=kJ (W.ok i) (l.na _ _ a) f;have n:=vt (λx:ig=>Vi x.1 x.2) (b:=hb) a;exact ⟨by unfold Zb;simp only;omega,oa,O a h⟩
 | @send t hb _ b k v w a f o r ma =>
  obtain ⟨oa,-,-,a2,h,-⟩:=aE (W.ok i) W.ord (l.na _ _ a) f;have n:=vt (λx:ig=>Vi x.1 x.2) (b:=hb) a;exact ⟨by unfold Zb;simp only;omega,by omega,O a (by rw [h];omega)⟩
 | @recv t _ b k v w a f o =>
  obtain ⟨oa,-,a2⟩:=bE (W.ok i) W.ord (l.na _ _ a) f;obtain ⟨h,q,-⟩:=a2 v;have n:=vt (λx:ig=>Vi x.1 x.2) (b:=k v) a;exact ⟨by unfold Zb;simp only;omega,by omega,O a (by rw [q];omega)⟩
theorem cE (W:zq p E U){s Bb:Qe ig}{m d:Nat}(k:qf (tf E) cap s m d Bb):ss p E U s->Zb Bb+m<=Zb s+30*d/\∀ (j:Nat) (a:ig),Bb.na[j]?=some a->∃ x,s.na[j]?=some x/\a.1.out.length<=x.1.out.length+m:=by
 induction k with
 | nil=>exact λ_=>⟨by omega,λj a h=>⟨a,h,by omega⟩⟩
 | cons k _ c =>
  intro b;obtain ⟨oa,a2,a3⟩:=mO W b k;obtain ⟨ka,ad⟩:=c (k.own W.own b);refine ⟨by omega,λj a h=>?_⟩;obtain ⟨x1,eb,c2⟩:=ad j a h;obtain ⟨x0,d1,d2⟩:=a3 j x1 eb;exact ⟨x0,d1,by omega⟩
def iM (E:Ud) (t:Ad):Prop :=
 t.state=1/\t.box=0/\t.qe=0/\(∃ d,t.qm=some (.cj d))\/t.state=2/\t.qe=0/\(∃ n v k,t.qm=some (.send n v k)/\Oa E.order n=some t.box) \/
 t.state=3/\t.qe=0/\(∃ n k,t.qm=some (.recv n k)/\Oa E.order n=some t.box)\/t.state=4/\t.box=0/\t.qe=0\/t.state=5/\t.box=0
def Sg (na:List Ad) (bs:List ed):Qe ig:=⟨na.map we,bs.map ed.words⟩
theorem kB {pre na:List Ad}{t:Ad}{bs:List ed}:Sg (pre++t::na) bs=Wa (pre.map we) (we t) (na.map we) bs:=by
 unfold Sg Wa;rw [List.map_append,List.map_cons]
def Pp (s:Qe ig) (nd:Nat):Nat:=Zb s+30*(20000 - nd)
structure Inv (p:mb) (E:Ud) (U:Nat->Ng) (cap:List Nat) (N:Nat) (na:List Ad) (bs:List ed) (nd:Nat):Prop where
 Np:ss p E U (Sg na bs)
 Ya:Vn E cap bs
 j:∀ t ∈ na,iM E t
 uv:nd<=20000
 jM:Pp (Sg na bs) nd<=N
 out:∀ t ∈ na,t.out.length+Pp (Sg na bs) nd<=N
theorem JK {t:Ad}{bs:List ed}(o:iM E t) (hB:Vn E cap bs):∃ c,nq t bs=some c/\(c=false->∀ (pre post:List ig) (d:Nat) (Bb:Qe ig),¬ jg (tf E) cap (Wa pre (we t) post bs) pre.length d Bb) /\
  (c=true->(∃ k,t.qm=some k/\we t=(t.core,.run (Nf (.vd k))))/\t.qe=0/\∀ (W:zq p E U) (pre post:List ig),ss p E U (Wa pre (we t) post bs)->∃ d Bb,jg (tf E) cap (Wa pre (we t) post bs) pre.length d Bb):=by
 unfold nq;rcases o with ⟨g,i,h,d,a⟩ | ⟨g,i,n,v,k,h,a⟩ | ⟨g,i,n,k,h,a⟩ | ⟨g,i,h⟩ | ⟨g,i⟩
 ·rw [if_pos g];have f:we t=(t.core,.run (.vd (.cj d))):=by unfold we;rw [if_neg (by omega),if_neg (by omega),a];rfl
  refine ⟨true,rfl,λe=>(by cases e),λ_=>⟨⟨_,a,f⟩,h,λW pre post j=>?_⟩⟩;rw [f] at j ⊢;obtain ⟨C,L,r,u⟩:=(j.na pre.length _ kl:Gl p (U pre.length) (t.core,.run (.vd (.cj d)))) _ rfl;obtain ⟨n,A,q,Mg,B,ic,-,-,-,w,-⟩:=safe (c:=.vd (.cj d)) (W.ok pre.length) r (λy=>False.elim y) (λx l s e k v z _=>(by cases z)) u;exact ⟨_,_,.Gg kl<|show tf E (t.core,.run<|.vd<|.cj d)=_ from ic.act w⟩
 ·rw [if_neg (by omega),if_pos g];obtain ⟨b,oa,a2,a3,a4,a5,zb,Cb⟩:=hB.at a;have f:we t=(t.core,.run (.send n v k)):=by unfold we;rw [if_neg (by omega),if_neg (by omega),h];rfl
  rw [oa,f];simp only [Option.bind_some];refine ⟨_,rfl,λe pre post=>?_,λe=>⟨⟨_,h,rfl⟩,i,λW pre post j=>?_⟩⟩
  ·exact WJ hB a a2 (by simpa using e)
  ·have m:(b.words.length:Int)<b.cap:=by simpa using e
   exact ⟨_,_,.send kl (show Sh E t.core (.send n v k)=.send t.box.toNat v 0 _ by rw [Sh,a]) Cb zb (by omega)⟩
 ·rw [if_neg (by omega),if_neg (by omega),if_pos g];obtain ⟨b,oa,a2,a3,a4,a5,zb,Cb⟩:=hB.at a;have f:we t=(t.core,.run (.recv n k)):=by unfold we;rw [if_neg (by omega),if_neg (by omega),h];rfl
  rw [oa,f];simp only [Option.bind_some];refine ⟨_,rfl,λe pre post=>?_,λe=>⟨⟨_,h,rfl⟩,i,λW pre post j=>?_⟩⟩
  ·refine XJ hB a a2 ?_;have D:¬ (0:Int)<b.words.length:=by simpa using e
   have this:b.words.length=0:=by omega
   exact List.length_eq_zero_iff.1 this
  ·have m:(0:Int)<b.words.length:=by simpa using e
   cases hw:b.words with
   | nil=>rw [hw] at m; simp at m
   | cons v ws=>exact ⟨_,_,.recv kl (show Sh E t.core (.recv n k)=.recv t.box.toNat 0 _ by rw [Sh,a]) (by rw [<- hw]; exact Cb)⟩
 ·rw [if_neg (by omega),if_neg (by omega),if_neg (by omega)];have f:we t=(t.core,.done):=by unfold we;rw [if_pos g]
  rw [f];exact ⟨false,rfl,λ_ pre post=>ZA λc=>(by simp),λe=>by cases e⟩
 ·rw [if_neg (by omega),if_neg (by omega),if_neg (by omega)];have f:we t=(t.core,.qe t.qe):=by unfold we;rw [if_neg (by omega),if_pos g]
  rw [f];exact ⟨false,rfl,λ_ pre post=>ZA λc=>(by simp),λe=>by cases e⟩
def NW (p:mb) (E:Ud) (U:Nat->Ng) (cap:List Nat) (N:Nat) (s:Qe ig) (nd:Nat) (pc:Bool) (all:List Ad) (na:List Ad) (bs:List ed):Option (List Ad×List ed×Int×Bool)->Prop
 | none=>∃ m d Bb,qf (tf E) cap s m d Bb/\20000<nd+d
 | some (ts',a,c,b)=>∃ m d,qf (tf E) cap s m d (Sg ts' a)/\c=((nd+d:Nat):Int)/\Inv p E U cap N ts' a (nd+d)/\(b=true->pc=true\/1<=m)/\(b=false->pc=false/\ts'=all/\a=bs/\∀ t ∈ na,nq t bs=some false)/\ts'.length=all.length/\a.length=bs.length
theorem tS {α:Type}{l:List α}{a:α}(h:a ∈ l):∃ i:Nat,l[i]?=some a:=List.mem_iff_getElem?.1 h
theorem dE (W:zq p E U){N n:Nat}(K:N+2<=n) (L:N<=4000000000):∀ (na pre:List Ad) (bs:List ed) (nd:Nat) (pc:Bool),Inv p E U cap N (pre++na) bs nd->∃ r,cq E n pre na bs nd pc=some r/\NW p E U cap N (Sg (pre++na) bs) nd pc (pre++na) na bs r
 | [],pre,bs,nd,pc,a=>by
  rw [cq];rw [List.append_nil] at a ⊢;exact ⟨_,rfl,0,0,.nil,rfl,a,λh=>.inl h,λh=>⟨h,rfl,rfl,λt T=>by cases T⟩,rfl,rfl⟩
 | t::na,pre,bs,nd,pc,a=>by
  have V:=a.j t (by simp);obtain ⟨c,M,eb,c2⟩:=JK (p:=p) (U:=U) V a.Ya;rw [cq,M];simp only [Option.bind_some];cases c with
  | false =>
   rw [if_neg (by simp)];have A:Inv p E U cap N ((pre++[t])++na) bs nd:=by simpa using a
   obtain ⟨r,g,l⟩:=dE W K L na (pre++[t]) bs nd pc A;refine ⟨r,g,?_⟩;rw [List.append_assoc,List.singleton_append] at l;cases r with
   | none=>exact l
   | some r =>
    obtain ⟨ts',X,Y,Z⟩:=r;obtain ⟨m,d,f,B,C,u,D,F⟩:=l;refine ⟨m,d,f,B,C,u,λh=>?_,F⟩;obtain ⟨oa,a2,a3,a4⟩:=D h;exact ⟨oa,a2,a3,λx b=>by
     rcases List.mem_cons.1 b with rfl | b
     ·exact M
     ·exact a4 x b⟩
  | true =>
   rw [if_pos rfl];obtain ⟨⟨k,bb,O⟩,Gb,gc⟩:=c2 rfl;have q:=a.Np;rw [kB] at q;obtain ⟨d0,lc,k0⟩:=gc W _ _ q;have v:Sg (pre++t::na) bs=Wa (pre.map we) (t.core,.run (Nf (.vd k))) (na.map we) bs:=by rw [kB,O]
   rw [O] at q k0;have rc:yy E n ⟨t,bs,nd⟩=Bt E n (some k) ⟨{ t with state:=1,box:=0 },bs,nd⟩:=by
    exact congrArg (λo=>Bt E n o ⟨{ t with state:=1,box:=0 },bs,nd⟩) bb
   have fd:=a.jM;have id:=a.out t (by simp);rw [v] at fd id;have ne:=a.uv;rcases BB (cap:=cap) W (pre:=pre.map we) (post:=na.map we) (Pp (Wa (pre.map we) (t.core,.run (Nf (.vd k))) (na.map we) bs) nd+1) (.vd k) { t with state:=1,box:=0 } bs nd q a.uv (by show t.out.length+_<=_;omega) a.Ya rfl rfl Gb with ⟨r,g,l⟩ | ⟨d,Bb,g,l⟩
   ·have ma:=IK _ (Nat.le_refl _) g n (by omega);rw [rc,ma];simp only [Option.bind_some];rw [v];cases r with
    | none=>exact ⟨_,rfl,l⟩
    | some z =>
     obtain ⟨m,d,f,B,C,u,D,F⟩:=l;replace f:qf (tf E) cap (Wa (pre.map we) (t.core,.run (Nf (.vd k))) (na.map we) bs) m d (Wa (pre.map we) (we z.t) (na.map we) z.boxes):=f;have Ne:1<=m:=by
      rcases Nat.eq_zero_or_pos m with rfl | h
      ·have e:=f.zero;have md:jg (tf E) cap (Wa (pre.map we) (we z.t) (na.map we) z.boxes) (pre.map we).length d0 lc:=by rw [<- e];exact k0
       exact (D _ _ md).elim
      ·exact h
     obtain ⟨ka,ad⟩:=cE W f q;have w:Sg (pre++z.t::na) z.boxes=Wa (pre.map we) (we z.t) (na.map we) z.boxes:=kB;have of:Pp (Sg (pre++z.t::na) z.boxes) (nd+d)+m<=Pp (Wa (pre.map we) (t.core,.run (Nf (.vd k))) (na.map we) bs) nd:=by
      rw [w];unfold Pp;omega
     have A:Inv p E U cap N (pre++z.t::na) z.boxes (nd+d):=by
      refine ⟨?_,u,λx b=>?_,C,by omega,λx b=>?_⟩
      ·rw [w];exact f.own W.own q
      ·simp only [List.mem_append,List.mem_cons] at b;rcases b with b | rfl | b
       ·exact a.j x (by simp [b])
       ·exact .inr F
       ·exact a.j x (by simp [b])
      ·obtain ⟨i,rd⟩:=tS b;obtain ⟨y,P,wf⟩:=ad i (we x) (by
        rw [<- w];show ((pre++z.t::na).map we)[i]?=_;rw [List.getElem?_map,rd];rfl)
       rw [<- v] at P;have Q:((pre++t::na).map we)[i]?=some y:=P;rw [List.getElem?_map] at Q;obtain ⟨t0,t1,t2⟩:=Option.map_eq_some_iff.1 Q;have wd:=a.out t0 (List.mem_of_getElem? t1);rw [v] at wd;have ua:(we x).1.out.length=x.out.length:=rfl;have If:y.1.out.length=t0.out.length:=by rw [<- t2];rfl
       omega
     have dg:z.boxes.length=bs.length:=by
      have R:=u.cap;have Fd:=a.Ya.cap;rw [Fd] at R;have:=congrArg List.length R;simpa using this.symm
     have Id:Inv p E U cap N ((pre++[z.t])++na) z.boxes (nd+d):=by simpa using A
     obtain ⟨r',s1,s2⟩:=dE W K L na (pre++[z.t]) z.boxes (nd+d) true Id;rw [List.append_assoc,List.singleton_append] at s2;refine ⟨r',by show cq E n (pre++[z.t]) na z.boxes z.nodes true=_;rw [B];exact s1,?_⟩;rw [w] at s2;cases r' with
     | none =>
      obtain ⟨G,s,Bb,H,S⟩:=s2;exact ⟨m+G,d+s,Bb,f.app H,by omega⟩
     | some r' =>
      obtain ⟨ts',X,Y,Z⟩:=r';obtain ⟨G,s,H,S,be,rg,ce,ge,bi⟩:=s2;refine ⟨m+G,d+s,f.app H,by rw [S];congr 1;omega,by rw [show nd+(d+s)=nd+d+s by omega];exact be,λ_=>.inr (by omega),λh=>?_,by simpa using ge,by omega⟩;have:=(ce h).1;cases this
   ·exfalso;replace g:qf (tf E) cap (Wa (pre.map we) (t.core,.run (Nf (.vd k))) (na.map we) bs) _ d Bb:=g;have:=(cE W g q).1;unfold Pp at this;omega
theorem tI (W:zq p E U){N n:Nat}(u:N+2<=n) (v:N<=4000000000):∀ (M m:Nat) (na:List Ad) (bs:List ed) (nd:Nat),Inv p E U cap N na bs nd->Pp (Sg na bs) nd<M->M<=m->∃ r,pr E n m na bs nd=some r/\match r with
  | none=>∃ k d Bb,qf (tf E) cap (Sg na bs) k d Bb/\20000<nd+d
  | some (ts',a,b)=>∃ k d,qf (tf E) cap (Sg na bs) k d (Sg ts' a)/\b=((nd+d:Nat):Int)/\Inv p E U cap N ts' a (nd+d)/\Mr (tf E) cap (Sg ts' a)/\(∀ t ∈ ts',nq t a=some false)/\ts'.length=na.length/\a.length=bs.length
 | 0,m,na,bs,nd,l,w,hm=>by omega
 | M+1,m,na,bs,nd,l,w,hm=>by
  obtain ⟨m,rfl⟩:∃ k,m=k+1:=⟨m - 1,by omega⟩;obtain ⟨r,C,o⟩:=dE (cap:=cap) W u v na [] bs nd false l;rw [pr,C];simp only [Option.bind_some];rw [List.nil_append] at o;cases r with
  | none=>exact ⟨_,rfl,o⟩
  | some r =>
   obtain ⟨ts',a,b,D⟩:=r;obtain ⟨k,d,g,y,e,F,G,Q,R⟩:=o;cases D with
   | true =>
    have S:1<=k:=by
     rcases F rfl with h | h
     ·cases h
     ·exact h
    have T:=(cE W g l.Np).1;have V:=e.uv;obtain ⟨r',s1,s2⟩:=tI W u v M m ts' a (nd+d) e (by unfold Pp at w ⊢;omega) (by omega);refine ⟨r',by show (if true=true then pr E n m ts' a b else some (some (ts',a,b)))=_;rw [if_pos rfl,y];exact s1,?_⟩;cases r' with
    | none =>
     obtain ⟨k',f,Bb,q,z⟩:=s2;exact ⟨k+k',d+f,Bb,g.app q,by omega⟩
    | some r' =>
     obtain ⟨X,Y,Z⟩:=r';obtain ⟨k',f,q,z,H,K,L,bb,Gb⟩:=s2;exact ⟨k+k',d+f,g.app q,by rw [z];congr 1;omega,by rw [show nd+(d+f)=nd+d+f by omega];exact H,K,L,by omega,by omega⟩
   | false =>
    obtain ⟨-,rfl,rfl,a4⟩:=G rfl;refine ⟨some (ts',a,b),by show (if false=true then pr E n m ts' a b else some (some (ts',a,b)))=_;rw [if_neg (by simp)],k,d,g,y,e,λi c Bb s=>?_,a4,rfl,rfl⟩;have A:i<ts'.length:=by
     have:∃ x,(Sg ts' a).na[i]?=some x:=by cases s<;>exact ⟨_,by assumption⟩
     obtain ⟨x,O⟩:=this;have:=(List.getElem?_eq_some_iff.1 O).1;simpa [Sg] using this
    have P:ts'=ts'.take i++ts'[i]::ts'.drop (i+1):=by simp
    obtain ⟨gc,qb,ua,-⟩:=JK (p:=p) (U:=U) (e.j _ (List.getElem_mem A)) e.Ya;rw [a4 _ (List.getElem_mem A)] at qb;cases qb;have ma:i=((ts'.take i).map we).length:=by simp;omega
    rw [P,kB] at s;have B:=ua rfl ((ts'.take i).map we) ((ts'.drop (i+1)).map we) c Bb;rw [<- ma] at B;exact B s
end
end
section
open Go.Mc Go.Kf
def Mk (d:va):Bool:=decide (d.Kind=1)
def Fh (d:va):Bool:=decide (d.Kind=4)
structure mv (l:List va) (u:Un):Prop where
 D:∀ d ∈ l,Oa u.D d.Name=some d
 Do:∀ n d,Oa u.D n=some d->d ∈ l/\d.Name=n
 bs:u.bs=(l.filter Mk).map λd=>⟨d.cg,[]⟩
 na:u.na=(l.filter Fh).map ll
 O:∀ (j:Nat) d,(l.filter Mk)[j]?=some d->Oa u.O d.Name=some (j:Int)
 ts:∀ n i,Oa u.O n=some i->∃ (j:Nat) (d:va),i=(j:Int)/\(l.filter Mk)[j]?=some d/\d.Name=n
theorem mv.snoc {l:List va}{u:Un}(h:mv l u){d:va}(k:∀ e ∈ l,e.Name≠d.Name):mv (l++[d]) (Wh u d):=by
 have m:(Wh u d).D=kd u.D d.Name d:=by unfold Wh Mt Lt;split<;>split<;>rfl
 have o:(Wh u d).O=if d.Kind=1 then kd u.O d.Name (u.bs.length:Int) else u.O:=by unfold Wh Mt Lt;split<;>split<;>rfl
 have hB:(Wh u d).bs=if d.Kind=1 then u.bs++[⟨d.cg,[]⟩] else u.bs:=by unfold Wh Mt Lt;split<;>split<;>rfl
 have r:(Wh u d).na=if d.Kind=4 then u.na++[ll d] else u.na:=by unfold Wh Mt Lt;split<;>split<;>rfl
 have g:(l++[d]).filter Mk=l.filter Mk++if d.Kind=1 then [d] else []:=by
  rw [List.filter_append];congr 1;by_cases c:d.Kind=1<;>simp [Mk,c]
 have s:(l++[d]).filter Fh=l.filter Fh++if d.Kind=4 then [d] else []:=by
  rw [List.filter_append];congr 1;by_cases c:d.Kind=4<;>simp [Fh,c]
 have p:u.bs.length=(l.filter Mk).length:=by rw [h.bs,List.length_map]
 refine ⟨λe f=>?_,λn e f=>?_,?_,?_,λj e f=>?_,λn i f=>?_⟩
 ·rw [m,sk];rcases List.mem_append.1 f with f | f
  ·rw [if_neg (k e f).symm];exact h.D e f
  ·rw [List.mem_singleton.1 f,if_pos rfl]
 ·rw [m,sk] at f;split at f
  ·rename_i q;cases f;exact ⟨by simp,q⟩
  ·obtain ⟨a,b⟩:=h.Do n e f;exact ⟨by simp [a],b⟩
 ·rw [hB,g];split<;>simp [h.bs]
 ·rw [r,s];split<;>simp [h.na]
 ·rw [g] at f;rw [o];by_cases c:d.Kind=1
  ·rw [if_pos c] at f ⊢;rw [sk];by_cases t:j<(l.filter Mk).length
   ·rw [List.getElem?_append_left t] at f;rw [if_neg (k e (List.mem_filter.1 (List.mem_of_getElem? f)).1).symm];exact h.O j e f
   ·rw [List.getElem?_append_right (by omega)] at f;have v:j=(l.filter Mk).length:=by have:=(List.getElem?_eq_some_iff.1 f).1;simp at this;omega
    subst v;simp at f;subst f;rw [if_pos rfl,p]
  ·rw [if_neg c] at f ⊢;rw [List.append_nil] at f;exact h.O j e f
 ·rw [o] at f;rw [g];by_cases c:d.Kind=1
  ·rw [if_pos c] at f ⊢;rw [sk] at f;split at f
   ·rename_i q;cases f;exact ⟨_,d,rfl,by rw [p];simp,q⟩
   ·obtain ⟨j,e,ua,w,x⟩:=h.ts n i f;exact ⟨j,e,ua,Ul w,x⟩
  ·rw [if_neg c] at f ⊢;rw [List.append_nil];exact h.ts n i f
theorem lJ:∀ (xs pre:List va) (u:Un),mv pre u->(pre++xs).Pairwise (λa b=>a.Name≠b.Name)->mv (pre++xs) (xs.foldl Wh u)
 | [],pre,u,h,_=>by simpa using h
 | d::xs,pre,u,h,c=>by
  have f:∀ e ∈ pre,e.Name≠d.Name:=λe g=>(List.pairwise_append.1 c).2.2 e g d (by simp);have:=lJ xs (pre++[d]) (Wh u d) (h.snoc f) (by simpa using c);simpa using this
theorem uS {l:List va}(c:l.Pairwise λa b=>a.Name≠b.Name):mv l (Mf l):=
 lJ l [] ⟨[],[],[],[]⟩ ⟨λd h=>(by cases h),λn d h=>(by cases h),rfl,rfl,λj d h=>(by simp at h),λn i h=>(by cases h)⟩ c
def eH (N:List (Nm×va)) (t:va):Ng:=⟨λn=>∃ d,xq N t d/\n ∈ Hj d,λn=>∃ d,xq N t d/\n ∈ Uq d,λn=>∃ d,xq N t d/\n ∈ Vq d⟩
def al (N:List (Nm×va)) (na:List va) (i:Nat):Ng:=match na[i]? with
 | some t=>eH N t
 | none=>⟨λ_=>False,λ_=>False,λ_=>False⟩
theorem dp {α β:Type}{f:α->List β}{l:List α}{a:α}{b:β}(c:a ∈ l) (d:b ∈ f a):b ∈ (l.map f).flatten:=by
 simp only [List.mem_flatten,List.mem_map];exact ⟨f a,⟨a,c,rfl⟩,d⟩
theorem kL {U:Ng}:∀ (k:Nat) (x:Na),iz k x->(∀ n ∈ Pk k x,U.c n)->(∀ n ∈ Ll k x,U.r n)->qz U x
 | 0,x,h,_,_=>h.elim
 | k+1,x,h,a,b=>by
  rw [Pk] at a;rw [Ll] at b;refine .mk (λe=>a _ ?_) (λe=>b _ ?_) λy d=>kL k y (h.2.2.2.2.2.2 y d) (λn f=>a n<|List.mem_append_right _<|dp d f) λn f=>b n (List.mem_append_right _<|dp d f)
  ·rw [if_pos e];simp
  ·rw [if_pos e];simp
theorem yG {U:Ng}:∀ (k:Nat) (x:Ra),rv k x->(∀ n ∈ zj k x,U.c n)->(∀ n ∈ Yj k x,U.s n)->(∀ n ∈ Xj k x,U.r n)->rz U x
 | 0,x,h,_,_,_=>h.elim
 | k+1,x,h,d,f,g=>by
  rw [zj] at d;rw [Yj] at f;rw [Xj] at g;refine .mk (λe=>f _ ?_) (λe=>kL k _ (h.2.2.1 e) (λn a=>d n ?_)<|λn a=>g n ?_) (λe y b=>yG k y ((h.2.2.2.2.1 e).2 y b) (λn a=>d n ?_) (λn a=>f n ?_)<|λn a=>g n ?_)<|λe y b=>yG k y ((h.2.2.2.2.2 e).2 y b) (λn a=>d n ?_) (λn a=>f n ?_)<|λn a=>g n ?_
  ·rw [if_pos e];simp
  ·rw [if_neg e];simp [a]
  ·rw [if_neg e];simp [a]
  ·refine List.mem_append_left _<|List.mem_append_right _ ?_;rw [if_pos e];exact dp b a
  ·refine List.mem_append_left _<|List.mem_append_right _ ?_;rw [if_pos e];exact dp b a
  ·refine List.mem_append_left _<|List.mem_append_right _ ?_;rw [if_pos e];exact dp b a
  ·refine List.mem_append_right _ ?_;rw [if_pos e];exact dp b a
  ·refine List.mem_append_right _ ?_;rw [if_pos e];exact dp b a
  ·refine List.mem_append_right _ ?_;rw [if_pos e];exact dp b a
structure lh (p:mb) (l:List va) (fu:Nat):Prop where
 R:Bo p l
 F:∀ d ∈ l,ou d
 T:∀ d ∈ l,d.Kind≠1->∃ a,ik p d ([if d.Kind=4 then [] else bu d]++[[]]) d.Body a
 OW:500<=fu
 VW:(Lr (Wk p.named fu l []) l l 0 []).2.De=0
theorem KQ {fu:Nat}(e:500<=fu){l:List va}{f:Nd}(h:xm fu l=some f) (i:f.De=0):∃ p,lh p l fu:=by
 obtain ⟨p,g,j,k⟩:=tH fu e l;rw [xm] at h;obtain ⟨r,d,h⟩:=td h;obtain rfl:=Option.some.inj h;rcases k with ⟨a,b⟩ | ⟨a,b,c⟩
 ·rw [b] at d;cases d;exact absurd i a
 ·rw [c] at d;cases d;obtain ⟨m,n⟩:=AQ e j a;exact ⟨p,b,m,n,e,i⟩
theorem vS {fu:Nat}(d:500<=fu) (l:List va):∃ f,xm fu l=some f:=by
 obtain ⟨p,g,h,e⟩:=tH fu d l;rw [xm];rcases e with ⟨a,b⟩ | ⟨a,b,c⟩
 ·rw [b];exact ⟨_,rfl⟩
 ·rw [c];exact ⟨_,rfl⟩
section
variable {p:mb}{l:List va}{fu:Nat}
theorem lh.set (h:lh p l fu):mv l (Mf l):=uS h.R.nd
theorem lh.So (h:lh p l fu) (n:Nm):Oa (Mf l).env.defs n=Oa p.named n:=by
 show Oa (Mf l).D n=_;cases e:Oa p.named n with
 | some d =>
  obtain ⟨a,rfl⟩:=h.R.only _ _ e;exact h.set.D d a
 | none =>
  cases b:Oa (Mf l).D n with
  | none=>rfl
  | some d =>
   obtain ⟨a,rfl⟩:=h.set.Do _ _ b;rw [h.R.bc d a] at e;cases e
theorem lh.kx (h:lh p l fu){N:List (Nm×va)}{t f:va}(e:f ∈ l) (k1:f.Kind≠1) (c:xq N t f):xj (eH N t) f.Body:=by
 have d:=((h.F f e).vx k1).2;exact ⟨⟨39,d⟩,λy b=>yG 39 y (d y b) (λn a=>⟨f,c,dp b a⟩) (λn a=>⟨f,c,dp b a⟩) λn a=>⟨f,c,dp b a⟩⟩
theorem lh.PW (h:lh p l fu) (i:Nat):yn p (al p.named (l.filter Fh) i) (Mf l).env where
 Ea n f e:=h.R.Ea f (h.R.only n f e).1
 Ih n f hu e k1:=by
  unfold al at hu ⊢;split at hu
  ·obtain ⟨d,Ea,b⟩:=hu;exact h.kx (h.R.only n f e).1 k1 (.step Ea b e)
  ·exact hu.elim
 ty n f e k1:=h.T f (h.R.only n f e).1 k1
 So n:=h.So n
 Ff n f e k1:=by
  obtain ⟨a,rfl⟩:=h.R.only n f e;obtain ⟨j,c⟩:=List.mem_iff_getElem?.1 (List.mem_filter.2 ⟨a,by simp [Mk,k1]⟩:f ∈ l.filter Mk);exact ⟨j,h.set.O j f c⟩
theorem lB {α:Type}{R:α->α->Prop}{l:List α}(h:l.Pairwise R){i j:Nat}{a b:α}(c:l[i]?=some a) (d:l[j]?=some b) (e:i<j):R a b:=by
 obtain ⟨f,rfl⟩:=List.getElem?_eq_some_iff.1 c;obtain ⟨g,rfl⟩:=List.getElem?_eq_some_iff.1 d;exact List.pairwise_iff_getElem.1 h i j f g e
theorem lh.snd (h:lh p l fu){t:va}(b:t ∈ l) (pf:t.Kind=4){d:va}(f:xq p.named t d){n:Nm}:(n ∈ Uq d->cu (Wk p.named fu l []) n t)/\(n ∈ Vq d->du (Wk p.named fu l []) n t):=by
 obtain ⟨-,u,hu,-⟩:=SJ h.R fu h.OW t b (by omega);have c:=BQ hu f;have e:=ME p.named fu pf l [] h.R.nd b;rw [hu] at e;refine ⟨λa=>⟨pf,?_⟩,λa=>⟨pf,?_⟩⟩
 ·rw [e];simpa using c.1 n a
 ·rw [e];simpa using c.2 n a
theorem lh.one (h:lh p l fu){n:Nm}{b:Int}(e:Oa (Mf l).env.order n=some b):(l.Pairwise λa c=>¬ (cu (Wk p.named fu l []) n a/\cu (Wk p.named fu l []) n c))/\l.Pairwise λa c=>¬ (du (Wk p.named fu l []) n a/\du (Wk p.named fu l []) n c):=by
 obtain ⟨j,d,rfl,Ea,rfl⟩:=h.set.ts n b e;obtain ⟨f,k1⟩:=List.mem_filter.1 (List.mem_of_getElem? Ea);obtain ⟨y,g⟩:=PE _ l l 0 [] h.VW d f (by simpa [Mk] using k1);obtain ⟨⟨-,ob⟩,-,Eb⟩:=OE _ d.Name l [] [] y (λt i=>(h.F t i).bc.Rq) g;exact ⟨ob,Eb⟩
theorem lh.names (h:lh p l fu):zq p (Mf l).env (al p.named (l.filter Fh)) where
 ok:=h.PW
 ord:=⟨λn m i ua D=>by
   obtain ⟨j,d,rfl,Ea,rfl⟩:=h.set.ts n i ua;obtain ⟨E,F,e,C,rfl⟩:=h.set.ts m _ D;obtain rfl:j=E:=by omega
   rw [Ea] at C;cases C;rfl,λn i e=>by
   obtain ⟨j,d,rfl,-,-⟩:=h.set.ts n i e;omega,λn f e k1=>(h.R.Ea f (h.R.only n f e).1).ty (by omega)⟩
 s n i j k g y:=by
  obtain ⟨b,k⟩:=k;have o:=(h.one k).1.sublist (List.filter_sublist (p:=Fh));have key:∀ i,(al p.named (l.filter Fh) i).s n->∃ t,(l.filter Fh)[i]?=some t/\cu (Wk p.named fu l []) n t:=λi g=>by
   unfold al at g;split at g
   ·rename_i t u;obtain ⟨d,Ea,z⟩:=g;obtain ⟨A,B⟩:=List.mem_filter.1 (List.mem_of_getElem? u);exact ⟨t,u,(h.snd A (by simpa [Fh] using B) Ea).1 z⟩
   ·exact g.elim
  obtain ⟨a,v,w⟩:=key i g;obtain ⟨c,x,Tc⟩:=key j y;rcases Nat.lt_trichotomy i j with q | q | q
  ·exact absurd ⟨w,Tc⟩<|lB o v x q
  ·exact q
  ·exact absurd ⟨Tc,w⟩<|lB o x v q
 r n i j k g y:=by
  obtain ⟨b,k⟩:=k;have o:=(h.one k).2.sublist (List.filter_sublist (p:=Fh));have key:∀ i,(al p.named (l.filter Fh) i).r n->∃ t,(l.filter Fh)[i]?=some t/\du (Wk p.named fu l []) n t:=λi g=>by
   unfold al at g;split at g
   ·rename_i t u;obtain ⟨d,Ea,z⟩:=g;obtain ⟨A,B⟩:=List.mem_filter.1 (List.mem_of_getElem? u);exact ⟨t,u,(h.snd A (by simpa [Fh] using B) Ea).2 z⟩
   ·exact g.elim
  obtain ⟨a,v,w⟩:=key i g;obtain ⟨c,x,Tc⟩:=key j y;rcases Nat.lt_trichotomy i j with q | q | q
  ·exact absurd ⟨w,Tc⟩<|lB o v x q
  ·exact q
  ·exact absurd ⟨Tc,w⟩<|lB o x v q
def Ci (l:List va):List Nat:=(l.filter Mk).map λd=>d.cg.toNat
theorem OI {α:Type}(f:α->Nat) (k:Nat):∀ (l:List α),(∀ x ∈ l,f x=k)->(l.map f).sum=k*l.length
 | [],_=>by simp
 | x::l,h=>by
  rw [List.map_cons,List.sum_cons,OI f k l λy a=>h y (by simp [a]),h x (by simp),List.length_cons,Nat.mul_succ];omega
theorem LQ (d:va):we (ll d)=(⟨[],[⟨d,none,false,false,false,none,none,none⟩],0,[]⟩,.run (.vd (.cj d))):=rfl
theorem lh.inv (h:lh p l fu):Inv p (Mf l).env (al p.named (l.filter Fh)) (Ci l) 600180 (Mf l).na (Mf l).bs 0:=by
 have k:=h.set.na;have m:=h.set.bs;have H:(l.filter Fh).length<=30:=Nat.le_trans (List.length_filter_le _ _) h.R.ok.le;have z:Zb (Sg (Mf l).na (Mf l).bs)=6*(l.filter Fh).length:=by
  unfold Zb Sg;rw [k];simp only [List.map_map];exact OI _ 6 _ λd _=>rfl
 have A:Pp (Sg (Mf l).na (Mf l).bs) 0<=600180:=by unfold Pp;rw [z];omega
 refine ⟨⟨λi x B=>?_,λb w C v Pa=>?_⟩,⟨?_,λb q=>?_,λn i e=>?_⟩,λt f=>?_,by omega,A,λt f=>?_⟩
 ·have r:((Mf l).na.map we)[i]?=some x:=B;rw [k,List.map_map,List.getElem?_map] at r;obtain ⟨d,Ea,rfl⟩:=Option.map_eq_some_iff.1 r;obtain ⟨o,m2⟩:=List.mem_filter.1 (List.mem_of_getElem? Ea);have pf:d.Kind=4:=by simpa [Fh] using m2
  have D:al p.named (l.filter Fh) i=eH p.named d:=by unfold al;rw [Ea]
  show Gl p (al p.named (l.filter Fh) i) (we (ll d));rw [D,LQ];intro c a;cases a;obtain ⟨E,Ye⟩:=h.T d o (by omega);rw [if_pos pf] at Ye;have s:∀ (g:Nat) (c:Qg),([⟨d,none,false,false,false,none,none,none⟩]:List Qg)[g]?=some c->g=0/\c=⟨d,none,false,false,false,none,none,none⟩:=λg c a=>by
   cases g with
   | zero=>simp at a; exact ⟨rfl,a.symm⟩
   | succ g=>simp at a
  refine ⟨⟨[d],[]⟩,[],⟨⟨rfl,λi c a=>by simp at a⟩,rfl,λg c a=>?_,by simp,by simp,.main,List.nodup_nil,λg c a G=>?_,λK u=>?_⟩,rfl,pf,h.kx o (by omega) .refl,E,Ye⟩
  ·obtain ⟨rfl,rfl⟩:=s g c a;exact ⟨rfl,λe=>by omega,λe=>by omega,λe=>by omega,λe=>by omega,λ_=>⟨rfl,rfl⟩⟩
  ·obtain ⟨rfl,rfl⟩:=s g c a;cases G
  ·simp at u;subst u;omega
 ·have y:((Mf l).bs.map ed.words)[b]?=some w:=C;rw [m,List.map_map,List.getElem?_map] at y;obtain ⟨d,-,rfl⟩:=Option.map_eq_some_iff.1 y;cases Pa
 ·rw [m,List.map_map];rfl
 ·rw [m] at q;obtain ⟨d,Ea,rfl⟩:=List.mem_map.1 q;obtain ⟨o,m2⟩:=List.mem_filter.1 Ea;have:=(h.F d o).yj (by simpa [Mk] using m2);exact ⟨by show 0<=d.cg;omega,by show d.cg<=100;omega,by show ((0:Nat):Int)<=d.cg;omega⟩
 ·obtain ⟨j,d,rfl,Ea,-⟩:=h.set.ts n i e;rw [m,List.length_map];have:=(List.getElem?_eq_some_iff.1 Ea).1;omega
 ·rw [k] at f;obtain ⟨d,-,rfl⟩:=List.mem_map.1 f;exact .inl ⟨rfl,rfl,rfl,d,rfl⟩
 ·rw [k] at f;obtain ⟨d,-,rfl⟩:=List.mem_map.1 f;show 0+_<=_;omega
def uh (l:List va):Qe ig:=⟨(l.filter Fh).map λd=>we (ll d),(l.filter Mk).map λ_=>[]⟩
theorem lh.zd (h:lh p l fu):Sg (Mf l).na (Mf l).bs=uh l:=by
 unfold Sg uh;rw [h.set.na,h.set.bs,List.map_map,List.map_map];rfl
theorem lh.tW (h:lh p l fu){n:Nat}(q:600200<=n):∃ r,sK n l=some r/\match r with
  | none=>∃ k d Bb,qf (tf (Mf l).env) (Ci l) (uh l) k d Bb/\20000<d
  | some (ts',c,f)=>∃ k d,qf (tf (Mf l).env) (Ci l) (uh l) k d (Sg ts' c)/\f=(d:Int)/\Inv p (Mf l).env (al p.named (l.filter Fh)) (Ci l) 600180 ts' c d/\Mr (tf (Mf l).env) (Ci l) (Sg ts' c)/\(∀ t ∈ ts',nq t c=some false)/\ts'.length=(l.filter Fh).length/\c.length=(l.filter Mk).length:=by
 have g:=h.inv;obtain ⟨r,m,e⟩:=tI (cap:=Ci l) h.names (n:=n) (by omega) (by omega) 600190 n _ _ 0 g (by have:=g.jM;omega) (by omega);refine ⟨r,m,?_⟩;rw [h.zd] at e;cases r with
 | none =>
  obtain ⟨k,d,Bb,a,b⟩:=e;exact ⟨k,d,Bb,a,by omega⟩
 | some r =>
  obtain ⟨ts',c,f⟩:=r;obtain ⟨k,d,oa,i,j,o,a5,zb,Cb⟩:=e;rw [Nat.zero_add] at i j;rw [h.set.na,List.length_map] at zb;rw [h.set.bs,List.length_map] at Cb;exact ⟨k,d,oa,i,j,o,a5,zb,Cb⟩
end
end
section
open Go.Mc Go.Kf
structure Jq (p:mb) (l:List va) (na:List Ad) (bs:List ed) (k d:Nat):Prop where
 run:qf (tf (Mf l).env) (Ci l) (uh l) k d (Sg na bs)
 inv:Inv p (Mf l).env (al p.named (l.filter Fh)) (Ci l) 600180 na bs d
 fin:Mr (tf (Mf l).env) (Ci l) (Sg na bs)
 can:∀ t ∈ na,nq t bs=some false
 Ye:na.length=(l.filter Fh).length
 Jd:bs.length=(l.filter Mk).length
def Ii (na:List Ad) (bs:List ed) (d:Nat):gi:=⟨na.map vh,bs.map ed.words,(d:Int)⟩
theorem yw {fu:Nat}(i:600200<=fu) (l:List va):∃ f,xm fu l=some f/\(f.De≠0->Kn fu l=some (⟨[],[],0⟩,f)) /\
  (f.De=0->∃ p,lh p l fu/\((Kn fu l=some (⟨[],[],0⟩,⟨10,0⟩)/\∃ k d Bb,qf (tf (Mf l).env) (Ci l) (uh l) k d Bb/\20000<d)\/∃ na bs k d,Kn fu l=some (Ii na bs d,⟨0,0⟩)/\Jq p l na bs k d)):=by
 obtain ⟨f,a⟩:=vS (fu:=fu) (by omega) l;refine ⟨f,a,λb=>?_,λb=>?_⟩
 ·unfold Kn;rw [a];simp only [Option.bind_some];rw [if_pos b]
 ·obtain ⟨p,P⟩:=KQ (by omega) a b;refine ⟨p,P,?_⟩;obtain ⟨r,j,g⟩:=P.tW i;have ma:l.length<=30:=P.R.ok.le;have e:Kn fu l=RD r:=by
   unfold Kn;rw [a];simp only [Option.bind_some];rw [if_neg (by simpa using b),if_pos (by omega),j];rfl
  cases r with
  | none=>exact .inl ⟨e,g⟩
  | some r =>
   obtain ⟨na,bs,nd⟩:=r;obtain ⟨k,d,oa,rfl,h,m,a5,zb,Cb⟩:=g;refine .inr ⟨na,bs,k,d,?_,oa,h,m,a5,zb,Cb⟩;rw [e];show (if _ then _ else _)=_;have o:(l.filter Fh).length<=30:=Nat.le_trans (List.length_filter_le _ _) ma;have q:(l.filter Mk).length<=30:=Nat.le_trans (List.length_filter_le _ _) ma;rw [if_pos ⟨by omega,by omega,List.all_eq_true.2 λc n=>by have:=h.Ya.le c n;simp;omega⟩];rfl
section
variable {p:mb}{l:List va}{na:List Ad}{bs:List ed}{k d:Nat}
end
end
section
open Go.Mc Go.Kf
def Dn (x a:Na):Prop:=a=x\/∃ k,lH k x a
def Zj (x a:Ra):Prop:=a=x\/∃ k,mH k x a
def Ji {α:Type}(R:α->α->Prop) (l Ba:List α):Prop:=Ba.length=l.length/\∀ (i:Nat) (y a:α),l[i]?=some y->Ba[i]?=some a->R y a
theorem Ji.Rt {α:Type}{R:α->α->Prop}(h:∀ a,R a a){l:List α}:Ji R l l:=⟨Eq.refl _,λi y c a b=>by rw [a] at b;cases b;exact h y⟩
theorem Ji.get {α:Type}{R:α->α->Prop}{l Ba:List α}(h:Ji R l Ba){i:Nat}{y:α}(e:l[i]?=some y):∃ a,Ba[i]?=some a/\R y a:=by
 have ma:=(List.getElem?_eq_some_iff.1 e).1;have b:Ba[i]?=some (Ba[i]'(by rw [h.1];exact ma)):=List.getElem?_eq_getElem _;exact ⟨_,b,h.2 i _ _ e b⟩
theorem Ji.cons {α:Type}{R:α->α->Prop}{x:α}{l Ba:List α}(h:Ji R (x::l) Ba):∃ y m,Ba=y::m/\R x y/\Ji R l m:=by
 cases Ba with
 | nil=>have:=h.1; simp at this
 | cons y m=>exact ⟨y,m,rfl,h.2 0 _ _ rfl rfl,by have:=h.1; simpa using this,λi a b c d=>h.2 (i+1) a b (by simpa using c) (by simpa using d)⟩
theorem Ji.zG {α:Type}{R S:α->α->Prop}{l Ba:List α}(h:FC R l Ba) (d:∀ a b,R a b->S a b):Ji S l Ba:=⟨h.1,λi y e a b=>by
 obtain ⟨z,c,z2⟩:=h.2 i y a;rw [b] at c;cases c;exact d _ _ z2⟩
theorem Ji.app {α:Type}{R:α->α->Prop}{l Ba:List α}{a b:α}(h:Ji R l Ba) (f:R a b):Ji R (l++[a]) (Ba++[b]):=by
 refine ⟨by simp [h.1],λi y g e c=>?_⟩;by_cases d:i<l.length
 ·rw [List.getElem?_append_left d] at e;rw [List.getElem?_append_left (by rw [h.1];exact d)] at c;exact h.2 i _ _ e c
 ·rw [List.getElem?_append_right (by omega)] at e;rw [List.getElem?_append_right (by rw [h.1];omega),h.1] at c;generalize i - l.length=j at e c;cases j with
  | zero=>simp at e c; subst e c; exact f
  | succ j=>simp at e
theorem Ji.set {α:Type}{R:α->α->Prop}{l Ba:List α}{a b:α}{j:Nat}(h:Ji R l Ba) (f:R a b):Ji R (l.set j a) (Ba.set j b):=by
 refine ⟨by simp [h.1],λi y g e d=>?_⟩;rw [List.getElem?_set] at e d;by_cases c:j=i
 ·rw [if_pos c] at e d;split at e
  ·split at d
   ·cases e;cases d;exact f
   ·cases d
  ·cases e
 ·rw [if_neg c] at e d;exact h.2 i _ _ e d
theorem Dn.kind {x a:Na}(h:Dn x a):a.Kind=x.Kind:=by
 rcases h with rfl | ⟨k,h⟩
 ·rfl
 ·cases k with
  | zero=>exact h.elim
  | succ k=>exact h.1
theorem Dn.n {x a:Na}(h:Dn x a) (b:x.Kind=1\/x.Kind=2):a.N=x.N:=by
 rcases h with rfl | ⟨k,h⟩
 ·rfl
 ·cases k with
  | zero=>exact h.elim
  | succ k=>exact h.2.1 b
theorem Dn.name {x a:Na}(h:Dn x a) (b:x.Kind=3\/x.Kind=20\/x.Kind=19\/x.Kind=22):a.Name=x.Name:=by
 rcases h with rfl | ⟨k,h⟩
 ·rfl
 ·cases k with
  | zero=>exact h.elim
  | succ k=>exact h.2.2.1 b
theorem Dn.kids {x c:Na}(h:Dn x c):Ji Dn x.Kids c.Kids:=by
 rcases h with rfl | ⟨k,h⟩
 ·exact .Rt λa=>.inl rfl
 ·cases k with
  | zero=>exact h.elim
  | succ k=>exact .zG h.2.2.2 λa b q=>.inr ⟨k,q⟩
theorem Zj.kind {x a:Ra}(h:Zj x a):a.Kind=x.Kind:=by
 rcases h with rfl | ⟨k,h⟩
 ·rfl
 ·cases k with
  | zero=>exact h.elim
  | succ k=>exact h.1
theorem Zj.name {x a:Ra}(h:Zj x a) (b:x.Kind=1\/x.Kind=2\/x.Kind=7):a.Name=x.Name:=by
 rcases h with rfl | ⟨k,h⟩
 ·rfl
 ·cases k with
  | zero=>exact h.elim
  | succ k=>exact h.2.1 b
theorem Zj.x {x a:Ra}(h:Zj x a) (b:x.Kind≠6):Dn x.X a.X:=by
 rcases h with rfl | ⟨k,h⟩
 ·exact .inl rfl
 ·cases k with
  | zero=>exact h.elim
  | succ k=>exact .inr ⟨k,h.2.2.1 b⟩
theorem Zj.body {x c:Ra}(h:Zj x c) (d:x.Kind=3\/x.Kind=4):Ji Zj x.Body c.Body:=by
 rcases h with rfl | ⟨k,h⟩
 ·exact .Rt λa=>.inl rfl
 ·cases k with
  | zero=>exact h.elim
  | succ k=>exact .zG (h.2.2.2.1 d) λa b q=>.inr ⟨k,q⟩
theorem Zj.dH {x c:Ra}(h:Zj x c) (d:x.Kind=3):Ji Zj x.sf c.sf:=by
 rcases h with rfl | ⟨k,h⟩
 ·exact .Rt λa=>.inl rfl
 ·cases k with
  | zero=>exact h.elim
  | succ k=>exact .zG (h.2.2.2.2 d) λa b q=>.inr ⟨k,q⟩
def vC (d a:va):Prop:=a.Params.map TParam.Name=d.Params.map TParam.Name/\Ji Zj d.Body a.Body
theorem vC.Rt {d:va}:vC d d:=⟨Eq.refl _,.Rt λa=>.inl (Eq.refl _)⟩
theorem JD:∀ (Hg a:List TParam) (vs:List Int) (S:List ki) (s:Option Nat),a.map TParam.Name=Hg.map TParam.Name->Kj a vs S s=Kj Hg vs S s
 | [],[],vs,S,s,h=>rfl
 | [],q::a,vs,S,s,h=>by simp at h
 | q::Hg,[],vs,S,s,h=>by simp at h
 | q::Hg,pk::a,[],S,s,h=>by rw [Kj,Kj]
 | q::Hg,pk::a,v::vs,S,s,h=>by
  simp only [List.map_cons,List.cons.injEq] at h;rw [Kj,Kj,h.1];exact JD Hg a vs _ _ h.2
mutual
def Xq:cf->cf->Prop
 | .all l s Hd k,q=>∃ Ba k',q=.all Ba s Hd k'/\Ji Dn l Ba/\nH k k'
 | .stat l s e k,q=>∃ Ba a k',q=.stat Ba s a k'/\Ji Zj l Ba/\dx e a/\Yq k k'
 | .lf x s e k,q=>∃ b a k',q=.lf b s a k'/\Zj x b/\x.Kind=4/\dx e a/\Yq k k'
termination_by structural x=>x
def nH:fl->fl->Prop
 | .ex x k,q=>∃ a k',q=.ex a k'/\Dn x a/\Xq k k'
termination_by structural x=>x
def Yq:je->je->Prop
 | .zero k,q=>∃ k',q=.zero k'/\Xq k k'
 | .recv n k,q=>∃ k',q=.recv n k'/\Xq k k'
 | .send n v k,q=>∃ k',q=.send n v k'/\Yq k k'
 | .done g,q=>q=.done g
 | .stats l s e k,q=>∃ Ba a k',q=.stats Ba s a k'/\Ji Zj l Ba/\dx e a/\Yq k k'
 | .lf x s e k,q=>∃ b a k',q=.lf b s a k'/\Zj x b/\x.Kind=4/\dx e a/\Yq k k'
 | .fin,q=>q=.fin
 | .cj d,q=>∃ c,q=.cj c/\Ji Zj d.Body c.Body
termination_by structural x=>x
def dx:kh->kh->Prop
 | .ret k,q=>∃ k',q=.ret k'/\Xq k k'
 | .stop k,q=>∃ k',q=.stop k'/\Yq k k'
termination_by structural x=>x
end
def IC (o a:Option cf):Prop:=(o=none/\a=none)\/∃ k k',o=some k/\a=some k'/\Xq k k'
theorem IC.some {o c:Option cf}(h:IC o c){k:cf}(e:o=.some k):∃ k',c=.some k'/\Xq k k':=by
 rcases h with ⟨a,b⟩ | ⟨a,b,d,f,g⟩
 ·rw [e] at a;cases a
 ·rw [e] at d;cases d;exact ⟨b,f,g⟩
structure kM (c c':Qg):Prop where
 d:Ji Zj c.Lm.Body c'.Lm.Body
 args:c'.args=c.args
 begun:c'.begun=c.begun
 going:c'.going=c.going
 ended:c'.ended=c.ended
 up:c'.up=c.up
 back:IC c.back c'.back
 uk:IC c.uk c'.uk
structure wv (z a:Core):Prop where
 fe:a.fe=z.fe
 now:a.now=z.now
 out:a.out=z.out
 Db:Ji kM z.Db a.Db
def Zr:ih->ih->Prop
 | .expr x s k,q=>∃ a k',q=.expr a s k'/\Dn x a/\Xq k k'
 | .all l s Hd k,q=>∃ Ba k',q=.all Ba s Hd k'/\Ji Dn l Ba/\nH k k'
 | .stats l s e k,q=>∃ Ba b k',q=.stats Ba s b k'/\Ji Zj l Ba/\dx e b/\Yq k k'
 | .lf x s e k,q=>∃ a b k',q=.lf a s b k'/\Zj x a/\x.Kind=4/\dx e b/\Yq k k'
 | .df k v,q=>∃ k',q=.df k' v/\Xq k k'
 | .Hd k l,q=>∃ k',q=.Hd k' l/\nH k k'
 | .vd k,q=>∃ k',q=.vd k'/\Yq k k'
 | .recv n k,q=>∃ k',q=.recv n k'/\Xq k k'
 | .send n v k,q=>∃ k',q=.send n v k'/\Yq k k'
 | .resume g v k,q=>∃ k',q=.resume g v k'/\Xq k k'
def tz:rm->rm->Prop
 | .run c,q=>∃ c',q=.run c'/\Zr c c'
 | .done,q=>q=.done
 | .qe n,q=>q=.qe n
theorem wv.put {z a:Core}(h:wv z a){g n:Nat}{c c':Qg}(b:kM c c'):wv { z with Db:=z.Db.set g c,now:=n } { a with Db:=a.Db.set g c',now:=n }:=⟨h.fe,rfl,h.out,h.Db.set b⟩
theorem Xe.fx {E E':Ud}{c c':ih}{z p x:Core}{n:Nat}{q:rm}(t:Xe E c z n x q) (b:wv z p) (j:Zr c c')
  (Ea:∀ y k l,c=.Hd (.ex y k) l->y.Kind=19\/y.Kind=22->∀ d,Oa E.defs y.Name=some d->∃ M,Oa E'.defs y.Name=some M/\vC d M) :
  ∃ C pk,Xe E' c' p n C pk/\wv x C/\tz q pk:=by
 have G:=b.fe;have ma:=b.Db.1;cases t with
 | jz h=>obtain ⟨C,k',rfl,a,f⟩:=j; exact ⟨p,_,.jz (by rw [a.kind]; exact h),b,_,rfl,k',by rw [a.n h],f⟩
 | var h i u=>obtain ⟨C,k',rfl,a,f⟩:=j; exact ⟨p,_,.var (by rw [a.kind]; exact h) (by rw [G,a.name (.inl h)]; exact i) (by rw [G]; exact u),b,_,rfl,k',rfl,f⟩
 | tC h=>obtain ⟨C,k',rfl,a,f⟩:=j; exact ⟨p,_,.tC (by rw [a.kind]; exact h),b,_,rfl,k',by rw [a.name (.inr (.inl h))],f⟩
 | uC L i u A=>obtain ⟨C,k',rfl,a,f⟩:=j; exact ⟨p,_,.uC (by rw [a.kind]; exact L) (by rw [a.kind]; exact i) (by rw [a.kind]; exact u) (by rw [a.kind]; exact A),b,_,rfl,_,_,rfl,a.kids,_,_,rfl,a,f⟩
 | TB h i =>
  obtain ⟨Ba,k',rfl,a,f⟩:=j;obtain ⟨Q,ua,H⟩:=a.get i;exact ⟨p,_,.TB (by rw [a.1];exact h) ua,b,_,rfl,_,_,rfl,H,_,_,rfl,a,f⟩
 | UB h=>obtain ⟨Ba,k',rfl,a,f⟩:=j; exact ⟨p,_,.UB (by rw [a.1]; exact h),b,_,rfl,_,rfl,f⟩
 | nil =>
  obtain ⟨Ba,F,k',rfl,a,r,f⟩:=j;obtain rfl:Ba=[]:=List.length_eq_zero_iff.1 a.1;exact ⟨p,_,.nil,b,_,rfl,_,rfl,f⟩
 | stop h =>
  obtain ⟨Ba,F,k',rfl,a,r,f⟩:=j;obtain ⟨y,m,rfl,w,D⟩:=a.cons;obtain ⟨pk,rfl,N⟩:=r;exact ⟨p,_,.stop (by rw [w.kind];exact h),b,_,rfl,_,rfl,N⟩
 | GC h =>
  obtain ⟨Ba,F,k',rfl,a,r,f⟩:=j;obtain ⟨y,m,rfl,w,D⟩:=a.cons;exact ⟨p,_,.GC (by rw [w.kind];exact h),b,_,rfl,_,_,_,rfl,w,h,r,_,_,_,rfl,D,r,f⟩
 | st L i =>
  obtain ⟨Ba,F,k',rfl,a,r,f⟩:=j;obtain ⟨y,m,rfl,w,D⟩:=a.cons;exact ⟨p,_,.st (by rw [w.kind];exact L) (by rw [w.kind];exact i),b,_,rfl,_,_,rfl,w.x L,_,_,_,rfl,a,r,f⟩
 | lf =>
  obtain ⟨C,F,k',rfl,a,A,r,f⟩:=j;exact ⟨p,_,.lf,b,_,rfl,_,_,rfl,a.x (by omega),_,_,_,rfl,a,A,r,f⟩
 | VB h =>
  obtain ⟨k',rfl,Ba,B,rfl,a,f⟩:=j;exact ⟨p,_,.VB h,b,_,rfl,_,_,rfl,a,f⟩
 | Io h =>
  obtain ⟨k',rfl,Ba,F,B,rfl,a,r,f⟩:=j;obtain ⟨y,m,rfl,w,D⟩:=a.cons;exact ⟨_,_,.Io (by rw [w.kind];exact h),⟨by simp only;rw [G,w.name (.inl h)],b.now,b.out,b.Db⟩,_,rfl,_,rfl,_,_,_,by rw [G],D,r,f⟩
 | sset h i u =>
  obtain ⟨k',rfl,Ba,F,B,rfl,a,r,f⟩:=j;obtain ⟨y,m,rfl,w,D⟩:=a.cons;exact ⟨_,_,.sset (by rw [w.kind];exact h) (by rw [G,w.name (.inr (.inl h))];exact i) (by rw [G];exact u),⟨by simp only;rw [G],b.now,b.out,b.Db⟩,_,rfl,_,rfl,_,_,_,rfl,D,r,f⟩
 | @Hq x l s e k v z h =>
  obtain ⟨k',rfl,Ba,F,B,rfl,a,r,f⟩:=j;obtain ⟨y,m,rfl,w,D⟩:=a.cons;refine ⟨p,_,.Hq (by rw [w.kind];exact h),b,_,rfl,_,_,_,rfl,?_,r,_,_,_,rfl,D,r,f⟩;by_cases Pa:v≠0
  ·rw [if_pos Pa,if_pos Pa];exact w.body<|.inl h
  ·rw [if_neg Pa,if_neg Pa];exact w.dH h
 | vq h =>
  obtain ⟨k',rfl,Ba,F,B,rfl,a,r,f⟩:=j;obtain ⟨y,m,rfl,w,D⟩:=a.cons;obtain ⟨pk,rfl,N⟩:=r;exact ⟨p,_,.vq (by rw [w.kind];exact h),b,_,rfl,_,rfl,N⟩
 | qq h =>
  obtain ⟨k',rfl,Ba,F,B,rfl,a,r,f⟩:=j;obtain ⟨y,m,rfl,w,D⟩:=a.cons;exact ⟨p,_,.qq (by rw [w.kind];exact h),b,_,rfl,_,by rw [w.name (.inr (.inr h))],_,_,_,rfl,D,r,f⟩
 | @wq x l s e k v z o h i =>
  obtain ⟨k',rfl,Ba,F,B,rfl,a,r,f⟩:=j;obtain ⟨y,m,rfl,w,D⟩:=a.cons;exact ⟨{ p with out:=o },_,.wq (by rw [w.kind];exact h) (by rw [b.out];exact i),⟨G,b.now,rfl,b.Db⟩,_,rfl,_,rfl,_,_,_,rfl,D,r,f⟩
 | Iq L i u A K O =>
  obtain ⟨k',rfl,Ba,F,B,rfl,a,r,f⟩:=j;obtain ⟨y,m,rfl,w,D⟩:=a.cons;have e:=w.kind;exact ⟨p,_,.Iq (by rw [e];exact L) (by rw [e];exact i) (by rw [e];exact u) (by rw [e];exact A) (by rw [e];exact K) (by rw [e];exact O),b,_,rfl,_,rfl,_,_,_,rfl,D,r,f⟩
 | WB h =>
  obtain ⟨k',rfl,C,F,B,rfl,a,A,r,f⟩:=j;exact ⟨p,_,.WB h,b,_,rfl,_,rfl,f⟩
 | win h =>
  obtain ⟨k',rfl,C,F,B,rfl,a,A,r,f⟩:=j;exact ⟨p,_,.win h,b,_,rfl,_,_,_,rfl,a.body<|.inr A,r,_,_,_,rfl,a,A,r,f⟩
 | neg h i=>obtain ⟨k',rfl,C,B,rfl,a,f⟩:=j; exact ⟨p,_,.neg (by rw [a.kind]; exact h) i,b,_,rfl,_,rfl,f⟩
 | not h i=>obtain ⟨k',rfl,C,B,rfl,a,f⟩:=j; exact ⟨p,_,.not (by rw [a.kind]; exact h) i,b,_,rfl,_,rfl,f⟩
 | call h i u =>
  obtain ⟨k',rfl,C,B,rfl,a,f⟩:=j;obtain ⟨M,ua,H⟩:=Ea _ _ _ rfl (.inl h) _ i;exact ⟨_,_,.call (by rw [a.kind];exact h) (by rw [a.name (.inr (.inr (.inl h)))];exact ua) (by rw [G,JD _ _ _ _ _ H.1];exact u),⟨rfl,b.now,b.out,b.Db⟩,_,rfl,_,_,_,rfl,H.2,⟨_,rfl,f⟩,_,rfl,f⟩
 | Gq h i u A K =>
  obtain ⟨k',rfl,C,B,rfl,a,f⟩:=j;obtain ⟨c',eb,g⟩:=b.Db.get u;obtain ⟨Qc,ka,ad⟩:=g.back.some K;refine ⟨_,_,.Gq (by rw [a.kind];exact h) i (by rw [b.now];exact eb) (by rw [g.up];exact A) ka,?_,_,rfl,_,rfl,ad⟩;rw [b.now];exact b.put ⟨g.d,g.args,g.begun,rfl,g.ended,g.up,g.back,.inr ⟨_,_,rfl,rfl,f⟩⟩
 | many h i=>obtain ⟨k',rfl,C,B,rfl,a,f⟩:=j; exact ⟨p,_,.many (by rw [a.kind]; exact h) (by rw [ma]; exact i),b,rfl⟩
 | start h i u A =>
  obtain ⟨k',rfl,C,B,rfl,a,f⟩:=j;obtain ⟨M,ua,H⟩:=Ea _ _ _ rfl (.inr h) _ u;exact ⟨_,_,.start (by rw [a.kind];exact h) (by rw [ma];exact i) (by rw [a.name (.inr (.inr (.inr h)))];exact ua) (by rw [G,JD _ _ _ _ _ H.1];exact A),⟨rfl,b.now,b.out,b.Db.app ⟨H.2,rfl,rfl,rfl,rfl,rfl,.inl ⟨rfl,rfl⟩,.inl ⟨rfl,rfl⟩⟩⟩,_,rfl,_,by rw [ma],f⟩
 | res h i u A=>obtain ⟨k',rfl,C,B,rfl,a,f⟩:=j; exact ⟨p,_,.res (by rw [a.kind]; exact h) i u (by rw [ma]; exact A),b,_,rfl,_,rfl,f⟩
 | alive h i u A =>
  obtain ⟨k',rfl,C,B,rfl,a,f⟩:=j;obtain ⟨c',eb,g⟩:=b.Db.get A;exact ⟨p,_,.alive (by rw [a.kind];exact h) i u eb,b,_,rfl,_,by rw [g.ended],f⟩
 | XB h i=>obtain ⟨k',rfl,C,B,rfl,a,f⟩:=j; exact ⟨p,_,.XB (by rw [a.kind]; exact h) i,b,rfl⟩
 | two h i u A K=>obtain ⟨k',rfl,C,B,rfl,a,f⟩:=j; exact ⟨p,_,.two (by rw [a.kind]; exact h) (by rw [a.kind]; exact i) u A (by rw [a.kind]; exact K),b,_,rfl,_,rfl,f⟩
 | zero=>obtain ⟨k',rfl,B,rfl,f⟩:=j; exact ⟨p,_,.zero,b,_,rfl,_,rfl,f⟩
 | done h i u =>
  obtain ⟨k',rfl,rfl⟩:=j;obtain ⟨c',eb,g⟩:=b.Db.get h;obtain ⟨Qc,ka,ad⟩:=g.back.some u;exact ⟨_,_,.done eb (by rw [g.up];exact i) ka,b.put ⟨g.d,g.args,g.begun,rfl,rfl,g.up,g.back,g.uk⟩,_,rfl,_,rfl,ad⟩
 | stats=>obtain ⟨k',rfl,Ba,F,B,rfl,a⟩:=j; exact ⟨p,_,.stats,b,_,rfl,_,_,_,rfl,a⟩
 | YB=>obtain ⟨k',rfl,Ba,F,B,rfl,a⟩:=j; exact ⟨p,_,.YB,b,_,rfl,_,_,_,rfl,a⟩
 | fin=>obtain ⟨k',rfl,rfl⟩:=j; exact ⟨p,_,.fin,b,rfl⟩
 | cj=>obtain ⟨k',rfl,M,rfl,a⟩:=j; exact ⟨p,_,.cj,b,_,rfl,_,_,_,rfl,a,⟨_,rfl,rfl⟩,rfl⟩
 | gone h i =>
  obtain ⟨k',rfl,f⟩:=j;obtain ⟨c',eb,g⟩:=b.Db.get h;exact ⟨p,_,.gone eb (by rw [g.ended];exact i),b,rfl⟩
 | busy h i u =>
  obtain ⟨k',rfl,f⟩:=j;obtain ⟨c',eb,g⟩:=b.Db.get h;exact ⟨p,_,.busy eb (by rw [g.ended];exact i) (by rw [g.going,b.now];exact u),b,rfl⟩
 | on h i u A K =>
  obtain ⟨k',rfl,f⟩:=j;obtain ⟨c',eb,g⟩:=b.Db.get h;obtain ⟨R,P,hd⟩:=g.uk.some K;refine ⟨_,_,.on eb (by rw [g.ended];exact i) (by rw [g.going,b.now];exact u) (by rw [g.begun];exact A) P,?_,_,rfl,_,rfl,hd⟩;exact b.put ⟨g.d,g.args,g.begun,rfl,g.ended,by rw [b.now],.inr ⟨_,_,rfl,rfl,f⟩,g.uk⟩
 | first h i u A =>
  obtain ⟨k',rfl,f⟩:=j;obtain ⟨c',eb,g⟩:=b.Db.get h;refine ⟨_,_,.first eb (by rw [g.ended];exact i) (by rw [g.going,b.now];exact u) (by rw [g.begun];exact A),?_,_,rfl,_,_,_,by rw [g.args],g.d,⟨_,rfl,rfl⟩,rfl⟩;exact b.put ⟨g.d,g.args,rfl,rfl,g.ended,by rw [b.now],.inr ⟨_,_,rfl,rfl,f⟩,g.uk⟩
end
section
open Go.Mc Go.Kf
inductive Nr {T vf:Type}(o:Nat) (R:T->vf->Prop):gm T->gm vf->Prop
 | halt:Nr o R .halt .halt
 | Gg {c:Nat} {t:T} {hb:vf}:R t hb->Nr o R (.Gg c t) (.Gg c hb)
 | send {b c:Nat} {v:Int} {t:T} {hb:vf}:R t hb->Nr o R (.send b v c t) (.send (b+o) v c hb)
 | recv {b c:Nat} {k:Int->T} {k':Int->vf}:(∀ v,R (k v) (k' v))->Nr o R (.recv b c k) (.recv (b+o) c k')
structure Vk {T vf:Type}(a o:Nat) (R:T->vf->Prop) (s:Qe T) (Bb:Qe vf):Prop where
 na:∀ (i:Nat) (t:T),s.na[i]?=some t->∃ hb,Bb.na[i+a]?=some hb/\R t hb
 bs:∀ (b:Nat) (w:List Int),s.bs[b]?=some w->Bb.bs[b+o]?=some w
structure Out {T vf:Type}(a o:Nat) (s:Qe T) (s1 s2:Qe vf):Prop where
 na:∀ j:Nat,j<a\/a+s.na.length<=j->s2.na[j]?=s1.na[j]?
 bs:∀ j:Nat,j<o\/o+s.bs.length<=j->s2.bs[j]?=s1.bs[j]?
 Ye:s2.na.length=s1.na.length
 Jd:s2.bs.length=s1.bs.length
section
variable {T vf:Type}{a o:Nat}{R:T->vf->Prop}{act:T->gm T}{Pr:vf->gm vf}{cap zp:List Nat}
theorem Vk.set {s:Qe T}{Bb:Qe vf}{i:Nat}{t:T}{hb c:vf}(h:Vk a o R s Bb) (d:Bb.na[i+a]?=some c) (f:R t hb):Vk a o R ⟨s.na.set i t,s.bs⟩ ⟨Bb.na.set (i+a) hb,Bb.bs⟩:=by
 refine ⟨λj x b=>?_,h.bs⟩;simp only at b ⊢;rw [List.getElem?_set] at b;by_cases e:i=j
 ·subst e;rw [if_pos rfl] at b;split at b
  ·cases b;exact ⟨hb,Gn d,f⟩
  ·cases b
 ·rw [if_neg e] at b;obtain ⟨y,g,k⟩:=h.na j x b;exact ⟨y,by rw [Tg (by omega)];exact g,k⟩
theorem Vk.box {s:Qe T}{Bb:Qe vf}{b:Nat}{w da:List Int}(h:Vk a o R s Bb) (d:Bb.bs[b+o]?=some da):Vk a o R ⟨s.na,s.bs.set b w⟩ ⟨Bb.na,Bb.bs.set (b+o) w⟩:=by
 refine ⟨h.na,λj x c=>?_⟩;simp only at c ⊢;rw [List.getElem?_set] at c;by_cases e:b=j
 ·subst e;rw [if_pos rfl] at c;split at c
  ·cases c;exact Gn d
  ·cases c
 ·rw [if_neg e] at c;rw [Tg (by omega)];exact h.bs j x c
theorem jg.fx (B:∀ (b k:Nat),cap[b]?=some k->∃ k',zp[b+o]?=some k'/\k<=k'){s y:Qe T}{Bb:Qe vf}{i d:Nat}(r:∀ t hb,s.na[i]?=some t->R t hb->Nr o R (act t) (Pr hb)) (f:Vk a o R s Bb) (k:jg act cap s i d y) :
  ∃ u,jg Pr zp Bb (i+a) d u/\Vk a o R y u/\Out a o s Bb u:=by
 have x:∀ (hb:vf),i<s.na.length->∀ j:Nat,j<a\/a+s.na.length<=j->(Bb.na.set (i+a) hb)[j]?=Bb.na[j]?:=λhb C j D=>Tg (by omega);have z:∀ (b:Nat) (w:List Int),b<s.bs.length->∀ j:Nat,j<o\/o+s.bs.length<=j->(Bb.bs.set (b+o) w)[j]?=Bb.bs[j]?:=λb w C j D=>Tg (by omega);cases k with
 | @Gg t A _ c g =>
  obtain ⟨hb,ua,h⟩:=f.na _ _ c;have e:=r t hb c h;rw [g] at e;generalize l:Pr hb=q at e;cases e with
  | @Gg _ _ E m =>
   exact ⟨_,.Gg ua l,f.set ua m,x _ (List.getElem?_eq_some_iff.1 c).1,λ_ _=>rfl,by simp,rfl⟩
 | @send t A _ b k v w c g n F ma =>
  obtain ⟨hb,ua,h⟩:=f.na _ _ c;have e:=r t hb c h;rw [g] at e;generalize l:Pr hb=q at e;cases e with
  | @send _ _ _ _ E m =>
   obtain ⟨k',k1,G⟩:=B _ _ F;have p:=f.bs _ _ n;exact ⟨_,.send ua l p k1 (by omega),(f.set ua m).box (s:=⟨s.na.set i A,s.bs⟩) p,x _ (List.getElem?_eq_some_iff.1 c).1,z _ _ (List.getElem?_eq_some_iff.1 n).1,by simp,by simp⟩
 | @recv t _ b k v w c g n =>
  obtain ⟨hb,ua,h⟩:=f.na _ _ c;have e:=r t hb c h;rw [g] at e;generalize l:Pr hb=q at e;cases e with
  | @recv _ _ _ k' m =>
   have p:=f.bs _ _ n;exact ⟨_,.recv ua l p,(f.set ua (m v)).box (s:=⟨s.na.set i (k v),s.bs⟩) p,x _ (List.getElem?_eq_some_iff.1 c).1,z _ _ (List.getElem?_eq_some_iff.1 n).1,by simp,by simp⟩
theorem jg.back {s:Qe T}(u:∀ (b k':Nat),b<s.bs.length->zp[b+o]?=some k'->∃ k,cap[b]?=some k/\k'<=k){Bb x:Qe vf}{i d:Nat}{t:T}{hb:vf}(j:s.na[i]?=some t) (l:Bb.na[i+a]?=some hb) (n:∀ (b:Nat) (w:List Int),Bb.bs[b+o]?=some w->b<s.bs.length->s.bs[b]?=some w)
  (q:∀ b v c y,act t=.send b v c y->b<s.bs.length) (z:∀ b c k,act t=.recv b c k->b<s.bs.length) (f:Nr o R (act t) (Pr hb)) (k:jg Pr zp Bb (i+a) d x):∃ d s1,jg act cap s i d s1:=by
 generalize g:act t=p at f;cases k with
 | Gg e h =>
  rw [l] at e;cases e;rw [h] at f;cases f with
  | Gg r=>exact ⟨_,_,.Gg j g⟩
 | send e h m A B =>
  rw [l] at e;cases e;rw [h] at f;cases f with
  | send r =>
   obtain ⟨k,k1,C⟩:=u _ _ (q _ _ _ _ g) A;exact ⟨_,_,.send j g (n _ _ m<|q _ _ _ _ g) k1 (by omega)⟩
 | recv e h m =>
  rw [l] at e;cases e;rw [h] at f;cases f with
  | recv r=>exact ⟨_,_,.recv j g (n _ _ m (z _ _ _ g))⟩
theorem Out.r {s:Qe T}{s1:Qe vf}:Out a o s s1 s1:=⟨λ_ _=>rfl,λ_ _=>rfl,rfl,rfl⟩
theorem jg.len {s a:Qe T}{i d:Nat}(k:jg act cap s i d a):a.na.length=s.na.length/\a.bs.length=s.bs.length:=by
 cases k<;>simp
theorem qf.len {s a:Qe T}{n d:Nat}(k:qf act cap s n d a):a.na.length=s.na.length/\a.bs.length=s.bs.length:=by
 induction k with
 | nil=>exact ⟨rfl,rfl⟩
 | cons k _ b=>exact ⟨b.1.trans k.len.1,b.2.trans k.len.2⟩
theorem qf.fx {O:Nat->T->Prop}{V:Nat->Int->Prop}{wr rd:Nat->Nat->Prop}(W:eu act O V wr rd) (m:∀ (b k:Nat),cap[b]?=some k->∃ k',zp[b+o]?=some k'/\k<=k') (p:∀ (i:Nat) t hb,O i t->R t hb->Nr o R (act t) (Pr hb)){s e:Qe T}{n d:Nat}(k:qf act cap s n d e):∀ {Bb:Qe vf},im O V s->Vk a o R s Bb ->
  ∃ f,qf Pr zp Bb n d f/\Vk a o R e f/\Out a o s Bb f:=by
 induction k with
 | nil=>exact λ{Bb} _ h=>⟨Bb,.nil,h,.r⟩
 | @cons s s1 e i c n d k w q =>
  intro Bb l h;obtain ⟨x,oa,a2,a3⟩:=k.fx m (λt hb u v=>p i t hb (l.na _ _ u) v) h;obtain ⟨f,ka,ad,Ua⟩:=q (k.own W l) a2;have ma:=k.len;exact ⟨f,.cons oa ka,ad,λj g=>(Ua.na j (by rw [ma.1];exact g)).trans (a3.na j g),λj g=>(Ua.bs j (by rw [ma.2];exact g)).trans (a3.bs j g),Ua.Ye.trans a3.Ye,Ua.Jd.trans a3.Jd⟩
end
def ho (x a:ig):Prop:=wv x.1 a.1/\tz x.2 a.2
theorem Zr.norm {c c':ih}(h:Zr c c'):Zr (Nf c) (Nf c'):=by
 cases c with
 | vd k =>
  obtain ⟨k',rfl,a⟩:=h;cases k with
  | recv n k=>obtain ⟨b,rfl,a⟩:=a; exact ⟨_,rfl,a⟩
  | send n v k=>obtain ⟨b,rfl,a⟩:=a; exact ⟨_,rfl,a⟩
  | zero k=>obtain ⟨b,rfl,a⟩:=a; exact ⟨_,rfl,_,rfl,a⟩
  | done g=>obtain rfl:=a; exact ⟨_,rfl,rfl⟩
  | stats l s e k=>obtain ⟨Ba,f,b,rfl,a⟩:=a; exact ⟨_,rfl,_,_,_,rfl,a⟩
  | lf x s e k=>obtain ⟨Ba,f,b,rfl,a⟩:=a; exact ⟨_,rfl,_,_,_,rfl,a⟩
  | fin=>obtain rfl:=a; exact ⟨_,rfl,rfl⟩
  | cj d=>obtain ⟨i,rfl,a⟩:=a; exact ⟨_,rfl,_,rfl,a⟩
 | expr x s k=>obtain ⟨_,_,rfl,h⟩:=h; exact ⟨_,_,rfl,h⟩
 | all l s Hd k=>obtain ⟨_,_,rfl,h⟩:=h; exact ⟨_,_,rfl,h⟩
 | stats l s e k=>obtain ⟨_,_,_,rfl,h⟩:=h; exact ⟨_,_,_,rfl,h⟩
 | lf x s e k=>obtain ⟨_,_,_,rfl,h⟩:=h; exact ⟨_,_,_,rfl,h⟩
 | df k v=>obtain ⟨_,rfl,h⟩:=h; exact ⟨_,rfl,h⟩
 | Hd k l=>obtain ⟨_,rfl,h⟩:=h; exact ⟨_,rfl,h⟩
 | recv n k=>obtain ⟨_,rfl,h⟩:=h; exact ⟨_,rfl,h⟩
 | send n v k=>obtain ⟨_,rfl,h⟩:=h; exact ⟨_,rfl,h⟩
 | resume g v k=>obtain ⟨_,rfl,h⟩:=h; exact ⟨_,rfl,h⟩
theorem tz.norm {q pk:rm}(h:tz q pk):tz (yq q) (yq pk):=by
 cases q with
 | run c=>obtain ⟨c',rfl,h⟩:=h; exact ⟨_,rfl,h.norm⟩
 | done=>obtain rfl:=h; rfl
 | qe n=>obtain rfl:=h; rfl
theorem Zr.comm {c c':ih}(h:Zr c c'):Comm c'->Comm c:=by
 cases c with
 | vd k =>
  obtain ⟨k',rfl,a⟩:=h;cases k with
  | recv n k=>exact λ_=>trivial
  | send n v k=>exact λ_=>trivial
  | zero k=>obtain ⟨b,rfl,a⟩:=a; exact id
  | done g=>obtain rfl:=a; exact id
  | stats l s e k=>obtain ⟨Ba,f,b,rfl,a⟩:=a; exact id
  | lf x s e k=>obtain ⟨Ba,f,b,rfl,a⟩:=a; exact id
  | fin=>obtain rfl:=a; exact id
  | cj d=>obtain ⟨i,rfl,a⟩:=a; exact id
 | expr x s k=>obtain ⟨_,_,rfl,h⟩:=h; exact id
 | all l s Hd k=>obtain ⟨_,_,rfl,h⟩:=h; exact id
 | stats l s e k=>obtain ⟨_,_,_,rfl,h⟩:=h; exact id
 | lf x s e k=>obtain ⟨_,_,_,rfl,h⟩:=h; exact id
 | df k v=>obtain ⟨_,rfl,h⟩:=h; exact id
 | Hd k l=>obtain ⟨_,rfl,h⟩:=h; exact id
 | recv n k=>exact λ_=>trivial
 | send n v k=>exact λ_=>trivial
 | resume g v k=>obtain ⟨_,rfl,h⟩:=h; exact id
structure My (p:mb) (U:Ng) (E E':Ud) (o:Nat):Prop where
 So:∀ n,U.c n->∀ d,Oa p.named n=some d->d.Kind=2\/d.Kind=3->∃ a,Oa E'.defs n=some a/\vC d a
 Ff:∀ n (i:Nat),U.s n\/U.r n->Oa E.order n=some (i:Int)->Oa E'.order n=some ((i+o:Nat):Int)
theorem KK {E:Ud}{z:Core}{c:ih}(h:¬ Wq z c):de E c ⟨z.Yr,[],0⟩=none:=by
 cases a:de E c ⟨z.Yr,[],0⟩ with
 | none=>rfl
 | some o=>exact absurd (sI a) h
theorem Wq.rel {z a:Core}{c c':ih}(b:wv z a) (d:Zr c c') (h:Wq a c'):Wq z c:=by
 intro x l s e k v ua f;subst ua;obtain ⟨k',rfl,Ba,g,i,rfl,j,he,o⟩:=d;obtain ⟨y,m,rfl,n,hm⟩:=j.cons;have:=h y m s g i v rfl (by rw [n.kind];exact f);rwa [b.out] at this
theorem RE {p:mb}{U:Ng}{E E':Ud}{o:Nat}(P:yn p U E) (Or:Ord p E) (w:My p U E E' o){x A:ig}(N:Gl p U x) (O:ho x A):Nr o ho (tf E x) (tf E' A):=by
 obtain ⟨z,q⟩:=x;obtain ⟨Q,pk⟩:=A;obtain ⟨g,B⟩:=O;cases q with
 | done=>obtain rfl:=B; exact .halt
 | qe n=>obtain rfl:=B; exact .halt
 | run c =>
 obtain ⟨c',rfl,j⟩:=B;obtain ⟨C,L,R,D⟩:=N _ rfl
 change Nr o ho (Sh E z (Nf c)) (Sh E' Q (Nf c'))
 by_cases a:Comm c
 ·have m:=Dj.norm.2 D;have r:=j.norm;have S:(∃ n k,Nf c=.recv n k)\/∃ n v k,Nf c=.send n v k:=by
   cases c with
   | recv n k=>exact .inl ⟨n,k,rfl⟩
   | send n v k=>exact .inr ⟨n,v,k,rfl⟩
   | vd k=>cases k with
    | recv n k=>exact .inl ⟨n,k,rfl⟩
    | send n v k=>exact .inr ⟨n,v,k,rfl⟩
    | _=>exact a.elim
   | _=>exact a.elim
  rcases S with ⟨n,k,ua⟩ | ⟨n,v,k,ua⟩
  ·rw [ua] at m r ⊢;obtain ⟨k',F,s⟩:=r;rw [F];obtain ⟨f,u,bc,bd,-⟩:=m;obtain ⟨i,b⟩:=P.Ff _ _ bc bd;have G:=w.Ff n i (.inr u) b;rw [Sh,Sh,b,G];simp only [Int.toNat_natCast];exact .recv λv=>⟨g,_,rfl,_,rfl,s⟩
  ·rw [ua] at m r ⊢;obtain ⟨k',F,s⟩:=r;rw [F];obtain ⟨f,u,bc,bd,-,-⟩:=m;obtain ⟨i,b⟩:=P.Ff _ _ bc bd;have G:=w.Ff n i (.inl u) b;rw [Sh,Sh,b,G];simp only [Int.toNat_natCast];exact .send ⟨g,_,rfl,(show Zr (.vd k) (.vd k') from ⟨_,rfl,s⟩).norm⟩
 ·have K:¬ Comm c':=λh=>a (j.comm h);rw [XA a,XA K,YA a,YA K];by_cases H:Wq z c
  ·obtain ⟨n,X,Y,Mg,Z,t,l,-,-,M,-⟩:=safe P R a H D;obtain ⟨bb,Gb,hb,T,V⟩:=t.fx (E':=E') g j λy k l e s d Ea=>by
    subst e;obtain ⟨na,W,-,-⟩:=D;obtain ⟨d0,t0,-,me,-⟩:=W;rw [P.So] at Ea;have:U.c y.Name/\(d.Kind=2\/d.Kind=3):=by
     cases me<;>first | omega | skip
     ·rename_i f u bc bd;rw [bc] at Ea;cases Ea;exact ⟨u,.inl bd⟩
     ·rename_i f u bc bd;rw [bc] at Ea;cases Ea;exact ⟨u,.inr bd⟩
    exact w.So _ this.1 d Ea this.2
   rw [t.act M,hb.act M];exact .Gg ⟨T,V.norm⟩
  ·rw [KK H,KK λh=>H (h.rel g j)];exact .halt
end
section
open Go.Mc Go.Kf
section
variable {p:mb}{l:List va}{fu:Nat}{na:List Ad}{bs:List ed}{k d:Nat}
theorem Jq.ends (h:Jq p l na bs k d):na.map vh=(Sg na bs).na.map (Zy (Mf l).env):=by
 show na.map vh=(na.map we).map _;rw [List.map_map];refine List.map_congr_left λt i=>?_;have f:=h.can t i;show vh t=Zy _ (we t);rcases h.inv.j t i with ⟨a,-⟩ | ⟨a,b,n,v,k,e,g⟩ | ⟨a,b,n,k,e,g⟩ | ⟨a,b,e⟩ | ⟨a,b⟩
 ·unfold nq at f;rw [if_pos a] at f;cases f
 ·have c:we t=(t.core,.run (.send n v k)):=by unfold we;rw [if_neg (by omega),if_neg (by omega),e];rfl
  rw [c];show vh t=⟨2,(Oa (Mf l).env.order n).getD 0,0,t.out⟩;rw [g];unfold vh;rw [a,b];rfl
 ·have c:we t=(t.core,.run (.recv n k)):=by unfold we;rw [if_neg (by omega),if_neg (by omega),e];rfl
  rw [c];show vh t=⟨3,(Oa (Mf l).env.order n).getD 0,0,t.out⟩;rw [g];unfold vh;rw [a,b];rfl
 ·have c:we t=(t.core,.done):=by unfold we;rw [if_pos a]
  rw [c];show vh t=⟨4,0,0,t.out⟩;unfold vh;rw [a,b,e]
 ·have c:we t=(t.core,.qe t.qe):=by unfold we;rw [if_neg (by omega),if_pos a]
  rw [c];show vh t=⟨5,0,t.qe,t.out⟩;unfold vh;rw [a,b]
theorem lh.Np (h:lh p l fu):ss p (Mf l).env (al p.named (l.filter Fh)) (uh l):=by
 have:=h.inv.Np;rwa [h.zd] at this
theorem Jq.IL (P:lh p l fu) (h:Jq p l na bs k d){m c:Nat}{s:Qe ig}(q:qf (tf (Mf l).env) (Ci l) (uh l) m c s):∃ a c',k=m+a/\d=c+c'/\qf (tf (Mf l).env) (Ci l) s a c' (Sg na bs):=h.run.ends P.names.own h.fin P.Np q
end
theorem uI (l:List Int) (ma:l.length<=4611686018427387904):∀ (n i:Nat),l.length<n+i->i<=l.length->Yv l l n (i:Int)=some true
 | 0,i,a,b=>by omega
 | n+1,i,a,b=>by
  rw [Yv];by_cases c:i<l.length
  ·rw [if_pos (by omega),Lg,List.getElem?_eq_getElem c];simp only [Option.bind_some];rw [if_neg (by simp),Gf (by omega)];have:=uI l ma n (i+1) (by omega) (by omega);rw [show ((i+1:Nat):Int)=(i:Int)+1 by omega] at this;exact this
  ·rw [if_neg (by omega)]
theorem AH {l:List Int}(ma:l.length<=4611686018427387904):Pu l l=some true:=by
 unfold Pu;rw [if_neg (by simp)];exact uI l ma _ 0 (by omega) (by omega)
theorem yM (l:List (List Int)) (ma:l.length<=4611686018427387904) (e:∀ w ∈ l,w.length<=4611686018427387904):∀ (n i:Nat),l.length<n+i->i<=l.length->Ev l l n (i:Int)=some true:=by
 intro n
 induction n with
 | zero=>intro i f g; omega
 | succ n h =>
  intro i f g;rw [Ev];by_cases a:i<l.length
  ·have b:=AH (e _ (List.getElem_mem a));have c:=h (i+1) (by omega) (by omega);rw [show ((i+1:Nat):Int)=(i:Int)+1 by omega] at c;have d:at_ l (i:Int)=some l[i]:=by rw [Lg,List.getElem?_eq_getElem a]
   generalize l[i]=x at b d;rw [if_pos (by omega),d,Ga,Ga,b,Ga,if_pos rfl,Gf (by omega),Ga];exact c
  ·rw [if_neg (by omega)]
theorem qM {l:List (List Int)}(ma:l.length<=4611686018427387904) (a:∀ w ∈ l,w.length<=4611686018427387904):Zv l l=some true:=by
 unfold Zv;rw [if_neg (by simp)];exact yM l ma a _ 0 (by omega) (by omega)
theorem wS {i:Int}{K:Int->Option Bool}(a:0<=i/\i<=4611686018427387904):As i K false=K (i+1):=by
 rw [As,if_neg (by simp),Gf (by omega)];rfl
theorem nO (l:List Of) (ma:l.length<=4611686018427387904) (e:∀ w ∈ l,w.Out.length<=4611686018427387904):∀ (n i:Nat),l.length<n+i->i<=l.length->Rp l l n (i:Int)=some true:=by
 intro n
 induction n with
 | zero=>intro i f g; omega
 | succ n j =>
  intro i f g;rw [Rp];by_cases a:i<l.length
  ·have b:=AH (e _ (List.getElem_mem a));have c:=j (i+1) (by omega) (by omega);rw [show ((i+1:Nat):Int)=(i:Int)+1 by omega] at c;have d:at_ l (i:Int)=some l[i]:=by rw [Lg,List.getElem?_eq_getElem a]
   generalize l[i]=x at b d;rw [if_pos (by omega),d,Ga,Ga,if_neg (λh=>h rfl),Ga,Ga,if_neg (λh=>h rfl),Ga,Ga,if_neg (λh=>h rfl),Ga,Ga,b,Ga];exact (wS (by omega)).trans c
  ·rw [if_neg (by omega)]
theorem pM {l:List Of}(ma:l.length<=4611686018427387904) (a:∀ w ∈ l,w.Out.length<=4611686018427387904):Mv l l=some true:=by
 unfold Mv;rw [if_neg (by simp)];exact nO l ma a _ 0 (by omega) (by omega)
theorem Jq.small {p:mb}{l:List va}{na:List Ad}{bs:List ed}{k d fu:Nat}(P:lh p l fu) (h:Jq p l na bs k d):(na.map vh).length<=30/\(∀ t ∈ na.map vh,t.Out.length<=600180)/\(bs.map ed.words).length<=30/\∀ b ∈ bs.map ed.words,b.length<=100:=by
 have ma:=P.R.ok.le;refine ⟨by rw [List.length_map,h.Ye];exact Nat.le_trans (List.length_filter_le _ _) ma,λt c=>?_,by rw [List.length_map,h.Jd];exact Nat.le_trans (List.length_filter_le _ _) ma,λb e=>?_⟩
 ·obtain ⟨x,a,rfl⟩:=List.mem_map.1 c;have:=h.inv.out x a;show x.out.length<=_;omega
 ·obtain ⟨x,a,rfl⟩:=List.mem_map.1 e;have:=h.inv.Ya.le x a;omega
end
section
open Go.Mc Go.Kf
def Nk (o:Nat) (e:Of):Of:=if e.State=2\/e.State=3 then { e with Bl:=e.Bl+o } else e
section
variable {p:mb}{E E':Ud}{U:Nat->Ng}{cap zp:List Nat}{a o:Nat}
theorem mJ {u:Ng}(P:yn p u E) (y:My p u E E' o){x m:ig}(B:Gl p u x) (D:ho x m):Zy E' m=Nk o (Zy E x):=by
 obtain ⟨z,q⟩:=x;obtain ⟨b,pk⟩:=m;obtain ⟨F,r⟩:=D;have d:b.out=z.out:=F.out;cases q with
 | done=>obtain rfl:=r; show (⟨4,0,0,b.out⟩:Of)=Nk o ⟨4,0,0,z.out⟩; rw [d]; rfl
 | qe n=>obtain rfl:=r; show (⟨5,0,n,b.out⟩:Of)=Nk o ⟨5,0,n,z.out⟩; rw [d]; rfl
 | run c =>
  obtain ⟨c',rfl,a⟩:=r;obtain ⟨C,L,H,A⟩:=B _ rfl;have one:(⟨1,0,0,b.out⟩:Of)=Nk o ⟨1,0,0,z.out⟩:=by rw [d];rfl
  cases c with
  | send n v k =>
   obtain ⟨k',rfl,G⟩:=a;obtain ⟨f,t,bc,bd,-⟩:=A;obtain ⟨i,j⟩:=P.Ff _ _ bc bd;have w:=y.Ff n i (.inl t) j;show (⟨2,(Oa E'.order n).getD 0,0,b.out⟩:Of)=Nk o ⟨2,(Oa E.order n).getD 0,0,z.out⟩;rw [j,w,d];unfold Nk;rw [if_pos (.inl rfl)];simp
  | recv n k =>
   obtain ⟨k',rfl,G⟩:=a;obtain ⟨f,t,bc,bd,-⟩:=A;obtain ⟨i,j⟩:=P.Ff _ _ bc bd;have w:=y.Ff n i (.inr t) j;show (⟨3,(Oa E'.order n).getD 0,0,b.out⟩:Of)=Nk o ⟨3,(Oa E.order n).getD 0,0,z.out⟩;rw [j,w,d];unfold Nk;rw [if_pos (.inr rfl)];simp
  | expr x s k=>obtain ⟨_,_,rfl,h⟩:=a; exact one
  | all l s Hd k=>obtain ⟨_,_,rfl,h⟩:=a; exact one
  | stats l s e k=>obtain ⟨_,_,_,rfl,h⟩:=a; exact one
  | lf x s e k=>obtain ⟨_,_,_,rfl,h⟩:=a; exact one
  | df k v=>obtain ⟨_,rfl,h⟩:=a; exact one
  | Hd k l=>obtain ⟨_,rfl,h⟩:=a; exact one
  | vd k=>obtain ⟨_,rfl,h⟩:=a; exact one
  | resume g v k=>obtain ⟨_,rfl,h⟩:=a; exact one
theorem nJ (W:zq p E U) (t:∀ i,My p (U i) E E' o){e l:Qe ig}(u:ss p E U e) (hB:∀ (n:Ge) (i:Int),Oa E.order n=some i->0<=i/\i.toNat<e.bs.length) (m:Vk a o ho e l)
  (x:∀ (b k':Nat),b<e.bs.length->zp[b+o]?=some k'->∃ k,cap[b]?=some k/\k'<=k) (y:Mr (tf E) cap e):∀ i,i<e.na.length->∀ d q,¬ jg (tf E') zp l (i+a) d q:=by
 intro i z d q A;have f:e.na[i]?=some e.na[i]:=List.getElem?_eq_getElem z;obtain ⟨hb,B,C⟩:=m.na _ _ f;have g:=u.na _ _ f;obtain ⟨d2,s2,D⟩:=jg.back (act:=tf E) x f B (λb w F G=>by
  have r:e.bs[b]?=some e.bs[b]:=List.getElem?_eq_getElem G;have s:=m.bs _ _ r;rw [F] at s;rw [r,Option.some.inj s]) (λb v c H h=>by
  obtain ⟨-,⟨n,-,j⟩,-⟩:=aE (W.ok i) W.ord g h;have:=(hB n _ j).2;simpa using this) (λb c k h=>by
  obtain ⟨-,⟨n,-,j⟩,-⟩:=bE (W.ok i) W.ord g h;have:=(hB n _ j).2;simpa using this) (RE (W.ok i) W.ord (t i) g C) A
 exact y _ _ _ D
end
end
section
open Go.Mc Go.Kf
section
variable {p:mb}{U:Ng}{E:Ud}
end
section
variable {p:mb}{E:Ud}{U:Nat->Ng}{cap:List Nat}
end
theorem oJ (d:va):ho (we (ll d)) (we (ll d)):=by
 have b:Ji Zj d.Body d.Body:=.Rt λa=>.inl rfl;refine ⟨⟨rfl,rfl,rfl,rfl,λj c c' e f=>?_⟩,_,rfl,_,rfl,_,rfl,b⟩;cases j with
 | zero=>cases e; cases f; exact ⟨b,rfl,rfl,rfl,rfl,rfl,.inl ⟨rfl,rfl⟩,.inl ⟨rfl,rfl⟩⟩
 | succ j=>simp [we,ll,Ad.core] at e
section
variable {p TW:mb}{l:List va}{fu:Nat}{more:Int}
end
end
section
open Go.Mc Go.Kf
section
variable {pl pm zs:mb}{l m:List va}{fu:Nat}
def Wj (l:List va):Nat:=(l.filter Fh).length
def zi (l:List va):Nat:=(l.filter Mk).length
theorem eE (Re:lh pl l fu) (a:lh zs (l++m) fu) (i:Nat):My pl (al pl.named (l.filter Fh) i) (Mf l).env (Mf (l++m)).env 0 where
 So n _ d Ea b:=by
  obtain ⟨q,rfl⟩:=Re.R.only _ _ Ea;exact ⟨d,by rw [a.So];exact a.R.bc d (List.mem_append_left _ q),.Rt⟩
 Ff n i _ h:=by
  obtain ⟨j,d,e,Ea,rfl⟩:=Re.set.ts n i h;obtain rfl:i=j:=by omega
  exact a.set.O i d (by rw [List.filter_append];exact Ul Ea)
theorem fE (b:lh pm m fu) (a:lh zs (l++m) fu) (i:Nat):My pm (al pm.named (m.filter Fh) i) (Mf m).env (Mf (l++m)).env (zi l) where
 So n _ d Ea c:=by
  obtain ⟨q,rfl⟩:=b.R.only _ _ Ea;exact ⟨d,by rw [a.So];exact a.R.bc d (List.mem_append_right _ q),.Rt⟩
 Ff n i _ h:=by
  obtain ⟨j,d,e,Ea,rfl⟩:=b.set.ts n i h;obtain rfl:i=j:=by omega
  exact a.set.O (i+zi l) d (by rw [List.filter_append,List.getElem?_append_right (by unfold zi;omega)];unfold zi;rw [Nat.add_sub_cancel];exact Ea)
theorem mw:(uh (l++m)).na=(uh l).na++(uh m).na/\(uh (l++m)).bs=(uh l).bs++(uh m).bs:=by
 unfold uh;simp only [List.filter_append,List.map_append,and_self]
theorem oO:Vk 0 0 ho (uh l) (uh (l++m)):=by
 refine ⟨λi t a=>?_,λb w e=>?_⟩
 ·have c:((l.filter Fh).map λd=>we (ll d))[i]?=some t:=a;rw [List.getElem?_map] at c;obtain ⟨d,Ea,rfl⟩:=Option.map_eq_some_iff.1 c;exact ⟨_,by rw [mw.1];exact Ul a,oJ d⟩
 ·rw [mw.2];exact Ul e
theorem lL {s:Qe ig}(e:∀ j:Nat,Wj l<=j->s.na[j]?=(uh (l++m)).na[j]?) (f:∀ j:Nat,zi l<=j->s.bs[j]?=(uh (l++m)).bs[j]?):Vk (Wj l) (zi l) ho (uh m) s:=by
 have ua:(uh l).na.length=Wj l:=by unfold uh Wj;simp
 have g:(uh l).bs.length=zi l:=by unfold uh zi;simp
 refine ⟨λi t a=>?_,λb w h=>?_⟩
 ·have c:((m.filter Fh).map λd=>we (ll d))[i]?=some t:=a;rw [List.getElem?_map] at c;obtain ⟨d,Ea,rfl⟩:=Option.map_eq_some_iff.1 c;refine ⟨_,?_,oJ d⟩;rw [e _ (by omega),mw.1,List.getElem?_append_right (by omega),ua,Nat.add_sub_cancel];exact a
 ·rw [f _ (by omega),mw.2,List.getElem?_append_right (by omega),g,Nat.add_sub_cancel];exact h
theorem xA:Ci (l++m)=Ci l++Ci m:=by unfold Ci;rw [List.filter_append,List.map_append]
theorem hy (l:List va):(Ci l).length=zi l:=by unfold Ci zi;simp
theorem uW:∀ (b k:Nat),(Ci l)[b]?=some k->∃ k',(Ci (l++m))[b+0]?=some k'/\k<=k':=λb k h=>⟨k,by rw [xA,Nat.add_zero];exact Ul h,Nat.le_refl _⟩
theorem vW:∀ (b k:Nat),(Ci m)[b]?=some k->∃ k',(Ci (l++m))[b+zi l]?=some k'/\k<=k':=λb k h=>⟨k,by
 rw [xA,List.getElem?_append_right (by rw [hy];omega),hy,Nat.add_sub_cancel];exact h,Nat.le_refl _⟩
theorem mL (Re:lh pl l fu) (a:lh zs (l++m) fu){k d:Nat}{e:Qe ig}(h:qf (tf (Mf l).env) (Ci l) (uh l) k d e) :
  ∃ s,qf (tf (Mf (l++m)).env) (Ci (l++m)) (uh (l++m)) k d s/\Vk 0 0 ho e s/\Out 0 0 (uh l) (uh (l++m)) s :=
 qf.fx Re.names.own uW (λi t hb b c=>RE (Re.names.ok i) Re.names.ord (eE Re a i) b c) h Re.Np oO
theorem nL (a:lh pm m fu) (b:lh zs (l++m) fu){k d:Nat}{e s:Qe ig}(h:qf (tf (Mf m).env) (Ci m) (uh m) k d e) (c:Vk (Wj l) (zi l) ho (uh m) s) :
  ∃ Bb,qf (tf (Mf (l++m)).env) (Ci (l++m)) s k d Bb/\Vk (Wj l) (zi l) ho e Bb/\Out (Wj l) (zi l) (uh m) s Bb :=
 qf.fx a.names.own vW (λi t hb f g=>RE (a.names.ok i) a.names.ord (fE a b i) f g) h a.Np c
theorem LK (l:List va):(uh l).na.length=Wj l/\(uh l).bs.length=zi l:=by unfold uh Wj zi;simp
theorem MQ (Re:lh pl l fu) (g:lh pm m fu) (k:lh zs (l++m) fu){f p:List Ad}{e h:List ed}{k1 C d1 d2:Nat}(q:Jq pl l f e k1 d1) (r:Jq pm m p h C d2) :
  ∃ s,qf (tf (Mf (l++m)).env) (Ci (l++m)) (uh (l++m)) (k1+C) (d1+d2) s/\Mr (tf (Mf (l++m)).env) (Ci (l++m)) s /\
   s.na.map (Zy (Mf (l++m)).env)=f.map vh++(p.map vh).map (Nk (zi l))/\s.bs=e.map ed.words++h.map ed.words:=by
 obtain ⟨s1,oa,a2,a3⟩:=mL Re k q.run (m:=m);obtain ⟨N,O⟩:=LK l;obtain ⟨P,Q⟩:=LK m;have K:Vk (Wj l) (zi l) ho (uh m) s1:=lL (λj u=>a3.na j (.inr (by omega))) (λj u=>a3.bs j (.inr (by omega)));obtain ⟨s2,ka,ad,Ua⟩:=nL g k r.run K;have R:=q.run.len;have S:=r.run.len;have D:ss pl (Mf l).env (al pl.named (l.filter Fh)) (Sg f e):=q.run.own Re.names.own Re.Np;have E:ss pm (Mf m).env (al pm.named (m.filter Fh)) (Sg p h):=r.run.own g.names.own g.Np;have z:Vk 0 0 ho (Sg f e) s2:=by
  refine ⟨λi t F=>?_,λb w G=>?_⟩
  ·have H:=(List.getElem?_eq_some_iff.1 F).1;obtain ⟨hb,ua,L⟩:=a2.na i t F;exact ⟨hb,by rw [Ua.na _ (.inl (by omega))];exact ua,L⟩
  ·have H:=(List.getElem?_eq_some_iff.1 G).1;rw [Ua.bs _ (.inl (by omega))];exact a2.bs b w G
 have Ye:s2.na.length=Wj l+Wj m:=by rw [Ua.Ye,a3.Ye,mw.1,List.length_append];omega
 have Jd:s2.bs.length=zi l+zi m:=by rw [Ua.Jd,a3.Jd,mw.2,List.length_append];omega
 refine ⟨s2,oa.app ka,λi c s A=>?_,?_,?_⟩
 ·have H:i<s2.na.length:=by
   have:∃ x,s2.na[i]?=some x:=by cases A<;>exact ⟨_,by assumption⟩
   obtain ⟨x,d⟩:=this;exact (List.getElem?_eq_some_iff.1 d).1
  by_cases ma:i<Wj l
  ·refine nJ (a:=0) (o:=0) Re.names (eE Re k) D (λn j u=>?_) z (λb k' T v=>?_) q.fin i (by omega) c s A
   ·have:=q.inv.Ya.ord n j u;exact ⟨this.1,by show j.toNat<(e.map ed.words).length;rw [List.length_map];exact this.2⟩
   ·rw [xA,Nat.add_zero,List.getElem?_append_left (by rw [hy];omega)] at v;exact ⟨k',v,Nat.le_refl _⟩
  ·obtain ⟨j,rfl⟩:∃ j,i=j+Wj l:=⟨i - Wj l,by omega⟩;refine nJ (a:=Wj l) (o:=zi l) g.names (fE g k) E (λn j u=>?_) ad (λb k' _ v=>?_) r.fin j (by omega) c s A
   ·have:=r.inv.Ya.ord n j u;exact ⟨this.1,by show j.toNat<(h.map ed.words).length;rw [List.length_map];exact this.2⟩
   ·rw [xA,List.getElem?_append_right (by rw [hy];omega),hy,Nat.add_sub_cancel] at v;exact ⟨k',v,Nat.le_refl _⟩
 ·rw [q.ends,r.ends];refine List.ext_getElem? λi=>?_;rw [List.getElem?_map];by_cases ma:i<Wj l
  ·rw [List.getElem?_append_left (by rw [List.length_map];omega),List.getElem?_map];have d:(Sg f e).na[i]?=some ((Sg f e).na[i]'(by omega)):=List.getElem?_eq_getElem _;obtain ⟨M,y,B⟩:=z.na i _ d;rw [Nat.add_zero] at y;rw [y,d];show some _=some _;rw [mJ (Re.names.ok i) (eE Re k i) (D.na _ _ d) B];unfold Nk;split
   ·simp
   ·rfl
  ·rw [List.getElem?_append_right (by rw [List.length_map];omega),List.length_map,List.getElem?_map,List.getElem?_map];rw [show (Sg f e).na.length=Wj l by omega];obtain ⟨j,rfl⟩:∃ j,i=j+Wj l:=⟨i - Wj l,by omega⟩;rw [Nat.add_sub_cancel];cases d:(Sg p h).na[j]? with
   | none =>
    have:=List.getElem?_eq_none_iff.1 d;rw [List.getElem?_eq_none_iff.2 (by omega)];rfl
   | some x =>
    obtain ⟨M,y,B⟩:=ad.na j x d;rw [y];show some _=some _;rw [mJ (g.names.ok j) (fE g k j) (E.na _ _ d) B]
 ·show s2.bs=(Sg f e).bs++(Sg p h).bs;refine List.ext_getElem? λi=>?_;by_cases ma:i<zi l
  ·rw [List.getElem?_append_left (by omega)];have d:(Sg f e).bs[i]?=some ((Sg f e).bs[i]'(by omega)):=List.getElem?_eq_getElem _;rw [d];exact z.bs i _ d
  ·rw [List.getElem?_append_right (by omega)];obtain ⟨j,rfl⟩:∃ j,i=j+zi l:=⟨i - zi l,by omega⟩;rw [show j+zi l - (Sg f e).bs.length=j by omega];cases d:(Sg p h).bs[j]? with
   | none =>
    have:=List.getElem?_eq_none_iff.1 d;exact List.getElem?_eq_none_iff.2 (by omega)
   | some w=>exact ad.bs j w d
end
end
section
open Go.Mc Go.Kf
theorem Ej {α β:Type}{x:α}{f:α->Option β}:(some x).bind f=f x:=rfl
theorem wW {α:Type}{l:List α}{i:Nat}(h:i<l.length):at_ l (i:Int)=some l[i]:=by
 unfold at_;rw [if_pos (by omega),Int.toNat_natCast,List.getElem?_eq_getElem h]
theorem bC {x:Int}(h:-9223372036854775808<=x/\x<=9223372036854775807):i64 x=some x:=if_pos h
theorem vP (k:Nat):rA (k+1000000)=some true:=by kernel_rfl
end
open Go.Mc Go.Kf
theorem xS {p:mb}{l:List va}{na:List Ad}{bs:List ed}{k d fu:Nat}(P:lh p l fu) (R:Jq p l na bs k d):∀ t ∈ na.map vh,(t.State=2\/t.State=3)->0<=t.Bl/\t.Bl<=30:=by
 intro t f g;obtain ⟨x,h,rfl⟩:=List.mem_map.1 f;have i:bs.length<=30:=by rw [R.Jd];exact Nat.le_trans (List.length_filter_le _ _) P.R.ok.le
 have m:x.state=2\/x.state=3:=g;show 0<=x.box/\x.box<=30;rcases R.inv.j x h with ⟨a,-⟩ | ⟨a,b,n,v,k,e,c⟩ | ⟨a,b,n,k,e,c⟩ | ⟨a,b,e⟩ | ⟨a,b⟩
 ·omega
 ·have:=R.inv.Ya.ord n _ c;omega
 ·have:=R.inv.Ya.ord n _ c;omega
 ·omega
 ·omega
theorem AG {i:Nat}{l:List Of}{x:Of}{K:Int->List Of->Option Bool}{v:Int}(ma:l.length<=1000) (a:i<=1000):Nv (i:Int) l x K v=K ((i+1:Nat):Int) (l++[⟨x.State,v,x.Eo,x.Out⟩]):=by
 rw [Nv,show app l [(Of.mk x.State v x.Eo x.Out)]=some (l++[⟨x.State,v,x.Eo,x.Out⟩]) from if_pos (by simp;omega),Ej,bC (by omega),Ej];rfl
theorem yS {r:gi×Nd}{i o:Nat}{l:List Of}{x:Of}{K:Int->List Of->Option Bool}(ma:l.length<=1000) (c:i<=1000) (e:r.1.Yc.length=o) (f:o<=30)
  (d:(x.State=2\/x.State=3)->0<=x.Bl/\x.Bl<=30) :
  (if x.State=2 then er r (i:Int) l x K true else er r (i:Int) l x K (decide (x.State=3)))=K ((i+1:Nat):Int) (l++[Nk o x]):=by
 subst e;by_cases a:x.State=2
 ·have:=d (.inl a);rw [if_pos a,er,if_pos rfl,bC (by omega),Ej,AG ma c];unfold Nk;rw [if_pos (.inl a)]
 ·rw [if_neg a];by_cases b:x.State=3
  ·have:=d (.inr b);rw [er,if_pos (by simpa using b),bC (by omega),Ej,AG ma c];unfold Nk;rw [if_pos (.inr b)]
  ·rw [er,if_neg (by simpa using b),AG ma c];unfold Nk;rw [if_neg (by omega)]
theorem RV {r q z:gi×Nd}{o:Nat}(b:r.1.Yc.length=o) (c:o<=30) (k:r.1.Zf.length<=30) (l:q.1.Zf.length<=30)
  (d:∀ t ∈ q.1.Zf,(t.State=2\/t.State=3)->0<=t.Bl/\t.Bl<=30)
  (key:∀ n,Vo r q z (n+1) (q.1.Zf.length:Int) (r.1.Zf++q.1.Zf.map (Nk o))=some true) :
  ∀ (n i:Nat),q.1.Zf.length<n+i->i<=q.1.Zf.length->Vo r q z n (i:Int) (r.1.Zf++(q.1.Zf.take i).map (Nk o))=some true:=by
 intro n
 induction n with
 | zero=>intro i f g; omega
 | succ n h =>
  intro i f g;by_cases a:i<q.1.Zf.length
  ·have j:(r.1.Zf++(q.1.Zf.take i).map (Nk o)).length<=1000:=by
    rw [List.length_append,List.length_map,List.length_take];omega
   rw [Vo,if_pos (by omega),wW a,Ej,yS j (by omega) b c (d _ (List.getElem_mem a))];have:=h (i+1) (by omega) (by omega);rw [<- List.take_append_getElem a,List.map_append,<- List.append_assoc] at this;exact this
  ·have e:i=q.1.Zf.length:=by omega
   subst e;rw [List.take_length];exact key n
theorem SV {fu:Nat}(v:600200<=fu){l m:List va}{f g h:Nd}(ua:xm fu l=some f) (D:f.De=0) (E:xm fu m=some g) (F:g.De=0)
  (G:xm fu (l++m)=some h) (H:h.De=0):Wo fu l m (l++m) false=some true:=by
 obtain ⟨K,oa,-,a2⟩:=yw v l;obtain ⟨L,ka,-,ad⟩:=yw v m;obtain ⟨M,eb,-,c2⟩:=yw v (l++m);obtain rfl:f=K:=Option.some.inj (ua.symm.trans oa);obtain rfl:g=L:=Option.some.inj (E.symm.trans ka);obtain rfl:h=M:=Option.some.inj (G.symm.trans eb);obtain ⟨pl,Re,ma⟩:=a2 D;obtain ⟨pm,p,hm⟩:=ad F;obtain ⟨zs,o,N⟩:=c2 H;rcases N with ⟨x,-⟩ | ⟨na,bs,k,d,x,R⟩
 ·obtain ⟨r,O⟩:∃ r,Kn fu l=some r:=by rcases ma with ⟨e,-⟩ | ⟨_,_,_,_,e,-⟩<;>exact ⟨_,e⟩
  obtain ⟨q,eq⟩:∃ r,Kn fu m=some r:=by rcases hm with ⟨e,-⟩ | ⟨_,_,_,_,e,-⟩<;>exact ⟨_,e⟩
  rw [Wo,if_neg (by simp),O,Ej,eq,Ej,x,Ej];split
  ·rw [gr,if_pos rfl];rfl
  ·split
   ·rw [gr,if_pos rfl];rfl
   ·rw [gr,if_pos (by decide)];rfl
 ·rcases ma with ⟨-,k1,d1,lc,y,P⟩ | ⟨b,a,k1,d1,el,t⟩
  ·exfalso;obtain ⟨Bb,r',-⟩:=mL (m:=m) Re o y;obtain ⟨Q,c',-,Ea,-⟩:=R.IL o r';have:=R.inv.uv;omega
  ·rcases hm with ⟨-,S,d2,rc,A,P⟩ | ⟨i,c,S,d2,em,u⟩
   ·exfalso;obtain ⟨Bb,r',-⟩:=nL p o A (lL (λj _=>rfl) (λj _=>rfl));obtain ⟨Q,c',-,Ea,-⟩:=R.IL o r';have:=R.inv.uv;omega
   ·obtain ⟨s,run,fin,T,U⟩:=MQ Re p o t u;obtain ⟨-,Ea,V⟩:=qf.uniq o.names.own R.fin fin o.Np R.run run;subst V;have W:na.map vh=b.map vh++(i.map vh).map (Nk (zi l)):=R.ends.trans T;have X:bs.map ed.words=a.map ed.words++c.map ed.words:=U;obtain ⟨x1,fd,Y,id⟩:=t.small Re;obtain ⟨Z,md,nd,rd⟩:=u.small p;obtain ⟨wd,z2,z3,z4⟩:=R.small o;have od:=t.inv.uv;have Bn:=u.inv.uv;have C:(Ii b a d1).Yc.length=zi l:=by
     show (a.map ed.words).length=_;rw [List.length_map,t.Jd];rfl
    have bb:zi l<=30:=by rw [<- C];exact Y
    rw [Wo,if_neg (by simp),el,Ej,em,Ej,x,Ej,if_neg (by simp),if_neg (by simp),gr,if_neg (by simp),
     show app ([]:List Of) (Ii b a d1).Zf=some (Ii b a d1).Zf from if_pos (by show 0+(b.map vh).length<=_;omega),Ej]
    have:=RV (r:=(Ii b a d1,⟨0,0⟩)) (q:=(Ii i c d2,⟨0,0⟩)) (z:=(Ii na bs d,⟨0,0⟩)) C bb x1 Z (xS p u) (λn=>by
     rw [Vo,if_neg (by omega)];dsimp only;have Gb:(Ii na bs d).Zf=(Ii b a d1).Zf++(Ii i c d2).Zf.map (Nk (zi l)):=W;have gc:(Ii na bs d).Yc=(Ii b a d1).Yc++(Ii i c d2).Yc:=X;have y:Mv (Ii na bs d).Zf (Ii na bs d).Zf=some true:=pM (by show (na.map vh).length<=_;omega) (λw B=>Nat.le_trans (z2 w B) (by omega));have A:Zv (Ii na bs d).Yc (Ii na bs d).Yc=some true:=qM (by show (bs.map ed.words).length<=_;omega) (λw B=>Nat.le_trans (z4 w B) (by omega));rw [<- Gb,y,Ej,if_pos rfl,
      show app ([]:List (List Int)) (Ii b a d1).Yc=some (Ii b a d1).Yc from if_pos (by show 0+(a.map ed.words).length<=_;omega),Ej,
      show app (Ii b a d1).Yc (Ii i c d2).Yc=some ((Ii b a d1).Yc++(Ii i c d2).Yc) from if_pos (by show (a.map ed.words).length+(c.map ed.words).length<=_;omega),Ej,
      <- gc,A,Ej,if_pos rfl,
      show i64 ((Ii b a d1).Steps+(Ii i c d2).Steps)=some ((d:Nat):Int) from by
       show i64 ((d1:Int)+(d2:Int))=_;rw [bC (by omega),Ea];rfl,Ej]
     show some (decide (((d:Nat):Int)=((d:Nat):Int)))=some true;rw [decide_eq_true rfl]) ((Ii i c d2).Zf.length+1) 0 (by show (Ii i c d2).Zf.length<(Ii i c d2).Zf.length+1+0;omega) (Nat.zero_le _)
    rw [List.take_zero,List.map_nil,List.append_nil] at this;exact this
theorem OM (k:Nat) (l m:List va) (ma:l.length<=1048576) (c:m.length<=1048576):Xx (k+1000000) l m=some true:=by
 rw [Xx,vP k,Ej,if_pos rfl,show app ([]:List va) l=some l from if_pos (by simp;omega),Ej,show app l m=some (l++m) from if_pos (by omega),Ej];have a:600200<=k+1000000:=by omega
 obtain ⟨f,oa,-,-⟩:=yw a l;obtain ⟨g,ka,-,-⟩:=yw a m;obtain ⟨h,eb,-,-⟩:=yw a (l++m);rw [oa,Ej];by_cases f0:f.De=0
 ·rw [if_neg (by simpa using f0),ka,Ej];by_cases g0:g.De=0
  ·rw [if_neg (by simpa using g0),eb,Ej];by_cases b:h.De=0
   ·rw [show decide (h.De≠0)=false by simpa using b];exact SV a oa f0 ka g0 eb b
   ·rw [show decide (h.De≠0)=true by simpa using b,Wo,if_pos rfl]
  ·rw [if_pos g0,Wo,if_pos rfl]
 ·rw [if_pos f0,Wo,if_pos rfl]
end Go.Y
