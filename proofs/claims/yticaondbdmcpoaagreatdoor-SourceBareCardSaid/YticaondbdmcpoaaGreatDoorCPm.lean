/- Texts of SourceBare Pm. -/
import Derived.Test.YticaondbdmcpoaaGreatDoorCMd
import Derived.Test.YticaondbdmcpoaaGreatDoorCPl
import Derived.KernelRfl
set_option linter.unusedSimpArgs false
set_option linter.unusedVariables false
set_option linter.unusedSectionVars false
namespace Go.Y
inductive Ul (T:Type) where
 | halt
 | Ng (c:Nat) (t:T)
 | send (b:Nat) (v:Int) (c:Nat) (t:T)
 | recv (b:Nat) (c:Nat) (k:Int→T)
structure cf (T:Type) where
 la:List T
 bs:List (List Int)
section
variable {T:Type}
def gC (act:T→Ul T) (cap:List Nat) (s:cf T) (i:Nat) (t:T):Option (Nat×cf T):=
 match act t with
 | .halt=>none
 | .Ng c ib=>some (c,⟨s.la.set i ib,s.bs⟩)
 | .send b v c ib=>(s.bs[b]?).bind fun w=>(cap[b]?).bind fun k=>if w.length<k then some (c,⟨s.la.set i ib,s.bs.set b (w++[v])⟩) else none
 | .recv b c k=>(s.bs[b]?).bind fun w=>match w with | []=>none | v::w=>some (c,⟨s.la.set i (k v),s.bs.set b w⟩)
def KB (act:T→Ul T) (cap:List Nat) (s:cf T) (i:Nat):Option (Nat×cf T):=(s.la[i]?).bind fun t=>gC act cap s i t
inductive og (act:T→Ul T) (cap:List Nat) (s:cf T) (i:Nat):Nat→cf T→Prop
 | Ng {t ib:T} {c:Nat}:s.la[i]?=some t→act t=.Ng c ib→og act cap s i c ⟨s.la.set i ib,s.bs⟩
 | send {t ib:T} {c b k:Nat} {v:Int} {w:List Int}:s.la[i]?=some t→act t=.send b v c ib→s.bs[b]?=some w→cap[b]?=some k→w.length<k→og act cap s i c ⟨s.la.set i ib,s.bs.set b (w++[v])⟩
 | recv {t:T} {c b:Nat} {k:Int→T} {v:Int} {w:List Int}:s.la[i]?=some t→act t=.recv b c k→s.bs[b]?=some (v::w)→og act cap s i c ⟨s.la.set i (k v),s.bs.set b w⟩
theorem GD {act:T→Ul T}{cap:List Nat}{s g:cf T}{i c:Nat}:KB act cap s i=some (c,g) ↔ og act cap s i c g:=by
 constructor
 ·intro h;unfold KB at h;cases d:s.la[i]? with
  | none=>rw [d] at h; cases h
  | some t =>
   rw [d] at h;simp only [Option.bind_some] at h;unfold gC at h;cases a:act t with
   | halt=>rw [a] at h; cases h
   | Ng c' ib=>rw [a] at h; cases h; exact .Ng d a
   | send b v c' ib =>
    rw [a] at h;simp only at h;cases e:s.bs[b]? with
    | none=>rw [e] at h; cases h
    | some w =>
     rw [e] at h;simp only [Option.bind_some] at h;cases f:cap[b]? with
     | none=>rw [f] at h; cases h
     | some k =>
      rw [f] at h;simp only [Option.bind_some] at h;by_cases ia:w.length<k
      ·rw [if_pos ia] at h;cases h;exact .send d a e f ia
      ·rw [if_neg ia] at h;cases h
   | recv b c' k =>
    rw [a] at h;simp only at h;cases e:s.bs[b]? with
    | none=>rw [e] at h; cases h
    | some w =>
     rw [e] at h;simp only [Option.bind_some] at h;cases w with
     | nil=>cases h
     | cons v w=>cases h; exact .recv d a e
 ·intro h;unfold KB gC;cases h with
  | Ng d a=>rw [d]; simp only [Option.bind_some]; rw [a]
  | send d a e f ia=>rw [d]; simp only [Option.bind_some]; rw [a]; simp only; rw [e]; simp only [Option.bind_some]; rw [f]; simp only [Option.bind_some]; rw [if_pos ia]
  | recv d a e=>rw [d]; simp only [Option.bind_some]; rw [a]; simp only; rw [e]; rfl
structure Rs (act:T→Ul T) (O:Nat→T→Prop) (V:Nat→Int→Prop) (wr rd:Nat→Nat→Prop):Prop where
 Ng:∀ {i:Nat}{t ib:T}{c:Nat},O i t→act t=.Ng c ib→O i ib
 send:∀ {i:Nat}{t ib:T}{b c:Nat}{v:Int},O i t→act t=.send b v c ib→wr b i∧V b v∧O i ib
 recv:∀ {i:Nat}{t:T}{b c:Nat}{k:Int→T},O i t→act t=.recv b c k→rd b i∧∀ v,V b v→O i (k v)
 Fl:∀ {b i j:Nat},wr b i→wr b j→i=j
 oG:∀ {b i j:Nat},rd b i→rd b j→i=j
structure Vl (O:Nat→T→Prop) (V:Nat→Int→Prop) (s:cf T):Prop where
 la:∀ (i:Nat) (t:T),s.la[i]?=some t→O i t
 bs:∀ (b:Nat) (w:List Int),s.bs[b]?=some w→∀ v ∈ w,V b v
variable {act:T→Ul T}{cap:List Nat}{O:Nat→T→Prop}{V:Nat→Int→Prop}{wr rd:Nat→Nat→Prop}
theorem Vl.set {s:cf T}{i:Nat}{t:T}(h:Vl O V s) (a:O i t):Vl O V ⟨s.la.set i t,s.bs⟩:=by
 refine ⟨fun j u hu=>?_,h.bs⟩;simp only at hu;rw [List.getElem?_set] at hu;split at hu
 ·rename_i e;subst e;split at hu
  ·cases hu;exact a
  ·cases hu
 ·exact h.la j u hu
theorem Vl.box {s:cf T}{b:Nat}{w:List Int}(h:Vl O V s) (hw:∀ v ∈ w,V b v):Vl O V ⟨s.la,s.bs.set b w⟩:=by
 refine ⟨h.la,fun j u hu=>?_⟩;simp only at hu;rw [List.getElem?_set] at hu;split at hu
 ·rename_i e;subst e;split at hu
  ·cases hu;exact hw
  ·cases hu
 ·exact h.bs j u hu
theorem og.own (W:Rs act O V wr rd){s j:cf T}{i c:Nat}(h:og act cap s i c j) (a:Vl O V s):Vl O V j:=by
 cases h with
 | Ng e f=>exact a.set (W.Ng (a.la _ _ e) f)
 | @send t ib _ b k v w e f g n ia =>
  obtain ⟨-,l,m⟩:=W.send (a.la _ _ e) f;refine (a.set m).box (s:=⟨s.la.set i ib,s.bs⟩) fun x d=>?_;rcases List.mem_append.1 d with d | d
  ·exact a.bs _ _ g _ d
  ·rw [List.mem_singleton.1 d];exact l
 | @recv t _ b k v w e f g=>exact (a.set ((W.recv (a.la _ _ e) f).2 v (a.bs _ _ g _ (by simp)))).box (s:=⟨s.la.set i (k v),s.bs⟩) fun x d=>a.bs _ _ g _ (by simp [d])
theorem og.lO {s s1 s2:cf T}{i c d:Nat}(a:og act cap s i c s1) (b:og act cap s i d s2):c=d∧s1=s2:=by
 have e:=(GD.2 a).symm.trans (GD.2 b);cases e;exact ⟨rfl,rfl⟩
theorem Zg {α:Type}{l:List α}{i j:Nat}{a:α}(h:i≠j):(l.set i a)[j]?=l[j]?:=List.getElem?_set_ne h
theorem Bn {α:Type}{l:List α}{i:Nat}{a b:α}(h:l[i]?=some b):(l.set i a)[i]?=some a:=by
 rw [List.getElem?_set_self (List.getElem?_eq_some_iff.1 h).1]
theorem og.mO (W:Rs act O V wr rd){s s1 s2:cf T}{i j c d:Nat}(f:i≠j) (x:Vl O V s) (E:og act cap s i c s1) (A:og act cap s j d s2):∃ D,og act cap s1 j d D∧og act cap s2 i c D:=by
 have p:=Ne.symm f;cases E with
 | @Ng t ib _ n o =>
  cases A with
  | @Ng u h _ hu g=>exact ⟨⟨(s.la.set i ib).set j h,s.bs⟩,.Ng (by simp only; rw [Zg f]; exact hu) g,by
    rw [List.set_comm _ _ f];exact .Ng (s:=⟨s.la.set j h,s.bs⟩) (by simp only;rw [Zg p];exact n) o⟩
  | @send u h _ b k v w hu g hw r ia=>exact ⟨⟨(s.la.set i ib).set j h,s.bs.set b (w++[v])⟩,.send (s:=⟨s.la.set i ib,s.bs⟩) (by simp only; rw [Zg f]; exact hu) g hw r ia,by
    rw [List.set_comm _ _ f];exact .Ng (s:=⟨s.la.set j h,s.bs.set b (w++[v])⟩) (by simp only;rw [Zg p];exact n) o⟩
  | @recv u _ b k v w hu g hw=>exact ⟨⟨(s.la.set i ib).set j (k v),s.bs.set b w⟩,.recv (s:=⟨s.la.set i ib,s.bs⟩) (by simp only; rw [Zg f]; exact hu) g hw,by
    rw [List.set_comm _ _ f];exact .Ng (s:=⟨s.la.set j (k v),s.bs.set b w⟩) (by simp only;rw [Zg p];exact n) o⟩
 | @send t ib _ a k v w n o hw r ia =>
  have B:=(W.send (x.la _ _ n) o).1;cases A with
  | @Ng u h _ hu g=>exact ⟨⟨(s.la.set i ib).set j h,s.bs.set a (w++[v])⟩,.Ng (s:=⟨s.la.set i ib,s.bs.set a (w++[v])⟩) (by simp only; rw [Zg f]; exact hu) g,by
    rw [List.set_comm _ _ f];exact .send (s:=⟨s.la.set j h,s.bs⟩) (by simp only;rw [Zg p];exact n) o hw r ia⟩
  | @send u h _ b k' l w' hu g q y z =>
   have C:=(W.send (x.la _ _ hu) g).1;have m:a≠b:=fun e=>f (W.Fl B (e ▸ C));exact ⟨⟨(s.la.set i ib).set j h,(s.bs.set a (w++[v])).set b (w'++[l])⟩,.send (s:=⟨s.la.set i ib,s.bs.set a (w++[v])⟩) (by simp only;rw [Zg f];exact hu) g (by simp only;rw [Zg m];exact q) y z,by
    rw [List.set_comm _ _ f,List.set_comm _ _ m];exact .send (s:=⟨s.la.set j h,s.bs.set b (w'++[l])⟩) (by simp only;rw [Zg p];exact n) o (by simp only;rw [Zg (Ne.symm m)];exact hw) r ia⟩
  | @recv u _ b k' l w' hu g q =>
   by_cases m:a=b
   ·subst m;rw [hw] at q;obtain rfl:=Option.some.inj q;refine ⟨⟨(s.la.set i ib).set j (k' l),s.bs.set a (w'++[v])⟩,?_,?_⟩
    ·have:=og.recv (act:=act) (cap:=cap) (s:=⟨s.la.set i ib,s.bs.set a (l::w'++[v])⟩) (i:=j) (t:=u) (w:=w'++[v]) (v:=l) (by simp only;rw [Zg f];exact hu) g (by simp only;rw [Bn hw];rfl);simpa only [List.set_set] using this
    ·have:=og.send (act:=act) (cap:=cap) (s:=⟨s.la.set j (k' l),s.bs.set a w'⟩) (i:=i) (t:=t) (w:=w') (k:=k) (by simp only;rw [Zg p];exact n) o (by simp only;rw [Bn hw]) r (by simp only [List.length_cons] at ia;omega);rw [List.set_comm _ _ f];simpa only [List.set_set] using this
   ·exact ⟨⟨(s.la.set i ib).set j (k' l),(s.bs.set a (w++[v])).set b w'⟩,.recv (s:=⟨s.la.set i ib,s.bs.set a (w++[v])⟩) (by simp only;rw [Zg f];exact hu) g (by simp only;rw [Zg m];exact q),by
     rw [List.set_comm _ _ f,List.set_comm _ _ m];exact .send (s:=⟨s.la.set j (k' l),s.bs.set b w'⟩) (by simp only;rw [Zg p];exact n) o (by simp only;rw [Zg (Ne.symm m)];exact hw) r ia⟩
 | @recv t _ a k v w n o hw =>
  have B:=(W.recv (x.la _ _ n) o).1;cases A with
  | @Ng u h _ hu g=>exact ⟨⟨(s.la.set i (k v)).set j h,s.bs.set a w⟩,.Ng (s:=⟨s.la.set i (k v),s.bs.set a w⟩) (by simp only; rw [Zg f]; exact hu) g,by
    rw [List.set_comm _ _ f];exact .recv (s:=⟨s.la.set j h,s.bs⟩) (by simp only;rw [Zg p];exact n) o hw⟩
  | @send u h _ b k' l w' hu g q y z =>
   by_cases m:a=b
   ·subst m;rw [hw] at q;obtain rfl:=Option.some.inj q;refine ⟨⟨(s.la.set i (k v)).set j h,s.bs.set a (w++[l])⟩,?_,?_⟩
    ·have:=og.send (act:=act) (cap:=cap) (s:=⟨s.la.set i (k v),s.bs.set a w⟩) (i:=j) (t:=u) (w:=w) (k:=k') (by simp only;rw [Zg f];exact hu) g (by simp only;rw [Bn hw]) y (by simp only [List.length_cons] at z;omega);simpa only [List.set_set] using this
    ·have:=og.recv (act:=act) (cap:=cap) (s:=⟨s.la.set j h,s.bs.set a (v::w++[l])⟩) (i:=i) (t:=t) (w:=w++[l]) (v:=v) (by simp only;rw [Zg p];exact n) o (by simp only;rw [Bn hw];rfl);rw [List.set_comm _ _ f];simpa only [List.set_set] using this
   ·exact ⟨⟨(s.la.set i (k v)).set j h,(s.bs.set a w).set b (w'++[l])⟩,.send (s:=⟨s.la.set i (k v),s.bs.set a w⟩) (by simp only;rw [Zg f];exact hu) g (by simp only;rw [Zg m];exact q) y z,by
     rw [List.set_comm _ _ f,List.set_comm _ _ m];exact .recv (s:=⟨s.la.set j h,s.bs.set b (w'++[l])⟩) (by simp only;rw [Zg p];exact n) o (by simp only;rw [Zg (Ne.symm m)];exact hw)⟩
  | @recv u _ b k' l w' hu g q =>
   have C:=(W.recv (x.la _ _ hu) g).1;have m:a≠b:=fun e=>f (W.oG B (e ▸ C));exact ⟨⟨(s.la.set i (k v)).set j (k' l),(s.bs.set a w).set b w'⟩,.recv (s:=⟨s.la.set i (k v),s.bs.set a w⟩) (by simp only;rw [Zg f];exact hu) g (by simp only;rw [Zg m];exact q),by
    rw [List.set_comm _ _ f,List.set_comm _ _ m];exact .recv (s:=⟨s.la.set j (k' l),s.bs.set b w'⟩) (by simp only;rw [Zg p];exact n) o (by simp only;rw [Zg (Ne.symm m)];exact hw)⟩
inductive Mf (act:T→Ul T) (cap:List Nat):cf T→Nat→Nat→cf T→Prop
 | nil {s:cf T}:Mf act cap s 0 0 s
 | cons {s s1 e:cf T} {i c n d:Nat}:og act cap s i c s1→Mf act cap s1 n d e→Mf act cap s (n+1) (c+d) e
def tp (act:T→Ul T) (cap:List Nat) (s:cf T):Prop:=∀ i c a,¬ og act cap s i c a
theorem Mf.app {s s1 e:cf T}{n d m f:Nat}(h:Mf act cap s n d s1) (a:Mf act cap s1 m f e):Mf act cap s (n+m) (d+f) e:=by
 induction h with
 | nil=>simpa using a
 | @cons _ _ _ _ c n d k _ b =>
  have:=Mf.cons k (b a);rw [show n+1+m=(n+m)+1 by omega,Nat.add_assoc c d f];exact this
theorem Mf.one {s e:cf T}{i c:Nat}(h:og act cap s i c e):Mf act cap s 1 c e:=.cons h .nil
theorem Mf.own (W:Rs act O V wr rd){s e:cf T}{n d:Nat}(h:Mf act cap s n d e) (a:Vl O V s):Vl O V e:=by
 induction h with
 | nil=>exact a
 | cons k _ b=>exact b (k.own W a)
theorem Mf.step (W:Rs act O V wr rd){e:cf T}(he:tp act cap e):∀ (n:Nat){c:Nat}{s:cf T},Vl O V s→Mf act cap s n c e→∀ {i d:Nat}{s1:cf T},og act cap s i d s1→∃ m c',n=m+1∧c=d+c'∧Mf act cap s1 m c' e
 | 0,c,s,a,h,i,d,s1,k=>by
  cases h;exact (he _ _ _ k).elim
 | n+1,c,s,a,h,i,d,s1,k=>by
  cases h with
  | @cons _ s2 _ j jb _ c2 b f =>
  by_cases g:i=j
  ·subst g;obtain ⟨rfl,rfl⟩:=k.lO b;exact ⟨n,c2,rfl,rfl,f⟩
  ·obtain ⟨o,oa,a2⟩:=og.mO W g a k b;obtain ⟨m,c',rfl,rfl,l⟩:=Mf.step W he n (b.own W a) f a2;exact ⟨m+1,jb+c',rfl,by omega,.cons oa l⟩
theorem Mf.ends (W:Rs act O V wr rd){s e:cf T}{n c:Nat}(he:tp act cap e) (a:Vl O V s) (h:Mf act cap s n c e){m d:Nat}{s1:cf T}(k:Mf act cap s m d s1):∃ b f,n=m+b∧c=d+f∧Mf act cap s1 b f e:=by
 induction k generalizing n c with
 | nil=>exact ⟨n,c,by omega,by omega,h⟩
 | cons k1 _ g =>
  obtain ⟨m1,jb,rfl,rfl,i⟩:=Mf.step W he n a h k1;obtain ⟨m2,c2,rfl,rfl,j⟩:=g (k1.own W a) i;exact ⟨m2,c2,by omega,by omega,j⟩
theorem Mf.uniq (W:Rs act O V wr rd){s e a:cf T}{n c m d:Nat}(he:tp act cap e) (b:tp act cap a) (f:Vl O V s) (h:Mf act cap s n c e) (k:Mf act cap s m d a):n=m∧c=d∧e=a:=by
 obtain ⟨i,j,rfl,rfl,g⟩:=h.ends W he f k;cases g with
 | nil=>exact ⟨rfl,rfl,rfl⟩
 | cons k1 _=>exact (b _ _ _ k1).elim
end
end Go.Y
namespace Go.Y
open Go.Rb Go.ec
structure Core where
 ue:List hi
 Tb:List Vg
 now:Nat
 out:List Int
inductive Zl where
 | run (c:kh)
 | done
 | Fe (n:Int)
def Qd.core (t:Qd):Core:=⟨t.ue,t.Tb,t.now,t.out⟩
def Pf:kh→kh
 | .Hd (.recv n k)=>.recv n k
 | .Hd (.send n v k)=>.send n v k
 | c=>c
def Comm:kh→Prop
 | .recv _ _=>True
 | .send _ _ _=>True
 | .Hd (.recv _ _)=>True
 | .Hd (.send _ _ _)=>True
 | _=>False
inductive Of (E:oe):kh→Core→Nat→Core→Zl→Prop
 | Rw {x:Da} {s:Option Nat} {k:ff} {z:Core}:x.Kind=1∨x.Kind=2→Of E (.expr x s k) z 1 z (.run (.gf k x.N))
 | var {x:Da} {s:Option Nat} {k:ff} {z:Core} {i:Nat} {c:hi}:x.Kind=3→tm z.ue x.Name (z.ue.length+1) s=some i→z.ue[i]?=some c→Of E (.expr x s k) z 1 z (.run (.gf k c.v))
 | vz {x:Da} {s:Option Nat} {k:ff} {z:Core}:x.Kind=20→Of E (.expr x s k) z 1 z (.run (.recv x.Name k))
 | wz {x:Da} {s:Option Nat} {k:ff} {z:Core}:x.Kind≠1→x.Kind≠2→x.Kind≠3→x.Kind≠20→Of E (.expr x s k) z 1 z (.run (.all x.Kids s [] (.ex x k)))
 | fz {l:List Da} {s:Option Nat} {Sd:List Int} {k:gl} {z:Core} {x:Da}:l.length≠Sd.length→l[Sd.length]?=some x→Of E (.all l s Sd k) z 0 z (.run (.expr x s (.all l s Sd k)))
 | gz {l:List Da} {s:Option Nat} {Sd:List Int} {k:gl} {z:Core}:l.length=Sd.length→Of E (.all l s Sd k) z 0 z (.run (.Sd k Sd))
 | nil {s:Option Nat} {e:lh} {k:xe} {z:Core}:Of E (.stats [] s e k) z 0 z (.run (.Hd k))
 | stop {x:Ea} {l:List Ea} {s:Option Nat} {q k:xe} {z:Core}:x.Kind=6→Of E (.stats (x::l) s (.stop q) k) z 1 z (.run (.Hd q))
 | zz {x:Ea} {l:List Ea} {s:Option Nat} {e:lh} {k:xe} {z:Core}:x.Kind=4→Of E (.stats (x::l) s e k) z 1 z (.run (.rf x s e (.stats l s e k)))
 | st {x:Ea} {l:List Ea} {s:Option Nat} {e:lh} {k:xe} {z:Core}:x.Kind≠6→x.Kind≠4→Of E (.stats (x::l) s e k) z 1 z (.run (.expr x.X s (.stat (x::l) s e k)))
 | rf {x:Ea} {s:Option Nat} {e:lh} {k:xe} {z:Core}:Of E (.rf x s e k) z 0 z (.run (.expr x.X s (.rf x s e k)))
 | hz {l:List Da} {s:Option Nat} {Sd:List Int} {k:gl} {v:Int} {z:Core} {g:List Int}:app Sd [v]=some g→Of E (.gf (.all l s Sd k) v) z 0 z (.run (.all l s g k))
 | Ko {x:Ea} {l:List Ea} {s:Option Nat} {e:lh} {k:xe} {v:Int} {z:Core}:x.Kind=1→Of E (.gf (.stat (x::l) s e k) v) z 0 { z with ue:=z.ue++[⟨x.Name,v,s⟩] } (.run (.Hd (.stats l (some z.ue.length) e k)))
 | sset {x:Ea} {l:List Ea} {s:Option Nat} {e:lh} {k:xe} {v:Int} {z:Core} {i:Nat} {c:hi}:x.Kind=2→tm z.ue x.Name (z.ue.length+1) s=some i→z.ue[i]?=some c→Of E (.gf (.stat (x::l) s e k) v) z 0 { z with ue:=z.ue.set i { c with v:=v } } (.run (.Hd (.stats l s e k)))
 | Gq {x:Ea} {l:List Ea} {s:Option Nat} {e:lh} {k:xe} {v:Int} {z:Core}:x.Kind=3→Of E (.gf (.stat (x::l) s e k) v) z 0 z (.run (.stats (if v≠0 then x.Body else x.me) s e (.stats l s e k)))
 | sq {x:Ea} {l:List Ea} {s:Option Nat} {q:ff} {k:xe} {v:Int} {z:Core}:x.Kind=5→Of E (.gf (.stat (x::l) s (.ret q) k) v) z 0 z (.run (.gf q v))
 | nq {x:Ea} {l:List Ea} {s:Option Nat} {e:lh} {k:xe} {v:Int} {z:Core}:x.Kind=7→Of E (.gf (.stat (x::l) s e k) v) z 0 z (.run (.send x.Name v (.stats l s e k)))
 | tq {x:Ea} {l:List Ea} {s:Option Nat} {e:lh} {k:xe} {v:Int} {z:Core} {o:List Int}:x.Kind=8→app z.out [v]=some o→Of E (.gf (.stat (x::l) s e k) v) z 0 { z with out:=o } (.run (.Hd (.stats l s e k)))
 | Hq {x:Ea} {l:List Ea} {s:Option Nat} {e:lh} {k:xe} {v:Int} {z:Core}:x.Kind≠1→x.Kind≠2→x.Kind≠3→x.Kind≠5→x.Kind≠7→x.Kind≠8→Of E (.gf (.stat (x::l) s e k) v) z 0 z (.run (.Hd (.stats l s e k)))
 | iz {x:Ea} {s:Option Nat} {e:lh} {k:xe} {v:Int} {z:Core}:v=0→Of E (.gf (.rf x s e k) v) z 0 z (.run (.Hd k))
 | win {x:Ea} {s:Option Nat} {e:lh} {k:xe} {v:Int} {z:Core}:v≠0→Of E (.gf (.rf x s e k) v) z 0 z (.run (.stats x.Body s e (.rf x s e k)))
 | neg {x:Da} {k:ff} {l:List Int} {z:Core} {a:Int}:x.Kind=4→at_ l 0=some a→Of E (.Sd (.ex x k) l) z 0 z (.run (.gf k (Fm (-a))))
 | not {x:Da} {k:ff} {l:List Int} {z:Core} {a:Int}:x.Kind=5→at_ l 0=some a→Of E (.Sd (.ex x k) l) z 0 z (.run (.gf k (Fm (1 - a))))
 | call {x:Da} {k:ff} {l:List Int} {z:Core} {d:sa} {S:List hi} {s:Option Nat}:x.Kind=19→Ua E.defs x.Name=some d→Oj d.Params l z.ue none=some (S,s)→Of E (.Sd (.ex x k) l) z 0 { z with ue:=S } (.run (.stats d.Body s (.ret k) (.zero k)))
 | Fq {x:Da} {k b:ff} {l:List Int} {z:Core} {a:Int} {c:Vg} {u:Nat}:x.Kind=21→at_ l 0=some a→z.Tb[z.now]?=some c→c.up=some u→c.back=some b→Of E (.Sd (.ex x k) l) z 0 { z with Tb:=z.Tb.set z.now { c with Ck:=some k,going:=false },now:=u } (.run (.gf b a))
 | many {x:Da} {k:ff} {l:List Int} {z:Core}:x.Kind=22→(z.Tb.length:Int) - 1=30→Of E (.Sd (.ex x k) l) z 0 z (.Fe 5)
 | start {x:Da} {k:ff} {l:List Int} {z:Core} {d:sa} {S:List hi} {s:Option Nat}:x.Kind=22→(z.Tb.length:Int) - 1≠30→Ua E.defs x.Name=some d→Oj d.Params l z.ue none=some (S,s)→Of E (.Sd (.ex x k) l) z 0 { z with ue:=S,Tb:=z.Tb++[⟨d,s,false,false,false,none,none,none⟩] } (.run (.gf k (z.Tb.length - 1)))
 | res {x:Da} {k:ff} {l:List Int} {z:Core} {a b:Int}:x.Kind=23→at_ l 0=some a→at_ l 1=some b→0≤a∧a<(z.Tb.length:Int) - 1→Of E (.Sd (.ex x k) l) z 0 z (.run (.resume (a.toNat+1) b k))
 | alive {x:Da} {k:ff} {l:List Int} {z:Core} {a:Int} {c:Vg}:x.Kind=24→at_ l 0=some a→0≤a→z.Tb[a.toNat+1]?=some c→Of E (.Sd (.ex x k) l) z 0 z (.run (.gf k (ik !c.ended)))
 | jz {x:Da} {k:ff} {l:List Int} {z:Core}:x.Kind=9∨x.Kind=10→at_ l 1=some 0→Of E (.Sd (.ex x k) l) z 0 z (.Fe 1)
 | two {x:Da} {k:ff} {l:List Int} {z:Core} {a b v:Int}:x.Kind≠4∧x.Kind≠5∧x.Kind≠19∧x.Kind≠21∧x.Kind≠22∧x.Kind≠23∧x.Kind≠24→(x.Kind=9∨x.Kind=10→b≠0)→at_ l 0=some a→at_ l 1=some b→Ln x.Kind a b=some v→Of E (.Sd (.ex x k) l) z 0 z (.run (.gf k v))
 | zero {k:ff} {z:Core}:Of E (.Hd (.zero k)) z 0 z (.run (.gf k 0))
 | done {g u:Nat} {z:Core} {c:Vg} {b:ff}:z.Tb[g]?=some c→c.up=some u→c.back=some b→Of E (.Hd (.done g)) z 0 { z with Tb:=z.Tb.set g { c with ended:=true,going:=false },now:=u } (.run (.gf b 0))
 | stats {l:List Ea} {s:Option Nat} {e:lh} {k:xe} {z:Core}:Of E (.Hd (.stats l s e k)) z 0 z (.run (.stats l s e k))
 | kz {x:Ea} {s:Option Nat} {e:lh} {k:xe} {z:Core}:Of E (.Hd (.rf x s e k)) z 0 z (.run (.rf x s e k))
 | fin {z:Core}:Of E (.Hd .fin) z 0 z .done
 | Ti {d:sa} {z:Core}:Of E (.Hd (.Ti d)) z 0 z (.run (.stats d.Body none (.stop .fin) .fin))
 | gone {g:Nat} {v:Int} {k:ff} {z:Core} {c:Vg}:z.Tb[g]?=some c→c.ended=true→Of E (.resume g v k) z 0 z (.Fe 2)
 | busy {g:Nat} {v:Int} {k:ff} {z:Core} {c:Vg}:z.Tb[g]?=some c→c.ended≠true→c.going=true∨g=z.now→Of E (.resume g v k) z 0 z (.Fe 3)
 | on {g:Nat} {v:Int} {k o:ff} {z:Core} {c:Vg}:z.Tb[g]?=some c→c.ended≠true→¬ (c.going=true∨g=z.now)→c.begun=true→c.Ck=some o→Of E (.resume g v k) z 0 { z with Tb:=z.Tb.set g { c with going:=true,up:=some z.now,back:=some k },now:=g } (.run (.gf o v))
 | first {g:Nat} {v:Int} {k:ff} {z:Core} {c:Vg}:z.Tb[g]?=some c→c.ended≠true→¬ (c.going=true∨g=z.now)→c.begun≠true→Of E (.resume g v k) z 0 { z with Tb:=z.Tb.set g { c with going:=true,up:=some z.now,back:=some k,begun:=true },now:=g } (.run (.stats c.Cm.Body c.args (.stop (.done g)) (.done g)))
def eh (t:Qd) (bs:List Pd) (nd:Int) (x:Core):Zl→nk
 | .run c=>.call c ⟨{ t with ue:=x.ue,Tb:=x.Tb,now:=x.now,out:=x.out },bs,nd⟩
 | .done=>.ret none ⟨{ t with ue:=x.ue,Tb:=x.Tb,now:=x.now,out:=x.out,state:=4 },bs,nd⟩
 | .Fe n=>.ret none ⟨{ t with ue:=x.ue,Tb:=x.Tb,now:=x.now,out:=x.out,state:=5,Fe:=n },bs,nd⟩
inductive ZB:nk→nk→Prop
 | rfl (o:nk):ZB o o
 | ret (k:xe) (z:Zc):ZB (.ret (some k) z) (.call (.Hd k) z)
theorem Of.step {E:oe}{c:kh}{t:Qd}{bs:List Pd}{nd:Int}{n:Nat}{x:Core}{q:Zl}(h:Of E c t.core n x q) (u:n=0∨nd+1≤20000):∃ o,qe E c ⟨t,bs,nd⟩=some o∧ZB o (eh t bs (nd+n) x q):=by
 have m:∀ f,nd+1≤20000→hs ⟨t,bs,nd⟩ f=f ⟨t,bs,nd+1⟩:=fun f h=>by rw [hs,if_neg (by show ¬ (20000<nd+1);omega)]
 obtain ⟨ue,Tb,now,Yl,state,box,Fe,out⟩:=t
 change Of E c ⟨ue,Tb,now,out⟩ n x q at h
 cases h with
 | Rw h=>refine ⟨_,?_,.rfl _⟩; rw [qe,m _ (by omega),if_pos h]; rfl
 | var h d e =>
  refine ⟨_,?_,.rfl _⟩;rw [qe,m _ (by omega),if_neg (by omega),if_pos h];show (tm ue _ _ _).bind _=_;rw [show tm ue _ (ue.length+1) _=_ from d];simp only [Option.bind_some];show (ue[_]?).bind _=_;rw [show ue[_]?=_ from e];rfl
 | vz h=>refine ⟨_,?_,.rfl _⟩; rw [qe,m _ (by omega),if_neg (by omega),if_neg (by omega),if_pos h]; rfl
 | wz p d e g=>refine ⟨_,?_,.rfl _⟩; rw [qe,m _ (by omega),if_neg (by omega),if_neg (by omega),if_neg g]; rfl
 | fz h d=>refine ⟨_,?_,.rfl _⟩; rw [qe,if_neg h,d]; simp [eh]
 | gz h=>refine ⟨_,?_,.rfl _⟩; rw [qe,if_pos h]; simp [eh]
 | nil=>refine ⟨_,?_,.ret _ _⟩; rw [qe]; simp [eh]
 | stop h=>refine ⟨_,?_,.ret _ _⟩; rw [qe,m _ (by omega),if_pos h]; rfl
 | zz h=>refine ⟨_,?_,.rfl _⟩; rw [qe,m _ (by omega),if_neg (by omega),if_pos h]; rfl
 | st p d=>refine ⟨_,?_,.rfl _⟩; rw [qe,m _ (by omega),if_neg p,if_neg d]; rfl
 | rf=>refine ⟨_,?_,.rfl _⟩; rw [qe]; simp [eh]
 | hz h=>refine ⟨_,?_,.rfl _⟩; rw [qe,h]; simp [eh]
 | Ko h=>refine ⟨_,?_,.ret _ _⟩; rw [qe]; simp [lp,h,eh,Zc.task]
 | sset h d e =>
  refine ⟨_,?_,.ret _ _⟩;rw [qe];unfold lp;rw [if_neg (by omega),if_pos h,show tm ue _ (ue.length+1) _=_ from d];simp only [Option.bind_some];rw [show ue[_]?=_ from e];simp [eh,Zc.task]
 | Gq h=>refine ⟨_,?_,.rfl _⟩; rw [qe]; simp [lp,h,eh,Zc.task]
 | sq h=>refine ⟨_,?_,.rfl _⟩; rw [qe]; simp [lp,h,eh,Zc.task]
 | nq h=>refine ⟨_,?_,.rfl _⟩; rw [qe]; simp [lp,h,eh,Zc.task]
 | tq h d =>
  refine ⟨_,?_,.ret _ _⟩;rw [qe];unfold lp;rw [if_neg (by omega),if_neg (by omega),if_neg (by omega),if_neg (by omega),if_neg (by omega),if_pos h,show app out _=_ from d];simp [eh,Zc.task]
 | Hq p d e g j s=>refine ⟨_,?_,.ret _ _⟩; rw [qe]; simp [lp,p,d,e,g,j,s,eh,Zc.task]
 | iz h=>refine ⟨_,?_,.ret _ _⟩; rw [qe,if_pos h]; simp [eh]
 | win h=>refine ⟨_,?_,.rfl _⟩; rw [qe,if_neg h]; simp [eh]
 | neg h d=>refine ⟨_,?_,.rfl _⟩; rw [qe]; simp [Mn,h,d,eh,Zc.task]
 | not h d=>refine ⟨_,?_,.rfl _⟩; rw [qe]; simp [Mn,h,d,eh,Zc.task]
 | call h d e =>
  refine ⟨_,?_,.rfl _⟩;rw [qe];rw [Mn];rw [if_neg (by omega),if_neg (by omega),if_pos h,d];simp only [Option.bind_some];rw [show Oj _ _ ue _=_ from e];simp [eh,Zc.task]
 | Fq h d e g j =>
  have r:Tb[now]?=some _:=e;refine ⟨_,?_,.rfl _⟩;rw [qe];rw [Mn];rw [if_neg (by omega),if_neg (by omega),if_neg (by omega),if_pos h,d];simp only [Option.bind_some];rw [r];simp only [Option.bind_some];rw [g];simp only [Option.bind_some];rw [j];simp only [Option.bind_some];simp [eh,Zc.task,Qd.jn,r,g,j]
 | many h d =>
  dsimp only at *;refine ⟨_,?_,.rfl _⟩;rw [qe];rw [Mn];rw [if_neg (by omega),if_neg (by omega),if_neg (by omega),if_neg (by omega),if_pos h,if_pos d];simp [eh,Zc.task,qs]
 | start h d e g =>
  dsimp only at *;refine ⟨_,?_,.rfl _⟩;rw [qe];rw [Mn];rw [if_neg (by omega),if_neg (by omega),if_neg (by omega),if_neg (by omega),if_pos h,if_neg d,e];simp only [Option.bind_some];rw [show Oj _ _ ue _=_ from g];simp [eh,Zc.task]
 | res h d e g =>
  dsimp only at *;refine ⟨_,?_,.rfl _⟩;rw [qe];rw [Mn];rw [if_neg (by omega),if_neg (by omega),if_neg (by omega),if_neg (by omega),if_neg (by omega),if_pos h,d];simp only [Option.bind_some];rw [e];simp only [Option.bind_some];rw [if_pos g];simp [eh]
 | alive h d e g =>
  refine ⟨_,?_,.rfl _⟩;rw [qe];rw [Mn];rw [if_neg (by omega),if_neg (by omega),if_neg (by omega),if_neg (by omega),if_neg (by omega),if_neg (by omega),if_pos h,d];simp only [Option.bind_some];rw [if_pos e,show Tb[_]?=_ from g];simp [eh]
 | jz h d =>
  refine ⟨_,?_,.rfl _⟩;rw [qe];rw [Mn];rw [if_neg (by omega),if_neg (by omega),if_neg (by omega),if_neg (by omega),if_neg (by omega),if_neg (by omega),if_neg (by omega),if_pos h,d];simp [eh,Zc.task,qs]
 | @two x k l z a b v h d e g j =>
  refine ⟨_,?_,.rfl _⟩;rw [qe];rw [Mn];rw [if_neg (by omega),if_neg (by omega),if_neg (by omega),if_neg (by omega),if_neg (by omega),if_neg (by omega),if_neg (by omega),e,g];simp only [Option.bind_some];by_cases c:x.Kind=9∨x.Kind=10
  ·rw [if_pos c];simp [d c,j,eh]
  ·rw [if_neg c];simp [j,eh]
 | zero=>refine ⟨_,?_,.rfl _⟩; rw [qe]; simp [eh]
 | done h d e =>
  have i:Tb[_]?=some _:=h;refine ⟨_,?_,.rfl _⟩;rw [qe];simp only [i,Option.bind_some,d,e];simp [eh,Zc.task,Qd.jn,i,d,e]
 | stats=>refine ⟨_,?_,.rfl _⟩; rw [qe]; simp [eh]
 | kz=>refine ⟨_,?_,.rfl _⟩; rw [qe]; simp [eh]
 | fin=>refine ⟨_,?_,.rfl _⟩; rw [qe]; simp [eh,Zc.task]
 | Ti=>refine ⟨_,?_,.rfl _⟩; rw [qe]; simp [eh]
 | gone h d =>
  have i:Tb[_]?=some _:=h;refine ⟨_,?_,.rfl _⟩;rw [qe];simp only [Dt,i,Option.bind_some];rw [if_pos d];simp [eh,Zc.task,qs]
 | busy h d e =>
  dsimp only at e;have i:Tb[_]?=some _:=h;refine ⟨_,?_,.rfl _⟩;rw [qe];simp only [Dt,i,Option.bind_some];rw [if_neg d,if_pos e];simp [eh,Zc.task,qs]
 | on h d e g j =>
  dsimp only at e;have i:Tb[_]?=some _:=h;refine ⟨_,?_,.rfl _⟩;rw [qe];simp only [Dt,i,Option.bind_some];rw [if_neg d,if_neg e,if_pos g,j];simp [eh,Zc.task,Qd.jn,i,j]
 | first h d e g =>
  dsimp only at e;have i:Tb[_]?=some _:=h;refine ⟨_,?_,.rfl _⟩;rw [qe];simp only [Dt,i,Option.bind_some];rw [if_neg d,if_neg e,if_neg g];obtain ⟨ia,he⟩:=List.getElem?_eq_some_iff.1 i;simp [eh,Zc.task,Qd.jn,i,ia,he]
end Go.Y
namespace Go.Y
open Go.Rb Go.ec
structure lg where
 Vd:List sa
 Ef:List (Te×Option Nat×Sa)
structure lg.le (C Ug:lg):Prop where
 Vd:∀ (i:Nat) (d:sa),C.Vd[i]?=some d→Ug.Vd[i]?=some d
 Ef:∀ (i:Nat) (c:Te×Option Nat×Sa),C.Ef[i]?=some c→Ug.Ef[i]?=some c
theorem lg.le.r {C:lg}:C.le C:=⟨fun _ _ h=>h,fun _ _ h=>h⟩
theorem Fo {α:Type}{l m:List α}{i:Nat}{a:α}(h:l[i]?=some a):(l++m)[i]?=some a:=by
 rw [List.getElem?_append_left (List.getElem?_eq_some_iff.1 h).1];exact h
theorem lg.le.app {C:lg}{a:List sa}{b:List (Te×Option Nat×Sa)}:C.le ⟨C.Vd++a,C.Ef++b⟩:=⟨fun _ _ h=>Fo h,fun _ _ h=>Fo h⟩
def si (p:pb) (C:lg) (t:Sa) (v:Int):Prop :=
 (t.Kind=2→v=0∨v=1)∧(t.Kind=3→∃ (j:Nat) (d:sa),v=(j:Int)∧C.Vd[j+1]?=some d∧Ua p.named t.bc=some d)
theorem si.up {p:pb}{C Ug:lg}(l:C.le Ug){t:Sa}{v:Int}(h:si p C t v):si p Ug t v:=⟨h.1,fun k=>by
 obtain ⟨j,d,a,b,c⟩:=h.2 k;exact ⟨j,d,a,l.Vd _ _ b,c⟩⟩
theorem HI {t:Sa}(h:t.Kind=3):Lc t=t:=by unfold Lc;rw [if_neg (by omega)]
theorem si.bare {p:pb}{C:lg}{t:Sa}{v:Int}:si p C (Lc t) v ↔ si p C t v:=by
 by_cases h:t.Kind=3
 ·rw [HI h]
 ·unfold si;rw [Kl];exact ⟨fun k=>⟨k.1,fun e=>absurd e h⟩,fun k=>⟨k.1,fun e=>absurd e h⟩⟩
theorem si.plain {p:pb}{C:lg}{t:Sa}{v:Int}(a:t.Kind=2→v=0∨v=1) (h:t.Kind≠3):si p C t v:=⟨a,fun k=>absurd k h⟩
theorem si.num {p:pb}{C:lg}{v:Int}:si p C ⟨1,[]⟩ v:=.plain (fun h=>by simp at h) (by simp)
theorem si.bool {p:pb}{C:lg}{v:Int}(h:v=0∨v=1):si p C ⟨2,[]⟩ v:=.plain (fun _=>h) (by simp)
theorem si.yN {p:pb}{C:lg}{b:Bool}:si p C ⟨2,[]⟩ (ik b):=.bool (by cases b<;>simp [ik])
inductive Mm (Ef:List (Te×Option Nat×Sa)) (n:Te):Option Nat→Nat→Sa→Prop
 | here {i:Nat} {u:Option Nat} {t:Sa}:Ef[i]?=some (n,u,t)→Mm Ef n (some i) i t
 | up {i j:Nat} {a:Te} {u:Option Nat} {t ib:Sa}:Ef[i]?=some (a,u,ib)→a≠n→Mm Ef n u j t→Mm Ef n (some i) j t
theorem Mm.mono {Ef a:List (Te×Option Nat×Sa)}(l:∀ (i:Nat) (c:Te×Option Nat×Sa),Ef[i]?=some c→a[i]?=some c){n:Te}{s:Option Nat}{i:Nat}{t:Sa}(h:Mm Ef n s i t):Mm a n s i t:=by
 induction h with
 | here h=>exact .here (l _ _ h)
 | up h b _ d=>exact .up (l _ _ h) b d
theorem Mm.get {Ef:List (Te×Option Nat×Sa)}{n:Te}{s:Option Nat}{i:Nat}{t:Sa}(h:Mm Ef n s i t):∃ u,Ef[i]?=some (n,u,t):=by
 induction h with
 | here h=>exact ⟨_,h⟩
 | up _ _ _ a=>exact a
structure Env (C:lg) (s:Option Nat) (B:Yd):Prop where
 ok:∀ j,s=some j→j<C.Ef.length
 at_:∀ (n:Te) (t:Sa),ck B n=some t→∃ i,Mm C.Ef n s i t
theorem lg.le.len {C Ug:lg}(l:C.le Ug){j:Nat}(h:j<C.Ef.length):j<Ug.Ef.length:=(List.getElem?_eq_some_iff.1 (l.Ef _ _ (List.getElem?_eq_getElem h))).1
theorem Env.up {C Ug:lg}(l:C.le Ug){s:Option Nat}{B:Yd}(h:Env C s B):Env Ug s B:=⟨fun j e=>l.len (h.ok j e),fun n t e=>by
 obtain ⟨i,h⟩:=h.at_ n t e;exact ⟨i,h.mono l.Ef⟩⟩
theorem KE (B:Yd) (n:Te):ck (B++[[]]) n=ck B n:=by
 unfold ck;rw [List.reverse_append,List.reverse_singleton,List.singleton_append,List.findSome?_cons];rfl
theorem Env.ba {C:lg}{s:Option Nat}{B:Yd}(h:Env C s B):Env C s (B++[[]]):=⟨h.ok,fun n t e=>h.at_ n t (by rwa [KE] at e)⟩
theorem Env.nil {C:lg}:Env C none ([[]]++[[]]):=⟨fun j e=>(by cases e),fun n t e=>by rw [KE] at e;cases e⟩
structure bm (p:pb) (C:lg) (S:List hi):Prop where
 len:S.length=C.Ef.length
 at_:∀ (i:Nat) (c:hi),S[i]?=some c→∃ t,C.Ef[i]?=some (c.name,c.up,t)∧(∀ j,c.up=some j→j<i)∧si p C t c.v
theorem bm.get {p:pb}{C:lg}{S:List hi}(h:bm p C S){i:Nat}{n:Te}{u:Option Nat}{t:Sa}(e:C.Ef[i]?=some (n,u,t)):∃ c,S[i]?=some c∧c.name=n∧c.up=u∧(∀ j,u=some j→j<i)∧si p C t c.v:=by
 have ia:=(List.getElem?_eq_some_iff.1 e).1;rw [← h.len] at ia;have a:S[i]?=some S[i]:=List.getElem?_eq_getElem ia;obtain ⟨ib,b,d,f⟩:=h.at_ _ _ a;rw [e] at b;cases b;exact ⟨_,a,rfl,rfl,d,f⟩
theorem Mm.find {p:pb}{C:lg}{S:List hi}(f:bm p C S){n:Te}{s:Option Nat}{i:Nat}{t:Sa}(h:Mm C.Ef n s i t):∀ fu,(∀ i0,s=some i0→i0<fu)→tm S n fu s=some i:=by
 induction h with
 | @here i u t h =>
  intro fu a;obtain ⟨c,b,d,-⟩:=f.get h;cases fu with
  | zero=>have:=a _ rfl; omega
  | succ fu=>rw [tm,b]; simp [d]
 | @up i j m u t ib h d _ g =>
  intro fu a;obtain ⟨c,b,k,l,Ue,-⟩:=f.get h;cases fu with
  | zero=>have:=a _ rfl; omega
  | succ fu =>
   rw [tm,b];simp only [Option.bind_some,k,if_neg d,l];have:=a _ rfl;exact g fu fun i0 e=>by have:=Ue _ e;omega
theorem Mm.found {p:pb}{C:lg}{S:List hi}(a:bm p C S){n:Te}{s:Option Nat}{i:Nat}{t:Sa}(h:Mm C.Ef n s i t):∃ c,tm S n (S.length+1) s=some i∧S[i]?=some c∧c.name=n∧C.Ef[i]?=some (n,c.up,t)∧si p C t c.v:=by
 obtain ⟨u,hu⟩:=h.get;obtain ⟨c,b,d,rfl,j,f⟩:=a.get hu;refine ⟨c,h.find a _ fun i0 e=>?_,b,d,hu,f⟩;have:∃ x,C.Ef[i0]?=some x:=by
  subst e;cases h with
  | here h=>exact ⟨_,h⟩
  | up h _ _=>exact ⟨_,h⟩
 obtain ⟨x,g⟩:=this;have:=(List.getElem?_eq_some_iff.1 g).1;rw [← a.len] at this;omega
def yp (C:lg) (g:Nat) (d:sa):Prop:=d.Kind=3→C.Vd[g]?=some d
theorem yp.up {C Ug:lg}(l:C.le Ug){g:Nat}{d:sa}(h:yp C g d):yp Ug g d:=fun k=>l.Vd _ _ (h k)
structure dh where
 c:Te→Prop
 s:Te→Prop
 r:Te→Prop
inductive cx (U:dh):Da→Prop
 | mk {x:Da}:(x.Kind=19∨x.Kind=22→U.c x.Name)→(x.Kind=20→U.r x.Name)→(∀ y ∈ x.Kids,cx U y)→cx U x
inductive dx (U:dh):Ea→Prop
 | mk {x:Ea}:(x.Kind=7→U.s x.Name)→(x.Kind≠6→cx U x.X)→(x.Kind=3∨x.Kind=4→∀ y ∈ x.Body,dx U y)→(x.Kind=3→∀ y ∈ x.me,dx U y)→dx U x
def cm (U:dh) (x:Da):Prop:=(∃ k,Qw k x)∧cx U x
def rj (U:dh) (l:List Ea):Prop:=(∃ k,∀ y ∈ l,gu k y)∧∀ y ∈ l,dx U y
structure xv (p:pb) (U:dh) (d:sa) (B:Yd) (l:List Da) (la:List Sa) (m:Nat):Prop where
 len:l.length=la.length
 le:l.length≤100
 at_:∀ (i:Nat) (y:Da) (t:Sa),m≤i→l[i]?=some y→la[i]?=some t→bf p d B y t∧cm U y
inductive Zn (p:pb) (U:dh) (d:sa) (x:Da):List Sa→Sa→Prop
 | neg:x.Kind=4→Zn p U d x [⟨1,[]⟩] ⟨1,[]⟩
 | not:x.Kind=5→Zn p U d x [⟨2,[]⟩] ⟨2,[]⟩
 | bx:6≤x.Kind∧x.Kind≤10→Zn p U d x [⟨1,[]⟩,⟨1,[]⟩] ⟨1,[]⟩
 | eq {t:Sa}:x.Kind=11∨x.Kind=12→t.Kind≠3→Zn p U d x [t,t] ⟨2,[]⟩
 | lt:13≤x.Kind∧x.Kind≤16→Zn p U d x [⟨1,[]⟩,⟨1,[]⟩] ⟨2,[]⟩
 | cl:17≤x.Kind∧x.Kind≤18→Zn p U d x [⟨2,[]⟩,⟨2,[]⟩] ⟨2,[]⟩
 | call {f:sa}:x.Kind=19→U.c x.Name→Ua p.named x.Name=some f→f.Kind=2→Zn p U d x (f.Params.map fun q=>Lc q.vb) (Lc f.vb)
 | Fq:x.Kind=21→d.Kind=3→Zn p U d x [Lc d.vb] (Lc d.Cd)
 | start {f:sa}:x.Kind=22→U.c x.Name→Ua p.named x.Name=some f→f.Kind=3→Zn p U d x (f.Params.map fun q=>Lc q.vb) ⟨3,x.Name⟩
 | resume {g:Nm} {f:sa}:x.Kind=23→Ua p.named g=some f→f.Kind=3→Zn p U d x [⟨3,g⟩,Lc f.Cd] (Lc f.vb)
 | alive {g:Nm} {f:sa}:x.Kind=24→Ua p.named g=some f→f.Kind=3→Zn p U d x [⟨3,g⟩] ⟨2,[]⟩
inductive Hr (p:pb) (U:dh) (d:sa):Yd→Ea→Sa→Yd→Prop
 | Ko {B:Yd} {s:Ea} {t:Sa} (h:B.length - 1<B.length):s.Kind=1→ck B s.Name=none→Hr p U d B s t (B.set (B.length - 1) (zd B[B.length - 1] s.Name t))
 | sset {B:Yd} {s:Ea} {t:Sa}:s.Kind=2→ck B s.Name=some t→Hr p U d B s (Lc t) B
 | Gq {B a b:Yd} {s:Ea}:s.Kind=3→sk p d (B++[[]]) s.Body a→sk p d (B++[[]]) s.me b→Hr p U d B s ⟨2,[]⟩ B
 | sq {B:Yd} {s:Ea}:s.Kind=5→d.Kind=2→Hr p U d B s (Lc d.vb) B
 | nq {B:Yd} {s:Ea} {f:sa}:s.Kind=7→U.s s.Name→Ua p.named s.Name=some f→f.Kind=1→Hr p U d B s (Lc f.vb) B
 | tq {B:Yd} {s:Ea} {t:Sa}:s.Kind=8→t.Kind≠3→Hr p U d B s t B
 | Hq {B:Yd} {s:Ea} {t:Sa}:s.Kind=9→Hr p U d B s t B
def Xs (p:pb) (C:lg) (la:List Sa) (vs:List Int):Prop:=∀ (i:Nat) (t:Sa) (v:Int),la[i]?=some t→vs[i]?=some v→si p C t v
theorem Xs.up {p:pb}{C Ug:lg}(l:C.le Ug){la:List Sa}{vs:List Int}(h:Xs p C la vs):Xs p Ug la vs:=fun i t v a b=>(h i t v a b).up l
mutual
def ql (p:pb) (U:dh) (C:lg) (g:Nat):ff→Sa→Prop
 | .all l s Sd k,t=>∃ d B la,yp C g d∧Env C s B∧xv p U d B l la (Sd.length+1)∧Xs p C la Sd∧la[Sd.length]?=some t∧iu p U C g k la
 | .stat l s e k,t=>∃ d B a b x r,l=x::r∧yp C g d∧Env C s B∧Hr p U d B x t a∧sk p d a r b∧rj U l∧zp p U C g e d∧qk p U C g k
 | .rf x s e k,t=>t=⟨2,[]⟩∧∃ d B a,yp C g d∧Env C s B∧x.Kind=4∧bf p d B x.X ⟨2,[]⟩∧sk p d (B++[[]]) x.Body a∧rj U [x]∧zp p U C g e d∧qk p U C g k
def iu (p:pb) (U:dh) (C:lg) (g:Nat):gl→List Sa→Prop
 | .ex x k,la=>∃ d t,yp C g d∧Zn p U d x la t∧ql p U C g k t
def qk (p:pb) (U:dh) (C:lg) (g:Nat):xe→Prop
 | .zero k=>∃ t,t.Kind≠3∧ql p U C g k t
 | .recv n k=>∃ f,U.r n∧Ua p.named n=some f∧f.Kind=1∧ql p U C g k (Lc f.vb)
 | .send n v k=>∃ f,U.s n∧Ua p.named n=some f∧f.Kind=1∧si p C (Lc f.vb) v∧qk p U C g k
 | .done b=>b=g∧1≤g
 | .stats l s e k=>∃ d B a,yp C g d∧Env C s B∧sk p d B l a∧rj U l∧zp p U C g e d∧qk p U C g k
 | .rf x s e k=>∃ d B c,yp C g d∧Env C s B∧x.Kind=4∧bf p d B x.X ⟨2,[]⟩∧sk p d (B++[[]]) x.Body c∧rj U [x]∧zp p U C g e d∧qk p U C g k
 | .fin=>g=0
 | .Ti d=>g=0∧d.Kind=4∧rj U d.Body∧∃ a,sk p d ([[]]++[[]]) d.Body a
def zp (p:pb) (U:dh) (C:lg) (g:Nat):lh→sa→Prop
 | .ret k,d=>d.Kind=2∧ql p U C g k (Lc d.vb)
 | .stop k,d=>d.Kind≠2∧qk p U C g k
end
section
variable {p:pb}{U:dh}{C Ug:lg}(l:C.le Ug){g:Nat}
include l
mutual
theorem ql.up:∀ {k:ff}{t:Sa},ql p U C g k t→ql p U Ug g k t
 | .all ..,_,⟨d,B,la,a,b,c,e,f,h⟩=>⟨d,B,la,a.up l,b.up l,c,e.up l,f,iu.up h⟩
 | .stat ..,_,⟨d,B,i,n,x,r,a,b,c,e,f,h,j,m⟩=>⟨d,B,i,n,x,r,a,b.up l,c.up l,e,f,h,zp.up j,qk.up m⟩
 | .rf ..,_,⟨o,d,B,i,a,b,c,e,f,h,j,m⟩=>⟨o,d,B,i,a.up l,b.up l,c,e,f,h,zp.up j,qk.up m⟩
theorem iu.up:∀ {k:gl}{la:List Sa},iu p U C g k la→iu p U Ug g k la
 | .ex ..,_,⟨d,t,a,b,c⟩=>⟨d,t,a.up l,b,ql.up c⟩
theorem qk.up:∀ {k:xe},qk p U C g k→qk p U Ug g k
 | .zero ..,⟨t,a,b⟩=>⟨t,a,ql.up b⟩
 | .recv ..,⟨f,i,a,b,c⟩=>⟨f,i,a,b,ql.up c⟩
 | .send ..,⟨f,i,a,b,c,e⟩=>⟨f,i,a,b,c.up l,qk.up e⟩
 | .done ..,h=>h
 | .stats ..,⟨d,B,n,a,b,c,e,j,m⟩=>⟨d,B,n,a.up l,b.up l,c,e,zp.up j,qk.up m⟩
 | .rf ..,⟨d,B,o,a,b,c,e,j,m,q,r⟩=>⟨d,B,o,a.up l,b.up l,c,e,j,m,zp.up q,qk.up r⟩
 | .fin,h=>h
 | .Ti ..,h=>h
theorem zp.up:∀ {e:lh}{d:sa},zp p U C g e d→zp p U Ug g e d
 | .ret ..,_,⟨a,b⟩=>⟨a,ql.up b⟩
 | .stop ..,_,⟨a,b⟩=>⟨a,qk.up b⟩
end
end
structure yv (p:pb) (U:dh) (C:lg) (g:Nat) (c:Vg):Prop where
 d:C.Vd[g]?=some c.Cm
 xd:1≤g→c.Cm.Kind=3∧∃ n,Ua p.named n=some c.Cm∧U.c n
 fresh:1≤g→c.begun=false→c.going=false∧c.ended=false∧Env C c.args [Ns c.Cm]
 held:1≤g→c.begun=true→c.going=false→c.ended=false→∃ k,c.Ck=some k∧ql p U C g k (Lc c.Cm.Cd)
 go:1≤g→c.going=true→c.begun=true∧c.ended=false∧∃ u b,c.up=some u∧c.back=some b∧ql p U C u b (Lc c.Cm.vb)
 zero:g=0→c.going=false∧c.ended=false
theorem yv.le {p:pb}{U:dh}{C Ug:lg}(l:C.le Ug){g:Nat}{c:Vg}(h:yv p U C g c):yv p U Ug g c :=
 ⟨l.Vd _ _ h.d,h.xd,fun a b=>⟨(h.fresh a b).1,(h.fresh a b).2.1,(h.fresh a b).2.2.up l⟩,fun a b e f=>by
  obtain ⟨k,k1,i⟩:=h.held a b e f;exact ⟨k,k1,i.up l⟩,fun a b=>by
  obtain ⟨j,m,u,Ic,n,o,q⟩:=h.go a b;exact ⟨j,m,u,Ic,n,o,q.up l⟩,h.zero⟩
inductive kn (Tb:List Vg):Nat→List Nat→Prop
 | main:kn Tb 0 []
 | up {g u:Nat} {c:Vg} {L:List Nat}:1≤g→Tb[g]?=some c→c.going=true→c.up=some u→kn Tb u L→kn Tb g (g::L)
theorem kn.set {Tb:List Vg}{g j:Nat}{L:List Nat}{c:Vg}(h:kn Tb g L) (a:j ∉ L):kn (Tb.set j c) g L:=by
 induction h with
 | main=>exact .main
 | @up g u c' L b d e f _ i =>
  simp only [List.mem_cons,not_or] at a;exact .up b (by rw [List.getElem?_set_ne a.1];exact d) e f (i a.2)
theorem kn.app {Tb m:List Vg}{g:Nat}{L:List Nat}(h:kn Tb g L):kn (Tb++m) g L:=by
 induction h with
 | main=>exact .main
 | up a b c d _ e=>exact .up a (Fo b) c d e
theorem kn.going {Tb:List Vg}{g:Nat}{L:List Nat}(h:kn Tb g L):∀ j ∈ L,∃ c,Tb[j]?=some c∧c.going=true:=by
 induction h with
 | main=>intro j a; cases a
 | up f b d i _ e =>
  intro j a;rcases List.mem_cons.1 a with rfl | a
  ·exact ⟨_,b,d⟩
  ·exact e j a
structure dk (p:pb) (U:dh) (C:lg) (L:List Nat) (z:Core):Prop where
 gd:bm p C z.ue
 Ar:z.Tb.length=C.Vd.length
 Vd:∀ (g:Nat) (c:Vg),z.Tb[g]?=some c→yv p U C g c
 pos:1≤z.Tb.length
 le:z.Tb.length≤31
 ju:kn z.Tb z.now L
 nd:L.Nodup
 all:∀ (g:Nat) (c:Vg),z.Tb[g]?=some c→c.going=true→g ∈ L
 t0:∀ d,C.Vd[0]?=some d→d.Kind≠3
def Cj (p:pb) (U:dh) (C:lg) (g:Nat):kh→Prop
 | .expr x s k=>∃ d B t,yp C g d∧Env C s B∧bf p d B x t∧cm U x∧ql p U C g k t
 | .all l s Sd k=>∃ d B la,yp C g d∧Env C s B∧xv p U d B l la Sd.length∧Xs p C la Sd∧Sd.length≤l.length∧iu p U C g k la
 | .stats l s e k=>qk p U C g (.stats l s e k)
 | .rf x s e k=>qk p U C g (.rf x s e k)
 | .gf k v=>∃ t,ql p U C g k t∧si p C t v
 | .Sd k l=>∃ la,iu p U C g k la∧Xs p C la l∧l.length=la.length
 | .Hd k=>qk p U C g k
 | .recv n k=>qk p U C g (.recv n k)
 | .send n v k=>qk p U C g (.send n v k)
 | .resume a v k=>∃ f,1≤a∧C.Vd[a]?=some f∧si p C (Lc f.Cd) v∧ql p U C g k (Lc f.vb)
structure ln (p:pb) (U:dh) (E:oe):Prop where
 xa:∀ n f,Ua p.named n=some f→vm p f
 Eh:∀ n f,U.c n→Ua p.named n=some f→f.Kind≠1→rj U f.Body
 ty:∀ n f,Ua p.named n=some f→f.Kind≠1→∃ a,sk p f ([if f.Kind=4 then [] else Ns f]++[[]]) f.Body a
 Pq:∀ n,Ua E.defs n=Ua p.named n
 Ae:∀ n f,Ua p.named n=some f→f.Kind=1→∃ i:Nat,Ua E.order n=some (i:Int)
end Go.Y
namespace Go.Y
open Go.Rb Go.ec
mutual
def Xh:ff→Nat
 | .all _ _ _ k=>14+zl k
 | .stat _ _ e k=>24+max (Ap e) (Gi k)
 | .rf _ _ e k=>22+max (Ap e) (Gi k)
def zl:gl→Nat
 | .ex _ k=>8+Xh k
def Gi:xe→Nat
 | .zero k=>2+Xh k
 | .recv _ k=>2+Xh k
 | .send _ _ k=>2+Gi k
 | .done _=>2
 | .stats _ _ e k=>5+max (Ap e) (Gi k)
 | .rf _ _ e k=>12+max (Ap e) (Gi k)
 | .fin=>1
 | .Ti _=>6
def Ap:lh→Nat
 | .ret k=>Xh k
 | .stop k=>Gi k
end
def Cf:kh→Nat
 | .expr _ _ k=>Xh k - 12
 | .all _ _ _ k=>3+zl k
 | .stats _ _ e k=>4+max (Ap e) (Gi k)
 | .rf _ _ e k=>11+max (Ap e) (Gi k)
 | .gf k _=>Xh k
 | .Sd k _=>zl k
 | .Hd k=>Gi k
 | .recv _ k=>2+Xh k
 | .send _ _ k=>2+Gi k
 | .resume _ _ k=>7+Xh k
theorem tF (k:ff):14≤Xh k:=by cases k<;>rw [Xh]<;>omega
def Al:Zl→Nat
 | .run c=>Cf c
 | _=>0
def ek (c:Vg):Nat:=if c.going=true then (c.back.map Xh).getD 0 else if c.begun=true∧c.ended=false then (c.Ck.map Xh).getD 0 else 0
def Hi (z:Core) (q:Zl):Nat:=Al q+(z.Tb.map ek).sum
theorem js {α:Type}(f:α→Nat):∀ {l:List α}{i:Nat}{a b:α},l[i]?=some a→((l.set i b).map f).sum+f a=(l.map f).sum+f b
 | [],i,a,b,h=>by simp at h
 | x::l,0,a,b,h=>by simp at h; subst h; simp; omega
 | x::l,i+1,a,b,h=>by
  have:=js f (l:=l) (i:=i) (a:=a) (b:=b) (by simpa using h);simp only [List.set_cons_succ,List.map_cons,List.sum_cons];omega
def ao (p:pb) (U:dh) (E:oe) (C:lg) (z:Core) (c:kh):Prop :=
 ∃ n a q Ug b,Of E c z n a q∧C.le Ug∧(∀ c',q=.run c'→dk p U Ug b a∧Cj p U Ug a.now c')∧Hi a q+1≤Hi z (.run c)+30*n∧n≤1∧a.out.length≤z.out.length+1
section
variable {p:pb}{U:dh}{E:oe}{C:lg}{L:List Nat}{z:Core}{c c':kh}{n:Nat}
theorem ao.same (h:dk p U C L z) (t:Of E c z n z (.run c')) (a:Cj p U C z.now c') (hw:Cf c'+1≤Cf c+30*n) (b:n≤1):ao p U E C z c :=
 ⟨n,z,_,C,L,t,.r,fun d e=>by cases e;exact ⟨h,a⟩,(by unfold Hi;simp only [Al];omega),b,by omega⟩
theorem ao.Fe {k:Int}(t:Of E c z 0 z (.Fe k)) (hw:1≤Cf c):ao p U E C z c :=
 ⟨0,z,_,C,[],t,.r,fun a e=>(by cases e),(by unfold Hi;simp only [Al];omega),by omega,by omega⟩
theorem cm.kids {x:Da}(h:cm U x):∀ y ∈ x.Kids,cm U y:=by
 obtain ⟨⟨k,h⟩,u⟩:=h;cases u with
 | mk _ _ u =>
 cases k with
 | zero=>exact h.elim
 | succ k=>exact fun y a=>⟨⟨k,h.2.2.2.2.2.2 y a⟩,u y a⟩
theorem cm.bool {x:Da}(h:cm U x) (a:x.Kind=2):x.N=0∨x.N=1:=by
 obtain ⟨⟨k,h⟩,u⟩:=h;cases k with
 | zero=>exact h.elim
 | succ k=>exact h.2.2.2.2.1 a
theorem cm.dt {x:Da}(h:cm U x) (k:x.Kind=19∨x.Kind=22):U.c x.Name:=by
 cases h.2 with
 | mk a _ _=>exact a k
theorem cm.tO {x:Da}(h:cm U x) (k:x.Kind=20):U.r x.Name:=by
 cases h.2 with
 | mk _ a _=>exact a k
theorem rj.us {x:Ea}{l:List Ea}(h:rj U (x::l)) (k:x.Kind=7):U.s x.Name:=by
 cases h.2 x (by simp) with
 | mk a _ _ _=>exact a k
theorem rj.x {x:Ea}{l:List Ea}(h:rj U (x::l)) (b:x.Kind≠6):cm U x.X:=by
 obtain ⟨⟨k,h⟩,u⟩:=h;have:=h x (by simp);cases u x (by simp) with
 | mk _ a _ _ =>
 cases k with
 | zero=>exact this.elim
 | succ k=>exact ⟨⟨k,this.2.2.1 b⟩,a b⟩
theorem rj.vf {x:Ea}{l:List Ea}(h:rj U (x::l)):rj U l:=by
 obtain ⟨⟨k,h⟩,u⟩:=h;exact ⟨⟨k,fun y a=>h y (by simp [a])⟩,fun y a=>u y (by simp [a])⟩
theorem rj.xa {x:Ea}{l:List Ea}(h:rj U (x::l)):rj U [x]:=by
 obtain ⟨⟨k,h⟩,u⟩:=h;exact ⟨⟨k,fun y a=>h y (by simp at a;simp [a])⟩,fun y a=>u y (by simp at a;simp [a])⟩
theorem rj.body {x:Ea}{l:List Ea}(h:rj U (x::l)) (b:x.Kind=3∨x.Kind=4):rj U x.Body:=by
 obtain ⟨⟨k,h⟩,u⟩:=h;have:=h x (by simp);cases u x (by simp) with
 | mk _ _ a _ =>
 cases k with
 | zero=>exact this.elim
 | succ k=>exact ⟨⟨k,(this.2.2.2.2.1 b).2⟩,a b⟩
theorem rj.hC {x:Ea}{l:List Ea}(h:rj U (x::l)) (b:x.Kind=3):rj U x.me:=by
 obtain ⟨⟨k,h⟩,u⟩:=h;have:=h x (by simp);cases u x (by simp) with
 | mk _ _ _ a =>
 cases k with
 | zero=>exact this.elim
 | succ k=>exact ⟨⟨k,(this.2.2.2.2.2 b).2⟩,a b⟩
theorem lz {d:sa}{B:Yd}{x a:Da}{t:Sa}(e:cm U x) (h:x.Kids=[a]) (f:bf p d B a t):xv p U d B x.Kids [t] 0:=by
 rw [h];refine ⟨rfl,by simp,fun i y ib _ b c=>?_⟩
 match i,b,c with
 | 0,b,c=>simp at b c; subst b c; exact ⟨f,e.kids _ (by rw [h]; simp)⟩
 | i+1,b,_=>simp at b
theorem Mw {d:sa}{B:Yd}{x a b:Da}{t ib:Sa}(f:cm U x) (h:x.Kids=[a,b]) (g:bf p d B a t) (Ca:bf p d B b ib):xv p U d B x.Kids [t,ib] 0:=by
 rw [h];refine ⟨rfl,by simp,fun i y ib _ c e=>?_⟩
 match i,c,e with
 | 0,c,e=>simp at c e; subst c e; exact ⟨g,f.kids _ (by rw [h]; simp)⟩
 | 1,c,e=>simp at c e; subst c e; exact ⟨Ca,f.kids _ (by rw [h]; simp)⟩
 | i+2,c,_=>simp at c
theorem fG {d f:sa}{B:Yd}{x:Da}(c:cm U x) (ia:x.Kids.length=f.Params.length) (g:f.Params.length≤6) (h:∀ (i:Nat) (y:Da) (q:TParam),x.Kids[i]?=some y→f.Params[i]?=some q→bf p d B y (Lc q.vb)):xv p U d B x.Kids (f.Params.map fun q=>Lc q.vb) 0:=by
 refine ⟨by simpa using ia,by omega,fun i y t _ a b=>?_⟩;rw [List.getElem?_map] at b;obtain ⟨q,e,rfl⟩:=Option.map_eq_some_iff.1 b;exact ⟨h i y q a e,c.kids _ (List.mem_of_getElem? a)⟩
theorem XK (P:ln p U E){d:sa}{B:Yd}{x:Da}{t:Sa}(h:bf p d B x t) (c:cm U x) (g:x.Kind≠1) (i:x.Kind≠2) (j:x.Kind≠3) (l:x.Kind≠20):∃ la,Zn p U d x la t∧xv p U d B x.Kids la 0:=by
 cases h with
 | num h=>exact absurd h g
 | bool h=>exact absurd h i
 | var h _=>exact absurd h j
 | recv h _ _=>exact absurd h l
 | neg k e a=>exact ⟨_,.neg k,lz c e a⟩
 | not k e a=>exact ⟨_,.not k,lz c e a⟩
 | bx k e a b=>exact ⟨_,.bx k,Mw c e a b⟩
 | eq k e a b pl=>exact ⟨_,.eq k pl,Mw c e a b⟩
 | lt k e a b=>exact ⟨_,.lt k,Mw c e a b⟩
 | cl k e a b=>exact ⟨_,.cl k,Mw c e a b⟩
 | call k mc xd len f=>exact ⟨_,.call k (c.dt (.inl k)) mc xd,fG c len ((P.xa _ _ mc).pl (.inl xd)) f⟩
 | Fq k xd e a=>exact ⟨_,.Fq k xd,lz c e a⟩
 | start k mc xd len f=>exact ⟨_,.start k (c.dt (.inr k)) mc xd,fG c len ((P.xa _ _ mc).pl (.inr xd)) f⟩
 | resume k e a mc xd b=>exact ⟨_,.resume k mc xd,Mw c e a b⟩
 | alive k e a mc xd=>exact ⟨_,.alive k mc xd,lz c e a⟩
theorem zN {d:sa}{B c:Yd}{x:Ea}{l:List Ea}(Eh:rj U (x::l)) (h:Km p d B x c) (f:x.Kind≠4) (g:x.Kind≠6):∃ t,bf p d B x.X t∧Hr p U d B x t c:=by
 cases h with
 | Ko i k e n=>exact ⟨_,e,.Ko i k n⟩
 | sset k n e=>exact ⟨_,e,.sset k n⟩
 | Gq k e a b=>exact ⟨_,e,.Gq k a b⟩
 | eC k _ _=>exact absurd k f
 | sq k xd e=>exact ⟨_,e,.sq k xd⟩
 | HB k _=>exact absurd k g
 | nq k n xd e=>exact ⟨_,e,.nq k (Eh.us k) n xd⟩
 | tq k e pl=>exact ⟨_,e,.tq k pl⟩
 | Hq k e=>exact ⟨_,e,.Hq k⟩
theorem II (P:ln p U E) (h:dk p U C L z){x:Da}{s:Option Nat}{k:ff}(l:Cj p U C z.now (.expr x s k)):ao p U E C z (.expr x s k):=by
 obtain ⟨d,B,t,j,he,ty,Eh,a⟩:=l;have hw:=tF k;by_cases f:x.Kind=1
 ·cases ty with
  | num _=>exact .same h (.Rw (.inl f)) ⟨_,a,.num⟩ (by simp only [Cf]; omega) (by omega)
  | _=>omega
 by_cases b:x.Kind=2
 ·cases ty with
  | bool _=>exact .same h (.Rw (.inr b)) ⟨_,a,.bool (Eh.bool b)⟩ (by simp only [Cf]; omega) (by omega)
  | _=>omega
 by_cases g:x.Kind=3
 ·cases ty with
  | var _ m =>
   obtain ⟨i,n⟩:=he.at_ _ _ m;obtain ⟨c,f1,f2,f3,f4,f5⟩:=n.found h.gd;exact .same h (.var g f1 f2) ⟨_,a,f5⟩ (by simp only [Cf];omega) (by omega)
  | _=>omega
 by_cases e:x.Kind=20
 ·cases ty with
  | recv _ mc xd=>exact .same h (.vz e) ⟨_,Eh.tO e,mc,xd,a⟩ (by simp only [Cf]; omega) (by omega)
  | _=>omega
 obtain ⟨la,nf,kk⟩:=XK P ty Eh f b g e;exact .same h (.wz f b g e) ⟨d,B,la,j,he,kk,fun i t v _ o=>by simp at o,by simp,d,t,j,nf,a⟩ (by simp only [Cf,zl];omega) (by omega)
theorem zJ (h:dk p U C L z){l:List Da}{s:Option Nat}{Sd:List Int}{k:gl}(m:Cj p U C z.now (.all l s Sd k)):ao p U E C z (.all l s Sd k):=by
 obtain ⟨d,B,la,a,he,kk,b,ia,c⟩:=m;by_cases e:l.length=Sd.length
 ·exact .same h (.gz e) ⟨la,c,b,by rw [← kk.len,e]⟩ (by simp only [Cf];omega) (by omega)
 ·have f:Sd.length<l.length:=by omega
  have g:l[Sd.length]?=some l[Sd.length]:=List.getElem?_eq_getElem f;have n:Sd.length<la.length:=by rw [← kk.len];exact f
  have j:la[Sd.length]?=some la[Sd.length]:=List.getElem?_eq_getElem n;obtain ⟨ty,Eh⟩:=kk.at_ _ _ _ (Nat.le_refl _) g j;refine .same h (.fz e g) ⟨d,B,_,a,he,ty,Eh,d,B,la,a,he,⟨kk.len,kk.le,fun i y t hm=>kk.at_ i y t (by omega)⟩,b,j,c⟩ (by simp only [Cf,Xh];omega) (by omega)
theorem OH (h:dk p U C L z){l:List Ea}{s:Option Nat}{e:lh}{k:xe}(j:Cj p U C z.now (.stats l s e k)):ao p U E C z (.stats l s e k):=by
 obtain ⟨d,B,i,a,he,vf,Eh,hex,f⟩:=j;cases vf with
 | nil=>exact .same h .nil f (by simp only [Cf]; omega) (by omega)
 | @cons _ m _ x l ty vf =>
  by_cases b:x.Kind=6
  ·cases ty with
   | HB _ xd =>
    cases e with
    | ret q=>exact absurd hex.1 xd
    | stop q=>exact .same h (.stop b) hex.2 (by simp only [Cf,Ap]; omega) (by omega)
   | _=>omega
  by_cases c:x.Kind=4
  ·cases ty with
   | eC _ g Ca=>exact .same h (.zz c) ⟨d,B,_,a,he,c,g,Ca,Eh.xa,hex,d,B,i,a,he,vf,Eh.vf,hex,f⟩ (by simp only [Cf,Gi]; omega) (by omega)
   | _=>omega
  obtain ⟨t,g,n⟩:=zN Eh ty c b;exact .same h (.st b c) ⟨d,B,t,a,he,g,Eh.x b,d,B,m,i,x,l,rfl,a,he,n,vf,Eh,hex,f⟩ (by simp only [Cf,Xh];omega) (by omega)
theorem AJ (h:dk p U C L z){x:Ea}{s:Option Nat}{e:lh}{k:xe}(c:Cj p U C z.now (.rf x s e k)):ao p U E C z (.rf x s e k):=by
 obtain ⟨d,B,f,a,he,g,b,Ca,Eh,hex,i⟩:=c;exact .same h .rf ⟨d,B,_,a,he,b,Eh.x (by omega),rfl,d,B,f,a,he,g,b,Ca,Eh,hex,i⟩ (by simp only [Cf,Xh];omega) (by omega)
end
end Go.Y
namespace Go.Y
open Go.Rb Go.ec
theorem bm.snoc {p:pb}{C:lg}{S:List hi}(h:bm p C S){n:Te}{s:Option Nat}{t:Sa}{v:Int}(b:∀ j,s=some j→j<C.Ef.length) (d:si p C t v):bm p ⟨C.Vd,C.Ef++[(n,s,t)]⟩ (S++[⟨n,v,s⟩]):=by
 have l:C.le ⟨C.Vd,C.Ef++[(n,s,t)]⟩:=⟨fun _ _ h=>h,fun _ _ h=>Fo h⟩;refine ⟨by simp [h.len],fun i c a=>?_⟩;by_cases f:i<S.length
 ·rw [List.getElem?_append_left f] at a;obtain ⟨ib,g,k,m⟩:=h.at_ i c a;exact ⟨ib,l.Ef _ _ g,k,m.up l⟩
 ·rw [List.getElem?_append_right (by omega)] at a;have o:i=S.length:=by
   have:=(List.getElem?_eq_some_iff.1 a).1;simp at this;omega
  subst o;simp at a;subst a;exact ⟨t,by simp [h.len],fun j e=>by rw [h.len];exact b j e,d.up l⟩
theorem bm.set {p:pb}{C:lg}{S:List hi}(h:bm p C S){i:Nat}{c:hi}(b:S[i]?=some c){t:Sa}(d:C.Ef[i]?=some (c.name,c.up,t)){v:Int}(g:si p C t v):bm p C (S.set i { c with v:=v }):=by
 refine ⟨by simp [h.len],fun j c' a=>?_⟩;by_cases e:i=j
 ·subst e;rw [Bn b] at a;cases a;obtain ⟨ib,f,k,-⟩:=h.at_ _ _ b;rw [d] at f;cases f;exact ⟨t,d,k,g⟩
 ·rw [Zg e] at a;exact h.at_ _ _ a
theorem DA (B:Yd) (b:List (Nm×Sa)) (n:Nm):ck (B++[b]) n=match Ua b n with | some t=>some t | none=>ck B n:=by
 unfold ck;rw [List.reverse_append,List.reverse_singleton,List.singleton_append,List.findSome?_cons];cases Ua b n<;>rfl
theorem YK {B:Yd}(h:B.length - 1<B.length) (n m:Nm) (t:Sa):ck (B.set (B.length - 1) (zd B[B.length - 1] n t)) m=if n=m then some t else ck B m:=by
 rcases List.eq_nil_or_concat B with rfl | ⟨a,b,rfl⟩
 ·simp at h
 have qa:((a.concat b)[(a.concat b).length - 1])=b:=by simp [List.concat_eq_append]
 have c:(a.concat b).set ((a.concat b).length - 1) (zd b n t)=a++[zd b n t]:=by
  rw [List.concat_eq_append,List.length_append,List.length_singleton,Nat.add_sub_cancel,List.set_append_right _ _ (Nat.le_refl _),Nat.sub_self];rfl
 rw [qa,c,List.concat_eq_append,DA,DA,Mj];by_cases e:n=m
 ·rw [if_pos e,if_pos e]
 ·rw [if_neg e,if_neg e]
theorem Env.Ko {C:lg}{s:Option Nat}{B:Yd}{n:Te}{t:Sa}(h:B.length - 1<B.length) (he:Env C s B):Env ⟨C.Vd,C.Ef++[(n,s,t)]⟩ (some C.Ef.length) (B.set (B.length - 1) (zd B[B.length - 1] n t)):=by
 refine ⟨fun j e=>(by cases e;simp),fun m ib e=>?_⟩;rw [YK] at e;have a:(C.Ef++[(n,s,t)])[C.Ef.length]?=some (n,s,t):=by simp
 by_cases c:n=m
 ·rw [if_pos c] at e;cases e;subst c;exact ⟨_,.here a⟩
 ·rw [if_neg c] at e;obtain ⟨i,b⟩:=he.at_ _ _ e;exact ⟨i,.up a c (b.mono fun _ _ h=>Fo h)⟩
theorem fE {p:pb}:∀ (Nf:List TParam) (vs:List Int) (C:lg) (S:List hi) (s:Option Nat) (m:List (Nm×Sa)),bm p C S→vs.length=Nf.length →
  Xs p C (Nf.map fun q=>Lc q.vb) vs→(∀ n t,Ua m n=some t→∃ i,Mm C.Ef n s i t)→(∀ j,s=some j→j<C.Ef.length) →
  ∃ f d b,Oj Nf vs S s=some (f,d)∧bm p ⟨C.Vd,C.Ef++b⟩ f∧(∀ n t,Ua (Nf.foldl (fun m q=>zd m q.Name (Lc q.vb)) m) n=some t→∃ i,Mm (C.Ef++b) n d i t)∧∀ j,d=some j→j<(C.Ef++b).length
 | [],vs,C,S,s,m,a,ia,g,hm,k=>⟨S,s,[],by rw [Oj],by simpa using a,by simpa using hm,by simpa using k⟩
 | q::Nf,[],C,S,s,m,a,ia,g,hm,k=>by simp at ia
 | q::Nf,v::vs,C,S,s,m,a,ia,g,hm,k=>by
  have l:C.le ⟨C.Vd,C.Ef++[(q.Name,s,Lc q.vb)]⟩:=⟨fun _ _ h=>h,fun _ _ h=>Fo h⟩;have u:(C.Ef++[(q.Name,s,Lc q.vb)])[C.Ef.length]?=some (q.Name,s,Lc q.vb):=by simp
  obtain ⟨f,d,b,o,r,x,y⟩:=fE Nf vs ⟨C.Vd,C.Ef++[(q.Name,s,Lc q.vb)]⟩ (S++[⟨q.Name,v,s⟩]) (some S.length) (zd m q.Name (Lc q.vb)) (a.snoc k (g 0 _ v rfl rfl)) (by simpa using ia) (fun i t w o r=>(g (i+1) t w (by simpa using o) (by simpa using r)).up l) (fun n t e=>by
   rw [Mj] at e;rw [a.len];by_cases c:q.Name=n
   ·rw [if_pos c] at e;cases e;subst c;exact ⟨_,.here u⟩
   ·rw [if_neg c] at e;obtain ⟨i,z⟩:=hm n t e;exact ⟨i,.up u c (z.mono fun _ _ h=>Fo h)⟩) (fun j e=>by cases e;simp [a.len])
  refine ⟨f,d,(q.Name,s,Lc q.vb)::b,by rw [Oj];exact o,by simpa using r,by simpa using x,by simpa using y⟩
theorem ZK (m:List (Nm×Sa)) (n:Nm):ck [m] n=Ua m n:=by
 have:=DA [] m n;rw [List.nil_append] at this;rw [this];cases Ua m n<;>rfl
theorem HD {p:pb}{C:lg}{S:List hi}{d:sa}{vs:List Int}(f:bm p C S) (ia:vs.length=d.Params.length) (g:Xs p C (d.Params.map fun q=>Lc q.vb) vs) :
  ∃ a c b,Oj d.Params vs S none=some (a,c)∧bm p ⟨C.Vd,C.Ef++b⟩ a∧Env ⟨C.Vd,C.Ef++b⟩ c [Ns d]:=by
 obtain ⟨a,c,b,h,i,k,l⟩:=fE d.Params vs C S none [] f ia g (fun n t e=>by cases e) (fun j e=>by cases e);exact ⟨a,c,b,h,i,l,fun n t e=>k n t (by rwa [ZK] at e)⟩
section
variable {p:pb}{U:dh}{E:oe}{C:lg}{L:List Nat}{z:Core}{c c':kh}{n:Nat}
def Qq (z:Core) (c:kh):Prop:=∀ (x:Ea) (l:List Ea) (s:Option Nat) (e:lh) (k:xe) (v:Int),c=.gf (.stat (x::l) s e k) v→x.Kind=8→z.out.length<4294967296
theorem dk.ue {Ug:lg}(h:dk p U C L z) (l:C.le Ug) (e:Ug.Vd=C.Vd){S:List hi}(a:bm p Ug S){o:List Int}:dk p U Ug L { z with ue:=S,out:=o }:=
 ⟨a,by rw [e];exact h.Ar,fun g c b=>(h.Vd g c b).le l,h.pos,h.le,h.ju,h.nd,h.all,by rw [e];exact h.t0⟩
theorem BJ (P:ln p U E) (h:dk p U C L z){k:ff}{v:Int}(H:Qq z (.gf k v)) (K:Cj p U C z.now (.gf k v)):ao p U E C z (.gf k v):=by
 obtain ⟨t,a,j⟩:=K;cases k with
 | all l s Sd k =>
  obtain ⟨d,B,la,b,he,kk,M,y,a⟩:=a;have N:=(List.getElem?_eq_some_iff.1 y).1;rw [← kk.len] at N;have:=kk.le;refine .same h (.hz (if_pos (by simp;omega))) ⟨d,B,la,b,he,by simpa using kk,fun i ib O o f=>?_,by simp;omega,a⟩ (by simp only [Cf,Xh];omega) (by omega);by_cases Q:i<Sd.length
  ·rw [List.getElem?_append_left Q] at f;exact M i ib O o f
  ·rw [List.getElem?_append_right (by omega)] at f;have R:i=Sd.length:=by have:=(List.getElem?_eq_some_iff.1 f).1;simp at this;omega
   subst R;simp at f;subst f;rw [y] at o;cases o;exact j
 | rf x s e k =>
  obtain ⟨rfl,d,B,u,b,he,A,S,Ca,Eh,hex,a⟩:=a;by_cases m:v=0
  ·exact .same h (.iz m) a (by simp only [Cf,Xh];omega) (by omega)
  ·exact .same h (.win m) ⟨d,_,u,b,he.ba,Ca,Eh.body (.inr A),hex,d,B,u,b,he,A,S,Ca,Eh,hex,a⟩ (by simp only [Cf,Xh,Gi];omega) (by omega)
 | stat l s e k =>
  obtain ⟨d,B,u,g,x,r,rfl,b,he,T,vf,Eh,hex,a⟩:=a;cases T with
  | Ko V k1 D =>
   have l:C.le ⟨C.Vd,C.Ef++[(x.Name,s,t)]⟩:=⟨fun _ _ h=>h,fun _ _ h=>Fo h⟩;refine ⟨0,_,_,_,L,.Ko k1,l,fun c' n=>?_,by unfold Hi;simp only [Al,Cf,Xh,Gi];omega,by omega,by simp⟩;cases n;refine ⟨h.ue l rfl (h.gd.snoc he.ok j),d,_,g,b.up l,?_,vf,Eh.vf,hex.up l,a.up l⟩;rw [h.gd.len];exact he.Ko V
  | sset W D =>
   obtain ⟨i,X⟩:=he.at_ _ _ D;obtain ⟨c,f1,f2,f3,f4,f5⟩:=X.found h.gd;refine ⟨0,_,_,C,L,.sset W f1 f2,.r,fun c' n=>?_,by unfold Hi;simp only [Al,Cf,Xh,Gi];omega,by omega,by simp⟩;cases n;exact ⟨h.ue .r rfl (h.gd.set f2 (by rw [f3];exact f4) (si.bare.1 j)),d,B,g,b,he,vf,Eh.vf,hex,a⟩
  | Gq w Y Ca =>
   have F:qk p U C z.now (.stats r s e k):=⟨d,B,g,b,he,vf,Eh.vf,hex,a⟩;refine .same h (.Gq w) ?_ (by simp only [Cf,Xh,Gi];omega) (by omega);by_cases m:v≠0
   ·rw [if_pos m];exact ⟨d,_,_,b,he.ba,Y,Eh.body (.inl w),hex,F⟩
   ·rw [if_neg m];exact ⟨d,_,_,b,he.ba,Ca,Eh.hC w,hex,F⟩
  | sq Z xd =>
   cases e with
   | ret q=>exact .same h (.sq Z) ⟨_,hex.2,j⟩ (by simp only [Cf,Xh,Ap]; omega) (by omega)
   | stop q=>exact absurd xd hex.1
  | nq bb us mc xd=>exact .same h (.nq bb) ⟨_,us,mc,xd,j,d,B,g,b,he,vf,Eh.vf,hex,a⟩ (by simp only [Cf,Xh,Gi]; omega) (by omega)
  | tq G pl =>
   refine ⟨0,_,_,C,L,.tq G (if_pos (by have:=H x r s e k v rfl G;simp;omega)),.r,fun c' n=>?_,by unfold Hi;simp only [Al,Cf,Xh,Gi];omega,by omega,by simp⟩;cases n;exact ⟨h.ue .r rfl h.gd,d,B,g,b,he,vf,Eh.vf,hex,a⟩
  | Hq Gb=>exact .same h (.Hq (by omega) (by omega) (by omega) (by omega) (by omega) (by omega)) ⟨d,B,g,b,he,vf,Eh.vf,hex,a⟩ (by simp only [Cf,Xh,Gi]; omega) (by omega)
end
end Go.Y
namespace Go.Y
open Go.Rb Go.ec
section
variable {p:pb}{U:dh}{E:oe}{C:lg}{L:List Nat}{z:Core}{c c':kh}{n:Nat}
theorem mz {l:List Int}(h:l.length=1):∃ a,l=[a]:=by
 match l,h with
 | [a],_=>exact ⟨a,rfl⟩
theorem Nw {l:List Int}(h:l.length=2):∃ a b,l=[a,b]:=by
 match l,h with
 | [a,b],_=>exact ⟨a,b,rfl⟩
theorem Ox {k a b:Int}(h:k=9∨k=10→b≠0):∃ v,Ln k a b=some v:=by
 unfold Ln;by_cases e:k=6
 ·exact ⟨_,if_pos e⟩
 rw [if_neg e];by_cases f:k=7
 ·exact ⟨_,if_pos f⟩
 rw [if_neg f];by_cases g:k=8
 ·exact ⟨_,if_pos g⟩
 rw [if_neg g];by_cases c:k=9
 ·rw [if_pos c];split
  ·exact ⟨_,rfl⟩
  ·exact ⟨_,by unfold quo;rw [if_neg (h (.inl c))]⟩
 rw [if_neg c];by_cases d:k=10
 ·rw [if_pos d];split
  ·exact ⟨_,rfl⟩
  ·exact ⟨_,by unfold lv;rw [if_neg (h (.inr d))]⟩
 rw [if_neg d];repeat' split
 all_goals exact ⟨_,rfl⟩
theorem UC {k a b v:Int}(h:Ln k a b=some v) (i:11≤k∧k≤16):v=0∨v=1:=by
 have T:∀ b:Bool,ik b=0∨ik b=1:=fun b=>by cases b<;>simp [ik]
 unfold Ln at h;rw [if_neg (by omega),if_neg (by omega),if_neg (by omega),if_neg (by omega),if_neg (by omega)] at h;by_cases c:k=11
 ·rw [if_pos c] at h;cases h;exact T _
 rw [if_neg c] at h;by_cases d:k=12
 ·rw [if_pos d] at h;cases h;exact T _
 rw [if_neg d] at h;by_cases e:k=13
 ·rw [if_pos e] at h;cases h;exact T _
 rw [if_neg e] at h;by_cases f:k=14
 ·rw [if_pos f] at h;cases h;exact T _
 rw [if_neg f] at h;by_cases g:k=15
 ·rw [if_pos g] at h;cases h;exact T _
 rw [if_neg g,if_pos (by omega)] at h;cases h;exact T _
theorem CJ {k a b v:Int}(h:Ln k a b=some v) (c:17≤k∧k≤18) (d:a=0∨a=1) (e:b=0∨b=1):v=0∨v=1:=by
 unfold Ln at h;rw [if_neg (by omega),if_neg (by omega),if_neg (by omega),if_neg (by omega),if_neg (by omega),if_neg (by omega),if_neg (by omega),if_neg (by omega),if_neg (by omega),if_neg (by omega),if_neg (by omega)] at h;split at h<;>cases h<;>omega
theorem dk.Iy (h:dk p U C L z){g:Nat}{f:sa}(a:C.Vd[g]?=some f):∃ c,z.Tb[g]?=some c∧yv p U C g c∧c.Cm=f:=by
 have ia:=(List.getElem?_eq_some_iff.1 a).1;rw [← h.Ar] at ia;have b:z.Tb[g]?=some z.Tb[g]:=List.getElem?_eq_getElem ia;have e:=h.Vd _ _ b;exact ⟨_,b,e,by have:=e.d;rw [a] at this;exact (Option.some.inj this).symm⟩
theorem dk.put (h:dk p U C L z){g d:Nat}{c jb:Vg}{a:List Nat}(f:z.Tb[g]?=some c) (i:yv p U C g jb) (k:kn (z.Tb.set g jb) d a) (l:a.Nodup) (m:∀ (j:Nat) (c:Vg),(z.Tb.set g jb)[j]?=some c→c.going=true→j ∈ a):dk p U C a { z with Tb:=z.Tb.set g jb,now:=d }:=
 ⟨h.gd,by simp [h.Ar],fun j c2 b=>by
  by_cases e:g=j
  ·subst e;rw [Bn f] at b;cases b;exact i
  ·rw [Zg e] at b;exact h.Vd _ _ b,by simp [h.pos],by simp [h.le],k,l,m,h.t0⟩
theorem dk.top (h:dk p U C L z){f:sa}(o:C.Vd[z.now]?=some f) (d:1≤z.now):∃ c u b a,z.Tb[z.now]?=some c∧c.Cm=f∧c.going=true∧c.begun=true∧c.up=some u∧c.back=some b∧ql p U C u b (Lc f.vb)∧f.Kind=3∧(∃ n,Ua p.named n=some f∧U.c n)∧L=z.now::a∧kn z.Tb u a∧z.now ∉ a∧a.Nodup:=by
 obtain ⟨c,g,e,rfl⟩:=h.Iy o;have i:=h.ju;generalize hw:z.now=w at i d g e;cases i with
 | main=>omega
 | @up _ u c' a k1 j k Ue q =>
  rw [g] at j;cases j;obtain ⟨r,v,x,b,l,s,t⟩:=e.go d k;rw [Ue] at l;cases l;have m:=List.nodup_cons.1 h.nd;exact ⟨c,u,b,a,by rw [g],rfl,k,r,Ue,s,t,(e.xd d).1,(e.xd d).2,rfl,q,m.1,m.2⟩
theorem DJ (P:ln p U E) (h:dk p U C L z){k:gl}{l:List Int}(m:Cj p U C z.now (.Sd k l)):ao p U E C z (.Sd k l):=by
 obtain ⟨la,n,s,ia⟩:=m;cases k with
 | ex x k =>
 obtain ⟨d,t,F,nf,n⟩:=n;cases nf with
 | neg Ue =>
  obtain ⟨a,rfl⟩:=mz ia;exact .same h (.neg Ue rfl) ⟨_,n,.num⟩ (by simp only [Cf,zl];omega) (by omega)
 | not W =>
  obtain ⟨a,rfl⟩:=mz ia;have G:=(s 0 _ a rfl rfl).1 rfl;exact .same h (.not W rfl) ⟨_,n,.bool (by rcases G with rfl | rfl<;>simp [Fm,IntKind.wrap]<;>decide)⟩ (by simp only [Cf,zl];omega) (by omega)
 | bx Cp =>
  obtain ⟨a,b,rfl⟩:=Nw ia;by_cases y:(x.Kind=9∨x.Kind=10)∧b=0
  ·obtain ⟨y,rfl⟩:=y;exact .Fe (.jz y rfl) (by simp only [Cf,zl];omega)
  ·obtain ⟨v,o⟩:=Ox (k:=x.Kind) (a:=a) (b:=b) fun q e=>y ⟨q,e⟩;exact .same h (.two (by omega) (fun q e=>y ⟨q,e⟩) rfl rfl o) ⟨_,n,.num⟩ (by simp only [Cf,zl];omega) (by omega)
 | eq H pl =>
  obtain ⟨a,b,rfl⟩:=Nw ia;obtain ⟨v,o⟩:=Ox (k:=x.Kind) (a:=a) (b:=b) (by omega);exact .same h (.two (by omega) (by omega) rfl rfl o) ⟨_,n,.bool (UC o (by omega))⟩ (by simp only [Cf,zl];omega) (by omega)
 | lt H =>
  obtain ⟨a,b,rfl⟩:=Nw ia;obtain ⟨v,o⟩:=Ox (k:=x.Kind) (a:=a) (b:=b) (by omega);exact .same h (.two (by omega) (by omega) rfl rfl o) ⟨_,n,.bool (UC o (by omega))⟩ (by simp only [Cf,zl];omega) (by omega)
 | cl H =>
  obtain ⟨a,b,rfl⟩:=Nw ia;obtain ⟨v,o⟩:=Ox (k:=x.Kind) (a:=a) (b:=b) (by omega);have G:=(s 0 _ a rfl rfl).1 rfl;have X:=(s 1 _ b rfl rfl).1 rfl;exact .same h (.two (by omega) (by omega) rfl rfl o) ⟨_,n,.bool (CJ o H G X)⟩ (by simp only [Cf,zl];omega) (by omega)
 | @call f Y dt mc xd =>
  obtain ⟨Z,bb,b,g1,g2,g3⟩:=HD h.gd (d:=f) (by simpa using ia) s;have l:C.le ⟨C.Vd,C.Ef++b⟩:=⟨fun _ _ h=>h,fun _ _ h=>Fo h⟩;obtain ⟨Gb,vf⟩:=P.ty _ _ mc (by omega);rw [if_neg (by omega)] at vf;refine ⟨0,_,_,_,L,.call Y (by rw [P.Pq];exact mc) g1,l,fun c' A=>?_,by unfold Hi;simp only [Al,Cf,zl,Ap,Gi];omega,by omega,by simp⟩;cases A;have N:=n.up l;exact ⟨h.ue l rfl g2,f,_,Gb,fun ge=>by omega,g3.ba,vf,P.Eh _ _ dt mc (by omega),⟨xd,N⟩,_,by rw [Kl];exact (P.xa _ _ mc).ty (by omega),N⟩
 | Fq gc xd =>
  obtain ⟨a,rfl⟩:=mz ia;have O:1≤z.now:=Nat.one_le_iff_ne_zero.2 fun e=>h.t0 d (by rw [← e];exact F xd) xd;obtain ⟨c,u,b,lc,w,rfl,Q,R,rc,S,fd,id,md,rfl,Ma,rd,wd⟩:=h.top (F xd) O;refine ⟨0,_,_,C,lc,.Fq gc rfl w rc S,.r,fun c' A=>?_,?_,by omega,by simp⟩
  ·cases A;refine ⟨h.put w ⟨F xd,fun _=>⟨id,md⟩,fun _ e=>?_,fun _ _ _ _=>⟨k,rfl,n⟩,fun _ e=>?_,fun e=>by omega⟩ (Ma.set rd) wd fun j c2 m B=>?_,_,fd,s 0 _ a rfl rfl⟩
   ·exact absurd (e:c.begun=false) (by rw [R];simp)
   ·cases e
   ·by_cases e:z.now=j
    ·subst e;rw [Bn w] at m;cases m;cases B
    ·rw [Zg e] at m;rcases List.mem_cons.1 (h.all _ _ m B) with rfl | q
     ·exact absurd rfl e
     ·exact q
  ·have ne:=js ek (b:={ c with Ck:=some k,going:=false }) w;have he:c.ended=false:=by
    obtain ⟨c2,k1,D,-⟩:=h.Iy (F xd);rw [w] at k1;cases k1;exact (D.go O Q).2.1
   have Ne:ek c=Xh b:=by simp [ek,Q,S]
   have of:ek { c with Ck:=some k,going:=false }=Xh k:=by simp [ek,R,he]
   unfold Hi;simp only [Al,Cf,zl];omega
 | @start f T dt mc xd =>
  by_cases hm:(z.Tb.length:Int) - 1=30
  ·exact .Fe (.many T hm) (by simp only [Cf,zl];omega)
  ·obtain ⟨Z,bb,b,g1,g2,g3⟩:=HD h.gd (d:=f) (by simpa using ia) s;have wf:C.le ⟨C.Vd,C.Ef++b⟩:=⟨fun _ _ h=>h,fun _ _ h=>Fo h⟩;have l:C.le ⟨C.Vd++[f],C.Ef++b⟩:=.app;have V:lg.le ⟨C.Vd,C.Ef++b⟩ ⟨C.Vd++[f],C.Ef++b⟩:=⟨fun _ _ h=>Fo h,fun _ _ h=>h⟩;have If:=h.pos;have hle:=h.le;refine ⟨0,_,_,_,L,.start T hm (by rw [P.Pq];exact mc) g1,l,fun c' A=>?_,by unfold Hi;simp [Al,Cf,zl,ek];omega,by omega,by simp⟩;cases A;refine ⟨⟨?_,by simp [h.Ar],fun g c m=>?_,by simp,by simp;omega,h.ju.app,h.nd,fun g c m B=>?_,fun d xa=>?_⟩,_,n.up l,fun e=>by simp at e,fun _=>⟨z.Tb.length - 1,f,by omega,?_,mc⟩⟩
   ·exact ⟨g2.len,fun i c m=>by
     obtain ⟨t,oa,a2,a3⟩:=g2.at_ i c m;exact ⟨t,oa,a2,a3.up V⟩⟩
   ·by_cases K:g<z.Tb.length
    ·rw [List.getElem?_append_left K] at m;exact (h.Vd _ _ m).le l
    ·rw [List.getElem?_append_right (by omega)] at m;have M:g=z.Tb.length:=by have:=(List.getElem?_eq_some_iff.1 m).1;simp at this;omega
     subst M;simp at m;subst m;exact ⟨by simp [h.Ar],fun _=>⟨xd,_,mc,dt⟩,fun _ _=>⟨rfl,rfl,g3.up V⟩,fun _ e=>(by cases e),fun _ e=>(by cases e),fun e=>by omega⟩
   ·by_cases K:g<z.Tb.length
    ·rw [List.getElem?_append_left K] at m;exact h.all _ _ m B
    ·rw [List.getElem?_append_right (by omega)] at m;have M:g=z.Tb.length:=by have:=(List.getElem?_eq_some_iff.1 m).1;simp at this;omega
     subst M;simp at m;subst m;cases B
   ·refine h.t0 d ?_;have:0<C.Vd.length:=by rw [← h.Ar];omega
    rwa [List.getElem?_append_left this] at xa
   ·show (C.Vd++[f])[z.Tb.length - 1+1]?=some f;rw [show z.Tb.length - 1+1=C.Vd.length by rw [← h.Ar];omega];simp
 | @resume g f Fd mc xd =>
  obtain ⟨a,b,rfl⟩:=Nw ia;obtain ⟨j,Id,rfl,k1,D⟩:=(s 0 _ a rfl rfl).2 rfl;rw [show Ua p.named (Sa.mk 3 g).bc=_ from mc] at D;cases D;have be:=(List.getElem?_eq_some_iff.1 k1).1;rw [← h.Ar] at be;refine .same h (.res Fd rfl rfl (by omega)) ⟨f,by omega,by simpa using k1,s 1 _ b rfl rfl,n⟩ (by simp only [Cf,zl];omega) (by omega)
 | @alive g f ce mc xd =>
  obtain ⟨a,rfl⟩:=mz ia;obtain ⟨j,Id,rfl,k1,D⟩:=(s 0 _ a rfl rfl).2 rfl;obtain ⟨c,w,-,-⟩:=h.Iy k1;exact .same h (.alive ce rfl (by omega) (by simpa using w)) ⟨_,n,.yN⟩ (by simp only [Cf,zl];omega) (by omega)
theorem EJ (P:ln p U E) (h:dk p U C L z){k:xe}(o:¬ Comm (.Hd k)) (a:Cj p U C z.now (.Hd k)):ao p U E C z (.Hd k):=by
 cases k with
 | zero k =>
  obtain ⟨t,t3,H⟩:=a;exact .same h .zero ⟨t,H,.plain (fun _=>.inl rfl) t3⟩ (by simp only [Cf,Gi];omega) (by omega)
 | recv n k=>exact absurd trivial o
 | send n v k=>exact absurd trivial o
 | done g =>
  obtain ⟨rfl,y⟩:=a;have ia:z.now<z.Tb.length:=by
   have:=h.ju;generalize z.now=w at this y;cases this with
   | main=>omega
   | up _ K _ _ _=>exact (List.getElem?_eq_some_iff.1 K).1
  obtain ⟨f,A⟩:∃ f,C.Vd[z.now]?=some f:=⟨_,List.getElem?_eq_getElem (by rw [← h.Ar];exact ia)⟩;obtain ⟨c,u,b,M,i,rfl,N,O,Q,B,R,S,⟨n,D,T⟩,rfl,Ma,V,W⟩:=h.top A y;refine ⟨0,_,_,C,M,.done i Q B,.r,fun c' m=>?_,?_,by omega,by simp⟩
  ·cases m;refine ⟨h.put i ⟨A,fun _=>⟨S,n,D,T⟩,fun _ e=>?_,fun _ _ _ e=>(by cases e),fun _ e=>(by cases e),fun e=>by omega⟩ (Ma.set V) W fun j c2 a F=>?_,_,R,.plain (fun _=>.inl rfl) ?_⟩
   ·exact absurd (e:c.begun=false) (by rw [O];simp)
   ·by_cases e:z.now=j
    ·subst e;rw [Bn i] at a;cases a;cases F
    ·rw [Zg e] at a;rcases List.mem_cons.1 (h.all _ _ a F) with rfl | q
     ·exact absurd rfl e
     ·exact q
   ·rw [Kl];exact (P.xa _ _ D).ty (by omega)
  ·have Y:=js ek (b:={ c with ended:=true,going:=false }) i;have Z:ek c=Xh b:=by simp [ek,N,B]
   have bb:ek { c with ended:=true,going:=false }=0:=by simp [ek]
   unfold Hi;simp only [Al,Cf,Gi];omega
 | stats l s e k=>exact .same h .stats a (by simp only [Cf,Gi]; omega) (by omega)
 | rf x s e k=>exact .same h .kz a (by simp only [Cf,Gi]; omega) (by omega)
 | fin=>exact ⟨0,z,_,C,[],.fin,.r,fun c' m=>(by cases m),by unfold Hi; simp only [Al,Cf,Gi]; omega,by omega,by omega⟩
 | Ti d =>
  obtain ⟨G,Ue,Eh,X,vf⟩:=a;exact .same h .Ti ⟨d,_,X,fun e=>(by omega),.nil,vf,Eh,⟨by omega,G⟩,G⟩ (by simp only [Cf,Gi,Ap];omega) (by omega)
theorem kH (P:ln p U E) (h:dk p U C L z){g:Nat}{v:Int}{k:ff}(l:Cj p U C z.now (.resume g v k)):ao p U E C z (.resume g v k):=by
 obtain ⟨f,g1,m,D,x⟩:=l;obtain ⟨c,a,i,rfl⟩:=h.Iy m;have hw:=tF k;by_cases he:c.ended=true
 ·exact .Fe (.gone a he) (by simp only [Cf];omega)
 by_cases q:c.going=true∨g=z.now
 ·exact .Fe (.busy a he q) (by simp only [Cf];omega)
 have s:c.ended=false:=by simpa using he
 have t:c.going=false:=by
  cases e:c.going with
  | false=>rfl
  | true=>exact absurd (.inl e) q
 have u:g ∉ L:=fun hm=>by
  obtain ⟨c2,oa,a2⟩:=h.ju.going _ hm;rw [a] at oa;cases oa;rw [t] at a2;cases a2
 have y:∀ (jb:Vg) (j:Nat) (c2:Vg),(z.Tb.set g jb)[j]?=some c2→c2.going=true→j ∈ g::L:=fun jb j c2 l F=>by
  by_cases e:g=j
  ·subst e;simp
  ·rw [Zg e] at l;exact List.mem_cons_of_mem _ (h.all _ _ l F)
 by_cases d:c.begun=true
 ·obtain ⟨o,A,zg⟩:=i.held g1 d t s;refine ⟨0,_,_,C,g::L,.on a he q d A,.r,fun c' w=>?_,?_,by omega,by simp⟩
  ·cases w;exact ⟨h.put a ⟨m,i.xd,fun _ e=>absurd (e:c.begun=false) (by rw [d];simp),fun _ _ e=>(by cases e),fun _ _=>⟨d,s,_,_,rfl,rfl,x⟩,fun e=>by omega⟩ (.up g1 (Bn a) rfl rfl (h.ju.set u)) (List.nodup_cons.2 ⟨u,h.nd⟩) (y _),_,zg,D⟩
  ·have G:=js ek (b:={ c with going:=true,up:=some z.now,back:=some k }) a;have H:ek c=Xh o:=by simp [ek,t,d,s,A]
   have K:ek { c with going:=true,up:=some z.now,back:=some k }=Xh k:=by simp [ek]
   unfold Hi;simp only [Al,Cf];omega
 ·have B:c.begun=false:=by simpa using d
  obtain ⟨-,-,M⟩:=i.fresh g1 B;obtain ⟨O,n,mc,dt⟩:=i.xd g1;obtain ⟨N,vf⟩:=P.ty _ _ mc (by omega);rw [if_neg (by omega)] at vf;refine ⟨0,_,_,C,g::L,.first a he q d,.r,fun c' w=>?_,?_,by omega,by simp⟩
  ·cases w;exact ⟨h.put a ⟨m,i.xd,fun _ e=>(by cases e),fun _ _ e=>(by cases e),fun _ _=>⟨rfl,s,_,_,rfl,rfl,x⟩,fun e=>by omega⟩ (.up g1 (Bn a) rfl rfl (h.ju.set u)) (List.nodup_cons.2 ⟨u,h.nd⟩) (y _),c.Cm,_,N,fun _=>m,M.ba,vf,P.Eh _ _ dt mc (by omega),⟨by omega,rfl,g1⟩,rfl,g1⟩
  ·have G:=js ek (b:={ c with going:=true,up:=some z.now,back:=some k,begun:=true }) a;have H:ek c=0:=by simp [ek,t,B]
   have K:ek { c with going:=true,up:=some z.now,back:=some k,begun:=true }=Xh k:=by simp [ek]
   unfold Hi;simp only [Al,Cf,Ap,Gi];omega
theorem safe (P:ln p U E) (h:dk p U C L z) (b:¬ Comm c) (d:Qq z c) (a:Cj p U C z.now c):ao p U E C z c:=by
 cases c with
 | expr=>exact II P h a
 | all=>exact zJ h a
 | stats=>exact OH h a
 | rf=>exact AJ h a
 | gf=>exact BJ P h d a
 | Sd=>exact DJ P h a
 | Hd=>exact EJ P h b a
 | recv=>exact absurd trivial b
 | send=>exact absurd trivial b
 | resume=>exact kH P h a
end
end Go.Y
namespace Go.Y
open Go.Rb Go.ec
abbrev tg:=Core×Zl
def vq:Zl→Zl
 | .run c=>.run (Pf c)
 | q=>q
def Core.Br (z:Core):Qd:=⟨z.ue,z.Tb,z.now,none,1,0,0,z.out⟩
def Ss:Option nk→Ul tg
 | some (.call c z)=>.Ng z.nodes.toNat (z.t.core,.run (Pf c))
 | some (.ret (some k) z)=>.Ng z.nodes.toNat (z.t.core,.run (Pf (.Hd k)))
 | some (.ret none z)=>.Ng z.nodes.toNat (z.t.core,if z.t.state=4 then .done else .Fe z.t.Fe)
 | _=>.halt
def Mh (E:oe) (z:Core):kh→Ul tg
 | .recv n k=>match Ua E.order n with | some i=>.recv i.toNat 0 (fun v=>(z,.run (.gf k v))) | none=>.halt
 | .send n v k=>match Ua E.order n with | some i=>.send i.toNat v 0 (z,.run (Pf (.Hd k))) | none=>.halt
 | c=>Ss (qe E c ⟨z.Br,[],0⟩)
def xf (E:oe) (x:tg):Ul tg:=match x.2 with
 | .run c=>Mh E x.1 (Pf c)
 | _=>.halt
theorem ID (c:kh):Pf (Pf c)=Pf c:=by
 cases c with
 | Hd k=>cases k <;> rfl
 | _=>rfl
theorem sy {c:kh}(h:¬ Comm c):Pf c=c:=by
 cases c with
 | Hd k=>cases k with
  | recv=>exact absurd trivial h
  | send=>exact absurd trivial h
  | _=>rfl
 | _=>rfl
theorem JI {c:kh}:Comm (Pf c) ↔ Comm c:=by
 cases c with
 | Hd k=>cases k <;> exact Iff.rfl
 | _=>exact Iff.rfl
theorem uy {E:oe}{z:Core}{c:kh}(h:¬ Comm c):Mh E z c=Ss (qe E c ⟨z.Br,[],0⟩):=by
 cases c with
 | recv=>exact absurd trivial h
 | send=>exact absurd trivial h
 | _=>rfl
theorem Of.act {E:oe}{c:kh}{z e:Core}{n:Nat}{q:Zl}(h:Of E c z n e q) (i:n≤1):Ss (qe E c ⟨z.Br,[],0⟩)=.Ng n (e,vq q):=by
 obtain ⟨o,g,f⟩:=Of.step (t:=z.Br) (bs:=[]) (nd:=0) h (by omega);rw [g];obtain ⟨a,b,c',d⟩:=e;cases q with
 | run c'=>cases f <;> simp [Ss,vq,Qd.core,eh]
 | done=>cases f <;> simp [Ss,vq,Qd.core,eh]
 | Fe k=>cases f <;> simp [Ss,vq,Qd.core,eh]
theorem oD {E:oe}{z:Core}{c:kh}{o:nk}(h:qe E c ⟨z.Br,[],0⟩=some o):Qq z c:=by
 intro x l s e k v a b;subst a;rw [qe] at h;unfold lp at h;rw [if_neg (by omega),if_neg (by omega),if_neg (by omega),if_neg (by omega),if_neg (by omega),if_pos b] at h;obtain ⟨f,d,-⟩:=ua h;have:=(dw d).2;simp at this;have e:z.Br.out.length=z.out.length:=rfl;omega
def Bl (p:pb) (U:dh) (x:tg):Prop:=∀ c,x.2=.run c→∃ C L,dk p U C L x.1∧Cj p U C x.1.now c
theorem Cj.norm {p:pb}{U:dh}{C:lg}{g:Nat}{c:kh}:Cj p U C g (Pf c) ↔ Cj p U C g c:=by
 cases c with
 | Hd k=>cases k <;> exact Iff.rfl
 | _=>exact Iff.rfl
theorem Bl.norm {p:pb}{U:dh}{z:Core}{q:Zl}(h:Bl p U (z,q)):Bl p U (z,vq q):=by
 intro c a;cases q with
 | run c' =>
  obtain ⟨C,L,b,d⟩:=h _ rfl;cases a;exact ⟨C,L,b,Cj.norm.2 d⟩
 | done=>cases a
 | Fe k=>cases a
section
variable {p:pb}{U:dh}{E:oe}
theorem gE (P:ln p U E){x d:tg}{n:Nat}(h:Bl p U x) (a:xf E x=.Ng n d):n≤1∧Hi d.1 d.2+1≤Hi x.1 x.2+30*n∧d.1.out.length≤x.1.out.length+1∧Bl p U d:=by
 obtain ⟨z,q⟩:=x;cases q with
 | done=>cases a
 | Fe k=>cases a
 | run c =>
 obtain ⟨C,L,r,s⟩:=h _ rfl
 change Mh E z (Pf c)=_ at a
 by_cases b:Comm (Pf c)
 ·exfalso
  revert a b
  cases u:Pf c with
  | recv n k=>intro a _; rw [Mh] at a; split at a <;> cases a
  | send n v k=>intro a _; rw [Mh] at a; split at a <;> cases a
  | Hd k =>
   have:Pf (Pf c)=Pf c:=ID c;rw [u] at this;cases k with
   | recv=>cases this
   | send=>cases this
   | _=>intro _ b; exact b.elim
  | _=>intro _ b; exact b.elim
 have f:¬ Comm c:=fun k=>b (JI.2 k);rw [sy f,uy f] at a;have w:Qq z c:=by
  cases i:qe E c ⟨z.Br,[],0⟩ with
  | none=>rw [i] at a; cases a
  | some o=>exact oD i
 obtain ⟨D,F,g,Ug,y,t,l,A,j,m,B⟩:=safe P r f w s;rw [t.act m] at a;cases a;refine ⟨m,?_,B,Bl.norm fun c' e=>⟨Ug,y,A c' e⟩⟩;have:Al (vq g)=Al g:=by
  cases g with
  | run c=>cases c with
   | Hd k=>cases k <;> rfl
   | _=>rfl
  | _=>rfl
 unfold Hi at j ⊢;rw [this];exact j
theorem si.any {C Ug:lg}{t:Sa}{v:Int}(a:t.Kind≠3) (h:si p C t v):si p Ug t v:=⟨h.1,fun k=>absurd k a⟩
def Az (p:pb) (E:oe) (b:Nat) (v:Int):Prop:=∀ n f,Ua E.order n=some (b:Int)→Ua p.named n=some f→si p ⟨[],[]⟩ (Lc f.vb) v
structure Ord (p:pb) (E:oe):Prop where
 inj:∀ (n m:Te) (i:Int),Ua E.order n=some i→Ua E.order m=some i→n=m
 Oq:∀ (n:Te) (i:Int),Ua E.order n=some i→0≤i
 ty:∀ n f,Ua p.named n=some f→f.Kind=1→f.vb.Kind≠3
theorem lA (P:ln p U E) (O:Ord p E){x d:tg}{b c:Nat}{v:Int}(h:Bl p U x) (a:xf E x=.send b v c d):c=0∧(∃ n,U.s n∧Ua E.order n=some (b:Int))∧Az p E b v∧Hi d.1 d.2+1≤Hi x.1 x.2∧d.1.out=x.1.out∧Bl p U d:=by
 obtain ⟨z,q⟩:=x;cases q with
 | done=>cases a
 | Fe k=>cases a
 | run c' =>
 obtain ⟨C,L,t,y⟩:=h _ rfl
 change Mh E z (Pf c')=_ at a
 have hw:Cf (Pf c')=Cf c':=by
  cases c' with
  | Hd k=>cases k <;> rfl
  | _=>rfl
 have j:=Cj.norm.2 y;unfold Hi;simp only [Al];rw [← hw];cases g:Pf c' with
 | send n w k =>
  rw [g] at a j;rw [Mh] at a;split at a
  ·rename_i i l;cases a;obtain ⟨f,u,mc,xd,A,B⟩:=j;have D:=O.Oq _ _ l;have o:Ua E.order n=some ((i.toNat:Nat):Int):=by rw [l];congr 1;omega
   refine ⟨rfl,⟨n,u,o⟩,fun m F e r=>?_,?_,rfl,fun G e=>?_⟩
   ·obtain rfl:=O.inj _ _ _ e o;rw [mc] at r;cases r;exact A.any (by rw [Kl];exact O.ty _ _ mc xd)
   ·have:Cf (Pf (.Hd k))=Gi k:=by cases k<;>rfl
    show Cf (Pf (.Hd k))+_+1≤_;rw [this];simp only [Cf];omega
   ·cases e;exact ⟨C,L,t,Cj.norm.2 B⟩
  ·cases a
 | recv n k=>rw [g] at a; rw [Mh] at a; split at a <;> cases a
 | _=>rw [g] at a; simp only [Mh] at a; unfold Ss at a; split at a <;> cases a
theorem mA (P:ln p U E) (O:Ord p E){x:tg}{b c:Nat}{f:Int→tg}(h:Bl p U x) (a:xf E x=.recv b c f):c=0∧(∃ n,U.r n∧Ua E.order n=some (b:Int))∧∀ v,Hi (f v).1 (f v).2+1≤Hi x.1 x.2∧(f v).1.out=x.1.out∧(Az p E b v→Bl p U (f v)):=by
 obtain ⟨z,q⟩:=x;cases q with
 | done=>cases a
 | Fe k=>cases a
 | run c' =>
 obtain ⟨C,L,m,o⟩:=h _ rfl
 change Mh E z (Pf c')=_ at a
 have hw:Cf (Pf c')=Cf c':=by
  cases c' with
  | Hd k=>cases k <;> rfl
  | _=>rfl
 have g:=Cj.norm.2 o;unfold Hi;simp only [Al];rw [← hw];cases d:Pf c' with
 | recv n k =>
  rw [d] at a g;rw [Mh] at a;split at a
  ·rename_i i j;cases a;obtain ⟨f,u,mc,xd,s⟩:=g;have w:=O.Oq _ _ j;have l:Ua E.order n=some ((i.toNat:Nat):Int):=by rw [j];congr 1;omega
   refine ⟨rfl,⟨n,u,l⟩,fun v=>⟨?_,rfl,fun t y e=>?_⟩⟩
   ·simp only [Cf];omega
   ·cases e;exact ⟨C,L,m,_,s,(t _ _ l mc).any (by rw [Kl];exact O.ty _ _ mc xd)⟩
  ·cases a
 | send n v k=>rw [d] at a; rw [Mh] at a; split at a <;> cases a
 | _=>rw [d] at a; simp only [Mh] at a; unfold Ss at a; split at a <;> cases a
end
structure wq (p:pb) (E:oe) (U:Nat→dh):Prop where
 ok:∀ i,ln p (U i) E
 ord:Ord p E
 s:∀ (n:Te) (i j:Nat),(∃ b,Ua E.order n=some b)→(U i).s n→(U j).s n→i=j
 r:∀ (n:Te) (i j:Nat),(∃ b,Ua E.order n=some b)→(U i).r n→(U j).r n→i=j
theorem wq.own {p:pb}{E:oe}{U:Nat→dh}(h:wq p E U):Rs (xf E) (fun i x=>Bl p (U i) x) (Az p E) (fun b i=>∃ n,(U i).s n∧Ua E.order n=some (b:Int)) (fun b i=>∃ n,(U i).r n∧Ua E.order n=some (b:Int)) where
 Ng d e:=(gE (h.ok _) d e).2.2.2
 send d e:=by
  obtain ⟨-,a,c,-,-,f⟩:=lA (h.ok _) h.ord d e;exact ⟨a,c,f⟩
 recv d e:=by
  obtain ⟨-,a,c⟩:=mA (h.ok _) h.ord d e;exact ⟨a,fun v g=>(c v).2.2 g⟩
 Fl a c:=by
  obtain ⟨n,oa,a2⟩:=a;obtain ⟨m,za,sd⟩:=c;obtain rfl:=h.ord.inj _ _ _ a2 sd;exact h.s n _ _ ⟨_,a2⟩ oa za
 oG a c:=by
  obtain ⟨n,oa,a2⟩:=a;obtain ⟨m,za,sd⟩:=c;obtain rfl:=h.ord.inj _ _ _ a2 sd;exact h.r n _ _ ⟨_,a2⟩ oa za
end Go.Y
namespace Go.Y
open Go.Rb Go.ec
def oq (E:oe):Nat→kh→Zc→Option (Option Zc)
 | 0,_,_=>none
 | n+1,c,z=>(qe E c z).bind fun o=>match o with
  | .call c z=>oq E n c z
  | .ret (some k) z=>oq E n (.Hd k) z
  | .ret none z=>some (some z)
  | .rr=>some none
theorem uF {E:oe}:∀ {m:Nat}{c:kh}{z:Zc}{r:Option Zc},oq E m c z=some r→∀ fu,m≤fu→∃ x,hp E fu c z=some x∧(x=none→r=none)∧(∀ d,x=some (none,d)→r=some d)∧∀ k d,x=some (some k,d)→∃ g,g<m∧oq E g (.Hd k) d=some r
 | 0,c,z,r,h=>by cases h
 | m+1,c,z,r,h=>by
  intro fu q;obtain ⟨fu,rfl⟩:∃ k,fu=k+1:=⟨fu - 1,by omega⟩;rw [oq] at h;obtain ⟨o,i,h⟩:=ua h;rw [hp,i];cases o with
  | call c' d =>
   obtain ⟨x,j,l,n,p⟩:=uF h fu (by omega);refine ⟨x,j,l,n,fun k f e=>?_⟩;obtain ⟨g,a,b⟩:=p k f e;exact ⟨g,by omega,b⟩
  | ret k d =>
   cases k with
   | none=>cases h; exact ⟨_,rfl,fun e=>(by cases e),fun f e=>(by cases e; rfl),fun k f e=>(by cases e)⟩
   | some k=>exact ⟨_,rfl,fun e=>(by cases e),fun f e=>(by cases e),fun k' f e=>(by cases e; exact ⟨m,by omega,h⟩)⟩
  | rr=>cases h; exact ⟨_,rfl,fun _=>rfl,fun f e=>(by cases e),fun k f e=>(by cases e)⟩
theorem vF {E:oe}:∀ (M:Nat){m:Nat}{k:xe}{z:Zc}{r:Option Zc},m≤M→oq E m (.Hd k) z=some r→∀ fu,m+1≤fu→ss E fu (some k) z=some r
 | M,m,k,z,r,hm,h=>by
  intro fu i;obtain ⟨fu,rfl⟩:∃ k,fu=k+1:=⟨fu - 1,by omega⟩;obtain ⟨x,d,e,f,g⟩:=uF h fu (by omega);rw [ss,d];cases x with
  | none=>rw [e rfl]; rfl
  | some x =>
   obtain ⟨k',c⟩:=x;cases k' with
   | none=>rw [f c rfl]; simp only [Option.bind_some]; rw [ss]
   | some k' =>
    obtain ⟨j,a,b⟩:=g k' c rfl;cases M with
    | zero=>omega
    | succ M=>exact vF M (by omega) b fu (by omega)
theorem Of.rr {E:oe}{c:kh}{t:Qd}{bs:List Pd}{nd:Int}{x:Core}{q:Zl}(h:Of E c t.core 1 x q) (a:20000<nd+1):qe E c ⟨t,bs,nd⟩=some .rr:=by
 have b:∀ f,hs ⟨t,bs,nd⟩ f=some .rr:=fun f=>by rw [hs,if_pos a]
 generalize e:(1:Nat)=n at h;cases h<;>first | exact absurd e (by decide) | (rw [qe];exact b _)
def Me (t:Qd):tg:=(t.core,if t.state=4 then .done else if t.state=5 then .Fe t.Fe else match t.Yl with | some k=>.run (Pf (.Hd k)) | none=>.done)
def nz (E:oe) (x:tg):Uj:=match x.2 with
 | .done=>⟨4,0,0,x.1.out⟩
 | .Fe n=>⟨5,0,n,x.1.out⟩
 | .run (.send n v k)=>⟨2,(Ua E.order n).getD 0,0,x.1.out⟩
 | .run (.recv n k)=>⟨3,(Ua E.order n).getD 0,0,x.1.out⟩
 | .run _=>⟨1,0,0,x.1.out⟩
def zb (pre:List tg) (x:tg) (post:List tg) (bs:List Pd):cf tg:=⟨pre++x::post,bs.map Pd.words⟩
structure Vn (E:oe) (cap:List Nat) (bs:List Pd):Prop where
 cap:cap=bs.map fun b=>b.cap.toNat
 le:∀ b ∈ bs,0≤b.cap∧b.cap≤100∧(b.words.length:Int)≤b.cap
 ord:∀ (n:Te) (i:Int),Ua E.order n=some i→0≤i∧i.toNat<bs.length
theorem Vn.at {E:oe}{cap:List Nat}{bs:List Pd}(h:Vn E cap bs){n:Te}{i:Int}(e:Ua E.order n=some i):∃ b,at_ bs i=some b∧bs[i.toNat]?=some b∧0≤b.cap∧b.cap≤100∧(b.words.length:Int)≤b.cap∧cap[i.toNat]?=some b.cap.toNat∧(bs.map Pd.words)[i.toNat]?=some b.words:=by
 obtain ⟨d,c⟩:=h.ord n i e;have a:bs[i.toNat]?=some bs[i.toNat]:=List.getElem?_eq_getElem c;obtain ⟨f,g,j⟩:=h.le _ (List.getElem_mem c);exact ⟨_,by rw [at_,if_pos d,a],a,f,g,j,by rw [h.cap,List.getElem?_map,a];rfl,by rw [List.getElem?_map,a];rfl⟩
theorem Vn.set {E:oe}{cap:List Nat}{bs:List Pd}(h:Vn E cap bs){i:Nat}{b:Pd}(a:bs[i]?=some b){ws:List Int}(hw:(ws.length:Int)≤b.cap):Vn E cap (bs.set i { b with words:=ws }):=by
 have ia:=(List.getElem?_eq_some_iff.1 a).1;refine ⟨?_,fun c d=>?_,fun n f e=>?_⟩
 ·rw [h.cap];refine List.ext_getElem? fun j=>?_;rw [List.getElem?_map,List.getElem?_map,List.getElem?_set];split
  ·rename_i e;subst e;rw [a];rfl
  ·rfl
 ·rcases List.mem_or_eq_of_mem_set d with d | rfl
  ·exact h.le _ d
  ·have:=h.le _ (List.mem_of_getElem? a);exact ⟨this.1,this.2.1,hw⟩
 ·have:=h.ord n f e;simpa using this
section
variable {p:pb}{E:oe}{U:Nat→dh}{cap:List Nat}
abbrev Ir (p:pb) (E:oe) (U:Nat→dh):cf tg→Prop:=Vl (fun i x=>Bl p (U i) x) (Az p E)
def Sw (E:oe) (cap:List Nat) (pre post:List tg) (s:cf tg) (nd:Nat):Option Zc→Prop
 | none=>∃ m d a,Mf (xf E) cap s m d a∧20000<nd+d
 | some z=>∃ m d,Mf (xf E) cap s m d (zb pre (Me z.t) post z.boxes)∧z.nodes=((nd+d:Nat):Int)∧nd+d≤20000∧Vn E cap z.boxes∧(∀ b a,¬ og (xf E) cap (zb pre (Me z.t) post z.boxes) pre.length b a) ∧
  (z.t.state=2∧z.t.Fe=0∧(∃ n v k,z.t.Yl=some (.send n v k)∧Ua E.order n=some z.t.box)∨z.t.state=3∧z.t.Fe=0∧(∃ n k,z.t.Yl=some (.recv n k)∧Ua E.order n=some z.t.box)∨z.t.state=4∧z.t.box=0∧z.t.Fe=0∨z.t.state=5∧z.t.box=0)
theorem Sw.cons {pre post:List tg}{s s1:cf tg}{nd d i:Nat}{r:Option Zc}(k:og (xf E) cap s i d s1) (h:Sw E cap pre post s1 (nd+d) r):Sw E cap pre post s nd r:=by
 cases r with
 | none =>
  obtain ⟨m,a,e,b,c⟩:=h;exact ⟨m+1,d+a,e,.cons k b,by omega⟩
 | some z =>
  obtain ⟨m,a,b,c,g,f⟩:=h;exact ⟨m+1,d+a,.cons k b,by rw [c];congr 1;omega,by omega,f⟩
theorem kl {α:Type}{pre post:List α}{x:α}:(pre++x::post)[pre.length]?=some x:=by
 rw [List.getElem?_append_right (Nat.le_refl _),Nat.sub_self];rfl
theorem XA {α:Type}{pre post:List α}{x y:α}:(pre++x::post).set pre.length y=pre++y::post:=by
 rw [List.set_append_right _ _ (Nat.le_refl _),Nat.sub_self];rfl
theorem vy {pre post:List tg}{z:Core}{bs:List Pd}{q:Zl}(g:∀ c,q≠.run c):∀ d f,¬ og (xf E) cap (zb pre (z,q) post bs) pre.length d f:=by
 intro d f h;have e:xf E (z,q)=.halt:=by
  cases q with
  | run c=>exact absurd rfl (g c)
  | _=>rfl
 cases h with
 | Ng a b=>rw [show (zb pre (z,q) post bs).la[pre.length]?=some (z,q) from kl] at a; cases a; rw [e] at b; cases b
 | send a b=>rw [show (zb pre (z,q) post bs).la[pre.length]?=some (z,q) from kl] at a; cases a; rw [e] at b; cases b
 | recv a b=>rw [show (zb pre (z,q) post bs).la[pre.length]?=some (z,q) from kl] at a; cases a; rw [e] at b; cases b
theorem ME {pre post:List tg}{z:Core}{bs:List Pd}{n:Te}{v:Int}{k:xe}{i:Int}{b:Pd}(hB:Vn E cap bs) (e:Ua E.order n=some i) (m:bs[i.toNat]?=some b) (q:b.cap≤(b.words.length:Int)):∀ d g,¬ og (xf E) cap (zb pre (z,.run (.send n v k)) post bs) pre.length d g:=by
 intro d g h;have f:xf E (z,.run (.send n v k))=.send i.toNat v 0 (z,.run (Pf (.Hd k))):=by
  show Mh E z (.send n v k)=_;rw [Mh,e]
 obtain ⟨Ic,r,j,s,t,u,o,p⟩:=hB.at e;rw [m] at j;cases j;cases h with
 | Ng a c=>rw [show (zb pre (z,.run (.send n v k)) post bs).la[pre.length]?=some (z,.run (.send n v k)) from kl] at a; cases a; rw [f] at c; cases c
 | send a c hw l ia =>
  rw [show (zb pre (z,.run (.send n v k)) post bs).la[pre.length]?=some (z,.run (.send n v k)) from kl] at a;cases a;rw [f] at c;cases c;rw [show (zb pre (z,.run (.send n v k)) post bs).bs=bs.map Pd.words from rfl,p] at hw;cases hw;rw [o] at l;cases l;omega
 | recv a c=>rw [show (zb pre (z,.run (.send n v k)) post bs).la[pre.length]?=some (z,.run (.send n v k)) from kl] at a; cases a; rw [f] at c; cases c
theorem OE {pre post:List tg}{z:Core}{bs:List Pd}{n:Te}{k:ff}{i:Int}{b:Pd}(hB:Vn E cap bs) (e:Ua E.order n=some i) (l:bs[i.toNat]?=some b) (m:b.words=[]):∀ d g,¬ og (xf E) cap (zb pre (z,.run (.recv n k)) post bs) pre.length d g:=by
 intro d g h;have f:xf E (z,.run (.recv n k))=.recv i.toNat 0 (fun v=>(z,.run (.gf k v))):=by
  show Mh E z (.recv n k)=_;rw [Mh,e]
 obtain ⟨Ic,p,j,q,r,s,t,o⟩:=hB.at e;rw [l] at j;cases j;cases h with
 | Ng a c=>rw [show (zb pre (z,.run (.recv n k)) post bs).la[pre.length]?=some (z,.run (.recv n k)) from kl] at a; cases a; rw [f] at c; cases c
 | send a c=>rw [show (zb pre (z,.run (.recv n k)) post bs).la[pre.length]?=some (z,.run (.recv n k)) from kl] at a; cases a; rw [f] at c; cases c
 | recv a c hw =>
  rw [show (zb pre (z,.run (.recv n k)) post bs).la[pre.length]?=some (z,.run (.recv n k)) from kl] at a;cases a;rw [f] at c;cases c;rw [show (zb pre (z,.run (.recv n k)) post bs).bs=bs.map Pd.words from rfl,o,m] at hw;cases hw
theorem Ty (W:wq p E U){pre post:List tg}:∀ (M:Nat) (c:kh) (t:Qd) (bs:List Pd) (nd:Nat),Ir p E U (zb pre (t.core,.run (Pf c)) post bs)→nd≤20000→t.out.length+M≤4294967295→Vn E cap bs→t.state=1→t.box=0→t.Fe=0 →
  (∃ r,oq E M c ⟨t,bs,nd⟩=some r∧Sw E cap pre post (zb pre (t.core,.run (Pf c)) post bs) nd r)∨∃ d m,Mf (xf E) cap (zb pre (t.core,.run (Pf c)) post bs) M d m∧nd+d≤20000
 | 0,c,t,bs,nd,y,K,V,hB,H,A,z=>.inr ⟨0,_,.nil,by omega⟩
 | M+1,c,t,bs,nd,y,K,V,hB,H,A,z=>by
  have X:Bl p (U pre.length) (t.core,.run (Pf c)):=y.la pre.length _ kl;obtain ⟨C,L,Y,B⟩:=X _ rfl;replace B:=Cj.norm.1 B;by_cases D:Comm c
  ·-- it speaks
   have Z:(∃ n k,Pf c=.recv n k∧qe E c ⟨t,bs,nd⟩=Jt E n k ⟨t,bs,nd⟩)∨∃ n v k,Pf c=.send n v k∧qe E c ⟨t,bs,nd⟩=Kt E n v k ⟨t,bs,nd⟩:=by
    cases c with
    | recv n k=>exact .inl ⟨n,k,rfl,rfl⟩
    | send n v k=>exact .inr ⟨n,v,k,rfl,rfl⟩
    | Hd k=>cases k with
     | recv n k=>exact .inl ⟨n,k,rfl,rfl⟩
     | send n v k=>exact .inr ⟨n,v,k,rfl,rfl⟩
     | _=>exact D.elim
    | _=>exact D.elim
   rw [oq];rcases Z with ⟨n,k,qa,N⟩ | ⟨n,v,k,qa,N⟩
   ·rw [N];have F:=Cj.norm.2 B;rw [qa] at F y;obtain ⟨f,u,mc,xd,bb⟩:=F;obtain ⟨i,g⟩:=(W.ok pre.length).Ae _ _ mc xd;obtain ⟨b,oa,a2,a3,a4,a5,Sb,Jb⟩:=hB.at g;rw [Jt,g];simp only [Option.bind_some,oa];rw [qa];have G:xf E (t.core,.run (.recv n k))=.recv i 0 (fun v=>(t.core,.run (.gf k v))):=by
     show Mh E t.core (.recv n k)=_;rw [Mh,g];simp
    cases hw:b.words with
    | nil =>
     refine .inl ⟨_,rfl,0,0,?_,rfl,by omega,hB,?_,?_⟩
     ·have:zb pre (Me { t with state:=3,box:=(Ua E.order n).getD 0,Yl:=some (.recv n k) }) post bs=zb pre (t.core,.run (.recv n k)) post bs:=rfl;rw [g] at this;exact this ▸ .nil
     ·exact OE hB g a2 hw
     ·exact .inr (.inl ⟨rfl,z,n,k,rfl,by rw [g];rfl⟩)
    | cons v ws =>
     have a:og (xf E) cap (zb pre (t.core,.run (.recv n k)) post bs) pre.length 0 (zb pre (t.core,.run (.gf k v)) post (bs.set i { b with words:=ws })):=by
      have:=og.recv (act:=xf E) (cap:=cap) (s:=zb pre (t.core,.run (.recv n k)) post bs) (i:=pre.length) (v:=v) (w:=ws) kl G (by show (bs.map Pd.words)[i]?=_;rw [show (i:Nat)=(i:Int).toNat by omega,Jb,hw]);unfold zb at this ⊢;rw [XA] at this;rw [List.map_set];exact this
     have O:Vn E cap (bs.set i { b with words:=ws }):=hB.set (by rw [show (i:Nat)=(i:Int).toNat by omega];exact a2) (by rw [hw] at a5;simp at a5;omega);rcases Ty W M (.gf k v) t (bs.set i { b with words:=ws }) nd (a.own W.own y) K (by omega) O H A z with ⟨r,h,j⟩ | ⟨d,m,h,j⟩
     ·exact .inl ⟨r,by simpa using h,j.cons a⟩
     ·exact .inr ⟨d,m,by have:=Mf.cons a h;rwa [Nat.zero_add] at this,j⟩
   ·rw [N];have F:=Cj.norm.2 B;rw [qa] at F y;obtain ⟨f,u,mc,xd,rd,bb⟩:=F;obtain ⟨i,g⟩:=(W.ok pre.length).Ae _ _ mc xd;obtain ⟨b,oa,a2,a3,a4,a5,Sb,Jb⟩:=hB.at g;rw [Kt,g];simp only [Option.bind_some,oa];rw [qa];have G:xf E (t.core,.run (.send n v k))=.send i v 0 (t.core,.run (Pf (.Hd k))):=by
     show Mh E t.core (.send n v k)=_;rw [Mh,g];simp
    by_cases R:(b.words.length:Int)=b.cap
    ·rw [if_pos R];refine .inl ⟨_,rfl,0,0,?_,rfl,by omega,hB,?_,?_⟩
     ·have:zb pre (Me { t with state:=2,box:=(Ua E.order n).getD 0,Yl:=some (.send n v k) }) post bs=zb pre (t.core,.run (.send n v k)) post bs:=rfl;rw [g] at this;exact this ▸ .nil
     ·exact ME hB g a2 (by omega)
     ·exact .inl ⟨rfl,z,n,v,k,rfl,by rw [g];rfl⟩
    ·have Gb:app b.words [v]=some (b.words++[v]):=if_pos (by simp;omega);rw [if_neg R,Gb];have a:og (xf E) cap (zb pre (t.core,.run (.send n v k)) post bs) pre.length 0 (zb pre (t.core,.run (Pf (.Hd k))) post (bs.set i { b with words:=b.words++[v] })):=by
      have:=og.send (act:=xf E) (cap:=cap) (s:=zb pre (t.core,.run (.send n v k)) post bs) (i:=pre.length) (w:=b.words) (k:=b.cap.toNat) kl G (by show (bs.map Pd.words)[i]?=_;rw [show (i:Nat)=(i:Int).toNat by omega,Jb]) (by rw [show (i:Nat)=(i:Int).toNat by omega];exact Sb) (by omega);unfold zb at this ⊢;rw [XA] at this;rw [List.map_set];exact this
     have O:Vn E cap (bs.set i { b with words:=b.words++[v] }):=hB.set (by rw [show (i:Nat)=(i:Int).toNat by omega];exact a2) (by simp;omega);rcases Ty W M (.Hd k) t (bs.set i { b with words:=b.words++[v] }) nd (a.own W.own y) K (by omega) O H A z with ⟨r,h,j⟩ | ⟨d,m,h,j⟩
     ·exact .inl ⟨r,by simpa using h,j.cons a⟩
     ·exact .inr ⟨d,m,by have:=Mf.cons a h;rwa [Nat.zero_add] at this,j⟩
  ·-- it does not
   have gc:Qq t.core c:=fun x l s e k v _ _=>by show t.out.length<_;omega
   obtain ⟨n,P,q,Ug,wd,pc,l,Fd,Id,lc,rc⟩:=safe (W.ok pre.length) Y D gc B;have G:xf E (t.core,.run (Pf c))=.Ng n (P,vq q):=by
    show Mh E t.core (Pf (Pf c))=_;rw [ID,sy D,uy D];exact pc.act lc
   have a:og (xf E) cap (zb pre (t.core,.run (Pf c)) post bs) pre.length n (zb pre (P,vq q) post bs):=by
    have:=og.Ng (act:=xf E) (cap:=cap) (s:=zb pre (t.core,.run (Pf c)) post bs) (i:=pre.length) kl G;unfold zb at this ⊢;rwa [XA] at this
   have fd:=a.own W.own y;rw [oq];by_cases hm:n=1∧20000<nd+1
   ·obtain ⟨rfl,hm⟩:=hm;rw [pc.rr (by omega)];exact .inl ⟨none,rfl,1,1,_,.one a,hm⟩
   ·obtain ⟨o,id,zg⟩:=pc.step (bs:=bs) (nd:=(nd:Int)) (by omega);rw [id];simp only [Option.bind_some];obtain ⟨x1,S,T,Q⟩:=P;have md:((nd:Int)+(n:Int))=((nd+n:Nat):Int):=by omega
    rw [md] at zg;cases q with
    | run c' =>
     have go:=Ty W M c' { t with ue:=x1,Tb:=S,now:=T,out:=Q } bs (nd+n) fd (by omega) (by simp only [Qd.core] at rc;show Q.length+M≤_;omega) hB H A z;have fin:(∃ r,oq E M c' ⟨{ t with ue:=x1,Tb:=S,now:=T,out:=Q },bs,((nd+n:Nat):Int)⟩=some r∧Sw E cap pre post (zb pre (t.core,.run (Pf c)) post bs) nd r)∨∃ d m,Mf (xf E) cap (zb pre (t.core,.run (Pf c)) post bs) (M+1) d m∧nd+d≤20000:=by
      rcases go with ⟨r,h,j⟩ | ⟨d,m,h,j⟩
      ·exact .inl ⟨r,h,j.cons a⟩
      ·exact .inr ⟨n+d,m,.cons a h,by omega⟩
     cases zg<;>exact fin
    | done =>
     cases zg;exact .inl ⟨_,rfl,1,n,.one a,rfl,by omega,hB,vy fun c=>(by simp [Qd.core]),.inr (.inr (.inl ⟨rfl,A,z⟩))⟩
    | Fe k =>
     cases zg;exact .inl ⟨_,rfl,1,n,.one a,rfl,by omega,hB,vy fun c=>(by simp [Qd.core]),.inr (.inr (.inr ⟨rfl,A⟩))⟩
end
end Go.Y
namespace Go.Y
open Go.Rb Go.ec
theorem Mf.zero {T:Type}{act:T→Ul T}{cap:List Nat}{s a:cf T}{d:Nat}(h:Mf act cap s 0 d a):s=a:=by cases h;rfl
def uc (s:cf tg):Nat:=(s.la.map fun x=>Hi x.1 x.2).sum
section
variable {p:pb}{E:oe}{U:Nat→dh}{cap:List Nat}
theorem PH (W:wq p E U){s h:cf tg}{i d:Nat}(l:Ir p E U s) (k:og (xf E) cap s i d h):uc h+1≤uc s+30*d∧d≤1∧∀ (j:Nat) (c:tg),h.la[j]?=some c→∃ x,s.la[j]?=some x∧c.1.out.length≤x.1.out.length+1:=by
 have O:∀ {x c:tg},s.la[i]?=some x→c.1.out.length≤x.1.out.length+1→∀ (j:Nat) (y:tg),(s.la.set i c)[j]?=some y→∃ x,s.la[j]?=some x∧y.1.out.length≤x.1.out.length+1:=by
  intro x c m ia j y g;by_cases e:i=j
  ·subst e;rw [Bn m] at g;cases g;exact ⟨x,m,ia⟩
  ·rw [Zg e] at g;exact ⟨y,g,by omega⟩
 cases k with
 | @Ng t ib _ a f =>
  obtain ⟨oa,a2,a3,-⟩:=gE (W.ok i) (l.la _ _ a) f;have n:=js (fun x:tg=>Hi x.1 x.2) (b:=ib) a;exact ⟨by unfold uc;simp only;omega,oa,O a a3⟩
 | @send t ib _ b k v w a f o q ia =>
  obtain ⟨oa,-,-,a2,a3,-⟩:=lA (W.ok i) W.ord (l.la _ _ a) f;have n:=js (fun x:tg=>Hi x.1 x.2) (b:=ib) a;exact ⟨by unfold uc;simp only;omega,by omega,O a (by rw [a3];omega)⟩
 | @recv t _ b k v w a f o =>
  obtain ⟨oa,-,a2⟩:=mA (W.ok i) W.ord (l.la _ _ a) f;obtain ⟨a3,a4,-⟩:=a2 v;have n:=js (fun x:tg=>Hi x.1 x.2) (b:=k v) a;exact ⟨by unfold uc;simp only;omega,by omega,O a (by rw [a4];omega)⟩
theorem nA (W:wq p E U){s b:cf tg}{m d:Nat}(k:Mf (xf E) cap s m d b):Ir p E U s→uc b+m≤uc s+30*d∧∀ (j:Nat) (a:tg),b.la[j]?=some a→∃ x,s.la[j]?=some x∧a.1.out.length≤x.1.out.length+m:=by
 induction k with
 | nil=>exact fun _=>⟨by omega,fun j a h=>⟨a,h,by omega⟩⟩
 | cons k _ e =>
  intro c;obtain ⟨oa,a2,a3⟩:=PH W c k;obtain ⟨za,sd⟩:=e (k.own W.own c);refine ⟨by omega,fun j a h=>?_⟩;obtain ⟨x1,jb,c2⟩:=sd j a h;obtain ⟨x0,d1,d2⟩:=a3 j x1 jb;exact ⟨x0,d1,by omega⟩
def pG (E:oe) (t:Qd):Prop :=
 t.state=1∧t.box=0∧t.Fe=0∧(∃ d,t.Yl=some (.Ti d))∨t.state=2∧t.Fe=0∧(∃ n v k,t.Yl=some (.send n v k)∧Ua E.order n=some t.box) ∨
 t.state=3∧t.Fe=0∧(∃ n k,t.Yl=some (.recv n k)∧Ua E.order n=some t.box)∨t.state=4∧t.box=0∧t.Fe=0∨t.state=5∧t.box=0
def zh (la:List Qd) (bs:List Pd):cf tg:=⟨la.map Me,bs.map Pd.words⟩
theorem Jy {pre la:List Qd}{t:Qd}{bs:List Pd}:zh (pre++t::la) bs=zb (pre.map Me) (Me t) (la.map Me) bs:=by
 unfold zh zb;rw [List.map_append,List.map_cons]
def Dp (s:cf tg) (nd:Nat):Nat:=uc s+30*(20000 - nd)
structure Inv (p:pb) (E:oe) (U:Nat→dh) (cap:List Nat) (N:Nat) (la:List Qd) (bs:List Pd) (nd:Nat):Prop where
 Cp:Ir p E U (zh la bs)
 Eb:Vn E cap bs
 j:∀ t ∈ la,pG E t
 Tw:nd≤20000
 qG:Dp (zh la bs) nd≤N
 out:∀ t ∈ la,t.out.length+Dp (zh la bs) nd≤N
theorem wF {t:Qd}{bs:List Pd}(r:pG E t) (hB:Vn E cap bs):∃ c,gq t bs=some c∧(c=false→∀ (pre post:List tg) (d:Nat) (m:cf tg),¬ og (xf E) cap (zb pre (Me t) post bs) pre.length d m) ∧
  (c=true→(∃ k,t.Yl=some k∧Me t=(t.core,.run (Pf (.Hd k))))∧t.Fe=0∧∀ (W:wq p E U) (pre post:List tg),Ir p E U (zb pre (Me t) post bs)→∃ d m,og (xf E) cap (zb pre (Me t) post bs) pre.length d m):=by
 unfold gq;rcases r with ⟨g,i,h,d,a⟩ | ⟨g,i,n,v,k,h,a⟩ | ⟨g,i,n,k,h,a⟩ | ⟨g,i,h⟩ | ⟨g,i⟩
 ·rw [if_pos g];have f:Me t=(t.core,.run (.Hd (.Ti d))):=by unfold Me;rw [if_neg (by omega),if_neg (by omega),a];rfl
  refine ⟨true,rfl,fun e=>(by cases e),fun _=>⟨⟨_,a,f⟩,h,fun W pre post j=>?_⟩⟩;rw [f] at j ⊢;obtain ⟨C,L,u,w⟩:=(j.la pre.length _ kl:Bl p (U pre.length) (t.core,.run (.Hd (.Ti d)))) _ rfl;obtain ⟨n,B,q,Ug,D,pc,-,-,-,y,-⟩:=safe (c:=.Hd (.Ti d)) (W.ok pre.length) u (fun z=>False.elim z) (fun x l s e k v A _=>(by cases A)) w;exact ⟨_,_,.Ng kl (show xf E (t.core,.run (.Hd (.Ti d)))=_ from pc.act y)⟩
 ·rw [if_neg (by omega),if_pos g];obtain ⟨b,oa,a2,a3,a4,a5,Sb,Jb⟩:=hB.at a;have f:Me t=(t.core,.run (.send n v k)):=by unfold Me;rw [if_neg (by omega),if_neg (by omega),h];rfl
  rw [oa,f];simp only [Option.bind_some];refine ⟨_,rfl,fun e pre post=>?_,fun e=>⟨⟨_,h,rfl⟩,i,fun W pre post j=>?_⟩⟩
  ·exact ME hB a a2 (by simpa using e)
  ·have o:(b.words.length:Int)<b.cap:=by simpa using e
   exact ⟨_,_,.send kl (show Mh E t.core (.send n v k)=.send t.box.toNat v 0 _ by rw [Mh,a]) Jb Sb (by omega)⟩
 ·rw [if_neg (by omega),if_neg (by omega),if_pos g];obtain ⟨b,oa,a2,a3,a4,a5,Sb,Jb⟩:=hB.at a;have f:Me t=(t.core,.run (.recv n k)):=by unfold Me;rw [if_neg (by omega),if_neg (by omega),h];rfl
  rw [oa,f];simp only [Option.bind_some];refine ⟨_,rfl,fun e pre post=>?_,fun e=>⟨⟨_,h,rfl⟩,i,fun W pre post j=>?_⟩⟩
  ·refine OE hB a a2 ?_;have g0:¬ (0:Int)<b.words.length:=by simpa using e
   have this:b.words.length=0:=by omega
   exact List.length_eq_zero_iff.1 this
  ·have o:(0:Int)<b.words.length:=by simpa using e
   cases hw:b.words with
   | nil=>rw [hw] at o; simp at o
   | cons v ws=>exact ⟨_,_,.recv kl (show Mh E t.core (.recv n k)=.recv t.box.toNat 0 _ by rw [Mh,a]) (by rw [← hw]; exact Jb)⟩
 ·rw [if_neg (by omega),if_neg (by omega),if_neg (by omega)];have f:Me t=(t.core,.done):=by unfold Me;rw [if_pos g]
  rw [f];exact ⟨false,rfl,fun _ pre post=>vy fun c=>(by simp),fun e=>by cases e⟩
 ·rw [if_neg (by omega),if_neg (by omega),if_neg (by omega)];have f:Me t=(t.core,.Fe t.Fe):=by unfold Me;rw [if_neg (by omega),if_pos g]
  rw [f];exact ⟨false,rfl,fun _ pre post=>vy fun c=>(by simp),fun e=>by cases e⟩
def nO (p:pb) (E:oe) (U:Nat→dh) (cap:List Nat) (N:Nat) (s:cf tg) (nd:Nat) (td:Bool) (all:List Qd) (la:List Qd) (bs:List Pd):Option (List Qd×List Pd×Int×Bool)→Prop
 | none=>∃ m d c,Mf (xf E) cap s m d c∧20000<nd+d
 | some (ts',a,e,b)=>∃ m d,Mf (xf E) cap s m d (zh ts' a)∧e=((nd+d:Nat):Int)∧Inv p E U cap N ts' a (nd+d)∧(b=true→td=true∨1≤m)∧(b=false→td=false∧ts'=all∧a=bs∧∀ t ∈ la,gq t bs=some false)∧ts'.length=all.length∧a.length=bs.length
theorem aL {α:Type}{l:List α}{a:α}(h:a ∈ l):∃ i:Nat,l[i]?=some a:=List.mem_iff_getElem?.1 h
theorem oA (W:wq p E U){N n:Nat}(L:N+2≤n) (M:N≤4000000000):∀ (la pre:List Qd) (bs:List Pd) (nd:Nat) (td:Bool),Inv p E U cap N (pre++la) bs nd→∃ r,Wp E n pre la bs nd td=some r∧nO p E U cap N (zh (pre++la) bs) nd td (pre++la) la bs r
 | [],pre,bs,nd,td,a=>by
  rw [Wp];rw [List.append_nil] at a ⊢;exact ⟨_,rfl,0,0,.nil,rfl,a,fun h=>.inl h,fun h=>⟨h,rfl,rfl,fun t V=>by cases V⟩,rfl,rfl⟩
 | t::la,pre,bs,nd,td,a=>by
  have X:=a.j t (by simp);obtain ⟨c,O,jb,c2⟩:=wF (p:=p) (U:=U) X a.Eb;rw [Wp,O];simp only [Option.bind_some];cases c with
  | false =>
   rw [if_neg (by simp)];have A:Inv p E U cap N ((pre++[t])++la) bs nd:=by simpa using a
   obtain ⟨r,g,l⟩:=oA W L M la (pre++[t]) bs nd td A;refine ⟨r,g,?_⟩;rw [List.append_assoc,List.singleton_append] at l;cases r with
   | none=>exact l
   | some r =>
    obtain ⟨ts',Y,Z,bb⟩:=r;obtain ⟨m,d,f,B,C,u,D,F⟩:=l;refine ⟨m,d,f,B,C,u,fun h=>?_,F⟩;obtain ⟨oa,a2,a3,a4⟩:=D h;exact ⟨oa,a2,a3,fun x b=>by
     rcases List.mem_cons.1 b with rfl | b
     ·exact O
     ·exact a4 x b⟩
  | true =>
   rw [if_pos rfl];obtain ⟨⟨k,Gb,P⟩,gc,lc⟩:=c2 rfl;have q:=a.Cp;rw [Jy] at q;obtain ⟨d0,rc,k0⟩:=lc W _ _ q;have v:zh (pre++t::la) bs=zb (pre.map Me) (t.core,.run (Pf (.Hd k))) (la.map Me) bs:=by rw [Jy,P]
   rw [P] at q k0;have fd:pw E n ⟨t,bs,nd⟩=ss E n (some k) ⟨{ t with state:=1,box:=0 },bs,nd⟩:=by
    exact congrArg (fun o=>ss E n o ⟨{ t with state:=1,box:=0 },bs,nd⟩) Gb
   have id:=a.qG;have md:=a.out t (by simp);rw [v] at id md;have le:=a.Tw;rcases Ty (cap:=cap) W (pre:=pre.map Me) (post:=la.map Me) (Dp (zb (pre.map Me) (t.core,.run (Pf (.Hd k))) (la.map Me) bs) nd+1) (.Hd k) { t with state:=1,box:=0 } bs nd q a.Tw (by show t.out.length+_≤_;omega) a.Eb rfl rfl gc with ⟨r,g,l⟩ | ⟨d,G,g,l⟩
   ·have ia:=vF _ (Nat.le_refl _) g n (by omega);rw [fd,ia];simp only [Option.bind_some];rw [v];cases r with
    | none=>exact ⟨_,rfl,l⟩
    | some z =>
     obtain ⟨m,d,f,B,C,u,D,F⟩:=l;replace f:Mf (xf E) cap (zb (pre.map Me) (t.core,.run (Pf (.Hd k))) (la.map Me) bs) m d (zb (pre.map Me) (Me z.t) (la.map Me) z.boxes):=f;have hm:1≤m:=by
      rcases Nat.eq_zero_or_pos m with rfl | h
      ·have e:=f.zero;have rd:og (xf E) cap (zb (pre.map Me) (Me z.t) (la.map Me) z.boxes) (pre.map Me).length d0 rc:=by rw [← e];exact k0
       exact (D _ _ rd).elim
      ·exact h
     obtain ⟨za,sd⟩:=nA W f q;have w:zh (pre++z.t::la) z.boxes=zb (pre.map Me) (Me z.t) (la.map Me) z.boxes:=Jy;have ne:Dp (zh (pre++z.t::la) z.boxes) (nd+d)+m≤Dp (zb (pre.map Me) (t.core,.run (Pf (.Hd k))) (la.map Me) bs) nd:=by
      rw [w];unfold Dp;omega
     have A:Inv p E U cap N (pre++z.t::la) z.boxes (nd+d):=by
      refine ⟨?_,u,fun x b=>?_,C,by omega,fun x b=>?_⟩
      ·rw [w];exact f.own W.own q
      ·simp only [List.mem_append,List.mem_cons] at b;rcases b with b | rfl | b
       ·exact a.j x (by simp [b])
       ·exact .inr F
       ·exact a.j x (by simp [b])
      ·obtain ⟨i,wd⟩:=aL b;obtain ⟨y,Q,Ne⟩:=sd i (Me x) (by
        rw [← w];show ((pre++z.t::la).map Me)[i]?=_;rw [List.getElem?_map,wd];rfl)
       rw [← v] at Q;have R:((pre++t::la).map Me)[i]?=some y:=Q;rw [List.getElem?_map] at R;obtain ⟨t0,t1,t2⟩:=Option.map_eq_some_iff.1 R;have Fd:=a.out t0 (List.mem_of_getElem? t1);rw [v] at Fd;have qa:(Me x).1.out.length=x.out.length:=rfl;have of:y.1.out.length=t0.out.length:=by rw [← t2];rfl
       omega
     have hlen:z.boxes.length=bs.length:=by
      have S:=u.cap;have Id:=a.Eb.cap;rw [Id] at S;have:=congrArg List.length S;simpa using this.symm
     have be:Inv p E U cap N ((pre++[z.t])++la) z.boxes (nd+d):=by simpa using A
     obtain ⟨r',s1,s2⟩:=oA W L M la (pre++[z.t]) z.boxes (nd+d) true be;rw [List.append_assoc,List.singleton_append] at s2;refine ⟨r',by show Wp E n (pre++[z.t]) la z.boxes z.nodes true=_;rw [B];exact s1,?_⟩;rw [w] at s2;cases r' with
     | none =>
      obtain ⟨H,s,G,K,T⟩:=s2;exact ⟨m+H,d+s,G,f.app K,by omega⟩
     | some r' =>
      obtain ⟨ts',Y,Z,bb⟩:=r';obtain ⟨H,s,K,T,ce,wf,ge,he,If⟩:=s2;refine ⟨m+H,d+s,f.app K,by rw [T];congr 1;omega,by rw [show nd+(d+s)=nd+d+s by omega];exact ce,fun _=>.inr (by omega),fun h=>?_,by simpa using he,by omega⟩;have:=(ge h).1;cases this
   ·exfalso;replace g:Mf (xf E) cap (zb (pre.map Me) (t.core,.run (Pf (.Hd k))) (la.map Me) bs) _ d G:=g;have:=(nA W g q).1;unfold Dp at this;omega
theorem pD (W:wq p E U){N n:Nat}(v:N+2≤n) (w:N≤4000000000):∀ (M m:Nat) (la:List Qd) (bs:List Pd) (nd:Nat),Inv p E U cap N la bs nd→Dp (zh la bs) nd<M→M≤m→∃ r,Yq E n m la bs nd=some r∧match r with
  | none=>∃ k d e,Mf (xf E) cap (zh la bs) k d e∧20000<nd+d
  | some (ts',a,b)=>∃ k d,Mf (xf E) cap (zh la bs) k d (zh ts' a)∧b=((nd+d:Nat):Int)∧Inv p E U cap N ts' a (nd+d)∧tp (xf E) cap (zh ts' a)∧(∀ t ∈ ts',gq t a=some false)∧ts'.length=la.length∧a.length=bs.length
 | 0,m,la,bs,nd,o,y,hm=>by omega
 | M+1,m,la,bs,nd,o,y,hm=>by
  obtain ⟨m,rfl⟩:∃ k,m=k+1:=⟨m - 1,by omega⟩;obtain ⟨r,D,q⟩:=oA (cap:=cap) W v w la [] bs nd false o;rw [Yq,D];simp only [Option.bind_some];rw [List.nil_append] at q;cases r with
  | none=>exact ⟨_,rfl,q⟩
  | some r =>
   obtain ⟨ts',a,b,F⟩:=r;obtain ⟨k,d,l,z,f,G,H,R,S⟩:=q;cases F with
   | true =>
    have T:1≤k:=by
     rcases G rfl with h | h
     ·cases h
     ·exact h
    have V:=(nA W l o.Cp).1;have X:=f.Tw;obtain ⟨r',s1,s2⟩:=pD W v w M m ts' a (nd+d) f (by unfold Dp at y ⊢;omega) (by omega);refine ⟨r',by show (if true=true then Yq E n m ts' a b else some (some (ts',a,b)))=_;rw [if_pos rfl,z];exact s1,?_⟩;cases r' with
    | none =>
     obtain ⟨k',g,e,s,A⟩:=s2;exact ⟨k+k',d+g,e,l.app s,by omega⟩
    | some r' =>
     obtain ⟨Y,Z,bb⟩:=r';obtain ⟨k',g,s,A,K,L,O,Gb,gc⟩:=s2;exact ⟨k+k',d+g,l.app s,by rw [A];congr 1;omega,by rw [show nd+(d+g)=nd+d+g by omega];exact K,L,O,by omega,by omega⟩
   | false =>
    obtain ⟨-,rfl,rfl,a4⟩:=H rfl;refine ⟨some (ts',a,b),by show (if false=true then Yq E n m ts' a b else some (some (ts',a,b)))=_;rw [if_neg (by simp)],k,d,l,z,f,fun i c e u=>?_,a4,rfl,rfl⟩;have B:i<ts'.length:=by
     have:∃ x,(zh ts' a).la[i]?=some x:=by cases u<;>exact ⟨_,by assumption⟩
     obtain ⟨x,P⟩:=this;have:=(List.getElem?_eq_some_iff.1 P).1;simpa [zh] using this
    have Q:ts'=ts'.take i++ts'[i]::ts'.drop (i+1):=by simp
    obtain ⟨c0,nb,qa,-⟩:=wF (p:=p) (U:=U) (f.j _ (List.getElem_mem B)) f.Eb;rw [a4 _ (List.getElem_mem B)] at nb;cases nb;have ia:i=((ts'.take i).map Me).length:=by simp;omega
    rw [Q,Jy] at u;have C:=qa rfl ((ts'.take i).map Me) ((ts'.drop (i+1)).map Me) c e;rw [← ia] at C;exact C u
end
end Go.Y
namespace Go.Y
open Go.Rb Go.ec
def Ii (d:sa):Bool:=decide (d.Kind=1)
def qh (d:sa):Bool:=decide (d.Kind=4)
structure au (l:List sa) (u:Rn):Prop where
 D:∀ d ∈ l,Ua u.D d.Name=some d
 Do:∀ n d,Ua u.D n=some d→d ∈ l∧d.Name=n
 bs:u.bs=(l.filter Ii).map fun d=>⟨d.Jf,[]⟩
 la:u.la=(l.filter qh).map Ol
 O:∀ (j:Nat) d,(l.filter Ii)[j]?=some d→Ua u.O d.Name=some (j:Int)
 et:∀ n i,Ua u.O n=some i→∃ (j:Nat) (d:sa),i=(j:Int)∧(l.filter Ii)[j]?=some d∧d.Name=n
theorem au.snoc {l:List sa}{u:Rn}(h:au l u){d:sa}(g:∀ e ∈ l,e.Name≠d.Name):au (l++[d]) (Sh u d):=by
 have k:(Sh u d).D=zd u.D d.Name d:=by unfold Sh Hs Gs;split<;>split<;>rfl
 have m:(Sh u d).O=if d.Kind=1 then zd u.O d.Name (u.bs.length:Int) else u.O:=by unfold Sh Hs Gs;split<;>split<;>rfl
 have hB:(Sh u d).bs=if d.Kind=1 then u.bs++[⟨d.Jf,[]⟩] else u.bs:=by unfold Sh Hs Gs;split<;>split<;>rfl
 have o:(Sh u d).la=if d.Kind=4 then u.la++[Ol d] else u.la:=by unfold Sh Hs Gs;split<;>split<;>rfl
 have f:(l++[d]).filter Ii=l.filter Ii++if d.Kind=1 then [d] else []:=by
  rw [List.filter_append];congr 1;by_cases c:d.Kind=1<;>simp [Ii,c]
 have p:(l++[d]).filter qh=l.filter qh++if d.Kind=4 then [d] else []:=by
  rw [List.filter_append];congr 1;by_cases c:d.Kind=4<;>simp [qh,c]
 have hlen:u.bs.length=(l.filter Ii).length:=by rw [h.bs,List.length_map]
 refine ⟨fun e he=>?_,fun n e he=>?_,?_,?_,fun j e he=>?_,fun n i he=>?_⟩
 ·rw [k,Mj];rcases List.mem_append.1 he with he | he
  ·rw [if_neg (g e he).symm];exact h.D e he
  ·rw [List.mem_singleton.1 he,if_pos rfl]
 ·rw [k,Mj] at he;split at he
  ·rename_i q;cases he;exact ⟨by simp,q⟩
  ·obtain ⟨a,b⟩:=h.Do n e he;exact ⟨by simp [a],b⟩
 ·rw [hB,f];split<;>simp [h.bs]
 ·rw [o,p];split<;>simp [h.la]
 ·rw [f] at he;rw [m];by_cases c:d.Kind=1
  ·rw [if_pos c] at he ⊢;rw [Mj];by_cases r:j<(l.filter Ii).length
   ·rw [List.getElem?_append_left r] at he;rw [if_neg (g e (List.mem_filter.1 (List.mem_of_getElem? he)).1).symm];exact h.O j e he
   ·rw [List.getElem?_append_right (by omega)] at he;have s:j=(l.filter Ii).length:=by have:=(List.getElem?_eq_some_iff.1 he).1;simp at this;omega
    subst s;simp at he;subst he;rw [if_pos rfl,hlen]
  ·rw [if_neg c] at he ⊢;rw [List.append_nil] at he;exact h.O j e he
 ·rw [m] at he;rw [f];by_cases c:d.Kind=1
  ·rw [if_pos c] at he ⊢;rw [Mj] at he;split at he
   ·rename_i q;cases he;exact ⟨_,d,rfl,by rw [hlen];simp,q⟩
   ·obtain ⟨j,e,qa,t,v⟩:=h.et n i he;exact ⟨j,e,qa,Fo t,v⟩
  ·rw [if_neg c] at he ⊢;rw [List.append_nil];exact h.et n i he
theorem hE:∀ (xs pre:List sa) (u:Rn),au pre u→(pre++xs).Pairwise (fun a b=>a.Name≠b.Name)→au (pre++xs) (xs.foldl Sh u)
 | [],pre,u,h,_=>by simpa using h
 | d::xs,pre,u,h,c=>by
  have f:∀ e ∈ pre,e.Name≠d.Name:=fun e he=>(List.pairwise_append.1 c).2.2 e he d (by simp);have:=hE xs (pre++[d]) (Sh u d) (h.snoc f) (by simpa using c);simpa using this
theorem bL {l:List sa}(c:l.Pairwise fun a b=>a.Name≠b.Name):au l (Uf l):=
 hE l [] ⟨[],[],[],[]⟩ ⟨fun d h=>(by cases h),fun n d h=>(by cases h),rfl,rfl,fun j d h=>(by simp at h),fun n i h=>(by cases h)⟩ c
def iC (N:List (Nm×sa)) (t:sa):dh:=⟨fun n=>∃ d,uq N t d∧n ∈ Ci d,fun n=>∃ d,uq N t d∧n ∈ mn d,fun n=>∃ d,uq N t d∧n ∈ nn d⟩
def Cl (N:List (Nm×sa)) (la:List sa) (i:Nat):dh:=match la[i]? with
 | some t=>iC N t
 | none=>⟨fun _=>False,fun _=>False,fun _=>False⟩
theorem fp {α β:Type}{f:α→List β}{l:List α}{a:α}{b:β}(c:a ∈ l) (d:b ∈ f a):b ∈ (l.map f).flatten:=by
 simp only [List.mem_flatten,List.mem_map];exact ⟨f a,⟨a,c,rfl⟩,d⟩
theorem TF {U:dh}:∀ (k:Nat) (x:Da),Qw k x→(∀ n ∈ Xi k x,U.c n)→(∀ n ∈ tj k x,U.r n)→cx U x
 | 0,x,h,_,_=>h.elim
 | k+1,x,h,a,b=>by
  rw [Xi] at a;rw [tj] at b;refine .mk (fun e=>a _ ?_) (fun e=>b _ ?_) fun y d=>TF k y (h.2.2.2.2.2.2 y d) (fun n f=>a n (List.mem_append_right _ (fp d f))) fun n f=>b n (List.mem_append_right _ (fp d f))
  ·rw [if_pos e];simp
  ·rw [if_pos e];simp
theorem LB {U:dh}:∀ (k:Nat) (x:Ea),gu k x→(∀ n ∈ Di k x,U.c n)→(∀ n ∈ Zi k x,U.s n)→(∀ n ∈ Yi k x,U.r n)→dx U x
 | 0,x,h,_,_,_=>h.elim
 | k+1,x,h,d,f,g=>by
  rw [Di] at d;rw [Zi] at f;rw [Yi] at g;refine .mk (fun e=>f _ ?_) (fun e=>TF k _ (h.2.2.1 e) (fun n a=>d n ?_) (fun n a=>g n ?_)) (fun e y b=>LB k y ((h.2.2.2.2.1 e).2 y b) (fun n a=>d n ?_) (fun n a=>f n ?_) (fun n a=>g n ?_)) (fun e y b=>LB k y ((h.2.2.2.2.2 e).2 y b) (fun n a=>d n ?_) (fun n a=>f n ?_) (fun n a=>g n ?_))
  ·rw [if_pos e];simp
  ·rw [if_neg e];simp [a]
  ·rw [if_neg e];simp [a]
  ·refine List.mem_append_left _ (List.mem_append_right _ ?_);rw [if_pos e];exact fp b a
  ·refine List.mem_append_left _ (List.mem_append_right _ ?_);rw [if_pos e];exact fp b a
  ·refine List.mem_append_left _ (List.mem_append_right _ ?_);rw [if_pos e];exact fp b a
  ·refine List.mem_append_right _ ?_;rw [if_pos e];exact fp b a
  ·refine List.mem_append_right _ ?_;rw [if_pos e];exact fp b a
  ·refine List.mem_append_right _ ?_;rw [if_pos e];exact fp b a
structure Fh (p:pb) (l:List sa) (fu:Nat):Prop where
 R:an p l
 F:∀ d ∈ l,Us d
 T:∀ d ∈ l,d.Kind≠1→∃ a,sk p d ([if d.Kind=4 then [] else Ns d]++[[]]) d.Body a
 oO:500≤fu
 uO:(Dm (Xj p.named fu l []) l l 0 []).2.Hg=0
theorem FJ {fu:Nat}(e:500≤fu){l:List sa}{f:df}(h:Vq fu l=some f) (i:f.Hg=0):∃ p,Fh p l fu:=by
 obtain ⟨p,g,j,k⟩:=ox fu e l;rw [Vq] at h;obtain ⟨r,d,h⟩:=ua h;obtain rfl:=Option.some.inj h;rcases k with ⟨a,b⟩ | ⟨a,b,c⟩
 ·rw [b] at d;cases d;exact absurd i a
 ·rw [c] at d;cases d;obtain ⟨m,n⟩:=vJ e j a;exact ⟨p,b,m,n,e,i⟩
theorem cL {fu:Nat}(d:500≤fu) (l:List sa):∃ f,Vq fu l=some f:=by
 obtain ⟨p,g,h,e⟩:=ox fu d l;rw [Vq];rcases e with ⟨a,b⟩ | ⟨a,b,c⟩
 ·rw [b];exact ⟨_,rfl⟩
 ·rw [c];exact ⟨_,rfl⟩
section
variable {p:pb}{l:List sa}{fu:Nat}
theorem Fh.set (h:Fh p l fu):au l (Uf l):=bL h.R.nd
theorem Fh.Pq (h:Fh p l fu) (n:Nm):Ua (Uf l).env.defs n=Ua p.named n:=by
 show Ua (Uf l).D n=_;cases e:Ua p.named n with
 | some d =>
  obtain ⟨a,rfl⟩:=h.R.only _ _ e;exact h.set.D d a
 | none =>
  cases b:Ua (Uf l).D n with
  | none=>rfl
  | some d =>
   obtain ⟨a,rfl⟩:=h.set.Do _ _ b;rw [h.R.mc d a] at e;cases e
theorem Fh.Cv (h:Fh p l fu){N:List (Nm×sa)}{t f:sa}(e:f ∈ l) (k1:f.Kind≠1) (c:uq N t f):rj (iC N t) f.Body:=by
 have d:=((h.F f e).Ih k1).2;exact ⟨⟨39,d⟩,fun y b=>LB 39 y (d y b) (fun n a=>⟨f,c,fp b a⟩) (fun n a=>⟨f,c,fp b a⟩) fun n a=>⟨f,c,fp b a⟩⟩
theorem Fh.pO (h:Fh p l fu) (i:Nat):ln p (Cl p.named (l.filter qh) i) (Uf l).env where
 xa n f e:=h.R.xa f (h.R.only n f e).1
 Eh n f hu e k1:=by
  unfold Cl at hu ⊢;split at hu
  ·obtain ⟨d,xa,b⟩:=hu;exact h.Cv (h.R.only n f e).1 k1 (.step xa b e)
  ·exact hu.elim
 ty n f e k1:=h.T f (h.R.only n f e).1 k1
 Pq n:=h.Pq n
 Ae n f e k1:=by
  obtain ⟨a,rfl⟩:=h.R.only n f e;obtain ⟨j,c⟩:=List.mem_iff_getElem?.1 (List.mem_filter.2 ⟨a,by simp [Ii,k1]⟩:f ∈ l.filter Ii);exact ⟨j,h.set.O j f c⟩
theorem Ky {α:Type}{R:α→α→Prop}{l:List α}(h:l.Pairwise R){i j:Nat}{a b:α}(c:l[i]?=some a) (d:l[j]?=some b) (e:i<j):R a b:=by
 obtain ⟨f,rfl⟩:=List.getElem?_eq_some_iff.1 c;obtain ⟨g,rfl⟩:=List.getElem?_eq_some_iff.1 d;exact List.pairwise_iff_getElem.1 h i j f g e
theorem Fh.snd (h:Fh p l fu){t:sa}(b:t ∈ l) (Ue:t.Kind=4){d:sa}(f:uq p.named t d){n:Nm}:(n ∈ mn d→Ps (Xj p.named fu l []) n t)∧(n ∈ nn d→Qs (Xj p.named fu l []) n t):=by
 obtain ⟨-,u,hu,-⟩:=FE h.R fu h.oO t b (by omega);have c:=wJ hu f;have e:=yA p.named fu Ue l [] h.R.nd b;rw [hu] at e;refine ⟨fun a=>⟨Ue,?_⟩,fun a=>⟨Ue,?_⟩⟩
 ·rw [e];simpa using c.1 n a
 ·rw [e];simpa using c.2 n a
theorem Fh.one (h:Fh p l fu){n:Nm}{b:Int}(e:Ua (Uf l).env.order n=some b):(l.Pairwise fun a c=>¬ (Ps (Xj p.named fu l []) n a∧Ps (Xj p.named fu l []) n c))∧l.Pairwise fun a c=>¬ (Qs (Xj p.named fu l []) n a∧Qs (Xj p.named fu l []) n c):=by
 obtain ⟨j,d,rfl,xa,rfl⟩:=h.set.et n b e;obtain ⟨hm,k1⟩:=List.mem_filter.1 (List.mem_of_getElem? xa);obtain ⟨y,f⟩:=AA _ l l 0 [] h.uO d hm (by simpa [Ii] using k1);obtain ⟨⟨-,lb⟩,-,xb⟩:=zA _ d.Name l [] [] y (fun t g=>(h.F t g).mc.Oq) f;exact ⟨lb,xb⟩
theorem Fh.names (h:Fh p l fu):wq p (Uf l).env (Cl p.named (l.filter qh)) where
 ok:=h.pO
 ord:=⟨fun n m i qa B=>by
   obtain ⟨j,d,rfl,xa,rfl⟩:=h.set.et n i qa;obtain ⟨C,D,e,A,rfl⟩:=h.set.et m _ B;obtain rfl:j=C:=by omega
   rw [xa] at A;cases A;rfl,fun n i e=>by
   obtain ⟨j,d,rfl,-,-⟩:=h.set.et n i e;omega,fun n f e k1=>(h.R.xa f (h.R.only n f e).1).ty (by omega)⟩
 s n i j k g y:=by
  obtain ⟨b,k⟩:=k;have o:=(h.one k).1.sublist (List.filter_sublist (p:=qh));have key:∀ i,(Cl p.named (l.filter qh) i).s n→∃ t,(l.filter qh)[i]?=some t∧Ps (Xj p.named fu l []) n t:=fun i g=>by
   unfold Cl at g;split at g
   ·rename_i t u;obtain ⟨d,xa,z⟩:=g;obtain ⟨m1,m2⟩:=List.mem_filter.1 (List.mem_of_getElem? u);exact ⟨t,u,(h.snd m1 (by simpa [qh] using m2) xa).1 z⟩
   ·exact g.elim
  obtain ⟨a,v,w⟩:=key i g;obtain ⟨c,x,gd⟩:=key j y;rcases Nat.lt_trichotomy i j with q | q | q
  ·exact absurd ⟨w,gd⟩ (Ky o v x q)
  ·exact q
  ·exact absurd ⟨gd,w⟩ (Ky o x v q)
 r n i j k g y:=by
  obtain ⟨b,k⟩:=k;have o:=(h.one k).2.sublist (List.filter_sublist (p:=qh));have key:∀ i,(Cl p.named (l.filter qh) i).r n→∃ t,(l.filter qh)[i]?=some t∧Qs (Xj p.named fu l []) n t:=fun i g=>by
   unfold Cl at g;split at g
   ·rename_i t u;obtain ⟨d,xa,z⟩:=g;obtain ⟨m1,m2⟩:=List.mem_filter.1 (List.mem_of_getElem? u);exact ⟨t,u,(h.snd m1 (by simpa [qh] using m2) xa).2 z⟩
   ·exact g.elim
  obtain ⟨a,v,w⟩:=key i g;obtain ⟨c,x,gd⟩:=key j y;rcases Nat.lt_trichotomy i j with q | q | q
  ·exact absurd ⟨w,gd⟩ (Ky o v x q)
  ·exact q
  ·exact absurd ⟨gd,w⟩ (Ky o x v q)
def Qj (l:List sa):List Nat:=(l.filter Ii).map fun d=>d.Jf.toNat
theorem JD {α:Type}(f:α→Nat) (k:Nat):∀ (l:List α),(∀ x ∈ l,f x=k)→(l.map f).sum=k*l.length
 | [],_=>by simp
 | x::l,h=>by
  rw [List.map_cons,List.sum_cons,JD f k l fun y a=>h y (by simp [a]),h x (by simp),List.length_cons,Nat.mul_succ];omega
theorem GJ (d:sa):Me (Ol d)=(⟨[],[⟨d,none,false,false,false,none,none,none⟩],0,[]⟩,.run (.Hd (.Ti d))):=rfl
theorem Fh.inv (h:Fh p l fu):Inv p (Uf l).env (Cl p.named (l.filter qh)) (Qj l) 600180 (Uf l).la (Uf l).bs 0:=by
 have k:=h.set.la;have m:=h.set.bs;have hlen:(l.filter qh).length≤30:=Nat.le_trans (List.length_filter_le _ _) h.R.ok.le;have u:uc (zh (Uf l).la (Uf l).bs)=6*(l.filter qh).length:=by
  unfold uc zh;rw [k];simp only [List.map_map];exact JD _ 6 _ fun d _=>rfl
 have y:Dp (zh (Uf l).la (Uf l).bs) 0≤600180:=by unfold Dp;rw [u];omega
 refine ⟨⟨fun i x z=>?_,fun b w hw v A=>?_⟩,⟨?_,fun b o=>?_,fun n i e=>?_⟩,fun t f=>?_,by omega,y,fun t f=>?_⟩
 ·have q:((Uf l).la.map Me)[i]?=some x:=z;rw [k,List.map_map,List.getElem?_map] at q;obtain ⟨d,xa,rfl⟩:=Option.map_eq_some_iff.1 q;obtain ⟨m1,m2⟩:=List.mem_filter.1 (List.mem_of_getElem? xa);have Ue:d.Kind=4:=by simpa [qh] using m2
  have B:Cl p.named (l.filter qh) i=iC p.named d:=by unfold Cl;rw [xa]
  show Bl p (Cl p.named (l.filter qh) i) (Me (Ol d));rw [B,GJ];intro c a;cases a;obtain ⟨C,vf⟩:=h.T d m1 (by omega);rw [if_pos Ue] at vf;have g0:∀ (g:Nat) (c:Vg),([⟨d,none,false,false,false,none,none,none⟩]:List Vg)[g]?=some c→g=0∧c=⟨d,none,false,false,false,none,none,none⟩:=fun g c a=>by
   cases g with
   | zero=>simp at a; exact ⟨rfl,a.symm⟩
   | succ g=>simp at a
  refine ⟨⟨[d],[]⟩,[],⟨⟨rfl,fun i c a=>by simp at a⟩,rfl,fun g c a=>?_,by simp,by simp,.main,List.nodup_nil,fun g c a D=>?_,fun E r=>?_⟩,rfl,Ue,h.Cv m1 (by omega) .refl,C,vf⟩
  ·obtain ⟨rfl,rfl⟩:=g0 g c a;exact ⟨rfl,fun e=>by omega,fun e=>by omega,fun e=>by omega,fun e=>by omega,fun _=>⟨rfl,rfl⟩⟩
  ·obtain ⟨rfl,rfl⟩:=g0 g c a;cases D
  ·simp at r;subst r;omega
 ·have s:((Uf l).bs.map Pd.words)[b]?=some w:=hw;rw [m,List.map_map,List.getElem?_map] at s;obtain ⟨d,-,rfl⟩:=Option.map_eq_some_iff.1 s;cases A
 ·rw [m,List.map_map];rfl
 ·rw [m] at o;obtain ⟨d,xa,rfl⟩:=List.mem_map.1 o;obtain ⟨m1,m2⟩:=List.mem_filter.1 xa;have:=(h.F d m1).Ig (by simpa [Ii] using m2);exact ⟨by show 0≤d.Jf;omega,by show d.Jf≤100;omega,by show ((0:Nat):Int)≤d.Jf;omega⟩
 ·obtain ⟨j,d,rfl,xa,-⟩:=h.set.et n i e;rw [m,List.length_map];have:=(List.getElem?_eq_some_iff.1 xa).1;omega
 ·rw [k] at f;obtain ⟨d,-,rfl⟩:=List.mem_map.1 f;exact .inl ⟨rfl,rfl,rfl,d,rfl⟩
 ·rw [k] at f;obtain ⟨d,-,rfl⟩:=List.mem_map.1 f;show 0+_≤_;omega
def bo (l:List sa):cf tg:=⟨(l.filter qh).map fun d=>Me (Ol d),(l.filter Ii).map fun _=>[]⟩
theorem Fh.je (h:Fh p l fu):zh (Uf l).la (Uf l).bs=bo l:=by
 unfold zh bo;rw [h.set.la,h.set.bs,List.map_map,List.map_map];rfl
theorem Fh.eO (h:Fh p l fu){n:Nat}(m:600200≤n):∃ r,eF n l=some r∧match r with
  | none=>∃ k d e,Mf (xf (Uf l).env) (Qj l) (bo l) k d e∧20000<d
  | some (ts',c,g)=>∃ k d,Mf (xf (Uf l).env) (Qj l) (bo l) k d (zh ts' c)∧g=(d:Int)∧Inv p (Uf l).env (Cl p.named (l.filter qh)) (Qj l) 600180 ts' c d∧tp (xf (Uf l).env) (Qj l) (zh ts' c)∧(∀ t ∈ ts',gq t c=some false)∧ts'.length=(l.filter qh).length∧c.length=(l.filter Ii).length:=by
 have i:=h.inv;obtain ⟨r,j,f⟩:=pD (cap:=Qj l) h.names (n:=n) (by omega) (by omega) 600190 n _ _ 0 i (by have:=i.qG;omega) (by omega);refine ⟨r,j,?_⟩;rw [h.je] at f;cases r with
 | none =>
  obtain ⟨k,d,e,a,b⟩:=f;exact ⟨k,d,e,a,by omega⟩
 | some r =>
  obtain ⟨ts',c,g⟩:=r;obtain ⟨k,d,oa,a2,a3,a4,a5,Sb,Jb⟩:=f;rw [Nat.zero_add] at a2 a3;rw [h.set.la,List.length_map] at Sb;rw [h.set.bs,List.length_map] at Jb;exact ⟨k,d,oa,a2,a3,a4,a5,Sb,Jb⟩
end
end Go.Y
namespace Go.Y
open Go.Rb Go.ec
structure Bp (p:pb) (l:List sa) (la:List Qd) (bs:List Pd) (k d:Nat):Prop where
 run:Mf (xf (Uf l).env) (Qj l) (bo l) k d (zh la bs)
 inv:Inv p (Uf l).env (Cl p.named (l.filter qh)) (Qj l) 600180 la bs d
 fin:tp (xf (Uf l).env) (Qj l) (zh la bs)
 can:∀ t ∈ la,gq t bs=some false
 vf:la.length=(l.filter qh).length
 Ud:bs.length=(l.filter Ii).length
def Uw (la:List Qd) (bs:List Pd) (d:Nat):er:=⟨la.map gi,bs.map Pd.words,(d:Int)⟩
theorem xF {fu:Nat}(h:600200≤fu) (l:List sa):∃ f,Vq fu l=some f∧(f.Hg≠0→ep fu l=some (⟨[],[],0⟩,f)) ∧
  (f.Hg=0→∃ p,Fh p l fu∧((ep fu l=some (⟨[],[],0⟩,⟨10,0⟩)∧∃ k d i,Mf (xf (Uf l).env) (Qj l) (bo l) k d i∧20000<d)∨∃ la bs k d,ep fu l=some (Uw la bs d,⟨0,0⟩)∧Bp p l la bs k d)):=by
 obtain ⟨f,a⟩:=cL (fu:=fu) (by omega) l;refine ⟨f,a,fun b=>?_,fun b=>?_⟩
 ·unfold ep;rw [a];simp only [Option.bind_some];rw [if_pos b]
 ·obtain ⟨p,P⟩:=FJ (by omega) a b;refine ⟨p,P,?_⟩;obtain ⟨r,j,g⟩:=P.eO h;have ia:l.length≤30:=P.R.ok.le;have e:ep fu l=eA r:=by
   unfold ep;rw [a];simp only [Option.bind_some];rw [if_neg (by simpa using b),if_pos (by omega),j];rfl
  cases r with
  | none=>exact .inl ⟨e,g⟩
  | some r =>
   obtain ⟨la,bs,nd⟩:=r;obtain ⟨k,d,oa,rfl,a3,a4,a5,Sb,Jb⟩:=g;refine .inr ⟨la,bs,k,d,?_,oa,a3,a4,a5,Sb,Jb⟩;rw [e];show (if _ then _ else _)=_;have n:(l.filter qh).length≤30:=Nat.le_trans (List.length_filter_le _ _) ia;have o:(l.filter Ii).length≤30:=Nat.le_trans (List.length_filter_le _ _) ia;rw [if_pos ⟨by omega,by omega,List.all_eq_true.2 fun c m=>by have:=a3.Eb.le c m;simp;omega⟩];rfl
section
variable {p:pb}{l:List sa}{la:List Qd}{bs:List Pd}{k d:Nat}
end
end Go.Y
namespace Go.Y
open Go.Rb Go.ec
def qn (x a:Da):Prop:=a=x∨∃ k,lu k x a
def uj (x a:Ea):Prop:=a=x∨∃ k,pn k x a
def mi {α:Type}(R:α→α→Prop) (l a:List α):Prop:=a.length=l.length∧∀ (i:Nat) (y b:α),l[i]?=some y→a[i]?=some b→R y b
theorem mi.MB {α:Type}{R:α→α→Prop}(h:∀ a,R a a){l:List α}:mi R l l:=⟨Eq.refl _,fun i y c a b=>by rw [a] at b;cases b;exact h y⟩
theorem mi.get {α:Type}{R:α→α→Prop}{l a:List α}(h:mi R l a){i:Nat}{y:α}(e:l[i]?=some y):∃ b,a[i]?=some b∧R y b:=by
 have ia:=(List.getElem?_eq_some_iff.1 e).1;have c:a[i]?=some (a[i]'(by rw [h.1];exact ia)):=List.getElem?_eq_getElem _;exact ⟨_,c,h.2 i _ _ e c⟩
theorem mi.cons {α:Type}{R:α→α→Prop}{x:α}{l c:List α}(h:mi R (x::l) c):∃ y m,c=y::m∧R x y∧mi R l m:=by
 cases c with
 | nil=>have:=h.1; simp at this
 | cons y m=>exact ⟨y,m,rfl,h.2 0 _ _ rfl rfl,by have:=h.1; simpa using this,fun i a b d e=>h.2 (i+1) a b (by simpa using d) (by simpa using e)⟩
theorem mi.Bw {α:Type}{R S:α→α→Prop}{l c:List α}(h:Dh R l c) (e:∀ a b,R a b→S a b):mi S l c:=⟨h.1,fun i y f a b=>by
 obtain ⟨z,d,z2⟩:=h.2 i y a;rw [b] at d;cases d;exact e _ _ z2⟩
theorem mi.app {α:Type}{R:α→α→Prop}{l d:List α}{a b:α}(h:mi R l d) (g:R a b):mi R (l++[a]) (d++[b]):=by
 refine ⟨by simp [h.1],fun i y k e c=>?_⟩;by_cases f:i<l.length
 ·rw [List.getElem?_append_left f] at e;rw [List.getElem?_append_left (by rw [h.1];exact f)] at c;exact h.2 i _ _ e c
 ·rw [List.getElem?_append_right (by omega)] at e;rw [List.getElem?_append_right (by rw [h.1];omega),h.1] at c;generalize i - l.length=j at e c;cases j with
  | zero=>simp at e c; subst e c; exact g
  | succ j=>simp at e
theorem mi.set {α:Type}{R:α→α→Prop}{l f:List α}{a b:α}{j:Nat}(h:mi R l f) (g:R a b):mi R (l.set j a) (f.set j b):=by
 refine ⟨by simp [h.1],fun i y k e d=>?_⟩;rw [List.getElem?_set] at e d;by_cases c:j=i
 ·rw [if_pos c] at e d;split at e
  ·split at d
   ·cases e;cases d;exact g
   ·cases d
  ·cases e
 ·rw [if_neg c] at e d;exact h.2 i _ _ e d
theorem qn.kind {x a:Da}(h:qn x a):a.Kind=x.Kind:=by
 rcases h with rfl | ⟨k,h⟩
 ·rfl
 ·cases k with
  | zero=>exact h.elim
  | succ k=>exact h.1
theorem qn.n {x a:Da}(h:qn x a) (b:x.Kind=1∨x.Kind=2):a.N=x.N:=by
 rcases h with rfl | ⟨k,h⟩
 ·rfl
 ·cases k with
  | zero=>exact h.elim
  | succ k=>exact h.2.1 b
theorem qn.name {x a:Da}(h:qn x a) (b:x.Kind=3∨x.Kind=20∨x.Kind=19∨x.Kind=22):a.Name=x.Name:=by
 rcases h with rfl | ⟨k,h⟩
 ·rfl
 ·cases k with
  | zero=>exact h.elim
  | succ k=>exact h.2.2.1 b
theorem qn.kids {x c:Da}(h:qn x c):mi qn x.Kids c.Kids:=by
 rcases h with rfl | ⟨k,h⟩
 ·exact .MB fun a=>.inl rfl
 ·cases k with
  | zero=>exact h.elim
  | succ k=>exact .Bw h.2.2.2 fun a b q=>.inr ⟨k,q⟩
theorem uj.kind {x a:Ea}(h:uj x a):a.Kind=x.Kind:=by
 rcases h with rfl | ⟨k,h⟩
 ·rfl
 ·cases k with
  | zero=>exact h.elim
  | succ k=>exact h.1
theorem uj.name {x a:Ea}(h:uj x a) (b:x.Kind=1∨x.Kind=2∨x.Kind=7):a.Name=x.Name:=by
 rcases h with rfl | ⟨k,h⟩
 ·rfl
 ·cases k with
  | zero=>exact h.elim
  | succ k=>exact h.2.1 b
theorem uj.x {x a:Ea}(h:uj x a) (b:x.Kind≠6):qn x.X a.X:=by
 rcases h with rfl | ⟨k,h⟩
 ·exact .inl rfl
 ·cases k with
  | zero=>exact h.elim
  | succ k=>exact .inr ⟨k,h.2.2.1 b⟩
theorem uj.body {x c:Ea}(h:uj x c) (d:x.Kind=3∨x.Kind=4):mi uj x.Body c.Body:=by
 rcases h with rfl | ⟨k,h⟩
 ·exact .MB fun a=>.inl rfl
 ·cases k with
  | zero=>exact h.elim
  | succ k=>exact .Bw (h.2.2.2.1 d) fun a b q=>.inr ⟨k,q⟩
theorem uj.hC {x c:Ea}(h:uj x c) (d:x.Kind=3):mi uj x.me c.me:=by
 rcases h with rfl | ⟨k,h⟩
 ·exact .MB fun a=>.inl rfl
 ·cases k with
  | zero=>exact h.elim
  | succ k=>exact .Bw (h.2.2.2.2 d) fun a b q=>.inr ⟨k,q⟩
def jC (d a:sa):Prop:=a.Params.map TParam.Name=d.Params.map TParam.Name∧mi uj d.Body a.Body
theorem bA:∀ (Nf a:List TParam) (vs:List Int) (S:List hi) (s:Option Nat),a.map TParam.Name=Nf.map TParam.Name→Oj a vs S s=Oj Nf vs S s
 | [],[],vs,S,s,h=>rfl
 | [],q::a,vs,S,s,h=>by simp at h
 | q::Nf,[],vs,S,s,h=>by simp at h
 | q::Nf,b::a,[],S,s,h=>by rw [Oj,Oj]
 | q::Nf,b::a,v::vs,S,s,h=>by
  simp only [List.map_cons,List.cons.injEq] at h;rw [Oj,Oj,h.1];exact bA Nf a vs _ _ h.2
mutual
def Rq:ff→ff→Prop
 | .all l s Sd k,q=>∃ a k',q=.all a s Sd k'∧mi qn l a∧oC k k'
 | .stat l s e k,q=>∃ a b k',q=.stat a s b k'∧mi uj l a∧zv e b∧Sq k k'
 | .rf x s e k,q=>∃ c b k',q=.rf c s b k'∧uj x c∧x.Kind=4∧zv e b∧Sq k k'
termination_by structural x=>x
def oC:gl→gl→Prop
 | .ex x k,q=>∃ a k',q=.ex a k'∧qn x a∧Rq k k'
termination_by structural x=>x
def Sq:xe→xe→Prop
 | .zero k,q=>∃ k',q=.zero k'∧Rq k k'
 | .recv n k,q=>∃ k',q=.recv n k'∧Rq k k'
 | .send n v k,q=>∃ k',q=.send n v k'∧Sq k k'
 | .done g,q=>q=.done g
 | .stats l s e k,q=>∃ b a k',q=.stats b s a k'∧mi uj l b∧zv e a∧Sq k k'
 | .rf x s e k,q=>∃ c a k',q=.rf c s a k'∧uj x c∧x.Kind=4∧zv e a∧Sq k k'
 | .fin,q=>q=.fin
 | .Ti d,q=>∃ f,q=.Ti f∧mi uj d.Body f.Body
termination_by structural x=>x
def zv:lh→lh→Prop
 | .ret k,q=>∃ k',q=.ret k'∧Rq k k'
 | .stop k,q=>∃ k',q=.stop k'∧Sq k k'
termination_by structural x=>x
end
def Bz (o a:Option ff):Prop:=(o=none∧a=none)∨∃ k k',o=some k∧a=some k'∧Rq k k'
theorem Bz.some {o c:Option ff}(h:Bz o c){k:ff}(e:o=.some k):∃ k',c=.some k'∧Rq k k':=by
 rcases h with ⟨a,b⟩ | ⟨a,b,d,f,g⟩
 ·rw [e] at a;cases a
 ·rw [e] at d;cases d;exact ⟨b,f,g⟩
structure rG (c c':Vg):Prop where
 d:mi uj c.Cm.Body c'.Cm.Body
 args:c'.args=c.args
 begun:c'.begun=c.begun
 going:c'.going=c.going
 ended:c'.ended=c.ended
 up:c'.up=c.up
 back:Bz c.back c'.back
 Ck:Bz c.Ck c'.Ck
structure mu (z a:Core):Prop where
 ue:a.ue=z.ue
 now:a.now=z.now
 out:a.out=z.out
 Tb:mi rG z.Tb a.Tb
def Cr:kh→kh→Prop
 | .expr x s k,q=>∃ a k',q=.expr a s k'∧qn x a∧Rq k k'
 | .all l s Sd k,q=>∃ b k',q=.all b s Sd k'∧mi qn l b∧oC k k'
 | .stats l s e k,q=>∃ b c k',q=.stats b s c k'∧mi uj l b∧zv e c∧Sq k k'
 | .rf x s e k,q=>∃ a c k',q=.rf a s c k'∧uj x a∧x.Kind=4∧zv e c∧Sq k k'
 | .gf k v,q=>∃ k',q=.gf k' v∧Rq k k'
 | .Sd k l,q=>∃ k',q=.Sd k' l∧oC k k'
 | .Hd k,q=>∃ k',q=.Hd k'∧Sq k k'
 | .recv n k,q=>∃ k',q=.recv n k'∧Rq k k'
 | .send n v k,q=>∃ k',q=.send n v k'∧Sq k k'
 | .resume g v k,q=>∃ k',q=.resume g v k'∧Rq k k'
def fx:Zl→Zl→Prop
 | .run c,q=>∃ c',q=.run c'∧Cr c c'
 | .done,q=>q=.done
 | .Fe n,q=>q=.Fe n
theorem mu.put {z a:Core}(h:mu z a){g n:Nat}{c c':Vg}(b:rG c c'):mu { z with Tb:=z.Tb.set g c,now:=n } { a with Tb:=a.Tb.set g c',now:=n }:=⟨h.ue,rfl,h.out,h.Tb.set b⟩
theorem Of.Vw {E E':oe}{c c':kh}{z j x:Core}{n:Nat}{q:Zl}(t:Of E c z n x q) (b:mu z j) (i:Cr c c')
  (xa:∀ y k l,c=.Sd (.ex y k) l→y.Kind=19∨y.Kind=22→∀ d,Ua E.defs y.Name=some d→∃ K,Ua E'.defs y.Name=some K∧jC d K) :
  ∃ A L,Of E' c' j n A L∧mu x A∧fx q L:=by
 have D:=b.ue;have ia:=b.Tb.1;cases t with
 | Rw h=>obtain ⟨A,k',rfl,a,f⟩:=i; exact ⟨j,_,.Rw (by rw [a.kind]; exact h),b,_,rfl,k',by rw [a.n h],f⟩
 | var h g p=>obtain ⟨A,k',rfl,a,f⟩:=i; exact ⟨j,_,.var (by rw [a.kind]; exact h) (by rw [D,a.name (.inl h)]; exact g) (by rw [D]; exact p),b,_,rfl,k',rfl,f⟩
 | vz h=>obtain ⟨A,k',rfl,a,f⟩:=i; exact ⟨j,_,.vz (by rw [a.kind]; exact h),b,_,rfl,k',by rw [a.name (.inr (.inl h))],f⟩
 | wz H g p u=>obtain ⟨A,k',rfl,a,f⟩:=i; exact ⟨j,_,.wz (by rw [a.kind]; exact H) (by rw [a.kind]; exact g) (by rw [a.kind]; exact p) (by rw [a.kind]; exact u),b,_,rfl,_,_,rfl,a.kids,_,_,rfl,a,f⟩
 | fz h g =>
  obtain ⟨B,k',rfl,a,f⟩:=i;obtain ⟨Q,qa,F⟩:=a.get g;exact ⟨j,_,.fz (by rw [a.1];exact h) qa,b,_,rfl,_,_,rfl,F,_,_,rfl,a,f⟩
 | gz h=>obtain ⟨B,k',rfl,a,f⟩:=i; exact ⟨j,_,.gz (by rw [a.1]; exact h),b,_,rfl,_,rfl,f⟩
 | nil =>
  obtain ⟨B,C,k',rfl,a,he,f⟩:=i;obtain rfl:B=[]:=List.length_eq_zero_iff.1 a.1;exact ⟨j,_,.nil,b,_,rfl,_,rfl,f⟩
 | stop h =>
  obtain ⟨B,C,k',rfl,a,he,f⟩:=i;obtain ⟨y,m,rfl,r,hm⟩:=a.cons;obtain ⟨L,rfl,N⟩:=he;exact ⟨j,_,.stop (by rw [r.kind];exact h),b,_,rfl,_,rfl,N⟩
 | zz h =>
  obtain ⟨B,C,k',rfl,a,he,f⟩:=i;obtain ⟨y,m,rfl,r,hm⟩:=a.cons;exact ⟨j,_,.zz (by rw [r.kind];exact h),b,_,rfl,_,_,_,rfl,r,h,he,_,_,_,rfl,hm,he,f⟩
 | st H g =>
  obtain ⟨B,C,k',rfl,a,he,f⟩:=i;obtain ⟨y,m,rfl,r,hm⟩:=a.cons;exact ⟨j,_,.st (by rw [r.kind];exact H) (by rw [r.kind];exact g),b,_,rfl,_,_,rfl,r.x H,_,_,_,rfl,a,he,f⟩
 | rf =>
  obtain ⟨A,C,k',rfl,a,u,he,f⟩:=i;exact ⟨j,_,.rf,b,_,rfl,_,_,rfl,a.x (by omega),_,_,_,rfl,a,u,he,f⟩
 | hz h =>
  obtain ⟨k',rfl,B,w,rfl,a,f⟩:=i;exact ⟨j,_,.hz h,b,_,rfl,_,_,rfl,a,f⟩
 | Ko h =>
  obtain ⟨k',rfl,B,C,w,rfl,a,he,f⟩:=i;obtain ⟨y,m,rfl,r,hm⟩:=a.cons;exact ⟨_,_,.Ko (by rw [r.kind];exact h),⟨by simp only;rw [D,r.name (.inl h)],b.now,b.out,b.Tb⟩,_,rfl,_,rfl,_,_,_,by rw [D],hm,he,f⟩
 | sset h g p =>
  obtain ⟨k',rfl,B,C,w,rfl,a,he,f⟩:=i;obtain ⟨y,m,rfl,r,hm⟩:=a.cons;exact ⟨_,_,.sset (by rw [r.kind];exact h) (by rw [D,r.name (.inr (.inl h))];exact g) (by rw [D];exact p),⟨by simp only;rw [D],b.now,b.out,b.Tb⟩,_,rfl,_,rfl,_,_,_,rfl,hm,he,f⟩
 | @Gq x l s e k v z h =>
  obtain ⟨k',rfl,B,C,w,rfl,a,he,f⟩:=i;obtain ⟨y,m,rfl,r,hm⟩:=a.cons;refine ⟨j,_,.Gq (by rw [r.kind];exact h),b,_,rfl,_,_,_,rfl,?_,he,_,_,_,rfl,hm,he,f⟩;by_cases M:v≠0
  ·rw [if_pos M,if_pos M];exact r.body (.inl h)
  ·rw [if_neg M,if_neg M];exact r.hC h
 | sq h =>
  obtain ⟨k',rfl,B,C,w,rfl,a,he,f⟩:=i;obtain ⟨y,m,rfl,r,hm⟩:=a.cons;obtain ⟨L,rfl,N⟩:=he;exact ⟨j,_,.sq (by rw [r.kind];exact h),b,_,rfl,_,rfl,N⟩
 | nq h =>
  obtain ⟨k',rfl,B,C,w,rfl,a,he,f⟩:=i;obtain ⟨y,m,rfl,r,hm⟩:=a.cons;exact ⟨j,_,.nq (by rw [r.kind];exact h),b,_,rfl,_,by rw [r.name (.inr (.inr h))],_,_,_,rfl,hm,he,f⟩
 | @tq x l s e k v z o h g =>
  obtain ⟨k',rfl,B,C,w,rfl,a,he,f⟩:=i;obtain ⟨y,m,rfl,r,hm⟩:=a.cons;exact ⟨{ j with out:=o },_,.tq (by rw [r.kind];exact h) (by rw [b.out];exact g),⟨D,b.now,rfl,b.Tb⟩,_,rfl,_,rfl,_,_,_,rfl,hm,he,f⟩
 | Hq H g p u G O =>
  obtain ⟨k',rfl,B,C,w,rfl,a,he,f⟩:=i;obtain ⟨y,m,rfl,r,hm⟩:=a.cons;have e:=r.kind;exact ⟨j,_,.Hq (by rw [e];exact H) (by rw [e];exact g) (by rw [e];exact p) (by rw [e];exact u) (by rw [e];exact G) (by rw [e];exact O),b,_,rfl,_,rfl,_,_,_,rfl,hm,he,f⟩
 | iz h =>
  obtain ⟨k',rfl,A,C,w,rfl,a,u,he,f⟩:=i;exact ⟨j,_,.iz h,b,_,rfl,_,rfl,f⟩
 | win h =>
  obtain ⟨k',rfl,A,C,w,rfl,a,u,he,f⟩:=i;exact ⟨j,_,.win h,b,_,rfl,_,_,_,rfl,a.body (.inr u),he,_,_,_,rfl,a,u,he,f⟩
 | neg h g=>obtain ⟨k',rfl,A,w,rfl,a,f⟩:=i; exact ⟨j,_,.neg (by rw [a.kind]; exact h) g,b,_,rfl,_,rfl,f⟩
 | not h g=>obtain ⟨k',rfl,A,w,rfl,a,f⟩:=i; exact ⟨j,_,.not (by rw [a.kind]; exact h) g,b,_,rfl,_,rfl,f⟩
 | call h g p =>
  obtain ⟨k',rfl,A,w,rfl,a,f⟩:=i;obtain ⟨K,qa,F⟩:=xa _ _ _ rfl (.inl h) _ g;exact ⟨_,_,.call (by rw [a.kind];exact h) (by rw [a.name (.inr (.inr (.inl h)))];exact qa) (by rw [D,bA _ _ _ _ _ F.1];exact p),⟨rfl,b.now,b.out,b.Tb⟩,_,rfl,_,_,_,rfl,F.2,⟨_,rfl,f⟩,_,rfl,f⟩
 | Fq h g p u G =>
  obtain ⟨k',rfl,A,w,rfl,a,f⟩:=i;obtain ⟨c',jb,c2⟩:=b.Tb.get p;obtain ⟨Ic,za,sd⟩:=c2.back.some G;refine ⟨_,_,.Fq (by rw [a.kind];exact h) g (by rw [b.now];exact jb) (by rw [c2.up];exact u) za,?_,_,rfl,_,rfl,sd⟩;rw [b.now];exact b.put ⟨c2.d,c2.args,c2.begun,rfl,c2.ended,c2.up,c2.back,.inr ⟨_,_,rfl,rfl,f⟩⟩
 | many h g=>obtain ⟨k',rfl,A,w,rfl,a,f⟩:=i; exact ⟨j,_,.many (by rw [a.kind]; exact h) (by rw [ia]; exact g),b,rfl⟩
 | start h g p u =>
  obtain ⟨k',rfl,A,w,rfl,a,f⟩:=i;obtain ⟨K,qa,F⟩:=xa _ _ _ rfl (.inr h) _ p;exact ⟨_,_,.start (by rw [a.kind];exact h) (by rw [ia];exact g) (by rw [a.name (.inr (.inr (.inr h)))];exact qa) (by rw [D,bA _ _ _ _ _ F.1];exact u),⟨rfl,b.now,b.out,b.Tb.app ⟨F.2,rfl,rfl,rfl,rfl,rfl,.inl ⟨rfl,rfl⟩,.inl ⟨rfl,rfl⟩⟩⟩,_,rfl,_,by rw [ia],f⟩
 | res h g p u=>obtain ⟨k',rfl,A,w,rfl,a,f⟩:=i; exact ⟨j,_,.res (by rw [a.kind]; exact h) g p (by rw [ia]; exact u),b,_,rfl,_,rfl,f⟩
 | alive h g p u =>
  obtain ⟨k',rfl,A,w,rfl,a,f⟩:=i;obtain ⟨c',jb,c2⟩:=b.Tb.get u;exact ⟨j,_,.alive (by rw [a.kind];exact h) g p jb,b,_,rfl,_,by rw [c2.ended],f⟩
 | jz h g=>obtain ⟨k',rfl,A,w,rfl,a,f⟩:=i; exact ⟨j,_,.jz (by rw [a.kind]; exact h) g,b,rfl⟩
 | two h g p u G=>obtain ⟨k',rfl,A,w,rfl,a,f⟩:=i; exact ⟨j,_,.two (by rw [a.kind]; exact h) (by rw [a.kind]; exact g) p u (by rw [a.kind]; exact G),b,_,rfl,_,rfl,f⟩
 | zero=>obtain ⟨k',rfl,w,rfl,f⟩:=i; exact ⟨j,_,.zero,b,_,rfl,_,rfl,f⟩
 | done h g p =>
  obtain ⟨k',rfl,rfl⟩:=i;obtain ⟨c',jb,c2⟩:=b.Tb.get h;obtain ⟨Ic,za,sd⟩:=c2.back.some p;exact ⟨_,_,.done jb (by rw [c2.up];exact g) za,b.put ⟨c2.d,c2.args,c2.begun,rfl,rfl,c2.up,c2.back,c2.Ck⟩,_,rfl,_,rfl,sd⟩
 | stats=>obtain ⟨k',rfl,B,C,w,rfl,a⟩:=i; exact ⟨j,_,.stats,b,_,rfl,_,_,_,rfl,a⟩
 | kz=>obtain ⟨k',rfl,B,C,w,rfl,a⟩:=i; exact ⟨j,_,.kz,b,_,rfl,_,_,_,rfl,a⟩
 | fin=>obtain ⟨k',rfl,rfl⟩:=i; exact ⟨j,_,.fin,b,rfl⟩
 | Ti=>obtain ⟨k',rfl,K,rfl,a⟩:=i; exact ⟨j,_,.Ti,b,_,rfl,_,_,_,rfl,a,⟨_,rfl,rfl⟩,rfl⟩
 | gone h g =>
  obtain ⟨k',rfl,f⟩:=i;obtain ⟨c',jb,c2⟩:=b.Tb.get h;exact ⟨j,_,.gone jb (by rw [c2.ended];exact g),b,rfl⟩
 | busy h g p =>
  obtain ⟨k',rfl,f⟩:=i;obtain ⟨c',jb,c2⟩:=b.Tb.get h;exact ⟨j,_,.busy jb (by rw [c2.ended];exact g) (by rw [c2.going,b.now];exact p),b,rfl⟩
 | on h g p u G =>
  obtain ⟨k',rfl,f⟩:=i;obtain ⟨c',jb,c2⟩:=b.Tb.get h;obtain ⟨R,P,zg⟩:=c2.Ck.some G;refine ⟨_,_,.on jb (by rw [c2.ended];exact g) (by rw [c2.going,b.now];exact p) (by rw [c2.begun];exact u) P,?_,_,rfl,_,rfl,zg⟩;exact b.put ⟨c2.d,c2.args,c2.begun,rfl,c2.ended,by rw [b.now],.inr ⟨_,_,rfl,rfl,f⟩,c2.Ck⟩
 | first h g p u =>
  obtain ⟨k',rfl,f⟩:=i;obtain ⟨c',jb,c2⟩:=b.Tb.get h;refine ⟨_,_,.first jb (by rw [c2.ended];exact g) (by rw [c2.going,b.now];exact p) (by rw [c2.begun];exact u),?_,_,rfl,_,_,_,by rw [c2.args],c2.d,⟨_,rfl,rfl⟩,rfl⟩;exact b.put ⟨c2.d,c2.args,rfl,rfl,c2.ended,by rw [b.now],.inr ⟨_,_,rfl,rfl,f⟩,c2.Ck⟩
end Go.Y
namespace Go.Y
open Go.Rb Go.ec
inductive sr {T vg:Type}(o:Nat) (R:T→vg→Prop):Ul T→Ul vg→Prop
 | halt:sr o R .halt .halt
 | Ng {c:Nat} {t:T} {ib:vg}:R t ib→sr o R (.Ng c t) (.Ng c ib)
 | send {b c:Nat} {v:Int} {t:T} {ib:vg}:R t ib→sr o R (.send b v c t) (.send (b+o) v c ib)
 | recv {b c:Nat} {k:Int→T} {k':Int→vg}:(∀ v,R (k v) (k' v))→sr o R (.recv b c k) (.recv (b+o) c k')
structure On {T vg:Type}(a o:Nat) (R:T→vg→Prop) (s:cf T) (c:cf vg):Prop where
 la:∀ (i:Nat) (t:T),s.la[i]?=some t→∃ ib,c.la[i+a]?=some ib∧R t ib
 bs:∀ (b:Nat) (w:List Int),s.bs[b]?=some w→c.bs[b+o]?=some w
structure Out {T vg:Type}(a o:Nat) (s:cf T) (s1 s2:cf vg):Prop where
 la:∀ j:Nat,j<a∨a+s.la.length≤j→s2.la[j]?=s1.la[j]?
 bs:∀ j:Nat,j<o∨o+s.bs.length≤j→s2.bs[j]?=s1.bs[j]?
 vf:s2.la.length=s1.la.length
 Ud:s2.bs.length=s1.bs.length
section
variable {T vg:Type}{a o:Nat}{R:T→vg→Prop}{act:T→Ul T}{act':vg→Ul vg}{cap cap':List Nat}
theorem On.set {s:cf T}{c:cf vg}{i:Nat}{t:T}{ib d:vg}(h:On a o R s c) (f:c.la[i+a]?=some d) (g:R t ib):On a o R ⟨s.la.set i t,s.bs⟩ ⟨c.la.set (i+a) ib,c.bs⟩:=by
 refine ⟨fun j x b=>?_,h.bs⟩;simp only at b ⊢;rw [List.getElem?_set] at b;by_cases e:i=j
 ·subst e;rw [if_pos rfl] at b;split at b
  ·cases b;exact ⟨ib,Bn f,g⟩
  ·cases b
 ·rw [if_neg e] at b;obtain ⟨y,k,l⟩:=h.la j x b;exact ⟨y,by rw [Zg (by omega)];exact k,l⟩
theorem On.box {s:cf T}{d:cf vg}{b:Nat}{w ca:List Int}(h:On a o R s d) (f:d.bs[b+o]?=some ca):On a o R ⟨s.la,s.bs.set b w⟩ ⟨d.la,d.bs.set (b+o) w⟩:=by
 refine ⟨h.la,fun j x c=>?_⟩;simp only at c ⊢;rw [List.getElem?_set] at c;by_cases e:b=j
 ·subst e;rw [if_pos rfl] at c;split at c
  ·cases c;exact Bn f
  ·cases c
 ·rw [if_neg e] at c;rw [Zg (by omega)];exact h.bs j x c
theorem og.Vw (A:∀ (b k:Nat),cap[b]?=some k→∃ k',cap'[b+o]?=some k'∧k≤k'){s s1:cf T}{g:cf vg}{i d:Nat}(u:∀ t ib,s.la[i]?=some t→R t ib→sr o R (act t) (act' ib)) (f:On a o R s g) (k:og act cap s i d s1) :
  ∃ x,og act' cap' g (i+a) d x∧On a o R s1 x∧Out a o s g x:=by
 have y:∀ (ib:vg),i<s.la.length→∀ j:Nat,j<a∨a+s.la.length≤j→(g.la.set (i+a) ib)[j]?=g.la[j]?:=fun ib B j C=>Zg (by omega);have z:∀ (b:Nat) (w:List Int),b<s.bs.length→∀ j:Nat,j<o∨o+s.bs.length≤j→(g.bs.set (b+o) w)[j]?=g.bs[j]?:=fun b w B j C=>Zg (by omega);cases k with
 | @Ng t t1 _ c h =>
  obtain ⟨ib,qa,l⟩:=f.la _ _ c;have e:=u t ib c l;rw [h] at e;generalize m:act' ib=q at e;cases e with
  | @Ng _ _ D n =>
   exact ⟨_,.Ng qa m,f.set qa n,y _ (List.getElem?_eq_some_iff.1 c).1,fun _ _=>rfl,by simp,rfl⟩
 | @send t t1 _ b k v w c h p E ia =>
  obtain ⟨ib,qa,l⟩:=f.la _ _ c;have e:=u t ib c l;rw [h] at e;generalize m:act' ib=q at e;cases e with
  | @send _ _ _ _ D n =>
   obtain ⟨k',k1,F⟩:=A _ _ E;have r:=f.bs _ _ p;exact ⟨_,.send qa m r k1 (by omega),(f.set qa n).box (s:=⟨s.la.set i t1,s.bs⟩) r,y _ (List.getElem?_eq_some_iff.1 c).1,z _ _ (List.getElem?_eq_some_iff.1 p).1,by simp,by simp⟩
 | @recv t _ b k v w c h p =>
  obtain ⟨ib,qa,l⟩:=f.la _ _ c;have e:=u t ib c l;rw [h] at e;generalize m:act' ib=q at e;cases e with
  | @recv _ _ _ k' n =>
   have r:=f.bs _ _ p;exact ⟨_,.recv qa m r,(f.set qa (n v)).box (s:=⟨s.la.set i (k v),s.bs⟩) r,y _ (List.getElem?_eq_some_iff.1 c).1,z _ _ (List.getElem?_eq_some_iff.1 p).1,by simp,by simp⟩
theorem og.back {s:cf T}(x:∀ (b k':Nat),b<s.bs.length→cap'[b+o]?=some k'→∃ k,cap[b]?=some k∧k'≤k){j y:cf vg}{i d:Nat}{t:T}{ib:vg}(l:s.la[i]?=some t) (m:j.la[i+a]?=some ib) (q:∀ (b:Nat) (w:List Int),j.bs[b+o]?=some w→b<s.bs.length→s.bs[b]?=some w)
  (r:∀ b v c t1,act t=.send b v c t1→b<s.bs.length) (z:∀ b c k,act t=.recv b c k→b<s.bs.length) (f:sr o R (act t) (act' ib)) (k:og act' cap' j (i+a) d y):∃ d s1,og act cap s i d s1:=by
 generalize g:act t=p at f;cases k with
 | Ng e h =>
  rw [m] at e;cases e;rw [h] at f;cases f with
  | Ng u=>exact ⟨_,_,.Ng l g⟩
 | send e h n A B =>
  rw [m] at e;cases e;rw [h] at f;cases f with
  | send u =>
   obtain ⟨k,k1,C⟩:=x _ _ (r _ _ _ _ g) A;exact ⟨_,_,.send l g (q _ _ n (r _ _ _ _ g)) k1 (by omega)⟩
 | recv e h n =>
  rw [m] at e;cases e;rw [h] at f;cases f with
  | recv u=>exact ⟨_,_,.recv l g (q _ _ n (z _ _ _ g))⟩
theorem Out.r {s:cf T}{s1:cf vg}:Out a o s s1 s1:=⟨fun _ _=>rfl,fun _ _=>rfl,rfl,rfl⟩
theorem og.len {s s1:cf T}{i d:Nat}(k:og act cap s i d s1):s1.la.length=s.la.length∧s1.bs.length=s.bs.length:=by
 cases k<;>simp
theorem Mf.len {s s1:cf T}{n d:Nat}(k:Mf act cap s n d s1):s1.la.length=s.la.length∧s1.bs.length=s.bs.length:=by
 induction k with
 | nil=>exact ⟨rfl,rfl⟩
 | cons k _ a=>exact ⟨a.1.trans k.len.1,a.2.trans k.len.2⟩
theorem Mf.Vw {O:Nat→T→Prop}{V:Nat→Int→Prop}{wr rd:Nat→Nat→Prop}(W:Rs act O V wr rd) (p:∀ (b k:Nat),cap[b]?=some k→∃ k',cap'[b+o]?=some k'∧k≤k') (q:∀ (i:Nat) t ib,O i t→R t ib→sr o R (act t) (act' ib)){s e:cf T}{n d:Nat}(k:Mf act cap s n d e):∀ {f:cf vg},Vl O V s→On a o R s f →
  ∃ g,Mf act' cap' f n d g∧On a o R e g∧Out a o s f g:=by
 induction k with
 | nil=>exact fun {f} _ l=>⟨f,.nil,l,.r⟩
 | @cons s s1 e i c n d k x u =>
  intro f m l;obtain ⟨y,oa,a2,a3⟩:=k.Vw p (fun t ib v w=>q i t ib (m.la _ _ v) w) l;obtain ⟨g,za,sd,Nb⟩:=u (k.own W m) a2;have ia:=k.len;exact ⟨g,.cons oa za,sd,fun j h=>(Nb.la j (by rw [ia.1];exact h)).trans (a3.la j h),fun j h=>(Nb.bs j (by rw [ia.2];exact h)).trans (a3.bs j h),Nb.vf.trans a3.vf,Nb.Ud.trans a3.Ud⟩
end
def Ys (x a:tg):Prop:=mu x.1 a.1∧fx x.2 a.2
theorem Cr.norm {c c':kh}(h:Cr c c'):Cr (Pf c) (Pf c'):=by
 cases c with
 | Hd k =>
  obtain ⟨k',rfl,a⟩:=h;cases k with
  | recv n k=>obtain ⟨b,rfl,a⟩:=a; exact ⟨_,rfl,a⟩
  | send n v k=>obtain ⟨b,rfl,a⟩:=a; exact ⟨_,rfl,a⟩
  | zero k=>obtain ⟨b,rfl,a⟩:=a; exact ⟨_,rfl,_,rfl,a⟩
  | done g=>obtain rfl:=a; exact ⟨_,rfl,rfl⟩
  | stats l s e k=>obtain ⟨f,i,b,rfl,a⟩:=a; exact ⟨_,rfl,_,_,_,rfl,a⟩
  | rf x s e k=>obtain ⟨f,i,b,rfl,a⟩:=a; exact ⟨_,rfl,_,_,_,rfl,a⟩
  | fin=>obtain rfl:=a; exact ⟨_,rfl,rfl⟩
  | Ti d=>obtain ⟨j,rfl,a⟩:=a; exact ⟨_,rfl,_,rfl,a⟩
 | expr x s k=>obtain ⟨_,_,rfl,h⟩:=h; exact ⟨_,_,rfl,h⟩
 | all l s Sd k=>obtain ⟨_,_,rfl,h⟩:=h; exact ⟨_,_,rfl,h⟩
 | stats l s e k=>obtain ⟨_,_,_,rfl,h⟩:=h; exact ⟨_,_,_,rfl,h⟩
 | rf x s e k=>obtain ⟨_,_,_,rfl,h⟩:=h; exact ⟨_,_,_,rfl,h⟩
 | gf k v=>obtain ⟨_,rfl,h⟩:=h; exact ⟨_,rfl,h⟩
 | Sd k l=>obtain ⟨_,rfl,h⟩:=h; exact ⟨_,rfl,h⟩
 | recv n k=>obtain ⟨_,rfl,h⟩:=h; exact ⟨_,rfl,h⟩
 | send n v k=>obtain ⟨_,rfl,h⟩:=h; exact ⟨_,rfl,h⟩
 | resume g v k=>obtain ⟨_,rfl,h⟩:=h; exact ⟨_,rfl,h⟩
theorem fx.norm {q a:Zl}(h:fx q a):fx (vq q) (vq a):=by
 cases q with
 | run c=>obtain ⟨c',rfl,h⟩:=h; exact ⟨_,rfl,h.norm⟩
 | done=>obtain rfl:=h; rfl
 | Fe n=>obtain rfl:=h; rfl
theorem Cr.comm {c c':kh}(h:Cr c c'):Comm c'→Comm c:=by
 cases c with
 | Hd k =>
  obtain ⟨k',rfl,a⟩:=h;cases k with
  | recv n k=>exact fun _=>trivial
  | send n v k=>exact fun _=>trivial
  | zero k=>obtain ⟨b,rfl,a⟩:=a; exact id
  | done g=>obtain rfl:=a; exact id
  | stats l s e k=>obtain ⟨f,i,b,rfl,a⟩:=a; exact id
  | rf x s e k=>obtain ⟨f,i,b,rfl,a⟩:=a; exact id
  | fin=>obtain rfl:=a; exact id
  | Ti d=>obtain ⟨j,rfl,a⟩:=a; exact id
 | expr x s k=>obtain ⟨_,_,rfl,h⟩:=h; exact id
 | all l s Sd k=>obtain ⟨_,_,rfl,h⟩:=h; exact id
 | stats l s e k=>obtain ⟨_,_,_,rfl,h⟩:=h; exact id
 | rf x s e k=>obtain ⟨_,_,_,rfl,h⟩:=h; exact id
 | gf k v=>obtain ⟨_,rfl,h⟩:=h; exact id
 | Sd k l=>obtain ⟨_,rfl,h⟩:=h; exact id
 | recv n k=>exact fun _=>trivial
 | send n v k=>exact fun _=>trivial
 | resume g v k=>obtain ⟨_,rfl,h⟩:=h; exact id
structure Uy (p:pb) (U:dh) (E E':oe) (o:Nat):Prop where
 Pq:∀ n,U.c n→∀ d,Ua p.named n=some d→d.Kind=2∨d.Kind=3→∃ a,Ua E'.defs n=some a∧jC d a
 Ae:∀ n (i:Nat),U.s n∨U.r n→Ua E.order n=some (i:Int)→Ua E'.order n=some ((i+o:Nat):Int)
theorem yF {E:oe}{z:Core}{c:kh}(h:¬ Qq z c):qe E c ⟨z.Br,[],0⟩=none:=by
 cases a:qe E c ⟨z.Br,[],0⟩ with
 | none=>rfl
 | some o=>exact absurd (oD a) h
theorem Qq.rel {z a:Core}{c c':kh}(b:mu z a) (d:Cr c c') (h:Qq a c'):Qq z c:=by
 intro x l s e k v qa f;subst qa;obtain ⟨k',rfl,o,g,i,rfl,j,he,p⟩:=d;obtain ⟨y,m,rfl,n,hm⟩:=j.cons;have:=h y m s g i v rfl (by rw [n.kind];exact f);rwa [b.out] at this
theorem iE {p:pb}{U:dh}{E E':oe}{o:Nat}(P:ln p U E) (Or:Ord p E) (w:Uy p U E E' o){x A:tg}(N:Bl p U x) (O:Ys x A):sr o Ys (xf E x) (xf E' A):=by
 obtain ⟨z,q⟩:=x;obtain ⟨Q,X⟩:=A;obtain ⟨g,B⟩:=O;cases q with
 | done=>obtain rfl:=B; exact .halt
 | Fe n=>obtain rfl:=B; exact .halt
 | run c =>
 obtain ⟨c',rfl,j⟩:=B;obtain ⟨C,L,R,D⟩:=N _ rfl
 change sr o Ys (Mh E z (Pf c)) (Mh E' Q (Pf c'))
 by_cases a:Comm c
 ·have m:=Cj.norm.2 D;have r:=j.norm;have S:(∃ n k,Pf c=.recv n k)∨∃ n v k,Pf c=.send n v k:=by
   cases c with
   | recv n k=>exact .inl ⟨n,k,rfl⟩
   | send n v k=>exact .inr ⟨n,v,k,rfl⟩
   | Hd k=>cases k with
    | recv n k=>exact .inl ⟨n,k,rfl⟩
    | send n v k=>exact .inr ⟨n,v,k,rfl⟩
    | _=>exact a.elim
   | _=>exact a.elim
  rcases S with ⟨n,k,qa⟩ | ⟨n,v,k,qa⟩
  ·rw [qa] at m r ⊢;obtain ⟨k',F,s⟩:=r;rw [F];obtain ⟨f,u,mc,xd,-⟩:=m;obtain ⟨i,b⟩:=P.Ae _ _ mc xd;have G:=w.Ae n i (.inr u) b;rw [Mh,Mh,b,G];simp only [Int.toNat_natCast];exact .recv fun v=>⟨g,_,rfl,_,rfl,s⟩
  ·rw [qa] at m r ⊢;obtain ⟨k',F,s⟩:=r;rw [F];obtain ⟨f,u,mc,xd,-,-⟩:=m;obtain ⟨i,b⟩:=P.Ae _ _ mc xd;have G:=w.Ae n i (.inl u) b;rw [Mh,Mh,b,G];simp only [Int.toNat_natCast];exact .send ⟨g,_,rfl,(show Cr (.Hd k) (.Hd k') from ⟨_,rfl,s⟩).norm⟩
 ·have K:¬ Comm c':=fun h=>a (j.comm h);rw [sy a,sy K,uy a,uy K];by_cases H:Qq z c
  ·obtain ⟨n,Y,Z,Ug,bb,t,l,-,-,M,-⟩:=safe P R a H D;obtain ⟨Gb,gc,ib,T,V⟩:=t.Vw (E':=E') g j fun y k l e s d xa=>by
    subst e;obtain ⟨la,W,-,-⟩:=D;obtain ⟨d0,t0,-,nf,-⟩:=W;rw [P.Pq] at xa;have:U.c y.Name∧(d.Kind=2∨d.Kind=3):=by
     cases nf<;>first | omega | skip
     ·rename_i f u mc xd;rw [mc] at xa;cases xa;exact ⟨u,.inl xd⟩
     ·rename_i f u mc xd;rw [mc] at xa;cases xa;exact ⟨u,.inr xd⟩
    exact w.Pq _ this.1 d xa this.2
   rw [t.act M,ib.act M];exact .Ng ⟨T,V.norm⟩
  ·rw [yF H,yF fun h=>H (h.rel g j)];exact .halt
end Go.Y
namespace Go.Y
open Go.Rb Go.ec
section
variable {p:pb}{l:List sa}{fu:Nat}{la:List Qd}{bs:List Pd}{k d:Nat}
theorem Bp.ends (h:Bp p l la bs k d):la.map gi=(zh la bs).la.map (nz (Uf l).env):=by
 show la.map gi=(la.map Me).map _;rw [List.map_map];refine List.map_congr_left fun t i=>?_;have f:=h.can t i;show gi t=nz _ (Me t);rcases h.inv.j t i with ⟨a,-⟩ | ⟨a,b,n,v,k,e,g⟩ | ⟨a,b,n,k,e,g⟩ | ⟨a,b,e⟩ | ⟨a,b⟩
 ·unfold gq at f;rw [if_pos a] at f;cases f
 ·have c:Me t=(t.core,.run (.send n v k)):=by unfold Me;rw [if_neg (by omega),if_neg (by omega),e];rfl
  rw [c];show gi t=⟨2,(Ua (Uf l).env.order n).getD 0,0,t.out⟩;rw [g];unfold gi;rw [a,b];rfl
 ·have c:Me t=(t.core,.run (.recv n k)):=by unfold Me;rw [if_neg (by omega),if_neg (by omega),e];rfl
  rw [c];show gi t=⟨3,(Ua (Uf l).env.order n).getD 0,0,t.out⟩;rw [g];unfold gi;rw [a,b];rfl
 ·have c:Me t=(t.core,.done):=by unfold Me;rw [if_pos a]
  rw [c];show gi t=⟨4,0,0,t.out⟩;unfold gi;rw [a,b,e]
 ·have c:Me t=(t.core,.Fe t.Fe):=by unfold Me;rw [if_neg (by omega),if_pos a]
  rw [c];show gi t=⟨5,0,t.Fe,t.out⟩;unfold gi;rw [a,b]
theorem Fh.Cp (h:Fh p l fu):Ir p (Uf l).env (Cl p.named (l.filter qh)) (bo l):=by
 have:=h.inv.Cp;rwa [h.je] at this
theorem Bp.fO (P:Fh p l fu) (h:Bp p l la bs k d){m c:Nat}{s:cf tg}(q:Mf (xf (Uf l).env) (Qj l) (bo l) m c s):∃ a c',k=m+a∧d=c+c'∧Mf (xf (Uf l).env) (Qj l) s a c' (zh la bs):=h.run.ends P.names.own h.fin P.Cp q
theorem Bp.uniq (P:Fh p l fu) (h:Bp p l la bs k d){m c:Nat}{e:cf tg}(q:Mf (xf (Uf l).env) (Qj l) (bo l) m c e) (he:tp (xf (Uf l).env) (Qj l) e):k=m∧d=c∧zh la bs=e:=h.run.uniq P.names.own h.fin he P.Cp q
end
theorem qD (l:List Int) (ia:l.length≤4611686018427387904):∀ (n i:Nat),l.length<n+i→i≤l.length→Mu l l n (i:Int)=some true
 | 0,i,a,b=>by omega
 | n+1,i,a,b=>by
  rw [Mu];by_cases c:i<l.length
  ·rw [if_pos (by omega),Ce,List.getElem?_eq_getElem c];simp only [Option.bind_some];rw [if_neg (by simp),De (by omega)];have:=qD l ia n (i+1) (by omega) (by omega);rw [show ((i+1:Nat):Int)=(i:Int)+1 by omega] at this;exact this
  ·rw [if_neg (by omega)]
theorem zC {l:List Int}(ia:l.length≤4611686018427387904):Tu l l=some true:=by
 unfold Tu;rw [if_neg (by simp)];exact qD l ia _ 0 (by omega) (by omega)
theorem zG (l:List (List Int)) (ia:l.length≤4611686018427387904) (hw:∀ w ∈ l,w.length≤4611686018427387904):∀ (n i:Nat),l.length<n+i→i≤l.length→uu l l n (i:Int)=some true:=by
 intro n
 induction n with
 | zero=>intro i d e; omega
 | succ n f =>
  intro i d e;rw [uu];by_cases a:i<l.length
  ·have b:=zC (hw _ (List.getElem_mem a));have c:=f (i+1) (by omega) (by omega);rw [show ((i+1:Nat):Int)=(i:Int)+1 by omega] at c;have he:at_ l (i:Int)=some l[i]:=by rw [Ce,List.getElem?_eq_getElem a]
   generalize l[i]=x at b he;rw [if_pos (by omega),he,ma,ma,b,ma,if_pos rfl,De (by omega),ma];exact c
  ·rw [if_neg (by omega)]
theorem uG {l:List (List Int)}(ia:l.length≤4611686018427387904) (hw:∀ w ∈ l,w.length≤4611686018427387904):Qv l l=some true:=by
 unfold Qv;rw [if_neg (by simp)];exact zG l ia hw _ 0 (by omega) (by omega)
theorem dL {i:Int}{K:Int→Option Bool}(a:0≤i∧i≤4611686018427387904):Jr i K false=K (i+1):=by
 rw [Jr,if_neg (by simp),De (by omega)];rfl
theorem QH (l:List Uj) (ia:l.length≤4611686018427387904) (hw:∀ w ∈ l,w.Out.length≤4611686018427387904):∀ (n i:Nat),l.length<n+i→i≤l.length→Gp l l n (i:Int)=some true:=by
 intro n
 induction n with
 | zero=>intro i d e; omega
 | succ n f =>
  intro i d e;rw [Gp];by_cases a:i<l.length
  ·have b:=zC (hw _ (List.getElem_mem a));have c:=f (i+1) (by omega) (by omega);rw [show ((i+1:Nat):Int)=(i:Int)+1 by omega] at c;have he:at_ l (i:Int)=some l[i]:=by rw [Ce,List.getElem?_eq_getElem a]
   generalize l[i]=x at b he;rw [if_pos (by omega),he,ma,ma,if_neg (fun h=>h rfl),ma,ma,if_neg (fun h=>h rfl),ma,ma,if_neg (fun h=>h rfl),ma,ma,b,ma];exact (dL (by omega)).trans c
  ·rw [if_neg (by omega)]
theorem sG {l:List Uj}(ia:l.length≤4611686018427387904) (hw:∀ w ∈ l,w.Out.length≤4611686018427387904):Lv l l=some true:=by
 unfold Lv;rw [if_neg (by simp)];exact QH l ia hw _ 0 (by omega) (by omega)
theorem tC {w:er}(a:w.Ym.length≤4611686018427387904) (c:∀ t ∈ w.Ym,t.Out.length≤4611686018427387904) (d:w.hq.length≤4611686018427387904) (e:∀ b ∈ w.hq,b.length≤4611686018427387904):Xr w w=some true:=by
 unfold Xr;rw [if_pos rfl,sG a c];simp only [Option.bind_some];rw [if_pos trivial,uG d e];rfl
theorem Bp.small {p:pb}{l:List sa}{la:List Qd}{bs:List Pd}{k d fu:Nat}(P:Fh p l fu) (h:Bp p l la bs k d):(la.map gi).length≤30∧(∀ t ∈ la.map gi,t.Out.length≤600180)∧(bs.map Pd.words).length≤30∧∀ b ∈ bs.map Pd.words,b.length≤100:=by
 have ia:=P.R.ok.le;refine ⟨by rw [List.length_map,h.vf];exact Nat.le_trans (List.length_filter_le _ _) ia,fun t c=>?_,by rw [List.length_map,h.Ud];exact Nat.le_trans (List.length_filter_le _ _) ia,fun b e=>?_⟩
 ·obtain ⟨x,a,rfl⟩:=List.mem_map.1 c;have:=h.inv.out x a;show x.out.length≤_;omega
 ·obtain ⟨x,a,rfl⟩:=List.mem_map.1 e;have:=h.inv.Eb.le x a;omega
end Go.Y
namespace Go.Y
open Go.Rb Go.ec
def Iq (o:Nat) (e:Uj):Uj:=if e.State=2∨e.State=3 then { e with du:=e.du+o } else e
section
variable {p:pb}{E E':oe}{U:Nat→dh}{cap cap':List Nat}{a o:Nat}
theorem HJ {u:dh}(P:ln p u E) (y:Uy p u E E' o){x m:tg}(B:Bl p u x) (D:Ys x m):nz E' m=Iq o (nz E x):=by
 obtain ⟨z,q⟩:=x;obtain ⟨b,H⟩:=m;obtain ⟨F,r⟩:=D;have d:b.out=z.out:=F.out;cases q with
 | done=>obtain rfl:=r; show (⟨4,0,0,b.out⟩:Uj)=Iq o ⟨4,0,0,z.out⟩; rw [d]; rfl
 | Fe n=>obtain rfl:=r; show (⟨5,0,n,b.out⟩:Uj)=Iq o ⟨5,0,n,z.out⟩; rw [d]; rfl
 | run c =>
  obtain ⟨c',rfl,a⟩:=r;obtain ⟨C,L,K,A⟩:=B _ rfl;have one:(⟨1,0,0,b.out⟩:Uj)=Iq o ⟨1,0,0,z.out⟩:=by rw [d];rfl
  cases c with
  | send n v k =>
   obtain ⟨k',rfl,G⟩:=a;obtain ⟨f,t,mc,xd,-⟩:=A;obtain ⟨i,j⟩:=P.Ae _ _ mc xd;have w:=y.Ae n i (.inl t) j;show (⟨2,(Ua E'.order n).getD 0,0,b.out⟩:Uj)=Iq o ⟨2,(Ua E.order n).getD 0,0,z.out⟩;rw [j,w,d];unfold Iq;rw [if_pos (.inl rfl)];simp
  | recv n k =>
   obtain ⟨k',rfl,G⟩:=a;obtain ⟨f,t,mc,xd,-⟩:=A;obtain ⟨i,j⟩:=P.Ae _ _ mc xd;have w:=y.Ae n i (.inr t) j;show (⟨3,(Ua E'.order n).getD 0,0,b.out⟩:Uj)=Iq o ⟨3,(Ua E.order n).getD 0,0,z.out⟩;rw [j,w,d];unfold Iq;rw [if_pos (.inr rfl)];simp
  | expr x s k=>obtain ⟨_,_,rfl,h⟩:=a; exact one
  | all l s Sd k=>obtain ⟨_,_,rfl,h⟩:=a; exact one
  | stats l s e k=>obtain ⟨_,_,_,rfl,h⟩:=a; exact one
  | rf x s e k=>obtain ⟨_,_,_,rfl,h⟩:=a; exact one
  | gf k v=>obtain ⟨_,rfl,h⟩:=a; exact one
  | Sd k l=>obtain ⟨_,rfl,h⟩:=a; exact one
  | Hd k=>obtain ⟨_,rfl,h⟩:=a; exact one
  | resume g v k=>obtain ⟨_,rfl,h⟩:=a; exact one
theorem jE (W:wq p E U) (t:∀ i,Uy p (U i) E E' o){e l:cf tg}(u:Ir p E U e) (hB:∀ (n:Te) (i:Int),Ua E.order n=some i→0≤i∧i.toNat<e.bs.length) (m:On a o Ys e l)
  (x:∀ (b k':Nat),b<e.bs.length→cap'[b+o]?=some k'→∃ k,cap[b]?=some k∧k'≤k) (he:tp (xf E) cap e):∀ i,i<e.la.length→∀ d q,¬ og (xf E') cap' l (i+a) d q:=by
 intro i y d q z;have f:e.la[i]?=some e.la[i]:=List.getElem?_eq_getElem y;obtain ⟨ib,A,B⟩:=m.la _ _ f;have g:=u.la _ _ f;obtain ⟨d2,s2,C⟩:=og.back (act:=xf E) x f A (fun b w hw D=>by
  have r:e.bs[b]?=some e.bs[b]:=List.getElem?_eq_getElem D;have s:=m.bs _ _ r;rw [hw] at s;rw [r,Option.some.inj s]) (fun b v c t1 h=>by
  obtain ⟨-,⟨n,-,j⟩,-⟩:=lA (W.ok i) W.ord g h;have:=(hB n _ j).2;simpa using this) (fun b c k h=>by
  obtain ⟨-,⟨n,-,j⟩,-⟩:=mA (W.ok i) W.ord g h;have:=(hB n _ j).2;simpa using this) (iE (W.ok i) W.ord (t i) g B) z
 exact he _ _ _ C
end
end Go.Y
namespace Go.Y
open Go.Rb Go.ec
theorem IJ {k:Nat}{d:sa}(xa:Vs k d) (h:d.Kind=2∨d.Kind=3):jC d (Oc k d):=by
 refine ⟨?_,?_⟩
 ·show ((if d.Kind=2∨d.Kind=3 then d.Params.map (fun q=>TParam.mk q.Name (Lc q.vb)) else []):List TParam).map TParam.Name=_;rw [if_pos h,List.map_map];rfl
 ·show mi uj d.Body (if d.Kind=1 then [] else d.Body.map (vh k));rw [if_neg (by omega)];exact .Bw (Dh.map fun y c=>Ft k y (xa.2.2 y c)) fun a b q=>.inr ⟨k,q⟩
theorem RH {k:Nat}{d:sa}(xa:Vs k d) (h:d.Kind≠1):mi uj d.Body (Oc k d).Body:=by
 show mi uj d.Body (if d.Kind=1 then [] else d.Body.map (vh k));rw [if_neg h];exact .Bw (Dh.map fun y c=>Ft k y (xa.2.2 y c)) fun a b q=>.inr ⟨k,q⟩
theorem Ku (q:sa→Bool) (k:Nat) (a:∀ d,q (Oc k d)=q d) (l:List sa):(l.map (Oc k)).filter q=(l.filter q).map (Oc k):=by
 rw [List.filter_map];congr 1;exact List.filter_congr fun d _=>a d
section
variable {p dc:pb}{l:List sa}{fu k:Nat}
theorem Fh.EA (P:Fh p l fu) (a:Fh dc (l.map (Oc k)) fu) (ia:Lm k l) (i:Nat):Uy p (Cl p.named (l.filter qh) i) (Uf l).env (Uf (l.map (Oc k))).env 0 where
 Pq n _ d xa b:=by
  obtain ⟨m,rfl⟩:=P.R.only _ _ xa;exact ⟨Oc k d,by rw [a.Pq];exact a.R.mc (Oc k d) (List.mem_map_of_mem m),IJ (ia.2 d m) b⟩
 Ae n i _ h:=by
  obtain ⟨j,d,e,xa,rfl⟩:=P.set.et n i h;obtain rfl:i=j:=by omega
  exact a.set.O i (Oc k d) (by rw [Ku Ii k (fun d=>rfl),List.getElem?_map,xa];rfl)
theorem eL (ia:Lm k l):On 0 0 Ys (bo l) (bo (l.map (Oc k))):=by
 refine ⟨fun i t g=>?_,fun b w hw=>?_⟩
 ·have a:((l.filter qh).map fun d=>Me (Ol d))[i]?=some t:=g;rw [List.getElem?_map] at a;obtain ⟨d,xa,rfl⟩:=Option.map_eq_some_iff.1 a;obtain ⟨m1,m2⟩:=List.mem_filter.1 (List.mem_of_getElem? xa);have Ue:d.Kind=4:=by simpa [qh] using m2
  have e:=RH (ia.2 d m1) (by omega);refine ⟨Me (Ol (Oc k d)),?_,⟨rfl,rfl,rfl,rfl,fun j c c' f h=>?_⟩,_,rfl,_,rfl,_,rfl,e⟩
  ·show (((l.map (Oc k)).filter qh).map fun d=>Me (Ol d))[i+0]?=_;rw [Ku qh k (fun d=>rfl),List.map_map,List.getElem?_map,Nat.add_zero,xa];rfl
  ·cases j with
   | zero=>cases f; cases h; exact ⟨e,rfl,rfl,rfl,rfl,rfl,.inl ⟨rfl,rfl⟩,.inl ⟨rfl,rfl⟩⟩
   | succ j=>simp [Me,Ol,Qd.core] at f
 ·have m:((l.filter Ii).map fun _=>([]:List Int))[b]?=some w:=hw;show (((l.map (Oc k)).filter Ii).map fun _=>([]:List Int))[b+0]?=some w;rw [Ku Ii k (fun d=>rfl),List.map_map,Nat.add_zero];exact m
theorem pA:Qj (l.map (Oc k))=Qj l:=by
 unfold Qj;rw [Ku Ii k (fun d=>rfl),List.map_map];refine List.map_congr_left fun d xa=>?_;have k1:d.Kind=1:=by simpa [Ii] using (List.mem_filter.1 xa).2
 show (if d.Kind=1 then d.Jf else 0).toNat=_;rw [if_pos k1]
theorem AN (e:Uj):Iq 0 e=e:=by
 unfold Iq;split
 ·cases e;simp
 ·rfl
theorem FA (P:Fh p l fu) (g:Fh dc (l.map (Oc k)) fu) (ia:Lm k l){m d:Nat}{e:cf tg}(h:Mf (xf (Uf l).env) (Qj l) (bo l) m d e) :
  ∃ c,Mf (xf (Uf (l.map (Oc k))).env) (Qj (l.map (Oc k))) (bo (l.map (Oc k))) m d c∧On 0 0 Ys e c∧c.la.length=e.la.length∧c.bs.length=e.bs.length:=by
 have j:=P.EA g ia;obtain ⟨c,oa,a2,a3⟩:=Mf.Vw (a:=0) (o:=0) (R:=Ys) (act':=xf (Uf (l.map (Oc k))).env) (cap':=Qj (l.map (Oc k))) P.names.own (fun b k h=>⟨k,by rw [pA];simpa using h,Nat.le_refl _⟩) (fun i t ib n q=>iE (P.names.ok i) P.names.ord (j i) n q) h P.Cp (eL ia);have f:=h.len;refine ⟨c,oa,a2,?_,?_⟩
 ·rw [a3.vf,f.1];show (((l.map (Oc k)).filter qh).map _).length=((l.filter qh).map _).length;rw [Ku qh k (fun d=>rfl)];simp
 ·rw [a3.Ud,f.2];show (((l.map (Oc k)).filter Ii).map _).length=((l.filter Ii).map _).length;rw [Ku Ii k (fun d=>rfl)];simp
theorem SH (P:Fh p l fu) (g:Fh dc (l.map (Oc k)) fu) (ia:Lm k l){la ts':List Qd}{bs f:List Pd}{m y d q:Nat}(R:Bp p l la bs m d) (R':Bp dc (l.map (Oc k)) ts' f y q):Uw ts' f q=Uw la bs d:=by
 obtain ⟨h,oa,a2,a3,a4⟩:=FA P g ia R.run;have r:=P.EA g ia;have t:Ir p (Uf l).env (Cl p.named (l.filter qh)) (zh la bs):=R.run.own P.names.own P.Cp;have z:tp (xf (Uf (l.map (Oc k))).env) (Qj (l.map (Oc k))) h:=by
  intro i c s u;have E:i<h.la.length:=by
   have:∃ x,h.la[i]?=some x:=by cases u<;>exact ⟨_,by assumption⟩
   obtain ⟨x,e⟩:=this;exact (List.getElem?_eq_some_iff.1 e).1
  refine jE (a:=0) (o:=0) P.names r t (fun n j A=>?_) a2 (fun b k' _ B=>⟨k',by rw [← pA (k:=k)];simpa using B,Nat.le_refl _⟩) R.fin i (by omega) c s u;have:=R.inv.Eb.ord n j A;exact ⟨this.1,by show j.toNat<(bs.map Pd.words).length;rw [List.length_map];exact this.2⟩
 obtain ⟨-,rfl,rfl⟩:=R'.uniq g oa z;have qa:ts'.map gi=la.map gi:=by
  rw [R'.ends,R.ends];refine List.ext_getElem? fun i=>?_;rw [List.getElem?_map,List.getElem?_map];cases e:(zh la bs).la[i]? with
  | none =>
   have:=List.getElem?_eq_none_iff.1 e;rw [List.getElem?_eq_none_iff.2 (by omega)];rfl
  | some x =>
   obtain ⟨F,v,C⟩:=a2.la i x e;rw [Nat.add_zero] at v;rw [v];show some _=some _;rw [HJ (P.names.ok i) (r i) (t.la _ _ e) C,AN]
 have D:f.map Pd.words=bs.map Pd.words:=by
  show (zh ts' f).bs=(zh la bs).bs;refine List.ext_getElem? fun i=>?_;cases e:(zh la bs).bs[i]? with
  | none =>
   have:=List.getElem?_eq_none_iff.1 e;exact List.getElem?_eq_none_iff.2 (by omega)
  | some w=>exact a2.bs i w e
 unfold Uw;rw [qa,D]
end
theorem KI (k:Nat):Vx (k+1000000)=some true:=by kernel_rfl
theorem Jq {α β:Type}{o:Option α}{x:α}{f:α→Option β}{r:Option β}(h:o=some x) (a:f x=r):o.bind f=r:=by rw [h];exact a
theorem MG (k:Nat) (l:List sa) (ia:Lm k l):Rv (k+1000000) l=some true:=by
 obtain ⟨f,f1,F,G⟩:=xF (fu:=k+1000000) (by omega) l;obtain ⟨g,g1,i1,i2⟩:=xF (fu:=k+1000000) (by omega) (l.map (Oc k));have e:g=f:=by
  have:=(jH (k+1000000) k (by omega) l ia).1;rw [Vq] at f1 g1;rw [this] at g1;exact Option.some.inj (g1.symm.trans f1)
 subst e;have fin:∀ (w:er) (f:df),Xr w w=some true→(if (jk [(decide (f.Hg=f.Hg)),(decide (f.Aa=f.Aa))])=true then (Xr w w).bind fun H=>some H else some false)=some true:=fun w f hw=>by
  rw [if_pos (by simp [jk]),hw];rfl
 have A:Xr ⟨[],[],0⟩ ⟨[],[],0⟩=some true:=tC (by simp) (fun t h=>by cases h) (by simp) (fun t h=>by cases h);unfold Rv;refine Jq (KI k) ?_;rw [if_pos rfl];have u:Uu (k+1000000) l=some (l.map (Oc k)):=FM (k+1000000) k l (by omega) ia;by_cases y:g.Hg=0
 ·obtain ⟨p,P,q⟩:=G y;obtain ⟨dc,r,B⟩:=i2 y;rcases q with ⟨e,m,d,s,K,xa⟩ | ⟨la,bs,m,d,e,R⟩
  ·rcases B with ⟨v,-⟩ | ⟨ts',L,C,D,v,R'⟩
   ·exact Jq e (Jq u (Jq v (fin _ _ A)))
   ·obtain ⟨M,oa,-⟩:=FA P r ia K;obtain ⟨_,c',-,N,-⟩:=R'.fO r oa;have:=R'.inv.Tw;omega
  ·rcases B with ⟨v,C,D,M,O,Z⟩ | ⟨ts',L,C,D,v,R'⟩
   ·exfalso;obtain ⟨z,oa,a2,a3,a4⟩:=FA P r ia R.run;have Q:=P.EA r ia;have S:Ir p (Uf l).env (Cl p.named (l.filter qh)) (zh la bs):=R.run.own P.names.own P.Cp;have T:tp (xf (Uf (l.map (Oc k))).env) (Qj (l.map (Oc k))) z:=by
     intro i c s E;have bb:i<z.la.length:=by
      have:∃ x,z.la[i]?=some x:=by cases E<;>exact ⟨_,by assumption⟩
      obtain ⟨x,U⟩:=this;exact (List.getElem?_eq_some_iff.1 U).1
     refine jE (a:=0) (o:=0) P.names Q S (fun n j V=>?_) a2 (fun b k' _ W=>⟨k',by rw [← pA (k:=k)];simpa using W,Nat.le_refl _⟩) R.fin i (by omega) c s E;have:=R.inv.Eb.ord n j V;exact ⟨this.1,by show j.toNat<(bs.map Pd.words).length;rw [List.length_map];exact this.2⟩
    obtain ⟨_,c',-,N,-⟩:=Mf.ends r.names.own T r.Cp oa O;have:=R.inv.Tw;omega
   ·refine Jq e (Jq u (Jq v ?_));rw [SH P r ia R R'];obtain ⟨s1,s2,Gb,X⟩:=R.small P;exact fin (Uw la bs d) ⟨0,0⟩ (tC (by show (la.map gi).length≤_;omega) (fun t Y=>by have:=s2 t Y;omega) (by show (bs.map Pd.words).length≤_;omega) (fun b u=>by have:=X b u;omega))
 ·exact Jq (F y) (Jq u (Jq (i1 y) (fin _ g A)))
end Go.Y
