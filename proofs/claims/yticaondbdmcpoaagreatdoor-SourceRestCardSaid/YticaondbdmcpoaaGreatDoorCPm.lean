/- Texts of SourceRest Pm. -/
import Derived.Test.YticaondbdmcpoaaGreatDoorCMd
import Derived.Test.YticaondbdmcpoaaGreatDoorCPl
import Derived.KernelRfl
set_option linter.unusedSimpArgs false
set_option linter.unusedVariables false
set_option linter.unusedSectionVars false
namespace Go.Y
inductive Dp (T:Type) where
 | halt
 | Kj (c:Nat) (t:T)
 | send (b:Nat) (v:Int) (c:Nat) (t:T)
 | recv (b:Nat) (c:Nat) (k:Int→T)
structure Xh (T:Type) where
 sa:List T
 bs:List (List Int)
section
variable {T:Type}
inductive Li (act:T→Dp T) (cap:List Nat) (s:Xh T) (i:Nat):Nat→Xh T→Prop
 | Kj {t qc:T} {c:Nat}:s.sa[i]?=some t→act t=.Kj c qc→Li act cap s i c ⟨s.sa.set i qc,s.bs⟩
 | send {t qc:T} {c b k:Nat} {v:Int} {w:List Int}:s.sa[i]?=some t→act t=.send b v c qc→s.bs[b]?=some w→cap[b]?=some k→w.length<k→Li act cap s i c ⟨s.sa.set i qc,s.bs.set b (w++[v])⟩
 | recv {t:T} {c b:Nat} {k:Int→T} {v:Int} {w:List Int}:s.sa[i]?=some t→act t=.recv b c k→s.bs[b]?=some (v::w)→Li act cap s i c ⟨s.sa.set i (k v),s.bs.set b w⟩
structure Az (act:T→Dp T) (O:Nat→T→Prop) (V:Nat→Int→Prop) (wr rd:Nat→Nat→Prop):Prop where
 Kj:∀ {i:Nat}{t qc:T}{c:Nat},O i t→act t=.Kj c qc→O i qc
 send:∀ {i:Nat}{t qc:T}{b c:Nat}{v:Int},O i t→act t=.send b v c qc→wr b i∧V b v∧O i qc
 recv:∀ {i:Nat}{t:T}{b c:Nat}{k:Int→T},O i t→act t=.recv b c k→rd b i∧∀ v,V b v→O i (k v)
 Rk:∀ {b i j:Nat},wr b i→wr b j→i=j
 hL:∀ {b i j:Nat},rd b i→rd b j→i=j
structure xn (O:Nat→T→Prop) (V:Nat→Int→Prop) (s:Xh T):Prop where
 sa:∀ (i:Nat) (t:T),s.sa[i]?=some t→O i t
 bs:∀ (b:Nat) (w:List Int),s.bs[b]?=some w→∀ v ∈ w,V b v
variable {act:T→Dp T}{cap:List Nat}{O:Nat→T→Prop}{V:Nat→Int→Prop}{wr rd:Nat→Nat→Prop}
theorem xn.set {s:Xh T}{i:Nat}{t:T}(h:xn O V s) (a:O i t):xn O V ⟨s.sa.set i t,s.bs⟩:=by
 refine ⟨fun j u hu=>?_,h.bs⟩;simp only at hu;rw [List.getElem?_set] at hu;split at hu
 ·rename_i e;subst e;split at hu
  ·cases hu;exact a
  ·cases hu
 ·exact h.sa j u hu
theorem xn.box {s:Xh T}{b:Nat}{w:List Int}(h:xn O V s) (hw:∀ v ∈ w,V b v):xn O V ⟨s.sa,s.bs.set b w⟩:=by
 refine ⟨h.sa,fun j u hu=>?_⟩;simp only at hu;rw [List.getElem?_set] at hu;split at hu
 ·rename_i e;subst e;split at hu
  ·cases hu;exact hw
  ·cases hu
 ·exact h.bs j u hu
theorem Li.own (W:Az act O V wr rd){s j:Xh T}{i c:Nat}(h:Li act cap s i c j) (a:xn O V s):xn O V j:=by
 cases h with
 | Kj e f=>exact a.set (W.Kj (a.sa _ _ e) f)
 | @send t qc _ b k v w e f g n oa =>
  obtain ⟨-,l,m⟩:=W.send (a.sa _ _ e) f;refine (a.set m).box (s:=⟨s.sa.set i qc,s.bs⟩) fun x d=>?_;rcases List.mem_append.1 d with d | d
  ·exact a.bs _ _ g _ d
  ·rw [List.mem_singleton.1 d];exact l
 | @recv t _ b k v w e f g=>exact (a.set ((W.recv (a.sa _ _ e) f).2 v (a.bs _ _ g _ (by simp)))).box (s:=⟨s.sa.set i (k v),s.bs⟩) fun x d=>a.bs _ _ g _ (by simp [d])
theorem ft {α:Type}{l:List α}{i j:Nat}{a:α}(h:i≠j):(l.set i a)[j]?=l[j]?:=List.getElem?_set_ne h
theorem Ar {α:Type}{l:List α}{i:Nat}{a b:α}(h:l[i]?=some b):(l.set i a)[i]?=some a:=by
 rw [List.getElem?_set_self (List.getElem?_eq_some_iff.1 h).1]
inductive th (act:T→Dp T) (cap:List Nat):Xh T→Nat→Nat→Xh T→Prop
 | nil {s:Xh T}:th act cap s 0 0 s
 | cons {s s1 e:Xh T} {i c n d:Nat}:Li act cap s i c s1→th act cap s1 n d e→th act cap s (n+1) (c+d) e
def Bz (act:T→Dp T) (cap:List Nat) (s:Xh T):Prop:=∀ i c a,¬ Li act cap s i c a
theorem th.app {s s1 e:Xh T}{n d m f:Nat}(h:th act cap s n d s1) (a:th act cap s1 m f e):th act cap s (n+m) (d+f) e:=by
 induction h with
 | nil=>simpa using a
 | @cons _ _ _ _ c n d k _ b =>
  have:=th.cons k (b a);rw [show n+1+m=(n+m)+1 by omega,Nat.add_assoc c d f];exact this
theorem th.one {s e:Xh T}{i c:Nat}(h:Li act cap s i c e):th act cap s 1 c e:=.cons h .nil
theorem th.own (W:Az act O V wr rd){s e:Xh T}{n d:Nat}(h:th act cap s n d e) (a:xn O V s):xn O V e:=by
 induction h with
 | nil=>exact a
 | cons k _ b=>exact b (k.own W a)
end
end Go.Y
namespace Go.Y
open Go.hc Go.Mc
structure Core where
 xe:List Jh
 mc:List Eg
 now:Nat
 out:List Int
inductive Sm where
 | run (c:uh)
 | done
 | Le (n:Int)
def Gd.core (t:Gd):Core:=⟨t.xe,t.mc,t.now,t.out⟩
def Sf:uh→uh
 | .Rd (.recv n k)=>.recv n k
 | .Rd (.send n v k)=>.send n v k
 | c=>c
def Comm:uh→Prop
 | .recv _ _=>True
 | .send _ _ _=>True
 | .Rd (.recv _ _)=>True
 | .Rd (.send _ _ _)=>True
 | _=>False
inductive Jf (E:oe):uh→Core→Nat→Core→Sm→Prop
 | Lz {x:Va} {s:Option Nat} {k:sf} {z:Core}:x.Kind=1∨x.Kind=2→Jf E (.expr x s k) z 1 z (.run (.tf k x.N))
 | var {x:Va} {s:Option Nat} {k:sf} {z:Core} {i:Nat} {c:Jh}:x.Kind=3→Xk z.xe x.Name (z.xe.length+1) s=some i→z.xe[i]?=some c→Jf E (.expr x s k) z 1 z (.run (.tf k c.v))
 | JD {x:Va} {s:Option Nat} {k:sf} {z:Core}:x.Kind=20→Jf E (.expr x s k) z 1 z (.run (.recv x.Name k))
 | KD {x:Va} {s:Option Nat} {k:sf} {z:Core}:x.Kind≠1→x.Kind≠2→x.Kind≠3→x.Kind≠20→Jf E (.expr x s k) z 1 z (.run (.all x.Kids s [] (.ex x k)))
 | wD {l:List Va} {s:Option Nat} {we:List Int} {k:Sk} {z:Core} {x:Va}:l.length≠we.length→l[we.length]?=some x→Jf E (.all l s we k) z 0 z (.run (.expr x s (.all l s we k)))
 | xD {l:List Va} {s:Option Nat} {we:List Int} {k:Sk} {z:Core}:l.length=we.length→Jf E (.all l s we k) z 0 z (.run (.we k we))
 | nil {s:Option Nat} {e:Rg} {k:me} {z:Core}:Jf E (.stats [] s e k) z 0 z (.run (.Rd k))
 | stop {x:gb} {l:List gb} {s:Option Nat} {q k:me} {z:Core}:x.Kind=6→Jf E (.stats (x::l) s (.stop q) k) z 1 z (.run (.Rd q))
 | ND {x:gb} {l:List gb} {s:Option Nat} {e:Rg} {k:me} {z:Core}:x.Kind=4→Jf E (.stats (x::l) s e k) z 1 z (.run (.cg x s e (.stats l s e k)))
 | st {x:gb} {l:List gb} {s:Option Nat} {e:Rg} {k:me} {z:Core}:x.Kind≠6→x.Kind≠4→Jf E (.stats (x::l) s e k) z 1 z (.run (.expr x.X s (.stat (x::l) s e k)))
 | cg {x:gb} {s:Option Nat} {e:Rg} {k:me} {z:Core}:Jf E (.cg x s e k) z 0 z (.run (.expr x.X s (.cg x s e k)))
 | yD {l:List Va} {s:Option Nat} {we:List Int} {k:Sk} {v:Int} {z:Core} {g:List Int}:app we [v]=some g→Jf E (.tf (.all l s we k) v) z 0 z (.run (.all l s g k))
 | qo {x:gb} {l:List gb} {s:Option Nat} {e:Rg} {k:me} {v:Int} {z:Core}:x.Kind=1→Jf E (.tf (.stat (x::l) s e k) v) z 0 { z with xe:=z.xe++[⟨x.Name,v,s⟩] } (.run (.Rd (.stats l (some z.xe.length) e k)))
 | sset {x:gb} {l:List gb} {s:Option Nat} {e:Rg} {k:me} {v:Int} {z:Core} {i:Nat} {c:Jh}:x.Kind=2→Xk z.xe x.Name (z.xe.length+1) s=some i→z.xe[i]?=some c→Jf E (.tf (.stat (x::l) s e k) v) z 0 { z with xe:=z.xe.set i { c with v:=v } } (.run (.Rd (.stats l s e k)))
 | kr {x:gb} {l:List gb} {s:Option Nat} {e:Rg} {k:me} {v:Int} {z:Core}:x.Kind=3→Jf E (.tf (.stat (x::l) s e k) v) z 0 z (.run (.stats (if v≠0 then x.Body else x.Ff) s e (.stats l s e k)))
 | Wq {x:gb} {l:List gb} {s:Option Nat} {q:sf} {k:me} {v:Int} {z:Core}:x.Kind=5→Jf E (.tf (.stat (x::l) s (.ret q) k) v) z 0 z (.run (.tf q v))
 | Qq {x:gb} {l:List gb} {s:Option Nat} {e:Rg} {k:me} {v:Int} {z:Core}:x.Kind=7→Jf E (.tf (.stat (x::l) s e k) v) z 0 z (.run (.send x.Name v (.stats l s e k)))
 | Xq {x:gb} {l:List gb} {s:Option Nat} {e:Rg} {k:me} {v:Int} {z:Core} {o:List Int}:x.Kind=8→app z.out [v]=some o→Jf E (.tf (.stat (x::l) s e k) v) z 0 { z with out:=o } (.run (.Rd (.stats l s e k)))
 | lr {x:gb} {l:List gb} {s:Option Nat} {e:Rg} {k:me} {v:Int} {z:Core}:x.Kind≠1→x.Kind≠2→x.Kind≠3→x.Kind≠5→x.Kind≠7→x.Kind≠8→Jf E (.tf (.stat (x::l) s e k) v) z 0 z (.run (.Rd (.stats l s e k)))
 | zD {x:gb} {s:Option Nat} {e:Rg} {k:me} {v:Int} {z:Core}:v=0→Jf E (.tf (.cg x s e k) v) z 0 z (.run (.Rd k))
 | win {x:gb} {s:Option Nat} {e:Rg} {k:me} {v:Int} {z:Core}:v≠0→Jf E (.tf (.cg x s e k) v) z 0 z (.run (.stats x.Body s e (.cg x s e k)))
 | neg {x:Va} {k:sf} {l:List Int} {z:Core} {a:Int}:x.Kind=4→at_ l 0=some a→Jf E (.we (.ex x k) l) z 0 z (.run (.tf k (ml (-a))))
 | not {x:Va} {k:sf} {l:List Int} {z:Core} {a:Int}:x.Kind=5→at_ l 0=some a→Jf E (.we (.ex x k) l) z 0 z (.run (.tf k (ml (1 - a))))
 | call {x:Va} {k:sf} {l:List Int} {z:Core} {d:va} {S:List Jh} {s:Option Nat}:x.Kind=19→ob E.defs x.Name=some d→Ak d.Params l z.xe none=some (S,s)→Jf E (.we (.ex x k) l) z 0 { z with xe:=S } (.run (.stats d.Body s (.ret k) (.zero k)))
 | jr {x:Va} {k b:sf} {l:List Int} {z:Core} {a:Int} {c:Eg} {u:Nat}:x.Kind=21→at_ l 0=some a→z.mc[z.now]?=some c→c.up=some u→c.back=some b→Jf E (.we (.ex x k) l) z 0 { z with mc:=z.mc.set z.now { c with dm:=some k,going:=false },now:=u } (.run (.tf b a))
 | many {x:Va} {k:sf} {l:List Int} {z:Core}:x.Kind=22→(z.mc.length:Int) - 1=30→Jf E (.we (.ex x k) l) z 0 z (.Le 5)
 | start {x:Va} {k:sf} {l:List Int} {z:Core} {d:va} {S:List Jh} {s:Option Nat}:x.Kind=22→(z.mc.length:Int) - 1≠30→ob E.defs x.Name=some d→Ak d.Params l z.xe none=some (S,s)→Jf E (.we (.ex x k) l) z 0 { z with xe:=S,mc:=z.mc++[⟨d,s,false,false,false,none,none,none⟩] } (.run (.tf k (z.mc.length - 1)))
 | res {x:Va} {k:sf} {l:List Int} {z:Core} {a b:Int}:x.Kind=23→at_ l 0=some a→at_ l 1=some b→0≤a∧a<(z.mc.length:Int) - 1→Jf E (.we (.ex x k) l) z 0 z (.run (.resume (a.toNat+1) b k))
 | alive {x:Va} {k:sf} {l:List Int} {z:Core} {a:Int} {c:Eg}:x.Kind=24→at_ l 0=some a→0≤a→z.mc[a.toNat+1]?=some c→Jf E (.we (.ex x k) l) z 0 z (.run (.tf k (lj !c.ended)))
 | AD {x:Va} {k:sf} {l:List Int} {z:Core}:x.Kind=9∨x.Kind=10→at_ l 1=some 0→Jf E (.we (.ex x k) l) z 0 z (.Le 1)
 | two {x:Va} {k:sf} {l:List Int} {z:Core} {a b v:Int}:x.Kind≠4∧x.Kind≠5∧x.Kind≠19∧x.Kind≠21∧x.Kind≠22∧x.Kind≠23∧x.Kind≠24→(x.Kind=9∨x.Kind=10→b≠0)→at_ l 0=some a→at_ l 1=some b→fm x.Kind a b=some v→Jf E (.we (.ex x k) l) z 0 z (.run (.tf k v))
 | zero {k:sf} {z:Core}:Jf E (.Rd (.zero k)) z 0 z (.run (.tf k 0))
 | done {g u:Nat} {z:Core} {c:Eg} {b:sf}:z.mc[g]?=some c→c.up=some u→c.back=some b→Jf E (.Rd (.done g)) z 0 { z with mc:=z.mc.set g { c with ended:=true,going:=false },now:=u } (.run (.tf b 0))
 | stats {l:List gb} {s:Option Nat} {e:Rg} {k:me} {z:Core}:Jf E (.Rd (.stats l s e k)) z 0 z (.run (.stats l s e k))
 | BD {x:gb} {s:Option Nat} {e:Rg} {k:me} {z:Core}:Jf E (.Rd (.cg x s e k)) z 0 z (.run (.cg x s e k))
 | fin {z:Core}:Jf E (.Rd .fin) z 0 z .done
 | zj {d:va} {z:Core}:Jf E (.Rd (.zj d)) z 0 z (.run (.stats d.Body none (.stop .fin) .fin))
 | gone {g:Nat} {v:Int} {k:sf} {z:Core} {c:Eg}:z.mc[g]?=some c→c.ended=true→Jf E (.resume g v k) z 0 z (.Le 2)
 | busy {g:Nat} {v:Int} {k:sf} {z:Core} {c:Eg}:z.mc[g]?=some c→c.ended≠true→c.going=true∨g=z.now→Jf E (.resume g v k) z 0 z (.Le 3)
 | on {g:Nat} {v:Int} {k o:sf} {z:Core} {c:Eg}:z.mc[g]?=some c→c.ended≠true→¬ (c.going=true∨g=z.now)→c.begun=true→c.dm=some o→Jf E (.resume g v k) z 0 { z with mc:=z.mc.set g { c with going:=true,up:=some z.now,back:=some k },now:=g } (.run (.tf o v))
 | first {g:Nat} {v:Int} {k:sf} {z:Core} {c:Eg}:z.mc[g]?=some c→c.ended≠true→¬ (c.going=true∨g=z.now)→c.begun≠true→Jf E (.resume g v k) z 0 { z with mc:=z.mc.set g { c with going:=true,up:=some z.now,back:=some k,begun:=true },now:=g } (.run (.stats c.jm.Body c.args (.stop (.done g)) (.done g)))
def Dg (t:Gd) (bs:List Od) (nd:Int) (x:Core):Sm→nj
 | .run c=>.call c ⟨{ t with xe:=x.xe,mc:=x.mc,now:=x.now,out:=x.out },bs,nd⟩
 | .done=>.ret none ⟨{ t with xe:=x.xe,mc:=x.mc,now:=x.now,out:=x.out,state:=4 },bs,nd⟩
 | .Le n=>.ret none ⟨{ t with xe:=x.xe,mc:=x.mc,now:=x.now,out:=x.out,state:=5,Le:=n },bs,nd⟩
inductive Cz:nj→nj→Prop
 | rfl (o:nj):Cz o o
 | ret (k:me) (z:Tc):Cz (.ret (some k) z) (.call (.Rd k) z)
theorem Jf.step {E:oe}{c:uh}{t:Gd}{bs:List Od}{nd:Int}{n:Nat}{x:Core}{q:Sm}(h:Jf E c t.core n x q) (u:n=0∨nd+1≤20000):∃ o,ae E c ⟨t,bs,nd⟩=some o∧Cz o (Dg t bs (nd+n) x q):=by
 have m:∀ f,nd+1≤20000→xq ⟨t,bs,nd⟩ f=f ⟨t,bs,nd+1⟩:=fun f h=>by rw [xq,if_neg (by show ¬ (20000<nd+1);omega)]
 obtain ⟨xe,mc,now,Nk,state,box,Le,out⟩:=t
 change Jf E c ⟨xe,mc,now,out⟩ n x q at h
 cases h with
 | Lz h=>refine ⟨_,?_,.rfl _⟩; rw [ae,m _ (by omega),if_pos h]; rfl
 | var h d e =>
  refine ⟨_,?_,.rfl _⟩;rw [ae,m _ (by omega),if_neg (by omega),if_pos h];show (Xk xe _ _ _).bind _=_;rw [show Xk xe _ (xe.length+1) _=_ from d];simp only [Option.bind_some];show (xe[_]?).bind _=_;rw [show xe[_]?=_ from e];rfl
 | JD h=>refine ⟨_,?_,.rfl _⟩; rw [ae,m _ (by omega),if_neg (by omega),if_neg (by omega),if_pos h]; rfl
 | KD p d e g=>refine ⟨_,?_,.rfl _⟩; rw [ae,m _ (by omega),if_neg (by omega),if_neg (by omega),if_neg g]; rfl
 | wD h d=>refine ⟨_,?_,.rfl _⟩; rw [ae,if_neg h,d]; simp [Dg]
 | xD h=>refine ⟨_,?_,.rfl _⟩; rw [ae,if_pos h]; simp [Dg]
 | nil=>refine ⟨_,?_,.ret _ _⟩; rw [ae]; simp [Dg]
 | stop h=>refine ⟨_,?_,.ret _ _⟩; rw [ae,m _ (by omega),if_pos h]; rfl
 | ND h=>refine ⟨_,?_,.rfl _⟩; rw [ae,m _ (by omega),if_neg (by omega),if_pos h]; rfl
 | st p d=>refine ⟨_,?_,.rfl _⟩; rw [ae,m _ (by omega),if_neg p,if_neg d]; rfl
 | cg=>refine ⟨_,?_,.rfl _⟩; rw [ae]; simp [Dg]
 | yD h=>refine ⟨_,?_,.rfl _⟩; rw [ae,h]; simp [Dg]
 | qo h=>refine ⟨_,?_,.ret _ _⟩; rw [ae]; simp [nn,h,Dg,Tc.task]
 | sset h d e =>
  refine ⟨_,?_,.ret _ _⟩;rw [ae];unfold nn;rw [if_neg (by omega),if_pos h,show Xk xe _ (xe.length+1) _=_ from d];simp only [Option.bind_some];rw [show xe[_]?=_ from e];simp [Dg,Tc.task]
 | kr h=>refine ⟨_,?_,.rfl _⟩; rw [ae]; simp [nn,h,Dg,Tc.task]
 | Wq h=>refine ⟨_,?_,.rfl _⟩; rw [ae]; simp [nn,h,Dg,Tc.task]
 | Qq h=>refine ⟨_,?_,.rfl _⟩; rw [ae]; simp [nn,h,Dg,Tc.task]
 | Xq h d =>
  refine ⟨_,?_,.ret _ _⟩;rw [ae];unfold nn;rw [if_neg (by omega),if_neg (by omega),if_neg (by omega),if_neg (by omega),if_neg (by omega),if_pos h,show app out _=_ from d];simp [Dg,Tc.task]
 | lr p d e g j s=>refine ⟨_,?_,.ret _ _⟩; rw [ae]; simp [nn,p,d,e,g,j,s,Dg,Tc.task]
 | zD h=>refine ⟨_,?_,.ret _ _⟩; rw [ae,if_pos h]; simp [Dg]
 | win h=>refine ⟨_,?_,.rfl _⟩; rw [ae,if_neg h]; simp [Dg]
 | neg h d=>refine ⟨_,?_,.rfl _⟩; rw [ae]; simp [gm,h,d,Dg,Tc.task]
 | not h d=>refine ⟨_,?_,.rfl _⟩; rw [ae]; simp [gm,h,d,Dg,Tc.task]
 | call h d e =>
  refine ⟨_,?_,.rfl _⟩;rw [ae];rw [gm];rw [if_neg (by omega),if_neg (by omega),if_pos h,d];simp only [Option.bind_some];rw [show Ak _ _ xe _=_ from e];simp [Dg,Tc.task]
 | jr h d e g j =>
  have r:mc[now]?=some _:=e;refine ⟨_,?_,.rfl _⟩;rw [ae];rw [gm];rw [if_neg (by omega),if_neg (by omega),if_neg (by omega),if_pos h,d];simp only [Option.bind_some];rw [r];simp only [Option.bind_some];rw [g];simp only [Option.bind_some];rw [j];simp only [Option.bind_some];simp [Dg,Tc.task,Gd.Rl,r,g,j]
 | many h d =>
  dsimp only at *;refine ⟨_,?_,.rfl _⟩;rw [ae];rw [gm];rw [if_neg (by omega),if_neg (by omega),if_neg (by omega),if_neg (by omega),if_pos h,if_pos d];simp [Dg,Tc.task,Cq]
 | start h d e g =>
  dsimp only at *;refine ⟨_,?_,.rfl _⟩;rw [ae];rw [gm];rw [if_neg (by omega),if_neg (by omega),if_neg (by omega),if_neg (by omega),if_pos h,if_neg d,e];simp only [Option.bind_some];rw [show Ak _ _ xe _=_ from g];simp [Dg,Tc.task]
 | res h d e g =>
  dsimp only at *;refine ⟨_,?_,.rfl _⟩;rw [ae];rw [gm];rw [if_neg (by omega),if_neg (by omega),if_neg (by omega),if_neg (by omega),if_neg (by omega),if_pos h,d];simp only [Option.bind_some];rw [e];simp only [Option.bind_some];rw [if_pos g];simp [Dg]
 | alive h d e g =>
  refine ⟨_,?_,.rfl _⟩;rw [ae];rw [gm];rw [if_neg (by omega),if_neg (by omega),if_neg (by omega),if_neg (by omega),if_neg (by omega),if_neg (by omega),if_pos h,d];simp only [Option.bind_some];rw [if_pos e,show mc[_]?=_ from g];simp [Dg]
 | AD h d =>
  refine ⟨_,?_,.rfl _⟩;rw [ae];rw [gm];rw [if_neg (by omega),if_neg (by omega),if_neg (by omega),if_neg (by omega),if_neg (by omega),if_neg (by omega),if_neg (by omega),if_pos h,d];simp [Dg,Tc.task,Cq]
 | @two x k l z a b v h d e g j =>
  refine ⟨_,?_,.rfl _⟩;rw [ae];rw [gm];rw [if_neg (by omega),if_neg (by omega),if_neg (by omega),if_neg (by omega),if_neg (by omega),if_neg (by omega),if_neg (by omega),e,g];simp only [Option.bind_some];by_cases c:x.Kind=9∨x.Kind=10
  ·rw [if_pos c];simp [d c,j,Dg]
  ·rw [if_neg c];simp [j,Dg]
 | zero=>refine ⟨_,?_,.rfl _⟩; rw [ae]; simp [Dg]
 | done h d e =>
  have i:mc[_]?=some _:=h;refine ⟨_,?_,.rfl _⟩;rw [ae];simp only [i,Option.bind_some,d,e];simp [Dg,Tc.task,Gd.Rl,i,d,e]
 | stats=>refine ⟨_,?_,.rfl _⟩; rw [ae]; simp [Dg]
 | BD=>refine ⟨_,?_,.rfl _⟩; rw [ae]; simp [Dg]
 | fin=>refine ⟨_,?_,.rfl _⟩; rw [ae]; simp [Dg,Tc.task]
 | zj=>refine ⟨_,?_,.rfl _⟩; rw [ae]; simp [Dg]
 | gone h d =>
  have i:mc[_]?=some _:=h;refine ⟨_,?_,.rfl _⟩;rw [ae];simp only [Gr,i,Option.bind_some];rw [if_pos d];simp [Dg,Tc.task,Cq]
 | busy h d e =>
  dsimp only at e;have i:mc[_]?=some _:=h;refine ⟨_,?_,.rfl _⟩;rw [ae];simp only [Gr,i,Option.bind_some];rw [if_neg d,if_pos e];simp [Dg,Tc.task,Cq]
 | on h d e g j =>
  dsimp only at e;have i:mc[_]?=some _:=h;refine ⟨_,?_,.rfl _⟩;rw [ae];simp only [Gr,i,Option.bind_some];rw [if_neg d,if_neg e,if_pos g,j];simp [Dg,Tc.task,Gd.Rl,i,j]
 | first h d e g =>
  dsimp only at e;have i:mc[_]?=some _:=h;refine ⟨_,?_,.rfl _⟩;rw [ae];simp only [Gr,i,Option.bind_some];rw [if_neg d,if_neg e,if_neg g];obtain ⟨oa,he⟩:=List.getElem?_eq_some_iff.1 i;simp [Dg,Tc.task,Gd.Rl,i,oa,he]
end Go.Y
namespace Go.Y
open Go.hc Go.Mc
structure Qf where
 Cd:List va
 pf:List (Ie×Option Nat×Ya)
structure Qf.le (C wg:Qf):Prop where
 Cd:∀ (i:Nat) (d:va),C.Cd[i]?=some d→wg.Cd[i]?=some d
 pf:∀ (i:Nat) (c:Ie×Option Nat×Ya),C.pf[i]?=some c→wg.pf[i]?=some c
theorem Qf.le.r {C:Qf}:C.le C:=⟨fun _ _ h=>h,fun _ _ h=>h⟩
theorem Em {α:Type}{l m:List α}{i:Nat}{a:α}(h:l[i]?=some a):(l++m)[i]?=some a:=by
 rw [List.getElem?_append_left (List.getElem?_eq_some_iff.1 h).1];exact h
theorem Qf.le.app {C:Qf}{a:List va}{b:List (Ie×Option Nat×Ya)}:C.le ⟨C.Cd++a,C.pf++b⟩:=⟨fun _ _ h=>Em h,fun _ _ h=>Em h⟩
def Mh (p:yb) (C:Qf) (t:Ya) (v:Int):Prop :=
 (t.Kind=2→v=0∨v=1)∧(t.Kind=3→∃ (j:Nat) (d:va),v=(j:Int)∧C.Cd[j+1]?=some d∧ob p.named t.Gc=some d)
theorem Mh.up {p:yb}{C wg:Qf}(l:C.le wg){t:Ya}{v:Int}(h:Mh p C t v):Mh p wg t v:=⟨h.1,fun k=>by
 obtain ⟨j,d,a,b,c⟩:=h.2 k;exact ⟨j,d,a,l.Cd _ _ b,c⟩⟩
theorem XF {t:Ya}(h:t.Kind=3):Ge t=t:=by unfold Ge;rw [if_neg (by omega)]
theorem Mh.bare {p:yb}{C:Qf}{t:Ya}{v:Int}:Mh p C (Ge t) v ↔ Mh p C t v:=by
 by_cases h:t.Kind=3
 ·rw [XF h]
 ·unfold Mh;rw [Vl];exact ⟨fun k=>⟨k.1,fun e=>absurd e h⟩,fun k=>⟨k.1,fun e=>absurd e h⟩⟩
theorem Mh.plain {p:yb}{C:Qf}{t:Ya}{v:Int}(a:t.Kind=2→v=0∨v=1) (h:t.Kind≠3):Mh p C t v:=⟨a,fun k=>absurd k h⟩
theorem Mh.num {p:yb}{C:Qf}{v:Int}:Mh p C ⟨1,[]⟩ v:=.plain (fun h=>by simp at h) (by simp)
theorem Mh.bool {p:yb}{C:Qf}{v:Int}(h:v=0∨v=1):Mh p C ⟨2,[]⟩ v:=.plain (fun _=>h) (by simp)
theorem Mh.uK {p:yb}{C:Qf}{b:Bool}:Mh p C ⟨2,[]⟩ (lj b):=.bool (by cases b<;>simp [lj])
inductive Al (pf:List (Ie×Option Nat×Ya)) (n:Ie):Option Nat→Nat→Ya→Prop
 | here {i:Nat} {u:Option Nat} {t:Ya}:pf[i]?=some (n,u,t)→Al pf n (some i) i t
 | up {i j:Nat} {a:Ie} {u:Option Nat} {t qc:Ya}:pf[i]?=some (a,u,qc)→a≠n→Al pf n u j t→Al pf n (some i) j t
theorem Al.mono {pf a:List (Ie×Option Nat×Ya)}(l:∀ (i:Nat) (c:Ie×Option Nat×Ya),pf[i]?=some c→a[i]?=some c){n:Ie}{s:Option Nat}{i:Nat}{t:Ya}(h:Al pf n s i t):Al a n s i t:=by
 induction h with
 | here h=>exact .here (l _ _ h)
 | up h b _ d=>exact .up (l _ _ h) b d
theorem Al.get {pf:List (Ie×Option Nat×Ya)}{n:Ie}{s:Option Nat}{i:Nat}{t:Ya}(h:Al pf n s i t):∃ u,pf[i]?=some (n,u,t):=by
 induction h with
 | here h=>exact ⟨_,h⟩
 | up _ _ _ a=>exact a
structure Env (C:Qf) (s:Option Nat) (B:ze):Prop where
 ok:∀ j,s=some j→j<C.pf.length
 at_:∀ (n:Ie) (t:Ya),cj B n=some t→∃ i,Al C.pf n s i t
theorem Qf.le.len {C wg:Qf}(l:C.le wg){j:Nat}(h:j<C.pf.length):j<wg.pf.length:=(List.getElem?_eq_some_iff.1 (l.pf _ _ (List.getElem?_eq_getElem h))).1
theorem Env.up {C wg:Qf}(l:C.le wg){s:Option Nat}{B:ze}(h:Env C s B):Env wg s B:=⟨fun j e=>l.len (h.ok j e),fun n t e=>by
 obtain ⟨i,h⟩:=h.at_ n t e;exact ⟨i,h.mono l.pf⟩⟩
theorem hC (B:ze) (n:Ie):cj (B++[[]]) n=cj B n:=by
 unfold cj;rw [List.reverse_append,List.reverse_singleton,List.singleton_append,List.findSome?_cons];rfl
theorem Env.ba {C:Qf}{s:Option Nat}{B:ze}(h:Env C s B):Env C s (B++[[]]):=⟨h.ok,fun n t e=>h.at_ n t (by rwa [hC] at e)⟩
theorem Env.nil {C:Qf}:Env C none ([[]]++[[]]):=⟨fun j e=>(by cases e),fun n t e=>by rw [hC] at e;cases e⟩
structure Ok (p:yb) (C:Qf) (S:List Jh):Prop where
 len:S.length=C.pf.length
 at_:∀ (i:Nat) (c:Jh),S[i]?=some c→∃ t,C.pf[i]?=some (c.name,c.up,t)∧(∀ j,c.up=some j→j<i)∧Mh p C t c.v
theorem Ok.get {p:yb}{C:Qf}{S:List Jh}(h:Ok p C S){i:Nat}{n:Ie}{u:Option Nat}{t:Ya}(e:C.pf[i]?=some (n,u,t)):∃ c,S[i]?=some c∧c.name=n∧c.up=u∧(∀ j,u=some j→j<i)∧Mh p C t c.v:=by
 have oa:=(List.getElem?_eq_some_iff.1 e).1;rw [← h.len] at oa;have a:S[i]?=some S[i]:=List.getElem?_eq_getElem oa;obtain ⟨qc,b,d,f⟩:=h.at_ _ _ a;rw [e] at b;cases b;exact ⟨_,a,rfl,rfl,d,f⟩
theorem Al.find {p:yb}{C:Qf}{S:List Jh}(f:Ok p C S){n:Ie}{s:Option Nat}{i:Nat}{t:Ya}(h:Al C.pf n s i t):∀ fu,(∀ i0,s=some i0→i0<fu)→Xk S n fu s=some i:=by
 induction h with
 | @here i u t h =>
  intro fu a;obtain ⟨c,b,d,-⟩:=f.get h;cases fu with
  | zero=>have:=a _ rfl; omega
  | succ fu=>rw [Xk,b]; simp [d]
 | @up i j m u t qc h d _ g =>
  intro fu a;obtain ⟨c,b,k,l,Xe,-⟩:=f.get h;cases fu with
  | zero=>have:=a _ rfl; omega
  | succ fu =>
   rw [Xk,b];simp only [Option.bind_some,k,if_neg d,l];have:=a _ rfl;exact g fu fun i0 e=>by have:=Xe _ e;omega
theorem Al.found {p:yb}{C:Qf}{S:List Jh}(a:Ok p C S){n:Ie}{s:Option Nat}{i:Nat}{t:Ya}(h:Al C.pf n s i t):∃ c,Xk S n (S.length+1) s=some i∧S[i]?=some c∧c.name=n∧C.pf[i]?=some (n,c.up,t)∧Mh p C t c.v:=by
 obtain ⟨u,hu⟩:=h.get;obtain ⟨c,b,d,rfl,j,f⟩:=a.get hu;refine ⟨c,h.find a _ fun i0 e=>?_,b,d,hu,f⟩;have:∃ x,C.pf[i0]?=some x:=by
  subst e;cases h with
  | here h=>exact ⟨_,h⟩
  | up h _ _=>exact ⟨_,h⟩
 obtain ⟨x,g⟩:=this;have:=(List.getElem?_eq_some_iff.1 g).1;rw [← a.len] at this;omega
def Bn (C:Qf) (g:Nat) (d:va):Prop:=d.Kind=3→C.Cd[g]?=some d
theorem Bn.up {C wg:Qf}(l:C.le wg){g:Nat}{d:va}(h:Bn C g d):Bn wg g d:=fun k=>l.Cd _ _ (h k)
structure Sg where
 c:Ie→Prop
 s:Ie→Prop
 r:Ie→Prop
inductive qv (U:Sg):Va→Prop
 | mk {x:Va}:(x.Kind=19∨x.Kind=22→U.c x.Name)→(x.Kind=20→U.r x.Name)→(∀ y ∈ x.Kids,qv U y)→qv U x
inductive rv (U:Sg):gb→Prop
 | mk {x:gb}:(x.Kind=7→U.s x.Name)→(x.Kind≠6→qv U x.X)→(x.Kind=3∨x.Kind=4→∀ y ∈ x.Body,rv U y)→(x.Kind=3→∀ y ∈ x.Ff,rv U y)→rv U x
def Pk (U:Sg) (x:Va):Prop:=(∃ k,iv k x)∧qv U x
def Fi (U:Sg) (l:List gb):Prop:=(∃ k,∀ y ∈ l,zs k y)∧∀ y ∈ l,rv U y
structure St (p:yb) (U:Sg) (d:va) (B:ze) (l:List Va) (sa:List Ya) (m:Nat):Prop where
 len:l.length=sa.length
 le:l.length≤100
 at_:∀ (i:Nat) (y:Va) (t:Ya),m≤i→l[i]?=some y→sa[i]?=some t→Qe p d B y t∧Pk U y
inductive wm (p:yb) (U:Sg) (d:va) (x:Va):List Ya→Ya→Prop
 | neg:x.Kind=4→wm p U d x [⟨1,[]⟩] ⟨1,[]⟩
 | not:x.Kind=5→wm p U d x [⟨2,[]⟩] ⟨2,[]⟩
 | pv:6≤x.Kind∧x.Kind≤10→wm p U d x [⟨1,[]⟩,⟨1,[]⟩] ⟨1,[]⟩
 | eq {t:Ya}:x.Kind=11∨x.Kind=12→t.Kind≠3→wm p U d x [t,t] ⟨2,[]⟩
 | lt:13≤x.Kind∧x.Kind≤16→wm p U d x [⟨1,[]⟩,⟨1,[]⟩] ⟨2,[]⟩
 | Wj:17≤x.Kind∧x.Kind≤18→wm p U d x [⟨2,[]⟩,⟨2,[]⟩] ⟨2,[]⟩
 | call {f:va}:x.Kind=19→U.c x.Name→ob p.named x.Name=some f→f.Kind=2→wm p U d x (f.Params.map fun q=>Ge q.ic) (Ge f.ic)
 | jr:x.Kind=21→d.Kind=3→wm p U d x [Ge d.ic] (Ge d.se)
 | start {f:va}:x.Kind=22→U.c x.Name→ob p.named x.Name=some f→f.Kind=3→wm p U d x (f.Params.map fun q=>Ge q.ic) ⟨3,x.Name⟩
 | resume {g:Nm} {f:va}:x.Kind=23→ob p.named g=some f→f.Kind=3→wm p U d x [⟨3,g⟩,Ge f.se] (Ge f.ic)
 | alive {g:Nm} {f:va}:x.Kind=24→ob p.named g=some f→f.Kind=3→wm p U d x [⟨3,g⟩] ⟨2,[]⟩
inductive Pp (p:yb) (U:Sg) (d:va):ze→gb→Ya→ze→Prop
 | qo {B:ze} {s:gb} {t:Ya} (h:B.length - 1<B.length):s.Kind=1→cj B s.Name=none→Pp p U d B s t (B.set (B.length - 1) (Nd B[B.length - 1] s.Name t))
 | sset {B:ze} {s:gb} {t:Ya}:s.Kind=2→cj B s.Name=some t→Pp p U d B s (Ge t) B
 | kr {B a b:ze} {s:gb}:s.Kind=3→rj p d (B++[[]]) s.Body a→rj p d (B++[[]]) s.Ff b→Pp p U d B s ⟨2,[]⟩ B
 | Wq {B:ze} {s:gb}:s.Kind=5→d.Kind=2→Pp p U d B s (Ge d.ic) B
 | Qq {B:ze} {s:gb} {f:va}:s.Kind=7→U.s s.Name→ob p.named s.Name=some f→f.Kind=1→Pp p U d B s (Ge f.ic) B
 | Xq {B:ze} {s:gb} {t:Ya}:s.Kind=8→t.Kind≠3→Pp p U d B s t B
 | lr {B:ze} {s:gb} {t:Ya}:s.Kind=9→Pp p U d B s t B
def mr (p:yb) (C:Qf) (sa:List Ya) (vs:List Int):Prop:=∀ (i:Nat) (t:Ya) (v:Int),sa[i]?=some t→vs[i]?=some v→Mh p C t v
theorem mr.up {p:yb}{C wg:Qf}(l:C.le wg){sa:List Ya}{vs:List Int}(h:mr p C sa vs):mr p wg sa vs:=fun i t v a b=>(h i t v a b).up l
mutual
def fk (p:yb) (U:Sg) (C:Qf) (g:Nat):sf→Ya→Prop
 | .all l s we k,t=>∃ d B sa,Bn C g d∧Env C s B∧St p U d B l sa (we.length+1)∧mr p C sa we∧sa[we.length]?=some t∧As p U C g k sa
 | .stat l s e k,t=>∃ d B a b x r,l=x::r∧Bn C g d∧Env C s B∧Pp p U d B x t a∧rj p d a r b∧Fi U l∧Cn p U C g e d∧oj p U C g k
 | .cg x s e k,t=>t=⟨2,[]⟩∧∃ d B a,Bn C g d∧Env C s B∧x.Kind=4∧Qe p d B x.X ⟨2,[]⟩∧rj p d (B++[[]]) x.Body a∧Fi U [x]∧Cn p U C g e d∧oj p U C g k
def As (p:yb) (U:Sg) (C:Qf) (g:Nat):Sk→List Ya→Prop
 | .ex x k,sa=>∃ d t,Bn C g d∧wm p U d x sa t∧fk p U C g k t
def oj (p:yb) (U:Sg) (C:Qf) (g:Nat):me→Prop
 | .zero k=>∃ t,t.Kind≠3∧fk p U C g k t
 | .recv n k=>∃ f,U.r n∧ob p.named n=some f∧f.Kind=1∧fk p U C g k (Ge f.ic)
 | .send n v k=>∃ f,U.s n∧ob p.named n=some f∧f.Kind=1∧Mh p C (Ge f.ic) v∧oj p U C g k
 | .done b=>b=g∧1≤g
 | .stats l s e k=>∃ d B a,Bn C g d∧Env C s B∧rj p d B l a∧Fi U l∧Cn p U C g e d∧oj p U C g k
 | .cg x s e k=>∃ d B c,Bn C g d∧Env C s B∧x.Kind=4∧Qe p d B x.X ⟨2,[]⟩∧rj p d (B++[[]]) x.Body c∧Fi U [x]∧Cn p U C g e d∧oj p U C g k
 | .fin=>g=0
 | .zj d=>g=0∧d.Kind=4∧Fi U d.Body∧∃ a,rj p d ([[]]++[[]]) d.Body a
def Cn (p:yb) (U:Sg) (C:Qf) (g:Nat):Rg→va→Prop
 | .ret k,d=>d.Kind=2∧fk p U C g k (Ge d.ic)
 | .stop k,d=>d.Kind≠2∧oj p U C g k
end
section
variable {p:yb}{U:Sg}{C wg:Qf}(l:C.le wg){g:Nat}
include l
mutual
theorem fk.up:∀ {k:sf}{t:Ya},fk p U C g k t→fk p U wg g k t
 | .all ..,_,⟨d,B,sa,a,b,c,e,f,h⟩=>⟨d,B,sa,a.up l,b.up l,c,e.up l,f,As.up h⟩
 | .stat ..,_,⟨d,B,i,n,x,r,a,b,c,e,f,h,j,m⟩=>⟨d,B,i,n,x,r,a,b.up l,c.up l,e,f,h,Cn.up j,oj.up m⟩
 | .cg ..,_,⟨o,d,B,i,a,b,c,e,f,h,j,m⟩=>⟨o,d,B,i,a.up l,b.up l,c,e,f,h,Cn.up j,oj.up m⟩
theorem As.up:∀ {k:Sk}{sa:List Ya},As p U C g k sa→As p U wg g k sa
 | .ex ..,_,⟨d,t,a,b,c⟩=>⟨d,t,a.up l,b,fk.up c⟩
theorem oj.up:∀ {k:me},oj p U C g k→oj p U wg g k
 | .zero ..,⟨t,a,b⟩=>⟨t,a,fk.up b⟩
 | .recv ..,⟨f,i,a,b,c⟩=>⟨f,i,a,b,fk.up c⟩
 | .send ..,⟨f,i,a,b,c,e⟩=>⟨f,i,a,b,c.up l,oj.up e⟩
 | .done ..,h=>h
 | .stats ..,⟨d,B,n,a,b,c,e,j,m⟩=>⟨d,B,n,a.up l,b.up l,c,e,Cn.up j,oj.up m⟩
 | .cg ..,⟨d,B,o,a,b,c,e,j,m,q,r⟩=>⟨d,B,o,a.up l,b.up l,c,e,j,m,Cn.up q,oj.up r⟩
 | .fin,h=>h
 | .zj ..,h=>h
theorem Cn.up:∀ {e:Rg}{d:va},Cn p U C g e d→Cn p U wg g e d
 | .ret ..,_,⟨a,b⟩=>⟨a,fk.up b⟩
 | .stop ..,_,⟨a,b⟩=>⟨a,oj.up b⟩
end
end
structure Tt (p:yb) (U:Sg) (C:Qf) (g:Nat) (c:Eg):Prop where
 d:C.Cd[g]?=some c.jm
 Ud:1≤g→c.jm.Kind=3∧∃ n,ob p.named n=some c.jm∧U.c n
 fresh:1≤g→c.begun=false→c.going=false∧c.ended=false∧Env C c.args [Yq c.jm]
 held:1≤g→c.begun=true→c.going=false→c.ended=false→∃ k,c.dm=some k∧fk p U C g k (Ge c.jm.se)
 go:1≤g→c.going=true→c.begun=true∧c.ended=false∧∃ u b,c.up=some u∧c.back=some b∧fk p U C u b (Ge c.jm.ic)
 zero:g=0→c.going=false∧c.ended=false
theorem Tt.le {p:yb}{U:Sg}{C wg:Qf}(l:C.le wg){g:Nat}{c:Eg}(h:Tt p U C g c):Tt p U wg g c :=
 ⟨l.Cd _ _ h.d,h.Ud,fun a b=>⟨(h.fresh a b).1,(h.fresh a b).2.1,(h.fresh a b).2.2.up l⟩,fun a b e f=>by
  obtain ⟨k,k1,i⟩:=h.held a b e f;exact ⟨k,k1,i.up l⟩,fun a b=>by
  obtain ⟨j,m,u,ed,n,o,q⟩:=h.go a b;exact ⟨j,m,u,ed,n,o,q.up l⟩,h.zero⟩
inductive Sl (mc:List Eg):Nat→List Nat→Prop
 | main:Sl mc 0 []
 | up {g u:Nat} {c:Eg} {L:List Nat}:1≤g→mc[g]?=some c→c.going=true→c.up=some u→Sl mc u L→Sl mc g (g::L)
theorem Sl.set {mc:List Eg}{g j:Nat}{L:List Nat}{c:Eg}(h:Sl mc g L) (a:j ∉ L):Sl (mc.set j c) g L:=by
 induction h with
 | main=>exact .main
 | @up g u c' L b d e f _ i =>
  simp only [List.mem_cons,not_or] at a;exact .up b (by rw [List.getElem?_set_ne a.1];exact d) e f (i a.2)
theorem Sl.app {mc m:List Eg}{g:Nat}{L:List Nat}(h:Sl mc g L):Sl (mc++m) g L:=by
 induction h with
 | main=>exact .main
 | up a b c d _ e=>exact .up a (Em b) c d e
theorem Sl.going {mc:List Eg}{g:Nat}{L:List Nat}(h:Sl mc g L):∀ j ∈ L,∃ c,mc[j]?=some c∧c.going=true:=by
 induction h with
 | main=>intro j a; cases a
 | up f b d i _ e =>
  intro j a;rcases List.mem_cons.1 a with rfl | a
  ·exact ⟨_,b,d⟩
  ·exact e j a
structure dj (p:yb) (U:Sg) (C:Qf) (L:List Nat) (z:Core):Prop where
 cd:Ok p C z.xe
 Jp:z.mc.length=C.Cd.length
 Cd:∀ (g:Nat) (c:Eg),z.mc[g]?=some c→Tt p U C g c
 pos:1≤z.mc.length
 le:z.mc.length≤31
 Bs:Sl z.mc z.now L
 nd:L.Nodup
 all:∀ (g:Nat) (c:Eg),z.mc[g]?=some c→c.going=true→g ∈ L
 t0:∀ d,C.Cd[0]?=some d→d.Kind≠3
def ej (p:yb) (U:Sg) (C:Qf) (g:Nat):uh→Prop
 | .expr x s k=>∃ d B t,Bn C g d∧Env C s B∧Qe p d B x t∧Pk U x∧fk p U C g k t
 | .all l s we k=>∃ d B sa,Bn C g d∧Env C s B∧St p U d B l sa we.length∧mr p C sa we∧we.length≤l.length∧As p U C g k sa
 | .stats l s e k=>oj p U C g (.stats l s e k)
 | .cg x s e k=>oj p U C g (.cg x s e k)
 | .tf k v=>∃ t,fk p U C g k t∧Mh p C t v
 | .we k l=>∃ sa,As p U C g k sa∧mr p C sa l∧l.length=sa.length
 | .Rd k=>oj p U C g k
 | .recv n k=>oj p U C g (.recv n k)
 | .send n v k=>oj p U C g (.send n v k)
 | .resume a v k=>∃ f,1≤a∧C.Cd[a]?=some f∧Mh p C (Ge f.se) v∧fk p U C g k (Ge f.ic)
structure Tm (p:yb) (U:Sg) (E:oe):Prop where
 La:∀ n f,ob p.named n=some f→Jm p f
 ch:∀ n f,U.c n→ob p.named n=some f→f.Kind≠1→Fi U f.Body
 ty:∀ n f,ob p.named n=some f→f.Kind≠1→∃ a,rj p f ([if f.Kind=4 then [] else Yq f]++[[]]) f.Body a
 sv:∀ n,ob E.defs n=ob p.named n
 ig:∀ n f,ob p.named n=some f→f.Kind=1→∃ i:Nat,ob E.order n=some (i:Int)
end Go.Y
namespace Go.Y
open Go.hc Go.Mc
mutual
def wh:sf→Nat
 | .all _ _ _ k=>14+nk k
 | .stat _ _ e k=>24+max (Dn e) (Yh k)
 | .cg _ _ e k=>22+max (Dn e) (Yh k)
def nk:Sk→Nat
 | .ex _ k=>8+wh k
def Yh:me→Nat
 | .zero k=>2+wh k
 | .recv _ k=>2+wh k
 | .send _ _ k=>2+Yh k
 | .done _=>2
 | .stats _ _ e k=>5+max (Dn e) (Yh k)
 | .cg _ _ e k=>12+max (Dn e) (Yh k)
 | .fin=>1
 | .zj _=>6
def Dn:Rg→Nat
 | .ret k=>wh k
 | .stop k=>Yh k
end
def nf:uh→Nat
 | .expr _ _ k=>wh k - 12
 | .all _ _ _ k=>3+nk k
 | .stats _ _ e k=>4+max (Dn e) (Yh k)
 | .cg _ _ e k=>11+max (Dn e) (Yh k)
 | .tf k _=>wh k
 | .we k _=>nk k
 | .Rd k=>Yh k
 | .recv _ k=>2+wh k
 | .send _ _ k=>2+Yh k
 | .resume _ _ k=>7+wh k
theorem QC (k:sf):14≤wh k:=by cases k<;>rw [wh]<;>omega
def pk:Sm→Nat
 | .run c=>nf c
 | _=>0
def fj (c:Eg):Nat:=if c.going=true then (c.back.map wh).getD 0 else if c.begun=true∧c.ended=false then (c.dm.map wh).getD 0 else 0
def Zh (z:Core) (q:Sm):Nat:=pk q+(z.mc.map fj).sum
theorem yq {α:Type}(f:α→Nat):∀ {l:List α}{i:Nat}{a b:α},l[i]?=some a→((l.set i b).map f).sum+f a=(l.map f).sum+f b
 | [],i,a,b,h=>by simp at h
 | x::l,0,a,b,h=>by simp at h; subst h; simp; omega
 | x::l,i+1,a,b,h=>by
  have:=yq f (l:=l) (i:=i) (a:=a) (b:=b) (by simpa using h);simp only [List.set_cons_succ,List.map_cons,List.sum_cons];omega
def xm (p:yb) (U:Sg) (E:oe) (C:Qf) (z:Core) (c:uh):Prop :=
 ∃ n a q wg b,Jf E c z n a q∧C.le wg∧(∀ c',q=.run c'→dj p U wg b a∧ej p U wg a.now c')∧Zh a q+1≤Zh z (.run c)+30*n∧n≤1∧a.out.length≤z.out.length+1
section
variable {p:yb}{U:Sg}{E:oe}{C:Qf}{L:List Nat}{z:Core}{c c':uh}{n:Nat}
theorem xm.same (h:dj p U C L z) (t:Jf E c z n z (.run c')) (a:ej p U C z.now c') (hw:nf c'+1≤nf c+30*n) (b:n≤1):xm p U E C z c :=
 ⟨n,z,_,C,L,t,.r,fun d e=>by cases e;exact ⟨h,a⟩,(by unfold Zh;simp only [pk];omega),b,by omega⟩
theorem xm.Le {k:Int}(t:Jf E c z 0 z (.Le k)) (hw:1≤nf c):xm p U E C z c :=
 ⟨0,z,_,C,[],t,.r,fun a e=>(by cases e),(by unfold Zh;simp only [pk];omega),by omega,by omega⟩
theorem Pk.kids {x:Va}(h:Pk U x):∀ y ∈ x.Kids,Pk U y:=by
 obtain ⟨⟨k,h⟩,u⟩:=h;cases u with
 | mk _ _ u =>
 cases k with
 | zero=>exact h.elim
 | succ k=>exact fun y a=>⟨⟨k,h.2.2.2.2.2.2 y a⟩,u y a⟩
theorem Pk.bool {x:Va}(h:Pk U x) (a:x.Kind=2):x.N=0∨x.N=1:=by
 obtain ⟨⟨k,h⟩,u⟩:=h;cases k with
 | zero=>exact h.elim
 | succ k=>exact h.2.2.2.2.1 a
theorem Pk.rr {x:Va}(h:Pk U x) (k:x.Kind=19∨x.Kind=22):U.c x.Name:=by
 cases h.2 with
 | mk a _ _=>exact a k
theorem Pk.iL {x:Va}(h:Pk U x) (k:x.Kind=20):U.r x.Name:=by
 cases h.2 with
 | mk _ a _=>exact a k
theorem Fi.us {x:gb}{l:List gb}(h:Fi U (x::l)) (k:x.Kind=7):U.s x.Name:=by
 cases h.2 x (by simp) with
 | mk a _ _ _=>exact a k
theorem Fi.x {x:gb}{l:List gb}(h:Fi U (x::l)) (b:x.Kind≠6):Pk U x.X:=by
 obtain ⟨⟨k,h⟩,u⟩:=h;have:=h x (by simp);cases u x (by simp) with
 | mk _ a _ _ =>
 cases k with
 | zero=>exact this.elim
 | succ k=>exact ⟨⟨k,this.2.2.1 b⟩,a b⟩
theorem Fi.vf {x:gb}{l:List gb}(h:Fi U (x::l)):Fi U l:=by
 obtain ⟨⟨k,h⟩,u⟩:=h;exact ⟨⟨k,fun y a=>h y (by simp [a])⟩,fun y a=>u y (by simp [a])⟩
theorem Fi.La {x:gb}{l:List gb}(h:Fi U (x::l)):Fi U [x]:=by
 obtain ⟨⟨k,h⟩,u⟩:=h;exact ⟨⟨k,fun y a=>h y (by simp at a;simp [a])⟩,fun y a=>u y (by simp at a;simp [a])⟩
theorem Fi.body {x:gb}{l:List gb}(h:Fi U (x::l)) (b:x.Kind=3∨x.Kind=4):Fi U x.Body:=by
 obtain ⟨⟨k,h⟩,u⟩:=h;have:=h x (by simp);cases u x (by simp) with
 | mk _ _ a _ =>
 cases k with
 | zero=>exact this.elim
 | succ k=>exact ⟨⟨k,(this.2.2.2.2.1 b).2⟩,a b⟩
theorem Fi.bL {x:gb}{l:List gb}(h:Fi U (x::l)) (b:x.Kind=3):Fi U x.Ff:=by
 obtain ⟨⟨k,h⟩,u⟩:=h;have:=h x (by simp);cases u x (by simp) with
 | mk _ _ _ a =>
 cases k with
 | zero=>exact this.elim
 | succ k=>exact ⟨⟨k,(this.2.2.2.2.2 b).2⟩,a b⟩
theorem Zw {d:va}{B:ze}{x a:Va}{t:Ya}(e:Pk U x) (h:x.Kids=[a]) (f:Qe p d B a t):St p U d B x.Kids [t] 0:=by
 rw [h];refine ⟨rfl,by simp,fun i y qc _ b c=>?_⟩
 match i,b,c with
 | 0,b,c=>simp at b c; subst b c; exact ⟨f,e.kids _ (by rw [h]; simp)⟩
 | i+1,b,_=>simp at b
theorem dv {d:va}{B:ze}{x a b:Va}{t qc:Ya}(f:Pk U x) (h:x.Kids=[a,b]) (g:Qe p d B a t) (Ca:Qe p d B b qc):St p U d B x.Kids [t,qc] 0:=by
 rw [h];refine ⟨rfl,by simp,fun i y qc _ c e=>?_⟩
 match i,c,e with
 | 0,c,e=>simp at c e; subst c e; exact ⟨g,f.kids _ (by rw [h]; simp)⟩
 | 1,c,e=>simp at c e; subst c e; exact ⟨Ca,f.kids _ (by rw [h]; simp)⟩
 | i+2,c,_=>simp at c
theorem CD {d f:va}{B:ze}{x:Va}(c:Pk U x) (oa:x.Kids.length=f.Params.length) (g:f.Params.length≤6) (h:∀ (i:Nat) (y:Va) (q:TParam),x.Kids[i]?=some y→f.Params[i]?=some q→Qe p d B y (Ge q.ic)):St p U d B x.Kids (f.Params.map fun q=>Ge q.ic) 0:=by
 refine ⟨by simpa using oa,by omega,fun i y t _ a b=>?_⟩;rw [List.getElem?_map] at b;obtain ⟨q,e,rfl⟩:=Option.map_eq_some_iff.1 b;exact ⟨h i y q a e,c.kids _ (List.mem_of_getElem? a)⟩
theorem gI (P:Tm p U E){d:va}{B:ze}{x:Va}{t:Ya}(h:Qe p d B x t) (c:Pk U x) (g:x.Kind≠1) (i:x.Kind≠2) (j:x.Kind≠3) (l:x.Kind≠20):∃ sa,wm p U d x sa t∧St p U d B x.Kids sa 0:=by
 cases h with
 | num h=>exact absurd h g
 | bool h=>exact absurd h i
 | var h _=>exact absurd h j
 | recv h _ _=>exact absurd h l
 | neg k e a=>exact ⟨_,.neg k,Zw c e a⟩
 | not k e a=>exact ⟨_,.not k,Zw c e a⟩
 | pv k e a b=>exact ⟨_,.pv k,dv c e a b⟩
 | eq k e a b pl=>exact ⟨_,.eq k pl,dv c e a b⟩
 | lt k e a b=>exact ⟨_,.lt k,dv c e a b⟩
 | Wj k e a b=>exact ⟨_,.Wj k,dv c e a b⟩
 | call k Hc Ud len f=>exact ⟨_,.call k (c.rr (.inl k)) Hc Ud,CD c len ((P.La _ _ Hc).pl (.inl Ud)) f⟩
 | jr k Ud e a=>exact ⟨_,.jr k Ud,Zw c e a⟩
 | start k Hc Ud len f=>exact ⟨_,.start k (c.rr (.inr k)) Hc Ud,CD c len ((P.La _ _ Hc).pl (.inr Ud)) f⟩
 | resume k e a Hc Ud b=>exact ⟨_,.resume k Hc Ud,dv c e a b⟩
 | alive k e a Hc Ud=>exact ⟨_,.alive k Hc Ud,Zw c e a⟩
theorem vK {d:va}{B c:ze}{x:gb}{l:List gb}(ch:Fi U (x::l)) (h:zl p d B x c) (f:x.Kind≠4) (g:x.Kind≠6):∃ t,Qe p d B x.X t∧Pp p U d B x t c:=by
 cases h with
 | qo i k e n=>exact ⟨_,e,.qo i k n⟩
 | sset k n e=>exact ⟨_,e,.sset k n⟩
 | kr k e a b=>exact ⟨_,e,.kr k a b⟩
 | Jz k _ _=>exact absurd k f
 | Wq k Ud e=>exact ⟨_,e,.Wq k Ud⟩
 | iz k _=>exact absurd k g
 | Qq k n Ud e=>exact ⟨_,e,.Qq k (ch.us k) n Ud⟩
 | Xq k e pl=>exact ⟨_,e,.Xq k pl⟩
 | lr k e=>exact ⟨_,e,.lr k⟩
theorem YF (P:Tm p U E) (h:dj p U C L z){x:Va}{s:Option Nat}{k:sf}(l:ej p U C z.now (.expr x s k)):xm p U E C z (.expr x s k):=by
 obtain ⟨d,B,t,j,he,ty,ch,a⟩:=l;have hw:=QC k;by_cases f:x.Kind=1
 ·cases ty with
  | num _=>exact .same h (.Lz (.inl f)) ⟨_,a,.num⟩ (by simp only [nf]; omega) (by omega)
  | _=>omega
 by_cases b:x.Kind=2
 ·cases ty with
  | bool _=>exact .same h (.Lz (.inr b)) ⟨_,a,.bool (ch.bool b)⟩ (by simp only [nf]; omega) (by omega)
  | _=>omega
 by_cases g:x.Kind=3
 ·cases ty with
  | var _ m =>
   obtain ⟨i,n⟩:=he.at_ _ _ m;obtain ⟨c,f1,f2,f3,f4,f5⟩:=n.found h.cd;exact .same h (.var g f1 f2) ⟨_,a,f5⟩ (by simp only [nf];omega) (by omega)
  | _=>omega
 by_cases e:x.Kind=20
 ·cases ty with
  | recv _ Hc Ud=>exact .same h (.JD e) ⟨_,ch.iL e,Hc,Ud,a⟩ (by simp only [nf]; omega) (by omega)
  | _=>omega
 obtain ⟨sa,hf,kk⟩:=gI P ty ch f b g e;exact .same h (.KD f b g e) ⟨d,B,sa,j,he,kk,fun i t v _ o=>by simp at o,by simp,d,t,j,hf,a⟩ (by simp only [nf,nk];omega) (by omega)
theorem LG (h:dj p U C L z){l:List Va}{s:Option Nat}{we:List Int}{k:Sk}(m:ej p U C z.now (.all l s we k)):xm p U E C z (.all l s we k):=by
 obtain ⟨d,B,sa,a,he,kk,b,oa,c⟩:=m;by_cases e:l.length=we.length
 ·exact .same h (.xD e) ⟨sa,c,b,by rw [← kk.len,e]⟩ (by simp only [nf];omega) (by omega)
 ·have f:we.length<l.length:=by omega
  have g:l[we.length]?=some l[we.length]:=List.getElem?_eq_getElem f;have n:we.length<sa.length:=by rw [← kk.len];exact f
  have j:sa[we.length]?=some sa[we.length]:=List.getElem?_eq_getElem n;obtain ⟨ty,ch⟩:=kk.at_ _ _ _ (Nat.le_refl _) g j;refine .same h (.wD e g) ⟨d,B,_,a,he,ty,ch,d,B,sa,a,he,⟨kk.len,kk.le,fun i y t hm=>kk.at_ i y t (by omega)⟩,b,j,c⟩ (by simp only [nf,wh];omega) (by omega)
theorem lF (h:dj p U C L z){l:List gb}{s:Option Nat}{e:Rg}{k:me}(j:ej p U C z.now (.stats l s e k)):xm p U E C z (.stats l s e k):=by
 obtain ⟨d,B,i,a,he,vf,ch,hex,f⟩:=j;cases vf with
 | nil=>exact .same h .nil f (by simp only [nf]; omega) (by omega)
 | @cons _ m _ x l ty vf =>
  by_cases b:x.Kind=6
  ·cases ty with
   | iz _ Ud =>
    cases e with
    | ret q=>exact absurd hex.1 Ud
    | stop q=>exact .same h (.stop b) hex.2 (by simp only [nf,Dn]; omega) (by omega)
   | _=>omega
  by_cases c:x.Kind=4
  ·cases ty with
   | Jz _ g Ca=>exact .same h (.ND c) ⟨d,B,_,a,he,c,g,Ca,ch.La,hex,d,B,i,a,he,vf,ch.vf,hex,f⟩ (by simp only [nf,Yh]; omega) (by omega)
   | _=>omega
  obtain ⟨t,g,n⟩:=vK ch ty c b;exact .same h (.st b c) ⟨d,B,t,a,he,g,ch.x b,d,B,m,i,x,l,rfl,a,he,n,vf,ch,hex,f⟩ (by simp only [nf,wh];omega) (by omega)
theorem MG (h:dj p U C L z){x:gb}{s:Option Nat}{e:Rg}{k:me}(c:ej p U C z.now (.cg x s e k)):xm p U E C z (.cg x s e k):=by
 obtain ⟨d,B,f,a,he,g,b,Ca,ch,hex,i⟩:=c;exact .same h .cg ⟨d,B,_,a,he,b,ch.x (by omega),rfl,d,B,f,a,he,g,b,Ca,ch,hex,i⟩ (by simp only [nf,wh];omega) (by omega)
end
end Go.Y
namespace Go.Y
open Go.hc Go.Mc
theorem Ok.snoc {p:yb}{C:Qf}{S:List Jh}(h:Ok p C S){n:Ie}{s:Option Nat}{t:Ya}{v:Int}(b:∀ j,s=some j→j<C.pf.length) (d:Mh p C t v):Ok p ⟨C.Cd,C.pf++[(n,s,t)]⟩ (S++[⟨n,v,s⟩]):=by
 have l:C.le ⟨C.Cd,C.pf++[(n,s,t)]⟩:=⟨fun _ _ h=>h,fun _ _ h=>Em h⟩;refine ⟨by simp [h.len],fun i c a=>?_⟩;by_cases f:i<S.length
 ·rw [List.getElem?_append_left f] at a;obtain ⟨qc,g,k,m⟩:=h.at_ i c a;exact ⟨qc,l.pf _ _ g,k,m.up l⟩
 ·rw [List.getElem?_append_right (by omega)] at a;have o:i=S.length:=by
   have:=(List.getElem?_eq_some_iff.1 a).1;simp at this;omega
  subst o;simp at a;subst a;exact ⟨t,by simp [h.len],fun j e=>by rw [h.len];exact b j e,d.up l⟩
theorem Ok.set {p:yb}{C:Qf}{S:List Jh}(h:Ok p C S){i:Nat}{c:Jh}(b:S[i]?=some c){t:Ya}(d:C.pf[i]?=some (c.name,c.up,t)){v:Int}(g:Mh p C t v):Ok p C (S.set i { c with v:=v }):=by
 refine ⟨by simp [h.len],fun j c' a=>?_⟩;by_cases e:i=j
 ·subst e;rw [Ar b] at a;cases a;obtain ⟨qc,f,k,-⟩:=h.at_ _ _ b;rw [d] at f;cases f;exact ⟨t,d,k,g⟩
 ·rw [ft e] at a;exact h.at_ _ _ a
theorem dy (B:ze) (b:List (Nm×Ya)) (n:Nm):cj (B++[b]) n=match ob b n with | some t=>some t | none=>cj B n:=by
 unfold cj;rw [List.reverse_append,List.reverse_singleton,List.singleton_append,List.findSome?_cons];cases ob b n<;>rfl
theorem hI {B:ze}(h:B.length - 1<B.length) (n m:Nm) (t:Ya):cj (B.set (B.length - 1) (Nd B[B.length - 1] n t)) m=if n=m then some t else cj B m:=by
 rcases List.eq_nil_or_concat B with rfl | ⟨a,b,rfl⟩
 ·simp at h
 have ia:((a.concat b)[(a.concat b).length - 1])=b:=by simp [List.concat_eq_append]
 have c:(a.concat b).set ((a.concat b).length - 1) (Nd b n t)=a++[Nd b n t]:=by
  rw [List.concat_eq_append,List.length_append,List.length_singleton,Nat.add_sub_cancel,List.set_append_right _ _ (Nat.le_refl _),Nat.sub_self];rfl
 rw [ia,c,List.concat_eq_append,dy,dy,tj];by_cases e:n=m
 ·rw [if_pos e,if_pos e]
 ·rw [if_neg e,if_neg e]
theorem Env.qo {C:Qf}{s:Option Nat}{B:ze}{n:Ie}{t:Ya}(h:B.length - 1<B.length) (he:Env C s B):Env ⟨C.Cd,C.pf++[(n,s,t)]⟩ (some C.pf.length) (B.set (B.length - 1) (Nd B[B.length - 1] n t)):=by
 refine ⟨fun j e=>(by cases e;simp),fun m qc e=>?_⟩;rw [hI] at e;have a:(C.pf++[(n,s,t)])[C.pf.length]?=some (n,s,t):=by simp
 by_cases c:n=m
 ·rw [if_pos c] at e;cases e;subst c;exact ⟨_,.here a⟩
 ·rw [if_neg c] at e;obtain ⟨i,b⟩:=he.at_ _ _ e;exact ⟨i,.up a c (b.mono fun _ _ h=>Em h)⟩
theorem wB {p:yb}:∀ (Eh:List TParam) (vs:List Int) (C:Qf) (S:List Jh) (s:Option Nat) (m:List (Nm×Ya)),Ok p C S→vs.length=Eh.length →
  mr p C (Eh.map fun q=>Ge q.ic) vs→(∀ n t,ob m n=some t→∃ i,Al C.pf n s i t)→(∀ j,s=some j→j<C.pf.length) →
  ∃ f d b,Ak Eh vs S s=some (f,d)∧Ok p ⟨C.Cd,C.pf++b⟩ f∧(∀ n t,ob (Eh.foldl (fun m q=>Nd m q.Name (Ge q.ic)) m) n=some t→∃ i,Al (C.pf++b) n d i t)∧∀ j,d=some j→j<(C.pf++b).length
 | [],vs,C,S,s,m,a,oa,g,hm,k=>⟨S,s,[],by rw [Ak],by simpa using a,by simpa using hm,by simpa using k⟩
 | q::Eh,[],C,S,s,m,a,oa,g,hm,k=>by simp at oa
 | q::Eh,v::vs,C,S,s,m,a,oa,g,hm,k=>by
  have l:C.le ⟨C.Cd,C.pf++[(q.Name,s,Ge q.ic)]⟩:=⟨fun _ _ h=>h,fun _ _ h=>Em h⟩;have u:(C.pf++[(q.Name,s,Ge q.ic)])[C.pf.length]?=some (q.Name,s,Ge q.ic):=by simp
  obtain ⟨f,d,b,o,r,x,y⟩:=wB Eh vs ⟨C.Cd,C.pf++[(q.Name,s,Ge q.ic)]⟩ (S++[⟨q.Name,v,s⟩]) (some S.length) (Nd m q.Name (Ge q.ic)) (a.snoc k (g 0 _ v rfl rfl)) (by simpa using oa) (fun i t w o r=>(g (i+1) t w (by simpa using o) (by simpa using r)).up l) (fun n t e=>by
   rw [tj] at e;rw [a.len];by_cases c:q.Name=n
   ·rw [if_pos c] at e;cases e;subst c;exact ⟨_,.here u⟩
   ·rw [if_neg c] at e;obtain ⟨i,z⟩:=hm n t e;exact ⟨i,.up u c (z.mono fun _ _ h=>Em h)⟩) (fun j e=>by cases e;simp [a.len])
  refine ⟨f,d,(q.Name,s,Ge q.ic)::b,by rw [Ak];exact o,by simpa using r,by simpa using x,by simpa using y⟩
theorem iI (m:List (Nm×Ya)) (n:Nm):cj [m] n=ob m n:=by
 have:=dy [] m n;rw [List.nil_append] at this;rw [this];cases ob m n<;>rfl
theorem YA {p:yb}{C:Qf}{S:List Jh}{d:va}{vs:List Int}(f:Ok p C S) (oa:vs.length=d.Params.length) (g:mr p C (d.Params.map fun q=>Ge q.ic) vs) :
  ∃ a c b,Ak d.Params vs S none=some (a,c)∧Ok p ⟨C.Cd,C.pf++b⟩ a∧Env ⟨C.Cd,C.pf++b⟩ c [Yq d]:=by
 obtain ⟨a,c,b,h,i,k,l⟩:=wB d.Params vs C S none [] f oa g (fun n t e=>by cases e) (fun j e=>by cases e);exact ⟨a,c,b,h,i,l,fun n t e=>k n t (by rwa [iI] at e)⟩
section
variable {p:yb}{U:Sg}{E:oe}{C:Qf}{L:List Nat}{z:Core}{c c':uh}{n:Nat}
def tv (z:Core) (c:uh):Prop:=∀ (x:gb) (l:List gb) (s:Option Nat) (e:Rg) (k:me) (v:Int),c=.tf (.stat (x::l) s e k) v→x.Kind=8→z.out.length<4294967296
theorem dj.xe {wg:Qf}(h:dj p U C L z) (l:C.le wg) (e:wg.Cd=C.Cd){S:List Jh}(a:Ok p wg S){o:List Int}:dj p U wg L { z with xe:=S,out:=o }:=
 ⟨a,by rw [e];exact h.Jp,fun g c b=>(h.Cd g c b).le l,h.pos,h.le,h.Bs,h.nd,h.all,by rw [e];exact h.t0⟩
theorem NG (P:Tm p U E) (h:dj p U C L z){k:sf}{v:Int}(H:tv z (.tf k v)) (K:ej p U C z.now (.tf k v)):xm p U E C z (.tf k v):=by
 obtain ⟨t,a,j⟩:=K;cases k with
 | all l s we k =>
  obtain ⟨d,B,sa,b,he,kk,M,y,a⟩:=a;have N:=(List.getElem?_eq_some_iff.1 y).1;rw [← kk.len] at N;have:=kk.le;refine .same h (.yD (if_pos (by simp;omega))) ⟨d,B,sa,b,he,by simpa using kk,fun i qc O o f=>?_,by simp;omega,a⟩ (by simp only [nf,wh];omega) (by omega);by_cases Q:i<we.length
  ·rw [List.getElem?_append_left Q] at f;exact M i qc O o f
  ·rw [List.getElem?_append_right (by omega)] at f;have R:i=we.length:=by have:=(List.getElem?_eq_some_iff.1 f).1;simp at this;omega
   subst R;simp at f;subst f;rw [y] at o;cases o;exact j
 | cg x s e k =>
  obtain ⟨rfl,d,B,u,b,he,A,S,Ca,ch,hex,a⟩:=a;by_cases m:v=0
  ·exact .same h (.zD m) a (by simp only [nf,wh];omega) (by omega)
  ·exact .same h (.win m) ⟨d,_,u,b,he.ba,Ca,ch.body (.inr A),hex,d,B,u,b,he,A,S,Ca,ch,hex,a⟩ (by simp only [nf,wh,Yh];omega) (by omega)
 | stat l s e k =>
  obtain ⟨d,B,u,g,x,r,rfl,b,he,T,vf,ch,hex,a⟩:=a;cases T with
  | qo V k1 D =>
   have l:C.le ⟨C.Cd,C.pf++[(x.Name,s,t)]⟩:=⟨fun _ _ h=>h,fun _ _ h=>Em h⟩;refine ⟨0,_,_,_,L,.qo k1,l,fun c' n=>?_,by unfold Zh;simp only [pk,nf,wh,Yh];omega,by omega,by simp⟩;cases n;refine ⟨h.xe l rfl (h.cd.snoc he.ok j),d,_,g,b.up l,?_,vf,ch.vf,hex.up l,a.up l⟩;rw [h.cd.len];exact he.qo V
  | sset W D =>
   obtain ⟨i,X⟩:=he.at_ _ _ D;obtain ⟨c,f1,f2,f3,f4,f5⟩:=X.found h.cd;refine ⟨0,_,_,C,L,.sset W f1 f2,.r,fun c' n=>?_,by unfold Zh;simp only [pk,nf,wh,Yh];omega,by omega,by simp⟩;cases n;exact ⟨h.xe .r rfl (h.cd.set f2 (by rw [f3];exact f4) (Mh.bare.1 j)),d,B,g,b,he,vf,ch.vf,hex,a⟩
  | kr w Y Ca =>
   have F:oj p U C z.now (.stats r s e k):=⟨d,B,g,b,he,vf,ch.vf,hex,a⟩;refine .same h (.kr w) ?_ (by simp only [nf,wh,Yh];omega) (by omega);by_cases m:v≠0
   ·rw [if_pos m];exact ⟨d,_,_,b,he.ba,Y,ch.body (.inl w),hex,F⟩
   ·rw [if_neg m];exact ⟨d,_,_,b,he.ba,Ca,ch.bL w,hex,F⟩
  | Wq Z Ud =>
   cases e with
   | ret q=>exact .same h (.Wq Z) ⟨_,hex.2,j⟩ (by simp only [nf,wh,Dn]; omega) (by omega)
   | stop q=>exact absurd Ud hex.1
  | Qq bb us Hc Ud=>exact .same h (.Qq bb) ⟨_,us,Hc,Ud,j,d,B,g,b,he,vf,ch.vf,hex,a⟩ (by simp only [nf,wh,Yh]; omega) (by omega)
  | Xq G pl =>
   refine ⟨0,_,_,C,L,.Xq G (if_pos (by have:=H x r s e k v rfl G;simp;omega)),.r,fun c' n=>?_,by unfold Zh;simp only [pk,nf,wh,Yh];omega,by omega,by simp⟩;cases n;exact ⟨h.xe .r rfl h.cd,d,B,g,b,he,vf,ch.vf,hex,a⟩
  | lr Gb=>exact .same h (.lr (by omega) (by omega) (by omega) (by omega) (by omega) (by omega)) ⟨d,B,g,b,he,vf,ch.vf,hex,a⟩ (by simp only [nf,wh,Yh]; omega) (by omega)
end
end Go.Y
namespace Go.Y
open Go.hc Go.Mc
section
variable {p:yb}{U:Sg}{E:oe}{C:Qf}{L:List Nat}{z:Core}{c c':uh}{n:Nat}
theorem ax {l:List Int}(h:l.length=1):∃ a,l=[a]:=by
 match l,h with
 | [a],_=>exact ⟨a,rfl⟩
theorem ev {l:List Int}(h:l.length=2):∃ a b,l=[a,b]:=by
 match l,h with
 | [a,b],_=>exact ⟨a,b,rfl⟩
theorem Rv {k a b:Int}(h:k=9∨k=10→b≠0):∃ v,fm k a b=some v:=by
 unfold fm;by_cases e:k=6
 ·exact ⟨_,if_pos e⟩
 rw [if_neg e];by_cases f:k=7
 ·exact ⟨_,if_pos f⟩
 rw [if_neg f];by_cases g:k=8
 ·exact ⟨_,if_pos g⟩
 rw [if_neg g];by_cases c:k=9
 ·rw [if_pos c];split
  ·exact ⟨_,rfl⟩
  ·exact ⟨_,by unfold quo;rw [if_neg (h (.inl c))]⟩
 rw [if_neg c];by_cases d:k=10
 ·rw [if_pos d];split
  ·exact ⟨_,rfl⟩
  ·exact ⟨_,by unfold Gt;rw [if_neg (h (.inr d))]⟩
 rw [if_neg d];repeat' split
 all_goals exact ⟨_,rfl⟩
theorem uA {k a b v:Int}(h:fm k a b=some v) (i:11≤k∧k≤16):v=0∨v=1:=by
 have T:∀ b:Bool,lj b=0∨lj b=1:=fun b=>by cases b<;>simp [lj]
 unfold fm at h;rw [if_neg (by omega),if_neg (by omega),if_neg (by omega),if_neg (by omega),if_neg (by omega)] at h;by_cases c:k=11
 ·rw [if_pos c] at h;cases h;exact T _
 rw [if_neg c] at h;by_cases d:k=12
 ·rw [if_pos d] at h;cases h;exact T _
 rw [if_neg d] at h;by_cases e:k=13
 ·rw [if_pos e] at h;cases h;exact T _
 rw [if_neg e] at h;by_cases f:k=14
 ·rw [if_pos f] at h;cases h;exact T _
 rw [if_neg f] at h;by_cases g:k=15
 ·rw [if_pos g] at h;cases h;exact T _
 rw [if_neg g,if_pos (by omega)] at h;cases h;exact T _
theorem OG {k a b v:Int}(h:fm k a b=some v) (c:17≤k∧k≤18) (d:a=0∨a=1) (e:b=0∨b=1):v=0∨v=1:=by
 unfold fm at h;rw [if_neg (by omega),if_neg (by omega),if_neg (by omega),if_neg (by omega),if_neg (by omega),if_neg (by omega),if_neg (by omega),if_neg (by omega),if_neg (by omega),if_neg (by omega),if_neg (by omega)] at h;split at h<;>cases h<;>omega
theorem dj.Kw (h:dj p U C L z){g:Nat}{f:va}(a:C.Cd[g]?=some f):∃ c,z.mc[g]?=some c∧Tt p U C g c∧c.jm=f:=by
 have oa:=(List.getElem?_eq_some_iff.1 a).1;rw [← h.Jp] at oa;have b:z.mc[g]?=some z.mc[g]:=List.getElem?_eq_getElem oa;have e:=h.Cd _ _ b;exact ⟨_,b,e,by have:=e.d;rw [a] at this;exact (Option.some.inj this).symm⟩
theorem dj.put (h:dj p U C L z){g d:Nat}{c bc:Eg}{a:List Nat}(f:z.mc[g]?=some c) (i:Tt p U C g bc) (k:Sl (z.mc.set g bc) d a) (l:a.Nodup) (m:∀ (j:Nat) (c:Eg),(z.mc.set g bc)[j]?=some c→c.going=true→j ∈ a):dj p U C a { z with mc:=z.mc.set g bc,now:=d }:=
 ⟨h.cd,by simp [h.Jp],fun j c2 b=>by
  by_cases e:g=j
  ·subst e;rw [Ar f] at b;cases b;exact i
  ·rw [ft e] at b;exact h.Cd _ _ b,by simp [h.pos],by simp [h.le],k,l,m,h.t0⟩
theorem dj.top (h:dj p U C L z){f:va}(o:C.Cd[z.now]?=some f) (d:1≤z.now):∃ c u b a,z.mc[z.now]?=some c∧c.jm=f∧c.going=true∧c.begun=true∧c.up=some u∧c.back=some b∧fk p U C u b (Ge f.ic)∧f.Kind=3∧(∃ n,ob p.named n=some f∧U.c n)∧L=z.now::a∧Sl z.mc u a∧z.now ∉ a∧a.Nodup:=by
 obtain ⟨c,g,e,rfl⟩:=h.Kw o;have i:=h.Bs;generalize hw:z.now=w at i d g e;cases i with
 | main=>omega
 | @up _ u c' a k1 j k Xe q =>
  rw [g] at j;cases j;obtain ⟨r,v,x,b,l,s,t⟩:=e.go d k;rw [Xe] at l;cases l;have m:=List.nodup_cons.1 h.nd;exact ⟨c,u,b,a,by rw [g],rfl,k,r,Xe,s,t,(e.Ud d).1,(e.Ud d).2,rfl,q,m.1,m.2⟩
theorem PG (P:Tm p U E) (h:dj p U C L z){k:Sk}{l:List Int}(m:ej p U C z.now (.we k l)):xm p U E C z (.we k l):=by
 obtain ⟨sa,n,s,oa⟩:=m;cases k with
 | ex x k =>
 obtain ⟨d,t,F,hf,n⟩:=n;cases hf with
 | neg Xe =>
  obtain ⟨a,rfl⟩:=ax oa;exact .same h (.neg Xe rfl) ⟨_,n,.num⟩ (by simp only [nf,nk];omega) (by omega)
 | not W =>
  obtain ⟨a,rfl⟩:=ax oa;have G:=(s 0 _ a rfl rfl).1 rfl;exact .same h (.not W rfl) ⟨_,n,.bool (by rcases G with rfl | rfl<;>simp [ml,IntKind.wrap]<;>decide)⟩ (by simp only [nf,nk];omega) (by omega)
 | pv Sz =>
  obtain ⟨a,b,rfl⟩:=ev oa;by_cases y:(x.Kind=9∨x.Kind=10)∧b=0
  ·obtain ⟨y,rfl⟩:=y;exact .Le (.AD y rfl) (by simp only [nf,nk];omega)
  ·obtain ⟨v,o⟩:=Rv (k:=x.Kind) (a:=a) (b:=b) fun q e=>y ⟨q,e⟩;exact .same h (.two (by omega) (fun q e=>y ⟨q,e⟩) rfl rfl o) ⟨_,n,.num⟩ (by simp only [nf,nk];omega) (by omega)
 | eq H pl =>
  obtain ⟨a,b,rfl⟩:=ev oa;obtain ⟨v,o⟩:=Rv (k:=x.Kind) (a:=a) (b:=b) (by omega);exact .same h (.two (by omega) (by omega) rfl rfl o) ⟨_,n,.bool (uA o (by omega))⟩ (by simp only [nf,nk];omega) (by omega)
 | lt H =>
  obtain ⟨a,b,rfl⟩:=ev oa;obtain ⟨v,o⟩:=Rv (k:=x.Kind) (a:=a) (b:=b) (by omega);exact .same h (.two (by omega) (by omega) rfl rfl o) ⟨_,n,.bool (uA o (by omega))⟩ (by simp only [nf,nk];omega) (by omega)
 | Wj H =>
  obtain ⟨a,b,rfl⟩:=ev oa;obtain ⟨v,o⟩:=Rv (k:=x.Kind) (a:=a) (b:=b) (by omega);have G:=(s 0 _ a rfl rfl).1 rfl;have X:=(s 1 _ b rfl rfl).1 rfl;exact .same h (.two (by omega) (by omega) rfl rfl o) ⟨_,n,.bool (OG o H G X)⟩ (by simp only [nf,nk];omega) (by omega)
 | @call f Y rr Hc Ud =>
  obtain ⟨Z,bb,b,g1,g2,g3⟩:=YA h.cd (d:=f) (by simpa using oa) s;have l:C.le ⟨C.Cd,C.pf++b⟩:=⟨fun _ _ h=>h,fun _ _ h=>Em h⟩;obtain ⟨Gb,vf⟩:=P.ty _ _ Hc (by omega);rw [if_neg (by omega)] at vf;refine ⟨0,_,_,_,L,.call Y (by rw [P.sv];exact Hc) g1,l,fun c' A=>?_,by unfold Zh;simp only [pk,nf,nk,Dn,Yh];omega,by omega,by simp⟩;cases A;have N:=n.up l;exact ⟨h.xe l rfl g2,f,_,Gb,fun ge=>by omega,g3.ba,vf,P.ch _ _ rr Hc (by omega),⟨Ud,N⟩,_,by rw [Vl];exact (P.La _ _ Hc).ty (by omega),N⟩
 | jr gc Ud =>
  obtain ⟨a,rfl⟩:=ax oa;have O:1≤z.now:=Nat.one_le_iff_ne_zero.2 fun e=>h.t0 d (by rw [← e];exact F Ud) Ud;obtain ⟨c,u,b,lc,w,rfl,Q,R,rc,S,fd,id,md,rfl,wa,rd,wd⟩:=h.top (F Ud) O;refine ⟨0,_,_,C,lc,.jr gc rfl w rc S,.r,fun c' A=>?_,?_,by omega,by simp⟩
  ·cases A;refine ⟨h.put w ⟨F Ud,fun _=>⟨id,md⟩,fun _ e=>?_,fun _ _ _ _=>⟨k,rfl,n⟩,fun _ e=>?_,fun e=>by omega⟩ (wa.set rd) wd fun j c2 m B=>?_,_,fd,s 0 _ a rfl rfl⟩
   ·exact absurd (e:c.begun=false) (by rw [R];simp)
   ·cases e
   ·by_cases e:z.now=j
    ·subst e;rw [Ar w] at m;cases m;cases B
    ·rw [ft e] at m;rcases List.mem_cons.1 (h.all _ _ m B) with rfl | q
     ·exact absurd rfl e
     ·exact q
  ·have ne:=yq fj (b:={ c with dm:=some k,going:=false }) w;have he:c.ended=false:=by
    obtain ⟨c2,k1,D,-⟩:=h.Kw (F Ud);rw [w] at k1;cases k1;exact (D.go O Q).2.1
   have Ne:fj c=wh b:=by simp [fj,Q,S]
   have of:fj { c with dm:=some k,going:=false }=wh k:=by simp [fj,R,he]
   unfold Zh;simp only [pk,nf,nk];omega
 | @start f T rr Hc Ud =>
  by_cases hm:(z.mc.length:Int) - 1=30
  ·exact .Le (.many T hm) (by simp only [nf,nk];omega)
  ·obtain ⟨Z,bb,b,g1,g2,g3⟩:=YA h.cd (d:=f) (by simpa using oa) s;have wf:C.le ⟨C.Cd,C.pf++b⟩:=⟨fun _ _ h=>h,fun _ _ h=>Em h⟩;have l:C.le ⟨C.Cd++[f],C.pf++b⟩:=.app;have V:Qf.le ⟨C.Cd,C.pf++b⟩ ⟨C.Cd++[f],C.pf++b⟩:=⟨fun _ _ h=>Em h,fun _ _ h=>h⟩;have If:=h.pos;have hle:=h.le;refine ⟨0,_,_,_,L,.start T hm (by rw [P.sv];exact Hc) g1,l,fun c' A=>?_,by unfold Zh;simp [pk,nf,nk,fj];omega,by omega,by simp⟩;cases A;refine ⟨⟨?_,by simp [h.Jp],fun g c m=>?_,by simp,by simp;omega,h.Bs.app,h.nd,fun g c m B=>?_,fun d La=>?_⟩,_,n.up l,fun e=>by simp at e,fun _=>⟨z.mc.length - 1,f,by omega,?_,Hc⟩⟩
   ·exact ⟨g2.len,fun i c m=>by
     obtain ⟨t,na,a2,a3⟩:=g2.at_ i c m;exact ⟨t,na,a2,a3.up V⟩⟩
   ·by_cases K:g<z.mc.length
    ·rw [List.getElem?_append_left K] at m;exact (h.Cd _ _ m).le l
    ·rw [List.getElem?_append_right (by omega)] at m;have M:g=z.mc.length:=by have:=(List.getElem?_eq_some_iff.1 m).1;simp at this;omega
     subst M;simp at m;subst m;exact ⟨by simp [h.Jp],fun _=>⟨Ud,_,Hc,rr⟩,fun _ _=>⟨rfl,rfl,g3.up V⟩,fun _ e=>(by cases e),fun _ e=>(by cases e),fun e=>by omega⟩
   ·by_cases K:g<z.mc.length
    ·rw [List.getElem?_append_left K] at m;exact h.all _ _ m B
    ·rw [List.getElem?_append_right (by omega)] at m;have M:g=z.mc.length:=by have:=(List.getElem?_eq_some_iff.1 m).1;simp at this;omega
     subst M;simp at m;subst m;cases B
   ·refine h.t0 d ?_;have:0<C.Cd.length:=by rw [← h.Jp];omega
    rwa [List.getElem?_append_left this] at La
   ·show (C.Cd++[f])[z.mc.length - 1+1]?=some f;rw [show z.mc.length - 1+1=C.Cd.length by rw [← h.Jp];omega];simp
 | @resume g f Fd Hc Ud =>
  obtain ⟨a,b,rfl⟩:=ev oa;obtain ⟨j,Id,rfl,k1,D⟩:=(s 0 _ a rfl rfl).2 rfl;rw [show ob p.named (Ya.mk 3 g).Gc=_ from Hc] at D;cases D;have be:=(List.getElem?_eq_some_iff.1 k1).1;rw [← h.Jp] at be;refine .same h (.res Fd rfl rfl (by omega)) ⟨f,by omega,by simpa using k1,s 1 _ b rfl rfl,n⟩ (by simp only [nf,nk];omega) (by omega)
 | @alive g f ce Hc Ud =>
  obtain ⟨a,rfl⟩:=ax oa;obtain ⟨j,Id,rfl,k1,D⟩:=(s 0 _ a rfl rfl).2 rfl;obtain ⟨c,w,-,-⟩:=h.Kw k1;exact .same h (.alive ce rfl (by omega) (by simpa using w)) ⟨_,n,.uK⟩ (by simp only [nf,nk];omega) (by omega)
theorem QG (P:Tm p U E) (h:dj p U C L z){k:me}(o:¬ Comm (.Rd k)) (a:ej p U C z.now (.Rd k)):xm p U E C z (.Rd k):=by
 cases k with
 | zero k =>
  obtain ⟨t,t3,H⟩:=a;exact .same h .zero ⟨t,H,.plain (fun _=>.inl rfl) t3⟩ (by simp only [nf,Yh];omega) (by omega)
 | recv n k=>exact absurd trivial o
 | send n v k=>exact absurd trivial o
 | done g =>
  obtain ⟨rfl,y⟩:=a;have oa:z.now<z.mc.length:=by
   have:=h.Bs;generalize z.now=w at this y;cases this with
   | main=>omega
   | up _ K _ _ _=>exact (List.getElem?_eq_some_iff.1 K).1
  obtain ⟨f,A⟩:∃ f,C.Cd[z.now]?=some f:=⟨_,List.getElem?_eq_getElem (by rw [← h.Jp];exact oa)⟩;obtain ⟨c,u,b,M,i,rfl,N,O,Q,B,R,S,⟨n,D,T⟩,rfl,wa,V,W⟩:=h.top A y;refine ⟨0,_,_,C,M,.done i Q B,.r,fun c' m=>?_,?_,by omega,by simp⟩
  ·cases m;refine ⟨h.put i ⟨A,fun _=>⟨S,n,D,T⟩,fun _ e=>?_,fun _ _ _ e=>(by cases e),fun _ e=>(by cases e),fun e=>by omega⟩ (wa.set V) W fun j c2 a F=>?_,_,R,.plain (fun _=>.inl rfl) ?_⟩
   ·exact absurd (e:c.begun=false) (by rw [O];simp)
   ·by_cases e:z.now=j
    ·subst e;rw [Ar i] at a;cases a;cases F
    ·rw [ft e] at a;rcases List.mem_cons.1 (h.all _ _ a F) with rfl | q
     ·exact absurd rfl e
     ·exact q
   ·rw [Vl];exact (P.La _ _ D).ty (by omega)
  ·have Y:=yq fj (b:={ c with ended:=true,going:=false }) i;have Z:fj c=wh b:=by simp [fj,N,B]
   have bb:fj { c with ended:=true,going:=false }=0:=by simp [fj]
   unfold Zh;simp only [pk,nf,Yh];omega
 | stats l s e k=>exact .same h .stats a (by simp only [nf,Yh]; omega) (by omega)
 | cg x s e k=>exact .same h .BD a (by simp only [nf,Yh]; omega) (by omega)
 | fin=>exact ⟨0,z,_,C,[],.fin,.r,fun c' m=>(by cases m),by unfold Zh; simp only [pk,nf,Yh]; omega,by omega,by omega⟩
 | zj d =>
  obtain ⟨G,Xe,ch,X,vf⟩:=a;exact .same h .zj ⟨d,_,X,fun e=>(by omega),.nil,vf,ch,⟨by omega,G⟩,G⟩ (by simp only [nf,Yh,Dn];omega) (by omega)
theorem HE (P:Tm p U E) (h:dj p U C L z){g:Nat}{v:Int}{k:sf}(l:ej p U C z.now (.resume g v k)):xm p U E C z (.resume g v k):=by
 obtain ⟨f,g1,m,D,x⟩:=l;obtain ⟨c,a,i,rfl⟩:=h.Kw m;have hw:=QC k;by_cases he:c.ended=true
 ·exact .Le (.gone a he) (by simp only [nf];omega)
 by_cases q:c.going=true∨g=z.now
 ·exact .Le (.busy a he q) (by simp only [nf];omega)
 have s:c.ended=false:=by simpa using he
 have t:c.going=false:=by
  cases e:c.going with
  | false=>rfl
  | true=>exact absurd (.inl e) q
 have u:g ∉ L:=fun hm=>by
  obtain ⟨c2,na,a2⟩:=h.Bs.going _ hm;rw [a] at na;cases na;rw [t] at a2;cases a2
 have y:∀ (bc:Eg) (j:Nat) (c2:Eg),(z.mc.set g bc)[j]?=some c2→c2.going=true→j ∈ g::L:=fun bc j c2 l F=>by
  by_cases e:g=j
  ·subst e;simp
  ·rw [ft e] at l;exact List.mem_cons_of_mem _ (h.all _ _ l F)
 by_cases d:c.begun=true
 ·obtain ⟨o,A,Ag⟩:=i.held g1 d t s;refine ⟨0,_,_,C,g::L,.on a he q d A,.r,fun c' w=>?_,?_,by omega,by simp⟩
  ·cases w;exact ⟨h.put a ⟨m,i.Ud,fun _ e=>absurd (e:c.begun=false) (by rw [d];simp),fun _ _ e=>(by cases e),fun _ _=>⟨d,s,_,_,rfl,rfl,x⟩,fun e=>by omega⟩ (.up g1 (Ar a) rfl rfl (h.Bs.set u)) (List.nodup_cons.2 ⟨u,h.nd⟩) (y _),_,Ag,D⟩
  ·have G:=yq fj (b:={ c with going:=true,up:=some z.now,back:=some k }) a;have H:fj c=wh o:=by simp [fj,t,d,s,A]
   have K:fj { c with going:=true,up:=some z.now,back:=some k }=wh k:=by simp [fj]
   unfold Zh;simp only [pk,nf];omega
 ·have B:c.begun=false:=by simpa using d
  obtain ⟨-,-,M⟩:=i.fresh g1 B;obtain ⟨O,n,Hc,rr⟩:=i.Ud g1;obtain ⟨N,vf⟩:=P.ty _ _ Hc (by omega);rw [if_neg (by omega)] at vf;refine ⟨0,_,_,C,g::L,.first a he q d,.r,fun c' w=>?_,?_,by omega,by simp⟩
  ·cases w;exact ⟨h.put a ⟨m,i.Ud,fun _ e=>(by cases e),fun _ _ e=>(by cases e),fun _ _=>⟨rfl,s,_,_,rfl,rfl,x⟩,fun e=>by omega⟩ (.up g1 (Ar a) rfl rfl (h.Bs.set u)) (List.nodup_cons.2 ⟨u,h.nd⟩) (y _),c.jm,_,N,fun _=>m,M.ba,vf,P.ch _ _ rr Hc (by omega),⟨by omega,rfl,g1⟩,rfl,g1⟩
  ·have G:=yq fj (b:={ c with going:=true,up:=some z.now,back:=some k,begun:=true }) a;have H:fj c=0:=by simp [fj,t,B]
   have K:fj { c with going:=true,up:=some z.now,back:=some k,begun:=true }=wh k:=by simp [fj]
   unfold Zh;simp only [pk,nf,Dn,Yh];omega
theorem safe (P:Tm p U E) (h:dj p U C L z) (b:¬ Comm c) (d:tv z c) (a:ej p U C z.now c):xm p U E C z c:=by
 cases c with
 | expr=>exact YF P h a
 | all=>exact LG h a
 | stats=>exact lF h a
 | cg=>exact MG h a
 | tf=>exact NG P h d a
 | we=>exact PG P h a
 | Rd=>exact QG P h b a
 | recv=>exact absurd trivial b
 | send=>exact absurd trivial b
 | resume=>exact HE P h a
end
end Go.Y
namespace Go.Y
open Go.hc Go.Mc
abbrev Bg:=Core×Sm
def br:Sm→Sm
 | .run c=>.run (Sf c)
 | q=>q
def Core.Cs (z:Core):Gd:=⟨z.xe,z.mc,z.now,none,1,0,0,z.out⟩
def cr:Option nj→Dp Bg
 | some (.call c z)=>.Kj z.nodes.toNat (z.t.core,.run (Sf c))
 | some (.ret (some k) z)=>.Kj z.nodes.toNat (z.t.core,.run (Sf (.Rd k)))
 | some (.ret none z)=>.Kj z.nodes.toNat (z.t.core,if z.t.state=4 then .done else .Le z.t.Le)
 | _=>.halt
def gi (E:oe) (z:Core):uh→Dp Bg
 | .recv n k=>match ob E.order n with | some i=>.recv i.toNat 0 (fun v=>(z,.run (.tf k v))) | none=>.halt
 | .send n v k=>match ob E.order n with | some i=>.send i.toNat v 0 (z,.run (Sf (.Rd k))) | none=>.halt
 | c=>cr (ae E c ⟨z.Cs,[],0⟩)
def lg (E:oe) (x:Bg):Dp Bg:=match x.2 with
 | .run c=>gi E x.1 (Sf c)
 | _=>.halt
theorem ZA (c:uh):Sf (Sf c)=Sf c:=by
 cases c with
 | Rd k=>cases k <;> rfl
 | _=>rfl
theorem iC {c:uh}(h:¬ Comm c):Sf c=c:=by
 cases c with
 | Rd k=>cases k with
  | recv=>exact absurd trivial h
  | send=>exact absurd trivial h
  | _=>rfl
 | _=>rfl
theorem ZF {c:uh}:Comm (Sf c) ↔ Comm c:=by
 cases c with
 | Rd k=>cases k <;> exact Iff.rfl
 | _=>exact Iff.rfl
theorem jC {E:oe}{z:Core}{c:uh}(h:¬ Comm c):gi E z c=cr (ae E c ⟨z.Cs,[],0⟩):=by
 cases c with
 | recv=>exact absurd trivial h
 | send=>exact absurd trivial h
 | _=>rfl
theorem Jf.act {E:oe}{c:uh}{z e:Core}{n:Nat}{q:Sm}(h:Jf E c z n e q) (i:n≤1):cr (ae E c ⟨z.Cs,[],0⟩)=.Kj n (e,br q):=by
 obtain ⟨o,g,f⟩:=Jf.step (t:=z.Cs) (bs:=[]) (nd:=0) h (by omega);rw [g];obtain ⟨a,b,c',d⟩:=e;cases q with
 | run c'=>cases f <;> simp [cr,br,Gd.core,Dg]
 | done=>cases f <;> simp [cr,br,Gd.core,Dg]
 | Le k=>cases f <;> simp [cr,br,Gd.core,Dg]
theorem mF {E:oe}{z:Core}{c:uh}{o:nj}(h:ae E c ⟨z.Cs,[],0⟩=some o):tv z c:=by
 intro x l s e k v a b;subst a;rw [ae] at h;unfold nn at h;rw [if_neg (by omega),if_neg (by omega),if_neg (by omega),if_neg (by omega),if_neg (by omega),if_pos b] at h;obtain ⟨f,d,-⟩:=ra h;have:=(Cu d).2;simp at this;have e:z.Cs.out.length=z.out.length:=rfl;omega
def Bl (p:yb) (U:Sg) (x:Bg):Prop:=∀ c,x.2=.run c→∃ C L,dj p U C L x.1∧ej p U C x.1.now c
theorem ej.norm {p:yb}{U:Sg}{C:Qf}{g:Nat}{c:uh}:ej p U C g (Sf c) ↔ ej p U C g c:=by
 cases c with
 | Rd k=>cases k <;> exact Iff.rfl
 | _=>exact Iff.rfl
theorem Bl.norm {p:yb}{U:Sg}{z:Core}{q:Sm}(h:Bl p U (z,q)):Bl p U (z,br q):=by
 intro c a;cases q with
 | run c' =>
  obtain ⟨C,L,b,d⟩:=h _ rfl;cases a;exact ⟨C,L,b,ej.norm.2 d⟩
 | done=>cases a
 | Le k=>cases a
section
variable {p:yb}{U:Sg}{E:oe}
theorem xB (P:Tm p U E){x d:Bg}{n:Nat}(h:Bl p U x) (a:lg E x=.Kj n d):n≤1∧Zh d.1 d.2+1≤Zh x.1 x.2+30*n∧d.1.out.length≤x.1.out.length+1∧Bl p U d:=by
 obtain ⟨z,q⟩:=x;cases q with
 | done=>cases a
 | Le k=>cases a
 | run c =>
 obtain ⟨C,L,r,s⟩:=h _ rfl
 change gi E z (Sf c)=_ at a
 by_cases b:Comm (Sf c)
 ·exfalso
  revert a b
  cases u:Sf c with
  | recv n k=>intro a _; rw [gi] at a; split at a <;> cases a
  | send n v k=>intro a _; rw [gi] at a; split at a <;> cases a
  | Rd k =>
   have:Sf (Sf c)=Sf c:=ZA c;rw [u] at this;cases k with
   | recv=>cases this
   | send=>cases this
   | _=>intro _ b; exact b.elim
  | _=>intro _ b; exact b.elim
 have f:¬ Comm c:=fun k=>b (ZF.2 k);rw [iC f,jC f] at a;have w:tv z c:=by
  cases i:ae E c ⟨z.Cs,[],0⟩ with
  | none=>rw [i] at a; cases a
  | some o=>exact mF i
 obtain ⟨D,F,g,wg,y,t,l,A,j,m,B⟩:=safe P r f w s;rw [t.act m] at a;cases a;refine ⟨m,?_,B,Bl.norm fun c' e=>⟨wg,y,A c' e⟩⟩;have:pk (br g)=pk g:=by
  cases g with
  | run c=>cases c with
   | Rd k=>cases k <;> rfl
   | _=>rfl
  | _=>rfl
 unfold Zh at j ⊢;rw [this];exact j
theorem Mh.any {C wg:Qf}{t:Ya}{v:Int}(a:t.Kind≠3) (h:Mh p C t v):Mh p wg t v:=⟨h.1,fun k=>absurd k a⟩
def kx (p:yb) (E:oe) (b:Nat) (v:Int):Prop:=∀ n f,ob E.order n=some (b:Int)→ob p.named n=some f→Mh p ⟨[],[]⟩ (Ge f.ic) v
structure Ord (p:yb) (E:oe):Prop where
 inj:∀ (n m:Ie) (i:Int),ob E.order n=some i→ob E.order m=some i→n=m
 Jo:∀ (n:Ie) (i:Int),ob E.order n=some i→0≤i
 ty:∀ n f,ob p.named n=some f→f.Kind=1→f.ic.Kind≠3
theorem aB (P:Tm p U E) (O:Ord p E){x d:Bg}{b c:Nat}{v:Int}(h:Bl p U x) (a:lg E x=.send b v c d):c=0∧(∃ n,U.s n∧ob E.order n=some (b:Int))∧kx p E b v∧Zh d.1 d.2+1≤Zh x.1 x.2∧d.1.out=x.1.out∧Bl p U d:=by
 obtain ⟨z,q⟩:=x;cases q with
 | done=>cases a
 | Le k=>cases a
 | run c' =>
 obtain ⟨C,L,t,y⟩:=h _ rfl
 change gi E z (Sf c')=_ at a
 have hw:nf (Sf c')=nf c':=by
  cases c' with
  | Rd k=>cases k <;> rfl
  | _=>rfl
 have j:=ej.norm.2 y;unfold Zh;simp only [pk];rw [← hw];cases g:Sf c' with
 | send n w k =>
  rw [g] at a j;rw [gi] at a;split at a
  ·rename_i i l;cases a;obtain ⟨f,u,Hc,Ud,A,B⟩:=j;have D:=O.Jo _ _ l;have o:ob E.order n=some ((i.toNat:Nat):Int):=by rw [l];congr 1;omega
   refine ⟨rfl,⟨n,u,o⟩,fun m F e r=>?_,?_,rfl,fun G e=>?_⟩
   ·obtain rfl:=O.inj _ _ _ e o;rw [Hc] at r;cases r;exact A.any (by rw [Vl];exact O.ty _ _ Hc Ud)
   ·have:nf (Sf (.Rd k))=Yh k:=by cases k<;>rfl
    show nf (Sf (.Rd k))+_+1≤_;rw [this];simp only [nf];omega
   ·cases e;exact ⟨C,L,t,ej.norm.2 B⟩
  ·cases a
 | recv n k=>rw [g] at a; rw [gi] at a; split at a <;> cases a
 | _=>rw [g] at a; simp only [gi] at a; unfold cr at a; split at a <;> cases a
theorem bB (P:Tm p U E) (O:Ord p E){x:Bg}{b c:Nat}{f:Int→Bg}(h:Bl p U x) (a:lg E x=.recv b c f):c=0∧(∃ n,U.r n∧ob E.order n=some (b:Int))∧∀ v,Zh (f v).1 (f v).2+1≤Zh x.1 x.2∧(f v).1.out=x.1.out∧(kx p E b v→Bl p U (f v)):=by
 obtain ⟨z,q⟩:=x;cases q with
 | done=>cases a
 | Le k=>cases a
 | run c' =>
 obtain ⟨C,L,m,o⟩:=h _ rfl
 change gi E z (Sf c')=_ at a
 have hw:nf (Sf c')=nf c':=by
  cases c' with
  | Rd k=>cases k <;> rfl
  | _=>rfl
 have g:=ej.norm.2 o;unfold Zh;simp only [pk];rw [← hw];cases d:Sf c' with
 | recv n k =>
  rw [d] at a g;rw [gi] at a;split at a
  ·rename_i i j;cases a;obtain ⟨f,u,Hc,Ud,s⟩:=g;have w:=O.Jo _ _ j;have l:ob E.order n=some ((i.toNat:Nat):Int):=by rw [j];congr 1;omega
   refine ⟨rfl,⟨n,u,l⟩,fun v=>⟨?_,rfl,fun t y e=>?_⟩⟩
   ·simp only [nf];omega
   ·cases e;exact ⟨C,L,m,_,s,(t _ _ l Hc).any (by rw [Vl];exact O.ty _ _ Hc Ud)⟩
  ·cases a
 | send n v k=>rw [d] at a; rw [gi] at a; split at a <;> cases a
 | _=>rw [d] at a; simp only [gi] at a; unfold cr at a; split at a <;> cases a
end
structure Ep (p:yb) (E:oe) (U:Nat→Sg):Prop where
 ok:∀ i,Tm p (U i) E
 ord:Ord p E
 s:∀ (n:Ie) (i j:Nat),(∃ b,ob E.order n=some b)→(U i).s n→(U j).s n→i=j
 r:∀ (n:Ie) (i j:Nat),(∃ b,ob E.order n=some b)→(U i).r n→(U j).r n→i=j
theorem Ep.own {p:yb}{E:oe}{U:Nat→Sg}(h:Ep p E U):Az (lg E) (fun i x=>Bl p (U i) x) (kx p E) (fun b i=>∃ n,(U i).s n∧ob E.order n=some (b:Int)) (fun b i=>∃ n,(U i).r n∧ob E.order n=some (b:Int)) where
 Kj d e:=(xB (h.ok _) d e).2.2.2
 send d e:=by
  obtain ⟨-,a,c,-,-,f⟩:=aB (h.ok _) h.ord d e;exact ⟨a,c,f⟩
 recv d e:=by
  obtain ⟨-,a,c⟩:=bB (h.ok _) h.ord d e;exact ⟨a,fun v g=>(c v).2.2 g⟩
 Rk a c:=by
  obtain ⟨n,na,a2⟩:=a;obtain ⟨m,za,Vd⟩:=c;obtain rfl:=h.ord.inj _ _ _ a2 Vd;exact h.s n _ _ ⟨_,a2⟩ na za
 hL a c:=by
  obtain ⟨n,na,a2⟩:=a;obtain ⟨m,za,Vd⟩:=c;obtain rfl:=h.ord.inj _ _ _ a2 Vd;exact h.r n _ _ ⟨_,a2⟩ na za
end Go.Y
namespace Go.Y
open Go.hc Go.Mc
def mo (E:oe):Nat→uh→Tc→Option (Option Tc)
 | 0,_,_=>none
 | n+1,c,z=>(ae E c z).bind fun o=>match o with
  | .call c z=>mo E n c z
  | .ret (some k) z=>mo E n (.Rd k) z
  | .ret none z=>some (some z)
  | .Ap=>some none
theorem RC {E:oe}:∀ {m:Nat}{c:uh}{z:Tc}{r:Option Tc},mo E m c z=some r→∀ fu,m≤fu→∃ x,mn E fu c z=some x∧(x=none→r=none)∧(∀ d,x=some (none,d)→r=some d)∧∀ k d,x=some (some k,d)→∃ g,g<m∧mo E g (.Rd k) d=some r
 | 0,c,z,r,h=>by cases h
 | m+1,c,z,r,h=>by
  intro fu q;obtain ⟨fu,rfl⟩:∃ k,fu=k+1:=⟨fu - 1,by omega⟩;rw [mo] at h;obtain ⟨o,i,h⟩:=ra h;rw [mn,i];cases o with
  | call c' d =>
   obtain ⟨x,j,l,n,p⟩:=RC h fu (by omega);refine ⟨x,j,l,n,fun k f e=>?_⟩;obtain ⟨g,a,b⟩:=p k f e;exact ⟨g,by omega,b⟩
  | ret k d =>
   cases k with
   | none=>cases h; exact ⟨_,rfl,fun e=>(by cases e),fun f e=>(by cases e; rfl),fun k f e=>(by cases e)⟩
   | some k=>exact ⟨_,rfl,fun e=>(by cases e),fun f e=>(by cases e),fun k' f e=>(by cases e; exact ⟨m,by omega,h⟩)⟩
  | Ap=>cases h; exact ⟨_,rfl,fun _=>rfl,fun f e=>(by cases e),fun k f e=>(by cases e)⟩
theorem SC {E:oe}:∀ (M:Nat){m:Nat}{k:me}{z:Tc}{r:Option Tc},m≤M→mo E m (.Rd k) z=some r→∀ fu,m+1≤fu→Dq E fu (some k) z=some r
 | M,m,k,z,r,hm,h=>by
  intro fu i;obtain ⟨fu,rfl⟩:∃ k,fu=k+1:=⟨fu - 1,by omega⟩;obtain ⟨x,d,e,f,g⟩:=RC h fu (by omega);rw [Dq,d];cases x with
  | none=>rw [e rfl]; rfl
  | some x =>
   obtain ⟨k',c⟩:=x;cases k' with
   | none=>rw [f c rfl]; simp only [Option.bind_some]; rw [Dq]
   | some k' =>
    obtain ⟨j,a,b⟩:=g k' c rfl;cases M with
    | zero=>omega
    | succ M=>exact SC M (by omega) b fu (by omega)
theorem Jf.Ap {E:oe}{c:uh}{t:Gd}{bs:List Od}{nd:Int}{x:Core}{q:Sm}(h:Jf E c t.core 1 x q) (a:20000<nd+1):ae E c ⟨t,bs,nd⟩=some .Ap:=by
 have b:∀ f,xq ⟨t,bs,nd⟩ f=some .Ap:=fun f=>by rw [xq,if_pos a]
 generalize e:(1:Nat)=n at h;cases h<;>first | exact absurd e (by decide) | (rw [ae];exact b _)
def zf (t:Gd):Bg:=(t.core,if t.state=4 then .done else if t.state=5 then .Le t.Le else match t.Nk with | some k=>.run (Sf (.Rd k)) | none=>.done)
def Bb (pre:List Bg) (x:Bg) (post:List Bg) (bs:List Od):Xh Bg:=⟨pre++x::post,bs.map Od.words⟩
structure nm (E:oe) (cap:List Nat) (bs:List Od):Prop where
 cap:cap=bs.map fun b=>b.cap.toNat
 le:∀ b ∈ bs,0≤b.cap∧b.cap≤100∧(b.words.length:Int)≤b.cap
 ord:∀ (n:Ie) (i:Int),ob E.order n=some i→0≤i∧i.toNat<bs.length
theorem nm.at {E:oe}{cap:List Nat}{bs:List Od}(h:nm E cap bs){n:Ie}{i:Int}(e:ob E.order n=some i):∃ b,at_ bs i=some b∧bs[i.toNat]?=some b∧0≤b.cap∧b.cap≤100∧(b.words.length:Int)≤b.cap∧cap[i.toNat]?=some b.cap.toNat∧(bs.map Od.words)[i.toNat]?=some b.words:=by
 obtain ⟨d,c⟩:=h.ord n i e;have a:bs[i.toNat]?=some bs[i.toNat]:=List.getElem?_eq_getElem c;obtain ⟨f,g,j⟩:=h.le _ (List.getElem_mem c);exact ⟨_,by rw [at_,if_pos d,a],a,f,g,j,by rw [h.cap,List.getElem?_map,a];rfl,by rw [List.getElem?_map,a];rfl⟩
theorem nm.set {E:oe}{cap:List Nat}{bs:List Od}(h:nm E cap bs){i:Nat}{b:Od}(a:bs[i]?=some b){ws:List Int}(hw:(ws.length:Int)≤b.cap):nm E cap (bs.set i { b with words:=ws }):=by
 have oa:=(List.getElem?_eq_some_iff.1 a).1;refine ⟨?_,fun c d=>?_,fun n f e=>?_⟩
 ·rw [h.cap];refine List.ext_getElem? fun j=>?_;rw [List.getElem?_map,List.getElem?_map,List.getElem?_set];split
  ·rename_i e;subst e;rw [a];rfl
  ·rfl
 ·rcases List.mem_or_eq_of_mem_set d with d | rfl
  ·exact h.le _ d
  ·have:=h.le _ (List.mem_of_getElem? a);exact ⟨this.1,this.2.1,hw⟩
 ·have:=h.ord n f e;simpa using this
section
variable {p:yb}{E:oe}{U:Nat→Sg}{cap:List Nat}
abbrev uv (p:yb) (E:oe) (U:Nat→Sg):Xh Bg→Prop:=xn (fun i x=>Bl p (U i) x) (kx p E)
def jv (E:oe) (cap:List Nat) (pre post:List Bg) (s:Xh Bg) (nd:Nat):Option Tc→Prop
 | none=>∃ m d a,th (lg E) cap s m d a∧20000<nd+d
 | some z=>∃ m d,th (lg E) cap s m d (Bb pre (zf z.t) post z.boxes)∧z.nodes=((nd+d:Nat):Int)∧nd+d≤20000∧nm E cap z.boxes∧(∀ b a,¬ Li (lg E) cap (Bb pre (zf z.t) post z.boxes) pre.length b a) ∧
  (z.t.state=2∧z.t.Le=0∧(∃ n v k,z.t.Nk=some (.send n v k)∧ob E.order n=some z.t.box)∨z.t.state=3∧z.t.Le=0∧(∃ n k,z.t.Nk=some (.recv n k)∧ob E.order n=some z.t.box)∨z.t.state=4∧z.t.box=0∧z.t.Le=0∨z.t.state=5∧z.t.box=0)
theorem jv.cons {pre post:List Bg}{s s1:Xh Bg}{nd d i:Nat}{r:Option Tc}(k:Li (lg E) cap s i d s1) (h:jv E cap pre post s1 (nd+d) r):jv E cap pre post s nd r:=by
 cases r with
 | none =>
  obtain ⟨m,a,e,b,c⟩:=h;exact ⟨m+1,d+a,e,.cons k b,by omega⟩
 | some z =>
  obtain ⟨m,a,b,c,g,f⟩:=h;exact ⟨m+1,d+a,.cons k b,by rw [c];congr 1;omega,by omega,f⟩
theorem bk {α:Type}{pre post:List α}{x:α}:(pre++x::post)[pre.length]?=some x:=by
 rw [List.getElem?_append_right (Nat.le_refl _),Nat.sub_self];rfl
theorem ry {α:Type}{pre post:List α}{x y:α}:(pre++x::post).set pre.length y=pre++y::post:=by
 rw [List.set_append_right _ _ (Nat.le_refl _),Nat.sub_self];rfl
theorem yw {pre post:List Bg}{z:Core}{bs:List Od}{q:Sm}(g:∀ c,q≠.run c):∀ d f,¬ Li (lg E) cap (Bb pre (z,q) post bs) pre.length d f:=by
 intro d f h;have e:lg E (z,q)=.halt:=by
  cases q with
  | run c=>exact absurd rfl (g c)
  | _=>rfl
 cases h with
 | Kj a b=>rw [show (Bb pre (z,q) post bs).sa[pre.length]?=some (z,q) from bk] at a; cases a; rw [e] at b; cases b
 | send a b=>rw [show (Bb pre (z,q) post bs).sa[pre.length]?=some (z,q) from bk] at a; cases a; rw [e] at b; cases b
 | recv a b=>rw [show (Bb pre (z,q) post bs).sa[pre.length]?=some (z,q) from bk] at a; cases a; rw [e] at b; cases b
theorem kC {pre post:List Bg}{z:Core}{bs:List Od}{n:Ie}{v:Int}{k:me}{i:Int}{b:Od}(hB:nm E cap bs) (e:ob E.order n=some i) (m:bs[i.toNat]?=some b) (q:b.cap≤(b.words.length:Int)):∀ d g,¬ Li (lg E) cap (Bb pre (z,.run (.send n v k)) post bs) pre.length d g:=by
 intro d g h;have f:lg E (z,.run (.send n v k))=.send i.toNat v 0 (z,.run (Sf (.Rd k))):=by
  show gi E z (.send n v k)=_;rw [gi,e]
 obtain ⟨ed,r,j,s,t,u,o,p⟩:=hB.at e;rw [m] at j;cases j;cases h with
 | Kj a c=>rw [show (Bb pre (z,.run (.send n v k)) post bs).sa[pre.length]?=some (z,.run (.send n v k)) from bk] at a; cases a; rw [f] at c; cases c
 | send a c hw l oa =>
  rw [show (Bb pre (z,.run (.send n v k)) post bs).sa[pre.length]?=some (z,.run (.send n v k)) from bk] at a;cases a;rw [f] at c;cases c;rw [show (Bb pre (z,.run (.send n v k)) post bs).bs=bs.map Od.words from rfl,p] at hw;cases hw;rw [o] at l;cases l;omega
 | recv a c=>rw [show (Bb pre (z,.run (.send n v k)) post bs).sa[pre.length]?=some (z,.run (.send n v k)) from bk] at a; cases a; rw [f] at c; cases c
theorem lC {pre post:List Bg}{z:Core}{bs:List Od}{n:Ie}{k:sf}{i:Int}{b:Od}(hB:nm E cap bs) (e:ob E.order n=some i) (l:bs[i.toNat]?=some b) (m:b.words=[]):∀ d g,¬ Li (lg E) cap (Bb pre (z,.run (.recv n k)) post bs) pre.length d g:=by
 intro d g h;have f:lg E (z,.run (.recv n k))=.recv i.toNat 0 (fun v=>(z,.run (.tf k v))):=by
  show gi E z (.recv n k)=_;rw [gi,e]
 obtain ⟨ed,p,j,q,r,s,t,o⟩:=hB.at e;rw [l] at j;cases j;cases h with
 | Kj a c=>rw [show (Bb pre (z,.run (.recv n k)) post bs).sa[pre.length]?=some (z,.run (.recv n k)) from bk] at a; cases a; rw [f] at c; cases c
 | send a c=>rw [show (Bb pre (z,.run (.recv n k)) post bs).sa[pre.length]?=some (z,.run (.recv n k)) from bk] at a; cases a; rw [f] at c; cases c
 | recv a c hw =>
  rw [show (Bb pre (z,.run (.recv n k)) post bs).sa[pre.length]?=some (z,.run (.recv n k)) from bk] at a;cases a;rw [f] at c;cases c;rw [show (Bb pre (z,.run (.recv n k)) post bs).bs=bs.map Od.words from rfl,o,m] at hw;cases hw
theorem Sw (W:Ep p E U){pre post:List Bg}:∀ (M:Nat) (c:uh) (t:Gd) (bs:List Od) (nd:Nat),uv p E U (Bb pre (t.core,.run (Sf c)) post bs)→nd≤20000→t.out.length+M≤4294967295→nm E cap bs→t.state=1→t.box=0→t.Le=0 →
  (∃ r,mo E M c ⟨t,bs,nd⟩=some r∧jv E cap pre post (Bb pre (t.core,.run (Sf c)) post bs) nd r)∨∃ d m,th (lg E) cap (Bb pre (t.core,.run (Sf c)) post bs) M d m∧nd+d≤20000
 | 0,c,t,bs,nd,y,K,V,hB,H,A,z=>.inr ⟨0,_,.nil,by omega⟩
 | M+1,c,t,bs,nd,y,K,V,hB,H,A,z=>by
  have X:Bl p (U pre.length) (t.core,.run (Sf c)):=y.sa pre.length _ bk;obtain ⟨C,L,Y,B⟩:=X _ rfl;replace B:=ej.norm.1 B;by_cases D:Comm c
  ·-- it speaks
   have Z:(∃ n k,Sf c=.recv n k∧ae E c ⟨t,bs,nd⟩=Qr E n k ⟨t,bs,nd⟩)∨∃ n v k,Sf c=.send n v k∧ae E c ⟨t,bs,nd⟩=Rr E n v k ⟨t,bs,nd⟩:=by
    cases c with
    | recv n k=>exact .inl ⟨n,k,rfl,rfl⟩
    | send n v k=>exact .inr ⟨n,v,k,rfl,rfl⟩
    | Rd k=>cases k with
     | recv n k=>exact .inl ⟨n,k,rfl,rfl⟩
     | send n v k=>exact .inr ⟨n,v,k,rfl,rfl⟩
     | _=>exact D.elim
    | _=>exact D.elim
   rw [mo];rcases Z with ⟨n,k,ia,N⟩ | ⟨n,v,k,ia,N⟩
   ·rw [N];have F:=ej.norm.2 B;rw [ia] at F y;obtain ⟨f,u,Hc,Ud,bb⟩:=F;obtain ⟨i,g⟩:=(W.ok pre.length).ig _ _ Hc Ud;obtain ⟨b,na,a2,a3,a4,a5,Nb,Lb⟩:=hB.at g;rw [Qr,g];simp only [Option.bind_some,na];rw [ia];have G:lg E (t.core,.run (.recv n k))=.recv i 0 (fun v=>(t.core,.run (.tf k v))):=by
     show gi E t.core (.recv n k)=_;rw [gi,g];simp
    cases hw:b.words with
    | nil =>
     refine .inl ⟨_,rfl,0,0,?_,rfl,by omega,hB,?_,?_⟩
     ·have:Bb pre (zf { t with state:=3,box:=(ob E.order n).getD 0,Nk:=some (.recv n k) }) post bs=Bb pre (t.core,.run (.recv n k)) post bs:=rfl;rw [g] at this;exact this ▸ .nil
     ·exact lC hB g a2 hw
     ·exact .inr (.inl ⟨rfl,z,n,k,rfl,by rw [g];rfl⟩)
    | cons v ws =>
     have a:Li (lg E) cap (Bb pre (t.core,.run (.recv n k)) post bs) pre.length 0 (Bb pre (t.core,.run (.tf k v)) post (bs.set i { b with words:=ws })):=by
      have:=Li.recv (act:=lg E) (cap:=cap) (s:=Bb pre (t.core,.run (.recv n k)) post bs) (i:=pre.length) (v:=v) (w:=ws) bk G (by show (bs.map Od.words)[i]?=_;rw [show (i:Nat)=(i:Int).toNat by omega,Lb,hw]);unfold Bb at this ⊢;rw [ry] at this;rw [List.map_set];exact this
     have O:nm E cap (bs.set i { b with words:=ws }):=hB.set (by rw [show (i:Nat)=(i:Int).toNat by omega];exact a2) (by rw [hw] at a5;simp at a5;omega);rcases Sw W M (.tf k v) t (bs.set i { b with words:=ws }) nd (a.own W.own y) K (by omega) O H A z with ⟨r,h,j⟩ | ⟨d,m,h,j⟩
     ·exact .inl ⟨r,by simpa using h,j.cons a⟩
     ·exact .inr ⟨d,m,by have:=th.cons a h;rwa [Nat.zero_add] at this,j⟩
   ·rw [N];have F:=ej.norm.2 B;rw [ia] at F y;obtain ⟨f,u,Hc,Ud,rd,bb⟩:=F;obtain ⟨i,g⟩:=(W.ok pre.length).ig _ _ Hc Ud;obtain ⟨b,na,a2,a3,a4,a5,Nb,Lb⟩:=hB.at g;rw [Rr,g];simp only [Option.bind_some,na];rw [ia];have G:lg E (t.core,.run (.send n v k))=.send i v 0 (t.core,.run (Sf (.Rd k))):=by
     show gi E t.core (.send n v k)=_;rw [gi,g];simp
    by_cases R:(b.words.length:Int)=b.cap
    ·rw [if_pos R];refine .inl ⟨_,rfl,0,0,?_,rfl,by omega,hB,?_,?_⟩
     ·have:Bb pre (zf { t with state:=2,box:=(ob E.order n).getD 0,Nk:=some (.send n v k) }) post bs=Bb pre (t.core,.run (.send n v k)) post bs:=rfl;rw [g] at this;exact this ▸ .nil
     ·exact kC hB g a2 (by omega)
     ·exact .inl ⟨rfl,z,n,v,k,rfl,by rw [g];rfl⟩
    ·have Gb:app b.words [v]=some (b.words++[v]):=if_pos (by simp;omega);rw [if_neg R,Gb];have a:Li (lg E) cap (Bb pre (t.core,.run (.send n v k)) post bs) pre.length 0 (Bb pre (t.core,.run (Sf (.Rd k))) post (bs.set i { b with words:=b.words++[v] })):=by
      have:=Li.send (act:=lg E) (cap:=cap) (s:=Bb pre (t.core,.run (.send n v k)) post bs) (i:=pre.length) (w:=b.words) (k:=b.cap.toNat) bk G (by show (bs.map Od.words)[i]?=_;rw [show (i:Nat)=(i:Int).toNat by omega,Lb]) (by rw [show (i:Nat)=(i:Int).toNat by omega];exact Nb) (by omega);unfold Bb at this ⊢;rw [ry] at this;rw [List.map_set];exact this
     have O:nm E cap (bs.set i { b with words:=b.words++[v] }):=hB.set (by rw [show (i:Nat)=(i:Int).toNat by omega];exact a2) (by simp;omega);rcases Sw W M (.Rd k) t (bs.set i { b with words:=b.words++[v] }) nd (a.own W.own y) K (by omega) O H A z with ⟨r,h,j⟩ | ⟨d,m,h,j⟩
     ·exact .inl ⟨r,by simpa using h,j.cons a⟩
     ·exact .inr ⟨d,m,by have:=th.cons a h;rwa [Nat.zero_add] at this,j⟩
  ·-- it does not
   have gc:tv t.core c:=fun x l s e k v _ _=>by show t.out.length<_;omega
   obtain ⟨n,P,q,wg,wd,tc,l,Fd,Id,lc,rc⟩:=safe (W.ok pre.length) Y D gc B;have G:lg E (t.core,.run (Sf c))=.Kj n (P,br q):=by
    show gi E t.core (Sf (Sf c))=_;rw [ZA,iC D,jC D];exact tc.act lc
   have a:Li (lg E) cap (Bb pre (t.core,.run (Sf c)) post bs) pre.length n (Bb pre (P,br q) post bs):=by
    have:=Li.Kj (act:=lg E) (cap:=cap) (s:=Bb pre (t.core,.run (Sf c)) post bs) (i:=pre.length) bk G;unfold Bb at this ⊢;rwa [ry] at this
   have fd:=a.own W.own y;rw [mo];by_cases hm:n=1∧20000<nd+1
   ·obtain ⟨rfl,hm⟩:=hm;rw [tc.Ap (by omega)];exact .inl ⟨none,rfl,1,1,_,.one a,hm⟩
   ·obtain ⟨o,id,Ag⟩:=tc.step (bs:=bs) (nd:=(nd:Int)) (by omega);rw [id];simp only [Option.bind_some];obtain ⟨x1,S,T,Q⟩:=P;have md:((nd:Int)+(n:Int))=((nd+n:Nat):Int):=by omega
    rw [md] at Ag;cases q with
    | run c' =>
     have go:=Sw W M c' { t with xe:=x1,mc:=S,now:=T,out:=Q } bs (nd+n) fd (by omega) (by simp only [Gd.core] at rc;show Q.length+M≤_;omega) hB H A z;have fin:(∃ r,mo E M c' ⟨{ t with xe:=x1,mc:=S,now:=T,out:=Q },bs,((nd+n:Nat):Int)⟩=some r∧jv E cap pre post (Bb pre (t.core,.run (Sf c)) post bs) nd r)∨∃ d m,th (lg E) cap (Bb pre (t.core,.run (Sf c)) post bs) (M+1) d m∧nd+d≤20000:=by
      rcases go with ⟨r,h,j⟩ | ⟨d,m,h,j⟩
      ·exact .inl ⟨r,h,j.cons a⟩
      ·exact .inr ⟨n+d,m,.cons a h,by omega⟩
     cases Ag<;>exact fin
    | done =>
     cases Ag;exact .inl ⟨_,rfl,1,n,.one a,rfl,by omega,hB,yw fun c=>(by simp [Gd.core]),.inr (.inr (.inl ⟨rfl,A,z⟩))⟩
    | Le k =>
     cases Ag;exact .inl ⟨_,rfl,1,n,.one a,rfl,by omega,hB,yw fun c=>(by simp [Gd.core]),.inr (.inr (.inr ⟨rfl,A⟩))⟩
end
end Go.Y
namespace Go.Y
open Go.hc Go.Mc
theorem th.zero {T:Type}{act:T→Dp T}{cap:List Nat}{s a:Xh T}{d:Nat}(h:th act cap s 0 d a):s=a:=by cases h;rfl
def zc (s:Xh Bg):Nat:=(s.sa.map fun x=>Zh x.1 x.2).sum
section
variable {p:yb}{E:oe}{U:Nat→Sg}{cap:List Nat}
theorem nF (W:Ep p E U){s h:Xh Bg}{i d:Nat}(l:uv p E U s) (k:Li (lg E) cap s i d h):zc h+1≤zc s+30*d∧d≤1∧∀ (j:Nat) (c:Bg),h.sa[j]?=some c→∃ x,s.sa[j]?=some x∧c.1.out.length≤x.1.out.length+1:=by
 have O:∀ {x c:Bg},s.sa[i]?=some x→c.1.out.length≤x.1.out.length+1→∀ (j:Nat) (y:Bg),(s.sa.set i c)[j]?=some y→∃ x,s.sa[j]?=some x∧y.1.out.length≤x.1.out.length+1:=by
  intro x c m oa j y g;by_cases e:i=j
  ·subst e;rw [Ar m] at g;cases g;exact ⟨x,m,oa⟩
  ·rw [ft e] at g;exact ⟨y,g,by omega⟩
 cases k with
 | @Kj t qc _ a f =>
  obtain ⟨na,a2,a3,-⟩:=xB (W.ok i) (l.sa _ _ a) f;have n:=yq (fun x:Bg=>Zh x.1 x.2) (b:=qc) a;exact ⟨by unfold zc;simp only;omega,na,O a a3⟩
 | @send t qc _ b k v w a f o q oa =>
  obtain ⟨na,-,-,a2,a3,-⟩:=aB (W.ok i) W.ord (l.sa _ _ a) f;have n:=yq (fun x:Bg=>Zh x.1 x.2) (b:=qc) a;exact ⟨by unfold zc;simp only;omega,by omega,O a (by rw [a3];omega)⟩
 | @recv t _ b k v w a f o =>
  obtain ⟨na,-,a2⟩:=bB (W.ok i) W.ord (l.sa _ _ a) f;obtain ⟨a3,a4,-⟩:=a2 v;have n:=yq (fun x:Bg=>Zh x.1 x.2) (b:=k v) a;exact ⟨by unfold zc;simp only;omega,by omega,O a (by rw [a4];omega)⟩
theorem Px (W:Ep p E U){s b:Xh Bg}{m d:Nat}(k:th (lg E) cap s m d b):uv p E U s→zc b+m≤zc s+30*d∧∀ (j:Nat) (a:Bg),b.sa[j]?=some a→∃ x,s.sa[j]?=some x∧a.1.out.length≤x.1.out.length+m:=by
 induction k with
 | nil=>exact fun _=>⟨by omega,fun j a h=>⟨a,h,by omega⟩⟩
 | cons k _ e =>
  intro c;obtain ⟨na,a2,a3⟩:=nF W c k;obtain ⟨za,Vd⟩:=e (k.own W.own c);refine ⟨by omega,fun j a h=>?_⟩;obtain ⟨x1,bc,c2⟩:=Vd j a h;obtain ⟨x0,d1,d2⟩:=a3 j x1 bc;exact ⟨x0,d1,by omega⟩
def OD (E:oe) (t:Gd):Prop :=
 t.state=1∧t.box=0∧t.Le=0∧(∃ d,t.Nk=some (.zj d))∨t.state=2∧t.Le=0∧(∃ n v k,t.Nk=some (.send n v k)∧ob E.order n=some t.box) ∨
 t.state=3∧t.Le=0∧(∃ n k,t.Nk=some (.recv n k)∧ob E.order n=some t.box)∨t.state=4∧t.box=0∧t.Le=0∨t.state=5∧t.box=0
def ki (sa:List Gd) (bs:List Od):Xh Bg:=⟨sa.map zf,bs.map Od.words⟩
theorem Lw {pre sa:List Gd}{t:Gd}{bs:List Od}:ki (pre++t::sa) bs=Bb (pre.map zf) (zf t) (sa.map zf) bs:=by
 unfold ki Bb;rw [List.map_append,List.map_cons]
def Jn (s:Xh Bg) (nd:Nat):Nat:=zc s+30*(20000 - nd)
structure Inv (p:yb) (E:oe) (U:Nat→Sg) (cap:List Nat) (N:Nat) (sa:List Gd) (bs:List Od) (nd:Nat):Prop where
 Sz:uv p E U (ki sa bs)
 Hb:nm E cap bs
 j:∀ t ∈ sa,OD E t
 hx:nd≤20000
 PD:Jn (ki sa bs) nd≤N
 out:∀ t ∈ sa,t.out.length+Jn (ki sa bs) nd≤N
theorem TC {t:Gd}{bs:List Od}(r:OD E t) (hB:nm E cap bs):∃ c,fo t bs=some c∧(c=false→∀ (pre post:List Bg) (d:Nat) (m:Xh Bg),¬ Li (lg E) cap (Bb pre (zf t) post bs) pre.length d m) ∧
  (c=true→(∃ k,t.Nk=some k∧zf t=(t.core,.run (Sf (.Rd k))))∧t.Le=0∧∀ (W:Ep p E U) (pre post:List Bg),uv p E U (Bb pre (zf t) post bs)→∃ d m,Li (lg E) cap (Bb pre (zf t) post bs) pre.length d m):=by
 unfold fo;rcases r with ⟨g,i,h,d,a⟩ | ⟨g,i,n,v,k,h,a⟩ | ⟨g,i,n,k,h,a⟩ | ⟨g,i,h⟩ | ⟨g,i⟩
 ·rw [if_pos g];have f:zf t=(t.core,.run (.Rd (.zj d))):=by unfold zf;rw [if_neg (by omega),if_neg (by omega),a];rfl
  refine ⟨true,rfl,fun e=>(by cases e),fun _=>⟨⟨_,a,f⟩,h,fun W pre post j=>?_⟩⟩;rw [f] at j ⊢;obtain ⟨C,L,u,w⟩:=(j.sa pre.length _ bk:Bl p (U pre.length) (t.core,.run (.Rd (.zj d)))) _ rfl;obtain ⟨n,B,q,wg,D,tc,-,-,-,y,-⟩:=safe (c:=.Rd (.zj d)) (W.ok pre.length) u (fun z=>False.elim z) (fun x l s e k v A _=>(by cases A)) w;exact ⟨_,_,.Kj bk (show lg E (t.core,.run (.Rd (.zj d)))=_ from tc.act y)⟩
 ·rw [if_neg (by omega),if_pos g];obtain ⟨b,na,a2,a3,a4,a5,Nb,Lb⟩:=hB.at a;have f:zf t=(t.core,.run (.send n v k)):=by unfold zf;rw [if_neg (by omega),if_neg (by omega),h];rfl
  rw [na,f];simp only [Option.bind_some];refine ⟨_,rfl,fun e pre post=>?_,fun e=>⟨⟨_,h,rfl⟩,i,fun W pre post j=>?_⟩⟩
  ·exact kC hB a a2 (by simpa using e)
  ·have o:(b.words.length:Int)<b.cap:=by simpa using e
   exact ⟨_,_,.send bk (show gi E t.core (.send n v k)=.send t.box.toNat v 0 _ by rw [gi,a]) Lb Nb (by omega)⟩
 ·rw [if_neg (by omega),if_neg (by omega),if_pos g];obtain ⟨b,na,a2,a3,a4,a5,Nb,Lb⟩:=hB.at a;have f:zf t=(t.core,.run (.recv n k)):=by unfold zf;rw [if_neg (by omega),if_neg (by omega),h];rfl
  rw [na,f];simp only [Option.bind_some];refine ⟨_,rfl,fun e pre post=>?_,fun e=>⟨⟨_,h,rfl⟩,i,fun W pre post j=>?_⟩⟩
  ·refine lC hB a a2 ?_;have g0:¬ (0:Int)<b.words.length:=by simpa using e
   have this:b.words.length=0:=by omega
   exact List.length_eq_zero_iff.1 this
  ·have o:(0:Int)<b.words.length:=by simpa using e
   cases hw:b.words with
   | nil=>rw [hw] at o; simp at o
   | cons v ws=>exact ⟨_,_,.recv bk (show gi E t.core (.recv n k)=.recv t.box.toNat 0 _ by rw [gi,a]) (by rw [← hw]; exact Lb)⟩
 ·rw [if_neg (by omega),if_neg (by omega),if_neg (by omega)];have f:zf t=(t.core,.done):=by unfold zf;rw [if_pos g]
  rw [f];exact ⟨false,rfl,fun _ pre post=>yw fun c=>(by simp),fun e=>by cases e⟩
 ·rw [if_neg (by omega),if_neg (by omega),if_neg (by omega)];have f:zf t=(t.core,.Le t.Le):=by unfold zf;rw [if_neg (by omega),if_pos g]
  rw [f];exact ⟨false,rfl,fun _ pre post=>yw fun c=>(by simp),fun e=>by cases e⟩
def cL (p:yb) (E:oe) (U:Nat→Sg) (cap:List Nat) (N:Nat) (s:Xh Bg) (nd:Nat) (od:Bool) (all:List Gd) (sa:List Gd) (bs:List Od):Option (List Gd×List Od×Int×Bool)→Prop
 | none=>∃ m d c,th (lg E) cap s m d c∧20000<nd+d
 | some (ts',a,e,b)=>∃ m d,th (lg E) cap s m d (ki ts' a)∧e=((nd+d:Nat):Int)∧Inv p E U cap N ts' a (nd+d)∧(b=true→od=true∨1≤m)∧(b=false→od=false∧ts'=all∧a=bs∧∀ t ∈ sa,fo t bs=some false)∧ts'.length=all.length∧a.length=bs.length
theorem jI {α:Type}{l:List α}{a:α}(h:a ∈ l):∃ i:Nat,l[i]?=some a:=List.mem_iff_getElem?.1 h
theorem Qx (W:Ep p E U){N n:Nat}(L:N+2≤n) (M:N≤4000000000):∀ (sa pre:List Gd) (bs:List Od) (nd:Nat) (od:Bool),Inv p E U cap N (pre++sa) bs nd→∃ r,Un E n pre sa bs nd od=some r∧cL p E U cap N (ki (pre++sa) bs) nd od (pre++sa) sa bs r
 | [],pre,bs,nd,od,a=>by
  rw [Un];rw [List.append_nil] at a ⊢;exact ⟨_,rfl,0,0,.nil,rfl,a,fun h=>.inl h,fun h=>⟨h,rfl,rfl,fun t V=>by cases V⟩,rfl,rfl⟩
 | t::sa,pre,bs,nd,od,a=>by
  have X:=a.j t (by simp);obtain ⟨c,O,bc,c2⟩:=TC (p:=p) (U:=U) X a.Hb;rw [Un,O];simp only [Option.bind_some];cases c with
  | false =>
   rw [if_neg (by simp)];have A:Inv p E U cap N ((pre++[t])++sa) bs nd:=by simpa using a
   obtain ⟨r,g,l⟩:=Qx W L M sa (pre++[t]) bs nd od A;refine ⟨r,g,?_⟩;rw [List.append_assoc,List.singleton_append] at l;cases r with
   | none=>exact l
   | some r =>
    obtain ⟨ts',Y,Z,bb⟩:=r;obtain ⟨m,d,f,B,C,u,D,F⟩:=l;refine ⟨m,d,f,B,C,u,fun h=>?_,F⟩;obtain ⟨na,a2,a3,a4⟩:=D h;exact ⟨na,a2,a3,fun x b=>by
     rcases List.mem_cons.1 b with rfl | b
     ·exact O
     ·exact a4 x b⟩
  | true =>
   rw [if_pos rfl];obtain ⟨⟨k,Gb,P⟩,gc,lc⟩:=c2 rfl;have q:=a.Sz;rw [Lw] at q;obtain ⟨d0,rc,k0⟩:=lc W _ _ q;have v:ki (pre++t::sa) bs=Bb (pre.map zf) (t.core,.run (Sf (.Rd k))) (sa.map zf) bs:=by rw [Lw,P]
   rw [P] at q k0;have fd:Ku E n ⟨t,bs,nd⟩=Dq E n (some k) ⟨{ t with state:=1,box:=0 },bs,nd⟩:=by
    exact congrArg (fun o=>Dq E n o ⟨{ t with state:=1,box:=0 },bs,nd⟩) Gb
   have id:=a.PD;have md:=a.out t (by simp);rw [v] at id md;have le:=a.hx;rcases Sw (cap:=cap) W (pre:=pre.map zf) (post:=sa.map zf) (Jn (Bb (pre.map zf) (t.core,.run (Sf (.Rd k))) (sa.map zf) bs) nd+1) (.Rd k) { t with state:=1,box:=0 } bs nd q a.hx (by show t.out.length+_≤_;omega) a.Hb rfl rfl gc with ⟨r,g,l⟩ | ⟨d,G,g,l⟩
   ·have oa:=SC _ (Nat.le_refl _) g n (by omega);rw [fd,oa];simp only [Option.bind_some];rw [v];cases r with
    | none=>exact ⟨_,rfl,l⟩
    | some z =>
     obtain ⟨m,d,f,B,C,u,D,F⟩:=l;replace f:th (lg E) cap (Bb (pre.map zf) (t.core,.run (Sf (.Rd k))) (sa.map zf) bs) m d (Bb (pre.map zf) (zf z.t) (sa.map zf) z.boxes):=f;have hm:1≤m:=by
      rcases Nat.eq_zero_or_pos m with rfl | h
      ·have e:=f.zero;have rd:Li (lg E) cap (Bb (pre.map zf) (zf z.t) (sa.map zf) z.boxes) (pre.map zf).length d0 rc:=by rw [← e];exact k0
       exact (D _ _ rd).elim
      ·exact h
     obtain ⟨za,Vd⟩:=Px W f q;have w:ki (pre++z.t::sa) z.boxes=Bb (pre.map zf) (zf z.t) (sa.map zf) z.boxes:=Lw;have ne:Jn (ki (pre++z.t::sa) z.boxes) (nd+d)+m≤Jn (Bb (pre.map zf) (t.core,.run (Sf (.Rd k))) (sa.map zf) bs) nd:=by
      rw [w];unfold Jn;omega
     have A:Inv p E U cap N (pre++z.t::sa) z.boxes (nd+d):=by
      refine ⟨?_,u,fun x b=>?_,C,by omega,fun x b=>?_⟩
      ·rw [w];exact f.own W.own q
      ·simp only [List.mem_append,List.mem_cons] at b;rcases b with b | rfl | b
       ·exact a.j x (by simp [b])
       ·exact .inr F
       ·exact a.j x (by simp [b])
      ·obtain ⟨i,wd⟩:=jI b;obtain ⟨y,Q,Ne⟩:=Vd i (zf x) (by
        rw [← w];show ((pre++z.t::sa).map zf)[i]?=_;rw [List.getElem?_map,wd];rfl)
       rw [← v] at Q;have R:((pre++t::sa).map zf)[i]?=some y:=Q;rw [List.getElem?_map] at R;obtain ⟨t0,t1,t2⟩:=Option.map_eq_some_iff.1 R;have Fd:=a.out t0 (List.mem_of_getElem? t1);rw [v] at Fd;have ia:(zf x).1.out.length=x.out.length:=rfl;have of:y.1.out.length=t0.out.length:=by rw [← t2];rfl
       omega
     have hlen:z.boxes.length=bs.length:=by
      have S:=u.cap;have Id:=a.Hb.cap;rw [Id] at S;have:=congrArg List.length S;simpa using this.symm
     have be:Inv p E U cap N ((pre++[z.t])++sa) z.boxes (nd+d):=by simpa using A
     obtain ⟨r',s1,s2⟩:=Qx W L M sa (pre++[z.t]) z.boxes (nd+d) true be;rw [List.append_assoc,List.singleton_append] at s2;refine ⟨r',by show Un E n (pre++[z.t]) sa z.boxes z.nodes true=_;rw [B];exact s1,?_⟩;rw [w] at s2;cases r' with
     | none =>
      obtain ⟨H,s,G,K,T⟩:=s2;exact ⟨m+H,d+s,G,f.app K,by omega⟩
     | some r' =>
      obtain ⟨ts',Y,Z,bb⟩:=r';obtain ⟨H,s,K,T,ce,wf,ge,he,If⟩:=s2;refine ⟨m+H,d+s,f.app K,by rw [T];congr 1;omega,by rw [show nd+(d+s)=nd+d+s by omega];exact ce,fun _=>.inr (by omega),fun h=>?_,by simpa using he,by omega⟩;have:=(ge h).1;cases this
   ·exfalso;replace g:th (lg E) cap (Bb (pre.map zf) (t.core,.run (Sf (.Rd k))) (sa.map zf) bs) _ d G:=g;have:=(Px W g q).1;unfold Jn at this;omega
theorem NA (W:Ep p E U){N n:Nat}(v:N+2≤n) (w:N≤4000000000):∀ (M m:Nat) (sa:List Gd) (bs:List Od) (nd:Nat),Inv p E U cap N sa bs nd→Jn (ki sa bs) nd<M→M≤m→∃ r,Zo E n m sa bs nd=some r∧match r with
  | none=>∃ k d e,th (lg E) cap (ki sa bs) k d e∧20000<nd+d
  | some (ts',a,b)=>∃ k d,th (lg E) cap (ki sa bs) k d (ki ts' a)∧b=((nd+d:Nat):Int)∧Inv p E U cap N ts' a (nd+d)∧Bz (lg E) cap (ki ts' a)∧(∀ t ∈ ts',fo t a=some false)∧ts'.length=sa.length∧a.length=bs.length
 | 0,m,sa,bs,nd,o,y,hm=>by omega
 | M+1,m,sa,bs,nd,o,y,hm=>by
  obtain ⟨m,rfl⟩:∃ k,m=k+1:=⟨m - 1,by omega⟩;obtain ⟨r,D,q⟩:=Qx (cap:=cap) W v w sa [] bs nd false o;rw [Zo,D];simp only [Option.bind_some];rw [List.nil_append] at q;cases r with
  | none=>exact ⟨_,rfl,q⟩
  | some r =>
   obtain ⟨ts',a,b,F⟩:=r;obtain ⟨k,d,l,z,f,G,H,R,S⟩:=q;cases F with
   | true =>
    have T:1≤k:=by
     rcases G rfl with h | h
     ·cases h
     ·exact h
    have V:=(Px W l o.Sz).1;have X:=f.hx;obtain ⟨r',s1,s2⟩:=NA W v w M m ts' a (nd+d) f (by unfold Jn at y ⊢;omega) (by omega);refine ⟨r',by show (if true=true then Zo E n m ts' a b else some (some (ts',a,b)))=_;rw [if_pos rfl,z];exact s1,?_⟩;cases r' with
    | none =>
     obtain ⟨k',g,e,s,A⟩:=s2;exact ⟨k+k',d+g,e,l.app s,by omega⟩
    | some r' =>
     obtain ⟨Y,Z,bb⟩:=r';obtain ⟨k',g,s,A,K,L,O,Gb,gc⟩:=s2;exact ⟨k+k',d+g,l.app s,by rw [A];congr 1;omega,by rw [show nd+(d+g)=nd+d+g by omega];exact K,L,O,by omega,by omega⟩
   | false =>
    obtain ⟨-,rfl,rfl,a4⟩:=H rfl;refine ⟨some (ts',a,b),by show (if false=true then Zo E n m ts' a b else some (some (ts',a,b)))=_;rw [if_neg (by simp)],k,d,l,z,f,fun i c e u=>?_,a4,rfl,rfl⟩;have B:i<ts'.length:=by
     have:∃ x,(ki ts' a).sa[i]?=some x:=by cases u<;>exact ⟨_,by assumption⟩
     obtain ⟨x,P⟩:=this;have:=(List.getElem?_eq_some_iff.1 P).1;simpa [ki] using this
    have Q:ts'=ts'.take i++ts'[i]::ts'.drop (i+1):=by simp
    obtain ⟨c0,Xa,ia,-⟩:=TC (p:=p) (U:=U) (f.j _ (List.getElem_mem B)) f.Hb;rw [a4 _ (List.getElem_mem B)] at Xa;cases Xa;have oa:i=((ts'.take i).map zf).length:=by simp;omega
    rw [Q,Lw] at u;have C:=ia rfl ((ts'.take i).map zf) ((ts'.drop (i+1)).map zf) c e;rw [← oa] at C;exact C u
end
end Go.Y
namespace Go.Y
open Go.hc Go.Mc
def bh (d:va):Bool:=decide (d.Kind=1)
def kh (d:va):Bool:=decide (d.Kind=4)
structure ps (l:List va) (u:km):Prop where
 D:∀ d ∈ l,ob u.D d.Name=some d
 Do:∀ n d,ob u.D n=some d→d ∈ l∧d.Name=n
 bs:u.bs=(l.filter bh).map fun d=>⟨d.gf,[]⟩
 sa:u.sa=(l.filter kh).map Im
 O:∀ (j:Nat) d,(l.filter bh)[j]?=some d→ob u.O d.Name=some (j:Int)
 Es:∀ n i,ob u.O n=some i→∃ (j:Nat) (d:va),i=(j:Int)∧(l.filter bh)[j]?=some d∧d.Name=n
theorem ps.snoc {l:List va}{u:km}(h:ps l u){d:va}(g:∀ e ∈ l,e.Name≠d.Name):ps (l++[d]) (oh u d):=by
 have k:(oh u d).D=Nd u.D d.Name d:=by unfold oh Nq Mq;split<;>split<;>rfl
 have m:(oh u d).O=if d.Kind=1 then Nd u.O d.Name (u.bs.length:Int) else u.O:=by unfold oh Nq Mq;split<;>split<;>rfl
 have hB:(oh u d).bs=if d.Kind=1 then u.bs++[⟨d.gf,[]⟩] else u.bs:=by unfold oh Nq Mq;split<;>split<;>rfl
 have o:(oh u d).sa=if d.Kind=4 then u.sa++[Im d] else u.sa:=by unfold oh Nq Mq;split<;>split<;>rfl
 have f:(l++[d]).filter bh=l.filter bh++if d.Kind=1 then [d] else []:=by
  rw [List.filter_append];congr 1;by_cases c:d.Kind=1<;>simp [bh,c]
 have p:(l++[d]).filter kh=l.filter kh++if d.Kind=4 then [d] else []:=by
  rw [List.filter_append];congr 1;by_cases c:d.Kind=4<;>simp [kh,c]
 have hlen:u.bs.length=(l.filter bh).length:=by rw [h.bs,List.length_map]
 refine ⟨fun e he=>?_,fun n e he=>?_,?_,?_,fun j e he=>?_,fun n i he=>?_⟩
 ·rw [k,tj];rcases List.mem_append.1 he with he | he
  ·rw [if_neg (g e he).symm];exact h.D e he
  ·rw [List.mem_singleton.1 he,if_pos rfl]
 ·rw [k,tj] at he;split at he
  ·rename_i q;cases he;exact ⟨by simp,q⟩
  ·obtain ⟨a,b⟩:=h.Do n e he;exact ⟨by simp [a],b⟩
 ·rw [hB,f];split<;>simp [h.bs]
 ·rw [o,p];split<;>simp [h.sa]
 ·rw [f] at he;rw [m];by_cases c:d.Kind=1
  ·rw [if_pos c] at he ⊢;rw [tj];by_cases r:j<(l.filter bh).length
   ·rw [List.getElem?_append_left r] at he;rw [if_neg (g e (List.mem_filter.1 (List.mem_of_getElem? he)).1).symm];exact h.O j e he
   ·rw [List.getElem?_append_right (by omega)] at he;have s:j=(l.filter bh).length:=by have:=(List.getElem?_eq_some_iff.1 he).1;simp at this;omega
    subst s;simp at he;subst he;rw [if_pos rfl,hlen]
  ·rw [if_neg c] at he ⊢;rw [List.append_nil] at he;exact h.O j e he
 ·rw [m] at he;rw [f];by_cases c:d.Kind=1
  ·rw [if_pos c] at he ⊢;rw [tj] at he;split at he
   ·rename_i q;cases he;exact ⟨_,d,rfl,by rw [hlen];simp,q⟩
   ·obtain ⟨j,e,ia,t,v⟩:=h.Es n i he;exact ⟨j,e,ia,Em t,v⟩
  ·rw [if_neg c] at he ⊢;rw [List.append_nil];exact h.Es n i he
theorem yB:∀ (xs pre:List va) (u:km),ps pre u→(pre++xs).Pairwise (fun a b=>a.Name≠b.Name)→ps (pre++xs) (xs.foldl oh u)
 | [],pre,u,h,_=>by simpa using h
 | d::xs,pre,u,h,c=>by
  have f:∀ e ∈ pre,e.Name≠d.Name:=fun e he=>(List.pairwise_append.1 c).2.2 e he d (by simp);have:=yB xs (pre++[d]) (oh u d) (h.snoc f) (by simpa using c);simpa using this
theorem kI {l:List va}(c:l.Pairwise fun a b=>a.Name≠b.Name):ps l (Tg l):=
 yB l [] ⟨[],[],[],[]⟩ ⟨fun d h=>(by cases h),fun n d h=>(by cases h),rfl,rfl,fun j d h=>(by simp at h),fun n i h=>(by cases h)⟩ c
def Mz (N:List (Nm×va)) (t:va):Sg:=⟨fun n=>∃ d,so N t d∧n ∈ Si d,fun n=>∃ d,so N t d∧n ∈ Lo d,fun n=>∃ d,so N t d∧n ∈ Mo d⟩
def vm (N:List (Nm×va)) (sa:List va) (i:Nat):Sg:=match sa[i]? with
 | some t=>Mz N t
 | none=>⟨fun _=>False,fun _=>False,fun _=>False⟩
theorem kn {α β:Type}{f:α→List β}{l:List α}{a:α}{b:β}(c:a ∈ l) (d:b ∈ f a):b ∈ (l.map f).flatten:=by
 simp only [List.mem_flatten,List.mem_map];exact ⟨f a,⟨a,c,rfl⟩,d⟩
theorem lD {U:Sg}:∀ (k:Nat) (x:Va),iv k x→(∀ n ∈ Mj k x,U.c n)→(∀ n ∈ rk k x,U.r n)→qv U x
 | 0,x,h,_,_=>h.elim
 | k+1,x,h,a,b=>by
  rw [Mj] at a;rw [rk] at b;refine .mk (fun e=>a _ ?_) (fun e=>b _ ?_) fun y d=>lD k y (h.2.2.2.2.2.2 y d) (fun n f=>a n (List.mem_append_right _ (kn d f))) fun n f=>b n (List.mem_append_right _ (kn d f))
  ·rw [if_pos e];simp
  ·rw [if_pos e];simp
theorem kz {U:Sg}:∀ (k:Nat) (x:gb),zs k x→(∀ n ∈ Hi k x,U.c n)→(∀ n ∈ hj k x,U.s n)→(∀ n ∈ gj k x,U.r n)→rv U x
 | 0,x,h,_,_,_=>h.elim
 | k+1,x,h,d,f,g=>by
  rw [Hi] at d;rw [hj] at f;rw [gj] at g;refine .mk (fun e=>f _ ?_) (fun e=>lD k _ (h.2.2.1 e) (fun n a=>d n ?_) (fun n a=>g n ?_)) (fun e y b=>kz k y ((h.2.2.2.2.1 e).2 y b) (fun n a=>d n ?_) (fun n a=>f n ?_) (fun n a=>g n ?_)) (fun e y b=>kz k y ((h.2.2.2.2.2 e).2 y b) (fun n a=>d n ?_) (fun n a=>f n ?_) (fun n a=>g n ?_))
  ·rw [if_pos e];simp
  ·rw [if_neg e];simp [a]
  ·rw [if_neg e];simp [a]
  ·refine List.mem_append_left _ (List.mem_append_right _ ?_);rw [if_pos e];exact kn b a
  ·refine List.mem_append_left _ (List.mem_append_right _ ?_);rw [if_pos e];exact kn b a
  ·refine List.mem_append_left _ (List.mem_append_right _ ?_);rw [if_pos e];exact kn b a
  ·refine List.mem_append_right _ ?_;rw [if_pos e];exact kn b a
  ·refine List.mem_append_right _ ?_;rw [if_pos e];exact kn b a
  ·refine List.mem_append_right _ ?_;rw [if_pos e];exact kn b a
structure Ii (p:yb) (l:List va) (fu:Nat):Prop where
 R:Mm p l
 F:∀ d ∈ l,ir d
 T:∀ d ∈ l,d.Kind≠1→∃ a,rj p d ([if d.Kind=4 then [] else Yq d]++[[]]) d.Body a
 dL:500≤fu
 jL:(Cp (Tj p.named fu l []) l l 0 []).2.tg=0
theorem RG {fu:Nat}(e:500≤fu){l:List va}{f:Fe}(h:oq fu l=some f) (i:f.tg=0):∃ p,Ii p l fu:=by
 obtain ⟨p,g,j,k⟩:=Wz fu e l;rw [oq] at h;obtain ⟨r,d,h⟩:=ra h;obtain rfl:=Option.some.inj h;rcases k with ⟨a,b⟩ | ⟨a,b,c⟩
 ·rw [b] at d;cases d;exact absurd i a
 ·rw [c] at d;cases d;obtain ⟨m,n⟩:=JG e j a;exact ⟨p,b,m,n,e,i⟩
theorem lI {fu:Nat}(d:500≤fu) (l:List va):∃ f,oq fu l=some f:=by
 obtain ⟨p,g,h,e⟩:=Wz fu d l;rw [oq];rcases e with ⟨a,b⟩ | ⟨a,b,c⟩
 ·rw [b];exact ⟨_,rfl⟩
 ·rw [c];exact ⟨_,rfl⟩
section
variable {p:yb}{l:List va}{fu:Nat}
theorem Ii.set (h:Ii p l fu):ps l (Tg l):=kI h.R.nd
theorem Ii.sv (h:Ii p l fu) (n:Nm):ob (Tg l).env.defs n=ob p.named n:=by
 show ob (Tg l).D n=_;cases e:ob p.named n with
 | some d =>
  obtain ⟨a,rfl⟩:=h.R.only _ _ e;exact h.set.D d a
 | none =>
  cases b:ob (Tg l).D n with
  | none=>rfl
  | some d =>
   obtain ⟨a,rfl⟩:=h.set.Do _ _ b;rw [h.R.Hc d a] at e;cases e
theorem Ii.Yt (h:Ii p l fu){N:List (Nm×va)}{t f:va}(e:f ∈ l) (k1:f.Kind≠1) (c:so N t f):Fi (Mz N t) f.Body:=by
 have d:=((h.F f e).au k1).2;exact ⟨⟨39,d⟩,fun y b=>kz 39 y (d y b) (fun n a=>⟨f,c,kn b a⟩) (fun n a=>⟨f,c,kn b a⟩) fun n a=>⟨f,c,kn b a⟩⟩
theorem Ii.eL (h:Ii p l fu) (i:Nat):Tm p (vm p.named (l.filter kh) i) (Tg l).env where
 La n f e:=h.R.La f (h.R.only n f e).1
 ch n f hu e k1:=by
  unfold vm at hu ⊢;split at hu
  ·obtain ⟨d,La,b⟩:=hu;exact h.Yt (h.R.only n f e).1 k1 (.step La b e)
  ·exact hu.elim
 ty n f e k1:=h.T f (h.R.only n f e).1 k1
 sv n:=h.sv n
 ig n f e k1:=by
  obtain ⟨a,rfl⟩:=h.R.only n f e;obtain ⟨j,c⟩:=List.mem_iff_getElem?.1 (List.mem_filter.2 ⟨a,by simp [bh,k1]⟩:f ∈ l.filter bh);exact ⟨j,h.set.O j f c⟩
theorem Mw {α:Type}{R:α→α→Prop}{l:List α}(h:l.Pairwise R){i j:Nat}{a b:α}(c:l[i]?=some a) (d:l[j]?=some b) (e:i<j):R a b:=by
 obtain ⟨f,rfl⟩:=List.getElem?_eq_some_iff.1 c;obtain ⟨g,rfl⟩:=List.getElem?_eq_some_iff.1 d;exact List.pairwise_iff_getElem.1 h i j f g e
theorem Ii.snd (h:Ii p l fu){t:va}(b:t ∈ l) (Xe:t.Kind=4){d:va}(f:so p.named t d){n:Nm}:(n ∈ Lo d→Zq (Tj p.named fu l []) n t)∧(n ∈ Mo d→ar (Tj p.named fu l []) n t):=by
 obtain ⟨-,u,hu,-⟩:=eC h.R fu h.dL t b (by omega);have c:=KG hu f;have e:=Zx p.named fu Xe l [] h.R.nd b;rw [hu] at e;refine ⟨fun a=>⟨Xe,?_⟩,fun a=>⟨Xe,?_⟩⟩
 ·rw [e];simpa using c.1 n a
 ·rw [e];simpa using c.2 n a
theorem Ii.one (h:Ii p l fu){n:Nm}{b:Int}(e:ob (Tg l).env.order n=some b):(l.Pairwise fun a c=>¬ (Zq (Tj p.named fu l []) n a∧Zq (Tj p.named fu l []) n c))∧l.Pairwise fun a c=>¬ (ar (Tj p.named fu l []) n a∧ar (Tj p.named fu l []) n c):=by
 obtain ⟨j,d,rfl,La,rfl⟩:=h.set.Es n b e;obtain ⟨hm,k1⟩:=List.mem_filter.1 (List.mem_of_getElem? La);obtain ⟨y,f⟩:=cy _ l l 0 [] h.jL d hm (by simpa [bh] using k1);obtain ⟨⟨-,db⟩,-,tb⟩:=ay _ d.Name l [] [] y (fun t g=>(h.F t g).Hc.Jo) f;exact ⟨db,tb⟩
theorem Ii.names (h:Ii p l fu):Ep p (Tg l).env (vm p.named (l.filter kh)) where
 ok:=h.eL
 ord:=⟨fun n m i ia B=>by
   obtain ⟨j,d,rfl,La,rfl⟩:=h.set.Es n i ia;obtain ⟨C,D,e,A,rfl⟩:=h.set.Es m _ B;obtain rfl:j=C:=by omega
   rw [La] at A;cases A;rfl,fun n i e=>by
   obtain ⟨j,d,rfl,-,-⟩:=h.set.Es n i e;omega,fun n f e k1=>(h.R.La f (h.R.only n f e).1).ty (by omega)⟩
 s n i j k g y:=by
  obtain ⟨b,k⟩:=k;have o:=(h.one k).1.sublist (List.filter_sublist (p:=kh));have key:∀ i,(vm p.named (l.filter kh) i).s n→∃ t,(l.filter kh)[i]?=some t∧Zq (Tj p.named fu l []) n t:=fun i g=>by
   unfold vm at g;split at g
   ·rename_i t u;obtain ⟨d,La,z⟩:=g;obtain ⟨m1,m2⟩:=List.mem_filter.1 (List.mem_of_getElem? u);exact ⟨t,u,(h.snd m1 (by simpa [kh] using m2) La).1 z⟩
   ·exact g.elim
  obtain ⟨a,v,w⟩:=key i g;obtain ⟨c,x,cd⟩:=key j y;rcases Nat.lt_trichotomy i j with q | q | q
  ·exact absurd ⟨w,cd⟩ (Mw o v x q)
  ·exact q
  ·exact absurd ⟨cd,w⟩ (Mw o x v q)
 r n i j k g y:=by
  obtain ⟨b,k⟩:=k;have o:=(h.one k).2.sublist (List.filter_sublist (p:=kh));have key:∀ i,(vm p.named (l.filter kh) i).r n→∃ t,(l.filter kh)[i]?=some t∧ar (Tj p.named fu l []) n t:=fun i g=>by
   unfold vm at g;split at g
   ·rename_i t u;obtain ⟨d,La,z⟩:=g;obtain ⟨m1,m2⟩:=List.mem_filter.1 (List.mem_of_getElem? u);exact ⟨t,u,(h.snd m1 (by simpa [kh] using m2) La).2 z⟩
   ·exact g.elim
  obtain ⟨a,v,w⟩:=key i g;obtain ⟨c,x,cd⟩:=key j y;rcases Nat.lt_trichotomy i j with q | q | q
  ·exact absurd ⟨w,cd⟩ (Mw o v x q)
  ·exact q
  ·exact absurd ⟨cd,w⟩ (Mw o x v q)
def Km (l:List va):List Nat:=(l.filter bh).map fun d=>d.gf.toNat
theorem cB {α:Type}(f:α→Nat) (k:Nat):∀ (l:List α),(∀ x ∈ l,f x=k)→(l.map f).sum=k*l.length
 | [],_=>by simp
 | x::l,h=>by
  rw [List.map_cons,List.sum_cons,cB f k l fun y a=>h y (by simp [a]),h x (by simp),List.length_cons,Nat.mul_succ];omega
theorem SG (d:va):zf (Im d)=(⟨[],[⟨d,none,false,false,false,none,none,none⟩],0,[]⟩,.run (.Rd (.zj d))):=rfl
theorem Ii.inv (h:Ii p l fu):Inv p (Tg l).env (vm p.named (l.filter kh)) (Km l) 600180 (Tg l).sa (Tg l).bs 0:=by
 have k:=h.set.sa;have m:=h.set.bs;have hlen:(l.filter kh).length≤30:=Nat.le_trans (List.length_filter_le _ _) h.R.ok.le;have u:zc (ki (Tg l).sa (Tg l).bs)=6*(l.filter kh).length:=by
  unfold zc ki;rw [k];simp only [List.map_map];exact cB _ 6 _ fun d _=>rfl
 have y:Jn (ki (Tg l).sa (Tg l).bs) 0≤600180:=by unfold Jn;rw [u];omega
 refine ⟨⟨fun i x z=>?_,fun b w hw v A=>?_⟩,⟨?_,fun b o=>?_,fun n i e=>?_⟩,fun t f=>?_,by omega,y,fun t f=>?_⟩
 ·have q:((Tg l).sa.map zf)[i]?=some x:=z;rw [k,List.map_map,List.getElem?_map] at q;obtain ⟨d,La,rfl⟩:=Option.map_eq_some_iff.1 q;obtain ⟨m1,m2⟩:=List.mem_filter.1 (List.mem_of_getElem? La);have Xe:d.Kind=4:=by simpa [kh] using m2
  have B:vm p.named (l.filter kh) i=Mz p.named d:=by unfold vm;rw [La]
  show Bl p (vm p.named (l.filter kh) i) (zf (Im d));rw [B,SG];intro c a;cases a;obtain ⟨C,vf⟩:=h.T d m1 (by omega);rw [if_pos Xe] at vf;have g0:∀ (g:Nat) (c:Eg),([⟨d,none,false,false,false,none,none,none⟩]:List Eg)[g]?=some c→g=0∧c=⟨d,none,false,false,false,none,none,none⟩:=fun g c a=>by
   cases g with
   | zero=>simp at a; exact ⟨rfl,a.symm⟩
   | succ g=>simp at a
  refine ⟨⟨[d],[]⟩,[],⟨⟨rfl,fun i c a=>by simp at a⟩,rfl,fun g c a=>?_,by simp,by simp,.main,List.nodup_nil,fun g c a D=>?_,fun E r=>?_⟩,rfl,Xe,h.Yt m1 (by omega) .refl,C,vf⟩
  ·obtain ⟨rfl,rfl⟩:=g0 g c a;exact ⟨rfl,fun e=>by omega,fun e=>by omega,fun e=>by omega,fun e=>by omega,fun _=>⟨rfl,rfl⟩⟩
  ·obtain ⟨rfl,rfl⟩:=g0 g c a;cases D
  ·simp at r;subst r;omega
 ·have s:((Tg l).bs.map Od.words)[b]?=some w:=hw;rw [m,List.map_map,List.getElem?_map] at s;obtain ⟨d,-,rfl⟩:=Option.map_eq_some_iff.1 s;cases A
 ·rw [m,List.map_map];rfl
 ·rw [m] at o;obtain ⟨d,La,rfl⟩:=List.mem_map.1 o;obtain ⟨m1,m2⟩:=List.mem_filter.1 La;have:=(h.F d m1).wi (by simpa [bh] using m2);exact ⟨by show 0≤d.gf;omega,by show d.gf≤100;omega,by show ((0:Nat):Int)≤d.gf;omega⟩
 ·obtain ⟨j,d,rfl,La,-⟩:=h.set.Es n i e;rw [m,List.length_map];have:=(List.getElem?_eq_some_iff.1 La).1;omega
 ·rw [k] at f;obtain ⟨d,-,rfl⟩:=List.mem_map.1 f;exact .inl ⟨rfl,rfl,rfl,d,rfl⟩
 ·rw [k] at f;obtain ⟨d,-,rfl⟩:=List.mem_map.1 f;show 0+_≤_;omega
def bu (l:List va):Xh Bg:=⟨(l.filter kh).map fun d=>zf (Im d),(l.filter bh).map fun _=>[]⟩
theorem Ii.Td (h:Ii p l fu):ki (Tg l).sa (Tg l).bs=bu l:=by
 unfold ki bu;rw [h.set.sa,h.set.bs,List.map_map,List.map_map];rfl
theorem Ii.VK (h:Ii p l fu){n:Nat}(m:600200≤n):∃ r,BC n l=some r∧match r with
  | none=>∃ k d e,th (lg (Tg l).env) (Km l) (bu l) k d e∧20000<d
  | some (ts',c,g)=>∃ k d,th (lg (Tg l).env) (Km l) (bu l) k d (ki ts' c)∧g=(d:Int)∧Inv p (Tg l).env (vm p.named (l.filter kh)) (Km l) 600180 ts' c d∧Bz (lg (Tg l).env) (Km l) (ki ts' c)∧(∀ t ∈ ts',fo t c=some false)∧ts'.length=(l.filter kh).length∧c.length=(l.filter bh).length:=by
 have i:=h.inv;obtain ⟨r,j,f⟩:=NA (cap:=Km l) h.names (n:=n) (by omega) (by omega) 600190 n _ _ 0 i (by have:=i.PD;omega) (by omega);refine ⟨r,j,?_⟩;rw [h.Td] at f;cases r with
 | none =>
  obtain ⟨k,d,e,a,b⟩:=f;exact ⟨k,d,e,a,by omega⟩
 | some r =>
  obtain ⟨ts',c,g⟩:=r;obtain ⟨k,d,na,a2,a3,a4,a5,Nb,Lb⟩:=f;rw [Nat.zero_add] at a2 a3;rw [h.set.sa,List.length_map] at Nb;rw [h.set.bs,List.length_map] at Lb;exact ⟨k,d,na,a2,a3,a4,a5,Nb,Lb⟩
end
end Go.Y
namespace Go.Y
open Go.hc Go.Mc
theorem TG:Yv 1000000=some true:=by kernel_rfl
structure Ut (p:yb) (l:List va) (sa:List Gd) (bs:List Od) (k d:Nat):Prop where
 run:th (lg (Tg l).env) (Km l) (bu l) k d (ki sa bs)
 inv:Inv p (Tg l).env (vm p.named (l.filter kh)) (Km l) 600180 sa bs d
 fin:Bz (lg (Tg l).env) (Km l) (ki sa bs)
 can:∀ t ∈ sa,fo t bs=some false
 vf:sa.length=(l.filter kh).length
 Yd:bs.length=(l.filter bh).length
def Qk (sa:List Gd) (bs:List Od) (d:Nat):hp:=⟨sa.map Ih,bs.map Od.words,(d:Int)⟩
theorem HJ {fu:Nat}(h:600200≤fu) (l:List va):∃ f,oq fu l=some f∧(f.tg≠0→jn fu l=some (⟨[],[],0⟩,f)) ∧
  (f.tg=0→∃ p,Ii p l fu∧((jn fu l=some (⟨[],[],0⟩,⟨10,0⟩)∧∃ k d i,th (lg (Tg l).env) (Km l) (bu l) k d i∧20000<d)∨∃ sa bs k d,jn fu l=some (Qk sa bs d,⟨0,0⟩)∧Ut p l sa bs k d)):=by
 obtain ⟨f,a⟩:=lI (fu:=fu) (by omega) l;refine ⟨f,a,fun b=>?_,fun b=>?_⟩
 ·unfold jn;rw [a];simp only [Option.bind_some];rw [if_pos b]
 ·obtain ⟨p,P⟩:=RG (by omega) a b;refine ⟨p,P,?_⟩;obtain ⟨r,j,g⟩:=P.VK h;have oa:l.length≤30:=P.R.ok.le;have e:jn fu l=Mx r:=by
   unfold jn;rw [a];simp only [Option.bind_some];rw [if_neg (by simpa using b),if_pos (by omega),j];rfl
  cases r with
  | none=>exact .inl ⟨e,g⟩
  | some r =>
   obtain ⟨sa,bs,nd⟩:=r;obtain ⟨k,d,na,rfl,a3,a4,a5,Nb,Lb⟩:=g;refine .inr ⟨sa,bs,k,d,?_,na,a3,a4,a5,Nb,Lb⟩;rw [e];show (if _ then _ else _)=_;have n:(l.filter kh).length≤30:=Nat.le_trans (List.length_filter_le _ _) oa;have o:(l.filter bh).length≤30:=Nat.le_trans (List.length_filter_le _ _) oa;rw [if_pos ⟨by omega,by omega,List.all_eq_true.2 fun c m=>by have:=a3.Hb.le c m;simp;omega⟩];rfl
section
variable {p:yb}{l:List va}{sa:List Gd}{bs:List Od}{k d:Nat}
theorem Ut.task (h:Ut p l sa bs k d){t:Gd}(f:t ∈ sa):t.state=4∧t.box=0∧t.Le=0∨t.state=5∧t.box=0 ∨
  t.state=2∧(∃ b,at_ bs t.box=some b∧(b.words.length:Int)=b.cap)∨t.state=3∧∃ b,at_ bs t.box=some b∧b.words=[]:=by
 have a:=h.can t f;unfold fo at a;rcases h.inv.j t f with ⟨c,-⟩ | ⟨c,g,n,v,k,i,e⟩ | ⟨c,g,n,k,i,e⟩ | q | q
 ·rw [if_pos c] at a;cases a
 ·rw [if_neg (by omega),if_pos c] at a;obtain ⟨b,na,a2,a3,a4,a5,Nb,Lb⟩:=h.inv.Hb.at e;rw [na] at a;simp at a;exact .inr (.inr (.inl ⟨c,b,na,by omega⟩))
 ·rw [if_neg (by omega),if_neg (by omega),if_pos c] at a;obtain ⟨b,na,a2,a3,a4,a5,Nb,Lb⟩:=h.inv.Hb.at e;rw [na] at a;simp at a;exact .inr (.inr (.inr ⟨c,b,na,a⟩))
 ·exact .inl q
 ·exact .inr (.inl q)
theorem zw {α β:Type}(f:α→β) (l:List α) (i:Int):at_ (l.map f) i=(at_ l i).map f:=by
 unfold at_;split
 ·rw [List.getElem?_map]
 ·rfl
theorem Ut.Ft {fu:Nat}(P:Ii p l fu) (h:Ut p l sa bs k d):(l.filter bh).map va.gf=bs.map Od.cap:=by
 have e:=h.inv.Hb.cap;have oa:=h.Yd;refine List.ext_getElem? fun i=>?_;have a:(Km l)[i]?=(bs.map fun b=>b.cap.toNat)[i]?:=by rw [e]
 unfold Km at a;rw [List.getElem?_map,List.getElem?_map] at a ⊢;cases f:bs[i]? with
 | none =>
  rw [f] at a;cases c:(l.filter bh)[i]? with
  | none=>rfl
  | some x=>rw [c] at a; cases a
 | some b =>
  rw [f] at a;cases c:(l.filter bh)[i]? with
  | none=>rw [c] at a; cases a
  | some x =>
   rw [c] at a;have g:x.gf.toNat=b.cap.toNat:=Option.some.inj a;have j:=(h.inv.Hb.le b (List.mem_of_getElem? f)).1;obtain ⟨m1,m2⟩:=List.mem_filter.1 (List.mem_of_getElem? c);have c0:=(P.F x m1).wi (by simpa [bh] using m2);show some x.gf=some b.cap;congr 1;omega
theorem vA {fu:Nat}(P:Ii p l fu) (h:Ut p l sa bs k d):∀ (n i:Nat),i≤sa.length→sa.length<n+i→bn (Qk sa bs d,⟨0,0⟩) ((l.filter bh).map va.gf) n (i:Int)=some true
 | 0,i,m,o=>by omega
 | n+1,i,m,o=>by
  have v:sa.length≤30:=by rw [h.vf];exact Nat.le_trans (List.length_filter_le _ _) P.R.ok.le
  have go:i<sa.length→bn (Qk sa bs d,⟨0,0⟩) ((l.filter bh).map va.gf) n ((i:Int)+1)=some true:=fun a=>by
   have:=vA P h n (i+1) (by omega) (by omega);rwa [show ((i+1:Nat):Int)=(i:Int)+1 by omega] at this
  rw [bn];have Xa:(Qk sa bs d).zi.length=sa.length:=by unfold Qk;simp
  by_cases a:i<sa.length
  ·have e:i64 ((i:Int)+1)=some ((i:Int)+1):=if_pos (by omega);obtain ⟨t,g⟩:∃ t,sa[i]?=some t:=⟨_,List.getElem?_eq_getElem a⟩;have r:at_ (Qk sa bs d).zi (i:Int)=some (Ih t):=by
    show at_ (sa.map Ih) _=_;rw [zw,sg,g];rfl
   rw [if_pos (by show (i:Int)<((Qk sa bs d).zi.length:Int);omega)];show (at_ (Qk sa bs d).zi (i:Int)).bind _=_;rw [r];simp only [Option.bind_some];have j:∀ b,(b=true→cq (Qk sa bs d,⟨0,0⟩) ((l.filter bh).map va.gf) (i:Int) (Ih t) (bn (Qk sa bs d,⟨0,0⟩) ((l.filter bh).map va.gf) n) b=some true):=fun b s=>by
    rw [cq,if_pos s,e];exact go a
   rcases h.task (List.mem_of_getElem? g) with ⟨q,-⟩ | ⟨q,-⟩ | ⟨q,b,c,f⟩ | ⟨q,b,c,f⟩
   ·rw [if_pos (show (Ih t).State=4 from q)];exact j _ (decide_eq_true q)
   ·rw [if_neg (show ¬ (Ih t).State=4 by show ¬ t.state=4;omega)];exact j _ (decide_eq_true q)
   ·rw [if_neg (show ¬ (Ih t).State=4 by show ¬ t.state=4;omega)];rw [cq,if_neg (by show ¬ decide (t.state=5)=true;simp;omega),if_pos (show (Ih t).State=2 from q)];have ia:at_ (Qk sa bs d).bl (Ih t).yo=some b.words:=by
     show at_ (bs.map Od.words) t.box=_;rw [zw,c];rfl
    have u:at_ ((l.filter bh).map va.gf) (Ih t).yo=some b.cap:=by
     rw [h.Ft P];show at_ (bs.map Od.cap) t.box=_;rw [zw,c];rfl
    show (at_ (Qk sa bs d).bl _).bind _=_;rw [ia];simp only [Option.bind_some];rw [u];simp only [Option.bind_some];rw [if_neg (by simpa using f),e];exact go a
   ·rw [if_neg (show ¬ (Ih t).State=4 by show ¬ t.state=4;omega)];rw [cq,if_neg (by show ¬ decide (t.state=5)=true;simp;omega),if_neg (show ¬ (Ih t).State=2 by show ¬ t.state=2;omega),if_pos (show (Ih t).State=3 from q)];have ia:at_ (Qk sa bs d).bl (Ih t).yo=some b.words:=by
     show at_ (bs.map Od.words) t.box=_;rw [zw,c];rfl
    show (at_ (Qk sa bs d).bl _).bind _=_;rw [ia];simp only [Option.bind_some];rw [if_neg (by rw [f];simp),e];exact go a
  ·rw [if_neg (by show ¬ (i:Int)<((Qk sa bs d).zi.length:Int);omega)]
theorem zB {a i:Int}{x:va}{K:Int→Int→List Int→Option Bool}{L:List Int}(b:0≤a∧a≤1000) (c:0≤i∧i≤1000):Ts a i x K L=if x.Kind=4 then K (a+1) (i+1) L else K a (i+1) L:=by
 rw [Ts];by_cases h:x.Kind=4
 ·rw [if_pos h,if_pos h,xf (by omega)];show (i64 (i+1)).bind _=_;rw [xf (by omega)];rfl
 ·rw [if_neg h,if_neg h,xf (by omega)];rfl
theorem IE (oa:l.length≤30){r8:hp×Fe}(b:r8.1.zi.length=(l.filter kh).length) (c:r8.1.bl.length=(l.filter bh).length) (e:¬ (20000:Int)<r8.1.Steps) (f:bn r8 ((l.filter bh).map va.gf) (r8.1.zi.length+1) 0=some true):∀ (n i:Nat),i≤l.length→l.length<n+i→So l r8 n (((l.take i).filter kh).length:Int) (i:Int) (((l.take i).filter bh).map va.gf)=some true:=by
 intro n
 induction n with
 | zero=>intro i b c; omega
 | succ n g =>
  intro i g1 g2;rw [So];by_cases h:i<l.length
  ·have m:i64 ((i:Int)+1)=some ((i:Int)+1):=if_pos (by omega);obtain ⟨x,d⟩:∃ x,l[i]?=some x:=⟨_,List.getElem?_eq_getElem h⟩;have aa:l.take (i+1)=l.take i++[x]:=by rw [List.take_add_one,d];rfl
   have a:=g (i+1) (by omega) (by omega);rw [show ((i+1:Nat):Int)=(i:Int)+1 by omega,aa,List.filter_append,List.filter_append] at a;rw [if_pos (by omega),sg,d];simp only [Option.bind_some];have o:((l.take i).filter kh).length≤30:=Nat.le_trans (List.length_filter_le _ _) (by rw [List.length_take];omega);have p:((l.take i).filter bh).length≤30:=Nat.le_trans (List.length_filter_le _ _) (by rw [List.length_take];omega);have j:[x].filter kh=if x.Kind=4 then [x] else []:=by
    by_cases k:x.Kind=4
    ·rw [if_pos k];exact List.filter_cons_of_pos (decide_eq_true k)
    ·rw [if_neg k];exact List.filter_cons_of_neg (by simpa [kh] using k)
   have ia:[x].filter bh=if x.Kind=1 then [x] else []:=by
    by_cases k:x.Kind=1
    ·rw [if_pos k];exact List.filter_cons_of_pos (decide_eq_true k)
    ·rw [if_neg k];exact List.filter_cons_of_neg (by simpa [bh] using k)
   rw [j,ia] at a;generalize q:(l.take i).filter kh=A at *;generalize r:(l.take i).filter bh=X at *;by_cases k1:x.Kind=1
   ·rw [if_pos k1,rp (by rw [List.length_map,List.length_singleton];omega)];simp only [Option.bind_some];rw [zB (by omega) (by omega),if_neg (by omega)];rw [if_neg (by omega),if_pos k1,List.append_nil,List.map_append] at a;exact a
   ·rw [if_neg k1,zB (by omega) (by omega)];rw [if_neg k1,List.append_nil] at a;by_cases Xe:x.Kind=4
    ·rw [if_pos Xe] at a ⊢;rw [List.length_append,List.length_singleton,Int.natCast_add] at a;exact a
    ·rw [if_neg Xe] at a ⊢;rw [List.append_nil] at a;exact a
  ·rw [if_neg (by omega)];obtain rfl:i=l.length:=by omega
   rw [List.take_length,if_neg (by rw [b];simp),if_neg (by rw [c];simp),Us,if_neg (by simpa using e)];exact f
end
theorem jE (l:List va):ru 1000000 l=some true:=by
 obtain ⟨f,-,b,c⟩:=HJ (fu:=1000000) (by omega) l;have key:((jn 1000000 l).bind fun r8=>if r8.2.tg≠0 then some (decide ((r8.1.zi.length:Int)=0)) else So l r8 (l.length+1) 0 0 [])=some true:=by
  by_cases a:f.tg=0
  ·obtain ⟨p,P,⟨e,-⟩ | ⟨sa,bs,k,d,e,R⟩⟩:=c a
   ·rw [e];rfl
   ·rw [e];simp only [Option.bind_some];rw [if_neg (by simp)];exact IE P.R.ok.le (r8:=(Qk sa bs d,⟨0,0⟩)) (by show (sa.map Ih).length=_;rw [List.length_map,R.vf]) (by show (bs.map Od.words).length=_;rw [List.length_map,R.Yd]) (by have:=R.inv.hx;show ¬ (20000:Int)<(d:Int);omega) (vA P R _ 0 (by omega) (by show _<(sa.map Ih).length+1+0;rw [List.length_map];omega)) (l.length+1) 0 (by omega) (by omega)
  ·rw [b a];simp only [Option.bind_some];rw [if_pos a];rfl
 unfold ru;rw [TG];exact key
end Go.Y
