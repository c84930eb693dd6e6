/- Texts of Wd. -/
import Derived.Test.YtafjdiifkckmbaaGreatDoorCXu
import Derived.Test.YtafjdiifkckmbaaGreatDoorCFl
import Derived.Test.YtafjdiifkckmbaaGreatDoorCMd
import Derived.Test.YtafjdiifkckmbaaGreatDoorCWc
import Derived.Tactics2
import Derived.Recover
import Derived.Laws.Pointers
import Derived.Test.YtafjdiifkckmbaaGreatDoorCWb
set_option linter.unusedSimpArgs false
set_option linter.unusedVariables false
set_option linter.unusedSectionVars false
namespace Go.Y
open Go.Bc Go.Re
section
abbrev ob (b:Nat):Value:=.pointer (some ⟨b,0,none⟩)
abbrev bh (k:Nat) (cs:List Value):Value:=.func (.func k) ⟨[]⟩ ⟨cs⟩
structure Xd where
 La:Nat
 Ea:Nat
 A:List Nat
 B:List Nat
 bb:List Nat
structure Xd.le (G kg:Xd):Prop where
 La:kg.La=G.La
 Ea:kg.Ea=G.Ea
 bb:kg.bb=G.bb
 A:∀ (i b:Nat),G.A[i]?=some b->kg.A[i]?=some b
 B:∀ (i b:Nat),G.B[i]?=some b->kg.B[i]?=some b
theorem Xd.le.r {G:Xd}:G.le G:=⟨rfl,rfl,rfl,λ_ _ h=>h,λ_ _ h=>h⟩
theorem Xd.le.t {a b c:Xd}(h:a.le b) (k:b.le c):a.le c:=⟨k.La.trans h.La,k.Ea.trans h.Ea,k.bb.trans h.bb,λi x e=>k.A i x (h.A i x e),λi x e=>k.B i x (h.B i x e)⟩
def Fk (G:Xd) (v:Option Addr):Option Nat->Prop
 | none=>v=none
 | some i=>∃ b,G.A[i]?=some b/\v=some ⟨b,0,none⟩
theorem Fk.up {G kg:Xd}{v:Option Addr}{s:Option Nat}(h:Fk G v s) (l:G.le kg):Fk kg v s:=by
 cases s with
 | none=>exact h
 | some i=>obtain ⟨b,a,c⟩:=h; exact ⟨b,l.A i b a,c⟩
def Sy (E:Sd) (G:Xd) (n:Je) (b:Nat):Prop:=∃ i:Nat,Sa E.order n=some (i:Int)/\G.bb[i]?=some b
theorem Sy.up {E:Sd}{G kg:Xd}{n:Je}{b:Nat}(h:Sy E G n b) (l:G.le kg):Sy E kg n b:=by
 obtain ⟨i,a,c⟩:=h;exact ⟨i,a,by rw [l.bb];exact c⟩
mutual
def Ye (E:Sd) (μ:M) (G:Xd):Ze->Nat->List Value->Prop
 | .all l s Jd k,K,cs=>K=143/\∃ gb c d f o g h a mc p Ed b,cs=[ob gb,ob c,ob d,ob f,ob o]/\xa μ gb 0 [ob G.Ea]/\za μ g h l/\xa μ c 0 [.slice g l.length h]/\Fk G a s/\xa μ d 0 [.pointer a]/\za μ mc p Jd/\xa μ f 0 [.slice mc Jd.length p]/\xa μ o 0 [bh Ed b]/\tl E μ G k Ed b
 | .stat l s e k,K,cs=>K=56/\∃ i Zy gb c d f j ve ce m q x n g h a Ed b,cs=[ob i,ob Zy,ob j,ob ve,ob ce]/\at_ l 0=some x/\Fe μ n x/\xa μ i 0 [n]/\xa μ Zy 0 [bh 51 [ob gb,ob c,ob d,ob f]]/\xa μ gb 0 [ob G.Ea]/\za μ g h l/\xa μ c 0 [.slice g l.length h]/\xa μ d 0 [ob q]/\vh E μ G e q/\xa μ f 0 [bh Ed b]/\re E μ G k Ed b/\Fk G a s/\xa μ j 0 [.pointer a]/\xa μ ve 0 [ob G.Ea]/\xa μ ce 0 [ob m]/\vh E μ G e m
 | .qf x s e k,K,cs=>K=94/\∃ b ve i j ce m n a Ed r,cs=[ob b,ob ve,ob i,ob j,ob ce]/\xa μ b 0 [bh Ed r]/\re E μ G k Ed r/\xa μ ve 0 [ob G.Ea]/\Fe μ n x/\xa μ i 0 [n]/\Fk G a s/\xa μ j 0 [.pointer a]/\xa μ ce 0 [ob m]/\vh E μ G e m
def tl (E:Sd) (μ:M) (G:Xd):Zk->Nat->List Value->Prop
 | .ex x k,K,cs=>K=98/\∃ a b ve c Ed d,cs=[ob a,ob b,ob ve]/\Fe μ c x/\xa μ a 0 [c]/\xa μ b 0 [bh Ed d]/\Ye E μ G k Ed d/\xa μ ve 0 [ob G.Ea]
def re (E:Sd) (μ:M) (G:Xd):fe->Nat->List Value->Prop
 | .zero k,K,cs=>K=100/\∃ a Ed c,cs=[ob a]/\xa μ a 0 [bh Ed c]/\Ye E μ G k Ed c
 | .recv n k,K,cs=>K=142/\∃ f ve h i a b Ed c,cs=[ob f,ob ve,ob h,ob i,ob a]/\Sy E G n b/\xa μ f 0 [ob b]/\xa μ ve 0 [ob G.Ea]/\xa μ h 0 [S n]/\xa μ i 0 [bh 142 [ob f,ob ve,ob h,ob i,ob a]]/\xa μ a 0 [bh Ed c]/\Ye E μ G k Ed c
 | .send n v k,K,cs=>K=105/\∃ f ve h i fg a b Ed c,cs=[ob f,ob ve,ob h,ob i,ob fg,ob a]/\Sy E G n b/\xa μ f 0 [ob b]/\xa μ ve 0 [ob G.Ea]/\xa μ h 0 [S n]/\xa μ i 0 [bh 105 [ob f,ob ve,ob h,ob i,ob fg,ob a]]/\xa μ fg 0 [ca v]/\xa μ a 0 [bh Ed c]/\re E μ G k Ed c
 | .done g,K,cs=>K=144/\∃ j ve b,cs=[ob j,ob ve]/\G.B[g]?=some b/\xa μ j 0 [ob b]/\xa μ ve 0 [ob G.Ea]
 | .stats l s e k,K,cs=>K=52/\∃ ve r m ce a o q t u p Ed c,cs=[ob ve,ob r,ob m,ob ce,ob a]/\xa μ ve 0 [ob G.Ea]/\cut q 1 q.length=some l/\za μ t u q/\xa μ r 0 [.slice t q.length u]/\Fk G p s/\xa μ m 0 [.pointer p]/\xa μ ce 0 [ob o]/\vh E μ G e o/\xa μ a 0 [bh Ed c]/\re E μ G k Ed c
 | .qf x s e k,K,cs=>K=95/\∃ ve w m ce a o y p Ed c,cs=[ob ve,ob w,ob m,ob ce,ob a]/\xa μ ve 0 [ob G.Ea]/\Fe μ y x/\xa μ w 0 [y]/\Fk G p s/\xa μ m 0 [.pointer p]/\xa μ ce 0 [ob o]/\vh E μ G e o/\xa μ a 0 [bh Ed c]/\re E μ G k Ed c
 | .fin,K,cs=>K=29/\∃ ve,cs=[ob ve]/\xa μ ve 0 [ob G.Ea]
 | .Yi d,K,cs=>K=30/\∃ ve Pk Fq j an,cs=[ob ve,ob Pk,ob Fq]/\xa μ ve 0 [ob G.Ea]/\Fe μ an d/\xa μ Pk 0 [an]/\xa μ Fq 0 [bh 29 [ob j]]/\xa μ j 0 [ob G.Ea]
def vh (E:Sd) (μ:M) (G:Xd):hh->Nat->Prop
 | .ret k,b=>∃ Ed a,xa μ b 0 [bh Ed a,.nilFunc]/\Ye E μ G k Ed a
 | .stop k,b=>∃ Ed a,xa μ b 0 [.nilFunc,bh Ed a]/\re E μ G k Ed a
end
section
variable {E:Sd}{μ J:M}{G kg:Xd}(lm:ha μ J) (ec:G.le kg)
include lm ec
mutual
theorem Ye.up:∀ {k:Ze}{K:Nat}{cs:List Value},Ye E μ G k K cs->Ye E J kg k K cs
 | .all l s Jd k,K,cs,⟨h,gb,q,r,t,B,u,v,a,mc,C,Ed,b,c,d,f,g,i,j,m,n,o,p⟩=>by
  rw [Ye,ec.Ea];exact ⟨h,gb,q,r,t,B,u,v,a,mc,C,Ed,b,c,d.up lm,f.up lm,g.up lm,i.up ec,j.up lm,m.up lm,n.up lm,o.up lm,tl.up p⟩
 | .stat l s e k,K,cs,⟨h,w,Zy,gb,q,r,t,y,ve,ce,z,D,x,A,u,v,a,Ed,b,c,d,f,g,i,j,m,n,o,p,F,H,L,M,N,O,P⟩=>by
  rw [Ye,ec.Ea];exact ⟨h,w,Zy,gb,q,r,t,y,ve,ce,z,D,x,A,u,v,a,Ed,b,c,d,f.up lm,g.up lm,i.up lm,j.up lm,m.up lm,n.up lm,o.up lm,vh.up p,F.up lm,re.up H,L.up ec,M.up lm,N.up lm,O.up lm,vh.up P⟩
 | .qf x s e k,K,cs,⟨h,b,ve,w,y,ce,z,A,a,Ed,Q,c,d,f,g,i,j,m,n,o,p⟩=>by
  rw [Ye,ec.Ea];exact ⟨h,b,ve,w,y,ce,z,A,a,Ed,Q,c,d.up lm,re.up f,g.up lm,i.up lm,j.up lm,m.up ec,n.up lm,o.up lm,vh.up p⟩
theorem tl.up:∀ {k:Zk}{K:Nat}{cs:List Value},tl E μ G k K cs->tl E J kg k K cs
 | .ex x k,K,cs,⟨h,a,b,ve,c,Ed,d,e,f,g,i,j,l⟩=>by
  rw [tl,ec.Ea];exact ⟨h,a,b,ve,c,Ed,d,e,f.up lm,g.up lm,i.up lm,Ye.up j,l.up lm⟩
theorem re.up:∀ {k:fe}{K:Nat}{cs:List Value},re E μ G k K cs->re E J kg k K cs
 | .zero k,K,cs,⟨h,j,Ed,m,a,c,f⟩=>by
  rw [re];exact ⟨h,j,Ed,m,a,c.up lm,Ye.up f⟩
 | .recv n k,K,cs,⟨h,u,ve,w,y,j,b,Ed,m,a,c,f,i,o,p,q,r⟩=>by
  rw [re,ec.Ea];exact ⟨h,u,ve,w,y,j,b,Ed,m,a,c.up ec,f.up lm,i.up lm,o.up lm,p.up lm,q.up lm,Ye.up r⟩
 | .send n v k,K,cs,⟨h,u,ve,w,y,fg,j,b,Ed,m,a,c,f,i,o,p,q,r,t⟩=>by
  rw [re,ec.Ea];exact ⟨h,u,ve,w,y,fg,j,b,Ed,m,a,c.up ec,f.up lm,i.up lm,o.up lm,p.up lm,q.up lm,r.up lm,re.up t⟩
 | .done g,K,cs,⟨h,z,ve,b,a,c,f,i⟩=>by
  rw [re,ec.Ea];exact ⟨h,z,ve,b,a,ec.B _ _ c,f.up lm,i.up lm⟩
 | .stats l s e k,K,cs,⟨h,ve,H,A,ce,j,C,L,M,N,D,Ed,m,a,c,f,i,o,p,q,r,t,F,O⟩=>by
  rw [re,ec.Ea];exact ⟨h,ve,H,A,ce,j,C,L,M,N,D,Ed,m,a,c.up lm,f,i.up lm,o.up lm,p.up ec,q.up lm,r.up lm,vh.up t,F.up lm,re.up O⟩
 | .qf x s e k,K,cs,⟨h,ve,P,A,ce,j,C,Q,D,Ed,m,a,c,f,i,o,p,q,r,t,F⟩=>by
  rw [re,ec.Ea];exact ⟨h,ve,P,A,ce,j,C,Q,D,Ed,m,a,c.up lm,f.up lm,i.up lm,o.up ec,p.up lm,q.up lm,vh.up r,t.up lm,re.up F⟩
 | .fin,K,cs,⟨h,ve,a,c⟩=>by
  rw [re,ec.Ea];exact ⟨h,ve,a,c.up lm⟩
 | .Yi d,K,cs,⟨h,ve,Pk,Fq,z,an,a,c,f,i,o,p⟩=>by
  rw [re,ec.Ea];exact ⟨h,ve,Pk,Fq,z,an,a,c.up lm,f.up lm,i.up lm,o.up lm,p.up lm⟩
theorem vh.up:∀ {e:hh}{a:Nat},vh E μ G e a->vh E J kg e a
 | .ret k,a,⟨Ed,b,c,d⟩=>by
  rw [vh];exact ⟨Ed,b,c.up lm,Ye.up d⟩
 | .stop k,a,⟨Ed,b,c,d⟩=>by
  rw [vh];exact ⟨Ed,b,c.up lm,re.up d⟩
end
end
end
def xf {α:Type}(R:α->Nat->Ha->Prop):List α->List Nat->List Ha->Prop
 | [],[],[]=>True
 | x::xs,b::bs,r::rs=>R x b r/\xf R xs bs rs
 | _,_,_=>False
section
variable {α:Type}{R R':α->Nat->Ha->Prop}
theorem xf.imp (h:∀ x b r,R x b r->R' x b r):∀ {xs:List α}{bs:List Nat}{a:List Ha},xf R xs bs a->xf R' xs bs a
 | [],[],[],_=>trivial
 | x::xs,b::bs,r::a,⟨c,d⟩=>⟨h _ _ _ c,xf.imp h d⟩
 | [],[],_::_,k=>k.elim
 | [],_::_,_,k=>k.elim
 | _::_,[],_,k=>k.elim
 | _::_,_::_,[],k=>k.elim
theorem xf.len:∀ {xs:List α}{bs:List Nat}{a:List Ha},xf R xs bs a->bs.length=xs.length/\a.length=xs.length
 | [],[],[],_=>⟨rfl,rfl⟩
 | x::xs,b::bs,r::a,⟨_,c⟩=>by have:=xf.len c; simp [this.1,this.2]
 | [],[],_::_,k=>k.elim
 | [],_::_,_,k=>k.elim
 | _::_,[],_,k=>k.elim
 | _::_,_::_,[],k=>k.elim
theorem xf.snoc {x:α}{b:Nat}{r:Ha}(h:R x b r):∀ {xs:List α}{bs:List Nat}{a:List Ha},xf R xs bs a->xf R (xs++[x]) (bs++[b]) (a++[r])
 | [],[],[],_=>⟨h,trivial⟩
 | x::xs,b::bs,r::a,⟨c,d⟩=>⟨c,xf.snoc h d⟩
 | [],[],_::_,k=>k.elim
 | [],_::_,_,k=>k.elim
 | _::_,[],_,k=>k.elim
 | _::_,_::_,[],k=>k.elim
theorem xf.get:∀ {xs:List α}{bs:List Nat}{a:List Ha}{i:Nat}{x:α},xf R xs bs a->xs[i]?=some x->∃ b r c f,bs[i]?=some b/\a=c++r::f/\R x b r/\c.length=i/\∀ d r',R d b r'->xf R (xs.set i d) bs (c++r'::f)
 | x::xs,b::bs,r::a,0,y,⟨g,h⟩,e=>by
  cases e;exact ⟨b,r,[],a,rfl,rfl,g,rfl,λd r' j=>⟨j,h⟩⟩
 | x::xs,b::bs,r::a,i+1,y,⟨g,h⟩,e=>by
  obtain ⟨Rc,r',c,f,g1,rfl,g3,g5,l⟩:=xf.get h (by simpa using e);exact ⟨Rc,r',r::c,f,by simpa using g1,rfl,g3,by simp [g5],λd q j=>⟨g,l d q j⟩⟩
 | [],_,_,_,_,_,e=>by simp at e
 | _::_,[],_,_,_,k,_=>k.elim
 | _::_,_::_,[],_,_,k,_=>k.elim
end
variable (E:Sd) (μ:M) (G:Xd)
def nq (c:fi) (b:Nat) (r:Ha):Prop:=∃ up,r=.ea b 183 [S c.name,ca c.v,.pointer up]/\Fk G up c.up
def Ty (v:Value):Option Nat->Prop
 | none=>v=.pointer none
 | some u=>∃ b,G.B[u]?=some b/\v=ob b
def ev (v:Value):Option Ze->Prop
 | none=>v=.nilFunc
 | some k=>∃ K cs,v=bh K cs/\Ye E μ G k K cs
def Tt (v:Value):Option fe->Prop
 | none=>v=.nilFunc
 | some k=>∃ K cs,v=bh K cs/\re E μ G k K cs
def Uu (c:Ng) (b:Nat) (r:Ha):Prop:=∃ a ap up d on,r=.ea b 117 [a,.pointer ap,.bool c.begun,.bool c.going,.bool c.ended,up,d,on]/\Fe μ a c.Im/\Fk G ap c.args/\Ty G up c.up/\ev E μ G d c.back/\ev E μ G on c.vk
def Jt (c:Rd) (b:Nat) (r:Ha):Prop:=∃ a k,r=.ea b 72 [ca c.cap,.slice a c.words.length k]/\za μ a k c.words
structure ie where
 md:Nat
 Tb:Nat
 nb:Nat
 cj:List (Je×km)
 cc:Value
 rb:Value
 Hb:Value
 xb:Nat
 oe:List Value
 kh:List Value
 Tc:List Ha
 Gd:List Ha
 Ya:List Ha
def ie.res (X:ie) (G:Xd) (z:Sc) (hf:List Ha):List Ha :=
 .ea G.La 66 [.map (some X.md),.map (some X.Tb),.map (some X.nb),ca z.nodes]::
 .ea G.Ea 81 [ob G.La,X.cc,X.rb,ob X.xb,ca z.t.state,ca z.t.box,ca z.t.ye,X.Hb]::
 .row X.rb 79 1 ((G.B.drop 1).map vc.mk).length X.oe::.row X.Hb 2 1 z.t.out.length X.kh::(X.Tc++(X.Gd++(X.Ya++hf)))
structure xg (z:Sc) (X:ie):Prop where
 vd:0<=z.nodes
 ld:z.nodes<=20000
 md:Tf μ X.md E.defs
 Tb:Tf μ X.Tb X.cj
 nb:Tf μ X.nb E.order
 wh:∀ (n:Je) (i b:Nat),Sa E.order n=some (i:Int)->G.bb[i]?=some b->Sa X.cj n=some ⟨some b⟩
 now:G.B[z.t.now]?=some X.xb
 Rh:Tt E μ G X.cc z.t.mm
 dc:qa μ X.oe ((G.B.drop 1).map vc.mk)
 out:qa μ X.kh z.t.out
 Tc:xf (nq G) z.t.de G.A X.Tc
 Gd:xf (Uu E μ G) z.t.Db G.B X.Gd
 Ya:xf (Jt μ) z.boxes G.bb X.Ya
 hf:z.t.Db.length<=31
variable {E μ G}
section
variable {J:M}{kg:Xd}
theorem nq.up {c:fi}{b:Nat}{r:Ha}(h:nq G c b r) (l:G.le kg):nq kg c b r:=by
 obtain ⟨up,a,d⟩:=h;exact ⟨up,a,d.up l⟩
theorem Ty.up {v:Value}{u:Option Nat}(h:Ty G v u) (l:G.le kg):Ty kg v u:=by
 cases u with
 | none=>exact h
 | some u=>obtain ⟨b,a,c⟩:=h; exact ⟨b,l.B _ _ a,c⟩
theorem ev.up {v:Value}{k:Option Ze}(h:ev E μ G v k) (m:ha μ J) (l:G.le kg):ev E J kg v k:=by
 cases k with
 | none=>exact h
 | some u=>obtain ⟨K,cs,a,b⟩:=h; exact ⟨K,cs,a,Ye.up m l b⟩
theorem Tt.up {v:Value}{k:Option fe}(h:Tt E μ G v k) (m:ha μ J) (l:G.le kg):Tt E J kg v k:=by
 cases k with
 | none=>exact h
 | some u=>obtain ⟨K,cs,a,b⟩:=h; exact ⟨K,cs,a,re.up m l b⟩
theorem Uu.up {c:Ng}{b:Nat}{r:Ha}(h:Uu E μ G c b r) (m:ha μ J) (l:G.le kg):Uu E J kg c b r:=by
 obtain ⟨a,ap,up,d,on,e,f,g,i,j,k⟩:=h;exact ⟨a,ap,up,d,on,e,f.up m,g.up l,i.up l,j.up m l,k.up m l⟩
theorem Jt.up {c:Rd}{b:Nat}{r:Ha}(h:Jt μ c b r) (m:ha μ J):Jt J c b r:=by
 obtain ⟨a,k,d,e⟩:=h;exact ⟨a,k,d,e.up m⟩
theorem xg.up {z:Sc}{X:ie}(h:xg E μ G z X) (m:ha μ J):xg E J G z X :=
 ⟨h.vd,h.ld,h.md.up m,h.Tb.up m,h.nb.up m,h.wh,h.now,h.Rh.up m .r,h.dc.up m,h.out.up m,h.Tc,h.Gd.imp λ_ _ _ k=>k.up m .r,h.Ya.imp λ_ _ _ k=>k.up m,h.hf⟩
end
def nW (E:Sd) (μ:M) (G:Xd):ah->Nat->List Value->Prop
 | .expr x s k,f,vs=>f=55/\∃ h a K cs,vs=[ob G.Ea,h,.pointer a,bh K cs]/\Fe μ h x/\Fk G a s/\Ye E μ G k K cs
 | .all l s Jd k,f,vs=>f=97/\∃ c d a mc j K cs,vs=[ob G.Ea,.slice c l.length d,.pointer a,.slice mc Jd.length j,bh K cs]/\za μ c d l/\Fk G a s/\za μ mc j Jd/\tl E μ G k K cs
 | .stats l s e k,f,vs=>f=31/\∃ c d a i K cs,vs=[ob G.Ea,.slice c l.length d,.pointer a,ob i,bh K cs]/\za μ c d l/\Fk G a s/\vh E μ G e i/\re E μ G k K cs
 | .qf x s e k,f,vs=>f=54/\∃ h a i K cs,vs=[ob G.Ea,h,.pointer a,ob i,bh K cs]/\Fe μ h x/\Fk G a s/\vh E μ G e i/\re E μ G k K cs
 | .ff k v,f,vs=>∃ cs,vs=[ca v]++cs/\Ye E μ G k f cs
 | .Jd k l,f,vs=>∃ c d cs,vs=[.slice c l.length d]++cs/\za μ c d l/\tl E μ G k f cs
 | .sd k,f,vs=>∃ cs,vs=[]++cs/\re E μ G k f cs
 | .recv n k,f,vs=>f=96/\∃ K cs,vs=[ob G.Ea,S n,bh K cs]/\Ye E μ G k K cs
 | .send n v k,f,vs=>f=58/\∃ K cs,vs=[ob G.Ea,S n,ca v,bh K cs]/\re E μ G k K cs
 | .resume g v k,f,vs=>f=102/\∃ b K cs,G.B[g]?=some b/\vs=[ob G.Ea,ob b,ca v,bh K cs]/\Ye E μ G k K cs
def tm:Unit->Value:=λ_=>.iface 60 (.agg ⟨[]⟩)
def wq {α:Type}:Option α->Except Unit α
 | none=>.error ()
 | some x=>.ok x
def Gj (E:Sd) (μb:M) (Gb:Xd) (da:World) (rsF:List Ha) (x:Option fe×Sc) (v:Value) (w:World):Prop:=∃ μ G X,ha μb μ/\Gb.le G/\xg E μ G x.2 X/\Tt E μ G v x.1/\fa μ da w (X.res G x.2 rsF)
def al (μb:M) (da:World) (rsF:List Ha) (w:World):Prop:=∃ μ,ha μb μ/\fa μ da w rsF
end Go.Y
set_option maxRecDepth 100000
set_option maxHeartbeats 20000000
namespace Go.Proofs.YtafjdiifkckmbaaGreatDoor
open Go.Bc Go.Re Go.Y
theorem bI {α:Type}{R:α->Value->World->Prop}{E:World->Prop}{I:M}{da w:World}{b:List Ha}{md Tb nb:Value}{n:Int}{La:Nat}(c:i64 (n+1)=some (n+1)) (d:(20000:Int)<n+1) (k:∀ w',fa I da w' (.ea La 66 [md,Tb,nb,ca (n+1)]::b)->E w') (a:fa I da w (.ea La 66 [md,Tb,nb,ca n]::b)) :
  nc Tryz.prog 53 [ob La] w tm (.error ():Except Unit α) R E:=by
 refine jf Tryz.func53 rfl (frm:=[_,_,_,_,_,_,_,_,_,_,_,_,_,_,_,_]) rfl<|aa ?_;refine wl<|uo (ba d5) db c (wa Md)<|aa<|wl<|yc kc (ba d8) (ba d6) rfl a d0 pc rfl Ba Ia λe a=>?_;refine aa ?_;refine Le (ba<|oa d3) d ?_;refine aa ?_;refine wl<|Ke vG gW eb.z (wa<|tb Yc)<|wl<|UQ (by kernel_rfl) (ba<|oa d4) (wa<|tb td) ?_;exact wl<|TQ (ba<|oa d5)<|JG (P:=Tryz.prog) (fn:=Tryz.f53)<|k _ a
theorem sK {I:M}{da w:World}{G:Xd}{Jc:List fi}{Tc k:List Ha}{hc:List UInt8}{fu:Nat}{e:Option Addr}{s:Option Nat}{i b:Nat}(p:xf (nq G) Jc G.A Tc) (q:∀ r ∈ Tc,r ∈ k) (g:Fk G e s) (d:ym Jc hc fu s=some i) (u:G.A[i]?=some b) (x:fa I da w k) :
  kb Tryz.prog 57 [.pointer e,S hc] w (λv w'=>v=ob b/\w'=w):=by
 refine enter Tryz.func57 rfl (frm:=[_,_,_,_,_,_,_,_,_,_,_,_,_,_,_,_]) rfl<|aa<|ma<|Ra ?_;refine qo (rg 5 10) (by decide) (λn m h=>∃ (e:Option Addr) (s:Option Nat),m=(.i (.pointer e)::(qg (Xc 5 [])))/\ym Jc hc n s=some i/\Fk G e s/\h=w) (by rintro _ _ _ ⟨_,_,rfl,_⟩;rfl) fu _ mc ⟨e,s,rfl,d,g,rfl⟩ ?_;clear d g;rintro n _ t h ⟨e,s,rfl,d,g,rfl⟩;cases n with
 | zero=>cases d
 | succ n =>
 cases s with
 | none=>cases d
 | some j =>
 rw [ym] at d;obtain ⟨c,y,d⟩:=te d;obtain ⟨a,l,rfl⟩:=g;obtain ⟨f,r,C,D,g1,g2,⟨up,rfl,E⟩,-,-⟩:=p.get y;obtain rfl:f=a:=Option.some.inj (g1.symm.trans l);have z:Ck h f 183 [S c.name,ca c.v,.pointer up]:=x.all (.ea f 183 [S c.name,ca c.v,.pointer up]) (q _ (by rw [g2];simp));have o:dj h f 0 [S c.name,ca c.v,.pointer up]:=Ck.cells z;refine aa<|ma ?_;refine aa ?_;refine wl<|bp yg (ba d7) (o.one d0) (wa Zd) ?_;refine aa ?_;refine Qb (ba<|oa d0) (λB=>?_)<|λheq=>?_
 ·rw [if_neg B] at d;refine aa<|Ra ?_;refine aa ?_;exact wl<|bp UF (ba<|oa d3) (o.one d2) (wa<|tb Yc) uc
 ·rw [if_pos (Decidable.not_not.1 heq)] at d;obtain rfl:=lv d;obtain rfl:f=b:=Option.some.inj (l.symm.trans u);refine aa ?_;exact Hd rfl d4 ⟨rfl,rfl⟩
def iC (G:Xd) (Jc:List fi) (a:List fi) (b:Option Nat) (gs:List Ha) (c:Option Addr):Prop:=∃ bs new,a=Jc++new/\xf (nq { G with A:=G.A++bs }) new bs gs/\Fk { G with A:=G.A++bs } c b
theorem Xd.le.app {G:Xd}{bs:List Nat}:G.le { G with A:=G.A++bs }:=⟨rfl,rfl,rfl,λi b h=>by
 show (G.A++bs)[i]?=some b;rw [List.getElem?_append_left (List.getElem?_eq_some_iff.1 h).1];exact h,λ_ _ h=>h⟩
theorem OR {I:M}{da w:World}{G:Xd}{Jc k:List fi}{p:Option Nat}{d:va}{l:List Int}{Bd:Option Addr}{Cd:Nat}{j:List Ha}{an:Value}(E:G.A.length=Jc.length) (c:Kj d.Params l Jc none=some (k,p)) (F:za I Bd Cd l) (H:Fe I an d) (b:fa I da w j) :
  kb Tryz.prog 99 [an,.slice Bd l.length Cd] w (λv w'=>∃ (gs:List Ha) (e:Option Addr),v=.pointer e/\iC G Jc k p gs e/\fa I da w' (gs++j)):=by
 obtain ⟨U,V,W,rfl,X,K⟩:=H;obtain ⟨pa,gb,a2,c2,rfl,B,Y⟩:=K;have Z:=za.len B;refine enter Tryz.func99 rfl (frm:=[_,_,_,_,_,_,_,_,_,_,_,_,_,_,_,_,_,_,_,_,_,_,_,_,_,_,_,_,_]) rfl<|aa ?_;refine ma<|aa<|Ra<|qo (rg 6 2++rg 14 14) (by decide) (λn m r=>∃ (i:Nat) (e:Option Addr) (s:Option Nat) (gs:List Ha) (bs:List Nat) (new:List fi),m=(sg (.i (.pointer e)::(Og 6 (sg (.i (ca i)::(Xc 14 (hi 24 [])))))))/\d.Params.length<n+i/\i<=d.Params.length/\Kj (d.Params.drop i) (l.drop i) (Jc++new) s=some (k,p)/\xf (nq { G with A:=G.A++bs }) new bs gs/\Fk { G with A:=G.A++bs } e s/\fa I da r (gs++j)) (by rintro _ _ _ ⟨_,_,_,_,_,_,rfl,_⟩;rfl) (d.Params.length+1) _ (Fo<|Ch<|WB<|Fo<|Ch<|jn<|uq Uj) ⟨0,none,none,[],[],[],rfl,by omega,by omega,by simpa using c,trivial,rfl,b⟩ ?_;clear b c;rintro u _ t r ⟨i,e,s,gs,bs,new,rfl,bb,Gb,c,x,C,b⟩;cases u with
 | zero=>omega
 | succ u =>
 refine aa<|ma<|Qb (ba<|oa d4) (λgc=>?_)<|λlc=>?_
 ·have y:i<d.Params.length:=by omega
  rw [List.drop_eq_getElem_cons y] at c;cases g:l.drop i with
  | nil=>rw [g] at c; cases c
  | cons v vs =>
  have rc:i<l.length:=by
   rcases Nat.lt_or_ge i l.length with q | q
   ·exact q
   ·rw [List.drop_of_length_le q] at g;cases g
  rw [g,Kj] at c;have Oa:at_ l (i:Int)=some v:=by
   have:=congrArg (λq=>q[0]?) g;simp only [List.getElem?_drop,Nat.add_zero] at this;simpa [at_] using this
  have L:at_ d.Params (i:Int)=some d.Params[i]:=by simp [at_,List.getElem?_eq_getElem y]
  have N:l.drop (i+1)=vs:=by
   have:=congrArg (λq=>q.drop 1) g;simpa [List.drop_drop] using this
  refine aa<|ma<|Ra ?_;refine aa ?_;obtain ⟨ka,bd,fd,O,f5,m6⟩:=ic.elem B L;obtain rfl:=m6;refine wl<|fp Tryz.underlying42 Wl (ba<|oa d1) (ba<|oa d3) O (wa<|tb Md) ?_;refine wl<|Yo Wl (ba<|oa d6) (f5 _ b.a) rfl (wa<|tb Td)<|wl<|oc Wl b λee r id b=>(pu (wa Td)<|aa ?_);refine wl<|Nb Wl (ba d7) (ba<|oa d7) rfl rfl b d0 rfl Ba Ia λmd b=>(aa ?_);refine Gf b λnd b=>?_;refine gg (i:=0) [0,1,7,8,9] (Gk λ_ _ _ h=>h.2) rfl rfl rfl (Xl rR (ba d7) rfl) (tb Zd)<|bk (i:=1) [1,7,8,9] (Gk λ_ _ _ h=>h.2) rfl rfl rfl (Yd yg (ba<|oa d8)<|(b.ea d0).cell d0) (tb Nd)<|gg (i:=2) [2,4,5,7,8,9] (Gk λ_ _ _ h=>h.2) rfl rfl rfl (Sl<|ba d1) (Fc Ba)<|gg (i:=3) [3,4,5,7,8,9] (Gk λ_ _ _ h=>h.2) rfl rfl rfl (Sl<|ba d6) (Fc pb) ?_;obtain ⟨Nc,Ph,rd,P,f13,m14⟩:=ic.elem F Oa;obtain rfl:=m14;refine gg (i:=4) [4,5,7,8,9] (Gk λ_ _ _ h=>h.2) rfl rfl rfl (Rb Tryz.underlying34 Rf (ba<|Da d0) (ba<|Da d1) P) (Fc Fb)<|bk (i:=5) [5,7,8,9] (Gk λ_ _ _ h=>h.2) rfl rfl rfl (Yd Rf (ba<|Da d2)<|(f13 _ b.a).one d0) (Fc pc)<|gg (i:=6) [6,7,8,9] (Gk λ_ _ _ h=>h.2) rfl rfl rfl (Sl<|ba d5) (Fc Yc)<|gg (i:=7) [7,8,9] (Gk λ_ _ _ h=>h.2) rfl rfl rfl (Zo MK QK<|eb.o rfl (ba<|oa d9) rfl rfl Ba<|eb.o rfl (ba<|Da d3) rfl rfl pb<|eb.o rfl (ba<|Da d4) rfl rfl Fb eb.z) (Fc td)<|Za rfl<|Kn (ba<|Da d5) rfl b λf wd Fd b=>(pu (wa<|Fc Md)<|⟨qd.z,?_⟩);refine gg (i:=9) [9] (Gk λ_ _ _ h=>h.2) rfl rfl rfl (XD<|ba<|Da d6) td<|fy ?_;replace b:=b.ia (Ic.s Ic.z);replace b:=b.drop ja.z;have D:(G.A++bs).length=Jc.length+new.length:=by rw [List.length_append,E,x.len.1]
  refine (λh=>Ym<|ag h) (Nh<|wl<|uo (ba<|oa d3) db (show i64 ((i:Int)+1)=some ((i:Int)+1) from if_pos (by omega)) (wa<|Fc Td) ?_);refine wl<|ui (ba<|Da d7) (wa<|tb pc)<|Yg<|aj ?_;have ec:Xd.le { G with A:=G.A++bs } { G with A:=G.A++(bs++[f]) }:=by
   rw [show G.A++(bs++[f])=(G.A++bs)++[f] by simp];exact Xd.le.app (G:={ G with A:=G.A++bs })
  have Q:(((i+1:Nat)):Int)=(i:Int)+1:=by omega
  have R:(G.A++(bs++[f]))[(Jc++new).length]?=some f:=by
   rw [<- List.append_assoc,List.getElem?_append_right (by rw [D,List.length_append];omega),D,List.length_append,Nat.sub_self];rfl
  have T:=b.perm (rs':=(gs++[.ea f 183 [S d.Params[i].Name,ca v,.pointer e]])++j) (by
   rw [List.append_assoc];exact List.perm_middle.symm)
  exact ⟨u,_,_,rfl,(Fo<|Ch<|WB<|Fo<|Ch<|jn<|uq Uj),⟨i+1,some ⟨f,0,none⟩,some (Jc++new).length,gs++[.ea f 183 [S d.Params[i].Name,ca v,.pointer e]],bs++[f],new++[⟨d.Params[i].Name,v,s⟩],by rw [Q],by omega,by omega,by rw [N,<- List.append_assoc];exact c,(x.imp λ_ _ _ q=>q.up ec).snoc ⟨e,rfl,C.up ec⟩,⟨f,R,rfl⟩,T⟩,Nat.lt_succ_self _⟩
 ·have y:i=d.Params.length:=by omega
  rw [List.drop_of_length_le (by omega),Kj] at c;cases c;refine aa ?_;exact Hd rfl d4 ⟨gs,e,rfl,⟨bs,new,rfl,x,C⟩,b⟩
end Go.Proofs.YtafjdiifkckmbaaGreatDoor
set_option maxHeartbeats 4000000
namespace Go.Proofs.YtafjdiifkckmbaaGreatDoor
open Go.Bc Go.Re Go.Y
section
theorem uy {μ:M}{da w:World}{l rs:List Ha}(a:fa μ da w (l++rs)):fa μ da w rs:=by
 have c:rs.Sublist (l++rs):=List.sublist_append_right _ _;exact ⟨a.keeps,λr e=>a.all r<|c.subset e,(c.filterMap _).nodup a.oi,λb f=>a.new b<|(c.filterMap _).subset f,(a.Xi.mono λk _ d=>⟨d.1,λg=>d.2<|(c.filterMap Ha.block).subset g⟩)⟩
section
variable {E:Sd}{μ:M}{G:Xd}{z:Sc}{X:ie}
theorem _root_.Go.Y.Ye.fn {k:Ze}{K:Nat}{cs:List Value}(h:Ye E μ G k K cs):fb Tryz.prog K:=by
 cases k with
 | all l s Jd k=>rw [Ye] at h; obtain ⟨rfl,-⟩:=h; infer_instance
 | stat l s e k=>rw [Ye] at h; obtain ⟨rfl,-⟩:=h; infer_instance
 | qf x s e k=>rw [Ye] at h; obtain ⟨rfl,-⟩:=h; infer_instance
theorem _root_.Go.Y.tl.fn {k:Zk}{K:Nat}{cs:List Value}(h:tl E μ G k K cs):fb Tryz.prog K:=by
 cases k with
 | ex x k=>rw [tl] at h; obtain ⟨rfl,-⟩:=h; infer_instance
theorem _root_.Go.Y.re.fn {k:fe}{K:Nat}{cs:List Value}(h:re E μ G k K cs):fb Tryz.prog K:=by
 cases k<;>(rw [re] at h;obtain ⟨rfl,-⟩:=h;infer_instance)
theorem _root_.Go.Y.xg.i64 (h:xg E μ G z X):Go.Re.i64 (z.nodes+1)=some (z.nodes+1):=if_pos (by have:=h.vd;have:=h.ld;omega)
theorem _root_.Go.Y.xg.IL (h:xg E μ G z X) (a:¬ (20000:Int)<z.nodes+1):xg E μ G { z with nodes:=z.nodes+1 } X :=
 ⟨by have:=h.vd;show 0<=z.nodes+1;omega,by show z.nodes+1<=20000;omega,h.md,h.Tb,h.nb,h.wh,h.now,h.Rh,h.dc,h.out,h.Tc,h.Gd,h.Ya,h.hf⟩
end
section
variable (E:Sd) (μb:M) (Gb:Xd) (da:World) (rsF:List Ha)
def Jk (n:Nat) (c:ah):Prop:=∀ (z:Sc) (r:Option (Option fe×Sc)),dp E n c z=some r->∀ {μ:M}{w:World}{G:Xd}{X:ie}{f:Nat}{vs:List Value},ha μb μ->Gb.le G->xg E μ G z X->nW E μ G c f vs->fa μ da w (X.res G z rsF)->nc Tryz.prog f vs w tm (wq r) (Gj E μb Gb da rsF) (al μb da rsF)
def gj (n:Nat):Prop:=∀ c,Jk E μb Gb da rsF n c
end
variable {E:Sd}{μb:M}{Gb:Xd}{da:World}{rsF:List Ha}{n:Nat}
theorem al.of {μ:M}{w:World}{l:List Ha}(a:ha μb μ) (b:fa μ da w (l++rsF)):al μb da rsF w:=⟨μ,a,uy b⟩
theorem al.res {μ:M}{w:World}{G:Xd}{X:ie}{z:Sc}(a:ha μb μ) (b:fa μ da w (X.res G z rsF)):al μb da rsF w:=by
 refine al.of (l:=X.res G z []) a ?_;simpa [ie.res] using b
theorem Vl (a:gj E μb Gb da rsF n){k:Ze}{v:Int}{z:Sc}{r:Option (Option fe×Sc)}(h:dp E n (.ff k v) z=some r){μ:M}{w:World}{G:Xd}{X:ie}{K:Nat}{cs:List Value}(b:ha μb μ) (ec:Gb.le G) (c:xg E μ G z X) (d:Ye E μ G k K cs) (e:fa μ da w (X.res G z rsF)):nc Tryz.prog K ([ca v]++cs) w tm (wq r) (Gj E μb Gb da rsF) (al μb da rsF):=
 a _ _ _ h b ec c ⟨cs,rfl,d⟩ e
theorem Gj.mk {x:Option fe×Sc}{v:Value}{w:World}{μ:M}{G:Xd}{X:ie}(a:ha μb μ) (ec:Gb.le G) (b:xg E μ G x.2 X) (Oa:Tt E μ G v x.1) (c:fa μ da w (X.res G x.2 rsF)):Gj E μb Gb da rsF x v w:=by
 unfold Gj;exact ⟨μ,G,X,a,ec,b,Oa,c⟩
def Mr (E:Sd) (n:Nat):fk->Option (Option (Option fe×Sc))
 | .call c z=>dp E n c z
 | .ret k z=>some (some (k,z))
 | .yr=>some none
theorem Tk {c:ah}{z:Sc}{r:Option (Option fe×Sc)}(h:dp E (n+1) c z=some r):∃ o,Wd E c z=some o/\Mr E n o=some r:=by
 rw [dp] at h;refine ra h λo a h=>?_;exact ⟨o,a,by cases o<;>exact h⟩
theorem Xv {q:Int}{z:Sc}{μ:M}{w:World}{G:Xd}{X:ie}(b:ha μb μ) (ec:Gb.le G) (c:xg E μ G z X) (d:fa μ da w (X.res G z rsF)):nc Tryz.prog 101 [ob G.Ea,ca q] w tm (wq (some ((none:Option fe),z.task λt=>{ t with state:=5,ye:=q }))) (Gj E μb Gb da rsF) (al μb da rsF):=by
 have e:=d.perm (rs':=.ea G.Ea 81 [ob G.La,X.cc,X.rb,ob X.xb,ca z.t.state,ca z.t.box,ca z.t.ye,X.Hb]::.ea G.La 66 [.map (some X.md),.map (some X.Tb),.map (some X.nb),ca z.nodes]::(.row X.rb 79 1 ((G.B.drop 1).map vc.mk).length X.oe::.row X.Hb 2 1 z.t.out.length X.kh::(X.Tc++(X.Gd++(X.Ya++rsF))))) (by simp only [ie.res];classical exact List.perm_iff_count.2 (λx=>(by simp only [List.count_append,List.count_cons,List.count_nil];ac_rfl)));refine yT ?_ e;intro J w' le f;have a:=c.up le;refine ⟨_,rfl,Gj.mk (G:=G) (X:=X) (b.t le) ec ⟨a.vd,a.ld,a.md,a.Tb,a.nb,a.wh,a.now,a.Rh,a.dc,a.out,a.Tc,a.Gd,a.Ya,a.hf⟩ rfl<|f.perm ?_⟩;simp only [ie.res,Sc.task]
 classical exact List.perm_iff_count.2 (λx=>(by simp only [List.count_append,List.count_cons,List.count_nil];ac_rfl))
theorem CJ {st:Int}{hc:Je}{again:fe}{b:Nat}{c:List Value}{z:Sc}{μ:M}{w:World}{G:Xd}{X:ie}(e:ha μb μ) (ec:Gb.le G) (d:xg E μ G z X) (f:re E μ G again b c) (g:fa μ da w (X.res G z rsF)):nc Tryz.prog 106 [ob G.Ea,ca st,S hc,bh b c] w tm (wq (some ((none:Option fe),z.task λt=>{ t with state:=st,box:=(Sa E.order hc).getD 0,mm:=some again }))) (Gj E μb Gb da rsF) (al μb da rsF):=by
 refine zT d.nb ?_ g;intro J w' le h;have a:=d.up le;refine ⟨_,rfl,Gj.mk (G:=G) (X:={ X with cc:=bh b c }) (e.t le) ec ⟨a.vd,a.ld,a.md,a.Tb,a.nb,a.wh,a.now,⟨b,c,rfl,re.up le .r f⟩,a.dc,a.out,a.Tc,a.Gd,a.Ya,a.hf⟩ rfl h⟩
theorem PR (C:gj E μb Gb da rsF n) (x:Na) (s:Option Nat) (k:Ze):Jk E μb Gb da rsF (n+1) (.expr x s k):=by
 rintro z r h μ w G X f vs p ec e ⟨rfl,O,P,K,cs,rfl,l,M,j⟩ u;rw [dp] at h;refine ra h λo a h=>?_;rw [Wd,Us] at a;by_cases g:(20000:Int)<z.nodes+1
 ·rw [if_pos g] at a;cases a;cases h;refine rO (λy q=>by cases q) l ?_ u;intro J w' le d;exact bI e.i64 g (λQ R=>al.res (X:=X) (G:=G) (z:={ z with nodes:=z.nodes+1 }) (p.t le) R) d
 ·rw [if_neg g] at a;have D:=e.IL g;by_cases A:x.Kind=1
  ·rw [if_pos (.inl A)] at a;cases a;exact zP e.i64 g A j.fn l (λJ w' le d=>Vl C h (X:=X) (p.t le) ec (D.up le) (Ye.up le .r j) d) u
  by_cases F:x.Kind=2
  ·rw [if_pos (.inr F)] at a;cases a;exact sO e.i64 g A F j.fn l (λJ w' le d=>Vl C h (X:=X) (p.t le) ec (D.up le) (Ye.up le .r j) d) u
  rw [if_neg (by rintro (q | q)<;>contradiction)] at a;by_cases H:x.Kind=3
  ·rw [if_pos H] at a;obtain ⟨i,T,a⟩:=te a;obtain ⟨c,U,a⟩:=te a;cases a;obtain ⟨b,q,V,W,g1,g2,⟨up,rfl,rd⟩,-,-⟩:=e.Tc.get U;have Y:=u.perm (rs':=.ea G.La 66 [.map (some X.md),.map (some X.Tb),.map (some X.nb),ca z.nodes]::.ea G.Ea 81 [ob G.La,X.cc,X.rb,ob X.xb,ca z.t.state,ca z.t.box,ca z.t.ye,X.Hb]::.ea b 183 [S c.name,ca c.v,.pointer up]::(.row X.rb 79 1 ((G.B.drop 1).map vc.mk).length X.oe::.row X.Hb 2 1 z.t.out.length X.kh::(V++(W++(X.Gd++(X.Ya++rsF)))))) (by simp only [ie.res,g2,List.append_assoc,List.cons_append];classical exact List.perm_iff_count.2 (λx=>(by simp only [List.count_append,List.count_cons,List.count_nil];ac_rfl)));refine AP e.i64 g A F H ?_ j.fn l ?_ Y
   ·intro J w' wd N le d;refine (sK e.Tc ?_ M T g1 d).mono ?_
    ·intro q m;rw [g2] at m;simp only [List.mem_append,List.mem_cons] at m ⊢;rcases m with m | rfl | m
     ·exact .inr<|.inr<|.inr<|N _ (by simp [m])
     ·exact .inr<|.inr<|.inl rfl
     ·exact .inr<|.inr<|.inr<|N _ (by simp [m])
    ·rintro v Q ⟨rfl,rfl⟩;exact ⟨rfl,d⟩
   ·intro J w' le d;refine Vl C h (X:=X) (p.t le) ec (D.up le) (Ye.up le .r j)<|d.perm ?_;simp only [ie.res,g2,List.append_assoc,List.cons_append]
    classical exact List.perm_iff_count.2 (λx=>(by simp only [List.count_append,List.count_cons,List.count_nil];ac_rfl))
  rw [if_neg H] at a;by_cases L:x.Kind=20
  ·rw [if_pos L] at a;cases a;exact tO e.i64 g A F H L l (λJ w' le d=>C _ _ _ h (X:=X) (p.t le) ec (D.up le) ⟨rfl,K,cs,rfl,Ye.up le .r j⟩ d) u
  ·rw [if_neg L] at a;cases a;refine BP e.i64 g A F H L l ?_ u;intro J w' Z bb gc lc rc le fd id pa nd d;refine C _ _ _ h (X:=X) (p.t le) ec (D.up le) ⟨rfl,lc,rc,P,none,0,_,_,rfl,fd,M,za.nil,?_⟩ d;rw [tl];exact ⟨rfl,bb,gc,Z,O,K,cs,rfl,l.up le,pa,nd,Ye.up le .r j,id⟩
theorem OT (e:gj E μb Gb da rsF n) (l:List Na) (s:Option Nat) (g:List Int) (k:Zk):Jk E μb Gb da rsF (n+1) (.all l s g k):=by
 rintro z r h μ w G X f vs i ec j ⟨rfl,v,y,m,mc,p,K,cs,rfl,la,q,b,c⟩ u;obtain ⟨o,a,h⟩:=Tk h;rw [Wd] at a;by_cases he:l.length=g.length
 ·rw [if_pos he] at a;cases a;refine zR (by exact_mod_cast he) c.fn la b ?_ u;intro J w' le d;exact e _ _ _ h (X:=X) (i.t le) ec (j.up le) ⟨mc,p,cs,rfl,b.up le,tl.up le .r c⟩ d
 ·rw [if_neg he] at a;obtain ⟨x,A,a⟩:=te a;cases a;refine yP (by exact_mod_cast he) (show at_ l (g.length:Int)=some x by simpa [at_] using A) la b ?_ u;intro J w' B C D F H L le M N pa O P Q d;refine e _ _ _ h (X:=X) (i.t le) ec (j.up le) ⟨rfl,L,m,_,_,rfl,M,q,?_⟩ d;rw [Ye];exact ⟨rfl,B,C,D,F,H,v,y,m,mc,p,K,cs,rfl,N,la.up le,pa,q,O,b.up le,P,Q,tl.up le .r c⟩
theorem PT (g:gj E μb Gb da rsF n) (x:Pa) (s:Option Nat) (e:hh) (k:fe):Jk E μb Gb da rsF (n+1) (.qf x s e k):=by
 rintro z r h μ w G X f vs i ec j ⟨rfl,l,a,m,K,cs,rfl,b,c,p,q⟩ u;obtain ⟨o,d,h⟩:=Tk h;rw [Wd] at d;cases d;refine MR b ?_ u;intro J w' v y A B C D le F H pa L M N O;refine g _ _ _ h (X:=X) (i.t le) ec (j.up le) ⟨rfl,D,a,_,_,rfl,F,c,?_⟩ O;rw [Ye];exact ⟨rfl,C,v,y,A,B,m,l,a,K,cs,rfl,N,re.up le .r q,H,b.up le,pa,c,L,M,vh.up le .r p⟩
theorem QR (d:gj E μb Gb da rsF n) (l:List Na) (s:Option Nat) (g:List Int) (k:Zk) (v:Int):Jk E μb Gb da rsF (n+1) (.ff (.all l s g k) v):=by
 rintro z r h μ w G X f vs e ec i ⟨cs,rfl,b⟩ j;rw [Ye] at b;obtain ⟨rfl,gb,c2,c3,c4,c5,m,p,q,mc,P,Ed,u,rfl,x,c,y,A,B,C,D,F,H⟩:=b;obtain ⟨o,a,h⟩:=Tk h;rw [Wd] at a;obtain ⟨Q,K,a⟩:=te a;cases a;exact mT K x c y B C D F (λJ w' L M le N O=>d _ _ _ h (X:=X) (e.t le) ec (i.up le) ⟨rfl,m,p,q,L,M,Ed,u,rfl,c.up le,A,N,tl.up le .r H⟩ O) j
theorem RR (H:gj E μb Gb da rsF n) (x:Pa) (s:Option Nat) (e:hh) (k:fe) (v:Int):Jk E μb Gb da rsF (n+1) (.ff (.qf x s e k) v):=by
 rintro z r h μ w G X f vs m ec p ⟨cs,rfl,q⟩ u;rw [Ye] at q;obtain ⟨rfl,K,ve,L,M,ce,y,N,A,Ed,B,rfl,b,C,c,d,g,D,i,j,F⟩:=q;obtain ⟨o,a,h⟩:=Tk h;rw [Wd] at a;by_cases Oa:v=0
 ·rw [if_pos Oa] at a;cases a;cases h;exact IT Oa b c d g i j (λJ w' le l=>⟨_,rfl,Gj.mk (X:=X) (m.t le) ec (p.up le) ⟨Ed,B,rfl,re.up le .r C⟩ l⟩) u
 ·rw [if_neg Oa] at a;cases a;refine EV Oa b c d g i j ?_ u;intro J w' O P le hB l;refine H _ _ _ h (X:=X) (m.t le) ec (p.up le) ⟨rfl,O,P,A,y,_,_,rfl,hB,D,vh.up le .r F,?_⟩ l;rw [re];exact ⟨rfl,ve,L,M,ce,K,y,N,A,Ed,B,rfl,c.up le,d.up le,g.up le,D,i.up le,j.up le,vh.up le .r F,b.up le,re.up le .r C⟩
theorem SR (d:gj E μb Gb da rsF n) (k:Ze):Jk E μb Gb da rsF (n+1) (.sd (.zero k)):=by
 rintro z r h μ w G X f vs e ec g ⟨cs,rfl,a⟩ i;rw [re] at a;obtain ⟨rfl,m,Ed,p,rfl,j,b⟩:=a;obtain ⟨o,c,h⟩:=Tk h;rw [Wd] at c;cases c;exact BV b.fn j (λJ w' le l=>Vl d h (X:=X) (e.t le) ec (g.up le) (Ye.up le .r b) l) i
theorem GO (c:gj E μb Gb da rsF n) (l:List Pa) (s:Option Nat) (e:hh) (k:fe):Jk E μb Gb da rsF (n+1) (.sd (.stats l s e k)):=by
 rintro z r h μ w G X f vs d ec g ⟨cs,rfl,a⟩ i;rw [re] at a;obtain ⟨rfl,ve,N,O,ce,P,j,Q,R,S,m,Ed,p,rfl,q,u,v,x,y,A,B,C,D,F⟩:=a;obtain ⟨o,b,h⟩:=Tk h;rw [Wd] at b;cases b;exact CV u q v x A B D (λJ w' H K le L M=>c _ _ _ h (X:=X) (d.t le) ec (g.up le) ⟨rfl,H,K,m,j,Ed,p,rfl,L,y,vh.up le .r C,re.up le .r F⟩ M) i
theorem TR (d:gj E μb Gb da rsF n) (x:Pa) (s:Option Nat) (e:hh) (k:fe):Jk E μb Gb da rsF (n+1) (.sd (.qf x s e k)):=by
 rintro z r h μ w G X f vs g ec i ⟨cs,rfl,a⟩ j;rw [re] at a;obtain ⟨rfl,ve,K,L,ce,M,l,m,p,Ed,q,rfl,u,b,v,y,A,B,C,D,F⟩:=a;obtain ⟨o,c,h⟩:=Tk h;rw [Wd] at c;cases c;exact FV u b v A B D (λJ w' le H=>d _ _ _ h (X:=X) (g.t le) ec (i.up le) ⟨rfl,m,p,l,Ed,q,rfl,b.up le,y,vh.up le .r C,re.up le .r F⟩ H) j
theorem QT (l:gj E μb Gb da rsF n):Jk E μb Gb da rsF (n+1) (.sd .fin):=by
 rintro z r h μ w G X f vs d ec e ⟨cs,rfl,b⟩ g;rw [re] at b;obtain ⟨rfl,ve,rfl,i⟩:=b;obtain ⟨o,c,h⟩:=Tk h;rw [Wd] at c;cases c;cases h;have j:=g.perm (rs':=.ea G.Ea 81 [ob G.La,X.cc,X.rb,ob X.xb,ca z.t.state,ca z.t.box,ca z.t.ye,X.Hb]::.ea G.La 66 [.map (some X.md),.map (some X.Tb),.map (some X.nb),ca z.nodes]::(.row X.rb 79 1 ((G.B.drop 1).map vc.mk).length X.oe::.row X.Hb 2 1 z.t.out.length X.kh::(X.Tc++(X.Gd++(X.Ya++rsF))))) (by simp only [ie.res];classical exact List.perm_iff_count.2 (λx=>(by simp only [List.count_append,List.count_cons,List.count_nil];ac_rfl)));refine GV i ?_ j;intro J w' le k;have a:=e.up le;refine ⟨_,rfl,Gj.mk (G:=G) (X:=X) (d.t le) ec ⟨a.vd,a.ld,a.md,a.Tb,a.nb,a.wh,a.now,a.Rh,a.dc,a.out,a.Tc,a.Gd,a.Ya,a.hf⟩ rfl<|k.perm ?_⟩;simp only [ie.res,Sc.task]
 classical exact List.perm_iff_count.2 (λx=>(by simp only [List.count_append,List.count_cons,List.count_nil];ac_rfl))
theorem RT (g:gj E μb Gb da rsF n) (d:va):Jk E μb Gb da rsF (n+1) (.sd (.Yi d)):=by
 rintro z r h μ w G X f vs i ec j ⟨cs,rfl,a⟩ k;rw [re] at a;obtain ⟨rfl,ve,Pk,Fq,b,an,rfl,l,m,p,q,s⟩:=a;obtain ⟨o,c,h⟩:=Tk h;rw [Wd] at c;cases c;refine HV l m p q ?_ k;intro J w' u v x le hB y A;have e:re E J G .fin 29 [ob b]:=by rw [re];exact ⟨rfl,b,rfl,s.up le⟩
 refine g _ _ _ h (X:=X) (i.t le) ec (j.up le) ⟨rfl,v,x,none,u,_,_,rfl,hB,rfl,?_,e⟩ A;rw [vh];exact ⟨_,_,y,e⟩
end
section
variable {E:Sd}{μb:M}{Gb:Xd}{da:World}{rsF:List Ha}{n:Nat}
theorem Pg {α:Type}{l:List α}{i:Nat}{x:α}(h:at_ l (i:Int)=some x):l[i]?=some x:=by simpa [at_] using h
theorem gG {α:Type}{l:List α}{i:Int}{x:α}(h:at_ l i=some x):∃ j:Nat,i=(j:Int)/\l[j]?=some x:=by
 obtain ⟨b,c,a⟩:=Ju h;exact ⟨i.toNat,by omega,a⟩
theorem xf.put {α:Type}{R:α->Nat->Ha->Prop}{g:α}{b:Nat}{r r':Ha}{j:List Ha}(k:R g b r'):∀ {xs:List α}{bs:List Nat}{a:List Ha}{i:Nat},xf R xs bs (a++r::j)->a.length=i->bs[i]?=some b->xf R (xs.set i g) bs (a++r'::j)
 | x::xs,c::bs,[],0,⟨l,e⟩,_,f=>by cases f; exact ⟨k,e⟩
 | x::xs,c::bs,[],i+1,_,d,_=>by simp at d
 | x::xs,c::bs,q::a,0,_,d,_=>by simp at d
 | x::xs,c::bs,q::a,i+1,⟨l,e⟩,d,f=>⟨l,xf.put k e (by simpa using d) (by simpa using f)⟩
 | [],[],[],_,h,_,_=>h.elim
 | [],[],_::_,_,h,_,_=>h.elim
 | [],_::_,[],_,h,_,_=>h.elim
 | [],_::_,_::_,_,h,_,_=>h.elim
 | _::_,[],[],_,h,_,_=>h.elim
 | _::_,[],_::_,_,h,_,_=>h.elim
theorem xf.at {α:Type}{R:α->Nat->Ha->Prop}:∀ {xs:List α}{bs:List Nat}{c:List Ha}{i:Nat}{x:α},xf R xs bs c->xs[i]?=some x->∃ b r a d,bs[i]?=some b/\c=a++r::d/\R x b r/\a.length=i:=by
 intro xs bs c i x h e;obtain ⟨b,r,a,d,f,g,j,k,-⟩:=h.get e;exact ⟨b,r,a,d,f,g,j,k⟩
section
variable {μ:M}{w:World}{G:Xd}{X:ie}{z:Sc}
theorem VK {j:Nat}{c:Rd}{b:Nat}(i:xg E μ G z X) (m:z.boxes[j]?=some c) (n:G.bb[j]?=some b) (o:fa μ da w (X.res G z rsF)):∃ a k l,za μ a k c.words/\fa μ da w (.ea b 72 [ca c.cap,.slice a c.words.length k]::l) /\
  ∀ {J:M}{w':World}{e:Option Addr}{k':Nat}{ws:List Int},ha μ J->za J e k' ws->fa J da w' (.ea b 72 [ca c.cap,.slice e ws.length k']::l)->∃ f,xg E J G { z with boxes:=z.boxes.set j { c with words:=ws } } f/\fa J da w' (f.res G { z with boxes:=z.boxes.set j { c with words:=ws } } rsF)/\f.xb=X.xb:=by
 obtain ⟨Rc,q,g,h,g1,g2,⟨a,k,rfl,p⟩,g3⟩:=xf.at i.Ya m;obtain rfl:Rc=b:=Option.some.inj (g1.symm.trans n);refine ⟨a,k,.ea G.La 66 [.map (some X.md),.map (some X.Tb),.map (some X.nb),ca z.nodes]::.ea G.Ea 81 [ob G.La,X.cc,X.rb,ob X.xb,ca z.t.state,ca z.t.box,ca z.t.ye,X.Hb]::(.row X.rb 79 1 ((G.B.drop 1).map vc.mk).length X.oe::.row X.Hb 2 1 z.t.out.length X.kh::(X.Tc++(X.Gd++(g++(h++rsF))))),p,o.perm (by simp only [ie.res,g2,List.append_assoc,List.cons_append];classical exact List.perm_iff_count.2 (λx=>(by simp only [List.count_append,List.count_cons,List.count_nil];ac_rfl))),?_⟩;intro J w' e k' ws le s u;have d:=i.up le;have v:xf (Jt J) (z.boxes.set j { c with words:=ws }) G.bb (g++.ea Rc 72 [ca c.cap,.slice e ws.length k']::h):=
  xf.put (r:=.ea Rc 72 [ca c.cap,.slice a c.words.length k]) ⟨e,k',rfl,s⟩ (g2 ▸ d.Ya) g3 g1
 refine ⟨{ X with Ya:=g++.ea Rc 72 [ca c.cap,.slice e ws.length k']::h },⟨d.vd,d.ld,d.md,d.Tb,d.nb,d.wh,d.now,d.Rh,d.dc,d.out,d.Tc,d.Gd,v,d.hf⟩,u.perm ?_,rfl⟩;simp only [ie.res,List.append_assoc,List.cons_append]
 classical exact List.perm_iff_count.2 (λx=>(by simp only [List.count_append,List.count_cons,List.count_nil];ac_rfl))
end
theorem DJ (L:gj E μb Gb da rsF n){hc:Je}{k:Ze}{z:Sc}{r:Option (Option fe×Sc)}{o:fk}(d:Hu E hc k z=some o) (h:Mr E n o=some r){μ:M}{w:World}{G:Xd}{X:ie}{K:Nat}{cs:List Value}(s:ha μb μ) (ec:Gb.le G) (N:xg E μ G z X) (l:re E μ G (.recv hc k) K cs) (O:fa μ da w (X.res G z rsF)):nc Tryz.prog K ([]++cs) w tm (wq r) (Gj E μb Gb da rsF) (al μb da rsF):=by
 have P:=l;rw [re] at l;obtain ⟨rfl,U,ve,V,W,Y,b,Ed,Z,rfl,⟨j,Q,R⟩,u,x,y,A,B,C⟩:=l;rw [Hu,Q,Option.bind_some] at d;obtain ⟨c,S,d⟩:=te d;have D:=Pg S;obtain ⟨a,q,rs,m,F,back⟩:=VK N D R O;cases hw:c.words with
 | nil =>
  rw [hw] at d;cases d;cases h;refine zO (ws:=c.words) (by rw [hw];rfl) m u x y A B ?_ F;intro J w' le p;obtain ⟨H,f,g,-⟩:=back le (m.up le) p;have e:{ z with boxes:=z.boxes.set j { c with words:=c.words } }=z:=by
   obtain ⟨t,bs,Gq⟩:=z;simp only [Sc.mk.injEq,true_and,and_true];exact List.ext_getElem? λi=>by
    rw [List.getElem?_set];split
    ·rename_i e;subst e;split
     ·exact D.symm
     ·rename_i q;exact (List.getElem?_eq_none (by omega)).symm
    ·rfl
  rw [e] at f g;exact CJ (s.t le) ec f (re.up le .r P) g
 | cons v ws =>
  rw [hw] at d;cases d;refine AO (ws:=c.words) (v:=v) (ws':=ws) (by rw [hw];simp;omega) (by rw [hw];rfl) (by rw [hw,cut,if_pos (by simp;omega)];simp) C.fn m u x y A B ?_ F;intro J w' bb gc le T p;obtain ⟨H,f,g,-⟩:=back le T p;exact Vl L h (X:=H) (s.t le) ec f (Ye.up le .r C) g
theorem EJ (Y:gj E μb Gb da rsF n){hc:Je}{v:Int}{k:fe}{z:Sc}{r:Option (Option fe×Sc)}{o:fk}(d:Iu E hc v k z=some o) (h:Mr E n o=some r){μ:M}{w:World}{G:Xd}{X:ie}{K:Nat}{cs:List Value}(u:ha μb μ) (ec:Gb.le G) (N:xg E μ G z X) (m:re E μ G (.send hc v k) K cs) (O:fa μ da w (X.res G z rsF)):nc Tryz.prog K ([]++cs) w tm (wq r) (Gj E μb Gb da rsF) (al μb da rsF):=by
 have P:=m;rw [re] at m;obtain ⟨rfl,Z,ve,bb,gc,fg,lc,b,Ed,Q,rfl,⟨j,R,S⟩,x,y,A,B,C,D,T⟩:=m;rw [Iu,R,Option.bind_some] at d;obtain ⟨c,U,d⟩:=te d;have F:=Pg U;obtain ⟨a,q,rs,p,H,back⟩:=VK N F S O;by_cases f:(c.words.length:Int)=c.cap
 ·rw [if_pos f] at d;cases d;cases h;refine xO (ws:=c.words) f p x y A B C D ?_ H;intro J w' le s;obtain ⟨L,g,l,-⟩:=back le (p.up le) s;have e:{ z with boxes:=z.boxes.set j { c with words:=c.words } }=z:=by
   obtain ⟨t,bs,Gq⟩:=z;simp only [Sc.mk.injEq,true_and,and_true];exact List.ext_getElem? λi=>by
    rw [List.getElem?_set];split
    ·rename_i e;subst e;split
     ·exact F.symm
     ·rename_i q;exact (List.getElem?_eq_none (by omega)).symm
    ·rfl
  rw [e] at g l;exact CJ (u.t le) ec g (re.up le .r P) l
 ·rw [if_neg f] at d;obtain ⟨ws,V,d⟩:=te d;cases d;cases h;refine yO (ws:=c.words) (ws':=ws) f V p x y A B C D ?_ H;intro J w' rc fd le W s;obtain ⟨L,g,l,-⟩:=back le W s;exact ⟨_,rfl,Gj.mk (X:=L) (u.t le) ec g ⟨Ed,Q,rfl,re.up le .r T⟩ l⟩
theorem KP (b:gj E μb Gb da rsF n) (hc:Je) (k:Ze):Jk E μb Gb da rsF (n+1) (.sd (.recv hc k)):=by
 rintro z r h μ w G X f vs c ec d ⟨cs,rfl,e⟩ g;obtain ⟨o,a,h⟩:=Tk h;rw [Wd] at a;exact DJ b a h c ec d e g
theorem LP (b:gj E μb Gb da rsF n) (hc:Je) (v:Int) (k:fe):Jk E μb Gb da rsF (n+1) (.sd (.send hc v k)):=by
 rintro z r h μ w G X f vs c ec d ⟨cs,rfl,e⟩ g;obtain ⟨o,a,h⟩:=Tk h;rw [Wd] at a;exact EJ b a h c ec d e g
theorem UR (m:gj E μb Gb da rsF n) (hc:Je) (k:Ze):Jk E μb Gb da rsF (n+1) (.recv hc k):=by
 rintro z r h μ w G X f vs p ec a ⟨rfl,K,cs,rfl,q⟩ s;obtain ⟨o,e,h⟩:=Tk h;rw [Wd] at e;have d:=e;rw [Hu] at d;obtain ⟨i,g,d⟩:=te d;obtain ⟨c,u,-⟩:=te d;obtain ⟨j,rfl,v⟩:=gG u;obtain ⟨b,-,-,-,l,-⟩:=xf.at a.Ya v;refine KT (a.wh hc j b g l) a.Tb ?_ s;intro J w' x y A B C le D pa F H L M;refine DJ m e h (X:=X) (p.t le) ec (a.up le) ?_ M;rw [re];exact ⟨rfl,B,x,y,C,A,b,K,cs,rfl,⟨j,g,l⟩,H,D,pa,L,F,Ye.up le .r q⟩
theorem VR (m:gj E μb Gb da rsF n) (hc:Je) (v:Int) (k:fe):Jk E μb Gb da rsF (n+1) (.send hc v k):=by
 rintro z r h μ w G X f vs p ec a ⟨rfl,K,cs,rfl,q⟩ s;obtain ⟨o,e,h⟩:=Tk h;rw [Wd] at e;have d:=e;rw [Iu] at d;obtain ⟨i,g,d⟩:=te d;obtain ⟨c,u,-⟩:=te d;obtain ⟨j,rfl,x⟩:=gG u;obtain ⟨b,-,-,-,l,-⟩:=xf.at a.Ya x;refine JT (a.wh hc j b g l) a.Tb ?_ s;intro J w' y A B C D F le H pa L M N a5 O;refine EJ m e h (X:=X) (p.t le) ec (a.up le) ?_ O;rw [re];exact ⟨rfl,D,y,A,F,B,C,b,K,cs,rfl,⟨j,g,l⟩,N,H,pa,a5,L,M,re.up le .r q⟩
end
section
variable {E:Sd}{μb:M}{Gb:Xd}{da:World}{rsF:List Ha}{n:Nat}
theorem TT {c e d g:List Ha}{x q:Ha}(h:c++x::e=d++q::g) (j:d.length≠c.length):∃ t,(c++e).Perm (q::t):=by
 rcases Nat.lt_or_ge d.length c.length with la | la
 ·have f:c[d.length]?=some q:=by
   have:=congrArg (λl=>l[d.length]?) h;simpa [List.getElem?_append_left la] using this
  obtain ⟨a,b,rfl⟩:=List.append_of_mem (List.mem_of_getElem? f);exact ⟨a++(b++e),by rw [List.append_assoc];exact List.perm_middle⟩
 ·have f:(x::e)[d.length - c.length]?=some q:=by
   have:=congrArg (λl=>l[d.length]?) h;simpa [List.getElem?_append_right la] using this
  obtain ⟨k,i⟩:∃ k,d.length - c.length=k+1:=⟨d.length - c.length - 1,by omega⟩;rw [i,List.getElem?_cons_succ] at f;obtain ⟨a,b,rfl⟩:=List.append_of_mem (List.mem_of_getElem? f);exact ⟨c++(a++b),by rw [<- List.append_assoc,<- List.append_assoc];exact List.perm_middle⟩
theorem xE {z:Sc}{g:Nat}{c:Ng}{f:xd->Ng->Ng}{u:Nat}(a:z.t.Db[g]?=some c):(z.task λt=>{ t.rn g (f t) with now:=u })=z.task λt=>{ t with Db:=t.Db.set g (f z.t c),now:=u }:=by
 simp only [Sc.task,xd.rn,a]
theorem HO {z:Sc}{g:Nat}{c gb:Ng}{f:Ng->Ng}{u:Nat}(a:z.t.Db[g]?=some c):((z.task λt=>{ t with Db:=t.Db.set g gb,now:=u }).task λt=>t.rn g f)=z.task λt=>{ t with Db:=t.Db.set g (f gb),now:=u }:=by
 have:(z.t.Db.set g gb)[g]?=some gb:=List.getElem?_set_self (List.getElem?_eq_some_iff.1 a).1;simp only [Sc.task,xd.rn,this,List.set_set]
section
variable {μ:M}{w:World}{G:Xd}{X:ie}{z:Sc}
theorem hG {g:Nat}{c:Ng}{b:Nat}(l:xg E μ G z X) (C:z.t.Db[g]?=some c) (D:G.B[g]?=some b) (F:fa μ da w (X.res G z rsF)):∃ d ap up e on m,Fe μ d c.Im/\Fk G ap c.args/\Ty G up c.up/\ev E μ G e c.back/\ev E μ G on c.vk /\
  fa μ da w (.ea b 117 [d,.pointer ap,.bool c.begun,.bool c.going,.bool c.ended,up,e,on]::.ea G.Ea 81 [ob G.La,X.cc,X.rb,ob X.xb,ca z.t.state,ca z.t.box,ca z.t.ye,X.Hb]::m) /\
  (∀ {j:Nat}{f:Ng}{jd:Nat},j≠g->z.t.Db[j]?=some f->G.B[j]?=some jd->∃ n o H K L p s u t,m.Perm (.ea jd 117 [n,o,.bool H,.bool K,.bool L,p,s,u]::t)) /\
  ∀ {J:M}{w':World}{c':Ng}{i k:Nat}{h:List Value},ha μ J->Uu E J G c' b (.ea b 117 h)->G.B[k]?=some i ->
   fa J da w' (.ea b 117 h::.ea G.Ea 81 [ob G.La,X.cc,X.rb,ob i,ca z.t.state,ca z.t.box,ca z.t.ye,X.Hb]::m) ->
   ∃ A,xg E J G (z.task λt=>{ t with Db:=t.Db.set g c',now:=k }) A/\fa J da w' (A.res G (z.task λt=>{ t with Db:=t.Db.set g c',now:=k }) rsF):=by
 obtain ⟨Rc,q,v,y,g1,g2,⟨d,ap,up,e,on,rfl,Ca,N,O,P,Q⟩,g3⟩:=xf.at l.Gd C;obtain rfl:Rc=b:=Option.some.inj (g1.symm.trans D);refine ⟨d,ap,up,e,on,.ea G.La 66 [.map (some X.md),.map (some X.Tb),.map (some X.nb),ca z.nodes]::(.row X.rb 79 1 ((G.B.drop 1).map vc.mk).length X.oe::.row X.Hb 2 1 z.t.out.length X.kh::(X.Tc++((v++y)++(X.Ya++rsF)))),Ca,N,O,P,Q,F.perm (by simp only [ie.res,g2,List.append_assoc,List.cons_append];classical exact List.perm_iff_count.2 (λx=>(by simp only [List.count_append,List.count_cons,List.count_nil];ac_rfl))),?_,?_⟩
 ·intro j f jd bb R S;obtain ⟨Ua,q,s1,s2,sa,T,⟨n,o,p,s,u,rfl,-⟩,Gb⟩:=xf.at l.Gd R;obtain rfl:Ua=jd:=Option.some.inj (sa.symm.trans S);obtain ⟨t,U⟩:=TT (g2.symm.trans T) (by omega);refine ⟨n,.pointer o,f.begun,f.going,f.ended,p,s,u,.ea G.La 66 [.map (some X.md),.map (some X.Tb),.map (some X.nb),ca z.nodes]::(.row X.rb 79 1 ((G.B.drop 1).map vc.mk).length X.oe::.row X.Hb 2 1 z.t.out.length X.kh::(X.Tc++(t++(X.Ya++rsF)))),?_⟩;refine ((((U.append_right (X.Ya++rsF)).append_left X.Tc).cons _).cons _).cons _ |>.trans ?_;simp only [List.cons_append]
  classical exact List.perm_iff_count.2 (λx=>(by simp only [List.count_append,List.count_cons,List.count_nil];ac_rfl))
 ·intro J w' c' i k h le V W Y;have a:=l.up le;have Z:xf (Uu E J G) (z.t.Db.set g c') G.B (v++.ea Rc 117 h::y):=xf.put (r:=.ea Rc 117 [d,.pointer ap,.bool c.begun,.bool c.going,.bool c.ended,up,e,on]) V (g2 ▸ a.Gd) g3 g1;refine ⟨{ X with xb:=i,Gd:=v++.ea Rc 117 h::y },⟨a.vd,a.ld,a.md,a.Tb,a.nb,a.wh,W,a.Rh,a.dc,a.out,a.Tc,Z,a.Ya,by show (z.t.Db.set g c').length<=31;rw [List.length_set];exact a.hf⟩,Y.perm ?_⟩;simp only [ie.res,Sc.task,List.append_assoc,List.cons_append]
  classical exact List.perm_iff_count.2 (λx=>(by simp only [List.count_append,List.count_cons,List.count_nil];ac_rfl))
theorem xg.UT (a:xg E μ G z X):∃ c,z.t.Db[z.t.now]?=some c:=by
 have h:=(List.getElem?_eq_some_iff.1 a.now).1;rw [a.Gd.len.1] at h;exact ⟨_,List.getElem?_eq_getElem h⟩
end
theorem WR (s:gj E μb Gb da rsF n) (g:Nat):Jk E μb Gb da rsF (n+1) (.sd (.done g)):=by
 rintro z r h μ w G X f vs v ec x ⟨cs,rfl,d⟩ y;rw [re] at d;obtain ⟨rfl,P,ve,b,rfl,A,B,C⟩:=d;obtain ⟨o,a,h⟩:=Tk h;rw [Wd] at a;obtain ⟨c,e,a⟩:=te a;obtain ⟨u,i,a⟩:=te a;obtain ⟨bb,j,a⟩:=te a;cases a;rw [Mr,xE e] at h;obtain ⟨D,ap,up,Q,on,rs,sa,F,k,l,H,K,-,back⟩:=hG x e A y;rw [i] at k;obtain ⟨m,p,rfl⟩:=k;rw [j] at l;obtain ⟨Ed,q,rfl,d⟩:=l;refine MT d.fn B C ?_ K;intro J w' le L;obtain ⟨M,N,O⟩:=back (c':={ c with ended:=true,going:=false }) le ⟨D,ap,ob m,bh Ed q,on,rfl,sa.up le,F,i ▸ ⟨m,p,rfl⟩,j ▸ ⟨Ed,q,rfl,Ye.up le .r d⟩,H.up le .r⟩ p L;exact Vl s h (X:=M) (v.t le) ec N (Ye.up le .r d) O
theorem JO (id:gj E μb Gb da rsF n){g:Nat}{v:Int}{k:Ze}{z:Sc}{r:Option (Option fe×Sc)}{o:fk}(a:xu g v k z=some o) (h:Mr E n o=some r){μ:M}{w:World}{G:Xd}{X:ie}{b K:Nat}{cs:List Value}(y:ha μb μ) (ec:Gb.le G) (p:xg E μ G z X) (A:G.B[g]?=some b) (md:Ye E μ G k K cs) (Id:fa μ da w (X.res G z rsF)):nc Tryz.prog 102 [ob G.Ea,ob b,ca v,bh K cs] w tm (wq r) (Gj E μb Gb da rsF) (al μb da rsF):=by
 rw [xu] at a;obtain ⟨c,C,a⟩:=te a;obtain ⟨s,ap,up,P,on,rs,sa,L,be,ce,N,m,two,back⟩:=hG p C A Id;have same:∀ {J:M}{w':World},ha μ J->fa J da w' (.ea b 117 [s,.pointer ap,.bool c.begun,.bool c.going,.bool c.ended,up,P,on]::.ea G.Ea 81 [ob G.La,X.cc,X.rb,ob X.xb,ca z.t.state,ca z.t.box,ca z.t.ye,X.Hb]::rs)->∃ f,xg E J G z f/\fa J da w' (f.res G z rsF):=by
  intro J w' le j;obtain ⟨f,d,l⟩:=back (c':=c) le ⟨s,ap,up,P,on,rfl,sa.up le,L,be,ce.up le .r,N.up le .r⟩ p.now j;have e:(z.task λt=>{ t with Db:=t.Db.set g c,now:=z.t.now })=z:=by
   have:z.t.Db.set g c=z.t.Db:=List.ext_getElem? λi=>by
    rw [List.getElem?_set];split
    ·rename_i e;subst e;split
     ·exact C.symm
     ·rename_i q;exact (List.getElem?_eq_none (by omega)).symm
    ·rfl
   obtain ⟨t,bs,Gq⟩:=z;simp only [Sc.task] at this ⊢;rw [this]
  rw [e] at d l;exact ⟨f,d,l⟩
 by_cases D:c.ended=true
 ·rw [if_pos D] at a;cases a;cases h;rw [D] at m;refine BO ?_ m;intro J w' le j;obtain ⟨f,d,l⟩:=same le (D ▸ j);exact Xv (y.t le) ec d l
 rw [if_neg D] at a;have u:c.ended=false:=by simpa using D
 by_cases O:c.going=true
 ·rw [if_pos (.inl O)] at a;cases a;cases h;rw [u,O] at m;refine CO ?_ m;intro J w' le j;obtain ⟨f,d,l⟩:=same le (by rw [u,O];exact j);exact Xv (y.t le) ec d l
 have Q:c.going=false:=by simpa using O
 by_cases R:g=z.t.now
 ·rw [if_pos (.inr R)] at a;cases a;cases h;obtain rfl:b=X.xb:=Option.some.inj (A.symm.trans (R ▸ p.now));rw [u,Q] at m;refine HP ?_ m;intro J w' le j;obtain ⟨f,d,l⟩:=same le (by rw [u,Q];exact j);exact Xv (y.t le) ec d l
 rw [if_neg (by rintro (q | q)<;>contradiction)] at a;obtain ⟨bi,ge⟩:=xg.UT p;obtain ⟨S,T,U,go2,V,W,Y,Z,t,bb⟩:=two (Ne.symm R) ge p.now;rw [u,Q] at m;have l:=m.perm ((bb.cons _).cons _);have F:=l.perm (rs':=.ea b 117 [s,.pointer ap,.bool c.begun,.bool false,.bool false,up,P,on]::.ea X.xb 117 [S,T,.bool U,.bool go2,.bool V,W,Y,Z]::.ea G.Ea 81 [ob G.La,X.cc,X.rb,ob X.xb,ca z.t.state,ca z.t.box,ca z.t.ye,X.Hb]::t) (by classical exact List.perm_iff_count.2 (λx=>(by simp only [List.count_append,List.count_cons,List.count_nil];ac_rfl)));have nd:b≠X.xb:=by
  have:=F.oi;simp [blocks,Ha.block] at this;exact this.1.1
 by_cases H:c.begun=true
 ·rw [if_pos H] at a;obtain ⟨q,rd,a⟩:=te a;cases a;rw [Mr,xE C] at h;rw [rd] at N;obtain ⟨gc,lc,rfl,a⟩:=N;rw [H] at F;refine DO nd a.fn ?_ F;intro J w' le j;have rc:=(j.perm (rs':=.ea b 117 [s,.pointer ap,.bool true,.bool true,.bool false,ob X.xb,bh K cs,bh gc lc]::.ea G.Ea 81 [ob G.La,X.cc,X.rb,ob b,ca z.t.state,ca z.t.box,ca z.t.ye,X.Hb]::.ea X.xb 117 [S,T,.bool U,.bool go2,.bool V,W,Y,Z]::t) (by classical exact List.perm_iff_count.2 (λx=>(by simp only [List.count_append,List.count_cons,List.count_nil];ac_rfl)))).perm ((bb.symm.cons _).cons _);obtain ⟨f,d,fd⟩:=back (c':={ c with going:=true,up:=some z.t.now,back:=some k }) le ⟨s,ap,ob X.xb,bh K cs,bh gc lc,by rw [H,u],sa.up le,L,⟨X.xb,p.now,rfl⟩,⟨K,cs,rfl,Ye.up le .r md⟩,rd ▸ ⟨gc,lc,rfl,Ye.up le .r a⟩⟩ A rc;exact Vl id h (X:=f) (y.t le) ec d (Ye.up le .r a) fd
 ·have ne:c.begun=false:=by simpa using H
  rw [if_neg H] at a;cases a;rw [Mr,xE C,HO C] at h;rw [ne] at F;refine EO nd sa ?_ F;intro J w' wd Fd of wf If le hB dg pa rg j;have rc:=(j.perm (rs':=.ea b 117 [s,.pointer ap,.bool true,.bool true,.bool false,ob X.xb,bh K cs,on]::.ea G.Ea 81 [ob G.La,X.cc,X.rb,ob b,ca z.t.state,ca z.t.box,ca z.t.ye,X.Hb]::.ea X.xb 117 [S,T,.bool U,.bool go2,.bool V,W,Y,Z]::t) (by classical exact List.perm_iff_count.2 (λx=>(by simp only [List.count_append,List.count_cons,List.count_nil];ac_rfl)))).perm ((bb.symm.cons _).cons _);obtain ⟨f,d,fd⟩:=back (c':={ c with going:=true,up:=some z.t.now,back:=some k,begun:=true }) le ⟨s,ap,ob X.xb,bh K cs,on,by rw [u],sa.up le,L,⟨X.xb,p.now,rfl⟩,⟨K,cs,rfl,Ye.up le .r md⟩,N.up le .r⟩ A rc;have Ca:re E J G (.done g) 144 [ob Fd,ob wd]:=by rw [re];exact ⟨rfl,Fd,wd,b,rfl,A,pa,dg⟩
  refine id _ _ _ h (X:=f) (y.t le) ec d ⟨rfl,wf,If,ap,of,_,_,rfl,hB,L,?_,Ca⟩ fd;rw [vh];exact ⟨_,_,rg,Ca⟩
theorem KO (c:gj E μb Gb da rsF n) (g:Nat) (v:Int) (k:Ze):Jk E μb Gb da rsF (n+1) (.resume g v k):=by
 rintro z r h μ w G X f vs d ec e ⟨rfl,b,K,cs,i,rfl,j⟩ l;obtain ⟨o,a,h⟩:=Tk h;rw [Wd] at a;exact JO c a h d ec e i j l
end
section
variable {E:Sd}{μb:M}{Gb:Xd}{da:World}{rsF:List Ha}{n:Nat}
theorem tL {α:Type}(x:α) (l:List α):cut (x::l) 1 ((x::l).length:Nat)=some l:=by rw [cut,if_pos (by simp;omega)];simp
theorem xf.app {α:Type}{R:α->Nat->Ha->Prop}{ys:List α}{cs:List Nat}{c:List Ha}(k:xf R ys cs c):∀ {xs:List α}{bs:List Nat}{a:List Ha},xf R xs bs a->xf R (xs++ys) (bs++cs) (a++c)
 | [],[],[],_=>k
 | x::xs,b::bs,r::a,⟨d,e⟩=>⟨d,xf.app k e⟩
 | [],[],_::_,h=>h.elim
 | [],_::_,_,h=>h.elim
 | _::_,[],_,h=>h.elim
 | _::_,_::_,[],h=>h.elim
theorem xg.grow {μ J:M}{G:Xd}{X:ie}{z:Sc}{new:List fi}{bs:List Nat}{gs:List Ha}(b:xg E μ G z X) (le:ha μ J) (c:xf (nq { G with A:=G.A++bs }) new bs gs):xg E J { G with A:=G.A++bs } (z.task λt=>{ t with de:=z.t.de++new }) { X with Tc:=X.Tc++gs }:=by
 have a:=b.up le;have ec:G.le { G with A:=G.A++bs }:=Xd.le.app;exact ⟨a.vd,a.ld,a.md,a.Tb,a.nb,a.wh,a.now,a.Rh.up (ha.r) ec,a.dc,a.out,xf.app c<|a.Tc.imp λ_ _ _ q=>q.up ec,a.Gd.imp λ_ _ _ q=>q.up (ha.r) ec,a.Ya,a.hf⟩
theorem MP (W:gj E μb Gb da rsF n) (l:List Pa) (s:Option Nat) (e:hh) (k:fe):Jk E μb Gb da rsF (n+1) (.stats l s e k):=by
 rintro z r h μ w G X f vs u ec g ⟨rfl,Y,Z,L,M,K,cs,rfl,la,N,c,Q⟩ v;obtain ⟨o,a,h⟩:=Tk h;cases l with
 | nil =>
  rw [Wd] at a;cases a;cases h;exact wO rfl la (λJ w' le b=>⟨_,rfl,Gj.mk (X:=X) (u.t le) ec (g.up le) ⟨K,cs,rfl,re.up le .r Q⟩ b⟩) v
 | cons x l =>
 rw [Wd,Us] at a;have H:¬ ((x::l).length:Int)=0:=by simp;omega
 have A:at_ (x::l) 0=some x:=rfl;by_cases d:(20000:Int)<z.nodes+1
 ·rw [if_pos d] at a;cases a;cases h;refine wN H A (λy q=>by cases q) la ?_ v;intro J w' i B C j le m pa D p b;exact bI g.i64 d (λnd lc=>al.res (X:=X) (G:=G) (z:={ z with nodes:=z.nodes+1 }) (u.t le) lc) b
 rw [if_neg d] at a;have O:=g.IL d;by_cases F:x.Kind=6
 ·rw [if_pos F] at a;cases a;cases h;cases e with
  | ret q =>
   rw [vh] at c;obtain ⟨Ed,bb,R,gc⟩:=c;exact aI H A g.i64 d F la R (λJ w' i B C j le m pa D p b=>⟨_,rfl,Gj.mk (X:=X) (u.t le) ec (O.up le) rfl b⟩) v
  | stop q =>
   rw [vh] at c;obtain ⟨Ed,bb,R,gc⟩:=c;exact aI H A g.i64 d F la R (λJ w' i B C j le m pa D p b=>⟨_,rfl,Gj.mk (X:=X) (u.t le) ec (O.up le) ⟨Ed,bb,rfl,re.up le .r gc⟩ b⟩) v
 rw [if_neg F] at a;by_cases P:x.Kind=4
 ·rw [if_pos P] at a;cases a;refine PM H A g.i64 d F P la ?_ v;intro J w' i B C j S T le U m pa D p V b;refine W _ _ _ h (X:=X) (u.t le) ec (O.up le) ⟨rfl,T,L,M,_,_,rfl,U,N,vh.up le .r c,?_⟩ b;rw [re];exact ⟨rfl,i,B,S,C,j,M,x::l,Y,Z,L,K,cs,rfl,m,tL x l,la.up le,pa,N,V,D,vh.up le .r c,p,re.up le .r Q⟩
 ·rw [if_neg P] at a;cases a;refine xN H A g.i64 d F P la ?_ v;intro J w' i B C j S T rc fd id le U m pa D p V md a5 zb b;refine W _ _ _ h (X:=X) (u.t le) ec (O.up le) ⟨rfl,fd,L,_,_,rfl,U,N,?_⟩ b;rw [Ye];exact ⟨rfl,T,rc,i,B,j,S,C,i,j,M,M,x,id,Y,Z,L,K,cs,rfl,A,md,a5,zb,m,la.up le,pa,p,vh.up le .r c,V,re.up le .r Q,N,D,m,p,vh.up le .r c⟩
theorem NP (W:gj E μb Gb da rsF n) (l:List Pa) (s:Option Nat) (e:hh) (k:fe) (v:Int):Jk E μb Gb da rsF (n+1) (.ff (.stat l s e k) v):=by
 rintro z r h μ w G X f vs D ec j ⟨cs,rfl,Y⟩ F;rw [Ye] at Y;obtain ⟨rfl,ii,Zy,gb,c2,c3,c4,li,ve,ce,nd,Id,x,pi,be,ge,Z,Ed,ne,rfl,rd,H,Tb,K,m1,la,m2,m3,Ne,m4,Y,C,L,mt,N,bb⟩:=Y;obtain ⟨o,a,h⟩:=Tk h;cases l with
 | nil=>cases rd
 | cons m l =>
 obtain rfl:m=x:=lv rd;replace a:gp m l s e k v z=some o:=a;rw [gp.eq_def] at a;have next:∀ {J:M}{kg:Xd}{Ib:Option Nat}{gc:Option Addr}{c:Nat},ha μ J->G.le kg->Fk kg gc Ib->xa J c 0 [.pointer gc]->re E J kg (.stats l Ib e k) 52 [ob gb,ob c2,ob c,ob c3,ob c4]:=by
  intro J kg Ib gc c le P p u;rw [re];exact ⟨rfl,gb,c2,c,c3,c4,Id,m::l,be,ge,gc,Ed,ne,rfl,P.Ea ▸ m1.up le,tL m l,la.up le,m2.up le,p,u,m3.up le,vh.up le P Ne,m4.up le,re.up le P Y⟩
 by_cases p:m.Kind=1
 ·rw [if_pos p] at a;cases a;cases h;refine DT p H Tb K L mt N ?_ F;intro J w' z0 R le pa g;have P:G.le { G with A:=G.A++[z0] }:=Xd.le.app;have of:(G.A++[z0])[z.t.de.length]?=some z0:=by rw [<- j.Tc.len.1];simp
  refine ⟨_,rfl,Gj.mk (D.t le) (ec.t P) (xg.grow j le (new:=[⟨m.Name,v,s⟩]) (bs:=[z0]) (gs:=[.ea z0 183 [S m.Name,ca v,.pointer Z]]) ⟨⟨Z,rfl,C.up P⟩,trivial⟩) ⟨_,_,rfl,next le P ⟨z0,of,rfl⟩ pa⟩<|g.perm ?_⟩;simp only [ie.res,Sc.task,List.append_assoc,List.cons_append,List.nil_append]
  classical exact List.perm_iff_count.2 (λx=>(by simp only [List.count_append,List.count_cons,List.count_nil];ac_rfl))
 rw [if_neg p] at a;by_cases u:m.Kind=2
 ·rw [if_pos u] at a;obtain ⟨i,wf,a⟩:=te a;obtain ⟨c,If,a⟩:=te a;cases a;cases h;obtain ⟨b,q,rc,fd,g1,g2,⟨up,rfl,dg⟩,g3⟩:=xf.at j.Tc If;have id:=F.perm (rs':=.ea b 183 [S c.name,ca c.v,.pointer up]::(.ea G.La 66 [.map (some X.md),.map (some X.Tb),.map (some X.nb),ca z.nodes]::.ea G.Ea 81 [ob G.La,X.cc,X.rb,ob X.xb,ca z.t.state,ca z.t.box,ca z.t.ye,X.Hb]::.row X.rb 79 1 ((G.B.drop 1).map vc.mk).length X.oe::.row X.Hb 2 1 z.t.out.length X.kh::(rc++(fd++(X.Gd++(X.Ya++rsF)))))) (by simp only [ie.res,g2,List.append_assoc,List.cons_append];classical exact List.perm_iff_count.2 (λx=>(by simp only [List.count_append,List.count_cons,List.count_nil];ac_rfl)));refine ET p u ?_ H Tb K L mt N ?_ id
  ·intro J w' Pi wd le g;refine (sK j.Tc ?_ C wf g1 g).mono ?_
   ·intro q Q;rw [g2] at Q;simp only [List.mem_append,List.mem_cons] at Q ⊢;rcases Q with Q | rfl | Q
    ·exact .inr<|wd _ (by simp [Q])
    ·exact .inl rfl
    ·exact .inr<|wd _ (by simp [Q])
   ·rintro v dl ⟨rfl,rfl⟩;exact ⟨rfl,g⟩
  ·intro J w' z0 le y g;have d:=j.up le;have rg:xf (nq G) (z.t.de.set i { c with v:=v }) G.A (rc++.ea b 183 [S c.name,ca v,.pointer up]::fd):=xf.put (r:=.ea b 183 [S c.name,ca c.v,.pointer up]) ⟨up,rfl,dg⟩ (g2 ▸ j.Tc) g3 g1;refine ⟨_,rfl,Gj.mk (G:=G) (X:={ X with Tc:=rc++.ea b 183 [S c.name,ca v,.pointer up]::fd }) (D.t le) ec ⟨d.vd,d.ld,d.md,d.Tb,d.nb,d.wh,d.now,d.Rh,d.dc,d.out,rg,d.Gd,d.Ya,d.hf⟩ ⟨_,_,rfl,next le .r C y⟩<|g.perm ?_⟩;simp only [ie.res,Sc.task,List.append_assoc,List.cons_append]
   classical exact List.perm_iff_count.2 (λx=>(by simp only [List.count_append,List.count_cons,List.count_nil];ac_rfl))
 rw [if_neg u] at a;by_cases O:m.Kind=3
 ·rw [if_pos O] at a;cases a;by_cases Oa:v≠0
  ·rw [if_pos Oa] at h;exact JR p u O Oa H Tb K L mt N (λJ w' z0 R U le hB y g=>W _ _ _ h (X:=X) (D.t le) ec (j.up le) ⟨rfl,R,U,Z,nd,_,_,rfl,hB,C,vh.up le .r bb,next le .r C y⟩ g) F
  ·rw [if_neg Oa] at h;exact KR p u O Oa H Tb K L mt N (λJ w' z0 R U le hB y g=>W _ _ _ h (X:=X) (D.t le) ec (j.up le) ⟨rfl,R,U,Z,nd,_,_,rfl,hB,C,vh.up le .r bb,next le .r C y⟩ g) F
 rw [if_neg O] at a;by_cases T:m.Kind=5
 ·rw [if_pos T] at a;cases e with
  | stop q=>cases a
  | ret q =>
   cases a;rw [vh] at bb;obtain ⟨el,YG,sa,Fd⟩:=bb;exact FT p u O T Fd.fn sa H Tb K L mt N (λJ w' le g=>Vl W h (X:=X) (D.t le) ec (j.up le) (Ye.up le .r Fd) g) F
 rw [if_neg T] at a;by_cases V:m.Kind=7
 ·rw [if_pos V] at a;cases a;exact LR p u O T V H Tb K L mt N (λJ w' z0 le y g=>W _ _ _ h (X:=X) (D.t le) ec (j.up le) ⟨rfl,_,_,rfl,next le .r C y⟩ g) F
 rw [if_neg V] at a;by_cases lc:m.Kind=8
 ·rw [if_pos lc] at a;obtain ⟨os,bi,a⟩:=te a;cases a;cases h;have id:=F.perm (rs':=.ea G.Ea 81 [ob G.La,X.cc,X.rb,ob X.xb,ca z.t.state,ca z.t.box,ca z.t.ye,X.Hb]::.row X.Hb 2 1 z.t.out.length X.kh::(.ea G.La 66 [.map (some X.md),.map (some X.Tb),.map (some X.nb),ca z.nodes]::.row X.rb 79 1 ((G.B.drop 1).map vc.mk).length X.oe::(X.Tc++(X.Gd++(X.Ya++rsF))))) (by simp only [ie.res];classical exact List.perm_iff_count.2 (λx=>(by simp only [List.count_append,List.count_cons,List.count_nil];ac_rfl)));refine HT bi p u O T V lc j.out H Tb K L mt N ?_ id;intro J w' z0 R U le ci y g;have d:=j.up le;refine ⟨_,rfl,Gj.mk (G:=G) (X:={ X with Hb:=R,kh:=U }) (D.t le) ec ⟨d.vd,d.ld,d.md,d.Tb,d.nb,d.wh,d.now,d.Rh,d.dc,ci,d.Tc,d.Gd,d.Ya,d.hf⟩ ⟨_,_,rfl,next le .r C y⟩<|g.perm ?_⟩;simp only [ie.res,Sc.task]
  classical exact List.perm_iff_count.2 (λx=>(by simp only [List.count_append,List.count_cons,List.count_nil];ac_rfl))
 rw [if_neg lc] at a;cases a;cases h;exact DV p u O T V lc H Tb K L mt N (λJ w' z0 le y g=>⟨_,rfl,Gj.mk (X:=X) (D.t le) ec (j.up le) ⟨_,_,rfl,next le .r C y⟩ g⟩) F
end
variable {E:Sd}{μb:M}{Gb:Xd}{da:World}{rsF:List Ha}{n:Nat}
section
variable {μ:M}{G:Xd}{X:ie}{z:Sc}
theorem xg.Od (a:xg E μ G z X):(((G.B.drop 1).map vc.mk).length:Int)=(z.t.Db.length:Int) - 1/\G.B.length=z.t.Db.length/\0<z.t.Db.length:=by
 have b:=a.Gd.len.1;have c:=(List.getElem?_eq_some_iff.1 a.now).1;rw [List.length_map,List.length_drop];omega
theorem WK {a:Nat}{b:Nat}(h:G.B[a+1]?=some b):at_ ((G.B.drop 1).map vc.mk) (a:Int)=some ⟨b⟩:=by
 have:1+a=a+1:=Nat.add_comm _ _;simp [at_,this,h]
end
theorem VT (T:gj E μb Gb da rsF n){x:Na}{k:Ze}{l:List Int}{z:Sc}{r:Option (Option fe×Sc)}{o:fk}(e:On E x k l z=some o) (h:Mr E n o=some r){μ:M}{w:World}{G:Xd}{X:ie}{K:Nat}{cs:List Value}{Bd:Option Addr}{Cd:Nat}(D:ha μb μ) (ec:Gb.le G) (g:xg E μ G z X) (y:za μ Bd Cd l) (m:tl E μ G (.ex x k) K cs) (F:fa μ da w (X.res G z rsF)):nc Tryz.prog K ([.slice Bd l.length Cd]++cs) w tm (wq r) (Gj E μb Gb da rsF) (al μb da rsF):=by
 rw [tl] at m;obtain ⟨rfl,sp,em,ve,wp,Ed,ge,rfl,H,Tb,mk,m,mt⟩:=m;rw [On.eq_def] at e;by_cases p:x.Kind=4
 ·rw [if_pos p] at e;obtain ⟨a,s,e⟩:=te e;cases e;refine AT s p m.fn H Tb mk y mt ?_ F;intro J w' le f;rw [Int.zero_sub];exact Vl T h (X:=X) (D.t le) ec (g.up le) (Ye.up le .r m) f
 rw [if_neg p] at e;by_cases C:x.Kind=5
 ·rw [if_pos C] at e;obtain ⟨a,s,e⟩:=te e;cases e;exact BT s p C m.fn H Tb mk y mt (λJ w' le f=>Vl T h (X:=X) (D.t le) ec (g.up le) (Ye.up le .r m) f) F
 rw [if_neg C] at e;have bi:∀ {d:va}{gc:List fi}{lc:Option Nat},Kj d.Params l z.t.de none=some (gc,lc)->∀ (J:M) (w':World) (wd:List Ha) (q:Value),ha μ J->Fe J q d->fa J da w' wd->kb Tryz.prog 99 [q,.slice Bd l.length Cd] w' (λv ci=>∃ (ii:M) (gs:List Ha) (L:Option Addr),v=.pointer L/\ha J ii/\iC G z.t.de gc lc gs L/\fa ii da ci (gs++wd)):=by
  intro d gc lc Y J w' wd q le O f;refine (OR (G:=G) g.Tc.len.1 Y (y.up le) O f).mono ?_;rintro v ci ⟨gs,L,rfl,hm,lm⟩;exact ⟨J,gs,L,rfl,ha.r,hm,lm⟩
 by_cases N:x.Kind=19
 ·rw [if_pos N] at e;obtain ⟨d,Ca,e⟩:=te e;obtain ⟨⟨gc,lc⟩,Y,e⟩:=te e;cases e;refine FR (GQ:=λ_ gs L=>iC G z.t.de gc lc gs L) p C N Ca (bi Y) g.md H Tb mk y mt ?_ F;rintro J w' sm gs L Q Fd ne le hB Nm un ⟨bs,new,rfl,Ne,of⟩ f;have fd:G.le { G with A:=G.A++bs }:=Xd.le.app;refine T _ _ _ h (D.t le) (ec.t fd) (xg.grow g le Ne) ⟨rfl,Fd,ne,L,Q,_,_,rfl,hB,of,?_,?_⟩ (f.perm ?_)
  ·rw [vh];exact ⟨_,_,Nm,Ye.up le fd m⟩
  ·rw [re];exact ⟨rfl,em,_,_,rfl,mk.up le,Ye.up le fd m⟩
  ·simp only [ie.res,Sc.task,List.append_assoc,List.cons_append];classical exact List.perm_iff_count.2 (λx=>(by simp only [List.count_append,List.count_cons,List.count_nil];ac_rfl))
 rw [if_neg N] at e;by_cases U:x.Kind=21
 ·rw [if_pos U] at e;obtain ⟨a,s,e⟩:=te e;obtain ⟨c,Id,e⟩:=te e;obtain ⟨u,li,e⟩:=te e;obtain ⟨bb,pi,e⟩:=te e;cases e;rw [Mr] at h;have wn:(z.task λt=>{ t.rn t.now λc=>{ c with vk:=some k,going:=false } with now:=u })=z.task λt=>{ t with Db:=t.Db.set z.t.now { c with vk:=some k,going:=false },now:=u }:=by
   simp only [Sc.task,xd.rn,Id]
  rw [wn] at h;obtain ⟨wf,ap,up,Pi,on,wd,sa,Fn,dl,el,Op,nd,-,back⟩:=hG g Id g.now F;rw [li] at dl;obtain ⟨nl,ol,rfl⟩:=dl;rw [pi] at el;obtain ⟨pl,ul,rfl,If⟩:=el;refine DP s p C N (by omega) (by omega) U If.fn H Tb mk y mt ?_ nd;intro J w' le f;obtain ⟨In,co,io⟩:=back (c':={ c with vk:=some k,going:=false }) le ⟨wf,ap,ob nl,bh pl ul,bh Ed ge,rfl,sa.up le,Fn,li ▸ ⟨nl,ol,rfl⟩,pi ▸ ⟨pl,ul,rfl,Ye.up le .r If⟩,⟨Ed,ge,rfl,Ye.up le .r m⟩⟩ ol f;exact Vl T h (X:=In) (D.t le) ec co (Ye.up le .r If) io
 rw [if_neg U] at e;have dg:=xg.Od g;by_cases R:x.Kind=22
 ·rw [if_pos R] at e;by_cases be:(z.t.Db.length:Int) - 1=30
  ·rw [if_pos be] at e;cases e;cases h;have nd:=F;refine GR p C N R (by rw [dg.1];exact be) g.dc H Tb mk y mt ?_ nd;intro J w' le f;exact Xv (X:=X) (D.t le) ec (g.up le) f
  rw [if_neg be] at e;obtain ⟨d,Ca,e⟩:=te e;obtain ⟨⟨gc,lc⟩,Y,e⟩:=te e;cases e;have eq:=g.hf;refine CP (ts':=[]) (GQ:=λ_ gs L=>iC G z.t.de gc lc gs L) p C N R Ca (bi Y) (by rw [dg.1];exact be) (λb=>?_) (λb=>?_) m.fn g.md g.dc H Tb mk y mt ?_ F
  ·rw [app,if_pos];simp only [List.length_map,List.length_drop,List.length_cons,List.length_nil];omega
  ·refine if_pos ?_;simp only [List.length_append,List.length_map,List.length_drop,List.length_cons,List.length_nil];omega
  ·rintro J w' sm gs L Q Fd ne no le ro to un ⟨bs,new,rfl,Ne,of⟩ f;have fd:G.le { G with A:=G.A++bs }:=Xd.le.app;have rc:Xd.le { G with A:=G.A++bs } { G with A:=G.A++bs,B:=G.B++[Q] }:=⟨rfl,rfl,rfl,λ_ _ q=>q,λi b q=>by
    show (G.B++[Q])[i]?=some b;rw [List.getElem?_append_left (List.getElem?_eq_some_iff.1 q).1];exact q⟩
   have P:=xg.grow g le Ne;have Do:(G.B++[Q]).drop 1=G.B.drop 1++[Q]:=by
    rw [List.drop_append_of_le_length (by omega)]
   have wl:((G.B++[Q]).drop 1).map vc.mk=(G.B.drop 1).map vc.mk++[⟨Q⟩]:=by rw [Do,List.map_append];rfl
   have ip:((((G.B.drop 1).map vc.mk++[(⟨Q⟩:vc)]).length:Int) - 1)=(z.t.Db.length:Int) - 1:=by
    rw [List.length_append];have:=dg.1;simp only [List.length_cons,List.length_nil];omega
   rw [ip];refine Vl T h (G:={ G with A:=G.A++bs,B:=G.B++[Q] }) (X:={ X with Tc:=X.Tc++gs,rb:=ne,oe:=no,Gd:=X.Gd++[.ea Q 117 [Fd,.pointer L,.bool false,.bool false,.bool false,.pointer none,.nilFunc,.nilFunc]] }) (D.t le) ((ec.t fd).t rc)
    ⟨P.vd,P.ld,P.md,P.Tb,P.nb,P.wh,rc.B _ _ P.now,P.Rh.up ha.r rc,wl ▸ to,P.out,P.Tc.imp λ_ _ _ q=>q.up rc,?_,P.Ya,?_⟩ (Ye.up le (fd.t rc) m) (f.perm ?_)
   ·refine xf.snoc ⟨Fd,L,.pointer none,.nilFunc,.nilFunc,rfl,ro,of.up rc,rfl,rfl,rfl⟩<|P.Gd.imp λ_ _ _ q=>q.up ha.r rc
   ·show (z.t.Db++[_]).length<=31;rw [List.length_append];simp only [List.length_cons,List.length_nil];omega
   ·simp only [ie.res,Sc.task,wl,List.append_assoc,List.cons_append,List.nil_append];classical exact List.perm_iff_count.2 (λx=>(by simp only [List.count_append,List.count_cons,List.count_nil];ac_rfl))
 rw [if_neg R] at e;by_cases V:x.Kind=23
 ·rw [if_pos V] at e;obtain ⟨a,s,e⟩:=te e;obtain ⟨b,S,e⟩:=te e;by_cases rd:0<=a/\a<(z.t.Db.length:Int) - 1
  ·rw [if_pos rd] at e;cases e;obtain ⟨j,rfl⟩:∃ j:Nat,a=(j:Int):=⟨a.toNat,by omega⟩;have jp:j+1<G.B.length:=by omega
   have Y:G.B[j+1]?=some G.B[j+1]:=List.getElem?_eq_getElem jp;exact uO s S (WK Y) p C N R V g.dc H Tb mk y mt (λJ w' le f=>T _ _ _ h (X:=X) (D.t le) ec (g.up le) ⟨rfl,_,Ed,ge,Y,rfl,Ye.up le .r m⟩ f) F
  ·rw [if_neg rd] at e;cases e
 rw [if_neg V] at e;by_cases Z:x.Kind=24
 ·rw [if_pos Z] at e;obtain ⟨a,s,e⟩:=te e;by_cases rd:0<=a
  ·rw [if_pos rd] at e;obtain ⟨c,Id,e⟩:=te e;cases e;obtain ⟨j,rfl⟩:∃ j:Nat,a=(j:Int):=⟨a.toNat,by omega⟩;obtain ⟨am,q,mp,pp,g1,g2,⟨wf,ap,up,Pi,on,rfl,-⟩,g3⟩:=xf.at g.Gd Id;have nd:=F.perm (rs':=.ea G.La 66 [.map (some X.md),.map (some X.Tb),.map (some X.nb),ca z.nodes]::.ea G.Ea 81 [ob G.La,X.cc,X.rb,ob X.xb,ca z.t.state,ca z.t.box,ca z.t.ye,X.Hb]::.row X.rb 79 1 ((G.B.drop 1).map vc.mk).length X.oe::.ea am 117 [wf,.pointer ap,.bool c.begun,.bool c.going,.bool c.ended,up,Pi,on]::(.row X.Hb 2 1 z.t.out.length X.kh::(X.Tc++(mp++(pp++(X.Ya++rsF)))))) (by simp only [ie.res,g2,List.append_assoc,List.cons_append];classical exact List.perm_iff_count.2 (λx=>(by simp only [List.count_append,List.count_cons,List.count_nil];ac_rfl)));refine EP s (WK (b:=am) g1) p C N R V U Z m.fn g.dc H Tb mk y mt ?_ nd;intro J w' le f;refine Vl T h (X:=X) (D.t le) ec (g.up le) (Ye.up le .r m)<|f.perm ?_;simp only [ie.res,g2,List.append_assoc,List.cons_append]
   classical exact List.perm_iff_count.2 (λx=>(by simp only [List.count_append,List.count_cons,List.count_nil];ac_rfl))
  ·rw [if_neg rd] at e;cases e
 rw [if_neg Z] at e;obtain ⟨q,O,e⟩:=te e;by_cases id:x.Kind=9
 ·rw [if_pos (.inl id)] at O;obtain ⟨b,S,O⟩:=te O;cases O;by_cases W:b=0
  ·rw [if_pos (by simpa using W)] at e;cases e;cases h;exact FP S W p C N R V U Z id H Tb mk y mt (λJ w' le f=>Xv (X:=X) (D.t le) ec (g.up le) f) F
  ·rw [if_neg (by simpa using W)] at e;obtain ⟨a,s,e⟩:=te e;obtain ⟨Rc,rg,e⟩:=te e;obtain ⟨v,Oa,e⟩:=te e;cases e;obtain rfl:b=Rc:=Option.some.inj (S.symm.trans rg);exact HR s S Oa W p C N R V U Z id m.fn H Tb mk y mt (λJ w' le f=>Vl T h (X:=X) (D.t le) ec (g.up le) (Ye.up le .r m) f) F
 by_cases ce:x.Kind=10
 ·rw [if_pos (.inr ce)] at O;obtain ⟨b,S,O⟩:=te O;cases O;by_cases W:b=0
  ·rw [if_pos (by simpa using W)] at e;cases e;cases h;exact vO S W p C N R V U Z id ce H Tb mk y mt (λJ w' le f=>Xv (X:=X) (D.t le) ec (g.up le) f) F
  ·rw [if_neg (by simpa using W)] at e;obtain ⟨a,s,e⟩:=te e;obtain ⟨Rc,rg,e⟩:=te e;obtain ⟨v,Oa,e⟩:=te e;cases e;obtain rfl:b=Rc:=Option.some.inj (S.symm.trans rg);exact GP s S Oa W p C N R V U Z id ce m.fn H Tb mk y mt (λJ w' le f=>Vl T h (X:=X) (D.t le) ec (g.up le) (Ye.up le .r m) f) F
 rw [if_neg (by rintro (q | q)<;>contradiction)] at O;cases O;rw [if_neg (by decide)] at e;obtain ⟨a,s,e⟩:=te e;obtain ⟨b,S,e⟩:=te e;obtain ⟨v,Oa,e⟩:=te e;cases e;exact CT s S Oa p C N R V U Z id ce m.fn H Tb mk y mt (λJ w' le f=>Vl T h (X:=X) (D.t le) ec (g.up le) (Ye.up le .r m) f) F
theorem goes:∀ n,gj E μb Gb da rsF n
 | 0=>λc z r h=>by rw [dp] at h; cases h
 | n+1=>λc=>by
  have a:gj E μb Gb da rsF n:=goes n;cases c with
  | expr x s k=>exact PR a x s k
  | all l s g k=>exact OT a l s g k
  | stats l s e k=>exact MP a l s e k
  | qf x s e k=>exact PT a x s e k
  | ff k v =>
   cases k with
   | all l s g k=>exact QR a l s g k v
   | stat l s e k=>exact NP a l s e k v
   | qf x s e k=>exact RR a x s e k v
  | Jd k l =>
   cases k with
   | ex x k =>
    rintro z r h μ w G X f vs i ec j ⟨q,t,cs,rfl,la,m⟩ p;obtain ⟨o,b,h⟩:=Tk h;rw [Wd] at b;exact VT a b h i ec j la m p
  | sd k =>
   cases k with
   | zero k=>exact SR a k
   | recv hc k=>exact KP a hc k
   | send hc v k=>exact LP a hc v k
   | done g=>exact WR a g
   | stats l s e k=>exact GO a l s e k
   | qf x s e k=>exact TR a x s e k
   | fin=>exact QT a
   | Yi d=>exact RT a d
  | recv hc k=>exact UR a hc k
  | send hc v k=>exact VR a hc v k
  | resume g v k=>exact KO a g v k
end Go.Proofs.YtafjdiifkckmbaaGreatDoor
set_option maxHeartbeats 20000000
namespace Go.Proofs.YtafjdiifkckmbaaGreatDoor
open Go.Bc Go.Re Go.Y
variable {E:Sd}{da:World}{rsF:List Ha}
theorem WT {fu:Nat}{z:Sc}{r:Option Sc}(h:ly E fu z=some r){μ:M}{w:World}{G:Xd}{X:ie}(a:xg E μ G z X) (b:fa μ da w (X.res G z rsF)):nc Tryz.prog 18 [ob G.Ea] w tm (wq r) (λc v w'=>v=.tuple #[]/\∃ J kg d,ha μ J/\G.le kg/\xg E J kg c d/\fa J da w' (d.res kg c rsF)) (al μ da rsF):=by
 rw [ly] at h;rw [ie.res] at b;refine jf Tryz.func18 rfl (frm:=_::Dd (jb (Kc (kd [])))) rfl<|aa<|wl<|yc kc (ba d7) db rfl b d1 Yc rfl pb Ia λj b=>?_;refine aa ?_;refine wl<|yc kc (ba<|oa d0) db rfl b d1 td rfl pb Ia λS b=>?_;refine aa ?_;refine Ra ?_;refine qo [15,16,17,18] (by decide) (λn m j=>∃ (J:M) (kg:Xd) (d:ie) (k:Option fe) (c:Sc) (g:Value),m=ef (.i g::(Pd (ef (hi 15 []))))/\ha μ J/\G.le kg/\xg E J kg c d/\Tt E J kg g k/\bt E n k c=some r/\fa J da j (d.res kg c rsF)) (by rintro _ _ _ ⟨_,_,_,_,_,_,rfl,_⟩;rfl) fu _ mc ⟨μ,G,X,z.t.mm,z.task λt=>{ t with state:=1,box:=0 },_,rfl,ha.r,Xd.le.r,⟨a.vd,a.ld,a.md,a.Tb,a.nb,a.wh,a.now,a.Rh,a.dc,a.out,a.Tc,a.Gd,a.Ya,a.hf⟩,a.Rh,h,b⟩ ?_;rintro n _ t j ⟨J,kg,d,k,c,g,rfl,le,ec,u,f,la,b⟩;refine aa ?_;cases k with
 | none =>
  obtain rfl:g=.nilFunc:=f;obtain rfl:some c=r:=by cases n<;>exact lv la
  refine ma<|ma<|Nh<|wl<|ui (ba d2) (wa<|tb td)<|wl<|aK Tryz.underlying77 rfl (.inl ⟨rfl,rfl⟩) (ba<|oa d5) (wa<|tb Md)<|Yg<|ag<|Br (ba<|oa d6) (λq=>by cases q)<|λ_=>?_;exact ht<|(λh=>Ko<|Ko<|Zt h) (WV<|yk rfl<|⟨rfl,J,kg,d,le,ec,u,b⟩)
 | some k =>
  obtain ⟨K,cs,rfl,f⟩:=f;cases n with
  | zero=>cases la
  | succ n =>
  obtain ⟨l,C,la⟩:=te la;refine ma<|ma<|Nh<|wl<|ui (ba d2) (wa<|tb td)<|wl<|aK Tryz.underlying77 rfl (.inr ⟨⟨_,_,_,rfl⟩,rfl⟩) (ba<|oa d5) (wa<|tb Md)<|Yg<|ag<|Br (ba<|oa d6) (λ_=>?_) (λq=>by cases q);refine Ei<|ag<|Ra<|Nh<|wl<|ui (ba d2) (wa<|tb Td)<|wl<|yu f.fn (ba<|oa d7) lb (goes (μb:=J) (Gb:=kg) n (.sd k) c l C ha.r Xd.le.r u ⟨cs,rfl,f⟩ b) ?_ ?_
  ·intro x v w' A D;refine pu (wa<|tb Zd)<|wl<|br (ba<|oa d8) (wa Fb)<|Yg<|(λh=>Ym<|aj h) ?_;cases l with
   | none=>cases A
   | some y =>
   cases A;obtain ⟨k',F⟩:=x;obtain ⟨o,H,L,p,N,O,Q,s⟩:=D;exact ⟨n,_,_,rfl,(pn<|Ch<|Lk<|pn<|uq Uj),⟨o,H,L,k',F,_,rfl,le.t p,ec.t N,O,Q,la,s⟩,Nat.lt_succ_self _⟩
  ·intro e w' B R;cases l with
   | some y=>cases B
   | none =>
   obtain rfl:=lv la;cases B;obtain ⟨o,p,s⟩:=R;exact (λh=>VG<|LL<|VG h) (JG (P:=Tryz.prog) (fn:=Tryz.f18) ⟨o,le.t p,s⟩)
end Go.Proofs.YtafjdiifkckmbaaGreatDoor
set_option maxHeartbeats 4000000
namespace Go.Proofs.YtafjdiifkckmbaaGreatDoor
open Go.Bc Go.Re Go.Y
structure Vu (E:Sd) (μ:M) (G:Xd) (t:xd) (X:ie):Prop where
 now:G.B[t.now]?=some X.xb
 Rh:Tt E μ G X.cc t.mm
 dc:qa μ X.oe ((G.B.drop 1).map vc.mk)
 out:qa μ X.kh t.out
 Tc:xf (nq G) t.de G.A X.Tc
 Gd:xf (Uu E μ G) t.Db G.B X.Gd
 hf:t.Db.length<=31
def jr (t:xd) (G:Xd) (X:ie):List Ha :=
 .ea G.Ea 81 [ob G.La,X.cc,X.rb,ob X.xb,ca t.state,ca t.box,ca t.ye,X.Hb]::
 .row X.rb 79 1 ((G.B.drop 1).map vc.mk).length X.oe::.row X.Hb 2 1 t.out.length X.kh::(X.Tc++X.Gd)
structure Jw (E:Sd) (μ:M) (bb:List Nat) (bs:List Rd) (nd:Int) (X:ie):Prop where
 vd:0<=nd
 ld:nd<=20000
 md:Tf μ X.md E.defs
 Tb:Tf μ X.Tb X.cj
 nb:Tf μ X.nb E.order
 wh:∀ (n:Je) (i b:Nat),Sa E.order n=some (i:Int)->bb[i]?=some b->Sa X.cj n=some ⟨some b⟩
 Ya:xf (Jt μ) bs bb X.Ya
def hq (La:Nat) (nd:Int) (X:ie):List Ha:=.ea La 66 [.map (some X.md),.map (some X.Tb),.map (some X.nb),ca nd]::X.Ya
def ih (E:Sd) (μ:M) (La:Nat) (bb:List Nat):List xd->List (Xd×ie)->Prop
 | [],[]=>True
 | t::na,i::is=>i.1.La=La/\i.1.bb=bb/\Vu E μ i.1 t i.2/\ih E μ La bb na is
 | _,_=>False
def Uh:List xd->List (Xd×ie)->List Ha
 | t::na,i::is=>jr t i.1 i.2++Uh na is
 | _,_=>[]
section
variable {Dg α:Type}{V:Dg->Value}{r:Except Dg α}{R:α->Value->World->Prop}{E:World->Prop}
variable {E:Sd}{μ J:M}{La:Nat}{bb:List Nat}{bs:List Rd}{nd:Int}{X du:ie}{G:Xd}{t:xd}
theorem Vu.up (h:Vu E μ G t X) (l:ha μ J):Vu E J G t X:=⟨h.now,h.Rh.up l .r,h.dc.up l,h.out.up l,h.Tc,h.Gd.imp λ_ _ _ k=>k.up l .r,h.hf⟩
theorem Jw.up (h:Jw E μ bb bs nd X) (l:ha μ J):Jw E J bb bs nd X:=⟨h.vd,h.ld,h.md.up l,h.Tb.up l,h.nb.up l,h.wh,h.Ya.imp λ_ _ _ k=>k.up l⟩
theorem ih.up (l:ha μ J):∀ {na:List xd}{is:List (Xd×ie)},ih E μ La bb na is->ih E J La bb na is
 | [],[],_=>trivial
 | t::na,i::is,⟨a,b,c,d⟩=>⟨a,b,c.up l,ih.up l d⟩
 | [],_::_,h=>h.elim
 | _::_,[],h=>h.elim
theorem ih.cut:∀ {pre na:List xd}{is:List (Xd×ie)},ih E μ La bb (pre++na) is->∃ a b,is=a++b/\ih E μ La bb pre a/\ih E μ La bb na b
 | [],na,is,h=>⟨[],is,rfl,trivial,h⟩
 | t::pre,na,i::is,⟨c,d,e,f⟩=>by
  obtain ⟨a,b,rfl,k1,g⟩:=ih.cut f;exact ⟨i::a,b,rfl,⟨c,d,e,k1⟩,g⟩
 | _::_,_,[],h=>h.elim
theorem ih.glue:∀ {pre na:List xd}{b a:List (Xd×ie)},ih E μ La bb pre b->ih E μ La bb na a->ih E μ La bb (pre++na) (b++a)
 | [],na,[],a,_,h=>h
 | t::pre,na,i::b,a,⟨c,d,e,f⟩,h=>⟨c,d,e,ih.glue f h⟩
 | [],_,_::_,_,h,_=>h.elim
 | _::_,_,[],_,h,_=>h.elim
theorem ih.res:∀ {pre na:List xd}{a b:List (Xd×ie)},ih E μ La bb pre a->Uh (pre++na) (a++b)=Uh pre a++Uh na b
 | [],na,[],b,_=>rfl
 | t::pre,na,i::a,b,⟨d,e,f,c⟩=>by
  show jr t i.1 i.2++Uh (pre++na) (a++b)=(jr t i.1 i.2++Uh pre a)++Uh na b;rw [ih.res c,List.append_assoc]
 | [],_,_::_,_,h=>h.elim
 | _::_,_,[],_,h=>h.elim
theorem ih.len:∀ {na:List xd}{is:List (Xd×ie)},ih E μ La bb na is->na.length=is.length
 | [],[],_=>rfl
 | t::na,i::is,⟨_,_,_,a⟩=>by simp [ih.len a]
 | [],_::_,h=>h.elim
 | _::_,[],h=>h.elim
theorem _root_.Go.Re.nc.mono {f:FuncId}{args:List Value}{w:World}{R R':α->Value->World->Prop}{F b:World->Prop}(h:nc Tryz.prog f args w V r R F) (d:∀ x v w',R x v w'->R' x v w') (g:∀ w',F w'->b w'):nc Tryz.prog f args w V r R' b :=
 ⟨Calls.mono h.out λe w' k=>by
  cases e with
  | returned v=>obtain ⟨x,a,k⟩:=k; exact ⟨x,a,d _ _ _ k⟩
  | panicked c=>obtain ⟨e,a,i,k⟩:=k; exact ⟨e,a,i,g _ k⟩
  | outgrown=>exact k⟩
def yG (S X:ie):ie:={ S with cc:=X.cc,rb:=X.rb,Hb:=X.Hb,xb:=X.xb,oe:=X.oe,kh:=X.kh,Tc:=X.Tc,Gd:=X.Gd }
theorem xg.join (a:Jw E μ G.bb bs nd du) (b:Vu E μ G t X):xg E μ G ⟨t,bs,nd⟩ (yG du X):=
 ⟨a.vd,a.ld,a.md,a.Tb,a.nb,a.wh,b.now,b.Rh,b.dc,b.out,b.Tc,b.Gd,a.Ya,b.hf⟩
theorem xg.part {z:Sc}(h:xg E μ G z X):Jw E μ G.bb z.boxes z.nodes X/\Vu E μ G z.t X :=
 ⟨⟨h.vd,h.ld,h.md,h.Tb,h.nb,h.wh,h.Ya⟩,⟨h.now,h.Rh,h.dc,h.out,h.Tc,h.Gd,h.hf⟩⟩
end
structure Nr (E:Sd) (μ:M) (La:Nat) (bb oh:List Nat) (na:List xd) (bs:List Rd) (nd:Int) (S:ie) (L:List (Xd×ie)):Prop where
 vf:Jw E μ bb bs nd S
 all:ih E μ La bb na L
 Ea:oh=L.map λi=>i.1.Ea
def pj (La:Nat) (nd:Int) (S:ie) (na:List xd) (L:List (Xd×ie)) (hf:List Ha):List Ha:=hq La nd S++(Uh na L++hf)
section
variable {E:Sd}{da:World}{rsF:List Ha}{μ:M}{w:World}{La:Nat}{bb oh:List Nat}{pre na:List xd}{t:xd}{bs:List Rd}{nd:Int}{S:ie}{L:List (Xd×ie)}
theorem LO {fu:Nat}{r:Option Sc}(h:ly E fu ⟨t,bs,nd⟩=some r) (o:Nr E μ La bb oh (pre++t::na) bs nd S L) (p:fa μ da w (pj La nd S (pre++t::na) L rsF)){b:Nat}(f:oh[pre.length]?=some b) :
  nc Tryz.prog 18 [ob b] w tm (wq r) (λz v w'=>v=.tuple #[]/\∃ J g j,ha μ J/\Nr E J La bb oh (pre++z.t::na) z.boxes z.nodes g j/\fa J da w' (pj La z.nodes g (pre++z.t::na) j rsF)) (al μ da rsF):=by
 obtain ⟨q,s,rfl⟩:=o;obtain ⟨c,a,rfl,pa,d⟩:=ih.cut s;cases a with
 | nil=>exact d.elim
 | cons i a =>
 obtain ⟨rfl,rfl,u,d⟩:=d;have y:pre.length=c.length:=ih.len pa;obtain rfl:i.1.Ea=b:=by
  rw [y] at f;simpa using f
 have A:=xg.join q u;have B:=p.perm (rs':=(yG S i.2).res i.1 ⟨t,bs,nd⟩ (Uh pre c++(Uh na a++rsF))) (by
  simp only [pj,hq,ih.res pa,Uh,jr,ie.res,yG,List.append_assoc,List.cons_append]
  classical exact List.perm_iff_count.2 (λx=>(by simp only [List.count_append,List.count_cons,List.count_nil];ac_rfl)))
 refine (WT (rsF:=Uh pre c++(Uh na a++rsF)) h A B).mono ?_ ?_
 ·rintro z v w' ⟨rfl,J,kg,k,le,ec,C,e⟩;obtain ⟨m,D⟩:=xg.part C;rw [ec.bb] at m;have n:=ih.up le pa;refine ⟨rfl,J,k,c++(kg,k)::a,le,⟨m,ih.glue n ⟨ec.La,ec.bb,D,ih.up le d⟩,?_⟩,e.perm ?_⟩
  ·simp [ec.Ea]
  ·simp only [pj,hq,ih.res n,Uh,jr,ie.res,ec.La,List.append_assoc,List.cons_append];classical exact List.perm_iff_count.2 (λx=>(by simp only [List.count_append,List.count_cons,List.count_nil];ac_rfl))
 ·rintro w' ⟨J,l,e⟩;exact ⟨J,l,uy<|uy e⟩
theorem MO {c:Bool}(h:nr t bs=some c) (H:Nr E μ La bb oh (pre++t::na) bs nd S L){lf:Value}{mf:List Value}{Od:List vc}(K:Od=bb.map vc.mk) (p:qa μ mf Od) (N:fa μ da w (.row lf 70 1 Od.length mf::pj La nd S (pre++t::na) L rsF)){b:Nat}(C:oh[pre.length]?=some b) :
  kb Tryz.prog 17 [ob b,lf] w (λv w'=>v=.bool c/\∃ J,ha μ J/\fa J da w' (.row lf 70 1 Od.length mf::pj La nd S (pre++t::na) L rsF)):=by
 obtain ⟨O,P,rfl⟩:=H;obtain ⟨g,e,rfl,pa,a2⟩:=ih.cut P;cases e with
 | nil=>exact a2.elim
 | cons i e =>
 obtain ⟨rfl,rfl,V,a2⟩:=a2;have Q:pre.length=g.length:=ih.len pa;obtain rfl:i.1.Ea=b:=by
  rw [Q] at C;simpa using C
 have r:=N.perm (rs':=.ea i.1.Ea 81 [ob i.1.La,i.2.cc,i.2.rb,ob i.2.xb,ca t.state,ca t.box,ca t.ye,i.2.Hb]::.row lf 70 1 Od.length mf::(hq i.1.La nd S++(.row i.2.rb 79 1 ((i.1.B.drop 1).map vc.mk).length i.2.oe::.row i.2.Hb 2 1 t.out.length i.2.kh::(i.2.Tc++(i.2.Gd++(Uh pre g++(Uh na e++rsF))))))) (by
  simp only [pj,ih.res pa,Uh,jr,List.append_assoc,List.cons_append]
  classical exact List.perm_iff_count.2 (λx=>(by simp only [List.count_append,List.count_cons,List.count_nil];ac_rfl)))
 rw [nr] at h;have back:∀ {J:M}{w':World},fa J da w' (.ea i.1.Ea 81 [ob i.1.La,i.2.cc,i.2.rb,ob i.2.xb,ca t.state,ca t.box,ca t.ye,i.2.Hb]::.row lf 70 1 Od.length mf::(hq i.1.La nd S++(.row i.2.rb 79 1 ((i.1.B.drop 1).map vc.mk).length i.2.oe::.row i.2.Hb 2 1 t.out.length i.2.kh::(i.2.Tc++(i.2.Gd++(Uh pre g++(Uh na e++rsF)))))))->fa J da w' (.row lf 70 1 Od.length mf::pj i.1.La nd S (pre++t::na) (g++i::e) rsF):=λd=>d.perm (by
  simp only [pj,ih.res pa,Uh,jr,List.append_assoc,List.cons_append]
  classical exact List.perm_iff_count.2 (λx=>(by simp only [List.count_append,List.count_cons,List.count_nil];ac_rfl)))
 by_cases l:t.state=1
 ·rw [if_pos l] at h;cases h;refine (FO l p r).mono ?_;rintro v w' ⟨J,rfl,le,d⟩;exact ⟨rfl,J,le,back d⟩
 rw [if_neg l] at h;have box:∀ {c:Rd},at_ bs t.box=some c->∃ f a k u,at_ Od t.box=some ⟨f⟩/\za μ a k c.words/\∀ {J:M}{w':World},fa J da w' (.ea i.1.Ea 81 [ob i.1.La,i.2.cc,i.2.rb,ob i.2.xb,ca t.state,ca t.box,ca t.ye,i.2.Hb]::.row lf 70 1 Od.length mf::(hq i.1.La nd S++(.row i.2.rb 79 1 ((i.1.B.drop 1).map vc.mk).length i.2.oe::.row i.2.Hb 2 1 t.out.length i.2.kh::(i.2.Tc++(i.2.Gd++(Uh pre g++(Uh na e++rsF))))))) ↔ fa J da w' (.ea i.1.Ea 81 [ob i.1.La,i.2.cc,i.2.rb,ob i.2.xb,ca t.state,ca t.box,ca t.ye,i.2.Hb]::.row lf 70 1 Od.length mf::.ea f 72 [ca c.cap,.slice a c.words.length k]::u):=by
  intro c m;obtain ⟨j,R,T⟩:=gG m;obtain ⟨f,q,D,F,g1,g2,⟨a,k,rfl,U⟩,g3⟩:=xf.at O.Ya T;refine ⟨f,a,k,.ea i.1.La 66 [.map (some S.md),.map (some S.Tb),.map (some S.nb),ca nd]::(D++(F++(.row i.2.rb 79 1 ((i.1.B.drop 1).map vc.mk).length i.2.oe::.row i.2.Hb 2 1 t.out.length i.2.kh::(i.2.Tc++(i.2.Gd++(Uh pre g++(Uh na e++rsF))))))),by rw [R,K];simp [at_,g1],U,λ{J w'}=>?_⟩;have G:∀ (A B:Ha) (Z:List Ha),(A::B::(hq i.1.La nd S++Z)).Perm (A::B::.ea f 72 [ca c.cap,.slice a c.words.length k]::.ea i.1.La 66 [.map (some S.md),.map (some S.Tb),.map (some S.nb),ca nd]::(D++(F++Z))):=λA B Z=>by
   simp only [hq,g2,List.append_assoc,List.cons_append]
   classical exact List.perm_iff_count.2 (λx=>(by simp only [List.count_append,List.count_cons,List.count_nil];ac_rfl))
  exact ⟨λh=>h.perm<|G _ _ _,λh=>h.perm (G _ _ _).symm⟩
 by_cases n:t.state=2
 ·rw [if_pos n] at h;refine ra h λc' m h=>?_;cases h;obtain ⟨f,a,k,u,y,z,o⟩:=box m;refine (IP y l n p z<|o.1 r).mono ?_;rintro v w' ⟨J,rfl,le,d⟩;exact ⟨rfl,J,le,back<|o.2 d⟩
 rw [if_neg n] at h;by_cases s:t.state=3
 ·rw [if_pos s] at h;refine ra h λc' m h=>?_;cases h;obtain ⟨f,a,k,u,y,z,o⟩:=box m;refine (JP y l n s p z<|o.1 r).mono ?_;rintro v w' ⟨J,rfl,le,d⟩;exact ⟨rfl,J,le,back<|o.2 d⟩
 rw [if_neg s] at h;cases h;refine (NT l n s p r).mono ?_;rintro v w' ⟨J,rfl,le,d⟩;exact ⟨rfl,J,le,back d⟩
end
structure Ci where
 Ea:Nat
 xb:Nat
 Pk:Nat
 ve:Nat
 Fq:Nat
 an:Value
def Hy (μ:M) (d:va) (i:Ci):Prop:=Fe μ i.an d/\xa μ i.Pk 0 [i.an]/\xa μ i.ve 0 [ob i.Ea]/\xa μ i.Fq 0 [bh 29 [ob i.ve]]
def iy (La:Nat) (i:Ci):List Ha :=
 [.ea i.Ea 81 [ob La,bh 30 [ob i.ve,ob i.Pk,ob i.Fq],.slice none 0 0,ob i.xb,ca 1,ca 0,ca 0,.slice none 0 0],.ea i.xb 117 [i.an,.pointer none,.bool false,.bool false,.bool false,.pointer none,.nilFunc,.nilFunc]]
theorem ew {μ:M}{da w:World}{c:List Ha}{T n:Nat}(a:fa μ da w c):fa μ da w (.row (.slice none 0 0) T n 0 []::c):=by
 refine ⟨a.keeps,λr b=>?_,a.oi,a.new,a.Xi⟩;rcases List.mem_cons.1 b with rfl | b
 ·exact ⟨by simp,.inl ⟨rfl,rfl⟩⟩
 ·exact a.all r b
def zw (i:Ci):ie:=⟨0,0,0,[],bh 30 [ob i.ve,ob i.Pk,ob i.Fq],.slice none 0 0,.slice none 0 0,i.xb,[],[],[],[.ea i.xb 117 [i.an,.pointer none,.bool false,.bool false,.bool false,.pointer none,.nilFunc,.nilFunc]],[]⟩
def Aw (La:Nat) (bb:List Nat) (i:Ci):Xd:=⟨La,i.Ea,[],[i.xb],bb⟩
theorem Hy.task {E:Sd}{μ:M}{La:Nat}{bb:List Nat}{d:va}{i:Ci}(h:Hy μ d i):Vu E μ (Aw La bb i) (Hk d) (zw i):=by
 obtain ⟨a,c,b,e⟩:=h;refine ⟨rfl,⟨_,_,rfl,?_⟩,qa.nil,qa.nil,trivial,⟨⟨i.an,none,.pointer none,.nilFunc,.nilFunc,rfl,a,rfl,rfl,rfl,rfl⟩,trivial⟩,(by show 1<=31;decide)⟩;rw [re];exact ⟨rfl,i.ve,i.Pk,i.Fq,i.ve,i.an,rfl,b,a,c,e,b⟩
def Mk (μ:M):List va->List Ci->Prop
 | [],[]=>True
 | d::ds,i::is=>Hy μ d i/\Mk μ ds is
 | _,_=>False
theorem Mk.all {E:Sd}{μ:M}{La:Nat}{bb:List Nat}:∀ {ds:List va}{is:List Ci},Mk μ ds is->ih E μ La bb (ds.map Hk) (is.map λi=>(Aw La bb i,zw i))
 | [],[],_=>trivial
 | d::ds,i::is,⟨a,b⟩=>⟨rfl,rfl,a.task,Mk.all b⟩
 | [],_::_,h=>h.elim
 | _::_,[],h=>h.elim
theorem Mk.up {μ J:M}(l:ha μ J):∀ {ds:List va}{is:List Ci},Mk μ ds is->Mk J ds is
 | [],[],_=>trivial
 | d::ds,i::is,⟨⟨a,b,c,e⟩,h⟩=>⟨⟨a.up l,b.up l,c.up l,e.up l⟩,Mk.up l h⟩
 | [],_::_,h=>h.elim
 | _::_,[],h=>h.elim
theorem Mk.snoc {μ:M}{d:va}{i:Ci}(h:Hy μ d i):∀ {ds:List va}{is:List Ci},Mk μ ds is->Mk μ (ds++[d]) (is++[i])
 | [],[],_=>⟨h,trivial⟩
 | _::_,_::_,⟨a,b⟩=>⟨a,Mk.snoc h b⟩
 | [],_::_,h=>h.elim
 | _::_,[],h=>h.elim
def kr (La:Nat) (is:List Ci):List Ha:=is.flatMap (iy La)
theorem Mk.res {μ:M}{da w:World}{La:Nat}{bb:List Nat}:∀ {ds:List va}{is:List Ci}{a:List Ha},Mk μ ds is->fa μ da w (kr La is++a)->fa μ da w (Uh (ds.map Hk) (is.map λi=>(Aw La bb i,zw i))++a)
 | [],[],a,_,b=>b
 | d::ds,i::is,a,⟨k,c⟩,b=>by
  have e:kr La (i::is)=iy La i++kr La is:=rfl;rw [e,List.append_assoc] at b;have f:fa μ da w (kr La is++(iy La i++a)):=b.perm (by
   rw [<- List.append_assoc,<- List.append_assoc];exact List.perm_append_comm.append_right _)
  have g:=Mk.res (bb:=bb) c f;have j:=ew (T:=79) (n:=1) (ew (T:=2) (n:=1) g);refine j.perm ?_;simp only [Uh,List.map_cons,jr,iy,zw,Aw,Hk,List.append_assoc,List.cons_append,List.nil_append,List.drop_succ_cons,List.drop_zero,List.map_nil,List.length_nil]
  classical exact List.perm_iff_count.2 (λx=>(by simp only [List.count_append,List.count_cons,List.count_nil];ac_rfl))
 | [],_::_,_,h,_=>h.elim
 | _::_,[],_,h,_=>h.elim
open Go.RowKit
theorem QM (a b:Value) (w:World) :
  CallsD Tryz.prog 15 #[a,b] .returning w λe c w'=>e=.returned (.tuple #[])/\c=.returning/\w'=w:=by
 refine callsD_of_wpS Tryz.func15 rfl λd cs f=>?_;apply wpS_seq;apply wpS_region;simp [wpOpsS,go_sem,recoverD,f,Tryz.ntmps15,Exit.thenS];refine wpS_of_wp<|ud.out (fr:=[a,b,undef,undef,undef,.nilIface,undef,undef,undef,undef,undef,undef,undef]) (ds:=[])<|Ra<|aa<|wl<|qF Tryz.underlying20 (ba d5) (.inl ⟨rfl,rfl⟩) (wa Td) ?_;refine aa ?_;refine kl (ba d7) ?_;refine aa ?_;cases d
 simp_all [F,bodyPostS,results,Tryz.results15]
theorem NO {I:M}{da w:World}{rsF:List Ha}{a b:Value}(c:fa I da w rsF):IE Tryz.prog 15 [a,b] w (λv w'=>v=.tuple ⟨[]⟩/\fa I da w' rsF):=
 ⟨(QM a b w).mono λe f w' d=>by
  obtain ⟨rfl,rfl,rfl⟩:=d;exact ⟨rfl,rfl,c⟩⟩
theorem yN {I:M}{da w:World}{rsF:List Ha}{d f:Nat}{x y z a b:Value}(c:fa I da w (.ea d 31 [x,y,z]::.ea f 26 [a,b]::rsF)) :
  CallsD Tryz.prog 15 #[ob d,ob f] (.panicking [{ v:=tm (),recovered:=false }]) w λe g w'=>g=.panicking [{ v:=tm (),recovered:=true }]/\e=.returned (.tuple #[])/\fa I da w' (.ea d 31 [.slice none 0 0,.slice none 0 0,ca 0]::.ea f 26 [ca 10,ca 0]::rsF):=by
 refine callsD_of_wpS Tryz.func15 rfl λh cs i=>?_;apply wpS_seq;apply wpS_region;simp [wpOpsS,go_sem,recoverD,i,Tryz.ntmps15,Exit.thenS];refine wpS_of_wp<|ud.out (fr:=[ob d,ob f,undef,undef,undef,tm (),undef,undef,undef,undef,undef,undef,undef]) (ds:=[]) ?_;refine Ra ?_;refine aa ?_;refine wl<|qF Tryz.underlying20 (ba d5) (.inr ⟨⟨_,_,rfl⟩,rfl⟩) (wa Td) ?_;refine aa ?_;refine ek (ba d7) ?_;refine aa ?_;refine wl<|FU Tryz.underlying60 rfl (ba d5) (wa Zd) ?_;refine aa ?_;refine kl (ba d9) ?_;refine aa ?_;refine wl<|oc vG c λUf j k c=>?_;refine pu (wa pc) ?_;refine wl<|Nb vG (ba d3) (ba<|oa d0) rfl rfl c d0 rfl Ba Ia λl c=>?_;refine aa ?_;refine aa ?_;refine wl<|Ke fj pL eb.z (wa<|tb pb) ?_;refine wl<|Ke ed mn (eb.o rfl db rfl rfl Ba eb.z) (wa<|tb Fb) ?_;refine wl<|Nb fj (ba d0) (ba<|oa d1) rfl rfl c d1 rfl pb Ia λm c=>?_;refine wl<|Nb ed (ba d1) (ba<|oa d2) rfl rfl c d2 rfl Fb Ia λn c=>?_;refine aa ?_;have c:=c.drop ja.z;cases h
 simp_all [F,bodyPostS,results,Tryz.results15]
theorem OP {I:M}{da w:World}{rsF:List Ha}{c d:Nat}{x y z a b:Value}(f:fa I da w (.ea c 31 [x,y,z]::.ea d 26 [a,b]::rsF)) :
  QI Tryz.prog 15 ([]++[ob c,ob d]) [{ v:=tm (),recovered:=false }] w (λw'=>fa I da w' (.ea c 31 [.slice none 0 0,.slice none 0 0,ca 0]::.ea d 26 [ca 10,ca 0]::rsF)):=
 ⟨(yN f).mono λe i w' g=>by
  obtain ⟨rfl,rfl,h⟩:=g;exact ⟨rfl,h⟩⟩
end Go.Proofs.YtafjdiifkckmbaaGreatDoor
set_option maxHeartbeats 20000000
namespace Go.Proofs.YtafjdiifkckmbaaGreatDoor
open Go.Bc Go.Re Go.Y
def iq:Code->List Nat->Code
 | c,[]=>c
 | .seq a _,0::p=>iq a p
 | .seq _ b,_::p=>iq b p
 | .block _ c,_::p=>iq c p
 | .loop c,_::p=>iq c p
 | .cond _ a _,0::p=>iq a p
 | .cond _ _ b,_::p=>iq b p
 | c,_=>c
section
variable {E:Sd}{da:World}{rsF:List Ha}{μ:M}{w:World}{La:Nat}{bb oh:List Nat}{na:List xd}{bs:List Rd}{nd:Int}{S:ie}{L:List (Xd×ie)}
variable {Q:Exit->Act->World->Prop}{ds:List Deferred}{lf Mf:Value}{mf oe:List Value}
theorem OO {D pa G H K a5 mb N gd jc O Q1 Ub yd P Ac R T U V W X Y Z Gb gc lc rc fd id md rd wd Fd Id be ce ge ne Ne of wf If dg bi ci ii li pi Pi dl el nl ol pl ul am em lm sm Nm fn on un wn Fn In co io no ro to Do ap ip jp mp pp sp wp Op eq Eq or qr wr Fr Or cs es is ls ms os rs us R1 S1 T1 U1 V1 W1 X1 Y1 Z1 a2 b2 c2 f2 vs ws xs ys Os gt it lt mt rt ut wt bv kv hw kw lw ww rx zx Rz hB AC GE LE NE WF RK PP WP EQ GQ IR FS GT LT ST UV a0 c0:Value}{fu n:Nat}{r:Option (List xd×List Rd×Int)}(h:dr E fu n na bs nd=some r) (b:Nr E μ La bb oh na bs nd S L) (g2:qa μ mf (bb.map vc.mk)) (h2:qa μ oe (oh.map vc.mk))
  (a:fa μ da w (.row Mf 73 1 (oh.map vc.mk).length oe::.row lf 70 1 (bb.map vc.mk).length mf::pj La nd S na L rsF))
  (i2:∀ (f0 Bg g0 i0 k0 t0 v0 x0 z0 R0 f1 g1 i1 k1 m1:Value) (w':World) (ts':List xd) (j:List Rd) (d:Int) (J:M) (k:ie) (l:List (Xd×ie)),r=some (ts',j,d)->ha μ J->Nr E J La bb oh ts' j d k l ->
   fa J da w' (.row Mf 73 1 (oh.map vc.mk).length oe::.row lf 70 1 (bb.map vc.mk).length mf::pj La d k ts' l rsF) ->
   Q .normal (F [D,pa,G,H,K,a5,lf,Mf,mb,N,gd,f0,O,Bg,Ub,yd,P,Ac,R,T,U,V,W,X,Y,Z,Gb,gc,lc,rc,fd,id,md,rd,wd,Fd,Id,be,ce,ge,ne,Ne,of,wf,If,dg,bi,ci,ii,li,pi,Pi,dl,el,nl,ol,pl,ul,am,em,lm,sm,Nm,fn,on,un,wn,Fn,In,co,io,no,ro,to,Do,ap,ip,jp,mp,pp,sp,wp,Op,eq,Eq,or,qr,wr,Fr,Or,cs,es,is,ls,ms,os,rs,us,g0,i0,k0,t0,v0,x0,z0,R0,f1,g1,i1,k1,m1,vs,ws,xs,ys,Os,gt,it,lt,mt,rt,ut,wt,bv,kv,hw,kw,lw,ww,rx,zx,Rz,hB,AC,GE,LE,NE,WF,RK,PP,WP,EQ,GQ,IR,FS,GT,LT,ST,UV,a0,c0] ds) w')
  (j2:∀ (f0 Bg g0 i0 k0 t0 v0 x0 z0 R0 f1 g1 i1 k1 m1:Value) (w':World),r=none->al μ da rsF w'->Q (.panic [{ v:=tm (),recovered:=false }]) (F [D,pa,G,H,K,a5,lf,Mf,mb,N,gd,f0,O,Bg,Ub,yd,P,Ac,R,T,U,V,W,X,Y,Z,Gb,gc,lc,rc,fd,id,md,rd,wd,Fd,Id,be,ce,ge,ne,Ne,of,wf,If,dg,bi,ci,ii,li,pi,Pi,dl,el,nl,ol,pl,ul,am,em,lm,sm,Nm,fn,on,un,wn,Fn,In,co,io,no,ro,to,Do,ap,ip,jp,mp,pp,sp,wp,Op,eq,Eq,or,qr,wr,Fr,Or,cs,es,is,ls,ms,os,rs,us,g0,i0,k0,t0,v0,x0,z0,R0,f1,g1,i1,k1,m1,vs,ws,xs,ys,Os,gt,it,lt,mt,rt,ut,wt,bv,kv,hw,kw,lw,ww,rx,zx,Rz,hB,AC,GE,LE,NE,WF,RK,PP,WP,EQ,GQ,IR,FS,GT,LT,ST,UV,a0,c0] ds) w') :
  ud Tryz.prog (iq ((Tryz.f7.body).getD .skip) [1,1,1,1,1,1,1,0]) Q [D,pa,G,H,K,a5,lf,Mf,mb,N,gd,jc,O,Q1,Ub,yd,P,Ac,R,T,U,V,W,X,Y,Z,Gb,gc,lc,rc,fd,id,md,rd,wd,Fd,Id,be,ce,ge,ne,Ne,of,wf,If,dg,bi,ci,ii,li,pi,Pi,dl,el,nl,ol,pl,ul,am,em,lm,sm,Nm,fn,on,un,wn,Fn,In,co,io,no,ro,to,Do,ap,ip,jp,mp,pp,sp,wp,Op,eq,Eq,or,qr,wr,Fr,Or,cs,es,is,ls,ms,os,rs,us,R1,S1,T1,U1,V1,W1,X1,Y1,Z1,a2,b2,c2,f2,vs,ws,xs,ys,Os,gt,it,lt,mt,rt,ut,wt,bv,kv,hw,kw,lw,ww,rx,zx,Rz,hB,AC,GE,LE,NE,WF,RK,PP,WP,EQ,GQ,IR,FS,GT,LT,ST,UV,a0,c0] ds w:=by
 refine ma<|Nh<|wl<|br db (wa<|tb pb)<|Yg<|ag<|Ra<|qo (13::rg 98 13) (by decide) (λn m C=>∃ (J:M) (ts':List xd) (j:List Rd) (d:Int) (k:ie) (l:List (Xd×ie)) (mc:Bool),m=Pd (jh (.i (.bool mc)::(jh (Mc 13 (df (Vc (Pd (qg (Xc 98 (Aj 108 (Vc (Vc []))))))))))))/\ha μ J/\Nr E J La bb oh ts' j d k l/\(if mc=true then dr E fu n ts' j d=some r else r=some (ts',j,d))/\fa J da C (.row Mf 73 1 (oh.map vc.mk).length oe::.row lf 70 1 (bb.map vc.mk).length mf::pj La d k ts' l rsF)) (by rintro _ _ _ ⟨_,_,_,_,_,_,_,rfl,_⟩;rfl) n _ mc ⟨μ,na,bs,nd,S,L,true,rfl,ha.r,b,by simpa using h,a⟩ ?_;clear h b a;rintro n _ t C ⟨Ta,G1,k2,l2,m2,n2,mc,rfl,A,b,h,a⟩;refine aa<|ma ?_;refine aa ?_;cases mc with
 | false =>
  refine Br (ba<|zd d8) (λq=>by cases q)<|λ_=>?_;refine ht<|(λh=>Ko<|Ko<|Zt h) ?_;rw [if_neg (by simp)] at h;exact i2 _ _ _ _ _ _ _ _ _ _ _ _ _ _ _ _ _ _ _ _ _ _ h A b a
 | true =>
  rw [if_pos rfl] at h;cases n with
  | zero=>cases h
  | succ n =>
  rw [dr] at h;refine ra h λo2 H1 h=>(Br (ba<|zd d8) (λ_=>?_) (λq=>by cases q));refine Ei<|ag<|Ra<|ma<|Nh<|wl<|br db (wa<|tb pb)<|Yg<|ag<|ma<|Nh<|wl<|ui (ba d7) (wa<|Ah Nd)<|wl<|mF Tryz.underlying68 (ba<|zd d9) (a.get d0).lp (wa<|Lb Ba)<|wl<|ui db (wa<|Lb pb)<|Yg<|ag<|Ra<|qo (13::rg 102 9) (by decide) (λn m C=>∃ (J:M) (pre rest:List xd) (j:List Rd) (d:Int) (k:ie) (l:List (Xd×ie)) (mc:Bool),m=Pd (jh (.i (.bool mc)::(jh (Mc 13 (df (Vc (Pd (qi (.i (ca (pre.length:Int))::(Sn 102 (Vc (Vc []))))))))))))/\ha Ta J/\Nr E J La bb oh (pre++rest) j d k l/\Xp E fu pre rest j d mc=some o2/\rest.length<n/\fa J da C (.row Mf 73 1 (oh.map vc.mk).length oe::.row lf 70 1 (bb.map vc.mk).length mf::pj La d k (pre++rest) l rsF)) (by rintro _ _ _ ⟨_,_,_,_,_,_,_,_,rfl,_⟩;rfl) (G1.length+1) _ (Lk<|yp<|Ch<|yp<|tq<|bm<|Zl<|Lk<|HG<|Ch<|Py<|Zl<|Zl Uj) ⟨Ta,[],G1,k2,l2,m2,n2,false,rfl,ha.r,b,H1,Nat.lt_succ_self _,a⟩ ?_;clear H1 b a;rintro m _ cb D2 ⟨p2,pre,rest,s1,p,s,u,mc,rfl,y,b,f,hm,a⟩;refine oG (At<|FG<|Pw<|FG<|VB<|wB<|np<|At<|Oy<|Pw<|BL<|np<|np Dl) ?_;have I1:oh.length=pre.length+rest.length:=by
   have:=ih.len b.all;rw [b.Ea,List.length_map,<- this,List.length_append]
  refine ma<|Nh<|wl<|nU (ba<|Fa d1) (ba<|Fa d0) (wa<|Lb Fb)<|Yg<|ag<|ma<|Qb (ba<|Fa d2) (λq2=>?_)<|λr2=>?_
  ·rw [List.length_map] at q2;cases rest with
   | nil=>simp only [List.length_nil] at I1; omega
   | cons Gl rest =>
   rw [Xp] at f;obtain ⟨c,s2,f⟩:=te f;have t2:pre.length<oh.length:=by omega
   have t1:oh[pre.length]?=some oh[pre.length]:=List.getElem?_eq_getElem t2;have u2:at_ (oh.map vc.mk) (pre.length:Int)=some ⟨oh[pre.length]⟩:=by simp [at_,t1]
   have v2:(oh.map vc.mk).length<=maxLen:=by
    rcases (a.get d0).2 with ⟨-,q⟩ | ⟨g,o,cap,cur,-,-,E2,F2,-⟩
    ·omega
    ·omega
   have J1:Go.Re.i64 ((pre.length:Int)+1)=some ((pre.length:Int)+1):=if_pos (by
    rw [List.length_map] at v2;have:maxLen<=9223372036854775807:=by decide
    omega)
   cases m with
   | zero=>omega
   | succ m =>
   refine Ei<|ag<|ma<|Ra<|ma<|Nh ?_;obtain ⟨ka,bd,G2,w2,f5,m6⟩:=Row.elem (α:=vc) (a.get d0) (h2.up (A.t y)) rfl u2;obtain rfl:=m6;refine wl<|fp Tryz.underlying68 Gt (ba<|zd d9) (ba<|Fa d1) w2 (wa<|Lb pc)<|wl<|bp Gt (ba<|Fa d3) ((f5 _ _<|a.get d0).one d0) (wa<|Lb Yc)<|wl<|br (ba<|Fa d4) (wa<|tb pc)<|Yg<|ag<|ma<|Nh<|wl<|ui (ba<|oa d3) (wa<|Lb td)<|wl<|ui (ba d6) (wa<|Lb Md) ?_;have K1:=a.perm (rs':=.row lf 70 1 (bb.map vc.mk).length mf::pj La p s (pre++Gl::rest) u (.row Mf 73 1 (oh.map vc.mk).length oe::rsF)) (by simp only [pj];classical exact List.perm_iff_count.2 (λx=>(by simp only [List.count_append,List.count_cons,List.count_nil];ac_rfl)));refine wl<|od MS Cc (sa (ba<|Fa d5)<|sa (ba<|Fa d6) lb) (MO s2 b rfl (g2.up<|A.t y) K1 t1) ?_;clear a K1;rintro _ H2 ⟨rfl,L1,B,a⟩;refine pu (wa<|Lb Td)<|Yg<|ag ?_;have M1:Nr E L1 La bb oh (pre++Gl::rest) s1 p s u:=⟨b.vf.up B,b.all.up B,b.Ea⟩;cases c with
   | false =>
    rw [if_neg (by simp)] at f;refine Br (ba<|Fa d7) (λq=>by cases q)<|λ_=>?_;refine Ei<|(λh=>Ym<|ag h) (Nh<|wl<|uo (ba<|Fa d1) db J1 (wa<|Lb<|tb Ba)<|wl<|ui (ba<|Fa<|oa d0) (wa<|Lb pb)<|Yg<|aj ?_);have v1:=a.perm (rs':=.row Mf 73 1 (oh.map vc.mk).length oe::.row lf 70 1 (bb.map vc.mk).length mf::pj La p s (pre++Gl::rest) u rsF) (by simp only [pj];classical exact List.perm_iff_count.2 (λx=>(by simp only [List.count_append,List.count_cons,List.count_nil];ac_rfl)));exact ⟨m,_,_,rfl,(Lk<|yp<|Ch<|yp<|tq<|bm<|Zl<|Lk<|HG<|Ch<|Py<|Zl<|Zl Uj),⟨L1,pre++[Gl],rest,s1,p,s,u,mc,by rw [show (((pre++[Gl]).length:Nat):Int)=(pre.length:Int)+1 by simp],y.t B,by simpa using M1,f,by simp only [List.length_cons] at hm;omega,by simpa using v1⟩,Nat.lt_succ_self _⟩
   | true =>
    rw [if_pos rfl] at f;obtain ⟨z,x2,f⟩:=te f;refine Br (ba<|Fa d7) (λ_=>?_) (λq=>by cases q);refine ma<|Nh<|wl<|ui (ba<|oa d3) (wa<|Lb Zd) ?_;have v1:=a.perm (rs':=pj La p s (pre++Gl::rest) u ([.row Mf 73 1 (oh.map vc.mk).length oe,.row lf 70 1 (bb.map vc.mk).length mf]++rsF)) (by simp only [pj,List.cons_append,List.nil_append];classical exact List.perm_iff_count.2 (λx=>(by simp only [List.count_append,List.count_cons,List.count_nil];ac_rfl)));refine wl<|yu NS Cc (sa (ba<|Fa d8) lb) (LO x2 M1 v1 t1) ?_ ?_
    ·rintro x v y2 N1 ⟨rfl,x1,O1,P1,E1,z2,F1⟩;cases z with
     | none=>cases N1
     | some z =>
     cases N1;refine pu (wa<|Lb Nd)<|Yg<|ag<|Nh<|wl<|br db (wa<|tb pb)<|Yg<|(λh=>Ym<|ag h) (Nh<|wl<|uo (ba<|Fa d1) db J1 (wa<|Lb<|tb Ba)<|wl<|ui (ba<|Fa<|oa d0) (wa<|Lb pb)<|Yg<|aj ?_);have A2:=F1.perm (rs':=.row Mf 73 1 (oh.map vc.mk).length oe::.row lf 70 1 (bb.map vc.mk).length mf::pj La x.nodes O1 (pre++x.t::rest) P1 rsF) (by simp only [pj,List.cons_append,List.nil_append];classical exact List.perm_iff_count.2 (λx=>(by simp only [List.count_append,List.count_cons,List.count_nil];ac_rfl)));exact ⟨m,_,_,rfl,(Lk<|yp<|Ch<|yp<|tq<|bm<|Zl<|Lk<|HG<|Ch<|Py<|Zl<|Zl Uj),⟨x1,pre++[x.t],rest,x.boxes,x.nodes,O1,P1,true,by rw [show (((pre++[x.t]).length:Nat):Int)=(pre.length:Int)+1 by simp],y.t (B.t E1),by simpa using z2,f,by simp only [List.length_cons] at hm;omega,by simpa using A2⟩,Nat.lt_succ_self _⟩
    ·intro e y2 B2 C2;cases z with
     | some z=>cases B2
     | none =>
     cases f;cases h;obtain ⟨x1,E1,F1⟩:=C2;repeat (first | refine VG ?_ | refine LL ?_)
     exact j2 _ _ _ _ _ _ _ _ _ _ _ _ _ _ _ _ rfl ⟨x1,A.t<|y.t<|B.t E1,uy F1⟩
  ·rw [List.length_map] at r2;cases rest with
   | cons Gl rest=>simp only [List.length_cons] at I1; omega
   | nil =>
   rw [Xp] at f;cases f;refine ht<|(λh=>Ko<|Ko<|Zt h) ((λh=>Ym<|aj h) ?_);rw [List.append_nil] at b a;exact ⟨n,_,_,rfl,(Lk (yp (Ch (yp (tq (bm (Zl (Lk (sW (jn (cv (Zl (Zl Uj))))))))))))),⟨p2,pre,s1,p,s,u,mc,rfl,A.t y,b,by
    cases mc
    ·simpa using h.symm
    ·simpa using h,a⟩,Nat.lt_succ_self _⟩
end
theorem sk {κ β:Type}[DecidableEq κ]{k k':κ}{x:β}:∀ {m:List (κ×β)},Sa (dd m k x) k'=if k'=k then some x else Sa m k'
 | []=>by
  simp only [dd,Sa];by_cases h:k'=k
  ·subst h;simp
  ·simp [h,Ne.symm h]
 | (a,b)::m=>by
  have c:=sk (k:=k) (k':=k') (x:=x) (m:=m);simp only [dd];split
  ·rename_i h;subst h;simp only [Sa];by_cases h:k'=a
   ·subst h;simp
   ·simp [h,Ne.symm h]
  ·rename_i h;simp only [Sa] at c ⊢;by_cases d:a=k'
   ·subst d;simp [h]
   ·simp [d,c]
def Gr (O:List (Je×Int)) (bb:List Nat) (cj:List (Je×km)):Prop:=∀ n i,Sa O n=some i->∃ (j b:Nat),i=(j:Int)/\bb[j]?=some b/\Sa cj n=some ⟨some b⟩
theorem Gr.nil:Gr [] [] []:=λn i h=>by cases h
theorem Gr.put {O:List (Je×Int)}{bb:List Nat}{cj:List (Je×km)}(h:Gr O bb cj){n:Je}{b:Nat}:Gr (dd O n (bb.length:Int)) (bb++[b]) (dd cj n ⟨some b⟩):=by
 intro d i a;rw [sk] at a ⊢;by_cases e:d=n
 ·rw [if_pos e] at a ⊢;cases a;exact ⟨bb.length,b,rfl,by simp,rfl⟩
 ·rw [if_neg e] at a ⊢;obtain ⟨j,Rc,f,c,g⟩:=h _ _ a;exact ⟨j,Rc,f,by rw [List.getElem?_append_left (List.getElem?_eq_some_iff.1 c).1];exact c,g⟩
theorem Gr.wh {O:List (Je×Int)}{bb:List Nat}{cj:List (Je×km)}(h:Gr O bb cj) (n:Je) (i b:Nat) (c:Sa O n=some (i:Int)) (d:bb[i]?=some b):Sa cj n=some ⟨some b⟩:=by
 obtain ⟨j,Rc,e,a,f⟩:=h _ _ c;obtain rfl:i=j:=by omega
 rw [d] at a;cases a;exact f
structure uL (μ:M) (u:Qn) (dl:List va) (is:List Ci) (bb:List Nat) (cj:List (Je×km)) (a:List Ha) (b:List MapEntry) (Hj:Nat) (c:List MapEntry) (d:Nat) (e:List MapEntry) (f:Nat) (mf oe:List Value):Prop where
 na:u.na=dl.map Hk
 new:Mk μ dl is
 rt:qa μ oe ((is.map Ci.Ea).map vc.mk)
 az:qa μ mf (bb.map vc.mk)
 Ya:xf (Jt μ) u.bs bb a
 Dq:ke μ b Hj u.D
 Bi:ke μ c d cj
 Zm:ke μ e f u.O
 wh:Gr u.O bb cj
section
variable {da:World}{rsF:List Ha}{μ:M}{w:World}{La Lo Mo No:Nat}{l:List va}{Bd:Option Addr}{Cd:Nat}
variable {Q:Exit->Act->World->Prop}{ds:List Deferred}
theorem QP {pa wd Fd Id mb lw gd jc be ce Ub yd ge Ac ne Ne of wf If dg bi ci ii li pi Pi el ww rx zx Rz AC GE LE NE WF RK PP WP EQ GQ IR FS GT LT ST UV a0 c0 f0 g0 i0 k0 t0 v0 x0 z0 R0 f1 g1 i1 k1 m1 s1 t1 v1 x1 E1 F1 G1 H1 I1 J1 K1 L1 M1 N1 O1 P1 Q1 R1 S1 T1 U1 V1 W1 X1 Y1 Z1 a2 b2 c2 f2 g2 nl ol pl ul am em hm lm sm Nm fn on un wn Fn In co io no ro to Do ap ip jp mp pp sp wp Op eq Eq or qr wr Fr Or cs es ls ms os rs us vs ws xs ys Os gt it lt mt:Value}(hB:∀ d,8<=d->gl Q d) (S3:l.length<=4294967295) (V:za μ Bd Cd l)
  (c:fa μ da w (.map No [] 0::.map Mo [] 0::.map Lo [] 0::.ea La 66 [.map (some Lo),.map (some Mo),.map (some No),ca 0]::rsF))
  (h2:∀ (uf Nc nh tg i2 j2 k2 l2 m2 n2 o2 p2 q2 r2 s2 t2 u2 v2 w2 x2 y2 z2 A2 B2 C2 D2 E2 F2 G2 H2 I2 J2 K2 L2 M2 N2 O2 P2 Q2 R2 S2 T2 U2 V2 W2 X2 Y2 Z2 a3 b3 c3 e3 f3 g3 h3 i3 j3 k3 l3 m3 n3 o3 p3 q3 r3 s3 t3 u3 v3 w3:Value) (w':World) (J:M) (dl:List va) (is:List Ci) (bb:List Nat) (cj:List (Je×km)) (v:List Ha) (K:List MapEntry) (Hj:Nat) (B:List MapEntry) (C:Nat) (E:List MapEntry) (G:Nat) (mf oe:List Value) (lf Mf:Value),ha μ J->uL J (Mg l) dl is bb cj v K Hj B C E G mf oe->fa J da w' (.map No E G::.map Mo B C::.map Lo K Hj::.ea La 66 [.map (some Lo),.map (some Mo),.map (some No),ca 0]::.row lf 70 1 (bb.map vc.mk).length mf::.row Mf 73 1 ((is.map Ci.Ea).map vc.mk).length oe::(v++(kr La is++rsF)))->Q .normal (F [.slice Bd l.length Cd,pa,wd,Fd,Id,ob La,lf,Mf,uf,Nc,nh,jc,be,ce,Ub,yd,ge,Ac,ne,Ne,of,wf,If,dg,bi,ci,ii,li,pi,Pi,el,tg,i2,j2,k2,l2,m2,n2,o2,p2,q2,r2,s2,t2,u2,v2,w2,x2,y2,z2,A2,B2,C2,D2,E2,F2,G2,H2,I2,J2,K2,L2,M2,N2,O2,P2,Q2,R2,S2,T2,U2,V2,W2,X2,Y2,Z2,a3,b3,c3,e3,f3,g3,h3,i3,j3,k3,l3,m3,n3,o3,p3,q3,r3,s3,t3,u3,v3,w3,nl,ol,pl,ul,am,em,hm,lm,sm,Nm,fn,on,un,wn,Fn,In,co,io,no,ro,to,Do,ap,ip,jp,mp,pp,sp,wp,Op,eq,Eq,or,qr,wr,Fr,Or,cs,es,ls,ms,os,rs,us,vs,ws,xs,ys,Os,gt,it,lt,mt] ds) w') :
  ud Tryz.prog (iq ((Tryz.f7.body).getD .skip) [1,1,1,1,1,1,0]) Q [.slice Bd l.length Cd,pa,wd,Fd,Id,ob La,.slice none 0 0,.slice none 0 0,mb,lw,gd,jc,be,ce,Ub,yd,ge,Ac,ne,Ne,of,wf,If,dg,bi,ci,ii,li,pi,Pi,el,ww,rx,zx,Rz,AC,GE,LE,NE,WF,RK,PP,WP,EQ,GQ,IR,FS,GT,LT,ST,UV,a0,c0,f0,g0,i0,k0,t0,v0,x0,z0,R0,f1,g1,i1,k1,m1,s1,t1,v1,x1,E1,F1,G1,H1,I1,J1,K1,L1,M1,N1,O1,P1,Q1,R1,S1,T1,U1,V1,W1,X1,Y1,Z1,a2,b2,c2,f2,g2,nl,ol,pl,ul,am,em,hm,lm,sm,Nm,fn,on,un,wn,Fn,In,co,io,no,ro,to,Do,ap,ip,jp,mp,pp,sp,wp,Op,eq,Eq,or,qr,wr,Fr,Or,cs,es,ls,ms,os,rs,us,vs,ws,xs,ys,Os,gt,it,lt,mt] ds w:=by
 refine ma<|Nh<|wl<|ui (ba d0) (wa<|Qe pb)<|wl<|IQ Tryz.underlying22 (ba<|Ma d1) (wa<|Qe Fb)<|wl<|ui db (wa<|Qe pc)<|Yg<|ag<|Ra<|qo (8::9::10::rg 34 64) (by decide) (λn m W=>∃ (J:M) (i:Nat) (dl:List va) (is:List Ci) (bb:List Nat) (cj:List (Je×km)) (v:List Ha) (K:List MapEntry) (Hj:Nat) (B:List MapEntry) (C:Nat) (E:List MapEntry) (G:Nat) (mf oe:List Value) (lf Mf:Value),m=rj (.i lf::.i Mf::(Aj 8 (Vc (ef (.i (ca (i:Int))::(Oj 34 (Xc 84 (hi 94 (df (sh []))))))))))/\(bb.length<=i/\is.length<=i/\i<=l.length)/\l.length<n+i/\ha μ J/\uL J ((l.take i).foldl Th ⟨[],[],[],[]⟩) dl is bb cj v K Hj B C E G mf oe/\fa J da W (.map No E G::.map Mo B C::.map Lo K Hj::.ea La 66 [.map (some Lo),.map (some Mo),.map (some No),ca 0]::.row lf 70 1 (bb.map vc.mk).length mf::.row Mf 73 1 ((is.map Ci.Ea).map vc.mk).length oe::(v++(kr La is++rsF)))) (by rintro _ _ _ ⟨_,_,_,_,_,_,_,_,_,_,_,_,_,_,_,_,_,rfl,_⟩;rfl) (l.length+1) _ (Cw<|Ch<|Ch<|cv<|Zl<|pn<|Ch<|vB<|jn<|uq<|bm<|Bw Uj) ⟨μ,0,[],[],[],[],[],[],0,[],0,[],0,[],[],_,_,rfl,⟨by simp,by simp,by omega⟩,by omega,ha.r,⟨rfl,trivial,qa.nil,qa.nil,trivial,ke.nil,ke.nil,ke.nil,Gr.nil⟩,?_⟩ ?_
 ·refine (ew (T:=73) (n:=1)<|ew (T:=70) (n:=1) c).perm ?_;simp only [kr,List.flatMap_nil,List.map_nil,List.length_nil,List.nil_append]
  classical exact List.perm_iff_count.2 (λx=>(by simp only [List.count_append,List.count_cons,List.count_nil];ac_rfl))
 clear c;rintro n _ t W ⟨Ta,i,dl,is,bb,cj,v,K,Hj,B,C,E,G,mf,oe,lf,Mf,rfl,⟨T3,U3,V3⟩,W3,N,k,c⟩;refine aa<|ma<|Qb (ba<|Ma d4) (λX3=>?_)<|λY3=>?_
 ·have x3:i<l.length:=by omega
  have y3:l[i]?=some l[i]:=List.getElem?_eq_getElem x3;obtain ⟨d,ut⟩:∃ d,l[i]?=some d:=⟨_,y3⟩;have Ca:at_ l (i:Int)=some d:=by simpa [at_] using ut
  have X:l.take (i+1)=l.take i++[d]:=by rw [List.take_add_one,ut];rfl
  have Y:Go.Re.i64 ((i:Int)+1)=some ((i:Int)+1):=if_pos (by omega);have V:=V.up N;have z3:=k.Dq;have wt:=k.Bi;have fu:=k.Zm;have A3:=k.az;have B3:=k.rt;cases n with
  | zero=>omega
  | succ n =>
  refine aa<|ma<|Ra ?_;refine aa ?_;obtain ⟨ka,bd,Z3,C3,L,m6⟩:=ic.elem V Ca;obtain ⟨Ab,Lf,gd,Z,rfl,Gb,gc⟩:=m6;refine wl<|fp Tryz.underlying22 Gg (ba<|Ma d6) (ba<|Ma d7) C3 (wa<|Qe Zd) ?_;refine aa ?_;refine Ld c λW c=>(gg (i:=0) [0,1,2,3,9] (λe Qc f g h j=>hB _ (by decide) e Qc f g h j) rfl rfl rfl (Sl<|ba d5) (Qe Nd) ?_);refine gg (i:=1) [1,2,3,9] (λe Qc f g h j=>hB _ (by decide) e Qc f g h j) rfl rfl rfl (Wp<|ba<|Ma d9) (Ce Ba) ?_;refine gg (i:=2) [2,3,9] (λe Qc f g h j=>hB _ (by decide) e Qc f g h j) rfl rfl rfl (Xl gT (ba<|Wa d0) rfl) (Ce pb) ?_;refine bk (i:=3) [3,9] (λe Qc f g h j=>hB _ (by decide) e Qc f g h j) rfl rfl rfl (Yd HB (ba<|Wa d1)<|(c.ea d3).cell d0) (Ce Fb) ?_;refine gg (i:=4) [4,5,6,7,9] (λe Qc f g h j=>hB _ (by decide) e Qc f g h j) rfl rfl rfl (Sl<|ba d9) (Ce pc) ?_;refine gg (i:=5) [5,6,7,9] (λe Qc f g h j=>hB _ (by decide) e Qc f g h j) rfl rfl rfl (Wp<|ba<|Wa d3) (Ce Yc) ?_;refine gg (i:=6) [6,7,9] (λe Qc f g h j=>hB _ (by decide) e Qc f g h j) rfl rfl rfl (Xl JF (ba<|Wa d4) rfl) (Ce td) ?_;refine bk (i:=7) [7,9] (λe Qc f g h j=>hB _ (by decide) e Qc f g h j) rfl rfl rfl (Yd yg (ba<|Wa d5)<|(L _ c.a).one d1) (Ce Md) ?_;refine gg (i:=8) [8,9] (λe Qc f g h j=>hB _ (by decide) e Qc f g h j) rfl rfl rfl (Sl<|ba d9) (Ce Td) ?_;refine Za rfl<|er (κ:=List UInt8) (β:=va) (kk:=d.Name) (xx:=d) Tryz.underlying62 Tryz.underlying9 (ba<|Wa d2) (ba<|Wa d6) (ba<|Wa d7) ⟨_,_,_,rfl,L,⟨Ab,Lf,gd,Z,rfl,Gb,gc⟩⟩ c d2 z3 Ia λlc rc a4 p fd u c=>?_;cases (show _=p from u);replace c:=Sep.Be c Fb;refine ta ?_;refine ma<|aa<|Qb (ba<|ub d2) (λid=>?_)<|λid=>?_
  ·have P:¬ d.Kind=4:=by omega
   have R:∀ b:Nat,app (bb.map vc.mk) [(⟨b⟩:vc)]=some (bb.map vc.mk++[⟨b⟩]):=λb=>by
    rw [app,if_pos];simp only [List.length_map,List.length_cons,List.length_nil];omega
   have D3:=(c.get d4).lp;refine aa<|wl<|Ke cW iW (eb.o rfl (ba<|ub d6) rfl rfl Ba eb.z) (wa<|pf Td)<|wc c λy b4 c4 c=>(pu (wa<|pf Zd) ?_);refine aa ?_;refine Ld c λe4 c=>?_;refine gg (i:=0) (R':=[1,2,3,4,5,6,7,8,9,10,11,12,13,14,15,16,17,18,19,20,21,22,23,24]) [0,1,2,3,19,20,21,22,23,24] (λe Qc f g h j=>hB _ (by decide) e Qc f g h j) (by kernel_rfl) (by kernel_rfl) rfl (Sl<|ba d5) (pf Nd) ?_;refine gg (i:=1) (R':=[2,3,4,5,6,7,8,9,10,11,12,13,14,15,16,17,18,19,20,21,22,23,24]) [1,2,3,19,20,21,22,23,24] (λe Qc f g h j=>hB _ (by decide) e Qc f g h j) (by kernel_rfl) (by kernel_rfl) rfl (Wp<|ba<|ub d9) (Qf Ba) ?_;refine gg (i:=2) (R':=[3,4,5,6,7,8,9,10,11,12,13,14,15,16,17,18,19,20,21,22,23,24]) [2,3,19,20,21,22,23,24] (λe Qc f g h j=>hB _ (by decide) e Qc f g h j) (by kernel_rfl) (by kernel_rfl) rfl (Xl hT (ba<|fc d0) rfl) (Qf pb) ?_;refine bk (i:=3) (R':=[4,5,6,7,8,9,10,11,12,13,14,15,16,17,18,19,20,21,22,23,24]) [3,19,20,21,22,23,24] (λe Qc f g h j=>hB _ (by decide) e Qc f g h j) (by kernel_rfl) (by kernel_rfl) rfl (Yd kL (ba<|fc d1)<|(c.ea d4).cell d1) (Qf Fb) ?_;refine gg (i:=4) (R':=[5,6,7,8,9,10,11,12,13,14,15,16,17,18,19,20,21,22,23,24]) [4,5,6,7,19,20,21,22,23,24] (λe Qc f g h j=>hB _ (by decide) e Qc f g h j) (by kernel_rfl) (by kernel_rfl) rfl (Sl<|ba d9) (Qf pc) ?_;refine gg (i:=5) (R':=[6,7,8,9,10,11,12,13,14,15,16,17,18,19,20,21,22,23,24]) [5,6,7,19,20,21,22,23,24] (λe Qc f g h j=>hB _ (by decide) e Qc f g h j) (by kernel_rfl) (by kernel_rfl) rfl (Wp<|ba<|fc d3) (Qf Yc) ?_;refine gg (i:=6) (R':=[7,8,9,10,11,12,13,14,15,16,17,18,19,20,21,22,23,24]) [6,7,19,20,21,22,23,24] (λe Qc f g h j=>hB _ (by decide) e Qc f g h j) (by kernel_rfl) (by kernel_rfl) rfl (Xl JF (ba<|fc d4) rfl) (Qf td) ?_;refine bk (i:=7) (R':=[8,9,10,11,12,13,14,15,16,17,18,19,20,21,22,23,24]) [7,19,20,21,22,23,24] (λe Qc f g h j=>hB _ (by decide) e Qc f g h j) (by kernel_rfl) (by kernel_rfl) rfl (Yd yg (ba<|fc d5)<|(L _ c.a).one d1) (Qf Md) ?_;refine gg (i:=8) (R':=[9,10,11,12,13,14,15,16,17,18,19,20,21,22,23,24]) [8,9,10,11,19,20,21,22,23,24] (λe Qc f g h j=>hB _ (by decide) e Qc f g h j) (by kernel_rfl) (by kernel_rfl) rfl (Sl<|ba d5) (Qf Td) ?_;refine gg (i:=9) (R':=[10,11,12,13,14,15,16,17,18,19,20,21,22,23,24]) [9,10,11,19,20,21,22,23,24] (λe Qc f g h j=>hB _ (by decide) e Qc f g h j) (by kernel_rfl) (by kernel_rfl) rfl (Wp<|ba<|fc d7) (Qf Zd) ?_;refine gg (i:=10) (R':=[11,12,13,14,15,16,17,18,19,20,21,22,23,24]) [10,11,19,20,21,22,23,24] (λe Qc f g h j=>hB _ (by decide) e Qc f g h j) (by kernel_rfl) (by kernel_rfl) rfl (Xl qK (ba<|fc d8) rfl) (Qf Nd) ?_;refine bk (i:=11) (R':=[12,13,14,15,16,17,18,19,20,21,22,23,24]) [11,19,20,21,22,23,24] (λe Qc f g h j=>hB _ (by decide) e Qc f g h j) (by kernel_rfl) (by kernel_rfl) rfl (Yd mq (ba<|fc d9)<|(c.ea d4).cell d2) (cg Ba) ?_;refine gg (i:=12) (R':=[13,14,15,16,17,18,19,20,21,22,23,24]) [12,13,14,15,19,20,21,22,23,24] (λe Qc f g h j=>hB _ (by decide) e Qc f g h j) (by kernel_rfl) (by kernel_rfl) rfl (Sl<|ba d9) (cg pb) ?_;refine gg (i:=13) [13,14,15,19,20,21,22,23,24] (λe Qc f g h j=>hB _ (by decide) e Qc f g h j) rfl rfl rfl (Wp<|ba<|Gc d1) (cg Fb) ?_;refine gg (i:=14) [14,15,19,20,21,22,23,24] (λe Qc f g h j=>hB _ (by decide) e Qc f g h j) rfl rfl rfl (Xl JF (ba<|Gc d2) rfl) (cg pc) ?_;refine bk (i:=15) [15,19,20,21,22,23,24] (λe Qc f g h j=>hB _ (by decide) e Qc f g h j) rfl rfl rfl (Yd yg (ba<|Gc d3)<|(L _ c.a).one d1) (cg Yc) ?_;refine gg (i:=16) [16,21,22,23,24] (λe Qc f g h j=>hB _ (by decide) e Qc f g h j) rfl rfl rfl (Sl<|ba<|oa d0) (cg td) ?_;refine gg (i:=17) [17,18,24] (λe Qc f g h j=>hB _ (by decide) e Qc f g h j) rfl rfl rfl (Sl<|ba d6) (cg Md) ?_;refine gg (i:=18) [18,24] (λe Qc f g h j=>hB _ (by decide) e Qc f g h j) rfl rfl rfl (Zp Tryz.underlying67 (ba<|Gc d6) D3) (cg Td) ?_;refine Za rfl<|oJ (κ:=List UInt8) (β:=km) (kk:=d.Name) (z:=(.pointer none)) Tryz.underlying63 Tryz.underlying9 (kt rfl) (ba<|fc d2) (ba<|fc d6) c d2 wt λf4 g4 p u c=>?_;cases (show _=p from u);refine pu (wa<|cg Zd) ?_;replace c:=Sep.Be c Fb;refine ⟨qd.z,?_⟩;refine gg (i:=20) [20,21,22,23,24] (λe Qc f g h j=>hB _ (by decide) e Qc f g h j) rfl rfl rfl (kF (ba<|Gc d8) d1) (cg Nd) ?_;refine Za rfl<|pJ (κ:=List UInt8) (β:=km) (kk:=d.Name) (xx:=⟨some y⟩) (ba<|fc d2) (ba<|Gc d9) (ba<|Gc d5) rfl c d2 wt Ia λE3 F3 h4 p G3 u c=>?_;cases (show _=p from u);replace c:=Sep.Be c Fb;refine ta<|Za rfl<|oJ (κ:=List UInt8) (β:=Int) (kk:=d.Name) (z:=(ca 0)) Tryz.underlying64 Tryz.underlying9 (kt rfl) (ba<|Gc d0) (ba<|Gc d4) c d1 fu λi4 j4 p u c=>?_;cases (show _=p from u);refine pu (wa<|Hi Ba) ?_;replace c:=Sep.Be c pb;refine ⟨qd.z,?_⟩;refine gg (i:=23) [23,24] (λe Qc f g h j=>hB _ (by decide) e Qc f g h j) rfl rfl rfl (kF (ba<|Pc d0) d1) (Hi pb) ?_;refine Za rfl<|pJ (κ:=List UInt8) (β:=Int) (kk:=d.Name) (xx:=((bb.map vc.mk).length:Int)) (ba<|Gc d0) (ba<|Pc d1) (ba<|Gc d7) rfl c d1 fu Ia λH3 I3 Cf p J3 u c=>?_;cases (show _=p from u);replace c:=Sep.Be c pb;refine ta ?_;refine aa<|wl<|Qg Tryz.underlying67 ll (Dc.s (ba<|Pc d3) rfl Dc.z) rfl rfl c λK3 L3 M3 c=>(pu (wa<|Hi Yc) ?_);have S:qa Ta [.pointer (some ⟨y,0,none⟩)] [(⟨y⟩:vc)]:=qa.one (α:=vc) rfl;have md:=qa.app A3 S (R y);refine wl<|Si Tryz.underlying67 ll rfl (ba<|Pc d2) (ba<|Pc d4) c d6 (c.ea d0).cells S rfl (R y) (by decide) ?_;clear c;intro nd N3 p u c;cases (show _=p from u);replace c:=Sep.Be c Md;refine pu (wa<|Hi td) ?_;replace c:=c.drop ja.z;refine aa<|Ka (ba<|zd d0) P ?_;refine aa ?_;refine wl<|uo (ba<|Ma d3) db Y (wa<|Ah Td) ?_;refine aa ?_;have U:(l.take (i+1)).foldl Th ⟨[],[],[],[]⟩=⟨dd ((l.take i).foldl Th ⟨[],[],[],[]⟩).D d.Name d,dd ((l.take i).foldl Th ⟨[],[],[],[]⟩).O d.Name (bb.length:Int),((l.take i).foldl Th ⟨[],[],[],[]⟩).bs++[⟨d.Ie,[]⟩],((l.take i).foldl Th ⟨[],[],[],[]⟩).na⟩:=by
    rw [X,List.foldl_append];simp [Th,qt,tt,id,k.Ya.len.1]
   exact ⟨n,_,_,rfl,(Cw<|Ch<|Ch<|cv<|Zl<|pn<|Ch<|vB<|jn<|uq<|bm<|Bw Uj),⟨Ta,i+1,dl,is,bb++[y],dd cj d.Name ⟨some y⟩,v++[.ea y 72 [ca d.Ie,.slice none 0 0]],lc,rc,E3,F3,H3,I3,mf++[ob y],oe,nd,Mf,by rw [show ((i+1:Nat):Int)=(i:Int)+1 from rfl],⟨by simp;omega,by omega,by omega⟩,by omega,N,U ▸ ⟨k.na,k.new,k.rt,by simpa using md,xf.snoc ⟨none,0,rfl,za.nil⟩ k.Ya,fd,G3,by simpa using J3,k.wh.put⟩,c.perm (by simp only [List.map_append,List.map_cons,List.map_nil,List.append_assoc,List.cons_append,List.nil_append];classical exact List.perm_iff_count.2 (λx=>(by simp only [List.count_append,List.count_cons,List.count_nil];ac_rfl)))⟩,Nat.lt_succ_self _⟩
  ·refine aa ?_;refine Qb (ba (zd d0)) (λP=>?_) (λP=>?_)
   ·have R:∀ b:Nat,app ((is.map Ci.Ea).map vc.mk) [(⟨b⟩:vc)]=some ((is.map Ci.Ea).map vc.mk++[⟨b⟩]):=λb=>by
     rw [app,if_pos];simp only [List.length_map,List.length_cons,List.length_nil];omega
    refine aa<|wl<|od LS Cc (sa (ba<|zd d2)<|sa (ba<|zd d3) lb) (NR (d:=d) ⟨_,_,_,rfl,L,⟨Ab,Lf,gd,Z,rfl,Gb,gc⟩⟩ c) ?_;clear c;rintro _ L3 ⟨rd,bv,kv,H,hw,kw,rfl,A,c,O3,P3,Q3⟩;refine pu (wa<|Ah Yc)<|wl<|Qg Tryz.underlying68 Gt (Dc.s (ba<|zd d4) rfl Dc.z) rfl rfl c λK3 N3 M3 c=>(pu (wa<|Ah td) ?_);have S:qa rd [ob H] [(⟨H⟩:vc)]:=qa.one (α:=vc) rfl;have md:=qa.app (B3.up A) S (R H);refine wl<|Si Tryz.underlying68 Gt rfl (ba<|zd d1) (ba<|zd d5) c d8 (c.ea d0).cells S rfl (R H) (by decide) ?_;clear c;intro nd k4 p u c;cases (show _=p from u);replace c:=Sep.Be c Zd;refine pu (wa<|Ah Md) ?_;replace c:=c.drop ja.z;refine aa<|wl<|uo (ba<|Ma d3) db Y (wa<|Ah Td) ?_;refine aa ?_;have U:(l.take (i+1)).foldl Th ⟨[],[],[],[]⟩=⟨dd ((l.take i).foldl Th ⟨[],[],[],[]⟩).D d.Name d,((l.take i).foldl Th ⟨[],[],[],[]⟩).O,((l.take i).foldl Th ⟨[],[],[],[]⟩).bs,((l.take i).foldl Th ⟨[],[],[],[]⟩).na++[Hk d]⟩:=by
     rw [X,List.foldl_append];simp [Th,qt,tt,P]
    have R3:Hy rd d ⟨H,kv,bv,hw,kw,.pointer (some ⟨ka,bd,none⟩)⟩:=⟨Fe.up A ⟨_,_,_,rfl,L,⟨Ab,Lf,gd,Z,rfl,Gb,gc⟩⟩,O3,P3,Q3⟩;exact ⟨n,_,_,rfl,(Cw<|Ch<|Ch<|cv<|Zl<|pn<|Ch<|vB<|jn<|uq<|bm<|Bw Uj),⟨rd,i+1,dl++[d],is++[⟨H,kv,bv,hw,kw,.pointer (some ⟨ka,bd,none⟩)⟩],bb,cj,v,lc,rc,B,C,E,G,mf,oe++[ob H],lf,nd,by rw [show ((i+1:Nat):Int)=(i:Int)+1 from rfl],⟨by omega,by simp;omega,by omega⟩,by omega,N.t A,U ▸ ⟨by simp [k.na],Mk.snoc R3 (Mk.up A k.new),by simpa using md,k.az.up A,k.Ya.imp λ_ _ _ q=>q.up A,fd.up A,k.Bi.up A,k.Zm.up A,k.wh⟩,c.perm (by simp only [List.map_append,List.map_cons,List.map_nil,kr,List.flatMap_append,List.flatMap_cons,List.flatMap_nil,iy,List.append_assoc,List.cons_append,List.nil_append];classical exact List.perm_iff_count.2 (λx=>(by simp only [List.count_append,List.count_cons,List.count_nil];ac_rfl)))⟩,Nat.lt_succ_self _⟩
   ·refine aa ?_;refine wl<|uo (ba<|Ma d3) db Y (wa<|Ah Td)<|aa ?_;have U:(l.take (i+1)).foldl Th ⟨[],[],[],[]⟩=⟨dd ((l.take i).foldl Th ⟨[],[],[],[]⟩).D d.Name d,((l.take i).foldl Th ⟨[],[],[],[]⟩).O,((l.take i).foldl Th ⟨[],[],[],[]⟩).bs,((l.take i).foldl Th ⟨[],[],[],[]⟩).na⟩:=by
     rw [X,List.foldl_append];simp [Th,qt,tt,id,P]
    exact ⟨n,_,_,rfl,(Cw<|Ch<|Ch<|cv<|Zl<|pn<|Ch<|vB<|jn<|uq<|bm<|Bw Uj),⟨Ta,i+1,dl,is,bb,cj,v,lc,rc,B,C,E,G,mf,oe,lf,Mf,by rw [show ((i+1:Nat):Int)=(i:Int)+1 from rfl],⟨by omega,by omega,by omega⟩,by omega,N,U ▸ ⟨k.na,k.new,k.rt,k.az,k.Ya,fd,k.Bi,k.Zm,k.wh⟩,c⟩,Nat.lt_succ_self _⟩
 ·obtain rfl:i=l.length:=by omega
  refine aa ?_;rw [List.take_length] at k;exact h2 _ _ _ _ _ _ _ _ _ _ _ _ _ _ _ _ _ _ _ _ _ _ _ _ _ _ _ _ _ _ _ _ _ _ _ _ _ _ _ _ _ _ _ _ _ _ _ _ _ _ _ _ _ _ _ _ _ _ _ _ _ _ _ _ _ _ _ _ _ _ _ _ _ _ _ _ _ _ _ _ _ _ _ _ _ _ _ N k c
end
end Go.Proofs.YtafjdiifkckmbaaGreatDoor
set_option maxHeartbeats 4000000
namespace Go.Proofs.YtafjdiifkckmbaaGreatDoor
open Go.Bc Go.Re Go.Y
def Em (μ:M):List xd->List Nat->Prop
 | [],[]=>True
 | t::na,b::bs=>(∃ d e f g a c,xa μ b 0 [d,e,f,g,ca t.state,ca t.box,ca t.ye,.slice a t.out.length c]/\za μ a c t.out)/\Em μ na bs
 | _,_=>False
theorem Em.up {μ J:M}(l:ha μ J):∀ {na:List xd}{bs:List Nat},Em μ na bs->Em J na bs
 | [],[],_=>trivial
 | t::na,b::bs,⟨⟨d,e,f,g,a,c,i,j⟩,h⟩=>⟨⟨d,e,f,g,a,c,i.up l,j.up l⟩,Em.up l h⟩
 | [],_::_,h=>h.elim
 | _::_,[],h=>h.elim
theorem zI {E:Sd}{da w:World}{La:Nat}{bb:List Nat}:∀ {na:List xd}{L:List (Xd×ie)}{b:List Ha}{μ:M},ih E μ La bb na L->fa μ da w (Uh na L++b)->∃ J,ha μ J/\Em J na (L.map λi=>i.1.Ea)/\fa J da w b
 | [],[],b,μ,_,d=>⟨μ,ha.r,trivial,d⟩
 | t::na,i::L,b,μ,⟨u,v,k,l⟩,d=>by
  have m:fa μ da w (.row i.2.Hb 2 1 t.out.length i.2.kh::.ea i.1.Ea 81 [ob i.1.La,i.2.cc,i.2.rb,ob i.2.xb,ca t.state,ca t.box,ca t.ye,i.2.Hb]::((.row i.2.rb 79 1 ((i.1.B.drop 1).map vc.mk).length i.2.oe::(i.2.Tc++i.2.Gd))++(Uh na L++b))):=d.perm (by
   simp only [Uh,jr,List.append_assoc,List.cons_append]
   classical exact List.perm_iff_count.2 (λx=>(by simp only [List.count_append,List.count_cons,List.count_nil];ac_rfl)))
  obtain ⟨Ta,a,c,sa,g,n,j⟩:=Sep.Ri (α:=Int) m k.out rfl;rw [sa] at j;obtain ⟨y,e,o,p⟩:=Sep.Qd j;obtain ⟨q,f,m3,s⟩:=zI (ih.up (g.t e) l) (uy p);exact ⟨q,(g.t e).t f,⟨⟨_,_,_,_,a,c,o.up f,n.up<|e.t f⟩,m3⟩,s⟩
 | [],_::_,_,_,h,_=>h.elim
 | _::_,[],_,_,h,_=>h.elim
def zm (μ:M):List Rd->List Nat->Prop
 | [],[]=>True
 | c::cs,b::bs=>(∃ a k,xa μ b 0 [ca c.cap,.slice a c.words.length k]/\za μ a k c.words)/\zm μ cs bs
 | _,_=>False
theorem zm.up {μ J:M}(l:ha μ J):∀ {na:List Rd}{bs:List Nat},zm μ na bs->zm J na bs
 | [],[],_=>trivial
 | t::na,b::bs,⟨⟨a,c,d,e⟩,h⟩=>⟨⟨a,c,d.up l,e.up l⟩,zm.up l h⟩
 | [],_::_,h=>h.elim
 | _::_,[],h=>h.elim
theorem AI {da w:World}:∀ {cs:List Rd}{bb:List Nat}{Ya d:List Ha}{μ:M},xf (Jt μ) cs bb Ya->fa μ da w (Ya++d)->∃ J,ha μ J/\zm J cs bb/\fa J da w d
 | [],[],[],d,μ,_,e=>⟨μ,ha.r,trivial,e⟩
 | c::cs,b::bb,r::Ya,d,μ,⟨⟨a,k,i,j⟩,h⟩,e=>by
  subst i;obtain ⟨p,f,l,m⟩:=Sep.Qd e;obtain ⟨n,g,m3,o⟩:=AI (h.imp λ_ _ _ q=>q.up f) m;exact ⟨n,f.t g,⟨⟨a,k,l.up g,j.up<|f.t g⟩,m3⟩,o⟩
 | [],[],_::_,_,_,h,_=>h.elim
 | [],_::_,_,_,_,h,_=>h.elim
 | _::_,[],_,_,_,h,_=>h.elim
 | _::_,_::_,[],_,_,h,_=>h.elim
end Go.Proofs.YtafjdiifkckmbaaGreatDoor
set_option maxHeartbeats 20000000
namespace Go.Proofs.YtafjdiifkckmbaaGreatDoor
open Go.Bc Go.Re Go.Y
theorem Em.at {μ:M}:∀ {na:List xd}{bs:List Nat}{i:Nat}{t:xd},Em μ na bs->na[i]?=some t->∃ b d f g j a c,bs[i]?=some b/\xa μ b 0 [d,f,g,j,ca t.state,ca t.box,ca t.ye,.slice a t.out.length c]/\za μ a c t.out
 | t::na,b::bs,0,_,⟨⟨d,f,g,j,a,c,k,l⟩,_⟩,e=>by cases e; exact ⟨b,d,f,g,j,a,c,rfl,k,l⟩
 | t::na,b::bs,i+1,_,⟨_,h⟩,e=>by
  obtain ⟨Rc,d,f,g,j,a,c,q,k,l⟩:=Em.at h (by simpa using e);exact ⟨Rc,d,f,g,j,a,c,by simpa using q,k,l⟩
 | [],[],i,_,_,e=>by simp at e
 | [],_::_,_,_,h,_=>h.elim
 | _::_,[],_,_,h,_=>h.elim
theorem Em.len {μ:M}:∀ {na:List xd}{bs:List Nat},Em μ na bs->bs.length=na.length
 | [],[],_=>rfl
 | t::na,b::bs,⟨_,h⟩=>by simp [Em.len h]
 | [],_::_,h=>h.elim
 | _::_,[],h=>h.elim
section
variable {da:World}{rsF:List Ha}{μ:M}{w:World}{jd:Nat}{na:List xd}{oh:List Nat}{Mf:Value}{oe:List Value}{bl wn:Value}
variable {Q:Exit->Act->World->Prop}{ds:List Deferred}
theorem RP {p pa q r a5 zb mb u gd jc v y Ub yd A Ac B C D E G H K L M N O P R S U V W X Y Z bb Gb gc lc rc fd id md nd rd wd Fd Id be ce ge ne Ne of wf If dg bi ci ii li pi Pi dl el nl ol pl ul am em hm lm sm Nm fn on un Fn In co io no ro to Do ap ip jp mp pp sp wp Op eq Eq or qr wr Fr Or bs cs es is ls ms os rs us vs ws xs EQ GQ IR FS GT LT ST UV a0 c0 f0 g0 i0 k0 t0 x0 ys Os gt it lt mt rt ut wt fu bv kv hw kw lw ww rx zx Rz:Value}(hB:∀ d,8<=d->gl Q d) (Z1:na.length<=4294967295) (AC:Em μ na oh) (z0:qa μ oe (oh.map vc.mk))
  (b:fa μ da w (.row Mf 73 1 (oh.map vc.mk).length oe::.ea jd 31 [.slice none 0 0,bl,wn]::rsF))
  (R0:∀ (Me f1 g1 i1 k1 m1 s1 t1 x1 E1 F1 G1 H1 I1 J1 K1 L1:Value) (w':World) (j:Value) (k:List Value),qa μ k (na.map xk)->fa μ da w' (.row Mf 73 1 (oh.map vc.mk).length oe::.row j 36 4 (na.map xk).length k::.ea jd 31 [j,bl,wn]::rsF)->Q .normal (F [p,pa,ob jd,q,r,a5,zb,Mf,mb,u,gd,jc,v,y,Ub,Me,A,Ac,B,C,D,E,G,H,K,L,M,N,O,P,R,S,U,V,W,X,Y,Z,bb,Gb,gc,lc,rc,fd,id,md,nd,rd,wd,Fd,Id,be,ce,ge,ne,Ne,of,wf,If,dg,bi,ci,ii,li,pi,Pi,dl,el,nl,ol,pl,ul,am,em,hm,lm,sm,Nm,fn,on,un,Fn,In,co,io,no,ro,to,Do,ap,ip,jp,mp,pp,sp,wp,Op,eq,Eq,or,qr,wr,Fr,Or,bs,cs,es,is,ls,ms,os,rs,us,vs,ws,xs,f1,g1,i1,k1,m1,s1,t1,x1,E1,F1,G1,H1,I1,J1,K1,L1,ys,Os,gt,it,lt,mt,rt,ut,wt,fu,bv,kv,hw,kw,lw,ww,rx,zx,Rz] ds) w') :
  ud Tryz.prog (iq ((Tryz.f7.body).getD .skip) [1,1,1,1,1,1,1,1,1,0]) Q [p,pa,ob jd,q,r,a5,zb,Mf,mb,u,gd,jc,v,y,Ub,yd,A,Ac,B,C,D,E,G,H,K,L,M,N,O,P,R,S,U,V,W,X,Y,Z,bb,Gb,gc,lc,rc,fd,id,md,nd,rd,wd,Fd,Id,be,ce,ge,ne,Ne,of,wf,If,dg,bi,ci,ii,li,pi,Pi,dl,el,nl,ol,pl,ul,am,em,hm,lm,sm,Nm,fn,on,un,Fn,In,co,io,no,ro,to,Do,ap,ip,jp,mp,pp,sp,wp,Op,eq,Eq,or,qr,wr,Fr,Or,bs,cs,es,is,ls,ms,os,rs,us,vs,ws,xs,EQ,GQ,IR,FS,GT,LT,ST,UV,a0,c0,f0,g0,i0,k0,t0,x0,ys,Os,gt,it,lt,mt,rt,ut,wt,fu,bv,kv,hw,kw,lw,ww,rx,zx,Rz] ds w:=by
 refine ma<|Nh<|wl<|ui (ba d7) (wa<|Lb<|tb Md)<|wl<|mF Tryz.underlying68 (ba<|Fa<|oa d6) (b.get d0).lp (wa<|Lb<|tb Td)<|wl<|ui db (wa<|Lb<|tb Zd)<|Yg<|ag<|Ra<|qo (15::rg 119 13) (by decide) (λn m l=>∃ (i:Nat) (j:Value) (k:List Value),m=Pd (sg<|Mc 15<|df<|df<|ef (.i (ca (i:Int))::(Xc 119 (Aj 129 (Pd (sj []))))))/\i<=na.length/\na.length<n+i/\qa μ k ((na.take i).map xk)/\fa μ da l (.row Mf 73 1 (oh.map vc.mk).length oe::.row j 36 4 ((na.take i).map xk).length k::.ea jd 31 [j,bl,wn]::rsF)) (by rintro _ _ _ ⟨_,_,_,rfl,_⟩;rfl) (na.length+1) _ (Lk<|Fo<|tq<|bm<|bm<|pn<|Ch<|jn<|cv<|Lk<|zL Uj) ⟨0,_,[],rfl,by omega,by omega,qa.nil,(ew (T:=36) (n:=4) b).perm (by simp only [List.take_zero,List.map_nil,List.length_nil];classical exact List.perm_iff_count.2 (λx=>(by simp only [List.count_append,List.count_cons,List.count_nil];ac_rfl)))⟩ ?_;clear b;rintro n _ a2 l ⟨i,j,k,rfl,b2,c2,o,b⟩;refine aa ?_;have GE:=Em.len AC;refine aa<|ma<|Qb (ba<|Fa<|oa d9) (λM1=>?_)<|λN1=>?_
 ·rw [List.length_map,GE] at M1;have O1:i<na.length:=by omega
  obtain ⟨t,LE⟩:∃ t,na[i]?=some t:=⟨_,List.getElem?_eq_getElem O1⟩;obtain ⟨Ea,v0,v1,v2,P1,NE,WF,Q1,R1,S1⟩:=Em.at AC LE;have T1:at_ (oh.map vc.mk) (i:Int)=some ⟨Ea⟩:=by simp [at_,Q1]
  have U1:Go.Re.i64 ((i:Int)+1)=some ((i:Int)+1):=if_pos (by omega);have RK:(na.take (i+1)).map xk=(na.take i).map xk++[xk t]:=by rw [List.take_add_one,LE,List.map_append];rfl
  have PP:app ((na.take i).map xk) [(Hm.mk t.state t.box t.ye t.out)]=some ((na.take i).map xk++[xk t]):=by
   rw [app,if_pos]
   ·rfl
   ·simp only [List.length_map,List.length_take,List.length_cons,List.length_nil];omega
  cases n with
  | zero=>omega
  | succ n =>
  refine aa<|ma<|Ra ?_;refine aa ?_;obtain ⟨f2,g2,h2,V1,f5,m6⟩:=Row.elem (α:=vc) (b.get d0) z0 rfl T1;obtain rfl:=m6;refine wl<|fp Tryz.underlying68 Gt (ba<|Fa<|oa d6) (ba<|Fa<|oa d8) V1 (wa<|Lb<|Fc Ba) ?_;refine wl<|bp Gt (ba<|Fa<|Da d0) ((f5 _ _<|b.get d0).one d0) (wa<|Lb<|Fc pb)<|aa ?_;refine Gf b λl b=>(gg (i:=0) [0,1,7,8,9] (λc Qc e f g h=>hB _ (by decide) c Qc e f g h) rfl rfl rfl (Xl oK (ba d2) rfl) (Lb<|Fc Fb) ?_);refine bk (i:=1) [1,7,8,9] (λc Qc e f g h=>hB _ (by decide) c Qc e f g h) rfl rfl rfl (Yd yw (ba<|Fa<|Da d2)<|(b.ea d2).cell d0) (Lb<|Fc pc) ?_;refine gg (i:=2) [2,3,4,5,6,7,8,9] (λc Qc e f g h=>hB _ (by decide) c Qc e f g h) rfl rfl rfl (Sl<|ba<|oa d5) (Lb<|Fc Yc) ?_;refine gg (i:=3) [3,4,5,6,7,8,9] (λc Qc e f g h=>hB _ (by decide) c Qc e f g h) rfl rfl rfl (Wp<|ba<|Fa<|Da d4) (Lb<|Fc td) ?_;refine gg (i:=4) [4,5,6,7,8,9] (λc Qc e f g h=>hB _ (by decide) c Qc e f g h) rfl rfl rfl (Xl KF (ba<|Fa<|Da d5) rfl) (Lb<|Fc Md) ?_;refine bk (i:=5) [5,6,7,8,9] (λc Qc e f g h=>hB _ (by decide) c Qc e f g h) rfl rfl rfl (Vg Ao (ba<|Fa<|Da d6) ((R1 _ b.a).jg 4 4) rfl) (Lb<|Fc Td) ?_;refine Za rfl<|cp Tryz.underlying28 Ao rfl (ba<|Fa<|Da d7) rfl b λka i2 j2 b=>(pu (wa<|Lb<|Fc Zd)<|⟨(qd.s (Yd yw (ba<|Fa<|Da d2)<|(b.ea d3).cell d0) qd.z),?_⟩);have WP:qa μ [ca t.state,ca t.box,ca t.ye,.slice NE t.out.length WF] [(Hm.mk t.state t.box t.ye t.out)]:=(qa.one (α:=Hm) (⟨NE,WF,rfl,S1⟩));have W1:=qa.app o WP PP;refine Za rfl<|Si Tryz.underlying28 Ao rfl (ba<|Fa<|Da d3) (ba<|Fa<|Da d8) b d2 (b.ea d0).cells WP rfl PP (by decide) ?_;clear b;intro P1 k2 X1 Y1 b;cases (show _=X1 from Y1);replace b:=Sep.Be b Fb;refine pu (wa<|Lb<|Fc Nd) ?_;replace b:=b.drop ja.z;refine ⟨qd.z,?_⟩;refine gg (i:=8) [8,9] (λc Qc e f g h=>hB _ (by decide) c Qc e f g h) rfl rfl rfl (Xl oK (ba d2) rfl) (Lb<|Qe Ba) ?_;refine Za rfl<|yc yw (ba<|Fa<|Ma d0) (ba<|Fa<|Da d9) (b.get d1).ae b d2 Ba rfl Fb Ia λl2 b=>(ta ?_);refine aa<|wl<|uo (ba<|Fa<|oa d8) db U1 (wa<|Lb<|Qe pb)<|wl<|ui (ba<|Fa<|Ma d1) (wa<|Lb<|tb Zd)<|Yg<|aj ?_;exact ⟨n,_,_,rfl,(Lk<|Fo<|tq<|bm<|bm<|pn<|Ch<|jn<|cv<|Lk<|zL Uj),⟨i+1,_,_,by rw [show ((i+1:Nat):Int)=(i:Int)+1 from rfl],by omega,by omega,RK ▸ W1,RK ▸ b⟩,Nat.lt_succ_self _⟩
 ·rw [List.length_map,GE] at N1;obtain rfl:i=na.length:=by omega
  refine aa ?_;rw [List.take_length] at o b;exact R0 _ _ _ _ _ _ _ _ _ _ _ _ _ _ _ _ _ _ _ _ o b
end
theorem zm.at {μ:M}:∀ {na:List Rd}{bs:List Nat}{i:Nat}{t:Rd},zm μ na bs->na[i]?=some t->∃ b a c,bs[i]?=some b/\xa μ b 0 [ca t.cap,.slice a t.words.length c]/\za μ a c t.words
 | t::na,b::bs,0,_,⟨⟨a,c,d,f⟩,_⟩,e=>by cases e; exact ⟨b,a,c,rfl,d,f⟩
 | t::na,b::bs,i+1,_,⟨_,h⟩,e=>by
  obtain ⟨Rc,a,c,q,d,f⟩:=zm.at h (by simpa using e);exact ⟨Rc,a,c,by simpa using q,d,f⟩
 | [],[],i,_,_,e=>by simp at e
 | [],_::_,_,_,h,_=>h.elim
 | _::_,[],_,_,h,_=>h.elim
theorem zm.len {μ:M}:∀ {na:List Rd}{bs:List Nat},zm μ na bs->bs.length=na.length
 | [],[],_=>rfl
 | t::na,b::bs,⟨_,h⟩=>by simp [zm.len h]
 | [],_::_,h=>h.elim
 | _::_,[],h=>h.elim
section
variable {da:World}{rsF:List Ha}{μ:M}{w:World}{jd:Nat}{bs:List Rd}{bb:List Nat}{lf:Value}{mf:List Value}{wt wn:Value}
variable {Q:Exit->Act->World->Prop}{ds:List Deferred}
theorem SP {B pa C D a5 Ab mb E gd jc G H Ub yd K Ac L N O P R S U V W X Y Z Gb gc lc rc fd id md nd rd wd Fd Id be ce ge ne Ne of wf If dg bi ci ii li pi Pi dl el nl ol pl ul am em hm lm sm Nm fn on un Fn In co io no ro to Do ap ip jp mp pp sp wp Op eq Eq or qr wr Fr Or cs es is ls ms os rs us vs ws xs ys Os gt it lt mt rt ut fu bv kv hw kw lw ww rx zx Rz AC GE LE NE WF RK PP WP f0 g0 i0 k0 t0 v0 x0 z0 R0 f1 g1 i1 k1 m1 s1 t1 v1 EQ GQ:Value}(hB:∀ d,8<=d->gl Q d) (q2:bs.length<=4294967295) (x1:∀ c ∈ bs,c.words.length<=4294967295) (IR:zm μ bs bb) (E1:qa μ mf (bb.map vc.mk))
  (b:fa μ da w (.row lf 70 1 (bb.map vc.mk).length mf::.ea jd 31 [wt,.slice none 0 0,wn]::rsF))
  (F1:∀ (G1 H1 I1 J1 K1 L1 M1 N1 O1 P1 Q1 R1 S1 T1 U1 V1 W1 X1:Value) (J:M) (w':World) (l:Value) (o:List Value),ha μ J->qa J o (bs.map Rd.words)->fa J da w' (.row lf 70 1 (bb.map vc.mk).length mf::.row l 34 1 (bs.map Rd.words).length o::.ea jd 31 [wt,l,wn]::rsF)->Q .normal (F [B,pa,ob jd,C,D,a5,lf,Ab,mb,E,gd,jc,G,H,Ub,yd,K,G1,L,N,O,P,R,S,U,V,W,X,Y,Z,Gb,gc,lc,rc,fd,id,md,nd,rd,wd,Fd,Id,be,ce,ge,ne,Ne,of,wf,If,dg,bi,ci,ii,li,pi,Pi,dl,el,nl,ol,pl,ul,am,em,hm,lm,sm,Nm,fn,on,un,Fn,In,co,io,no,ro,to,Do,ap,ip,jp,mp,pp,sp,wp,Op,eq,Eq,or,qr,wr,Fr,Or,cs,es,is,ls,ms,os,rs,us,vs,ws,xs,ys,Os,gt,it,lt,mt,rt,ut,fu,bv,kv,hw,kw,lw,ww,rx,zx,Rz,AC,GE,LE,NE,WF,RK,PP,WP,H1,I1,J1,K1,L1,M1,N1,O1,P1,Q1,R1,S1,T1,U1,V1,W1,X1,EQ,GQ] ds) w') :
  ud Tryz.prog (iq ((Tryz.f7.body).getD .skip) [1,1,1,1,1,1,1,1,1,1,0]) Q [B,pa,ob jd,C,D,a5,lf,Ab,mb,E,gd,jc,G,H,Ub,yd,K,Ac,L,N,O,P,R,S,U,V,W,X,Y,Z,Gb,gc,lc,rc,fd,id,md,nd,rd,wd,Fd,Id,be,ce,ge,ne,Ne,of,wf,If,dg,bi,ci,ii,li,pi,Pi,dl,el,nl,ol,pl,ul,am,em,hm,lm,sm,Nm,fn,on,un,Fn,In,co,io,no,ro,to,Do,ap,ip,jp,mp,pp,sp,wp,Op,eq,Eq,or,qr,wr,Fr,Or,cs,es,is,ls,ms,os,rs,us,vs,ws,xs,ys,Os,gt,it,lt,mt,rt,ut,fu,bv,kv,hw,kw,lw,ww,rx,zx,Rz,AC,GE,LE,NE,WF,RK,PP,WP,f0,g0,i0,k0,t0,v0,x0,z0,R0,f1,g1,i1,k1,m1,s1,t1,v1,EQ,GQ] ds w:=by
 refine ma<|Nh<|wl<|ui (ba d6) (wa<|Lb<|Qe Fb)<|wl<|mF Tryz.underlying67 (ba<|Fa<|Ma d2) (b.get d0).lp (wa<|Lb<|Qe pc)<|wl<|ui db (wa<|Lb<|Qe Yc)<|Yg<|ag<|Ra<|qo (17::rg 135 14) (by decide) (λn m q=>∃ (i:Nat) (J:M) (l:Value) (o:List Value),m=Pd (sg<|ef<|Mc 17<|df<|df<|Pd<|sg<|jh (.i (ca (i:Int))::(Xc 135 (hi 145 (ef [])))))/\i<=bs.length/\bs.length<n+i/\ha μ J/\qa J o ((bs.take i).map Rd.words)/\fa J da q (.row lf 70 1 (bb.map vc.mk).length mf::.row l 34 1 ((bs.take i).map Rd.words).length o::.ea jd 31 [wt,l,wn]::rsF)) (by rintro _ _ _ ⟨_,_,_,_,rfl,_⟩;rfl) (bs.length+1) _ (Lk<|Fo<|pn<|tq<|bm<|bm<|Lk<|Fo<|yp<|Ch<|jn<|uq<|pn Uj) ⟨0,μ,_,[],rfl,by omega,by omega,ha.r,qa.nil,(ew (T:=34) (n:=1) b).perm (by simp only [List.take_zero,List.map_nil,List.length_nil];classical exact List.perm_iff_count.2 (λx=>(by simp only [List.count_append,List.count_cons,List.count_nil];ac_rfl)))⟩ ?_;clear b;rintro n _ r2 q ⟨i,J,l,o,rfl,s2,t2,p,u,b⟩;refine aa ?_;have Y1:=IR.up p;have Z1:=E1.up p;have FS:=zm.len IR;refine aa<|ma<|Qb (ba<|Fa<|Ma d5) (λa2=>?_)<|λb2=>?_
 ·rw [List.length_map,FS] at a2;have c2:i<bs.length:=by omega
  obtain ⟨x,v⟩:∃ x,bs[i]?=some x:=⟨_,List.getElem?_eq_getElem c2⟩;obtain ⟨f2,u2,v2,g2,h2,i2⟩:=zm.at Y1 v;have j2:at_ (bb.map vc.mk) (i:Int)=some ⟨f2⟩:=by simp [at_,g2]
  have k2:Go.Re.i64 ((i:Int)+1)=some ((i:Int)+1):=if_pos (by omega);have GT:(bs.take (i+1)).map Rd.words=(bs.take i).map Rd.words++[x.words]:=by rw [List.take_add_one,v,List.map_append];rfl
  have LT:app ((bs.take i).map Rd.words) [x.words]=some ((bs.take i).map Rd.words++[x.words]):=by
   rw [app,if_pos];simp only [List.length_map,List.length_take,List.length_cons,List.length_nil];omega
  have ST:app ([]:List Int) x.words=some x.words:=by
   rw [app,if_pos]
   ·rfl
   ·have:=x1 x (List.mem_iff_getElem?.2 ⟨i,v⟩);simp only [List.length_nil];omega
  cases n with
  | zero=>omega
  | succ n =>
  refine aa<|ma<|Ra ?_;refine aa ?_;obtain ⟨w2,x2,y2,l2,f5,m6⟩:=Row.elem (α:=vc) (b.get d0) Z1 rfl j2;obtain rfl:=m6;refine wl<|fp Tryz.underlying67 ll (ba<|Fa<|Ma d2) (ba<|Fa<|Ma d4) l2 (wa<|Lb<|Qe Md) ?_;refine wl<|bp ll (ba<|Fa<|Ma d6) ((f5 _ _<|b.get d0).one d0) (wa<|Lb<|Qe Td)<|aa ?_;refine Gf b λq b=>(gg (i:=0) [0,1,8,9,10] (λf Qc g h j k=>hB _ (by decide) f Qc g h j k) rfl rfl rfl (Xl pK (ba d2) rfl) (Lb<|Qe Zd) ?_);refine bk (i:=1) [1,8,9,10] (λf Qc g h j k=>hB _ (by decide) f Qc g h j k) rfl rfl rfl (Yd FB (ba<|Fa<|Ma d8)<|(b.ea d2).cell d1) (Lb<|Qe Nd) ?_;refine gg (i:=2) [2,3,4,5,6,7,8,9,10] (λf Qc g h j k=>hB _ (by decide) f Qc g h j k) rfl rfl rfl (Sl<|ba<|oa d7) (Lb<|Ce Ba) ?_;refine gg (i:=3) [3,4,5,6,7,8,9,10] (λf Qc g h j k=>hB _ (by decide) f Qc g h j k) rfl rfl rfl (Wp<|ba<|Fa<|Wa d0) (Lb<|Ce pb) ?_;refine gg (i:=4) [4,5,6,7,8,9,10] (λf Qc g h j k=>hB _ (by decide) f Qc g h j k) rfl rfl rfl (Xl iT (ba<|Fa<|Wa d1) rfl) (Lb<|Ce Fb) ?_;refine bk (i:=5) [5,6,7,8,9,10] (λf Qc g h j k=>hB _ (by decide) f Qc g h j k) rfl rfl rfl (Yd Jm (ba<|Fa<|Wa d2)<|(h2 _ b.a).one d1) (Lb<|Ce pc) ?_;replace b:=b.mi 2 (Ja.sz Int);obtain ⟨Xh,m5,m6⟩:=za.cells i2;have m2:=qa.app (qa.nil (α:=Int) (μ:=J)) m5 ST;refine Za rfl<|QA Tryz.underlying34 Rf rfl db (ba<|Fa<|Wa d3) b d0 (λe=>(m6 e)) m5 ST (by decide) ?_;clear b;intro z2 A2 y A b;cases (show _=y from A);replace b:=Sep.Be b Ba;refine pu (wa<|Lb<|Ce Yc)<|ta ?_;obtain ⟨Ta,Ab,Lf,n2,UV,o2,a0⟩:=Sep.Ri b m2 rfl;clear b;subst n2;have b:=a0;clear a0;refine Za rfl<|Qg Tryz.underlying29 Jm (Dc.s (ba<|Fa<|Wa d4) rfl Dc.z) rfl rfl b λAd B2 C2 b=>(pu (wa<|Lb<|Ce td)<|ta ?_);have c0:qa Ta [.slice Ab x.words.length Lf] [x.words]:=(qa.one (α:=List Int) (⟨Ab,Lf,rfl,o2⟩));have p2:=qa.app (u.up UV) c0 LT;refine Za rfl<|Si Tryz.underlying29 Jm rfl (ba<|Fa<|Ma d9) (ba<|Fa<|Wa d5) b d2 (b.ea d0).cells c0 rfl LT (by decide) ?_;clear b;intro jC D2 y A b;cases (show _=y from A);replace b:=Sep.Be b Fb;refine pu (wa<|Lb<|Ce Md) ?_;replace b:=b.drop ja.z;refine ⟨qd.z,?_⟩;refine gg (i:=9) [9,10] (λf Qc g h j k=>hB _ (by decide) f Qc g h j k) rfl rfl rfl (Xl pK (ba d2) rfl) (Lb<|Ce Td) ?_;refine Za rfl<|yc FB (ba<|Fa<|Wa d7) (ba<|Fa<|Wa d6) (b.get d1).ae b d2 pb rfl Fb Ia λE2 b=>(ta<|Nh<|wl<|uo (ba<|Fa<|Ma d4) db k2 (wa<|Lb<|Ce Zd)<|wl<|ui (ba<|Fa<|Wa d8) (wa<|Lb<|Qe Yc)<|Yg<|aj ?_);exact ⟨n,_,_,rfl,(Lk<|Fo<|pn<|tq<|bm<|bm<|Lk<|Fo<|yp<|Ch<|jn<|uq<|pn Uj),⟨i+1,_,_,_,by rw [show ((i+1:Nat):Int)=(i:Int)+1 from rfl],by omega,by omega,p.t UV,GT ▸ p2,GT ▸ b⟩,Nat.lt_succ_self _⟩
 ·rw [List.length_map,FS] at b2;obtain rfl:i=bs.length:=by omega
  refine aa ?_;rw [List.take_length] at u b;exact F1 _ _ _ _ _ _ _ _ _ _ _ _ _ _ _ _ _ _ _ _ _ _ p u b
end
theorem cI {fu:Nat}{I:M}{da w:World}{rsF:List Ha}(gc:ha Kb I){p_1:List va}{pa:Option Addr}{y:Nat}{r:Ti×Vd}(G:za I pa y p_1) (h:Vo fu p_1=some r) (b:fa I da w (rsF)):kb Tryz.prog 7 [.slice pa p_1.length y] w (λv w'=>∃ (J:M) (H:Option Addr) (K:Nat) (Ab:Option Addr) (Lf:Nat),v=.tuple ⟨[.agg ⟨[.slice H r.1.Mh.length K,.slice Ab r.1.xe.length Lf,ca r.1.Steps]⟩,.agg ⟨[ca r.2.Te,ca r.2.xa]⟩]⟩/\ha I J/\fa J da w' (rsF)/\za J H K r.1.Mh/\za J Ab Lf r.1.xe):=by
 unfold Vo at h;replace h:=te h;obtain ⟨f,lc,h⟩:=h;refine SQ Tryz.func7 rfl (frm:=[.slice pa p_1.length y,_,_,_,_,_,_,_,_,_,_,_,_,_,_,_,_,_,_,_,_,_,_,_,_,_,_,_,_,_,_,_,_,_,_,_,_,_,_,_,_,_,_,_,_,_,_,_,_,_,_,_,_,_,_,_,_,_,_,_,_,_,_,_,_,_,_,_,_,_,_,_,_,_,_,_,_,_,_,_,_,_,_,_,_,_,_,_,_,_,_,_,_,_,_,_,_,_,_,_,_,_,_,_,_,_,_,_,_,_,_,_,_,_,_,_,_,_,_,_,_,_,_,_,_,_,_,_,_,_,_,_,_,_,_,_,_,_,_,_,_,_,_,_,_,_,_,_,_,_,_]) rfl<|aa<|wl<|oc fj b λjd L ip b=>(pu (wa Fb)<|wl<|oc ed b λUa N jp b=>(pu (wa pc) ?_));refine aa ?_;refine ma ?_;refine aa ?_;refine wl<|od IU Cc (sa (ba<|oa d8) lb) (qH gc G lc b) ?_;rintro _ O ⟨Ta,rfl,P,b⟩;refine aa<|wl<|oc ed b λUf mp pp b=>(pu (wa Yc)<|wl<|Nb ed (ba d4) (ba<|oa d9) rfl rfl b d0 rfl Ba Ia λsp b=>?_);refine aa ?_;refine Qb (ba<|Da d2) (λA=>?_)<|λA=>?_
 ·rw [if_pos A] at h;cases h;refine Ld b λL b=>(bk (i:=0) [0,2,3] (λ_ _ _ _ _ h=>dv rfl h) rfl rfl rfl (Vg fj (ba d2) (b.ea d2).cells rfl) (Fc pc)<|bk (i:=1) [1,3] (λ_ _ _ _ _ h=>dv rfl h) rfl rfl rfl (Vg ed (ba d4) (b.ea d0).cells rfl) (Fc Yc)<|Za rfl<|Nb fj (ba d2) (ba<|Da d3) rfl rfl b d2 rfl Fb Ia λN b=>(⟨(qd.s (Vg ed (ba d4) (b.ea d0).cells rfl) qd.z),?_⟩));refine Za rfl<|Nb ed (ba d3) (ba<|Da d4) rfl rfl b d1 rfl pb Ia λO b=>(ta<|DL<|cq rfl (ib.s (.a d2 fj (b.ea d2).cells rfl)<|ib.s (.a d3 ed (b.ea d1).cells rfl) ib.z) ?_);replace b:=((b.drop ja.z).drop ja.z).drop ja.z;exact ex
 rw [if_neg A] at h;rcases Nat.lt_or_ge 4294967295 p_1.length with la | la
 ·rw [if_neg (by omega)] at h;cases h
 rw [if_pos la] at h;replace h:=te h;obtain ⟨wp,Q,h⟩:=h;replace b:=b.drop ja.z;refine aa ?_;refine wl<|Vx (ba<|Da d5) lb Ia<|aa<|wl<|uk b λLo Op eq b=>(pu (wa<|Fc Md)<|wl<|uk b λMo Eq or b=>(pu (wa<|Fc Td)<|wl<|uk b λNo Cf qr b=>(pu (wa<|Fc Zd)<|wl<|Ke bW hW (eb.o rfl (ba<|Da d6) rfl rfl Ba<|eb.o rfl (ba<|Da d7) rfl rfl pb<|eb.o rfl (ba<|Da d8) rfl rfl Fb<|eb.o rfl db rfl rfl pc eb.z) (wa<|Fc Nd)<|wc b λLa wr Fr b=>(pu (wa<|Qe Ba) ?_))));refine aa ?_;refine ma ?_;refine QP (hB:=λd Ca _ _ _ _ _ h=>dv (d:=d) (by show ([2,3]:List Nat).contains d=false;simp;omega) h) la (G.up P) (b.perm (rs':=.map No [] 0::.map Mo [] 0::.map Lo [] 0::.ea La 66 [.map (some Lo),.map (some Mo),.map (some No),ca 0]::.ea Ua 26 [ca 0,ca 0]::.ea jd 31 [.slice none 0 0,.slice none 0 0,ca 0]::rsF) (by classical exact List.perm_iff_count.2 (λx=>(by simp only [List.count_append,List.count_cons,List.count_nil];ac_rfl)))) ?_;clear b;intro Or cs es ls ms os rs us vs ws xs ys Os gt it lt mt ut wt bv kv hw kw lw ww rx zx Rz AC GE LE NE WF RK PP WP EQ GQ IR FS GT LT ST UV a0 c0 f0 g0 i0 k0 t0 v0 x0 z0 R0 f1 g1 i1 k1 m1 s1 t1 v1 x1 E1 F1 G1 H1 I1 J1 K1 L1 dl is bb cj B M1 Hj N1 O1 P1 Q1 mf oe lf Mf rc g b;obtain ⟨R1,C,fd,b⟩:=Sep.xm b g.Zm;obtain ⟨S1,D,id,b⟩:=Sep.xm b (g.Bi.up C);obtain ⟨rd,E,wd,b⟩:=Sep.xm b (g.Dq.up (C.t D));have k:=C.t (D.t E);have n:Nr (Mg p_1).env rd La bb (is.map Ci.Ea) (Mg p_1).na (Mg p_1).bs 0 ⟨Lo,Mo,No,cj,.nilFunc,.slice none 0 0,.slice none 0 0,0,[],[],[],[],B⟩ (is.map λi=>(Aw La bb i,zw i)):=by
  refine ⟨⟨by omega,by omega,wd,id.up E,fd.up (D.t E),g.wh.wh,g.Ya.imp λ_ _ _ q=>q.up k⟩,?_,?_⟩
  ·rw [g.na];exact (g.new.up k).all
  ·rw [List.map_map];rfl
 have j:=Mk.res (bb:=bb) (g.new.up k) (b.perm (rs':=kr La is++(.row Mf 73 1 ((is.map Ci.Ea).map vc.mk).length oe::.row lf 70 1 (bb.map vc.mk).length mf::.ea La 66 [.map (some Lo),.map (some Mo),.map (some No),ca 0]::(B++(.ea Ua 26 [ca 0,ca 0]::.ea jd 31 [.slice none 0 0,.slice none 0 0,ca 0]::rsF)))) (by classical exact List.perm_iff_count.2 (λx=>(by simp only [List.count_append,List.count_cons,List.count_nil];ac_rfl))));rw [<- g.na] at j;have R:=j.perm (rs':=.row Mf 73 1 ((is.map Ci.Ea).map vc.mk).length oe::.row lf 70 1 (bb.map vc.mk).length mf::pj La 0 ⟨Lo,Mo,No,cj,.nilFunc,.slice none 0 0,.slice none 0 0,0,[],[],[],[],B⟩ (Mg p_1).na (is.map λi=>(Aw La bb i,zw i)) (.ea Ua 26 [ca 0,ca 0]::.ea jd 31 [.slice none 0 0,.slice none 0 0,ca 0]::rsF)) (by simp only [pj,hq,List.cons_append,List.append_assoc];classical exact List.perm_iff_count.2 (λx=>(by simp only [List.count_append,List.count_cons,List.count_nil];ac_rfl)));clear b j;refine ag<|ma<|OO Q n (g.az.up k) (g.rt.up k) R ?_ ?_
 rotate_left
 ·intro Fd Id be ce ge ne Ne of wf If dg rg bi ci ii li e pi;subst e;obtain ⟨Pi,S,b⟩:=pi;cases h;refine zW jK (OP<|b.perm (by classical exact List.perm_iff_count.2 (λx=>(by simp only [List.count_append,List.count_cons,List.count_nil];ac_rfl)))) ?_;intro el b;refine cq rfl (ib.s (.a d2 fj (b.ea d0).cells rfl)<|ib.s (.a d3 ed (b.ea d1).cells rfl) ib.z) ?_;replace b:=(b.drop ja.z).drop ja.z;exact ex
 clear R n;intro Fd Id be ce ge ne Ne of wf If dg rg bi ci ii li na bs nd Pi l T e S n b;subst e;unfold KD at h;simp only at h;have p:na.length<=4294967295/\bs.length<=4294967295/\(bs.all λc=>decide (c.words.length<=4294967295))=true:=Decidable.byContradiction λp=>by
  rw [if_neg p] at h;cases h
 rw [if_pos p] at h;obtain ⟨nl,ol,pl⟩:=p;obtain rfl:=lv h;clear h Q;refine ag<|ma ?_;obtain ⟨ul,am,em⟩:=n;have j:=b.perm (rs':=.ea La 66 [.map (some l.md),.map (some l.Tb),.map (some l.nb),ca nd]::.ea jd 31 [.slice none 0 0,.slice none 0 0,ca 0]::(Uh na T++(l.Ya++(.row Mf 73 1 ((is.map Ci.Ea).map vc.mk).length oe::.row lf 70 1 (bb.map vc.mk).length mf::.ea Ua 26 [ca 0,ca 0]::rsF)))) (by simp only [pj,hq,List.cons_append,List.append_assoc];classical exact List.perm_iff_count.2 (λx=>(by simp only [List.count_append,List.count_cons,List.count_nil];ac_rfl)));clear b;have b:=j;clear j;refine aa<|wl<|yc kc (ba<|Fa<|oa d5) (ba<|Fa<|oa d4) rfl b d1 Fb rfl pb Ia λel b=>?_;refine aa ?_;have j:=(b.drop ja.z).perm (rs':=Uh na T++(l.Ya++(.row Mf 73 1 ((is.map Ci.Ea).map vc.mk).length oe::.row lf 70 1 (bb.map vc.mk).length mf::.ea jd 31 [.slice none 0 0,.slice none 0 0,ca nd]::.ea Ua 26 [ca 0,ca 0]::rsF))) (by classical exact List.perm_iff_count.2 (λx=>(by simp only [List.count_append,List.count_cons,List.count_nil];ac_rfl)));clear b;obtain ⟨T1,U,hm,b⟩:=zI am j;clear j;obtain ⟨U1,V,lm,b⟩:=AI (ul.Ya.imp λ_ _ _ q=>q.up U) b;have F:=S.t (U.t V);have sm:=(g.rt.up k).up F;have Nm:=(g.az.up k).up F;refine ma ?_;refine RP (hB:=λd Ca _ _ _ _ _ h=>dv (d:=d) (by show ([2,3]:List Nat).contains d=false;simp;omega) h) nl (by rw [em];exact hm.up V) sm (b.perm (rs':=.row Mf 73 1 ((is.map Ci.Ea).map vc.mk).length oe::.ea jd 31 [.slice none 0 0,.slice none 0 0,ca nd]::.row lf 70 1 (bb.map vc.mk).length mf::.ea Ua 26 [ca 0,ca 0]::rsF) (by classical exact List.perm_iff_count.2 (λx=>(by simp only [List.count_append,List.count_cons,List.count_nil];ac_rfl)))) ?_;clear b;intro Me V1 W1 X1 Y1 Z1 a2 b2 c2 f2 g2 h2 i2 j2 k2 l2 m2 n2 u W fn b;refine ag<|ma<|SP (hB:=λd Ca _ _ _ _ _ h=>dv (d:=d) (by show ([2,3]:List Nat).contains d=false;simp;omega) h) ol (λc on=>by simpa using (List.all_eq_true.1 pl) c on) lm Nm (b.perm (rs':=.row lf 70 1 (bb.map vc.mk).length mf::.ea jd 31 [u,.slice none 0 0,ca nd]::.row u 36 4 (na.map xk).length W::.row Mf 73 1 ((is.map Ci.Ea).map vc.mk).length oe::.ea Ua 26 [ca 0,ca 0]::rsF) (by classical exact List.perm_iff_count.2 (λx=>(by simp only [List.count_append,List.count_cons,List.count_nil];ac_rfl)))) ?_;clear b;intro o2 p2 q2 r2 s2 t2 u2 v2 w2 x2 y2 z2 A2 B2 C2 D2 E2 F2 G2 H2 X un Y wn b;have j:=b.perm (rs':=.row X 34 1 (bs.map Rd.words).length un::.row u 36 4 (na.map xk).length W::.ea jd 31 [u,X,ca nd]::.ea Ua 26 [ca 0,ca 0]::.row lf 70 1 (bb.map vc.mk).length mf::.row Mf 73 1 ((is.map Ci.Ea).map vc.mk).length oe::rsF) (by classical exact List.perm_iff_count.2 (λx=>(by simp only [List.count_append,List.count_cons,List.count_nil];ac_rfl)));clear b;obtain ⟨I2,Fn,In,co,Z,io,m⟩:=Sep.Ri j wn rfl;clear j;subst co;have b:=m;clear m;obtain ⟨no,ro,to,Do,Gb,ap,m⟩:=Sep.Ri b ((fn.up Y).up Z) rfl;clear b;subst Do;have b:=m;clear m;refine ag<|Ld b λL b=>(bk (i:=0) [0,2,3] (λ_ _ _ _ _ h=>dv rfl h) rfl rfl rfl (Vg fj (ba d2) (b.ea d0).cells rfl) (Lb<|Ce Nd)<|bk (i:=1) [1,3] (λ_ _ _ _ _ h=>dv rfl h) rfl rfl rfl (Vg ed (ba d3) (b.ea d1).cells rfl) (Lb<|pf Ba)<|Za rfl<|Nb fj (ba d2) (ba<|Fa<|Wa d9) rfl rfl b d0 rfl Ba Ia λN b=>(⟨(qd.s (Vg ed (ba d3) (b.ea d1).cells rfl) qd.z),?_⟩));refine Za rfl<|Nb ed (ba d3) (ba<|Fa<|ub d0) rfl rfl b d1 rfl pb Ia λO b=>(ta<|DL<|HK jK (NO b) ?_);rintro v w' ⟨rfl,b⟩;refine cq rfl (ib.s (.a d2 fj (b.ea d0).cells rfl)<|ib.s (.a d3 ed (b.ea d1).cells rfl) ib.z) ?_;replace b:=(((b.drop ja.z).drop ja.z).drop ja.z).drop ja.z;refine ⟨no,ro,to,Fn,In,?_,P.t<|rc.t<|k.t<|F.t<|Y.t<|Z.t Gb,b,ap,io.up Gb⟩;simp only [Pu,List.length_map]
end Go.Proofs.YtafjdiifkckmbaaGreatDoor
