/- Texts of Wd. -/
import Derived.Test.YtafjdiifkckmbaaGreatDoorCXu
import Derived.Test.YtafjdiifkckmbaaGreatDoorCFl
import Derived.Test.YtafjdiifkckmbaaGreatDoorCMd
import Derived.Test.YtafjdiifkckmbaaGreatDoorCWc
import Derived.Tactics2
import Derived.Recover
import Derived.Laws.Pointers
import Derived.Test.YtafjdiifkckmbaaGreatDoorCWb
set_option linter.unusedSimpArgs false
set_option linter.unusedVariables false
set_option linter.unusedSectionVars false
namespace Go.Y
open Go.Mc Go.Kf
section
abbrev pb (b:Nat):Value:=.pointer (some ⟨b,0,none⟩)
abbrev ch (k:Nat) (cs:List Value):Value:=.func (.func k) ⟨[]⟩ ⟨cs⟩
structure ae where
 Ka:Nat
 Fa:Nat
 A:List Nat
 B:List Nat
 bb:List Nat
structure ae.le (G sg:ae):Prop where
 Ka:sg.Ka=G.Ka
 Fa:sg.Fa=G.Fa
 bb:sg.bb=G.bb
 A:∀ (i b:Nat),G.A[i]?=some b->sg.A[i]?=some b
 B:∀ (i b:Nat),G.B[i]?=some b->sg.B[i]?=some b
theorem ae.le.r {G:ae}:G.le G:=⟨rfl,rfl,rfl,λ_ _ h=>h,λ_ _ h=>h⟩
theorem ae.le.t {a b c:ae}(h:a.le b) (k:b.le c):a.le c:=⟨k.Ka.trans h.Ka,k.Fa.trans h.Fa,k.bb.trans h.bb,λi x e=>k.A i x (h.A i x e),λi x e=>k.B i x (h.B i x e)⟩
def Dk (G:ae) (v:Option Addr):Option Nat->Prop
 | none=>v=none
 | some i=>∃ b,G.A[i]?=some b/\v=some ⟨b,0,none⟩
theorem Dk.up {G sg:ae}{v:Option Addr}{s:Option Nat}(h:Dk G v s) (l:G.le sg):Dk sg v s:=by
 cases s with
 | none=>exact h
 | some i=>obtain ⟨b,a,c⟩:=h; exact ⟨b,l.A i b a,c⟩
def fz (E:Ud) (G:ae) (n:Ge) (b:Nat):Prop:=∃ i:Nat,Oa E.order n=some (i:Int)/\G.bb[i]?=some b
theorem fz.up {E:Ud}{G sg:ae}{n:Ge}{b:Nat}(h:fz E G n b) (l:G.le sg):fz E sg n b:=by
 obtain ⟨i,a,c⟩:=h;exact ⟨i,a,by rw [l.bb];exact c⟩
mutual
def Ze (E:Ud) (μ:M) (G:ae):cf->Nat->List Value->Prop
 | .all l s Hd k,K,cs=>K=143/\∃ eb c d f o g h a pc p Gd b,cs=[pb eb,pb c,pb d,pb f,pb o]/\xa μ eb 0 [pb G.Fa]/\ya μ g h l/\xa μ c 0 [.slice g l.length h]/\Dk G a s/\xa μ d 0 [.pointer a]/\ya μ pc p Hd/\xa μ f 0 [.slice pc Hd.length p]/\xa μ o 0 [ch Gd b]/\Cl E μ G k Gd b
 | .stat l s e k,K,cs=>K=56/\∃ i mz eb c d f j Ae ce m q x n g h a Gd b,cs=[pb i,pb mz,pb j,pb Ae,pb ce]/\at_ l 0=some x/\Ie μ n x/\xa μ i 0 [n]/\xa μ mz 0 [ch 51 [pb eb,pb c,pb d,pb f]]/\xa μ eb 0 [pb G.Fa]/\ya μ g h l/\xa μ c 0 [.slice g l.length h]/\xa μ d 0 [pb q]/\yh E μ G e q/\xa μ f 0 [ch Gd b]/\ve E μ G k Gd b/\Dk G a s/\xa μ j 0 [.pointer a]/\xa μ Ae 0 [pb G.Fa]/\xa μ ce 0 [pb m]/\yh E μ G e m
 | .lf x s e k,K,cs=>K=94/\∃ b Ae i j ce m n a Gd r,cs=[pb b,pb Ae,pb i,pb j,pb ce]/\xa μ b 0 [ch Gd r]/\ve E μ G k Gd r/\xa μ Ae 0 [pb G.Fa]/\Ie μ n x/\xa μ i 0 [n]/\Dk G a s/\xa μ j 0 [.pointer a]/\xa μ ce 0 [pb m]/\yh E μ G e m
def Cl (E:Ud) (μ:M) (G:ae):fl->Nat->List Value->Prop
 | .ex x k,K,cs=>K=98/\∃ a b Ae c Gd d,cs=[pb a,pb b,pb Ae]/\Ie μ c x/\xa μ a 0 [c]/\xa μ b 0 [ch Gd d]/\Ze E μ G k Gd d/\xa μ Ae 0 [pb G.Fa]
def ve (E:Ud) (μ:M) (G:ae):je->Nat->List Value->Prop
 | .zero k,K,cs=>K=100/\∃ a Gd c,cs=[pb a]/\xa μ a 0 [ch Gd c]/\Ze E μ G k Gd c
 | .recv n k,K,cs=>K=142/\∃ f Ae h i a b Gd c,cs=[pb f,pb Ae,pb h,pb i,pb a]/\fz E G n b/\xa μ f 0 [pb b]/\xa μ Ae 0 [pb G.Fa]/\xa μ h 0 [S n]/\xa μ i 0 [ch 142 [pb f,pb Ae,pb h,pb i,pb a]]/\xa μ a 0 [ch Gd c]/\Ze E μ G k Gd c
 | .send n v k,K,cs=>K=105/\∃ f Ae h i pg a b Gd c,cs=[pb f,pb Ae,pb h,pb i,pb pg,pb a]/\fz E G n b/\xa μ f 0 [pb b]/\xa μ Ae 0 [pb G.Fa]/\xa μ h 0 [S n]/\xa μ i 0 [ch 105 [pb f,pb Ae,pb h,pb i,pb pg,pb a]]/\xa μ pg 0 [ca v]/\xa μ a 0 [ch Gd c]/\ve E μ G k Gd c
 | .done g,K,cs=>K=144/\∃ j Ae b,cs=[pb j,pb Ae]/\G.B[g]?=some b/\xa μ j 0 [pb b]/\xa μ Ae 0 [pb G.Fa]
 | .stats l s e k,K,cs=>K=52/\∃ Ae r m ce a o q t u p Gd c,cs=[pb Ae,pb r,pb m,pb ce,pb a]/\xa μ Ae 0 [pb G.Fa]/\cut q 1 q.length=some l/\ya μ t u q/\xa μ r 0 [.slice t q.length u]/\Dk G p s/\xa μ m 0 [.pointer p]/\xa μ ce 0 [pb o]/\yh E μ G e o/\xa μ a 0 [ch Gd c]/\ve E μ G k Gd c
 | .lf x s e k,K,cs=>K=95/\∃ Ae w m ce a o y p Gd c,cs=[pb Ae,pb w,pb m,pb ce,pb a]/\xa μ Ae 0 [pb G.Fa]/\Ie μ y x/\xa μ w 0 [y]/\Dk G p s/\xa μ m 0 [.pointer p]/\xa μ ce 0 [pb o]/\yh E μ G e o/\xa μ a 0 [ch Gd c]/\ve E μ G k Gd c
 | .fin,K,cs=>K=29/\∃ Ae,cs=[pb Ae]/\xa μ Ae 0 [pb G.Fa]
 | .cj d,K,cs=>K=30/\∃ Ae Ok Qq j dn,cs=[pb Ae,pb Ok,pb Qq]/\xa μ Ae 0 [pb G.Fa]/\Ie μ dn d/\xa μ Ok 0 [dn]/\xa μ Qq 0 [ch 29 [pb j]]/\xa μ j 0 [pb G.Fa]
def yh (E:Ud) (μ:M) (G:ae):kh->Nat->Prop
 | .ret k,b=>∃ Gd a,xa μ b 0 [ch Gd a,.nilFunc]/\Ze E μ G k Gd a
 | .stop k,b=>∃ Gd a,xa μ b 0 [.nilFunc,ch Gd a]/\ve E μ G k Gd a
end
section
variable {E:Ud}{μ J:M}{G sg:ae}(lm:ha μ J) (jc:G.le sg)
include lm jc
mutual
theorem Ze.up:∀ {k:cf}{K:Nat}{cs:List Value},Ze E μ G k K cs->Ze E J sg k K cs
 | .all l s Hd k,K,cs,⟨h,eb,q,r,t,B,u,v,a,pc,C,Gd,b,c,d,f,g,i,j,m,n,o,p⟩=>by
  rw [Ze,jc.Fa];exact ⟨h,eb,q,r,t,B,u,v,a,pc,C,Gd,b,c,d.up lm,f.up lm,g.up lm,i.up jc,j.up lm,m.up lm,n.up lm,o.up lm,Cl.up p⟩
 | .stat l s e k,K,cs,⟨h,w,mz,eb,q,r,t,y,Ae,ce,z,D,x,A,u,v,a,Gd,b,c,d,f,g,i,j,m,n,o,p,F,H,L,M,N,O,P⟩=>by
  rw [Ze,jc.Fa];exact ⟨h,w,mz,eb,q,r,t,y,Ae,ce,z,D,x,A,u,v,a,Gd,b,c,d,f.up lm,g.up lm,i.up lm,j.up lm,m.up lm,n.up lm,o.up lm,yh.up p,F.up lm,ve.up H,L.up jc,M.up lm,N.up lm,O.up lm,yh.up P⟩
 | .lf x s e k,K,cs,⟨h,b,Ae,w,y,ce,z,A,a,Gd,Q,c,d,f,g,i,j,m,n,o,p⟩=>by
  rw [Ze,jc.Fa];exact ⟨h,b,Ae,w,y,ce,z,A,a,Gd,Q,c,d.up lm,ve.up f,g.up lm,i.up lm,j.up lm,m.up jc,n.up lm,o.up lm,yh.up p⟩
theorem Cl.up:∀ {k:fl}{K:Nat}{cs:List Value},Cl E μ G k K cs->Cl E J sg k K cs
 | .ex x k,K,cs,⟨h,a,b,Ae,c,Gd,d,e,f,g,i,j,l⟩=>by
  rw [Cl,jc.Fa];exact ⟨h,a,b,Ae,c,Gd,d,e,f.up lm,g.up lm,i.up lm,Ze.up j,l.up lm⟩
theorem ve.up:∀ {k:je}{K:Nat}{cs:List Value},ve E μ G k K cs->ve E J sg k K cs
 | .zero k,K,cs,⟨h,j,Gd,m,a,c,f⟩=>by
  rw [ve];exact ⟨h,j,Gd,m,a,c.up lm,Ze.up f⟩
 | .recv n k,K,cs,⟨h,u,Ae,w,y,j,b,Gd,m,a,c,f,i,o,p,q,r⟩=>by
  rw [ve,jc.Fa];exact ⟨h,u,Ae,w,y,j,b,Gd,m,a,c.up jc,f.up lm,i.up lm,o.up lm,p.up lm,q.up lm,Ze.up r⟩
 | .send n v k,K,cs,⟨h,u,Ae,w,y,pg,j,b,Gd,m,a,c,f,i,o,p,q,r,t⟩=>by
  rw [ve,jc.Fa];exact ⟨h,u,Ae,w,y,pg,j,b,Gd,m,a,c.up jc,f.up lm,i.up lm,o.up lm,p.up lm,q.up lm,r.up lm,ve.up t⟩
 | .done g,K,cs,⟨h,z,Ae,b,a,c,f,i⟩=>by
  rw [ve,jc.Fa];exact ⟨h,z,Ae,b,a,jc.B _ _ c,f.up lm,i.up lm⟩
 | .stats l s e k,K,cs,⟨h,Ae,H,A,ce,j,C,L,M,N,D,Gd,m,a,c,f,i,o,p,q,r,t,F,O⟩=>by
  rw [ve,jc.Fa];exact ⟨h,Ae,H,A,ce,j,C,L,M,N,D,Gd,m,a,c.up lm,f,i.up lm,o.up lm,p.up jc,q.up lm,r.up lm,yh.up t,F.up lm,ve.up O⟩
 | .lf x s e k,K,cs,⟨h,Ae,P,A,ce,j,C,Q,D,Gd,m,a,c,f,i,o,p,q,r,t,F⟩=>by
  rw [ve,jc.Fa];exact ⟨h,Ae,P,A,ce,j,C,Q,D,Gd,m,a,c.up lm,f.up lm,i.up lm,o.up jc,p.up lm,q.up lm,yh.up r,t.up lm,ve.up F⟩
 | .fin,K,cs,⟨h,Ae,a,c⟩=>by
  rw [ve,jc.Fa];exact ⟨h,Ae,a,c.up lm⟩
 | .cj d,K,cs,⟨h,Ae,Ok,Qq,z,dn,a,c,f,i,o,p⟩=>by
  rw [ve,jc.Fa];exact ⟨h,Ae,Ok,Qq,z,dn,a,c.up lm,f.up lm,i.up lm,o.up lm,p.up lm⟩
theorem yh.up:∀ {e:kh}{a:Nat},yh E μ G e a->yh E J sg e a
 | .ret k,a,⟨Gd,b,c,d⟩=>by
  rw [yh];exact ⟨Gd,b,c.up lm,Ze.up d⟩
 | .stop k,a,⟨Gd,b,c,d⟩=>by
  rw [yh];exact ⟨Gd,b,c.up lm,ve.up d⟩
end
end
end
def Af {α:Type}(R:α->Nat->Ha->Prop):List α->List Nat->List Ha->Prop
 | [],[],[]=>True
 | x::xs,b::bs,r::rs=>R x b r/\Af R xs bs rs
 | _,_,_=>False
section
variable {α:Type}{R R':α->Nat->Ha->Prop}
theorem Af.imp (h:∀ x b r,R x b r->R' x b r):∀ {xs:List α}{bs:List Nat}{a:List Ha},Af R xs bs a->Af R' xs bs a
 | [],[],[],_=>trivial
 | x::xs,b::bs,r::a,⟨c,d⟩=>⟨h _ _ _ c,Af.imp h d⟩
 | [],[],_::_,k=>k.elim
 | [],_::_,_,k=>k.elim
 | _::_,[],_,k=>k.elim
 | _::_,_::_,[],k=>k.elim
theorem Af.len:∀ {xs:List α}{bs:List Nat}{a:List Ha},Af R xs bs a->bs.length=xs.length/\a.length=xs.length
 | [],[],[],_=>⟨rfl,rfl⟩
 | x::xs,b::bs,r::a,⟨_,c⟩=>by have:=Af.len c; simp [this.1,this.2]
 | [],[],_::_,k=>k.elim
 | [],_::_,_,k=>k.elim
 | _::_,[],_,k=>k.elim
 | _::_,_::_,[],k=>k.elim
theorem Af.snoc {x:α}{b:Nat}{r:Ha}(h:R x b r):∀ {xs:List α}{bs:List Nat}{a:List Ha},Af R xs bs a->Af R (xs++[x]) (bs++[b]) (a++[r])
 | [],[],[],_=>⟨h,trivial⟩
 | x::xs,b::bs,r::a,⟨c,d⟩=>⟨c,Af.snoc h d⟩
 | [],[],_::_,k=>k.elim
 | [],_::_,_,k=>k.elim
 | _::_,[],_,k=>k.elim
 | _::_,_::_,[],k=>k.elim
theorem Af.get:∀ {xs:List α}{bs:List Nat}{a:List Ha}{i:Nat}{x:α},Af R xs bs a->xs[i]?=some x->∃ b r c f,bs[i]?=some b/\a=c++r::f/\R x b r/\c.length=i/\∀ d r',R d b r'->Af R (xs.set i d) bs (c++r'::f)
 | x::xs,b::bs,r::a,0,y,⟨g,h⟩,e=>by
  cases e;exact ⟨b,r,[],a,rfl,rfl,g,rfl,λd r' j=>⟨j,h⟩⟩
 | x::xs,b::bs,r::a,i+1,y,⟨g,h⟩,e=>by
  obtain ⟨Qc,r',c,f,g1,rfl,g3,g5,l⟩:=Af.get h (by simpa using e);exact ⟨Qc,r',r::c,f,by simpa using g1,rfl,g3,by simp [g5],λd q j=>⟨g,l d q j⟩⟩
 | [],_,_,_,_,_,e=>by simp at e
 | _::_,[],_,_,_,k,_=>k.elim
 | _::_,_::_,[],_,_,k,_=>k.elim
end
variable (E:Ud) (μ:M) (G:ae)
def uq (c:ki) (b:Nat) (r:Ha):Prop:=∃ up,r=.ea b 183 [S c.name,ca c.v,.pointer up]/\Dk G up c.up
def gz (v:Value):Option Nat->Prop
 | none=>v=.pointer none
 | some u=>∃ b,G.B[u]?=some b/\v=pb b
def qv (v:Value):Option cf->Prop
 | none=>v=.nilFunc
 | some k=>∃ K cs,v=ch K cs/\Ze E μ G k K cs
def mu (v:Value):Option je->Prop
 | none=>v=.nilFunc
 | some k=>∃ K cs,v=ch K cs/\ve E μ G k K cs
def iv (c:Qg) (b:Nat) (r:Ha):Prop:=∃ a ap up d on,r=.ea b 117 [a,.pointer ap,.bool c.begun,.bool c.going,.bool c.ended,up,d,on]/\Ie μ a c.Lm/\Dk G ap c.args/\gz G up c.up/\qv E μ G d c.back/\qv E μ G on c.uk
def au (c:ed) (b:Nat) (r:Ha):Prop:=∃ a k,r=.ea b 72 [ca c.cap,.slice a c.words.length k]/\ya μ a k c.words
structure ke where
 md:Nat
 Tb:Nat
 nb:Nat
 ej:List (Ge×om)
 hc:Value
 rb:Value
 Ib:Value
 xb:Nat
 se:List Value
 nh:List Value
 Tc:List Ha
 Ld:List Ha
 Ya:List Ha
def ke.res (X:ke) (G:ae) (z:Sc) (Ye:List Ha):List Ha :=
 .ea G.Ka 66 [.map (some X.md),.map (some X.Tb),.map (some X.nb),ca z.nodes]::
 .ea G.Fa 81 [pb G.Ka,X.hc,X.rb,pb X.xb,ca z.t.state,ca z.t.box,ca z.t.qe,X.Ib]::
 .row X.rb 79 1 ((G.B.drop 1).map vc.mk).length X.se::.row X.Ib 2 1 z.t.out.length X.nh::(X.Tc++(X.Ld++(X.Ya++Ye)))
structure Bg (z:Sc) (X:ke):Prop where
 zd:0<=z.nodes
 od:z.nodes<=20000
 md:Vf μ X.md E.defs
 Tb:Vf μ X.Tb X.ej
 nb:Vf μ X.nb E.order
 zh:∀ (n:Ge) (i b:Nat),Oa E.order n=some (i:Int)->G.bb[i]?=some b->Oa X.ej n=some ⟨some b⟩
 now:G.B[z.t.now]?=some X.xb
 Vh:mu E μ G X.hc z.t.qm
 ic:qa μ X.se ((G.B.drop 1).map vc.mk)
 out:qa μ X.nh z.t.out
 Tc:Af (uq G) z.t.fe G.A X.Tc
 Ld:Af (iv E μ G) z.t.Db G.B X.Ld
 Ya:Af (au μ) z.boxes G.bb X.Ya
 Ye:z.t.Db.length<=31
variable {E μ G}
section
variable {J:M}{sg:ae}
theorem uq.up {c:ki}{b:Nat}{r:Ha}(h:uq G c b r) (l:G.le sg):uq sg c b r:=by
 obtain ⟨up,a,d⟩:=h;exact ⟨up,a,d.up l⟩
theorem gz.up {v:Value}{u:Option Nat}(h:gz G v u) (l:G.le sg):gz sg v u:=by
 cases u with
 | none=>exact h
 | some u=>obtain ⟨b,a,c⟩:=h; exact ⟨b,l.B _ _ a,c⟩
theorem qv.up {v:Value}{k:Option cf}(h:qv E μ G v k) (m:ha μ J) (l:G.le sg):qv E J sg v k:=by
 cases k with
 | none=>exact h
 | some u=>obtain ⟨K,cs,a,b⟩:=h; exact ⟨K,cs,a,Ze.up m l b⟩
theorem mu.up {v:Value}{k:Option je}(h:mu E μ G v k) (m:ha μ J) (l:G.le sg):mu E J sg v k:=by
 cases k with
 | none=>exact h
 | some u=>obtain ⟨K,cs,a,b⟩:=h; exact ⟨K,cs,a,ve.up m l b⟩
theorem iv.up {c:Qg}{b:Nat}{r:Ha}(h:iv E μ G c b r) (m:ha μ J) (l:G.le sg):iv E J sg c b r:=by
 obtain ⟨a,ap,up,d,on,e,f,g,i,j,k⟩:=h;exact ⟨a,ap,up,d,on,e,f.up m,g.up l,i.up l,j.up m l,k.up m l⟩
theorem au.up {c:ed}{b:Nat}{r:Ha}(h:au μ c b r) (m:ha μ J):au J c b r:=by
 obtain ⟨a,k,d,e⟩:=h;exact ⟨a,k,d,e.up m⟩
theorem Bg.up {z:Sc}{X:ke}(h:Bg E μ G z X) (m:ha μ J):Bg E J G z X :=
 ⟨h.zd,h.od,h.md.up m,h.Tb.up m,h.nb.up m,h.zh,h.now,h.Vh.up m .r,h.ic.up m,h.out.up m,h.Tc,h.Ld.imp λ_ _ _ k=>k.up m .r,h.Ya.imp λ_ _ _ k=>k.up m,h.Ye⟩
end
def rW (E:Ud) (μ:M) (G:ae):ih->Nat->List Value->Prop
 | .expr x s k,f,vs=>f=55/\∃ h a K cs,vs=[pb G.Fa,h,.pointer a,ch K cs]/\Ie μ h x/\Dk G a s/\Ze E μ G k K cs
 | .all l s Hd k,f,vs=>f=97/\∃ c d a pc j K cs,vs=[pb G.Fa,.slice c l.length d,.pointer a,.slice pc Hd.length j,ch K cs]/\ya μ c d l/\Dk G a s/\ya μ pc j Hd/\Cl E μ G k K cs
 | .stats l s e k,f,vs=>f=31/\∃ c d a i K cs,vs=[pb G.Fa,.slice c l.length d,.pointer a,pb i,ch K cs]/\ya μ c d l/\Dk G a s/\yh E μ G e i/\ve E μ G k K cs
 | .lf x s e k,f,vs=>f=54/\∃ h a i K cs,vs=[pb G.Fa,h,.pointer a,pb i,ch K cs]/\Ie μ h x/\Dk G a s/\yh E μ G e i/\ve E μ G k K cs
 | .df k v,f,vs=>∃ cs,vs=[ca v]++cs/\Ze E μ G k f cs
 | .Hd k l,f,vs=>∃ c d cs,vs=[.slice c l.length d]++cs/\ya μ c d l/\Cl E μ G k f cs
 | .vd k,f,vs=>∃ cs,vs=[]++cs/\ve E μ G k f cs
 | .recv n k,f,vs=>f=96/\∃ K cs,vs=[pb G.Fa,S n,ch K cs]/\Ze E μ G k K cs
 | .send n v k,f,vs=>f=58/\∃ K cs,vs=[pb G.Fa,S n,ca v,ch K cs]/\ve E μ G k K cs
 | .resume g v k,f,vs=>f=102/\∃ b K cs,G.B[g]?=some b/\vs=[pb G.Fa,pb b,ca v,ch K cs]/\Ze E μ G k K cs
def wm:Unit->Value:=λ_=>.iface 60 (.agg ⟨[]⟩)
def Fq {α:Type}:Option α->Except Unit α
 | none=>.error ()
 | some x=>.ok x
def Gj (E:Ud) (μb:M) (Gb:ae) (da:World) (rsF:List Ha) (x:Option je×Sc) (v:Value) (w:World):Prop:=∃ μ G X,ha μb μ/\Gb.le G/\Bg E μ G x.2 X/\mu E μ G v x.1/\fa μ da w (X.res G x.2 rsF)
def gl (μb:M) (da:World) (rsF:List Ha) (w:World):Prop:=∃ μ,ha μb μ/\fa μ da w rsF
end Go.Y
set_option maxRecDepth 100000
set_option maxHeartbeats 20000000
namespace Go.Proofs.YtafjdiifkckmbaaGreatDoor
open Go.Mc Go.Kf Go.Y
theorem kI {α:Type}{R:α->Value->World->Prop}{E:World->Prop}{I:M}{da w:World}{b:List Ha}{md Tb nb:Value}{n:Int}{Ka:Nat}(c:i64 (n+1)=some (n+1)) (d:(20000:Int)<n+1) (k:∀ w',fa I da w' (.ea Ka 66 [md,Tb,nb,ca (n+1)]::b)->E w') (a:fa I da w (.ea Ka 66 [md,Tb,nb,ca n]::b)) :
  qc Tryz.prog 53 [pb Ka] w wm (.error ():Except Unit α) R E:=by
 refine jf Tryz.func53 rfl (frm:=[_,_,_,_,_,_,_,_,_,_,_,_,_,_,_,_]) rfl<|aa ?_;refine wl<|yo (ba d5) db c (wa Vd)<|aa<|wl<|zc Yb (ba d8) (ba d6) rfl a d0 nc rfl za Ia λe a=>?_;refine aa ?_;refine Me (ba<|pa d3) d ?_;refine aa ?_;refine wl<|Le JG kW cb.z (wa<|tb Xc)<|wl<|dR (by kernel_rfl) (ba<|pa d4) (wa<|tb qd) ?_;exact wl<|cR (ba<|pa d5)<|WG (P:=Tryz.prog) (fn:=Tryz.f53)<|k _ a
theorem CK {I:M}{da w:World}{G:ae}{Ic:List ki}{Tc k:List Ha}{bc:List UInt8}{fu:Nat}{e:Option Addr}{s:Option Nat}{i b:Nat}(p:Af (uq G) Ic G.A Tc) (q:∀ r ∈ Tc,r ∈ k) (g:Dk G e s) (d:Cm Ic bc fu s=some i) (u:G.A[i]?=some b) (x:fa I da w k) :
  kb Tryz.prog 57 [.pointer e,S bc] w (λv w'=>v=pb b/\w'=w):=by
 refine enter Tryz.func57 rfl (frm:=[_,_,_,_,_,_,_,_,_,_,_,_,_,_,_,_]) rfl<|aa<|la<|Qa ?_;refine wo (rg 5 10) (by decide) (λn m h=>∃ (e:Option Addr) (s:Option Nat),m=(.i (.pointer e)::(Eg (Zc 5 [])))/\Cm Ic bc n s=some i/\Dk G e s/\h=w) (by rintro _ _ _ ⟨_,_,rfl,_⟩;rfl) fu _ pc ⟨e,s,rfl,d,g,rfl⟩ ?_;clear d g;rintro n _ t h ⟨e,s,rfl,d,g,rfl⟩;cases n with
 | zero=>cases d
 | succ n =>
 cases s with
 | none=>cases d
 | some j =>
 rw [Cm] at d;obtain ⟨c,y,d⟩:=td d;obtain ⟨a,l,rfl⟩:=g;obtain ⟨f,r,C,D,g1,g2,⟨up,rfl,E⟩,-,-⟩:=p.get y;obtain rfl:f=a:=Option.some.inj (g1.symm.trans l);have z:Ak h f 183 [S c.name,ca c.v,.pointer up]:=x.all (.ea f 183 [S c.name,ca c.v,.pointer up]) (q _ (by rw [g2];simp));have o:lj h f 0 [S c.name,ca c.v,.pointer up]:=Ak.cells z;refine aa<|la ?_;refine aa ?_;refine wl<|hp Dg (ba d7) (o.one d0) (wa Qd) ?_;refine aa ?_;refine Rb (ba<|pa d0) (λB=>?_)<|λheq=>?_
 ·rw [if_neg B] at d;refine aa<|Qa ?_;refine aa ?_;exact wl<|hp hG (ba<|pa d3) (o.one d2) (wa<|tb Xc) uc
 ·rw [if_pos (Decidable.not_not.1 heq)] at d;obtain rfl:=jo d;obtain rfl:f=b:=Option.some.inj (l.symm.trans u);refine aa ?_;exact Od rfl d4 ⟨rfl,rfl⟩
def rC (G:ae) (Ic:List ki) (a:List ki) (b:Option Nat) (gs:List Ha) (c:Option Addr):Prop:=∃ bs new,a=Ic++new/\Af (uq { G with A:=G.A++bs }) new bs gs/\Dk { G with A:=G.A++bs } c b
theorem ae.le.app {G:ae}{bs:List Nat}:G.le { G with A:=G.A++bs }:=⟨rfl,rfl,rfl,λi b h=>by
 show (G.A++bs)[i]?=some b;rw [List.getElem?_append_left (List.getElem?_eq_some_iff.1 h).1];exact h,λ_ _ h=>h⟩
theorem XR {I:M}{da w:World}{G:ae}{Ic k:List ki}{p:Option Nat}{d:va}{l:List Int}{Dd:Option Addr}{Ed:Nat}{j:List Ha}{dn:Value}(E:G.A.length=Ic.length) (c:Kj d.Params l Ic none=some (k,p)) (F:ya I Dd Ed l) (H:Ie I dn d) (b:fa I da w j) :
  kb Tryz.prog 99 [dn,.slice Dd l.length Ed] w (λv w'=>∃ (gs:List Ha) (e:Option Addr),v=.pointer e/\rC G Ic k p gs e/\fa I da w' (gs++j)):=by
 obtain ⟨U,V,W,rfl,X,K⟩:=H;obtain ⟨oa,eb,a2,c2,rfl,B,Y⟩:=K;have Z:=ya.len B;refine enter Tryz.func99 rfl (frm:=[_,_,_,_,_,_,_,_,_,_,_,_,_,_,_,_,_,_,_,_,_,_,_,_,_,_,_,_,_]) rfl<|aa ?_;refine la<|aa<|Qa<|wo (rg 6 2++rg 14 14) (by decide) (λn m r=>∃ (i:Nat) (e:Option Addr) (s:Option Nat) (gs:List Ha) (bs:List Nat) (new:List ki),m=(wg (.i (.pointer e)::(Cg 6 (wg (.i (ca i)::(Zc 14 (ni 24 [])))))))/\d.Params.length<n+i/\i<=d.Params.length/\Kj (d.Params.drop i) (l.drop i) (Ic++new) s=some (k,p)/\Af (uq { G with A:=G.A++bs }) new bs gs/\Dk { G with A:=G.A++bs } e s/\fa I da r (gs++j)) (by rintro _ _ _ ⟨_,_,_,_,_,_,rfl,_⟩;rfl) (d.Params.length+1) _ (Jo<|Gh<|fC<|Jo<|Gh<|ln<|Bq Uj) ⟨0,none,none,[],[],[],rfl,by omega,by omega,by simpa using c,trivial,rfl,b⟩ ?_;clear b c;rintro u _ t r ⟨i,e,s,gs,bs,new,rfl,bb,Gb,c,x,C,b⟩;cases u with
 | zero=>omega
 | succ u =>
 refine aa<|la<|Rb (ba<|pa d4) (λgc=>?_)<|λlc=>?_
 ·have y:i<d.Params.length:=by omega
  rw [List.drop_eq_getElem_cons y] at c;cases g:l.drop i with
  | nil=>rw [g] at c; cases c
  | cons v vs =>
  have rc:i<l.length:=by
   rcases Nat.lt_or_ge i l.length with q | q
   ·exact q
   ·rw [List.drop_of_length_le q] at g;cases g
  rw [g,Kj] at c;have Pa:at_ l (i:Int)=some v:=by
   have:=congrArg (λq=>q[0]?) g;simp only [List.getElem?_drop,Nat.add_zero] at this;simpa [at_] using this
  have L:at_ d.Params (i:Int)=some d.Params[i]:=by simp [at_,List.getElem?_eq_getElem y]
  have N:l.drop (i+1)=vs:=by
   have:=congrArg (λq=>q.drop 1) g;simpa [List.drop_drop] using this
  refine aa<|la<|Qa ?_;refine aa ?_;obtain ⟨ka,hd,fd,O,f5,m6⟩:=Ub.elem B L;obtain rfl:=m6;refine wl<|np Tryz.underlying42 Zl (ba<|pa d1) (ba<|pa d3) O (wa<|tb Vd) ?_;refine wl<|fp Zl (ba<|pa d6) (f5 _ b.a) rfl (wa<|tb Wd)<|wl<|oc Zl b λie r id b=>(pu (wa Wd)<|aa ?_);refine wl<|Kb Zl (ba d7) (ba<|pa d7) rfl rfl b d0 rfl za Ia λmd b=>(aa ?_);refine zf b λnd b=>?_;refine mg (i:=0) [0,1,7,8,9] (Ek λ_ _ _ h=>h.2) rfl rfl rfl (bm AR (ba d7) rfl) (tb Qd)<|ck (i:=1) [1,7,8,9] (Ek λ_ _ _ h=>h.2) rfl rfl rfl (Md Dg (ba<|pa d8)<|(b.ea d0).cell d0) (tb Td)<|mg (i:=2) [2,4,5,7,8,9] (Ek λ_ _ _ h=>h.2) rfl rfl rfl (Vl<|ba d1) (wc za)<|mg (i:=3) [3,4,5,7,8,9] (Ek λ_ _ _ h=>h.2) rfl rfl rfl (Vl<|ba d6) (wc ob) ?_;obtain ⟨Kc,Th,rd,P,f13,m14⟩:=Ub.elem F Pa;obtain rfl:=m14;refine mg (i:=4) [4,5,7,8,9] (Ek λ_ _ _ h=>h.2) rfl rfl rfl (Nb Tryz.underlying34 eg (ba<|Ca d0) (ba<|Ca d1) P) (wc Eb)<|ck (i:=5) [5,7,8,9] (Ek λ_ _ _ h=>h.2) rfl rfl rfl (Md eg (ba<|Ca d2)<|(f13 _ b.a).one d0) (wc nc)<|mg (i:=6) [6,7,8,9] (Ek λ_ _ _ h=>h.2) rfl rfl rfl (Vl<|ba d5) (wc Xc)<|mg (i:=7) [7,8,9] (Ek λ_ _ _ h=>h.2) rfl rfl rfl (gp YK cL<|cb.o rfl (ba<|pa d9) rfl rfl za<|cb.o rfl (ba<|Ca d3) rfl rfl ob<|cb.o rfl (ba<|Ca d4) rfl rfl Eb cb.z) (wc qd)<|Za rfl<|On (ba<|Ca d5) rfl b λf wd Fd b=>(pu (wa<|wc Vd)<|⟨ud.z,?_⟩);refine mg (i:=9) [9] (Ek λ_ _ _ h=>h.2) rfl rfl rfl (gE<|ba<|Ca d6) qd<|qy ?_;replace b:=b.ia (Hc.s Hc.z);replace b:=b.drop ja.z;have D:(G.A++bs).length=Ic.length+new.length:=by rw [List.length_append,E,x.len.1]
  refine (λh=>bn<|gg h) (Ph<|wl<|yo (ba<|pa d3) db (show i64 ((i:Int)+1)=some ((i:Int)+1) from if_pos (by omega)) (wa<|wc Wd) ?_);refine wl<|Ai (ba<|Ca d7) (wa<|tb nc)<|ah<|dj ?_;have jc:ae.le { G with A:=G.A++bs } { G with A:=G.A++(bs++[f]) }:=by
   rw [show G.A++(bs++[f])=(G.A++bs)++[f] by simp];exact ae.le.app (G:={ G with A:=G.A++bs })
  have Q:(((i+1:Nat)):Int)=(i:Int)+1:=by omega
  have R:(G.A++(bs++[f]))[(Ic++new).length]?=some f:=by
   rw [<- List.append_assoc,List.getElem?_append_right (by rw [D,List.length_append];omega),D,List.length_append,Nat.sub_self];rfl
  have T:=b.perm (rs':=(gs++[.ea f 183 [S d.Params[i].Name,ca v,.pointer e]])++j) (by
   rw [List.append_assoc];exact List.perm_middle.symm)
  exact ⟨u,_,_,rfl,(Jo<|Gh<|fC<|Jo<|Gh<|ln<|Bq Uj),⟨i+1,some ⟨f,0,none⟩,some (Ic++new).length,gs++[.ea f 183 [S d.Params[i].Name,ca v,.pointer e]],bs++[f],new++[⟨d.Params[i].Name,v,s⟩],by rw [Q],by omega,by omega,by rw [N,<- List.append_assoc];exact c,(x.imp λ_ _ _ q=>q.up jc).snoc ⟨e,rfl,C.up jc⟩,⟨f,R,rfl⟩,T⟩,Nat.lt_succ_self _⟩
 ·have y:i=d.Params.length:=by omega
  rw [List.drop_of_length_le (by omega),Kj] at c;cases c;refine aa ?_;exact Od rfl d4 ⟨gs,e,rfl,⟨bs,new,rfl,x,C⟩,b⟩
end Go.Proofs.YtafjdiifkckmbaaGreatDoor
set_option maxHeartbeats 4000000
namespace Go.Proofs.YtafjdiifkckmbaaGreatDoor
open Go.Mc Go.Kf Go.Y
section
theorem Gy {μ:M}{da w:World}{l rs:List Ha}(a:fa μ da w (l++rs)):fa μ da w rs:=by
 have c:rs.Sublist (l++rs):=List.sublist_append_right _ _;exact ⟨a.keeps,λr e=>a.all r<|c.subset e,(c.filterMap _).nodup a.ti,λb f=>a.new b<|(c.filterMap _).subset f,(a.bj.mono λk _ d=>⟨d.1,λg=>d.2<|(c.filterMap Ha.block).subset g⟩)⟩
section
variable {E:Ud}{μ:M}{G:ae}{z:Sc}{X:ke}
theorem _root_.Go.Y.Ze.fn {k:cf}{K:Nat}{cs:List Value}(h:Ze E μ G k K cs):fb Tryz.prog K:=by
 cases k with
 | all l s Hd k=>rw [Ze] at h; obtain ⟨rfl,-⟩:=h; infer_instance
 | stat l s e k=>rw [Ze] at h; obtain ⟨rfl,-⟩:=h; infer_instance
 | lf x s e k=>rw [Ze] at h; obtain ⟨rfl,-⟩:=h; infer_instance
theorem _root_.Go.Y.Cl.fn {k:fl}{K:Nat}{cs:List Value}(h:Cl E μ G k K cs):fb Tryz.prog K:=by
 cases k with
 | ex x k=>rw [Cl] at h; obtain ⟨rfl,-⟩:=h; infer_instance
theorem _root_.Go.Y.ve.fn {k:je}{K:Nat}{cs:List Value}(h:ve E μ G k K cs):fb Tryz.prog K:=by
 cases k<;>(rw [ve] at h;obtain ⟨rfl,-⟩:=h;infer_instance)
theorem _root_.Go.Y.Bg.i64 (h:Bg E μ G z X):Go.Kf.i64 (z.nodes+1)=some (z.nodes+1):=if_pos (by have:=h.zd;have:=h.od;omega)
theorem _root_.Go.Y.Bg.UL (h:Bg E μ G z X) (a:¬ (20000:Int)<z.nodes+1):Bg E μ G { z with nodes:=z.nodes+1 } X :=
 ⟨by have:=h.zd;show 0<=z.nodes+1;omega,by show z.nodes+1<=20000;omega,h.md,h.Tb,h.nb,h.zh,h.now,h.Vh,h.ic,h.out,h.Tc,h.Ld,h.Ya,h.Ye⟩
end
section
variable (E:Ud) (μb:M) (Gb:ae) (da:World) (rsF:List Ha)
def Gk (n:Nat) (c:ih):Prop:=∀ (z:Sc) (r:Option (Option je×Sc)),lp E n c z=some r->∀ {μ:M}{w:World}{G:ae}{X:ke}{f:Nat}{vs:List Value},ha μb μ->Gb.le G->Bg E μ G z X->rW E μ G c f vs->fa μ da w (X.res G z rsF)->qc Tryz.prog f vs w wm (Fq r) (Gj E μb Gb da rsF) (gl μb da rsF)
def gj (n:Nat):Prop:=∀ c,Gk E μb Gb da rsF n c
end
variable {E:Ud}{μb:M}{Gb:ae}{da:World}{rsF:List Ha}{n:Nat}
theorem gl.of {μ:M}{w:World}{l:List Ha}(a:ha μb μ) (b:fa μ da w (l++rsF)):gl μb da rsF w:=⟨μ,a,Gy b⟩
theorem gl.res {μ:M}{w:World}{G:ae}{X:ke}{z:Sc}(a:ha μb μ) (b:fa μ da w (X.res G z rsF)):gl μb da rsF w:=by
 refine gl.of (l:=X.res G z []) a ?_;simpa [ke.res] using b
theorem Yl (a:gj E μb Gb da rsF n){k:cf}{v:Int}{z:Sc}{r:Option (Option je×Sc)}(h:lp E n (.df k v) z=some r){μ:M}{w:World}{G:ae}{X:ke}{K:Nat}{cs:List Value}(b:ha μb μ) (jc:Gb.le G) (c:Bg E μ G z X) (d:Ze E μ G k K cs) (e:fa μ da w (X.res G z rsF)):qc Tryz.prog K ([ca v]++cs) w wm (Fq r) (Gj E μb Gb da rsF) (gl μb da rsF):=
 a _ _ _ h b jc c ⟨cs,rfl,d⟩ e
theorem Gj.mk {x:Option je×Sc}{v:Value}{w:World}{μ:M}{G:ae}{X:ke}(a:ha μb μ) (jc:Gb.le G) (b:Bg E μ G x.2 X) (Pa:mu E μ G v x.1) (c:fa μ da w (X.res G x.2 rsF)):Gj E μb Gb da rsF x v w:=by
 unfold Gj;exact ⟨μ,G,X,a,jc,b,Pa,c⟩
def js (E:Ud) (n:Nat):gk->Option (Option (Option je×Sc))
 | .call c z=>lp E n c z
 | .ret k z=>some (some (k,z))
 | .Jr=>some none
theorem Uk {c:ih}{z:Sc}{r:Option (Option je×Sc)}(h:lp E (n+1) c z=some r):∃ o,de E c z=some o/\js E n o=some r:=by
 rw [lp] at h;refine ra h λo a h=>?_;exact ⟨o,a,by cases o<;>exact h⟩
theorem jw {q:Int}{z:Sc}{μ:M}{w:World}{G:ae}{X:ke}(b:ha μb μ) (jc:Gb.le G) (c:Bg E μ G z X) (d:fa μ da w (X.res G z rsF)):qc Tryz.prog 101 [pb G.Fa,ca q] w wm (Fq (some ((none:Option je),z.task λt=>{ t with state:=5,qe:=q }))) (Gj E μb Gb da rsF) (gl μb da rsF):=by
 have e:=d.perm (rs':=.ea G.Fa 81 [pb G.Ka,X.hc,X.rb,pb X.xb,ca z.t.state,ca z.t.box,ca z.t.qe,X.Ib]::.ea G.Ka 66 [.map (some X.md),.map (some X.Tb),.map (some X.nb),ca z.nodes]::(.row X.rb 79 1 ((G.B.drop 1).map vc.mk).length X.se::.row X.Ib 2 1 z.t.out.length X.nh::(X.Tc++(X.Ld++(X.Ya++rsF))))) (by simp only [ke.res];classical exact List.perm_iff_count.2 (λx=>(by simp only [List.count_append,List.count_cons,List.count_nil];ac_rfl)));refine ET ?_ e;intro J w' le f;have a:=c.up le;refine ⟨_,rfl,Gj.mk (G:=G) (X:=X) (b.t le) jc ⟨a.zd,a.od,a.md,a.Tb,a.nb,a.zh,a.now,a.Vh,a.ic,a.out,a.Tc,a.Ld,a.Ya,a.Ye⟩ rfl<|f.perm ?_⟩;simp only [ke.res,Sc.task]
 classical exact List.perm_iff_count.2 (λx=>(by simp only [List.count_append,List.count_cons,List.count_nil];ac_rfl))
theorem MJ {st:Int}{bc:Ge}{again:je}{b:Nat}{c:List Value}{z:Sc}{μ:M}{w:World}{G:ae}{X:ke}(e:ha μb μ) (jc:Gb.le G) (d:Bg E μ G z X) (f:ve E μ G again b c) (g:fa μ da w (X.res G z rsF)):qc Tryz.prog 106 [pb G.Fa,ca st,S bc,ch b c] w wm (Fq (some ((none:Option je),z.task λt=>{ t with state:=st,box:=(Oa E.order bc).getD 0,qm:=some again }))) (Gj E μb Gb da rsF) (gl μb da rsF):=by
 refine FT d.nb ?_ g;intro J w' le h;have a:=d.up le;refine ⟨_,rfl,Gj.mk (G:=G) (X:={ X with hc:=ch b c }) (e.t le) jc ⟨a.zd,a.od,a.md,a.Tb,a.nb,a.zh,a.now,⟨b,c,rfl,ve.up le .r f⟩,a.ic,a.out,a.Tc,a.Ld,a.Ya,a.Ye⟩ rfl h⟩
theorem YR (C:gj E μb Gb da rsF n) (x:Na) (s:Option Nat) (k:cf):Gk E μb Gb da rsF (n+1) (.expr x s k):=by
 rintro z r h μ w G X f vs p jc e ⟨rfl,O,P,K,cs,rfl,l,M,j⟩ u;rw [lp] at h;refine ra h λo a h=>?_;rw [de,tt] at a;by_cases g:(20000:Int)<z.nodes+1
 ·rw [if_pos g] at a;cases a;cases h;refine HO (λy q=>by cases q) l ?_ u;intro J w' le d;exact kI e.i64 g (λQ R=>gl.res (X:=X) (G:=G) (z:={ z with nodes:=z.nodes+1 }) (p.t le) R) d
 ·rw [if_neg g] at a;have D:=e.UL g;by_cases A:x.Kind=1
  ·rw [if_pos (.inl A)] at a;cases a;exact QP e.i64 g A j.fn l (λJ w' le d=>Yl C h (X:=X) (p.t le) jc (D.up le) (Ze.up le .r j) d) u
  by_cases F:x.Kind=2
  ·rw [if_pos (.inr F)] at a;cases a;exact JO e.i64 g A F j.fn l (λJ w' le d=>Yl C h (X:=X) (p.t le) jc (D.up le) (Ze.up le .r j) d) u
  rw [if_neg (by rintro (q | q)<;>contradiction)] at a;by_cases H:x.Kind=3
  ·rw [if_pos H] at a;obtain ⟨i,T,a⟩:=td a;obtain ⟨c,U,a⟩:=td a;cases a;obtain ⟨b,q,V,W,g1,g2,⟨up,rfl,rd⟩,-,-⟩:=e.Tc.get U;have Y:=u.perm (rs':=.ea G.Ka 66 [.map (some X.md),.map (some X.Tb),.map (some X.nb),ca z.nodes]::.ea G.Fa 81 [pb G.Ka,X.hc,X.rb,pb X.xb,ca z.t.state,ca z.t.box,ca z.t.qe,X.Ib]::.ea b 183 [S c.name,ca c.v,.pointer up]::(.row X.rb 79 1 ((G.B.drop 1).map vc.mk).length X.se::.row X.Ib 2 1 z.t.out.length X.nh::(V++(W++(X.Ld++(X.Ya++rsF)))))) (by simp only [ke.res,g2,List.append_assoc,List.cons_append];classical exact List.perm_iff_count.2 (λx=>(by simp only [List.count_append,List.count_cons,List.count_nil];ac_rfl)));refine RP e.i64 g A F H ?_ j.fn l ?_ Y
   ·intro J w' wd N le d;refine (CK e.Tc ?_ M T g1 d).mono ?_
    ·intro q m;rw [g2] at m;simp only [List.mem_append,List.mem_cons] at m ⊢;rcases m with m | rfl | m
     ·exact .inr<|.inr<|.inr<|N _ (by simp [m])
     ·exact .inr<|.inr<|.inl rfl
     ·exact .inr<|.inr<|.inr<|N _ (by simp [m])
    ·rintro v Q ⟨rfl,rfl⟩;exact ⟨rfl,d⟩
   ·intro J w' le d;refine Yl C h (X:=X) (p.t le) jc (D.up le) (Ze.up le .r j)<|d.perm ?_;simp only [ke.res,g2,List.append_assoc,List.cons_append]
    classical exact List.perm_iff_count.2 (λx=>(by simp only [List.count_append,List.count_cons,List.count_nil];ac_rfl))
  rw [if_neg H] at a;by_cases L:x.Kind=20
  ·rw [if_pos L] at a;cases a;exact KO e.i64 g A F H L l (λJ w' le d=>C _ _ _ h (X:=X) (p.t le) jc (D.up le) ⟨rfl,K,cs,rfl,Ze.up le .r j⟩ d) u
  ·rw [if_neg L] at a;cases a;refine SP e.i64 g A F H L l ?_ u;intro J w' Z bb gc lc rc le fd id oa nd d;refine C _ _ _ h (X:=X) (p.t le) jc (D.up le) ⟨rfl,lc,rc,P,none,0,_,_,rfl,fd,M,ya.nil,?_⟩ d;rw [Cl];exact ⟨rfl,bb,gc,Z,O,K,cs,rfl,l.up le,oa,nd,Ze.up le .r j,id⟩
theorem VT (e:gj E μb Gb da rsF n) (l:List Na) (s:Option Nat) (g:List Int) (k:fl):Gk E μb Gb da rsF (n+1) (.all l s g k):=by
 rintro z r h μ w G X f vs i jc j ⟨rfl,v,y,m,pc,p,K,cs,rfl,ma,q,b,c⟩ u;obtain ⟨o,a,h⟩:=Uk h;rw [de] at a;by_cases he:l.length=g.length
 ·rw [if_pos he] at a;cases a;refine JR (by exact_mod_cast he) c.fn ma b ?_ u;intro J w' le d;exact e _ _ _ h (X:=X) (i.t le) jc (j.up le) ⟨pc,p,cs,rfl,b.up le,Cl.up le .r c⟩ d
 ·rw [if_neg he] at a;obtain ⟨x,A,a⟩:=td a;cases a;refine OP (by exact_mod_cast he) (show at_ l (g.length:Int)=some x by simpa [at_] using A) ma b ?_ u;intro J w' B C D F H L le M N oa O P Q d;refine e _ _ _ h (X:=X) (i.t le) jc (j.up le) ⟨rfl,L,m,_,_,rfl,M,q,?_⟩ d;rw [Ze];exact ⟨rfl,B,C,D,F,H,v,y,m,pc,p,K,cs,rfl,N,ma.up le,oa,q,O,b.up le,P,Q,Cl.up le .r c⟩
theorem WT (g:gj E μb Gb da rsF n) (x:Ra) (s:Option Nat) (e:kh) (k:je):Gk E μb Gb da rsF (n+1) (.lf x s e k):=by
 rintro z r h μ w G X f vs i jc j ⟨rfl,l,a,m,K,cs,rfl,b,c,p,q⟩ u;obtain ⟨o,d,h⟩:=Uk h;rw [de] at d;cases d;refine VR b ?_ u;intro J w' v y A B C D le F H oa L M N O;refine g _ _ _ h (X:=X) (i.t le) jc (j.up le) ⟨rfl,D,a,_,_,rfl,F,c,?_⟩ O;rw [Ze];exact ⟨rfl,C,v,y,A,B,m,l,a,K,cs,rfl,N,ve.up le .r q,H,b.up le,oa,c,L,M,yh.up le .r p⟩
theorem ZR (d:gj E μb Gb da rsF n) (l:List Na) (s:Option Nat) (g:List Int) (k:fl) (v:Int):Gk E μb Gb da rsF (n+1) (.df (.all l s g k) v):=by
 rintro z r h μ w G X f vs e jc i ⟨cs,rfl,b⟩ j;rw [Ze] at b;obtain ⟨rfl,eb,c2,c3,c4,c5,m,p,q,pc,P,Gd,u,rfl,x,c,y,A,B,C,D,F,H⟩:=b;obtain ⟨o,a,h⟩:=Uk h;rw [de] at a;obtain ⟨Q,K,a⟩:=td a;cases a;exact sT K x c y B C D F (λJ w' L M le N O=>d _ _ _ h (X:=X) (e.t le) jc (i.up le) ⟨rfl,m,p,q,L,M,Gd,u,rfl,c.up le,A,N,Cl.up le .r H⟩ O) j
theorem aS (H:gj E μb Gb da rsF n) (x:Ra) (s:Option Nat) (e:kh) (k:je) (v:Int):Gk E μb Gb da rsF (n+1) (.df (.lf x s e k) v):=by
 rintro z r h μ w G X f vs m jc p ⟨cs,rfl,q⟩ u;rw [Ze] at q;obtain ⟨rfl,K,Ae,L,M,ce,y,N,A,Gd,B,rfl,b,C,c,d,g,D,i,j,F⟩:=q;obtain ⟨o,a,h⟩:=Uk h;rw [de] at a;by_cases Pa:v=0
 ·rw [if_pos Pa] at a;cases a;cases h;exact PT Pa b c d g i j (λJ w' le l=>⟨_,rfl,Gj.mk (X:=X) (m.t le) jc (p.up le) ⟨Gd,B,rfl,ve.up le .r C⟩ l⟩) u
 ·rw [if_neg Pa] at a;cases a;refine HV Pa b c d g i j ?_ u;intro J w' O P le hB l;refine H _ _ _ h (X:=X) (m.t le) jc (p.up le) ⟨rfl,O,P,A,y,_,_,rfl,hB,D,yh.up le .r F,?_⟩ l;rw [ve];exact ⟨rfl,Ae,L,M,ce,K,y,N,A,Gd,B,rfl,c.up le,d.up le,g.up le,D,i.up le,j.up le,yh.up le .r F,b.up le,ve.up le .r C⟩
theorem bS (d:gj E μb Gb da rsF n) (k:cf):Gk E μb Gb da rsF (n+1) (.vd (.zero k)):=by
 rintro z r h μ w G X f vs e jc g ⟨cs,rfl,a⟩ i;rw [ve] at a;obtain ⟨rfl,m,Gd,p,rfl,j,b⟩:=a;obtain ⟨o,c,h⟩:=Uk h;rw [de] at c;cases c;exact EV b.fn j (λJ w' le l=>Yl d h (X:=X) (e.t le) jc (g.up le) (Ze.up le .r b) l) i
theorem XO (c:gj E μb Gb da rsF n) (l:List Ra) (s:Option Nat) (e:kh) (k:je):Gk E μb Gb da rsF (n+1) (.vd (.stats l s e k)):=by
 rintro z r h μ w G X f vs d jc g ⟨cs,rfl,a⟩ i;rw [ve] at a;obtain ⟨rfl,Ae,N,O,ce,P,j,Q,R,S,m,Gd,p,rfl,q,u,v,x,y,A,B,C,D,F⟩:=a;obtain ⟨o,b,h⟩:=Uk h;rw [de] at b;cases b;exact FV u q v x A B D (λJ w' H K le L M=>c _ _ _ h (X:=X) (d.t le) jc (g.up le) ⟨rfl,H,K,m,j,Gd,p,rfl,L,y,yh.up le .r C,ve.up le .r F⟩ M) i
theorem cS (d:gj E μb Gb da rsF n) (x:Ra) (s:Option Nat) (e:kh) (k:je):Gk E μb Gb da rsF (n+1) (.vd (.lf x s e k)):=by
 rintro z r h μ w G X f vs g jc i ⟨cs,rfl,a⟩ j;rw [ve] at a;obtain ⟨rfl,Ae,K,L,ce,M,l,m,p,Gd,q,rfl,u,b,v,y,A,B,C,D,F⟩:=a;obtain ⟨o,c,h⟩:=Uk h;rw [de] at c;cases c;exact IV u b v A B D (λJ w' le H=>d _ _ _ h (X:=X) (g.t le) jc (i.up le) ⟨rfl,m,p,l,Gd,q,rfl,b.up le,y,yh.up le .r C,ve.up le .r F⟩ H) j
theorem XT (l:gj E μb Gb da rsF n):Gk E μb Gb da rsF (n+1) (.vd .fin):=by
 rintro z r h μ w G X f vs d jc e ⟨cs,rfl,b⟩ g;rw [ve] at b;obtain ⟨rfl,Ae,rfl,i⟩:=b;obtain ⟨o,c,h⟩:=Uk h;rw [de] at c;cases c;cases h;have j:=g.perm (rs':=.ea G.Fa 81 [pb G.Ka,X.hc,X.rb,pb X.xb,ca z.t.state,ca z.t.box,ca z.t.qe,X.Ib]::.ea G.Ka 66 [.map (some X.md),.map (some X.Tb),.map (some X.nb),ca z.nodes]::(.row X.rb 79 1 ((G.B.drop 1).map vc.mk).length X.se::.row X.Ib 2 1 z.t.out.length X.nh::(X.Tc++(X.Ld++(X.Ya++rsF))))) (by simp only [ke.res];classical exact List.perm_iff_count.2 (λx=>(by simp only [List.count_append,List.count_cons,List.count_nil];ac_rfl)));refine JV i ?_ j;intro J w' le k;have a:=e.up le;refine ⟨_,rfl,Gj.mk (G:=G) (X:=X) (d.t le) jc ⟨a.zd,a.od,a.md,a.Tb,a.nb,a.zh,a.now,a.Vh,a.ic,a.out,a.Tc,a.Ld,a.Ya,a.Ye⟩ rfl<|k.perm ?_⟩;simp only [ke.res,Sc.task]
 classical exact List.perm_iff_count.2 (λx=>(by simp only [List.count_append,List.count_cons,List.count_nil];ac_rfl))
theorem YT (g:gj E μb Gb da rsF n) (d:va):Gk E μb Gb da rsF (n+1) (.vd (.cj d)):=by
 rintro z r h μ w G X f vs i jc j ⟨cs,rfl,a⟩ k;rw [ve] at a;obtain ⟨rfl,Ae,Ok,Qq,b,dn,rfl,l,m,p,q,s⟩:=a;obtain ⟨o,c,h⟩:=Uk h;rw [de] at c;cases c;refine KV l m p q ?_ k;intro J w' u v x le hB y A;have e:ve E J G .fin 29 [pb b]:=by rw [ve];exact ⟨rfl,b,rfl,s.up le⟩
 refine g _ _ _ h (X:=X) (i.t le) jc (j.up le) ⟨rfl,v,x,none,u,_,_,rfl,hB,rfl,?_,e⟩ A;rw [yh];exact ⟨_,_,y,e⟩
end
section
variable {E:Ud}{μb:M}{Gb:ae}{da:World}{rsF:List Ha}{n:Nat}
theorem Lg {α:Type}{l:List α}{i:Nat}{x:α}(h:at_ l (i:Int)=some x):l[i]?=some x:=by simpa [at_] using h
theorem sG {α:Type}{l:List α}{i:Int}{x:α}(h:at_ l i=some x):∃ j:Nat,i=(j:Int)/\l[j]?=some x:=by
 obtain ⟨b,c,a⟩:=Wu h;exact ⟨i.toNat,by omega,a⟩
theorem Af.put {α:Type}{R:α->Nat->Ha->Prop}{g:α}{b:Nat}{r r':Ha}{j:List Ha}(k:R g b r'):∀ {xs:List α}{bs:List Nat}{a:List Ha}{i:Nat},Af R xs bs (a++r::j)->a.length=i->bs[i]?=some b->Af R (xs.set i g) bs (a++r'::j)
 | x::xs,c::bs,[],0,⟨l,e⟩,_,f=>by cases f; exact ⟨k,e⟩
 | x::xs,c::bs,[],i+1,_,d,_=>by simp at d
 | x::xs,c::bs,q::a,0,_,d,_=>by simp at d
 | x::xs,c::bs,q::a,i+1,⟨l,e⟩,d,f=>⟨l,Af.put k e (by simpa using d) (by simpa using f)⟩
 | [],[],[],_,h,_,_=>h.elim
 | [],[],_::_,_,h,_,_=>h.elim
 | [],_::_,[],_,h,_,_=>h.elim
 | [],_::_,_::_,_,h,_,_=>h.elim
 | _::_,[],[],_,h,_,_=>h.elim
 | _::_,[],_::_,_,h,_,_=>h.elim
theorem Af.at {α:Type}{R:α->Nat->Ha->Prop}:∀ {xs:List α}{bs:List Nat}{c:List Ha}{i:Nat}{x:α},Af R xs bs c->xs[i]?=some x->∃ b r a d,bs[i]?=some b/\c=a++r::d/\R x b r/\a.length=i:=by
 intro xs bs c i x h e;obtain ⟨b,r,a,d,f,g,j,k,-⟩:=h.get e;exact ⟨b,r,a,d,f,g,j,k⟩
section
variable {μ:M}{w:World}{G:ae}{X:ke}{z:Sc}
theorem gL {j:Nat}{c:ed}{b:Nat}(i:Bg E μ G z X) (m:z.boxes[j]?=some c) (n:G.bb[j]?=some b) (o:fa μ da w (X.res G z rsF)):∃ a k l,ya μ a k c.words/\fa μ da w (.ea b 72 [ca c.cap,.slice a c.words.length k]::l) /\
  ∀ {J:M}{w':World}{e:Option Addr}{k':Nat}{ws:List Int},ha μ J->ya J e k' ws->fa J da w' (.ea b 72 [ca c.cap,.slice e ws.length k']::l)->∃ f,Bg E J G { z with boxes:=z.boxes.set j { c with words:=ws } } f/\fa J da w' (f.res G { z with boxes:=z.boxes.set j { c with words:=ws } } rsF)/\f.xb=X.xb:=by
 obtain ⟨Qc,q,g,h,g1,g2,⟨a,k,rfl,p⟩,g3⟩:=Af.at i.Ya m;obtain rfl:Qc=b:=Option.some.inj (g1.symm.trans n);refine ⟨a,k,.ea G.Ka 66 [.map (some X.md),.map (some X.Tb),.map (some X.nb),ca z.nodes]::.ea G.Fa 81 [pb G.Ka,X.hc,X.rb,pb X.xb,ca z.t.state,ca z.t.box,ca z.t.qe,X.Ib]::(.row X.rb 79 1 ((G.B.drop 1).map vc.mk).length X.se::.row X.Ib 2 1 z.t.out.length X.nh::(X.Tc++(X.Ld++(g++(h++rsF))))),p,o.perm (by simp only [ke.res,g2,List.append_assoc,List.cons_append];classical exact List.perm_iff_count.2 (λx=>(by simp only [List.count_append,List.count_cons,List.count_nil];ac_rfl))),?_⟩;intro J w' e k' ws le s u;have d:=i.up le;have v:Af (au J) (z.boxes.set j { c with words:=ws }) G.bb (g++.ea Qc 72 [ca c.cap,.slice e ws.length k']::h):=
  Af.put (r:=.ea Qc 72 [ca c.cap,.slice a c.words.length k]) ⟨e,k',rfl,s⟩ (g2 ▸ d.Ya) g3 g1
 refine ⟨{ X with Ya:=g++.ea Qc 72 [ca c.cap,.slice e ws.length k']::h },⟨d.zd,d.od,d.md,d.Tb,d.nb,d.zh,d.now,d.Vh,d.ic,d.out,d.Tc,d.Ld,v,d.Ye⟩,u.perm ?_,rfl⟩;simp only [ke.res,List.append_assoc,List.cons_append]
 classical exact List.perm_iff_count.2 (λx=>(by simp only [List.count_append,List.count_cons,List.count_nil];ac_rfl))
end
theorem NJ (L:gj E μb Gb da rsF n){bc:Ge}{k:cf}{z:Sc}{r:Option (Option je×Sc)}{o:gk}(d:Uu E bc k z=some o) (h:js E n o=some r){μ:M}{w:World}{G:ae}{X:ke}{K:Nat}{cs:List Value}(s:ha μb μ) (jc:Gb.le G) (N:Bg E μ G z X) (l:ve E μ G (.recv bc k) K cs) (O:fa μ da w (X.res G z rsF)):qc Tryz.prog K ([]++cs) w wm (Fq r) (Gj E μb Gb da rsF) (gl μb da rsF):=by
 have P:=l;rw [ve] at l;obtain ⟨rfl,U,Ae,V,W,Y,b,Gd,Z,rfl,⟨j,Q,R⟩,u,x,y,A,B,C⟩:=l;rw [Uu,Q,Option.bind_some] at d;obtain ⟨c,S,d⟩:=td d;have D:=Lg S;obtain ⟨a,q,rs,m,F,back⟩:=gL N D R O;cases hw:c.words with
 | nil =>
  rw [hw] at d;cases d;cases h;refine QO (ws:=c.words) (by rw [hw];rfl) m u x y A B ?_ F;intro J w' le p;obtain ⟨H,f,g,-⟩:=back le (m.up le) p;have e:{ z with boxes:=z.boxes.set j { c with words:=c.words } }=z:=by
   obtain ⟨t,bs,Rq⟩:=z;simp only [Sc.mk.injEq,true_and,and_true];exact List.ext_getElem? λi=>by
    rw [List.getElem?_set];split
    ·rename_i e;subst e;split
     ·exact D.symm
     ·rename_i q;exact (List.getElem?_eq_none (by omega)).symm
    ·rfl
  rw [e] at f g;exact MJ (s.t le) jc f (ve.up le .r P) g
 | cons v ws =>
  rw [hw] at d;cases d;refine RO (ws:=c.words) (v:=v) (ws':=ws) (by rw [hw];simp;omega) (by rw [hw];rfl) (by rw [hw,cut,if_pos (by simp;omega)];simp) C.fn m u x y A B ?_ F;intro J w' bb gc le T p;obtain ⟨H,f,g,-⟩:=back le T p;exact Yl L h (X:=H) (s.t le) jc f (Ze.up le .r C) g
theorem OJ (Y:gj E μb Gb da rsF n){bc:Ge}{v:Int}{k:je}{z:Sc}{r:Option (Option je×Sc)}{o:gk}(d:Vu E bc v k z=some o) (h:js E n o=some r){μ:M}{w:World}{G:ae}{X:ke}{K:Nat}{cs:List Value}(u:ha μb μ) (jc:Gb.le G) (N:Bg E μ G z X) (m:ve E μ G (.send bc v k) K cs) (O:fa μ da w (X.res G z rsF)):qc Tryz.prog K ([]++cs) w wm (Fq r) (Gj E μb Gb da rsF) (gl μb da rsF):=by
 have P:=m;rw [ve] at m;obtain ⟨rfl,Z,Ae,bb,gc,pg,lc,b,Gd,Q,rfl,⟨j,R,S⟩,x,y,A,B,C,D,T⟩:=m;rw [Vu,R,Option.bind_some] at d;obtain ⟨c,U,d⟩:=td d;have F:=Lg U;obtain ⟨a,q,rs,p,H,back⟩:=gL N F S O;by_cases f:(c.words.length:Int)=c.cap
 ·rw [if_pos f] at d;cases d;cases h;refine OO (ws:=c.words) f p x y A B C D ?_ H;intro J w' le s;obtain ⟨L,g,l,-⟩:=back le (p.up le) s;have e:{ z with boxes:=z.boxes.set j { c with words:=c.words } }=z:=by
   obtain ⟨t,bs,Rq⟩:=z;simp only [Sc.mk.injEq,true_and,and_true];exact List.ext_getElem? λi=>by
    rw [List.getElem?_set];split
    ·rename_i e;subst e;split
     ·exact F.symm
     ·rename_i q;exact (List.getElem?_eq_none (by omega)).symm
    ·rfl
  rw [e] at g l;exact MJ (u.t le) jc g (ve.up le .r P) l
 ·rw [if_neg f] at d;obtain ⟨ws,V,d⟩:=td d;cases d;cases h;refine PO (ws:=c.words) (ws':=ws) f V p x y A B C D ?_ H;intro J w' rc fd le W s;obtain ⟨L,g,l,-⟩:=back le W s;exact ⟨_,rfl,Gj.mk (X:=L) (u.t le) jc g ⟨Gd,Q,rfl,ve.up le .r T⟩ l⟩
theorem cQ (b:gj E μb Gb da rsF n) (bc:Ge) (k:cf):Gk E μb Gb da rsF (n+1) (.vd (.recv bc k)):=by
 rintro z r h μ w G X f vs c jc d ⟨cs,rfl,e⟩ g;obtain ⟨o,a,h⟩:=Uk h;rw [de] at a;exact NJ b a h c jc d e g
theorem dQ (b:gj E μb Gb da rsF n) (bc:Ge) (v:Int) (k:je):Gk E μb Gb da rsF (n+1) (.vd (.send bc v k)):=by
 rintro z r h μ w G X f vs c jc d ⟨cs,rfl,e⟩ g;obtain ⟨o,a,h⟩:=Uk h;rw [de] at a;exact OJ b a h c jc d e g
theorem dS (m:gj E μb Gb da rsF n) (bc:Ge) (k:cf):Gk E μb Gb da rsF (n+1) (.recv bc k):=by
 rintro z r h μ w G X f vs p jc a ⟨rfl,K,cs,rfl,q⟩ s;obtain ⟨o,e,h⟩:=Uk h;rw [de] at e;have d:=e;rw [Uu] at d;obtain ⟨i,g,d⟩:=td d;obtain ⟨c,u,-⟩:=td d;obtain ⟨j,rfl,v⟩:=sG u;obtain ⟨b,-,-,-,l,-⟩:=Af.at a.Ya v;refine RT (a.zh bc j b g l) a.Tb ?_ s;intro J w' x y A B C le D oa F H L M;refine NJ m e h (X:=X) (p.t le) jc (a.up le) ?_ M;rw [ve];exact ⟨rfl,B,x,y,C,A,b,K,cs,rfl,⟨j,g,l⟩,H,D,oa,L,F,Ze.up le .r q⟩
theorem eS (m:gj E μb Gb da rsF n) (bc:Ge) (v:Int) (k:je):Gk E μb Gb da rsF (n+1) (.send bc v k):=by
 rintro z r h μ w G X f vs p jc a ⟨rfl,K,cs,rfl,q⟩ s;obtain ⟨o,e,h⟩:=Uk h;rw [de] at e;have d:=e;rw [Vu] at d;obtain ⟨i,g,d⟩:=td d;obtain ⟨c,u,-⟩:=td d;obtain ⟨j,rfl,x⟩:=sG u;obtain ⟨b,-,-,-,l,-⟩:=Af.at a.Ya x;refine QT (a.zh bc j b g l) a.Tb ?_ s;intro J w' y A B C D F le H oa L M N a5 O;refine OJ m e h (X:=X) (p.t le) jc (a.up le) ?_ O;rw [ve];exact ⟨rfl,D,y,A,F,B,C,b,K,cs,rfl,⟨j,g,l⟩,N,H,oa,a5,L,M,ve.up le .r q⟩
end
section
variable {E:Ud}{μb:M}{Gb:ae}{da:World}{rsF:List Ha}{n:Nat}
theorem ZT {c e d g:List Ha}{x q:Ha}(h:c++x::e=d++q::g) (j:d.length≠c.length):∃ t,(c++e).Perm (q::t):=by
 rcases Nat.lt_or_ge d.length c.length with ma | ma
 ·have f:c[d.length]?=some q:=by
   have:=congrArg (λl=>l[d.length]?) h;simpa [List.getElem?_append_left ma] using this
  obtain ⟨a,b,rfl⟩:=List.append_of_mem (List.mem_of_getElem? f);exact ⟨a++(b++e),by rw [List.append_assoc];exact List.perm_middle⟩
 ·have f:(x::e)[d.length - c.length]?=some q:=by
   have:=congrArg (λl=>l[d.length]?) h;simpa [List.getElem?_append_right ma] using this
  obtain ⟨k,i⟩:∃ k,d.length - c.length=k+1:=⟨d.length - c.length - 1,by omega⟩;rw [i,List.getElem?_cons_succ] at f;obtain ⟨a,b,rfl⟩:=List.append_of_mem (List.mem_of_getElem? f);exact ⟨c++(a++b),by rw [<- List.append_assoc,<- List.append_assoc];exact List.perm_middle⟩
theorem IE {z:Sc}{g:Nat}{c:Qg}{f:Ad->Qg->Qg}{u:Nat}(a:z.t.Db[g]?=some c):(z.task λt=>{ t.tn g (f t) with now:=u })=z.task λt=>{ t with Db:=t.Db.set g (f z.t c),now:=u }:=by
 simp only [Sc.task,Ad.tn,a]
theorem YO {z:Sc}{g:Nat}{c eb:Qg}{f:Qg->Qg}{u:Nat}(a:z.t.Db[g]?=some c):((z.task λt=>{ t with Db:=t.Db.set g eb,now:=u }).task λt=>t.tn g f)=z.task λt=>{ t with Db:=t.Db.set g (f eb),now:=u }:=by
 have:(z.t.Db.set g eb)[g]?=some eb:=List.getElem?_set_self (List.getElem?_eq_some_iff.1 a).1;simp only [Sc.task,Ad.tn,this,List.set_set]
section
variable {μ:M}{w:World}{G:ae}{X:ke}{z:Sc}
theorem tG {g:Nat}{c:Qg}{b:Nat}(l:Bg E μ G z X) (C:z.t.Db[g]?=some c) (D:G.B[g]?=some b) (F:fa μ da w (X.res G z rsF)):∃ d ap up e on m,Ie μ d c.Lm/\Dk G ap c.args/\gz G up c.up/\qv E μ G e c.back/\qv E μ G on c.uk /\
  fa μ da w (.ea b 117 [d,.pointer ap,.bool c.begun,.bool c.going,.bool c.ended,up,e,on]::.ea G.Fa 81 [pb G.Ka,X.hc,X.rb,pb X.xb,ca z.t.state,ca z.t.box,ca z.t.qe,X.Ib]::m) /\
  (∀ {j:Nat}{f:Qg}{ad:Nat},j≠g->z.t.Db[j]?=some f->G.B[j]?=some ad->∃ n o H K L p s u t,m.Perm (.ea ad 117 [n,o,.bool H,.bool K,.bool L,p,s,u]::t)) /\
  ∀ {J:M}{w':World}{c':Qg}{i k:Nat}{h:List Value},ha μ J->iv E J G c' b (.ea b 117 h)->G.B[k]?=some i ->
   fa J da w' (.ea b 117 h::.ea G.Fa 81 [pb G.Ka,X.hc,X.rb,pb i,ca z.t.state,ca z.t.box,ca z.t.qe,X.Ib]::m) ->
   ∃ A,Bg E J G (z.task λt=>{ t with Db:=t.Db.set g c',now:=k }) A/\fa J da w' (A.res G (z.task λt=>{ t with Db:=t.Db.set g c',now:=k }) rsF):=by
 obtain ⟨Qc,q,v,y,g1,g2,⟨d,ap,up,e,on,rfl,Ea,N,O,P,Q⟩,g3⟩:=Af.at l.Ld C;obtain rfl:Qc=b:=Option.some.inj (g1.symm.trans D);refine ⟨d,ap,up,e,on,.ea G.Ka 66 [.map (some X.md),.map (some X.Tb),.map (some X.nb),ca z.nodes]::(.row X.rb 79 1 ((G.B.drop 1).map vc.mk).length X.se::.row X.Ib 2 1 z.t.out.length X.nh::(X.Tc++((v++y)++(X.Ya++rsF)))),Ea,N,O,P,Q,F.perm (by simp only [ke.res,g2,List.append_assoc,List.cons_append];classical exact List.perm_iff_count.2 (λx=>(by simp only [List.count_append,List.count_cons,List.count_nil];ac_rfl))),?_,?_⟩
 ·intro j f ad bb R S;obtain ⟨Ua,q,s1,s2,ua,T,⟨n,o,p,s,u,rfl,-⟩,Gb⟩:=Af.at l.Ld R;obtain rfl:Ua=ad:=Option.some.inj (ua.symm.trans S);obtain ⟨t,U⟩:=ZT (g2.symm.trans T) (by omega);refine ⟨n,.pointer o,f.begun,f.going,f.ended,p,s,u,.ea G.Ka 66 [.map (some X.md),.map (some X.Tb),.map (some X.nb),ca z.nodes]::(.row X.rb 79 1 ((G.B.drop 1).map vc.mk).length X.se::.row X.Ib 2 1 z.t.out.length X.nh::(X.Tc++(t++(X.Ya++rsF)))),?_⟩;refine ((((U.append_right (X.Ya++rsF)).append_left X.Tc).cons _).cons _).cons _ |>.trans ?_;simp only [List.cons_append]
  classical exact List.perm_iff_count.2 (λx=>(by simp only [List.count_append,List.count_cons,List.count_nil];ac_rfl))
 ·intro J w' c' i k h le V W Y;have a:=l.up le;have Z:Af (iv E J G) (z.t.Db.set g c') G.B (v++.ea Qc 117 h::y):=Af.put (r:=.ea Qc 117 [d,.pointer ap,.bool c.begun,.bool c.going,.bool c.ended,up,e,on]) V (g2 ▸ a.Ld) g3 g1;refine ⟨{ X with xb:=i,Ld:=v++.ea Qc 117 h::y },⟨a.zd,a.od,a.md,a.Tb,a.nb,a.zh,W,a.Vh,a.ic,a.out,a.Tc,Z,a.Ya,by show (z.t.Db.set g c').length<=31;rw [List.length_set];exact a.Ye⟩,Y.perm ?_⟩;simp only [ke.res,Sc.task,List.append_assoc,List.cons_append]
  classical exact List.perm_iff_count.2 (λx=>(by simp only [List.count_append,List.count_cons,List.count_nil];ac_rfl))
theorem Bg.aU (a:Bg E μ G z X):∃ c,z.t.Db[z.t.now]?=some c:=by
 have h:=(List.getElem?_eq_some_iff.1 a.now).1;rw [a.Ld.len.1] at h;exact ⟨_,List.getElem?_eq_getElem h⟩
end
theorem fS (s:gj E μb Gb da rsF n) (g:Nat):Gk E μb Gb da rsF (n+1) (.vd (.done g)):=by
 rintro z r h μ w G X f vs v jc x ⟨cs,rfl,d⟩ y;rw [ve] at d;obtain ⟨rfl,P,Ae,b,rfl,A,B,C⟩:=d;obtain ⟨o,a,h⟩:=Uk h;rw [de] at a;obtain ⟨c,e,a⟩:=td a;obtain ⟨u,i,a⟩:=td a;obtain ⟨bb,j,a⟩:=td a;cases a;rw [js,IE e] at h;obtain ⟨D,ap,up,Q,on,rs,ua,F,k,l,H,K,-,back⟩:=tG x e A y;rw [i] at k;obtain ⟨m,p,rfl⟩:=k;rw [j] at l;obtain ⟨Gd,q,rfl,d⟩:=l;refine TT d.fn B C ?_ K;intro J w' le L;obtain ⟨M,N,O⟩:=back (c':={ c with ended:=true,going:=false }) le ⟨D,ap,pb m,ch Gd q,on,rfl,ua.up le,F,i ▸ ⟨m,p,rfl⟩,j ▸ ⟨Gd,q,rfl,Ze.up le .r d⟩,H.up le .r⟩ p L;exact Yl s h (X:=M) (v.t le) jc N (Ze.up le .r d) O
theorem ZO (id:gj E μb Gb da rsF n){g:Nat}{v:Int}{k:cf}{z:Sc}{r:Option (Option je×Sc)}{o:gk}(a:Lu g v k z=some o) (h:js E n o=some r){μ:M}{w:World}{G:ae}{X:ke}{b K:Nat}{cs:List Value}(y:ha μb μ) (jc:Gb.le G) (p:Bg E μ G z X) (A:G.B[g]?=some b) (md:Ze E μ G k K cs) (Id:fa μ da w (X.res G z rsF)):qc Tryz.prog 102 [pb G.Fa,pb b,ca v,ch K cs] w wm (Fq r) (Gj E μb Gb da rsF) (gl μb da rsF):=by
 rw [Lu] at a;obtain ⟨c,C,a⟩:=td a;obtain ⟨s,ap,up,P,on,rs,ua,L,be,ce,N,m,two,back⟩:=tG p C A Id;have same:∀ {J:M}{w':World},ha μ J->fa J da w' (.ea b 117 [s,.pointer ap,.bool c.begun,.bool c.going,.bool c.ended,up,P,on]::.ea G.Fa 81 [pb G.Ka,X.hc,X.rb,pb X.xb,ca z.t.state,ca z.t.box,ca z.t.qe,X.Ib]::rs)->∃ f,Bg E J G z f/\fa J da w' (f.res G z rsF):=by
  intro J w' le j;obtain ⟨f,d,l⟩:=back (c':=c) le ⟨s,ap,up,P,on,rfl,ua.up le,L,be,ce.up le .r,N.up le .r⟩ p.now j;have e:(z.task λt=>{ t with Db:=t.Db.set g c,now:=z.t.now })=z:=by
   have:z.t.Db.set g c=z.t.Db:=List.ext_getElem? λi=>by
    rw [List.getElem?_set];split
    ·rename_i e;subst e;split
     ·exact C.symm
     ·rename_i q;exact (List.getElem?_eq_none (by omega)).symm
    ·rfl
   obtain ⟨t,bs,Rq⟩:=z;simp only [Sc.task] at this ⊢;rw [this]
  rw [e] at d l;exact ⟨f,d,l⟩
 by_cases D:c.ended=true
 ·rw [if_pos D] at a;cases a;cases h;rw [D] at m;refine SO ?_ m;intro J w' le j;obtain ⟨f,d,l⟩:=same le (D ▸ j);exact jw (y.t le) jc d l
 rw [if_neg D] at a;have u:c.ended=false:=by simpa using D
 by_cases O:c.going=true
 ·rw [if_pos (.inl O)] at a;cases a;cases h;rw [u,O] at m;refine TO ?_ m;intro J w' le j;obtain ⟨f,d,l⟩:=same le (by rw [u,O];exact j);exact jw (y.t le) jc d l
 have Q:c.going=false:=by simpa using O
 by_cases R:g=z.t.now
 ·rw [if_pos (.inr R)] at a;cases a;cases h;obtain rfl:b=X.xb:=Option.some.inj (A.symm.trans (R ▸ p.now));rw [u,Q] at m;refine ZP ?_ m;intro J w' le j;obtain ⟨f,d,l⟩:=same le (by rw [u,Q];exact j);exact jw (y.t le) jc d l
 rw [if_neg (by rintro (q | q)<;>contradiction)] at a;obtain ⟨bi,ge⟩:=Bg.aU p;obtain ⟨S,T,U,go2,V,W,Y,Z,t,bb⟩:=two (Ne.symm R) ge p.now;rw [u,Q] at m;have l:=m.perm ((bb.cons _).cons _);have F:=l.perm (rs':=.ea b 117 [s,.pointer ap,.bool c.begun,.bool false,.bool false,up,P,on]::.ea X.xb 117 [S,T,.bool U,.bool go2,.bool V,W,Y,Z]::.ea G.Fa 81 [pb G.Ka,X.hc,X.rb,pb X.xb,ca z.t.state,ca z.t.box,ca z.t.qe,X.Ib]::t) (by classical exact List.perm_iff_count.2 (λx=>(by simp only [List.count_append,List.count_cons,List.count_nil];ac_rfl)));have nd:b≠X.xb:=by
  have:=F.ti;simp [blocks,Ha.block] at this;exact this.1.1
 by_cases H:c.begun=true
 ·rw [if_pos H] at a;obtain ⟨q,rd,a⟩:=td a;cases a;rw [js,IE C] at h;rw [rd] at N;obtain ⟨gc,lc,rfl,a⟩:=N;rw [H] at F;refine UO nd a.fn ?_ F;intro J w' le j;have rc:=(j.perm (rs':=.ea b 117 [s,.pointer ap,.bool true,.bool true,.bool false,pb X.xb,ch K cs,ch gc lc]::.ea G.Fa 81 [pb G.Ka,X.hc,X.rb,pb b,ca z.t.state,ca z.t.box,ca z.t.qe,X.Ib]::.ea X.xb 117 [S,T,.bool U,.bool go2,.bool V,W,Y,Z]::t) (by classical exact List.perm_iff_count.2 (λx=>(by simp only [List.count_append,List.count_cons,List.count_nil];ac_rfl)))).perm ((bb.symm.cons _).cons _);obtain ⟨f,d,fd⟩:=back (c':={ c with going:=true,up:=some z.t.now,back:=some k }) le ⟨s,ap,pb X.xb,ch K cs,ch gc lc,by rw [H,u],ua.up le,L,⟨X.xb,p.now,rfl⟩,⟨K,cs,rfl,Ze.up le .r md⟩,rd ▸ ⟨gc,lc,rfl,Ze.up le .r a⟩⟩ A rc;exact Yl id h (X:=f) (y.t le) jc d (Ze.up le .r a) fd
 ·have ne:c.begun=false:=by simpa using H
  rw [if_neg H] at a;cases a;rw [js,IE C,YO C] at h;rw [ne] at F;refine VO nd ua ?_ F;intro J w' wd Fd of wf If le hB dg oa rg j;have rc:=(j.perm (rs':=.ea b 117 [s,.pointer ap,.bool true,.bool true,.bool false,pb X.xb,ch K cs,on]::.ea G.Fa 81 [pb G.Ka,X.hc,X.rb,pb b,ca z.t.state,ca z.t.box,ca z.t.qe,X.Ib]::.ea X.xb 117 [S,T,.bool U,.bool go2,.bool V,W,Y,Z]::t) (by classical exact List.perm_iff_count.2 (λx=>(by simp only [List.count_append,List.count_cons,List.count_nil];ac_rfl)))).perm ((bb.symm.cons _).cons _);obtain ⟨f,d,fd⟩:=back (c':={ c with going:=true,up:=some z.t.now,back:=some k,begun:=true }) le ⟨s,ap,pb X.xb,ch K cs,on,by rw [u],ua.up le,L,⟨X.xb,p.now,rfl⟩,⟨K,cs,rfl,Ze.up le .r md⟩,N.up le .r⟩ A rc;have Ea:ve E J G (.done g) 144 [pb Fd,pb wd]:=by rw [ve];exact ⟨rfl,Fd,wd,b,rfl,A,oa,dg⟩
  refine id _ _ _ h (X:=f) (y.t le) jc d ⟨rfl,wf,If,ap,of,_,_,rfl,hB,L,?_,Ea⟩ fd;rw [yh];exact ⟨_,_,rg,Ea⟩
theorem aP (c:gj E μb Gb da rsF n) (g:Nat) (v:Int) (k:cf):Gk E μb Gb da rsF (n+1) (.resume g v k):=by
 rintro z r h μ w G X f vs d jc e ⟨rfl,b,K,cs,i,rfl,j⟩ l;obtain ⟨o,a,h⟩:=Uk h;rw [de] at a;exact ZO c a h d jc e i j l
end
section
variable {E:Ud}{μb:M}{Gb:ae}{da:World}{rsF:List Ha}{n:Nat}
theorem FL {α:Type}(x:α) (l:List α):cut (x::l) 1 ((x::l).length:Nat)=some l:=by rw [cut,if_pos (by simp;omega)];simp
theorem Af.app {α:Type}{R:α->Nat->Ha->Prop}{ys:List α}{cs:List Nat}{c:List Ha}(k:Af R ys cs c):∀ {xs:List α}{bs:List Nat}{a:List Ha},Af R xs bs a->Af R (xs++ys) (bs++cs) (a++c)
 | [],[],[],_=>k
 | x::xs,b::bs,r::a,⟨d,e⟩=>⟨d,Af.app k e⟩
 | [],[],_::_,h=>h.elim
 | [],_::_,_,h=>h.elim
 | _::_,[],_,h=>h.elim
 | _::_,_::_,[],h=>h.elim
theorem Bg.grow {μ J:M}{G:ae}{X:ke}{z:Sc}{new:List ki}{bs:List Nat}{gs:List Ha}(b:Bg E μ G z X) (le:ha μ J) (c:Af (uq { G with A:=G.A++bs }) new bs gs):Bg E J { G with A:=G.A++bs } (z.task λt=>{ t with fe:=z.t.fe++new }) { X with Tc:=X.Tc++gs }:=by
 have a:=b.up le;have jc:G.le { G with A:=G.A++bs }:=ae.le.app;exact ⟨a.zd,a.od,a.md,a.Tb,a.nb,a.zh,a.now,a.Vh.up (ha.r) jc,a.ic,a.out,Af.app c<|a.Tc.imp λ_ _ _ q=>q.up jc,a.Ld.imp λ_ _ _ q=>q.up (ha.r) jc,a.Ya,a.Ye⟩
theorem eQ (W:gj E μb Gb da rsF n) (l:List Ra) (s:Option Nat) (e:kh) (k:je):Gk E μb Gb da rsF (n+1) (.stats l s e k):=by
 rintro z r h μ w G X f vs u jc g ⟨rfl,Y,Z,L,M,K,cs,rfl,ma,N,c,Q⟩ v;obtain ⟨o,a,h⟩:=Uk h;cases l with
 | nil =>
  rw [de] at a;cases a;cases h;exact NO rfl ma (λJ w' le b=>⟨_,rfl,Gj.mk (X:=X) (u.t le) jc (g.up le) ⟨K,cs,rfl,ve.up le .r Q⟩ b⟩) v
 | cons x l =>
 rw [de,tt] at a;have H:¬ ((x::l).length:Int)=0:=by simp;omega
 have A:at_ (x::l) 0=some x:=rfl;by_cases d:(20000:Int)<z.nodes+1
 ·rw [if_pos d] at a;cases a;cases h;refine NN H A (λy q=>by cases q) ma ?_ v;intro J w' i B C j le m oa D p b;exact kI g.i64 d (λnd lc=>gl.res (X:=X) (G:=G) (z:={ z with nodes:=z.nodes+1 }) (u.t le) lc) b
 rw [if_neg d] at a;have O:=g.UL d;by_cases F:x.Kind=6
 ·rw [if_pos F] at a;cases a;cases h;cases e with
  | ret q =>
   rw [yh] at c;obtain ⟨Gd,bb,R,gc⟩:=c;exact jI H A g.i64 d F ma R (λJ w' i B C j le m oa D p b=>⟨_,rfl,Gj.mk (X:=X) (u.t le) jc (O.up le) rfl b⟩) v
  | stop q =>
   rw [yh] at c;obtain ⟨Gd,bb,R,gc⟩:=c;exact jI H A g.i64 d F ma R (λJ w' i B C j le m oa D p b=>⟨_,rfl,Gj.mk (X:=X) (u.t le) jc (O.up le) ⟨Gd,bb,rfl,ve.up le .r gc⟩ b⟩) v
 rw [if_neg F] at a;by_cases P:x.Kind=4
 ·rw [if_pos P] at a;cases a;refine hN H A g.i64 d F P ma ?_ v;intro J w' i B C j S T le U m oa D p V b;refine W _ _ _ h (X:=X) (u.t le) jc (O.up le) ⟨rfl,T,L,M,_,_,rfl,U,N,yh.up le .r c,?_⟩ b;rw [ve];exact ⟨rfl,i,B,S,C,j,M,x::l,Y,Z,L,K,cs,rfl,m,FL x l,ma.up le,oa,N,V,D,yh.up le .r c,p,ve.up le .r Q⟩
 ·rw [if_neg P] at a;cases a;refine ON H A g.i64 d F P ma ?_ v;intro J w' i B C j S T rc fd id le U m oa D p V md a5 zb b;refine W _ _ _ h (X:=X) (u.t le) jc (O.up le) ⟨rfl,fd,L,_,_,rfl,U,N,?_⟩ b;rw [Ze];exact ⟨rfl,T,rc,i,B,j,S,C,i,j,M,M,x,id,Y,Z,L,K,cs,rfl,A,md,a5,zb,m,ma.up le,oa,p,yh.up le .r c,V,ve.up le .r Q,N,D,m,p,yh.up le .r c⟩
theorem fQ (W:gj E μb Gb da rsF n) (l:List Ra) (s:Option Nat) (e:kh) (k:je) (v:Int):Gk E μb Gb da rsF (n+1) (.df (.stat l s e k) v):=by
 rintro z r h μ w G X f vs D jc j ⟨cs,rfl,Y⟩ F;rw [Ze] at Y;obtain ⟨rfl,ii,mz,eb,c2,c3,c4,li,Ae,ce,nd,Id,x,pi,be,ge,Z,Gd,ne,rfl,rd,H,Tb,K,m1,ma,m2,m3,Ne,m4,Y,C,L,mt,N,bb⟩:=Y;obtain ⟨o,a,h⟩:=Uk h;cases l with
 | nil=>cases rd
 | cons m l =>
 obtain rfl:m=x:=jo rd;replace a:rp m l s e k v z=some o:=a;rw [rp.eq_def] at a;have next:∀ {J:M}{sg:ae}{Bb:Option Nat}{gc:Option Addr}{c:Nat},ha μ J->G.le sg->Dk sg gc Bb->xa J c 0 [.pointer gc]->ve E J sg (.stats l Bb e k) 52 [pb eb,pb c2,pb c,pb c3,pb c4]:=by
  intro J sg Bb gc c le P p u;rw [ve];exact ⟨rfl,eb,c2,c,c3,c4,Id,m::l,be,ge,gc,Gd,ne,rfl,P.Fa ▸ m1.up le,FL m l,ma.up le,m2.up le,p,u,m3.up le,yh.up le P Ne,m4.up le,ve.up le P Y⟩
 by_cases p:m.Kind=1
 ·rw [if_pos p] at a;cases a;cases h;refine KT p H Tb K L mt N ?_ F;intro J w' z0 R le oa g;have P:G.le { G with A:=G.A++[z0] }:=ae.le.app;have of:(G.A++[z0])[z.t.fe.length]?=some z0:=by rw [<- j.Tc.len.1];simp
  refine ⟨_,rfl,Gj.mk (D.t le) (jc.t P) (Bg.grow j le (new:=[⟨m.Name,v,s⟩]) (bs:=[z0]) (gs:=[.ea z0 183 [S m.Name,ca v,.pointer Z]]) ⟨⟨Z,rfl,C.up P⟩,trivial⟩) ⟨_,_,rfl,next le P ⟨z0,of,rfl⟩ oa⟩<|g.perm ?_⟩;simp only [ke.res,Sc.task,List.append_assoc,List.cons_append,List.nil_append]
  classical exact List.perm_iff_count.2 (λx=>(by simp only [List.count_append,List.count_cons,List.count_nil];ac_rfl))
 rw [if_neg p] at a;by_cases u:m.Kind=2
 ·rw [if_pos u] at a;obtain ⟨i,wf,a⟩:=td a;obtain ⟨c,If,a⟩:=td a;cases a;cases h;obtain ⟨b,q,rc,fd,g1,g2,⟨up,rfl,dg⟩,g3⟩:=Af.at j.Tc If;have id:=F.perm (rs':=.ea b 183 [S c.name,ca c.v,.pointer up]::(.ea G.Ka 66 [.map (some X.md),.map (some X.Tb),.map (some X.nb),ca z.nodes]::.ea G.Fa 81 [pb G.Ka,X.hc,X.rb,pb X.xb,ca z.t.state,ca z.t.box,ca z.t.qe,X.Ib]::.row X.rb 79 1 ((G.B.drop 1).map vc.mk).length X.se::.row X.Ib 2 1 z.t.out.length X.nh::(rc++(fd++(X.Ld++(X.Ya++rsF)))))) (by simp only [ke.res,g2,List.append_assoc,List.cons_append];classical exact List.perm_iff_count.2 (λx=>(by simp only [List.count_append,List.count_cons,List.count_nil];ac_rfl)));refine MT p u ?_ H Tb K L mt N ?_ id
  ·intro J w' Pi wd le g;refine (CK j.Tc ?_ C wf g1 g).mono ?_
   ·intro q Q;rw [g2] at Q;simp only [List.mem_append,List.mem_cons] at Q ⊢;rcases Q with Q | rfl | Q
    ·exact .inr<|wd _ (by simp [Q])
    ·exact .inl rfl
    ·exact .inr<|wd _ (by simp [Q])
   ·rintro v dl ⟨rfl,rfl⟩;exact ⟨rfl,g⟩
  ·intro J w' z0 le y g;have d:=j.up le;have rg:Af (uq G) (z.t.fe.set i { c with v:=v }) G.A (rc++.ea b 183 [S c.name,ca v,.pointer up]::fd):=Af.put (r:=.ea b 183 [S c.name,ca c.v,.pointer up]) ⟨up,rfl,dg⟩ (g2 ▸ j.Tc) g3 g1;refine ⟨_,rfl,Gj.mk (G:=G) (X:={ X with Tc:=rc++.ea b 183 [S c.name,ca v,.pointer up]::fd }) (D.t le) jc ⟨d.zd,d.od,d.md,d.Tb,d.nb,d.zh,d.now,d.Vh,d.ic,d.out,rg,d.Ld,d.Ya,d.Ye⟩ ⟨_,_,rfl,next le .r C y⟩<|g.perm ?_⟩;simp only [ke.res,Sc.task,List.append_assoc,List.cons_append]
   classical exact List.perm_iff_count.2 (λx=>(by simp only [List.count_append,List.count_cons,List.count_nil];ac_rfl))
 rw [if_neg u] at a;by_cases O:m.Kind=3
 ·rw [if_pos O] at a;cases a;by_cases Pa:v≠0
  ·rw [if_pos Pa] at h;exact SR p u O Pa H Tb K L mt N (λJ w' z0 R U le hB y g=>W _ _ _ h (X:=X) (D.t le) jc (j.up le) ⟨rfl,R,U,Z,nd,_,_,rfl,hB,C,yh.up le .r bb,next le .r C y⟩ g) F
  ·rw [if_neg Pa] at h;exact TR p u O Pa H Tb K L mt N (λJ w' z0 R U le hB y g=>W _ _ _ h (X:=X) (D.t le) jc (j.up le) ⟨rfl,R,U,Z,nd,_,_,rfl,hB,C,yh.up le .r bb,next le .r C y⟩ g) F
 rw [if_neg O] at a;by_cases T:m.Kind=5
 ·rw [if_pos T] at a;cases e with
  | stop q=>cases a
  | ret q =>
   cases a;rw [yh] at bb;obtain ⟨el,iH,ua,Fd⟩:=bb;exact NT p u O T Fd.fn ua H Tb K L mt N (λJ w' le g=>Yl W h (X:=X) (D.t le) jc (j.up le) (Ze.up le .r Fd) g) F
 rw [if_neg T] at a;by_cases V:m.Kind=7
 ·rw [if_pos V] at a;cases a;exact UR p u O T V H Tb K L mt N (λJ w' z0 le y g=>W _ _ _ h (X:=X) (D.t le) jc (j.up le) ⟨rfl,_,_,rfl,next le .r C y⟩ g) F
 rw [if_neg V] at a;by_cases lc:m.Kind=8
 ·rw [if_pos lc] at a;obtain ⟨os,bi,a⟩:=td a;cases a;cases h;have id:=F.perm (rs':=.ea G.Fa 81 [pb G.Ka,X.hc,X.rb,pb X.xb,ca z.t.state,ca z.t.box,ca z.t.qe,X.Ib]::.row X.Ib 2 1 z.t.out.length X.nh::(.ea G.Ka 66 [.map (some X.md),.map (some X.Tb),.map (some X.nb),ca z.nodes]::.row X.rb 79 1 ((G.B.drop 1).map vc.mk).length X.se::(X.Tc++(X.Ld++(X.Ya++rsF))))) (by simp only [ke.res];classical exact List.perm_iff_count.2 (λx=>(by simp only [List.count_append,List.count_cons,List.count_nil];ac_rfl)));refine OT bi p u O T V lc j.out H Tb K L mt N ?_ id;intro J w' z0 R U le ci y g;have d:=j.up le;refine ⟨_,rfl,Gj.mk (G:=G) (X:={ X with Ib:=R,nh:=U }) (D.t le) jc ⟨d.zd,d.od,d.md,d.Tb,d.nb,d.zh,d.now,d.Vh,d.ic,ci,d.Tc,d.Ld,d.Ya,d.Ye⟩ ⟨_,_,rfl,next le .r C y⟩<|g.perm ?_⟩;simp only [ke.res,Sc.task]
  classical exact List.perm_iff_count.2 (λx=>(by simp only [List.count_append,List.count_cons,List.count_nil];ac_rfl))
 rw [if_neg lc] at a;cases a;cases h;exact GV p u O T V lc H Tb K L mt N (λJ w' z0 le y g=>⟨_,rfl,Gj.mk (X:=X) (D.t le) jc (j.up le) ⟨_,_,rfl,next le .r C y⟩ g⟩) F
end
variable {E:Ud}{μb:M}{Gb:ae}{da:World}{rsF:List Ha}{n:Nat}
section
variable {μ:M}{G:ae}{X:ke}{z:Sc}
theorem Bg.Jd (a:Bg E μ G z X):(((G.B.drop 1).map vc.mk).length:Int)=(z.t.Db.length:Int) - 1/\G.B.length=z.t.Db.length/\0<z.t.Db.length:=by
 have b:=a.Ld.len.1;have c:=(List.getElem?_eq_some_iff.1 a.now).1;rw [List.length_map,List.length_drop];omega
theorem hL {a:Nat}{b:Nat}(h:G.B[a+1]?=some b):at_ ((G.B.drop 1).map vc.mk) (a:Int)=some ⟨b⟩:=by
 have:1+a=a+1:=Nat.add_comm _ _;simp [at_,this,h]
end
theorem bU (T:gj E μb Gb da rsF n){x:Na}{k:cf}{l:List Int}{z:Sc}{r:Option (Option je×Sc)}{o:gk}(e:Sn E x k l z=some o) (h:js E n o=some r){μ:M}{w:World}{G:ae}{X:ke}{K:Nat}{cs:List Value}{Dd:Option Addr}{Ed:Nat}(D:ha μb μ) (jc:Gb.le G) (g:Bg E μ G z X) (y:ya μ Dd Ed l) (m:Cl E μ G (.ex x k) K cs) (F:fa μ da w (X.res G z rsF)):qc Tryz.prog K ([.slice Dd l.length Ed]++cs) w wm (Fq r) (Gj E μb Gb da rsF) (gl μb da rsF):=by
 rw [Cl] at m;obtain ⟨rfl,sp,em,Ae,wp,Gd,ge,rfl,H,Tb,mk,m,mt⟩:=m;rw [Sn.eq_def] at e;by_cases p:x.Kind=4
 ·rw [if_pos p] at e;obtain ⟨a,s,e⟩:=td e;cases e;refine HT s p m.fn H Tb mk y mt ?_ F;intro J w' le f;rw [Int.zero_sub];exact Yl T h (X:=X) (D.t le) jc (g.up le) (Ze.up le .r m) f
 rw [if_neg p] at e;by_cases C:x.Kind=5
 ·rw [if_pos C] at e;obtain ⟨a,s,e⟩:=td e;cases e;exact IT s p C m.fn H Tb mk y mt (λJ w' le f=>Yl T h (X:=X) (D.t le) jc (g.up le) (Ze.up le .r m) f) F
 rw [if_neg C] at e;have bi:∀ {d:va}{gc:List ki}{lc:Option Nat},Kj d.Params l z.t.fe none=some (gc,lc)->∀ (J:M) (w':World) (wd:List Ha) (q:Value),ha μ J->Ie J q d->fa J da w' wd->kb Tryz.prog 99 [q,.slice Dd l.length Ed] w' (λv ci=>∃ (ii:M) (gs:List Ha) (L:Option Addr),v=.pointer L/\ha J ii/\rC G z.t.fe gc lc gs L/\fa ii da ci (gs++wd)):=by
  intro d gc lc Y J w' wd q le O f;refine (XR (G:=G) g.Tc.len.1 Y (y.up le) O f).mono ?_;rintro v ci ⟨gs,L,rfl,hm,lm⟩;exact ⟨J,gs,L,rfl,ha.r,hm,lm⟩
 by_cases N:x.Kind=19
 ·rw [if_pos N] at e;obtain ⟨d,Ea,e⟩:=td e;obtain ⟨⟨gc,lc⟩,Y,e⟩:=td e;cases e;refine PR (GQ:=λ_ gs L=>rC G z.t.fe gc lc gs L) p C N Ea (bi Y) g.md H Tb mk y mt ?_ F;rintro J w' sm gs L Q Fd ne le hB Nm un ⟨bs,new,rfl,Ne,of⟩ f;have fd:G.le { G with A:=G.A++bs }:=ae.le.app;refine T _ _ _ h (D.t le) (jc.t fd) (Bg.grow g le Ne) ⟨rfl,Fd,ne,L,Q,_,_,rfl,hB,of,?_,?_⟩ (f.perm ?_)
  ·rw [yh];exact ⟨_,_,Nm,Ze.up le fd m⟩
  ·rw [ve];exact ⟨rfl,em,_,_,rfl,mk.up le,Ze.up le fd m⟩
  ·simp only [ke.res,Sc.task,List.append_assoc,List.cons_append];classical exact List.perm_iff_count.2 (λx=>(by simp only [List.count_append,List.count_cons,List.count_nil];ac_rfl))
 rw [if_neg N] at e;by_cases U:x.Kind=21
 ·rw [if_pos U] at e;obtain ⟨a,s,e⟩:=td e;obtain ⟨c,Id,e⟩:=td e;obtain ⟨u,li,e⟩:=td e;obtain ⟨bb,pi,e⟩:=td e;cases e;rw [js] at h;have wn:(z.task λt=>{ t.tn t.now λc=>{ c with uk:=some k,going:=false } with now:=u })=z.task λt=>{ t with Db:=t.Db.set z.t.now { c with uk:=some k,going:=false },now:=u }:=by
   simp only [Sc.task,Ad.tn,Id]
  rw [wn] at h;obtain ⟨wf,ap,up,Pi,on,wd,ua,Fn,dl,el,Op,nd,-,back⟩:=tG g Id g.now F;rw [li] at dl;obtain ⟨nl,ol,rfl⟩:=dl;rw [pi] at el;obtain ⟨pl,ul,rfl,If⟩:=el;refine UP s p C N (by omega) (by omega) U If.fn H Tb mk y mt ?_ nd;intro J w' le f;obtain ⟨In,co,io⟩:=back (c':={ c with uk:=some k,going:=false }) le ⟨wf,ap,pb nl,ch pl ul,ch Gd ge,rfl,ua.up le,Fn,li ▸ ⟨nl,ol,rfl⟩,pi ▸ ⟨pl,ul,rfl,Ze.up le .r If⟩,⟨Gd,ge,rfl,Ze.up le .r m⟩⟩ ol f;exact Yl T h (X:=In) (D.t le) jc co (Ze.up le .r If) io
 rw [if_neg U] at e;have dg:=Bg.Jd g;by_cases R:x.Kind=22
 ·rw [if_pos R] at e;by_cases be:(z.t.Db.length:Int) - 1=30
  ·rw [if_pos be] at e;cases e;cases h;have nd:=F;refine QR p C N R (by rw [dg.1];exact be) g.ic H Tb mk y mt ?_ nd;intro J w' le f;exact jw (X:=X) (D.t le) jc (g.up le) f
  rw [if_neg be] at e;obtain ⟨d,Ea,e⟩:=td e;obtain ⟨⟨gc,lc⟩,Y,e⟩:=td e;cases e;have eq:=g.Ye;refine TP (ts':=[]) (GQ:=λ_ gs L=>rC G z.t.fe gc lc gs L) p C N R Ea (bi Y) (by rw [dg.1];exact be) (λb=>?_) (λb=>?_) m.fn g.md g.ic H Tb mk y mt ?_ F
  ·rw [app,if_pos];simp only [List.length_map,List.length_drop,List.length_cons,List.length_nil];omega
  ·refine if_pos ?_;simp only [List.length_append,List.length_map,List.length_drop,List.length_cons,List.length_nil];omega
  ·rintro J w' sm gs L Q Fd ne no le ro to un ⟨bs,new,rfl,Ne,of⟩ f;have fd:G.le { G with A:=G.A++bs }:=ae.le.app;have rc:ae.le { G with A:=G.A++bs } { G with A:=G.A++bs,B:=G.B++[Q] }:=⟨rfl,rfl,rfl,λ_ _ q=>q,λi b q=>by
    show (G.B++[Q])[i]?=some b;rw [List.getElem?_append_left (List.getElem?_eq_some_iff.1 q).1];exact q⟩
   have P:=Bg.grow g le Ne;have Do:(G.B++[Q]).drop 1=G.B.drop 1++[Q]:=by
    rw [List.drop_append_of_le_length (by omega)]
   have wl:((G.B++[Q]).drop 1).map vc.mk=(G.B.drop 1).map vc.mk++[⟨Q⟩]:=by rw [Do,List.map_append];rfl
   have ip:((((G.B.drop 1).map vc.mk++[(⟨Q⟩:vc)]).length:Int) - 1)=(z.t.Db.length:Int) - 1:=by
    rw [List.length_append];have:=dg.1;simp only [List.length_cons,List.length_nil];omega
   rw [ip];refine Yl T h (G:={ G with A:=G.A++bs,B:=G.B++[Q] }) (X:={ X with Tc:=X.Tc++gs,rb:=ne,se:=no,Ld:=X.Ld++[.ea Q 117 [Fd,.pointer L,.bool false,.bool false,.bool false,.pointer none,.nilFunc,.nilFunc]] }) (D.t le) ((jc.t fd).t rc)
    ⟨P.zd,P.od,P.md,P.Tb,P.nb,P.zh,rc.B _ _ P.now,P.Vh.up ha.r rc,wl ▸ to,P.out,P.Tc.imp λ_ _ _ q=>q.up rc,?_,P.Ya,?_⟩ (Ze.up le (fd.t rc) m) (f.perm ?_)
   ·refine Af.snoc ⟨Fd,L,.pointer none,.nilFunc,.nilFunc,rfl,ro,of.up rc,rfl,rfl,rfl⟩<|P.Ld.imp λ_ _ _ q=>q.up ha.r rc
   ·show (z.t.Db++[_]).length<=31;rw [List.length_append];simp only [List.length_cons,List.length_nil];omega
   ·simp only [ke.res,Sc.task,wl,List.append_assoc,List.cons_append,List.nil_append];classical exact List.perm_iff_count.2 (λx=>(by simp only [List.count_append,List.count_cons,List.count_nil];ac_rfl))
 rw [if_neg R] at e;by_cases V:x.Kind=23
 ·rw [if_pos V] at e;obtain ⟨a,s,e⟩:=td e;obtain ⟨b,S,e⟩:=td e;by_cases rd:0<=a/\a<(z.t.Db.length:Int) - 1
  ·rw [if_pos rd] at e;cases e;obtain ⟨j,rfl⟩:∃ j:Nat,a=(j:Int):=⟨a.toNat,by omega⟩;have jp:j+1<G.B.length:=by omega
   have Y:G.B[j+1]?=some G.B[j+1]:=List.getElem?_eq_getElem jp;exact LO s S (hL Y) p C N R V g.ic H Tb mk y mt (λJ w' le f=>T _ _ _ h (X:=X) (D.t le) jc (g.up le) ⟨rfl,_,Gd,ge,Y,rfl,Ze.up le .r m⟩ f) F
  ·rw [if_neg rd] at e;cases e
 rw [if_neg V] at e;by_cases Z:x.Kind=24
 ·rw [if_pos Z] at e;obtain ⟨a,s,e⟩:=td e;by_cases rd:0<=a
  ·rw [if_pos rd] at e;obtain ⟨c,Id,e⟩:=td e;cases e;obtain ⟨j,rfl⟩:∃ j:Nat,a=(j:Int):=⟨a.toNat,by omega⟩;obtain ⟨am,q,mp,pp,g1,g2,⟨wf,ap,up,Pi,on,rfl,-⟩,g3⟩:=Af.at g.Ld Id;have nd:=F.perm (rs':=.ea G.Ka 66 [.map (some X.md),.map (some X.Tb),.map (some X.nb),ca z.nodes]::.ea G.Fa 81 [pb G.Ka,X.hc,X.rb,pb X.xb,ca z.t.state,ca z.t.box,ca z.t.qe,X.Ib]::.row X.rb 79 1 ((G.B.drop 1).map vc.mk).length X.se::.ea am 117 [wf,.pointer ap,.bool c.begun,.bool c.going,.bool c.ended,up,Pi,on]::(.row X.Ib 2 1 z.t.out.length X.nh::(X.Tc++(mp++(pp++(X.Ya++rsF)))))) (by simp only [ke.res,g2,List.append_assoc,List.cons_append];classical exact List.perm_iff_count.2 (λx=>(by simp only [List.count_append,List.count_cons,List.count_nil];ac_rfl)));refine VP s (hL (b:=am) g1) p C N R V U Z m.fn g.ic H Tb mk y mt ?_ nd;intro J w' le f;refine Yl T h (X:=X) (D.t le) jc (g.up le) (Ze.up le .r m)<|f.perm ?_;simp only [ke.res,g2,List.append_assoc,List.cons_append]
   classical exact List.perm_iff_count.2 (λx=>(by simp only [List.count_append,List.count_cons,List.count_nil];ac_rfl))
  ·rw [if_neg rd] at e;cases e
 rw [if_neg Z] at e;obtain ⟨q,O,e⟩:=td e;by_cases id:x.Kind=9
 ·rw [if_pos (.inl id)] at O;obtain ⟨b,S,O⟩:=td O;cases O;by_cases W:b=0
  ·rw [if_pos (by simpa using W)] at e;cases e;cases h;exact XP S W p C N R V U Z id H Tb mk y mt (λJ w' le f=>jw (X:=X) (D.t le) jc (g.up le) f) F
  ·rw [if_neg (by simpa using W)] at e;obtain ⟨a,s,e⟩:=td e;obtain ⟨Qc,rg,e⟩:=td e;obtain ⟨v,Pa,e⟩:=td e;cases e;obtain rfl:b=Qc:=Option.some.inj (S.symm.trans rg);exact RR s S Pa W p C N R V U Z id m.fn H Tb mk y mt (λJ w' le f=>Yl T h (X:=X) (D.t le) jc (g.up le) (Ze.up le .r m) f) F
 by_cases ce:x.Kind=10
 ·rw [if_pos (.inr ce)] at O;obtain ⟨b,S,O⟩:=td O;cases O;by_cases W:b=0
  ·rw [if_pos (by simpa using W)] at e;cases e;cases h;exact MO S W p C N R V U Z id ce H Tb mk y mt (λJ w' le f=>jw (X:=X) (D.t le) jc (g.up le) f) F
  ·rw [if_neg (by simpa using W)] at e;obtain ⟨a,s,e⟩:=td e;obtain ⟨Qc,rg,e⟩:=td e;obtain ⟨v,Pa,e⟩:=td e;cases e;obtain rfl:b=Qc:=Option.some.inj (S.symm.trans rg);exact YP s S Pa W p C N R V U Z id ce m.fn H Tb mk y mt (λJ w' le f=>Yl T h (X:=X) (D.t le) jc (g.up le) (Ze.up le .r m) f) F
 rw [if_neg (by rintro (q | q)<;>contradiction)] at O;cases O;rw [if_neg (by decide)] at e;obtain ⟨a,s,e⟩:=td e;obtain ⟨b,S,e⟩:=td e;obtain ⟨v,Pa,e⟩:=td e;cases e;exact JT s S Pa p C N R V U Z id ce m.fn H Tb mk y mt (λJ w' le f=>Yl T h (X:=X) (D.t le) jc (g.up le) (Ze.up le .r m) f) F
theorem goes:∀ n,gj E μb Gb da rsF n
 | 0=>λc z r h=>by rw [lp] at h; cases h
 | n+1=>λc=>by
  have a:gj E μb Gb da rsF n:=goes n;cases c with
  | expr x s k=>exact YR a x s k
  | all l s g k=>exact VT a l s g k
  | stats l s e k=>exact eQ a l s e k
  | lf x s e k=>exact WT a x s e k
  | df k v =>
   cases k with
   | all l s g k=>exact ZR a l s g k v
   | stat l s e k=>exact fQ a l s e k v
   | lf x s e k=>exact aS a x s e k v
  | Hd k l =>
   cases k with
   | ex x k =>
    rintro z r h μ w G X f vs i jc j ⟨q,t,cs,rfl,ma,m⟩ p;obtain ⟨o,b,h⟩:=Uk h;rw [de] at b;exact bU a b h i jc j ma m p
  | vd k =>
   cases k with
   | zero k=>exact bS a k
   | recv bc k=>exact cQ a bc k
   | send bc v k=>exact dQ a bc v k
   | done g=>exact fS a g
   | stats l s e k=>exact XO a l s e k
   | lf x s e k=>exact cS a x s e k
   | fin=>exact XT a
   | cj d=>exact YT a d
  | recv bc k=>exact dS a bc k
  | send bc v k=>exact eS a bc v k
  | resume g v k=>exact aP a g v k
end Go.Proofs.YtafjdiifkckmbaaGreatDoor
set_option maxHeartbeats 20000000
namespace Go.Proofs.YtafjdiifkckmbaaGreatDoor
open Go.Mc Go.Kf Go.Y
variable {E:Ud}{da:World}{rsF:List Ha}
theorem cU {fu:Nat}{z:Sc}{r:Option Sc}(h:yy E fu z=some r){μ:M}{w:World}{G:ae}{X:ke}(a:Bg E μ G z X) (b:fa μ da w (X.res G z rsF)):qc Tryz.prog 18 [pb G.Fa] w wm (Fq r) (λc v w'=>v=.tuple #[]/\∃ J sg d,ha μ J/\G.le sg/\Bg E J sg c d/\fa J da w' (d.res sg c rsF)) (gl μ da rsF):=by
 rw [yy] at h;rw [ke.res] at b;refine jf Tryz.func18 rfl (frm:=_::Kd (ib (Jc (pd [])))) rfl<|aa<|wl<|zc Yb (ba d7) db rfl b d1 Xc rfl ob Ia λj b=>?_;refine aa ?_;refine wl<|zc Yb (ba<|pa d0) db rfl b d1 qd rfl ob Ia λS b=>?_;refine aa ?_;refine Qa ?_;refine wo [15,16,17,18] (by decide) (λn m j=>∃ (J:M) (sg:ae) (d:ke) (k:Option je) (c:Sc) (g:Value),m=bf (.i g::(Pd (bf (ni 15 []))))/\ha μ J/\G.le sg/\Bg E J sg c d/\mu E J sg g k/\Bt E n k c=some r/\fa J da j (d.res sg c rsF)) (by rintro _ _ _ ⟨_,_,_,_,_,_,rfl,_⟩;rfl) fu _ pc ⟨μ,G,X,z.t.qm,z.task λt=>{ t with state:=1,box:=0 },_,rfl,ha.r,ae.le.r,⟨a.zd,a.od,a.md,a.Tb,a.nb,a.zh,a.now,a.Vh,a.ic,a.out,a.Tc,a.Ld,a.Ya,a.Ye⟩,a.Vh,h,b⟩ ?_;rintro n _ t j ⟨J,sg,d,k,c,g,rfl,le,jc,u,f,ma,b⟩;refine aa ?_;cases k with
 | none =>
  obtain rfl:g=.nilFunc:=f;obtain rfl:some c=r:=by cases n<;>exact jo ma
  refine la<|la<|Ph<|wl<|Ai (ba d2) (wa<|tb qd)<|wl<|lK Tryz.underlying77 rfl (.inl ⟨rfl,rfl⟩) (ba<|pa d5) (wa<|tb Vd)<|ah<|gg<|Qr (ba<|pa d6) (λq=>by cases q)<|λ_=>?_;exact Ft<|(λh=>Oo<|Oo<|su h) (bW<|wk rfl<|⟨rfl,J,sg,d,le,jc,u,b⟩)
 | some k =>
  obtain ⟨K,cs,rfl,f⟩:=f;cases n with
  | zero=>cases ma
  | succ n =>
  obtain ⟨l,C,ma⟩:=td ma;refine la<|la<|Ph<|wl<|Ai (ba d2) (wa<|tb qd)<|wl<|lK Tryz.underlying77 rfl (.inr ⟨⟨_,_,_,rfl⟩,rfl⟩) (ba<|pa d5) (wa<|tb Vd)<|ah<|gg<|Qr (ba<|pa d6) (λ_=>?_) (λq=>by cases q);refine Ni<|gg<|Qa<|Ph<|wl<|Ai (ba d2) (wa<|tb Wd)<|wl<|Mu f.fn (ba<|pa d7) qb (goes (μb:=J) (Gb:=sg) n (.vd k) c l C ha.r ae.le.r u ⟨cs,rfl,f⟩ b) ?_ ?_
  ·intro x v w' A D;refine pu (wa<|tb Qd)<|wl<|nr (ba<|pa d8) (wa Eb)<|ah<|(λh=>bn<|dj h) ?_;cases l with
   | none=>cases A
   | some y =>
   cases A;obtain ⟨k',F⟩:=x;obtain ⟨o,H,L,p,N,O,Q,s⟩:=D;exact ⟨n,_,_,rfl,(rn<|Gh<|Ik<|rn<|Bq Uj),⟨o,H,L,k',F,_,rfl,le.t p,jc.t N,O,Q,ma,s⟩,Nat.lt_succ_self _⟩
  ·intro e w' B R;cases l with
   | some y=>cases B
   | none =>
   obtain rfl:=jo ma;cases B;obtain ⟨o,p,s⟩:=R;exact (λh=>fH<|WL<|fH h) (WG (P:=Tryz.prog) (fn:=Tryz.f18) ⟨o,le.t p,s⟩)
end Go.Proofs.YtafjdiifkckmbaaGreatDoor
set_option maxHeartbeats 4000000
namespace Go.Proofs.YtafjdiifkckmbaaGreatDoor
open Go.Mc Go.Kf Go.Y
structure jv (E:Ud) (μ:M) (G:ae) (t:Ad) (X:ke):Prop where
 now:G.B[t.now]?=some X.xb
 Vh:mu E μ G X.hc t.qm
 ic:qa μ X.se ((G.B.drop 1).map vc.mk)
 out:qa μ X.nh t.out
 Tc:Af (uq G) t.fe G.A X.Tc
 Ld:Af (iv E μ G) t.Db G.B X.Ld
 Ye:t.Db.length<=31
def xr (t:Ad) (G:ae) (X:ke):List Ha :=
 .ea G.Fa 81 [pb G.Ka,X.hc,X.rb,pb X.xb,ca t.state,ca t.box,ca t.qe,X.Ib]::
 .row X.rb 79 1 ((G.B.drop 1).map vc.mk).length X.se::.row X.Ib 2 1 t.out.length X.nh::(X.Tc++X.Ld)
structure Zw (E:Ud) (μ:M) (bb:List Nat) (bs:List ed) (nd:Int) (X:ke):Prop where
 zd:0<=nd
 od:nd<=20000
 md:Vf μ X.md E.defs
 Tb:Vf μ X.Tb X.ej
 nb:Vf μ X.nb E.order
 zh:∀ (n:Ge) (i b:Nat),Oa E.order n=some (i:Int)->bb[i]?=some b->Oa X.ej n=some ⟨some b⟩
 Ya:Af (au μ) bs bb X.Ya
def oq (Ka:Nat) (nd:Int) (X:ke):List Ha:=.ea Ka 66 [.map (some X.md),.map (some X.Tb),.map (some X.nb),ca nd]::X.Ya
def mh (E:Ud) (μ:M) (Ka:Nat) (bb:List Nat):List Ad->List (ae×ke)->Prop
 | [],[]=>True
 | t::na,i::is=>i.1.Ka=Ka/\i.1.bb=bb/\jv E μ i.1 t i.2/\mh E μ Ka bb na is
 | _,_=>False
def Xh:List Ad->List (ae×ke)->List Ha
 | t::na,i::is=>xr t i.1 i.2++Xh na is
 | _,_=>[]
section
variable {Jg α:Type}{V:Jg->Value}{r:Except Jg α}{R:α->Value->World->Prop}{E:World->Prop}
variable {E:Ud}{μ J:M}{Ka:Nat}{bb:List Nat}{bs:List ed}{nd:Int}{X wu:ke}{G:ae}{t:Ad}
theorem jv.up (h:jv E μ G t X) (l:ha μ J):jv E J G t X:=⟨h.now,h.Vh.up l .r,h.ic.up l,h.out.up l,h.Tc,h.Ld.imp λ_ _ _ k=>k.up l .r,h.Ye⟩
theorem Zw.up (h:Zw E μ bb bs nd X) (l:ha μ J):Zw E J bb bs nd X:=⟨h.zd,h.od,h.md.up l,h.Tb.up l,h.nb.up l,h.zh,h.Ya.imp λ_ _ _ k=>k.up l⟩
theorem mh.up (l:ha μ J):∀ {na:List Ad}{is:List (ae×ke)},mh E μ Ka bb na is->mh E J Ka bb na is
 | [],[],_=>trivial
 | t::na,i::is,⟨a,b,c,d⟩=>⟨a,b,c.up l,mh.up l d⟩
 | [],_::_,h=>h.elim
 | _::_,[],h=>h.elim
theorem mh.cut:∀ {pre na:List Ad}{is:List (ae×ke)},mh E μ Ka bb (pre++na) is->∃ a b,is=a++b/\mh E μ Ka bb pre a/\mh E μ Ka bb na b
 | [],na,is,h=>⟨[],is,rfl,trivial,h⟩
 | t::pre,na,i::is,⟨c,d,e,f⟩=>by
  obtain ⟨a,b,rfl,k1,g⟩:=mh.cut f;exact ⟨i::a,b,rfl,⟨c,d,e,k1⟩,g⟩
 | _::_,_,[],h=>h.elim
theorem mh.glue:∀ {pre na:List Ad}{b a:List (ae×ke)},mh E μ Ka bb pre b->mh E μ Ka bb na a->mh E μ Ka bb (pre++na) (b++a)
 | [],na,[],a,_,h=>h
 | t::pre,na,i::b,a,⟨c,d,e,f⟩,h=>⟨c,d,e,mh.glue f h⟩
 | [],_,_::_,_,h,_=>h.elim
 | _::_,_,[],_,h,_=>h.elim
theorem mh.res:∀ {pre na:List Ad}{a b:List (ae×ke)},mh E μ Ka bb pre a->Xh (pre++na) (a++b)=Xh pre a++Xh na b
 | [],na,[],b,_=>rfl
 | t::pre,na,i::a,b,⟨d,e,f,c⟩=>by
  show xr t i.1 i.2++Xh (pre++na) (a++b)=(xr t i.1 i.2++Xh pre a)++Xh na b;rw [mh.res c,List.append_assoc]
 | [],_,_::_,_,h=>h.elim
 | _::_,_,[],_,h=>h.elim
theorem mh.len:∀ {na:List Ad}{is:List (ae×ke)},mh E μ Ka bb na is->na.length=is.length
 | [],[],_=>rfl
 | t::na,i::is,⟨_,_,_,a⟩=>by simp [mh.len a]
 | [],_::_,h=>h.elim
 | _::_,[],h=>h.elim
theorem _root_.Go.Kf.qc.mono {f:FuncId}{args:List Value}{w:World}{R R':α->Value->World->Prop}{F b:World->Prop}(h:qc Tryz.prog f args w V r R F) (d:∀ x v w',R x v w'->R' x v w') (g:∀ w',F w'->b w'):qc Tryz.prog f args w V r R' b :=
 ⟨Calls.mono h.out λe w' k=>by
  cases e with
  | returned v=>obtain ⟨x,a,k⟩:=k; exact ⟨x,a,d _ _ _ k⟩
  | panicked c=>obtain ⟨e,a,i,k⟩:=k; exact ⟨e,a,i,g _ k⟩
  | outgrown=>exact k⟩
def MG (S X:ke):ke:={ S with hc:=X.hc,rb:=X.rb,Ib:=X.Ib,xb:=X.xb,se:=X.se,nh:=X.nh,Tc:=X.Tc,Ld:=X.Ld }
theorem Bg.join (a:Zw E μ G.bb bs nd wu) (b:jv E μ G t X):Bg E μ G ⟨t,bs,nd⟩ (MG wu X):=
 ⟨a.zd,a.od,a.md,a.Tb,a.nb,a.zh,b.now,b.Vh,b.ic,b.out,b.Tc,b.Ld,a.Ya,b.Ye⟩
theorem Bg.part {z:Sc}(h:Bg E μ G z X):Zw E μ G.bb z.boxes z.nodes X/\jv E μ G z.t X :=
 ⟨⟨h.zd,h.od,h.md,h.Tb,h.nb,h.zh,h.Ya⟩,⟨h.now,h.Vh,h.ic,h.out,h.Tc,h.Ld,h.Ye⟩⟩
end
structure ks (E:Ud) (μ:M) (Ka:Nat) (bb sh:List Nat) (na:List Ad) (bs:List ed) (nd:Int) (S:ke) (L:List (ae×ke)):Prop where
 yf:Zw E μ bb bs nd S
 all:mh E μ Ka bb na L
 Fa:sh=L.map λi=>i.1.Fa
def tj (Ka:Nat) (nd:Int) (S:ke) (na:List Ad) (L:List (ae×ke)) (Ye:List Ha):List Ha:=oq Ka nd S++(Xh na L++Ye)
section
variable {E:Ud}{da:World}{rsF:List Ha}{μ:M}{w:World}{Ka:Nat}{bb sh:List Nat}{pre na:List Ad}{t:Ad}{bs:List ed}{nd:Int}{S:ke}{L:List (ae×ke)}
theorem bP {fu:Nat}{r:Option Sc}(h:yy E fu ⟨t,bs,nd⟩=some r) (o:ks E μ Ka bb sh (pre++t::na) bs nd S L) (p:fa μ da w (tj Ka nd S (pre++t::na) L rsF)){b:Nat}(f:sh[pre.length]?=some b) :
  qc Tryz.prog 18 [pb b] w wm (Fq r) (λz v w'=>v=.tuple #[]/\∃ J g j,ha μ J/\ks E J Ka bb sh (pre++z.t::na) z.boxes z.nodes g j/\fa J da w' (tj Ka z.nodes g (pre++z.t::na) j rsF)) (gl μ da rsF):=by
 obtain ⟨q,s,rfl⟩:=o;obtain ⟨c,a,rfl,oa,d⟩:=mh.cut s;cases a with
 | nil=>exact d.elim
 | cons i a =>
 obtain ⟨rfl,rfl,u,d⟩:=d;have y:pre.length=c.length:=mh.len oa;obtain rfl:i.1.Fa=b:=by
  rw [y] at f;simpa using f
 have A:=Bg.join q u;have B:=p.perm (rs':=(MG S i.2).res i.1 ⟨t,bs,nd⟩ (Xh pre c++(Xh na a++rsF))) (by
  simp only [tj,oq,mh.res oa,Xh,xr,ke.res,MG,List.append_assoc,List.cons_append]
  classical exact List.perm_iff_count.2 (λx=>(by simp only [List.count_append,List.count_cons,List.count_nil];ac_rfl)))
 refine (cU (rsF:=Xh pre c++(Xh na a++rsF)) h A B).mono ?_ ?_
 ·rintro z v w' ⟨rfl,J,sg,k,le,jc,C,e⟩;obtain ⟨m,D⟩:=Bg.part C;rw [jc.bb] at m;have n:=mh.up le oa;refine ⟨rfl,J,k,c++(sg,k)::a,le,⟨m,mh.glue n ⟨jc.Ka,jc.bb,D,mh.up le d⟩,?_⟩,e.perm ?_⟩
  ·simp [jc.Fa]
  ·simp only [tj,oq,mh.res n,Xh,xr,ke.res,jc.Ka,List.append_assoc,List.cons_append];classical exact List.perm_iff_count.2 (λx=>(by simp only [List.count_append,List.count_cons,List.count_nil];ac_rfl))
 ·rintro w' ⟨J,l,e⟩;exact ⟨J,l,Gy<|Gy e⟩
theorem cP {c:Bool}(h:nq t bs=some c) (H:ks E μ Ka bb sh (pre++t::na) bs nd S L){mf:Value}{nf:List Value}{Jd:List vc}(K:Jd=bb.map vc.mk) (p:qa μ nf Jd) (N:fa μ da w (.row mf 70 1 Jd.length nf::tj Ka nd S (pre++t::na) L rsF)){b:Nat}(C:sh[pre.length]?=some b) :
  kb Tryz.prog 17 [pb b,mf] w (λv w'=>v=.bool c/\∃ J,ha μ J/\fa J da w' (.row mf 70 1 Jd.length nf::tj Ka nd S (pre++t::na) L rsF)):=by
 obtain ⟨O,P,rfl⟩:=H;obtain ⟨g,e,rfl,oa,a2⟩:=mh.cut P;cases e with
 | nil=>exact a2.elim
 | cons i e =>
 obtain ⟨rfl,rfl,V,a2⟩:=a2;have Q:pre.length=g.length:=mh.len oa;obtain rfl:i.1.Fa=b:=by
  rw [Q] at C;simpa using C
 have r:=N.perm (rs':=.ea i.1.Fa 81 [pb i.1.Ka,i.2.hc,i.2.rb,pb i.2.xb,ca t.state,ca t.box,ca t.qe,i.2.Ib]::.row mf 70 1 Jd.length nf::(oq i.1.Ka nd S++(.row i.2.rb 79 1 ((i.1.B.drop 1).map vc.mk).length i.2.se::.row i.2.Ib 2 1 t.out.length i.2.nh::(i.2.Tc++(i.2.Ld++(Xh pre g++(Xh na e++rsF))))))) (by
  simp only [tj,mh.res oa,Xh,xr,List.append_assoc,List.cons_append]
  classical exact List.perm_iff_count.2 (λx=>(by simp only [List.count_append,List.count_cons,List.count_nil];ac_rfl)))
 rw [nq] at h;have back:∀ {J:M}{w':World},fa J da w' (.ea i.1.Fa 81 [pb i.1.Ka,i.2.hc,i.2.rb,pb i.2.xb,ca t.state,ca t.box,ca t.qe,i.2.Ib]::.row mf 70 1 Jd.length nf::(oq i.1.Ka nd S++(.row i.2.rb 79 1 ((i.1.B.drop 1).map vc.mk).length i.2.se::.row i.2.Ib 2 1 t.out.length i.2.nh::(i.2.Tc++(i.2.Ld++(Xh pre g++(Xh na e++rsF)))))))->fa J da w' (.row mf 70 1 Jd.length nf::tj i.1.Ka nd S (pre++t::na) (g++i::e) rsF):=λd=>d.perm (by
  simp only [tj,mh.res oa,Xh,xr,List.append_assoc,List.cons_append]
  classical exact List.perm_iff_count.2 (λx=>(by simp only [List.count_append,List.count_cons,List.count_nil];ac_rfl)))
 by_cases l:t.state=1
 ·rw [if_pos l] at h;cases h;refine (WO l p r).mono ?_;rintro v w' ⟨J,rfl,le,d⟩;exact ⟨rfl,J,le,back d⟩
 rw [if_neg l] at h;have box:∀ {c:ed},at_ bs t.box=some c->∃ f a k u,at_ Jd t.box=some ⟨f⟩/\ya μ a k c.words/\∀ {J:M}{w':World},fa J da w' (.ea i.1.Fa 81 [pb i.1.Ka,i.2.hc,i.2.rb,pb i.2.xb,ca t.state,ca t.box,ca t.qe,i.2.Ib]::.row mf 70 1 Jd.length nf::(oq i.1.Ka nd S++(.row i.2.rb 79 1 ((i.1.B.drop 1).map vc.mk).length i.2.se::.row i.2.Ib 2 1 t.out.length i.2.nh::(i.2.Tc++(i.2.Ld++(Xh pre g++(Xh na e++rsF))))))) ↔ fa J da w' (.ea i.1.Fa 81 [pb i.1.Ka,i.2.hc,i.2.rb,pb i.2.xb,ca t.state,ca t.box,ca t.qe,i.2.Ib]::.row mf 70 1 Jd.length nf::.ea f 72 [ca c.cap,.slice a c.words.length k]::u):=by
  intro c m;obtain ⟨j,R,T⟩:=sG m;obtain ⟨f,q,D,F,g1,g2,⟨a,k,rfl,U⟩,g3⟩:=Af.at O.Ya T;refine ⟨f,a,k,.ea i.1.Ka 66 [.map (some S.md),.map (some S.Tb),.map (some S.nb),ca nd]::(D++(F++(.row i.2.rb 79 1 ((i.1.B.drop 1).map vc.mk).length i.2.se::.row i.2.Ib 2 1 t.out.length i.2.nh::(i.2.Tc++(i.2.Ld++(Xh pre g++(Xh na e++rsF))))))),by rw [R,K];simp [at_,g1],U,λ{J w'}=>?_⟩;have G:∀ (A B:Ha) (Z:List Ha),(A::B::(oq i.1.Ka nd S++Z)).Perm (A::B::.ea f 72 [ca c.cap,.slice a c.words.length k]::.ea i.1.Ka 66 [.map (some S.md),.map (some S.Tb),.map (some S.nb),ca nd]::(D++(F++Z))):=λA B Z=>by
   simp only [oq,g2,List.append_assoc,List.cons_append]
   classical exact List.perm_iff_count.2 (λx=>(by simp only [List.count_append,List.count_cons,List.count_nil];ac_rfl))
  exact ⟨λh=>h.perm<|G _ _ _,λh=>h.perm (G _ _ _).symm⟩
 by_cases n:t.state=2
 ·rw [if_pos n] at h;refine ra h λc' m h=>?_;cases h;obtain ⟨f,a,k,u,y,z,o⟩:=box m;refine (aQ y l n p z<|o.1 r).mono ?_;rintro v w' ⟨J,rfl,le,d⟩;exact ⟨rfl,J,le,back<|o.2 d⟩
 rw [if_neg n] at h;by_cases s:t.state=3
 ·rw [if_pos s] at h;refine ra h λc' m h=>?_;cases h;obtain ⟨f,a,k,u,y,z,o⟩:=box m;refine (bQ y l n s p z<|o.1 r).mono ?_;rintro v w' ⟨J,rfl,le,d⟩;exact ⟨rfl,J,le,back<|o.2 d⟩
 rw [if_neg s] at h;cases h;refine (UT l n s p r).mono ?_;rintro v w' ⟨J,rfl,le,d⟩;exact ⟨rfl,J,le,back d⟩
end
structure Li where
 Fa:Nat
 xb:Nat
 Ok:Nat
 Ae:Nat
 Qq:Nat
 dn:Value
def Ty (μ:M) (d:va) (i:Li):Prop:=Ie μ i.dn d/\xa μ i.Ok 0 [i.dn]/\xa μ i.Ae 0 [pb i.Fa]/\xa μ i.Qq 0 [ch 29 [pb i.Ae]]
def uy (Ka:Nat) (i:Li):List Ha :=
 [.ea i.Fa 81 [pb Ka,ch 30 [pb i.Ae,pb i.Ok,pb i.Qq],.slice none 0 0,pb i.xb,ca 1,ca 0,ca 0,.slice none 0 0],.ea i.xb 117 [i.dn,.pointer none,.bool false,.bool false,.bool false,.pointer none,.nilFunc,.nilFunc]]
theorem vw {μ:M}{da w:World}{c:List Ha}{T n:Nat}(a:fa μ da w c):fa μ da w (.row (.slice none 0 0) T n 0 []::c):=by
 refine ⟨a.keeps,λr b=>?_,a.ti,a.new,a.bj⟩;rcases List.mem_cons.1 b with rfl | b
 ·exact ⟨by simp,.inl ⟨rfl,rfl⟩⟩
 ·exact a.all r b
def Nw (i:Li):ke:=⟨0,0,0,[],ch 30 [pb i.Ae,pb i.Ok,pb i.Qq],.slice none 0 0,.slice none 0 0,i.xb,[],[],[],[.ea i.xb 117 [i.dn,.pointer none,.bool false,.bool false,.bool false,.pointer none,.nilFunc,.nilFunc]],[]⟩
def Ow (Ka:Nat) (bb:List Nat) (i:Li):ae:=⟨Ka,i.Fa,[],[i.xb],bb⟩
theorem Ty.task {E:Ud}{μ:M}{Ka:Nat}{bb:List Nat}{d:va}{i:Li}(h:Ty μ d i):jv E μ (Ow Ka bb i) (ll d) (Nw i):=by
 obtain ⟨a,c,b,e⟩:=h;refine ⟨rfl,⟨_,_,rfl,?_⟩,qa.nil,qa.nil,trivial,⟨⟨i.dn,none,.pointer none,.nilFunc,.nilFunc,rfl,a,rfl,rfl,rfl,rfl⟩,trivial⟩,(by show 1<=31;decide)⟩;rw [ve];exact ⟨rfl,i.Ae,i.Ok,i.Qq,i.Ae,i.dn,rfl,b,a,c,e,b⟩
def Jk (μ:M):List va->List Li->Prop
 | [],[]=>True
 | d::ds,i::is=>Ty μ d i/\Jk μ ds is
 | _,_=>False
theorem Jk.all {E:Ud}{μ:M}{Ka:Nat}{bb:List Nat}:∀ {ds:List va}{is:List Li},Jk μ ds is->mh E μ Ka bb (ds.map ll) (is.map λi=>(Ow Ka bb i,Nw i))
 | [],[],_=>trivial
 | d::ds,i::is,⟨a,b⟩=>⟨rfl,rfl,a.task,Jk.all b⟩
 | [],_::_,h=>h.elim
 | _::_,[],h=>h.elim
theorem Jk.up {μ J:M}(l:ha μ J):∀ {ds:List va}{is:List Li},Jk μ ds is->Jk J ds is
 | [],[],_=>trivial
 | d::ds,i::is,⟨⟨a,b,c,e⟩,h⟩=>⟨⟨a.up l,b.up l,c.up l,e.up l⟩,Jk.up l h⟩
 | [],_::_,h=>h.elim
 | _::_,[],h=>h.elim
theorem Jk.snoc {μ:M}{d:va}{i:Li}(h:Ty μ d i):∀ {ds:List va}{is:List Li},Jk μ ds is->Jk μ (ds++[d]) (is++[i])
 | [],[],_=>⟨h,trivial⟩
 | _::_,_::_,⟨a,b⟩=>⟨a,Jk.snoc h b⟩
 | [],_::_,h=>h.elim
 | _::_,[],h=>h.elim
def yr (Ka:Nat) (is:List Li):List Ha:=is.flatMap (uy Ka)
theorem Jk.res {μ:M}{da w:World}{Ka:Nat}{bb:List Nat}:∀ {ds:List va}{is:List Li}{a:List Ha},Jk μ ds is->fa μ da w (yr Ka is++a)->fa μ da w (Xh (ds.map ll) (is.map λi=>(Ow Ka bb i,Nw i))++a)
 | [],[],a,_,b=>b
 | d::ds,i::is,a,⟨k,c⟩,b=>by
  have e:yr Ka (i::is)=uy Ka i++yr Ka is:=rfl;rw [e,List.append_assoc] at b;have f:fa μ da w (yr Ka is++(uy Ka i++a)):=b.perm (by
   rw [<- List.append_assoc,<- List.append_assoc];exact List.perm_append_comm.append_right _)
  have g:=Jk.res (bb:=bb) c f;have j:=vw (T:=79) (n:=1) (vw (T:=2) (n:=1) g);refine j.perm ?_;simp only [Xh,List.map_cons,xr,uy,Nw,Ow,ll,List.append_assoc,List.cons_append,List.nil_append,List.drop_succ_cons,List.drop_zero,List.map_nil,List.length_nil]
  classical exact List.perm_iff_count.2 (λx=>(by simp only [List.count_append,List.count_cons,List.count_nil];ac_rfl))
 | [],_::_,_,h,_=>h.elim
 | _::_,[],_,h,_=>h.elim
open Go.RowKit
theorem iN (a b:Value) (w:World) :
  CallsD Tryz.prog 15 #[a,b] .returning w λe c w'=>e=.returned (.tuple #[])/\c=.returning/\w'=w:=by
 refine callsD_of_wpS Tryz.func15 rfl λd cs f=>?_;apply wpS_seq;apply wpS_region;simp [wpOpsS,go_sem,recoverD,f,Tryz.ntmps15,Exit.thenS];refine wpS_of_wp<|xd.out (fr:=[a,b,undef,undef,undef,.nilIface,undef,undef,undef,undef,undef,undef,undef]) (ds:=[])<|Qa<|aa<|wl<|BF Tryz.underlying20 (ba d5) (.inl ⟨rfl,rfl⟩) (wa Wd) ?_;refine aa ?_;refine tl (ba d7) ?_;refine aa ?_;cases d
 simp_all [F,bodyPostS,results,Tryz.results15]
theorem dP {I:M}{da w:World}{rsF:List Ha}{a b:Value}(c:fa I da w rsF):VE Tryz.prog 15 [a,b] w (λv w'=>v=.tuple ⟨[]⟩/\fa I da w' rsF):=
 ⟨(iN a b w).mono λe f w' d=>by
  obtain ⟨rfl,rfl,rfl⟩:=d;exact ⟨rfl,rfl,c⟩⟩
theorem PN {I:M}{da w:World}{rsF:List Ha}{d f:Nat}{x y z a b:Value}(c:fa I da w (.ea d 31 [x,y,z]::.ea f 26 [a,b]::rsF)) :
  CallsD Tryz.prog 15 #[pb d,pb f] (.panicking [{ v:=wm (),recovered:=false }]) w λe g w'=>g=.panicking [{ v:=wm (),recovered:=true }]/\e=.returned (.tuple #[])/\fa I da w' (.ea d 31 [.slice none 0 0,.slice none 0 0,ca 0]::.ea f 26 [ca 10,ca 0]::rsF):=by
 refine callsD_of_wpS Tryz.func15 rfl λh cs i=>?_;apply wpS_seq;apply wpS_region;simp [wpOpsS,go_sem,recoverD,i,Tryz.ntmps15,Exit.thenS];refine wpS_of_wp<|xd.out (fr:=[pb d,pb f,undef,undef,undef,wm (),undef,undef,undef,undef,undef,undef,undef]) (ds:=[]) ?_;refine Qa ?_;refine aa ?_;refine wl<|BF Tryz.underlying20 (ba d5) (.inr ⟨⟨_,_,rfl⟩,rfl⟩) (wa Wd) ?_;refine aa ?_;refine fk (ba d7) ?_;refine aa ?_;refine wl<|HU Tryz.underlying60 rfl (ba d5) (wa Qd) ?_;refine aa ?_;refine tl (ba d9) ?_;refine aa ?_;refine wl<|oc JG c λWf j k c=>?_;refine pu (wa nc) ?_;refine wl<|Kb JG (ba d3) (ba<|pa d0) rfl rfl c d0 rfl za Ia λl c=>?_;refine aa ?_;refine aa ?_;refine wl<|Le Qi BL cb.z (wa<|tb ob) ?_;refine wl<|Le cd pn (cb.o rfl db rfl rfl za cb.z) (wa<|tb Eb) ?_;refine wl<|Kb Qi (ba d0) (ba<|pa d1) rfl rfl c d1 rfl ob Ia λm c=>?_;refine wl<|Kb cd (ba d1) (ba<|pa d2) rfl rfl c d2 rfl Eb Ia λn c=>?_;refine aa ?_;have c:=c.drop ja.z;cases h
 simp_all [F,bodyPostS,results,Tryz.results15]
theorem gQ {I:M}{da w:World}{rsF:List Ha}{c d:Nat}{x y z a b:Value}(f:fa I da w (.ea c 31 [x,y,z]::.ea d 26 [a,b]::rsF)) :
  XI Tryz.prog 15 ([]++[pb c,pb d]) [{ v:=wm (),recovered:=false }] w (λw'=>fa I da w' (.ea c 31 [.slice none 0 0,.slice none 0 0,ca 0]::.ea d 26 [ca 10,ca 0]::rsF)):=
 ⟨(PN f).mono λe i w' g=>by
  obtain ⟨rfl,rfl,h⟩:=g;exact ⟨rfl,h⟩⟩
end Go.Proofs.YtafjdiifkckmbaaGreatDoor
set_option maxHeartbeats 20000000
namespace Go.Proofs.YtafjdiifkckmbaaGreatDoor
open Go.Mc Go.Kf Go.Y
def pq:Code->List Nat->Code
 | c,[]=>c
 | .seq a _,0::p=>pq a p
 | .seq _ b,_::p=>pq b p
 | .block _ c,_::p=>pq c p
 | .loop c,_::p=>pq c p
 | .cond _ a _,0::p=>pq a p
 | .cond _ _ b,_::p=>pq b p
 | c,_=>c
section
variable {E:Ud}{da:World}{rsF:List Ha}{μ:M}{w:World}{Ka:Nat}{bb sh:List Nat}{na:List Ad}{bs:List ed}{nd:Int}{S:ke}{L:List (ae×ke)}
variable {Q:Exit->Act->World->Prop}{ds:List Deferred}{mf Sf:Value}{nf se:List Value}
theorem eP {D oa G H K a5 lb N ld mc O W1 Vb Bd P Cc R T U V W X Y Z Gb gc lc rc fd id md rd wd Fd Id be ce ge ne Ne of wf If dg bi ci ii li pi Pi dl el nl ol pl ul am em lm sm Nm fn on un wn Fn In co io no ro to Do ap ip jp mp pp sp wp Op eq Eq or qr wr Fr Or cs es is ls ms os rs us X1 Y1 Z1 a2 b2 c2 f2 g2 h2 i2 j2 k2 l2 vs ws xs ys Os gt it lt mt rt ut wt bv kv hw kw lw ww rx zx hB AC GE LE NE WF RK PP WP EQ GQ IR FS GT LT ST UV a0 c0 f0:Value}{fu n:Nat}{r:Option (List Ad×List ed×Int)}(h:pr E fu n na bs nd=some r) (b:ks E μ Ka bb sh na bs nd S L) (m2:qa μ nf (bb.map vc.mk)) (n2:qa μ se (sh.map vc.mk))
  (a:fa μ da w (.row Sf 73 1 (sh.map vc.mk).length se::.row mf 70 1 (bb.map vc.mk).length nf::tj Ka nd S na L rsF))
  (o2:∀ (g0 Fg i0 k0 t0 v0 x0 z0 R0 f1 g1 i1 k1 m1 s1:Value) (w':World) (ts':List Ad) (j:List ed) (d:Int) (J:M) (k:ke) (l:List (ae×ke)),r=some (ts',j,d)->ha μ J->ks E J Ka bb sh ts' j d k l ->
   fa J da w' (.row Sf 73 1 (sh.map vc.mk).length se::.row mf 70 1 (bb.map vc.mk).length nf::tj Ka d k ts' l rsF) ->
   Q .normal (F [D,oa,G,H,K,a5,mf,Sf,lb,N,ld,g0,O,Fg,Vb,Bd,P,Cc,R,T,U,V,W,X,Y,Z,Gb,gc,lc,rc,fd,id,md,rd,wd,Fd,Id,be,ce,ge,ne,Ne,of,wf,If,dg,bi,ci,ii,li,pi,Pi,dl,el,nl,ol,pl,ul,am,em,lm,sm,Nm,fn,on,un,wn,Fn,In,co,io,no,ro,to,Do,ap,ip,jp,mp,pp,sp,wp,Op,eq,Eq,or,qr,wr,Fr,Or,cs,es,is,ls,ms,os,rs,us,i0,k0,t0,v0,x0,z0,R0,f1,g1,i1,k1,m1,s1,vs,ws,xs,ys,Os,gt,it,lt,mt,rt,ut,wt,bv,kv,hw,kw,lw,ww,rx,zx,hB,AC,GE,LE,NE,WF,RK,PP,WP,EQ,GQ,IR,FS,GT,LT,ST,UV,a0,c0,f0] ds) w')
  (p2:∀ (g0 Fg i0 k0 t0 v0 x0 z0 R0 f1 g1 i1 k1 m1 s1:Value) (w':World),r=none->gl μ da rsF w'->Q (.panic [{ v:=wm (),recovered:=false }]) (F [D,oa,G,H,K,a5,mf,Sf,lb,N,ld,g0,O,Fg,Vb,Bd,P,Cc,R,T,U,V,W,X,Y,Z,Gb,gc,lc,rc,fd,id,md,rd,wd,Fd,Id,be,ce,ge,ne,Ne,of,wf,If,dg,bi,ci,ii,li,pi,Pi,dl,el,nl,ol,pl,ul,am,em,lm,sm,Nm,fn,on,un,wn,Fn,In,co,io,no,ro,to,Do,ap,ip,jp,mp,pp,sp,wp,Op,eq,Eq,or,qr,wr,Fr,Or,cs,es,is,ls,ms,os,rs,us,i0,k0,t0,v0,x0,z0,R0,f1,g1,i1,k1,m1,s1,vs,ws,xs,ys,Os,gt,it,lt,mt,rt,ut,wt,bv,kv,hw,kw,lw,ww,rx,zx,hB,AC,GE,LE,NE,WF,RK,PP,WP,EQ,GQ,IR,FS,GT,LT,ST,UV,a0,c0,f0] ds) w') :
  xd Tryz.prog (pq ((Tryz.f7.body).getD .skip) [1,1,1,1,1,1,1,0]) Q [D,oa,G,H,K,a5,mf,Sf,lb,N,ld,mc,O,W1,Vb,Bd,P,Cc,R,T,U,V,W,X,Y,Z,Gb,gc,lc,rc,fd,id,md,rd,wd,Fd,Id,be,ce,ge,ne,Ne,of,wf,If,dg,bi,ci,ii,li,pi,Pi,dl,el,nl,ol,pl,ul,am,em,lm,sm,Nm,fn,on,un,wn,Fn,In,co,io,no,ro,to,Do,ap,ip,jp,mp,pp,sp,wp,Op,eq,Eq,or,qr,wr,Fr,Or,cs,es,is,ls,ms,os,rs,us,X1,Y1,Z1,a2,b2,c2,f2,g2,h2,i2,j2,k2,l2,vs,ws,xs,ys,Os,gt,it,lt,mt,rt,ut,wt,bv,kv,hw,kw,lw,ww,rx,zx,hB,AC,GE,LE,NE,WF,RK,PP,WP,EQ,GQ,IR,FS,GT,LT,ST,UV,a0,c0,f0] ds w:=by
 refine la<|Ph<|wl<|nr db (wa<|tb ob)<|ah<|gg<|Qa<|wo (13::rg 98 13) (by decide) (λn m C=>∃ (J:M) (ts':List Ad) (j:List ed) (d:Int) (k:ke) (l:List (ae×ke)) (pc:Bool),m=Pd (hh (.i (.bool pc)::(hh (Rc 13 (Te (Vc (Pd (Eg (Zc 98 (vj 108 (Vc (Vc []))))))))))))/\ha μ J/\ks E J Ka bb sh ts' j d k l/\(if pc=true then pr E fu n ts' j d=some r else r=some (ts',j,d))/\fa J da C (.row Sf 73 1 (sh.map vc.mk).length se::.row mf 70 1 (bb.map vc.mk).length nf::tj Ka d k ts' l rsF)) (by rintro _ _ _ ⟨_,_,_,_,_,_,_,rfl,_⟩;rfl) n _ pc ⟨μ,na,bs,nd,S,L,true,rfl,ha.r,b,by simpa using h,a⟩ ?_;clear h b a;rintro n _ t C ⟨Ta,M1,q2,r2,s2,t2,pc,rfl,A,b,h,a⟩;refine aa<|la ?_;refine aa ?_;cases pc with
 | false =>
  refine Qr (ba<|sd d8) (λq=>by cases q)<|λ_=>?_;refine Ft<|(λh=>Oo<|Oo<|su h) ?_;rw [if_neg (by simp)] at h;exact o2 _ _ _ _ _ _ _ _ _ _ _ _ _ _ _ _ _ _ _ _ _ _ h A b a
 | true =>
  rw [if_pos rfl] at h;cases n with
  | zero=>cases h
  | succ n =>
  rw [pr] at h;refine ra h λu2 N1 h=>(Qr (ba<|sd d8) (λ_=>?_) (λq=>by cases q));refine Ni<|gg<|Qa<|la<|Ph<|wl<|nr db (wa<|tb ob)<|ah<|gg<|la<|Ph<|wl<|Ai (ba d7) (wa<|Jh Td)<|wl<|xF Tryz.underlying68 (ba<|sd d9) (a.get d0).vp (wa<|Lb za)<|wl<|Ai db (wa<|Lb ob)<|ah<|gg<|Qa<|wo (13::rg 102 9) (by decide) (λn m C=>∃ (J:M) (pre rest:List Ad) (j:List ed) (d:Int) (k:ke) (l:List (ae×ke)) (pc:Bool),m=Pd (hh (.i (.bool pc)::(hh (Rc 13 (Te (Vc (Pd (ui (.i (ca (pre.length:Int))::(Wn 102 (Vc (Vc []))))))))))))/\ha Ta J/\ks E J Ka bb sh (pre++rest) j d k l/\cq E fu pre rest j d pc=some u2/\rest.length<n/\fa J da C (.row Sf 73 1 (sh.map vc.mk).length se::.row mf 70 1 (bb.map vc.mk).length nf::tj Ka d k (pre++rest) l rsF)) (by rintro _ _ _ ⟨_,_,_,_,_,_,_,_,rfl,_⟩;rfl) (M1.length+1) _ (Ik<|Cp<|Gh<|Cp<|Aq<|fm<|dm<|Ik<|UG<|Gh<|cz<|dm<|dm Uj) ⟨Ta,[],M1,q2,r2,s2,t2,false,rfl,ha.r,b,N1,Nat.lt_succ_self _,a⟩ ?_;clear N1 b a;rintro m _ hb J2 ⟨v2,pre,rest,t1,p,s,u,pc,rfl,y,b,f,hm,a⟩;refine CG (St<|SG<|gx<|SG<|eC<|GB<|xp<|St<|bz<|gx<|OL<|xp<|xp Hl) ?_;have O1:sh.length=pre.length+rest.length:=by
   have:=mh.len b.all;rw [b.Fa,List.length_map,<- this,List.length_append]
  refine la<|Ph<|wl<|pU (ba<|Da d1) (ba<|Da d0) (wa<|Lb Eb)<|ah<|gg<|la<|Rb (ba<|Da d2) (λw2=>?_)<|λx2=>?_
  ·rw [List.length_map] at w2;cases rest with
   | nil=>simp only [List.length_nil] at O1; omega
   | cons Kl rest =>
   rw [cq] at f;obtain ⟨c,y2,f⟩:=td f;have z2:pre.length<sh.length:=by omega
   have v1:sh[pre.length]?=some sh[pre.length]:=List.getElem?_eq_getElem z2;have A2:at_ (sh.map vc.mk) (pre.length:Int)=some ⟨sh[pre.length]⟩:=by simp [at_,v1]
   have B2:(sh.map vc.mk).length<=maxLen:=by
    rcases (a.get d0).2 with ⟨-,q⟩ | ⟨g,o,cap,cur,-,-,K2,L2,-⟩
    ·omega
    ·omega
   have P1:Go.Kf.i64 ((pre.length:Int)+1)=some ((pre.length:Int)+1):=if_pos (by
    rw [List.length_map] at B2;have:maxLen<=9223372036854775807:=by decide
    omega)
   cases m with
   | zero=>omega
   | succ m =>
   refine Ni<|gg<|la<|Qa<|la<|Ph ?_;obtain ⟨ka,hd,M2,C2,f5,m6⟩:=Row.elem (α:=vc) (a.get d0) (n2.up (A.t y)) rfl A2;obtain rfl:=m6;refine wl<|np Tryz.underlying68 Xt (ba<|sd d9) (ba<|Da d1) C2 (wa<|Lb nc)<|wl<|hp Xt (ba<|Da d3) ((f5 _ _<|a.get d0).one d0) (wa<|Lb Xc)<|wl<|nr (ba<|Da d4) (wa<|tb nc)<|ah<|gg<|la<|Ph<|wl<|Ai (ba<|pa d3) (wa<|Lb qd)<|wl<|Ai (ba d6) (wa<|Lb Vd) ?_;have Q1:=a.perm (rs':=.row mf 70 1 (bb.map vc.mk).length nf::tj Ka p s (pre++Kl::rest) u (.row Sf 73 1 (sh.map vc.mk).length se::rsF)) (by simp only [tj];classical exact List.perm_iff_count.2 (λx=>(by simp only [List.count_append,List.count_cons,List.count_nil];ac_rfl)));refine wl<|jd SS yc (ua (ba<|Da d5)<|ua (ba<|Da d6) qb) (cP y2 b rfl (m2.up<|A.t y) Q1 v1) ?_;clear a Q1;rintro _ N2 ⟨rfl,R1,B,a⟩;refine pu (wa<|Lb Wd)<|ah<|gg ?_;have S1:ks E R1 Ka bb sh (pre++Kl::rest) t1 p s u:=⟨b.yf.up B,b.all.up B,b.Fa⟩;cases c with
   | false =>
    rw [if_neg (by simp)] at f;refine Qr (ba<|Da d7) (λq=>by cases q)<|λ_=>?_;refine Ni<|(λh=>bn<|gg h) (Ph<|wl<|yo (ba<|Da d1) db P1 (wa<|Lb<|tb za)<|wl<|Ai (ba<|Da<|pa d0) (wa<|Lb ob)<|ah<|dj ?_);have x1:=a.perm (rs':=.row Sf 73 1 (sh.map vc.mk).length se::.row mf 70 1 (bb.map vc.mk).length nf::tj Ka p s (pre++Kl::rest) u rsF) (by simp only [tj];classical exact List.perm_iff_count.2 (λx=>(by simp only [List.count_append,List.count_cons,List.count_nil];ac_rfl)));exact ⟨m,_,_,rfl,(Ik<|Cp<|Gh<|Cp<|Aq<|fm<|dm<|Ik<|UG<|Gh<|cz<|dm<|dm Uj),⟨R1,pre++[Kl],rest,t1,p,s,u,pc,by rw [show (((pre++[Kl]).length:Nat):Int)=(pre.length:Int)+1 by simp],y.t B,by simpa using S1,f,by simp only [List.length_cons] at hm;omega,by simpa using x1⟩,Nat.lt_succ_self _⟩
   | true =>
    rw [if_pos rfl] at f;obtain ⟨z,D2,f⟩:=td f;refine Qr (ba<|Da d7) (λ_=>?_) (λq=>by cases q);refine la<|Ph<|wl<|Ai (ba<|pa d3) (wa<|Lb Qd) ?_;have x1:=a.perm (rs':=tj Ka p s (pre++Kl::rest) u ([.row Sf 73 1 (sh.map vc.mk).length se,.row mf 70 1 (bb.map vc.mk).length nf]++rsF)) (by simp only [tj,List.cons_append,List.nil_append];classical exact List.perm_iff_count.2 (λx=>(by simp only [List.count_append,List.count_cons,List.count_nil];ac_rfl)));refine wl<|Mu TS yc (ua (ba<|Da d8) qb) (bP D2 S1 x1 v1) ?_ ?_
    ·rintro x v E2 T1 ⟨rfl,H1,U1,V1,K1,F2,L1⟩;cases z with
     | none=>cases T1
     | some z =>
     cases T1;refine pu (wa<|Lb Td)<|ah<|gg<|Ph<|wl<|nr db (wa<|tb ob)<|ah<|(λh=>bn<|gg h) (Ph<|wl<|yo (ba<|Da d1) db P1 (wa<|Lb<|tb za)<|wl<|Ai (ba<|Da<|pa d0) (wa<|Lb ob)<|ah<|dj ?_);have G2:=L1.perm (rs':=.row Sf 73 1 (sh.map vc.mk).length se::.row mf 70 1 (bb.map vc.mk).length nf::tj Ka x.nodes U1 (pre++x.t::rest) V1 rsF) (by simp only [tj,List.cons_append,List.nil_append];classical exact List.perm_iff_count.2 (λx=>(by simp only [List.count_append,List.count_cons,List.count_nil];ac_rfl)));exact ⟨m,_,_,rfl,(Ik<|Cp<|Gh<|Cp<|Aq<|fm<|dm<|Ik<|UG<|Gh<|cz<|dm<|dm Uj),⟨H1,pre++[x.t],rest,x.boxes,x.nodes,U1,V1,true,by rw [show (((pre++[x.t]).length:Nat):Int)=(pre.length:Int)+1 by simp],y.t (B.t K1),by simpa using F2,f,by simp only [List.length_cons] at hm;omega,by simpa using G2⟩,Nat.lt_succ_self _⟩
    ·intro e E2 H2 I2;cases z with
     | some z=>cases H2
     | none =>
     cases f;cases h;obtain ⟨H1,K1,L1⟩:=I2;repeat (first | refine fH ?_ | refine WL ?_)
     exact p2 _ _ _ _ _ _ _ _ _ _ _ _ _ _ _ _ rfl ⟨H1,A.t<|y.t<|B.t K1,Gy L1⟩
  ·rw [List.length_map] at x2;cases rest with
   | cons Kl rest=>simp only [List.length_cons] at O1; omega
   | nil =>
   rw [cq] at f;cases f;refine Ft<|(λh=>Oo<|Oo<|su h) ((λh=>bn<|dj h) ?_);rw [List.append_nil] at b a;exact ⟨n,_,_,rfl,(Ik (Cp (Gh (Cp (Aq (fm (dm (Ik (yW (ln (ov (dm (dm Uj))))))))))))),⟨v2,pre,t1,p,s,u,pc,rfl,A.t y,b,by
    cases pc
    ·simpa using h.symm
    ·simpa using h,a⟩,Nat.lt_succ_self _⟩
end
theorem sk {κ β:Type}[DecidableEq κ]{k k':κ}{x:β}:∀ {m:List (κ×β)},Oa (kd m k x) k'=if k'=k then some x else Oa m k'
 | []=>by
  simp only [kd,Oa];by_cases h:k'=k
  ·subst h;simp
  ·simp [h,Ne.symm h]
 | (a,b)::m=>by
  have c:=sk (k:=k) (k':=k') (x:=x) (m:=m);simp only [kd];split
  ·rename_i h;subst h;simp only [Oa];by_cases h:k'=a
   ·subst h;simp
   ·simp [h,Ne.symm h]
  ·rename_i h;simp only [Oa] at c ⊢;by_cases d:a=k'
   ·subst d;simp [h]
   ·simp [d,c]
def Ur (O:List (Ge×Int)) (bb:List Nat) (ej:List (Ge×om)):Prop:=∀ n i,Oa O n=some i->∃ (j b:Nat),i=(j:Int)/\bb[j]?=some b/\Oa ej n=some ⟨some b⟩
theorem Ur.nil:Ur [] [] []:=λn i h=>by cases h
theorem Ur.put {O:List (Ge×Int)}{bb:List Nat}{ej:List (Ge×om)}(h:Ur O bb ej){n:Ge}{b:Nat}:Ur (kd O n (bb.length:Int)) (bb++[b]) (kd ej n ⟨some b⟩):=by
 intro d i a;rw [sk] at a ⊢;by_cases e:d=n
 ·rw [if_pos e] at a ⊢;cases a;exact ⟨bb.length,b,rfl,by simp,rfl⟩
 ·rw [if_neg e] at a ⊢;obtain ⟨j,Qc,f,c,g⟩:=h _ _ a;exact ⟨j,Qc,f,by rw [List.getElem?_append_left (List.getElem?_eq_some_iff.1 c).1];exact c,g⟩
theorem Ur.zh {O:List (Ge×Int)}{bb:List Nat}{ej:List (Ge×om)}(h:Ur O bb ej) (n:Ge) (i b:Nat) (c:Oa O n=some (i:Int)) (d:bb[i]?=some b):Oa ej n=some ⟨some b⟩:=by
 obtain ⟨j,Qc,e,a,f⟩:=h _ _ c;obtain rfl:i=j:=by omega
 rw [d] at a;cases a;exact f
structure GL (μ:M) (u:Un) (dl:List va) (is:List Li) (bb:List Nat) (ej:List (Ge×om)) (a:List Ha) (b:List MapEntry) (Hj:Nat) (c:List MapEntry) (d:Nat) (e:List MapEntry) (f:Nat) (nf se:List Value):Prop where
 na:u.na=dl.map ll
 new:Jk μ dl is
 rt:qa μ se ((is.map Li.Fa).map vc.mk)
 nz:qa μ nf (bb.map vc.mk)
 Ya:Af (au μ) u.bs bb a
 Pq:oe μ b Hj u.D
 Ki:oe μ c d ej
 cn:oe μ e f u.O
 zh:Ur u.O bb ej
section
variable {da:World}{rsF:List Ha}{μ:M}{w:World}{Ka Po Qo Ro:Nat}{l:List va}{Dd:Option Addr}{Ed:Nat}
variable {Q:Exit->Act->World->Prop}{ds:List Deferred}
theorem hQ {oa wd Fd Id lb lw ld mc be ce Vb Bd ge Cc ne Ne of wf If dg bi ci ii li pi Pi el ww rx zx AC GE LE NE WF RK PP WP EQ GQ IR FS GT LT ST UV a0 c0 f0 g0 i0 k0 t0 v0 x0 z0 R0 f1 g1 i1 k1 m1 s1 t1 v1 x1 H1 K1 L1 M1 N1 O1 P1 Q1 R1 S1 T1 U1 V1 W1 X1 Y1 Z1 a2 b2 c2 f2 g2 h2 i2 j2 k2 l2 m2 nl ol pl ul am em hm lm sm Nm fn on un wn Fn In co io no ro to Do ap ip jp mp pp sp wp Op eq Eq or qr wr Fr Or cs es ls ms os rs us vs ws xs ys Os gt it lt mt:Value}(hB:∀ d,8<=d->ml Q d) (X3:l.length<=4294967295) (V:ya μ Dd Ed l)
  (c:fa μ da w (.map Ro [] 0::.map Qo [] 0::.map Po [] 0::.ea Ka 66 [.map (some Po),.map (some Qo),.map (some Ro),ca 0]::rsF))
  (n2:∀ (xf Kc rh xg o2 p2 q2 r2 s2 t2 u2 v2 w2 x2 y2 z2 A2 B2 C2 D2 E2 F2 G2 H2 I2 J2 K2 L2 M2 N2 O2 P2 Q2 R2 S2 T2 U2 V2 W2 X2 Y2 Z2 a3 b3 c3 e3 f3 g3 h3 i3 j3 k3 l3 m3 n3 o3 p3 q3 r3 s3 t3 u3 v3 w3 x3 y3 z3 A3 B3 C3:Value) (w':World) (J:M) (dl:List va) (is:List Li) (bb:List Nat) (ej:List (Ge×om)) (v:List Ha) (K:List MapEntry) (Hj:Nat) (B:List MapEntry) (C:Nat) (E:List MapEntry) (G:Nat) (nf se:List Value) (mf Sf:Value),ha μ J->GL J (Mf l) dl is bb ej v K Hj B C E G nf se->fa J da w' (.map Ro E G::.map Qo B C::.map Po K Hj::.ea Ka 66 [.map (some Po),.map (some Qo),.map (some Ro),ca 0]::.row mf 70 1 (bb.map vc.mk).length nf::.row Sf 73 1 ((is.map Li.Fa).map vc.mk).length se::(v++(yr Ka is++rsF)))->Q .normal (F [.slice Dd l.length Ed,oa,wd,Fd,Id,pb Ka,mf,Sf,xf,Kc,rh,mc,be,ce,Vb,Bd,ge,Cc,ne,Ne,of,wf,If,dg,bi,ci,ii,li,pi,Pi,el,xg,o2,p2,q2,r2,s2,t2,u2,v2,w2,x2,y2,z2,A2,B2,C2,D2,E2,F2,G2,H2,I2,J2,K2,L2,M2,N2,O2,P2,Q2,R2,S2,T2,U2,V2,W2,X2,Y2,Z2,a3,b3,c3,e3,f3,g3,h3,i3,j3,k3,l3,m3,n3,o3,p3,q3,r3,s3,t3,u3,v3,w3,x3,y3,z3,A3,B3,C3,nl,ol,pl,ul,am,em,hm,lm,sm,Nm,fn,on,un,wn,Fn,In,co,io,no,ro,to,Do,ap,ip,jp,mp,pp,sp,wp,Op,eq,Eq,or,qr,wr,Fr,Or,cs,es,ls,ms,os,rs,us,vs,ws,xs,ys,Os,gt,it,lt,mt] ds) w') :
  xd Tryz.prog (pq ((Tryz.f7.body).getD .skip) [1,1,1,1,1,1,0]) Q [.slice Dd l.length Ed,oa,wd,Fd,Id,pb Ka,.slice none 0 0,.slice none 0 0,lb,lw,ld,mc,be,ce,Vb,Bd,ge,Cc,ne,Ne,of,wf,If,dg,bi,ci,ii,li,pi,Pi,el,ww,rx,zx,AC,GE,LE,NE,WF,RK,PP,WP,EQ,GQ,IR,FS,GT,LT,ST,UV,a0,c0,f0,g0,i0,k0,t0,v0,x0,z0,R0,f1,g1,i1,k1,m1,s1,t1,v1,x1,H1,K1,L1,M1,N1,O1,P1,Q1,R1,S1,T1,U1,V1,W1,X1,Y1,Z1,a2,b2,c2,f2,g2,h2,i2,j2,k2,l2,m2,nl,ol,pl,ul,am,em,hm,lm,sm,Nm,fn,on,un,wn,Fn,In,co,io,no,ro,to,Do,ap,ip,jp,mp,pp,sp,wp,Op,eq,Eq,or,qr,wr,Fr,Or,cs,es,ls,ms,os,rs,us,vs,ws,xs,ys,Os,gt,it,lt,mt] ds w:=by
 refine la<|Ph<|wl<|Ai (ba d0) (wa<|Ce ob)<|wl<|SQ Tryz.underlying22 (ba<|La d1) (wa<|Ce Eb)<|wl<|Ai db (wa<|Ce nc)<|ah<|gg<|Qa<|wo (8::9::10::rg 34 64) (by decide) (λn m W=>∃ (J:M) (i:Nat) (dl:List va) (is:List Li) (bb:List Nat) (ej:List (Ge×om)) (v:List Ha) (K:List MapEntry) (Hj:Nat) (B:List MapEntry) (C:Nat) (E:List MapEntry) (G:Nat) (nf se:List Value) (mf Sf:Value),m=hj (.i mf::.i Sf::(vj 8 (Vc (bf (.i (ca (i:Int))::(rj 34 (Zc 84 (ni 94 (Te (qh []))))))))))/\(bb.length<=i/\is.length<=i/\i<=l.length)/\l.length<n+i/\ha μ J/\GL J ((l.take i).foldl Wh ⟨[],[],[],[]⟩) dl is bb ej v K Hj B C E G nf se/\fa J da W (.map Ro E G::.map Qo B C::.map Po K Hj::.ea Ka 66 [.map (some Po),.map (some Qo),.map (some Ro),ca 0]::.row mf 70 1 (bb.map vc.mk).length nf::.row Sf 73 1 ((is.map Li.Fa).map vc.mk).length se::(v++(yr Ka is++rsF)))) (by rintro _ _ _ ⟨_,_,_,_,_,_,_,_,_,_,_,_,_,_,_,_,_,rfl,_⟩;rfl) (l.length+1) _ (Rw<|Gh<|Gh<|ov<|dm<|rn<|Gh<|FB<|ln<|Bq<|fm<|Qw Uj) ⟨μ,0,[],[],[],[],[],[],0,[],0,[],0,[],[],_,_,rfl,⟨by simp,by simp,by omega⟩,by omega,ha.r,⟨rfl,trivial,qa.nil,qa.nil,trivial,oe.nil,oe.nil,oe.nil,Ur.nil⟩,?_⟩ ?_
 ·refine (vw (T:=73) (n:=1)<|vw (T:=70) (n:=1) c).perm ?_;simp only [yr,List.flatMap_nil,List.map_nil,List.length_nil,List.nil_append]
  classical exact List.perm_iff_count.2 (λx=>(by simp only [List.count_append,List.count_cons,List.count_nil];ac_rfl))
 clear c;rintro n _ t W ⟨Ta,i,dl,is,bb,ej,v,K,Hj,B,C,E,G,nf,se,mf,Sf,rfl,⟨Y3,Z3,a4⟩,b4,N,k,c⟩;refine aa<|la<|Rb (ba<|La d4) (λc4=>?_)<|λe4=>?_
 ·have D3:i<l.length:=by omega
  have E3:l[i]?=some l[i]:=List.getElem?_eq_getElem D3;obtain ⟨d,ut⟩:∃ d,l[i]?=some d:=⟨_,E3⟩;have Ea:at_ l (i:Int)=some d:=by simpa [at_] using ut
  have X:l.take (i+1)=l.take i++[d]:=by rw [List.take_add_one,ut];rfl
  have Y:Go.Kf.i64 ((i:Int)+1)=some ((i:Int)+1):=if_pos (by omega);have V:=V.up N;have F3:=k.Pq;have wt:=k.Ki;have fu:=k.cn;have G3:=k.nz;have H3:=k.rt;cases n with
  | zero=>omega
  | succ n =>
  refine aa<|la<|Qa ?_;refine aa ?_;obtain ⟨ka,hd,f4,I3,L,m6⟩:=Ub.elem V Ea;obtain ⟨Cb,Rf,ld,Z,rfl,Gb,gc⟩:=m6;refine wl<|np Tryz.underlying22 Ug (ba<|La d6) (ba<|La d7) I3 (wa<|Ce Qd) ?_;refine aa ?_;refine Sd c λW c=>(mg (i:=0) [0,1,2,3,9] (λe Oc f g h j=>hB _ (by decide) e Oc f g h j) rfl rfl rfl (Vl<|ba d5) (Ce Td) ?_);refine mg (i:=1) [1,2,3,9] (λe Oc f g h j=>hB _ (by decide) e Oc f g h j) rfl rfl rfl (bq<|ba<|La d9) (xe za) ?_;refine mg (i:=2) [2,3,9] (λe Oc f g h j=>hB _ (by decide) e Oc f g h j) rfl rfl rfl (bm mT (ba<|Va d0) rfl) (xe ob) ?_;refine ck (i:=3) [3,9] (λe Oc f g h j=>hB _ (by decide) e Oc f g h j) rfl rfl rfl (Md QB (ba<|Va d1)<|(c.ea d3).cell d0) (xe Eb) ?_;refine mg (i:=4) [4,5,6,7,9] (λe Oc f g h j=>hB _ (by decide) e Oc f g h j) rfl rfl rfl (Vl<|ba d9) (xe nc) ?_;refine mg (i:=5) [5,6,7,9] (λe Oc f g h j=>hB _ (by decide) e Oc f g h j) rfl rfl rfl (bq<|ba<|Va d3) (xe Xc) ?_;refine mg (i:=6) [6,7,9] (λe Oc f g h j=>hB _ (by decide) e Oc f g h j) rfl rfl rfl (bm VF (ba<|Va d4) rfl) (xe qd) ?_;refine ck (i:=7) [7,9] (λe Oc f g h j=>hB _ (by decide) e Oc f g h j) rfl rfl rfl (Md Dg (ba<|Va d5)<|(L _ c.a).one d1) (xe Vd) ?_;refine mg (i:=8) [8,9] (λe Oc f g h j=>hB _ (by decide) e Oc f g h j) rfl rfl rfl (Vl<|ba d9) (xe Wd) ?_;refine Za rfl<|rr (κ:=List UInt8) (β:=va) (kk:=d.Name) (xx:=d) Tryz.underlying62 Tryz.underlying9 (ba<|Va d2) (ba<|Va d6) (ba<|Va d7) ⟨_,_,_,rfl,L,⟨Cb,Rf,ld,Z,rfl,Gb,gc⟩⟩ c d2 F3 Ia λlc rc g4 p fd u c=>?_;cases (show _=p from u);replace c:=Sep.pe c Eb;refine sa ?_;refine la<|aa<|Rb (ba<|sb d2) (λid=>?_)<|λid=>?_
  ·have P:¬ d.Kind=4:=by omega
   have R:∀ b:Nat,app (bb.map vc.mk) [(⟨b⟩:vc)]=some (bb.map vc.mk++[⟨b⟩]):=λb=>by
    rw [app,if_pos];simp only [List.length_map,List.length_cons,List.length_nil];omega
   have J3:=(c.get d4).vp;refine aa<|wl<|Le gW mW (cb.o rfl (ba<|sb d6) rfl rfl za cb.z) (wa<|af Wd)<|xc c λy h4 i4 c=>(pu (wa<|af Qd) ?_);refine aa ?_;refine Sd c λj4 c=>?_;refine mg (i:=0) (R':=[1,2,3,4,5,6,7,8,9,10,11,12,13,14,15,16,17,18,19,20,21,22,23,24]) [0,1,2,3,19,20,21,22,23,24] (λe Oc f g h j=>hB _ (by decide) e Oc f g h j) (by kernel_rfl) (by kernel_rfl) rfl (Vl<|ba d5) (af Td) ?_;refine mg (i:=1) (R':=[2,3,4,5,6,7,8,9,10,11,12,13,14,15,16,17,18,19,20,21,22,23,24]) [1,2,3,19,20,21,22,23,24] (λe Oc f g h j=>hB _ (by decide) e Oc f g h j) (by kernel_rfl) (by kernel_rfl) rfl (bq<|ba<|sb d9) (Pf za) ?_;refine mg (i:=2) (R':=[3,4,5,6,7,8,9,10,11,12,13,14,15,16,17,18,19,20,21,22,23,24]) [2,3,19,20,21,22,23,24] (λe Oc f g h j=>hB _ (by decide) e Oc f g h j) (by kernel_rfl) (by kernel_rfl) rfl (bm nT (ba<|dc d0) rfl) (Pf ob) ?_;refine ck (i:=3) (R':=[4,5,6,7,8,9,10,11,12,13,14,15,16,17,18,19,20,21,22,23,24]) [3,19,20,21,22,23,24] (λe Oc f g h j=>hB _ (by decide) e Oc f g h j) (by kernel_rfl) (by kernel_rfl) rfl (Md wL (ba<|dc d1)<|(c.ea d4).cell d1) (Pf Eb) ?_;refine mg (i:=4) (R':=[5,6,7,8,9,10,11,12,13,14,15,16,17,18,19,20,21,22,23,24]) [4,5,6,7,19,20,21,22,23,24] (λe Oc f g h j=>hB _ (by decide) e Oc f g h j) (by kernel_rfl) (by kernel_rfl) rfl (Vl<|ba d9) (Pf nc) ?_;refine mg (i:=5) (R':=[6,7,8,9,10,11,12,13,14,15,16,17,18,19,20,21,22,23,24]) [5,6,7,19,20,21,22,23,24] (λe Oc f g h j=>hB _ (by decide) e Oc f g h j) (by kernel_rfl) (by kernel_rfl) rfl (bq<|ba<|dc d3) (Pf Xc) ?_;refine mg (i:=6) (R':=[7,8,9,10,11,12,13,14,15,16,17,18,19,20,21,22,23,24]) [6,7,19,20,21,22,23,24] (λe Oc f g h j=>hB _ (by decide) e Oc f g h j) (by kernel_rfl) (by kernel_rfl) rfl (bm VF (ba<|dc d4) rfl) (Pf qd) ?_;refine ck (i:=7) (R':=[8,9,10,11,12,13,14,15,16,17,18,19,20,21,22,23,24]) [7,19,20,21,22,23,24] (λe Oc f g h j=>hB _ (by decide) e Oc f g h j) (by kernel_rfl) (by kernel_rfl) rfl (Md Dg (ba<|dc d5)<|(L _ c.a).one d1) (Pf Vd) ?_;refine mg (i:=8) (R':=[9,10,11,12,13,14,15,16,17,18,19,20,21,22,23,24]) [8,9,10,11,19,20,21,22,23,24] (λe Oc f g h j=>hB _ (by decide) e Oc f g h j) (by kernel_rfl) (by kernel_rfl) rfl (Vl<|ba d5) (Pf Wd) ?_;refine mg (i:=9) (R':=[10,11,12,13,14,15,16,17,18,19,20,21,22,23,24]) [9,10,11,19,20,21,22,23,24] (λe Oc f g h j=>hB _ (by decide) e Oc f g h j) (by kernel_rfl) (by kernel_rfl) rfl (bq<|ba<|dc d7) (Pf Qd) ?_;refine mg (i:=10) (R':=[11,12,13,14,15,16,17,18,19,20,21,22,23,24]) [10,11,19,20,21,22,23,24] (λe Oc f g h j=>hB _ (by decide) e Oc f g h j) (by kernel_rfl) (by kernel_rfl) rfl (bm AK (ba<|dc d8) rfl) (Pf Td) ?_;refine ck (i:=11) (R':=[12,13,14,15,16,17,18,19,20,21,22,23,24]) [11,19,20,21,22,23,24] (λe Oc f g h j=>hB _ (by decide) e Oc f g h j) (by kernel_rfl) (by kernel_rfl) rfl (Md tq (ba<|dc d9)<|(c.ea d4).cell d2) (fg za) ?_;refine mg (i:=12) (R':=[13,14,15,16,17,18,19,20,21,22,23,24]) [12,13,14,15,19,20,21,22,23,24] (λe Oc f g h j=>hB _ (by decide) e Oc f g h j) (by kernel_rfl) (by kernel_rfl) rfl (Vl<|ba d9) (fg ob) ?_;refine mg (i:=13) [13,14,15,19,20,21,22,23,24] (λe Oc f g h j=>hB _ (by decide) e Oc f g h j) rfl rfl rfl (bq<|ba<|Ac d1) (fg Eb) ?_;refine mg (i:=14) [14,15,19,20,21,22,23,24] (λe Oc f g h j=>hB _ (by decide) e Oc f g h j) rfl rfl rfl (bm VF (ba<|Ac d2) rfl) (fg nc) ?_;refine ck (i:=15) [15,19,20,21,22,23,24] (λe Oc f g h j=>hB _ (by decide) e Oc f g h j) rfl rfl rfl (Md Dg (ba<|Ac d3)<|(L _ c.a).one d1) (fg Xc) ?_;refine mg (i:=16) [16,21,22,23,24] (λe Oc f g h j=>hB _ (by decide) e Oc f g h j) rfl rfl rfl (Vl<|ba<|pa d0) (fg qd) ?_;refine mg (i:=17) [17,18,24] (λe Oc f g h j=>hB _ (by decide) e Oc f g h j) rfl rfl rfl (Vl<|ba d6) (fg Vd) ?_;refine mg (i:=18) [18,24] (λe Oc f g h j=>hB _ (by decide) e Oc f g h j) rfl rfl rfl (fq Tryz.underlying67 (ba<|Ac d6) J3) (fg Wd) ?_;refine Za rfl<|yJ (κ:=List UInt8) (β:=om) (kk:=d.Name) (z:=(.pointer none)) Tryz.underlying63 Tryz.underlying9 (Ht rfl) (ba<|dc d2) (ba<|dc d6) c d2 wt λk4 l4 p u c=>?_;cases (show _=p from u);refine pu (wa<|fg Qd) ?_;replace c:=Sep.pe c Eb;refine ⟨ud.z,?_⟩;refine mg (i:=20) [20,21,22,23,24] (λe Oc f g h j=>hB _ (by decide) e Oc f g h j) rfl rfl rfl (vF (ba<|Ac d8) d1) (fg Td) ?_;refine Za rfl<|zJ (κ:=List UInt8) (β:=om) (kk:=d.Name) (xx:=⟨some y⟩) (ba<|dc d2) (ba<|Ac d9) (ba<|Ac d5) rfl c d2 wt Ia λK3 L3 m4 p M3 u c=>?_;cases (show _=p from u);replace c:=Sep.pe c Eb;refine sa<|Za rfl<|yJ (κ:=List UInt8) (β:=Int) (kk:=d.Name) (z:=(ca 0)) Tryz.underlying64 Tryz.underlying9 (Ht rfl) (ba<|Ac d0) (ba<|Ac d4) c d1 fu λn4 o4 p u c=>?_;cases (show _=p from u);refine pu (wa<|Ri za) ?_;replace c:=Sep.pe c ob;refine ⟨ud.z,?_⟩;refine mg (i:=23) [23,24] (λe Oc f g h j=>hB _ (by decide) e Oc f g h j) rfl rfl rfl (vF (ba<|Nc d0) d1) (Ri ob) ?_;refine Za rfl<|zJ (κ:=List UInt8) (β:=Int) (kk:=d.Name) (xx:=((bb.map vc.mk).length:Int)) (ba<|Ac d0) (ba<|Nc d1) (ba<|Ac d7) rfl c d1 fu Ia λN3 O3 Ef p P3 u c=>?_;cases (show _=p from u);replace c:=Sep.pe c ob;refine sa ?_;refine aa<|wl<|Pg Tryz.underlying67 xl (Bc.s (ba<|Nc d3) rfl Bc.z) rfl rfl c λQ3 R3 S3 c=>(pu (wa<|Ri Xc) ?_);have S:qa Ta [.pointer (some ⟨y,0,none⟩)] [(⟨y⟩:vc)]:=qa.one (α:=vc) rfl;have md:=qa.app G3 S (R y);refine wl<|Mi Tryz.underlying67 xl rfl (ba<|Nc d2) (ba<|Nc d4) c d6 (c.ea d0).cells S rfl (R y) (by decide) ?_;clear c;intro nd T3 p u c;cases (show _=p from u);replace c:=Sep.pe c Vd;refine pu (wa<|Ri qd) ?_;replace c:=c.drop ja.z;refine aa<|Ja (ba<|sd d0) P ?_;refine aa ?_;refine wl<|yo (ba<|La d3) db Y (wa<|Jh Wd) ?_;refine aa ?_;have U:(l.take (i+1)).foldl Wh ⟨[],[],[],[]⟩=⟨kd ((l.take i).foldl Wh ⟨[],[],[],[]⟩).D d.Name d,kd ((l.take i).foldl Wh ⟨[],[],[],[]⟩).O d.Name (bb.length:Int),((l.take i).foldl Wh ⟨[],[],[],[]⟩).bs++[⟨d.cg,[]⟩],((l.take i).foldl Wh ⟨[],[],[],[]⟩).na⟩:=by
    rw [X,List.foldl_append];simp [Wh,Lt,Mt,id,k.Ya.len.1]
   exact ⟨n,_,_,rfl,(Rw<|Gh<|Gh<|ov<|dm<|rn<|Gh<|FB<|ln<|Bq<|fm<|Qw Uj),⟨Ta,i+1,dl,is,bb++[y],kd ej d.Name ⟨some y⟩,v++[.ea y 72 [ca d.cg,.slice none 0 0]],lc,rc,K3,L3,N3,O3,nf++[pb y],se,nd,Sf,by rw [show ((i+1:Nat):Int)=(i:Int)+1 from rfl],⟨by simp;omega,by omega,by omega⟩,by omega,N,U ▸ ⟨k.na,k.new,k.rt,by simpa using md,Af.snoc ⟨none,0,rfl,ya.nil⟩ k.Ya,fd,M3,by simpa using P3,k.zh.put⟩,c.perm (by simp only [List.map_append,List.map_cons,List.map_nil,List.append_assoc,List.cons_append,List.nil_append];classical exact List.perm_iff_count.2 (λx=>(by simp only [List.count_append,List.count_cons,List.count_nil];ac_rfl)))⟩,Nat.lt_succ_self _⟩
  ·refine aa ?_;refine Rb (ba (sd d0)) (λP=>?_) (λP=>?_)
   ·have R:∀ b:Nat,app ((is.map Li.Fa).map vc.mk) [(⟨b⟩:vc)]=some ((is.map Li.Fa).map vc.mk++[⟨b⟩]):=λb=>by
     rw [app,if_pos];simp only [List.length_map,List.length_cons,List.length_nil];omega
    refine aa<|wl<|jd RS yc (ua (ba<|sd d2)<|ua (ba<|sd d3) qb) (WR (d:=d) ⟨_,_,_,rfl,L,⟨Cb,Rf,ld,Z,rfl,Gb,gc⟩⟩ c) ?_;clear c;rintro _ R3 ⟨rd,bv,kv,H,hw,kw,rfl,A,c,U3,Wj,V3⟩;refine pu (wa<|Jh Xc)<|wl<|Pg Tryz.underlying68 Xt (Bc.s (ba<|sd d4) rfl Bc.z) rfl rfl c λQ3 T3 S3 c=>(pu (wa<|Jh qd) ?_);have S:qa rd [pb H] [(⟨H⟩:vc)]:=qa.one (α:=vc) rfl;have md:=qa.app (H3.up A) S (R H);refine wl<|Mi Tryz.underlying68 Xt rfl (ba<|sd d1) (ba<|sd d5) c d8 (c.ea d0).cells S rfl (R H) (by decide) ?_;clear c;intro nd p4 p u c;cases (show _=p from u);replace c:=Sep.pe c Qd;refine pu (wa<|Jh Vd) ?_;replace c:=c.drop ja.z;refine aa<|wl<|yo (ba<|La d3) db Y (wa<|Jh Wd) ?_;refine aa ?_;have U:(l.take (i+1)).foldl Wh ⟨[],[],[],[]⟩=⟨kd ((l.take i).foldl Wh ⟨[],[],[],[]⟩).D d.Name d,((l.take i).foldl Wh ⟨[],[],[],[]⟩).O,((l.take i).foldl Wh ⟨[],[],[],[]⟩).bs,((l.take i).foldl Wh ⟨[],[],[],[]⟩).na++[ll d]⟩:=by
     rw [X,List.foldl_append];simp [Wh,Lt,Mt,P]
    have W3:Ty rd d ⟨H,kv,bv,hw,kw,.pointer (some ⟨ka,hd,none⟩)⟩:=⟨Ie.up A ⟨_,_,_,rfl,L,⟨Cb,Rf,ld,Z,rfl,Gb,gc⟩⟩,U3,Wj,V3⟩;exact ⟨n,_,_,rfl,(Rw<|Gh<|Gh<|ov<|dm<|rn<|Gh<|FB<|ln<|Bq<|fm<|Qw Uj),⟨rd,i+1,dl++[d],is++[⟨H,kv,bv,hw,kw,.pointer (some ⟨ka,hd,none⟩)⟩],bb,ej,v,lc,rc,B,C,E,G,nf,se++[pb H],mf,nd,by rw [show ((i+1:Nat):Int)=(i:Int)+1 from rfl],⟨by omega,by simp;omega,by omega⟩,by omega,N.t A,U ▸ ⟨by simp [k.na],Jk.snoc W3 (Jk.up A k.new),by simpa using md,k.nz.up A,k.Ya.imp λ_ _ _ q=>q.up A,fd.up A,k.Ki.up A,k.cn.up A,k.zh⟩,c.perm (by simp only [List.map_append,List.map_cons,List.map_nil,yr,List.flatMap_append,List.flatMap_cons,List.flatMap_nil,uy,List.append_assoc,List.cons_append,List.nil_append];classical exact List.perm_iff_count.2 (λx=>(by simp only [List.count_append,List.count_cons,List.count_nil];ac_rfl)))⟩,Nat.lt_succ_self _⟩
   ·refine aa ?_;refine wl<|yo (ba<|La d3) db Y (wa<|Jh Wd)<|aa ?_;have U:(l.take (i+1)).foldl Wh ⟨[],[],[],[]⟩=⟨kd ((l.take i).foldl Wh ⟨[],[],[],[]⟩).D d.Name d,((l.take i).foldl Wh ⟨[],[],[],[]⟩).O,((l.take i).foldl Wh ⟨[],[],[],[]⟩).bs,((l.take i).foldl Wh ⟨[],[],[],[]⟩).na⟩:=by
     rw [X,List.foldl_append];simp [Wh,Lt,Mt,id,P]
    exact ⟨n,_,_,rfl,(Rw<|Gh<|Gh<|ov<|dm<|rn<|Gh<|FB<|ln<|Bq<|fm<|Qw Uj),⟨Ta,i+1,dl,is,bb,ej,v,lc,rc,B,C,E,G,nf,se,mf,Sf,by rw [show ((i+1:Nat):Int)=(i:Int)+1 from rfl],⟨by omega,by omega,by omega⟩,by omega,N,U ▸ ⟨k.na,k.new,k.rt,k.nz,k.Ya,fd,k.Ki,k.cn,k.zh⟩,c⟩,Nat.lt_succ_self _⟩
 ·obtain rfl:i=l.length:=by omega
  refine aa ?_;rw [List.take_length] at k;exact n2 _ _ _ _ _ _ _ _ _ _ _ _ _ _ _ _ _ _ _ _ _ _ _ _ _ _ _ _ _ _ _ _ _ _ _ _ _ _ _ _ _ _ _ _ _ _ _ _ _ _ _ _ _ _ _ _ _ _ _ _ _ _ _ _ _ _ _ _ _ _ _ _ _ _ _ _ _ _ _ _ _ _ _ _ _ _ _ N k c
end
end Go.Proofs.YtafjdiifkckmbaaGreatDoor
set_option maxHeartbeats 4000000
namespace Go.Proofs.YtafjdiifkckmbaaGreatDoor
open Go.Mc Go.Kf Go.Y
def Im (μ:M):List Ad->List Nat->Prop
 | [],[]=>True
 | t::na,b::bs=>(∃ d e f g a c,xa μ b 0 [d,e,f,g,ca t.state,ca t.box,ca t.qe,.slice a t.out.length c]/\ya μ a c t.out)/\Im μ na bs
 | _,_=>False
theorem Im.up {μ J:M}(l:ha μ J):∀ {na:List Ad}{bs:List Nat},Im μ na bs->Im J na bs
 | [],[],_=>trivial
 | t::na,b::bs,⟨⟨d,e,f,g,a,c,i,j⟩,h⟩=>⟨⟨d,e,f,g,a,c,i.up l,j.up l⟩,Im.up l h⟩
 | [],_::_,h=>h.elim
 | _::_,[],h=>h.elim
theorem HI {E:Ud}{da w:World}{Ka:Nat}{bb:List Nat}:∀ {na:List Ad}{L:List (ae×ke)}{b:List Ha}{μ:M},mh E μ Ka bb na L->fa μ da w (Xh na L++b)->∃ J,ha μ J/\Im J na (L.map λi=>i.1.Fa)/\fa J da w b
 | [],[],b,μ,_,d=>⟨μ,ha.r,trivial,d⟩
 | t::na,i::L,b,μ,⟨u,v,k,l⟩,d=>by
  have m:fa μ da w (.row i.2.Ib 2 1 t.out.length i.2.nh::.ea i.1.Fa 81 [pb i.1.Ka,i.2.hc,i.2.rb,pb i.2.xb,ca t.state,ca t.box,ca t.qe,i.2.Ib]::((.row i.2.rb 79 1 ((i.1.B.drop 1).map vc.mk).length i.2.se::(i.2.Tc++i.2.Ld))++(Xh na L++b))):=d.perm (by
   simp only [Xh,xr,List.append_assoc,List.cons_append]
   classical exact List.perm_iff_count.2 (λx=>(by simp only [List.count_append,List.count_cons,List.count_nil];ac_rfl)))
  obtain ⟨Ta,a,c,ua,g,n,j⟩:=Sep.Bi (α:=Int) m k.out rfl;rw [ua] at j;obtain ⟨y,e,o,p⟩:=Sep.Xd j;obtain ⟨q,f,m3,s⟩:=HI (mh.up (g.t e) l) (Gy p);exact ⟨q,(g.t e).t f,⟨⟨_,_,_,_,a,c,o.up f,n.up<|e.t f⟩,m3⟩,s⟩
 | [],_::_,_,_,h,_=>h.elim
 | _::_,[],_,_,h,_=>h.elim
def Dm (μ:M):List ed->List Nat->Prop
 | [],[]=>True
 | c::cs,b::bs=>(∃ a k,xa μ b 0 [ca c.cap,.slice a c.words.length k]/\ya μ a k c.words)/\Dm μ cs bs
 | _,_=>False
theorem Dm.up {μ J:M}(l:ha μ J):∀ {na:List ed}{bs:List Nat},Dm μ na bs->Dm J na bs
 | [],[],_=>trivial
 | t::na,b::bs,⟨⟨a,c,d,e⟩,h⟩=>⟨⟨a,c,d.up l,e.up l⟩,Dm.up l h⟩
 | [],_::_,h=>h.elim
 | _::_,[],h=>h.elim
theorem II {da w:World}:∀ {cs:List ed}{bb:List Nat}{Ya d:List Ha}{μ:M},Af (au μ) cs bb Ya->fa μ da w (Ya++d)->∃ J,ha μ J/\Dm J cs bb/\fa J da w d
 | [],[],[],d,μ,_,e=>⟨μ,ha.r,trivial,e⟩
 | c::cs,b::bb,r::Ya,d,μ,⟨⟨a,k,i,j⟩,h⟩,e=>by
  subst i;obtain ⟨p,f,l,m⟩:=Sep.Xd e;obtain ⟨n,g,m3,o⟩:=II (h.imp λ_ _ _ q=>q.up f) m;exact ⟨n,f.t g,⟨⟨a,k,l.up g,j.up<|f.t g⟩,m3⟩,o⟩
 | [],[],_::_,_,_,h,_=>h.elim
 | [],_::_,_,_,_,h,_=>h.elim
 | _::_,[],_,_,_,h,_=>h.elim
 | _::_,_::_,[],_,_,h,_=>h.elim
end Go.Proofs.YtafjdiifkckmbaaGreatDoor
set_option maxHeartbeats 20000000
namespace Go.Proofs.YtafjdiifkckmbaaGreatDoor
open Go.Mc Go.Kf Go.Y
theorem Im.at {μ:M}:∀ {na:List Ad}{bs:List Nat}{i:Nat}{t:Ad},Im μ na bs->na[i]?=some t->∃ b d f g j a c,bs[i]?=some b/\xa μ b 0 [d,f,g,j,ca t.state,ca t.box,ca t.qe,.slice a t.out.length c]/\ya μ a c t.out
 | t::na,b::bs,0,_,⟨⟨d,f,g,j,a,c,k,l⟩,_⟩,e=>by cases e; exact ⟨b,d,f,g,j,a,c,rfl,k,l⟩
 | t::na,b::bs,i+1,_,⟨_,h⟩,e=>by
  obtain ⟨Qc,d,f,g,j,a,c,q,k,l⟩:=Im.at h (by simpa using e);exact ⟨Qc,d,f,g,j,a,c,by simpa using q,k,l⟩
 | [],[],i,_,_,e=>by simp at e
 | [],_::_,_,_,h,_=>h.elim
 | _::_,[],_,_,h,_=>h.elim
theorem Im.len {μ:M}:∀ {na:List Ad}{bs:List Nat},Im μ na bs->bs.length=na.length
 | [],[],_=>rfl
 | t::na,b::bs,⟨_,h⟩=>by simp [Im.len h]
 | [],_::_,h=>h.elim
 | _::_,[],h=>h.elim
section
variable {da:World}{rsF:List Ha}{μ:M}{w:World}{ad:Nat}{na:List Ad}{sh:List Nat}{Sf:Value}{se:List Value}{hl wn:Value}
variable {Q:Exit->Act->World->Prop}{ds:List Deferred}
theorem iQ {p oa q r a5 zb lb u ld mc v y Vb Bd A Cc B C D E G H K L M N O P R S U V W X Y Z bb Gb gc lc rc fd id md nd rd wd Fd Id be ce ge ne Ne of wf If dg bi ci ii li pi Pi dl el nl ol pl ul am em hm lm sm Nm fn on un Fn In co io no ro to Do ap ip jp mp pp sp wp Op eq Eq or qr wr Fr Or bs cs es is ls ms os rs us vs ws xs GQ IR FS GT LT ST UV a0 c0 f0 g0 i0 k0 t0 x0 z0 ys Os gt it lt mt rt ut wt fu bv kv hw kw lw ww rx zx AC:Value}(hB:∀ d,8<=d->ml Q d) (h2:na.length<=4294967295) (GE:Im μ na sh) (R0:qa μ se (sh.map vc.mk))
  (b:fa μ da w (.row Sf 73 1 (sh.map vc.mk).length se::.ea ad 31 [.slice none 0 0,hl,wn]::rsF))
  (f1:∀ (Oe g1 i1 k1 m1 s1 t1 x1 H1 K1 L1 M1 N1 O1 P1 Q1 R1:Value) (w':World) (j:Value) (k:List Value),qa μ k (na.map vh)->fa μ da w' (.row Sf 73 1 (sh.map vc.mk).length se::.row j 36 4 (na.map vh).length k::.ea ad 31 [j,hl,wn]::rsF)->Q .normal (F [p,oa,pb ad,q,r,a5,zb,Sf,lb,u,ld,mc,v,y,Vb,Oe,A,Cc,B,C,D,E,G,H,K,L,M,N,O,P,R,S,U,V,W,X,Y,Z,bb,Gb,gc,lc,rc,fd,id,md,nd,rd,wd,Fd,Id,be,ce,ge,ne,Ne,of,wf,If,dg,bi,ci,ii,li,pi,Pi,dl,el,nl,ol,pl,ul,am,em,hm,lm,sm,Nm,fn,on,un,Fn,In,co,io,no,ro,to,Do,ap,ip,jp,mp,pp,sp,wp,Op,eq,Eq,or,qr,wr,Fr,Or,bs,cs,es,is,ls,ms,os,rs,us,vs,ws,xs,g1,i1,k1,m1,s1,t1,x1,H1,K1,L1,M1,N1,O1,P1,Q1,R1,ys,Os,gt,it,lt,mt,rt,ut,wt,fu,bv,kv,hw,kw,lw,ww,rx,zx,AC] ds) w') :
  xd Tryz.prog (pq ((Tryz.f7.body).getD .skip) [1,1,1,1,1,1,1,1,1,0]) Q [p,oa,pb ad,q,r,a5,zb,Sf,lb,u,ld,mc,v,y,Vb,Bd,A,Cc,B,C,D,E,G,H,K,L,M,N,O,P,R,S,U,V,W,X,Y,Z,bb,Gb,gc,lc,rc,fd,id,md,nd,rd,wd,Fd,Id,be,ce,ge,ne,Ne,of,wf,If,dg,bi,ci,ii,li,pi,Pi,dl,el,nl,ol,pl,ul,am,em,hm,lm,sm,Nm,fn,on,un,Fn,In,co,io,no,ro,to,Do,ap,ip,jp,mp,pp,sp,wp,Op,eq,Eq,or,qr,wr,Fr,Or,bs,cs,es,is,ls,ms,os,rs,us,vs,ws,xs,GQ,IR,FS,GT,LT,ST,UV,a0,c0,f0,g0,i0,k0,t0,x0,z0,ys,Os,gt,it,lt,mt,rt,ut,wt,fu,bv,kv,hw,kw,lw,ww,rx,zx,AC] ds w:=by
 refine la<|Ph<|wl<|Ai (ba d7) (wa<|Lb<|tb Vd)<|wl<|xF Tryz.underlying68 (ba<|Da<|pa d6) (b.get d0).vp (wa<|Lb<|tb Wd)<|wl<|Ai db (wa<|Lb<|tb Qd)<|ah<|gg<|Qa<|wo (15::rg 119 13) (by decide) (λn m l=>∃ (i:Nat) (j:Value) (k:List Value),m=Pd (wg<|Rc 15<|Te<|Te<|bf (.i (ca (i:Int))::(Zc 119 (vj 129 (Pd (Qj []))))))/\i<=na.length/\na.length<n+i/\qa μ k ((na.take i).map vh)/\fa μ da l (.row Sf 73 1 (sh.map vc.mk).length se::.row j 36 4 ((na.take i).map vh).length k::.ea ad 31 [j,hl,wn]::rsF)) (by rintro _ _ _ ⟨_,_,_,rfl,_⟩;rfl) (na.length+1) _ (Ik<|Jo<|Aq<|fm<|fm<|rn<|Gh<|ln<|ov<|Ik<|ML Uj) ⟨0,_,[],rfl,by omega,by omega,qa.nil,(vw (T:=36) (n:=4) b).perm (by simp only [List.take_zero,List.map_nil,List.length_nil];classical exact List.perm_iff_count.2 (λx=>(by simp only [List.count_append,List.count_cons,List.count_nil];ac_rfl)))⟩ ?_;clear b;rintro n _ i2 l ⟨i,j,k,rfl,j2,k2,o,b⟩;refine aa ?_;have LE:=Im.len GE;refine aa<|la<|Rb (ba<|Da<|pa d9) (λS1=>?_)<|λT1=>?_
 ·rw [List.length_map,LE] at S1;have U1:i<na.length:=by omega
  obtain ⟨t,NE⟩:∃ t,na[i]?=some t:=⟨_,List.getElem?_eq_getElem U1⟩;obtain ⟨Fa,v0,v1,v2,V1,WF,RK,W1,X1,Y1⟩:=Im.at GE NE;have Z1:at_ (sh.map vc.mk) (i:Int)=some ⟨Fa⟩:=by simp [at_,W1]
  have a2:Go.Kf.i64 ((i:Int)+1)=some ((i:Int)+1):=if_pos (by omega);have PP:(na.take (i+1)).map vh=(na.take i).map vh++[vh t]:=by rw [List.take_add_one,NE,List.map_append];rfl
  have WP:app ((na.take i).map vh) [(Of.mk t.state t.box t.qe t.out)]=some ((na.take i).map vh++[vh t]):=by
   rw [app,if_pos]
   ·rfl
   ·simp only [List.length_map,List.length_take,List.length_cons,List.length_nil];omega
  cases n with
  | zero=>omega
  | succ n =>
  refine aa<|la<|Qa ?_;refine aa ?_;obtain ⟨l2,m2,n2,b2,f5,m6⟩:=Row.elem (α:=vc) (b.get d0) R0 rfl Z1;obtain rfl:=m6;refine wl<|np Tryz.underlying68 Xt (ba<|Da<|pa d6) (ba<|Da<|pa d8) b2 (wa<|Lb<|wc za) ?_;refine wl<|hp Xt (ba<|Da<|Ca d0) ((f5 _ _<|b.get d0).one d0) (wa<|Lb<|wc ob)<|aa ?_;refine zf b λl b=>(mg (i:=0) [0,1,7,8,9] (λc Oc e f g h=>hB _ (by decide) c Oc e f g h) rfl rfl rfl (bm yK (ba d2) rfl) (Lb<|wc Eb) ?_);refine ck (i:=1) [1,7,8,9] (λc Oc e f g h=>hB _ (by decide) c Oc e f g h) rfl rfl rfl (Md Mw (ba<|Da<|Ca d2)<|(b.ea d2).cell d0) (Lb<|wc nc) ?_;refine mg (i:=2) [2,3,4,5,6,7,8,9] (λc Oc e f g h=>hB _ (by decide) c Oc e f g h) rfl rfl rfl (Vl<|ba<|pa d5) (Lb<|wc Xc) ?_;refine mg (i:=3) [3,4,5,6,7,8,9] (λc Oc e f g h=>hB _ (by decide) c Oc e f g h) rfl rfl rfl (bq<|ba<|Da<|Ca d4) (Lb<|wc qd) ?_;refine mg (i:=4) [4,5,6,7,8,9] (λc Oc e f g h=>hB _ (by decide) c Oc e f g h) rfl rfl rfl (bm XF (ba<|Da<|Ca d5) rfl) (Lb<|wc Vd) ?_;refine ck (i:=5) [5,6,7,8,9] (λc Oc e f g h=>hB _ (by decide) c Oc e f g h) rfl rfl rfl (Xg sj (ba<|Da<|Ca d6) ((X1 _ b.a).qg 4 4) rfl) (Lb<|wc Wd) ?_;refine Za rfl<|kp Tryz.underlying28 sj rfl (ba<|Da<|Ca d7) rfl b λka o2 p2 b=>(pu (wa<|Lb<|wc Qd)<|⟨(ud.s (Md Mw (ba<|Da<|Ca d2)<|(b.ea d3).cell d0) ud.z),?_⟩);have EQ:qa μ [ca t.state,ca t.box,ca t.qe,.slice WF t.out.length RK] [(Of.mk t.state t.box t.qe t.out)]:=(qa.one (α:=Of) (⟨WF,RK,rfl,Y1⟩));have c2:=qa.app o EQ WP;refine Za rfl<|Mi Tryz.underlying28 sj rfl (ba<|Da<|Ca d3) (ba<|Da<|Ca d8) b d2 (b.ea d0).cells EQ rfl WP (by decide) ?_;clear b;intro V1 q2 f2 g2 b;cases (show _=f2 from g2);replace b:=Sep.pe b Eb;refine pu (wa<|Lb<|wc Td) ?_;replace b:=b.drop ja.z;refine ⟨ud.z,?_⟩;refine mg (i:=8) [8,9] (λc Oc e f g h=>hB _ (by decide) c Oc e f g h) rfl rfl rfl (bm yK (ba d2) rfl) (Lb<|Ce za) ?_;refine Za rfl<|zc Mw (ba<|Da<|La d0) (ba<|Da<|Ca d9) (b.get d1).ee b d2 za rfl Eb Ia λr2 b=>(sa ?_);refine aa<|wl<|yo (ba<|Da<|pa d8) db a2 (wa<|Lb<|Ce ob)<|wl<|Ai (ba<|Da<|La d1) (wa<|Lb<|tb Qd)<|ah<|dj ?_;exact ⟨n,_,_,rfl,(Ik<|Jo<|Aq<|fm<|fm<|rn<|Gh<|ln<|ov<|Ik<|ML Uj),⟨i+1,_,_,by rw [show ((i+1:Nat):Int)=(i:Int)+1 from rfl],by omega,by omega,PP ▸ c2,PP ▸ b⟩,Nat.lt_succ_self _⟩
 ·rw [List.length_map,LE] at T1;obtain rfl:i=na.length:=by omega
  refine aa ?_;rw [List.take_length] at o b;exact f1 _ _ _ _ _ _ _ _ _ _ _ _ _ _ _ _ _ _ _ _ o b
end
theorem Dm.at {μ:M}:∀ {na:List ed}{bs:List Nat}{i:Nat}{t:ed},Dm μ na bs->na[i]?=some t->∃ b a c,bs[i]?=some b/\xa μ b 0 [ca t.cap,.slice a t.words.length c]/\ya μ a c t.words
 | t::na,b::bs,0,_,⟨⟨a,c,d,f⟩,_⟩,e=>by cases e; exact ⟨b,a,c,rfl,d,f⟩
 | t::na,b::bs,i+1,_,⟨_,h⟩,e=>by
  obtain ⟨Qc,a,c,q,d,f⟩:=Dm.at h (by simpa using e);exact ⟨Qc,a,c,by simpa using q,d,f⟩
 | [],[],i,_,_,e=>by simp at e
 | [],_::_,_,_,h,_=>h.elim
 | _::_,[],_,_,h,_=>h.elim
theorem Dm.len {μ:M}:∀ {na:List ed}{bs:List Nat},Dm μ na bs->bs.length=na.length
 | [],[],_=>rfl
 | t::na,b::bs,⟨_,h⟩=>by simp [Dm.len h]
 | [],_::_,h=>h.elim
 | _::_,[],h=>h.elim
section
variable {da:World}{rsF:List Ha}{μ:M}{w:World}{ad:Nat}{bs:List ed}{bb:List Nat}{mf:Value}{nf:List Value}{wt wn:Value}
variable {Q:Exit->Act->World->Prop}{ds:List Deferred}
theorem jQ {B oa C D a5 Cb lb E ld mc G H Vb Bd K Cc L N O P R S U V W X Y Z Gb gc lc rc fd id md nd rd wd Fd Id be ce ge ne Ne of wf If dg bi ci ii li pi Pi dl el nl ol pl ul am em hm lm sm Nm fn on un Fn In co io no ro to Do ap ip jp mp pp sp wp Op eq Eq or qr wr Fr Or cs es is ls ms os rs us vs ws xs ys Os gt it lt mt rt ut fu bv kv hw kw lw ww rx zx AC GE LE NE WF RK PP WP EQ g0 i0 k0 t0 v0 x0 z0 R0 f1 g1 i1 k1 m1 s1 t1 v1 x1 GQ IR:Value}(hB:∀ d,8<=d->ml Q d) (w2:bs.length<=4294967295) (H1:∀ c ∈ bs,c.words.length<=4294967295) (FS:Dm μ bs bb) (K1:qa μ nf (bb.map vc.mk))
  (b:fa μ da w (.row mf 70 1 (bb.map vc.mk).length nf::.ea ad 31 [wt,.slice none 0 0,wn]::rsF))
  (L1:∀ (M1 N1 O1 P1 Q1 R1 S1 T1 U1 V1 W1 X1 Y1 Z1 a2 b2 c2 f2:Value) (J:M) (w':World) (l:Value) (o:List Value),ha μ J->qa J o (bs.map ed.words)->fa J da w' (.row mf 70 1 (bb.map vc.mk).length nf::.row l 34 1 (bs.map ed.words).length o::.ea ad 31 [wt,l,wn]::rsF)->Q .normal (F [B,oa,pb ad,C,D,a5,mf,Cb,lb,E,ld,mc,G,H,Vb,Bd,K,M1,L,N,O,P,R,S,U,V,W,X,Y,Z,Gb,gc,lc,rc,fd,id,md,nd,rd,wd,Fd,Id,be,ce,ge,ne,Ne,of,wf,If,dg,bi,ci,ii,li,pi,Pi,dl,el,nl,ol,pl,ul,am,em,hm,lm,sm,Nm,fn,on,un,Fn,In,co,io,no,ro,to,Do,ap,ip,jp,mp,pp,sp,wp,Op,eq,Eq,or,qr,wr,Fr,Or,cs,es,is,ls,ms,os,rs,us,vs,ws,xs,ys,Os,gt,it,lt,mt,rt,ut,fu,bv,kv,hw,kw,lw,ww,rx,zx,AC,GE,LE,NE,WF,RK,PP,WP,EQ,N1,O1,P1,Q1,R1,S1,T1,U1,V1,W1,X1,Y1,Z1,a2,b2,c2,f2,GQ,IR] ds) w') :
  xd Tryz.prog (pq ((Tryz.f7.body).getD .skip) [1,1,1,1,1,1,1,1,1,1,0]) Q [B,oa,pb ad,C,D,a5,mf,Cb,lb,E,ld,mc,G,H,Vb,Bd,K,Cc,L,N,O,P,R,S,U,V,W,X,Y,Z,Gb,gc,lc,rc,fd,id,md,nd,rd,wd,Fd,Id,be,ce,ge,ne,Ne,of,wf,If,dg,bi,ci,ii,li,pi,Pi,dl,el,nl,ol,pl,ul,am,em,hm,lm,sm,Nm,fn,on,un,Fn,In,co,io,no,ro,to,Do,ap,ip,jp,mp,pp,sp,wp,Op,eq,Eq,or,qr,wr,Fr,Or,cs,es,is,ls,ms,os,rs,us,vs,ws,xs,ys,Os,gt,it,lt,mt,rt,ut,fu,bv,kv,hw,kw,lw,ww,rx,zx,AC,GE,LE,NE,WF,RK,PP,WP,EQ,g0,i0,k0,t0,v0,x0,z0,R0,f1,g1,i1,k1,m1,s1,t1,v1,x1,GQ,IR] ds w:=by
 refine la<|Ph<|wl<|Ai (ba d6) (wa<|Lb<|Ce Eb)<|wl<|xF Tryz.underlying67 (ba<|Da<|La d2) (b.get d0).vp (wa<|Lb<|Ce nc)<|wl<|Ai db (wa<|Lb<|Ce Xc)<|ah<|gg<|Qa<|wo (17::rg 135 14) (by decide) (λn m q=>∃ (i:Nat) (J:M) (l:Value) (o:List Value),m=Pd (wg<|bf<|Rc 17<|Te<|Te<|Pd<|wg<|hh (.i (ca (i:Int))::(Zc 135 (ni 145 (bf [])))))/\i<=bs.length/\bs.length<n+i/\ha μ J/\qa J o ((bs.take i).map ed.words)/\fa J da q (.row mf 70 1 (bb.map vc.mk).length nf::.row l 34 1 ((bs.take i).map ed.words).length o::.ea ad 31 [wt,l,wn]::rsF)) (by rintro _ _ _ ⟨_,_,_,_,rfl,_⟩;rfl) (bs.length+1) _ (Ik<|Jo<|rn<|Aq<|fm<|fm<|Ik<|Jo<|Cp<|Gh<|ln<|Bq<|rn Uj) ⟨0,μ,_,[],rfl,by omega,by omega,ha.r,qa.nil,(vw (T:=34) (n:=1) b).perm (by simp only [List.take_zero,List.map_nil,List.length_nil];classical exact List.perm_iff_count.2 (λx=>(by simp only [List.count_append,List.count_cons,List.count_nil];ac_rfl)))⟩ ?_;clear b;rintro n _ x2 q ⟨i,J,l,o,rfl,y2,z2,p,u,b⟩;refine aa ?_;have g2:=FS.up p;have h2:=K1.up p;have GT:=Dm.len FS;refine aa<|la<|Rb (ba<|Da<|La d5) (λi2=>?_)<|λj2=>?_
 ·rw [List.length_map,GT] at i2;have k2:i<bs.length:=by omega
  obtain ⟨x,v⟩:∃ x,bs[i]?=some x:=⟨_,List.getElem?_eq_getElem k2⟩;obtain ⟨l2,A2,B2,m2,n2,o2⟩:=Dm.at g2 v;have p2:at_ (bb.map vc.mk) (i:Int)=some ⟨l2⟩:=by simp [at_,m2]
  have q2:Go.Kf.i64 ((i:Int)+1)=some ((i:Int)+1):=if_pos (by omega);have LT:(bs.take (i+1)).map ed.words=(bs.take i).map ed.words++[x.words]:=by rw [List.take_add_one,v,List.map_append];rfl
  have ST:app ((bs.take i).map ed.words) [x.words]=some ((bs.take i).map ed.words++[x.words]):=by
   rw [app,if_pos];simp only [List.length_map,List.length_take,List.length_cons,List.length_nil];omega
  have UV:app ([]:List Int) x.words=some x.words:=by
   rw [app,if_pos]
   ·rfl
   ·have:=H1 x (List.mem_iff_getElem?.2 ⟨i,v⟩);simp only [List.length_nil];omega
  cases n with
  | zero=>omega
  | succ n =>
  refine aa<|la<|Qa ?_;refine aa ?_;obtain ⟨C2,D2,E2,r2,f5,m6⟩:=Row.elem (α:=vc) (b.get d0) h2 rfl p2;obtain rfl:=m6;refine wl<|np Tryz.underlying67 xl (ba<|Da<|La d2) (ba<|Da<|La d4) r2 (wa<|Lb<|Ce Vd) ?_;refine wl<|hp xl (ba<|Da<|La d6) ((f5 _ _<|b.get d0).one d0) (wa<|Lb<|Ce Wd)<|aa ?_;refine zf b λq b=>(mg (i:=0) [0,1,8,9,10] (λf Oc g h j k=>hB _ (by decide) f Oc g h j k) rfl rfl rfl (bm zK (ba d2) rfl) (Lb<|Ce Qd) ?_);refine ck (i:=1) [1,8,9,10] (λf Oc g h j k=>hB _ (by decide) f Oc g h j k) rfl rfl rfl (Md OB (ba<|Da<|La d8)<|(b.ea d2).cell d1) (Lb<|Ce Td) ?_;refine mg (i:=2) [2,3,4,5,6,7,8,9,10] (λf Oc g h j k=>hB _ (by decide) f Oc g h j k) rfl rfl rfl (Vl<|ba<|pa d7) (Lb<|xe za) ?_;refine mg (i:=3) [3,4,5,6,7,8,9,10] (λf Oc g h j k=>hB _ (by decide) f Oc g h j k) rfl rfl rfl (bq<|ba<|Da<|Va d0) (Lb<|xe ob) ?_;refine mg (i:=4) [4,5,6,7,8,9,10] (λf Oc g h j k=>hB _ (by decide) f Oc g h j k) rfl rfl rfl (bm oT (ba<|Da<|Va d1) rfl) (Lb<|xe Eb) ?_;refine ck (i:=5) [5,6,7,8,9,10] (λf Oc g h j k=>hB _ (by decide) f Oc g h j k) rfl rfl rfl (Md Pj (ba<|Da<|Va d2)<|(n2 _ b.a).one d1) (Lb<|xe nc) ?_;replace b:=b.ri 2 (Ma.sz Int);obtain ⟨ai,m5,m6⟩:=ya.cells o2;have s2:=qa.app (qa.nil (α:=Int) (μ:=J)) m5 UV;refine Za rfl<|tr Tryz.underlying34 eg rfl db (ba<|Da<|Va d3) b d0 (λe=>(m6 e)) m5 UV (by decide) ?_;clear b;intro F2 G2 y A b;cases (show _=y from A);replace b:=Sep.pe b za;refine pu (wa<|Lb<|xe Xc)<|sa ?_;obtain ⟨Ta,Cb,Rf,t2,a0,u2,c0⟩:=Sep.Bi b s2 rfl;clear b;subst t2;have b:=c0;clear c0;refine Za rfl<|Pg Tryz.underlying29 Pj (Bc.s (ba<|Da<|Va d4) rfl Bc.z) rfl rfl b λCd H2 I2 b=>(pu (wa<|Lb<|xe qd)<|sa ?_);have f0:qa Ta [.slice Cb x.words.length Rf] [x.words]:=(qa.one (α:=List Int) (⟨Cb,Rf,rfl,u2⟩));have v2:=qa.app (u.up a0) f0 ST;refine Za rfl<|Mi Tryz.underlying29 Pj rfl (ba<|Da<|La d9) (ba<|Da<|Va d5) b d2 (b.ea d0).cells f0 rfl ST (by decide) ?_;clear b;intro hz J2 y A b;cases (show _=y from A);replace b:=Sep.pe b Eb;refine pu (wa<|Lb<|xe Vd) ?_;replace b:=b.drop ja.z;refine ⟨ud.z,?_⟩;refine mg (i:=9) [9,10] (λf Oc g h j k=>hB _ (by decide) f Oc g h j k) rfl rfl rfl (bm zK (ba d2) rfl) (Lb<|xe Wd) ?_;refine Za rfl<|zc OB (ba<|Da<|Va d7) (ba<|Da<|Va d6) (b.get d1).ee b d2 ob rfl Eb Ia λK2 b=>(sa<|Ph<|wl<|yo (ba<|Da<|La d4) db q2 (wa<|Lb<|xe Qd)<|wl<|Ai (ba<|Da<|Va d8) (wa<|Lb<|Ce Xc)<|ah<|dj ?_);exact ⟨n,_,_,rfl,(Ik<|Jo<|rn<|Aq<|fm<|fm<|Ik<|Jo<|Cp<|Gh<|ln<|Bq<|rn Uj),⟨i+1,_,_,_,by rw [show ((i+1:Nat):Int)=(i:Int)+1 from rfl],by omega,by omega,p.t a0,LT ▸ v2,LT ▸ b⟩,Nat.lt_succ_self _⟩
 ·rw [List.length_map,GT] at j2;obtain rfl:i=bs.length:=by omega
  refine aa ?_;rw [List.take_length] at u b;exact L1 _ _ _ _ _ _ _ _ _ _ _ _ _ _ _ _ _ _ _ _ _ _ p u b
end
theorem HD {fu:Nat}{I:M}{da w:World}{rsF:List Ha}(gc:ha Jb I){p_1:List va}{oa:Option Addr}{y:Nat}{r:gi×Nd}(G:ya I oa y p_1) (h:Kn fu p_1=some r) (b:fa I da w (rsF)):kb Tryz.prog 7 [.slice oa p_1.length y] w (λv w'=>∃ (J:M) (H:Option Addr) (K:Nat) (Cb:Option Addr) (Rf:Nat),v=.tuple ⟨[.agg ⟨[.slice H r.1.Zf.length K,.slice Cb r.1.Yc.length Rf,ca r.1.Steps]⟩,.agg ⟨[ca r.2.De,ca r.2.xa]⟩]⟩/\ha I J/\fa J da w' (rsF)/\ya J H K r.1.Zf/\ya J Cb Rf r.1.Yc):=by
 unfold Kn at h;replace h:=td h;obtain ⟨f,lc,h⟩:=h;refine bR Tryz.func7 rfl (frm:=[.slice oa p_1.length y,_,_,_,_,_,_,_,_,_,_,_,_,_,_,_,_,_,_,_,_,_,_,_,_,_,_,_,_,_,_,_,_,_,_,_,_,_,_,_,_,_,_,_,_,_,_,_,_,_,_,_,_,_,_,_,_,_,_,_,_,_,_,_,_,_,_,_,_,_,_,_,_,_,_,_,_,_,_,_,_,_,_,_,_,_,_,_,_,_,_,_,_,_,_,_,_,_,_,_,_,_,_,_,_,_,_,_,_,_,_,_,_,_,_,_,_,_,_,_,_,_,_,_,_,_,_,_,_,_,_,_,_,_,_,_,_,_,_,_,_,_,_,_,_,_,_,_,_,_,_]) rfl<|aa<|wl<|oc Qi b λad L ip b=>(pu (wa Eb)<|wl<|oc cd b λUa N jp b=>(pu (wa nc) ?_));refine aa ?_;refine la ?_;refine aa ?_;refine wl<|jd gG yc (ua (ba<|pa d8) qb) (Ix gc G lc b) ?_;rintro _ O ⟨Ta,rfl,P,b⟩;refine aa<|wl<|oc cd b λWf mp pp b=>(pu (wa Xc)<|wl<|Kb cd (ba d4) (ba<|pa d9) rfl rfl b d0 rfl za Ia λsp b=>?_);refine aa ?_;refine Rb (ba<|Ca d2) (λA=>?_)<|λA=>?_
 ·rw [if_pos A] at h;cases h;refine Sd b λL b=>(ck (i:=0) [0,2,3] (λ_ _ _ _ _ h=>pv rfl h) rfl rfl rfl (Xg Qi (ba d2) (b.ea d2).cells rfl) (wc nc)<|ck (i:=1) [1,3] (λ_ _ _ _ _ h=>pv rfl h) rfl rfl rfl (Xg cd (ba d4) (b.ea d0).cells rfl) (wc Xc)<|Za rfl<|Kb Qi (ba d2) (ba<|Ca d3) rfl rfl b d2 rfl Eb Ia λN b=>(⟨(ud.s (Xg cd (ba d4) (b.ea d0).cells rfl) ud.z),?_⟩));refine Za rfl<|Kb cd (ba d3) (ba<|Ca d4) rfl rfl b d1 rfl ob Ia λO b=>(sa<|QL<|jq rfl (jb.s (.a d2 Qi (b.ea d2).cells rfl)<|jb.s (.a d3 cd (b.ea d1).cells rfl) jb.z) ?_);replace b:=((b.drop ja.z).drop ja.z).drop ja.z;exact ex
 rw [if_neg A] at h;rcases Nat.lt_or_ge 4294967295 p_1.length with ma | ma
 ·rw [if_neg (by omega)] at h;cases h
 rw [if_pos ma] at h;replace h:=td h;obtain ⟨wp,Q,h⟩:=h;replace b:=b.drop ja.z;refine aa ?_;refine wl<|jy (ba<|Ca d5) qb Ia<|aa<|wl<|tk b λPo Op eq b=>(pu (wa<|wc Vd)<|wl<|tk b λQo Eq or b=>(pu (wa<|wc Wd)<|wl<|tk b λRo Ef qr b=>(pu (wa<|wc Qd)<|wl<|Le fW lW (cb.o rfl (ba<|Ca d6) rfl rfl za<|cb.o rfl (ba<|Ca d7) rfl rfl ob<|cb.o rfl (ba<|Ca d8) rfl rfl Eb<|cb.o rfl db rfl rfl nc cb.z) (wa<|wc Td)<|xc b λKa wr Fr b=>(pu (wa<|Ce za) ?_))));refine aa ?_;refine la ?_;refine hQ (hB:=λd Ea _ _ _ _ _ h=>pv (d:=d) (by show ([2,3]:List Nat).contains d=false;simp;omega) h) ma (G.up P) (b.perm (rs':=.map Ro [] 0::.map Qo [] 0::.map Po [] 0::.ea Ka 66 [.map (some Po),.map (some Qo),.map (some Ro),ca 0]::.ea Ua 26 [ca 0,ca 0]::.ea ad 31 [.slice none 0 0,.slice none 0 0,ca 0]::rsF) (by classical exact List.perm_iff_count.2 (λx=>(by simp only [List.count_append,List.count_cons,List.count_nil];ac_rfl)))) ?_;clear b;intro Or cs es ls ms os rs us vs ws xs ys Os gt it lt mt ut wt bv kv hw kw lw ww rx zx AC GE LE NE WF RK PP WP EQ GQ IR FS GT LT ST UV a0 c0 f0 g0 i0 k0 t0 v0 x0 z0 R0 f1 g1 i1 k1 m1 s1 t1 v1 x1 H1 K1 L1 M1 N1 O1 P1 Q1 R1 dl is bb ej B S1 Hj T1 U1 V1 W1 nf se mf Sf rc g b;obtain ⟨X1,C,fd,b⟩:=Sep.Bm b g.cn;obtain ⟨Y1,D,id,b⟩:=Sep.Bm b (g.Ki.up C);obtain ⟨rd,E,wd,b⟩:=Sep.Bm b (g.Pq.up (C.t D));have k:=C.t (D.t E);have n:ks (Mf p_1).env rd Ka bb (is.map Li.Fa) (Mf p_1).na (Mf p_1).bs 0 ⟨Po,Qo,Ro,ej,.nilFunc,.slice none 0 0,.slice none 0 0,0,[],[],[],[],B⟩ (is.map λi=>(Ow Ka bb i,Nw i)):=by
  refine ⟨⟨by omega,by omega,wd,id.up E,fd.up (D.t E),g.zh.zh,g.Ya.imp λ_ _ _ q=>q.up k⟩,?_,?_⟩
  ·rw [g.na];exact (g.new.up k).all
  ·rw [List.map_map];rfl
 have j:=Jk.res (bb:=bb) (g.new.up k) (b.perm (rs':=yr Ka is++(.row Sf 73 1 ((is.map Li.Fa).map vc.mk).length se::.row mf 70 1 (bb.map vc.mk).length nf::.ea Ka 66 [.map (some Po),.map (some Qo),.map (some Ro),ca 0]::(B++(.ea Ua 26 [ca 0,ca 0]::.ea ad 31 [.slice none 0 0,.slice none 0 0,ca 0]::rsF)))) (by classical exact List.perm_iff_count.2 (λx=>(by simp only [List.count_append,List.count_cons,List.count_nil];ac_rfl))));rw [<- g.na] at j;have R:=j.perm (rs':=.row Sf 73 1 ((is.map Li.Fa).map vc.mk).length se::.row mf 70 1 (bb.map vc.mk).length nf::tj Ka 0 ⟨Po,Qo,Ro,ej,.nilFunc,.slice none 0 0,.slice none 0 0,0,[],[],[],[],B⟩ (Mf p_1).na (is.map λi=>(Ow Ka bb i,Nw i)) (.ea Ua 26 [ca 0,ca 0]::.ea ad 31 [.slice none 0 0,.slice none 0 0,ca 0]::rsF)) (by simp only [tj,oq,List.cons_append,List.append_assoc];classical exact List.perm_iff_count.2 (λx=>(by simp only [List.count_append,List.count_cons,List.count_nil];ac_rfl)));clear b j;refine gg<|la<|eP Q n (g.nz.up k) (g.rt.up k) R ?_ ?_
 rotate_left
 ·intro Fd Id be ce ge ne Ne of wf If dg rg bi ci ii li e pi;subst e;obtain ⟨Pi,S,b⟩:=pi;cases h;refine FW tK (gQ<|b.perm (by classical exact List.perm_iff_count.2 (λx=>(by simp only [List.count_append,List.count_cons,List.count_nil];ac_rfl)))) ?_;intro el b;refine jq rfl (jb.s (.a d2 Qi (b.ea d0).cells rfl)<|jb.s (.a d3 cd (b.ea d1).cells rfl) jb.z) ?_;replace b:=(b.drop ja.z).drop ja.z;exact ex
 clear R n;intro Fd Id be ce ge ne Ne of wf If dg rg bi ci ii li na bs nd Pi l T e S n b;subst e;unfold RD at h;simp only at h;have p:na.length<=4294967295/\bs.length<=4294967295/\(bs.all λc=>decide (c.words.length<=4294967295))=true:=Decidable.byContradiction λp=>by
  rw [if_neg p] at h;cases h
 rw [if_pos p] at h;obtain ⟨nl,ol,pl⟩:=p;obtain rfl:=jo h;clear h Q;refine gg<|la ?_;obtain ⟨ul,am,em⟩:=n;have j:=b.perm (rs':=.ea Ka 66 [.map (some l.md),.map (some l.Tb),.map (some l.nb),ca nd]::.ea ad 31 [.slice none 0 0,.slice none 0 0,ca 0]::(Xh na T++(l.Ya++(.row Sf 73 1 ((is.map Li.Fa).map vc.mk).length se::.row mf 70 1 (bb.map vc.mk).length nf::.ea Ua 26 [ca 0,ca 0]::rsF)))) (by simp only [tj,oq,List.cons_append,List.append_assoc];classical exact List.perm_iff_count.2 (λx=>(by simp only [List.count_append,List.count_cons,List.count_nil];ac_rfl)));clear b;have b:=j;clear j;refine aa<|wl<|zc Yb (ba<|Da<|pa d5) (ba<|Da<|pa d4) rfl b d1 Eb rfl ob Ia λel b=>?_;refine aa ?_;have j:=(b.drop ja.z).perm (rs':=Xh na T++(l.Ya++(.row Sf 73 1 ((is.map Li.Fa).map vc.mk).length se::.row mf 70 1 (bb.map vc.mk).length nf::.ea ad 31 [.slice none 0 0,.slice none 0 0,ca nd]::.ea Ua 26 [ca 0,ca 0]::rsF))) (by classical exact List.perm_iff_count.2 (λx=>(by simp only [List.count_append,List.count_cons,List.count_nil];ac_rfl)));clear b;obtain ⟨Z1,U,hm,b⟩:=HI am j;clear j;obtain ⟨a2,V,lm,b⟩:=II (ul.Ya.imp λ_ _ _ q=>q.up U) b;have F:=S.t (U.t V);have sm:=(g.rt.up k).up F;have Nm:=(g.nz.up k).up F;refine la ?_;refine iQ (hB:=λd Ea _ _ _ _ _ h=>pv (d:=d) (by show ([2,3]:List Nat).contains d=false;simp;omega) h) nl (by rw [em];exact hm.up V) sm (b.perm (rs':=.row Sf 73 1 ((is.map Li.Fa).map vc.mk).length se::.ea ad 31 [.slice none 0 0,.slice none 0 0,ca nd]::.row mf 70 1 (bb.map vc.mk).length nf::.ea Ua 26 [ca 0,ca 0]::rsF) (by classical exact List.perm_iff_count.2 (λx=>(by simp only [List.count_append,List.count_cons,List.count_nil];ac_rfl)))) ?_;clear b;intro Oe b2 c2 f2 g2 h2 i2 j2 k2 l2 m2 n2 o2 p2 q2 r2 s2 t2 u W fn b;refine gg<|la<|jQ (hB:=λd Ea _ _ _ _ _ h=>pv (d:=d) (by show ([2,3]:List Nat).contains d=false;simp;omega) h) ol (λc on=>by simpa using (List.all_eq_true.1 pl) c on) lm Nm (b.perm (rs':=.row mf 70 1 (bb.map vc.mk).length nf::.ea ad 31 [u,.slice none 0 0,ca nd]::.row u 36 4 (na.map vh).length W::.row Sf 73 1 ((is.map Li.Fa).map vc.mk).length se::.ea Ua 26 [ca 0,ca 0]::rsF) (by classical exact List.perm_iff_count.2 (λx=>(by simp only [List.count_append,List.count_cons,List.count_nil];ac_rfl)))) ?_;clear b;intro u2 v2 w2 x2 y2 z2 A2 B2 C2 D2 E2 F2 G2 H2 I2 J2 K2 L2 M2 N2 X un Y wn b;have j:=b.perm (rs':=.row X 34 1 (bs.map ed.words).length un::.row u 36 4 (na.map vh).length W::.ea ad 31 [u,X,ca nd]::.ea Ua 26 [ca 0,ca 0]::.row mf 70 1 (bb.map vc.mk).length nf::.row Sf 73 1 ((is.map Li.Fa).map vc.mk).length se::rsF) (by classical exact List.perm_iff_count.2 (λx=>(by simp only [List.count_append,List.count_cons,List.count_nil];ac_rfl)));clear b;obtain ⟨O2,Fn,In,co,Z,io,m⟩:=Sep.Bi j wn rfl;clear j;subst co;have b:=m;clear m;obtain ⟨no,ro,to,Do,Gb,ap,m⟩:=Sep.Bi b ((fn.up Y).up Z) rfl;clear b;subst Do;have b:=m;clear m;refine gg<|Sd b λL b=>(ck (i:=0) [0,2,3] (λ_ _ _ _ _ h=>pv rfl h) rfl rfl rfl (Xg Qi (ba d2) (b.ea d0).cells rfl) (Lb<|xe Td)<|ck (i:=1) [1,3] (λ_ _ _ _ _ h=>pv rfl h) rfl rfl rfl (Xg cd (ba d3) (b.ea d1).cells rfl) (Lb<|af za)<|Za rfl<|Kb Qi (ba d2) (ba<|Da<|Va d9) rfl rfl b d0 rfl za Ia λN b=>(⟨(ud.s (Xg cd (ba d3) (b.ea d1).cells rfl) ud.z),?_⟩));refine Za rfl<|Kb cd (ba d3) (ba<|Da<|sb d0) rfl rfl b d1 rfl ob Ia λO b=>(sa<|QL<|TK tK (dP b) ?_);rintro v w' ⟨rfl,b⟩;refine jq rfl (jb.s (.a d2 Qi (b.ea d0).cells rfl)<|jb.s (.a d3 cd (b.ea d1).cells rfl) jb.z) ?_;replace b:=(((b.drop ja.z).drop ja.z).drop ja.z).drop ja.z;refine ⟨no,ro,to,Fn,In,?_,P.t<|rc.t<|k.t<|F.t<|Y.t<|Z.t Gb,b,ap,io.up Gb⟩;simp only [cv,List.length_map]
end Go.Proofs.YtafjdiifkckmbaaGreatDoor
