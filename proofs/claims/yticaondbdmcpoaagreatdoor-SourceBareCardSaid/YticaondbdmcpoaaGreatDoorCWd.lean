/- Texts of Wd. -/
import Derived.Test.YticaondbdmcpoaaGreatDoorCMd
import Derived.Test.YticaondbdmcpoaaGreatDoorCXu
import Derived.Test.YticaondbdmcpoaaGreatDoorCWc
import Derived.Tactics2
import Derived.Recover
import Derived.Laws.Pointers
import Derived.Test.YticaondbdmcpoaaGreatDoorCWb
set_option linter.unusedSimpArgs false
set_option linter.unusedVariables false
set_option linter.unusedSectionVars false
namespace Go.Y
open Go.Rb Go.ec
abbrev ub (b:Nat):Value:=.pointer (some ⟨b,0,none⟩)
abbrev gh (k:Nat) (cs:List Value):Value:=.func (.func k) ⟨[]⟩ ⟨cs⟩
structure pe where
 La:Nat
 Ca:Nat
 A:List Nat
 B:List Nat
 bb:List Nat
structure pe.le (G wg:pe):Prop where
 La:wg.La=G.La
 Ca:wg.Ca=G.Ca
 bb:wg.bb=G.bb
 A:∀ (i b:Nat),G.A[i]?=some b→wg.A[i]?=some b
 B:∀ (i b:Nat),G.B[i]?=some b→wg.B[i]?=some b
theorem pe.le.r {G:pe}:G.le G:=⟨rfl,rfl,rfl,fun _ _ h=>h,fun _ _ h=>h⟩
theorem pe.le.t {a b c:pe}(h:a.le b) (k:b.le c):a.le c:=⟨k.La.trans h.La,k.Ca.trans h.Ca,k.bb.trans h.bb,fun i x e=>k.A i x (h.A i x e),fun i x e=>k.B i x (h.B i x e)⟩
def Jk (G:pe) (v:Option Addr):Option Nat→Prop
 | none=>v=none
 | some i=>∃ b,G.A[i]?=some b∧v=some ⟨b,0,none⟩
theorem Jk.up {G wg:pe}{v:Option Addr}{s:Option Nat}(h:Jk G v s) (l:G.le wg):Jk wg v s:=by
 cases s with
 | none=>exact h
 | some i=>obtain ⟨b,a,c⟩:=h; exact ⟨b,l.A i b a,c⟩
def Ow (E:oe) (G:pe) (n:Te) (b:Nat):Prop:=∃ i:Nat,Ua E.order n=some (i:Int)∧G.bb[i]?=some b
theorem Ow.up {E:oe}{G wg:pe}{n:Te}{b:Nat}(h:Ow E G n b) (l:G.le wg):Ow E wg n b:=by
 obtain ⟨i,a,c⟩:=h;exact ⟨i,a,by rw [l.bb];exact c⟩
mutual
def ef (E:oe) (μ:M) (G:pe):ff→Nat→List Value→Prop
 | .all l s Sd k,K,cs=>K=151∧∃ jb c2 c3 c4 c5 c d sp td j a b,cs=[ub jb,ub c2,ub c3,ub c4,ub c5]∧Aa μ jb 0 [ub G.Ca]∧Ja μ c d l∧Aa μ c2 0 [.slice c l.length d]∧Jk G sp s∧Aa μ c3 0 [.pointer sp]∧Ja μ td j Sd∧Aa μ c4 0 [.slice td Sd.length j]∧Aa μ c5 0 [gh a b]∧xl E μ G k a b
 | .stat l s e k,K,cs=>K=64∧∃ f Yw jb c2 c3 c4 g Pe ce h m x i c d sp a b,cs=[ub f,ub Yw,ub g,ub Pe,ub ce]∧at_ l 0=some x∧We μ i x∧Aa μ f 0 [i]∧Aa μ Yw 0 [gh 59 [ub jb,ub c2,ub c3,ub c4]]∧Aa μ jb 0 [ub G.Ca]∧Ja μ c d l∧Aa μ c2 0 [.slice c l.length d]∧Aa μ c3 0 [ub m]∧xh E μ G e m∧Aa μ c4 0 [gh a b]∧Ke E μ G k a b∧Jk G sp s∧Aa μ g 0 [.pointer sp]∧Aa μ Pe 0 [ub G.Ca]∧Aa μ ce 0 [ub h]∧xh E μ G e h
 | .rf x s e k,K,cs=>K=102∧∃ b Pe f g ce h i sp a n,cs=[ub b,ub Pe,ub f,ub g,ub ce]∧Aa μ b 0 [gh a n]∧Ke E μ G k a n∧Aa μ Pe 0 [ub G.Ca]∧We μ i x∧Aa μ f 0 [i]∧Jk G sp s∧Aa μ g 0 [.pointer sp]∧Aa μ ce 0 [ub h]∧xh E μ G e h
def xl (E:oe) (μ:M) (G:pe):gl→Nat→List Value→Prop
 | .ex x k,K,cs=>K=106∧∃ a b Pe c d e,cs=[ub a,ub b,ub Pe]∧We μ c x∧Aa μ a 0 [c]∧Aa μ b 0 [gh d e]∧ef E μ G k d e∧Aa μ Pe 0 [ub G.Ca]
def Ke (E:oe) (μ:M) (G:pe):xe→Nat→List Value→Prop
 | .zero k,K,cs=>K=108∧∃ a c f,cs=[ub a]∧Aa μ a 0 [gh c f]∧ef E μ G k c f
 | .recv n k,K,cs=>K=150∧∃ h Pe i j a b c f,cs=[ub h,ub Pe,ub i,ub j,ub a]∧Ow E G n b∧Aa μ h 0 [ub b]∧Aa μ Pe 0 [ub G.Ca]∧Aa μ i 0 [S n]∧Aa μ j 0 [gh 150 [ub h,ub Pe,ub i,ub j,ub a]]∧Aa μ a 0 [gh c f]∧ef E μ G k c f
 | .send n v k,K,cs=>K=113∧∃ h Pe i j Yh a b c f,cs=[ub h,ub Pe,ub i,ub j,ub Yh,ub a]∧Ow E G n b∧Aa μ h 0 [ub b]∧Aa μ Pe 0 [ub G.Ca]∧Aa μ i 0 [S n]∧Aa μ j 0 [gh 113 [ub h,ub Pe,ub i,ub j,ub Yh,ub a]]∧Aa μ Yh 0 [.int .i64 v]∧Aa μ a 0 [gh c f]∧Ke E μ G k c f
 | .done g,K,cs=>K=152∧∃ m Pe b,cs=[ub m,ub Pe]∧G.B[g]?=some b∧Aa μ m 0 [ub b]∧Aa μ Pe 0 [ub G.Ca]
 | .stats l s e k,K,cs=>K=60∧∃ Pe r o ce a p q t u sp c f,cs=[ub Pe,ub r,ub o,ub ce,ub a]∧Aa μ Pe 0 [ub G.Ca]∧cut q 1 q.length=some l∧Ja μ t u q∧Aa μ r 0 [.slice t q.length u]∧Jk G sp s∧Aa μ o 0 [.pointer sp]∧Aa μ ce 0 [ub p]∧xh E μ G e p∧Aa μ a 0 [gh c f]∧Ke E μ G k c f
 | .rf x s e k,K,cs=>K=103∧∃ Pe w o ce a p y sp c f,cs=[ub Pe,ub w,ub o,ub ce,ub a]∧Aa μ Pe 0 [ub G.Ca]∧We μ y x∧Aa μ w 0 [y]∧Jk G sp s∧Aa μ o 0 [.pointer sp]∧Aa μ ce 0 [ub p]∧xh E μ G e p∧Aa μ a 0 [gh c f]∧Ke E μ G k c f
 | .fin,K,cs=>K=36∧∃ Pe,cs=[ub Pe]∧Aa μ Pe 0 [ub G.Ca]
 | .Ti d,K,cs=>K=37∧∃ Pe ni Nq m Om,cs=[ub Pe,ub ni,ub Nq]∧Aa μ Pe 0 [ub G.Ca]∧We μ Om d∧Aa μ ni 0 [Om]∧Aa μ Nq 0 [gh 36 [ub m]]∧Aa μ m 0 [ub G.Ca]
def xh (E:oe) (μ:M) (G:pe):lh→Nat→Prop
 | .ret k,c=>∃ a b,Aa μ c 0 [gh a b,.nilFunc]∧ef E μ G k a b
 | .stop k,c=>∃ a b,Aa μ c 0 [.nilFunc,gh a b]∧Ke E μ G k a b
end
section
variable {E:oe}{μ J:M}{G wg:pe}(lm:ga μ J) (qc:G.le wg)
include lm qc
mutual
theorem ef.up:∀ {k:ff}{K:Nat}{cs:List Value},ef E μ G k K cs→ef E J wg k K cs
 | .all l s Sd k,K,cs,⟨h,jb,c2,c3,c4,c5,q,r,sp,td,y,a,b,c,d,f,g,i,j,m,n,o,p⟩=>by
  rw [ef,qc.Ca];exact ⟨h,jb,c2,c3,c4,c5,q,r,sp,td,y,a,b,c,d.up lm,f.up lm,g.up lm,i.up qc,j.up lm,m.up lm,n.up lm,o.up lm,xl.up p⟩
 | .stat l s e k,K,cs,⟨h,t,Yw,jb,c2,c3,c4,u,Pe,ce,v,z,x,w,q,r,sp,a,b,c,d,f,g,i,j,m,n,o,p,A,B,C,D,F,H,L⟩=>by
  rw [ef,qc.Ca];exact ⟨h,t,Yw,jb,c2,c3,c4,u,Pe,ce,v,z,x,w,q,r,sp,a,b,c,d,f.up lm,g.up lm,i.up lm,j.up lm,m.up lm,n.up lm,o.up lm,xh.up p,A.up lm,Ke.up B,C.up qc,D.up lm,F.up lm,H.up lm,xh.up L⟩
 | .rf x s e k,K,cs,⟨h,b,Pe,t,u,ce,v,w,sp,a,M,c,d,f,g,i,j,m,n,o,p⟩=>by
  rw [ef,qc.Ca];exact ⟨h,b,Pe,t,u,ce,v,w,sp,a,M,c,d.up lm,Ke.up f,g.up lm,i.up lm,j.up lm,m.up qc,n.up lm,o.up lm,xh.up p⟩
theorem xl.up:∀ {k:gl}{K:Nat}{cs:List Value},xl E μ G k K cs→xl E J wg k K cs
 | .ex x k,K,cs,⟨h,a,b,Pe,c,d,e,f,g,i,j,l,m⟩=>by
  rw [xl,qc.Ca];exact ⟨h,a,b,Pe,c,d,e,f,g.up lm,i.up lm,j.up lm,ef.up l,m.up lm⟩
theorem Ke.up:∀ {k:xe}{K:Nat}{cs:List Value},Ke E μ G k K cs→Ke E J wg k K cs
 | .zero k,K,cs,⟨h,j,m,o,a,c,f⟩=>by
  rw [Ke];exact ⟨h,j,m,o,a,c.up lm,ef.up f⟩
 | .recv n k,K,cs,⟨h,w,Pe,y,z,j,b,m,o,a,c,f,i,p,q,r,t⟩=>by
  rw [Ke,qc.Ca];exact ⟨h,w,Pe,y,z,j,b,m,o,a,c.up qc,f.up lm,i.up lm,p.up lm,q.up lm,r.up lm,ef.up t⟩
 | .send n v k,K,cs,⟨h,w,Pe,y,z,Yh,j,b,m,o,a,c,f,i,p,q,r,t,u⟩=>by
  rw [Ke,qc.Ca];exact ⟨h,w,Pe,y,z,Yh,j,b,m,o,a,c.up qc,f.up lm,i.up lm,p.up lm,q.up lm,r.up lm,t.up lm,Ke.up u⟩
 | .done g,K,cs,⟨h,A,Pe,b,a,c,f,i⟩=>by
  rw [Ke,qc.Ca];exact ⟨h,A,Pe,b,a,qc.B _ _ c,f.up lm,i.up lm⟩
 | .stats l s e k,K,cs,⟨h,Pe,H,C,ce,j,D,L,M,N,sp,m,o,a,c,f,i,p,q,r,t,u,F,O⟩=>by
  rw [Ke,qc.Ca];exact ⟨h,Pe,H,C,ce,j,D,L,M,N,sp,m,o,a,c.up lm,f,i.up lm,p.up lm,q.up qc,r.up lm,t.up lm,xh.up u,F.up lm,Ke.up O⟩
 | .rf x s e k,K,cs,⟨h,Pe,P,C,ce,j,D,Q,sp,m,o,a,c,f,i,p,q,r,t,u,F⟩=>by
  rw [Ke,qc.Ca];exact ⟨h,Pe,P,C,ce,j,D,Q,sp,m,o,a,c.up lm,f.up lm,i.up lm,p.up qc,q.up lm,r.up lm,xh.up t,u.up lm,Ke.up F⟩
 | .fin,K,cs,⟨h,Pe,a,c⟩=>by
  rw [Ke,qc.Ca];exact ⟨h,Pe,a,c.up lm⟩
 | .Ti d,K,cs,⟨h,Pe,ni,Nq,A,Om,a,c,f,i,p,q⟩=>by
  rw [Ke,qc.Ca];exact ⟨h,Pe,ni,Nq,A,Om,a,c.up lm,f.up lm,i.up lm,p.up lm,q.up lm⟩
theorem xh.up:∀ {e:lh}{a:Nat},xh E μ G e a→xh E J wg e a
 | .ret k,a,⟨b,c,d,f⟩=>by
  rw [xh];exact ⟨b,c,d.up lm,ef.up f⟩
 | .stop k,a,⟨b,c,d,f⟩=>by
  rw [xh];exact ⟨b,c,d.up lm,Ke.up f⟩
end
end
end Go.Y
namespace Go.Y
open Go.Rb Go.ec
def Lf {α:Type}(R:α→Nat→kb→Prop):List α→List Nat→List kb→Prop
 | [],[],[]=>True
 | x::xs,b::bs,r::rs=>R x b r∧Lf R xs bs rs
 | _,_,_=>False
section
variable {α:Type}{R R':α→Nat→kb→Prop}
theorem Lf.imp (h:∀ x b r,R x b r→R' x b r):∀ {xs:List α}{bs:List Nat}{rs:List kb},Lf R xs bs rs→Lf R' xs bs rs
 | [],[],[],_=>trivial
 | x::xs,b::bs,r::rs,⟨a,c⟩=>⟨h _ _ _ a,Lf.imp h c⟩
 | [],[],_::_,k=>k.elim
 | [],_::_,_,k=>k.elim
 | _::_,[],_,k=>k.elim
 | _::_,_::_,[],k=>k.elim
theorem Lf.len:∀ {xs:List α}{bs:List Nat}{rs:List kb},Lf R xs bs rs→bs.length=xs.length∧rs.length=xs.length
 | [],[],[],_=>⟨rfl,rfl⟩
 | x::xs,b::bs,r::rs,⟨_,a⟩=>by have:=Lf.len a; simp [this.1,this.2]
 | [],[],_::_,k=>k.elim
 | [],_::_,_,k=>k.elim
 | _::_,[],_,k=>k.elim
 | _::_,_::_,[],k=>k.elim
theorem Lf.snoc {x:α}{b:Nat}{r:kb}(h:R x b r):∀ {xs:List α}{bs:List Nat}{rs:List kb},Lf R xs bs rs→Lf R (xs++[x]) (bs++[b]) (rs++[r])
 | [],[],[],_=>⟨h,trivial⟩
 | x::xs,b::bs,r::rs,⟨a,c⟩=>⟨a,Lf.snoc h c⟩
 | [],[],_::_,k=>k.elim
 | [],_::_,_,k=>k.elim
 | _::_,[],_,k=>k.elim
 | _::_,_::_,[],k=>k.elim
theorem Lf.get:∀ {xs:List α}{bs:List Nat}{rs:List kb}{i:Nat}{x:α},Lf R xs bs rs→xs[i]?=some x→∃ b r a e,bs[i]?=some b∧rs=a++r::e∧R x b r∧a.length=i∧∀ c r',R c b r'→Lf R (xs.set i c) bs (a++r'::e)
 | x::xs,b::bs,r::rs,0,y,⟨f,g⟩,d=>by
  cases d;exact ⟨b,r,[],rs,rfl,rfl,f,rfl,fun c r' h=>⟨h,g⟩⟩
 | x::xs,b::bs,r::rs,i+1,y,⟨f,g⟩,d=>by
  obtain ⟨Ic,r',a,e,g1,rfl,g3,g5,g4⟩:=Lf.get g (by simpa using d);exact ⟨Ic,r',r::a,e,by simpa using g1,rfl,g3,by simp [g5],fun c q h=>⟨f,g4 c q h⟩⟩
 | [],_,_,_,_,_,d=>by simp at d
 | _::_,[],_,_,_,k,_=>k.elim
 | _::_,_::_,[],_,_,k,_=>k.elim
end
variable (E:oe) (μ:M) (G:pe)
def rq (c:hi) (b:Nat) (r:kb):Prop:=∃ up,r=.ba b 191 [S c.name,.int .i64 c.v,.pointer up]∧Jk G up c.up
def Pw (v:Value):Option Nat→Prop
 | none=>v=.pointer none
 | some u=>∃ b,G.B[u]?=some b∧v=ub b
def eu (v:Value):Option ff→Prop
 | none=>v=.nilFunc
 | some k=>∃ K cs,v=gh K cs∧ef E μ G k K cs
def Ts (v:Value):Option xe→Prop
 | none=>v=.nilFunc
 | some k=>∃ K cs,v=gh K cs∧Ke E μ G k K cs
def Yt (c:Vg) (b:Nat) (r:kb):Prop:=∃ a ap up d on,r=.ba b 124 [a,.pointer ap,.bool c.begun,.bool c.going,.bool c.ended,up,d,on]∧We μ a c.Cm∧Jk G ap c.args∧Pw G up c.up∧eu E μ G d c.back∧eu E μ G on c.Ck
def Ms (c:Pd) (b:Nat) (r:kb):Prop:=∃ a k,r=.ba b 76 [.int .i64 c.cap,.slice a c.words.length k]∧Ja μ a k c.words
structure ze where
 md:Nat
 vc:Nat
 fb:Nat
 Wi:List (Te×Xl)
 oc:Value
 kc:Value
 Yb:Value
 Mb:Nat
 He:List Value
 qj:List Value
 gd:List kb
 Vd:List kb
 Eb:List kb
def ze.res (X:ze) (G:pe) (z:Zc) (vf:List kb):List kb :=
 .ba G.La 70 [.map (some X.md),.map (some X.vc),.map (some X.fb),.int .i64 z.nodes]::
 .ba G.Ca 85 [ub G.La,X.oc,X.kc,ub X.Mb,.int .i64 z.t.state,.int .i64 z.t.box,.int .i64 z.t.Fe,X.Yb]::
 .row X.kc 83 1 ((G.B.drop 1).map Jc.mk).length X.He::.row X.Yb 2 1 z.t.out.length X.qj::(X.gd++(X.Vd++(X.Eb++vf)))
structure Fg (z:Zc) (X:ze):Prop where
 je:0≤z.nodes
 de:z.nodes≤20000
 md:Oh μ X.md E.defs
 vc:Oh μ X.vc X.Wi
 fb:Oh μ X.fb E.order
 Ji:∀ (n:Te) (i b:Nat),Ua E.order n=some (i:Int)→G.bb[i]?=some b→Ua X.Wi n=some ⟨some b⟩
 now:G.B[z.t.now]?=some X.Mb
 Bb:Ts E μ G X.oc z.t.Yl
 pc:Na μ X.He ((G.B.drop 1).map Jc.mk)
 out:Na μ X.qj z.t.out
 gd:Lf (rq G) z.t.ue G.A X.gd
 Vd:Lf (Yt E μ G) z.t.Tb G.B X.Vd
 Eb:Lf (Ms μ) z.boxes G.bb X.Eb
 vf:z.t.Tb.length≤31
variable {E μ G}
section
variable {J:M}{wg:pe}
theorem rq.up {c:hi}{b:Nat}{r:kb}(h:rq G c b r) (l:G.le wg):rq wg c b r:=by
 obtain ⟨up,a,d⟩:=h;exact ⟨up,a,d.up l⟩
theorem Pw.up {v:Value}{u:Option Nat}(h:Pw G v u) (l:G.le wg):Pw wg v u:=by
 cases u with
 | none=>exact h
 | some u=>obtain ⟨b,a,c⟩:=h; exact ⟨b,l.B _ _ a,c⟩
theorem eu.up {v:Value}{k:Option ff}(h:eu E μ G v k) (m:ga μ J) (l:G.le wg):eu E J wg v k:=by
 cases k with
 | none=>exact h
 | some u=>obtain ⟨K,cs,a,b⟩:=h; exact ⟨K,cs,a,ef.up m l b⟩
theorem Ts.up {v:Value}{k:Option xe}(h:Ts E μ G v k) (m:ga μ J) (l:G.le wg):Ts E J wg v k:=by
 cases k with
 | none=>exact h
 | some u=>obtain ⟨K,cs,a,b⟩:=h; exact ⟨K,cs,a,Ke.up m l b⟩
theorem Yt.up {c:Vg}{b:Nat}{r:kb}(h:Yt E μ G c b r) (m:ga μ J) (l:G.le wg):Yt E J wg c b r:=by
 obtain ⟨a,ap,up,d,on,e,f,g,i,j,k⟩:=h;exact ⟨a,ap,up,d,on,e,f.up m,g.up l,i.up l,j.up m l,k.up m l⟩
theorem Ms.up {c:Pd}{b:Nat}{r:kb}(h:Ms μ c b r) (m:ga μ J):Ms J c b r:=by
 obtain ⟨a,k,d,e⟩:=h;exact ⟨a,k,d,e.up m⟩
theorem Fg.up {z:Zc}{X:ze}(h:Fg E μ G z X) (m:ga μ J):Fg E J G z X :=
 ⟨h.je,h.de,h.md.up m,h.vc.up m,h.fb.up m,h.Ji,h.now,h.Bb.up m .r,h.pc.up m,h.out.up m,h.gd,h.Vd.imp fun _ _ _ k=>k.up m .r,h.Eb.imp fun _ _ _ k=>k.up m,h.vf⟩
end
def aO (E:oe) (μ:M) (G:pe):kh→Nat→List Value→Prop
 | .expr x s k,f,vs=>f=63∧∃ d sp K cs,vs=[ub G.Ca,d,.pointer sp,gh K cs]∧We μ d x∧Jk G sp s∧ef E μ G k K cs
 | .all l s Sd k,f,vs=>f=105∧∃ a c sp td i K cs,vs=[ub G.Ca,.slice a l.length c,.pointer sp,.slice td Sd.length i,gh K cs]∧Ja μ a c l∧Jk G sp s∧Ja μ td i Sd∧xl E μ G k K cs
 | .stats l s e k,f,vs=>f=38∧∃ a c sp h K cs,vs=[ub G.Ca,.slice a l.length c,.pointer sp,ub h,gh K cs]∧Ja μ a c l∧Jk G sp s∧xh E μ G e h∧Ke E μ G k K cs
 | .rf x s e k,f,vs=>f=62∧∃ d sp h K cs,vs=[ub G.Ca,d,.pointer sp,ub h,gh K cs]∧We μ d x∧Jk G sp s∧xh E μ G e h∧Ke E μ G k K cs
 | .gf k v,f,vs=>∃ cs,vs=[.int .i64 v]++cs∧ef E μ G k f cs
 | .Sd k l,f,vs=>∃ a c cs,vs=[.slice a l.length c]++cs∧Ja μ a c l∧xl E μ G k f cs
 | .Hd k,f,vs=>∃ cs,vs=[]++cs∧Ke E μ G k f cs
 | .recv n k,f,vs=>f=104∧∃ K cs,vs=[ub G.Ca,S n,gh K cs]∧ef E μ G k K cs
 | .send n v k,f,vs=>f=66∧∃ K cs,vs=[ub G.Ca,S n,.int .i64 v,gh K cs]∧Ke E μ G k K cs
 | .resume g v k,f,vs=>f=110∧∃ b K cs,G.B[g]?=some b∧vs=[ub G.Ca,ub b,.int .i64 v,gh K cs]∧ef E μ G k K cs
def fm:Unit→Value:=fun _=>.iface 64 (.agg ⟨[]⟩)
def Cq {α:Type}:Option α→Except Unit α
 | none=>.error ()
 | some x=>.ok x
def Jj (E:oe) (μb:M) (Gb:pe) (ca:World) (rsF:List kb) (x:Option xe×Zc) (v:Value) (w:World):Prop:=∃ μ G X,ga μb μ∧Gb.le G∧Fg E μ G x.2 X∧Ts E μ G v x.1∧ha μ ca w (X.res G x.2 rsF)
def hl (μb:M) (ca:World) (rsF:List kb) (w:World):Prop:=∃ μ,ga μb μ∧ha μ ca w rsF
end Go.Y
set_option maxRecDepth 100000
set_option maxHeartbeats 20000000
namespace Go.Proofs.YticaondbdmcpoaaGreatDoor
open Go.Rb Go.ec Go.Y
theorem hD {α:Type}{R:α→Value→World→Prop}{E:World→Prop}{I:M}{ca w:World}{rs:List kb}{md vc fb:Value}{n:Int}{La:Nat}(b:i64 (n+1)=some (n+1)) (c:(20000:Int)<n+1) (k:∀ w',ha I ca w' (.ba La 70 [md,vc,fb,.int .i64 (n+1)]::rs)→E w') (a:ha I ca w (.ba La 70 [md,vc,fb,.int .i64 n]::rs)) :
  xc Tryz.prog 61 [ub La] w fm (.error ():Except Unit α) R E:=by
 refine pf Tryz.func61 rfl (frm:=[_,_,_,_,_,_,_,_,_,_,_,_,_,_,_,_]) rfl ?_;refine Fa ?_;refine gb ?_;refine wl (Af (aa d0) (ea xb) ?_);refine wl (aj (aa d2) (ea Ub) ?_);refine wl (Vh Fy (aa d3) rfl (ea Zb) ?_);refine wl (Yc Jd (aa d4) ((a.ba d0).cell d3) (ea yc) ?_);refine wl (br (aa d5) Pa b (ea jc) ?_);refine wl (aj (aa d2) (ea Cc) ?_);refine wl (Vh Fy (aa d7) rfl (ea Hc) ?_);refine wl (ud Jd (aa d8) (aa d6) rfl a d0 Ub rfl wa Wa ?_);clear a;intro d a;refine Va ?_;refine pa ?_;refine Fa ?_;refine gb ?_;refine wl (Af (aa d0) (ea sc) ?_);refine wl (aj (aa d9) (ea (Ma wa)) ?_);refine wl (Vh Fy (aa (na d0)) rfl (ea (Ma lb)) ?_);refine wl (Yc Jd (aa (na d1)) ((a.ba d0).cell d3) (ea (Ma xb)) ?_);refine wl (LM (aa (na d2)) Pa (ea (Ma Ub)) ?_);refine Va ?_;refine pa ?_;refine Cs (aa (na d3)) c ?_;refine gb ?_;refine wl (mg UB UN Lb.z (ea (Ma Zb)) ?_);refine wl (WJ (by kernel_rfl) (aa (na d4)) (ea (Ma yc)) ?_);refine wl (VJ (aa (na d5)) ?_);exact hG (P:=Tryz.prog) (fn:=Tryz.f61) (k _ a)
theorem qF {I:M}{ca w:World}{G:pe}{ld:List hi}{gd rs:List kb}{mc:List UInt8}{fu:Nat}{sp:Option Addr}{s:Option Nat}{i b:Nat}(o:Lf (rq G) ld G.A gd) (p:∀ r ∈ gd,r ∈ rs) (f:Jk G sp s) (d:tm ld mc fu s=some i) (q:G.A[i]?=some b) (u:ha I ca w rs) :
  wc Tryz.prog 65 [.pointer sp,S mc] w (fun v w'=>v=ub b∧w'=w):=by
 refine enter Tryz.func65 rfl (frm:=[_,_,_,_,_,_,_,_,_,_,_,_,_,_,_,_]) rfl ?_;refine Fa ?_;refine gb ?_;refine wl (Dg Pa (ea Zb) ?_);refine Va ?_;refine pa ?_;refine Fa ?_;refine yb ?_;refine Jg (rg 5 10) (by decide) (fun n m g=>∃ (sp:Option Addr) (s:Option Nat),m=(.i (.pointer sp)::(xi (Re 5 [])))∧tm ld mc n s=some i∧Jk G sp s∧g=w) (by rintro _ _ _ ⟨_,_,rfl,_⟩;rfl) fu _ (cb (Bf (Xb Oa))) ⟨sp,s,rfl,d,f,rfl⟩ ?_;clear d f;rintro n _ t g ⟨sp,s,rfl,d,f,rfl⟩;cases n with
 | zero=>cases d
 | succ n =>
 cases s with
 | none=>cases d
 | some j =>
 rw [tm] at d;obtain ⟨c,x,d⟩:=ua d;obtain ⟨a,k,rfl⟩:=f;obtain ⟨e,r,B,C,g1,g2,⟨up,rfl,hu⟩,-,-⟩:=o.get x;obtain rfl:e=a:=Option.some.inj (g1.symm.trans k);have y:Qk g e 191 [S c.name,.int .i64 c.v,.pointer up]:=u.all (.ba e 191 [S c.name,.int .i64 c.v,.pointer up]) (p _ (by rw [g2];simp));have l:Nj g e 0 [S c.name,.int .i64 c.v,.pointer up]:=Qk.cells y;refine Lg (bd (Qi (Ve ic))) ?_;refine Fa ?_;refine Fa ?_;refine gb ?_;refine wl (Af (aa d0) (ea yc) ?_);refine wl (aj (aa d5) (ea jc) ?_);refine wl (Vh eK (aa d6) rfl (ea Cc) ?_);refine wl (Yc Ye (aa d7) (l.one d0) (ea Hc) ?_);refine wl (Af (aa d1) (ea sc) ?_);refine wl (QM (aa d8) (aa d9) (ea (Ma wa)) ?_);refine Va ?_;refine pa ?_;refine ui (aa (na d0)) (fun z=>?_) (fun heq=>?_)
 ·rw [if_neg z] at d;refine eb ?_;refine pa ?_;refine yb ?_;refine gb ?_;refine wl (Af (aa d0) (ea (Ma lb)) ?_);refine wl (aj (aa (na d1)) (ea (Ma xb)) ?_);refine wl (Vh fK (aa (na d2)) rfl (ea (Ma Ub)) ?_);refine wl (Yc np (aa (na d3)) (l.one d2) (ea (Ma Zb)) ?_);refine wl (Dg (aa (na d4)) (ea wa) ?_);refine Va ?_;refine (fun h=>kd (Ya h)) ?_;exact ⟨n,_,_,rfl,(cb (Bf (Xb Oa))),⟨up,c.up,rfl,d,hu,rfl⟩,Nat.lt_succ_self _⟩
 ·rw [if_pos (Decidable.not_not.1 heq)] at d;obtain rfl:=rb d;obtain rfl:e=b:=Option.some.inj (k.symm.trans q);refine eg ?_;refine (fun h=>jd (jd (hg h))) ?_;refine pa ?_;refine Fa ?_;refine gb ?_;refine wl (Af (aa d0) (ea (Ma yc)) ?_);refine wl (Dg (aa (na d5)) (ea Zb) ?_);refine Va ?_;refine pa ?_;refine Ka ?_;exact Ob rfl d4 ⟨rfl,rfl⟩
def uz (G:pe) (ld:List hi) (a:List hi) (s1:Option Nat) (gs:List kb) (sp:Option Addr):Prop:=∃ bs new,a=ld++new∧Lf (rq { G with A:=G.A++bs }) new bs gs∧Jk { G with A:=G.A++bs } sp s1
theorem pe.le.app {G:pe}{bs:List Nat}:G.le { G with A:=G.A++bs }:=⟨rfl,rfl,rfl,fun i b h=>by
 show (G.A++bs)[i]?=some b;rw [List.getElem?_append_left (List.getElem?_eq_some_iff.1 h).1];exact h,fun _ _ h=>h⟩
theorem BK {I:M}{ca w:World}{G:pe}{ld g:List hi}{s1:Option Nat}{d:sa}{l:List Int}{Ld:Option Addr}{Md:Nat}{rs:List kb}{Om:Value}(B:G.A.length=ld.length) (c:Oj d.Params l ld none=some (g,s1)) (C:Ja I Ld Md l) (D:We I Om d) (b:ha I ca w rs) :
  wc Tryz.prog 107 [Om,.slice Ld l.length Md] w (fun v w'=>∃ (gs:List kb) (sp:Option Addr),v=.pointer sp∧uz G ld g s1 gs sp∧ha I ca w' (gs++rs)):=by
 obtain ⟨X,Y,Z,rfl,E,F⟩:=D;obtain ⟨oa,jb,a2,c2,rfl,u,bb⟩:=F;have Gb:=Ja.len u;refine enter Tryz.func107 rfl (frm:=[_,_,_,_,_,_,_,_,_,_,_,_,_,_,_,_,_,_,_,_,_,_,_,_,_,_,_,_,_]) rfl ?_;refine Fa ?_;refine gb ?_;refine wl (Dg Pa (ea Zb) ?_);refine Va ?_;refine pa ?_;refine Fa ?_;refine gb ?_;refine wl (Dg Pa (ea yc) ?_);refine Va ?_;refine pa ?_;refine Fa ?_;refine Fa ?_;refine gb ?_;refine wl (Af (aa d0) (ea Hc) ?_);refine wl (aj (aa d8) (ea sc) ?_);refine wl (Vh LL (aa d9) rfl (ea (Ma wa)) ?_);refine wl (Yc Gw (aa (na d0)) ((E _ b.a).one d7) (ea (Ma lb)) ?_);refine wl (kE Tryz.underlying43 (aa (na d1)) (ea (Ma xb)) ?_);refine wl (Af Pa (ea (Ma Ub)) ?_);refine Va ?_;refine pa ?_;refine yb ?_;refine Jg (rg 6 2++rg 14 14) (by decide) (fun n m j=>∃ (i:Nat) (sp:Option Addr) (s:Option Nat) (gs:List kb) (bs:List Nat) (new:List hi),m=(ki (.i (.pointer sp)::(Nh 6 (ki (.i (.int .i64 i)::(Re 14 (Rk 24 [])))))))∧d.Params.length<n+i∧i≤d.Params.length∧Oj (d.Params.drop i) (l.drop i) (ld++new) s=some (g,s1)∧Lf (rq { G with A:=G.A++bs }) new bs gs∧Jk { G with A:=G.A++bs } sp s∧ha I ca j (gs++rs)) (by rintro _ _ _ ⟨_,_,_,_,_,_,rfl,_⟩;rfl) (d.Params.length+1) _ (Xf (cb (qf (Xf (cb (Xb (jh Oa))))))) ⟨0,none,none,[],[],[],rfl,by omega,by omega,by simpa using c,trivial,rfl,b⟩ ?_;clear b c;rintro k _ t j ⟨i,sp,s,gs,bs,new,rfl,gc,lc,c,p,x,b⟩;cases k with
 | zero=>omega
 | succ k =>
 refine Lg (yi (bd (ji (yi (bd (Ve (sl ic))))))) ?_;refine Fa ?_;refine gb ?_;refine wl (mw (aa (na d3)) (aa (na d2)) (ea (Ma Zb)) ?_);refine Va ?_;refine pa ?_;refine Fa ?_;refine ui (aa (na d4)) (fun rc=>?_) (fun fd=>?_)
 ·have r:i<d.Params.length:=by omega
  rw [List.drop_eq_getElem_cons r] at c;cases f:l.drop i with
  | nil=>rw [f] at c; cases c
  | cons v vs =>
  have id:i<l.length:=by
   rcases Nat.lt_or_ge i l.length with q | q
   ·exact q
   ·rw [List.drop_of_length_le q] at f;cases f
  rw [f,Oj] at c;have H:at_ l (i:Int)=some v:=by
   have:=congrArg (fun q=>q[0]?) f;simp only [List.getElem?_drop,Nat.add_zero] at this;simpa [at_] using this
  have K:at_ d.Params (i:Int)=some d.Params[i]:=by simp [at_,List.getElem?_eq_getElem r]
  have L:l.drop (i+1)=vs:=by
   have:=congrArg (fun q=>q.drop 1) f;simpa [List.drop_drop] using this
  refine eb ?_;refine pa ?_;refine Fa ?_;refine yb ?_;refine Fa ?_;refine gb ?_;refine wl (Af (aa (na d3)) (ea (Ma yc)) ?_);obtain ⟨za,zg,md,N,f5,m6⟩:=ad.elem u K;obtain rfl:=m6;refine wl (ow Tryz.underlying43 Wj (aa (na d1)) (aa (na d3)) N (ea (Ma jc)) ?_);refine wl (gp Wj (aa (na d6)) (f5 _ b.a) rfl (ea (Ma Cc)) ?_);refine wl (pd Wj b ?_);clear b;intro nd j rd b;refine pu (ea Cc) ?_;refine wl (Dg (aa (na d5)) (ea jc) ?_);refine wl (zc Wj (aa d7) (aa (na d7)) rfl rfl b d0 rfl wa Wa ?_);clear b;intro wd b;refine Va ?_;refine pa ?_;refine xm (by kernel_rfl) rfl fun Fd O P Q R=>?_;replace b:=b.drew O P Q R;refine cd ?_;refine Ac (i:=0) [0,1,7,8,9] (Wc fun _ _ _ h=>h.2) rfl rfl rfl (Eg OL (aa d7) rfl) (Ma Hc) ?_;refine ng (i:=1) [1,7,8,9] (Wc fun _ _ _ h=>h.2) rfl rfl rfl (qb Ye (aa (na d8)) ((b.ba d0).cell d0)) (Ma sc) ?_;refine Ac (i:=2) [2,4,5,7,8,9] (Wc fun _ _ _ h=>h.2) rfl rfl rfl (bg (aa d1)) (wb wa) ?_;refine Ac (i:=3) [3,4,5,7,8,9] (Wc fun _ _ _ h=>h.2) rfl rfl rfl (bg (aa d6)) (wb lb) ?_;obtain ⟨yf,Jm,Id,T,f13,m14⟩:=ad.elem C H;obtain rfl:=m14;refine Ac (i:=4) [4,5,7,8,9] (Wc fun _ _ _ h=>h.2) rfl rfl rfl (dd Tryz.underlying34 sg (aa (Ha d0)) (aa (Ha d1)) T) (wb xb) ?_;refine ng (i:=5) [5,7,8,9] (Wc fun _ _ _ h=>h.2) rfl rfl rfl (qb sg (aa (Ha d2)) ((f13 _ b.a).one d0)) (wb Ub) ?_;refine Ac (i:=6) [6,7,8,9] (Wc fun _ _ _ h=>h.2) rfl rfl rfl (bg (aa d5)) (wb Zb) ?_;refine Ac (i:=7) [7,8,9] (Wc fun _ _ _ h=>h.2) rfl rfl rfl (Zr KF OF (Lb.o rfl (aa (na d9)) rfl rfl wa (Lb.o rfl (aa (Ha d3)) rfl rfl lb (Lb.o rfl (aa (Ha d4)) rfl rfl xb Lb.z)))) (wb yc) ?_;refine zj rfl rfl rfl rfl (Si rfl) (bq (aa (Ha d5)) rfl b ?_);clear b;intro e be ce b;refine pu (ea (wb jc)) ?_;refine ⟨Ba.z,?_⟩;refine Ac (i:=9) [9] (Wc fun _ _ _ h=>h.2) rfl rfl rfl (Xq (aa (Ha d6))) yc ?_;refine Tc ?_;replace b:=b.Ia (Wg.s Wg.z);replace b:=b.drop ta.z;have y:(G.A++bs).length=ld.length+new.length:=by rw [List.length_append,B,p.len.1]
  refine (fun h=>kd (pa h)) ?_;refine gb ?_;refine wl (br (aa (na d3)) Pa (show i64 ((i:Int)+1)=some ((i:Int)+1) from if_pos (by omega)) (ea (wb Cc)) ?_);refine wl (Af (aa (Ha d7)) (ea (Ma Ub)) ?_);refine Va ?_;refine Ya ?_;have qc:pe.le { G with A:=G.A++bs } { G with A:=G.A++(bs++[e]) }:=by
   rw [show G.A++(bs++[e])=(G.A++bs)++[e] by simp];exact pe.le.app (G:={ G with A:=G.A++bs })
  have U:(((i+1:Nat)):Int)=(i:Int)+1:=by omega
  have V:(G.A++(bs++[e]))[(ld++new).length]?=some e:=by
   rw [← List.append_assoc,List.getElem?_append_right (by rw [y,List.length_append];omega),y,List.length_append,Nat.sub_self];rfl
  have W:=b.perm (rs':=(gs++[.ba e 191 [S d.Params[i].Name,.int .i64 v,.pointer sp]])++rs) (by
   rw [List.append_assoc];exact List.perm_middle.symm)
  exact ⟨k,_,_,rfl,(Xf (cb (qf (Xf (cb (Xb (jh Oa))))))),⟨i+1,some ⟨e,0,none⟩,some (ld++new).length,gs++[.ba e 191 [S d.Params[i].Name,.int .i64 v,.pointer sp]],bs++[e],new++[⟨d.Params[i].Name,v,s⟩],by rw [U],by omega,by omega,by rw [L,← List.append_assoc];exact c,(p.imp fun _ _ _ q=>q.up qc).snoc ⟨sp,rfl,x.up qc⟩,⟨e,V,rfl⟩,W⟩,Nat.lt_succ_self _⟩
 ·have r:i=d.Params.length:=by omega
  rw [List.drop_of_length_le (by omega),Oj] at c;cases c;refine eg ?_;refine (fun h=>jd (jd (hg h))) ?_;refine pa ?_;refine Fa ?_;refine gb ?_;refine wl (Af (aa d5) (ea (wb Hc)) ?_);refine wl (Dg (aa (Ha d8)) (ea Zb) ?_);refine Va ?_;refine pa ?_;refine Ka ?_;exact Ob rfl d4 ⟨gs,sp,rfl,⟨bs,new,rfl,p,x⟩,b⟩
end Go.Proofs.YticaondbdmcpoaaGreatDoor
set_option maxRecDepth 100000
set_option maxHeartbeats 4000000
namespace Go.Proofs.YticaondbdmcpoaaGreatDoor
open Go.Rb Go.ec Go.Y
theorem xw {μ:M}{ca w:World}{l rs:List kb}(a:ha μ ca w (l++rs)):ha μ ca w rs:=by
 have c:rs.Sublist (l++rs):=List.sublist_append_right _ _;refine ⟨a.keeps,fun r e=>a.all r (c.subset e),(c.filterMap _).nodup a.ej,fun b f=>a.new b ((c.filterMap _).subset f),?_⟩;exact a.Yj.mono fun k _ d=>⟨d.1,fun hm=>d.2 ((c.filterMap kb.block).subset hm)⟩
section
variable {E:oe}{μ:M}{G:pe}{z:Zc}{X:ze}
theorem _root_.Go.Y.ef.fn {k:ff}{K:Nat}{cs:List Value}(h:ef E μ G k K cs):Wb Tryz.prog K:=by
 cases k with
 | all l s Sd k=>rw [ef] at h; obtain ⟨rfl,-⟩:=h; infer_instance
 | stat l s e k=>rw [ef] at h; obtain ⟨rfl,-⟩:=h; infer_instance
 | rf x s e k=>rw [ef] at h; obtain ⟨rfl,-⟩:=h; infer_instance
theorem _root_.Go.Y.xl.fn {k:gl}{K:Nat}{cs:List Value}(h:xl E μ G k K cs):Wb Tryz.prog K:=by
 cases k with
 | ex x k=>rw [xl] at h; obtain ⟨rfl,-⟩:=h; infer_instance
theorem _root_.Go.Y.Ke.fn {k:xe}{K:Nat}{cs:List Value}(h:Ke E μ G k K cs):Wb Tryz.prog K:=by
 cases k<;>(rw [Ke] at h;obtain ⟨rfl,-⟩:=h;infer_instance)
theorem _root_.Go.Y.Fg.i64 (h:Fg E μ G z X):Go.ec.i64 (z.nodes+1)=some (z.nodes+1):=if_pos (by have:=h.je;have:=h.de;omega)
theorem _root_.Go.Y.Fg.kG (h:Fg E μ G z X) (a:¬ (20000:Int)<z.nodes+1):Fg E μ G { z with nodes:=z.nodes+1 } X :=
 ⟨by have:=h.je;show 0≤z.nodes+1;omega,by show z.nodes+1≤20000;omega,h.md,h.vc,h.fb,h.Ji,h.now,h.Bb,h.pc,h.out,h.gd,h.Vd,h.Eb,h.vf⟩
end
section
variable (E:oe) (μb:M) (Gb:pe) (ca:World) (rsF:List kb)
def Mk (n:Nat) (c:kh):Prop:=∀ (z:Zc) (r:Option (Option xe×Zc)),hp E n c z=some r→∀ {μ:M}{w:World}{G:pe}{X:ze}{f:Nat}{vs:List Value},ga μb μ→Gb.le G→Fg E μ G z X→aO E μ G c f vs→ha μ ca w (X.res G z rsF)→xc Tryz.prog f vs w fm (Cq r) (Jj E μb Gb ca rsF) (hl μb ca rsF)
def cj (n:Nat):Prop:=∀ c,Mk E μb Gb ca rsF n c
end
variable {E:oe}{μb:M}{Gb:pe}{ca:World}{rsF:List kb}{n:Nat}
theorem hl.of {μ:M}{w:World}{l:List kb}(a:ga μb μ) (b:ha μ ca w (l++rsF)):hl μb ca rsF w:=⟨μ,a,xw b⟩
theorem hl.res {μ:M}{w:World}{G:pe}{X:ze}{z:Zc}(a:ga μb μ) (b:ha μ ca w (X.res G z rsF)):hl μb ca rsF w:=by
 refine hl.of (l:=X.res G z []) a ?_;simpa [ze.res] using b
theorem Pl (a:cj E μb Gb ca rsF n){k:ff}{v:Int}{z:Zc}{r:Option (Option xe×Zc)}(h:hp E n (.gf k v) z=some r){μ:M}{w:World}{G:pe}{X:ze}{K:Nat}{cs:List Value}(b:ga μb μ) (qc:Gb.le G) (c:Fg E μ G z X) (d:ef E μ G k K cs) (e:ha μ ca w (X.res G z rsF)):xc Tryz.prog K ([.int .i64 v]++cs) w fm (Cq r) (Jj E μb Gb ca rsF) (hl μb ca rsF):=
 a _ _ _ h b qc c ⟨cs,rfl,d⟩ e
theorem Jj.mk {x:Option xe×Zc}{v:Value}{w:World}{μ:M}{G:pe}{X:ze}(a:ga μb μ) (qc:Gb.le G) (b:Fg E μ G x.2 X) (c:Ts E μ G v x.1) (d:ha μ ca w (X.res G x.2 rsF)):Jj E μb Gb ca rsF x v w:=by
 unfold Jj;exact ⟨μ,G,X,a,qc,b,c,d⟩
def Dr (E:oe) (n:Nat):nk→Option (Option (Option xe×Zc))
 | .call c z=>hp E n c z
 | .ret k z=>some (some (k,z))
 | .rr=>some none
theorem Yk {c:kh}{z:Zc}{r:Option (Option xe×Zc)}(h:hp E (n+1) c z=some r):∃ o,qe E c z=some o∧Dr E n o=some r:=by
 rw [hp] at h;obtain ⟨o,a,h⟩:=ua h;exact ⟨o,a,by cases o<;>exact h⟩
theorem Vu {q:Int}{z:Zc}{μ:M}{w:World}{G:pe}{X:ze}(b:ga μb μ) (qc:Gb.le G) (c:Fg E μ G z X) (d:ha μ ca w (X.res G z rsF)):xc Tryz.prog 109 [ub G.Ca,.int .i64 q] w fm (Cq (some ((none:Option xe),z.task fun t=>{ t with state:=5,Fe:=q }))) (Jj E μb Gb ca rsF) (hl μb ca rsF):=by
 have e:=d.perm (rs':=.ba G.Ca 85 [ub G.La,X.oc,X.kc,ub X.Mb,.int .i64 z.t.state,.int .i64 z.t.box,.int .i64 z.t.Fe,X.Yb]::.ba G.La 70 [.map (some X.md),.map (some X.vc),.map (some X.fb),.int .i64 z.nodes]::(.row X.kc 83 1 ((G.B.drop 1).map Jc.mk).length X.He::.row X.Yb 2 1 z.t.out.length X.qj::(X.gd++(X.Vd++(X.Eb++rsF))))) (by simp only [ze.res];classical exact List.perm_iff_count.2 (fun x=>(by simp only [List.count_append,List.count_cons,List.count_nil];ac_rfl)));refine cM ?_ e;intro J w' le f;have a:=c.up le;refine ⟨_,rfl,Jj.mk (G:=G) (X:=X) (b.t le) qc ⟨a.je,a.de,a.md,a.vc,a.fb,a.Ji,a.now,a.Bb,a.pc,a.out,a.gd,a.Vd,a.Eb,a.vf⟩ rfl (f.perm ?_)⟩;simp only [ze.res,Zc.task];classical exact List.perm_iff_count.2 (fun x=>(by simp only [List.count_append,List.count_cons,List.count_nil];ac_rfl))
theorem BE {st:Int}{mc:Te}{again:xe}{b:Nat}{c:List Value}{z:Zc}{μ:M}{w:World}{G:pe}{X:ze}(e:ga μb μ) (qc:Gb.le G) (d:Fg E μ G z X) (f:Ke E μ G again b c) (g:ha μ ca w (X.res G z rsF)):xc Tryz.prog 114 [ub G.Ca,.int .i64 st,S mc,gh b c] w fm (Cq (some ((none:Option xe),z.task fun t=>{ t with state:=st,box:=(Ua E.order mc).getD 0,Yl:=some again }))) (Jj E μb Gb ca rsF) (hl μb ca rsF):=by
 refine dM d.fb ?_ g;intro J w' le h;have a:=d.up le;refine ⟨_,rfl,Jj.mk (G:=G) (X:={ X with oc:=gh b c }) (e.t le) qc ⟨a.je,a.de,a.md,a.vc,a.fb,a.Ji,a.now,⟨b,c,rfl,Ke.up le .r f⟩,a.pc,a.out,a.gd,a.Vd,a.Eb,a.vf⟩ rfl h⟩
theorem CK (C:cj E μb Gb ca rsF n) (x:Da) (s:Option Nat) (k:ff):Mk E μb Gb ca rsF (n+1) (.expr x s k):=by
 rintro z r h μ w G X f vs p qc e ⟨rfl,N,sp,K,cs,rfl,l,M,j⟩ u;rw [hp] at h;obtain ⟨o,a,h⟩:=ua h;rw [qe,hs] at a;by_cases g:(20000:Int)<z.nodes+1
 ·rw [if_pos g] at a;cases a;cases h;refine cI (fun y q=>by cases q) l ?_ u;intro J w' le d;refine hD e.i64 g ?_ d;intro O P;exact hl.res (X:=X) (G:=G) (z:={ z with nodes:=z.nodes+1 }) (p.t le) P
 ·rw [if_neg g] at a;have D:=e.kG g;by_cases A:x.Kind=1
  ·rw [if_pos (.inl A)] at a;cases a;refine XI e.i64 g A j.fn l ?_ u;intro J w' le d;exact Pl C h (X:=X) (p.t le) qc (D.up le) (ef.up le .r j) d
  by_cases F:x.Kind=2
  ·rw [if_pos (.inr F)] at a;cases a;refine dI e.i64 g A F j.fn l ?_ u;intro J w' le d;exact Pl C h (X:=X) (p.t le) qc (D.up le) (ef.up le .r j) d
  rw [if_neg (by rintro (q | q)<;>contradiction)] at a;by_cases H:x.Kind=3
  ·rw [if_pos H] at a;obtain ⟨i,Q,a⟩:=ua a;obtain ⟨c,R,a⟩:=ua a;cases a;obtain ⟨b,q,T,U,g1,g2,⟨up,rfl,hu⟩,-,-⟩:=e.gd.get R;have V:=u.perm (rs':=.ba G.La 70 [.map (some X.md),.map (some X.vc),.map (some X.fb),.int .i64 z.nodes]::.ba G.Ca 85 [ub G.La,X.oc,X.kc,ub X.Mb,.int .i64 z.t.state,.int .i64 z.t.box,.int .i64 z.t.Fe,X.Yb]::.ba b 191 [S c.name,.int .i64 c.v,.pointer up]::(.row X.kc 83 1 ((G.B.drop 1).map Jc.mk).length X.He::.row X.Yb 2 1 z.t.out.length X.qj::(T++(U++(X.Vd++(X.Eb++rsF)))))) (by simp only [ze.res,g2,List.append_assoc,List.cons_append];classical exact List.perm_iff_count.2 (fun x=>(by simp only [List.count_append,List.count_cons,List.count_nil];ac_rfl)));refine YI e.i64 g A F H ?_ j.fn l ?_ V
   ·intro J w' rs hm le d;refine (qF e.gd ?_ M Q g1 d).mono ?_
    ·intro q m;rw [g2] at m;simp only [List.mem_append,List.mem_cons] at m ⊢;rcases m with m | rfl | m
     ·exact .inr (.inr (.inr (hm _ (by simp [m]))))
     ·exact .inr (.inr (.inl rfl))
     ·exact .inr (.inr (.inr (hm _ (by simp [m]))))
    ·rintro v O ⟨rfl,rfl⟩;exact ⟨rfl,d⟩
   ·intro J w' le d;refine Pl C h (X:=X) (p.t le) qc (D.up le) (ef.up le .r j) (d.perm ?_);simp only [ze.res,g2,List.append_assoc,List.cons_append];classical exact List.perm_iff_count.2 (fun x=>(by simp only [List.count_append,List.count_cons,List.count_nil];ac_rfl))
  rw [if_neg H] at a;by_cases L:x.Kind=20
  ·rw [if_pos L] at a;cases a;refine eI e.i64 g A F H L l ?_ u;intro J w' le d;exact C _ _ _ h (X:=X) (p.t le) qc (D.up le) ⟨rfl,K,cs,rfl,ef.up le .r j⟩ d
  ·rw [if_neg L] at a;cases a;refine ZI e.i64 g A F H L l ?_ u;intro J w' z0 W z2 z3 z4 le Y a0 oa a2 d;refine C _ _ _ h (X:=X) (p.t le) qc (D.up le) ⟨rfl,z3,z4,sp,none,0,_,_,rfl,Y,M,Ja.nil,?_⟩ d;rw [xl];exact ⟨rfl,W,z2,z0,N,K,cs,rfl,l.up le,oa,a2,ef.up le .r j,a0⟩
theorem qM (e:cj E μb Gb ca rsF n) (l:List Da) (s:Option Nat) (g:List Int) (k:gl):Mk E μb Gb ca rsF (n+1) (.all l s g k):=by
 rintro z r h μ w G X f vs i qc j ⟨rfl,u,v,sp,td,m,K,cs,rfl,ia,p,b,c⟩ q;obtain ⟨o,a,h⟩:=Yk h;rw [qe] at a;by_cases he:l.length=g.length
 ·rw [if_pos he] at a;cases a;refine nK (by exact_mod_cast he) c.fn ia b ?_ q;intro J w' le d;exact e _ _ _ h (X:=X) (i.t le) qc (j.up le) ⟨td,m,cs,rfl,b.up le,xl.up le .r c⟩ d
 ·rw [if_neg he] at a;obtain ⟨x,y,a⟩:=ua a;cases a;refine WI (by exact_mod_cast he) (show at_ l (g.length:Int)=some x by simpa [at_] using y) ia b ?_ q;intro J w' z0 A z2 z3 z4 z5 le B a0 oa a2 a3 a4 d;refine e _ _ _ h (X:=X) (i.t le) qc (j.up le) ⟨rfl,z5,sp,_,_,rfl,B,p,?_⟩ d;rw [ef];exact ⟨rfl,z0,A,z2,z3,z4,u,v,sp,td,m,K,cs,rfl,a0,ia.up le,oa,p,a2,b.up le,a3,a4,xl.up le .r c⟩
theorem rM (d:cj E μb Gb ca rsF n) (x:Ea) (s:Option Nat) (e:lh) (k:xe):Mk E μb Gb ca rsF (n+1) (.rf x s e k):=by
 rintro z r h μ w G X f vs g qc i ⟨rfl,j,sp,l,K,cs,rfl,a,b,he,m⟩ p;obtain ⟨o,c,h⟩:=Yk h;rw [qe] at c;cases c;refine zK a ?_ p;intro J w' z0 q z2 z3 z4 z5 le u a0 oa a2 a3 a4 v;refine d _ _ _ h (X:=X) (g.t le) qc (i.up le) ⟨rfl,z5,sp,_,_,rfl,u,b,?_⟩ v;rw [ef];exact ⟨rfl,z4,z0,q,z2,z3,l,j,sp,K,cs,rfl,a4,Ke.up le .r m,a0,a.up le,oa,b,a2,a3,xh.up le .r he⟩
theorem DK (d:cj E μb Gb ca rsF n) (l:List Da) (s:Option Nat) (g:List Int) (k:gl) (v:Int):Mk E μb Gb ca rsF (n+1) (.gf (.all l s g k) v):=by
 rintro z r h μ w G X f vs e qc i ⟨cs,rfl,b⟩ j;rw [ef] at b;obtain ⟨rfl,jb,c2,c3,c4,c5,m,p,sp,td,O,q,u,rfl,x,c,y,A,B,C,D,F,H⟩:=b;obtain ⟨o,a,h⟩:=Yk h;rw [qe] at a;obtain ⟨P,K,a⟩:=ua a;cases a;refine QL K x c y B C D F ?_ j;intro J w' z0 L le M N;exact d _ _ _ h (X:=X) (e.t le) qc (i.up le) ⟨rfl,m,p,sp,z0,L,q,u,rfl,c.up le,A,M,xl.up le .r H⟩ N
theorem EK (K:cj E μb Gb ca rsF n) (x:Ea) (s:Option Nat) (e:lh) (k:xe) (v:Int):Mk E μb Gb ca rsF (n+1) (.gf (.rf x s e k) v):=by
 rintro z r h μ w G X f vs p qc q ⟨cs,rfl,u⟩ y;rw [ef] at u;obtain ⟨rfl,L,Pe,M,N,ce,A,O,sp,B,C,rfl,c,D,d,g,i,F,j,l,H⟩:=u;obtain ⟨o,a,h⟩:=Yk h;rw [qe] at a;by_cases b:v=0
 ·rw [if_pos b] at a;cases a;cases h;refine lM b c d g i j l ?_ y;intro J w' le m;exact ⟨_,rfl,Jj.mk (X:=X) (p.t le) qc (q.up le) ⟨B,C,rfl,Ke.up le .r D⟩ m⟩
 ·rw [if_neg b] at a;cases a;refine tN b c d g i j l ?_ y;intro J w' z0 P le hB m;refine K _ _ _ h (X:=X) (p.t le) qc (q.up le) ⟨rfl,z0,P,sp,A,_,_,rfl,hB,F,xh.up le .r H,?_⟩ m;rw [Ke];exact ⟨rfl,Pe,M,N,ce,L,A,O,sp,B,C,rfl,d.up le,g.up le,i.up le,F,j.up le,l.up le,xh.up le .r H,c.up le,Ke.up le .r D⟩
theorem FK (d:cj E μb Gb ca rsF n) (k:ff):Mk E μb Gb ca rsF (n+1) (.Hd (.zero k)):=by
 rintro z r h μ w G X f vs e qc g ⟨cs,rfl,a⟩ i;rw [Ke] at a;obtain ⟨rfl,m,p,q,rfl,j,b⟩:=a;obtain ⟨o,c,h⟩:=Yk h;rw [qe] at c;cases c;refine qN b.fn j ?_ i;intro J w' le l;exact Pl d h (X:=X) (e.t le) qc (g.up le) (ef.up le .r b) l
theorem rI (c:cj E μb Gb ca rsF n) (l:List Ea) (s:Option Nat) (e:lh) (k:xe):Mk E μb Gb ca rsF (n+1) (.Hd (.stats l s e k)):=by
 rintro z r h μ w G X f vs d qc g ⟨cs,rfl,a⟩ i;rw [Ke] at a;obtain ⟨rfl,Pe,M,N,ce,O,j,P,Q,R,sp,m,p,rfl,q,u,v,x,y,A,B,C,D,F⟩:=a;obtain ⟨o,b,h⟩:=Yk h;rw [qe] at b;cases b;refine rN u q v x A B D ?_ i;intro J w' z0 H le K L;exact c _ _ _ h (X:=X) (d.t le) qc (g.up le) ⟨rfl,z0,H,sp,j,m,p,rfl,K,y,xh.up le .r C,Ke.up le .r F⟩ L
theorem GK (d:cj E μb Gb ca rsF n) (x:Ea) (s:Option Nat) (e:lh) (k:xe):Mk E μb Gb ca rsF (n+1) (.Hd (.rf x s e k)):=by
 rintro z r h μ w G X f vs g qc i ⟨cs,rfl,a⟩ j;rw [Ke] at a;obtain ⟨rfl,Pe,K,L,ce,M,l,m,sp,p,q,rfl,u,b,v,y,A,B,C,D,F⟩:=a;obtain ⟨o,c,h⟩:=Yk h;rw [qe] at c;cases c;refine uN u b v A B D ?_ j;intro J w' le H;exact d _ _ _ h (X:=X) (g.t le) qc (i.up le) ⟨rfl,m,sp,l,p,q,rfl,b.up le,y,xh.up le .r C,Ke.up le .r F⟩ H
theorem sM (l:cj E μb Gb ca rsF n):Mk E μb Gb ca rsF (n+1) (.Hd .fin):=by
 rintro z r h μ w G X f vs d qc e ⟨cs,rfl,b⟩ g;rw [Ke] at b;obtain ⟨rfl,Pe,rfl,i⟩:=b;obtain ⟨o,c,h⟩:=Yk h;rw [qe] at c;cases c;cases h;have j:=g.perm (rs':=.ba G.Ca 85 [ub G.La,X.oc,X.kc,ub X.Mb,.int .i64 z.t.state,.int .i64 z.t.box,.int .i64 z.t.Fe,X.Yb]::.ba G.La 70 [.map (some X.md),.map (some X.vc),.map (some X.fb),.int .i64 z.nodes]::(.row X.kc 83 1 ((G.B.drop 1).map Jc.mk).length X.He::.row X.Yb 2 1 z.t.out.length X.qj::(X.gd++(X.Vd++(X.Eb++rsF))))) (by simp only [ze.res];classical exact List.perm_iff_count.2 (fun x=>(by simp only [List.count_append,List.count_cons,List.count_nil];ac_rfl)));refine vN i ?_ j;intro J w' le k;have a:=e.up le;refine ⟨_,rfl,Jj.mk (G:=G) (X:=X) (d.t le) qc ⟨a.je,a.de,a.md,a.vc,a.fb,a.Ji,a.now,a.Bb,a.pc,a.out,a.gd,a.Vd,a.Eb,a.vf⟩ rfl (k.perm ?_)⟩;simp only [ze.res,Zc.task];classical exact List.perm_iff_count.2 (fun x=>(by simp only [List.count_append,List.count_cons,List.count_nil];ac_rfl))
theorem tM (g:cj E μb Gb ca rsF n) (d:sa):Mk E μb Gb ca rsF (n+1) (.Hd (.Ti d)):=by
 rintro z r h μ w G X f vs i qc j ⟨cs,rfl,a⟩ k;rw [Ke] at a;obtain ⟨rfl,Pe,ni,Nq,b,Om,rfl,l,m,p,q,s⟩:=a;obtain ⟨o,c,h⟩:=Yk h;rw [qe] at c;cases c;refine wN l m p q ?_ k;intro J w' z0 u z2 le hB v x;have e:Ke E J G .fin 36 [ub b]:=by rw [Ke];exact ⟨rfl,b,rfl,s.up le⟩
 refine g _ _ _ h (X:=X) (i.t le) qc (j.up le) ⟨rfl,u,z2,none,z0,_,_,rfl,hB,rfl,?_,e⟩ x;rw [xh];exact ⟨_,_,v,e⟩
end Go.Proofs.YticaondbdmcpoaaGreatDoor
set_option maxRecDepth 100000
set_option maxHeartbeats 4000000
namespace Go.Proofs.YticaondbdmcpoaaGreatDoor
open Go.Rb Go.ec Go.Y
variable {E:oe}{μb:M}{Gb:pe}{ca:World}{rsF:List kb}{n:Nat}
theorem Ce {α:Type}{l:List α}{i:Nat}{x:α}(h:at_ l (i:Int)=some x):l[i]?=some x:=by simpa [at_] using h
theorem FB {α:Type}{l:List α}{i:Int}{x:α}(h:at_ l i=some x):∃ j:Nat,i=(j:Int)∧l[j]?=some x:=by
 obtain ⟨b,c,a⟩:=Ot h;exact ⟨i.toNat,by omega,a⟩
theorem Lf.put {α:Type}{R:α→Nat→kb→Prop}{g:α}{b:Nat}{r r':kb}{j:List kb}(k:R g b r'):∀ {xs:List α}{bs:List Nat}{a:List kb}{i:Nat},Lf R xs bs (a++r::j)→a.length=i→bs[i]?=some b→Lf R (xs.set i g) bs (a++r'::j)
 | x::xs,c::bs,[],0,⟨l,e⟩,_,f=>by cases f; exact ⟨k,e⟩
 | x::xs,c::bs,[],i+1,_,d,_=>by simp at d
 | x::xs,c::bs,q::a,0,_,d,_=>by simp at d
 | x::xs,c::bs,q::a,i+1,⟨l,e⟩,d,f=>⟨l,Lf.put k e (by simpa using d) (by simpa using f)⟩
 | [],[],[],_,h,_,_=>h.elim
 | [],[],_::_,_,h,_,_=>h.elim
 | [],_::_,[],_,h,_,_=>h.elim
 | [],_::_,_::_,_,h,_,_=>h.elim
 | _::_,[],[],_,h,_,_=>h.elim
 | _::_,[],_::_,_,h,_,_=>h.elim
theorem Lf.at {α:Type}{R:α→Nat→kb→Prop}:∀ {xs:List α}{bs:List Nat}{rs:List kb}{i:Nat}{x:α},Lf R xs bs rs→xs[i]?=some x→∃ b r a c,bs[i]?=some b∧rs=a++r::c∧R x b r∧a.length=i:=by
 intro xs bs rs i x h d;obtain ⟨b,r,a,c,e,f,g,j,-⟩:=h.get d;exact ⟨b,r,a,c,e,f,g,j⟩
section
variable {μ:M}{w:World}{G:pe}{X:ze}{z:Zc}
theorem QF {j:Nat}{c:Pd}{b:Nat}(i:Fg E μ G z X) (l:z.boxes[j]?=some c) (m:G.bb[j]?=some b) (n:ha μ ca w (X.res G z rsF)):∃ a k rs,Ja μ a k c.words∧ha μ ca w (.ba b 76 [.int .i64 c.cap,.slice a c.words.length k]::rs) ∧
  ∀ {J:M}{w':World}{e:Option Addr}{k':Nat}{ws:List Int},ga μ J→Ja J e k' ws→ha J ca w' (.ba b 76 [.int .i64 c.cap,.slice e ws.length k']::rs)→∃ f,Fg E J G { z with boxes:=z.boxes.set j { c with words:=ws } } f∧ha J ca w' (f.res G { z with boxes:=z.boxes.set j { c with words:=ws } } rsF)∧f.Mb=X.Mb:=by
 obtain ⟨Ic,q,g,h,g1,g2,⟨a,k,rfl,o⟩,g3⟩:=Lf.at i.Eb l;obtain rfl:Ic=b:=Option.some.inj (g1.symm.trans m);refine ⟨a,k,.ba G.La 70 [.map (some X.md),.map (some X.vc),.map (some X.fb),.int .i64 z.nodes]::.ba G.Ca 85 [ub G.La,X.oc,X.kc,ub X.Mb,.int .i64 z.t.state,.int .i64 z.t.box,.int .i64 z.t.Fe,X.Yb]::(.row X.kc 83 1 ((G.B.drop 1).map Jc.mk).length X.He::.row X.Yb 2 1 z.t.out.length X.qj::(X.gd++(X.Vd++(g++(h++rsF))))),o,n.perm (by simp only [ze.res,g2,List.append_assoc,List.cons_append];classical exact List.perm_iff_count.2 (fun x=>(by simp only [List.count_append,List.count_cons,List.count_nil];ac_rfl))),?_⟩;intro J w' e k' ws le p s;have d:=i.up le;have u:Lf (Ms J) (z.boxes.set j { c with words:=ws }) G.bb (g++.ba Ic 76 [.int .i64 c.cap,.slice e ws.length k']::h):=
  Lf.put (r:=.ba Ic 76 [.int .i64 c.cap,.slice a c.words.length k]) ⟨e,k',rfl,p⟩ (g2 ▸ d.Eb) g3 g1
 refine ⟨{ X with Eb:=g++.ba Ic 76 [.int .i64 c.cap,.slice e ws.length k']::h },⟨d.je,d.de,d.md,d.vc,d.fb,d.Ji,d.now,d.Bb,d.pc,d.out,d.gd,d.Vd,u,d.vf⟩,s.perm ?_,rfl⟩;simp only [ze.res,List.append_assoc,List.cons_append];classical exact List.perm_iff_count.2 (fun x=>(by simp only [List.count_append,List.count_cons,List.count_nil];ac_rfl))
end
theorem CE (L:cj E μb Gb ca rsF n){mc:Te}{k:ff}{z:Zc}{r:Option (Option xe×Zc)}{o:nk}(d:Jt E mc k z=some o) (h:Dr E n o=some r){μ:M}{w:World}{G:pe}{X:ze}{K:Nat}{cs:List Value}(s:ga μb μ) (qc:Gb.le G) (N:Fg E μ G z X) (l:Ke E μ G (.recv mc k) K cs) (O:ha μ ca w (X.res G z rsF)):xc Tryz.prog K ([]++cs) w fm (Cq r) (Jj E μb Gb ca rsF) (hl μb ca rsF):=by
 have P:=l;rw [Ke] at l;obtain ⟨rfl,U,Pe,V,W,Y,b,Z,bb,rfl,⟨j,Q,R⟩,u,x,y,A,B,C⟩:=l;rw [Jt,Q,Option.bind_some] at d;obtain ⟨c,S,d⟩:=ua d;have D:=Ce S;obtain ⟨a,q,rs,m,F,back⟩:=QF N D R O;cases hw:c.words with
 | nil =>
  rw [hw] at d;cases d;cases h;refine kI (ws:=c.words) (by rw [hw];rfl) m u x y A B ?_ F;intro J w' le p;obtain ⟨H,f,g,-⟩:=back le (m.up le) p;have e:{ z with boxes:=z.boxes.set j { c with words:=c.words } }=z:=by
   obtain ⟨t,bs,Oq⟩:=z;simp only [Zc.mk.injEq,true_and,and_true];exact List.ext_getElem? fun i=>by
    rw [List.getElem?_set];split
    ·rename_i e;subst e;split
     ·exact D.symm
     ·rename_i q;exact (List.getElem?_eq_none (by omega)).symm
    ·rfl
  rw [e] at f g;exact BE (s.t le) qc f (Ke.up le .r P) g
 | cons v ws =>
  rw [hw] at d;cases d;refine lI (ws:=c.words) (v:=v) (ws':=ws) (by rw [hw];simp;omega) (by rw [hw];rfl) (by rw [hw,cut,if_pos (by simp;omega)];simp) C.fn m u x y A B ?_ F;intro J w' z0 gc le T p;obtain ⟨H,f,g,-⟩:=back le T p;exact Pl L h (X:=H) (s.t le) qc f (ef.up le .r C) g
theorem DE (Z:cj E μb Gb ca rsF n){mc:Te}{v:Int}{k:xe}{z:Zc}{r:Option (Option xe×Zc)}{o:nk}(d:Kt E mc v k z=some o) (h:Dr E n o=some r){μ:M}{w:World}{G:pe}{X:ze}{K:Nat}{cs:List Value}(u:ga μb μ) (qc:Gb.le G) (N:Fg E μ G z X) (m:Ke E μ G (.send mc v k) K cs) (O:ha μ ca w (X.res G z rsF)):xc Tryz.prog K ([]++cs) w fm (Cq r) (Jj E μb Gb ca rsF) (hl μb ca rsF):=by
 have P:=m;rw [Ke] at m;obtain ⟨rfl,bb,Pe,gc,lc,Yh,rc,b,Q,R,rfl,⟨j,S,T⟩,x,y,A,B,C,D,U⟩:=m;rw [Kt,S,Option.bind_some] at d;obtain ⟨c,V,d⟩:=ua d;have F:=Ce V;obtain ⟨a,q,rs,p,H,back⟩:=QF N F T O;by_cases f:(c.words.length:Int)=c.cap
 ·rw [if_pos f] at d;cases d;cases h;refine iI (ws:=c.words) f p x y A B C D ?_ H;intro J w' le s;obtain ⟨L,g,l,-⟩:=back le (p.up le) s;have e:{ z with boxes:=z.boxes.set j { c with words:=c.words } }=z:=by
   obtain ⟨t,bs,Oq⟩:=z;simp only [Zc.mk.injEq,true_and,and_true];exact List.ext_getElem? fun i=>by
    rw [List.getElem?_set];split
    ·rename_i e;subst e;split
     ·exact F.symm
     ·rename_i q;exact (List.getElem?_eq_none (by omega)).symm
    ·rfl
  rw [e] at g l;exact BE (u.t le) qc g (Ke.up le .r P) l
 ·rw [if_neg f] at d;obtain ⟨ws,W,d⟩:=ua d;cases d;cases h;refine jI (ws:=c.words) (ws':=ws) f W p x y A B C D ?_ H;intro J w' z0 fd le Y s;obtain ⟨L,g,l,-⟩:=back le Y s;exact ⟨_,rfl,Jj.mk (X:=L) (u.t le) qc g ⟨Q,R,rfl,Ke.up le .r U⟩ l⟩
theorem iJ (b:cj E μb Gb ca rsF n) (mc:Te) (k:ff):Mk E μb Gb ca rsF (n+1) (.Hd (.recv mc k)):=by
 rintro z r h μ w G X f vs c qc d ⟨cs,rfl,e⟩ g;obtain ⟨o,a,h⟩:=Yk h;rw [qe] at a;exact CE b a h c qc d e g
theorem jJ (b:cj E μb Gb ca rsF n) (mc:Te) (v:Int) (k:xe):Mk E μb Gb ca rsF (n+1) (.Hd (.send mc v k)):=by
 rintro z r h μ w G X f vs c qc d ⟨cs,rfl,e⟩ g;obtain ⟨o,a,h⟩:=Yk h;rw [qe] at a;exact DE b a h c qc d e g
theorem HK (m:cj E μb Gb ca rsF n) (mc:Te) (k:ff):Mk E μb Gb ca rsF (n+1) (.recv mc k):=by
 rintro z r h μ w G X f vs p qc a ⟨rfl,K,cs,rfl,q⟩ s;obtain ⟨o,e,h⟩:=Yk h;rw [qe] at e;have d:=e;rw [Jt] at d;obtain ⟨i,g,d⟩:=ua d;obtain ⟨c,u,-⟩:=ua d;obtain ⟨j,rfl,v⟩:=FB u;obtain ⟨b,-,-,-,l,-⟩:=Lf.at a.Eb v;refine nM (a.Ji mc j b g l) a.vc ?_ s;intro J w' z0 x z2 z3 z4 le a0 oa a2 a3 a4 y;refine CE m e h (X:=X) (p.t le) qc (a.up le) ?_ y;rw [Ke];exact ⟨rfl,z3,z0,x,z4,z2,b,K,cs,rfl,⟨j,g,l⟩,a3,a0,oa,a4,a2,ef.up le .r q⟩
theorem IK (m:cj E μb Gb ca rsF n) (mc:Te) (v:Int) (k:xe):Mk E μb Gb ca rsF (n+1) (.send mc v k):=by
 rintro z r h μ w G X f vs p qc a ⟨rfl,K,cs,rfl,q⟩ s;obtain ⟨o,e,h⟩:=Yk h;rw [qe] at e;have d:=e;rw [Kt] at d;obtain ⟨i,g,d⟩:=ua d;obtain ⟨c,u,-⟩:=ua d;obtain ⟨j,rfl,x⟩:=FB u;obtain ⟨b,-,-,-,l,-⟩:=Lf.at a.Eb x;refine mM (a.Ji mc j b g l) a.vc ?_ s;intro J w' z0 y z2 z3 z4 z5 le a0 oa a2 a3 a4 a5 A;refine DE m e h (X:=X) (p.t le) qc (a.up le) ?_ A;rw [Ke];exact ⟨rfl,z4,z0,y,z5,z2,z3,b,K,cs,rfl,⟨j,g,l⟩,a4,a0,oa,a5,a2,a3,Ke.up le .r q⟩
end Go.Proofs.YticaondbdmcpoaaGreatDoor
set_option maxRecDepth 100000
set_option maxHeartbeats 4000000
namespace Go.Proofs.YticaondbdmcpoaaGreatDoor
open Go.Rb Go.ec Go.Y
variable {E:oe}{μb:M}{Gb:pe}{ca:World}{rsF:List kb}{n:Nat}
theorem uM {c d s1 s2:List kb}{x q:kb}(h:c++x::d=s1++q::s2) (g:s1.length≠c.length):∃ t,(c++d).Perm (q::t):=by
 rcases Nat.lt_or_ge s1.length c.length with ia | ia
 ·have e:c[s1.length]?=some q:=by
   have:=congrArg (fun l=>l[s1.length]?) h;simpa [List.getElem?_append_left ia] using this
  obtain ⟨a,b,rfl⟩:=List.append_of_mem (List.mem_of_getElem? e);exact ⟨a++(b++d),by rw [List.append_assoc];exact List.perm_middle⟩
 ·have e:(x::d)[s1.length - c.length]?=some q:=by
   have:=congrArg (fun l=>l[s1.length]?) h;simpa [List.getElem?_append_right ia] using this
  obtain ⟨k,f⟩:∃ k,s1.length - c.length=k+1:=⟨s1.length - c.length - 1,by omega⟩;rw [f,List.getElem?_cons_succ] at e;obtain ⟨a,b,rfl⟩:=List.append_of_mem (List.mem_of_getElem? e);exact ⟨c++(a++b),by rw [← List.append_assoc,← List.append_assoc];exact List.perm_middle⟩
theorem wA {z:Zc}{g:Nat}{c:Vg}{f:Qd→Vg→Vg}{u:Nat}(a:z.t.Tb[g]?=some c):(z.task fun t=>{ t.jn g (f t) with now:=u })=z.task fun t=>{ t with Tb:=t.Tb.set g (f z.t c),now:=u }:=by
 simp only [Zc.task,Qd.jn,a]
theorem sI {z:Zc}{g:Nat}{c jb:Vg}{f:Vg→Vg}{u:Nat}(a:z.t.Tb[g]?=some c):((z.task fun t=>{ t with Tb:=t.Tb.set g jb,now:=u }).task fun t=>t.jn g f)=z.task fun t=>{ t with Tb:=t.Tb.set g (f jb),now:=u }:=by
 have:(z.t.Tb.set g jb)[g]?=some jb:=List.getElem?_set_self (List.getElem?_eq_some_iff.1 a).1;simp only [Zc.task,Qd.jn,this,List.set_set]
section
variable {μ:M}{w:World}{G:pe}{X:ze}{z:Zc}
theorem GB {g:Nat}{c:Vg}{b:Nat}(k:Fg E μ G z X) (y:z.t.Tb[g]?=some c) (A:G.B[g]?=some b) (C:ha μ ca w (X.res G z rsF)):∃ d ap up e on rs,We μ d c.Cm∧Jk G ap c.args∧Pw G up c.up∧eu E μ G e c.back∧eu E μ G on c.Ck ∧
  ha μ ca w (.ba b 124 [d,.pointer ap,.bool c.begun,.bool c.going,.bool c.ended,up,e,on]::.ba G.Ca 85 [ub G.La,X.oc,X.kc,ub X.Mb,.int .i64 z.t.state,.int .i64 z.t.box,.int .i64 z.t.Fe,X.Yb]::rs) ∧
  (∀ {j:Nat}{c2:Vg}{sd:Nat},j≠g→z.t.Tb[j]?=some c2→G.B[j]?=some sd→∃ l m D go2 F n o p t,rs.Perm (.ba sd 124 [l,m,.bool D,.bool go2,.bool F,n,o,p]::t)) ∧
  ∀ {J:M}{w':World}{c':Vg}{h i:Nat}{f:List Value},ga μ J→Yt E J G c' b (.ba b 124 f)→G.B[i]?=some h →
   ha J ca w' (.ba b 124 f::.ba G.Ca 85 [ub G.La,X.oc,X.kc,ub h,.int .i64 z.t.state,.int .i64 z.t.box,.int .i64 z.t.Fe,X.Yb]::rs) →
   ∃ v,Fg E J G (z.task fun t=>{ t with Tb:=t.Tb.set g c',now:=i }) v∧ha J ca w' (v.res G (z.task fun t=>{ t with Tb:=t.Tb.set g c',now:=i }) rsF):=by
 obtain ⟨Ic,q,s,u,g1,g2,⟨d,ap,up,e,on,rfl,xa,H,hu,K,L⟩,g3⟩:=Lf.at k.Vd y;obtain rfl:Ic=b:=Option.some.inj (g1.symm.trans A);refine ⟨d,ap,up,e,on,.ba G.La 70 [.map (some X.md),.map (some X.vc),.map (some X.fb),.int .i64 z.nodes]::(.row X.kc 83 1 ((G.B.drop 1).map Jc.mk).length X.He::.row X.Yb 2 1 z.t.out.length X.qj::(X.gd++((s++u)++(X.Eb++rsF)))),xa,H,hu,K,L,C.perm (by simp only [ze.res,g2,List.append_assoc,List.cons_append];classical exact List.perm_iff_count.2 (fun x=>(by simp only [List.count_append,List.count_cons,List.count_nil];ac_rfl))),?_,?_⟩
 ·intro j c2 sd V N O;obtain ⟨Nb,q,s1,s2,qa,P,⟨l,m,n,o,p,rfl,-⟩,W⟩:=Lf.at k.Vd N;obtain rfl:Nb=sd:=Option.some.inj (qa.symm.trans O);obtain ⟨t,Q⟩:=uM (g2.symm.trans P) (by omega);refine ⟨l,.pointer m,c2.begun,c2.going,c2.ended,n,o,p,.ba G.La 70 [.map (some X.md),.map (some X.vc),.map (some X.fb),.int .i64 z.nodes]::(.row X.kc 83 1 ((G.B.drop 1).map Jc.mk).length X.He::.row X.Yb 2 1 z.t.out.length X.qj::(X.gd++(t++(X.Eb++rsF)))),?_⟩;refine ((((Q.append_right (X.Eb++rsF)).append_left X.gd).cons _).cons _).cons _ |>.trans ?_;simp only [List.cons_append];classical exact List.perm_iff_count.2 (fun x=>(by simp only [List.count_append,List.count_cons,List.count_nil];ac_rfl))
 ·intro J w' c' h i f le R S T;have a:=k.up le;have U:Lf (Yt E J G) (z.t.Tb.set g c') G.B (s++.ba Ic 124 f::u):=Lf.put (r:=.ba Ic 124 [d,.pointer ap,.bool c.begun,.bool c.going,.bool c.ended,up,e,on]) R (g2 ▸ a.Vd) g3 g1;refine ⟨{ X with Mb:=h,Vd:=s++.ba Ic 124 f::u },⟨a.je,a.de,a.md,a.vc,a.fb,a.Ji,S,a.Bb,a.pc,a.out,a.gd,U,a.Eb,by show (z.t.Tb.set g c').length≤31;rw [List.length_set];exact a.vf⟩,T.perm ?_⟩;simp only [ze.res,Zc.task,List.append_assoc,List.cons_append];classical exact List.perm_iff_count.2 (fun x=>(by simp only [List.count_append,List.count_cons,List.count_nil];ac_rfl))
theorem Fg.vM (a:Fg E μ G z X):∃ c,z.t.Tb[z.t.now]?=some c:=by
 have h:=(List.getElem?_eq_some_iff.1 a.now).1;rw [a.Vd.len.1] at h;exact ⟨_,List.getElem?_eq_getElem h⟩
end
theorem JK (s:cj E μb Gb ca rsF n) (g:Nat):Mk E μb Gb ca rsF (n+1) (.Hd (.done g)):=by
 rintro z r h μ w G X f vs v qc x ⟨cs,rfl,d⟩ y;rw [Ke] at d;obtain ⟨rfl,P,Pe,b,rfl,A,B,C⟩:=d;obtain ⟨o,a,h⟩:=Yk h;rw [qe] at a;obtain ⟨c,e,a⟩:=ua a;obtain ⟨u,hu,a⟩:=ua a;obtain ⟨bb,i,a⟩:=ua a;cases a;rw [Dr,wA e] at h;obtain ⟨D,ap,up,Q,on,rs,qa,F,j,k,H,K,-,back⟩:=GB x e A y;rw [hu] at j;obtain ⟨l,m,rfl⟩:=j;rw [i] at k;obtain ⟨p,q,rfl,d⟩:=k;refine oM d.fn B C ?_ K;intro J w' le L;obtain ⟨M,N,O⟩:=back (c':={ c with ended:=true,going:=false }) le ⟨D,ap,ub l,gh p q,on,rfl,qa.up le,F,hu ▸ ⟨l,m,rfl⟩,i ▸ ⟨p,q,rfl,ef.up le .r d⟩,H.up le .r⟩ m L;exact Pl s h (X:=M) (v.t le) qc N (ef.up le .r d) O
theorem tI (id:cj E μb Gb ca rsF n){g:Nat}{v:Int}{k:ff}{z:Zc}{r:Option (Option xe×Zc)}{o:nk}(a:Dt g v k z=some o) (h:Dr E n o=some r){μ:M}{w:World}{G:pe}{X:ze}{b K:Nat}{cs:List Value}(y:ga μb μ) (qc:Gb.le G) (p:Fg E μ G z X) (A:G.B[g]?=some b) (md:ef E μ G k K cs) (Fd:ha μ ca w (X.res G z rsF)):xc Tryz.prog 110 [ub G.Ca,ub b,.int .i64 v,gh K cs] w fm (Cq r) (Jj E μb Gb ca rsF) (hl μb ca rsF):=by
 rw [Dt] at a;obtain ⟨c,C,a⟩:=ua a;obtain ⟨s,ap,up,P,on,rs,qa,L,Id,be,N,m,two,back⟩:=GB p C A Fd;have same:∀ {J:M}{w':World},ga μ J→ha J ca w' (.ba b 124 [s,.pointer ap,.bool c.begun,.bool c.going,.bool c.ended,up,P,on]::.ba G.Ca 85 [ub G.La,X.oc,X.kc,ub X.Mb,.int .i64 z.t.state,.int .i64 z.t.box,.int .i64 z.t.Fe,X.Yb]::rs)→∃ f,Fg E J G z f∧ha J ca w' (f.res G z rsF):=by
  intro J w' le j;obtain ⟨f,d,l⟩:=back (c':=c) le ⟨s,ap,up,P,on,rfl,qa.up le,L,Id,be.up le .r,N.up le .r⟩ p.now j;have e:(z.task fun t=>{ t with Tb:=t.Tb.set g c,now:=z.t.now })=z:=by
   have:z.t.Tb.set g c=z.t.Tb:=List.ext_getElem? fun i=>by
    rw [List.getElem?_set];split
    ·rename_i e;subst e;split
     ·exact C.symm
     ·rename_i q;exact (List.getElem?_eq_none (by omega)).symm
    ·rfl
   obtain ⟨t,bs,Oq⟩:=z;simp only [Zc.task] at this ⊢;rw [this]
  rw [e] at d l;exact ⟨f,d,l⟩
 by_cases D:c.ended=true
 ·rw [if_pos D] at a;cases a;cases h;rw [D] at m;refine mI ?_ m;intro J w' le j;obtain ⟨f,d,l⟩:=same le (D ▸ j);exact Vu (y.t le) qc d l
 rw [if_neg D] at a;have u:c.ended=false:=by simpa using D
 by_cases O:c.going=true
 ·rw [if_pos (.inl O)] at a;cases a;cases h;rw [u,O] at m;refine nI ?_ m;intro J w' le j;obtain ⟨f,d,l⟩:=same le (by rw [u,O];exact j);exact Vu (y.t le) qc d l
 have Q:c.going=false:=by simpa using O
 by_cases R:g=z.t.now
 ·rw [if_pos (.inr R)] at a;cases a;cases h;obtain rfl:b=X.Mb:=Option.some.inj (A.symm.trans (R ▸ p.now));rw [u,Q] at m;refine fJ ?_ m;intro J w' le j;obtain ⟨f,d,l⟩:=same le (by rw [u,Q];exact j);exact Vu (y.t le) qc d l
 rw [if_neg (by rintro (q | q)<;>contradiction)] at a;obtain ⟨c2,ce⟩:=Fg.vM p;obtain ⟨S,T,U,go2,V,W,Y,Z,t,bb⟩:=two (Ne.symm R) ce p.now;rw [u,Q] at m;have l:=m.perm ((bb.cons _).cons _);have F:=l.perm (rs':=.ba b 124 [s,.pointer ap,.bool c.begun,.bool false,.bool false,up,P,on]::.ba X.Mb 124 [S,T,.bool U,.bool go2,.bool V,W,Y,Z]::.ba G.Ca 85 [ub G.La,X.oc,X.kc,ub X.Mb,.int .i64 z.t.state,.int .i64 z.t.box,.int .i64 z.t.Fe,X.Yb]::t) (by classical exact List.perm_iff_count.2 (fun x=>(by simp only [List.count_append,List.count_cons,List.count_nil];ac_rfl)));have nd:b≠X.Mb:=by
  have:=F.ej;simp [blocks,kb.block] at this;exact this.1.1
 by_cases H:c.begun=true
 ·rw [if_pos H] at a;obtain ⟨q,rd,a⟩:=ua a;cases a;rw [Dr,wA C] at h;rw [rd] at N;obtain ⟨gc,lc,rfl,a⟩:=N;rw [H] at F;refine oI nd a.fn ?_ F;intro J w' le j;have rc:=(j.perm (rs':=.ba b 124 [s,.pointer ap,.bool true,.bool true,.bool false,ub X.Mb,gh K cs,gh gc lc]::.ba G.Ca 85 [ub G.La,X.oc,X.kc,ub b,.int .i64 z.t.state,.int .i64 z.t.box,.int .i64 z.t.Fe,X.Yb]::.ba X.Mb 124 [S,T,.bool U,.bool go2,.bool V,W,Y,Z]::t) (by classical exact List.perm_iff_count.2 (fun x=>(by simp only [List.count_append,List.count_cons,List.count_nil];ac_rfl)))).perm ((bb.symm.cons _).cons _);obtain ⟨f,d,fd⟩:=back (c':={ c with going:=true,up:=some z.t.now,back:=some k }) le ⟨s,ap,ub X.Mb,gh K cs,gh gc lc,by rw [H,u],qa.up le,L,⟨X.Mb,p.now,rfl⟩,⟨K,cs,rfl,ef.up le .r md⟩,rd ▸ ⟨gc,lc,rfl,ef.up le .r a⟩⟩ A rc;exact Pl id h (X:=f) (y.t le) qc d (ef.up le .r a) fd
 ·have ge:c.begun=false:=by simpa using H
  rw [if_neg H] at a;cases a;rw [Dr,wA C,sI C] at h;rw [ge] at F;refine pI nd qa ?_ F;intro J w' z0 wd z2 z3 z4 le hB a0 oa a2 j;have rc:=(j.perm (rs':=.ba b 124 [s,.pointer ap,.bool true,.bool true,.bool false,ub X.Mb,gh K cs,on]::.ba G.Ca 85 [ub G.La,X.oc,X.kc,ub b,.int .i64 z.t.state,.int .i64 z.t.box,.int .i64 z.t.Fe,X.Yb]::.ba X.Mb 124 [S,T,.bool U,.bool go2,.bool V,W,Y,Z]::t) (by classical exact List.perm_iff_count.2 (fun x=>(by simp only [List.count_append,List.count_cons,List.count_nil];ac_rfl)))).perm ((bb.symm.cons _).cons _);obtain ⟨f,d,fd⟩:=back (c':={ c with going:=true,up:=some z.t.now,back:=some k,begun:=true }) le ⟨s,ap,ub X.Mb,gh K cs,on,by rw [u],qa.up le,L,⟨X.Mb,p.now,rfl⟩,⟨K,cs,rfl,ef.up le .r md⟩,N.up le .r⟩ A rc;have xa:Ke E J G (.done g) 152 [ub wd,ub z0]:=by rw [Ke];exact ⟨rfl,wd,z0,b,rfl,A,oa,a0⟩
  refine id _ _ _ h (X:=f) (y.t le) qc d ⟨rfl,z3,z4,ap,z2,_,_,rfl,hB,L,?_,xa⟩ fd;rw [xh];exact ⟨_,_,a2,xa⟩
theorem uI (c:cj E μb Gb ca rsF n) (g:Nat) (v:Int) (k:ff):Mk E μb Gb ca rsF (n+1) (.resume g v k):=by
 rintro z r h μ w G X f vs d qc e ⟨rfl,b,K,cs,i,rfl,j⟩ l;obtain ⟨o,a,h⟩:=Yk h;rw [qe] at a;exact tI c a h d qc e i j l
end Go.Proofs.YticaondbdmcpoaaGreatDoor
set_option maxRecDepth 100000
set_option maxHeartbeats 4000000
namespace Go.Proofs.YticaondbdmcpoaaGreatDoor
open Go.Rb Go.ec Go.Y
variable {E:oe}{μb:M}{Gb:pe}{ca:World}{rsF:List kb}{n:Nat}
theorem cG {α:Type}(x:α) (l:List α):cut (x::l) 1 ((x::l).length:Nat)=some l:=by rw [cut,if_pos (by simp;omega)];simp
theorem Lf.app {α:Type}{R:α→Nat→kb→Prop}{ys:List α}{cs:List Nat}{a:List kb}(k:Lf R ys cs a):∀ {xs:List α}{bs:List Nat}{rs:List kb},Lf R xs bs rs→Lf R (xs++ys) (bs++cs) (rs++a)
 | [],[],[],_=>k
 | x::xs,b::bs,r::rs,⟨c,d⟩=>⟨c,Lf.app k d⟩
 | [],[],_::_,h=>h.elim
 | [],_::_,_,h=>h.elim
 | _::_,[],_,h=>h.elim
 | _::_,_::_,[],h=>h.elim
theorem Fg.grow {μ J:M}{G:pe}{X:ze}{z:Zc}{new:List hi}{bs:List Nat}{gs:List kb}(b:Fg E μ G z X) (le:ga μ J) (c:Lf (rq { G with A:=G.A++bs }) new bs gs):Fg E J { G with A:=G.A++bs } (z.task fun t=>{ t with ue:=z.t.ue++new }) { X with gd:=X.gd++gs }:=by
 have a:=b.up le;have qc:G.le { G with A:=G.A++bs }:=pe.le.app;exact ⟨a.je,a.de,a.md,a.vc,a.fb,a.Ji,a.now,a.Bb.up (ga.r) qc,a.pc,a.out,Lf.app c (a.gd.imp fun _ _ _ q=>q.up qc),a.Vd.imp fun _ _ _ q=>q.up (ga.r) qc,a.Eb,a.vf⟩
theorem kJ (L:cj E μb Gb ca rsF n) (l:List Ea) (s:Option Nat) (e:lh) (k:xe):Mk E μb Gb ca rsF (n+1) (.stats l s e k):=by
 rintro z r h μ w G X f vs g qc d ⟨rfl,M,N,sp,v,K,cs,rfl,ia,A,he,D⟩ i;obtain ⟨o,a,h⟩:=Yk h;cases l with
 | nil =>
  rw [qe] at a;cases a;cases h;refine hI rfl ia ?_ i;intro J w' le b;exact ⟨_,rfl,Jj.mk (X:=X) (g.t le) qc (d.up le) ⟨K,cs,rfl,Ke.up le .r D⟩ b⟩
 | cons x l =>
 rw [qe,hs] at a;have u:¬ ((x::l).length:Int)=0:=by simp;omega
 have j:at_ (x::l) 0=some x:=rfl;by_cases c:(20000:Int)<z.nodes+1
 ·rw [if_pos c] at a;cases a;cases h;refine AH u j (fun y q=>by cases q) ia ?_ i;intro J w' z0 m z2 z3 le a0 oa a2 a3 b;refine hD d.i64 c ?_ b;intro W R;exact hl.res (X:=X) (G:=G) (z:={ z with nodes:=z.nodes+1 }) (g.t le) R
 rw [if_neg c] at a;have B:=d.kG c;by_cases p:x.Kind=6
 ·rw [if_pos p] at a;cases a;cases h;cases e with
  | ret q =>
   rw [xh] at he;obtain ⟨O,P,F,Q⟩:=he;refine gD u j d.i64 c p ia F ?_ i;intro J w' z0 m z2 z3 le a0 oa a2 a3 b;exact ⟨_,rfl,Jj.mk (X:=X) (g.t le) qc (B.up le) rfl b⟩
  | stop q =>
   rw [xh] at he;obtain ⟨O,P,F,Q⟩:=he;refine gD u j d.i64 c p ia F ?_ i;intro J w' z0 m z2 z3 le a0 oa a2 a3 b;exact ⟨_,rfl,Jj.mk (X:=X) (g.t le) qc (B.up le) ⟨O,P,rfl,Ke.up le .r Q⟩ b⟩
 rw [if_neg p] at a;by_cases C:x.Kind=4
 ·rw [if_pos C] at a;cases a;refine dH u j d.i64 c p C ia ?_ i;intro J w' z0 m z2 z3 z4 z5 le H a0 oa a2 a3 a4 b;refine L _ _ _ h (X:=X) (g.t le) qc (B.up le) ⟨rfl,z5,sp,v,_,_,rfl,H,A,xh.up le .r he,?_⟩ b;rw [Ke];exact ⟨rfl,z0,m,z4,z2,z3,v,x::l,M,N,sp,K,cs,rfl,a0,cG x l,ia.up le,oa,A,a4,a2,xh.up le .r he,a3,Ke.up le .r D⟩
 ·rw [if_neg C] at a;cases a;refine BH u j d.i64 c p C ia ?_ i;intro J w' z0 m z2 z3 z4 z5 S T U le H a0 oa a2 a3 a4 V a5 Sb b;refine L _ _ _ h (X:=X) (g.t le) qc (B.up le) ⟨rfl,T,sp,_,_,rfl,H,A,?_⟩ b;rw [ef];exact ⟨rfl,z5,S,z0,m,z3,z4,z2,z0,z3,v,v,x,U,M,N,sp,K,cs,rfl,j,V,a5,Sb,a0,ia.up le,oa,a3,xh.up le .r he,a4,Ke.up le .r D,A,a2,a0,a3,xh.up le .r he⟩
theorem lJ (U:cj E μb Gb ca rsF n) (l:List Ea) (s:Option Nat) (e:lh) (k:xe) (v:Int):Mk E μb Gb ca rsF (n+1) (.gf (.stat l s e k) v):=by
 rintro z r h μ w G X f vs C qc j ⟨cs,rfl,V⟩ D;rw [ef] at V;obtain ⟨rfl,rg,Yw,jb,c2,c3,c4,bi,Pe,ce,fd,rd,x,ci,wd,Fd,sp,Id,be,rfl,id,F,vc,H,m1,ia,m2,m3,ge,m4,V,y,K,mt,L,he⟩:=V;obtain ⟨o,a,h⟩:=Yk h;cases l with
 | nil=>cases id
 | cons m l =>
 obtain rfl:m=x:=rb id;replace a:lp m l s e k v z=some o:=a;rw [lp.eq_def] at a;have next:∀ {J:M}{wg:pe}{bb:Option Nat}{W:Option Addr}{c:Nat},ga μ J→G.le wg→Jk wg W bb→Aa J c 0 [.pointer W]→Ke E J wg (.stats l bb e k) 60 [ub jb,ub c2,ub c,ub c3,ub c4]:=by
  intro J wg bb W c le O p u;rw [Ke];exact ⟨rfl,jb,c2,c,c3,c4,rd,m::l,wd,Fd,W,Id,be,rfl,O.Ca ▸ m1.up le,cG m l,ia.up le,m2.up le,p,u,m3.up le,xh.up le O ge,m4.up le,Ke.up le O V⟩
 by_cases p:m.Kind=1
 ·rw [if_pos p] at a;cases a;cases h;refine hM p F vc H K mt L ?_ D;intro J w' z0 Q le oa g;have O:G.le { G with A:=G.A++[z0] }:=pe.le.app;have ne:(G.A++[z0])[z.t.ue.length]?=some z0:=by rw [← j.gd.len.1];simp
  refine ⟨_,rfl,Jj.mk (C.t le) (qc.t O) (Fg.grow j le (new:=[⟨m.Name,v,s⟩]) (bs:=[z0]) (gs:=[.ba z0 191 [S m.Name,.int .i64 v,.pointer sp]]) ⟨⟨sp,rfl,y.up O⟩,trivial⟩) ⟨_,_,rfl,next le O ⟨z0,ne,rfl⟩ oa⟩ (g.perm ?_)⟩;simp only [ze.res,Zc.task,List.append_assoc,List.cons_append,List.nil_append];classical exact List.perm_iff_count.2 (fun x=>(by simp only [List.count_append,List.count_cons,List.count_nil];ac_rfl))
 rw [if_neg p] at a;by_cases u:m.Kind=2
 ·rw [if_pos u] at a;obtain ⟨i,Ne,a⟩:=ua a;obtain ⟨c,of,a⟩:=ua a;cases a;cases h;obtain ⟨b,q,gc,lc,g1,g2,⟨up,rfl,hu⟩,g3⟩:=Lf.at j.gd of;have rc:=D.perm (rs':=.ba b 191 [S c.name,.int .i64 c.v,.pointer up]::(.ba G.La 70 [.map (some X.md),.map (some X.vc),.map (some X.fb),.int .i64 z.nodes]::.ba G.Ca 85 [ub G.La,X.oc,X.kc,ub X.Mb,.int .i64 z.t.state,.int .i64 z.t.box,.int .i64 z.t.Fe,X.Yb]::.row X.kc 83 1 ((G.B.drop 1).map Jc.mk).length X.He::.row X.Yb 2 1 z.t.out.length X.qj::(gc++(lc++(X.Vd++(X.Eb++rsF)))))) (by simp only [ze.res,g2,List.append_assoc,List.cons_append];classical exact List.perm_iff_count.2 (fun x=>(by simp only [List.count_append,List.count_cons,List.count_nil];ac_rfl)));refine iM p u ?_ F vc H K mt L ?_ rc
  ·intro J w' rs hm le g;refine (qF j.gd ?_ y Ne g1 g).mono ?_
   ·intro q P;rw [g2] at P;simp only [List.mem_append,List.mem_cons] at P ⊢;rcases P with P | rfl | P
    ·exact .inr (hm _ (by simp [P]))
    ·exact .inl rfl
    ·exact .inr (hm _ (by simp [P]))
   ·rintro v ii ⟨rfl,rfl⟩;exact ⟨rfl,g⟩
  ·intro J w' z0 le a0 g;have d:=j.up le;have wf:Lf (rq G) (z.t.ue.set i { c with v:=v }) G.A (gc++.ba b 191 [S c.name,.int .i64 v,.pointer up]::lc):=Lf.put (r:=.ba b 191 [S c.name,.int .i64 c.v,.pointer up]) ⟨up,rfl,hu⟩ (g2 ▸ j.gd) g3 g1;refine ⟨_,rfl,Jj.mk (G:=G) (X:={ X with gd:=gc++.ba b 191 [S c.name,.int .i64 v,.pointer up]::lc }) (C.t le) qc ⟨d.je,d.de,d.md,d.vc,d.fb,d.Ji,d.now,d.Bb,d.pc,d.out,wf,d.Vd,d.Eb,d.vf⟩ ⟨_,_,rfl,next le .r y a0⟩ (g.perm ?_)⟩;simp only [ze.res,Zc.task,List.append_assoc,List.cons_append];classical exact List.perm_iff_count.2 (fun x=>(by simp only [List.count_append,List.count_cons,List.count_nil];ac_rfl))
 rw [if_neg u] at a;by_cases N:m.Kind=3
 ·rw [if_pos N] at a;cases a;by_cases Y:v≠0
  ·rw [if_pos Y] at h;refine wK p u N Y F vc H K mt L ?_ D;intro J w' z0 Q z2 le hB a0 g;exact U _ _ _ h (X:=X) (C.t le) qc (j.up le) ⟨rfl,Q,z2,sp,fd,_,_,rfl,hB,y,xh.up le .r he,next le .r y a0⟩ g
  ·rw [if_neg Y] at h;refine xK p u N Y F vc H K mt L ?_ D;intro J w' z0 Q z2 le hB a0 g;exact U _ _ _ h (X:=X) (C.t le) qc (j.up le) ⟨rfl,Q,z2,sp,fd,_,_,rfl,hB,y,xh.up le .r he,next le .r y a0⟩ g
 rw [if_neg N] at a;by_cases R:m.Kind=5
 ·rw [if_pos R] at a;cases e with
  | stop q=>cases a
  | ret q =>
   cases a;rw [xh] at he;obtain ⟨li,pi,qa,nd⟩:=he;refine jM p u N R nd.fn qa F vc H K mt L ?_ D;intro J w' le g;exact Pl U h (X:=X) (C.t le) qc (j.up le) (ef.up le .r nd) g
 rw [if_neg R] at a;by_cases T:m.Kind=7
 ·rw [if_pos T] at a;cases a;refine yK p u N R T F vc H K mt L ?_ D;intro J w' z0 le a0 g;exact U _ _ _ h (X:=X) (C.t le) qc (j.up le) ⟨rfl,_,_,rfl,next le .r y a0⟩ g
 rw [if_neg T] at a;by_cases Z:m.Kind=8
 ·rw [if_pos Z] at a;obtain ⟨os,If,a⟩:=ua a;cases a;cases h;have rc:=D.perm (rs':=.ba G.Ca 85 [ub G.La,X.oc,X.kc,ub X.Mb,.int .i64 z.t.state,.int .i64 z.t.box,.int .i64 z.t.Fe,X.Yb]::.row X.Yb 2 1 z.t.out.length X.qj::(.ba G.La 70 [.map (some X.md),.map (some X.vc),.map (some X.fb),.int .i64 z.nodes]::.row X.kc 83 1 ((G.B.drop 1).map Jc.mk).length X.He::(X.gd++(X.Vd++(X.Eb++rsF))))) (by simp only [ze.res];classical exact List.perm_iff_count.2 (fun x=>(by simp only [List.count_append,List.count_cons,List.count_nil];ac_rfl)));refine kM If p u N R T Z j.out F vc H K mt L ?_ rc;intro J w' z0 Q z2 le dg a0 g;have d:=j.up le;refine ⟨_,rfl,Jj.mk (G:=G) (X:={ X with Yb:=Q,qj:=z2 }) (C.t le) qc ⟨d.je,d.de,d.md,d.vc,d.fb,d.Ji,d.now,d.Bb,d.pc,dg,d.gd,d.Vd,d.Eb,d.vf⟩ ⟨_,_,rfl,next le .r y a0⟩ (g.perm ?_)⟩;simp only [ze.res,Zc.task];classical exact List.perm_iff_count.2 (fun x=>(by simp only [List.count_append,List.count_cons,List.count_nil];ac_rfl))
 rw [if_neg Z] at a;cases a;cases h;refine sN p u N R T Z F vc H K mt L ?_ D;intro J w' z0 le a0 g;exact ⟨_,rfl,Jj.mk (X:=X) (C.t le) qc (j.up le) ⟨_,_,rfl,next le .r y a0⟩ g⟩
end Go.Proofs.YticaondbdmcpoaaGreatDoor
set_option maxRecDepth 100000
set_option maxHeartbeats 4000000
namespace Go.Proofs.YticaondbdmcpoaaGreatDoor
open Go.Rb Go.ec Go.Y
variable {E:oe}{μb:M}{Gb:pe}{ca:World}{rsF:List kb}{n:Nat}
section
variable {μ:M}{G:pe}{X:ze}{z:Zc}
theorem Fg.Ud (a:Fg E μ G z X):(((G.B.drop 1).map Jc.mk).length:Int)=(z.t.Tb.length:Int) - 1∧G.B.length=z.t.Tb.length∧0<z.t.Tb.length:=by
 have b:=a.Vd.len.1;have c:=(List.getElem?_eq_some_iff.1 a.now).1;rw [List.length_map,List.length_drop];omega
theorem RF {a:Nat}{b:Nat}(h:G.B[a+1]?=some b):at_ ((G.B.drop 1).map Jc.mk) (a:Int)=some ⟨b⟩:=by
 have:1+a=a+1:=Nat.add_comm _ _;simp [at_,this,h]
end
theorem wM (R:cj E μb Gb ca rsF n){x:Da}{k:ff}{l:List Int}{z:Zc}{r:Option (Option xe×Zc)}{o:nk}(e:Mn E x k l z=some o) (h:Dr E n o=some r){μ:M}{w:World}{G:pe}{X:ze}{K:Nat}{cs:List Value}{Ld:Option Addr}{Md:Nat}(D:ga μb μ) (qc:Gb.le G) (g:Fg E μ G z X) (y:Ja μ Ld Md l) (m:xl E μ G (.ex x k) K cs) (F:ha μ ca w (X.res G z rsF)):xc Tryz.prog K ([.slice Ld l.length Md]++cs) w fm (Cq r) (Jj E μb Gb ca rsF) (hl μb ca rsF):=by
 rw [xl] at m;obtain ⟨rfl,co,dl,Pe,go,Fd,Id,rfl,H,vc,mk,m,mt⟩:=m;rw [Mn.eq_def] at e;by_cases p:x.Kind=4
 ·rw [if_pos p] at e;obtain ⟨a,s,e⟩:=ua e;cases e;refine eM s p m.fn H vc mk y mt ?_ F;intro J w' le f;rw [Int.zero_sub];exact Pl R h (X:=X) (D.t le) qc (g.up le) (ef.up le .r m) f
 rw [if_neg p] at e;by_cases C:x.Kind=5
 ·rw [if_pos C] at e;obtain ⟨a,s,e⟩:=ua e;cases e;refine fM s p C m.fn H vc mk y mt ?_ F;intro J w' le f;exact Pl R h (X:=X) (D.t le) qc (g.up le) (ef.up le .r m) f
 rw [if_neg C] at e;have of:∀ {d:sa}{Y:List hi}{s1:Option Nat},Oj d.Params l z.t.ue none=some (Y,s1)→∀ (J:M) (w':World) (rs:List kb) (q:Value),ga μ J→We J q d→ha J ca w' rs→wc Tryz.prog 107 [q,.slice Ld l.length Md] w' (fun v wf=>∃ (If:M) (gs:List kb) (sp:Option Addr),v=.pointer sp∧ga J If∧uz G z.t.ue Y s1 gs sp∧ha If ca wf (gs++rs)):=by
  intro d Y s1 V J w' rs q le N f;refine (BK (G:=G) g.gd.len.1 V (y.up le) N f).mono ?_;rintro v wf ⟨gs,sp,rfl,el,nl⟩;exact ⟨J,gs,sp,rfl,ga.r,el,nl⟩
 by_cases L:x.Kind=19
 ·rw [if_pos L] at e;obtain ⟨d,xa,e⟩:=ua e;obtain ⟨⟨Y,s1⟩,V,e⟩:=ua e;cases e;refine tK (GQ:=fun _ gs sp=>uz G z.t.ue Y s1 gs sp) p C L xa (of V) g.md H vc mk y mt ?_ F;rintro J w' z0 gs sp z3 z4 z5 le hB ol pl ⟨bs,new,rfl,be,ce⟩ f;have gc:G.le { G with A:=G.A++bs }:=pe.le.app;refine R _ _ _ h (D.t le) (qc.t gc) (Fg.grow g le be) ⟨rfl,z4,z5,sp,z3,_,_,rfl,hB,ce,?_,?_⟩ (f.perm ?_)
  ·rw [xh];exact ⟨_,_,ol,ef.up le gc m⟩
  ·rw [Ke];exact ⟨rfl,dl,_,_,rfl,mk.up le,ef.up le gc m⟩
  ·simp only [ze.res,Zc.task,List.append_assoc,List.cons_append];classical exact List.perm_iff_count.2 (fun x=>(by simp only [List.count_append,List.count_cons,List.count_nil];ac_rfl))
 rw [if_neg L] at e;by_cases S:x.Kind=21
 ·rw [if_pos S] at e;obtain ⟨a,s,e⟩:=ua e;obtain ⟨c,nd,e⟩:=ua e;obtain ⟨u,hu,e⟩:=ua e;obtain ⟨bb,dg,e⟩:=ua e;cases e;rw [Dr] at h;have ul:(z.task fun t=>{ t.jn t.now fun c=>{ c with Ck:=some k,going:=false } with now:=u })=z.task fun t=>{ t with Tb:=t.Tb.set z.t.now { c with Ck:=some k,going:=false },now:=u }:=by
   simp only [Zc.task,Qd.jn,nd]
  rw [ul] at h;obtain ⟨ge,ap,up,rg,on,rs,qa,wl,bi,ci,io,rc,-,back⟩:=GB g nd g.now F;rw [hu] at bi;obtain ⟨ii,li,rfl⟩:=bi;rw [dg] at ci;obtain ⟨pi,Pi,rfl,he⟩:=ci;refine bJ s p C L (by omega) (by omega) S he.fn H vc mk y mt ?_ rc;intro J w' le f;obtain ⟨am,em,hm⟩:=back (c':={ c with Ck:=some k,going:=false }) le ⟨ge,ap,ub ii,gh pi Pi,gh Fd Id,rfl,qa.up le,wl,hu ▸ ⟨ii,li,rfl⟩,dg ▸ ⟨pi,Pi,rfl,ef.up le .r he⟩,⟨Fd,Id,rfl,ef.up le .r m⟩⟩ li f;exact Pl R h (X:=am) (D.t le) qc em (ef.up le .r he) hm
 rw [if_neg S] at e;have ne:=Fg.Ud g;by_cases P:x.Kind=22
 ·rw [if_pos P] at e;by_cases rd:(z.t.Tb.length:Int) - 1=30
  ·rw [if_pos rd] at e;cases e;cases h;have rc:=F;refine uK p C L P (by rw [ne.1];exact rd) g.pc H vc mk y mt ?_ rc;intro J w' le f;exact Vu (X:=X) (D.t le) qc (g.up le) f
  rw [if_neg rd] at e;obtain ⟨d,xa,e⟩:=ua e;obtain ⟨⟨Y,s1⟩,V,e⟩:=ua e;cases e;have no:=g.vf;refine aJ (ts':=[]) (GQ:=fun _ gs sp=>uz G z.t.ue Y s1 gs sp) p C L P xa (of V) (by rw [ne.1];exact rd) (fun b=>?_) (fun b=>?_) m.fn g.md g.pc H vc mk y mt ?_ F
  ·rw [app,if_pos];simp only [List.length_map,List.length_drop,List.length_cons,List.length_nil];omega
  ·refine if_pos ?_;simp only [List.length_append,List.length_map,List.length_drop,List.length_cons,List.length_nil];omega
  ·rintro J w' z0 gs sp z3 z4 z5 lm le sm Nm pl ⟨bs,new,rfl,be,ce⟩ f;have gc:G.le { G with A:=G.A++bs }:=pe.le.app;have Z:pe.le { G with A:=G.A++bs } { G with A:=G.A++bs,B:=G.B++[z3] }:=⟨rfl,rfl,rfl,fun _ _ q=>q,fun i b q=>by
    show (G.B++[z3])[i]?=some b;rw [List.getElem?_append_left (List.getElem?_eq_some_iff.1 q).1];exact q⟩
   have O:=Fg.grow g le be;have un:(G.B++[z3]).drop 1=G.B.drop 1++[z3]:=by
    rw [List.drop_append_of_le_length (by omega)]
   have kk:((G.B++[z3]).drop 1).map Jc.mk=(G.B.drop 1).map Jc.mk++[⟨z3⟩]:=by rw [un,List.map_append];rfl
   have hlen:((((G.B.drop 1).map Jc.mk++[(⟨z3⟩:Jc)]).length:Int) - 1)=(z.t.Tb.length:Int) - 1:=by
    rw [List.length_append];have:=ne.1;simp only [List.length_cons,List.length_nil];omega
   rw [hlen];refine Pl R h (G:={ G with A:=G.A++bs,B:=G.B++[z3] }) (X:={ X with gd:=X.gd++gs,kc:=z5,He:=lm,Vd:=X.Vd++[.ba z3 124 [z4,.pointer sp,.bool false,.bool false,.bool false,.pointer none,.nilFunc,.nilFunc]] }) (D.t le) ((qc.t gc).t Z)
    ⟨O.je,O.de,O.md,O.vc,O.fb,O.Ji,Z.B _ _ O.now,O.Bb.up ga.r Z,kk ▸ Nm,O.out,O.gd.imp fun _ _ _ q=>q.up Z,?_,O.Eb,?_⟩ (ef.up le (gc.t Z) m) (f.perm ?_)
   ·refine Lf.snoc ⟨z4,sp,.pointer none,.nilFunc,.nilFunc,rfl,sm,ce.up Z,rfl,rfl,rfl⟩ (O.Vd.imp fun _ _ _ q=>q.up ga.r Z)
   ·show (z.t.Tb++[_]).length≤31;rw [List.length_append];simp only [List.length_cons,List.length_nil];omega
   ·simp only [ze.res,Zc.task,kk,List.append_assoc,List.cons_append,List.nil_append];classical exact List.perm_iff_count.2 (fun x=>(by simp only [List.count_append,List.count_cons,List.count_nil];ac_rfl))
 rw [if_neg P] at e;by_cases T:x.Kind=23
 ·rw [if_pos T] at e;obtain ⟨a,s,e⟩:=ua e;obtain ⟨b,Q,e⟩:=ua e;by_cases fd:0≤a∧a<(z.t.Tb.length:Int) - 1
  ·rw [if_pos fd] at e;cases e;obtain ⟨j,rfl⟩:∃ j:Nat,a=(j:Int):=⟨a.toNat,by omega⟩;have wn:j+1<G.B.length:=by omega
   have V:G.B[j+1]?=some G.B[j+1]:=List.getElem?_eq_getElem wn;refine fI s Q (RF V) p C L P T g.pc H vc mk y mt ?_ F;intro J w' le f;exact R _ _ _ h (X:=X) (D.t le) qc (g.up le) ⟨rfl,_,Fd,Id,V,rfl,ef.up le .r m⟩ f
  ·rw [if_neg fd] at e;cases e
 rw [if_neg T] at e;by_cases W:x.Kind=24
 ·rw [if_pos W] at e;obtain ⟨a,s,e⟩:=ua e;by_cases fd:0≤a
  ·rw [if_pos fd] at e;obtain ⟨c,nd,e⟩:=ua e;cases e;obtain ⟨j,rfl⟩:∃ j:Nat,a=(j:Int):=⟨a.toNat,by omega⟩;obtain ⟨ok,q,Fn,In,g1,g2,⟨ge,ap,up,rg,on,rfl,-⟩,g3⟩:=Lf.at g.Vd nd;have rc:=F.perm (rs':=.ba G.La 70 [.map (some X.md),.map (some X.vc),.map (some X.fb),.int .i64 z.nodes]::.ba G.Ca 85 [ub G.La,X.oc,X.kc,ub X.Mb,.int .i64 z.t.state,.int .i64 z.t.box,.int .i64 z.t.Fe,X.Yb]::.row X.kc 83 1 ((G.B.drop 1).map Jc.mk).length X.He::.ba ok 124 [ge,.pointer ap,.bool c.begun,.bool c.going,.bool c.ended,up,rg,on]::(.row X.Yb 2 1 z.t.out.length X.qj::(X.gd++(Fn++(In++(X.Eb++rsF)))))) (by simp only [ze.res,g2,List.append_assoc,List.cons_append];classical exact List.perm_iff_count.2 (fun x=>(by simp only [List.count_append,List.count_cons,List.count_nil];ac_rfl)));refine cJ s (RF (b:=ok) g1) p C L P T S W m.fn g.pc H vc mk y mt ?_ rc;intro J w' le f;refine Pl R h (X:=X) (D.t le) qc (g.up le) (ef.up le .r m) (f.perm ?_);simp only [ze.res,g2,List.append_assoc,List.cons_append];classical exact List.perm_iff_count.2 (fun x=>(by simp only [List.count_append,List.count_cons,List.count_nil];ac_rfl))
  ·rw [if_neg fd] at e;cases e
 rw [if_neg W] at e;obtain ⟨q,N,e⟩:=ua e;by_cases lc:x.Kind=9
 ·rw [if_pos (.inl lc)] at N;obtain ⟨b,Q,N⟩:=ua N;cases N;by_cases U:b=0
  ·rw [if_pos (by simpa using U)] at e;cases e;cases h;refine dJ Q U p C L P T S W lc H vc mk y mt ?_ F;intro J w' le f;exact Vu (X:=X) (D.t le) qc (g.up le) f
  ·rw [if_neg (by simpa using U)] at e;obtain ⟨a,s,e⟩:=ua e;obtain ⟨Ic,Ne,e⟩:=ua e;obtain ⟨v,id,e⟩:=ua e;cases e;obtain rfl:b=Ic:=Option.some.inj (Q.symm.trans Ne);refine vK s Q id U p C L P T S W lc m.fn H vc mk y mt ?_ F;intro J w' le f;exact Pl R h (X:=X) (D.t le) qc (g.up le) (ef.up le .r m) f
 by_cases wd:x.Kind=10
 ·rw [if_pos (.inr wd)] at N;obtain ⟨b,Q,N⟩:=ua N;cases N;by_cases U:b=0
  ·rw [if_pos (by simpa using U)] at e;cases e;cases h;refine gI Q U p C L P T S W lc wd H vc mk y mt ?_ F;intro J w' le f;exact Vu (X:=X) (D.t le) qc (g.up le) f
  ·rw [if_neg (by simpa using U)] at e;obtain ⟨a,s,e⟩:=ua e;obtain ⟨Ic,Ne,e⟩:=ua e;obtain ⟨v,id,e⟩:=ua e;cases e;obtain rfl:b=Ic:=Option.some.inj (Q.symm.trans Ne);refine eJ s Q id U p C L P T S W lc wd m.fn H vc mk y mt ?_ F;intro J w' le f;exact Pl R h (X:=X) (D.t le) qc (g.up le) (ef.up le .r m) f
 rw [if_neg (by rintro (q | q)<;>contradiction)] at N;cases N;rw [if_neg (by decide)] at e;obtain ⟨a,s,e⟩:=ua e;obtain ⟨b,Q,e⟩:=ua e;obtain ⟨v,id,e⟩:=ua e;cases e;refine gM s Q id p C L P T S W lc wd m.fn H vc mk y mt ?_ F;intro J w' le f;exact Pl R h (X:=X) (D.t le) qc (g.up le) (ef.up le .r m) f
theorem goes:∀ n,cj E μb Gb ca rsF n
 | 0=>fun c z r h=>by rw [hp] at h; cases h
 | n+1=>fun c=>by
  have a:cj E μb Gb ca rsF n:=goes n;cases c with
  | expr x s k=>exact CK a x s k
  | all l s g k=>exact qM a l s g k
  | stats l s e k=>exact kJ a l s e k
  | rf x s e k=>exact rM a x s e k
  | gf k v =>
   cases k with
   | all l s g k=>exact DK a l s g k v
   | stat l s e k=>exact lJ a l s e k v
   | rf x s e k=>exact EK a x s e k v
  | Sd k l =>
   cases k with
   | ex x k =>
    rintro z r h μ w G X f vs i qc j ⟨q,t,cs,rfl,ia,m⟩ p;obtain ⟨o,b,h⟩:=Yk h;rw [qe] at b;exact wM a b h i qc j ia m p
  | Hd k =>
   cases k with
   | zero k=>exact FK a k
   | recv mc k=>exact iJ a mc k
   | send mc v k=>exact jJ a mc v k
   | done g=>exact JK a g
   | stats l s e k=>exact rI a l s e k
   | rf x s e k=>exact GK a x s e k
   | fin=>exact sM a
   | Ti d=>exact tM a d
  | recv mc k=>exact HK a mc k
  | send mc v k=>exact IK a mc v k
  | resume g v k=>exact uI a g v k
end Go.Proofs.YticaondbdmcpoaaGreatDoor
set_option maxRecDepth 100000
set_option maxHeartbeats 20000000
namespace Go.Proofs.YticaondbdmcpoaaGreatDoor
open Go.Rb Go.ec Go.Y
variable {E:oe}{ca:World}{rsF:List kb}
theorem xM {fu:Nat}{z:Zc}{r:Option Zc}(h:pw E fu z=some r){μ:M}{w:World}{G:pe}{X:ze}(a:Fg E μ G z X) (b:ha μ ca w (X.res G z rsF)):xc Tryz.prog 23 [ub G.Ca] w fm (Cq r) (fun c v w'=>v=.tuple #[]∧∃ J wg d,ga μ J∧G.le wg∧Fg E J wg c d∧ha J ca w' (d.res wg c rsF)) (hl μ ca rsF):=by
 rw [pw] at h;rw [ze.res] at b;refine pf Tryz.func23 rfl (frm:=[_,_,_,_,_,_,_,_,_,_,_,_,_,_,_,_,_,_,_]) rfl ?_;refine Fa ?_;refine gb ?_;refine wl (Af (aa d0) (ea Ub) ?_);refine wl (Af (aa d0) (ea Zb) ?_);refine wl (aj (aa d3) (ea yc) ?_);refine wl (Vh av (aa d5) rfl (ea jc) ?_);refine wl (Vh Dy (aa d6) rfl (ea Cc) ?_);refine wl (ud Jd (aa d7) Pa rfl b d1 Zb rfl lb Wa ?_);clear b;intro j b;refine wl (aj (aa d4) (ea Hc) ?_);refine wl (Vh av (aa d8) rfl (ea sc) ?_);refine wl (Vh iw (aa d9) rfl (ea (Ma wa)) ?_);refine wl (ud Jd (aa (na d0)) Pa rfl b d1 yc rfl lb Wa ?_);clear b;intro O b;refine Va ?_;refine pa ?_;refine Fa ?_;refine gb ?_;refine wl (Af (aa d0) (ea (Ma lb)) ?_);refine wl (aj (aa (na d1)) (ea (Ma xb)) ?_);refine wl (Vh oF (aa (na d2)) rfl (ea (Ma Ub)) ?_);refine wl (Yc Tn (aa (na d3)) ((b.ba d1).cell d1) (ea (Ma Zb)) ?_);refine wl (Dg (aa (na d4)) (ea xb) ?_);refine Va ?_;refine pa ?_;refine yb ?_;refine Jg [15,16,17,18] (by decide) (fun n m j=>∃ (J:M) (wg:pe) (d:ze) (k:Option xe) (c:Zc) (g:Value),m=Sg (.i g::(af (Sg (Rk 15 []))))∧ga μ J∧G.le wg∧Fg E J wg c d∧Ts E J wg g k∧ss E n k c=some r∧ha J ca j (d.res wg c rsF)) (by rintro _ _ _ ⟨_,_,_,_,_,_,rfl,_⟩;rfl) fu _ (Ed (cb (cc (Ed (jh Oa))))) ⟨μ,G,X,z.t.Yl,z.task fun t=>{ t with state:=1,box:=0 },_,rfl,ga.r,pe.le.r,⟨a.je,a.de,a.md,a.vc,a.fb,a.Ji,a.now,a.Bb,a.pc,a.out,a.gd,a.Vd,a.Eb,a.vf⟩,a.Bb,h,b⟩ ?_;rintro n _ t j ⟨J,wg,d,k,c,g,rfl,le,qc,u,f,ia,b⟩;refine Lg (bh (bd (kf (bh (sl ic))))) ?_;cases k with
 | none =>
  obtain rfl:g=.nilFunc:=f;obtain rfl:some c=r:=by cases n<;>exact rb ia
  refine Fa ?_;refine Fa ?_;refine gb ?_;refine wl (Af (aa d2) (ea (Ma yc)) ?_);refine wl (aF Tryz.underlying81 rfl (.inl ⟨rfl,rfl⟩) (aa (na d5)) (ea (Ma jc)) ?_);refine Va ?_;refine pa ?_;refine tr (aa (na d6)) (fun q=>by cases q) (fun _=>?_);refine eg ?_;refine (fun h=>jd (jd (hg h))) ?_;refine KN (St rfl ?_);exact ⟨rfl,J,wg,d,le,qc,u,b⟩
 | some k =>
  obtain ⟨K,cs,rfl,f⟩:=f;cases n with
  | zero=>cases ia
  | succ n =>
  obtain ⟨l,B,ia⟩:=ua ia;refine Fa ?_;refine Fa ?_;refine gb ?_;refine wl (Af (aa d2) (ea (Ma yc)) ?_);refine wl (aF Tryz.underlying81 rfl (.inr ⟨⟨_,_,_,rfl⟩,rfl⟩) (aa (na d5)) (ea (Ma jc)) ?_);refine Va ?_;refine pa ?_;refine tr (aa (na d6)) (fun _=>?_) (fun q=>by cases q);refine eb ?_;refine pa ?_;refine yb ?_;refine gb ?_;refine wl (Af (aa d2) (ea (Ma Cc)) ?_);refine wl (LA f.fn (aa (na d7)) nb (goes (μb:=J) (Gb:=wg) n (.Hd k) c l B ga.r pe.le.r u ⟨cs,rfl,f⟩ b) ?_ ?_)
  ·intro x v w' A C;refine pu (ea (Ma Hc)) ?_;refine wl (Dg (aa (na d8)) (ea xb) ?_);refine Va ?_;refine (fun h=>kd (Ya h)) ?_;cases l with
   | none=>cases A
   | some y =>
   cases A;obtain ⟨k',z2⟩:=x;obtain ⟨o,D,F,p,g2,H,L,s⟩:=C;exact ⟨n,_,_,rfl,(Ed (cb (cc (Ed (jh Oa))))),⟨o,D,F,k',z2,_,rfl,le.t p,qc.t g2,H,L,ia,s⟩,Nat.lt_succ_self _⟩
  ·intro e w' he N;cases l with
   | some y=>cases he
   | none =>
   obtain rfl:=rb ia;cases he;obtain ⟨o,p,s⟩:=N;refine (fun h=>kC (mG (kC h))) ?_;exact hG (P:=Tryz.prog) (fn:=Tryz.f23) ⟨o,le.t p,s⟩
end Go.Proofs.YticaondbdmcpoaaGreatDoor
set_option maxRecDepth 100000
set_option maxHeartbeats 4000000
namespace Go.Proofs.YticaondbdmcpoaaGreatDoor
open Go.Rb Go.ec Go.Y
structure Zt (E:oe) (μ:M) (G:pe) (t:Qd) (X:ze):Prop where
 now:G.B[t.now]?=some X.Mb
 Bb:Ts E μ G X.oc t.Yl
 pc:Na μ X.He ((G.B.drop 1).map Jc.mk)
 out:Na μ X.qj t.out
 gd:Lf (rq G) t.ue G.A X.gd
 Vd:Lf (Yt E μ G) t.Tb G.B X.Vd
 vf:t.Tb.length≤31
def gr (t:Qd) (G:pe) (X:ze):List kb :=
 .ba G.Ca 85 [ub G.La,X.oc,X.kc,ub X.Mb,.int .i64 t.state,.int .i64 t.box,.int .i64 t.Fe,X.Yb]::
 .row X.kc 83 1 ((G.B.drop 1).map Jc.mk).length X.He::.row X.Yb 2 1 t.out.length X.qj::(X.gd++X.Vd)
structure uv (E:oe) (μ:M) (bb:List Nat) (bs:List Pd) (nd:Int) (X:ze):Prop where
 je:0≤nd
 de:nd≤20000
 md:Oh μ X.md E.defs
 vc:Oh μ X.vc X.Wi
 fb:Oh μ X.fb E.order
 Ji:∀ (n:Te) (i b:Nat),Ua E.order n=some (i:Int)→bb[i]?=some b→Ua X.Wi n=some ⟨some b⟩
 Eb:Lf (Ms μ) bs bb X.Eb
def kq (La:Nat) (nd:Int) (X:ze):List kb:=.ba La 70 [.map (some X.md),.map (some X.vc),.map (some X.fb),.int .i64 nd]::X.Eb
def nh (E:oe) (μ:M) (La:Nat) (bb:List Nat):List Qd→List (pe×ze)→Prop
 | [],[]=>True
 | t::la,i::is=>i.1.La=La∧i.1.bb=bb∧Zt E μ i.1 t i.2∧nh E μ La bb la is
 | _,_=>False
def Th:List Qd→List (pe×ze)→List kb
 | t::la,i::is=>gr t i.1 i.2++Th la is
 | _,_=>[]
section
variable {E:oe}{μ J:M}{La:Nat}{bb:List Nat}{bs:List Pd}{nd:Int}{X nG:ze}{G:pe}{t:Qd}
theorem Zt.up (h:Zt E μ G t X) (l:ga μ J):Zt E J G t X:=⟨h.now,h.Bb.up l .r,h.pc.up l,h.out.up l,h.gd,h.Vd.imp fun _ _ _ k=>k.up l .r,h.vf⟩
theorem uv.up (h:uv E μ bb bs nd X) (l:ga μ J):uv E J bb bs nd X:=⟨h.je,h.de,h.md.up l,h.vc.up l,h.fb.up l,h.Ji,h.Eb.imp fun _ _ _ k=>k.up l⟩
theorem nh.up (l:ga μ J):∀ {la:List Qd}{is:List (pe×ze)},nh E μ La bb la is→nh E J La bb la is
 | [],[],_=>trivial
 | t::la,i::is,⟨a,b,c,d⟩=>⟨a,b,c.up l,nh.up l d⟩
 | [],_::_,h=>h.elim
 | _::_,[],h=>h.elim
theorem nh.cut:∀ {pre la:List Qd}{is:List (pe×ze)},nh E μ La bb (pre++la) is→∃ a b,is=a++b∧nh E μ La bb pre a∧nh E μ La bb la b
 | [],la,is,h=>⟨[],is,rfl,trivial,h⟩
 | t::pre,la,i::is,⟨c,d,e,f⟩=>by
  obtain ⟨a,b,rfl,k1,g⟩:=nh.cut f;exact ⟨i::a,b,rfl,⟨c,d,e,k1⟩,g⟩
 | _::_,_,[],h=>h.elim
theorem nh.glue:∀ {pre la:List Qd}{b a:List (pe×ze)},nh E μ La bb pre b→nh E μ La bb la a→nh E μ La bb (pre++la) (b++a)
 | [],la,[],a,_,h=>h
 | t::pre,la,i::b,a,⟨c,d,e,f⟩,h=>⟨c,d,e,nh.glue f h⟩
 | [],_,_::_,_,h,_=>h.elim
 | _::_,_,[],_,h,_=>h.elim
theorem nh.res:∀ {pre la:List Qd}{a b:List (pe×ze)},nh E μ La bb pre a→Th (pre++la) (a++b)=Th pre a++Th la b
 | [],la,[],b,_=>rfl
 | t::pre,la,i::a,b,⟨d,e,f,c⟩=>by
  show gr t i.1 i.2++Th (pre++la) (a++b)=(gr t i.1 i.2++Th pre a)++Th la b;rw [nh.res c,List.append_assoc]
 | [],_,_::_,_,h=>h.elim
 | _::_,_,[],_,h=>h.elim
theorem nh.len:∀ {la:List Qd}{is:List (pe×ze)},nh E μ La bb la is→la.length=is.length
 | [],[],_=>rfl
 | t::la,i::is,⟨_,_,_,a⟩=>by simp [nh.len a]
 | [],_::_,h=>h.elim
 | _::_,[],h=>h.elim
theorem _root_.Go.ec.xc.mono {Li α:Type}{f:FuncId}{args:List Value}{w:World}{V:Li→Value}{r:Except Li α}{R R':α→Value→World→Prop}{F b:World→Prop}(h:xc Tryz.prog f args w V r R F) (d:∀ x v w',R x v w'→R' x v w') (he:∀ w',F w'→b w'):xc Tryz.prog f args w V r R' b :=
 ⟨Calls.mono h.out fun e w' k=>by
  cases e with
  | returned v=>obtain ⟨x,a,k⟩:=k; exact ⟨x,a,d _ _ _ k⟩
  | panicked c=>obtain ⟨e,a,g,k⟩:=k; exact ⟨e,a,g,he _ k⟩
  | outgrown=>exact k⟩
def YB (S X:ze):ze:={ S with oc:=X.oc,kc:=X.kc,Yb:=X.Yb,Mb:=X.Mb,He:=X.He,qj:=X.qj,gd:=X.gd,Vd:=X.Vd }
theorem Fg.join (a:uv E μ G.bb bs nd nG) (b:Zt E μ G t X):Fg E μ G ⟨t,bs,nd⟩ (YB nG X):=
 ⟨a.je,a.de,a.md,a.vc,a.fb,a.Ji,b.now,b.Bb,b.pc,b.out,b.gd,b.Vd,a.Eb,b.vf⟩
theorem Fg.part {z:Zc}(h:Fg E μ G z X):uv E μ G.bb z.boxes z.nodes X∧Zt E μ G z.t X :=
 ⟨⟨h.je,h.de,h.md,h.vc,h.fb,h.Ji,h.Eb⟩,⟨h.now,h.Bb,h.pc,h.out,h.gd,h.Vd,h.vf⟩⟩
end
structure Er (E:oe) (μ:M) (La:Nat) (bb uh:List Nat) (la:List Qd) (bs:List Pd) (nd:Int) (S:ze) (L:List (pe×ze)):Prop where
 Ef:uv E μ bb bs nd S
 all:nh E μ La bb la L
 Ca:uh=L.map fun i=>i.1.Ca
def nj (La:Nat) (nd:Int) (S:ze) (la:List Qd) (L:List (pe×ze)) (vf:List kb):List kb:=kq La nd S++(Th la L++vf)
section
variable {E:oe}{ca:World}{rsF:List kb}{μ:M}{w:World}{La:Nat}{bb uh:List Nat}{pre la:List Qd}{t:Qd}{bs:List Pd}{nd:Int}{S:ze}{L:List (pe×ze)}
theorem vI {fu:Nat}{r:Option Zc}(h:pw E fu ⟨t,bs,nd⟩=some r) (n:Er E μ La bb uh (pre++t::la) bs nd S L) (o:ha μ ca w (nj La nd S (pre++t::la) L rsF)){b:Nat}(e:uh[pre.length]?=some b) :
  xc Tryz.prog 23 [ub b] w fm (Cq r) (fun z v w'=>v=.tuple #[]∧∃ J f g,ga μ J∧Er E J La bb uh (pre++z.t::la) z.boxes z.nodes f g∧ha J ca w' (nj La z.nodes f (pre++z.t::la) g rsF)) (hl μ ca rsF):=by
 obtain ⟨p,q,rfl⟩:=n;obtain ⟨c,a,rfl,oa,a2⟩:=nh.cut q;cases a with
 | nil=>exact a2.elim
 | cons i a =>
 obtain ⟨rfl,rfl,s,a2⟩:=a2;have hlen:pre.length=c.length:=nh.len oa;obtain rfl:i.1.Ca=b:=by
  rw [hlen] at e;simpa using e
 have u:=Fg.join p s;have y:=o.perm (rs':=(YB S i.2).res i.1 ⟨t,bs,nd⟩ (Th pre c++(Th la a++rsF))) (by
  simp only [nj,kq,nh.res oa,Th,gr,ze.res,YB,List.append_assoc,List.cons_append];classical exact List.perm_iff_count.2 (fun x=>(by simp only [List.count_append,List.count_cons,List.count_nil];ac_rfl)))
 refine (xM (rsF:=Th pre c++(Th la a++rsF)) h u y).mono ?_ ?_
 ·rintro z v w' ⟨rfl,J,wg,j,le,qc,A,d⟩;obtain ⟨k,B⟩:=Fg.part A;rw [qc.bb] at k;have m:=nh.up le oa;refine ⟨rfl,J,j,c++(wg,j)::a,le,⟨k,nh.glue m ⟨qc.La,qc.bb,B,nh.up le a2⟩,?_⟩,d.perm ?_⟩
  ·simp [qc.Ca]
  ·simp only [nj,kq,nh.res m,Th,gr,ze.res,qc.La,List.append_assoc,List.cons_append];classical exact List.perm_iff_count.2 (fun x=>(by simp only [List.count_append,List.count_cons,List.count_nil];ac_rfl))
 ·rintro w' ⟨J,l,d⟩;exact ⟨J,l,xw (xw d)⟩
theorem wI {c:Bool}(h:gq t bs=some c) (G:Er E μ La bb uh (pre++t::la) bs nd S L){sf:Value}{tf:List Value}{Ud:List Jc}(H:Ud=bb.map Jc.mk) (p:Na μ tf Ud) (K:ha μ ca w (.row sf 74 1 Ud.length tf::nj La nd S (pre++t::la) L rsF)){b:Nat}(z:uh[pre.length]?=some b) :
  wc Tryz.prog 22 [ub b,sf] w (fun v w'=>v=.bool c∧∃ J,ga μ J∧ha J ca w' (.row sf 74 1 Ud.length tf::nj La nd S (pre++t::la) L rsF)):=by
 obtain ⟨N,O,rfl⟩:=G;obtain ⟨g,e,rfl,oa,a2⟩:=nh.cut O;cases e with
 | nil=>exact a2.elim
 | cons i e =>
 obtain ⟨rfl,rfl,T,a2⟩:=a2;have hlen:pre.length=g.length:=nh.len oa;obtain rfl:i.1.Ca=b:=by
  rw [hlen] at z;simpa using z
 have r:=K.perm (rs':=.ba i.1.Ca 85 [ub i.1.La,i.2.oc,i.2.kc,ub i.2.Mb,.int .i64 t.state,.int .i64 t.box,.int .i64 t.Fe,i.2.Yb]::.row sf 74 1 Ud.length tf::(kq i.1.La nd S++(.row i.2.kc 83 1 ((i.1.B.drop 1).map Jc.mk).length i.2.He::.row i.2.Yb 2 1 t.out.length i.2.qj::(i.2.gd++(i.2.Vd++(Th pre g++(Th la e++rsF))))))) (by
  simp only [nj,nh.res oa,Th,gr,List.append_assoc,List.cons_append];classical exact List.perm_iff_count.2 (fun x=>(by simp only [List.count_append,List.count_cons,List.count_nil];ac_rfl)))
 rw [gq] at h;have back:∀ {J:M}{w':World},ha J ca w' (.ba i.1.Ca 85 [ub i.1.La,i.2.oc,i.2.kc,ub i.2.Mb,.int .i64 t.state,.int .i64 t.box,.int .i64 t.Fe,i.2.Yb]::.row sf 74 1 Ud.length tf::(kq i.1.La nd S++(.row i.2.kc 83 1 ((i.1.B.drop 1).map Jc.mk).length i.2.He::.row i.2.Yb 2 1 t.out.length i.2.qj::(i.2.gd++(i.2.Vd++(Th pre g++(Th la e++rsF)))))))→ha J ca w' (.row sf 74 1 Ud.length tf::nj i.1.La nd S (pre++t::la) (g++i::e) rsF):=fun d=>d.perm (by
  simp only [nj,nh.res oa,Th,gr,List.append_assoc,List.cons_append];classical exact List.perm_iff_count.2 (fun x=>(by simp only [List.count_append,List.count_cons,List.count_nil];ac_rfl)))
 by_cases l:t.state=1
 ·rw [if_pos l] at h;cases h;refine (qI l p r).mono ?_;rintro v w' ⟨J,rfl,le,d⟩;exact ⟨rfl,J,le,back d⟩
 rw [if_neg l] at h;have box:∀ {c:Pd},at_ bs t.box=some c→∃ f a k rs,at_ Ud t.box=some ⟨f⟩∧Ja μ a k c.words∧∀ {J:M}{w':World},ha J ca w' (.ba i.1.Ca 85 [ub i.1.La,i.2.oc,i.2.kc,ub i.2.Mb,.int .i64 t.state,.int .i64 t.box,.int .i64 t.Fe,i.2.Yb]::.row sf 74 1 Ud.length tf::(kq i.1.La nd S++(.row i.2.kc 83 1 ((i.1.B.drop 1).map Jc.mk).length i.2.He::.row i.2.Yb 2 1 t.out.length i.2.qj::(i.2.gd++(i.2.Vd++(Th pre g++(Th la e++rsF))))))) ↔ ha J ca w' (.ba i.1.Ca 85 [ub i.1.La,i.2.oc,i.2.kc,ub i.2.Mb,.int .i64 t.state,.int .i64 t.box,.int .i64 t.Fe,i.2.Yb]::.row sf 74 1 Ud.length tf::.ba f 76 [.int .i64 c.cap,.slice a c.words.length k]::rs):=by
  intro c m;obtain ⟨j,P,Q⟩:=FB m;obtain ⟨f,q,C,D,g1,g2,⟨a,k,rfl,R⟩,g3⟩:=Lf.at N.Eb Q;refine ⟨f,a,k,.ba i.1.La 70 [.map (some S.md),.map (some S.vc),.map (some S.fb),.int .i64 nd]::(C++(D++(.row i.2.kc 83 1 ((i.1.B.drop 1).map Jc.mk).length i.2.He::.row i.2.Yb 2 1 t.out.length i.2.qj::(i.2.gd++(i.2.Vd++(Th pre g++(Th la e++rsF))))))),by rw [P,H];simp [at_,g1],R,fun {J w'}=>?_⟩;have F:∀ (A B:kb) (Z:List kb),(A::B::(kq i.1.La nd S++Z)).Perm (A::B::.ba f 76 [.int .i64 c.cap,.slice a c.words.length k]::.ba i.1.La 70 [.map (some S.md),.map (some S.vc),.map (some S.fb),.int .i64 nd]::(C++(D++Z))):=fun A B Z=>by
   simp only [kq,g2,List.append_assoc,List.cons_append];classical exact List.perm_iff_count.2 (fun x=>(by simp only [List.count_append,List.count_cons,List.count_nil];ac_rfl))
  exact ⟨fun h=>h.perm (F _ _ _),fun h=>h.perm (F _ _ _).symm⟩
 by_cases n:t.state=2
 ·rw [if_pos n] at h;obtain ⟨c',m,h⟩:=ua h;cases h;obtain ⟨f,a,k,rs,u,y,o⟩:=box m;refine (gJ u l n p y (o.1 r)).mono ?_;rintro v w' ⟨J,rfl,le,d⟩;exact ⟨rfl,J,le,back (o.2 d)⟩
 rw [if_neg n] at h;by_cases s:t.state=3
 ·rw [if_pos s] at h;obtain ⟨c',m,h⟩:=ua h;cases h;obtain ⟨f,a,k,rs,u,y,o⟩:=box m;refine (hJ u l n s p y (o.1 r)).mono ?_;rintro v w' ⟨J,rfl,le,d⟩;exact ⟨rfl,J,le,back (o.2 d)⟩
 rw [if_neg s] at h;cases h;refine (pM l n s p r).mono ?_;rintro v w' ⟨J,rfl,le,d⟩;exact ⟨rfl,J,le,back d⟩
end
end Go.Proofs.YticaondbdmcpoaaGreatDoor
set_option maxRecDepth 100000
set_option maxHeartbeats 4000000
namespace Go.Proofs.YticaondbdmcpoaaGreatDoor
open Go.Rb Go.ec Go.Y
structure Bi where
 Ca:Nat
 Mb:Nat
 ni:Nat
 Pe:Nat
 Nq:Nat
 Om:Value
def Jw (μ:M) (d:sa) (i:Bi):Prop:=We μ i.Om d∧Aa μ i.ni 0 [i.Om]∧Aa μ i.Pe 0 [ub i.Ca]∧Aa μ i.Nq 0 [gh 36 [ub i.Pe]]
def jw (La:Nat) (i:Bi):List kb :=
 [.ba i.Ca 85 [ub La,gh 37 [ub i.Pe,ub i.ni,ub i.Nq],.slice none 0 0,ub i.Mb,.int .i64 1,.int .i64 0,.int .i64 0,.slice none 0 0],.ba i.Mb 124 [i.Om,.pointer none,.bool false,.bool false,.bool false,.pointer none,.nilFunc,.nilFunc]]
theorem cv {μ:M}{ca w:World}{rs:List kb}{T n:Nat}(a:ha μ ca w rs):ha μ ca w (.row (.slice none 0 0) T n 0 []::rs):=by
 refine ⟨a.keeps,fun r b=>?_,a.ej,a.new,a.Yj⟩;rcases List.mem_cons.1 b with rfl | b
 ·exact ⟨by simp,.inl ⟨rfl,rfl⟩⟩
 ·exact a.all r b
def ov (i:Bi):ze:=⟨0,0,0,[],gh 37 [ub i.Pe,ub i.ni,ub i.Nq],.slice none 0 0,.slice none 0 0,i.Mb,[],[],[],[.ba i.Mb 124 [i.Om,.pointer none,.bool false,.bool false,.bool false,.pointer none,.nilFunc,.nilFunc]],[]⟩
def pv (La:Nat) (bb:List Nat) (i:Bi):pe:=⟨La,i.Ca,[],[i.Mb],bb⟩
theorem Jw.task {E:oe}{μ:M}{La:Nat}{bb:List Nat}{d:sa}{i:Bi}(h:Jw μ d i):Zt E μ (pv La bb i) (Ol d) (ov i):=by
 obtain ⟨a,c,b,e⟩:=h;refine ⟨rfl,⟨_,_,rfl,?_⟩,Na.nil,Na.nil,trivial,⟨⟨i.Om,none,.pointer none,.nilFunc,.nilFunc,rfl,a,rfl,rfl,rfl,rfl⟩,trivial⟩,(by show 1≤31;decide)⟩;rw [Ke];exact ⟨rfl,i.Pe,i.ni,i.Nq,i.Pe,i.Om,rfl,b,a,c,e,b⟩
def Ok (μ:M):List sa→List Bi→Prop
 | [],[]=>True
 | d::ds,i::is=>Jw μ d i∧Ok μ ds is
 | _,_=>False
theorem Ok.all {E:oe}{μ:M}{La:Nat}{bb:List Nat}:∀ {ds:List sa}{is:List Bi},Ok μ ds is→nh E μ La bb (ds.map Ol) (is.map fun i=>(pv La bb i,ov i))
 | [],[],_=>trivial
 | d::ds,i::is,⟨a,b⟩=>⟨rfl,rfl,a.task,Ok.all b⟩
 | [],_::_,h=>h.elim
 | _::_,[],h=>h.elim
theorem Ok.up {μ J:M}(l:ga μ J):∀ {ds:List sa}{is:List Bi},Ok μ ds is→Ok J ds is
 | [],[],_=>trivial
 | d::ds,i::is,⟨⟨a,b,c,e⟩,h⟩=>⟨⟨a.up l,b.up l,c.up l,e.up l⟩,Ok.up l h⟩
 | [],_::_,h=>h.elim
 | _::_,[],h=>h.elim
theorem Ok.snoc {μ:M}{d:sa}{i:Bi}(h:Jw μ d i):∀ {ds:List sa}{is:List Bi},Ok μ ds is→Ok μ (ds++[d]) (is++[i])
 | [],[],_=>⟨h,trivial⟩
 | _::_,_::_,⟨a,b⟩=>⟨a,Ok.snoc h b⟩
 | [],_::_,h=>h.elim
 | _::_,[],h=>h.elim
def hr (La:Nat) (is:List Bi):List kb:=is.flatMap (jw La)
theorem Ok.res {μ:M}{ca w:World}{La:Nat}{bb:List Nat}:∀ {ds:List sa}{is:List Bi}{rs:List kb},Ok μ ds is→ha μ ca w (hr La is++rs)→ha μ ca w (Th (ds.map Ol) (is.map fun i=>(pv La bb i,ov i))++rs)
 | [],[],rs,_,a=>a
 | d::ds,i::is,rs,⟨j,b⟩,a=>by
  have e:hr La (i::is)=jw La i++hr La is:=rfl;rw [e,List.append_assoc] at a;have c:ha μ ca w (hr La is++(jw La i++rs)):=a.perm (by
   rw [← List.append_assoc,← List.append_assoc];exact List.perm_append_comm.append_right _)
  have f:=Ok.res (bb:=bb) b c;have g:=cv (T:=83) (n:=1) (cv (T:=2) (n:=1) f);refine g.perm ?_;simp only [Th,List.map_cons,gr,jw,ov,pv,Ol,List.append_assoc,List.cons_append,List.nil_append,List.drop_succ_cons,List.drop_zero,List.map_nil,List.length_nil]
  classical exact List.perm_iff_count.2 (fun x=>(by simp only [List.count_append,List.count_cons,List.count_nil];ac_rfl))
 | [],_::_,_,h,_=>h.elim
 | _::_,[],_,h,_=>h.elim
end Go.Proofs.YticaondbdmcpoaaGreatDoor
set_option maxRecDepth 100000
set_option maxHeartbeats 4000000
namespace Go.Proofs.YticaondbdmcpoaaGreatDoor
open Go.Rb Go.ec Go.Y Go.RowKit
theorem eH (v0 v1:Value) (w:World) :
  CallsD Tryz.prog 20 #[v0,v1] .returning w fun e a w'=>e=.returned (.tuple #[])∧a=.returning∧w'=w:=by
 refine callsD_of_wpS Tryz.func20 rfl fun b cs hu=>?_;apply wpS_seq;apply wpS_region;simp [wpOpsS,go_sem,recoverD,hu,Tryz.ntmps20,Exit.thenS];refine wpS_of_wp (Ie.out (fr:=[v0,v1,undef,undef,undef,.nilIface,undef,undef,undef,undef,undef,undef,undef]) (ds:=[]) ?_);refine yb ?_;refine Fa ?_;refine gb ?_;refine wl (eB Tryz.underlying20 (aa d5) (.inl ⟨rfl,rfl⟩) (ea Cc) ?_);refine Va ?_;refine pa ?_;refine zm (aa d7) ?_;refine gb ?_;refine wl (Dg (aa d5) (ea xb) ?_);refine Va ?_;refine kd ?_;cases b
 simp_all [F,bodyPostS,results,Tryz.results20]
theorem xI {I:M}{ca w:World}{rsF:List kb}{v0 v1:Value}(a:ha I ca w rsF):KA Tryz.prog 20 [v0,v1] w (fun v w'=>v=.tuple ⟨[]⟩∧ha I ca w' rsF):=
 ⟨(eH v0 v1 w).mono fun e b w' he=>by
  obtain ⟨rfl,rfl,rfl⟩:=he;exact ⟨rfl,rfl,a⟩⟩
theorem CH {I:M}{ca w:World}{rsF:List kb}{c2 c3:Nat}{x y z a b:Value}(c:ha I ca w (.ba c2 31 [x,y,z]::.ba c3 26 [a,b]::rsF)) :
  CallsD Tryz.prog 20 #[ub c2,ub c3] (.panicking [{ v:=fm (),recovered:=false }]) w fun e d w'=>d=.panicking [{ v:=fm (),recovered:=true }]∧e=.returned (.tuple #[])∧ha I ca w' (.ba c2 31 [.slice none 0 0,.slice none 0 0,.int .i64 0]::.ba c3 26 [.int .i64 10,.int .i64 0]::rsF):=by
 refine callsD_of_wpS Tryz.func20 rfl fun f cs hu=>?_;apply wpS_seq;apply wpS_region;simp [wpOpsS,go_sem,recoverD,hu,Tryz.ntmps20,Exit.thenS];refine wpS_of_wp (Ie.out (fr:=[ub c2,ub c3,undef,undef,undef,fm (),undef,undef,undef,undef,undef,undef,undef]) (ds:=[]) ?_);refine yb ?_;refine Fa ?_;refine gb ?_;refine wl (eB Tryz.underlying20 (aa d5) (.inr ⟨⟨_,_,rfl⟩,rfl⟩) (ea Cc) ?_);refine Va ?_;refine pa ?_;refine Am (aa d7) ?_;refine Fa ?_;refine gb ?_;refine wl (ZM Tryz.underlying64 rfl (aa d5) (ea Hc) ?_);refine wl (PE (aa d8) d1 (ea sc) ?_);refine wl (PE (aa d8) d0 (ea (Ma wa)) ?_);refine Va ?_;refine pa ?_;refine zm (aa d9) ?_;refine Fa ?_;refine gb ?_;refine wl (pd UB c ?_);clear c;intro g h i c;refine pu (ea Ub) ?_;refine wl (zc UB (aa d3) (aa (na d0)) rfl rfl c d0 rfl wa Wa ?_);clear c;intro j c;refine Va ?_;refine pa ?_;refine gb ?_;refine wl (mg Zk SN Lb.z (ea (Ma lb)) ?_);refine wl (mg Gd Un (Lb.o rfl Pa rfl rfl wa Lb.z) (ea (Ma xb)) ?_);refine wl (zc Zk (aa d0) (aa (na d1)) rfl rfl c d1 rfl lb Wa ?_);clear c;intro k c;refine wl (zc Gd (aa d1) (aa (na d2)) rfl rfl c d2 rfl xb Wa ?_);clear c;intro l c;refine Va ?_;refine kd ?_;have c:=c.drop ta.z;cases f
 simp_all [F,bodyPostS,results,Tryz.results20]
theorem mJ {I:M}{ca w:World}{rsF:List kb}{c2 c3:Nat}{x y z a b:Value}(c:ha I ca w (.ba c2 31 [x,y,z]::.ba c3 26 [a,b]::rsF)) :
  UD Tryz.prog 20 ([]++[ub c2,ub c3]) [{ v:=fm (),recovered:=false }] w (fun w'=>ha I ca w' (.ba c2 31 [.slice none 0 0,.slice none 0 0,.int .i64 0]::.ba c3 26 [.int .i64 10,.int .i64 0]::rsF)):=
 ⟨(CH c).mono fun e d w' he=>by
  obtain ⟨rfl,rfl,h⟩:=he;exact ⟨rfl,h⟩⟩
end Go.Proofs.YticaondbdmcpoaaGreatDoor
set_option maxRecDepth 100000
set_option maxHeartbeats 20000000
namespace Go.Proofs.YticaondbdmcpoaaGreatDoor
open Go.Rb Go.ec Go.Y
def lq:Code→List Nat→Code
 | c,[]=>c
 | .seq a _,0::p=>lq a p
 | .seq _ b,_::p=>lq b p
 | .block _ c,_::p=>lq c p
 | .loop c,_::p=>lq c p
 | .cond _ a _,0::p=>lq a p
 | .cond _ _ b,_::p=>lq b p
 | c,_=>c
section
variable {E:oe}{ca:World}{rsF:List kb}{μ:M}{w:World}{La:Nat}{bb uh:List Nat}{la:List Qd}{bs:List Pd}{nd:Int}{S:ze}{L:List (pe×ze)}
variable {Q:Exit→Act→World→Prop}{ds:List Deferred}{sf Yf:Value}{tf He:List Value}
theorem yI {a0 oa a2 a3 a4 a5 Pb a9 Kd Gc a12 ex hc D G Mc H K a20 a21 a22 a23 a24 a25 a26 N a28 O P a31 R T U V W a37 X Y a40 Z Gb gc lc rc a46 fd id a49 md a51 rd a53 wd Fd Id be ce a59 ge le ne Ne of wf If dg bi ci a70 ii a72 li pi a75 a76 Pi kk ok a80 dl el nl ol a85 pl a87 ul am em a91 lm a93 sm Nm fn on rx xx zx ty sz Rz hB a105 AC a107 GE a109 LE un wn Fn In co a116 a117 go a119 io no ro to a124 Do ap a127 ip jp a130 a131 mp op pp sp wp Op a138 a139 eq a141 Eq a143 fr a145 a146 or a148 qr wr:Value}{fu n:Nat}{r:Option (List Qd×List Pd×Int)}(h:Yq E fu n la bs nd=some r) (b:Er E μ La bb uh la bs nd S L) (NE:Na μ tf (bb.map Jc.mk)) (WF:Na μ He (uh.map Jc.mk))
  (a:ha μ ca w (.row Yf 77 1 (uh.map Jc.mk).length He::.row sf 74 1 (bb.map Jc.mk).length tf::nj La nd S la L rsF))
  (RK:∀ (Fr Or cs es gs is ls ms os rs us vs ws xs ys:Value) (w':World) (ts':List Qd) (j:List Pd) (d:Int) (J:M) (k:ze) (l:List (pe×ze)),r=some (ts',j,d)→ga μ J→Er E J La bb uh ts' j d k l →
   ha J ca w' (.row Yf 77 1 (uh.map Jc.mk).length He::.row sf 74 1 (bb.map Jc.mk).length tf::nj La d k ts' l rsF) →
   Q .normal (F [a0,oa,a2,a3,a4,a5,sf,Yf,Pb,a9,Kd,Fr,a12,Or,hc,D,G,Mc,H,K,a20,a21,a22,a23,a24,a25,a26,N,a28,O,P,a31,R,T,U,V,W,a37,X,Y,a40,Z,Gb,gc,lc,rc,a46,fd,id,a49,md,a51,rd,a53,wd,Fd,Id,be,ce,a59,ge,le,ne,Ne,of,wf,If,dg,bi,ci,a70,ii,a72,li,pi,a75,a76,Pi,kk,ok,a80,dl,el,nl,ol,a85,pl,a87,ul,am,em,a91,lm,a93,sm,Nm,fn,on,cs,es,gs,is,ls,ms,os,rs,us,vs,ws,xs,ys,un,wn,Fn,In,co,a116,a117,go,a119,io,no,ro,to,a124,Do,ap,a127,ip,jp,a130,a131,mp,op,pp,sp,wp,Op,a138,a139,eq,a141,Eq,a143,fr,a145,a146,or,a148,qr,wr] ds) w')
  (PP:∀ (Fr Or cs es gs is ls ms os rs us vs ws xs ys:Value) (w':World),r=none→hl μ ca rsF w'→Q (.panic [{ v:=fm (),recovered:=false }]) (F [a0,oa,a2,a3,a4,a5,sf,Yf,Pb,a9,Kd,Fr,a12,Or,hc,D,G,Mc,H,K,a20,a21,a22,a23,a24,a25,a26,N,a28,O,P,a31,R,T,U,V,W,a37,X,Y,a40,Z,Gb,gc,lc,rc,a46,fd,id,a49,md,a51,rd,a53,wd,Fd,Id,be,ce,a59,ge,le,ne,Ne,of,wf,If,dg,bi,ci,a70,ii,a72,li,pi,a75,a76,Pi,kk,ok,a80,dl,el,nl,ol,a85,pl,a87,ul,am,em,a91,lm,a93,sm,Nm,fn,on,cs,es,gs,is,ls,ms,os,rs,us,vs,ws,xs,ys,un,wn,Fn,In,co,a116,a117,go,a119,io,no,ro,to,a124,Do,ap,a127,ip,jp,a130,a131,mp,op,pp,sp,wp,Op,a138,a139,eq,a141,Eq,a143,fr,a145,a146,or,a148,qr,wr] ds) w') :
  Ie Tryz.prog (lq ((Tryz.f9.body).getD .skip) [1,1,1,1,1,1,1,0]) Q [a0,oa,a2,a3,a4,a5,sf,Yf,Pb,a9,Kd,Gc,a12,ex,hc,D,G,Mc,H,K,a20,a21,a22,a23,a24,a25,a26,N,a28,O,P,a31,R,T,U,V,W,a37,X,Y,a40,Z,Gb,gc,lc,rc,a46,fd,id,a49,md,a51,rd,a53,wd,Fd,Id,be,ce,a59,ge,le,ne,Ne,of,wf,If,dg,bi,ci,a70,ii,a72,li,pi,a75,a76,Pi,kk,ok,a80,dl,el,nl,ol,a85,pl,a87,ul,am,em,a91,lm,a93,sm,Nm,fn,on,rx,xx,zx,ty,sz,Rz,hB,a105,AC,a107,GE,a109,LE,un,wn,Fn,In,co,a116,a117,go,a119,io,no,ro,to,a124,Do,ap,a127,ip,jp,a130,a131,mp,op,pp,sp,wp,Op,a138,a139,eq,a141,Eq,a143,fr,a145,a146,or,a148,qr,wr] ds w:=by
 refine Fa ?_;refine gb ?_;refine wl (Dg Pa (ea (Ma lb)) ?_);refine Va ?_;refine pa ?_;refine yb ?_;refine Jg (13::rg 98 13) (by decide) (fun n m C=>∃ (J:M) (ts':List Qd) (j:List Pd) (d:Int) (k:ze) (l:List (pe×ze)) (td:Bool),m=af (Fi (.i (.bool td)::(Fi (te 13 (pg (Od (af (xi (Re 98 (pj 108 (Od (Od []))))))))))))∧ga μ J∧Er E J La bb uh ts' j d k l∧(if td=true then Yq E fu n ts' j d=some r else r=some (ts',j,d))∧ha J ca C (.row Yf 77 1 (uh.map Jc.mk).length He::.row sf 74 1 (bb.map Jc.mk).length tf::nj La d k ts' l rsF)) (by rintro _ _ _ ⟨_,_,_,_,_,_,_,rfl,_⟩;rfl) n _ (cc (Gf (cb (Gf (Fb (od (Ab (cc (Bf (Xb (yg (Ab (Ab Oa))))))))))))) ⟨μ,la,bs,nd,S,L,true,rfl,ga.r,b,by simpa using h,a⟩ ?_;clear h b a;rintro n _ t C ⟨st,ut,WP,EQ,GQ,HQ,td,rfl,A,b,h,a⟩;refine Lg (kf (fj (bd (fj (Be (xg (Zd (kf (Qi (Ve (ak (Zd (Zd ic))))))))))))) ?_;refine Fa ?_;refine Fa ?_;refine gb ?_;refine wl (Af (aa (na d1)) (ea (Bg Hc)) ?_);refine Va ?_;refine pa ?_;cases td with
 | false =>
  refine tr (aa (ee d8)) (fun q=>by cases q) (fun _=>?_);refine eg ?_;refine (fun h=>jd (jd (hg h))) ?_;rw [if_neg (by simp)] at h;exact RK _ _ _ _ _ _ _ _ _ _ _ _ _ _ _ _ _ _ _ _ _ _ h A b a
 | true =>
  rw [if_pos rfl] at h;cases n with
  | zero=>cases h
  | succ n =>
  rw [Yq] at h;obtain ⟨IQ,wt,h⟩:=ua h;refine tr (aa (ee d8)) (fun _=>?_) (fun q=>by cases q);refine eb ?_;refine pa ?_;refine yb ?_;refine Fa ?_;refine gb ?_;refine wl (Dg Pa (ea (Ma lb)) ?_);refine Va ?_;refine pa ?_;refine Fa ?_;refine gb ?_;refine wl (Af (aa d7) (ea (Bg sc)) ?_);refine wl (bw Tryz.underlying72 (aa (ee d9)) (a.get d0).bn (ea (Qb wa)) ?_);refine wl (Af Pa (ea (Qb lb)) ?_);refine Va ?_;refine pa ?_;refine yb ?_;refine Jg (13::rg 102 9) (by decide) (fun n m C=>∃ (J:M) (pre rest:List Qd) (j:List Pd) (d:Int) (k:ze) (l:List (pe×ze)) (td:Bool),m=af (Fi (.i (.bool td)::(Fi (te 13 (pg (Od (af (bk (.i (.int .i64 (pre.length:Int))::(vp 102 (Od (Od []))))))))))))∧ga st J∧Er E J La bb uh (pre++rest) j d k l∧Wp E fu pre rest j d td=some IQ∧rest.length<n∧ha J ca C (.row Yf 77 1 (uh.map Jc.mk).length He::.row sf 74 1 (bb.map Jc.mk).length tf::nj La d k (pre++rest) l rsF)) (by rintro _ _ _ ⟨_,_,_,_,_,_,_,_,rfl,_⟩;rfl) (ut.length+1) _ (cc (Gf (cb (Gf (Fb (od (Ab (cc (fh (cb (yj (Ab (Ab Oa))))))))))))) ⟨st,[],ut,WP,EQ,GQ,HQ,false,rfl,ga.r,b,wt,Nat.lt_succ_self _,a⟩ ?_;clear wt b a;rintro m _ ib WQ ⟨JQ,pre,rest,Os,p,s,u,td,rfl,y,b,f,hm,a⟩;refine Lg (kf (fj (bd (fj (Be (xg (Zd (kf (Gk (bd (vr (Zd (Zd ic))))))))))))) ?_;have hlen:uh.length=pre.length+rest.length:=by
   have:=nh.len b.all;rw [b.Ca,List.length_map,← this,List.length_append]
  refine Fa ?_;refine gb ?_;refine wl (mw (aa (Xa d1)) (aa (Xa d0)) (ea (Qb xb)) ?_);refine Va ?_;refine pa ?_;refine Fa ?_;refine ui (aa (Xa d2)) (fun KQ=>?_) (fun LQ=>?_)
  ·rw [List.length_map] at KQ;cases rest with
   | nil=>simp only [List.length_nil] at hlen; omega
   | cons uk rest =>
   rw [Wp] at f;obtain ⟨c,MQ,f⟩:=ua f;have NQ:pre.length<uh.length:=by omega
   have gt:uh[pre.length]?=some uh[pre.length]:=List.getElem?_eq_getElem NQ;have OQ:at_ (uh.map Jc.mk) (pre.length:Int)=some ⟨uh[pre.length]⟩:=by simp [at_,gt]
   have PQ:(uh.map Jc.mk).length≤maxLen:=by
    rcases (a.get d0).2 with ⟨-,q⟩ | ⟨g,o,cap,cur,-,-,XQ,YQ,-⟩
    ·omega
    ·omega
   have hu:Go.ec.i64 ((pre.length:Int)+1)=some ((pre.length:Int)+1):=if_pos (by
    rw [List.length_map] at PQ;have:maxLen≤9223372036854775807:=by decide
    omega)
   cases m with
   | zero=>omega
   | succ m =>
   refine eb ?_;refine pa ?_;refine Fa ?_;refine yb ?_;refine Fa ?_;refine gb ?_;obtain ⟨za,zg,ZQ,QQ,f5,m6⟩:=Row.elem (α:=Jc) (a.get d0) (WF.up (A.t y)) rfl OQ;obtain rfl:=m6;refine wl (ow Tryz.underlying72 cg (aa (ee d9)) (aa (Xa d1)) QQ (ea (Qb Ub)) ?_);refine wl (Yc cg (aa (Xa d3)) ((f5 _ _ (a.get d0)).one d0) (ea (Qb Zb)) ?_);refine wl (Dg (aa (Xa d4)) (ea (Ma Ub)) ?_);refine Va ?_;refine pa ?_;refine Fa ?_;refine gb ?_;refine wl (Af (aa (na d3)) (ea (Qb yc)) ?_);refine wl (Af (aa d6) (ea (Qb jc)) ?_);have bv:=a.perm (rs':=.row sf 74 1 (bb.map Jc.mk).length tf::nj La p s (pre++uk::rest) u (.row Yf 77 1 (uh.map Jc.mk).length He::rsF)) (by simp only [nj];classical exact List.perm_iff_count.2 (fun x=>(by simp only [List.count_append,List.count_cons,List.count_nil];ac_rfl)));refine wl (Qe vL Ad (qa (aa (Xa d5)) (qa (aa (Xa d6)) nb)) (wI MQ b rfl (NE.up (A.t y)) bv gt) ?_);clear a bv;rintro _ aR ⟨rfl,kv,B,a⟩;refine pu (ea (Qb Cc)) ?_;refine Va ?_;refine pa ?_;have hw:Er E kv La bb uh (pre++uk::rest) Os p s u:=⟨b.Ef.up B,b.all.up B,b.Ca⟩;cases c with
   | false =>
    rw [if_neg (by simp)] at f;refine tr (aa (Xa d7)) (fun q=>by cases q) (fun _=>?_);refine eb ?_;refine (fun h=>kd (pa h)) ?_;refine gb ?_;refine wl (br (aa (Xa d1)) Pa hu (ea (Qb (Ma wa))) ?_);refine wl (Af (aa (Xa (na d0))) (ea (Qb lb)) ?_);refine Va ?_;refine Ya ?_;have it:=a.perm (rs':=.row Yf 77 1 (uh.map Jc.mk).length He::.row sf 74 1 (bb.map Jc.mk).length tf::nj La p s (pre++uk::rest) u rsF) (by simp only [nj];classical exact List.perm_iff_count.2 (fun x=>(by simp only [List.count_append,List.count_cons,List.count_nil];ac_rfl)));exact ⟨m,_,_,rfl,(cc (Gf (cb (Gf (Fb (od (Ab (cc (fh (cb (yj (Ab (Ab Oa))))))))))))),⟨kv,pre++[uk],rest,Os,p,s,u,td,by rw [show (((pre++[uk]).length:Nat):Int)=(pre.length:Int)+1 by simp],y.t B,by simpa using hw,f,by simp only [List.length_cons] at hm;omega,by simpa using it⟩,Nat.lt_succ_self _⟩
   | true =>
    rw [if_pos rfl] at f;obtain ⟨z,RQ,f⟩:=ua f;refine tr (aa (Xa d7)) (fun _=>?_) (fun q=>by cases q);refine Fa ?_;refine gb ?_;refine wl (Af (aa (na d3)) (ea (Qb Hc)) ?_);have it:=a.perm (rs':=nj La p s (pre++uk::rest) u ([.row Yf 77 1 (uh.map Jc.mk).length He,.row sf 74 1 (bb.map Jc.mk).length tf]++rsF)) (by simp only [nj,List.cons_append,List.nil_append];classical exact List.perm_iff_count.2 (fun x=>(by simp only [List.count_append,List.count_cons,List.count_nil];ac_rfl)));refine wl (LA wL Ad (qa (aa (Xa d8)) nb) (vI RQ hw it gt) ?_ ?_)
    ·rintro x v SQ kw ⟨rfl,lt,lw,ww,mt,TQ,rt⟩;cases z with
     | none=>cases kw
     | some z =>
     cases kw;refine pu (ea (Qb sc)) ?_;refine Va ?_;refine pa ?_;refine gb ?_;refine wl (Dg Pa (ea (Ma lb)) ?_);refine Va ?_;refine (fun h=>kd (pa h)) ?_;refine gb ?_;refine wl (br (aa (Xa d1)) Pa hu (ea (Qb (Ma wa))) ?_);refine wl (Af (aa (Xa (na d0))) (ea (Qb lb)) ?_);refine Va ?_;refine Ya ?_;have UQ:=rt.perm (rs':=.row Yf 77 1 (uh.map Jc.mk).length He::.row sf 74 1 (bb.map Jc.mk).length tf::nj La x.nodes lw (pre++x.t::rest) ww rsF) (by simp only [nj,List.cons_append,List.nil_append];classical exact List.perm_iff_count.2 (fun x=>(by simp only [List.count_append,List.count_cons,List.count_nil];ac_rfl)));exact ⟨m,_,_,rfl,(cc (Gf (cb (Gf (Fb (od (Ab (cc (fh (cb (yj (Ab (Ab Oa))))))))))))),⟨lt,pre++[x.t],rest,x.boxes,x.nodes,lw,ww,true,by rw [show (((pre++[x.t]).length:Nat):Int)=(pre.length:Int)+1 by simp],y.t (B.t mt),by simpa using TQ,f,by simp only [List.length_cons] at hm;omega,by simpa using UQ⟩,Nat.lt_succ_self _⟩
    ·intro e SQ he VQ;cases z with
     | some z=>cases he
     | none =>
     cases f;cases h;obtain ⟨lt,mt,rt⟩:=VQ;repeat (first | refine kC ?_ | refine mG ?_)
     exact PP _ _ _ _ _ _ _ _ _ _ _ _ _ _ _ _ rfl ⟨lt,A.t (y.t (B.t mt)),xw rt⟩
  ·rw [List.length_map] at LQ;cases rest with
   | cons uk rest=>simp only [List.length_cons] at hlen; omega
   | nil =>
   rw [Wp] at f;cases f;refine eg ?_;refine (fun h=>jd (jd (hg h))) ?_;refine (fun h=>kd (Ya h)) ?_;rw [List.append_nil] at b a;exact ⟨n,_,_,rfl,(cc (Gf (cb (Gf (Fb (od (Ab (cc (Bf (Xb (yg (Ab (Ab Oa))))))))))))),⟨JQ,pre,Os,p,s,u,td,rfl,A.t y,b,by
    cases td
    ·simpa using h.symm
    ·simpa using h,a⟩,Nat.lt_succ_self _⟩
end
end Go.Proofs.YticaondbdmcpoaaGreatDoor
set_option maxRecDepth 100000
set_option maxHeartbeats 20000000
namespace Go.Proofs.YticaondbdmcpoaaGreatDoor
open Go.Rb Go.ec Go.Y
theorem Mj {κ β:Type}[DecidableEq κ]{k k':κ}{x:β}:∀ {m:List (κ×β)},Ua (zd m k x) k'=if k'=k then some x else Ua m k'
 | []=>by
  simp only [zd,Ua];by_cases h:k'=k
  ·subst h;simp
  ·simp [h,Ne.symm h]
 | (a,b)::m=>by
  have c:=Mj (k:=k) (k':=k') (x:=x) (m:=m);simp only [zd];split
  ·rename_i h;subst h;simp only [Ua];by_cases h:k'=a
   ·subst h;simp
   ·simp [h,Ne.symm h]
  ·rename_i h;simp only [Ua] at c ⊢;by_cases d:a=k'
   ·subst d;simp [h]
   ·simp [d,c]
def xr (O:List (Te×Int)) (bb:List Nat) (Wi:List (Te×Xl)):Prop:=∀ n i,Ua O n=some i→∃ (j b:Nat),i=(j:Int)∧bb[j]?=some b∧Ua Wi n=some ⟨some b⟩
theorem xr.nil:xr [] [] []:=fun n i h=>by cases h
theorem xr.put {O:List (Te×Int)}{bb:List Nat}{Wi:List (Te×Xl)}(h:xr O bb Wi){n:Te}{b:Nat}:xr (zd O n (bb.length:Int)) (bb++[b]) (zd Wi n ⟨some b⟩):=by
 intro d i a;rw [Mj] at a ⊢;by_cases e:d=n
 ·rw [if_pos e] at a ⊢;cases a;exact ⟨bb.length,b,rfl,by simp,rfl⟩
 ·rw [if_neg e] at a ⊢;obtain ⟨j,Ic,f,c,g⟩:=h _ _ a;exact ⟨j,Ic,f,by rw [List.getElem?_append_left (List.getElem?_eq_some_iff.1 c).1];exact c,g⟩
theorem xr.Ji {O:List (Te×Int)}{bb:List Nat}{Wi:List (Te×Xl)}(h:xr O bb Wi) (n:Te) (i b:Nat) (c:Ua O n=some (i:Int)) (d:bb[i]?=some b):Ua Wi n=some ⟨some b⟩:=by
 obtain ⟨j,Ic,e,a,f⟩:=h _ _ c;obtain rfl:i=j:=by omega
 rw [d] at a;cases a;exact f
structure dG (μ:M) (u:Rn) (dl:List sa) (is:List Bi) (bb:List Nat) (Wi:List (Te×Xl)) (a:List kb) (b:List MapEntry) (Ci:Nat) (c:List MapEntry) (d:Nat) (e:List MapEntry) (f:Nat) (tf He:List Value):Prop where
 la:u.la=dl.map Ol
 new:Ok μ dl is
 rt:Na μ He ((is.map Bi.Ca).map Jc.mk)
 Zw:Na μ tf (bb.map Jc.mk)
 Eb:Lf (Ms μ) u.bs bb a
 Mq:ag μ b Ci u.D
 Ro:ag μ c d Wi
 Zs:ag μ e f u.O
 Ji:xr u.O bb Wi
end Go.Proofs.YticaondbdmcpoaaGreatDoor
set_option maxRecDepth 100000
set_option maxHeartbeats 20000000
namespace Go.Proofs.YticaondbdmcpoaaGreatDoor
open Go.Rb Go.ec Go.Y
section
variable {ca:World}{rsF:List kb}{μ:M}{w:World}{La So To Uo:Nat}{l:List sa}{Ld:Option Addr}{Md:Nat}
variable {Q:Exit→Act→World→Prop}{ds:List Deferred}
theorem nJ {oa a2 a3 a4 Pb a9 Kd Gc a12 rd hc wd Fd Mc Id be a20 a21 a22 a23 a24 a25 a26 ce a28 ge he a31 pp sp wp Op eq a37 Eq fr a40 or qr wr Fr Or a46 cs es a49 gs a51 ls a53 ms os rs us vs a59 ws xs ys Os gt it lt mt st ut a70 wt a72 fu bv a75 a76 kv hw kw a80 lw ww ex rx a85 zx a87 ty sz Rz a91 AC a93 GE LE NE WF le ne Ne of wf If dg a105 bi a107 ci a109 ii li pi Pi ok el a116 a117 nl a119 ol pl ul am a124 em hm a127 lm sm a130 a131 Nm fn on un wn Fn a138 a139 In a141 co a143 go a145 a146 io a148 no ro:Value}(hB:∀ d,8≤d→Xk Q d) (lS:l.length≤4294967295) (U:Ja μ Ld Md l)
  (c:ha μ ca w (.map Uo [] 0::.map To [] 0::.map So [] 0::.ba La 70 [.map (some So),.map (some To),.map (some Uo),.int .i64 0]::rsF))
  (RK:∀ (ig yf PP WP EQ GQ HQ IQ JQ KQ LQ MQ NQ OQ PQ QQ RQ SQ TQ UQ VQ WQ XQ YQ ZQ aR bR cR dR eR fR gR hR iR jR kR lR mR nR oR pR qR rR sR tR uR vR wR xR yR zR AR BR CR DR ER FR GR HR IR JR KR LR MR NR OR PR QR RR SR:Value) (w':World) (J:M) (dl:List sa) (is:List Bi) (bb:List Nat) (Wi:List (Te×Xl)) (y:List kb) (L:List MapEntry) (Ci:Nat) (C:List MapEntry) (E:Nat) (G:List MapEntry) (H:Nat) (tf He:List Value) (sf Yf:Value),ga μ J→dG J (Uf l) dl is bb Wi y L Ci C E G H tf He→ha J ca w' (.map Uo G H::.map To C E::.map So L Ci::.ba La 70 [.map (some So),.map (some To),.map (some Uo),.int .i64 0]::.row sf 74 1 (bb.map Jc.mk).length tf::.row Yf 77 1 ((is.map Bi.Ca).map Jc.mk).length He::(y++(hr La is++rsF)))→Q .normal (F [.slice Ld l.length Md,oa,a2,a3,a4,ub La,sf,Yf,ig,yf,PP,Gc,a12,rd,hc,wd,Fd,Mc,Id,be,a20,a21,a22,a23,a24,a25,a26,ce,a28,ge,he,WP,EQ,GQ,HQ,IQ,JQ,KQ,LQ,MQ,NQ,OQ,PQ,QQ,RQ,SQ,TQ,UQ,VQ,WQ,XQ,YQ,ZQ,aR,bR,cR,dR,eR,fR,gR,hR,iR,jR,kR,lR,mR,nR,oR,pR,qR,rR,sR,tR,uR,vR,wR,xR,yR,zR,AR,BR,CR,DR,ER,FR,GR,HR,IR,JR,KR,LR,MR,NR,OR,PR,QR,RR,SR,le,ne,Ne,of,wf,If,dg,a105,bi,a107,ci,a109,ii,li,pi,Pi,ok,el,a116,a117,nl,a119,ol,pl,ul,am,a124,em,hm,a127,lm,sm,a130,a131,Nm,fn,on,un,wn,Fn,a138,a139,In,a141,co,a143,go,a145,a146,io,a148,no,ro] ds) w') :
  Ie Tryz.prog (lq ((Tryz.f9.body).getD .skip) [1,1,1,1,1,1,0]) Q [.slice Ld l.length Md,oa,a2,a3,a4,ub La,.slice none 0 0,.slice none 0 0,Pb,a9,Kd,Gc,a12,rd,hc,wd,Fd,Mc,Id,be,a20,a21,a22,a23,a24,a25,a26,ce,a28,ge,he,a31,pp,sp,wp,Op,eq,a37,Eq,fr,a40,or,qr,wr,Fr,Or,a46,cs,es,a49,gs,a51,ls,a53,ms,os,rs,us,vs,a59,ws,xs,ys,Os,gt,it,lt,mt,st,ut,a70,wt,a72,fu,bv,a75,a76,kv,hw,kw,a80,lw,ww,ex,rx,a85,zx,a87,ty,sz,Rz,a91,AC,a93,GE,LE,NE,WF,le,ne,Ne,of,wf,If,dg,a105,bi,a107,ci,a109,ii,li,pi,Pi,ok,el,a116,a117,nl,a119,ol,pl,ul,am,a124,em,hm,a127,lm,sm,a130,a131,Nm,fn,on,un,wn,Fn,a138,a139,In,a141,co,a143,go,a145,a146,io,a148,no,ro] ds w:=by
 refine Fa ?_;refine gb ?_;refine wl (Af (aa d0) (ea (Rc lb)) ?_);refine wl (kE Tryz.underlying22 (aa (mb d1)) (ea (Rc xb)) ?_);refine wl (Af Pa (ea (Rc Ub)) ?_);refine Va ?_;refine pa ?_;refine yb ?_;refine Jg (8::9::10::rg 34 64) (by decide) (fun n m V=>∃ (J:M) (i:Nat) (dl:List sa) (is:List Bi) (bb:List Nat) (Wi:List (Te×Xl)) (y:List kb) (L:List MapEntry) (Ci:Nat) (C:List MapEntry) (E:Nat) (G:List MapEntry) (H:Nat) (tf He:List Value) (sf Yf:Value),m=rk (.i sf::.i Yf::(pj 8 (Od (Sg (.i (.int .i64 (i:Int))::(Bm 34 (Re 84 (Rk 94 (pg (oj []))))))))))∧(bb.length≤i∧is.length≤i∧i≤l.length)∧l.length<n+i∧ga μ J∧dG J ((l.take i).foldl Sh ⟨[],[],[],[]⟩) dl is bb Wi y L Ci C E G H tf He∧ha J ca V (.map Uo G H::.map To C E::.map So L Ci::.ba La 70 [.map (some So),.map (some To),.map (some Uo),.int .i64 0]::.row sf 74 1 (bb.map Jc.mk).length tf::.row Yf 77 1 ((is.map Bi.Ca).map Jc.mk).length He::(y++(hr La is++rsF)))) (by rintro _ _ _ ⟨_,_,_,_,_,_,_,_,_,_,_,_,_,_,_,_,_,rfl,_⟩;rfl) (l.length+1) _ (Gg (cb (cb (yg (Ab (Ed (cb (wh (Xb (jh (od (Wf Oa)))))))))))) ⟨μ,0,[],[],[],[],[],[],0,[],0,[],0,[],[],_,_,rfl,⟨by simp,by simp,by omega⟩,by omega,ga.r,⟨rfl,trivial,Na.nil,Na.nil,trivial,ag.nil,ag.nil,ag.nil,xr.nil⟩,?_⟩ ?_
 ·refine (cv (T:=77) (n:=1) (cv (T:=74) (n:=1) c)).perm ?_;simp only [hr,List.flatMap_nil,List.map_nil,List.length_nil,List.nil_append];classical exact List.perm_iff_count.2 (fun x=>(by simp only [List.count_append,List.count_cons,List.count_nil];ac_rfl))
 clear c;rintro n _ t V ⟨W,i,dl,is,bb,Wi,y,L,Ci,C,E,G,H,tf,He,sf,Yf,rfl,⟨mS,nS,oS⟩,pS,N,p,c⟩;refine Lg (Sk (bd (bd (ak (Zd (bh (bd (Qn (Ve (sl (xg (Zj ic)))))))))))) ?_;refine Fa ?_;refine gb ?_;refine wl (mw (aa (mb d3)) (aa (mb d2)) (ea (Rc Zb)) ?_);refine Va ?_;refine pa ?_;refine Fa ?_;refine ui (aa (mb d4)) (fun qS=>?_) (fun rS=>?_)
 ·have TR:i<l.length:=by omega
  have UR:l[i]?=some l[i]:=List.getElem?_eq_getElem TR;obtain ⟨d,to⟩:∃ d,l[i]?=some d:=⟨_,UR⟩;have xa:at_ l (i:Int)=some d:=by simpa [at_] using to
  have X:l.take (i+1)=l.take i++[d]:=by rw [List.take_add_one,to];rfl
  have Y:Go.ec.i64 ((i:Int)+1)=some ((i:Int)+1):=if_pos (by omega);have U:=U.up N;have VR:=p.Mq;have Do:=p.Ro;have ap:=p.Zs;have WR:=p.Zw;have XR:=p.rt;cases n with
  | zero=>omega
  | succ n =>
  refine eb ?_;refine pa ?_;refine Fa ?_;refine yb ?_;refine Fa ?_;refine gb ?_;refine wl (Af (aa (mb d3)) (ea (Rc yc)) ?_);refine wl (Dg (aa (mb d5)) (ea Hc) ?_);refine Va ?_;refine pa ?_;refine Fa ?_;refine gb ?_;refine wl (Af (aa d0) (ea (Rc jc)) ?_);refine wl (Af (aa d8) (ea (Rc Cc)) ?_);obtain ⟨za,zg,sS,YR,f5,m6⟩:=ad.elem U xa;obtain ⟨Jb,hh,Kd,Xn,rfl,m9,m12⟩:=m6;refine wl (ow Tryz.underlying22 th (aa (mb d6)) (aa (mb d7)) YR (ea (Rc Hc)) ?_);refine wl (Dg (aa (mb d8)) (ea sc) ?_);refine Va ?_;refine pa ?_;refine Fa ?_;refine xm (by kernel_rfl) rfl fun V Z Gb gc lc=>?_;replace c:=c.drew Z Gb gc lc;refine cd ?_;refine Ac (i:=0) [0,1,2,3,9] (fun e Sc f g j k=>hB _ (by decide) e Sc f g j k) rfl rfl rfl (bg (aa d5)) (Rc sc) ?_;refine Ac (i:=1) [1,2,3,9] (fun e Sc f g j k=>hB _ (by decide) e Sc f g j k) rfl rfl rfl (fi (aa (mb d9))) (Uc wa) ?_;refine Ac (i:=2) [2,3,9] (fun e Sc f g j k=>hB _ (by decide) e Sc f g j k) rfl rfl rfl (Eg lB (aa (hb d0)) rfl) (Uc lb) ?_;refine ng (i:=3) [3,9] (fun e Sc f g j k=>hB _ (by decide) e Sc f g j k) rfl rfl rfl (qb Hw (aa (hb d1)) ((c.ba d3).cell d0)) (Uc xb) ?_;refine Ac (i:=4) [4,5,6,7,9] (fun e Sc f g j k=>hB _ (by decide) e Sc f g j k) rfl rfl rfl (bg (aa d9)) (Uc Ub) ?_;refine Ac (i:=5) [5,6,7,9] (fun e Sc f g j k=>hB _ (by decide) e Sc f g j k) rfl rfl rfl (fi (aa (hb d3))) (Uc Zb) ?_;refine Ac (i:=6) [6,7,9] (fun e Sc f g j k=>hB _ (by decide) e Sc f g j k) rfl rfl rfl (Eg kB (aa (hb d4)) rfl) (Uc yc) ?_;refine ng (i:=7) [7,9] (fun e Sc f g j k=>hB _ (by decide) e Sc f g j k) rfl rfl rfl (qb Ye (aa (hb d5)) ((f5 _ c.a).one d1)) (Uc jc) ?_;refine Ac (i:=8) [8,9] (fun e Sc f g j k=>hB _ (by decide) e Sc f g j k) rfl rfl rfl (bg (aa d9)) (Uc Cc) ?_;refine zj rfl rfl rfl rfl (Si rfl) (Zv (κ:=List UInt8) (β:=sa) (kk:=d.Name) (xx:=d) Tryz.underlying66 Tryz.underlying9 (aa (hb d2)) (aa (hb d6)) (aa (hb d7)) ⟨_,_,_,rfl,f5,⟨Jb,hh,Kd,Xn,rfl,m9,m12⟩⟩ c d2 VR Wa ?_);clear c;intro rc fd tS u m15 v c;cases (show _=u from v);replace c:=Sep.fg c xb;refine ⟨Ba.z,?_⟩;refine Tc ?_;refine pa ?_;refine Fa ?_;refine Fa ?_;refine gb ?_;refine wl (Af (aa d9) (ea (Uc Hc)) ?_);refine wl (aj (aa (hb d8)) (ea (Uc sc)) ?_);refine wl (Vh Ey (aa (hb d9)) rfl (ea (Xc wa)) ?_);refine wl (Yc Jd (aa (sb d0)) ((f5 _ c.a).one d0) (ea (Xc lb)) ?_);refine wl (Ql (aa (sb d1)) Pa (ea (Xc xb)) ?_);refine Va ?_;refine pa ?_;refine ui (aa (sb d2)) (fun id=>?_) (fun id=>?_)
  ·have P:¬ d.Kind=4:=by omega
   have R:∀ b:Nat,app (bb.map Jc.mk) [(⟨b⟩:Jc)]=some (bb.map Jc.mk++[⟨b⟩]):=fun b=>by
    rw [app,if_pos];simp only [List.length_map,List.length_cons,List.length_nil];omega
   have ZR:=(c.get d4).bn;refine Fa ?_;refine gb ?_;refine wl (Af (aa d9) (ea (Xc Ub)) ?_);refine wl (aj (aa (sb d3)) (ea (Xc Zb)) ?_);refine wl (Vh KL (aa (sb d4)) rfl (ea (Xc yc)) ?_);refine wl (Yc Jd (aa (sb d5)) ((f5 _ c.a).one d6) (ea (Xc jc)) ?_);refine wl (mg ON WN (Lb.o rfl (aa (sb d6)) rfl rfl wa Lb.z) (ea (Xc Cc)) ?_);refine wl (bq (aa (sb d7)) rfl c ?_);clear c;intro A uS vS c;refine pu (ea (Xc Hc)) ?_;refine wl (Dg (aa (sb d8)) (ea (Ma wa)) ?_);refine Va ?_;refine pa ?_;refine Fa ?_;refine xm (by kernel_rfl) rfl fun wS Z Gb gc lc=>?_;replace c:=c.drew Z Gb gc lc;refine cd ?_;refine Ac (i:=0) (R':=[1,2,3,4,5,6,7,8,9,10,11,12,13,14,15,16,17,18,19,20,21,22,23,24]) [0,1,2,3,19,20,21,22,23,24] (fun e Sc f g j k=>hB _ (by decide) e Sc f g j k) (by kernel_rfl) (by kernel_rfl) rfl (bg (aa d5)) (Xc sc) ?_;refine Ac (i:=1) (R':=[2,3,4,5,6,7,8,9,10,11,12,13,14,15,16,17,18,19,20,21,22,23,24]) [1,2,3,19,20,21,22,23,24] (fun e Sc f g j k=>hB _ (by decide) e Sc f g j k) (by kernel_rfl) (by kernel_rfl) rfl (fi (aa (sb d9))) (Wd wa) ?_;refine Ac (i:=2) (R':=[3,4,5,6,7,8,9,10,11,12,13,14,15,16,17,18,19,20,21,22,23,24]) [2,3,19,20,21,22,23,24] (fun e Sc f g j k=>hB _ (by decide) e Sc f g j k) (by kernel_rfl) (by kernel_rfl) rfl (Eg NL (aa (Pc d0)) rfl) (Wd lb) ?_;refine ng (i:=3) (R':=[4,5,6,7,8,9,10,11,12,13,14,15,16,17,18,19,20,21,22,23,24]) [3,19,20,21,22,23,24] (fun e Sc f g j k=>hB _ (by decide) e Sc f g j k) (by kernel_rfl) (by kernel_rfl) rfl (qb bz (aa (Pc d1)) ((c.ba d4).cell d1)) (Wd xb) ?_;refine Ac (i:=4) (R':=[5,6,7,8,9,10,11,12,13,14,15,16,17,18,19,20,21,22,23,24]) [4,5,6,7,19,20,21,22,23,24] (fun e Sc f g j k=>hB _ (by decide) e Sc f g j k) (by kernel_rfl) (by kernel_rfl) rfl (bg (aa d9)) (Wd Ub) ?_;refine Ac (i:=5) (R':=[6,7,8,9,10,11,12,13,14,15,16,17,18,19,20,21,22,23,24]) [5,6,7,19,20,21,22,23,24] (fun e Sc f g j k=>hB _ (by decide) e Sc f g j k) (by kernel_rfl) (by kernel_rfl) rfl (fi (aa (Pc d3))) (Wd Zb) ?_;refine Ac (i:=6) (R':=[7,8,9,10,11,12,13,14,15,16,17,18,19,20,21,22,23,24]) [6,7,19,20,21,22,23,24] (fun e Sc f g j k=>hB _ (by decide) e Sc f g j k) (by kernel_rfl) (by kernel_rfl) rfl (Eg kB (aa (Pc d4)) rfl) (Wd yc) ?_;refine ng (i:=7) (R':=[8,9,10,11,12,13,14,15,16,17,18,19,20,21,22,23,24]) [7,19,20,21,22,23,24] (fun e Sc f g j k=>hB _ (by decide) e Sc f g j k) (by kernel_rfl) (by kernel_rfl) rfl (qb Ye (aa (Pc d5)) ((f5 _ c.a).one d1)) (Wd jc) ?_;refine Ac (i:=8) (R':=[9,10,11,12,13,14,15,16,17,18,19,20,21,22,23,24]) [8,9,10,11,19,20,21,22,23,24] (fun e Sc f g j k=>hB _ (by decide) e Sc f g j k) (by kernel_rfl) (by kernel_rfl) rfl (bg (aa d5)) (Wd Cc) ?_;refine Ac (i:=9) (R':=[10,11,12,13,14,15,16,17,18,19,20,21,22,23,24]) [9,10,11,19,20,21,22,23,24] (fun e Sc f g j k=>hB _ (by decide) e Sc f g j k) (by kernel_rfl) (by kernel_rfl) rfl (fi (aa (Pc d7))) (Wd Hc) ?_;refine Ac (i:=10) (R':=[11,12,13,14,15,16,17,18,19,20,21,22,23,24]) [10,11,19,20,21,22,23,24] (fun e Sc f g j k=>hB _ (by decide) e Sc f g j k) (by kernel_rfl) (by kernel_rfl) rfl (Eg mF (aa (Pc d8)) rfl) (Wd sc) ?_;refine ng (i:=11) (R':=[12,13,14,15,16,17,18,19,20,21,22,23,24]) [11,19,20,21,22,23,24] (fun e Sc f g j k=>hB _ (by decide) e Sc f g j k) (by kernel_rfl) (by kernel_rfl) rfl (qb cz (aa (Pc d9)) ((c.ba d4).cell d2)) (Oe wa) ?_;refine Ac (i:=12) (R':=[13,14,15,16,17,18,19,20,21,22,23,24]) [12,13,14,15,19,20,21,22,23,24] (fun e Sc f g j k=>hB _ (by decide) e Sc f g j k) (by kernel_rfl) (by kernel_rfl) rfl (bg (aa d9)) (Oe lb) ?_;refine Ac (i:=13) [13,14,15,19,20,21,22,23,24] (fun e Sc f g j k=>hB _ (by decide) e Sc f g j k) rfl rfl rfl (fi (aa (ed d1))) (Oe xb) ?_;refine Ac (i:=14) [14,15,19,20,21,22,23,24] (fun e Sc f g j k=>hB _ (by decide) e Sc f g j k) rfl rfl rfl (Eg kB (aa (ed d2)) rfl) (Oe Ub) ?_;refine ng (i:=15) [15,19,20,21,22,23,24] (fun e Sc f g j k=>hB _ (by decide) e Sc f g j k) rfl rfl rfl (qb Ye (aa (ed d3)) ((f5 _ c.a).one d1)) (Oe Zb) ?_;refine Ac (i:=16) [16,21,22,23,24] (fun e Sc f g j k=>hB _ (by decide) e Sc f g j k) rfl rfl rfl (bg (aa (na d0))) (Oe yc) ?_;refine Ac (i:=17) [17,18,24] (fun e Sc f g j k=>hB _ (by decide) e Sc f g j k) rfl rfl rfl (bg (aa d6)) (Oe jc) ?_;refine Ac (i:=18) [18,24] (fun e Sc f g j k=>hB _ (by decide) e Sc f g j k) rfl rfl rfl (Yp Tryz.underlying71 (aa (ed d6)) ZR) (Oe Cc) ?_;refine zj rfl rfl rfl rfl (Si rfl) (tE (κ:=List UInt8) (β:=Xl) (kk:=d.Name) (z:=(.pointer none)) Tryz.underlying67 Tryz.underlying9 (Qt rfl) (aa (Pc d2)) (aa (Pc d6)) c d2 Do ?_);clear c;intro xS yS u v c;cases (show _=u from v);refine pu (ea (Oe Hc)) ?_;replace c:=Sep.fg c xb;refine ⟨Ba.z,?_⟩;refine Ac (i:=20) [20,21,22,23,24] (fun e Sc f g j k=>hB _ (by decide) e Sc f g j k) rfl rfl rfl (wy (aa (ed d8)) d1) (Oe sc) ?_;refine zj rfl rfl rfl rfl (Si rfl) (uE (κ:=List UInt8) (β:=Xl) (kk:=d.Name) (xx:=⟨some A⟩) (aa (Pc d2)) (aa (ed d9)) (aa (ed d5)) rfl c d2 Do Wa ?_);clear c;intro aS c20 zS u m21 v c;cases (show _=u from v);replace c:=Sep.fg c xb;refine ⟨Ba.z,?_⟩;refine zj rfl rfl rfl rfl (Si rfl) (tE (κ:=List UInt8) (β:=Int) (kk:=d.Name) (z:=(.int .i64 0)) Tryz.underlying68 Tryz.underlying9 (Qt rfl) (aa (ed d0)) (aa (ed d4)) c d1 ap ?_);clear c;intro AS BS u v c;cases (show _=u from v);refine pu (ea (Ag wa)) ?_;replace c:=Sep.fg c lb;refine ⟨Ba.z,?_⟩;refine Ac (i:=23) [23,24] (fun e Sc f g j k=>hB _ (by decide) e Sc f g j k) rfl rfl rfl (wy (aa (hd d0)) d1) (Ag lb) ?_;refine zj rfl rfl rfl rfl (Si rfl) (uE (κ:=List UInt8) (β:=Int) (kk:=d.Name) (xx:=((bb.map Jc.mk).length:Int)) (aa (ed d0)) (aa (hd d1)) (aa (ed d7)) rfl c d1 ap Wa ?_);clear c;intro bS c24 Yg u cS v c;cases (show _=u from v);replace c:=Sep.fg c lb;refine ⟨Ba.z,?_⟩;refine Tc ?_;refine pa ?_;refine gb ?_;refine wl (Af (aa d6) (ea (Ag xb)) ?_);refine wl (Af (aa (na d0)) (ea (Ag Ub)) ?_);refine wl (wj Tryz.underlying71 pk (Ge.s (aa (hd d3)) rfl Ge.z) rfl rfl c ?_);clear c;intro dS eS fS c;refine pu (ea (Ag Zb)) ?_;have S:Na W [.pointer (some ⟨A,0,none⟩)] [(⟨A⟩:Jc)]:=Na.one (α:=Jc) rfl;have md:=Na.app WR S (R A);refine wl (rm Tryz.underlying71 pk rfl (aa (hd d2)) (aa (hd d4)) c d6 (c.ba d0).cells S rfl (R A) (by decide) ?_);clear c;intro v28 gS u v c;cases (show _=u from v);replace c:=Sep.fg c jc;refine pu (ea (Ag yc)) ?_;replace c:=c.drop ta.z;refine wl (Dg (aa (hd d5)) (ea jc) ?_);refine Va ?_;refine pa ?_;refine Fa ?_;refine gb ?_;refine wl (Af (aa d9) (ea (Ag jc)) ?_);refine wl (aj (aa (hd d6)) (ea (Ag Cc)) ?_);refine wl (Vh Ey (aa (hd d7)) rfl (ea (Ag Hc)) ?_);refine wl (Yc Jd (aa (hd d8)) ((f5 _ c.a).one d0) (ea (Ag sc)) ?_);refine wl (Ql (aa (hd d9)) Pa (ea (Bg wa)) ?_);refine Va ?_;refine pa ?_;refine Kn (aa (ee d0)) P ?_;refine eb ?_;refine (fun h=>kd (pa h)) ?_;refine gb ?_;refine wl (br (aa (mb d3)) Pa Y (ea (Bg Cc)) ?_);refine wl (Af (aa (ee d7)) (ea (Rc Ub)) ?_);refine Va ?_;refine Ya ?_;have hu:(l.take (i+1)).foldl Sh ⟨[],[],[],[]⟩=⟨zd ((l.take i).foldl Sh ⟨[],[],[],[]⟩).D d.Name d,zd ((l.take i).foldl Sh ⟨[],[],[],[]⟩).O d.Name (bb.length:Int),((l.take i).foldl Sh ⟨[],[],[],[]⟩).bs++[⟨d.Jf,[]⟩],((l.take i).foldl Sh ⟨[],[],[],[]⟩).la⟩:=by
    rw [X,List.foldl_append];simp [Sh,Gs,Hs,id,p.Eb.len.1]
   exact ⟨n,_,_,rfl,(Gg (cb (cb (yg (Ab (Ed (cb (wh (Xb (jh (od (Wf Oa)))))))))))),⟨W,i+1,dl,is,bb++[A],zd Wi d.Name ⟨some A⟩,y++[.ba A 76 [.int .i64 d.Jf,.slice none 0 0]],rc,fd,aS,c20,bS,c24,tf++[ub A],He,v28,Yf,by rw [show ((i+1:Nat):Int)=(i:Int)+1 from rfl],⟨by simp;omega,by omega,by omega⟩,by omega,N,hu ▸ ⟨p.la,p.new,p.rt,by simpa using md,Lf.snoc ⟨none,0,rfl,Ja.nil⟩ p.Eb,m15,m21,by simpa using cS,p.Ji.put⟩,c.perm (by simp only [List.map_append,List.map_cons,List.map_nil,List.append_assoc,List.cons_append,List.nil_append];classical exact List.perm_iff_count.2 (fun x=>(by simp only [List.count_append,List.count_cons,List.count_nil];ac_rfl)))⟩,Nat.lt_succ_self _⟩
  ·refine eb ?_;refine pa ?_;refine Fa ?_;refine gb ?_;refine wl (Af (aa d9) (ea (Ag jc)) ?_);refine wl (aj (aa (hd d6)) (ea (Ag Cc)) ?_);refine wl (Vh Ey (aa (hd d7)) rfl (ea (Ag Hc)) ?_);refine wl (Yc Jd (aa (hd d8)) ((f5 _ c.a).one d0) (ea (Ag sc)) ?_);refine wl (Ql (aa (hd d9)) Pa (ea (Bg wa)) ?_);refine Va ?_;refine pa ?_;refine ui (aa (ee d0)) (fun P=>?_) (fun P=>?_)
   ·have R:∀ b:Nat,app ((is.map Bi.Ca).map Jc.mk) [(⟨b⟩:Jc)]=some ((is.map Bi.Ca).map Jc.mk++[⟨b⟩]):=fun b=>by
     rw [app,if_pos];simp only [List.length_map,List.length_cons,List.length_nil];omega
    refine gb ?_;refine wl (Af (aa d7) (ea (Bg lb)) ?_);refine wl (Af (aa d5) (ea (Bg xb)) ?_);refine wl (Af (aa d9) (ea (Bg Ub)) ?_);refine wl (Qe uL Ad (qa (aa (ee d2)) (qa (aa (ee d3)) nb)) (AK (d:=d) ⟨_,_,_,rfl,f5,⟨Jb,hh,Kd,Xn,rfl,m9,m12⟩⟩ c) ?_);clear c;rintro _ eS ⟨nd,ip,jp,K,mp,op,rfl,B,c,hS,iS,jS⟩;refine pu (ea (Bg Zb)) ?_;refine wl (wj Tryz.underlying72 cg (Ge.s (aa (ee d4)) rfl Ge.z) rfl rfl c ?_);clear c;intro dS gS fS c;refine pu (ea (Bg yc)) ?_;have S:Na nd [ub K] [(⟨K⟩:Jc)]:=Na.one (α:=Jc) rfl;have md:=Na.app (XR.up B) S (R K);refine wl (rm Tryz.underlying72 cg rfl (aa (ee d1)) (aa (ee d5)) c d8 (c.ba d0).cells S rfl (R K) (by decide) ?_);clear c;intro v28 CS u v c;cases (show _=u from v);replace c:=Sep.fg c Hc;refine pu (ea (Bg jc)) ?_;replace c:=c.drop ta.z;refine wl (Dg (aa (ee d6)) (ea Cc) ?_);refine Va ?_;refine (fun h=>kd (pa h)) ?_;refine gb ?_;refine wl (br (aa (mb d3)) Pa Y (ea (Bg Cc)) ?_);refine wl (Af (aa (ee d7)) (ea (Rc Ub)) ?_);refine Va ?_;refine Ya ?_;have hu:(l.take (i+1)).foldl Sh ⟨[],[],[],[]⟩=⟨zd ((l.take i).foldl Sh ⟨[],[],[],[]⟩).D d.Name d,((l.take i).foldl Sh ⟨[],[],[],[]⟩).O,((l.take i).foldl Sh ⟨[],[],[],[]⟩).bs,((l.take i).foldl Sh ⟨[],[],[],[]⟩).la++[Ol d]⟩:=by
     rw [X,List.foldl_append];simp [Sh,Gs,Hs,P]
    have kS:Jw nd d ⟨K,jp,ip,mp,op,.pointer (some ⟨za,zg,none⟩)⟩:=⟨We.up B ⟨_,_,_,rfl,f5,⟨Jb,hh,Kd,Xn,rfl,m9,m12⟩⟩,hS,iS,jS⟩;exact ⟨n,_,_,rfl,(Gg (cb (cb (yg (Ab (Ed (cb (wh (Xb (jh (od (Wf Oa)))))))))))),⟨nd,i+1,dl++[d],is++[⟨K,jp,ip,mp,op,.pointer (some ⟨za,zg,none⟩)⟩],bb,Wi,y,rc,fd,C,E,G,H,tf,He++[ub K],sf,v28,by rw [show ((i+1:Nat):Int)=(i:Int)+1 from rfl],⟨by omega,by simp;omega,by omega⟩,by omega,N.t B,hu ▸ ⟨by simp [p.la],Ok.snoc kS (Ok.up B p.new),by simpa using md,p.Zw.up B,p.Eb.imp fun _ _ _ q=>q.up B,m15.up B,p.Ro.up B,p.Zs.up B,p.Ji⟩,c.perm (by simp only [List.map_append,List.map_cons,List.map_nil,hr,List.flatMap_append,List.flatMap_cons,List.flatMap_nil,jw,List.append_assoc,List.cons_append,List.nil_append];classical exact List.perm_iff_count.2 (fun x=>(by simp only [List.count_append,List.count_cons,List.count_nil];ac_rfl)))⟩,Nat.lt_succ_self _⟩
   ·refine eb ?_;refine (fun h=>kd (pa h)) ?_;refine gb ?_;refine wl (br (aa (mb d3)) Pa Y (ea (Bg Cc)) ?_);refine wl (Af (aa (ee d7)) (ea (Rc Ub)) ?_);refine Va ?_;refine Ya ?_;have hu:(l.take (i+1)).foldl Sh ⟨[],[],[],[]⟩=⟨zd ((l.take i).foldl Sh ⟨[],[],[],[]⟩).D d.Name d,((l.take i).foldl Sh ⟨[],[],[],[]⟩).O,((l.take i).foldl Sh ⟨[],[],[],[]⟩).bs,((l.take i).foldl Sh ⟨[],[],[],[]⟩).la⟩:=by
     rw [X,List.foldl_append];simp [Sh,Gs,Hs,id,P]
    exact ⟨n,_,_,rfl,(Gg (cb (cb (yg (Ab (Ed (cb (wh (Xb (jh (od (Wf Oa)))))))))))),⟨W,i+1,dl,is,bb,Wi,y,rc,fd,C,E,G,H,tf,He,sf,Yf,by rw [show ((i+1:Nat):Int)=(i:Int)+1 from rfl],⟨by omega,by omega,by omega⟩,by omega,N,hu ▸ ⟨p.la,p.new,p.rt,p.Zw,p.Eb,m15,p.Ro,p.Zs,p.Ji⟩,c⟩,Nat.lt_succ_self _⟩
 ·obtain rfl:i=l.length:=by omega
  refine eg ?_;refine (fun h=>jd (jd (hg h))) ?_;rw [List.take_length] at p;exact RK _ _ _ _ _ _ _ _ _ _ _ _ _ _ _ _ _ _ _ _ _ _ _ _ _ _ _ _ _ _ _ _ _ _ _ _ _ _ _ _ _ _ _ _ _ _ _ _ _ _ _ _ _ _ _ _ _ _ _ _ _ _ _ _ _ _ _ _ _ _ _ _ _ _ _ _ _ _ _ _ _ _ _ _ _ _ _ N p c
end
end Go.Proofs.YticaondbdmcpoaaGreatDoor
set_option maxRecDepth 100000
set_option maxHeartbeats 4000000
namespace Go.Proofs.YticaondbdmcpoaaGreatDoor
open Go.Rb Go.ec Go.Y
def ym (μ:M):List Qd→List Nat→Prop
 | [],[]=>True
 | t::la,b::bs=>(∃ v0 v1 v2 v3 a c,Aa μ b 0 [v0,v1,v2,v3,.int .i64 t.state,.int .i64 t.box,.int .i64 t.Fe,.slice a t.out.length c]∧Ja μ a c t.out)∧ym μ la bs
 | _,_=>False
theorem ym.up {μ J:M}(l:ga μ J):∀ {la:List Qd}{bs:List Nat},ym μ la bs→ym J la bs
 | [],[],_=>trivial
 | t::la,b::bs,⟨⟨v0,v1,v2,v3,a,c,d,e⟩,h⟩=>⟨⟨v0,v1,v2,v3,a,c,d.up l,e.up l⟩,ym.up l h⟩
 | [],_::_,h=>h.elim
 | _::_,[],h=>h.elim
theorem CD {E:oe}{ca w:World}{La:Nat}{bb:List Nat}:∀ {la:List Qd}{L:List (pe×ze)}{rs:List kb}{μ:M},nh E μ La bb la L→ha μ ca w (Th la L++rs)→∃ J,ga μ J∧ym J la (L.map fun i=>i.1.Ca)∧ha J ca w rs
 | [],[],rs,μ,_,b=>⟨μ,ga.r,trivial,b⟩
 | t::la,i::L,rs,μ,⟨p,q,j,k⟩,b=>by
  have l:ha μ ca w (.row i.2.Yb 2 1 t.out.length i.2.qj::.ba i.1.Ca 85 [ub i.1.La,i.2.oc,i.2.kc,ub i.2.Mb,.int .i64 t.state,.int .i64 t.box,.int .i64 t.Fe,i.2.Yb]::((.row i.2.kc 83 1 ((i.1.B.drop 1).map Jc.mk).length i.2.He::(i.2.gd++i.2.Vd))++(Th la L++rs))):=b.perm (by
   simp only [Th,gr,List.append_assoc,List.cons_append];classical exact List.perm_iff_count.2 (fun x=>(by simp only [List.count_append,List.count_cons,List.count_nil];ac_rfl)))
  obtain ⟨s,a,c,qa,f,m1,g⟩:=Sep.Wk (α:=Int) l j.out rfl;rw [qa] at g;obtain ⟨u,d,m2,m⟩:=Sep.Je g;obtain ⟨n,e,m3,o⟩:=CD (nh.up (f.t d) k) (xw m);exact ⟨n,(f.t d).t e,⟨⟨_,_,_,_,a,c,m2.up e,m1.up (d.t e)⟩,m3⟩,o⟩
 | [],_::_,_,_,h,_=>h.elim
 | _::_,[],_,_,h,_=>h.elim
def um (μ:M):List Pd→List Nat→Prop
 | [],[]=>True
 | c::cs,b::bs=>(∃ a k,Aa μ b 0 [.int .i64 c.cap,.slice a c.words.length k]∧Ja μ a k c.words)∧um μ cs bs
 | _,_=>False
theorem um.up {μ J:M}(l:ga μ J):∀ {la:List Pd}{bs:List Nat},um μ la bs→um J la bs
 | [],[],_=>trivial
 | t::la,b::bs,⟨⟨a,c,d,e⟩,h⟩=>⟨⟨a,c,d.up l,e.up l⟩,um.up l h⟩
 | [],_::_,h=>h.elim
 | _::_,[],h=>h.elim
theorem DD {ca w:World}:∀ {cs:List Pd}{bb:List Nat}{Eb rs:List kb}{μ:M},Lf (Ms μ) cs bb Eb→ha μ ca w (Eb++rs)→∃ J,ga μ J∧um J cs bb∧ha J ca w rs
 | [],[],[],rs,μ,_,d=>⟨μ,ga.r,trivial,d⟩
 | c::cs,b::bb,r::Eb,rs,μ,⟨⟨a,k,g,i⟩,h⟩,d=>by
  subst g;obtain ⟨n,e,m2,j⟩:=Sep.Je d;obtain ⟨l,f,m3,m⟩:=DD (h.imp fun _ _ _ q=>q.up e) j;exact ⟨l,e.t f,⟨⟨a,k,m2.up f,i.up (e.t f)⟩,m3⟩,m⟩
 | [],[],_::_,_,_,h,_=>h.elim
 | [],_::_,_,_,_,h,_=>h.elim
 | _::_,[],_,_,_,h,_=>h.elim
 | _::_,_::_,[],_,_,h,_=>h.elim
end Go.Proofs.YticaondbdmcpoaaGreatDoor
set_option maxRecDepth 100000
set_option maxHeartbeats 20000000
namespace Go.Proofs.YticaondbdmcpoaaGreatDoor
open Go.Rb Go.ec Go.Y
theorem ym.at {μ:M}:∀ {la:List Qd}{bs:List Nat}{i:Nat}{t:Qd},ym μ la bs→la[i]?=some t→∃ b v0 v1 v2 v3 a c,bs[i]?=some b∧Aa μ b 0 [v0,v1,v2,v3,.int .i64 t.state,.int .i64 t.box,.int .i64 t.Fe,.slice a t.out.length c]∧Ja μ a c t.out
 | t::la,b::bs,0,_,⟨⟨v0,v1,v2,v3,a,c,d,f⟩,_⟩,e=>by cases e; exact ⟨b,v0,v1,v2,v3,a,c,rfl,d,f⟩
 | t::la,b::bs,i+1,_,⟨_,h⟩,e=>by
  obtain ⟨Ic,v0,v1,v2,v3,a,c,q,d,f⟩:=ym.at h (by simpa using e);exact ⟨Ic,v0,v1,v2,v3,a,c,by simpa using q,d,f⟩
 | [],[],i,_,_,e=>by simp at e
 | [],_::_,_,_,h,_=>h.elim
 | _::_,[],_,_,h,_=>h.elim
theorem ym.len {μ:M}:∀ {la:List Qd}{bs:List Nat},ym μ la bs→bs.length=la.length
 | [],[],_=>rfl
 | t::la,b::bs,⟨_,h⟩=>by simp [ym.len h]
 | [],_::_,h=>h.elim
 | _::_,[],h=>h.elim
section
variable {ca:World}{rsF:List kb}{μ:M}{w:World}{sd:Nat}{la:List Qd}{uh:List Nat}{Yf:Value}{He:List Value}{mC wn:Value}
variable {Q:Exit→Act→World→Prop}{ds:List Deferred}
theorem oJ {a0 oa a3 a4 a5 Sb Pb a9 Kd Gc a12 q hc wp r Mc u v a20 a21 a22 a23 a24 a25 a26 y a28 A B a31 C D E G H a37 K L a40 M N O P R a46 S U a49 V a51 W a53 X Y Z bb Gb a59 gc lc rc fd id md nd rd wd Fd a70 Id a72 be ce a75 a76 ge he le a80 ne Ne of wf a85 If a87 dg bi ci a91 ii a93 li pi Pi kk ok dl el nl ol pl ul a105 am a107 em a109 hm lm sm Nm fn on a116 a117 Op a119 eq Eq fr or a124 qr wr a127 Fr Or a130 a131 un Fn In co go io a138 a139 no a141 ro a143 to a145 a146 Do a148 ap ip:Value}(hB:∀ d,8≤d→Xk Q d) (kv:la.length≤4294967295) (jp:ym μ la uh) (bs:Na μ He (uh.map Jc.mk))
  (b:ha μ ca w (.row Yf 77 1 (uh.map Jc.mk).length He::.ba sd 31 [.slice none 0 0,mC,wn]::rsF))
  (cs:∀ (Rf c116 c117 es c119 gs is ls ms c124 os rs c127 us vs c130 c131:Value) (w':World) (k:Value) (l:List Value),Na μ l (la.map gi)→ha μ ca w' (.row Yf 77 1 (uh.map Jc.mk).length He::.row k 36 4 (la.map gi).length l::.ba sd 31 [k,mC,wn]::rsF)→Q .normal (F [a0,oa,ub sd,a3,a4,a5,Sb,Yf,Pb,a9,Kd,Gc,a12,q,hc,Rf,r,Mc,u,v,a20,a21,a22,a23,a24,a25,a26,y,a28,A,B,a31,C,D,E,G,H,a37,K,L,a40,M,N,O,P,R,a46,S,U,a49,V,a51,W,a53,X,Y,Z,bb,Gb,a59,gc,lc,rc,fd,id,md,nd,rd,wd,Fd,a70,Id,a72,be,ce,a75,a76,ge,he,le,a80,ne,Ne,of,wf,a85,If,a87,dg,bi,ci,a91,ii,a93,li,pi,Pi,kk,ok,dl,el,nl,ol,pl,ul,a105,am,a107,em,a109,hm,lm,sm,Nm,fn,on,c116,c117,es,c119,gs,is,ls,ms,c124,os,rs,c127,us,vs,c130,c131,un,Fn,In,co,go,io,a138,a139,no,a141,ro,a143,to,a145,a146,Do,a148,ap,ip] ds) w') :
  Ie Tryz.prog (lq ((Tryz.f9.body).getD .skip) [1,1,1,1,1,1,1,1,1,0]) Q [a0,oa,ub sd,a3,a4,a5,Sb,Yf,Pb,a9,Kd,Gc,a12,q,hc,wp,r,Mc,u,v,a20,a21,a22,a23,a24,a25,a26,y,a28,A,B,a31,C,D,E,G,H,a37,K,L,a40,M,N,O,P,R,a46,S,U,a49,V,a51,W,a53,X,Y,Z,bb,Gb,a59,gc,lc,rc,fd,id,md,nd,rd,wd,Fd,a70,Id,a72,be,ce,a75,a76,ge,he,le,a80,ne,Ne,of,wf,a85,If,a87,dg,bi,ci,a91,ii,a93,li,pi,Pi,kk,ok,dl,el,nl,ol,pl,ul,a105,am,a107,em,a109,hm,lm,sm,Nm,fn,on,a116,a117,Op,a119,eq,Eq,fr,or,a124,qr,wr,a127,Fr,Or,a130,a131,un,Fn,In,co,go,io,a138,a139,no,a141,ro,a143,to,a145,a146,Do,a148,ap,ip] ds w:=by
 refine Fa ?_;refine gb ?_;refine wl (Af (aa d7) (ea (Qb (Ma jc))) ?_);refine wl (bw Tryz.underlying72 (aa (Xa (na d6))) (b.get d0).bn (ea (Qb (Ma Cc))) ?_);refine wl (Af Pa (ea (Qb (Ma Hc))) ?_);refine Va ?_;refine pa ?_;refine yb ?_;refine Jg (15::rg 119 13) (by decide) (fun n m o=>∃ (i:Nat) (k:Value) (l:List Value),m=af (ki (te 15 (pg (pg (Sg (.i (.int .i64 (i:Int))::(Re 119 (pj 129 (af (Hk []))))))))))∧i≤la.length∧la.length<n+i∧Na μ l ((la.take i).map gi)∧ha μ ca o (.row Yf 77 1 (uh.map Jc.mk).length He::.row k 36 4 ((la.take i).map gi).length l::.ba sd 31 [k,mC,wn]::rsF)) (by rintro _ _ _ ⟨_,_,_,rfl,_⟩;rfl) (la.length+1) _ (cc (Xf (Fb (od (od (Ed (cb (Xb (yg (cc (Tg Oa))))))))))) ⟨0,_,[],rfl,by omega,by omega,Na.nil,(cv (T:=36) (n:=4) b).perm (by simp only [List.take_zero,List.map_nil,List.length_nil];classical exact List.perm_iff_count.2 (fun x=>(by simp only [List.count_append,List.count_cons,List.count_nil];ac_rfl)))⟩ ?_;clear b;rintro n _ hw o ⟨i,k,l,rfl,kw,lw,p,b⟩;refine Lg (kf (yi (Be (xg (xg (bh (bd (Ve (ak (kf (bl ic))))))))))) ?_;have hlen:=ym.len jp;refine Fa ?_;refine gb ?_;refine wl (mw (aa (Xa (na d8))) (aa (Xa (na d7))) (ea (Qb (Ma sc))) ?_);refine Va ?_;refine pa ?_;refine Fa ?_;refine ui (aa (Xa (na d9))) (fun ws=>?_) (fun xs=>?_)
 ·rw [List.length_map,hlen] at ws;have ys:i<la.length:=by omega
  obtain ⟨t,mp⟩:∃ t,la[i]?=some t:=⟨_,List.getElem?_eq_getElem ys⟩;obtain ⟨Ca,v0,v1,v2,v3,op,pp,Os,gt,it⟩:=ym.at jp mp;have lt:at_ (uh.map Jc.mk) (i:Int)=some ⟨Ca⟩:=by simp [at_,Os]
  have mt:Go.ec.i64 ((i:Int)+1)=some ((i:Int)+1):=if_pos (by omega);have sp:(la.take (i+1)).map gi=(la.take i).map gi++[gi t]:=by rw [List.take_add_one,mp,List.map_append];rfl
  have up:app ((la.take i).map gi) [(Uj.mk t.state t.box t.Fe t.out)]=some ((la.take i).map gi++[gi t]):=by
   rw [app,if_pos]
   ·rfl
   ·simp only [List.length_map,List.length_take,List.length_cons,List.length_nil];omega
  cases n with
  | zero=>omega
  | succ n =>
  refine eb ?_;refine pa ?_;refine Fa ?_;refine yb ?_;refine Fa ?_;refine gb ?_;obtain ⟨ww,ex,rx,rt,f5,m6⟩:=Row.elem (α:=Jc) (b.get d0) bs rfl lt;obtain rfl:=m6;refine wl (ow Tryz.underlying72 cg (aa (Xa (na d6))) (aa (Xa (na d8))) rt (ea (Qb (wb wa))) ?_);refine wl (Yc cg (aa (Xa (Ha d0))) ((f5 _ _ (b.get d0)).one d0) (ea (Qb (wb lb))) ?_);refine wl (Dg (aa (Xa (Ha d1))) (ea (Ma yc)) ?_);refine Va ?_;refine pa ?_;refine xm (by kernel_rfl) rfl fun o st ut wt fu=>?_;replace b:=b.drew st ut wt fu;refine cd ?_;refine Ac (i:=0) [0,1,7,8,9] (fun c Sc e f g j=>hB _ (by decide) c Sc e f g j) rfl rfl rfl (Eg iF (aa d2) rfl) (Qb (wb xb)) ?_;refine ng (i:=1) [1,7,8,9] (fun c Sc e f g j=>hB _ (by decide) c Sc e f g j) rfl rfl rfl (qb pq (aa (Xa (Ha d2))) ((b.ba d2).cell d0)) (Qb (wb Ub)) ?_;refine Ac (i:=2) [2,3,4,5,6,7,8,9] (fun c Sc e f g j=>hB _ (by decide) c Sc e f g j) rfl rfl rfl (bg (aa (na d5))) (Qb (wb Zb)) ?_;refine Ac (i:=3) [3,4,5,6,7,8,9] (fun c Sc e f g j=>hB _ (by decide) c Sc e f g j) rfl rfl rfl (fi (aa (Xa (Ha d4)))) (Qb (wb yc)) ?_;refine Ac (i:=4) [4,5,6,7,8,9] (fun c Sc e f g j=>hB _ (by decide) c Sc e f g j) rfl rfl rfl (Eg av (aa (Xa (Ha d5))) rfl) (Qb (wb jc)) ?_;refine ng (i:=5) [5,6,7,8,9] (fun c Sc e f g j=>hB _ (by decide) c Sc e f g j) rfl rfl rfl (Jh Tl (aa (Xa (Ha d6))) ((gt _ b.a).Xg 4 4) rfl) (Qb (wb Cc)) ?_;refine zj rfl rfl rfl rfl (Si rfl) (ar Tryz.underlying28 Tl rfl (aa (Xa (Ha d7))) rfl b ?_);clear b;intro za xx zx b;refine pu (ea (Qb (wb Hc))) ?_;refine ⟨(Ba.s (qb pq (aa (Xa (Ha d2))) ((b.ba d3).cell d0)) Ba.z),?_⟩;have m5:Na μ [.int .i64 t.state,.int .i64 t.box,.int .i64 t.Fe,.slice op t.out.length pp] [(Uj.mk t.state t.box t.Fe t.out)]:=(Na.one (α:=Uj) (⟨op,pp,rfl,it⟩));have m4:=Na.app p m5 up;refine zj rfl rfl rfl rfl (Si rfl) (rm Tryz.underlying28 Tl rfl (aa (Xa (Ha d3))) (aa (Xa (Ha d8))) b d2 (b.ba d0).cells m5 rfl up (by decide) ?_);clear b;intro v3 ty hu bv b;cases (show _=hu from bv);replace b:=Sep.fg b xb;refine pu (ea (Qb (wb sc))) ?_;replace b:=b.drop ta.z;refine ⟨Ba.z,?_⟩;refine Ac (i:=8) [8,9] (fun c Sc e f g j=>hB _ (by decide) c Sc e f g j) rfl rfl rfl (Eg iF (aa d2) rfl) (Qb (Rc wa)) ?_;refine zj rfl rfl rfl rfl (Si rfl) (ud pq (aa (Xa (mb d0))) (aa (Xa (Ha d9))) (b.get d1).Kg b d2 wa rfl xb Wa ?_);clear b;intro sz b;refine ⟨Ba.z,?_⟩;refine Tc ?_;refine (fun h=>kd (pa h)) ?_;refine gb ?_;refine wl (br (aa (Xa (na d8))) Pa mt (ea (Qb (Rc lb))) ?_);refine wl (Af (aa (Xa (mb d1))) (ea (Qb (Ma Hc))) ?_);refine Va ?_;refine Ya ?_;exact ⟨n,_,_,rfl,(cc (Xf (Fb (od (od (Ed (cb (Xb (yg (cc (Tg Oa))))))))))),⟨i+1,_,_,by rw [show ((i+1:Nat):Int)=(i:Int)+1 from rfl],by omega,by omega,sp ▸ m4,sp ▸ b⟩,Nat.lt_succ_self _⟩
 ·rw [List.length_map,hlen] at xs;obtain rfl:i=la.length:=by omega
  refine eg ?_;refine (fun h=>jd (jd (hg h))) ?_;rw [List.take_length] at p b;exact cs _ _ _ _ _ _ _ _ _ _ _ _ _ _ _ _ _ _ _ _ p b
end
end Go.Proofs.YticaondbdmcpoaaGreatDoor
set_option maxRecDepth 100000
set_option maxHeartbeats 20000000
namespace Go.Proofs.YticaondbdmcpoaaGreatDoor
open Go.Rb Go.ec Go.Y
theorem um.at {μ:M}:∀ {la:List Pd}{bs:List Nat}{i:Nat}{t:Pd},um μ la bs→la[i]?=some t→∃ b a c,bs[i]?=some b∧Aa μ b 0 [.int .i64 t.cap,.slice a t.words.length c]∧Ja μ a c t.words
 | t::la,b::bs,0,_,⟨⟨a,c,d,f⟩,_⟩,e=>by cases e; exact ⟨b,a,c,rfl,d,f⟩
 | t::la,b::bs,i+1,_,⟨_,h⟩,e=>by
  obtain ⟨Ic,a,c,q,d,f⟩:=um.at h (by simpa using e);exact ⟨Ic,a,c,by simpa using q,d,f⟩
 | [],[],i,_,_,e=>by simp at e
 | [],_::_,_,_,h,_=>h.elim
 | _::_,[],_,_,h,_=>h.elim
theorem um.len {μ:M}:∀ {la:List Pd}{bs:List Nat},um μ la bs→bs.length=la.length
 | [],[],_=>rfl
 | t::la,b::bs,⟨_,h⟩=>by simp [um.len h]
 | [],_::_,h=>h.elim
 | _::_,[],h=>h.elim
section
variable {ca:World}{rsF:List kb}{μ:M}{w:World}{sd:Nat}{bs:List Pd}{bb:List Nat}{sf:Value}{tf:List Value}{wt wn:Value}
variable {Q:Exit→Act→World→Prop}{ds:List Deferred}
theorem pJ {a0 oa a3 a4 a5 Jb Pb a9 Kd Gc a12 C hc D E Mc G H a20 a21 a22 a23 a24 a25 a26 K a28 L N a31 O P R S U a37 V W a40 X Y Z Gb gc a46 lc rc a49 fd a51 id a53 md nd rd wd Fd a59 Id be ce ge he le ne Ne of wf a70 If a72 dg bi a75 a76 ci ii li a80 pi Pi kk ok a85 dl a87 el nl ol a91 pl a93 ul am em hm lm sm Nm fn on un Fn a105 In a107 co a109 go io no ro to Do a116 a117 ap a119 ip jp mp op a124 pp sp a127 wp Op a130 a131 cs es gs is ls ms a138 a139 os a141 rs a143 us a145 a146 vs a148 eq Eq:Value}(hB:∀ d,8≤d→Xk Q d) (WP:bs.length≤4294967295) (hw:∀ c ∈ bs,c.words.length≤4294967295) (fr:um μ bs bb) (ws:Na μ tf (bb.map Jc.mk))
  (b:ha μ ca w (.row sf 74 1 (bb.map Jc.mk).length tf::.ba sd 31 [wt,.slice none 0 0,wn]::rsF))
  (xs:∀ (ys Os gt it lt mt rt c138 c139 st c141 ut c143 fu c145 c146 hu c148:Value) (J:M) (w':World) (o:Value) (p:List Value),ga μ J→Na J p (bs.map Pd.words)→ha J ca w' (.row sf 74 1 (bb.map Jc.mk).length tf::.row o 34 1 (bs.map Pd.words).length p::.ba sd 31 [wt,o,wn]::rsF)→Q .normal (F [a0,oa,ub sd,a3,a4,a5,sf,Jb,Pb,a9,Kd,Gc,a12,C,hc,D,E,ys,G,H,a20,a21,a22,a23,a24,a25,a26,K,a28,L,N,a31,O,P,R,S,U,a37,V,W,a40,X,Y,Z,Gb,gc,a46,lc,rc,a49,fd,a51,id,a53,md,nd,rd,wd,Fd,a59,Id,be,ce,ge,he,le,ne,Ne,of,wf,a70,If,a72,dg,bi,a75,a76,ci,ii,li,a80,pi,Pi,kk,ok,a85,dl,a87,el,nl,ol,a91,pl,a93,ul,am,em,hm,lm,sm,Nm,fn,on,un,Fn,a105,In,a107,co,a109,go,io,no,ro,to,Do,a116,a117,ap,a119,ip,jp,mp,op,a124,pp,sp,a127,wp,Op,a130,a131,Os,gt,it,lt,mt,rt,c138,c139,st,c141,ut,c143,fu,c145,c146,hu,c148,eq,Eq] ds) w') :
  Ie Tryz.prog (lq ((Tryz.f9.body).getD .skip) [1,1,1,1,1,1,1,1,1,1,0]) Q [a0,oa,ub sd,a3,a4,a5,sf,Jb,Pb,a9,Kd,Gc,a12,C,hc,D,E,Mc,G,H,a20,a21,a22,a23,a24,a25,a26,K,a28,L,N,a31,O,P,R,S,U,a37,V,W,a40,X,Y,Z,Gb,gc,a46,lc,rc,a49,fd,a51,id,a53,md,nd,rd,wd,Fd,a59,Id,be,ce,ge,he,le,ne,Ne,of,wf,a70,If,a72,dg,bi,a75,a76,ci,ii,li,a80,pi,Pi,kk,ok,a85,dl,a87,el,nl,ol,a91,pl,a93,ul,am,em,hm,lm,sm,Nm,fn,on,un,Fn,a105,In,a107,co,a109,go,io,no,ro,to,Do,a116,a117,ap,a119,ip,jp,mp,op,a124,pp,sp,a127,wp,Op,a130,a131,cs,es,gs,is,ls,ms,a138,a139,os,a141,rs,a143,us,a145,a146,vs,a148,eq,Eq] ds w:=by
 refine Fa ?_;refine gb ?_;refine wl (Af (aa d6) (ea (Qb (Rc xb))) ?_);refine wl (bw Tryz.underlying71 (aa (Xa (mb d2))) (b.get d0).bn (ea (Qb (Rc Ub))) ?_);refine wl (Af Pa (ea (Qb (Rc Zb))) ?_);refine Va ?_;refine pa ?_;refine yb ?_;refine Jg (17::rg 135 14) (by decide) (fun n m u=>∃ (i:Nat) (J:M) (o:Value) (p:List Value),m=af (ki (Sg (te 17 (pg (pg (af (ki (Fi (.i (.int .i64 (i:Int))::(Re 135 (Rk 145 (Sg []))))))))))))∧i≤bs.length∧bs.length<n+i∧ga μ J∧Na J p ((bs.take i).map Pd.words)∧ha J ca u (.row sf 74 1 (bb.map Jc.mk).length tf::.row o 34 1 ((bs.take i).map Pd.words).length p::.ba sd 31 [wt,o,wn]::rsF)) (by rintro _ _ _ ⟨_,_,_,_,rfl,_⟩;rfl) (bs.length+1) _ (cc (Xf (Ed (Fb (od (od (cc (Xf (Gf (cb (Xb (jh (Ed Oa))))))))))))) ⟨0,μ,_,[],rfl,by omega,by omega,ga.r,Na.nil,(cv (T:=34) (n:=1) b).perm (by simp only [List.take_zero,List.map_nil,List.length_nil];classical exact List.perm_iff_count.2 (fun x=>(by simp only [List.count_append,List.count_cons,List.count_nil];ac_rfl)))⟩ ?_;clear b;rintro n _ EQ u ⟨i,J,o,p,rfl,GQ,HQ,q,v,b⟩;refine Lg (kf (yi (bh (Be (xg (xg (kf (yi (fj (bd (Ve (sl (bh ic))))))))))))) ?_;have bv:=fr.up q;have kv:=ws.up q;have hlen:=um.len fr;refine Fa ?_;refine gb ?_;refine wl (mw (aa (Xa (mb d4))) (aa (Xa (mb d3))) (ea (Qb (Rc yc))) ?_);refine Va ?_;refine pa ?_;refine Fa ?_;refine ui (aa (Xa (mb d5))) (fun kw=>?_) (fun lw=>?_)
 ·rw [List.length_map,hlen] at kw;have ww:i<bs.length:=by omega
  obtain ⟨x,y⟩:∃ x,bs[i]?=some x:=⟨_,List.getElem?_eq_getElem ww⟩;obtain ⟨ex,IQ,JQ,rx,xx,zx⟩:=um.at bv y;have ty:at_ (bb.map Jc.mk) (i:Int)=some ⟨ex⟩:=by simp [at_,rx]
  have Rz:Go.ec.i64 ((i:Int)+1)=some ((i:Int)+1):=if_pos (by omega);have or:(bs.take (i+1)).map Pd.words=(bs.take i).map Pd.words++[x.words]:=by rw [List.take_add_one,y,List.map_append];rfl
  have qr:app ((bs.take i).map Pd.words) [x.words]=some ((bs.take i).map Pd.words++[x.words]):=by
   rw [app,if_pos];simp only [List.length_map,List.length_take,List.length_cons,List.length_nil];omega
  have wr:app ([]:List Int) x.words=some x.words:=by
   rw [app,if_pos]
   ·rfl
   ·have:=hw x (List.mem_iff_getElem?.2 ⟨i,y⟩);simp only [List.length_nil];omega
  cases n with
  | zero=>omega
  | succ n =>
  refine eb ?_;refine pa ?_;refine Fa ?_;refine yb ?_;refine Fa ?_;refine gb ?_;obtain ⟨KQ,LQ,MQ,AC,f5,m6⟩:=Row.elem (α:=Jc) (b.get d0) kv rfl ty;obtain rfl:=m6;refine wl (ow Tryz.underlying71 pk (aa (Xa (mb d2))) (aa (Xa (mb d4))) AC (ea (Qb (Rc jc))) ?_);refine wl (Yc pk (aa (Xa (mb d6))) ((f5 _ _ (b.get d0)).one d0) (ea (Qb (Rc Cc))) ?_);refine wl (Dg (aa (Xa (mb d7))) (ea (Ma Cc)) ?_);refine Va ?_;refine pa ?_;refine xm (by kernel_rfl) rfl fun u GE LE NE WF=>?_;replace b:=b.drew GE LE NE WF;refine cd ?_;refine Ac (i:=0) [0,1,8,9,10] (fun f Sc g j k l=>hB _ (by decide) f Sc g j k l) rfl rfl rfl (Eg jF (aa d2) rfl) (Qb (Rc Hc)) ?_;refine ng (i:=1) [1,8,9,10] (fun f Sc g j k l=>hB _ (by decide) f Sc g j k l) rfl rfl rfl (qb Wt (aa (Xa (mb d8))) ((b.ba d2).cell d1)) (Qb (Rc sc)) ?_;refine Ac (i:=2) [2,3,4,5,6,7,8,9,10] (fun f Sc g j k l=>hB _ (by decide) f Sc g j k l) rfl rfl rfl (bg (aa (na d7))) (Qb (Uc wa)) ?_;refine Ac (i:=3) [3,4,5,6,7,8,9,10] (fun f Sc g j k l=>hB _ (by decide) f Sc g j k l) rfl rfl rfl (fi (aa (Xa (hb d0)))) (Qb (Uc lb)) ?_;refine Ac (i:=4) [4,5,6,7,8,9,10] (fun f Sc g j k l=>hB _ (by decide) f Sc g j k l) rfl rfl rfl (Eg nF (aa (Xa (hb d1))) rfl) (Qb (Uc xb)) ?_;refine ng (i:=5) [5,6,7,8,9,10] (fun f Sc g j k l=>hB _ (by decide) f Sc g j k l) rfl rfl rfl (qb Vj (aa (Xa (hb d2))) ((xx _ b.a).one d1)) (Qb (Uc Ub)) ?_;replace b:=b.Ml 2 (ab.sz Int);obtain ⟨NQ,m5,m6⟩:=Ja.cells zx;have m3:=Na.app (Na.nil (α:=Int) (μ:=J)) m5 wr;refine zj rfl rfl rfl rfl (Si rfl) (dB Tryz.underlying34 sg rfl Pa (aa (Xa (hb d3))) b d0 (fun e=>(m6 e)) m5 wr (by decide) ?_);clear b;intro v2 OQ A B b;cases (show _=A from B);replace b:=Sep.fg b wa;refine pu (ea (Qb (Uc Zb))) ?_;refine ⟨(Ba.s (qb Wt (aa (Xa (mb d8))) ((b.ba d3).cell d1)) Ba.z),?_⟩;obtain ⟨RK,Jb,hh,PP,Fr,m9,Or⟩:=Sep.Wk b m3 rfl;clear b;subst PP;have b:=Or;clear Or;refine zj rfl rfl rfl rfl (Si rfl) (wj Tryz.underlying29 Vj (Ge.s (aa (Xa (hb d4))) rfl Ge.z) rfl rfl b ?_);clear b;intro vd PQ QQ b;refine pu (ea (Qb (Uc yc))) ?_;refine ⟨(Ba.s (qb Wt (aa (Xa (mb d8))) ((b.ba d3).cell d1)) Ba.z),?_⟩;have m16:Na RK [.slice Jb x.words.length hh] [x.words]:=(Na.one (α:=List Int) (⟨Jb,hh,rfl,m9⟩));have m15:=Na.app (v.up Fr) m16 qr;refine zj rfl rfl rfl rfl (Si rfl) (rm Tryz.underlying29 Vj rfl (aa (Xa (mb d9))) (aa (Xa (hb d5))) b d2 (b.ba d0).cells m16 rfl qr (by decide) ?_);clear b;intro RQ SQ A B b;cases (show _=A from B);replace b:=Sep.fg b xb;refine pu (ea (Qb (Uc jc))) ?_;replace b:=b.drop ta.z;refine ⟨Ba.z,?_⟩;refine Ac (i:=9) [9,10] (fun f Sc g j k l=>hB _ (by decide) f Sc g j k l) rfl rfl rfl (Eg jF (aa d2) rfl) (Qb (Uc Cc)) ?_;refine zj rfl rfl rfl rfl (Si rfl) (ud Wt (aa (Xa (hb d7))) (aa (Xa (hb d6))) (b.get d1).Kg b d2 lb rfl xb Wa ?_);clear b;intro TQ b;refine ⟨Ba.z,?_⟩;refine Tc ?_;refine (fun h=>kd (pa h)) ?_;refine gb ?_;refine wl (br (aa (Xa (mb d4))) Pa Rz (ea (Qb (Uc Hc))) ?_);refine wl (Af (aa (Xa (hb d8))) (ea (Qb (Rc Zb))) ?_);refine Va ?_;refine Ya ?_;exact ⟨n,_,_,rfl,(cc (Xf (Ed (Fb (od (od (cc (Xf (Gf (cb (Xb (jh (Ed Oa))))))))))))),⟨i+1,_,_,_,by rw [show ((i+1:Nat):Int)=(i:Int)+1 from rfl],by omega,by omega,q.t Fr,or ▸ m15,or ▸ b⟩,Nat.lt_succ_self _⟩
 ·rw [List.length_map,hlen] at lw;obtain rfl:i=bs.length:=by omega
  refine eg ?_;refine (fun h=>jd (jd (hg h))) ?_;rw [List.take_length] at v b;exact xs _ _ _ _ _ _ _ _ _ _ _ _ _ _ _ _ _ _ _ _ _ _ q v b
end
end Go.Proofs.YticaondbdmcpoaaGreatDoor
set_option maxRecDepth 100000
set_option maxHeartbeats 20000000
namespace Go.Proofs.YticaondbdmcpoaaGreatDoor
open Go.Rb Go.ec Go.Y
theorem Yz {fu:Nat}{I:M}{ca w:World}{rsF:List kb}(gc:ga ke I){p_1:List sa}{oa:Option Addr}{c2:Nat}{r:er×df}(m3:Ja I oa c2 p_1) (h:ep fu p_1=some r) (b:ha I ca w (rsF)):wc Tryz.prog 9 [.slice oa p_1.length c2] w (fun v w'=>∃ (J:M) (a4:Option Addr) (c5:Nat) (Jb:Option Addr) (hh:Nat),v=.tuple ⟨[.agg ⟨[.slice a4 r.1.Ym.length c5,.slice Jb r.1.hq.length hh,.int .i64 r.1.Steps]⟩,.agg ⟨[.int .i64 r.2.Hg,.int .i64 r.2.Aa]⟩]⟩∧ga I J∧ha J ca w' (rsF)∧Ja J a4 c5 r.1.Ym∧Ja J Jb hh r.1.hq):=by
 unfold ep at h;replace h:=ua h;obtain ⟨f,lc,h⟩:=h;refine UJ Tryz.func9 rfl (frm:=[.slice oa p_1.length c2,_,_,_,_,_,_,_,_,_,_,_,_,_,_,_,_,_,_,_,_,_,_,_,_,_,_,_,_,_,_,_,_,_,_,_,_,_,_,_,_,_,_,_,_,_,_,_,_,_,_,_,_,_,_,_,_,_,_,_,_,_,_,_,_,_,_,_,_,_,_,_,_,_,_,_,_,_,_,_,_,_,_,_,_,_,_,_,_,_,_,_,_,_,_,_,_,_,_,_,_,_,_,_,_,_,_,_,_,_,_,_,_,_,_,_,_,_,_,_,_,_,_,_,_,_,_,_,_,_,_,_,_,_,_,_,_,_,_,_,_,_,_,_,_,_,_,_,_,_,_]) rfl ?_;refine Fa ?_;refine gb ?_;refine wl (pd Zk b ?_);clear b;intro sd N io b;refine pu (ea xb) ?_;refine wl (pd Gd b ?_);clear b;intro Nb O no b;refine pu (ea Ub) ?_;refine Va ?_;refine pa ?_;refine Fa ?_;refine Fa ?_;refine gb ?_;refine wl (Af (aa d0) (ea (Ma Hc)) ?_);refine wl (Qe aN Ad (qa (aa (na d8)) nb) (JG gc m3 lc b) ?_);rintro _ P ⟨rc,rfl,n,b⟩;refine pu (ea (Ma sc)) ?_;refine wl (pd Gd b ?_);clear b;intro ro to Do b;refine pu (ea Zb) ?_;refine wl (zc Gd (aa d4) (aa (na d9)) rfl rfl b d0 rfl wa Wa ?_);clear b;intro Go b;refine Va ?_;refine pa ?_;refine Fa ?_;refine gb ?_;refine wl (Vh IL (aa d4) rfl (ea (wb wa)) ?_);refine wl (Yc az (aa (Ha d0)) ((b.ba d0).cell d0) (ea (wb lb)) ?_);refine wl (NM (aa (Ha d1)) Pa (ea (wb xb)) ?_);refine Va ?_;refine pa ?_;refine ui (aa (Ha d2)) (fun y=>?_) (fun y=>?_)
 ·rw [if_pos y] at h;obtain rfl:=rb h;refine Fa ?_;refine xm (by kernel_rfl) rfl fun N A B C D=>?_;replace b:=b.drew A B C D;refine cd ?_;refine ng (i:=0) [0,2,3] (fun _ _ _ _ _ h=>cu rfl h) rfl rfl rfl (Jh Zk (aa d2) (b.ba d2).cells rfl) (wb Ub) ?_;refine ng (i:=1) [1,3] (fun _ _ _ _ _ h=>cu rfl h) rfl rfl rfl (Jh Gd (aa d4) (b.ba d0).cells rfl) (wb Zb) ?_;refine zj rfl rfl rfl rfl (Si rfl) (zc Zk (aa d2) (aa (Ha d3)) rfl rfl b d2 rfl xb Wa ?_);clear b;intro O b;refine ⟨(Ba.s (Jh Gd (aa d4) (b.ba d0).cells rfl) Ba.z),?_⟩;refine zj rfl rfl rfl rfl (Si rfl) (zc Gd (aa d3) (aa (Ha d4)) rfl rfl b d1 rfl lb Wa ?_);clear b;intro P b;refine ⟨Ba.z,?_⟩;refine Tc ?_;refine pa ?_;refine Ka ?_;refine Ta ?_;refine iG ?_;refine cq rfl (Cb.s (.a d2 Zk (b.ba d2).cells rfl) (Cb.s (.a d3 Gd (b.ba d1).cells rfl) Cb.z)) ?_;replace b:=((b.drop ta.z).drop ta.z).drop ta.z;exact ⟨rc,none,0,none,0,rfl,n,b,Ja.nil,Ja.nil⟩
 rw [if_neg y] at h;rcases Nat.lt_or_ge 4294967295 p_1.length with ia | ia
 ·rw [if_neg (by omega)] at h;cases h
 rw [if_pos ia] at h;replace h:=ua h;obtain ⟨ap,Q,h⟩:=h;replace b:=b.drop ta.z;refine eb ?_;refine pa ?_;refine Fa ?_;refine gb ?_;refine wl (kL nb (qa (aa d2) (qa (aa d3) nb)) (ea (wb yc)) ?_);refine wl (aw (aa (Ha d5)) nb Wa ?_);refine Va ?_;refine pa ?_;refine Fa ?_;refine gb ?_;refine wl (Um b ?_);clear b;intro So ip jp b;refine pu (ea (wb jc)) ?_;refine wl (Um b ?_);clear b;intro To mp op b;refine pu (ea (wb Cc)) ?_;refine wl (Um b ?_);clear b;intro Uo Yg pp b;refine pu (ea (wb Hc)) ?_;refine wl (mg NN VN (Lb.o rfl (aa (Ha d6)) rfl rfl wa (Lb.o rfl (aa (Ha d7)) rfl rfl lb (Lb.o rfl (aa (Ha d8)) rfl rfl xb (Lb.o rfl Pa rfl rfl Ub Lb.z)))) (ea (wb sc)) ?_);refine wl (bq (aa (Ha d9)) rfl b ?_);clear b;intro La sp wp b;refine pu (ea (Rc wa)) ?_;refine wl (Dg (aa (mb d0)) (ea yc) ?_);refine Va ?_;refine pa ?_;refine Fa ?_;refine gb ?_;refine wl (Dg Pa (ea jc) ?_);refine Va ?_;refine pa ?_;refine Fa ?_;refine gb ?_;refine wl (Dg Pa (ea Cc) ?_);refine Va ?_;refine pa ?_;refine Fa ?_;refine nJ (hB:=fun d xa _ _ _ _ _ h=>cu (d:=d) (by show ([2,3]:List Nat).contains d=false;simp;omega) h) ia (m3.up n) (b.perm (rs':=.map Uo [] 0::.map To [] 0::.map So [] 0::.ba La 70 [.map (some So),.map (some To),.map (some Uo),.int .i64 0]::.ba Nb 26 [.int .i64 0,.int .i64 0]::.ba sd 31 [.slice none 0 0,.slice none 0 0,.int .i64 0]::rsF) (by classical exact List.perm_iff_count.2 (fun x=>(by simp only [List.count_append,List.count_cons,List.count_nil];ac_rfl)))) ?_;clear b;intro Op eq Eq fr or qr wr Fr Or cs ds es gs ls ms os rs us vs ws xs ys Os gt it lt mt st ut wt hu bv kv hw kw lw ww ex rx xx zx ty sz Rz AC GE LE NE WF RK PP WP EQ GQ HQ IQ JQ KQ LQ MQ NQ OQ PQ QQ RQ SQ TQ UQ VQ WQ XQ YQ dl is bb Wi E ZQ Ci aR bR cR dR tf He sf Yf R g b;obtain ⟨eR,F,fd,b⟩:=Sep.Io b g.Zs;obtain ⟨fR,G,id,b⟩:=Sep.Io b (g.Ro.up F);obtain ⟨rd,H,wd,b⟩:=Sep.Io b (g.Mq.up (F.t G));have k:=F.t (G.t H);have p:Er (Uf p_1).env rd La bb (is.map Bi.Ca) (Uf p_1).la (Uf p_1).bs 0 ⟨So,To,Uo,Wi,.nilFunc,.slice none 0 0,.slice none 0 0,0,[],[],[],[],E⟩ (is.map fun i=>(pv La bb i,ov i)):=by
  refine ⟨⟨by omega,by omega,wd,id.up H,fd.up (G.t H),g.Ji.Ji,g.Eb.imp fun _ _ _ q=>q.up k⟩,?_,?_⟩
  ·rw [g.la];exact (g.new.up k).all
  ·rw [List.map_map];rfl
 have j:=Ok.res (bb:=bb) (g.new.up k) (b.perm (rs':=hr La is++(.row Yf 77 1 ((is.map Bi.Ca).map Jc.mk).length He::.row sf 74 1 (bb.map Jc.mk).length tf::.ba La 70 [.map (some So),.map (some To),.map (some Uo),.int .i64 0]::(E++(.ba Nb 26 [.int .i64 0,.int .i64 0]::.ba sd 31 [.slice none 0 0,.slice none 0 0,.int .i64 0]::rsF)))) (by classical exact List.perm_iff_count.2 (fun x=>(by simp only [List.count_append,List.count_cons,List.count_nil];ac_rfl))));rw [← g.la] at j;have S:=j.perm (rs':=.row Yf 77 1 ((is.map Bi.Ca).map Jc.mk).length He::.row sf 74 1 (bb.map Jc.mk).length tf::nj La 0 ⟨So,To,Uo,Wi,.nilFunc,.slice none 0 0,.slice none 0 0,0,[],[],[],[],E⟩ (Uf p_1).la (is.map fun i=>(pv La bb i,ov i)) (.ba Nb 26 [.int .i64 0,.int .i64 0]::.ba sd 31 [.slice none 0 0,.slice none 0 0,.int .i64 0]::rsF)) (by simp only [nj,kq,List.cons_append,List.append_assoc];classical exact List.perm_iff_count.2 (fun x=>(by simp only [List.count_append,List.count_cons,List.count_nil];ac_rfl)));clear b j;refine pa ?_;refine Fa ?_;refine yI Q p (g.Zw.up k) (g.rt.up k) S ?_ ?_
 rotate_left
 ·intro Fd Id be ce ge le ne Ne of wf If dg rg bi ci ii e he;subst e;obtain ⟨T,K,b⟩:=he;obtain rfl:=rb h;refine iO gF (mJ (b.perm (by classical exact List.perm_iff_count.2 (fun x=>(by simp only [List.count_append,List.count_cons,List.count_nil];ac_rfl))))) ?_;intro li b;refine cq rfl (Cb.s (.a d2 Zk (b.ba d0).cells rfl) (Cb.s (.a d3 Gd (b.ba d1).cells rfl) Cb.z)) ?_;replace b:=(b.drop ta.z).drop ta.z;exact ⟨T,none,0,none,0,rfl,n.t (R.t (k.t K)),b,Ja.nil,Ja.nil⟩
 clear S p;intro Fd Id be ce ge le ne Ne of wf If dg rg bi ci ii la bs nd T l U e K p b;subst e;unfold eA at h;simp only at h;have hlen:la.length≤4294967295∧bs.length≤4294967295∧(bs.all fun c=>decide (c.words.length≤4294967295))=true:=Decidable.byContradiction fun hlen=>by
  rw [if_neg hlen] at h;cases h
 rw [if_pos hlen] at h;obtain ⟨pi,Pi,kk⟩:=hlen;obtain rfl:=rb h;clear h Q;refine pa ?_;refine Fa ?_;obtain ⟨ok,el,nl⟩:=p;have j:=b.perm (rs':=.ba La 70 [.map (some l.md),.map (some l.vc),.map (some l.fb),.int .i64 nd]::.ba sd 31 [.slice none 0 0,.slice none 0 0,.int .i64 0]::(Th la U++(l.Eb++(.row Yf 77 1 ((is.map Bi.Ca).map Jc.mk).length He::.row sf 74 1 (bb.map Jc.mk).length tf::.ba Nb 26 [.int .i64 0,.int .i64 0]::rsF)))) (by simp only [nj,kq,List.cons_append,List.append_assoc];classical exact List.perm_iff_count.2 (fun x=>(by simp only [List.count_append,List.count_cons,List.count_nil];ac_rfl)));clear b;have b:=j;clear j;refine gb ?_;refine wl (Af (aa d5) (ea (Qb (Ma lb))) ?_);refine wl (aj (aa (Xa (na d1))) (ea (Qb (Ma xb))) ?_);refine wl (Vh Fy (aa (Xa (na d2))) rfl (ea (Qb (Ma Ub))) ?_);refine wl (Yc Jd (aa (Xa (na d3))) ((b.ba d0).cell d3) (ea (Qb (Ma Zb))) ?_);refine wl (Vh JL (aa d2) rfl (ea (Qb (Ma yc))) ?_);refine wl (ud Jd (aa (Xa (na d5))) (aa (Xa (na d4))) rfl b d1 xb rfl lb Wa ?_);clear b;intro li b;refine Va ?_;refine pa ?_;have j:=(b.drop ta.z).perm (rs':=Th la U++(l.Eb++(.row Yf 77 1 ((is.map Bi.Ca).map Jc.mk).length He::.row sf 74 1 (bb.map Jc.mk).length tf::.ba sd 31 [.slice none 0 0,.slice none 0 0,.int .i64 nd]::.ba Nb 26 [.int .i64 0,.int .i64 0]::rsF))) (by classical exact List.perm_iff_count.2 (fun x=>(by simp only [List.count_append,List.count_cons,List.count_nil];ac_rfl)));clear b;obtain ⟨gR,V,ol,b⟩:=CD el j;clear j;obtain ⟨hR,W,pl,b⟩:=DD (ok.Eb.imp fun _ _ _ q=>q.up V) b;have L:=K.t (V.t W);have ul:=(g.rt.up k).up L;have am:=(g.Zw.up k).up L;refine Fa ?_;refine oJ (hB:=fun d xa _ _ _ _ _ h=>cu (d:=d) (by show ([2,3]:List Nat).contains d=false;simp;omega) h) pi (by rw [nl];exact ol.up W) ul (b.perm (rs':=.row Yf 77 1 ((is.map Bi.Ca).map Jc.mk).length He::.ba sd 31 [.slice none 0 0,.slice none 0 0,.int .i64 nd]::.row sf 74 1 (bb.map Jc.mk).length tf::.ba Nb 26 [.int .i64 0,.int .i64 0]::rsF) (by classical exact List.perm_iff_count.2 (fun x=>(by simp only [List.count_append,List.count_cons,List.count_nil];ac_rfl)))) ?_;clear b;intro Rf c116 c117 iR c119 jR kR lR mR c124 nR oR c127 pR qR c130 c131 rR u X em b;refine pa ?_;refine Fa ?_;refine pJ (hB:=fun d xa _ _ _ _ _ h=>cu (d:=d) (by show ([2,3]:List Nat).contains d=false;simp;omega) h) Pi (fun c hm=>by simpa using (List.all_eq_true.1 kk) c hm) pl am (b.perm (rs':=.row sf 74 1 (bb.map Jc.mk).length tf::.ba sd 31 [u,.slice none 0 0,.int .i64 nd]::.row u 36 4 (la.map gi).length X::.row Yf 77 1 ((is.map Bi.Ca).map Jc.mk).length He::.ba Nb 26 [.int .i64 0,.int .i64 0]::rsF) (by classical exact List.perm_iff_count.2 (fun x=>(by simp only [List.count_append,List.count_cons,List.count_nil];ac_rfl)))) ?_;clear b;intro sR tR uR vR wR xR yR z138 z139 zR z141 AR z143 BR z145 z146 CR z148 DR ER Y lm Z sm b;have j:=b.perm (rs':=.row Y 34 1 (bs.map Pd.words).length lm::.row u 36 4 (la.map gi).length X::.ba sd 31 [u,Y,.int .i64 nd]::.ba Nb 26 [.int .i64 0,.int .i64 0]::.row sf 74 1 (bb.map Jc.mk).length tf::.row Yf 77 1 ((is.map Bi.Ca).map Jc.mk).length He::rsF) (by classical exact List.perm_iff_count.2 (fun x=>(by simp only [List.count_append,List.count_cons,List.count_nil];ac_rfl)));clear b;obtain ⟨FR,Nm,fn,on,l10,un,m⟩:=Sep.Wk j sm rfl;clear j;subst on;have b:=m;clear m;obtain ⟨wn,Fn,In,co,Gb,go,m⟩:=Sep.Wk b ((em.up Z).up l10) rfl;clear b;subst co;have b:=m;clear m;refine pa ?_;refine Fa ?_;refine xm (by kernel_rfl) rfl fun N A B C D=>?_;replace b:=b.drew A B C D;refine cd ?_;refine ng (i:=0) [0,2,3] (fun _ _ _ _ _ h=>cu rfl h) rfl rfl rfl (Jh Zk (aa d2) (b.ba d0).cells rfl) (Qb (Uc sc)) ?_;refine ng (i:=1) [1,3] (fun _ _ _ _ _ h=>cu rfl h) rfl rfl rfl (Jh Gd (aa d3) (b.ba d1).cells rfl) (Qb (Xc wa)) ?_;refine zj rfl rfl rfl rfl (Si rfl) (zc Zk (aa d2) (aa (Xa (hb d9))) rfl rfl b d0 rfl wa Wa ?_);clear b;intro O b;refine ⟨(Ba.s (Jh Gd (aa d3) (b.ba d1).cells rfl) Ba.z),?_⟩;refine zj rfl rfl rfl rfl (Si rfl) (zc Gd (aa d3) (aa (Xa (sb d0))) rfl rfl b d1 rfl lb Wa ?_);clear b;intro P b;refine ⟨Ba.z,?_⟩;refine Tc ?_;refine pa ?_;refine Ka ?_;refine iG ?_;refine IF gF (xI b) ?_;rintro v w' ⟨rfl,b⟩;refine cq rfl (Cb.s (.a d2 Zk (b.ba d0).cells rfl) (Cb.s (.a d3 Gd (b.ba d1).cells rfl) Cb.z)) ?_;replace b:=(((b.drop ta.z).drop ta.z).drop ta.z).drop ta.z;refine ⟨wn,Fn,In,Nm,fn,?_,n.t (R.t (k.t (L.t (Z.t (l10.t Gb))))),b,go,un.up Gb⟩;simp only [Tt,List.length_map]
end Go.Proofs.YticaondbdmcpoaaGreatDoor
