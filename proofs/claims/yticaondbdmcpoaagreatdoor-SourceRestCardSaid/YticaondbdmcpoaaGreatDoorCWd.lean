/- Texts of Wd. -/
import Derived.Test.YticaondbdmcpoaaGreatDoorCMd
import Derived.Test.YticaondbdmcpoaaGreatDoorCXu
import Derived.Test.YticaondbdmcpoaaGreatDoorCWc
import Derived.Tactics2
import Derived.Recover
import Derived.Laws.Pointers
import Derived.Test.YticaondbdmcpoaaGreatDoorCWb
set_option linter.unusedSimpArgs false
set_option linter.unusedVariables false
set_option linter.unusedSectionVars false
namespace Go.Y
open Go.hc Go.Mc
abbrev vb (b:Nat):Value:=.pointer (some ⟨b,0,none⟩)
abbrev Fg (k:Nat) (cs:List Value):Value:=.func (.func k) ⟨[]⟩ ⟨cs⟩
structure Wd where
 Ka:Nat
 Ca:Nat
 A:List Nat
 B:List Nat
 bb:List Nat
structure Wd.le (G Zf:Wd):Prop where
 Ka:Zf.Ka=G.Ka
 Ca:Zf.Ca=G.Ca
 bb:Zf.bb=G.bb
 A:∀ (i b:Nat),G.A[i]?=some b→Zf.A[i]?=some b
 B:∀ (i b:Nat),G.B[i]?=some b→Zf.B[i]?=some b
theorem Wd.le.r {G:Wd}:G.le G:=⟨rfl,rfl,rfl,fun _ _ h=>h,fun _ _ h=>h⟩
theorem Wd.le.t {a b c:Wd}(h:a.le b) (k:b.le c):a.le c:=⟨k.Ka.trans h.Ka,k.Ca.trans h.Ca,k.bb.trans h.bb,fun i x e=>k.A i x (h.A i x e),fun i x e=>k.B i x (h.B i x e)⟩
def Aj (G:Wd) (v:Option Addr):Option Nat→Prop
 | none=>v=none
 | some i=>∃ b,G.A[i]?=some b∧v=some ⟨b,0,none⟩
theorem Aj.up {G Zf:Wd}{v:Option Addr}{s:Option Nat}(h:Aj G v s) (l:G.le Zf):Aj Zf v s:=by
 cases s with
 | none=>exact h
 | some i=>obtain ⟨b,a,c⟩:=h; exact ⟨b,l.A i b a,c⟩
def gv (E:oe) (G:Wd) (n:Ie) (b:Nat):Prop:=∃ i:Nat,ob E.order n=some (i:Int)∧G.bb[i]?=some b
theorem gv.up {E:oe}{G Zf:Wd}{n:Ie}{b:Nat}(h:gv E G n b) (l:G.le Zf):gv E Zf n b:=by
 obtain ⟨i,a,c⟩:=h;exact ⟨i,a,by rw [l.bb];exact c⟩
mutual
def Se (E:oe) (μ:M) (G:Wd):sf→Nat→List Value→Prop
 | .all l s we k,K,cs=>K=151∧∃ bc c2 c3 c4 c5 c d sp od j a b,cs=[vb bc,vb c2,vb c3,vb c4,vb c5]∧Ba μ bc 0 [vb G.Ca]∧Na μ c d l∧Ba μ c2 0 [.slice c l.length d]∧Aj G sp s∧Ba μ c3 0 [.pointer sp]∧Na μ od j we∧Ba μ c4 0 [.slice od we.length j]∧Ba μ c5 0 [Fg a b]∧lk E μ G k a b
 | .stat l s e k,K,cs=>K=64∧∃ f mv bc c2 c3 c4 g Be ce h m x i c d sp a b,cs=[vb f,vb mv,vb g,vb Be,vb ce]∧at_ l 0=some x∧Ke μ i x∧Ba μ f 0 [i]∧Ba μ mv 0 [Fg 59 [vb bc,vb c2,vb c3,vb c4]]∧Ba μ bc 0 [vb G.Ca]∧Na μ c d l∧Ba μ c2 0 [.slice c l.length d]∧Ba μ c3 0 [vb m]∧Vg E μ G e m∧Ba μ c4 0 [Fg a b]∧te E μ G k a b∧Aj G sp s∧Ba μ g 0 [.pointer sp]∧Ba μ Be 0 [vb G.Ca]∧Ba μ ce 0 [vb h]∧Vg E μ G e h
 | .cg x s e k,K,cs=>K=102∧∃ b Be f g ce h i sp a n,cs=[vb b,vb Be,vb f,vb g,vb ce]∧Ba μ b 0 [Fg a n]∧te E μ G k a n∧Ba μ Be 0 [vb G.Ca]∧Ke μ i x∧Ba μ f 0 [i]∧Aj G sp s∧Ba μ g 0 [.pointer sp]∧Ba μ ce 0 [vb h]∧Vg E μ G e h
def lk (E:oe) (μ:M) (G:Wd):Sk→Nat→List Value→Prop
 | .ex x k,K,cs=>K=106∧∃ a b Be c d e,cs=[vb a,vb b,vb Be]∧Ke μ c x∧Ba μ a 0 [c]∧Ba μ b 0 [Fg d e]∧Se E μ G k d e∧Ba μ Be 0 [vb G.Ca]
def te (E:oe) (μ:M) (G:Wd):me→Nat→List Value→Prop
 | .zero k,K,cs=>K=108∧∃ a c f,cs=[vb a]∧Ba μ a 0 [Fg c f]∧Se E μ G k c f
 | .recv n k,K,cs=>K=150∧∃ h Be i j a b c f,cs=[vb h,vb Be,vb i,vb j,vb a]∧gv E G n b∧Ba μ h 0 [vb b]∧Ba μ Be 0 [vb G.Ca]∧Ba μ i 0 [S n]∧Ba μ j 0 [Fg 150 [vb h,vb Be,vb i,vb j,vb a]]∧Ba μ a 0 [Fg c f]∧Se E μ G k c f
 | .send n v k,K,cs=>K=113∧∃ h Be i j Fh a b c f,cs=[vb h,vb Be,vb i,vb j,vb Fh,vb a]∧gv E G n b∧Ba μ h 0 [vb b]∧Ba μ Be 0 [vb G.Ca]∧Ba μ i 0 [S n]∧Ba μ j 0 [Fg 113 [vb h,vb Be,vb i,vb j,vb Fh,vb a]]∧Ba μ Fh 0 [.int .i64 v]∧Ba μ a 0 [Fg c f]∧te E μ G k c f
 | .done g,K,cs=>K=152∧∃ m Be b,cs=[vb m,vb Be]∧G.B[g]?=some b∧Ba μ m 0 [vb b]∧Ba μ Be 0 [vb G.Ca]
 | .stats l s e k,K,cs=>K=60∧∃ Be r o ce a p q t u sp c f,cs=[vb Be,vb r,vb o,vb ce,vb a]∧Ba μ Be 0 [vb G.Ca]∧cut q 1 q.length=some l∧Na μ t u q∧Ba μ r 0 [.slice t q.length u]∧Aj G sp s∧Ba μ o 0 [.pointer sp]∧Ba μ ce 0 [vb p]∧Vg E μ G e p∧Ba μ a 0 [Fg c f]∧te E μ G k c f
 | .cg x s e k,K,cs=>K=103∧∃ Be w o ce a p y sp c f,cs=[vb Be,vb w,vb o,vb ce,vb a]∧Ba μ Be 0 [vb G.Ca]∧Ke μ y x∧Ba μ w 0 [y]∧Aj G sp s∧Ba μ o 0 [.pointer sp]∧Ba μ ce 0 [vb p]∧Vg E μ G e p∧Ba μ a 0 [Fg c f]∧te E μ G k c f
 | .fin,K,cs=>K=36∧∃ Be,cs=[vb Be]∧Ba μ Be 0 [vb G.Ca]
 | .zj d,K,cs=>K=37∧∃ Be Lj Io m El,cs=[vb Be,vb Lj,vb Io]∧Ba μ Be 0 [vb G.Ca]∧Ke μ El d∧Ba μ Lj 0 [El]∧Ba μ Io 0 [Fg 36 [vb m]]∧Ba μ m 0 [vb G.Ca]
def Vg (E:oe) (μ:M) (G:Wd):Rg→Nat→Prop
 | .ret k,c=>∃ a b,Ba μ c 0 [Fg a b,.nilFunc]∧Se E μ G k a b
 | .stop k,c=>∃ a b,Ba μ c 0 [.nilFunc,Fg a b]∧te E μ G k a b
end
section
variable {E:oe}{μ J:M}{G Zf:Wd}(lm:ha μ J) (uc:G.le Zf)
include lm uc
mutual
theorem Se.up:∀ {k:sf}{K:Nat}{cs:List Value},Se E μ G k K cs→Se E J Zf k K cs
 | .all l s we k,K,cs,⟨h,bc,c2,c3,c4,c5,q,r,sp,od,y,a,b,c,d,f,g,i,j,m,n,o,p⟩=>by
  rw [Se,uc.Ca];exact ⟨h,bc,c2,c3,c4,c5,q,r,sp,od,y,a,b,c,d.up lm,f.up lm,g.up lm,i.up uc,j.up lm,m.up lm,n.up lm,o.up lm,lk.up p⟩
 | .stat l s e k,K,cs,⟨h,t,mv,bc,c2,c3,c4,u,Be,ce,v,z,x,w,q,r,sp,a,b,c,d,f,g,i,j,m,n,o,p,A,B,C,D,F,H,L⟩=>by
  rw [Se,uc.Ca];exact ⟨h,t,mv,bc,c2,c3,c4,u,Be,ce,v,z,x,w,q,r,sp,a,b,c,d,f.up lm,g.up lm,i.up lm,j.up lm,m.up lm,n.up lm,o.up lm,Vg.up p,A.up lm,te.up B,C.up uc,D.up lm,F.up lm,H.up lm,Vg.up L⟩
 | .cg x s e k,K,cs,⟨h,b,Be,t,u,ce,v,w,sp,a,M,c,d,f,g,i,j,m,n,o,p⟩=>by
  rw [Se,uc.Ca];exact ⟨h,b,Be,t,u,ce,v,w,sp,a,M,c,d.up lm,te.up f,g.up lm,i.up lm,j.up lm,m.up uc,n.up lm,o.up lm,Vg.up p⟩
theorem lk.up:∀ {k:Sk}{K:Nat}{cs:List Value},lk E μ G k K cs→lk E J Zf k K cs
 | .ex x k,K,cs,⟨h,a,b,Be,c,d,e,f,g,i,j,l,m⟩=>by
  rw [lk,uc.Ca];exact ⟨h,a,b,Be,c,d,e,f,g.up lm,i.up lm,j.up lm,Se.up l,m.up lm⟩
theorem te.up:∀ {k:me}{K:Nat}{cs:List Value},te E μ G k K cs→te E J Zf k K cs
 | .zero k,K,cs,⟨h,j,m,o,a,c,f⟩=>by
  rw [te];exact ⟨h,j,m,o,a,c.up lm,Se.up f⟩
 | .recv n k,K,cs,⟨h,w,Be,y,z,j,b,m,o,a,c,f,i,p,q,r,t⟩=>by
  rw [te,uc.Ca];exact ⟨h,w,Be,y,z,j,b,m,o,a,c.up uc,f.up lm,i.up lm,p.up lm,q.up lm,r.up lm,Se.up t⟩
 | .send n v k,K,cs,⟨h,w,Be,y,z,Fh,j,b,m,o,a,c,f,i,p,q,r,t,u⟩=>by
  rw [te,uc.Ca];exact ⟨h,w,Be,y,z,Fh,j,b,m,o,a,c.up uc,f.up lm,i.up lm,p.up lm,q.up lm,r.up lm,t.up lm,te.up u⟩
 | .done g,K,cs,⟨h,A,Be,b,a,c,f,i⟩=>by
  rw [te,uc.Ca];exact ⟨h,A,Be,b,a,uc.B _ _ c,f.up lm,i.up lm⟩
 | .stats l s e k,K,cs,⟨h,Be,H,C,ce,j,D,L,M,N,sp,m,o,a,c,f,i,p,q,r,t,u,F,O⟩=>by
  rw [te,uc.Ca];exact ⟨h,Be,H,C,ce,j,D,L,M,N,sp,m,o,a,c.up lm,f,i.up lm,p.up lm,q.up uc,r.up lm,t.up lm,Vg.up u,F.up lm,te.up O⟩
 | .cg x s e k,K,cs,⟨h,Be,P,C,ce,j,D,Q,sp,m,o,a,c,f,i,p,q,r,t,u,F⟩=>by
  rw [te,uc.Ca];exact ⟨h,Be,P,C,ce,j,D,Q,sp,m,o,a,c.up lm,f.up lm,i.up lm,p.up uc,q.up lm,r.up lm,Vg.up t,u.up lm,te.up F⟩
 | .fin,K,cs,⟨h,Be,a,c⟩=>by
  rw [te,uc.Ca];exact ⟨h,Be,a,c.up lm⟩
 | .zj d,K,cs,⟨h,Be,Lj,Io,A,El,a,c,f,i,p,q⟩=>by
  rw [te,uc.Ca];exact ⟨h,Be,Lj,Io,A,El,a,c.up lm,f.up lm,i.up lm,p.up lm,q.up lm⟩
theorem Vg.up:∀ {e:Rg}{a:Nat},Vg E μ G e a→Vg E J Zf e a
 | .ret k,a,⟨b,c,d,f⟩=>by
  rw [Vg];exact ⟨b,c,d.up lm,Se.up f⟩
 | .stop k,a,⟨b,c,d,f⟩=>by
  rw [Vg];exact ⟨b,c,d.up lm,te.up f⟩
end
end
end Go.Y
namespace Go.Y
open Go.hc Go.Mc
def uf {α:Type}(R:α→Nat→Qa→Prop):List α→List Nat→List Qa→Prop
 | [],[],[]=>True
 | x::xs,b::bs,r::rs=>R x b r∧uf R xs bs rs
 | _,_,_=>False
section
variable {α:Type}{R R':α→Nat→Qa→Prop}
theorem uf.imp (h:∀ x b r,R x b r→R' x b r):∀ {xs:List α}{bs:List Nat}{rs:List Qa},uf R xs bs rs→uf R' xs bs rs
 | [],[],[],_=>trivial
 | x::xs,b::bs,r::rs,⟨a,c⟩=>⟨h _ _ _ a,uf.imp h c⟩
 | [],[],_::_,k=>k.elim
 | [],_::_,_,k=>k.elim
 | _::_,[],_,k=>k.elim
 | _::_,_::_,[],k=>k.elim
theorem uf.len:∀ {xs:List α}{bs:List Nat}{rs:List Qa},uf R xs bs rs→bs.length=xs.length∧rs.length=xs.length
 | [],[],[],_=>⟨rfl,rfl⟩
 | x::xs,b::bs,r::rs,⟨_,a⟩=>by have:=uf.len a; simp [this.1,this.2]
 | [],[],_::_,k=>k.elim
 | [],_::_,_,k=>k.elim
 | _::_,[],_,k=>k.elim
 | _::_,_::_,[],k=>k.elim
theorem uf.snoc {x:α}{b:Nat}{r:Qa}(h:R x b r):∀ {xs:List α}{bs:List Nat}{rs:List Qa},uf R xs bs rs→uf R (xs++[x]) (bs++[b]) (rs++[r])
 | [],[],[],_=>⟨h,trivial⟩
 | x::xs,b::bs,r::rs,⟨a,c⟩=>⟨a,uf.snoc h c⟩
 | [],[],_::_,k=>k.elim
 | [],_::_,_,k=>k.elim
 | _::_,[],_,k=>k.elim
 | _::_,_::_,[],k=>k.elim
theorem uf.get:∀ {xs:List α}{bs:List Nat}{rs:List Qa}{i:Nat}{x:α},uf R xs bs rs→xs[i]?=some x→∃ b r a e,bs[i]?=some b∧rs=a++r::e∧R x b r∧a.length=i∧∀ c r',R c b r'→uf R (xs.set i c) bs (a++r'::e)
 | x::xs,b::bs,r::rs,0,y,⟨f,g⟩,d=>by
  cases d;exact ⟨b,r,[],rs,rfl,rfl,f,rfl,fun c r' h=>⟨h,g⟩⟩
 | x::xs,b::bs,r::rs,i+1,y,⟨f,g⟩,d=>by
  obtain ⟨ed,r',a,e,g1,rfl,g3,g5,g4⟩:=uf.get g (by simpa using d);exact ⟨ed,r',r::a,e,by simpa using g1,rfl,g3,by simp [g5],fun c q h=>⟨f,g4 c q h⟩⟩
 | [],_,_,_,_,_,d=>by simp at d
 | _::_,[],_,_,_,k,_=>k.elim
 | _::_,_::_,[],_,_,k,_=>k.elim
end
variable (E:oe) (μ:M) (G:Wd)
def po (c:Jh) (b:Nat) (r:Qa):Prop:=∃ up,r=.ba b 191 [S c.name,.int .i64 c.v,.pointer up]∧Aj G up c.up
def hv (v:Value):Option Nat→Prop
 | none=>v=.pointer none
 | some u=>∃ b,G.B[u]?=some b∧v=vb b
def ts (v:Value):Option sf→Prop
 | none=>v=.nilFunc
 | some k=>∃ K cs,v=Fg K cs∧Se E μ G k K cs
def gr (v:Value):Option me→Prop
 | none=>v=.nilFunc
 | some k=>∃ K cs,v=Fg K cs∧te E μ G k K cs
def ks (c:Eg) (b:Nat) (r:Qa):Prop:=∃ a ap up d on,r=.ba b 124 [a,.pointer ap,.bool c.begun,.bool c.going,.bool c.ended,up,d,on]∧Ke μ a c.jm∧Aj G ap c.args∧hv G up c.up∧ts E μ G d c.back∧ts E μ G on c.dm
def Vq (c:Od) (b:Nat) (r:Qa):Prop:=∃ a k,r=.ba b 76 [.int .i64 c.cap,.slice a c.words.length k]∧Na μ a k c.words
structure ee where
 md:Nat
 Ac:Nat
 fb:Nat
 ji:List (Ie×Mk)
 sc:Value
 nc:Value
 ec:Value
 Mb:Nat
 pe:List Value
 Ei:List Value
 cd:List Qa
 Cd:List Qa
 Hb:List Qa
def ee.res (X:ee) (G:Wd) (z:Tc) (vf:List Qa):List Qa :=
 .ba G.Ka 70 [.map (some X.md),.map (some X.Ac),.map (some X.fb),.int .i64 z.nodes]::
 .ba G.Ca 85 [vb G.Ka,X.sc,X.nc,vb X.Mb,.int .i64 z.t.state,.int .i64 z.t.box,.int .i64 z.t.Le,X.ec]::
 .row X.nc 83 1 ((G.B.drop 1).map Fc.mk).length X.pe::.row X.ec 2 1 z.t.out.length X.Ei::(X.cd++(X.Cd++(X.Hb++vf)))
structure kg (z:Tc) (X:ee):Prop where
 Td:0≤z.nodes
 Hd:z.nodes≤20000
 md:lh μ X.md E.defs
 Ac:lh μ X.Ac X.ji
 fb:lh μ X.fb E.order
 ai:∀ (n:Ie) (i b:Nat),ob E.order n=some (i:Int)→G.bb[i]?=some b→ob X.ji n=some ⟨some b⟩
 now:G.B[z.t.now]?=some X.Mb
 Eb:gr E μ G X.sc z.t.Nk
 tc:Ua μ X.pe ((G.B.drop 1).map Fc.mk)
 out:Ua μ X.Ei z.t.out
 cd:uf (po G) z.t.xe G.A X.cd
 Cd:uf (ks E μ G) z.t.mc G.B X.Cd
 Hb:uf (Vq μ) z.boxes G.bb X.Hb
 vf:z.t.mc.length≤31
variable {E μ G}
section
variable {J:M}{Zf:Wd}
theorem po.up {c:Jh}{b:Nat}{r:Qa}(h:po G c b r) (l:G.le Zf):po Zf c b r:=by
 obtain ⟨up,a,d⟩:=h;exact ⟨up,a,d.up l⟩
theorem hv.up {v:Value}{u:Option Nat}(h:hv G v u) (l:G.le Zf):hv Zf v u:=by
 cases u with
 | none=>exact h
 | some u=>obtain ⟨b,a,c⟩:=h; exact ⟨b,l.B _ _ a,c⟩
theorem ts.up {v:Value}{k:Option sf}(h:ts E μ G v k) (m:ha μ J) (l:G.le Zf):ts E J Zf v k:=by
 cases k with
 | none=>exact h
 | some u=>obtain ⟨K,cs,a,b⟩:=h; exact ⟨K,cs,a,Se.up m l b⟩
theorem gr.up {v:Value}{k:Option me}(h:gr E μ G v k) (m:ha μ J) (l:G.le Zf):gr E J Zf v k:=by
 cases k with
 | none=>exact h
 | some u=>obtain ⟨K,cs,a,b⟩:=h; exact ⟨K,cs,a,te.up m l b⟩
theorem ks.up {c:Eg}{b:Nat}{r:Qa}(h:ks E μ G c b r) (m:ha μ J) (l:G.le Zf):ks E J Zf c b r:=by
 obtain ⟨a,ap,up,d,on,e,f,g,i,j,k⟩:=h;exact ⟨a,ap,up,d,on,e,f.up m,g.up l,i.up l,j.up m l,k.up m l⟩
theorem Vq.up {c:Od}{b:Nat}{r:Qa}(h:Vq μ c b r) (m:ha μ J):Vq J c b r:=by
 obtain ⟨a,k,d,e⟩:=h;exact ⟨a,k,d,e.up m⟩
theorem kg.up {z:Tc}{X:ee}(h:kg E μ G z X) (m:ha μ J):kg E J G z X :=
 ⟨h.Td,h.Hd,h.md.up m,h.Ac.up m,h.fb.up m,h.ai,h.now,h.Eb.up m .r,h.tc.up m,h.out.up m,h.cd,h.Cd.imp fun _ _ _ k=>k.up m .r,h.Hb.imp fun _ _ _ k=>k.up m,h.vf⟩
end
def UK (E:oe) (μ:M) (G:Wd):uh→Nat→List Value→Prop
 | .expr x s k,f,vs=>f=63∧∃ d sp K cs,vs=[vb G.Ca,d,.pointer sp,Fg K cs]∧Ke μ d x∧Aj G sp s∧Se E μ G k K cs
 | .all l s we k,f,vs=>f=105∧∃ a c sp od i K cs,vs=[vb G.Ca,.slice a l.length c,.pointer sp,.slice od we.length i,Fg K cs]∧Na μ a c l∧Aj G sp s∧Na μ od i we∧lk E μ G k K cs
 | .stats l s e k,f,vs=>f=38∧∃ a c sp h K cs,vs=[vb G.Ca,.slice a l.length c,.pointer sp,vb h,Fg K cs]∧Na μ a c l∧Aj G sp s∧Vg E μ G e h∧te E μ G k K cs
 | .cg x s e k,f,vs=>f=62∧∃ d sp h K cs,vs=[vb G.Ca,d,.pointer sp,vb h,Fg K cs]∧Ke μ d x∧Aj G sp s∧Vg E μ G e h∧te E μ G k K cs
 | .tf k v,f,vs=>∃ cs,vs=[.int .i64 v]++cs∧Se E μ G k f cs
 | .we k l,f,vs=>∃ a c cs,vs=[.slice a l.length c]++cs∧Na μ a c l∧lk E μ G k f cs
 | .Rd k,f,vs=>∃ cs,vs=[]++cs∧te E μ G k f cs
 | .recv n k,f,vs=>f=104∧∃ K cs,vs=[vb G.Ca,S n,Fg K cs]∧Se E μ G k K cs
 | .send n v k,f,vs=>f=66∧∃ K cs,vs=[vb G.Ca,S n,.int .i64 v,Fg K cs]∧te E μ G k K cs
 | .resume g v k,f,vs=>f=110∧∃ b K cs,G.B[g]?=some b∧vs=[vb G.Ca,vb b,.int .i64 v,Fg K cs]∧Se E μ G k K cs
def Tk:Unit→Value:=fun _=>.iface 64 (.agg ⟨[]⟩)
def zo {α:Type}:Option α→Except Unit α
 | none=>.error ()
 | some x=>.ok x
def Ri (E:oe) (μb:M) (Gb:Wd) (da:World) (rsF:List Qa) (x:Option me×Tc) (v:Value) (w:World):Prop:=∃ μ G X,ha μb μ∧Gb.le G∧kg E μ G x.2 X∧gr E μ G v x.1∧ja μ da w (X.res G x.2 rsF)
def Yj (μb:M) (da:World) (rsF:List Qa) (w:World):Prop:=∃ μ,ha μb μ∧ja μ da w rsF
end Go.Y
set_option maxRecDepth 100000
set_option maxHeartbeats 20000000
namespace Go.Proofs.YticaondbdmcpoaaGreatDoor
open Go.hc Go.Mc Go.Y
theorem FA {α:Type}{R:α→Value→World→Prop}{E:World→Prop}{I:M}{da w:World}{rs:List Qa}{md Ac fb:Value}{n:Int}{Ka:Nat}(b:i64 (n+1)=some (n+1)) (c:(20000:Int)<n+1) (k:∀ w',ja I da w' (.ba Ka 70 [md,Ac,fb,.int .i64 (n+1)]::rs)→E w') (a:ja I da w (.ba Ka 70 [md,Ac,fb,.int .i64 n]::rs)) :
  Bc Tryz.prog 61 [vb Ka] w Tk (.error ():Except Unit α) R E:=by
 refine Ze Tryz.func61 rfl (frm:=[_,_,_,_,_,_,_,_,_,_,_,_,_,_,_,_]) rfl ?_;refine Ga ?_;refine nb ?_;refine wl (lf (aa d0) (fa tb) ?_);refine wl (mi (aa d2) (fa Ab) ?_);refine wl (rh Jw (aa d3) rfl (fa Ib) ?_);refine wl (hd Ad (aa d4) ((a.ba d0).cell d3) (fa Wb) ?_);refine wl (ep (aa d5) Ma b (fa Qb) ?_);refine wl (mi (aa d2) (fa Sb) ?_);refine wl (rh Jw (aa d7) rfl (fa Tb) ?_);refine wl (Jd Ad (aa d8) (aa d6) rfl a d0 Ab rfl ua ib ?_);clear a;intro d a;refine ab ?_;refine la ?_;refine Ga ?_;refine nb ?_;refine wl (lf (aa d0) (fa Pb) ?_);refine wl (mi (aa d9) (fa (wa ua)) ?_);refine wl (rh Jw (aa (ga d0)) rfl (fa (wa db)) ?_);refine wl (hd Ad (aa (ga d1)) ((a.ba d0).cell d3) (fa (wa tb)) ?_);refine wl (KJ (aa (ga d2)) Ma (fa (wa Ab)) ?_);refine ab ?_;refine la ?_;refine Oe (aa (ga d3)) c ?_;refine nb ?_;refine wl (eg wz OK Xb.z (fa (wa Ib)) ?_);refine wl (fH (by kernel_rfl) (aa (ga d4)) (fa (wa Wb)) ?_);refine wl (eH (aa (ga d5)) ?_);exact Gz (P:=Tryz.prog) (fn:=Tryz.f61) (k _ a)
theorem MC {I:M}{da w:World}{G:Wd}{bd:List Jh}{cd rs:List Qa}{Hc:List UInt8}{fu:Nat}{sp:Option Addr}{s:Option Nat}{i b:Nat}(o:uf (po G) bd G.A cd) (p:∀ r ∈ cd,r ∈ rs) (f:Aj G sp s) (d:Xk bd Hc fu s=some i) (q:G.A[i]?=some b) (u:ja I da w rs) :
  Ic Tryz.prog 65 [.pointer sp,S Hc] w (fun v w'=>v=vb b∧w'=w):=by
 refine enter Tryz.func65 rfl (frm:=[_,_,_,_,_,_,_,_,_,_,_,_,_,_,_,_]) rfl ?_;refine Ga ?_;refine nb ?_;refine wl (jg Ma (fa Ib) ?_);refine ab ?_;refine la ?_;refine Ga ?_;refine Cb ?_;refine Ig (rg 5 10) (by decide) (fun n m g=>∃ (sp:Option Addr) (s:Option Nat),m=(.i (.pointer sp)::(Ni (Re 5 [])))∧Xk bd Hc n s=some i∧Aj G sp s∧g=w) (by rintro _ _ _ ⟨_,_,rfl,_⟩;rfl) fu _ (jb (Wf (oc Za))) ⟨sp,s,rfl,d,f,rfl⟩ ?_;clear d f;rintro n _ t g ⟨sp,s,rfl,d,f,rfl⟩;cases n with
 | zero=>cases d
 | succ n =>
 cases s with
 | none=>cases d
 | some j =>
 rw [Xk] at d;obtain ⟨c,x,d⟩:=ra d;obtain ⟨a,k,rfl⟩:=f;obtain ⟨e,r,B,C,g1,g2,⟨up,rfl,hu⟩,-,-⟩:=o.get x;obtain rfl:e=a:=Option.some.inj (g1.symm.trans k);have y:Gj g e 191 [S c.name,.int .i64 c.v,.pointer up]:=u.all (.ba e 191 [S c.name,.int .i64 c.v,.pointer up]) (p _ (by rw [g2];simp));have l:kj g e 0 [S c.name,.int .i64 c.v,.pointer up]:=Gj.cells y;refine Jg (gd (pj (af Qc))) ?_;refine Ga ?_;refine Ga ?_;refine nb ?_;refine wl (lf (aa d0) (fa Wb) ?_);refine wl (mi (aa d5) (fa Qb) ?_);refine wl (rh sH (aa d6) rfl (fa Sb) ?_);refine wl (hd Sd (aa d7) (l.one d0) (fa Tb) ?_);refine wl (lf (aa d1) (fa Pb) ?_);refine wl (PJ (aa d8) (aa d9) (fa (wa ua)) ?_);refine ab ?_;refine la ?_;refine Nh (aa (ga d0)) (fun z=>?_) (fun heq=>?_)
 ·rw [if_neg z] at d;refine lb ?_;refine la ?_;refine Cb ?_;refine nb ?_;refine wl (lf (aa d0) (fa (wa db)) ?_);refine wl (mi (aa (ga d1)) (fa (wa tb)) ?_);refine wl (rh tH (aa (ga d2)) rfl (fa (wa Ab)) ?_);refine wl (hd fi (aa (ga d3)) (l.one d2) (fa (wa Ib)) ?_);refine wl (jg (aa (ga d4)) (fa ua) ?_);refine ab ?_;refine (fun h=>ad (pb h)) ?_;exact ⟨n,_,_,rfl,(jb (Wf (oc Za))),⟨up,c.up,rfl,d,hu,rfl⟩,Nat.lt_succ_self _⟩
 ·rw [if_pos (Decidable.not_not.1 heq)] at d;obtain rfl:=wb d;obtain rfl:e=b:=Option.some.inj (k.symm.trans q);refine fg ?_;refine (fun h=>sd (sd (hg h))) ?_;refine la ?_;refine Ga ?_;refine nb ?_;refine wl (lf (aa d0) (fa (wa Wb)) ?_);refine wl (jg (aa (ga d5)) (fa Ib) ?_);refine ab ?_;refine la ?_;refine Oa ?_;exact Yb rfl d4 ⟨rfl,rfl⟩
def fx (G:Wd) (bd:List Jh) (a:List Jh) (s1:Option Nat) (gs:List Qa) (sp:Option Addr):Prop:=∃ bs new,a=bd++new∧uf (po { G with A:=G.A++bs }) new bs gs∧Aj { G with A:=G.A++bs } sp s1
theorem Wd.le.app {G:Wd}{bs:List Nat}:G.le { G with A:=G.A++bs }:=⟨rfl,rfl,rfl,fun i b h=>by
 show (G.A++bs)[i]?=some b;rw [List.getElem?_append_left (List.getElem?_eq_some_iff.1 h).1];exact h,fun _ _ h=>h⟩
theorem PH {I:M}{da w:World}{G:Wd}{bd g:List Jh}{s1:Option Nat}{d:va}{l:List Int}{vd:Option Addr}{xd:Nat}{rs:List Qa}{El:Value}(B:G.A.length=bd.length) (c:Ak d.Params l bd none=some (g,s1)) (C:Na I vd xd l) (D:Ke I El d) (b:ja I da w rs) :
  Ic Tryz.prog 107 [El,.slice vd l.length xd] w (fun v w'=>∃ (gs:List Qa) (sp:Option Addr),v=.pointer sp∧fx G bd g s1 gs sp∧ja I da w' (gs++rs)):=by
 obtain ⟨X,Y,Z,rfl,E,F⟩:=D;obtain ⟨na,bc,a2,c2,rfl,u,bb⟩:=F;have Gb:=Na.len u;refine enter Tryz.func107 rfl (frm:=[_,_,_,_,_,_,_,_,_,_,_,_,_,_,_,_,_,_,_,_,_,_,_,_,_,_,_,_,_]) rfl ?_;refine Ga ?_;refine nb ?_;refine wl (jg Ma (fa Ib) ?_);refine ab ?_;refine la ?_;refine Ga ?_;refine nb ?_;refine wl (jg Ma (fa Wb) ?_);refine ab ?_;refine la ?_;refine Ga ?_;refine Ga ?_;refine nb ?_;refine wl (lf (aa d0) (fa Tb) ?_);refine wl (mi (aa d8) (fa Pb) ?_);refine wl (rh PI (aa d9) rfl (fa (wa ua)) ?_);refine wl (hd vz (aa (ga d0)) ((E _ b.a).one d7) (fa (wa db)) ?_);refine wl (CB Tryz.underlying43 (aa (ga d1)) (fa (wa tb)) ?_);refine wl (lf Ma (fa (wa Ab)) ?_);refine ab ?_;refine la ?_;refine Cb ?_;refine Ig (rg 6 2++rg 14 14) (by decide) (fun n m j=>∃ (i:Nat) (sp:Option Addr) (s:Option Nat) (gs:List Qa) (bs:List Nat) (new:List Jh),m=(jh (.i (.pointer sp)::(ui 6 (jh (.i (.int .i64 i)::(Re 14 (om 24 [])))))))∧d.Params.length<n+i∧i≤d.Params.length∧Ak (d.Params.drop i) (l.drop i) (bd++new) s=some (g,s1)∧uf (po { G with A:=G.A++bs }) new bs gs∧Aj { G with A:=G.A++bs } sp s∧ja I da j (gs++rs)) (by rintro _ _ _ ⟨_,_,_,_,_,_,rfl,_⟩;rfl) (d.Params.length+1) _ (Ue (jb (mg (Ue (jb (oc (Rh Za))))))) ⟨0,none,none,[],[],[],rfl,by omega,by omega,by simpa using c,trivial,rfl,b⟩ ?_;clear b c;rintro k _ t j ⟨i,sp,s,gs,bs,new,rfl,gc,lc,c,p,x,b⟩;cases k with
 | zero=>omega
 | succ k =>
 refine Jg (Ch (gd (Mi (Ch (gd (af (yn Qc))))))) ?_;refine Ga ?_;refine nb ?_;refine wl (Hu (aa (ga d3)) (aa (ga d2)) (fa (wa Ib)) ?_);refine ab ?_;refine la ?_;refine Ga ?_;refine Nh (aa (ga d4)) (fun rc=>?_) (fun fd=>?_)
 ·have r:i<d.Params.length:=by omega
  rw [List.drop_eq_getElem_cons r] at c;cases f:l.drop i with
  | nil=>rw [f] at c; cases c
  | cons v vs =>
  have id:i<l.length:=by
   rcases Nat.lt_or_ge i l.length with q | q
   ·exact q
   ·rw [List.drop_of_length_le q] at f;cases f
  rw [f,Ak] at c;have H:at_ l (i:Int)=some v:=by
   have:=congrArg (fun q=>q[0]?) f;simp only [List.getElem?_drop,Nat.add_zero] at this;simpa [at_] using this
  have K:at_ d.Params (i:Int)=some d.Params[i]:=by simp [at_,List.getElem?_eq_getElem r]
  have L:l.drop (i+1)=vs:=by
   have:=congrArg (fun q=>q.drop 1) f;simpa [List.drop_drop] using this
  refine lb ?_;refine la ?_;refine Ga ?_;refine Cb ?_;refine Ga ?_;refine nb ?_;refine wl (lf (aa (ga d3)) (fa (wa Wb)) ?_);obtain ⟨za,Ag,md,N,f5,m6⟩:=qd.elem u K;obtain rfl:=m6;refine wl (Ju Tryz.underlying43 Ik (aa (ga d1)) (aa (ga d3)) N (fa (wa Qb)) ?_);refine wl (cp Ik (aa (ga d6)) (f5 _ b.a) rfl (fa (wa Sb)) ?_);refine wl (td Ik b ?_);clear b;intro nd j rd b;refine pu (fa Sb) ?_;refine wl (jg (aa (ga d5)) (fa Qb) ?_);refine wl (Nc Ik (aa d7) (aa (ga d7)) rfl rfl b d0 rfl ua ib ?_);clear b;intro wd b;refine ab ?_;refine la ?_;refine al (by kernel_rfl) rfl fun Fd O P Q R=>?_;replace b:=b.drew O P Q R;refine dd ?_;refine Da (i:=0) [0,1,7,8,9] (jj fun _ _ _ h=>h.2) rfl rfl rfl (Xc QI (aa d7) rfl) (wa Tb) ?_;refine hb (i:=1) [1,7,8,9] (jj fun _ _ _ h=>h.2) rfl rfl rfl (pa Sd (aa (ga d8)) ((b.ba d0).cell d0)) (wa Pb) ?_;refine Da (i:=2) [2,4,5,7,8,9] (jj fun _ _ _ h=>h.2) rfl rfl rfl (Ye (aa d1)) (eb ua) ?_;refine Da (i:=3) [3,4,5,7,8,9] (jj fun _ _ _ h=>h.2) rfl rfl rfl (Ye (aa d6)) (eb db) ?_;obtain ⟨Mf,vl,Id,T,f13,m14⟩:=qd.elem C H;obtain rfl:=m14;refine Da (i:=4) [4,5,7,8,9] (jj fun _ _ _ h=>h.2) rfl rfl rfl (pd Tryz.underlying34 Ve (aa (qa d0)) (aa (qa d1)) T) (eb tb) ?_;refine hb (i:=5) [5,7,8,9] (jj fun _ _ _ h=>h.2) rfl rfl rfl (pa Ve (aa (qa d2)) ((f13 _ b.a).one d0)) (eb Ab) ?_;refine Da (i:=6) [6,7,8,9] (jj fun _ _ _ h=>h.2) rfl rfl rfl (Ye (aa d5)) (eb Ib) ?_;refine Da (i:=7) [7,8,9] (jj fun _ _ _ h=>h.2) rfl rfl rfl (Hr eD hD (Xb.o rfl (aa (ga d9)) rfl rfl ua (Xb.o rfl (aa (qa d3)) rfl rfl db (Xb.o rfl (aa (qa d4)) rfl rfl tb Xb.z)))) (eb Wb) ?_;refine zb rfl rfl rfl rfl (xb rfl) (Sc (aa (qa d5)) rfl b ?_);clear b;intro e be ce b;refine pu (fa (eb Qb)) ?_;refine ⟨xa.z,?_⟩;refine Da (i:=9) [9] (jj fun _ _ _ h=>h.2) rfl rfl rfl (Cg (aa (qa d6))) Wb ?_;refine Uc ?_;replace b:=b.Ia (ug.s ug.z);replace b:=b.drop ma.z;have y:(G.A++bs).length=bd.length+new.length:=by rw [List.length_append,B,p.len.1]
  refine (fun h=>ad (la h)) ?_;refine nb ?_;refine wl (ep (aa (ga d3)) Ma (show i64 ((i:Int)+1)=some ((i:Int)+1) from if_pos (by omega)) (fa (eb Sb)) ?_);refine wl (lf (aa (qa d7)) (fa (wa Ab)) ?_);refine ab ?_;refine pb ?_;have uc:Wd.le { G with A:=G.A++bs } { G with A:=G.A++(bs++[e]) }:=by
   rw [show G.A++(bs++[e])=(G.A++bs)++[e] by simp];exact Wd.le.app (G:={ G with A:=G.A++bs })
  have U:(((i+1:Nat)):Int)=(i:Int)+1:=by omega
  have V:(G.A++(bs++[e]))[(bd++new).length]?=some e:=by
   rw [← List.append_assoc,List.getElem?_append_right (by rw [y,List.length_append];omega),y,List.length_append,Nat.sub_self];rfl
  have W:=b.perm (rs':=(gs++[.ba e 191 [S d.Params[i].Name,.int .i64 v,.pointer sp]])++rs) (by
   rw [List.append_assoc];exact List.perm_middle.symm)
  exact ⟨k,_,_,rfl,(Ue (jb (mg (Ue (jb (oc (Rh Za))))))),⟨i+1,some ⟨e,0,none⟩,some (bd++new).length,gs++[.ba e 191 [S d.Params[i].Name,.int .i64 v,.pointer sp]],bs++[e],new++[⟨d.Params[i].Name,v,s⟩],by rw [U],by omega,by omega,by rw [L,← List.append_assoc];exact c,(p.imp fun _ _ _ q=>q.up uc).snoc ⟨sp,rfl,x.up uc⟩,⟨e,V,rfl⟩,W⟩,Nat.lt_succ_self _⟩
 ·have r:i=d.Params.length:=by omega
  rw [List.drop_of_length_le (by omega),Ak] at c;cases c;refine fg ?_;refine (fun h=>sd (sd (hg h))) ?_;refine la ?_;refine Ga ?_;refine nb ?_;refine wl (lf (aa d5) (fa (eb Tb)) ?_);refine wl (jg (aa (qa d8)) (fa Ib) ?_);refine ab ?_;refine la ?_;refine Oa ?_;exact Yb rfl d4 ⟨gs,sp,rfl,⟨bs,new,rfl,p,x⟩,b⟩
end Go.Proofs.YticaondbdmcpoaaGreatDoor
set_option maxRecDepth 100000
set_option maxHeartbeats 4000000
namespace Go.Proofs.YticaondbdmcpoaaGreatDoor
open Go.hc Go.Mc Go.Y
theorem Qu {μ:M}{da w:World}{l rs:List Qa}(a:ja μ da w (l++rs)):ja μ da w rs:=by
 have c:rs.Sublist (l++rs):=List.sublist_append_right _ _;refine ⟨a.keeps,fun r e=>a.all r (c.subset e),(c.filterMap _).nodup a.ti,fun b f=>a.new b ((c.filterMap _).subset f),?_⟩;exact a.aj.mono fun k _ d=>⟨d.1,fun hm=>d.2 ((c.filterMap Qa.block).subset hm)⟩
section
variable {E:oe}{μ:M}{G:Wd}{z:Tc}{X:ee}
theorem _root_.Go.Y.Se.fn {k:sf}{K:Nat}{cs:List Value}(h:Se E μ G k K cs):jc Tryz.prog K:=by
 cases k with
 | all l s we k=>rw [Se] at h; obtain ⟨rfl,-⟩:=h; infer_instance
 | stat l s e k=>rw [Se] at h; obtain ⟨rfl,-⟩:=h; infer_instance
 | cg x s e k=>rw [Se] at h; obtain ⟨rfl,-⟩:=h; infer_instance
theorem _root_.Go.Y.lk.fn {k:Sk}{K:Nat}{cs:List Value}(h:lk E μ G k K cs):jc Tryz.prog K:=by
 cases k with
 | ex x k=>rw [lk] at h; obtain ⟨rfl,-⟩:=h; infer_instance
theorem _root_.Go.Y.te.fn {k:me}{K:Nat}{cs:List Value}(h:te E μ G k K cs):jc Tryz.prog K:=by
 cases k<;>(rw [te] at h;obtain ⟨rfl,-⟩:=h;infer_instance)
theorem _root_.Go.Y.kg.i64 (h:kg E μ G z X):Go.Mc.i64 (z.nodes+1)=some (z.nodes+1):=if_pos (by have:=h.Td;have:=h.Hd;omega)
theorem _root_.Go.Y.kg.HD (h:kg E μ G z X) (a:¬ (20000:Int)<z.nodes+1):kg E μ G { z with nodes:=z.nodes+1 } X :=
 ⟨by have:=h.Td;show 0≤z.nodes+1;omega,by show z.nodes+1≤20000;omega,h.md,h.Ac,h.fb,h.ai,h.now,h.Eb,h.tc,h.out,h.cd,h.Cd,h.Hb,h.vf⟩
end
section
variable (E:oe) (μb:M) (Gb:Wd) (da:World) (rsF:List Qa)
def Cj (n:Nat) (c:uh):Prop:=∀ (z:Tc) (r:Option (Option me×Tc)),mn E n c z=some r→∀ {μ:M}{w:World}{G:Wd}{X:ee}{f:Nat}{vs:List Value},ha μb μ→Gb.le G→kg E μ G z X→UK E μ G c f vs→ja μ da w (X.res G z rsF)→Bc Tryz.prog f vs w Tk (zo r) (Ri E μb Gb da rsF) (Yj μb da rsF)
def ri (n:Nat):Prop:=∀ c,Cj E μb Gb da rsF n c
end
variable {E:oe}{μb:M}{Gb:Wd}{da:World}{rsF:List Qa}{n:Nat}
theorem Yj.of {μ:M}{w:World}{l:List Qa}(a:ha μb μ) (b:ja μ da w (l++rsF)):Yj μb da rsF w:=⟨μ,a,Qu b⟩
theorem Yj.res {μ:M}{w:World}{G:Wd}{X:ee}{z:Tc}(a:ha μb μ) (b:ja μ da w (X.res G z rsF)):Yj μb da rsF w:=by
 refine Yj.of (l:=X.res G z []) a ?_;simpa [ee.res] using b
theorem Dk (a:ri E μb Gb da rsF n){k:sf}{v:Int}{z:Tc}{r:Option (Option me×Tc)}(h:mn E n (.tf k v) z=some r){μ:M}{w:World}{G:Wd}{X:ee}{K:Nat}{cs:List Value}(b:ha μb μ) (uc:Gb.le G) (c:kg E μ G z X) (d:Se E μ G k K cs) (e:ja μ da w (X.res G z rsF)):Bc Tryz.prog K ([.int .i64 v]++cs) w Tk (zo r) (Ri E μb Gb da rsF) (Yj μb da rsF):=
 a _ _ _ h b uc c ⟨cs,rfl,d⟩ e
theorem Ri.mk {x:Option me×Tc}{v:Value}{w:World}{μ:M}{G:Wd}{X:ee}(a:ha μb μ) (uc:Gb.le G) (b:kg E μ G x.2 X) (c:gr E μ G v x.1) (d:ja μ da w (X.res G x.2 rsF)):Ri E μb Gb da rsF x v w:=by
 unfold Ri;exact ⟨μ,G,X,a,uc,b,c,d⟩
def Lp (E:oe) (n:Nat):nj→Option (Option (Option me×Tc))
 | .call c z=>mn E n c z
 | .ret k z=>some (some (k,z))
 | .Ap=>some none
theorem Sj {c:uh}{z:Tc}{r:Option (Option me×Tc)}(h:mn E (n+1) c z=some r):∃ o,ae E c z=some o∧Lp E n o=some r:=by
 rw [mn] at h;obtain ⟨o,a,h⟩:=ra h;exact ⟨o,a,by cases o<;>exact h⟩
theorem pt {q:Int}{z:Tc}{μ:M}{w:World}{G:Wd}{X:ee}(b:ha μb μ) (uc:Gb.le G) (c:kg E μ G z X) (d:ja μ da w (X.res G z rsF)):Bc Tryz.prog 109 [vb G.Ca,.int .i64 q] w Tk (zo (some ((none:Option me),z.task fun t=>{ t with state:=5,Le:=q }))) (Ri E μb Gb da rsF) (Yj μb da rsF):=by
 have e:=d.perm (rs':=.ba G.Ca 85 [vb G.Ka,X.sc,X.nc,vb X.Mb,.int .i64 z.t.state,.int .i64 z.t.box,.int .i64 z.t.Le,X.ec]::.ba G.Ka 70 [.map (some X.md),.map (some X.Ac),.map (some X.fb),.int .i64 z.nodes]::(.row X.nc 83 1 ((G.B.drop 1).map Fc.mk).length X.pe::.row X.ec 2 1 z.t.out.length X.Ei::(X.cd++(X.Cd++(X.Hb++rsF))))) (by simp only [ee.res];classical exact List.perm_iff_count.2 (fun x=>(by simp only [List.count_append,List.count_cons,List.count_nil];ac_rfl)));refine eJ ?_ e;intro J w' le f;have a:=c.up le;refine ⟨_,rfl,Ri.mk (G:=G) (X:=X) (b.t le) uc ⟨a.Td,a.Hd,a.md,a.Ac,a.fb,a.ai,a.now,a.Eb,a.tc,a.out,a.cd,a.Cd,a.Hb,a.vf⟩ rfl (f.perm ?_)⟩;simp only [ee.res,Tc.task];classical exact List.perm_iff_count.2 (fun x=>(by simp only [List.count_append,List.count_cons,List.count_nil];ac_rfl))
theorem aC {st:Int}{Hc:Ie}{again:me}{b:Nat}{c:List Value}{z:Tc}{μ:M}{w:World}{G:Wd}{X:ee}(e:ha μb μ) (uc:Gb.le G) (d:kg E μ G z X) (f:te E μ G again b c) (g:ja μ da w (X.res G z rsF)):Bc Tryz.prog 114 [vb G.Ca,.int .i64 st,S Hc,Fg b c] w Tk (zo (some ((none:Option me),z.task fun t=>{ t with state:=st,box:=(ob E.order Hc).getD 0,Nk:=some again }))) (Ri E μb Gb da rsF) (Yj μb da rsF):=by
 refine fJ d.fb ?_ g;intro J w' le h;have a:=d.up le;refine ⟨_,rfl,Ri.mk (G:=G) (X:={ X with sc:=Fg b c }) (e.t le) uc ⟨a.Td,a.Hd,a.md,a.Ac,a.fb,a.ai,a.now,⟨b,c,rfl,te.up le .r f⟩,a.tc,a.out,a.cd,a.Cd,a.Hb,a.vf⟩ rfl h⟩
theorem QH (C:ri E μb Gb da rsF n) (x:Va) (s:Option Nat) (k:sf):Cj E μb Gb da rsF (n+1) (.expr x s k):=by
 rintro z r h μ w G X f vs p uc e ⟨rfl,N,sp,K,cs,rfl,l,M,j⟩ u;rw [mn] at h;obtain ⟨o,a,h⟩:=ra h;rw [ae,xq] at a;by_cases g:(20000:Int)<z.nodes+1
 ·rw [if_pos g] at a;cases a;cases h;refine wF (fun y q=>by cases q) l ?_ u;intro J w' le d;refine FA e.i64 g ?_ d;intro O P;exact Yj.res (X:=X) (G:=G) (z:={ z with nodes:=z.nodes+1 }) (p.t le) P
 ·rw [if_neg g] at a;have D:=e.HD g;by_cases A:x.Kind=1
  ·rw [if_pos (.inl A)] at a;cases a;refine lG e.i64 g A j.fn l ?_ u;intro J w' le d;exact Dk C h (X:=X) (p.t le) uc (D.up le) (Se.up le .r j) d
  by_cases F:x.Kind=2
  ·rw [if_pos (.inr F)] at a;cases a;refine xF e.i64 g A F j.fn l ?_ u;intro J w' le d;exact Dk C h (X:=X) (p.t le) uc (D.up le) (Se.up le .r j) d
  rw [if_neg (by rintro (q | q)<;>contradiction)] at a;by_cases H:x.Kind=3
  ·rw [if_pos H] at a;obtain ⟨i,Q,a⟩:=ra a;obtain ⟨c,R,a⟩:=ra a;cases a;obtain ⟨b,q,T,U,g1,g2,⟨up,rfl,hu⟩,-,-⟩:=e.cd.get R;have V:=u.perm (rs':=.ba G.Ka 70 [.map (some X.md),.map (some X.Ac),.map (some X.fb),.int .i64 z.nodes]::.ba G.Ca 85 [vb G.Ka,X.sc,X.nc,vb X.Mb,.int .i64 z.t.state,.int .i64 z.t.box,.int .i64 z.t.Le,X.ec]::.ba b 191 [S c.name,.int .i64 c.v,.pointer up]::(.row X.nc 83 1 ((G.B.drop 1).map Fc.mk).length X.pe::.row X.ec 2 1 z.t.out.length X.Ei::(T++(U++(X.Cd++(X.Hb++rsF)))))) (by simp only [ee.res,g2,List.append_assoc,List.cons_append];classical exact List.perm_iff_count.2 (fun x=>(by simp only [List.count_append,List.count_cons,List.count_nil];ac_rfl)));refine mG e.i64 g A F H ?_ j.fn l ?_ V
   ·intro J w' rs hm le d;refine (MC e.cd ?_ M Q g1 d).mono ?_
    ·intro q m;rw [g2] at m;simp only [List.mem_append,List.mem_cons] at m ⊢;rcases m with m | rfl | m
     ·exact .inr (.inr (.inr (hm _ (by simp [m]))))
     ·exact .inr (.inr (.inl rfl))
     ·exact .inr (.inr (.inr (hm _ (by simp [m]))))
    ·rintro v O ⟨rfl,rfl⟩;exact ⟨rfl,d⟩
   ·intro J w' le d;refine Dk C h (X:=X) (p.t le) uc (D.up le) (Se.up le .r j) (d.perm ?_);simp only [ee.res,g2,List.append_assoc,List.cons_append];classical exact List.perm_iff_count.2 (fun x=>(by simp only [List.count_append,List.count_cons,List.count_nil];ac_rfl))
  rw [if_neg H] at a;by_cases L:x.Kind=20
  ·rw [if_pos L] at a;cases a;refine yF e.i64 g A F H L l ?_ u;intro J w' le d;exact C _ _ _ h (X:=X) (p.t le) uc (D.up le) ⟨rfl,K,cs,rfl,Se.up le .r j⟩ d
  ·rw [if_neg L] at a;cases a;refine nG e.i64 g A F H L l ?_ u;intro J w' z0 W z2 z3 z4 le Y a0 na a2 d;refine C _ _ _ h (X:=X) (p.t le) uc (D.up le) ⟨rfl,z3,z4,sp,none,0,_,_,rfl,Y,M,Na.nil,?_⟩ d;rw [lk];exact ⟨rfl,W,z2,z0,N,K,cs,rfl,l.up le,na,a2,Se.up le .r j,a0⟩
theorem sJ (e:ri E μb Gb da rsF n) (l:List Va) (s:Option Nat) (g:List Int) (k:Sk):Cj E μb Gb da rsF (n+1) (.all l s g k):=by
 rintro z r h μ w G X f vs i uc j ⟨rfl,u,v,sp,od,m,K,cs,rfl,oa,p,b,c⟩ q;obtain ⟨o,a,h⟩:=Sj h;rw [ae] at a;by_cases he:l.length=g.length
 ·rw [if_pos he] at a;cases a;refine BH (by exact_mod_cast he) c.fn oa b ?_ q;intro J w' le d;exact e _ _ _ h (X:=X) (i.t le) uc (j.up le) ⟨od,m,cs,rfl,b.up le,lk.up le .r c⟩ d
 ·rw [if_neg he] at a;obtain ⟨x,y,a⟩:=ra a;cases a;refine kG (by exact_mod_cast he) (show at_ l (g.length:Int)=some x by simpa [at_] using y) oa b ?_ q;intro J w' z0 A z2 z3 z4 z5 le B a0 na a2 a3 a4 d;refine e _ _ _ h (X:=X) (i.t le) uc (j.up le) ⟨rfl,z5,sp,_,_,rfl,B,p,?_⟩ d;rw [Se];exact ⟨rfl,z0,A,z2,z3,z4,u,v,sp,od,m,K,cs,rfl,a0,oa.up le,na,p,a2,b.up le,a3,a4,lk.up le .r c⟩
theorem tJ (d:ri E μb Gb da rsF n) (x:gb) (s:Option Nat) (e:Rg) (k:me):Cj E μb Gb da rsF (n+1) (.cg x s e k):=by
 rintro z r h μ w G X f vs g uc i ⟨rfl,j,sp,l,K,cs,rfl,a,b,he,m⟩ p;obtain ⟨o,c,h⟩:=Sj h;rw [ae] at c;cases c;refine NH a ?_ p;intro J w' z0 q z2 z3 z4 z5 le u a0 na a2 a3 a4 v;refine d _ _ _ h (X:=X) (g.t le) uc (i.up le) ⟨rfl,z5,sp,_,_,rfl,u,b,?_⟩ v;rw [Se];exact ⟨rfl,z4,z0,q,z2,z3,l,j,sp,K,cs,rfl,a4,te.up le .r m,a0,a.up le,na,b,a2,a3,Vg.up le .r he⟩
theorem RH (d:ri E μb Gb da rsF n) (l:List Va) (s:Option Nat) (g:List Int) (k:Sk) (v:Int):Cj E μb Gb da rsF (n+1) (.tf (.all l s g k) v):=by
 rintro z r h μ w G X f vs e uc i ⟨cs,rfl,b⟩ j;rw [Se] at b;obtain ⟨rfl,bc,c2,c3,c4,c5,m,p,sp,od,O,q,u,rfl,x,c,y,A,B,C,D,F,H⟩:=b;obtain ⟨o,a,h⟩:=Sj h;rw [ae] at a;obtain ⟨P,K,a⟩:=ra a;cases a;refine SI K x c y B C D F ?_ j;intro J w' z0 L le M N;exact d _ _ _ h (X:=X) (e.t le) uc (i.up le) ⟨rfl,m,p,sp,z0,L,q,u,rfl,c.up le,A,M,lk.up le .r H⟩ N
theorem SH (K:ri E μb Gb da rsF n) (x:gb) (s:Option Nat) (e:Rg) (k:me) (v:Int):Cj E μb Gb da rsF (n+1) (.tf (.cg x s e k) v):=by
 rintro z r h μ w G X f vs p uc q ⟨cs,rfl,u⟩ y;rw [Se] at u;obtain ⟨rfl,L,Be,M,N,ce,A,O,sp,B,C,rfl,c,D,d,g,i,F,j,l,H⟩:=u;obtain ⟨o,a,h⟩:=Sj h;rw [ae] at a;by_cases b:v=0
 ·rw [if_pos b] at a;cases a;cases h;refine nJ b c d g i j l ?_ y;intro J w' le m;exact ⟨_,rfl,Ri.mk (X:=X) (p.t le) uc (q.up le) ⟨B,C,rfl,te.up le .r D⟩ m⟩
 ·rw [if_neg b] at a;cases a;refine pK b c d g i j l ?_ y;intro J w' z0 P le hB m;refine K _ _ _ h (X:=X) (p.t le) uc (q.up le) ⟨rfl,z0,P,sp,A,_,_,rfl,hB,F,Vg.up le .r H,?_⟩ m;rw [te];exact ⟨rfl,Be,M,N,ce,L,A,O,sp,B,C,rfl,d.up le,g.up le,i.up le,F,j.up le,l.up le,Vg.up le .r H,c.up le,te.up le .r D⟩
theorem TH (d:ri E μb Gb da rsF n) (k:sf):Cj E μb Gb da rsF (n+1) (.Rd (.zero k)):=by
 rintro z r h μ w G X f vs e uc g ⟨cs,rfl,a⟩ i;rw [te] at a;obtain ⟨rfl,m,p,q,rfl,j,b⟩:=a;obtain ⟨o,c,h⟩:=Sj h;rw [ae] at c;cases c;refine mK b.fn j ?_ i;intro J w' le l;exact Dk d h (X:=X) (e.t le) uc (g.up le) (Se.up le .r b) l
theorem LF (c:ri E μb Gb da rsF n) (l:List gb) (s:Option Nat) (e:Rg) (k:me):Cj E μb Gb da rsF (n+1) (.Rd (.stats l s e k)):=by
 rintro z r h μ w G X f vs d uc g ⟨cs,rfl,a⟩ i;rw [te] at a;obtain ⟨rfl,Be,M,N,ce,O,j,P,Q,R,sp,m,p,rfl,q,u,v,x,y,A,B,C,D,F⟩:=a;obtain ⟨o,b,h⟩:=Sj h;rw [ae] at b;cases b;refine nK u q v x A B D ?_ i;intro J w' z0 H le K L;exact c _ _ _ h (X:=X) (d.t le) uc (g.up le) ⟨rfl,z0,H,sp,j,m,p,rfl,K,y,Vg.up le .r C,te.up le .r F⟩ L
theorem UH (d:ri E μb Gb da rsF n) (x:gb) (s:Option Nat) (e:Rg) (k:me):Cj E μb Gb da rsF (n+1) (.Rd (.cg x s e k)):=by
 rintro z r h μ w G X f vs g uc i ⟨cs,rfl,a⟩ j;rw [te] at a;obtain ⟨rfl,Be,K,L,ce,M,l,m,sp,p,q,rfl,u,b,v,y,A,B,C,D,F⟩:=a;obtain ⟨o,c,h⟩:=Sj h;rw [ae] at c;cases c;refine qK u b v A B D ?_ j;intro J w' le H;exact d _ _ _ h (X:=X) (g.t le) uc (i.up le) ⟨rfl,m,sp,l,p,q,rfl,b.up le,y,Vg.up le .r C,te.up le .r F⟩ H
theorem uJ (l:ri E μb Gb da rsF n):Cj E μb Gb da rsF (n+1) (.Rd .fin):=by
 rintro z r h μ w G X f vs d uc e ⟨cs,rfl,b⟩ g;rw [te] at b;obtain ⟨rfl,Be,rfl,i⟩:=b;obtain ⟨o,c,h⟩:=Sj h;rw [ae] at c;cases c;cases h;have j:=g.perm (rs':=.ba G.Ca 85 [vb G.Ka,X.sc,X.nc,vb X.Mb,.int .i64 z.t.state,.int .i64 z.t.box,.int .i64 z.t.Le,X.ec]::.ba G.Ka 70 [.map (some X.md),.map (some X.Ac),.map (some X.fb),.int .i64 z.nodes]::(.row X.nc 83 1 ((G.B.drop 1).map Fc.mk).length X.pe::.row X.ec 2 1 z.t.out.length X.Ei::(X.cd++(X.Cd++(X.Hb++rsF))))) (by simp only [ee.res];classical exact List.perm_iff_count.2 (fun x=>(by simp only [List.count_append,List.count_cons,List.count_nil];ac_rfl)));refine rK i ?_ j;intro J w' le k;have a:=e.up le;refine ⟨_,rfl,Ri.mk (G:=G) (X:=X) (d.t le) uc ⟨a.Td,a.Hd,a.md,a.Ac,a.fb,a.ai,a.now,a.Eb,a.tc,a.out,a.cd,a.Cd,a.Hb,a.vf⟩ rfl (k.perm ?_)⟩;simp only [ee.res,Tc.task];classical exact List.perm_iff_count.2 (fun x=>(by simp only [List.count_append,List.count_cons,List.count_nil];ac_rfl))
theorem vJ (g:ri E μb Gb da rsF n) (d:va):Cj E μb Gb da rsF (n+1) (.Rd (.zj d)):=by
 rintro z r h μ w G X f vs i uc j ⟨cs,rfl,a⟩ k;rw [te] at a;obtain ⟨rfl,Be,Lj,Io,b,El,rfl,l,m,p,q,s⟩:=a;obtain ⟨o,c,h⟩:=Sj h;rw [ae] at c;cases c;refine sK l m p q ?_ k;intro J w' z0 u z2 le hB v x;have e:te E J G .fin 36 [vb b]:=by rw [te];exact ⟨rfl,b,rfl,s.up le⟩
 refine g _ _ _ h (X:=X) (i.t le) uc (j.up le) ⟨rfl,u,z2,none,z0,_,_,rfl,hB,rfl,?_,e⟩ x;rw [Vg];exact ⟨_,_,v,e⟩
end Go.Proofs.YticaondbdmcpoaaGreatDoor
set_option maxRecDepth 100000
set_option maxHeartbeats 4000000
namespace Go.Proofs.YticaondbdmcpoaaGreatDoor
open Go.hc Go.Mc Go.Y
variable {E:oe}{μb:M}{Gb:Wd}{da:World}{rsF:List Qa}{n:Nat}
theorem sg {α:Type}{l:List α}{i:Nat}{x:α}(h:at_ l (i:Int)=some x):l[i]?=some x:=by simpa [at_] using h
theorem gz {α:Type}{l:List α}{i:Int}{x:α}(h:at_ l i=some x):∃ j:Nat,i=(j:Int)∧l[j]?=some x:=by
 obtain ⟨b,c,a⟩:=Ur h;exact ⟨i.toNat,by omega,a⟩
theorem uf.put {α:Type}{R:α→Nat→Qa→Prop}{g:α}{b:Nat}{r r':Qa}{j:List Qa}(k:R g b r'):∀ {xs:List α}{bs:List Nat}{a:List Qa}{i:Nat},uf R xs bs (a++r::j)→a.length=i→bs[i]?=some b→uf R (xs.set i g) bs (a++r'::j)
 | x::xs,c::bs,[],0,⟨l,e⟩,_,f=>by cases f; exact ⟨k,e⟩
 | x::xs,c::bs,[],i+1,_,d,_=>by simp at d
 | x::xs,c::bs,q::a,0,_,d,_=>by simp at d
 | x::xs,c::bs,q::a,i+1,⟨l,e⟩,d,f=>⟨l,uf.put k e (by simpa using d) (by simpa using f)⟩
 | [],[],[],_,h,_,_=>h.elim
 | [],[],_::_,_,h,_,_=>h.elim
 | [],_::_,[],_,h,_,_=>h.elim
 | [],_::_,_::_,_,h,_,_=>h.elim
 | _::_,[],[],_,h,_,_=>h.elim
 | _::_,[],_::_,_,h,_,_=>h.elim
theorem uf.at {α:Type}{R:α→Nat→Qa→Prop}:∀ {xs:List α}{bs:List Nat}{rs:List Qa}{i:Nat}{x:α},uf R xs bs rs→xs[i]?=some x→∃ b r a c,bs[i]?=some b∧rs=a++r::c∧R x b r∧a.length=i:=by
 intro xs bs rs i x h d;obtain ⟨b,r,a,c,e,f,g,j,-⟩:=h.get d;exact ⟨b,r,a,c,e,f,g,j⟩
section
variable {μ:M}{w:World}{G:Wd}{X:ee}{z:Tc}
theorem jD {j:Nat}{c:Od}{b:Nat}(i:kg E μ G z X) (l:z.boxes[j]?=some c) (m:G.bb[j]?=some b) (n:ja μ da w (X.res G z rsF)):∃ a k rs,Na μ a k c.words∧ja μ da w (.ba b 76 [.int .i64 c.cap,.slice a c.words.length k]::rs) ∧
  ∀ {J:M}{w':World}{e:Option Addr}{k':Nat}{ws:List Int},ha μ J→Na J e k' ws→ja J da w' (.ba b 76 [.int .i64 c.cap,.slice e ws.length k']::rs)→∃ f,kg E J G { z with boxes:=z.boxes.set j { c with words:=ws } } f∧ja J da w' (f.res G { z with boxes:=z.boxes.set j { c with words:=ws } } rsF)∧f.Mb=X.Mb:=by
 obtain ⟨ed,q,g,h,g1,g2,⟨a,k,rfl,o⟩,g3⟩:=uf.at i.Hb l;obtain rfl:ed=b:=Option.some.inj (g1.symm.trans m);refine ⟨a,k,.ba G.Ka 70 [.map (some X.md),.map (some X.Ac),.map (some X.fb),.int .i64 z.nodes]::.ba G.Ca 85 [vb G.Ka,X.sc,X.nc,vb X.Mb,.int .i64 z.t.state,.int .i64 z.t.box,.int .i64 z.t.Le,X.ec]::(.row X.nc 83 1 ((G.B.drop 1).map Fc.mk).length X.pe::.row X.ec 2 1 z.t.out.length X.Ei::(X.cd++(X.Cd++(g++(h++rsF))))),o,n.perm (by simp only [ee.res,g2,List.append_assoc,List.cons_append];classical exact List.perm_iff_count.2 (fun x=>(by simp only [List.count_append,List.count_cons,List.count_nil];ac_rfl))),?_⟩;intro J w' e k' ws le p s;have d:=i.up le;have u:uf (Vq J) (z.boxes.set j { c with words:=ws }) G.bb (g++.ba ed 76 [.int .i64 c.cap,.slice e ws.length k']::h):=
  uf.put (r:=.ba ed 76 [.int .i64 c.cap,.slice a c.words.length k]) ⟨e,k',rfl,p⟩ (g2 ▸ d.Hb) g3 g1
 refine ⟨{ X with Hb:=g++.ba ed 76 [.int .i64 c.cap,.slice e ws.length k']::h },⟨d.Td,d.Hd,d.md,d.Ac,d.fb,d.ai,d.now,d.Eb,d.tc,d.out,d.cd,d.Cd,u,d.vf⟩,s.perm ?_,rfl⟩;simp only [ee.res,List.append_assoc,List.cons_append];classical exact List.perm_iff_count.2 (fun x=>(by simp only [List.count_append,List.count_cons,List.count_nil];ac_rfl))
end
theorem bC (L:ri E μb Gb da rsF n){Hc:Ie}{k:sf}{z:Tc}{r:Option (Option me×Tc)}{o:nj}(d:Qr E Hc k z=some o) (h:Lp E n o=some r){μ:M}{w:World}{G:Wd}{X:ee}{K:Nat}{cs:List Value}(s:ha μb μ) (uc:Gb.le G) (N:kg E μ G z X) (l:te E μ G (.recv Hc k) K cs) (O:ja μ da w (X.res G z rsF)):Bc Tryz.prog K ([]++cs) w Tk (zo r) (Ri E μb Gb da rsF) (Yj μb da rsF):=by
 have P:=l;rw [te] at l;obtain ⟨rfl,U,Be,V,W,Y,b,Z,bb,rfl,⟨j,Q,R⟩,u,x,y,A,B,C⟩:=l;rw [Qr,Q,Option.bind_some] at d;obtain ⟨c,S,d⟩:=ra d;have D:=sg S;obtain ⟨a,q,rs,m,F,back⟩:=jD N D R O;cases hw:c.words with
 | nil =>
  rw [hw] at d;cases d;cases h;refine EF (ws:=c.words) (by rw [hw];rfl) m u x y A B ?_ F;intro J w' le p;obtain ⟨H,f,g,-⟩:=back le (m.up le) p;have e:{ z with boxes:=z.boxes.set j { c with words:=c.words } }=z:=by
   obtain ⟨t,bs,Jo⟩:=z;simp only [Tc.mk.injEq,true_and,and_true];exact List.ext_getElem? fun i=>by
    rw [List.getElem?_set];split
    ·rename_i e;subst e;split
     ·exact D.symm
     ·rename_i q;exact (List.getElem?_eq_none (by omega)).symm
    ·rfl
  rw [e] at f g;exact aC (s.t le) uc f (te.up le .r P) g
 | cons v ws =>
  rw [hw] at d;cases d;refine FF (ws:=c.words) (v:=v) (ws':=ws) (by rw [hw];simp;omega) (by rw [hw];rfl) (by rw [hw,cut,if_pos (by simp;omega)];simp) C.fn m u x y A B ?_ F;intro J w' z0 gc le T p;obtain ⟨H,f,g,-⟩:=back le T p;exact Dk L h (X:=H) (s.t le) uc f (Se.up le .r C) g
theorem cC (Z:ri E μb Gb da rsF n){Hc:Ie}{v:Int}{k:me}{z:Tc}{r:Option (Option me×Tc)}{o:nj}(d:Rr E Hc v k z=some o) (h:Lp E n o=some r){μ:M}{w:World}{G:Wd}{X:ee}{K:Nat}{cs:List Value}(u:ha μb μ) (uc:Gb.le G) (N:kg E μ G z X) (m:te E μ G (.send Hc v k) K cs) (O:ja μ da w (X.res G z rsF)):Bc Tryz.prog K ([]++cs) w Tk (zo r) (Ri E μb Gb da rsF) (Yj μb da rsF):=by
 have P:=m;rw [te] at m;obtain ⟨rfl,bb,Be,gc,lc,Fh,rc,b,Q,R,rfl,⟨j,S,T⟩,x,y,A,B,C,D,U⟩:=m;rw [Rr,S,Option.bind_some] at d;obtain ⟨c,V,d⟩:=ra d;have F:=sg V;obtain ⟨a,q,rs,p,H,back⟩:=jD N F T O;by_cases f:(c.words.length:Int)=c.cap
 ·rw [if_pos f] at d;cases d;cases h;refine CF (ws:=c.words) f p x y A B C D ?_ H;intro J w' le s;obtain ⟨L,g,l,-⟩:=back le (p.up le) s;have e:{ z with boxes:=z.boxes.set j { c with words:=c.words } }=z:=by
   obtain ⟨t,bs,Jo⟩:=z;simp only [Tc.mk.injEq,true_and,and_true];exact List.ext_getElem? fun i=>by
    rw [List.getElem?_set];split
    ·rename_i e;subst e;split
     ·exact F.symm
     ·rename_i q;exact (List.getElem?_eq_none (by omega)).symm
    ·rfl
  rw [e] at g l;exact aC (u.t le) uc g (te.up le .r P) l
 ·rw [if_neg f] at d;obtain ⟨ws,W,d⟩:=ra d;cases d;cases h;refine DF (ws:=c.words) (ws':=ws) f W p x y A B C D ?_ H;intro J w' z0 fd le Y s;obtain ⟨L,g,l,-⟩:=back le Y s;exact ⟨_,rfl,Ri.mk (X:=L) (u.t le) uc g ⟨Q,R,rfl,te.up le .r U⟩ l⟩
theorem wG (b:ri E μb Gb da rsF n) (Hc:Ie) (k:sf):Cj E μb Gb da rsF (n+1) (.Rd (.recv Hc k)):=by
 rintro z r h μ w G X f vs c uc d ⟨cs,rfl,e⟩ g;obtain ⟨o,a,h⟩:=Sj h;rw [ae] at a;exact bC b a h c uc d e g
theorem xG (b:ri E μb Gb da rsF n) (Hc:Ie) (v:Int) (k:me):Cj E μb Gb da rsF (n+1) (.Rd (.send Hc v k)):=by
 rintro z r h μ w G X f vs c uc d ⟨cs,rfl,e⟩ g;obtain ⟨o,a,h⟩:=Sj h;rw [ae] at a;exact cC b a h c uc d e g
theorem VH (m:ri E μb Gb da rsF n) (Hc:Ie) (k:sf):Cj E μb Gb da rsF (n+1) (.recv Hc k):=by
 rintro z r h μ w G X f vs p uc a ⟨rfl,K,cs,rfl,q⟩ s;obtain ⟨o,e,h⟩:=Sj h;rw [ae] at e;have d:=e;rw [Qr] at d;obtain ⟨i,g,d⟩:=ra d;obtain ⟨c,u,-⟩:=ra d;obtain ⟨j,rfl,v⟩:=gz u;obtain ⟨b,-,-,-,l,-⟩:=uf.at a.Hb v;refine pJ (a.ai Hc j b g l) a.Ac ?_ s;intro J w' z0 x z2 z3 z4 le a0 na a2 a3 a4 y;refine bC m e h (X:=X) (p.t le) uc (a.up le) ?_ y;rw [te];exact ⟨rfl,z3,z0,x,z4,z2,b,K,cs,rfl,⟨j,g,l⟩,a3,a0,na,a4,a2,Se.up le .r q⟩
theorem WH (m:ri E μb Gb da rsF n) (Hc:Ie) (v:Int) (k:me):Cj E μb Gb da rsF (n+1) (.send Hc v k):=by
 rintro z r h μ w G X f vs p uc a ⟨rfl,K,cs,rfl,q⟩ s;obtain ⟨o,e,h⟩:=Sj h;rw [ae] at e;have d:=e;rw [Rr] at d;obtain ⟨i,g,d⟩:=ra d;obtain ⟨c,u,-⟩:=ra d;obtain ⟨j,rfl,x⟩:=gz u;obtain ⟨b,-,-,-,l,-⟩:=uf.at a.Hb x;refine oJ (a.ai Hc j b g l) a.Ac ?_ s;intro J w' z0 y z2 z3 z4 z5 le a0 na a2 a3 a4 a5 A;refine cC m e h (X:=X) (p.t le) uc (a.up le) ?_ A;rw [te];exact ⟨rfl,z4,z0,y,z5,z2,z3,b,K,cs,rfl,⟨j,g,l⟩,a4,a0,na,a5,a2,a3,te.up le .r q⟩
end Go.Proofs.YticaondbdmcpoaaGreatDoor
set_option maxRecDepth 100000
set_option maxHeartbeats 4000000
namespace Go.Proofs.YticaondbdmcpoaaGreatDoor
open Go.hc Go.Mc Go.Y
variable {E:oe}{μb:M}{Gb:Wd}{da:World}{rsF:List Qa}{n:Nat}
theorem wJ {c d s1 s2:List Qa}{x q:Qa}(h:c++x::d=s1++q::s2) (g:s1.length≠c.length):∃ t,(c++d).Perm (q::t):=by
 rcases Nat.lt_or_ge s1.length c.length with oa | oa
 ·have e:c[s1.length]?=some q:=by
   have:=congrArg (fun l=>l[s1.length]?) h;simpa [List.getElem?_append_left oa] using this
  obtain ⟨a,b,rfl⟩:=List.append_of_mem (List.mem_of_getElem? e);exact ⟨a++(b++d),by rw [List.append_assoc];exact List.perm_middle⟩
 ·have e:(x::d)[s1.length - c.length]?=some q:=by
   have:=congrArg (fun l=>l[s1.length]?) h;simpa [List.getElem?_append_right oa] using this
  obtain ⟨k,f⟩:∃ k,s1.length - c.length=k+1:=⟨s1.length - c.length - 1,by omega⟩;rw [f,List.getElem?_cons_succ] at e;obtain ⟨a,b,rfl⟩:=List.append_of_mem (List.mem_of_getElem? e);exact ⟨c++(a++b),by rw [← List.append_assoc,← List.append_assoc];exact List.perm_middle⟩
theorem Wx {z:Tc}{g:Nat}{c:Eg}{f:Gd→Eg→Eg}{u:Nat}(a:z.t.mc[g]?=some c):(z.task fun t=>{ t.Rl g (f t) with now:=u })=z.task fun t=>{ t with mc:=t.mc.set g (f z.t c),now:=u }:=by
 simp only [Tc.task,Gd.Rl,a]
theorem MF {z:Tc}{g:Nat}{c bc:Eg}{f:Eg→Eg}{u:Nat}(a:z.t.mc[g]?=some c):((z.task fun t=>{ t with mc:=t.mc.set g bc,now:=u }).task fun t=>t.Rl g f)=z.task fun t=>{ t with mc:=t.mc.set g (f bc),now:=u }:=by
 have:(z.t.mc.set g bc)[g]?=some bc:=List.getElem?_set_self (List.getElem?_eq_some_iff.1 a).1;simp only [Tc.task,Gd.Rl,this,List.set_set]
section
variable {μ:M}{w:World}{G:Wd}{X:ee}{z:Tc}
theorem hz {g:Nat}{c:Eg}{b:Nat}(k:kg E μ G z X) (y:z.t.mc[g]?=some c) (A:G.B[g]?=some b) (C:ja μ da w (X.res G z rsF)):∃ d ap up e on rs,Ke μ d c.jm∧Aj G ap c.args∧hv G up c.up∧ts E μ G e c.back∧ts E μ G on c.dm ∧
  ja μ da w (.ba b 124 [d,.pointer ap,.bool c.begun,.bool c.going,.bool c.ended,up,e,on]::.ba G.Ca 85 [vb G.Ka,X.sc,X.nc,vb X.Mb,.int .i64 z.t.state,.int .i64 z.t.box,.int .i64 z.t.Le,X.ec]::rs) ∧
  (∀ {j:Nat}{c2:Eg}{Vd:Nat},j≠g→z.t.mc[j]?=some c2→G.B[j]?=some Vd→∃ l m D go2 F n o p t,rs.Perm (.ba Vd 124 [l,m,.bool D,.bool go2,.bool F,n,o,p]::t)) ∧
  ∀ {J:M}{w':World}{c':Eg}{h i:Nat}{f:List Value},ha μ J→ks E J G c' b (.ba b 124 f)→G.B[i]?=some h →
   ja J da w' (.ba b 124 f::.ba G.Ca 85 [vb G.Ka,X.sc,X.nc,vb h,.int .i64 z.t.state,.int .i64 z.t.box,.int .i64 z.t.Le,X.ec]::rs) →
   ∃ v,kg E J G (z.task fun t=>{ t with mc:=t.mc.set g c',now:=i }) v∧ja J da w' (v.res G (z.task fun t=>{ t with mc:=t.mc.set g c',now:=i }) rsF):=by
 obtain ⟨ed,q,s,u,g1,g2,⟨d,ap,up,e,on,rfl,La,H,hu,K,L⟩,g3⟩:=uf.at k.Cd y;obtain rfl:ed=b:=Option.some.inj (g1.symm.trans A);refine ⟨d,ap,up,e,on,.ba G.Ka 70 [.map (some X.md),.map (some X.Ac),.map (some X.fb),.int .i64 z.nodes]::(.row X.nc 83 1 ((G.B.drop 1).map Fc.mk).length X.pe::.row X.ec 2 1 z.t.out.length X.Ei::(X.cd++((s++u)++(X.Hb++rsF)))),La,H,hu,K,L,C.perm (by simp only [ee.res,g2,List.append_assoc,List.cons_append];classical exact List.perm_iff_count.2 (fun x=>(by simp only [List.count_append,List.count_cons,List.count_nil];ac_rfl))),?_,?_⟩
 ·intro j c2 Vd V N O;obtain ⟨Ub,q,s1,s2,ia,P,⟨l,m,n,o,p,rfl,-⟩,W⟩:=uf.at k.Cd N;obtain rfl:Ub=Vd:=Option.some.inj (ia.symm.trans O);obtain ⟨t,Q⟩:=wJ (g2.symm.trans P) (by omega);refine ⟨l,.pointer m,c2.begun,c2.going,c2.ended,n,o,p,.ba G.Ka 70 [.map (some X.md),.map (some X.Ac),.map (some X.fb),.int .i64 z.nodes]::(.row X.nc 83 1 ((G.B.drop 1).map Fc.mk).length X.pe::.row X.ec 2 1 z.t.out.length X.Ei::(X.cd++(t++(X.Hb++rsF)))),?_⟩;refine ((((Q.append_right (X.Hb++rsF)).append_left X.cd).cons _).cons _).cons _ |>.trans ?_;simp only [List.cons_append];classical exact List.perm_iff_count.2 (fun x=>(by simp only [List.count_append,List.count_cons,List.count_nil];ac_rfl))
 ·intro J w' c' h i f le R S T;have a:=k.up le;have U:uf (ks E J G) (z.t.mc.set g c') G.B (s++.ba ed 124 f::u):=uf.put (r:=.ba ed 124 [d,.pointer ap,.bool c.begun,.bool c.going,.bool c.ended,up,e,on]) R (g2 ▸ a.Cd) g3 g1;refine ⟨{ X with Mb:=h,Cd:=s++.ba ed 124 f::u },⟨a.Td,a.Hd,a.md,a.Ac,a.fb,a.ai,S,a.Eb,a.tc,a.out,a.cd,U,a.Hb,by show (z.t.mc.set g c').length≤31;rw [List.length_set];exact a.vf⟩,T.perm ?_⟩;simp only [ee.res,Tc.task,List.append_assoc,List.cons_append];classical exact List.perm_iff_count.2 (fun x=>(by simp only [List.count_append,List.count_cons,List.count_nil];ac_rfl))
theorem kg.xJ (a:kg E μ G z X):∃ c,z.t.mc[z.t.now]?=some c:=by
 have h:=(List.getElem?_eq_some_iff.1 a.now).1;rw [a.Cd.len.1] at h;exact ⟨_,List.getElem?_eq_getElem h⟩
end
theorem XH (s:ri E μb Gb da rsF n) (g:Nat):Cj E μb Gb da rsF (n+1) (.Rd (.done g)):=by
 rintro z r h μ w G X f vs v uc x ⟨cs,rfl,d⟩ y;rw [te] at d;obtain ⟨rfl,P,Be,b,rfl,A,B,C⟩:=d;obtain ⟨o,a,h⟩:=Sj h;rw [ae] at a;obtain ⟨c,e,a⟩:=ra a;obtain ⟨u,hu,a⟩:=ra a;obtain ⟨bb,i,a⟩:=ra a;cases a;rw [Lp,Wx e] at h;obtain ⟨D,ap,up,Q,on,rs,ia,F,j,k,H,K,-,back⟩:=hz x e A y;rw [hu] at j;obtain ⟨l,m,rfl⟩:=j;rw [i] at k;obtain ⟨p,q,rfl,d⟩:=k;refine qJ d.fn B C ?_ K;intro J w' le L;obtain ⟨M,N,O⟩:=back (c':={ c with ended:=true,going:=false }) le ⟨D,ap,vb l,Fg p q,on,rfl,ia.up le,F,hu ▸ ⟨l,m,rfl⟩,i ▸ ⟨p,q,rfl,Se.up le .r d⟩,H.up le .r⟩ m L;exact Dk s h (X:=M) (v.t le) uc N (Se.up le .r d) O
theorem NF (id:ri E μb Gb da rsF n){g:Nat}{v:Int}{k:sf}{z:Tc}{r:Option (Option me×Tc)}{o:nj}(a:Gr g v k z=some o) (h:Lp E n o=some r){μ:M}{w:World}{G:Wd}{X:ee}{b K:Nat}{cs:List Value}(y:ha μb μ) (uc:Gb.le G) (p:kg E μ G z X) (A:G.B[g]?=some b) (md:Se E μ G k K cs) (Fd:ja μ da w (X.res G z rsF)):Bc Tryz.prog 110 [vb G.Ca,vb b,.int .i64 v,Fg K cs] w Tk (zo r) (Ri E μb Gb da rsF) (Yj μb da rsF):=by
 rw [Gr] at a;obtain ⟨c,C,a⟩:=ra a;obtain ⟨s,ap,up,P,on,rs,ia,L,Id,be,N,m,two,back⟩:=hz p C A Fd;have same:∀ {J:M}{w':World},ha μ J→ja J da w' (.ba b 124 [s,.pointer ap,.bool c.begun,.bool c.going,.bool c.ended,up,P,on]::.ba G.Ca 85 [vb G.Ka,X.sc,X.nc,vb X.Mb,.int .i64 z.t.state,.int .i64 z.t.box,.int .i64 z.t.Le,X.ec]::rs)→∃ f,kg E J G z f∧ja J da w' (f.res G z rsF):=by
  intro J w' le j;obtain ⟨f,d,l⟩:=back (c':=c) le ⟨s,ap,up,P,on,rfl,ia.up le,L,Id,be.up le .r,N.up le .r⟩ p.now j;have e:(z.task fun t=>{ t with mc:=t.mc.set g c,now:=z.t.now })=z:=by
   have:z.t.mc.set g c=z.t.mc:=List.ext_getElem? fun i=>by
    rw [List.getElem?_set];split
    ·rename_i e;subst e;split
     ·exact C.symm
     ·rename_i q;exact (List.getElem?_eq_none (by omega)).symm
    ·rfl
   obtain ⟨t,bs,Jo⟩:=z;simp only [Tc.task] at this ⊢;rw [this]
  rw [e] at d l;exact ⟨f,d,l⟩
 by_cases D:c.ended=true
 ·rw [if_pos D] at a;cases a;cases h;rw [D] at m;refine GF ?_ m;intro J w' le j;obtain ⟨f,d,l⟩:=same le (D ▸ j);exact pt (y.t le) uc d l
 rw [if_neg D] at a;have u:c.ended=false:=by simpa using D
 by_cases O:c.going=true
 ·rw [if_pos (.inl O)] at a;cases a;cases h;rw [u,O] at m;refine HF ?_ m;intro J w' le j;obtain ⟨f,d,l⟩:=same le (by rw [u,O];exact j);exact pt (y.t le) uc d l
 have Q:c.going=false:=by simpa using O
 by_cases R:g=z.t.now
 ·rw [if_pos (.inr R)] at a;cases a;cases h;obtain rfl:b=X.Mb:=Option.some.inj (A.symm.trans (R ▸ p.now));rw [u,Q] at m;refine tG ?_ m;intro J w' le j;obtain ⟨f,d,l⟩:=same le (by rw [u,Q];exact j);exact pt (y.t le) uc d l
 rw [if_neg (by rintro (q | q)<;>contradiction)] at a;obtain ⟨c2,ce⟩:=kg.xJ p;obtain ⟨S,T,U,go2,V,W,Y,Z,t,bb⟩:=two (Ne.symm R) ce p.now;rw [u,Q] at m;have l:=m.perm ((bb.cons _).cons _);have F:=l.perm (rs':=.ba b 124 [s,.pointer ap,.bool c.begun,.bool false,.bool false,up,P,on]::.ba X.Mb 124 [S,T,.bool U,.bool go2,.bool V,W,Y,Z]::.ba G.Ca 85 [vb G.Ka,X.sc,X.nc,vb X.Mb,.int .i64 z.t.state,.int .i64 z.t.box,.int .i64 z.t.Le,X.ec]::t) (by classical exact List.perm_iff_count.2 (fun x=>(by simp only [List.count_append,List.count_cons,List.count_nil];ac_rfl)));have nd:b≠X.Mb:=by
  have:=F.ti;simp [blocks,Qa.block] at this;exact this.1.1
 by_cases H:c.begun=true
 ·rw [if_pos H] at a;obtain ⟨q,rd,a⟩:=ra a;cases a;rw [Lp,Wx C] at h;rw [rd] at N;obtain ⟨gc,lc,rfl,a⟩:=N;rw [H] at F;refine IF nd a.fn ?_ F;intro J w' le j;have rc:=(j.perm (rs':=.ba b 124 [s,.pointer ap,.bool true,.bool true,.bool false,vb X.Mb,Fg K cs,Fg gc lc]::.ba G.Ca 85 [vb G.Ka,X.sc,X.nc,vb b,.int .i64 z.t.state,.int .i64 z.t.box,.int .i64 z.t.Le,X.ec]::.ba X.Mb 124 [S,T,.bool U,.bool go2,.bool V,W,Y,Z]::t) (by classical exact List.perm_iff_count.2 (fun x=>(by simp only [List.count_append,List.count_cons,List.count_nil];ac_rfl)))).perm ((bb.symm.cons _).cons _);obtain ⟨f,d,fd⟩:=back (c':={ c with going:=true,up:=some z.t.now,back:=some k }) le ⟨s,ap,vb X.Mb,Fg K cs,Fg gc lc,by rw [H,u],ia.up le,L,⟨X.Mb,p.now,rfl⟩,⟨K,cs,rfl,Se.up le .r md⟩,rd ▸ ⟨gc,lc,rfl,Se.up le .r a⟩⟩ A rc;exact Dk id h (X:=f) (y.t le) uc d (Se.up le .r a) fd
 ·have ge:c.begun=false:=by simpa using H
  rw [if_neg H] at a;cases a;rw [Lp,Wx C,MF C] at h;rw [ge] at F;refine JF nd ia ?_ F;intro J w' z0 wd z2 z3 z4 le hB a0 na a2 j;have rc:=(j.perm (rs':=.ba b 124 [s,.pointer ap,.bool true,.bool true,.bool false,vb X.Mb,Fg K cs,on]::.ba G.Ca 85 [vb G.Ka,X.sc,X.nc,vb b,.int .i64 z.t.state,.int .i64 z.t.box,.int .i64 z.t.Le,X.ec]::.ba X.Mb 124 [S,T,.bool U,.bool go2,.bool V,W,Y,Z]::t) (by classical exact List.perm_iff_count.2 (fun x=>(by simp only [List.count_append,List.count_cons,List.count_nil];ac_rfl)))).perm ((bb.symm.cons _).cons _);obtain ⟨f,d,fd⟩:=back (c':={ c with going:=true,up:=some z.t.now,back:=some k,begun:=true }) le ⟨s,ap,vb X.Mb,Fg K cs,on,by rw [u],ia.up le,L,⟨X.Mb,p.now,rfl⟩,⟨K,cs,rfl,Se.up le .r md⟩,N.up le .r⟩ A rc;have La:te E J G (.done g) 152 [vb wd,vb z0]:=by rw [te];exact ⟨rfl,wd,z0,b,rfl,A,na,a0⟩
  refine id _ _ _ h (X:=f) (y.t le) uc d ⟨rfl,z3,z4,ap,z2,_,_,rfl,hB,L,?_,La⟩ fd;rw [Vg];exact ⟨_,_,a2,La⟩
theorem OF (c:ri E μb Gb da rsF n) (g:Nat) (v:Int) (k:sf):Cj E μb Gb da rsF (n+1) (.resume g v k):=by
 rintro z r h μ w G X f vs d uc e ⟨rfl,b,K,cs,i,rfl,j⟩ l;obtain ⟨o,a,h⟩:=Sj h;rw [ae] at a;exact NF c a h d uc e i j l
end Go.Proofs.YticaondbdmcpoaaGreatDoor
set_option maxRecDepth 100000
set_option maxHeartbeats 4000000
namespace Go.Proofs.YticaondbdmcpoaaGreatDoor
open Go.hc Go.Mc Go.Y
variable {E:oe}{μb:M}{Gb:Wd}{da:World}{rsF:List Qa}{n:Nat}
theorem uD {α:Type}(x:α) (l:List α):cut (x::l) 1 ((x::l).length:Nat)=some l:=by rw [cut,if_pos (by simp;omega)];simp
theorem uf.app {α:Type}{R:α→Nat→Qa→Prop}{ys:List α}{cs:List Nat}{a:List Qa}(k:uf R ys cs a):∀ {xs:List α}{bs:List Nat}{rs:List Qa},uf R xs bs rs→uf R (xs++ys) (bs++cs) (rs++a)
 | [],[],[],_=>k
 | x::xs,b::bs,r::rs,⟨c,d⟩=>⟨c,uf.app k d⟩
 | [],[],_::_,h=>h.elim
 | [],_::_,_,h=>h.elim
 | _::_,[],_,h=>h.elim
 | _::_,_::_,[],h=>h.elim
theorem kg.grow {μ J:M}{G:Wd}{X:ee}{z:Tc}{new:List Jh}{bs:List Nat}{gs:List Qa}(b:kg E μ G z X) (le:ha μ J) (c:uf (po { G with A:=G.A++bs }) new bs gs):kg E J { G with A:=G.A++bs } (z.task fun t=>{ t with xe:=z.t.xe++new }) { X with cd:=X.cd++gs }:=by
 have a:=b.up le;have uc:G.le { G with A:=G.A++bs }:=Wd.le.app;exact ⟨a.Td,a.Hd,a.md,a.Ac,a.fb,a.ai,a.now,a.Eb.up (ha.r) uc,a.tc,a.out,uf.app c (a.cd.imp fun _ _ _ q=>q.up uc),a.Cd.imp fun _ _ _ q=>q.up (ha.r) uc,a.Hb,a.vf⟩
theorem yG (L:ri E μb Gb da rsF n) (l:List gb) (s:Option Nat) (e:Rg) (k:me):Cj E μb Gb da rsF (n+1) (.stats l s e k):=by
 rintro z r h μ w G X f vs g uc d ⟨rfl,M,N,sp,v,K,cs,rfl,oa,A,he,D⟩ i;obtain ⟨o,a,h⟩:=Sj h;cases l with
 | nil =>
  rw [ae] at a;cases a;cases h;refine BF rfl oa ?_ i;intro J w' le b;exact ⟨_,rfl,Ri.mk (X:=X) (g.t le) uc (d.up le) ⟨K,cs,rfl,te.up le .r D⟩ b⟩
 | cons x l =>
 rw [ae,xq] at a;have u:¬ ((x::l).length:Int)=0:=by simp;omega
 have j:at_ (x::l) 0=some x:=rfl;by_cases c:(20000:Int)<z.nodes+1
 ·rw [if_pos c] at a;cases a;cases h;refine ZE u j (fun y q=>by cases q) oa ?_ i;intro J w' z0 m z2 z3 le a0 na a2 a3 b;refine FA d.i64 c ?_ b;intro W R;exact Yj.res (X:=X) (G:=G) (z:={ z with nodes:=z.nodes+1 }) (g.t le) R
 rw [if_neg c] at a;have B:=d.HD c;by_cases p:x.Kind=6
 ·rw [if_pos p] at a;cases a;cases h;cases e with
  | ret q =>
   rw [Vg] at he;obtain ⟨O,P,F,Q⟩:=he;refine EA u j d.i64 c p oa F ?_ i;intro J w' z0 m z2 z3 le a0 na a2 a3 b;exact ⟨_,rfl,Ri.mk (X:=X) (g.t le) uc (B.up le) rfl b⟩
  | stop q =>
   rw [Vg] at he;obtain ⟨O,P,F,Q⟩:=he;refine EA u j d.i64 c p oa F ?_ i;intro J w' z0 m z2 z3 le a0 na a2 a3 b;exact ⟨_,rfl,Ri.mk (X:=X) (g.t le) uc (B.up le) ⟨O,P,rfl,te.up le .r Q⟩ b⟩
 rw [if_neg p] at a;by_cases C:x.Kind=4
 ·rw [if_pos C] at a;cases a;refine zE u j d.i64 c p C oa ?_ i;intro J w' z0 m z2 z3 z4 z5 le H a0 na a2 a3 a4 b;refine L _ _ _ h (X:=X) (g.t le) uc (B.up le) ⟨rfl,z5,sp,v,_,_,rfl,H,A,Vg.up le .r he,?_⟩ b;rw [te];exact ⟨rfl,z0,m,z4,z2,z3,v,x::l,M,N,sp,K,cs,rfl,a0,uD x l,oa.up le,na,A,a4,a2,Vg.up le .r he,a3,te.up le .r D⟩
 ·rw [if_neg C] at a;cases a;refine aF u j d.i64 c p C oa ?_ i;intro J w' z0 m z2 z3 z4 z5 S T U le H a0 na a2 a3 a4 V a5 Nb b;refine L _ _ _ h (X:=X) (g.t le) uc (B.up le) ⟨rfl,T,sp,_,_,rfl,H,A,?_⟩ b;rw [Se];exact ⟨rfl,z5,S,z0,m,z3,z4,z2,z0,z3,v,v,x,U,M,N,sp,K,cs,rfl,j,V,a5,Nb,a0,oa.up le,na,a3,Vg.up le .r he,a4,te.up le .r D,A,a2,a0,a3,Vg.up le .r he⟩
theorem zG (U:ri E μb Gb da rsF n) (l:List gb) (s:Option Nat) (e:Rg) (k:me) (v:Int):Cj E μb Gb da rsF (n+1) (.tf (.stat l s e k) v):=by
 rintro z r h μ w G X f vs C uc j ⟨cs,rfl,V⟩ D;rw [Se] at V;obtain ⟨rfl,rg,mv,bc,c2,c3,c4,bi,Be,ce,fd,rd,x,ci,wd,Fd,sp,Id,be,rfl,id,F,Ac,H,m1,oa,m2,m3,ge,m4,V,y,K,mt,L,he⟩:=V;obtain ⟨o,a,h⟩:=Sj h;cases l with
 | nil=>cases id
 | cons m l =>
 obtain rfl:m=x:=wb id;replace a:nn m l s e k v z=some o:=a;rw [nn.eq_def] at a;have next:∀ {J:M}{Zf:Wd}{bb:Option Nat}{W:Option Addr}{c:Nat},ha μ J→G.le Zf→Aj Zf W bb→Ba J c 0 [.pointer W]→te E J Zf (.stats l bb e k) 60 [vb bc,vb c2,vb c,vb c3,vb c4]:=by
  intro J Zf bb W c le O p u;rw [te];exact ⟨rfl,bc,c2,c,c3,c4,rd,m::l,wd,Fd,W,Id,be,rfl,O.Ca ▸ m1.up le,uD m l,oa.up le,m2.up le,p,u,m3.up le,Vg.up le O ge,m4.up le,te.up le O V⟩
 by_cases p:m.Kind=1
 ·rw [if_pos p] at a;cases a;cases h;refine jJ p F Ac H K mt L ?_ D;intro J w' z0 Q le na g;have O:G.le { G with A:=G.A++[z0] }:=Wd.le.app;have ne:(G.A++[z0])[z.t.xe.length]?=some z0:=by rw [← j.cd.len.1];simp
  refine ⟨_,rfl,Ri.mk (C.t le) (uc.t O) (kg.grow j le (new:=[⟨m.Name,v,s⟩]) (bs:=[z0]) (gs:=[.ba z0 191 [S m.Name,.int .i64 v,.pointer sp]]) ⟨⟨sp,rfl,y.up O⟩,trivial⟩) ⟨_,_,rfl,next le O ⟨z0,ne,rfl⟩ na⟩ (g.perm ?_)⟩;simp only [ee.res,Tc.task,List.append_assoc,List.cons_append,List.nil_append];classical exact List.perm_iff_count.2 (fun x=>(by simp only [List.count_append,List.count_cons,List.count_nil];ac_rfl))
 rw [if_neg p] at a;by_cases u:m.Kind=2
 ·rw [if_pos u] at a;obtain ⟨i,Ne,a⟩:=ra a;obtain ⟨c,of,a⟩:=ra a;cases a;cases h;obtain ⟨b,q,gc,lc,g1,g2,⟨up,rfl,hu⟩,g3⟩:=uf.at j.cd of;have rc:=D.perm (rs':=.ba b 191 [S c.name,.int .i64 c.v,.pointer up]::(.ba G.Ka 70 [.map (some X.md),.map (some X.Ac),.map (some X.fb),.int .i64 z.nodes]::.ba G.Ca 85 [vb G.Ka,X.sc,X.nc,vb X.Mb,.int .i64 z.t.state,.int .i64 z.t.box,.int .i64 z.t.Le,X.ec]::.row X.nc 83 1 ((G.B.drop 1).map Fc.mk).length X.pe::.row X.ec 2 1 z.t.out.length X.Ei::(gc++(lc++(X.Cd++(X.Hb++rsF)))))) (by simp only [ee.res,g2,List.append_assoc,List.cons_append];classical exact List.perm_iff_count.2 (fun x=>(by simp only [List.count_append,List.count_cons,List.count_nil];ac_rfl)));refine kJ p u ?_ F Ac H K mt L ?_ rc
  ·intro J w' rs hm le g;refine (MC j.cd ?_ y Ne g1 g).mono ?_
   ·intro q P;rw [g2] at P;simp only [List.mem_append,List.mem_cons] at P ⊢;rcases P with P | rfl | P
    ·exact .inr (hm _ (by simp [P]))
    ·exact .inl rfl
    ·exact .inr (hm _ (by simp [P]))
   ·rintro v ii ⟨rfl,rfl⟩;exact ⟨rfl,g⟩
  ·intro J w' z0 le a0 g;have d:=j.up le;have wf:uf (po G) (z.t.xe.set i { c with v:=v }) G.A (gc++.ba b 191 [S c.name,.int .i64 v,.pointer up]::lc):=uf.put (r:=.ba b 191 [S c.name,.int .i64 c.v,.pointer up]) ⟨up,rfl,hu⟩ (g2 ▸ j.cd) g3 g1;refine ⟨_,rfl,Ri.mk (G:=G) (X:={ X with cd:=gc++.ba b 191 [S c.name,.int .i64 v,.pointer up]::lc }) (C.t le) uc ⟨d.Td,d.Hd,d.md,d.Ac,d.fb,d.ai,d.now,d.Eb,d.tc,d.out,wf,d.Cd,d.Hb,d.vf⟩ ⟨_,_,rfl,next le .r y a0⟩ (g.perm ?_)⟩;simp only [ee.res,Tc.task,List.append_assoc,List.cons_append];classical exact List.perm_iff_count.2 (fun x=>(by simp only [List.count_append,List.count_cons,List.count_nil];ac_rfl))
 rw [if_neg u] at a;by_cases N:m.Kind=3
 ·rw [if_pos N] at a;cases a;by_cases Y:v≠0
  ·rw [if_pos Y] at h;refine KH p u N Y F Ac H K mt L ?_ D;intro J w' z0 Q z2 le hB a0 g;exact U _ _ _ h (X:=X) (C.t le) uc (j.up le) ⟨rfl,Q,z2,sp,fd,_,_,rfl,hB,y,Vg.up le .r he,next le .r y a0⟩ g
  ·rw [if_neg Y] at h;refine LH p u N Y F Ac H K mt L ?_ D;intro J w' z0 Q z2 le hB a0 g;exact U _ _ _ h (X:=X) (C.t le) uc (j.up le) ⟨rfl,Q,z2,sp,fd,_,_,rfl,hB,y,Vg.up le .r he,next le .r y a0⟩ g
 rw [if_neg N] at a;by_cases R:m.Kind=5
 ·rw [if_pos R] at a;cases e with
  | stop q=>cases a
  | ret q =>
   cases a;rw [Vg] at he;obtain ⟨li,pi,ia,nd⟩:=he;refine lJ p u N R nd.fn ia F Ac H K mt L ?_ D;intro J w' le g;exact Dk U h (X:=X) (C.t le) uc (j.up le) (Se.up le .r nd) g
 rw [if_neg R] at a;by_cases T:m.Kind=7
 ·rw [if_pos T] at a;cases a;refine MH p u N R T F Ac H K mt L ?_ D;intro J w' z0 le a0 g;exact U _ _ _ h (X:=X) (C.t le) uc (j.up le) ⟨rfl,_,_,rfl,next le .r y a0⟩ g
 rw [if_neg T] at a;by_cases Z:m.Kind=8
 ·rw [if_pos Z] at a;obtain ⟨os,If,a⟩:=ra a;cases a;cases h;have rc:=D.perm (rs':=.ba G.Ca 85 [vb G.Ka,X.sc,X.nc,vb X.Mb,.int .i64 z.t.state,.int .i64 z.t.box,.int .i64 z.t.Le,X.ec]::.row X.ec 2 1 z.t.out.length X.Ei::(.ba G.Ka 70 [.map (some X.md),.map (some X.Ac),.map (some X.fb),.int .i64 z.nodes]::.row X.nc 83 1 ((G.B.drop 1).map Fc.mk).length X.pe::(X.cd++(X.Cd++(X.Hb++rsF))))) (by simp only [ee.res];classical exact List.perm_iff_count.2 (fun x=>(by simp only [List.count_append,List.count_cons,List.count_nil];ac_rfl)));refine mJ If p u N R T Z j.out F Ac H K mt L ?_ rc;intro J w' z0 Q z2 le dg a0 g;have d:=j.up le;refine ⟨_,rfl,Ri.mk (G:=G) (X:={ X with ec:=Q,Ei:=z2 }) (C.t le) uc ⟨d.Td,d.Hd,d.md,d.Ac,d.fb,d.ai,d.now,d.Eb,d.tc,dg,d.cd,d.Cd,d.Hb,d.vf⟩ ⟨_,_,rfl,next le .r y a0⟩ (g.perm ?_)⟩;simp only [ee.res,Tc.task];classical exact List.perm_iff_count.2 (fun x=>(by simp only [List.count_append,List.count_cons,List.count_nil];ac_rfl))
 rw [if_neg Z] at a;cases a;cases h;refine oK p u N R T Z F Ac H K mt L ?_ D;intro J w' z0 le a0 g;exact ⟨_,rfl,Ri.mk (X:=X) (C.t le) uc (j.up le) ⟨_,_,rfl,next le .r y a0⟩ g⟩
end Go.Proofs.YticaondbdmcpoaaGreatDoor
set_option maxRecDepth 100000
set_option maxHeartbeats 4000000
namespace Go.Proofs.YticaondbdmcpoaaGreatDoor
open Go.hc Go.Mc Go.Y
variable {E:oe}{μb:M}{Gb:Wd}{da:World}{rsF:List Qa}{n:Nat}
section
variable {μ:M}{G:Wd}{X:ee}{z:Tc}
theorem kg.Yd (a:kg E μ G z X):(((G.B.drop 1).map Fc.mk).length:Int)=(z.t.mc.length:Int) - 1∧G.B.length=z.t.mc.length∧0<z.t.mc.length:=by
 have b:=a.Cd.len.1;have c:=(List.getElem?_eq_some_iff.1 a.now).1;rw [List.length_map,List.length_drop];omega
theorem kD {a:Nat}{b:Nat}(h:G.B[a+1]?=some b):at_ ((G.B.drop 1).map Fc.mk) (a:Int)=some ⟨b⟩:=by
 have:1+a=a+1:=Nat.add_comm _ _;simp [at_,this,h]
end
theorem yJ (R:ri E μb Gb da rsF n){x:Va}{k:sf}{l:List Int}{z:Tc}{r:Option (Option me×Tc)}{o:nj}(e:gm E x k l z=some o) (h:Lp E n o=some r){μ:M}{w:World}{G:Wd}{X:ee}{K:Nat}{cs:List Value}{vd:Option Addr}{xd:Nat}(D:ha μb μ) (uc:Gb.le G) (g:kg E μ G z X) (y:Na μ vd xd l) (m:lk E μ G (.ex x k) K cs) (F:ja μ da w (X.res G z rsF)):Bc Tryz.prog K ([.slice vd l.length xd]++cs) w Tk (zo r) (Ri E μb Gb da rsF) (Yj μb da rsF):=by
 rw [lk] at m;obtain ⟨rfl,co,dl,Be,go,Fd,Id,rfl,H,Ac,mk,m,mt⟩:=m;rw [gm.eq_def] at e;by_cases p:x.Kind=4
 ·rw [if_pos p] at e;obtain ⟨a,s,e⟩:=ra e;cases e;refine gJ s p m.fn H Ac mk y mt ?_ F;intro J w' le f;rw [Int.zero_sub];exact Dk R h (X:=X) (D.t le) uc (g.up le) (Se.up le .r m) f
 rw [if_neg p] at e;by_cases C:x.Kind=5
 ·rw [if_pos C] at e;obtain ⟨a,s,e⟩:=ra e;cases e;refine hJ s p C m.fn H Ac mk y mt ?_ F;intro J w' le f;exact Dk R h (X:=X) (D.t le) uc (g.up le) (Se.up le .r m) f
 rw [if_neg C] at e;have of:∀ {d:va}{Y:List Jh}{s1:Option Nat},Ak d.Params l z.t.xe none=some (Y,s1)→∀ (J:M) (w':World) (rs:List Qa) (q:Value),ha μ J→Ke J q d→ja J da w' rs→Ic Tryz.prog 107 [q,.slice vd l.length xd] w' (fun v wf=>∃ (If:M) (gs:List Qa) (sp:Option Addr),v=.pointer sp∧ha J If∧fx G z.t.xe Y s1 gs sp∧ja If da wf (gs++rs)):=by
  intro d Y s1 V J w' rs q le N f;refine (PH (G:=G) g.cd.len.1 V (y.up le) N f).mono ?_;rintro v wf ⟨gs,sp,rfl,el,nl⟩;exact ⟨J,gs,sp,rfl,ha.r,el,nl⟩
 by_cases L:x.Kind=19
 ·rw [if_pos L] at e;obtain ⟨d,La,e⟩:=ra e;obtain ⟨⟨Y,s1⟩,V,e⟩:=ra e;cases e;refine HH (GQ:=fun _ gs sp=>fx G z.t.xe Y s1 gs sp) p C L La (of V) g.md H Ac mk y mt ?_ F;rintro J w' z0 gs sp z3 z4 z5 le hB ol pl ⟨bs,new,rfl,be,ce⟩ f;have gc:G.le { G with A:=G.A++bs }:=Wd.le.app;refine R _ _ _ h (D.t le) (uc.t gc) (kg.grow g le be) ⟨rfl,z4,z5,sp,z3,_,_,rfl,hB,ce,?_,?_⟩ (f.perm ?_)
  ·rw [Vg];exact ⟨_,_,ol,Se.up le gc m⟩
  ·rw [te];exact ⟨rfl,dl,_,_,rfl,mk.up le,Se.up le gc m⟩
  ·simp only [ee.res,Tc.task,List.append_assoc,List.cons_append];classical exact List.perm_iff_count.2 (fun x=>(by simp only [List.count_append,List.count_cons,List.count_nil];ac_rfl))
 rw [if_neg L] at e;by_cases S:x.Kind=21
 ·rw [if_pos S] at e;obtain ⟨a,s,e⟩:=ra e;obtain ⟨c,nd,e⟩:=ra e;obtain ⟨u,hu,e⟩:=ra e;obtain ⟨bb,dg,e⟩:=ra e;cases e;rw [Lp] at h;have ul:(z.task fun t=>{ t.Rl t.now fun c=>{ c with dm:=some k,going:=false } with now:=u })=z.task fun t=>{ t with mc:=t.mc.set z.t.now { c with dm:=some k,going:=false },now:=u }:=by
   simp only [Tc.task,Gd.Rl,nd]
  rw [ul] at h;obtain ⟨ge,ap,up,rg,on,rs,ia,wl,bi,ci,io,rc,-,back⟩:=hz g nd g.now F;rw [hu] at bi;obtain ⟨ii,li,rfl⟩:=bi;rw [dg] at ci;obtain ⟨pi,Pi,rfl,he⟩:=ci;refine pG s p C L (by omega) (by omega) S he.fn H Ac mk y mt ?_ rc;intro J w' le f;obtain ⟨am,em,hm⟩:=back (c':={ c with dm:=some k,going:=false }) le ⟨ge,ap,vb ii,Fg pi Pi,Fg Fd Id,rfl,ia.up le,wl,hu ▸ ⟨ii,li,rfl⟩,dg ▸ ⟨pi,Pi,rfl,Se.up le .r he⟩,⟨Fd,Id,rfl,Se.up le .r m⟩⟩ li f;exact Dk R h (X:=am) (D.t le) uc em (Se.up le .r he) hm
 rw [if_neg S] at e;have ne:=kg.Yd g;by_cases P:x.Kind=22
 ·rw [if_pos P] at e;by_cases rd:(z.t.mc.length:Int) - 1=30
  ·rw [if_pos rd] at e;cases e;cases h;have rc:=F;refine IH p C L P (by rw [ne.1];exact rd) g.tc H Ac mk y mt ?_ rc;intro J w' le f;exact pt (X:=X) (D.t le) uc (g.up le) f
  rw [if_neg rd] at e;obtain ⟨d,La,e⟩:=ra e;obtain ⟨⟨Y,s1⟩,V,e⟩:=ra e;cases e;have no:=g.vf;refine oG (ts':=[]) (GQ:=fun _ gs sp=>fx G z.t.xe Y s1 gs sp) p C L P La (of V) (by rw [ne.1];exact rd) (fun b=>?_) (fun b=>?_) m.fn g.md g.tc H Ac mk y mt ?_ F
  ·rw [app,if_pos];simp only [List.length_map,List.length_drop,List.length_cons,List.length_nil];omega
  ·refine if_pos ?_;simp only [List.length_append,List.length_map,List.length_drop,List.length_cons,List.length_nil];omega
  ·rintro J w' z0 gs sp z3 z4 z5 lm le sm Nm pl ⟨bs,new,rfl,be,ce⟩ f;have gc:G.le { G with A:=G.A++bs }:=Wd.le.app;have Z:Wd.le { G with A:=G.A++bs } { G with A:=G.A++bs,B:=G.B++[z3] }:=⟨rfl,rfl,rfl,fun _ _ q=>q,fun i b q=>by
    show (G.B++[z3])[i]?=some b;rw [List.getElem?_append_left (List.getElem?_eq_some_iff.1 q).1];exact q⟩
   have O:=kg.grow g le be;have un:(G.B++[z3]).drop 1=G.B.drop 1++[z3]:=by
    rw [List.drop_append_of_le_length (by omega)]
   have kk:((G.B++[z3]).drop 1).map Fc.mk=(G.B.drop 1).map Fc.mk++[⟨z3⟩]:=by rw [un,List.map_append];rfl
   have hlen:((((G.B.drop 1).map Fc.mk++[(⟨z3⟩:Fc)]).length:Int) - 1)=(z.t.mc.length:Int) - 1:=by
    rw [List.length_append];have:=ne.1;simp only [List.length_cons,List.length_nil];omega
   rw [hlen];refine Dk R h (G:={ G with A:=G.A++bs,B:=G.B++[z3] }) (X:={ X with cd:=X.cd++gs,nc:=z5,pe:=lm,Cd:=X.Cd++[.ba z3 124 [z4,.pointer sp,.bool false,.bool false,.bool false,.pointer none,.nilFunc,.nilFunc]] }) (D.t le) ((uc.t gc).t Z)
    ⟨O.Td,O.Hd,O.md,O.Ac,O.fb,O.ai,Z.B _ _ O.now,O.Eb.up ha.r Z,kk ▸ Nm,O.out,O.cd.imp fun _ _ _ q=>q.up Z,?_,O.Hb,?_⟩ (Se.up le (gc.t Z) m) (f.perm ?_)
   ·refine uf.snoc ⟨z4,sp,.pointer none,.nilFunc,.nilFunc,rfl,sm,ce.up Z,rfl,rfl,rfl⟩ (O.Cd.imp fun _ _ _ q=>q.up ha.r Z)
   ·show (z.t.mc++[_]).length≤31;rw [List.length_append];simp only [List.length_cons,List.length_nil];omega
   ·simp only [ee.res,Tc.task,kk,List.append_assoc,List.cons_append,List.nil_append];classical exact List.perm_iff_count.2 (fun x=>(by simp only [List.count_append,List.count_cons,List.count_nil];ac_rfl))
 rw [if_neg P] at e;by_cases T:x.Kind=23
 ·rw [if_pos T] at e;obtain ⟨a,s,e⟩:=ra e;obtain ⟨b,Q,e⟩:=ra e;by_cases fd:0≤a∧a<(z.t.mc.length:Int) - 1
  ·rw [if_pos fd] at e;cases e;obtain ⟨j,rfl⟩:∃ j:Nat,a=(j:Int):=⟨a.toNat,by omega⟩;have wn:j+1<G.B.length:=by omega
   have V:G.B[j+1]?=some G.B[j+1]:=List.getElem?_eq_getElem wn;refine zF s Q (kD V) p C L P T g.tc H Ac mk y mt ?_ F;intro J w' le f;exact R _ _ _ h (X:=X) (D.t le) uc (g.up le) ⟨rfl,_,Fd,Id,V,rfl,Se.up le .r m⟩ f
  ·rw [if_neg fd] at e;cases e
 rw [if_neg T] at e;by_cases W:x.Kind=24
 ·rw [if_pos W] at e;obtain ⟨a,s,e⟩:=ra e;by_cases fd:0≤a
  ·rw [if_pos fd] at e;obtain ⟨c,nd,e⟩:=ra e;cases e;obtain ⟨j,rfl⟩:∃ j:Nat,a=(j:Int):=⟨a.toNat,by omega⟩;obtain ⟨ok,q,Fn,In,g1,g2,⟨ge,ap,up,rg,on,rfl,-⟩,g3⟩:=uf.at g.Cd nd;have rc:=F.perm (rs':=.ba G.Ka 70 [.map (some X.md),.map (some X.Ac),.map (some X.fb),.int .i64 z.nodes]::.ba G.Ca 85 [vb G.Ka,X.sc,X.nc,vb X.Mb,.int .i64 z.t.state,.int .i64 z.t.box,.int .i64 z.t.Le,X.ec]::.row X.nc 83 1 ((G.B.drop 1).map Fc.mk).length X.pe::.ba ok 124 [ge,.pointer ap,.bool c.begun,.bool c.going,.bool c.ended,up,rg,on]::(.row X.ec 2 1 z.t.out.length X.Ei::(X.cd++(Fn++(In++(X.Hb++rsF)))))) (by simp only [ee.res,g2,List.append_assoc,List.cons_append];classical exact List.perm_iff_count.2 (fun x=>(by simp only [List.count_append,List.count_cons,List.count_nil];ac_rfl)));refine qG s (kD (b:=ok) g1) p C L P T S W m.fn g.tc H Ac mk y mt ?_ rc;intro J w' le f;refine Dk R h (X:=X) (D.t le) uc (g.up le) (Se.up le .r m) (f.perm ?_);simp only [ee.res,g2,List.append_assoc,List.cons_append];classical exact List.perm_iff_count.2 (fun x=>(by simp only [List.count_append,List.count_cons,List.count_nil];ac_rfl))
  ·rw [if_neg fd] at e;cases e
 rw [if_neg W] at e;obtain ⟨q,N,e⟩:=ra e;by_cases lc:x.Kind=9
 ·rw [if_pos (.inl lc)] at N;obtain ⟨b,Q,N⟩:=ra N;cases N;by_cases U:b=0
  ·rw [if_pos (by simpa using U)] at e;cases e;cases h;refine rG Q U p C L P T S W lc H Ac mk y mt ?_ F;intro J w' le f;exact pt (X:=X) (D.t le) uc (g.up le) f
  ·rw [if_neg (by simpa using U)] at e;obtain ⟨a,s,e⟩:=ra e;obtain ⟨ed,Ne,e⟩:=ra e;obtain ⟨v,id,e⟩:=ra e;cases e;obtain rfl:b=ed:=Option.some.inj (Q.symm.trans Ne);refine JH s Q id U p C L P T S W lc m.fn H Ac mk y mt ?_ F;intro J w' le f;exact Dk R h (X:=X) (D.t le) uc (g.up le) (Se.up le .r m) f
 by_cases wd:x.Kind=10
 ·rw [if_pos (.inr wd)] at N;obtain ⟨b,Q,N⟩:=ra N;cases N;by_cases U:b=0
  ·rw [if_pos (by simpa using U)] at e;cases e;cases h;refine AF Q U p C L P T S W lc wd H Ac mk y mt ?_ F;intro J w' le f;exact pt (X:=X) (D.t le) uc (g.up le) f
  ·rw [if_neg (by simpa using U)] at e;obtain ⟨a,s,e⟩:=ra e;obtain ⟨ed,Ne,e⟩:=ra e;obtain ⟨v,id,e⟩:=ra e;cases e;obtain rfl:b=ed:=Option.some.inj (Q.symm.trans Ne);refine sG s Q id U p C L P T S W lc wd m.fn H Ac mk y mt ?_ F;intro J w' le f;exact Dk R h (X:=X) (D.t le) uc (g.up le) (Se.up le .r m) f
 rw [if_neg (by rintro (q | q)<;>contradiction)] at N;cases N;rw [if_neg (by decide)] at e;obtain ⟨a,s,e⟩:=ra e;obtain ⟨b,Q,e⟩:=ra e;obtain ⟨v,id,e⟩:=ra e;cases e;refine iJ s Q id p C L P T S W lc wd m.fn H Ac mk y mt ?_ F;intro J w' le f;exact Dk R h (X:=X) (D.t le) uc (g.up le) (Se.up le .r m) f
theorem goes:∀ n,ri E μb Gb da rsF n
 | 0=>fun c z r h=>by rw [mn] at h; cases h
 | n+1=>fun c=>by
  have a:ri E μb Gb da rsF n:=goes n;cases c with
  | expr x s k=>exact QH a x s k
  | all l s g k=>exact sJ a l s g k
  | stats l s e k=>exact yG a l s e k
  | cg x s e k=>exact tJ a x s e k
  | tf k v =>
   cases k with
   | all l s g k=>exact RH a l s g k v
   | stat l s e k=>exact zG a l s e k v
   | cg x s e k=>exact SH a x s e k v
  | we k l =>
   cases k with
   | ex x k =>
    rintro z r h μ w G X f vs i uc j ⟨q,t,cs,rfl,oa,m⟩ p;obtain ⟨o,b,h⟩:=Sj h;rw [ae] at b;exact yJ a b h i uc j oa m p
  | Rd k =>
   cases k with
   | zero k=>exact TH a k
   | recv Hc k=>exact wG a Hc k
   | send Hc v k=>exact xG a Hc v k
   | done g=>exact XH a g
   | stats l s e k=>exact LF a l s e k
   | cg x s e k=>exact UH a x s e k
   | fin=>exact uJ a
   | zj d=>exact vJ a d
  | recv Hc k=>exact VH a Hc k
  | send Hc v k=>exact WH a Hc v k
  | resume g v k=>exact OF a g v k
end Go.Proofs.YticaondbdmcpoaaGreatDoor
set_option maxRecDepth 100000
set_option maxHeartbeats 20000000
namespace Go.Proofs.YticaondbdmcpoaaGreatDoor
open Go.hc Go.Mc Go.Y
variable {E:oe}{da:World}{rsF:List Qa}
theorem zJ {fu:Nat}{z:Tc}{r:Option Tc}(h:Ku E fu z=some r){μ:M}{w:World}{G:Wd}{X:ee}(a:kg E μ G z X) (b:ja μ da w (X.res G z rsF)):Bc Tryz.prog 23 [vb G.Ca] w Tk (zo r) (fun c v w'=>v=.tuple #[]∧∃ J Zf d,ha μ J∧G.le Zf∧kg E J Zf c d∧ja J da w' (d.res Zf c rsF)) (Yj μ da rsF):=by
 rw [Ku] at h;rw [ee.res] at b;refine Ze Tryz.func23 rfl (frm:=[_,_,_,_,_,_,_,_,_,_,_,_,_,_,_,_,_,_,_]) rfl ?_;refine Ga ?_;refine nb ?_;refine wl (lf (aa d0) (fa Ab) ?_);refine wl (lf (aa d0) (fa Ib) ?_);refine wl (mi (aa d3) (fa Wb) ?_);refine wl (rh lp (aa d5) rfl (fa Qb) ?_);refine wl (rh HC (aa d6) rfl (fa Sb) ?_);refine wl (Jd Ad (aa d7) Ma rfl b d1 Ib rfl db ib ?_);clear b;intro j b;refine wl (mi (aa d4) (fa Tb) ?_);refine wl (rh lp (aa d8) rfl (fa Pb) ?_);refine wl (rh Hw (aa d9) rfl (fa (wa ua)) ?_);refine wl (Jd Ad (aa (ga d0)) Ma rfl b d1 Wb rfl db ib ?_);clear b;intro O b;refine ab ?_;refine la ?_;refine Ga ?_;refine nb ?_;refine wl (lf (aa d0) (fa (wa db)) ?_);refine wl (mi (aa (ga d1)) (fa (wa tb)) ?_);refine wl (rh KC (aa (ga d2)) rfl (fa (wa Ab)) ?_);refine wl (hd Ml (aa (ga d3)) ((b.ba d1).cell d1) (fa (wa Ib)) ?_);refine wl (jg (aa (ga d4)) (fa tb) ?_);refine ab ?_;refine la ?_;refine Cb ?_;refine Ig [15,16,17,18] (by decide) (fun n m j=>∃ (J:M) (Zf:Wd) (d:ee) (k:Option me) (c:Tc) (g:Value),m=pg (.i g::(yf (pg (om 15 []))))∧ha μ J∧G.le Zf∧kg E J Zf c d∧gr E J Zf g k∧Dq E n k c=some r∧ja J da j (d.res Zf c rsF)) (by rintro _ _ _ ⟨_,_,_,_,_,_,rfl,_⟩;rfl) fu _ (ld (jb (Dc (ld (Rh Za))))) ⟨μ,G,X,z.t.Nk,z.task fun t=>{ t with state:=1,box:=0 },_,rfl,ha.r,Wd.le.r,⟨a.Td,a.Hd,a.md,a.Ac,a.fb,a.ai,a.now,a.Eb,a.tc,a.out,a.cd,a.Cd,a.Hb,a.vf⟩,a.Eb,h,b⟩ ?_;rintro n _ t j ⟨J,Zf,d,k,c,g,rfl,le,uc,u,f,oa,b⟩;refine Jg (yg (gd (Bf (yg (yn Qc))))) ?_;cases k with
 | none =>
  obtain rfl:g=.nilFunc:=f;obtain rfl:some c=r:=by cases n<;>exact wb oa
  refine Ga ?_;refine Ga ?_;refine nb ?_;refine wl (lf (aa d2) (fa (wa Wb)) ?_);refine wl (wC Tryz.underlying81 rfl (.inl ⟨rfl,rfl⟩) (aa (ga d5)) (fa (wa Qb)) ?_);refine ab ?_;refine la ?_;refine Fp (aa (ga d6)) (fun q=>by cases q) (fun _=>?_);refine fg ?_;refine (fun h=>sd (sd (hg h))) ?_;refine GK (Yr rfl ?_);exact ⟨rfl,J,Zf,d,le,uc,u,b⟩
 | some k =>
  obtain ⟨K,cs,rfl,f⟩:=f;cases n with
  | zero=>cases oa
  | succ n =>
  obtain ⟨l,B,oa⟩:=ra oa;refine Ga ?_;refine Ga ?_;refine nb ?_;refine wl (lf (aa d2) (fa (wa Wb)) ?_);refine wl (wC Tryz.underlying81 rfl (.inr ⟨⟨_,_,_,rfl⟩,rfl⟩) (aa (ga d5)) (fa (wa Qb)) ?_);refine ab ?_;refine la ?_;refine Fp (aa (ga d6)) (fun _=>?_) (fun q=>by cases q);refine lb ?_;refine la ?_;refine Cb ?_;refine nb ?_;refine wl (lf (aa d2) (fa (wa Sb)) ?_);refine wl (Kf f.fn (aa (ga d7)) Xa (goes (μb:=J) (Gb:=Zf) n (.Rd k) c l B ha.r Wd.le.r u ⟨cs,rfl,f⟩ b) ?_ ?_)
  ·intro x v w' A C;refine pu (fa (wa Tb)) ?_;refine wl (jg (aa (ga d8)) (fa tb) ?_);refine ab ?_;refine (fun h=>ad (pb h)) ?_;cases l with
   | none=>cases A
   | some y =>
   cases A;obtain ⟨k',z2⟩:=x;obtain ⟨o,D,F,p,g2,H,L,s⟩:=C;exact ⟨n,_,_,rfl,(ld (jb (Dc (ld (Rh Za))))),⟨o,D,F,k',z2,_,rfl,le.t p,uc.t g2,H,L,oa,s⟩,Nat.lt_succ_self _⟩
  ·intro e w' he N;cases l with
   | some y=>cases he
   | none =>
   obtain rfl:=wb oa;cases he;obtain ⟨o,p,s⟩:=N;refine (fun h=>Nz (LD (Nz h))) ?_;exact Gz (P:=Tryz.prog) (fn:=Tryz.f23) ⟨o,le.t p,s⟩
end Go.Proofs.YticaondbdmcpoaaGreatDoor
set_option maxRecDepth 100000
set_option maxHeartbeats 4000000
namespace Go.Proofs.YticaondbdmcpoaaGreatDoor
open Go.hc Go.Mc Go.Y
structure ns (E:oe) (μ:M) (G:Wd) (t:Gd) (X:ee):Prop where
 now:G.B[t.now]?=some X.Mb
 Eb:gr E μ G X.sc t.Nk
 tc:Ua μ X.pe ((G.B.drop 1).map Fc.mk)
 out:Ua μ X.Ei t.out
 cd:uf (po G) t.xe G.A X.cd
 Cd:uf (ks E μ G) t.mc G.B X.Cd
 vf:t.mc.length≤31
def np (t:Gd) (G:Wd) (X:ee):List Qa :=
 .ba G.Ca 85 [vb G.Ka,X.sc,X.nc,vb X.Mb,.int .i64 t.state,.int .i64 t.box,.int .i64 t.Le,X.ec]::
 .row X.nc 83 1 ((G.B.drop 1).map Fc.mk).length X.pe::.row X.ec 2 1 t.out.length X.Ei::(X.cd++X.Cd)
structure Rt (E:oe) (μ:M) (bb:List Nat) (bs:List Od) (nd:Int) (X:ee):Prop where
 Td:0≤nd
 Hd:nd≤20000
 md:lh μ X.md E.defs
 Ac:lh μ X.Ac X.ji
 fb:lh μ X.fb E.order
 ai:∀ (n:Ie) (i b:Nat),ob E.order n=some (i:Int)→bb[i]?=some b→ob X.ji n=some ⟨some b⟩
 Hb:uf (Vq μ) bs bb X.Hb
def ko (Ka:Nat) (nd:Int) (X:ee):List Qa:=.ba Ka 70 [.map (some X.md),.map (some X.Ac),.map (some X.fb),.int .i64 nd]::X.Hb
def Lg (E:oe) (μ:M) (Ka:Nat) (bb:List Nat):List Gd→List (Wd×ee)→Prop
 | [],[]=>True
 | t::sa,i::is=>i.1.Ka=Ka∧i.1.bb=bb∧ns E μ i.1 t i.2∧Lg E μ Ka bb sa is
 | _,_=>False
def ph:List Gd→List (Wd×ee)→List Qa
 | t::sa,i::is=>np t i.1 i.2++ph sa is
 | _,_=>[]
section
variable {E:oe}{μ J:M}{Ka:Nat}{bb:List Nat}{bs:List Od}{nd:Int}{X MD:ee}{G:Wd}{t:Gd}
theorem ns.up (h:ns E μ G t X) (l:ha μ J):ns E J G t X:=⟨h.now,h.Eb.up l .r,h.tc.up l,h.out.up l,h.cd,h.Cd.imp fun _ _ _ k=>k.up l .r,h.vf⟩
theorem Rt.up (h:Rt E μ bb bs nd X) (l:ha μ J):Rt E J bb bs nd X:=⟨h.Td,h.Hd,h.md.up l,h.Ac.up l,h.fb.up l,h.ai,h.Hb.imp fun _ _ _ k=>k.up l⟩
theorem Lg.up (l:ha μ J):∀ {sa:List Gd}{is:List (Wd×ee)},Lg E μ Ka bb sa is→Lg E J Ka bb sa is
 | [],[],_=>trivial
 | t::sa,i::is,⟨a,b,c,d⟩=>⟨a,b,c.up l,Lg.up l d⟩
 | [],_::_,h=>h.elim
 | _::_,[],h=>h.elim
theorem Lg.cut:∀ {pre sa:List Gd}{is:List (Wd×ee)},Lg E μ Ka bb (pre++sa) is→∃ a b,is=a++b∧Lg E μ Ka bb pre a∧Lg E μ Ka bb sa b
 | [],sa,is,h=>⟨[],is,rfl,trivial,h⟩
 | t::pre,sa,i::is,⟨c,d,e,f⟩=>by
  obtain ⟨a,b,rfl,k1,g⟩:=Lg.cut f;exact ⟨i::a,b,rfl,⟨c,d,e,k1⟩,g⟩
 | _::_,_,[],h=>h.elim
theorem Lg.glue:∀ {pre sa:List Gd}{b a:List (Wd×ee)},Lg E μ Ka bb pre b→Lg E μ Ka bb sa a→Lg E μ Ka bb (pre++sa) (b++a)
 | [],sa,[],a,_,h=>h
 | t::pre,sa,i::b,a,⟨c,d,e,f⟩,h=>⟨c,d,e,Lg.glue f h⟩
 | [],_,_::_,_,h,_=>h.elim
 | _::_,_,[],_,h,_=>h.elim
theorem Lg.res:∀ {pre sa:List Gd}{a b:List (Wd×ee)},Lg E μ Ka bb pre a→ph (pre++sa) (a++b)=ph pre a++ph sa b
 | [],sa,[],b,_=>rfl
 | t::pre,sa,i::a,b,⟨d,e,f,c⟩=>by
  show np t i.1 i.2++ph (pre++sa) (a++b)=(np t i.1 i.2++ph pre a)++ph sa b;rw [Lg.res c,List.append_assoc]
 | [],_,_::_,_,h=>h.elim
 | _::_,_,[],_,h=>h.elim
theorem Lg.len:∀ {sa:List Gd}{is:List (Wd×ee)},Lg E μ Ka bb sa is→sa.length=is.length
 | [],[],_=>rfl
 | t::sa,i::is,⟨_,_,_,a⟩=>by simp [Lg.len a]
 | [],_::_,h=>h.elim
 | _::_,[],h=>h.elim
theorem _root_.Go.Mc.Bc.mono {rb α:Type}{f:FuncId}{args:List Value}{w:World}{V:rb→Value}{r:Except rb α}{R R':α→Value→World→Prop}{F b:World→Prop}(h:Bc Tryz.prog f args w V r R F) (d:∀ x v w',R x v w'→R' x v w') (he:∀ w',F w'→b w'):Bc Tryz.prog f args w V r R' b :=
 ⟨Calls.mono h.out fun e w' k=>by
  cases e with
  | returned v=>obtain ⟨x,a,k⟩:=k; exact ⟨x,a,d _ _ _ k⟩
  | panicked c=>obtain ⟨e,a,g,k⟩:=k; exact ⟨e,a,g,he _ k⟩
  | outgrown=>exact k⟩
def yz (S X:ee):ee:={ S with sc:=X.sc,nc:=X.nc,ec:=X.ec,Mb:=X.Mb,pe:=X.pe,Ei:=X.Ei,cd:=X.cd,Cd:=X.Cd }
theorem kg.join (a:Rt E μ G.bb bs nd MD) (b:ns E μ G t X):kg E μ G ⟨t,bs,nd⟩ (yz MD X):=
 ⟨a.Td,a.Hd,a.md,a.Ac,a.fb,a.ai,b.now,b.Eb,b.tc,b.out,b.cd,b.Cd,a.Hb,b.vf⟩
theorem kg.part {z:Tc}(h:kg E μ G z X):Rt E μ G.bb z.boxes z.nodes X∧ns E μ G z.t X :=
 ⟨⟨h.Td,h.Hd,h.md,h.Ac,h.fb,h.ai,h.Hb⟩,⟨h.now,h.Eb,h.tc,h.out,h.cd,h.Cd,h.vf⟩⟩
end
structure Mp (E:oe) (μ:M) (Ka:Nat) (bb Qg:List Nat) (sa:List Gd) (bs:List Od) (nd:Int) (S:ee) (L:List (Wd×ee)):Prop where
 pf:Rt E μ bb bs nd S
 all:Lg E μ Ka bb sa L
 Ca:Qg=L.map fun i=>i.1.Ca
def Ai (Ka:Nat) (nd:Int) (S:ee) (sa:List Gd) (L:List (Wd×ee)) (vf:List Qa):List Qa:=ko Ka nd S++(ph sa L++vf)
section
variable {E:oe}{da:World}{rsF:List Qa}{μ:M}{w:World}{Ka:Nat}{bb Qg:List Nat}{pre sa:List Gd}{t:Gd}{bs:List Od}{nd:Int}{S:ee}{L:List (Wd×ee)}
theorem PF {fu:Nat}{r:Option Tc}(h:Ku E fu ⟨t,bs,nd⟩=some r) (n:Mp E μ Ka bb Qg (pre++t::sa) bs nd S L) (o:ja μ da w (Ai Ka nd S (pre++t::sa) L rsF)){b:Nat}(e:Qg[pre.length]?=some b) :
  Bc Tryz.prog 23 [vb b] w Tk (zo r) (fun z v w'=>v=.tuple #[]∧∃ J f g,ha μ J∧Mp E J Ka bb Qg (pre++z.t::sa) z.boxes z.nodes f g∧ja J da w' (Ai Ka z.nodes f (pre++z.t::sa) g rsF)) (Yj μ da rsF):=by
 obtain ⟨p,q,rfl⟩:=n;obtain ⟨c,a,rfl,na,a2⟩:=Lg.cut q;cases a with
 | nil=>exact a2.elim
 | cons i a =>
 obtain ⟨rfl,rfl,s,a2⟩:=a2;have hlen:pre.length=c.length:=Lg.len na;obtain rfl:i.1.Ca=b:=by
  rw [hlen] at e;simpa using e
 have u:=kg.join p s;have y:=o.perm (rs':=(yz S i.2).res i.1 ⟨t,bs,nd⟩ (ph pre c++(ph sa a++rsF))) (by
  simp only [Ai,ko,Lg.res na,ph,np,ee.res,yz,List.append_assoc,List.cons_append];classical exact List.perm_iff_count.2 (fun x=>(by simp only [List.count_append,List.count_cons,List.count_nil];ac_rfl)))
 refine (zJ (rsF:=ph pre c++(ph sa a++rsF)) h u y).mono ?_ ?_
 ·rintro z v w' ⟨rfl,J,Zf,j,le,uc,A,d⟩;obtain ⟨k,B⟩:=kg.part A;rw [uc.bb] at k;have m:=Lg.up le na;refine ⟨rfl,J,j,c++(Zf,j)::a,le,⟨k,Lg.glue m ⟨uc.Ka,uc.bb,B,Lg.up le a2⟩,?_⟩,d.perm ?_⟩
  ·simp [uc.Ca]
  ·simp only [Ai,ko,Lg.res m,ph,np,ee.res,uc.Ka,List.append_assoc,List.cons_append];classical exact List.perm_iff_count.2 (fun x=>(by simp only [List.count_append,List.count_cons,List.count_nil];ac_rfl))
 ·rintro w' ⟨J,l,d⟩;exact ⟨J,l,Qu (Qu d)⟩
theorem QF {c:Bool}(h:fo t bs=some c) (G:Mp E μ Ka bb Qg (pre++t::sa) bs nd S L){cf:Value}{df:List Value}{Yd:List Fc}(H:Yd=bb.map Fc.mk) (p:Ua μ df Yd) (K:ja μ da w (.row cf 74 1 Yd.length df::Ai Ka nd S (pre++t::sa) L rsF)){b:Nat}(z:Qg[pre.length]?=some b) :
  Ic Tryz.prog 22 [vb b,cf] w (fun v w'=>v=.bool c∧∃ J,ha μ J∧ja J da w' (.row cf 74 1 Yd.length df::Ai Ka nd S (pre++t::sa) L rsF)):=by
 obtain ⟨N,O,rfl⟩:=G;obtain ⟨g,e,rfl,na,a2⟩:=Lg.cut O;cases e with
 | nil=>exact a2.elim
 | cons i e =>
 obtain ⟨rfl,rfl,T,a2⟩:=a2;have hlen:pre.length=g.length:=Lg.len na;obtain rfl:i.1.Ca=b:=by
  rw [hlen] at z;simpa using z
 have r:=K.perm (rs':=.ba i.1.Ca 85 [vb i.1.Ka,i.2.sc,i.2.nc,vb i.2.Mb,.int .i64 t.state,.int .i64 t.box,.int .i64 t.Le,i.2.ec]::.row cf 74 1 Yd.length df::(ko i.1.Ka nd S++(.row i.2.nc 83 1 ((i.1.B.drop 1).map Fc.mk).length i.2.pe::.row i.2.ec 2 1 t.out.length i.2.Ei::(i.2.cd++(i.2.Cd++(ph pre g++(ph sa e++rsF))))))) (by
  simp only [Ai,Lg.res na,ph,np,List.append_assoc,List.cons_append];classical exact List.perm_iff_count.2 (fun x=>(by simp only [List.count_append,List.count_cons,List.count_nil];ac_rfl)))
 rw [fo] at h;have back:∀ {J:M}{w':World},ja J da w' (.ba i.1.Ca 85 [vb i.1.Ka,i.2.sc,i.2.nc,vb i.2.Mb,.int .i64 t.state,.int .i64 t.box,.int .i64 t.Le,i.2.ec]::.row cf 74 1 Yd.length df::(ko i.1.Ka nd S++(.row i.2.nc 83 1 ((i.1.B.drop 1).map Fc.mk).length i.2.pe::.row i.2.ec 2 1 t.out.length i.2.Ei::(i.2.cd++(i.2.Cd++(ph pre g++(ph sa e++rsF)))))))→ja J da w' (.row cf 74 1 Yd.length df::Ai i.1.Ka nd S (pre++t::sa) (g++i::e) rsF):=fun d=>d.perm (by
  simp only [Ai,Lg.res na,ph,np,List.append_assoc,List.cons_append];classical exact List.perm_iff_count.2 (fun x=>(by simp only [List.count_append,List.count_cons,List.count_nil];ac_rfl)))
 by_cases l:t.state=1
 ·rw [if_pos l] at h;cases h;refine (KF l p r).mono ?_;rintro v w' ⟨J,rfl,le,d⟩;exact ⟨rfl,J,le,back d⟩
 rw [if_neg l] at h;have box:∀ {c:Od},at_ bs t.box=some c→∃ f a k rs,at_ Yd t.box=some ⟨f⟩∧Na μ a k c.words∧∀ {J:M}{w':World},ja J da w' (.ba i.1.Ca 85 [vb i.1.Ka,i.2.sc,i.2.nc,vb i.2.Mb,.int .i64 t.state,.int .i64 t.box,.int .i64 t.Le,i.2.ec]::.row cf 74 1 Yd.length df::(ko i.1.Ka nd S++(.row i.2.nc 83 1 ((i.1.B.drop 1).map Fc.mk).length i.2.pe::.row i.2.ec 2 1 t.out.length i.2.Ei::(i.2.cd++(i.2.Cd++(ph pre g++(ph sa e++rsF))))))) ↔ ja J da w' (.ba i.1.Ca 85 [vb i.1.Ka,i.2.sc,i.2.nc,vb i.2.Mb,.int .i64 t.state,.int .i64 t.box,.int .i64 t.Le,i.2.ec]::.row cf 74 1 Yd.length df::.ba f 76 [.int .i64 c.cap,.slice a c.words.length k]::rs):=by
  intro c m;obtain ⟨j,P,Q⟩:=gz m;obtain ⟨f,q,C,D,g1,g2,⟨a,k,rfl,R⟩,g3⟩:=uf.at N.Hb Q;refine ⟨f,a,k,.ba i.1.Ka 70 [.map (some S.md),.map (some S.Ac),.map (some S.fb),.int .i64 nd]::(C++(D++(.row i.2.nc 83 1 ((i.1.B.drop 1).map Fc.mk).length i.2.pe::.row i.2.ec 2 1 t.out.length i.2.Ei::(i.2.cd++(i.2.Cd++(ph pre g++(ph sa e++rsF))))))),by rw [P,H];simp [at_,g1],R,fun {J w'}=>?_⟩;have F:∀ (A B:Qa) (Z:List Qa),(A::B::(ko i.1.Ka nd S++Z)).Perm (A::B::.ba f 76 [.int .i64 c.cap,.slice a c.words.length k]::.ba i.1.Ka 70 [.map (some S.md),.map (some S.Ac),.map (some S.fb),.int .i64 nd]::(C++(D++Z))):=fun A B Z=>by
   simp only [ko,g2,List.append_assoc,List.cons_append];classical exact List.perm_iff_count.2 (fun x=>(by simp only [List.count_append,List.count_cons,List.count_nil];ac_rfl))
  exact ⟨fun h=>h.perm (F _ _ _),fun h=>h.perm (F _ _ _).symm⟩
 by_cases n:t.state=2
 ·rw [if_pos n] at h;obtain ⟨c',m,h⟩:=ra h;cases h;obtain ⟨f,a,k,rs,u,y,o⟩:=box m;refine (uG u l n p y (o.1 r)).mono ?_;rintro v w' ⟨J,rfl,le,d⟩;exact ⟨rfl,J,le,back (o.2 d)⟩
 rw [if_neg n] at h;by_cases s:t.state=3
 ·rw [if_pos s] at h;obtain ⟨c',m,h⟩:=ra h;cases h;obtain ⟨f,a,k,rs,u,y,o⟩:=box m;refine (vG u l n s p y (o.1 r)).mono ?_;rintro v w' ⟨J,rfl,le,d⟩;exact ⟨rfl,J,le,back (o.2 d)⟩
 rw [if_neg s] at h;cases h;refine (rJ l n s p r).mono ?_;rintro v w' ⟨J,rfl,le,d⟩;exact ⟨rfl,J,le,back d⟩
end
end Go.Proofs.YticaondbdmcpoaaGreatDoor
set_option maxRecDepth 100000
set_option maxHeartbeats 4000000
namespace Go.Proofs.YticaondbdmcpoaaGreatDoor
open Go.hc Go.Mc Go.Y
structure Sh where
 Ca:Nat
 Mb:Nat
 Lj:Nat
 Be:Nat
 Io:Nat
 El:Value
def Zu (μ:M) (d:va) (i:Sh):Prop:=Ke μ i.El d∧Ba μ i.Lj 0 [i.El]∧Ba μ i.Be 0 [vb i.Ca]∧Ba μ i.Io 0 [Fg 36 [vb i.Be]]
def Fu (Ka:Nat) (i:Sh):List Qa :=
 [.ba i.Ca 85 [vb Ka,Fg 37 [vb i.Be,vb i.Lj,vb i.Io],.slice none 0 0,vb i.Mb,.int .i64 1,.int .i64 0,.int .i64 0,.slice none 0 0],.ba i.Mb 124 [i.El,.pointer none,.bool false,.bool false,.bool false,.pointer none,.nilFunc,.nilFunc]]
theorem zt {μ:M}{da w:World}{rs:List Qa}{T n:Nat}(a:ja μ da w rs):ja μ da w (.row (.slice none 0 0) T n 0 []::rs):=by
 refine ⟨a.keeps,fun r b=>?_,a.ti,a.new,a.aj⟩;rcases List.mem_cons.1 b with rfl | b
 ·exact ⟨by simp,.inl ⟨rfl,rfl⟩⟩
 ·exact a.all r b
def Jt (i:Sh):ee:=⟨0,0,0,[],Fg 37 [vb i.Be,vb i.Lj,vb i.Io],.slice none 0 0,.slice none 0 0,i.Mb,[],[],[],[.ba i.Mb 124 [i.El,.pointer none,.bool false,.bool false,.bool false,.pointer none,.nilFunc,.nilFunc]],[]⟩
def Kt (Ka:Nat) (bb:List Nat) (i:Sh):Wd:=⟨Ka,i.Ca,[],[i.Mb],bb⟩
theorem Zu.task {E:oe}{μ:M}{Ka:Nat}{bb:List Nat}{d:va}{i:Sh}(h:Zu μ d i):ns E μ (Kt Ka bb i) (Im d) (Jt i):=by
 obtain ⟨a,c,b,e⟩:=h;refine ⟨rfl,⟨_,_,rfl,?_⟩,Ua.nil,Ua.nil,trivial,⟨⟨i.El,none,.pointer none,.nilFunc,.nilFunc,rfl,a,rfl,rfl,rfl,rfl⟩,trivial⟩,(by show 1≤31;decide)⟩;rw [te];exact ⟨rfl,i.Be,i.Lj,i.Io,i.Be,i.El,rfl,b,a,c,e,b⟩
def Ej (μ:M):List va→List Sh→Prop
 | [],[]=>True
 | d::ds,i::is=>Zu μ d i∧Ej μ ds is
 | _,_=>False
theorem Ej.all {E:oe}{μ:M}{Ka:Nat}{bb:List Nat}:∀ {ds:List va}{is:List Sh},Ej μ ds is→Lg E μ Ka bb (ds.map Im) (is.map fun i=>(Kt Ka bb i,Jt i))
 | [],[],_=>trivial
 | d::ds,i::is,⟨a,b⟩=>⟨rfl,rfl,a.task,Ej.all b⟩
 | [],_::_,h=>h.elim
 | _::_,[],h=>h.elim
theorem Ej.up {μ J:M}(l:ha μ J):∀ {ds:List va}{is:List Sh},Ej μ ds is→Ej J ds is
 | [],[],_=>trivial
 | d::ds,i::is,⟨⟨a,b,c,e⟩,h⟩=>⟨⟨a.up l,b.up l,c.up l,e.up l⟩,Ej.up l h⟩
 | [],_::_,h=>h.elim
 | _::_,[],h=>h.elim
theorem Ej.snoc {μ:M}{d:va}{i:Sh}(h:Zu μ d i):∀ {ds:List va}{is:List Sh},Ej μ ds is→Ej μ (ds++[d]) (is++[i])
 | [],[],_=>⟨h,trivial⟩
 | _::_,_::_,⟨a,b⟩=>⟨a,Ej.snoc h b⟩
 | [],_::_,h=>h.elim
 | _::_,[],h=>h.elim
def qp (Ka:Nat) (is:List Sh):List Qa:=is.flatMap (Fu Ka)
theorem Ej.res {μ:M}{da w:World}{Ka:Nat}{bb:List Nat}:∀ {ds:List va}{is:List Sh}{rs:List Qa},Ej μ ds is→ja μ da w (qp Ka is++rs)→ja μ da w (ph (ds.map Im) (is.map fun i=>(Kt Ka bb i,Jt i))++rs)
 | [],[],rs,_,a=>a
 | d::ds,i::is,rs,⟨j,b⟩,a=>by
  have e:qp Ka (i::is)=Fu Ka i++qp Ka is:=rfl;rw [e,List.append_assoc] at a;have c:ja μ da w (qp Ka is++(Fu Ka i++rs)):=a.perm (by
   rw [← List.append_assoc,← List.append_assoc];exact List.perm_append_comm.append_right _)
  have f:=Ej.res (bb:=bb) b c;have g:=zt (T:=83) (n:=1) (zt (T:=2) (n:=1) f);refine g.perm ?_;simp only [ph,List.map_cons,np,Fu,Jt,Kt,Im,List.append_assoc,List.cons_append,List.nil_append,List.drop_succ_cons,List.drop_zero,List.map_nil,List.length_nil]
  classical exact List.perm_iff_count.2 (fun x=>(by simp only [List.count_append,List.count_cons,List.count_nil];ac_rfl))
 | [],_::_,_,h,_=>h.elim
 | _::_,[],_,h,_=>h.elim
end Go.Proofs.YticaondbdmcpoaaGreatDoor
set_option maxRecDepth 100000
set_option maxHeartbeats 4000000
namespace Go.Proofs.YticaondbdmcpoaaGreatDoor
open Go.hc Go.Mc Go.Y Go.RowKit
theorem AE (v0 v1:Value) (w:World) :
  CallsD Tryz.prog 20 #[v0,v1] .returning w fun e a w'=>e=.returned (.tuple #[])∧a=.returning∧w'=w:=by
 refine callsD_of_wpS Tryz.func20 rfl fun b cs hu=>?_;apply wpS_seq;apply wpS_region;simp [wpOpsS,go_sem,recoverD,hu,Tryz.ntmps20,Exit.thenS];refine wpS_of_wp (Ae.out (fr:=[v0,v1,undef,undef,undef,.nilIface,undef,undef,undef,undef,undef,undef,undef]) (ds:=[]) ?_);refine Cb ?_;refine Ga ?_;refine nb ?_;refine wl (zy Tryz.underlying20 (aa d5) (.inl ⟨rfl,rfl⟩) (fa Sb) ?_);refine ab ?_;refine la ?_;refine gl (aa d7) ?_;refine nb ?_;refine wl (jg (aa d5) (fa tb) ?_);refine ab ?_;refine ad ?_;cases b
 simp_all [F,bodyPostS,results,Tryz.results20]
theorem RF {I:M}{da w:World}{rsF:List Qa}{v0 v1:Value}(a:ja I da w rsF):hy Tryz.prog 20 [v0,v1] w (fun v w'=>v=.tuple ⟨[]⟩∧ja I da w' rsF):=
 ⟨(AE v0 v1 w).mono fun e b w' he=>by
  obtain ⟨rfl,rfl,rfl⟩:=he;exact ⟨rfl,rfl,a⟩⟩
theorem bF {I:M}{da w:World}{rsF:List Qa}{c2 c3:Nat}{x y z a b:Value}(c:ja I da w (.ba c2 31 [x,y,z]::.ba c3 26 [a,b]::rsF)) :
  CallsD Tryz.prog 20 #[vb c2,vb c3] (.panicking [{ v:=Tk (),recovered:=false }]) w fun e d w'=>d=.panicking [{ v:=Tk (),recovered:=true }]∧e=.returned (.tuple #[])∧ja I da w' (.ba c2 31 [.slice none 0 0,.slice none 0 0,.int .i64 0]::.ba c3 26 [.int .i64 10,.int .i64 0]::rsF):=by
 refine callsD_of_wpS Tryz.func20 rfl fun f cs hu=>?_;apply wpS_seq;apply wpS_region;simp [wpOpsS,go_sem,recoverD,hu,Tryz.ntmps20,Exit.thenS];refine wpS_of_wp (Ae.out (fr:=[vb c2,vb c3,undef,undef,undef,Tk (),undef,undef,undef,undef,undef,undef,undef]) (ds:=[]) ?_);refine Cb ?_;refine Ga ?_;refine nb ?_;refine wl (zy Tryz.underlying20 (aa d5) (.inr ⟨⟨_,_,rfl⟩,rfl⟩) (fa Sb) ?_);refine ab ?_;refine la ?_;refine hl (aa d7) ?_;refine Ga ?_;refine nb ?_;refine wl (WJ Tryz.underlying64 rfl (aa d5) (fa Tb) ?_);refine wl (mC (aa d8) d1 (fa Pb) ?_);refine wl (mC (aa d8) d0 (fa (wa ua)) ?_);refine ab ?_;refine la ?_;refine gl (aa d9) ?_;refine Ga ?_;refine nb ?_;refine wl (td wz c ?_);clear c;intro g h i c;refine pu (fa Ab) ?_;refine wl (Nc wz (aa d3) (aa (ga d0)) rfl rfl c d0 rfl ua ib ?_);clear c;intro j c;refine ab ?_;refine la ?_;refine nb ?_;refine wl (eg Kl MK Xb.z (fa (wa db)) ?_);refine wl (eg zd mm (Xb.o rfl Ma rfl rfl ua Xb.z) (fa (wa tb)) ?_);refine wl (Nc Kl (aa d0) (aa (ga d1)) rfl rfl c d1 rfl db ib ?_);clear c;intro k c;refine wl (Nc zd (aa d1) (aa (ga d2)) rfl rfl c d2 rfl tb ib ?_);clear c;intro l c;refine ab ?_;refine ad ?_;have c:=c.drop ma.z;cases f
 simp_all [F,bodyPostS,results,Tryz.results20]
theorem AG {I:M}{da w:World}{rsF:List Qa}{c2 c3:Nat}{x y z a b:Value}(c:ja I da w (.ba c2 31 [x,y,z]::.ba c3 26 [a,b]::rsF)) :
  oB Tryz.prog 20 ([]++[vb c2,vb c3]) [{ v:=Tk (),recovered:=false }] w (fun w'=>ja I da w' (.ba c2 31 [.slice none 0 0,.slice none 0 0,.int .i64 0]::.ba c3 26 [.int .i64 10,.int .i64 0]::rsF)):=
 ⟨(bF c).mono fun e d w' he=>by
  obtain ⟨rfl,rfl,h⟩:=he;exact ⟨rfl,h⟩⟩
end Go.Proofs.YticaondbdmcpoaaGreatDoor
set_option maxRecDepth 100000
set_option maxHeartbeats 20000000
namespace Go.Proofs.YticaondbdmcpoaaGreatDoor
open Go.hc Go.Mc Go.Y
def lo:Code→List Nat→Code
 | c,[]=>c
 | .seq a _,0::p=>lo a p
 | .seq _ b,_::p=>lo b p
 | .block _ c,_::p=>lo c p
 | .loop c,_::p=>lo c p
 | .cond _ a _,0::p=>lo a p
 | .cond _ _ b,_::p=>lo b p
 | c,_=>c
section
variable {E:oe}{da:World}{rsF:List Qa}{μ:M}{w:World}{Ka:Nat}{bb Qg:List Nat}{sa:List Gd}{bs:List Od}{nd:Int}{S:ee}{L:List (Wd×ee)}
variable {Q:Exit→Act→World→Prop}{ds:List Deferred}{cf Gf:Value}{df pe:List Value}
theorem SF {a0 na a2 a3 a4 a5 Ob a9 Dd yc a12 ex fc D G Jc H K a20 a21 a22 a23 a24 a25 a26 N a28 O P a31 R T U V W a37 X Y a40 Z Gb gc lc rc a46 fd id a49 md a51 rd a53 wd Fd Id be ce a59 ge le ne Ne of wf If dg bi ci a70 ii a72 li pi a75 a76 Pi kk ok a80 dl el nl ol a85 pl a87 ul am em a91 lm a93 sm Nm fn on rx xx zx ty sz hB AC a105 GE a107 LE a109 NE un wn Fn In co a116 a117 go a119 io no ro to a124 Do ap a127 ip jp a130 a131 mp op pp sp wp Op a138 a139 eq a141 Eq a143 fr a145 a146 or a148 qr wr:Value}{fu n:Nat}{r:Option (List Gd×List Od×Int)}(h:Zo E fu n sa bs nd=some r) (b:Mp E μ Ka bb Qg sa bs nd S L) (WF:Ua μ df (bb.map Fc.mk)) (RK:Ua μ pe (Qg.map Fc.mk))
  (a:ja μ da w (.row Gf 77 1 (Qg.map Fc.mk).length pe::.row cf 74 1 (bb.map Fc.mk).length df::Ai Ka nd S sa L rsF))
  (SM:∀ (Fr Or cs es gs is ls ms os rs us vs ws xs ys:Value) (w':World) (ts':List Gd) (j:List Od) (d:Int) (J:M) (k:ee) (l:List (Wd×ee)),r=some (ts',j,d)→ha μ J→Mp E J Ka bb Qg ts' j d k l →
   ja J da w' (.row Gf 77 1 (Qg.map Fc.mk).length pe::.row cf 74 1 (bb.map Fc.mk).length df::Ai Ka d k ts' l rsF) →
   Q .normal (F [a0,na,a2,a3,a4,a5,cf,Gf,Ob,a9,Dd,Fr,a12,Or,fc,D,G,Jc,H,K,a20,a21,a22,a23,a24,a25,a26,N,a28,O,P,a31,R,T,U,V,W,a37,X,Y,a40,Z,Gb,gc,lc,rc,a46,fd,id,a49,md,a51,rd,a53,wd,Fd,Id,be,ce,a59,ge,le,ne,Ne,of,wf,If,dg,bi,ci,a70,ii,a72,li,pi,a75,a76,Pi,kk,ok,a80,dl,el,nl,ol,a85,pl,a87,ul,am,em,a91,lm,a93,sm,Nm,fn,on,cs,es,gs,is,ls,ms,os,rs,us,vs,ws,xs,ys,un,wn,Fn,In,co,a116,a117,go,a119,io,no,ro,to,a124,Do,ap,a127,ip,jp,a130,a131,mp,op,pp,sp,wp,Op,a138,a139,eq,a141,Eq,a143,fr,a145,a146,or,a148,qr,wr] ds) w')
  (TM:∀ (Fr Or cs es gs is ls ms os rs us vs ws xs ys:Value) (w':World),r=none→Yj μ da rsF w'→Q (.panic [{ v:=Tk (),recovered:=false }]) (F [a0,na,a2,a3,a4,a5,cf,Gf,Ob,a9,Dd,Fr,a12,Or,fc,D,G,Jc,H,K,a20,a21,a22,a23,a24,a25,a26,N,a28,O,P,a31,R,T,U,V,W,a37,X,Y,a40,Z,Gb,gc,lc,rc,a46,fd,id,a49,md,a51,rd,a53,wd,Fd,Id,be,ce,a59,ge,le,ne,Ne,of,wf,If,dg,bi,ci,a70,ii,a72,li,pi,a75,a76,Pi,kk,ok,a80,dl,el,nl,ol,a85,pl,a87,ul,am,em,a91,lm,a93,sm,Nm,fn,on,cs,es,gs,is,ls,ms,os,rs,us,vs,ws,xs,ys,un,wn,Fn,In,co,a116,a117,go,a119,io,no,ro,to,a124,Do,ap,a127,ip,jp,a130,a131,mp,op,pp,sp,wp,Op,a138,a139,eq,a141,Eq,a143,fr,a145,a146,or,a148,qr,wr] ds) w') :
  Ae Tryz.prog (lo ((Tryz.f9.body).getD .skip) [1,1,1,1,1,1,1,0]) Q [a0,na,a2,a3,a4,a5,cf,Gf,Ob,a9,Dd,yc,a12,ex,fc,D,G,Jc,H,K,a20,a21,a22,a23,a24,a25,a26,N,a28,O,P,a31,R,T,U,V,W,a37,X,Y,a40,Z,Gb,gc,lc,rc,a46,fd,id,a49,md,a51,rd,a53,wd,Fd,Id,be,ce,a59,ge,le,ne,Ne,of,wf,If,dg,bi,ci,a70,ii,a72,li,pi,a75,a76,Pi,kk,ok,a80,dl,el,nl,ol,a85,pl,a87,ul,am,em,a91,lm,a93,sm,Nm,fn,on,rx,xx,zx,ty,sz,hB,AC,a105,GE,a107,LE,a109,NE,un,wn,Fn,In,co,a116,a117,go,a119,io,no,ro,to,a124,Do,ap,a127,ip,jp,a130,a131,mp,op,pp,sp,wp,Op,a138,a139,eq,a141,Eq,a143,fr,a145,a146,or,a148,qr,wr] ds w:=by
 refine Ga ?_;refine nb ?_;refine wl (jg Ma (fa (wa db)) ?_);refine ab ?_;refine la ?_;refine Cb ?_;refine Ig (13::rg 98 13) (by decide) (fun n m C=>∃ (J:M) (ts':List Gd) (j:List Od) (d:Int) (k:ee) (l:List (Wd×ee)) (od:Bool),m=yf (hi (.i (.bool od)::(hi (ke 13 (Rf (Ee (yf (Ni (Re 98 (Hj 108 (Ee (Ee []))))))))))))∧ha μ J∧Mp E J Ka bb Qg ts' j d k l∧(if od=true then Zo E fu n ts' j d=some r else r=some (ts',j,d))∧ja J da C (.row Gf 77 1 (Qg.map Fc.mk).length pe::.row cf 74 1 (bb.map Fc.mk).length df::Ai Ka d k ts' l rsF)) (by rintro _ _ _ ⟨_,_,_,_,_,_,_,rfl,_⟩;rfl) n _ (Dc (Af (jb (Af (Kb (Vc (Vb (Dc (Wf (oc (Pg (Vb (Vb Za))))))))))))) ⟨μ,sa,bs,nd,S,L,true,rfl,ha.r,b,by simpa using h,a⟩ ?_;clear h b a;rintro n _ t C ⟨st,ut,UM,VM,WM,XM,od,rfl,A,b,h,a⟩;refine Jg (Bf (Ci (gd (Ci (ve (ag (He (Bf (pj (af (hk (He (He Qc))))))))))))) ?_;refine Ga ?_;refine Ga ?_;refine nb ?_;refine wl (lf (aa (ga d1)) (fa (mf Tb)) ?_);refine ab ?_;refine la ?_;cases od with
 | false =>
  refine Fp (aa (Yc d8)) (fun q=>by cases q) (fun _=>?_);refine fg ?_;refine (fun h=>sd (sd (hg h))) ?_;rw [if_neg (by simp)] at h;exact SM _ _ _ _ _ _ _ _ _ _ _ _ _ _ _ _ _ _ _ _ _ _ h A b a
 | true =>
  rw [if_pos rfl] at h;cases n with
  | zero=>cases h
  | succ n =>
  rw [Zo] at h;obtain ⟨YM,wt,h⟩:=ra h;refine Fp (aa (Yc d8)) (fun _=>?_) (fun q=>by cases q);refine lb ?_;refine la ?_;refine Cb ?_;refine Ga ?_;refine nb ?_;refine wl (jg Ma (fa (wa db)) ?_);refine ab ?_;refine la ?_;refine Ga ?_;refine nb ?_;refine wl (lf (aa d7) (fa (mf Pb)) ?_);refine wl (Au Tryz.underlying72 (aa (Yc d9)) (a.get d0).il (fa (cb ua)) ?_);refine wl (lf Ma (fa (cb db)) ?_);refine ab ?_;refine la ?_;refine Cb ?_;refine Ig (13::rg 102 9) (by decide) (fun n m C=>∃ (J:M) (pre rest:List Gd) (j:List Od) (d:Int) (k:ee) (l:List (Wd×ee)) (od:Bool),m=yf (hi (.i (.bool od)::(hi (ke 13 (Rf (Ee (yf (Vj (.i (.int .i64 (pre.length:Int))::(wo 102 (Ee (Ee []))))))))))))∧ha st J∧Mp E J Ka bb Qg (pre++rest) j d k l∧Un E fu pre rest j d od=some YM∧rest.length<n∧ja J da C (.row Gf 77 1 (Qg.map Fc.mk).length pe::.row cf 74 1 (bb.map Fc.mk).length df::Ai Ka d k (pre++rest) l rsF)) (by rintro _ _ _ ⟨_,_,_,_,_,_,_,_,rfl,_⟩;rfl) (ut.length+1) _ (Dc (Af (jb (Af (Kb (Vc (Vb (Dc (eh (jb (qj (Vb (Vb Za))))))))))))) ⟨st,[],ut,UM,VM,WM,XM,false,rfl,ha.r,b,wt,Nat.lt_succ_self _,a⟩ ?_;clear wt b a;rintro m _ qc mN ⟨ZM,pre,rest,Os,p,s,u,od,rfl,y,b,f,hm,a⟩;refine Jg (Bf (Ci (gd (Ci (ve (ag (He (Bf (Kk (gd (er (He (He Qc))))))))))))) ?_;have hlen:Qg.length=pre.length+rest.length:=by
   have:=Lg.len b.all;rw [b.Ca,List.length_map,← this,List.length_append]
  refine Ga ?_;refine nb ?_;refine wl (Hu (aa (ya d1)) (aa (ya d0)) (fa (cb tb)) ?_);refine ab ?_;refine la ?_;refine Ga ?_;refine Nh (aa (ya d2)) (fun aN=>?_) (fun bN=>?_)
  ·rw [List.length_map] at aN;cases rest with
   | nil=>simp only [List.length_nil] at hlen; omega
   | cons qk rest =>
   rw [Un] at f;obtain ⟨c,cN,f⟩:=ra f;have dN:pre.length<Qg.length:=by omega
   have gt:Qg[pre.length]?=some Qg[pre.length]:=List.getElem?_eq_getElem dN;have eN:at_ (Qg.map Fc.mk) (pre.length:Int)=some ⟨Qg[pre.length]⟩:=by simp [at_,gt]
   have fN:(Qg.map Fc.mk).length≤maxLen:=by
    rcases (a.get d0).2 with ⟨-,q⟩ | ⟨g,o,cap,cur,-,-,nN,oN,-⟩
    ·omega
    ·omega
   have hu:Go.Mc.i64 ((pre.length:Int)+1)=some ((pre.length:Int)+1):=if_pos (by
    rw [List.length_map] at fN;have:maxLen≤9223372036854775807:=by decide
    omega)
   cases m with
   | zero=>omega
   | succ m =>
   refine lb ?_;refine la ?_;refine Ga ?_;refine Cb ?_;refine Ga ?_;refine nb ?_;obtain ⟨za,Ag,pN,gN,f5,m6⟩:=Row.elem (α:=Fc) (a.get d0) (RK.up (A.t y)) rfl eN;obtain rfl:=m6;refine wl (Ju Tryz.underlying72 Pd (aa (Yc d9)) (aa (ya d1)) gN (fa (cb Ab)) ?_);refine wl (hd Pd (aa (ya d3)) ((f5 _ _ (a.get d0)).one d0) (fa (cb Ib)) ?_);refine wl (jg (aa (ya d4)) (fa (wa Ab)) ?_);refine ab ?_;refine la ?_;refine Ga ?_;refine nb ?_;refine wl (lf (aa (ga d3)) (fa (cb Wb)) ?_);refine wl (lf (aa d6) (fa (cb Qb)) ?_);have bv:=a.perm (rs':=.row cf 74 1 (bb.map Fc.mk).length df::Ai Ka p s (pre++qk::rest) u (.row Gf 77 1 (Qg.map Fc.mk).length pe::rsF)) (by simp only [Ai];classical exact List.perm_iff_count.2 (fun x=>(by simp only [List.count_append,List.count_cons,List.count_nil];ac_rfl)));refine wl (Te BI Rc (ia (aa (ya d5)) (ia (aa (ya d6)) Xa)) (QF cN b rfl (WF.up (A.t y)) bv gt) ?_);clear a bv;rintro _ qN ⟨rfl,kv,B,a⟩;refine pu (fa (cb Sb)) ?_;refine ab ?_;refine la ?_;have hw:Mp E kv Ka bb Qg (pre++qk::rest) Os p s u:=⟨b.pf.up B,b.all.up B,b.Ca⟩;cases c with
   | false =>
    rw [if_neg (by simp)] at f;refine Fp (aa (ya d7)) (fun q=>by cases q) (fun _=>?_);refine lb ?_;refine (fun h=>ad (la h)) ?_;refine nb ?_;refine wl (ep (aa (ya d1)) Ma hu (fa (cb (wa ua))) ?_);refine wl (lf (aa (ya (ga d0))) (fa (cb db)) ?_);refine ab ?_;refine pb ?_;have it:=a.perm (rs':=.row Gf 77 1 (Qg.map Fc.mk).length pe::.row cf 74 1 (bb.map Fc.mk).length df::Ai Ka p s (pre++qk::rest) u rsF) (by simp only [Ai];classical exact List.perm_iff_count.2 (fun x=>(by simp only [List.count_append,List.count_cons,List.count_nil];ac_rfl)));exact ⟨m,_,_,rfl,(Dc (Af (jb (Af (Kb (Vc (Vb (Dc (eh (jb (qj (Vb (Vb Za))))))))))))),⟨kv,pre++[qk],rest,Os,p,s,u,od,by rw [show (((pre++[qk]).length:Nat):Int)=(pre.length:Int)+1 by simp],y.t B,by simpa using hw,f,by simp only [List.length_cons] at hm;omega,by simpa using it⟩,Nat.lt_succ_self _⟩
   | true =>
    rw [if_pos rfl] at f;obtain ⟨z,hN,f⟩:=ra f;refine Fp (aa (ya d7)) (fun _=>?_) (fun q=>by cases q);refine Ga ?_;refine nb ?_;refine wl (lf (aa (ga d3)) (fa (cb Tb)) ?_);have it:=a.perm (rs':=Ai Ka p s (pre++qk::rest) u ([.row Gf 77 1 (Qg.map Fc.mk).length pe,.row cf 74 1 (bb.map Fc.mk).length df]++rsF)) (by simp only [Ai,List.cons_append,List.nil_append];classical exact List.perm_iff_count.2 (fun x=>(by simp only [List.count_append,List.count_cons,List.count_nil];ac_rfl)));refine wl (Kf CI Rc (ia (aa (ya d8)) Xa) (PF hN hw it gt) ?_ ?_)
    ·rintro x v iN kw ⟨rfl,lt,lw,ww,mt,jN,rt⟩;cases z with
     | none=>cases kw
     | some z =>
     cases kw;refine pu (fa (cb Pb)) ?_;refine ab ?_;refine la ?_;refine nb ?_;refine wl (jg Ma (fa (wa db)) ?_);refine ab ?_;refine (fun h=>ad (la h)) ?_;refine nb ?_;refine wl (ep (aa (ya d1)) Ma hu (fa (cb (wa ua))) ?_);refine wl (lf (aa (ya (ga d0))) (fa (cb db)) ?_);refine ab ?_;refine pb ?_;have kN:=rt.perm (rs':=.row Gf 77 1 (Qg.map Fc.mk).length pe::.row cf 74 1 (bb.map Fc.mk).length df::Ai Ka x.nodes lw (pre++x.t::rest) ww rsF) (by simp only [Ai,List.cons_append,List.nil_append];classical exact List.perm_iff_count.2 (fun x=>(by simp only [List.count_append,List.count_cons,List.count_nil];ac_rfl)));exact ⟨m,_,_,rfl,(Dc (Af (jb (Af (Kb (Vc (Vb (Dc (eh (jb (qj (Vb (Vb Za))))))))))))),⟨lt,pre++[x.t],rest,x.boxes,x.nodes,lw,ww,true,by rw [show (((pre++[x.t]).length:Nat):Int)=(pre.length:Int)+1 by simp],y.t (B.t mt),by simpa using jN,f,by simp only [List.length_cons] at hm;omega,by simpa using kN⟩,Nat.lt_succ_self _⟩
    ·intro e iN he lN;cases z with
     | some z=>cases he
     | none =>
     cases f;cases h;obtain ⟨lt,mt,rt⟩:=lN;repeat (first | refine Nz ?_ | refine LD ?_)
     exact TM _ _ _ _ _ _ _ _ _ _ _ _ _ _ _ _ rfl ⟨lt,A.t (y.t (B.t mt)),Qu rt⟩
  ·rw [List.length_map] at bN;cases rest with
   | cons qk rest=>simp only [List.length_cons] at hlen; omega
   | nil =>
   rw [Un] at f;cases f;refine fg ?_;refine (fun h=>sd (sd (hg h))) ?_;refine (fun h=>ad (pb h)) ?_;rw [List.append_nil] at b a;exact ⟨n,_,_,rfl,(Dc (Af (jb (Af (Kb (Vc (Vb (Dc (Wf (oc (Pg (Vb (Vb Za))))))))))))),⟨ZM,pre,Os,p,s,u,od,rfl,A.t y,b,by
    cases od
    ·simpa using h.symm
    ·simpa using h,a⟩,Nat.lt_succ_self _⟩
end
end Go.Proofs.YticaondbdmcpoaaGreatDoor
set_option maxRecDepth 100000
set_option maxHeartbeats 20000000
namespace Go.Proofs.YticaondbdmcpoaaGreatDoor
open Go.hc Go.Mc Go.Y
theorem tj {κ β:Type}[DecidableEq κ]{k k':κ}{x:β}:∀ {m:List (κ×β)},ob (Nd m k x) k'=if k'=k then some x else ob m k'
 | []=>by
  simp only [Nd,ob];by_cases h:k'=k
  ·subst h;simp
  ·simp [h,Ne.symm h]
 | (a,b)::m=>by
  have c:=tj (k:=k) (k':=k') (x:=x) (m:=m);simp only [Nd];split
  ·rename_i h;subst h;simp only [ob];by_cases h:k'=a
   ·subst h;simp
   ·simp [h,Ne.symm h]
  ·rename_i h;simp only [ob] at c ⊢;by_cases d:a=k'
   ·subst d;simp [h]
   ·simp [d,c]
def Hp (O:List (Ie×Int)) (bb:List Nat) (ji:List (Ie×Mk)):Prop:=∀ n i,ob O n=some i→∃ (j b:Nat),i=(j:Int)∧bb[j]?=some b∧ob ji n=some ⟨some b⟩
theorem Hp.nil:Hp [] [] []:=fun n i h=>by cases h
theorem Hp.put {O:List (Ie×Int)}{bb:List Nat}{ji:List (Ie×Mk)}(h:Hp O bb ji){n:Ie}{b:Nat}:Hp (Nd O n (bb.length:Int)) (bb++[b]) (Nd ji n ⟨some b⟩):=by
 intro d i a;rw [tj] at a ⊢;by_cases e:d=n
 ·rw [if_pos e] at a ⊢;cases a;exact ⟨bb.length,b,rfl,by simp,rfl⟩
 ·rw [if_neg e] at a ⊢;obtain ⟨j,ed,f,c,g⟩:=h _ _ a;exact ⟨j,ed,f,by rw [List.getElem?_append_left (List.getElem?_eq_some_iff.1 c).1];exact c,g⟩
theorem Hp.ai {O:List (Ie×Int)}{bb:List Nat}{ji:List (Ie×Mk)}(h:Hp O bb ji) (n:Ie) (i b:Nat) (c:ob O n=some (i:Int)) (d:bb[i]?=some b):ob ji n=some ⟨some b⟩:=by
 obtain ⟨j,ed,e,a,f⟩:=h _ _ c;obtain rfl:i=j:=by omega
 rw [d] at a;cases a;exact f
structure vD (μ:M) (u:km) (dl:List va) (is:List Sh) (bb:List Nat) (ji:List (Ie×Mk)) (a:List Qa) (b:List MapEntry) (Si:Nat) (c:List MapEntry) (d:Nat) (e:List MapEntry) (f:Nat) (df pe:List Value):Prop where
 sa:u.sa=dl.map Im
 new:Ej μ dl is
 rt:Ua μ pe ((is.map Sh.Ca).map Fc.mk)
 nv:Ua μ df (bb.map Fc.mk)
 Hb:uf (Vq μ) u.bs bb a
 Ho:Hf μ b Si u.D
 Vm:Hf μ c d ji
 pr:Hf μ e f u.O
 ai:Hp u.O bb ji
end Go.Proofs.YticaondbdmcpoaaGreatDoor
set_option maxRecDepth 100000
set_option maxHeartbeats 20000000
namespace Go.Proofs.YticaondbdmcpoaaGreatDoor
open Go.hc Go.Mc Go.Y
section
variable {da:World}{rsF:List Qa}{μ:M}{w:World}{Ka Wm Xm Ym:Nat}{l:List va}{vd:Option Addr}{xd:Nat}
variable {Q:Exit→Act→World→Prop}{ds:List Deferred}
theorem BG {na a2 a3 a4 Ob a9 Dd yc a12 rd fc wd Fd Jc Id be a20 a21 a22 a23 a24 a25 a26 ce a28 ge he a31 pp sp wp Op eq a37 Eq fr a40 or qr wr Fr Or a46 cs es a49 gs a51 ls a53 ms os rs us vs a59 ws xs ys Os gt it lt mt st ut a70 wt a72 fu bv a75 a76 kv hw kw a80 lw ww ex rx a85 zx a87 ty sz AC a91 GE a93 LE NE WF RK le ne Ne of wf If dg a105 bi a107 ci a109 ii li pi Pi ok el a116 a117 nl a119 ol pl ul am a124 em hm a127 lm sm a130 a131 Nm fn on un wn Fn a138 a139 In a141 co a143 go a145 a146 io a148 no ro:Value}(hB:∀ d,8≤d→ck Q d) (BO:l.length≤4294967295) (U:Na μ vd xd l)
  (c:ja μ da w (.map Ym [] 0::.map Xm [] 0::.map Wm [] 0::.ba Ka 70 [.map (some Wm),.map (some Xm),.map (some Ym),.int .i64 0]::rsF))
  (SM:∀ (Of Mf TM UM VM WM XM YM ZM aN bN cN dN eN fN gN hN iN jN kN lN mN nN oN pN qN rN sN tN uN vN wN xN yN zN AN BN CN DN EN FN GN HN IN JN KN LN MN NN ON PN QN RN SN TN UN VN WN XN YN ZN aO bO cO dO eO fO gO hO iO:Value) (w':World) (J:M) (dl:List va) (is:List Sh) (bb:List Nat) (ji:List (Ie×Mk)) (y:List Qa) (L:List MapEntry) (Si:Nat) (C:List MapEntry) (E:Nat) (G:List MapEntry) (H:Nat) (df pe:List Value) (cf Gf:Value),ha μ J→vD J (Tg l) dl is bb ji y L Si C E G H df pe→ja J da w' (.map Ym G H::.map Xm C E::.map Wm L Si::.ba Ka 70 [.map (some Wm),.map (some Xm),.map (some Ym),.int .i64 0]::.row cf 74 1 (bb.map Fc.mk).length df::.row Gf 77 1 ((is.map Sh.Ca).map Fc.mk).length pe::(y++(qp Ka is++rsF)))→Q .normal (F [.slice vd l.length xd,na,a2,a3,a4,vb Ka,cf,Gf,Of,Mf,TM,yc,a12,rd,fc,wd,Fd,Jc,Id,be,a20,a21,a22,a23,a24,a25,a26,ce,a28,ge,he,UM,VM,WM,XM,YM,ZM,aN,bN,cN,dN,eN,fN,gN,hN,iN,jN,kN,lN,mN,nN,oN,pN,qN,rN,sN,tN,uN,vN,wN,xN,yN,zN,AN,BN,CN,DN,EN,FN,GN,HN,IN,JN,KN,LN,MN,NN,ON,PN,QN,RN,SN,TN,UN,VN,WN,XN,YN,ZN,aO,bO,cO,dO,eO,fO,gO,hO,iO,le,ne,Ne,of,wf,If,dg,a105,bi,a107,ci,a109,ii,li,pi,Pi,ok,el,a116,a117,nl,a119,ol,pl,ul,am,a124,em,hm,a127,lm,sm,a130,a131,Nm,fn,on,un,wn,Fn,a138,a139,In,a141,co,a143,go,a145,a146,io,a148,no,ro] ds) w') :
  Ae Tryz.prog (lo ((Tryz.f9.body).getD .skip) [1,1,1,1,1,1,0]) Q [.slice vd l.length xd,na,a2,a3,a4,vb Ka,.slice none 0 0,.slice none 0 0,Ob,a9,Dd,yc,a12,rd,fc,wd,Fd,Jc,Id,be,a20,a21,a22,a23,a24,a25,a26,ce,a28,ge,he,a31,pp,sp,wp,Op,eq,a37,Eq,fr,a40,or,qr,wr,Fr,Or,a46,cs,es,a49,gs,a51,ls,a53,ms,os,rs,us,vs,a59,ws,xs,ys,Os,gt,it,lt,mt,st,ut,a70,wt,a72,fu,bv,a75,a76,kv,hw,kw,a80,lw,ww,ex,rx,a85,zx,a87,ty,sz,AC,a91,GE,a93,LE,NE,WF,RK,le,ne,Ne,of,wf,If,dg,a105,bi,a107,ci,a109,ii,li,pi,Pi,ok,el,a116,a117,nl,a119,ol,pl,ul,am,a124,em,hm,a127,lm,sm,a130,a131,Nm,fn,on,un,wn,Fn,a138,a139,In,a141,co,a143,go,a145,a146,io,a148,no,ro] ds w:=by
 refine Ga ?_;refine nb ?_;refine wl (lf (aa d0) (fa (cc db)) ?_);refine wl (CB Tryz.underlying22 (aa (Ha d1)) (fa (cc tb)) ?_);refine wl (lf Ma (fa (cc Ab)) ?_);refine ab ?_;refine la ?_;refine Cb ?_;refine Ig (8::9::10::rg 34 64) (by decide) (fun n m V=>∃ (J:M) (i:Nat) (dl:List va) (is:List Sh) (bb:List Nat) (ji:List (Ie×Mk)) (y:List Qa) (L:List MapEntry) (Si:Nat) (C:List MapEntry) (E:Nat) (G:List MapEntry) (H:Nat) (df pe:List Value) (cf Gf:Value),m=ik (.i cf::.i Gf::(Hj 8 (Ee (pg (.i (.int .i64 (i:Int))::(qn 34 (Re 84 (om 94 (Rf (xj []))))))))))∧(bb.length≤i∧is.length≤i∧i≤l.length)∧l.length<n+i∧ha μ J∧vD J ((l.take i).foldl oh ⟨[],[],[],[]⟩) dl is bb ji y L Si C E G H df pe∧ja J da V (.map Ym G H::.map Xm C E::.map Wm L Si::.ba Ka 70 [.map (some Wm),.map (some Xm),.map (some Ym),.int .i64 0]::.row cf 74 1 (bb.map Fc.mk).length df::.row Gf 77 1 ((is.map Sh.Ca).map Fc.mk).length pe::(y++(qp Ka is++rsF)))) (by rintro _ _ _ ⟨_,_,_,_,_,_,_,_,_,_,_,_,_,_,_,_,_,rfl,_⟩;rfl) (l.length+1) _ (dh (jb (jb (Pg (Vb (ld (jb (qi (oc (Rh (Vc (ng Za)))))))))))) ⟨μ,0,[],[],[],[],[],[],0,[],0,[],0,[],[],_,_,rfl,⟨by simp,by simp,by omega⟩,by omega,ha.r,⟨rfl,trivial,Ua.nil,Ua.nil,trivial,Hf.nil,Hf.nil,Hf.nil,Hp.nil⟩,?_⟩ ?_
 ·refine (zt (T:=77) (n:=1) (zt (T:=74) (n:=1) c)).perm ?_;simp only [qp,List.flatMap_nil,List.map_nil,List.length_nil,List.nil_append];classical exact List.perm_iff_count.2 (fun x=>(by simp only [List.count_append,List.count_cons,List.count_nil];ac_rfl))
 clear c;rintro n _ t V ⟨W,i,dl,is,bb,ji,y,L,Si,C,E,G,H,df,pe,cf,Gf,rfl,⟨CO,DO,EO⟩,FO,N,p,c⟩;refine Jg (sl (gd (gd (hk (He (yg (gd (zp (af (yn (ag (Uj Qc)))))))))))) ?_;refine Ga ?_;refine nb ?_;refine wl (Hu (aa (Ha d3)) (aa (Ha d2)) (fa (cc Ib)) ?_);refine ab ?_;refine la ?_;refine Ga ?_;refine Nh (aa (Ha d4)) (fun GO=>?_) (fun HO=>?_)
 ·have jO:i<l.length:=by omega
  have kO:l[i]?=some l[i]:=List.getElem?_eq_getElem jO;obtain ⟨d,to⟩:∃ d,l[i]?=some d:=⟨_,kO⟩;have La:at_ l (i:Int)=some d:=by simpa [at_] using to
  have X:l.take (i+1)=l.take i++[d]:=by rw [List.take_add_one,to];rfl
  have Y:Go.Mc.i64 ((i:Int)+1)=some ((i:Int)+1):=if_pos (by omega);have U:=U.up N;have lO:=p.Ho;have Do:=p.Vm;have ap:=p.pr;have mO:=p.nv;have nO:=p.rt;cases n with
  | zero=>omega
  | succ n =>
  refine lb ?_;refine la ?_;refine Ga ?_;refine Cb ?_;refine Ga ?_;refine nb ?_;refine wl (lf (aa (Ha d3)) (fa (cc Wb)) ?_);refine wl (jg (aa (Ha d5)) (fa Tb) ?_);refine ab ?_;refine la ?_;refine Ga ?_;refine nb ?_;refine wl (lf (aa d0) (fa (cc Qb)) ?_);refine wl (lf (aa d8) (fa (cc Sb)) ?_);obtain ⟨za,Ag,JO,oO,f5,m6⟩:=qd.elem U La;obtain ⟨Lb,Ng,Dd,gx,rfl,m9,m12⟩:=m6;refine wl (Ju Tryz.underlying22 sh (aa (Ha d6)) (aa (Ha d7)) oO (fa (cc Tb)) ?_);refine wl (jg (aa (Ha d8)) (fa Pb) ?_);refine ab ?_;refine la ?_;refine Ga ?_;refine al (by kernel_rfl) rfl fun V Z Gb gc lc=>?_;replace c:=c.drew Z Gb gc lc;refine dd ?_;refine Da (i:=0) [0,1,2,3,9] (fun e Fb f g j k=>hB _ (by decide) e Fb f g j k) rfl rfl rfl (Ye (aa d5)) (cc Pb) ?_;refine Da (i:=1) [1,2,3,9] (fun e Fb f g j k=>hB _ (by decide) e Fb f g j k) rfl rfl rfl (kd (aa (Ha d9))) (kc ua) ?_;refine Da (i:=2) [2,3,9] (fun e Fb f g j k=>hB _ (by decide) e Fb f g j k) rfl rfl rfl (Xc Iy (aa (Wa d0)) rfl) (kc db) ?_;refine hb (i:=3) [3,9] (fun e Fb f g j k=>hB _ (by decide) e Fb f g j k) rfl rfl rfl (pa Uq (aa (Wa d1)) ((c.ba d3).cell d0)) (kc tb) ?_;refine Da (i:=4) [4,5,6,7,9] (fun e Fb f g j k=>hB _ (by decide) e Fb f g j k) rfl rfl rfl (Ye (aa d9)) (kc Ab) ?_;refine Da (i:=5) [5,6,7,9] (fun e Fb f g j k=>hB _ (by decide) e Fb f g j k) rfl rfl rfl (kd (aa (Wa d3))) (kc Ib) ?_;refine Da (i:=6) [6,7,9] (fun e Fb f g j k=>hB _ (by decide) e Fb f g j k) rfl rfl rfl (Xc Gy (aa (Wa d4)) rfl) (kc Wb) ?_;refine hb (i:=7) [7,9] (fun e Fb f g j k=>hB _ (by decide) e Fb f g j k) rfl rfl rfl (pa Sd (aa (Wa d5)) ((f5 _ c.a).one d1)) (kc Qb) ?_;refine Da (i:=8) [8,9] (fun e Fb f g j k=>hB _ (by decide) e Fb f g j k) rfl rfl rfl (Ye (aa d9)) (kc Sb) ?_;refine zb rfl rfl rfl rfl (xb rfl) (xu (κ:=List UInt8) (β:=va) (kk:=d.Name) (xx:=d) Tryz.underlying66 Tryz.underlying9 (aa (Wa d2)) (aa (Wa d6)) (aa (Wa d7)) ⟨_,_,_,rfl,f5,⟨Lb,Ng,Dd,gx,rfl,m9,m12⟩⟩ c d2 lO ib ?_);clear c;intro rc fd KO u m15 v c;cases (show _=u from v);replace c:=Sep.Vf c tb;refine ⟨xa.z,?_⟩;refine Uc ?_;refine la ?_;refine Ga ?_;refine Ga ?_;refine nb ?_;refine wl (lf (aa d9) (fa (kc Tb)) ?_);refine wl (mi (aa (Wa d8)) (fa (kc Pb)) ?_);refine wl (rh Iw (aa (Wa d9)) rfl (fa (Wc ua)) ?_);refine wl (hd Ad (aa (sb d0)) ((f5 _ c.a).one d0) (fa (Wc db)) ?_);refine wl (Ek (aa (sb d1)) Ma (fa (Wc tb)) ?_);refine ab ?_;refine la ?_;refine Nh (aa (sb d2)) (fun id=>?_) (fun id=>?_)
  ·have P:¬ d.Kind=4:=by omega
   have R:∀ b:Nat,app (bb.map Fc.mk) [(⟨b⟩:Fc)]=some (bb.map Fc.mk++[⟨b⟩]):=fun b=>by
    rw [app,if_pos];simp only [List.length_map,List.length_cons,List.length_nil];omega
   have pO:=(c.get d4).il;refine Ga ?_;refine nb ?_;refine wl (lf (aa d9) (fa (Wc Ab)) ?_);refine wl (mi (aa (sb d3)) (fa (Wc Ib)) ?_);refine wl (rh OI (aa (sb d4)) rfl (fa (Wc Wb)) ?_);refine wl (hd Ad (aa (sb d5)) ((f5 _ c.a).one d6) (fa (Wc Qb)) ?_);refine wl (eg KK QK (Xb.o rfl (aa (sb d6)) rfl rfl ua Xb.z) (fa (Wc Sb)) ?_);refine wl (Sc (aa (sb d7)) rfl c ?_);clear c;intro A LO MO c;refine pu (fa (Wc Tb)) ?_;refine wl (jg (aa (sb d8)) (fa (wa ua)) ?_);refine ab ?_;refine la ?_;refine Ga ?_;refine al (by kernel_rfl) rfl fun NO Z Gb gc lc=>?_;replace c:=c.drew Z Gb gc lc;refine dd ?_;refine Da (i:=0) (R':=[1,2,3,4,5,6,7,8,9,10,11,12,13,14,15,16,17,18,19,20,21,22,23,24]) [0,1,2,3,19,20,21,22,23,24] (fun e Fb f g j k=>hB _ (by decide) e Fb f g j k) (by kernel_rfl) (by kernel_rfl) rfl (Ye (aa d5)) (Wc Pb) ?_;refine Da (i:=1) (R':=[2,3,4,5,6,7,8,9,10,11,12,13,14,15,16,17,18,19,20,21,22,23,24]) [1,2,3,19,20,21,22,23,24] (fun e Fb f g j k=>hB _ (by decide) e Fb f g j k) (by kernel_rfl) (by kernel_rfl) rfl (kd (aa (sb d9))) (je ua) ?_;refine Da (i:=2) (R':=[3,4,5,6,7,8,9,10,11,12,13,14,15,16,17,18,19,20,21,22,23,24]) [2,3,19,20,21,22,23,24] (fun e Fb f g j k=>hB _ (by decide) e Fb f g j k) (by kernel_rfl) (by kernel_rfl) rfl (Xc Jy (aa (dc d0)) rfl) (je db) ?_;refine hb (i:=3) (R':=[4,5,6,7,8,9,10,11,12,13,14,15,16,17,18,19,20,21,22,23,24]) [3,19,20,21,22,23,24] (fun e Fb f g j k=>hB _ (by decide) e Fb f g j k) (by kernel_rfl) (by kernel_rfl) rfl (pa Ht (aa (dc d1)) ((c.ba d4).cell d1)) (je tb) ?_;refine Da (i:=4) (R':=[5,6,7,8,9,10,11,12,13,14,15,16,17,18,19,20,21,22,23,24]) [4,5,6,7,19,20,21,22,23,24] (fun e Fb f g j k=>hB _ (by decide) e Fb f g j k) (by kernel_rfl) (by kernel_rfl) rfl (Ye (aa d9)) (je Ab) ?_;refine Da (i:=5) (R':=[6,7,8,9,10,11,12,13,14,15,16,17,18,19,20,21,22,23,24]) [5,6,7,19,20,21,22,23,24] (fun e Fb f g j k=>hB _ (by decide) e Fb f g j k) (by kernel_rfl) (by kernel_rfl) rfl (kd (aa (dc d3))) (je Ib) ?_;refine Da (i:=6) (R':=[7,8,9,10,11,12,13,14,15,16,17,18,19,20,21,22,23,24]) [6,7,19,20,21,22,23,24] (fun e Fb f g j k=>hB _ (by decide) e Fb f g j k) (by kernel_rfl) (by kernel_rfl) rfl (Xc Gy (aa (dc d4)) rfl) (je Wb) ?_;refine hb (i:=7) (R':=[8,9,10,11,12,13,14,15,16,17,18,19,20,21,22,23,24]) [7,19,20,21,22,23,24] (fun e Fb f g j k=>hB _ (by decide) e Fb f g j k) (by kernel_rfl) (by kernel_rfl) rfl (pa Sd (aa (dc d5)) ((f5 _ c.a).one d1)) (je Qb) ?_;refine Da (i:=8) (R':=[9,10,11,12,13,14,15,16,17,18,19,20,21,22,23,24]) [8,9,10,11,19,20,21,22,23,24] (fun e Fb f g j k=>hB _ (by decide) e Fb f g j k) (by kernel_rfl) (by kernel_rfl) rfl (Ye (aa d5)) (je Sb) ?_;refine Da (i:=9) (R':=[10,11,12,13,14,15,16,17,18,19,20,21,22,23,24]) [9,10,11,19,20,21,22,23,24] (fun e Fb f g j k=>hB _ (by decide) e Fb f g j k) (by kernel_rfl) (by kernel_rfl) rfl (kd (aa (dc d7))) (je Tb) ?_;refine Da (i:=10) (R':=[11,12,13,14,15,16,17,18,19,20,21,22,23,24]) [10,11,19,20,21,22,23,24] (fun e Fb f g j k=>hB _ (by decide) e Fb f g j k) (by kernel_rfl) (by kernel_rfl) rfl (Xc JC (aa (dc d8)) rfl) (je Pb) ?_;refine hb (i:=11) (R':=[12,13,14,15,16,17,18,19,20,21,22,23,24]) [11,19,20,21,22,23,24] (fun e Fb f g j k=>hB _ (by decide) e Fb f g j k) (by kernel_rfl) (by kernel_rfl) rfl (pa Wu (aa (dc d9)) ((c.ba d4).cell d2)) (Ed ua) ?_;refine Da (i:=12) (R':=[13,14,15,16,17,18,19,20,21,22,23,24]) [12,13,14,15,19,20,21,22,23,24] (fun e Fb f g j k=>hB _ (by decide) e Fb f g j k) (by kernel_rfl) (by kernel_rfl) rfl (Ye (aa d9)) (Ed db) ?_;refine Da (i:=13) [13,14,15,19,20,21,22,23,24] (fun e Fb f g j k=>hB _ (by decide) e Fb f g j k) rfl rfl rfl (kd (aa (xc d1))) (Ed tb) ?_;refine Da (i:=14) [14,15,19,20,21,22,23,24] (fun e Fb f g j k=>hB _ (by decide) e Fb f g j k) rfl rfl rfl (Xc Gy (aa (xc d2)) rfl) (Ed Ab) ?_;refine hb (i:=15) [15,19,20,21,22,23,24] (fun e Fb f g j k=>hB _ (by decide) e Fb f g j k) rfl rfl rfl (pa Sd (aa (xc d3)) ((f5 _ c.a).one d1)) (Ed Ib) ?_;refine Da (i:=16) [16,21,22,23,24] (fun e Fb f g j k=>hB _ (by decide) e Fb f g j k) rfl rfl rfl (Ye (aa (ga d0))) (Ed Wb) ?_;refine Da (i:=17) [17,18,24] (fun e Fb f g j k=>hB _ (by decide) e Fb f g j k) rfl rfl rfl (Ye (aa d6)) (Ed Qb) ?_;refine Da (i:=18) [18,24] (fun e Fb f g j k=>hB _ (by decide) e Fb f g j k) rfl rfl rfl (ln Tryz.underlying71 (aa (xc d6)) pO) (Ed Sb) ?_;refine zb rfl rfl rfl rfl (xb rfl) (LB (κ:=List UInt8) (β:=Mk) (kk:=d.Name) (z:=(.pointer none)) Tryz.underlying67 Tryz.underlying9 (Wr rfl) (aa (dc d2)) (aa (dc d6)) c d2 Do ?_);clear c;intro OO PO u v c;cases (show _=u from v);refine pu (fa (Ed Tb)) ?_;replace c:=Sep.Vf c tb;refine ⟨xa.z,?_⟩;refine Da (i:=20) [20,21,22,23,24] (fun e Fb f g j k=>hB _ (by decide) e Fb f g j k) rfl rfl rfl (Aw (aa (xc d8)) d1) (Ed Pb) ?_;refine zb rfl rfl rfl rfl (xb rfl) (MB (κ:=List UInt8) (β:=Mk) (kk:=d.Name) (xx:=⟨some A⟩) (aa (dc d2)) (aa (xc d9)) (aa (xc d5)) rfl c d2 Do ib ?_);clear c;intro qO c20 QO u m21 v c;cases (show _=u from v);replace c:=Sep.Vf c tb;refine ⟨xa.z,?_⟩;refine zb rfl rfl rfl rfl (xb rfl) (LB (κ:=List UInt8) (β:=Int) (kk:=d.Name) (z:=(.int .i64 0)) Tryz.underlying68 Tryz.underlying9 (Wr rfl) (aa (xc d0)) (aa (xc d4)) c d1 ap ?_);clear c;intro RO SO u v c;cases (show _=u from v);refine pu (fa (Qd ua)) ?_;replace c:=Sep.Vf c db;refine ⟨xa.z,?_⟩;refine Da (i:=23) [23,24] (fun e Fb f g j k=>hB _ (by decide) e Fb f g j k) rfl rfl rfl (Aw (aa (pc d0)) d1) (Qd db) ?_;refine zb rfl rfl rfl rfl (xb rfl) (MB (κ:=List UInt8) (β:=Int) (kk:=d.Name) (xx:=((bb.map Fc.mk).length:Int)) (aa (xc d0)) (aa (pc d1)) (aa (xc d7)) rfl c d1 ap ib ?_);clear c;intro rO c24 Kg u sO v c;cases (show _=u from v);replace c:=Sep.Vf c db;refine ⟨xa.z,?_⟩;refine Uc ?_;refine la ?_;refine nb ?_;refine wl (lf (aa d6) (fa (Qd tb)) ?_);refine wl (lf (aa (ga d0)) (fa (Qd Ab)) ?_);refine wl (yi Tryz.underlying71 ih (fe.s (aa (pc d3)) rfl fe.z) rfl rfl c ?_);clear c;intro tO uO vO c;refine pu (fa (Qd Ib)) ?_;have S:Ua W [.pointer (some ⟨A,0,none⟩)] [(⟨A⟩:Fc)]:=Ua.one (α:=Fc) rfl;have md:=Ua.app mO S (R A);refine wl (Bk Tryz.underlying71 ih rfl (aa (pc d2)) (aa (pc d4)) c d6 (c.ba d0).cells S rfl (R A) (by decide) ?_);clear c;intro v28 wO u v c;cases (show _=u from v);replace c:=Sep.Vf c Qb;refine pu (fa (Qd Wb)) ?_;replace c:=c.drop ma.z;refine wl (jg (aa (pc d5)) (fa Qb) ?_);refine ab ?_;refine la ?_;refine Ga ?_;refine nb ?_;refine wl (lf (aa d9) (fa (Qd Qb)) ?_);refine wl (mi (aa (pc d6)) (fa (Qd Sb)) ?_);refine wl (rh Iw (aa (pc d7)) rfl (fa (Qd Tb)) ?_);refine wl (hd Ad (aa (pc d8)) ((f5 _ c.a).one d0) (fa (Qd Pb)) ?_);refine wl (Ek (aa (pc d9)) Ma (fa (mf ua)) ?_);refine ab ?_;refine la ?_;refine Ja (aa (Yc d0)) P ?_;refine lb ?_;refine (fun h=>ad (la h)) ?_;refine nb ?_;refine wl (ep (aa (Ha d3)) Ma Y (fa (mf Sb)) ?_);refine wl (lf (aa (Yc d7)) (fa (cc Ab)) ?_);refine ab ?_;refine pb ?_;have hu:(l.take (i+1)).foldl oh ⟨[],[],[],[]⟩=⟨Nd ((l.take i).foldl oh ⟨[],[],[],[]⟩).D d.Name d,Nd ((l.take i).foldl oh ⟨[],[],[],[]⟩).O d.Name (bb.length:Int),((l.take i).foldl oh ⟨[],[],[],[]⟩).bs++[⟨d.gf,[]⟩],((l.take i).foldl oh ⟨[],[],[],[]⟩).sa⟩:=by
    rw [X,List.foldl_append];simp [oh,Mq,Nq,id,p.Hb.len.1]
   exact ⟨n,_,_,rfl,(dh (jb (jb (Pg (Vb (ld (jb (qi (oc (Rh (Vc (ng Za)))))))))))),⟨W,i+1,dl,is,bb++[A],Nd ji d.Name ⟨some A⟩,y++[.ba A 76 [.int .i64 d.gf,.slice none 0 0]],rc,fd,qO,c20,rO,c24,df++[vb A],pe,v28,Gf,by rw [show ((i+1:Nat):Int)=(i:Int)+1 from rfl],⟨by simp;omega,by omega,by omega⟩,by omega,N,hu ▸ ⟨p.sa,p.new,p.rt,by simpa using md,uf.snoc ⟨none,0,rfl,Na.nil⟩ p.Hb,m15,m21,by simpa using sO,p.ai.put⟩,c.perm (by simp only [List.map_append,List.map_cons,List.map_nil,List.append_assoc,List.cons_append,List.nil_append];classical exact List.perm_iff_count.2 (fun x=>(by simp only [List.count_append,List.count_cons,List.count_nil];ac_rfl)))⟩,Nat.lt_succ_self _⟩
  ·refine lb ?_;refine la ?_;refine Ga ?_;refine nb ?_;refine wl (lf (aa d9) (fa (Qd Qb)) ?_);refine wl (mi (aa (pc d6)) (fa (Qd Sb)) ?_);refine wl (rh Iw (aa (pc d7)) rfl (fa (Qd Tb)) ?_);refine wl (hd Ad (aa (pc d8)) ((f5 _ c.a).one d0) (fa (Qd Pb)) ?_);refine wl (Ek (aa (pc d9)) Ma (fa (mf ua)) ?_);refine ab ?_;refine la ?_;refine Nh (aa (Yc d0)) (fun P=>?_) (fun P=>?_)
   ·have R:∀ b:Nat,app ((is.map Sh.Ca).map Fc.mk) [(⟨b⟩:Fc)]=some ((is.map Sh.Ca).map Fc.mk++[⟨b⟩]):=fun b=>by
     rw [app,if_pos];simp only [List.length_map,List.length_cons,List.length_nil];omega
    refine nb ?_;refine wl (lf (aa d7) (fa (mf db)) ?_);refine wl (lf (aa d5) (fa (mf tb)) ?_);refine wl (lf (aa d9) (fa (mf Ab)) ?_);refine wl (Te AI Rc (ia (aa (Yc d2)) (ia (aa (Yc d3)) Xa)) (OH (d:=d) ⟨_,_,_,rfl,f5,⟨Lb,Ng,Dd,gx,rfl,m9,m12⟩⟩ c) ?_);clear c;rintro _ uO ⟨nd,ip,jp,K,mp,op,rfl,B,c,xO,yO,zO⟩;refine pu (fa (mf Ib)) ?_;refine wl (yi Tryz.underlying72 Pd (fe.s (aa (Yc d4)) rfl fe.z) rfl rfl c ?_);clear c;intro tO wO vO c;refine pu (fa (mf Wb)) ?_;have S:Ua nd [vb K] [(⟨K⟩:Fc)]:=Ua.one (α:=Fc) rfl;have md:=Ua.app (nO.up B) S (R K);refine wl (Bk Tryz.underlying72 Pd rfl (aa (Yc d1)) (aa (Yc d5)) c d8 (c.ba d0).cells S rfl (R K) (by decide) ?_);clear c;intro v28 TO u v c;cases (show _=u from v);replace c:=Sep.Vf c Tb;refine pu (fa (mf Qb)) ?_;replace c:=c.drop ma.z;refine wl (jg (aa (Yc d6)) (fa Sb) ?_);refine ab ?_;refine (fun h=>ad (la h)) ?_;refine nb ?_;refine wl (ep (aa (Ha d3)) Ma Y (fa (mf Sb)) ?_);refine wl (lf (aa (Yc d7)) (fa (cc Ab)) ?_);refine ab ?_;refine pb ?_;have hu:(l.take (i+1)).foldl oh ⟨[],[],[],[]⟩=⟨Nd ((l.take i).foldl oh ⟨[],[],[],[]⟩).D d.Name d,((l.take i).foldl oh ⟨[],[],[],[]⟩).O,((l.take i).foldl oh ⟨[],[],[],[]⟩).bs,((l.take i).foldl oh ⟨[],[],[],[]⟩).sa++[Im d]⟩:=by
     rw [X,List.foldl_append];simp [oh,Mq,Nq,P]
    have AO:Zu nd d ⟨K,jp,ip,mp,op,.pointer (some ⟨za,Ag,none⟩)⟩:=⟨Ke.up B ⟨_,_,_,rfl,f5,⟨Lb,Ng,Dd,gx,rfl,m9,m12⟩⟩,xO,yO,zO⟩;exact ⟨n,_,_,rfl,(dh (jb (jb (Pg (Vb (ld (jb (qi (oc (Rh (Vc (ng Za)))))))))))),⟨nd,i+1,dl++[d],is++[⟨K,jp,ip,mp,op,.pointer (some ⟨za,Ag,none⟩)⟩],bb,ji,y,rc,fd,C,E,G,H,df,pe++[vb K],cf,v28,by rw [show ((i+1:Nat):Int)=(i:Int)+1 from rfl],⟨by omega,by simp;omega,by omega⟩,by omega,N.t B,hu ▸ ⟨by simp [p.sa],Ej.snoc AO (Ej.up B p.new),by simpa using md,p.nv.up B,p.Hb.imp fun _ _ _ q=>q.up B,m15.up B,p.Vm.up B,p.pr.up B,p.ai⟩,c.perm (by simp only [List.map_append,List.map_cons,List.map_nil,qp,List.flatMap_append,List.flatMap_cons,List.flatMap_nil,Fu,List.append_assoc,List.cons_append,List.nil_append];classical exact List.perm_iff_count.2 (fun x=>(by simp only [List.count_append,List.count_cons,List.count_nil];ac_rfl)))⟩,Nat.lt_succ_self _⟩
   ·refine lb ?_;refine (fun h=>ad (la h)) ?_;refine nb ?_;refine wl (ep (aa (Ha d3)) Ma Y (fa (mf Sb)) ?_);refine wl (lf (aa (Yc d7)) (fa (cc Ab)) ?_);refine ab ?_;refine pb ?_;have hu:(l.take (i+1)).foldl oh ⟨[],[],[],[]⟩=⟨Nd ((l.take i).foldl oh ⟨[],[],[],[]⟩).D d.Name d,((l.take i).foldl oh ⟨[],[],[],[]⟩).O,((l.take i).foldl oh ⟨[],[],[],[]⟩).bs,((l.take i).foldl oh ⟨[],[],[],[]⟩).sa⟩:=by
     rw [X,List.foldl_append];simp [oh,Mq,Nq,id,P]
    exact ⟨n,_,_,rfl,(dh (jb (jb (Pg (Vb (ld (jb (qi (oc (Rh (Vc (ng Za)))))))))))),⟨W,i+1,dl,is,bb,ji,y,rc,fd,C,E,G,H,df,pe,cf,Gf,by rw [show ((i+1:Nat):Int)=(i:Int)+1 from rfl],⟨by omega,by omega,by omega⟩,by omega,N,hu ▸ ⟨p.sa,p.new,p.rt,p.nv,p.Hb,m15,p.Vm,p.pr,p.ai⟩,c⟩,Nat.lt_succ_self _⟩
 ·obtain rfl:i=l.length:=by omega
  refine fg ?_;refine (fun h=>sd (sd (hg h))) ?_;rw [List.take_length] at p;exact SM _ _ _ _ _ _ _ _ _ _ _ _ _ _ _ _ _ _ _ _ _ _ _ _ _ _ _ _ _ _ _ _ _ _ _ _ _ _ _ _ _ _ _ _ _ _ _ _ _ _ _ _ _ _ _ _ _ _ _ _ _ _ _ _ _ _ _ _ _ _ _ _ _ _ _ _ _ _ _ _ _ _ _ _ _ _ _ N p c
end
end Go.Proofs.YticaondbdmcpoaaGreatDoor
set_option maxRecDepth 100000
set_option maxHeartbeats 4000000
namespace Go.Proofs.YticaondbdmcpoaaGreatDoor
open Go.hc Go.Mc Go.Y
def fl (μ:M):List Gd→List Nat→Prop
 | [],[]=>True
 | t::sa,b::bs=>(∃ v0 v1 v2 v3 a c,Ba μ b 0 [v0,v1,v2,v3,.int .i64 t.state,.int .i64 t.box,.int .i64 t.Le,.slice a t.out.length c]∧Na μ a c t.out)∧fl μ sa bs
 | _,_=>False
theorem fl.up {μ J:M}(l:ha μ J):∀ {sa:List Gd}{bs:List Nat},fl μ sa bs→fl J sa bs
 | [],[],_=>trivial
 | t::sa,b::bs,⟨⟨v0,v1,v2,v3,a,c,d,e⟩,h⟩=>⟨⟨v0,v1,v2,v3,a,c,d.up l,e.up l⟩,fl.up l h⟩
 | [],_::_,h=>h.elim
 | _::_,[],h=>h.elim
theorem VA {E:oe}{da w:World}{Ka:Nat}{bb:List Nat}:∀ {sa:List Gd}{L:List (Wd×ee)}{rs:List Qa}{μ:M},Lg E μ Ka bb sa L→ja μ da w (ph sa L++rs)→∃ J,ha μ J∧fl J sa (L.map fun i=>i.1.Ca)∧ja J da w rs
 | [],[],rs,μ,_,b=>⟨μ,ha.r,trivial,b⟩
 | t::sa,i::L,rs,μ,⟨p,q,j,k⟩,b=>by
  have l:ja μ da w (.row i.2.ec 2 1 t.out.length i.2.Ei::.ba i.1.Ca 85 [vb i.1.Ka,i.2.sc,i.2.nc,vb i.2.Mb,.int .i64 t.state,.int .i64 t.box,.int .i64 t.Le,i.2.ec]::((.row i.2.nc 83 1 ((i.1.B.drop 1).map Fc.mk).length i.2.pe::(i.2.cd++i.2.Cd))++(ph sa L++rs))):=b.perm (by
   simp only [ph,np,List.append_assoc,List.cons_append];classical exact List.perm_iff_count.2 (fun x=>(by simp only [List.count_append,List.count_cons,List.count_nil];ac_rfl)))
  obtain ⟨s,a,c,ia,f,m1,g⟩:=Sep.Il (α:=Int) l j.out rfl;rw [ia] at g;obtain ⟨u,d,m2,m⟩:=Sep.re g;obtain ⟨n,e,m3,o⟩:=VA (Lg.up (f.t d) k) (Qu m);exact ⟨n,(f.t d).t e,⟨⟨_,_,_,_,a,c,m2.up e,m1.up (d.t e)⟩,m3⟩,o⟩
 | [],_::_,_,_,h,_=>h.elim
 | _::_,[],_,_,h,_=>h.elim
def Yk (μ:M):List Od→List Nat→Prop
 | [],[]=>True
 | c::cs,b::bs=>(∃ a k,Ba μ b 0 [.int .i64 c.cap,.slice a c.words.length k]∧Na μ a k c.words)∧Yk μ cs bs
 | _,_=>False
theorem Yk.up {μ J:M}(l:ha μ J):∀ {sa:List Od}{bs:List Nat},Yk μ sa bs→Yk J sa bs
 | [],[],_=>trivial
 | t::sa,b::bs,⟨⟨a,c,d,e⟩,h⟩=>⟨⟨a,c,d.up l,e.up l⟩,Yk.up l h⟩
 | [],_::_,h=>h.elim
 | _::_,[],h=>h.elim
theorem WA {da w:World}:∀ {cs:List Od}{bb:List Nat}{Hb rs:List Qa}{μ:M},uf (Vq μ) cs bb Hb→ja μ da w (Hb++rs)→∃ J,ha μ J∧Yk J cs bb∧ja J da w rs
 | [],[],[],rs,μ,_,d=>⟨μ,ha.r,trivial,d⟩
 | c::cs,b::bb,r::Hb,rs,μ,⟨⟨a,k,g,i⟩,h⟩,d=>by
  subst g;obtain ⟨n,e,m2,j⟩:=Sep.re d;obtain ⟨l,f,m3,m⟩:=WA (h.imp fun _ _ _ q=>q.up e) j;exact ⟨l,e.t f,⟨⟨a,k,m2.up f,i.up (e.t f)⟩,m3⟩,m⟩
 | [],[],_::_,_,_,h,_=>h.elim
 | [],_::_,_,_,_,h,_=>h.elim
 | _::_,[],_,_,_,h,_=>h.elim
 | _::_,_::_,[],_,_,h,_=>h.elim
end Go.Proofs.YticaondbdmcpoaaGreatDoor
set_option maxRecDepth 100000
set_option maxHeartbeats 20000000
namespace Go.Proofs.YticaondbdmcpoaaGreatDoor
open Go.hc Go.Mc Go.Y
theorem fl.at {μ:M}:∀ {sa:List Gd}{bs:List Nat}{i:Nat}{t:Gd},fl μ sa bs→sa[i]?=some t→∃ b v0 v1 v2 v3 a c,bs[i]?=some b∧Ba μ b 0 [v0,v1,v2,v3,.int .i64 t.state,.int .i64 t.box,.int .i64 t.Le,.slice a t.out.length c]∧Na μ a c t.out
 | t::sa,b::bs,0,_,⟨⟨v0,v1,v2,v3,a,c,d,f⟩,_⟩,e=>by cases e; exact ⟨b,v0,v1,v2,v3,a,c,rfl,d,f⟩
 | t::sa,b::bs,i+1,_,⟨_,h⟩,e=>by
  obtain ⟨ed,v0,v1,v2,v3,a,c,q,d,f⟩:=fl.at h (by simpa using e);exact ⟨ed,v0,v1,v2,v3,a,c,by simpa using q,d,f⟩
 | [],[],i,_,_,e=>by simp at e
 | [],_::_,_,_,h,_=>h.elim
 | _::_,[],_,_,h,_=>h.elim
theorem fl.len {μ:M}:∀ {sa:List Gd}{bs:List Nat},fl μ sa bs→bs.length=sa.length
 | [],[],_=>rfl
 | t::sa,b::bs,⟨_,h⟩=>by simp [fl.len h]
 | [],_::_,h=>h.elim
 | _::_,[],h=>h.elim
section
variable {da:World}{rsF:List Qa}{μ:M}{w:World}{Vd:Nat}{sa:List Gd}{Qg:List Nat}{Gf:Value}{pe:List Value}{Pz wn:Value}
variable {Q:Exit→Act→World→Prop}{ds:List Deferred}
theorem CG {a0 na a3 a4 a5 Nb Ob a9 Dd yc a12 q fc wp r Jc u v a20 a21 a22 a23 a24 a25 a26 y a28 A B a31 C D E G H a37 K L a40 M N O P R a46 S U a49 V a51 W a53 X Y Z bb Gb a59 gc lc rc fd id md nd rd wd Fd a70 Id a72 be ce a75 a76 ge he le a80 ne Ne of wf a85 If a87 dg bi ci a91 ii a93 li pi Pi kk ok dl el nl ol pl ul a105 am a107 em a109 hm lm sm Nm fn on a116 a117 Op a119 eq Eq fr or a124 qr wr a127 Fr Or a130 a131 un Fn In co go io a138 a139 no a141 ro a143 to a145 a146 Do a148 ap ip:Value}(hB:∀ d,8≤d→ck Q d) (kv:sa.length≤4294967295) (jp:fl μ sa Qg) (bs:Ua μ pe (Qg.map Fc.mk))
  (b:ja μ da w (.row Gf 77 1 (Qg.map Fc.mk).length pe::.ba Vd 31 [.slice none 0 0,Pz,wn]::rsF))
  (cs:∀ (bf c116 c117 es c119 gs is ls ms c124 os rs c127 us vs c130 c131:Value) (w':World) (k:Value) (l:List Value),Ua μ l (sa.map Ih)→ja μ da w' (.row Gf 77 1 (Qg.map Fc.mk).length pe::.row k 36 4 (sa.map Ih).length l::.ba Vd 31 [k,Pz,wn]::rsF)→Q .normal (F [a0,na,vb Vd,a3,a4,a5,Nb,Gf,Ob,a9,Dd,yc,a12,q,fc,bf,r,Jc,u,v,a20,a21,a22,a23,a24,a25,a26,y,a28,A,B,a31,C,D,E,G,H,a37,K,L,a40,M,N,O,P,R,a46,S,U,a49,V,a51,W,a53,X,Y,Z,bb,Gb,a59,gc,lc,rc,fd,id,md,nd,rd,wd,Fd,a70,Id,a72,be,ce,a75,a76,ge,he,le,a80,ne,Ne,of,wf,a85,If,a87,dg,bi,ci,a91,ii,a93,li,pi,Pi,kk,ok,dl,el,nl,ol,pl,ul,a105,am,a107,em,a109,hm,lm,sm,Nm,fn,on,c116,c117,es,c119,gs,is,ls,ms,c124,os,rs,c127,us,vs,c130,c131,un,Fn,In,co,go,io,a138,a139,no,a141,ro,a143,to,a145,a146,Do,a148,ap,ip] ds) w') :
  Ae Tryz.prog (lo ((Tryz.f9.body).getD .skip) [1,1,1,1,1,1,1,1,1,0]) Q [a0,na,vb Vd,a3,a4,a5,Nb,Gf,Ob,a9,Dd,yc,a12,q,fc,wp,r,Jc,u,v,a20,a21,a22,a23,a24,a25,a26,y,a28,A,B,a31,C,D,E,G,H,a37,K,L,a40,M,N,O,P,R,a46,S,U,a49,V,a51,W,a53,X,Y,Z,bb,Gb,a59,gc,lc,rc,fd,id,md,nd,rd,wd,Fd,a70,Id,a72,be,ce,a75,a76,ge,he,le,a80,ne,Ne,of,wf,a85,If,a87,dg,bi,ci,a91,ii,a93,li,pi,Pi,kk,ok,dl,el,nl,ol,pl,ul,a105,am,a107,em,a109,hm,lm,sm,Nm,fn,on,a116,a117,Op,a119,eq,Eq,fr,or,a124,qr,wr,a127,Fr,Or,a130,a131,un,Fn,In,co,go,io,a138,a139,no,a141,ro,a143,to,a145,a146,Do,a148,ap,ip] ds w:=by
 refine Ga ?_;refine nb ?_;refine wl (lf (aa d7) (fa (cb (wa Qb))) ?_);refine wl (Au Tryz.underlying72 (aa (ya (ga d6))) (b.get d0).il (fa (cb (wa Sb))) ?_);refine wl (lf Ma (fa (cb (wa Tb))) ?_);refine ab ?_;refine la ?_;refine Cb ?_;refine Ig (15::rg 119 13) (by decide) (fun n m o=>∃ (i:Nat) (k:Value) (l:List Value),m=yf (jh (ke 15 (Rf (Rf (pg (.i (.int .i64 (i:Int))::(Re 119 (Hj 129 (yf (Lk []))))))))))∧i≤sa.length∧sa.length<n+i∧Ua μ l ((sa.take i).map Ih)∧ja μ da o (.row Gf 77 1 (Qg.map Fc.mk).length pe::.row k 36 4 ((sa.take i).map Ih).length l::.ba Vd 31 [k,Pz,wn]::rsF)) (by rintro _ _ _ ⟨_,_,_,rfl,_⟩;rfl) (sa.length+1) _ (Dc (Ue (Kb (Vc (Vc (ld (jb (oc (Pg (Dc (Ug Za))))))))))) ⟨0,_,[],rfl,by omega,by omega,Ua.nil,(zt (T:=36) (n:=4) b).perm (by simp only [List.take_zero,List.map_nil,List.length_nil];classical exact List.perm_iff_count.2 (fun x=>(by simp only [List.count_append,List.count_cons,List.count_nil];ac_rfl)))⟩ ?_;clear b;rintro n _ hw o ⟨i,k,l,rfl,kw,lw,p,b⟩;refine Jg (Bf (Ch (ve (ag (ag (yg (gd (af (hk (Bf (Pl Qc))))))))))) ?_;have hlen:=fl.len jp;refine Ga ?_;refine nb ?_;refine wl (Hu (aa (ya (ga d8))) (aa (ya (ga d7))) (fa (cb (wa Pb))) ?_);refine ab ?_;refine la ?_;refine Ga ?_;refine Nh (aa (ya (ga d9))) (fun ws=>?_) (fun xs=>?_)
 ·rw [List.length_map,hlen] at ws;have ys:i<sa.length:=by omega
  obtain ⟨t,mp⟩:∃ t,sa[i]?=some t:=⟨_,List.getElem?_eq_getElem ys⟩;obtain ⟨Ca,v0,v1,v2,v3,op,pp,Os,gt,it⟩:=fl.at jp mp;have lt:at_ (Qg.map Fc.mk) (i:Int)=some ⟨Ca⟩:=by simp [at_,Os]
  have mt:Go.Mc.i64 ((i:Int)+1)=some ((i:Int)+1):=if_pos (by omega);have sp:(sa.take (i+1)).map Ih=(sa.take i).map Ih++[Ih t]:=by rw [List.take_add_one,mp,List.map_append];rfl
  have up:app ((sa.take i).map Ih) [(hs.mk t.state t.box t.Le t.out)]=some ((sa.take i).map Ih++[Ih t]):=by
   rw [app,if_pos]
   ·rfl
   ·simp only [List.length_map,List.length_take,List.length_cons,List.length_nil];omega
  cases n with
  | zero=>omega
  | succ n =>
  refine lb ?_;refine la ?_;refine Ga ?_;refine Cb ?_;refine Ga ?_;refine nb ?_;obtain ⟨ww,ex,rx,rt,f5,m6⟩:=Row.elem (α:=Fc) (b.get d0) bs rfl lt;obtain rfl:=m6;refine wl (Ju Tryz.underlying72 Pd (aa (ya (ga d6))) (aa (ya (ga d8))) rt (fa (cb (eb ua))) ?_);refine wl (hd Pd (aa (ya (qa d0))) ((f5 _ _ (b.get d0)).one d0) (fa (cb (eb db))) ?_);refine wl (jg (aa (ya (qa d1))) (fa (wa Wb)) ?_);refine ab ?_;refine la ?_;refine al (by kernel_rfl) rfl fun o st ut wt fu=>?_;replace b:=b.drew st ut wt fu;refine dd ?_;refine Da (i:=0) [0,1,7,8,9] (fun c Fb e f g j=>hB _ (by decide) c Fb e f g j) rfl rfl rfl (Xc FC (aa d2) rfl) (cb (eb tb)) ?_;refine hb (i:=1) [1,7,8,9] (fun c Fb e f g j=>hB _ (by decide) c Fb e f g j) rfl rfl rfl (pa Tq (aa (ya (qa d2))) ((b.ba d2).cell d0)) (cb (eb Ab)) ?_;refine Da (i:=2) [2,3,4,5,6,7,8,9] (fun c Fb e f g j=>hB _ (by decide) c Fb e f g j) rfl rfl rfl (Ye (aa (ga d5))) (cb (eb Ib)) ?_;refine Da (i:=3) [3,4,5,6,7,8,9] (fun c Fb e f g j=>hB _ (by decide) c Fb e f g j) rfl rfl rfl (kd (aa (ya (qa d4)))) (cb (eb Wb)) ?_;refine Da (i:=4) [4,5,6,7,8,9] (fun c Fb e f g j=>hB _ (by decide) c Fb e f g j) rfl rfl rfl (Xc lp (aa (ya (qa d5))) rfl) (cb (eb Qb)) ?_;refine hb (i:=5) [5,6,7,8,9] (fun c Fb e f g j=>hB _ (by decide) c Fb e f g j) rfl rfl rfl (zh tn (aa (ya (qa d6))) ((gt _ b.a).vg 4 4) rfl) (cb (eb Sb)) ?_;refine zb rfl rfl rfl rfl (xb rfl) (zu Tryz.underlying28 tn rfl (aa (ya (qa d7))) rfl b ?_);clear b;intro za xx zx b;refine pu (fa (cb (eb Tb))) ?_;refine ⟨(xa.s (pa Tq (aa (ya (qa d2))) ((b.ba d3).cell d0)) xa.z),?_⟩;have m5:Ua μ [.int .i64 t.state,.int .i64 t.box,.int .i64 t.Le,.slice op t.out.length pp] [(hs.mk t.state t.box t.Le t.out)]:=(Ua.one (α:=hs) (⟨op,pp,rfl,it⟩));have m4:=Ua.app p m5 up;refine zb rfl rfl rfl rfl (xb rfl) (Bk Tryz.underlying28 tn rfl (aa (ya (qa d3))) (aa (ya (qa d8))) b d2 (b.ba d0).cells m5 rfl up (by decide) ?_);clear b;intro v3 ty hu bv b;cases (show _=hu from bv);replace b:=Sep.Vf b tb;refine pu (fa (cb (eb Pb))) ?_;replace b:=b.drop ma.z;refine ⟨xa.z,?_⟩;refine Da (i:=8) [8,9] (fun c Fb e f g j=>hB _ (by decide) c Fb e f g j) rfl rfl rfl (Xc FC (aa d2) rfl) (cb (cc ua)) ?_;refine zb rfl rfl rfl rfl (xb rfl) (Jd Tq (aa (ya (Ha d0))) (aa (ya (qa d9))) (b.get d1).xg b d2 ua rfl tb ib ?_);clear b;intro sz b;refine ⟨xa.z,?_⟩;refine Uc ?_;refine (fun h=>ad (la h)) ?_;refine nb ?_;refine wl (ep (aa (ya (ga d8))) Ma mt (fa (cb (cc db))) ?_);refine wl (lf (aa (ya (Ha d1))) (fa (cb (wa Tb))) ?_);refine ab ?_;refine pb ?_;exact ⟨n,_,_,rfl,(Dc (Ue (Kb (Vc (Vc (ld (jb (oc (Pg (Dc (Ug Za))))))))))),⟨i+1,_,_,by rw [show ((i+1:Nat):Int)=(i:Int)+1 from rfl],by omega,by omega,sp ▸ m4,sp ▸ b⟩,Nat.lt_succ_self _⟩
 ·rw [List.length_map,hlen] at xs;obtain rfl:i=sa.length:=by omega
  refine fg ?_;refine (fun h=>sd (sd (hg h))) ?_;rw [List.take_length] at p b;exact cs _ _ _ _ _ _ _ _ _ _ _ _ _ _ _ _ _ _ _ _ p b
end
end Go.Proofs.YticaondbdmcpoaaGreatDoor
set_option maxRecDepth 100000
set_option maxHeartbeats 20000000
namespace Go.Proofs.YticaondbdmcpoaaGreatDoor
open Go.hc Go.Mc Go.Y
theorem Yk.at {μ:M}:∀ {sa:List Od}{bs:List Nat}{i:Nat}{t:Od},Yk μ sa bs→sa[i]?=some t→∃ b a c,bs[i]?=some b∧Ba μ b 0 [.int .i64 t.cap,.slice a t.words.length c]∧Na μ a c t.words
 | t::sa,b::bs,0,_,⟨⟨a,c,d,f⟩,_⟩,e=>by cases e; exact ⟨b,a,c,rfl,d,f⟩
 | t::sa,b::bs,i+1,_,⟨_,h⟩,e=>by
  obtain ⟨ed,a,c,q,d,f⟩:=Yk.at h (by simpa using e);exact ⟨ed,a,c,by simpa using q,d,f⟩
 | [],[],i,_,_,e=>by simp at e
 | [],_::_,_,_,h,_=>h.elim
 | _::_,[],_,_,h,_=>h.elim
theorem Yk.len {μ:M}:∀ {sa:List Od}{bs:List Nat},Yk μ sa bs→bs.length=sa.length
 | [],[],_=>rfl
 | t::sa,b::bs,⟨_,h⟩=>by simp [Yk.len h]
 | [],_::_,h=>h.elim
 | _::_,[],h=>h.elim
section
variable {da:World}{rsF:List Qa}{μ:M}{w:World}{Vd:Nat}{bs:List Od}{bb:List Nat}{cf:Value}{df:List Value}{wt wn:Value}
variable {Q:Exit→Act→World→Prop}{ds:List Deferred}
theorem DG {a0 na a3 a4 a5 Lb Ob a9 Dd yc a12 C fc D E Jc G H a20 a21 a22 a23 a24 a25 a26 K a28 L N a31 O P R S U a37 V W a40 X Y Z Gb gc a46 lc rc a49 fd a51 id a53 md nd rd wd Fd a59 Id be ce ge he le ne Ne of wf a70 If a72 dg bi a75 a76 ci ii li a80 pi Pi kk ok a85 dl a87 el nl ol a91 pl a93 ul am em hm lm sm Nm fn on un Fn a105 In a107 co a109 go io no ro to Do a116 a117 ap a119 ip jp mp op a124 pp sp a127 wp Op a130 a131 cs es gs is ls ms a138 a139 os a141 rs a143 us a145 a146 vs a148 eq Eq:Value}(hB:∀ d,8≤d→ck Q d) (UM:bs.length≤4294967295) (hw:∀ c ∈ bs,c.words.length≤4294967295) (fr:Yk μ bs bb) (ws:Ua μ df (bb.map Fc.mk))
  (b:ja μ da w (.row cf 74 1 (bb.map Fc.mk).length df::.ba Vd 31 [wt,.slice none 0 0,wn]::rsF))
  (xs:∀ (ys Os gt it lt mt rt c138 c139 st c141 ut c143 fu c145 c146 hu c148:Value) (J:M) (w':World) (o:Value) (p:List Value),ha μ J→Ua J p (bs.map Od.words)→ja J da w' (.row cf 74 1 (bb.map Fc.mk).length df::.row o 34 1 (bs.map Od.words).length p::.ba Vd 31 [wt,o,wn]::rsF)→Q .normal (F [a0,na,vb Vd,a3,a4,a5,cf,Lb,Ob,a9,Dd,yc,a12,C,fc,D,E,ys,G,H,a20,a21,a22,a23,a24,a25,a26,K,a28,L,N,a31,O,P,R,S,U,a37,V,W,a40,X,Y,Z,Gb,gc,a46,lc,rc,a49,fd,a51,id,a53,md,nd,rd,wd,Fd,a59,Id,be,ce,ge,he,le,ne,Ne,of,wf,a70,If,a72,dg,bi,a75,a76,ci,ii,li,a80,pi,Pi,kk,ok,a85,dl,a87,el,nl,ol,a91,pl,a93,ul,am,em,hm,lm,sm,Nm,fn,on,un,Fn,a105,In,a107,co,a109,go,io,no,ro,to,Do,a116,a117,ap,a119,ip,jp,mp,op,a124,pp,sp,a127,wp,Op,a130,a131,Os,gt,it,lt,mt,rt,c138,c139,st,c141,ut,c143,fu,c145,c146,hu,c148,eq,Eq] ds) w') :
  Ae Tryz.prog (lo ((Tryz.f9.body).getD .skip) [1,1,1,1,1,1,1,1,1,1,0]) Q [a0,na,vb Vd,a3,a4,a5,cf,Lb,Ob,a9,Dd,yc,a12,C,fc,D,E,Jc,G,H,a20,a21,a22,a23,a24,a25,a26,K,a28,L,N,a31,O,P,R,S,U,a37,V,W,a40,X,Y,Z,Gb,gc,a46,lc,rc,a49,fd,a51,id,a53,md,nd,rd,wd,Fd,a59,Id,be,ce,ge,he,le,ne,Ne,of,wf,a70,If,a72,dg,bi,a75,a76,ci,ii,li,a80,pi,Pi,kk,ok,a85,dl,a87,el,nl,ol,a91,pl,a93,ul,am,em,hm,lm,sm,Nm,fn,on,un,Fn,a105,In,a107,co,a109,go,io,no,ro,to,Do,a116,a117,ap,a119,ip,jp,mp,op,a124,pp,sp,a127,wp,Op,a130,a131,cs,es,gs,is,ls,ms,a138,a139,os,a141,rs,a143,us,a145,a146,vs,a148,eq,Eq] ds w:=by
 refine Ga ?_;refine nb ?_;refine wl (lf (aa d6) (fa (cb (cc tb))) ?_);refine wl (Au Tryz.underlying71 (aa (ya (Ha d2))) (b.get d0).il (fa (cb (cc Ab))) ?_);refine wl (lf Ma (fa (cb (cc Ib))) ?_);refine ab ?_;refine la ?_;refine Cb ?_;refine Ig (17::rg 135 14) (by decide) (fun n m u=>∃ (i:Nat) (J:M) (o:Value) (p:List Value),m=yf (jh (pg (ke 17 (Rf (Rf (yf (jh (hi (.i (.int .i64 (i:Int))::(Re 135 (om 145 (pg []))))))))))))∧i≤bs.length∧bs.length<n+i∧ha μ J∧Ua J p ((bs.take i).map Od.words)∧ja J da u (.row cf 74 1 (bb.map Fc.mk).length df::.row o 34 1 ((bs.take i).map Od.words).length p::.ba Vd 31 [wt,o,wn]::rsF)) (by rintro _ _ _ ⟨_,_,_,_,rfl,_⟩;rfl) (bs.length+1) _ (Dc (Ue (ld (Kb (Vc (Vc (Dc (Ue (Af (jb (oc (Rh (ld Za))))))))))))) ⟨0,μ,_,[],rfl,by omega,by omega,ha.r,Ua.nil,(zt (T:=34) (n:=1) b).perm (by simp only [List.take_zero,List.map_nil,List.length_nil];classical exact List.perm_iff_count.2 (fun x=>(by simp only [List.count_append,List.count_cons,List.count_nil];ac_rfl)))⟩ ?_;clear b;rintro n _ VM u ⟨i,J,o,p,rfl,WM,XM,q,v,b⟩;refine Jg (Bf (Ch (yg (ve (ag (ag (Bf (Ch (Ci (gd (af (yn (yg Qc))))))))))))) ?_;have bv:=fr.up q;have kv:=ws.up q;have hlen:=Yk.len fr;refine Ga ?_;refine nb ?_;refine wl (Hu (aa (ya (Ha d4))) (aa (ya (Ha d3))) (fa (cb (cc Wb))) ?_);refine ab ?_;refine la ?_;refine Ga ?_;refine Nh (aa (ya (Ha d5))) (fun kw=>?_) (fun lw=>?_)
 ·rw [List.length_map,hlen] at kw;have ww:i<bs.length:=by omega
  obtain ⟨x,y⟩:∃ x,bs[i]?=some x:=⟨_,List.getElem?_eq_getElem ww⟩;obtain ⟨ex,YM,ZM,rx,xx,zx⟩:=Yk.at bv y;have ty:at_ (bb.map Fc.mk) (i:Int)=some ⟨ex⟩:=by simp [at_,rx]
  have AC:Go.Mc.i64 ((i:Int)+1)=some ((i:Int)+1):=if_pos (by omega);have or:(bs.take (i+1)).map Od.words=(bs.take i).map Od.words++[x.words]:=by rw [List.take_add_one,y,List.map_append];rfl
  have qr:app ((bs.take i).map Od.words) [x.words]=some ((bs.take i).map Od.words++[x.words]):=by
   rw [app,if_pos];simp only [List.length_map,List.length_take,List.length_cons,List.length_nil];omega
  have wr:app ([]:List Int) x.words=some x.words:=by
   rw [app,if_pos]
   ·rfl
   ·have:=hw x (List.mem_iff_getElem?.2 ⟨i,y⟩);simp only [List.length_nil];omega
  cases n with
  | zero=>omega
  | succ n =>
  refine lb ?_;refine la ?_;refine Ga ?_;refine Cb ?_;refine Ga ?_;refine nb ?_;obtain ⟨aN,bN,cN,GE,f5,m6⟩:=Row.elem (α:=Fc) (b.get d0) kv rfl ty;obtain rfl:=m6;refine wl (Ju Tryz.underlying71 ih (aa (ya (Ha d2))) (aa (ya (Ha d4))) GE (fa (cb (cc Qb))) ?_);refine wl (hd ih (aa (ya (Ha d6))) ((f5 _ _ (b.get d0)).one d0) (fa (cb (cc Sb))) ?_);refine wl (jg (aa (ya (Ha d7))) (fa (wa Sb)) ?_);refine ab ?_;refine la ?_;refine al (by kernel_rfl) rfl fun u LE NE WF RK=>?_;replace b:=b.drew LE NE WF RK;refine dd ?_;refine Da (i:=0) [0,1,8,9,10] (fun f Fb g j k l=>hB _ (by decide) f Fb g j k l) rfl rfl rfl (Xc GC (aa d2) rfl) (cb (cc Tb)) ?_;refine hb (i:=1) [1,8,9,10] (fun f Fb g j k l=>hB _ (by decide) f Fb g j k l) rfl rfl rfl (pa js (aa (ya (Ha d8))) ((b.ba d2).cell d1)) (cb (cc Pb)) ?_;refine Da (i:=2) [2,3,4,5,6,7,8,9,10] (fun f Fb g j k l=>hB _ (by decide) f Fb g j k l) rfl rfl rfl (Ye (aa (ga d7))) (cb (kc ua)) ?_;refine Da (i:=3) [3,4,5,6,7,8,9,10] (fun f Fb g j k l=>hB _ (by decide) f Fb g j k l) rfl rfl rfl (kd (aa (ya (Wa d0)))) (cb (kc db)) ?_;refine Da (i:=4) [4,5,6,7,8,9,10] (fun f Fb g j k l=>hB _ (by decide) f Fb g j k l) rfl rfl rfl (Xc Zn (aa (ya (Wa d1))) rfl) (cb (kc tb)) ?_;refine hb (i:=5) [5,6,7,8,9,10] (fun f Fb g j k l=>hB _ (by decide) f Fb g j k l) rfl rfl rfl (pa hh (aa (ya (Wa d2))) ((xx _ b.a).one d1)) (cb (kc Ab)) ?_;replace b:=b.Fm 2 (mb.sz Int);obtain ⟨dN,m5,m6⟩:=Na.cells zx;have m3:=Ua.app (Ua.nil (α:=Int) (μ:=J)) m5 wr;refine zb rfl rfl rfl rfl (xb rfl) (yy Tryz.underlying34 Ve rfl Ma (aa (ya (Wa d3))) b d0 (fun e=>(m6 e)) m5 wr (by decide) ?_);clear b;intro v2 eN A B b;cases (show _=A from B);replace b:=Sep.Vf b ua;refine pu (fa (cb (kc Ib))) ?_;refine ⟨(xa.s (pa js (aa (ya (Ha d8))) ((b.ba d3).cell d1)) xa.z),?_⟩;obtain ⟨SM,Lb,Ng,TM,Fr,m9,Or⟩:=Sep.Il b m3 rfl;clear b;subst TM;have b:=Or;clear Or;refine zb rfl rfl rfl rfl (xb rfl) (yi Tryz.underlying29 hh (fe.s (aa (ya (Wa d4))) rfl fe.z) rfl rfl b ?_);clear b;intro jd fN gN b;refine pu (fa (cb (kc Wb))) ?_;refine ⟨(xa.s (pa js (aa (ya (Ha d8))) ((b.ba d3).cell d1)) xa.z),?_⟩;have m16:Ua SM [.slice Lb x.words.length Ng] [x.words]:=(Ua.one (α:=List Int) (⟨Lb,Ng,rfl,m9⟩));have m15:=Ua.app (v.up Fr) m16 qr;refine zb rfl rfl rfl rfl (xb rfl) (Bk Tryz.underlying29 hh rfl (aa (ya (Ha d9))) (aa (ya (Wa d5))) b d2 (b.ba d0).cells m16 rfl qr (by decide) ?_);clear b;intro hN iN A B b;cases (show _=A from B);replace b:=Sep.Vf b tb;refine pu (fa (cb (kc Qb))) ?_;replace b:=b.drop ma.z;refine ⟨xa.z,?_⟩;refine Da (i:=9) [9,10] (fun f Fb g j k l=>hB _ (by decide) f Fb g j k l) rfl rfl rfl (Xc GC (aa d2) rfl) (cb (kc Sb)) ?_;refine zb rfl rfl rfl rfl (xb rfl) (Jd js (aa (ya (Wa d7))) (aa (ya (Wa d6))) (b.get d1).xg b d2 db rfl tb ib ?_);clear b;intro jN b;refine ⟨xa.z,?_⟩;refine Uc ?_;refine (fun h=>ad (la h)) ?_;refine nb ?_;refine wl (ep (aa (ya (Ha d4))) Ma AC (fa (cb (kc Tb))) ?_);refine wl (lf (aa (ya (Wa d8))) (fa (cb (cc Ib))) ?_);refine ab ?_;refine pb ?_;exact ⟨n,_,_,rfl,(Dc (Ue (ld (Kb (Vc (Vc (Dc (Ue (Af (jb (oc (Rh (ld Za))))))))))))),⟨i+1,_,_,_,by rw [show ((i+1:Nat):Int)=(i:Int)+1 from rfl],by omega,by omega,q.t Fr,or ▸ m15,or ▸ b⟩,Nat.lt_succ_self _⟩
 ·rw [List.length_map,hlen] at lw;obtain rfl:i=bs.length:=by omega
  refine fg ?_;refine (fun h=>sd (sd (hg h))) ?_;rw [List.take_length] at v b;exact xs _ _ _ _ _ _ _ _ _ _ _ _ _ _ _ _ _ _ _ _ _ _ q v b
end
end Go.Proofs.YticaondbdmcpoaaGreatDoor
set_option maxRecDepth 100000
set_option maxHeartbeats 20000000
namespace Go.Proofs.YticaondbdmcpoaaGreatDoor
open Go.hc Go.Mc Go.Y
theorem GA {fu:Nat}{I:M}{da w:World}{rsF:List Qa}(gc:ha ye I){p_1:List va}{na:Option Addr}{c2:Nat}{r:hp×Fe}(m3:Na I na c2 p_1) (h:jn fu p_1=some r) (b:ja I da w (rsF)):Ic Tryz.prog 9 [.slice na p_1.length c2] w (fun v w'=>∃ (J:M) (a4:Option Addr) (c5:Nat) (Lb:Option Addr) (Ng:Nat),v=.tuple ⟨[.agg ⟨[.slice a4 r.1.zi.length c5,.slice Lb r.1.bl.length Ng,.int .i64 r.1.Steps]⟩,.agg ⟨[.int .i64 r.2.tg,.int .i64 r.2.Ba]⟩]⟩∧ha I J∧ja J da w' (rsF)∧Na J a4 c5 r.1.zi∧Na J Lb Ng r.1.bl):=by
 unfold jn at h;replace h:=ra h;obtain ⟨f,lc,h⟩:=h;refine dH Tryz.func9 rfl (frm:=[.slice na p_1.length c2,_,_,_,_,_,_,_,_,_,_,_,_,_,_,_,_,_,_,_,_,_,_,_,_,_,_,_,_,_,_,_,_,_,_,_,_,_,_,_,_,_,_,_,_,_,_,_,_,_,_,_,_,_,_,_,_,_,_,_,_,_,_,_,_,_,_,_,_,_,_,_,_,_,_,_,_,_,_,_,_,_,_,_,_,_,_,_,_,_,_,_,_,_,_,_,_,_,_,_,_,_,_,_,_,_,_,_,_,_,_,_,_,_,_,_,_,_,_,_,_,_,_,_,_,_,_,_,_,_,_,_,_,_,_,_,_,_,_,_,_,_,_,_,_,_,_,_,_,_,_]) rfl ?_;refine Ga ?_;refine nb ?_;refine wl (td Kl b ?_);clear b;intro Vd N io b;refine pu (fa tb) ?_;refine wl (td zd b ?_);clear b;intro Ub O no b;refine pu (fa Ab) ?_;refine ab ?_;refine la ?_;refine Ga ?_;refine Ga ?_;refine nb ?_;refine wl (lf (aa d0) (fa (wa Tb)) ?_);refine wl (Te XJ Rc (ia (aa (ga d8)) Xa) (gE gc m3 lc b) ?_);rintro _ P ⟨rc,rfl,n,b⟩;refine pu (fa (wa Pb)) ?_;refine wl (td zd b ?_);clear b;intro ro to Do b;refine pu (fa Ib) ?_;refine wl (Nc zd (aa d4) (aa (ga d9)) rfl rfl b d0 rfl ua ib ?_);clear b;intro Go b;refine ab ?_;refine la ?_;refine Ga ?_;refine nb ?_;refine wl (rh MI (aa d4) rfl (fa (eb ua)) ?_);refine wl (hd uz (aa (qa d0)) ((b.ba d0).cell d0) (fa (eb db)) ?_);refine wl (MJ (aa (qa d1)) Ma (fa (eb tb)) ?_);refine ab ?_;refine la ?_;refine Nh (aa (qa d2)) (fun y=>?_) (fun y=>?_)
 ·rw [if_pos y] at h;obtain rfl:=wb h;refine Ga ?_;refine al (by kernel_rfl) rfl fun N A B C D=>?_;replace b:=b.drew A B C D;refine dd ?_;refine hb (i:=0) [0,2,3] (fun _ _ _ _ _ h=>ss rfl h) rfl rfl rfl (zh Kl (aa d2) (b.ba d2).cells rfl) (eb Ab) ?_;refine hb (i:=1) [1,3] (fun _ _ _ _ _ h=>ss rfl h) rfl rfl rfl (zh zd (aa d4) (b.ba d0).cells rfl) (eb Ib) ?_;refine zb rfl rfl rfl rfl (xb rfl) (Nc Kl (aa d2) (aa (qa d3)) rfl rfl b d2 rfl tb ib ?_);clear b;intro O b;refine ⟨(xa.s (zh zd (aa d4) (b.ba d0).cells rfl) xa.z),?_⟩;refine zb rfl rfl rfl rfl (xb rfl) (Nc zd (aa d3) (aa (qa d4)) rfl rfl b d1 rfl db ib ?_);clear b;intro P b;refine ⟨xa.z,?_⟩;refine Uc ?_;refine la ?_;refine Oa ?_;refine Pa ?_;refine ED ?_;refine ao rfl (Db.s (.a d2 Kl (b.ba d2).cells rfl) (Db.s (.a d3 zd (b.ba d1).cells rfl) Db.z)) ?_;replace b:=((b.drop ma.z).drop ma.z).drop ma.z;exact ⟨rc,none,0,none,0,rfl,n,b,Na.nil,Na.nil⟩
 rw [if_neg y] at h;rcases Nat.lt_or_ge 4294967295 p_1.length with oa | oa
 ·rw [if_neg (by omega)] at h;cases h
 rw [if_pos oa] at h;replace h:=ra h;obtain ⟨ap,Q,h⟩:=h;replace b:=b.drop ma.z;refine lb ?_;refine la ?_;refine Ga ?_;refine nb ?_;refine wl (tI Xa (ia (aa d2) (ia (aa d3) Xa)) (fa (eb Wb)) ?_);refine wl (yu (aa (qa d5)) Xa ib ?_);refine ab ?_;refine la ?_;refine Ga ?_;refine nb ?_;refine wl (Hl b ?_);clear b;intro Wm ip jp b;refine pu (fa (eb Qb)) ?_;refine wl (Hl b ?_);clear b;intro Xm mp op b;refine pu (fa (eb Sb)) ?_;refine wl (Hl b ?_);clear b;intro Ym Kg pp b;refine pu (fa (eb Tb)) ?_;refine wl (eg JK PK (Xb.o rfl (aa (qa d6)) rfl rfl ua (Xb.o rfl (aa (qa d7)) rfl rfl db (Xb.o rfl (aa (qa d8)) rfl rfl tb (Xb.o rfl Ma rfl rfl Ab Xb.z)))) (fa (eb Pb)) ?_);refine wl (Sc (aa (qa d9)) rfl b ?_);clear b;intro Ka sp wp b;refine pu (fa (cc ua)) ?_;refine wl (jg (aa (Ha d0)) (fa Wb) ?_);refine ab ?_;refine la ?_;refine Ga ?_;refine nb ?_;refine wl (jg Ma (fa Qb) ?_);refine ab ?_;refine la ?_;refine Ga ?_;refine nb ?_;refine wl (jg Ma (fa Sb) ?_);refine ab ?_;refine la ?_;refine Ga ?_;refine BG (hB:=fun d La _ _ _ _ _ h=>ss (d:=d) (by show ([2,3]:List Nat).contains d=false;simp;omega) h) oa (m3.up n) (b.perm (rs':=.map Ym [] 0::.map Xm [] 0::.map Wm [] 0::.ba Ka 70 [.map (some Wm),.map (some Xm),.map (some Ym),.int .i64 0]::.ba Ub 26 [.int .i64 0,.int .i64 0]::.ba Vd 31 [.slice none 0 0,.slice none 0 0,.int .i64 0]::rsF) (by classical exact List.perm_iff_count.2 (fun x=>(by simp only [List.count_append,List.count_cons,List.count_nil];ac_rfl)))) ?_;clear b;intro Op eq Eq fr or qr wr Fr Or cs ds es gs ls ms os rs us vs ws xs ys Os gt it lt mt st ut wt hu bv kv hw kw lw ww ex rx xx zx ty sz AC GE LE NE WF RK SM TM UM VM WM XM YM ZM aN bN cN dN eN fN gN hN iN jN kN lN mN nN oN dl is bb ji E pN Si qN rN sN tN df pe cf Gf R g b;obtain ⟨uN,F,fd,b⟩:=Sep.Hm b g.pr;obtain ⟨vN,G,id,b⟩:=Sep.Hm b (g.Vm.up F);obtain ⟨rd,H,wd,b⟩:=Sep.Hm b (g.Ho.up (F.t G));have k:=F.t (G.t H);have p:Mp (Tg p_1).env rd Ka bb (is.map Sh.Ca) (Tg p_1).sa (Tg p_1).bs 0 ⟨Wm,Xm,Ym,ji,.nilFunc,.slice none 0 0,.slice none 0 0,0,[],[],[],[],E⟩ (is.map fun i=>(Kt Ka bb i,Jt i)):=by
  refine ⟨⟨by omega,by omega,wd,id.up H,fd.up (G.t H),g.ai.ai,g.Hb.imp fun _ _ _ q=>q.up k⟩,?_,?_⟩
  ·rw [g.sa];exact (g.new.up k).all
  ·rw [List.map_map];rfl
 have j:=Ej.res (bb:=bb) (g.new.up k) (b.perm (rs':=qp Ka is++(.row Gf 77 1 ((is.map Sh.Ca).map Fc.mk).length pe::.row cf 74 1 (bb.map Fc.mk).length df::.ba Ka 70 [.map (some Wm),.map (some Xm),.map (some Ym),.int .i64 0]::(E++(.ba Ub 26 [.int .i64 0,.int .i64 0]::.ba Vd 31 [.slice none 0 0,.slice none 0 0,.int .i64 0]::rsF)))) (by classical exact List.perm_iff_count.2 (fun x=>(by simp only [List.count_append,List.count_cons,List.count_nil];ac_rfl))));rw [← g.sa] at j;have S:=j.perm (rs':=.row Gf 77 1 ((is.map Sh.Ca).map Fc.mk).length pe::.row cf 74 1 (bb.map Fc.mk).length df::Ai Ka 0 ⟨Wm,Xm,Ym,ji,.nilFunc,.slice none 0 0,.slice none 0 0,0,[],[],[],[],E⟩ (Tg p_1).sa (is.map fun i=>(Kt Ka bb i,Jt i)) (.ba Ub 26 [.int .i64 0,.int .i64 0]::.ba Vd 31 [.slice none 0 0,.slice none 0 0,.int .i64 0]::rsF)) (by simp only [Ai,ko,List.cons_append,List.append_assoc];classical exact List.perm_iff_count.2 (fun x=>(by simp only [List.count_append,List.count_cons,List.count_nil];ac_rfl)));clear b j;refine la ?_;refine Ga ?_;refine SF Q p (g.nv.up k) (g.rt.up k) S ?_ ?_
 rotate_left
 ·intro Fd Id be ce ge le ne Ne of wf If dg rg bi ci ii e he;subst e;obtain ⟨T,K,b⟩:=he;obtain rfl:=wb h;refine YK CC (AG (b.perm (by classical exact List.perm_iff_count.2 (fun x=>(by simp only [List.count_append,List.count_cons,List.count_nil];ac_rfl))))) ?_;intro li b;refine ao rfl (Db.s (.a d2 Kl (b.ba d0).cells rfl) (Db.s (.a d3 zd (b.ba d1).cells rfl) Db.z)) ?_;replace b:=(b.drop ma.z).drop ma.z;exact ⟨T,none,0,none,0,rfl,n.t (R.t (k.t K)),b,Na.nil,Na.nil⟩
 clear S p;intro Fd Id be ce ge le ne Ne of wf If dg rg bi ci ii sa bs nd T l U e K p b;subst e;unfold Mx at h;simp only at h;have hlen:sa.length≤4294967295∧bs.length≤4294967295∧(bs.all fun c=>decide (c.words.length≤4294967295))=true:=Decidable.byContradiction fun hlen=>by
  rw [if_neg hlen] at h;cases h
 rw [if_pos hlen] at h;obtain ⟨pi,Pi,kk⟩:=hlen;obtain rfl:=wb h;clear h Q;refine la ?_;refine Ga ?_;obtain ⟨ok,el,nl⟩:=p;have j:=b.perm (rs':=.ba Ka 70 [.map (some l.md),.map (some l.Ac),.map (some l.fb),.int .i64 nd]::.ba Vd 31 [.slice none 0 0,.slice none 0 0,.int .i64 0]::(ph sa U++(l.Hb++(.row Gf 77 1 ((is.map Sh.Ca).map Fc.mk).length pe::.row cf 74 1 (bb.map Fc.mk).length df::.ba Ub 26 [.int .i64 0,.int .i64 0]::rsF)))) (by simp only [Ai,ko,List.cons_append,List.append_assoc];classical exact List.perm_iff_count.2 (fun x=>(by simp only [List.count_append,List.count_cons,List.count_nil];ac_rfl)));clear b;have b:=j;clear j;refine nb ?_;refine wl (lf (aa d5) (fa (cb (wa db))) ?_);refine wl (mi (aa (ya (ga d1))) (fa (cb (wa tb))) ?_);refine wl (rh Jw (aa (ya (ga d2))) rfl (fa (cb (wa Ab))) ?_);refine wl (hd Ad (aa (ya (ga d3))) ((b.ba d0).cell d3) (fa (cb (wa Ib))) ?_);refine wl (rh NI (aa d2) rfl (fa (cb (wa Wb))) ?_);refine wl (Jd Ad (aa (ya (ga d5))) (aa (ya (ga d4))) rfl b d1 tb rfl db ib ?_);clear b;intro li b;refine ab ?_;refine la ?_;have j:=(b.drop ma.z).perm (rs':=ph sa U++(l.Hb++(.row Gf 77 1 ((is.map Sh.Ca).map Fc.mk).length pe::.row cf 74 1 (bb.map Fc.mk).length df::.ba Vd 31 [.slice none 0 0,.slice none 0 0,.int .i64 nd]::.ba Ub 26 [.int .i64 0,.int .i64 0]::rsF))) (by classical exact List.perm_iff_count.2 (fun x=>(by simp only [List.count_append,List.count_cons,List.count_nil];ac_rfl)));clear b;obtain ⟨wN,V,ol,b⟩:=VA el j;clear j;obtain ⟨xN,W,pl,b⟩:=WA (ok.Hb.imp fun _ _ _ q=>q.up V) b;have L:=K.t (V.t W);have ul:=(g.rt.up k).up L;have am:=(g.nv.up k).up L;refine Ga ?_;refine CG (hB:=fun d La _ _ _ _ _ h=>ss (d:=d) (by show ([2,3]:List Nat).contains d=false;simp;omega) h) pi (by rw [nl];exact ol.up W) ul (b.perm (rs':=.row Gf 77 1 ((is.map Sh.Ca).map Fc.mk).length pe::.ba Vd 31 [.slice none 0 0,.slice none 0 0,.int .i64 nd]::.row cf 74 1 (bb.map Fc.mk).length df::.ba Ub 26 [.int .i64 0,.int .i64 0]::rsF) (by classical exact List.perm_iff_count.2 (fun x=>(by simp only [List.count_append,List.count_cons,List.count_nil];ac_rfl)))) ?_;clear b;intro bf c116 c117 yN c119 zN AN BN CN c124 DN EN c127 FN GN c130 c131 HN u X em b;refine la ?_;refine Ga ?_;refine DG (hB:=fun d La _ _ _ _ _ h=>ss (d:=d) (by show ([2,3]:List Nat).contains d=false;simp;omega) h) Pi (fun c hm=>by simpa using (List.all_eq_true.1 kk) c hm) pl am (b.perm (rs':=.row cf 74 1 (bb.map Fc.mk).length df::.ba Vd 31 [u,.slice none 0 0,.int .i64 nd]::.row u 36 4 (sa.map Ih).length X::.row Gf 77 1 ((is.map Sh.Ca).map Fc.mk).length pe::.ba Ub 26 [.int .i64 0,.int .i64 0]::rsF) (by classical exact List.perm_iff_count.2 (fun x=>(by simp only [List.count_append,List.count_cons,List.count_nil];ac_rfl)))) ?_;clear b;intro IN JN KN LN MN NN ON z138 z139 PN z141 QN z143 RN z145 z146 SN z148 TN UN Y lm Z sm b;have j:=b.perm (rs':=.row Y 34 1 (bs.map Od.words).length lm::.row u 36 4 (sa.map Ih).length X::.ba Vd 31 [u,Y,.int .i64 nd]::.ba Ub 26 [.int .i64 0,.int .i64 0]::.row cf 74 1 (bb.map Fc.mk).length df::.row Gf 77 1 ((is.map Sh.Ca).map Fc.mk).length pe::rsF) (by classical exact List.perm_iff_count.2 (fun x=>(by simp only [List.count_append,List.count_cons,List.count_nil];ac_rfl)));clear b;obtain ⟨VN,Nm,fn,on,l10,un,m⟩:=Sep.Il j sm rfl;clear j;subst on;have b:=m;clear m;obtain ⟨wn,Fn,In,co,Gb,go,m⟩:=Sep.Il b ((em.up Z).up l10) rfl;clear b;subst co;have b:=m;clear m;refine la ?_;refine Ga ?_;refine al (by kernel_rfl) rfl fun N A B C D=>?_;replace b:=b.drew A B C D;refine dd ?_;refine hb (i:=0) [0,2,3] (fun _ _ _ _ _ h=>ss rfl h) rfl rfl rfl (zh Kl (aa d2) (b.ba d0).cells rfl) (cb (kc Pb)) ?_;refine hb (i:=1) [1,3] (fun _ _ _ _ _ h=>ss rfl h) rfl rfl rfl (zh zd (aa d3) (b.ba d1).cells rfl) (cb (Wc ua)) ?_;refine zb rfl rfl rfl rfl (xb rfl) (Nc Kl (aa d2) (aa (ya (Wa d9))) rfl rfl b d0 rfl ua ib ?_);clear b;intro O b;refine ⟨(xa.s (zh zd (aa d3) (b.ba d1).cells rfl) xa.z),?_⟩;refine zb rfl rfl rfl rfl (xb rfl) (Nc zd (aa d3) (aa (ya (sb d0))) rfl rfl b d1 rfl db ib ?_);clear b;intro P b;refine ⟨xa.z,?_⟩;refine Uc ?_;refine la ?_;refine Oa ?_;refine ED ?_;refine cD CC (RF b) ?_;rintro v w' ⟨rfl,b⟩;refine ao rfl (Db.s (.a d2 Kl (b.ba d0).cells rfl) (Db.s (.a d3 zd (b.ba d1).cells rfl) Db.z)) ?_;replace b:=(((b.drop ma.z).drop ma.z).drop ma.z).drop ma.z;refine ⟨wn,Fn,In,Nm,fn,?_,n.t (R.t (k.t (L.t (Z.t (l10.t Gb))))),b,go,un.up Gb⟩;simp only [Zr,List.length_map]
end Go.Proofs.YticaondbdmcpoaaGreatDoor
