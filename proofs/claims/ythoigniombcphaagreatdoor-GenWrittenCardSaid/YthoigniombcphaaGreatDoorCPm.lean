/- Texts of GenWritten Pm. -/
import Derived.Test.YthoigniombcphaaGreatDoorCPl
import Derived.Test.YthoigniombcphaaGreatDoorCMd
import Derived.Lib.ItoaNum
import Derived.Lib.ParseIntBCases
set_option linter.unusedSimpArgs false
set_option linter.unusedVariables false
set_option linter.unusedSectionVars false
namespace Go.Y
open Go.bc Go.Dc
abbrev mb:=List UInt8
def isLet (c:UInt8):Bool:=decide (97≤c.toNat∧c.toNat≤122∨c.toNat=95)
def Xi (c:UInt8):Bool:=decide (48≤c.toNat∧c.toNat≤57)
def kindOf:mb→Int
 | []=>3
 | c::_=>if isLet c=true then 1 else if Xi c=true then 2 else 3
structure Bu (t:Ua) (w:mb):Prop where
 ub:t.Text=w
 Ce:t.Kind=kindOf w
 Fg:kindOf w=2→Mo w=some t.Eu
def Cb:List Ua→List mb→Prop
 | [],[]=>True
 | t::a,w::ws=>Bu t w∧Cb a ws
 | _,_=>False
theorem Cb.nil {A:List Ua} (h:Cb A []):A=[]:=by
 cases A with
 | nil=>rfl
 | cons t A=>cases h
theorem Cb.cons {A:List Ua} {w:mb} {ws:List mb} (h:Cb A (w::ws)):∃ t a,A=t::a∧Bu t w∧Cb a ws:=by
 cases A with
 | nil=>cases h
 | cons t A=>exact ⟨t,A,rfl,h.1,h.2⟩
theorem Cb.app:∀ {u v:List mb} {A:List Ua},Cb A (u++v)→∃ a b,A=a++b∧Cb a u∧Cb b v
 | [],v,A,h=>⟨[],A,rfl,trivial,h⟩
 | w::u,v,A,h=>by
  obtain ⟨t,g,rfl,c,d⟩:=Cb.cons h
  obtain ⟨a,b,rfl,e,f⟩:=Cb.app d
  exact ⟨t::a,b,rfl,⟨c,e⟩,f⟩
theorem Nv {α:Type} (t:α) (B:List α):cut (t::B) 1 ((t::B).length:Int)=some B:=by
 rw [cut,if_pos ⟨by omega,by simp; omega,by omega⟩]
 simp
theorem Sg {t:Ua} {B:List Ua} {e d:Int} {w:mb} (h:t.Text=w):kf (t::B) e d w=some (true,B,e,d):=by
 rw [kf,jj,if_pos (by simp),yg (by simp),ca,ca]
 show (if (decide (t.Text=w))=true then _ else _)=_
 rw [if_pos (by simpa using h),Nv,ca]
theorem Kc {t:Ua} {B:List Ua} {e d:Int} {w:mb} (h:t.Text≠w):kf (t::B) e d w=some (false,t::B,e,d):=by
 rw [kf,jj,if_pos (by simp),yg (by simp),ca,ca]
 show (if (decide (t.Text=w))=true then _ else _)=_
 rw [if_neg (by simpa using h)]
theorem kH {e d:Int} {w:mb}:kf [] e d w=some (false,[],e,d):=by
 rw [kf,jj,if_neg (by simp),ca,if_neg (by simp)]
theorem Wi {t:Ua} {B:List Ua} {e d:Int} {w:mb} (h:t.Text=w):Hi (t::B) e d [w]=some (B,e,d):=by
 rw [Hi,Yp,if_pos (by simp),yg (by simp),ca]
 show Option.bind (kf (t::B) e d w) _=_
 rw [Sg h,ca,if_pos rfl,Cc (by omega),ca]
 show Yp [w] 1 1 B e d=_
 rw [Yp,if_neg (by simp)]
def sh (w:mb):Prop:=∀ fu,20≤fu→tg fu w=some true
theorem sh.Cu {w:mb} (h:sh w):kindOf w=1:=by
 have h:=h 20 (Nat.le_refl _)
 cases w with
 | nil=>exact absurd h (by decide)
 | cons c w =>
  rw [tg,if_neg (by simp; omega)] at h
  have bad:∀ o:Option Bool,Yj 20 (c::w) true≠some true:=fun _ h=>by cases h
  split at h
  ·exact absurd h (bad none)
  ·rw [yg (by simp),ca] at h
   have e:uk c=some (isLet c):=by
    rw [uk,isLet]
    split
    ·split
     ·exact congrArg some (decide_eq_true (by omega)).symm
     ·exact congrArg some (decide_eq_decide.2 (by omega))
    ·exact congrArg some (decide_eq_decide.2 (by omega))
   show kindOf (c::w)=1
   rw [kindOf]
   by_cases q:isLet c=true
   ·rw [if_pos q]
   ·exfalso
    change Option.bind (uk c) _=_ at h
    rw [e,ca,if_neg q] at h
    exact bad none h
theorem al {fu:Nat} (c:20≤fu) {t:Ua} {w:mb} {B:List Ua} {e d:Int} (h:Bu t w) (a:sh w):jk fu (t::B) e d=some (w,B,e,d):=by
 have b:=h.Ce
 rw [a.Cu] at b
 rw [jk,if_neg (by simp; omega),yg (by simp),ca]
 show Lr fu (t::B) e d (decide (t.Kind≠1))=_
 rw [decide_eq_false (by simpa using b),Lr,if_neg (by decide),yg (by simp),ca]
 show Option.bind (tg fu t.Text) _=_
 rw [h.ub,a fu c,ca,if_pos rfl,Nv,ca]
 show some (t.Text,B,e,d)=_
 rw [h.ub]
theorem sh.ne {w:mb} (h:sh w) {k:mb} (a:Ds zy ([32]++k++[32])=some true):w≠k:=by
 rintro rfl
 have h:=h 20 (Nat.le_refl _)
 rw [tg] at h
 have bad:Yj 20 w true≠some true:=fun h=>by cases h
 split at h
 ·exact bad h
 ·split at h
  ·exact bad h
  ·rename_i f g
   have c:0<w.length:=by omega
   rw [yg c,ca] at h
   cases e:uk w[0] with
   | none=>rw [e,fh] at h; cases h
   | some b =>
    rw [e,ca] at h
    cases b with
    | false=>rw [if_neg (by decide)] at h; exact bad h
    | true =>
     have d:cat [32] w=some ([32]++w):=if_pos (by simp; omega)
     have c2:cat ([32]++w) [32]=some ([32]++w++[32]):=if_pos (by simp; omega)
     rw [if_pos rfl,d,ca,c2,ca,a,ca] at h
     exact bad h
theorem sh.vp {w:mb} (h:sh w) {k:mb} (a:kindOf k≠1):w≠k:=by
 rintro rfl
 exact a h.Cu
def own (k:Int):Nat:=if k=18 then 1 else if k=17 then 2 else if 11≤k∧k≤16 then 3 else if k=6∨k=7 then 4 else if 8≤k∧k≤10 then 5 else if k=4∨k=5 then 6 else 7
def ch (k:Int):mb:=if k=18 then [111,114] else if k=17 then [97,110,100] else if k=11 then [61,61] else if k=12 then [33,61] else if k=13 then [60] else if k=14 then [60,61] else if k=15 then [62] else if k=16 then [62,61] else if k=6 then [43] else if k=7 then [45] else if k=8 then [42] else if k=9 then [47] else if k=10 then [37] else if k=4 then [45] else [110,111,116]
def Ti (f:ua→List mb) (l:List ua):List mb:=(l.map fun x=>[44]::f x).flatten
def Ch (f:ua→List mb):List ua→List mb
 | []=>[[40],[41]]
 | x::l=>[40]::(f x++(Ti f l++[[41]]))
def gh (f:Nat→ua→List mb) (x:ua):List mb :=
 if x.Kind=1 then [Lib.itoa x.N]
 else if x.Kind=2 then [if x.N=1 then [116,114,117,101] else [102,97,108,115,101]]
 else if x.Kind=3 then [x.Name]
 else if x.Kind=4∨x.Kind=5 then ch x.Kind::(match x.Kids with | a::_=>f 6 a | _=>[])
 else if x.Kind≤18 then (match x.Kids with | a::b::_=>f (if own x.Kind=3 then 4 else own x.Kind) a++ch x.Kind::f (own x.Kind+1) b | _=>[])
 else if x.Kind=19 then x.Name::Ch (f 1) x.Kids
 else if x.Kind=20 then [[114,101,99,118],[40],x.Name,[41]]
 else if x.Kind=21 then [121,105,101,108,100]::Ch (f 1) x.Kids
 else if x.Kind=22 then [115,116,97,114,116]::x.Name::Ch (f 1) x.Kids
 else if x.Kind=23 then [114,101,115,117,109,101]::Ch (f 1) x.Kids
 else [97,108,105,118,101]::Ch (f 1) x.Kids
def pd:Nat→Nat→ua→List mb
 | 0,a,x=>[]
 | k+1,a,x=>if own x.Kind<a then [40]::(gh (pd k) x++[[41]]) else gh (pd k) x
def Hp:Nat→ua→Prop
 | 0,_=>False
 | k+1,x=>1≤x.Kind∧x.Kind≤24∧iy x∧(x.Kind=1→0≤x.N∧x.N≤999999999999999)∧(x.Kind=2→x.N=0∨x.N=1)∧((x.Kind=3∨x.Kind=20∨x.Kind=19∨x.Kind=22)→sh x.Name)∧∀ y ∈ x.Kids,Hp k y
def kn:List pg:=[(pg.mk (cc ([]:List (List UInt8×Int)) [111,114] 18) false),(pg.mk (cc ([]:List (List UInt8×Int)) [97,110,100] 17) false),(pg.mk (cc (cc (cc (cc (cc (cc ([]:List (List UInt8×Int)) [61,61] 11) [33,61] 12) [60] 13) [60,61] 14) [62] 15) [62,61] 16) true),(pg.mk (cc (cc ([]:List (List UInt8×Int)) [43] 6) [45] 7) false),(pg.mk (cc (cc (cc ([]:List (List UInt8×Int)) [42] 8) [47] 9) [37] 10) false)]
theorem QA:Ct=some kn:=rfl
def ln (q:Nat) (w:mb):Int:=((kn[q]?).map fun l=>(vb l.lk w).getD 0).getD 0
def once (q:Nat):Bool:=q == 2
def ni (q:Nat) (B:List Ua):Prop:=∀ t a,B=t::a→t.Text≠[40]∧∀ m,q≤m→m<5→ln m t.Text=0
theorem ni.up {q a:Nat} {B:List Ua} (h:ni q B) (d:q≤a):ni a B:=fun t b e=>⟨(h t b e).1,fun m f c=>(h t b e).2 m (by omega) c⟩
def run (n:Nat) (q:Nat) (A:List Ua) (e d:Int):Option (ua×List Ua×Int×Int) :=
 if q=7 then (ae n).Gg A e d else if q=6 then (ae n).ui A e d else (ae n).ti A e d q
def C (N D:Nat) (q:Nat) (ws:List mb) (r:ua):Prop:=∀ (n:Nat) (A B:List Ua) (e d:Int),N≤n→0≤d→d+D≤200→Cb A ws→ni q B→run n q (A++B) e d=some (r,B,e,d)
def Bp (n m q:Nat) (B:List Ua) (e d:Int) (r:ua):Option (ua×List Ua×Int×Int):=sn (ae n) q kn m B e d r.Kind r.N r.Name r.Kids
def yl (N D c:Nat) (q:Nat) (ws:List mb) (r:ua):Prop:=∀ (n:Nat) (A B:List Ua) (e d:Int),N≤n→0≤d→d+D≤200→Cb A ws→ni (q+1) B→∃ m,n≤m+c∧run (n+1) q (A++B) e d=Bp n m q B e d r
theorem hC {q:Nat} (h:q<5):∃ l,kn[q]?=some l∧at_ kn (q:Int)=some l∧l.once=once q∧∀ w,ln q w=(vb l.lk w).getD 0:=by
 have qa:kn.length=5:=rfl
 have e:kn[q]?=some kn[q]:=List.getElem?_eq_getElem (by omega)
 refine ⟨kn[q],e,by rw [Rd,e],?_,fun w=>by rw [ln,e]; rfl⟩
 match q,h with
 | 0,_=>rfl
 | 1,_=>rfl
 | 2,_=>rfl
 | 3,_=>rfl
 | 4,_=>rfl
theorem tx {n q:Nat} (a:q<5) (A:List Ua) (e d:Int):run (n+1) q A e d=(run n (q+1) A e d).bind fun r=>Bp n n q r.2.1 r.2.2.1 r.2.2.2 r.1:=by
 have L:∀ m:Nat,m<5→ti n (ae n) A e d (m:Int)=((ae n).ti A e d ((m+1:Nat):Int)).bind fun r=>sn (ae n) (m:Int) kn n r.2.1 r.2.2.1 r.2.2.2 r.1.Kind r.1.N r.1.Name r.1.Kids:=by
  intro m hm
  have qa:kn.length=5:=rfl
  rw [ti,QA,ca,if_neg (by rw [qa]; omega),Cc (by omega),ca]
  rfl
 rw [run,if_neg (by omega),if_neg (by omega)]
 show ti n (ae n) A e d (q:Int)=_
 rw [L q a,run,if_neg (by omega),if_neg (by omega)]
 rfl
theorem TI {o:Option (ua×List Ua×Int×Int)}:Option.bind o (fun r=>some (r.1,r.2.1,r.2.2.1,r.2.2.2))=o:=by cases o <;> rfl
theorem wF {n:Nat} (A:List Ua) (e d:Int):run (n+1) 5 A e d=run n 6 A e d:=by
 show ti n (ae n) A e d 5=(ae n).ui A e d
 rw [ti,QA,ca,if_pos (by rfl)]
 exact TI
theorem RA {n m q:Nat} {B:List Ua} {e d:Int} {r:ua} (a:q<5) (h:ni q B):Bp n (m+1) q B e d r=some (r,B,e,d):=by
 obtain ⟨l,-,c,-,f⟩:=hC a
 rw [Bp,sn]
 cases B with
 | nil=>rw [if_neg (by simp),kp]; cases r; rfl
 | cons t B =>
  have b:=(h t B rfl).2 q (Nat.le_refl _) a
  rw [f] at b
  rw [if_pos (by simp),c,ca,yg (by simp),ca]
  show (if (vb l.lk t.Text).getD 0=0 then _ else _)=_
  rw [if_pos b,kp]
  cases r; rfl
theorem C.lift {N D q:Nat} {ws:List mb} {r:ua} (b:q<5) (h:C N D (q+1) ws r):C (N+1) D q ws r:=by
 intro n A B e d i c ya f a
 obtain ⟨n,rfl⟩:∃ g,n=g+1:=⟨n - 1,by omega⟩
 rw [tx b,h n A B e d (by omega) c ya f (a.up (by omega)),ca]
 cases n with
 | zero =>
  exfalso
  have:=h 0 A B e d (by omega) c ya f (a.up (by omega))
  rw [run,if_neg (by omega)] at this
  split at this <;> cases this
 | succ n=>exact RA b a
theorem C.hI {N D:Nat} {ws:List mb} {r:ua} (h:C N D 6 ws r):C (N+1) D 5 ws r:=by
 intro n A B e d g a ya b c
 obtain ⟨n,rfl⟩:∃ f,n=f+1:=⟨n - 1,by omega⟩
 rw [wF]
 exact h n A B e d (by omega) a ya b (c.up (by omega))
theorem C.iI {N D:Nat} {w:mb} {ws:List mb} {r:ua} (f:w≠[45]) (g:w≠[110,111,116]) (h:C N D 7 (w::ws) r):C (N+1) D 6 (w::ws) r:=by
 intro n A B e d o i ya a j
 obtain ⟨n,rfl⟩:∃ k,n=k+1:=⟨n - 1,by omega⟩
 have l:=h n A B e d (by omega) i ya a (j.up (by omega))
 obtain ⟨t,b,rfl,c,-⟩:=Cb.cons a
 show ui (ae n) (t::b++B) e d=_
 rw [ui,List.cons_append,Kc (by rw [c.ub]; exact f),ca]
 simp only [Bool.false_eq_true,if_false]
 rw [Kc (by rw [c.ub]; exact g),ca]
 simp only [Bool.false_eq_true,if_false]
 have m:(ae n).Gg (t::(b++B)) e d=some (r,B,e,d):=l
 rw [m,ca]
theorem C.more {N a D b q:Nat} {ws:List mb} {r:ua} (h:C N D q ws r) (f:N≤a) (g:D≤b):C a b q ws r:=fun n A B e d i c j=>h n A B e d (by omega) c (by omega)
theorem C.down {N D q:Nat} {ws:List mb} {r:ua} (b:q≤5) (h:C N D q ws r):∀ (j:Nat),j≤q→C (N+j) D (q - j) ws r
 | 0,_=>h
 | j+1,c=>by
  have a:=C.down b h j (by omega)
  have e:q - j=(q - (j+1))+1:=by omega
  rw [e] at a
  exact C.lift (by omega) a
theorem yl.of {N D q:Nat} {ws:List mb} {r:ua} (a:q<5) (h:C N D (q+1) ws r):yl N D 0 q ws r:=by
 intro n A B e d b c ya f g
 exact ⟨n,by omega,by rw [tx a,h n A B e d b c ya f g,ca]⟩
theorem yl.to {N D c q:Nat} {ws:List mb} {r:ua} (b:q<5) (h:yl N D c q ws r):C (N+c+2) D q ws r:=by
 intro n A B e d l f ya g a
 obtain ⟨n,rfl⟩:∃ i,n=i+1:=⟨n - 1,by omega⟩
 obtain ⟨m,o,j⟩:=h n A B e d (by omega) f ya g (a.up (by omega))
 rw [j]
 obtain ⟨m,rfl⟩:∃ k,m=k+1:=⟨m - 1,by omega⟩
 exact RA b a
theorem yl.more {N a D b c tc q:Nat} {ws:List mb} {r:ua} (h:yl N D c q ws r) (k:N≤a) (l:D≤b) (o:c≤tc):yl a b tc q ws r:=fun n A B e d p f s g i=>by
 obtain ⟨m,sa,j⟩:=h n A B e d (by omega) f (by omega) g i
 exact ⟨m,by omega,j⟩
theorem zs {k:Int} (h:6≤k∧k≤18):∃ q:Nat,own k=q+1∧q<5∧ln q (ch k)=k∧(∀ m,m<5→m≠q→ln m (ch k)=0)∧ch k≠[40]:=by
 have:k=6∨k=7∨k=8∨k=9∨k=10∨k=11∨k=12∨k=13∨k=14∨k=15∨k=16∨k=17∨k=18:=by omega
 rcases this with rfl | rfl | rfl | rfl | rfl | rfl | rfl | rfl | rfl | rfl | rfl | rfl | rfl
 ·exact ⟨3,by decide,by decide,by decide,by decide,by decide⟩
 ·exact ⟨3,by decide,by decide,by decide,by decide,by decide⟩
 ·exact ⟨4,by decide,by decide,by decide,by decide,by decide⟩
 ·exact ⟨4,by decide,by decide,by decide,by decide,by decide⟩
 ·exact ⟨4,by decide,by decide,by decide,by decide,by decide⟩
 ·exact ⟨2,by decide,by decide,by decide,by decide,by decide⟩
 ·exact ⟨2,by decide,by decide,by decide,by decide,by decide⟩
 ·exact ⟨2,by decide,by decide,by decide,by decide,by decide⟩
 ·exact ⟨2,by decide,by decide,by decide,by decide,by decide⟩
 ·exact ⟨2,by decide,by decide,by decide,by decide,by decide⟩
 ·exact ⟨2,by decide,by decide,by decide,by decide,by decide⟩
 ·exact ⟨1,by decide,by decide,by decide,by decide,by decide⟩
 ·exact ⟨0,by decide,by decide,by decide,by decide,by decide⟩
theorem kA {N D q:Nat} {f:List mb} {a b:ua} {k:Int} (o:q<5) (p:6≤k∧k≤18) (H:own k=q+1) (r:C N D (q+1) f b) {n m:Nat} {A B:List Ua} {e d:Int} (s:N≤n) (u:0≤d) (ya:d+D≤200) (v:Cb A (ch k::f)) (w:ni (q+1) B) :
  Bp n (m+1) q (A++B) e d a=if once q=true then some (⟨k,0,[],[a,b]⟩,B,e,d) else Bp n m q B e d ⟨k,0,[],[a,b]⟩:=by
 obtain ⟨l,K,g,x,y⟩:=hC o
 obtain ⟨c,L,Qf,z,Lb,M⟩:=zs p
 obtain rfl:c=q:=by omega
 obtain ⟨t,h,rfl,E,F⟩:=Cb.cons v
 have i:(vb l.lk t.Text).getD 0=k:=by rw [E.ub,← y]; exact z
 have j:=r n h B e d s u ya F w
 rw [run,if_neg (by omega),if_neg (by omega)] at j
 rw [Bp,sn,List.cons_append,if_pos (by simp; omega),g,ca,yg (by simp),ca]
 show (if (vb l.lk t.Text).getD 0=0 then _ else _)=_
 rw [i,if_neg (by omega),Nv,ca,Cc (by omega),ca]
 have G:(ae n).ti (h++B) e d ((c:Int)+1)=some (b,B,e,d):=j
 rw [G,ca,pv,g,ca,x]
 show (if once c=true then kp B e d ((vb l.lk t.Text).getD 0) 0 [] _ else sn _ _ _ _ B e d ((vb l.lk t.Text).getD 0) 0 [] _)=_
 rw [i]
 cases a
 rfl
theorem yl.bin {N D c q:Nat} {g h:List mb} {a b:ua} {k:Int} (u:q<5) (i:6≤k∧k≤18) (v:own k=q+1) (f:q≠2) (w:yl N D c q g a) (x:C N D (q+1) h b) (P:c<N):yl N D (c+1) q (g++ch k::h) ⟨k,0,[],[a,b]⟩:=by
 intro n A B e d j l ya y z
 obtain ⟨E,o,rfl,F,p⟩:=Cb.app y
 obtain ⟨r,Q,Qf,R,Lb,G⟩:=zs i
 obtain rfl:r=q:=by omega
 have H:ni (r+1) (o++B):=by
  obtain ⟨t,S,rfl,K,-⟩:=Cb.cons p
  intro ld T s
  rw [List.cons_append] at s
  obtain ⟨rfl,-⟩:=List.cons.inj s
  rw [K.ub]
  exact ⟨G,fun m V f=>Lb m f (by omega)⟩
 obtain ⟨m,sa,L⟩:=w n E (o++B) e d j l ya F H
 obtain ⟨m,rfl⟩:∃ M,m=M+1:=⟨m - 1,by omega⟩
 refine ⟨m,by omega,?_⟩
 rw [List.append_assoc,L,kA u i v x j l ya p z,if_neg (by simpa [once] using f)]
theorem C.UI {N D:Nat} {g h:List mb} {a b:ua} {k:Int} (i:6≤k∧k≤18) (p:own k=3) (q:C N D 3 g a) (r:C N D 3 h b):C (N+2) D 2 (g++ch k::h) ⟨k,0,[],[a,b]⟩:=by
 intro n A B e d G j ya s u
 obtain ⟨v,c,rfl,w,l⟩:=Cb.app s
 obtain ⟨x,H,Qf,K,Lb,y⟩:=zs i
 obtain rfl:x=2:=by omega
 have z:ni 3 (c++B):=by
  obtain ⟨t,L,rfl,E,-⟩:=Cb.cons l
  intro ld M o
  rw [List.cons_append] at o
  obtain ⟨rfl,-⟩:=List.cons.inj o
  rw [E.ub]
  exact ⟨y,fun m P F=>Lb m F (by omega)⟩
 obtain ⟨n,rfl⟩:∃ f,n=f+1:=⟨n - 1,by omega⟩
 rw [List.append_assoc,tx (by decide),q n v (c++B) e d (by omega) j ya w z,ca]
 obtain ⟨n,rfl⟩:∃ f,n=f+1:=⟨n - 1,by omega⟩
 show Bp (n+1) (n+1) 2 (c++B) e d a=_
 rw [kA (by decide) i p r (by omega) j ya l (u.up (by omega)),if_pos (show once 2=true from rfl)]
theorem C.xF {N D:Nat} {ws:List mb} {r:ua} (h:C N D 0 ws r):C (N+2) (D+1) 7 ([40]::(ws++[[41]])) r:=by
 intro n A B e d u v ya f w
 obtain ⟨n,rfl⟩:∃ g,n=g+2:=⟨n - 2,by omega⟩
 obtain ⟨t,x,rfl,b,i⟩:=Cb.cons f
 obtain ⟨a,y,rfl,j,k⟩:=Cb.app i
 obtain ⟨t2,z,rfl,c,l⟩:=Cb.cons k
 have:=Cb.nil l
 subst this
 have o:ni 0 (t2::B):=by
  intro ld E p
  obtain ⟨rfl,-⟩:=List.cons.inj p
  rw [c.ub]
  exact ⟨by decide,fun m _ h=>(by decide:∀ m,m<5→ln m [41]=0) m h⟩
 have q:=h n a (t2::B) e (d+1) (by omega) (by omega) (by omega) j o
 have s:(ae n).ti (a++t2::B) e (d+1) 0=some (r,t2::B,e,d+1):=q
 have he:(ae (n+1)).ug (a++t2::B) e d=some (r,t2::B,e,d):=by
  show ug (ae n) (a++t2::B) e d=_
  rw [ug,Qm,Cc (by omega),ca,if_neg (by omega),ca]
  simp only []
  rw [s,ca]
  simp only []
  rw [Sm,Cc (by omega),ca,ca]
  simp
 have F:t.Kind=3:=by rw [b.Ce]; decide
 show Gg (n+1) (ae (n+1)) (t::(a++[t2])++B) e d=_
 rw [Gg,List.cons_append,if_pos (by simp; omega),yg (by simp),ca]
 show Fh (n+1) (ae (n+1)) (t::(a++[t2]++B)) e d (decide (t.Kind=2))=_
 rw [decide_eq_false (by omega),Fh,if_neg (by decide),Kc (by rw [b.ub]; decide),ca]
 simp only [Bool.false_eq_true,if_false]
 rw [Kc (by rw [b.ub]; decide),ca]
 simp only [Bool.false_eq_true,if_false]
 rw [Sg b.ub,ca]
 simp only [if_true]
 rw [show a++[t2]++B=a++t2::B by simp,he,ca]
 simp only []
 rw [Wi c.ub,ca]
theorem C.expr {N D:Nat} {ws:List mb} {r:ua} (h:C N D 0 ws r) (n:Nat) (A B:List Ua) (e d:Int) (i:N+1≤n) (j:0≤d) (ya:d+D+1≤200) (a:Cb A ws) (b:ni 0 B):(ae n).ug (A++B) e d=some (r,B,e,d):=by
 obtain ⟨n,rfl⟩:∃ c,n=c+1:=⟨n - 1,by omega⟩
 have f:=h n A B e (d+1) (by omega) (by omega) (by omega) a b
 have g:(ae n).ti (A++B) e (d+1) 0=some (r,B,e,d+1):=f
 show ug (ae n) (A++B) e d=_
 rw [ug,Qm,Cc (by omega),ca,if_neg (by omega),ca]
 simp only []
 rw [g,ca]
 simp only []
 rw [Sm,Cc (by omega),ca,ca]
 simp
theorem C.un {N D:Nat} {ws:List mb} {r:ua} {k:Int} (g:k=4∨k=5) (h:C N D 6 ws r):C (N+1) (D+1) 6 (ch k::ws) ⟨k,0,[],[r]⟩:=by
 intro n A B e d p q ya i j
 obtain ⟨n,rfl⟩:∃ l,n=l+1:=⟨n - 1,by omega⟩
 obtain ⟨t,a,rfl,b,m⟩:=Cb.cons i
 have o:=h n a B e (d+1) (by omega) (by omega) (by omega) m j
 have c:(ae n).ui (a++B) e (d+1)=some (r,B,e,d+1):=o
 have sa:Qm (a++B) e d=some (a++B,e,d+1):=by rw [Qm,Cc (by omega),ca,if_neg (by omega)]
 have f:Sm B e (d+1)=some (B,e,d):=by rw [Sm,Cc (by omega),ca]; simp
 show ui (ae n) (t::a++B) e d=_
 rcases g with rfl | rfl
 ·rw [ui,List.cons_append,Sg (by rw [b.ub]; decide),ca,if_pos rfl]
  simp only []
  rw [sa,ca]
  simp only []
  rw [c,ca]
  simp only []
  rw [f,ca]
 ·rw [ui,List.cons_append,Kc (by rw [b.ub]; decide),ca]
  simp only [Bool.false_eq_true,if_false]
  rw [Sg (by rw [b.ub]; decide),ca,if_pos rfl]
  simp only []
  rw [sa,ca]
  simp only []
  rw [c,ca]
  simp only []
  rw [f,ca]
end Go.Y
namespace Go.Y
open Go.bc Go.Dc
theorem Cn {w:mb} (h:(w≠[40])∧(∀ m,m<5→ln m w=0)) {t:Ua} (a:t.Text=w) (B:List Ua) (q:Nat):ni q (t::B):=by
 intro ld c b
 obtain ⟨rfl,-⟩:=List.cons.inj b
 rw [a]
 exact ⟨h.1,fun m _ hm=>h.2 m hm⟩
theorem VI:([41]:mb)≠[40]∧∀ m,m<5→ln m [41]=0:=by decide
theorem WI:([44]:mb)≠[40]∧∀ m,m<5→ln m [44]=0:=by decide
section
variable {f:ua→List mb} {g:ua→ua} {N D:Nat}
theorem nw {l:List ua} {A B:List Ua} (h:Cb A (Ti f l++[[41]])):ni 0 (A++B):=by
 cases l with
 | nil =>
  obtain ⟨t,b,rfl,a,-⟩:=Cb.cons h
  exact Cn VI a.ub _ 0
 | cons x l =>
  obtain ⟨t,b,rfl,a,-⟩:=Cb.cons h
  exact Cn WI a.ub _ 0
theorem ME {n:Nat} (o:N+1≤n) {e d:Int} (p:0≤d) (ya:d+D+1≤200) (B:List Ua):∀ (l:List ua) (acc:List ua) (m:Nat) (A:List Ua),(∀ y ∈ l,C N D 0 (f y) (g y))→l.length<m→0<acc.length→acc.length+l.length≤6→Cb A (Ti f l++[[41]]) →
  nm (ae n) m (A++B) e d acc=some (acc++l.map g,B,e,d):=by
 intro l
 induction l with
 | nil =>
  intro acc m A c hm q qa a
  obtain ⟨m,rfl⟩:∃ h,m=h+1:=⟨m - 1,by simp at hm; omega⟩
  obtain ⟨t,r,rfl,b,i⟩:=Cb.cons a
  have:=Cb.nil i
  subst this
  rw [nm,List.cons_append,Sg b.ub,ca,if_pos rfl]
  simp
 | cons x l s =>
  intro acc m A c hm q qa a
  rw [List.length_cons] at hm qa
  obtain ⟨m,rfl⟩:∃ h,m=h+1:=⟨m - 1,by omega⟩
  have sa:Ti f (x::l)++[[41]]=[44]::(f x++(Ti f l++[[41]])):=by simp [Ti]
  rw [sa] at a
  obtain ⟨t,r,rfl,b,i⟩:=Cb.cons a
  obtain ⟨u,j,rfl,v,k⟩:=Cb.app i
  have w:=(c x (List.mem_cons_self ..)).expr n u (j++B) e d o p ya v (nw k)
  rw [nm,List.cons_append,Kc (by rw [b.ub]; decide),ca]
  simp only [Bool.false_eq_true,if_false]
  rw [if_pos (by omega)]
  rw [Wi b.ub,ca,Mr,if_neg (by omega)]
  simp only []
  rw [List.append_assoc,w,ca]
  simp only []
  rw [hi (by simp; omega),ca,s (acc++[g x]) m j (fun y z=>c y (List.mem_cons_of_mem _ z)) (by omega) (by simp) (by simp; omega) k]
  simp
theorem SB {l:List ua} {n:Nat} (M:N+10≤n) {e d:Int} (j:0≤d) (ya:d+D+1≤200) {A B:List Ua} (k:∀ y ∈ l,C N D 0 (f y) (g y)) (u:∀ y ∈ l,∃ w ws,f y=w::ws∧w≠[41]) (qa:l.length≤6) (o:Cb A (Ch f l)):(ae n).Ml (A++B) e d=some (l.map g,B,e,d):=by
 obtain ⟨n,rfl⟩:∃ c,n=c+1:=⟨n - 1,by omega⟩
 show Ml n (ae n) (A++B) e d=_
 rw [Ml]
 cases l with
 | nil =>
  obtain ⟨t,v,rfl,h,i⟩:=Cb.cons o
  obtain ⟨t2,a,rfl,z,b⟩:=Cb.cons i
  have:=Cb.nil b
  subst this
  rw [List.cons_append,Wi h.ub,ca]
  simp only []
  obtain ⟨n,rfl⟩:∃ c,n=c+1:=⟨n - 1,by omega⟩
  rw [nm,List.cons_append,Sg z.ub,ca,if_pos rfl]
  simp
 | cons x l =>
  rw [List.length_cons] at qa
  obtain ⟨t,v,rfl,h,i⟩:=Cb.cons o
  obtain ⟨p,a,rfl,q,b⟩:=Cb.app i
  have E:=(k x (List.mem_cons_self ..)).expr n p (a++B) e d (by omega) j ya q (nw b)
  obtain ⟨w,ws,hw,F⟩:=u x (List.mem_cons_self ..)
  rw [List.cons_append,Wi h.ub,ca]
  simp only []
  obtain ⟨m,hm⟩:∃ G,n=G+1:=⟨n - 1,by omega⟩
  have step:nm (ae n) (m+1) (p++a++B) e d []=some ((x::l).map g,B,e,d):=by
   have r:=q
   rw [hw] at r
   obtain ⟨t3,s,rfl,H,-⟩:=Cb.cons r
   rw [nm,List.cons_append,List.cons_append,Kc (by rw [H.ub]; exact F),ca]
   simp only [Bool.false_eq_true,if_false]
   rw [if_neg (by simp),Mr,if_neg (by simp)]
   have K:t3::(s++a++B)=t3::s++(a++B):=by simp
   rw [K,E,ca]
   simp only []
   rw [hi (by simp),ca,ME (show N+1≤n by omega) j ya B l ([]++[g x]) m a (fun y L=>k y (List.mem_cons_of_mem _ L)) (by omega) (by simp) (by simp; omega) b]
   simp
  rw [← hm] at step
  exact step
theorem aE {n:Nat} (q:N+1≤n) {e d:Int} (r:0≤d) (ya:d+D+1≤200) (B:List Ua) (Ce:Int) (M:Nat) (a:M≤6):∀ (l:List ua) (acc:List ua) (i m:Nat) (A:List Ua),(∀ y ∈ l,C N D 0 (f y) (g y))→l.length<m→0<i→i+l.length=M→acc.length≤i→Cb A (Ti f l++[[41]]) →
  Jm (ae n) Ce M m i (A++B) e d acc=some (⟨Ce,0,[],acc++l.map g⟩,B,e,d):=by
 intro l
 induction l with
 | nil =>
  intro acc i m A c hm s a u b
  rw [List.length_nil] at hm a
  obtain ⟨m,rfl⟩:∃ h,m=h+1:=⟨m - 1,by omega⟩
  obtain ⟨t,v,rfl,j,k⟩:=Cb.cons b
  have:=Cb.nil k
  subst this
  rw [Jm,if_neg (by omega),List.cons_append,Wi j.ub,ca]
  simp
 | cons x l w =>
  intro acc i m A c hm s a u b
  rw [List.length_cons] at hm a
  obtain ⟨m,rfl⟩:∃ h,m=h+1:=⟨m - 1,by omega⟩
  have sa:Ti f (x::l)++[[41]]=[44]::(f x++(Ti f l++[[41]])):=by simp [Ti]
  rw [sa] at b
  obtain ⟨t,v,rfl,j,k⟩:=Cb.cons b
  obtain ⟨z,o,rfl,E,p⟩:=Cb.app k
  have F:=(c x (List.mem_cons_self ..)).expr n z (o++B) e d q r ya E (nw p)
  rw [Jm,if_pos (by omega),if_pos (by omega),List.cons_append,Wi j.ub,ca,ur]
  simp only []
  rw [List.append_assoc,F,ca]
  simp only []
  rw [hi (by simp; omega),ca,pt,Cc (by omega),ca]
  have:=w (acc++[g x]) (i+1) m o (fun y G=>c y (List.mem_cons_of_mem _ G)) (by omega) (by omega) (by omega) (by simp; omega) p
  refine this.trans ?_
  simp
theorem Vx {l:List ua} {n:Nat} (u:N+10≤n) {e d:Int} (a:0≤d) (ya:d+D+1≤200) {A B:List Ua} (Ce:Int) (b:∀ y ∈ l,C N D 0 (f y) (g y)) (qa:l.length≤6) (i:0<l.length) (j:Cb A (Ch f l)):(ae n).uj (A++B) e d Ce (l.length:Int)=some (⟨Ce,0,[],l.map g⟩,B,e,d):=by
 obtain ⟨n,rfl⟩:∃ k,n=k+1:=⟨n - 1,by omega⟩
 show uj (ae n) (A++B) e d Ce (l.length:Int)=_
 rw [uj]
 cases l with
 | nil=>simp at i
 | cons x l =>
  rw [List.length_cons] at qa
  obtain ⟨t,v,rfl,m,o⟩:=Cb.cons j
  obtain ⟨p,c,rfl,q,h⟩:=Cb.app o
  have r:=(b x (List.mem_cons_self ..)).expr n p (c++B) e d (by omega) a ya q (nw h)
  rw [List.cons_append,Wi m.ub,ca]
  simp only []
  have hm:((((x::l).length:Nat):Int) - 0).toNat+1=(l.length+1)+1:=by simp
  rw [hm,Jm,if_pos (by simp),if_neg (by decide),ur,List.append_assoc,r,ca]
  simp only []
  rw [hi (by simp),ca,pt,Cc (by omega),ca]
  have:=aE (e:=e) (show N+1≤n by omega) a ya B Ce (x::l).length (by simp; omega) l ([]++[g x]) 1 (l.length+1) c (fun y s=>b y (List.mem_cons_of_mem _ s)) (by omega) (by omega) (by simp; omega) (by simp) h
  refine Eq.trans this ?_
  simp
end
end Go.Y
namespace Go.Y
open Go.bc Go.Dc
theorem OE {q:Nat} {B:List Ua} {e d:Int} (h:ni q B):jj B e d [40]=some false:=by
 cases B with
 | nil=>rw [jj,if_neg (by simp)]
 | cons t B =>
  rw [jj,if_pos (by simp <;> omega),yg (by simp),ca]
  exact congrArg some (decide_eq_false (h t B rfl).1)
theorem SA {t:Ua} {B:List Ua} {e d:Int} (h:t.Text=[40]):jj (t::B) e d [40]=some true:=by
 rw [jj,if_pos (by simp <;> omega),yg (by simp),ca]
 exact congrArg some (decide_eq_true h)
theorem Pz {t:Ua} {B:List Ua} {e d:Int} (h:t.Kind=2):Wr (t::B) e d=some (t.Eu,B,e,d):=by
 rw [Wr,if_neg (by simp <;> omega),yg (by simp),ca]
 show ar (t::B) e d (decide (t.Kind≠2))=_
 rw [decide_eq_false (by simpa using h),ar,if_neg (by decide),yg (by simp),ca,Nv,ca]
 rfl
theorem C.num {N:Int} (a:kindOf (Lib.itoa N)=2) (g:Mo (Lib.itoa N)=some N):C 2 0 7 [Lib.itoa N] ⟨1,N,[],[]⟩:=by
 intro n A B e d k l ya h m
 obtain ⟨n,rfl⟩:∃ i,n=i+2:=⟨n - 2,by omega⟩
 obtain ⟨t,o,rfl,b,j⟩:=Cb.cons h
 have:=Cb.nil j
 subst this
 have c:t.Kind=2:=by rw [b.Ce,a]
 have f:=b.Fg a
 rw [g] at f
 show Gg (n+1) (ae (n+1)) (t::B) e d=_
 rw [Gg,if_pos (by simp <;> omega),yg (by simp),ca]
 show Fh (n+1) (ae (n+1)) (t::B) e d (decide (t.Kind=2))=_
 rw [decide_eq_true c,Fh,if_pos rfl,Pz c,ca,Option.some.inj f]
theorem C.nJ:C 2 0 7 [[116,114,117,101]] ⟨2,1,[],[]⟩:=by
 intro n A B e d h i ya b j
 obtain ⟨n,rfl⟩:∃ c,n=c+2:=⟨n - 2,by omega⟩
 obtain ⟨t,k,rfl,a,f⟩:=Cb.cons b
 have:=Cb.nil f
 subst this
 have g:¬ t.Kind=2:=by rw [a.Ce]; decide
 show Gg (n+1) (ae (n+1)) (t::B) e d=_
 rw [Gg,if_pos (by simp <;> omega),yg (by simp),ca]
 show Fh (n+1) (ae (n+1)) (t::B) e d (decide (t.Kind=2))=_
 rw [decide_eq_false g,Fh,if_neg (by decide)]
 rw [Sg a.ub,ca]
 simp only [if_true]
theorem C.oJ:C 2 0 7 [[102,97,108,115,101]] ⟨2,0,[],[]⟩:=by
 intro n A B e d h i ya b j
 obtain ⟨n,rfl⟩:∃ c,n=c+2:=⟨n - 2,by omega⟩
 obtain ⟨t,k,rfl,a,f⟩:=Cb.cons b
 have:=Cb.nil f
 subst this
 have g:¬ t.Kind=2:=by rw [a.Ce]; decide
 show Gg (n+1) (ae (n+1)) (t::B) e d=_
 rw [Gg,if_pos (by simp <;> omega),yg (by simp),ca]
 show Fh (n+1) (ae (n+1)) (t::B) e d (decide (t.Kind=2))=_
 rw [decide_eq_false g,Fh,if_neg (by decide)]
 rw [Kc (by rw [a.ub]; decide),ca]
 simp only [Bool.false_eq_true,if_false]
 rw [Sg a.ub,ca]
 simp only [if_true]
theorem C.pJ {w:mb} (hw:sh w):C 30 0 7 [[114,101,99,118],[40],w,[41]] ⟨20,0,w,[]⟩:=by
 intro n A B e d o p ya b q
 obtain ⟨n,rfl⟩:∃ c,n=c+2:=⟨n - 2,by omega⟩
 obtain ⟨t,r,rfl,a,f⟩:=Cb.cons b
 obtain ⟨t2,s,rfl,g,h⟩:=Cb.cons f
 obtain ⟨t3,u,rfl,i,j⟩:=Cb.cons h
 obtain ⟨t4,v,rfl,k,l⟩:=Cb.cons j
 have:=Cb.nil l
 subst this
 have m:¬ t.Kind=2:=by rw [a.Ce]; decide
 show Gg (n+1) (ae (n+1)) (t::t2::t3::t4::B) e d=_
 rw [Gg,if_pos (by simp <;> omega),yg (by simp),ca]
 show Fh (n+1) (ae (n+1)) (t::t2::t3::t4::B) e d (decide (t.Kind=2))=_
 rw [decide_eq_false m,Fh,if_neg (by decide)]
 rw [Kc (by rw [a.ub]; decide),ca]
 simp only [Bool.false_eq_true,if_false]
 rw [Kc (by rw [a.ub]; decide),ca]
 simp only [Bool.false_eq_true,if_false]
 rw [Kc (by rw [a.ub]; decide),ca]
 simp only [Bool.false_eq_true,if_false]
 rw [Sg a.ub,ca]
 simp only [if_true]
 rw [Wi g.ub,ca]
 simp only []
 rw [al (by omega) i hw,ca]
 simp only []
 rw [Wi k.ub,ca]
theorem C.qJ {f:ua→List mb} {g:ua→ua} {N D:Nat} {l:List ua} (h:∀ y ∈ l,C N D 0 (f y) (g y)) (qa:l.length=1):C (N+30) (D+1) 7 ([121,105,101,108,100]::Ch f l) ⟨21,0,[],l.map g⟩:=by
 intro n A B e d q i ya j r
 obtain ⟨n,rfl⟩:∃ k,n=k+2:=⟨n - 2,by omega⟩
 obtain ⟨t,b,rfl,a,m⟩:=Cb.cons j
 have c:=Vx (n:=n+1) (B:=B) (e:=e) (d:=d) (show N+10≤n+1 by omega) i (by omega) 21 h (by omega) (by omega) m
 rw [qa] at c
 have o:¬ t.Kind=2:=by rw [a.Ce]; decide
 show Gg (n+1) (ae (n+1)) (t::(b++B)) e d=_
 rw [Gg,if_pos (by simp <;> omega),yg (by simp),ca]
 show Fh (n+1) (ae (n+1)) (t::(b++B)) e d (decide (t.Kind=2))=_
 rw [decide_eq_false o,Fh,if_neg (by decide)]
 rw [Kc (by rw [a.ub]; decide),ca]
 simp only [Bool.false_eq_true,if_false]
 rw [Kc (by rw [a.ub]; decide),ca]
 simp only [Bool.false_eq_true,if_false]
 rw [Kc (by rw [a.ub]; decide),ca]
 simp only [Bool.false_eq_true,if_false]
 rw [Kc (by rw [a.ub]; decide),ca]
 simp only [Bool.false_eq_true,if_false]
 rw [Sg a.ub,ca]
 simp only [if_true]
 have p:(ae (n+1)).uj (b++B) e d 21 1=some (⟨21,0,[],l.map g⟩,B,e,d):=c
 rw [p,ca]
theorem C.rJ {f:ua→List mb} {g:ua→ua} {N D:Nat} {l:List ua} (h:∀ y ∈ l,C N D 0 (f y) (g y)) (qa:l.length=2):C (N+30) (D+1) 7 ([114,101,115,117,109,101]::Ch f l) ⟨23,0,[],l.map g⟩:=by
 intro n A B e d q i ya j r
 obtain ⟨n,rfl⟩:∃ k,n=k+2:=⟨n - 2,by omega⟩
 obtain ⟨t,b,rfl,a,m⟩:=Cb.cons j
 have c:=Vx (n:=n+1) (B:=B) (e:=e) (d:=d) (show N+10≤n+1 by omega) i (by omega) 23 h (by omega) (by omega) m
 rw [qa] at c
 have o:¬ t.Kind=2:=by rw [a.Ce]; decide
 show Gg (n+1) (ae (n+1)) (t::(b++B)) e d=_
 rw [Gg,if_pos (by simp <;> omega),yg (by simp),ca]
 show Fh (n+1) (ae (n+1)) (t::(b++B)) e d (decide (t.Kind=2))=_
 rw [decide_eq_false o,Fh,if_neg (by decide)]
 rw [Kc (by rw [a.ub]; decide),ca]
 simp only [Bool.false_eq_true,if_false]
 rw [Kc (by rw [a.ub]; decide),ca]
 simp only [Bool.false_eq_true,if_false]
 rw [Kc (by rw [a.ub]; decide),ca]
 simp only [Bool.false_eq_true,if_false]
 rw [Kc (by rw [a.ub]; decide),ca]
 simp only [Bool.false_eq_true,if_false]
 rw [Kc (by rw [a.ub]; decide),ca]
 simp only [Bool.false_eq_true,if_false]
 rw [Sg a.ub,ca]
 simp only [if_true]
 have p:(ae (n+1)).uj (b++B) e d 23 2=some (⟨23,0,[],l.map g⟩,B,e,d):=c
 rw [p,ca]
theorem C.sJ {f:ua→List mb} {g:ua→ua} {N D:Nat} {l:List ua} (h:∀ y ∈ l,C N D 0 (f y) (g y)) (qa:l.length=1):C (N+30) (D+1) 7 ([97,108,105,118,101]::Ch f l) ⟨24,0,[],l.map g⟩:=by
 intro n A B e d q i ya j r
 obtain ⟨n,rfl⟩:∃ k,n=k+2:=⟨n - 2,by omega⟩
 obtain ⟨t,b,rfl,a,m⟩:=Cb.cons j
 have c:=Vx (n:=n+1) (B:=B) (e:=e) (d:=d) (show N+10≤n+1 by omega) i (by omega) 24 h (by omega) (by omega) m
 rw [qa] at c
 have o:¬ t.Kind=2:=by rw [a.Ce]; decide
 show Gg (n+1) (ae (n+1)) (t::(b++B)) e d=_
 rw [Gg,if_pos (by simp <;> omega),yg (by simp),ca]
 show Fh (n+1) (ae (n+1)) (t::(b++B)) e d (decide (t.Kind=2))=_
 rw [decide_eq_false o,Fh,if_neg (by decide)]
 rw [Kc (by rw [a.ub]; decide),ca]
 simp only [Bool.false_eq_true,if_false]
 rw [Kc (by rw [a.ub]; decide),ca]
 simp only [Bool.false_eq_true,if_false]
 rw [Kc (by rw [a.ub]; decide),ca]
 simp only [Bool.false_eq_true,if_false]
 rw [Kc (by rw [a.ub]; decide),ca]
 simp only [Bool.false_eq_true,if_false]
 rw [Kc (by rw [a.ub]; decide),ca]
 simp only [Bool.false_eq_true,if_false]
 rw [Kc (by rw [a.ub]; decide),ca]
 simp only [Bool.false_eq_true,if_false]
 rw [Sg a.ub,ca]
 simp only [if_true]
 have p:(ae (n+1)).uj (b++B) e d 24 1=some (⟨24,0,[],l.map g⟩,B,e,d):=c
 rw [p,ca]
theorem C.tJ {f:ua→List mb} {g:ua→ua} {N D:Nat} {l:List ua} {w:mb} (hw:sh w) (c:∀ y ∈ l,C N D 0 (f y) (g y)) (h:∀ y ∈ l,∃ w ws,f y=w::ws∧w≠[41]) (qa:l.length≤6):C (N+30) (D+1) 7 ([115,116,97,114,116]::w::Ch f l) ⟨22,0,w,l.map g⟩:=by
 intro n A B e d s i ya j u
 obtain ⟨n,rfl⟩:∃ k,n=k+2:=⟨n - 2,by omega⟩
 obtain ⟨t,v,rfl,a,m⟩:=Cb.cons j
 obtain ⟨t2,b,rfl,o,p⟩:=Cb.cons m
 have q:=SB (n:=n+1) (B:=B) (e:=e) (d:=d) (show N+10≤n+1 by omega) i (by omega) c h qa p
 have r:¬ t.Kind=2:=by rw [a.Ce]; decide
 show Gg (n+1) (ae (n+1)) (t::t2::(b++B)) e d=_
 rw [Gg,if_pos (by simp <;> omega),yg (by simp),ca]
 show Fh (n+1) (ae (n+1)) (t::t2::(b++B)) e d (decide (t.Kind=2))=_
 rw [decide_eq_false r,Fh,if_neg (by decide)]
 rw [Kc (by rw [a.ub]; decide),ca]
 simp only [Bool.false_eq_true,if_false]
 rw [Kc (by rw [a.ub]; decide),ca]
 simp only [Bool.false_eq_true,if_false]
 rw [Kc (by rw [a.ub]; decide),ca]
 simp only [Bool.false_eq_true,if_false]
 rw [Kc (by rw [a.ub]; decide),ca]
 simp only [Bool.false_eq_true,if_false]
 rw [Kc (by rw [a.ub]; decide),ca]
 simp only [Bool.false_eq_true,if_false]
 rw [Kc (by rw [a.ub]; decide),ca]
 simp only [Bool.false_eq_true,if_false]
 rw [Kc (by rw [a.ub]; decide),ca]
 simp only [Bool.false_eq_true,if_false]
 rw [Sg a.ub,ca]
 simp only [if_true]
 rw [al (by omega) o hw,ca]
 simp only []
 rw [q,ca]
theorem C.call {f:ua→List mb} {g:ua→ua} {N D:Nat} {l:List ua} {w:mb} (hw:sh w) (i:∀ y ∈ l,C N D 0 (f y) (g y)) (j:∀ y ∈ l,∃ w ws,f y=w::ws∧w≠[41]) (qa:l.length≤6):C (N+30) (D+1) 7 (w::Ch f l) ⟨19,0,w,l.map g⟩:=by
 intro n A B e d u k ya m v
 obtain ⟨n,rfl⟩:∃ o,n=o+2:=⟨n - 2,by omega⟩
 obtain ⟨t,b,rfl,a,c⟩:=Cb.cons m
 have p:=SB (n:=n+1) (B:=B) (e:=e) (d:=d) (show N+10≤n+1 by omega) k (by omega) i j qa c
 have q:jj (b++B) e d [40]=some true:=by
  cases l with
  | nil=>obtain ⟨t2,r,rfl,h,-⟩:=Cb.cons c; exact SA h.ub
  | cons x l=>obtain ⟨t2,r,rfl,h,-⟩:=Cb.cons c; exact SA h.ub
 have s:¬ t.Kind=2:=by rw [a.Ce]; rw [hw.Cu]; decide
 show Gg (n+1) (ae (n+1)) (t::(b++B)) e d=_
 rw [Gg,if_pos (by simp <;> omega),yg (by simp),ca]
 show Fh (n+1) (ae (n+1)) (t::(b++B)) e d (decide (t.Kind=2))=_
 rw [decide_eq_false s,Fh,if_neg (by decide)]
 rw [Kc (by rw [a.ub]; exact hw.ne (by kernel_rfl)),ca]
 simp only [Bool.false_eq_true,if_false]
 rw [Kc (by rw [a.ub]; exact hw.ne (by kernel_rfl)),ca]
 simp only [Bool.false_eq_true,if_false]
 rw [Kc (by rw [a.ub]; exact hw.vp (by decide)),ca]
 simp only [Bool.false_eq_true,if_false]
 rw [Kc (by rw [a.ub]; exact hw.ne (by kernel_rfl)),ca]
 simp only [Bool.false_eq_true,if_false]
 rw [Kc (by rw [a.ub]; exact hw.ne (by kernel_rfl)),ca]
 simp only [Bool.false_eq_true,if_false]
 rw [Kc (by rw [a.ub]; exact hw.ne (by kernel_rfl)),ca]
 simp only [Bool.false_eq_true,if_false]
 rw [Kc (by rw [a.ub]; exact hw.ne (by kernel_rfl)),ca]
 simp only [Bool.false_eq_true,if_false]
 rw [Kc (by rw [a.ub]; exact hw.ne (by kernel_rfl)),ca]
 simp only [Bool.false_eq_true,if_false]
 rw [al (by omega) a hw,ca]
 simp only []
 rw [q,ca]
 simp only [if_true]
 rw [p,ca]
theorem C.var {w:mb} (hw:sh w):C 30 0 7 [w] ⟨3,0,w,[]⟩:=by
 intro n A B e d i j ya b c
 obtain ⟨n,rfl⟩:∃ f,n=f+2:=⟨n - 2,by omega⟩
 obtain ⟨t,k,rfl,a,g⟩:=Cb.cons b
 have:=Cb.nil g
 subst this
 have h:¬ t.Kind=2:=by rw [a.Ce]; rw [hw.Cu]; decide
 show Gg (n+1) (ae (n+1)) (t::B) e d=_
 rw [Gg,if_pos (by simp <;> omega),yg (by simp),ca]
 show Fh (n+1) (ae (n+1)) (t::B) e d (decide (t.Kind=2))=_
 rw [decide_eq_false h,Fh,if_neg (by decide)]
 rw [Kc (by rw [a.ub]; exact hw.ne (by kernel_rfl)),ca]
 simp only [Bool.false_eq_true,if_false]
 rw [Kc (by rw [a.ub]; exact hw.ne (by kernel_rfl)),ca]
 simp only [Bool.false_eq_true,if_false]
 rw [Kc (by rw [a.ub]; exact hw.vp (by decide)),ca]
 simp only [Bool.false_eq_true,if_false]
 rw [Kc (by rw [a.ub]; exact hw.ne (by kernel_rfl)),ca]
 simp only [Bool.false_eq_true,if_false]
 rw [Kc (by rw [a.ub]; exact hw.ne (by kernel_rfl)),ca]
 simp only [Bool.false_eq_true,if_false]
 rw [Kc (by rw [a.ub]; exact hw.ne (by kernel_rfl)),ca]
 simp only [Bool.false_eq_true,if_false]
 rw [Kc (by rw [a.ub]; exact hw.ne (by kernel_rfl)),ca]
 simp only [Bool.false_eq_true,if_false]
 rw [Kc (by rw [a.ub]; exact hw.ne (by kernel_rfl)),ca]
 simp only [Bool.false_eq_true,if_false]
 rw [al (by omega) a hw,ca]
 simp only []
 rw [OE c,ca]
 simp only [Bool.false_eq_true,if_false]
end Go.Y
namespace Go.Y
open Go.bc Go.Dc
theorem C.uC {N D p:Nat} {ws:List mb} {r:ua} (a:p≤5) (h:C N D p ws r) {q:Nat} (b:q≤p):C (N+6) D q ws r:=by
 have:=C.down a h (p - q) (by omega)
 rw [show p - (p - q)=q by omega] at this
 exact this.more (by omega) (Nat.le_refl _)
theorem C.vC {N D:Nat} {ws:List mb} {r:ua} (h:C N D 6 ws r) {q:Nat} (a:q≤6):C (N+7) D q ws r:=by
 by_cases c:q=6
 ·subst c; exact h.more (by omega) (Nat.le_refl _)
 ·exact (C.uC (by omega) h.hI (show q≤5 by omega)).more (by omega) (Nat.le_refl _)
theorem C.wC {N D:Nat} {w:mb} {ws:List mb} {r:ua} (a:w≠[45]) (b:w≠[110,111,116]) (h:C N D 7 (w::ws) r) {q:Nat} (d:q≤7):C (N+8) D q (w::ws) r:=by
 by_cases c:q=7
 ·subst c; exact h.more (by omega) (Nat.le_refl _)
 ·exact (C.vC (C.iI a b h) (show q≤6 by omega)).more (by omega) (Nat.le_refl _)
def hn (q:Nat):Nat:=if q≤5 then q+1 else q
def DC (ws:List mb):Prop:=∃ w t,ws=w::t∧w≠[41]
theorem Wx {k:Int} (h:1≤k∧k≤3∨19≤k):own k=7:=by
 unfold own
 rw [if_neg (by omega),if_neg (by omega),if_neg (by omega),if_neg (by omega),if_neg (by omega),if_neg (by omega)]
theorem ky {k:Int} (h:k=4∨k=5):own k=6:=by
 rcases h with rfl | rfl <;> decide
def ou:Prop:=∀ N:Int,0≤N→N≤999999999999999→kindOf (Lib.itoa N)=2∧Mo (Lib.itoa N)=some N
structure xJ (k:Nat) (x:ua):Prop where
 ya:∀ a,DC (pd k a x)
 c:∀ q,q≤7→C (100*k) (2*k) q (pd k (hn q) x) (Hf k x)
 s:∀ q,q<5→q≠2→yl (100*k) (2*k) k q (pd k (q+1) x) (Hf k x)
theorem TB (num:ou):∀ (k:Nat) (x:ua),k≤60→Hp k x→xJ k x
 | 0,x,_,h=>by cases h
 | k+1,x,wf,h=>by
  obtain ⟨k1,If,B,md,rd,D,M⟩:=h
  have m:=fun y r=>TB num k y (by omega) (M y r)
  have X:=B.le
  have P:jg x.Kind=1→∃ a,x.Kids=[a]:=fun h=>one (l:=x.Kids) (by have:=B.eq (by omega); omega)
  have Y:jg x.Kind=2→∃ a b,x.Kids=[a,b]:=fun h=>two (l:=x.Kids) (by have:=B.eq (by omega); omega)
  have E:jg x.Kind=0→x.Kids=[]:=fun h=>List.length_eq_zero_iff.1 (by have:=B.eq (by omega); omega)
  have u:∀ y ∈ x.Kids,C (100*k) (2*k) 0 (pd k 1 y) (Hf k y):=fun y r=>(m y r).c 0 (by omega)
  have Z:∀ y ∈ x.Kids,∃ w ws,pd k 1 y=w::ws∧w≠[41]:=fun y r=>(m y r).ya 1
  have Q:Hf (k+1) x=ua.mk x.Kind (if x.Kind=1∨x.Kind=2 then x.N else 0) (if x.Kind=3∨x.Kind=20∨x.Kind=19∨x.Kind=22 then x.Name else []) (x.Kids.map (Hf k)):=rfl
  have piece:own x.Kind=7→C (100*k+70) (2*k+1) 7 (gh (pd k) x) (Hf (k+1) x)∧∃ w t,gh (pd k) x=w::t∧w≠[41]∧w≠[45]∧w≠[110,111,116]:=by
   intro f
   rw [Q]
   by_cases n:x.Kind=1
   ·obtain ⟨xa,a2⟩:=md n
    obtain ⟨U,wd⟩:=num x.N xa a2
    have hb:=E (by rw [n]; decide)
    rw [gh,if_pos n,n,hb]
    have ne:∀ w:mb,kindOf w≠2→Lib.itoa x.N≠w:=fun w hw e=>hw (e ▸ U)
    exact ⟨(C.num U wd).more (by omega) (by omega),_,_,rfl,ne _ (by decide),ne _ (by decide),ne _ (by decide)⟩
   by_cases c2:x.Kind=2
   ·have hb:=E (by rw [c2]; decide)
    rw [gh,if_neg n,if_pos c2,c2,hb]
    rcases rd c2 with e | e
    ·rw [e]
     exact ⟨C.oJ.more (by omega) (by omega),_,_,rfl,by decide,by decide,by decide⟩
    ·rw [e]
     exact ⟨C.nJ.more (by omega) (by omega),_,_,rfl,by decide,by decide,by decide⟩
   by_cases c3:x.Kind=3
   ·have hb:=E (by rw [c3]; decide)
    have hw:=D (.inl c3)
    rw [gh,if_neg n,if_neg c2,if_pos c3,c3,hb]
    exact ⟨(C.var hw).more (by omega) (by omega),_,_,rfl,hw.vp (by decide),hw.vp (by decide),hw.ne (by kernel_rfl)⟩
   have o:¬ (x.Kind=4∨x.Kind=5):=fun h=>by rw [ky h] at f; cases f
   have bg:¬ x.Kind≤18:=fun h=>by
    obtain ⟨q,gc,Qf,-⟩:=zs (show 6≤x.Kind∧x.Kind≤18 by omega)
    omega
   rw [gh,if_neg n,if_neg c2,if_neg c3,if_neg o,if_neg bg,if_neg (show ¬ (x.Kind=1∨x.Kind=2) by omega)]
   by_cases F:x.Kind=19
   ·have hw:=D (by simp [F])
    rw [if_pos F,if_pos (show x.Kind=3∨x.Kind=20∨x.Kind=19∨x.Kind=22 by omega),F]
    exact ⟨(C.call hw u Z X).more (by omega) (by omega),_,_,rfl,hw.vp (by decide),hw.vp (by decide),hw.ne (by kernel_rfl)⟩
   rw [if_neg F]
   by_cases c20:x.Kind=20
   ·have hw:=D (by simp [c20])
    have hb:=E (by rw [c20]; decide)
    rw [if_pos c20,if_pos (show x.Kind=3∨x.Kind=20∨x.Kind=19∨x.Kind=22 by omega),c20,hb]
    exact ⟨(C.pJ hw).more (by omega) (by omega),_,_,rfl,by decide,by decide,by decide⟩
   rw [if_neg c20]
   by_cases c21:x.Kind=21
   ·obtain ⟨a,d⟩:=P (by rw [c21]; decide)
    rw [if_pos c21,if_neg (show ¬ (x.Kind=3∨x.Kind=20∨x.Kind=19∨x.Kind=22) by omega),c21]
    exact ⟨(C.qJ u (by rw [d]; rfl)).more (by omega) (by omega),_,_,rfl,by decide,by decide,by decide⟩
   rw [if_neg c21]
   by_cases G:x.Kind=22
   ·have hw:=D (by simp [G])
    rw [if_pos G,if_pos (show x.Kind=3∨x.Kind=20∨x.Kind=19∨x.Kind=22 by omega),G]
    exact ⟨(C.tJ hw u Z X).more (by omega) (by omega),_,_,rfl,by decide,by decide,by decide⟩
   rw [if_neg G]
   by_cases H:x.Kind=23
   ·obtain ⟨a,b,d⟩:=Y (by rw [H]; decide)
    rw [if_pos H,if_neg (show ¬ (x.Kind=3∨x.Kind=20∨x.Kind=19∨x.Kind=22) by omega),H]
    exact ⟨(C.rJ u (by rw [d]; rfl)).more (by omega) (by omega),_,_,rfl,by decide,by decide,by decide⟩
   rw [if_neg H]
   have c24:x.Kind=24:=by omega
   obtain ⟨a,d⟩:=P (by rw [c24]; decide)
   rw [if_neg (show ¬ (x.Kind=3∨x.Kind=20∨x.Kind=19∨x.Kind=22) by omega),c24]
   exact ⟨(C.sJ u (by rw [d]; rfl)).more (by omega) (by omega),_,_,rfl,by decide,by decide,by decide⟩
  have lc:own x.Kind=6→C (100*k+70) (2*k+1) 6 (gh (pd k) x) (Hf (k+1) x)∧DC (gh (pd k) x):=by
   intro f
   have o:x.Kind=4∨x.Kind=5:=by
    refine Decidable.byContradiction fun h=>?_
    by_cases v:6≤x.Kind∧x.Kind≤18
    ·obtain ⟨q,gc,Qf,-⟩:=zs v; omega
    ·rw [Wx (by omega)] at f; cases f
   obtain ⟨a,d⟩:=P (by rcases o with h | h <;> rw [h] <;> decide)
   rw [Q,gh,if_neg (by omega),if_neg (by omega),if_neg (by omega),if_pos o,d,if_neg (by omega),if_neg (by omega)]
   refine ⟨(C.un o ((m a (by simp [d])).c 6 (by omega))).more (by omega) (by omega),_,_,rfl,?_⟩
   rcases o with h | h <;> rw [h] <;> decide
  have K:∀ q,own x.Kind=q+1→q<5→∃ a b,x.Kids=[a,b]∧6≤x.Kind∧x.Kind≤18∧gh (pd k) x=pd k (if q=2 then 4 else q+1) a++ch x.Kind::pd k (q+2) b∧Hf (k+1) x=⟨x.Kind,0,[],[Hf k a,Hf k b]⟩:=by
   intro q f g
   have i:6≤x.Kind∧x.Kind≤18:=by
    refine Decidable.byContradiction fun h=>?_
    by_cases v:x.Kind=4∨x.Kind=5
    ·rw [ky v] at f; omega
    ·rw [Wx (by omega)] at f; omega
   obtain ⟨a,b,d⟩:=Y (by unfold jg; rw [if_neg (by omega),if_neg (by omega),if_pos (by omega)])
   refine ⟨a,b,d,i.1,i.2,?_,?_⟩
   ·rw [gh,if_neg (by omega),if_neg (by omega),if_neg (by omega),if_neg (by omega),if_pos i.2,d,f]
    by_cases j:q=2
    ·subst j; rfl
    ·simp only []
     rw [if_neg (by omega),if_neg j]
   ·rw [Q,d,if_neg (by omega),if_neg (by omega)]
    rfl
  have rc:∀ q,own x.Kind=q+1→q<5→q≠2→yl (100*k) (2*k) (k+1) q (gh (pd k) x) (Hf (k+1) x):=by
   intro q f g j
   obtain ⟨a,b,d,i,R,sa,S⟩:=K q f g
   rw [sa,S,if_neg j]
   have Fd:k≠0:=by rintro rfl; exact M a (by simp [d])
   have fd:=(m b (by simp [d])).c (q+1) (by omega)
   rw [hn,if_pos (by omega)] at fd
   exact yl.bin g ⟨i,R⟩ f j ((m a (by simp [d])).s q g j) fd (by omega)
  have Id:∀ q,own x.Kind=q+1→q<5→C (100*k+70) (2*k+1) q (gh (pd k) x) (Hf (k+1) x):=by
   intro q f g
   by_cases j:q=2
   ·subst j
    obtain ⟨a,b,d,i,R,sa,S⟩:=K 2 f g
    rw [sa,S,if_pos rfl]
    exact (C.UI ⟨i,R⟩ f ((m a (by simp [d])).c 3 (by omega)) ((m b (by simp [d])).c 3 (by omega))).more (by omega) (by omega)
   ·obtain ⟨a,b,d,-⟩:=K q f g
    have Fd:k≠0:=by rintro rfl; exact M a (by simp [d])
    exact ((rc q f g j).to g).more (by omega) (by omega)
  have dg:1≤own x.Kind∧own x.Kind≤7:=by
   by_cases be:6≤x.Kind∧x.Kind≤18
   ·obtain ⟨q,gc,Qf,-⟩:=zs be; omega
   ·by_cases v:x.Kind=4∨x.Kind=5
    ·rw [ky v]; omega
    ·rw [Wx (by omega)]; omega
  have core:∀ q,q≤7→hn q≤own x.Kind→C (100*k+78) (2*k+1) q (gh (pd k) x) (Hf (k+1) x):=by
   intro q g z
   have rg:(q≤5→q+1≤own x.Kind)∧(¬ q≤5→q≤own x.Kind):=by
    rw [hn] at z
    constructor
    ·intro h; rw [if_pos h] at z; exact z
    ·intro h; rw [if_neg h] at z; exact z
   by_cases T:own x.Kind=7
   ·obtain ⟨kb,w,t,e,-,ce,ge⟩:=piece T
    rw [e] at kb ⊢
    exact (C.wC ce ge kb g).more (by omega) (by omega)
   ·by_cases i:own x.Kind=6
    ·exact (C.vC (lc i).1 (show q≤6 by omega)).more (by omega) (by omega)
    ·obtain ⟨p,V⟩:∃ p,own x.Kind=p+1:=⟨own x.Kind - 1,by omega⟩
     exact (C.uC (show p≤5 by omega) (Id p V (by omega)) (show q≤p by omega)).more (by omega) (by omega)
  have he:C (100*k+80) (2*k+2) 7 ([40]::(gh (pd k) x++[[41]])) (Hf (k+1) x):=(C.xF (core 0 (by omega) (by rw [hn,if_pos (by omega)]; omega))).more (by omega) (by omega)
  have A:∀ L,pd (k+1) L x=if own x.Kind<L then [40]::(gh (pd k) x++[[41]]) else gh (pd k) x:=fun L=>rfl
  have id:∀ q,q≤7→C (100*(k+1)) (2*(k+1)) q (pd (k+1) (hn q) x) (Hf (k+1) x):=by
   intro q g
   rw [A]
   split
   ·exact (C.wC (by decide) (by decide) he g).more (by omega) (by omega)
   ·exact (core q g (by omega)).more (by omega) (by omega)
  refine ⟨fun L=>?_,id,fun q g j=>?_⟩
  ·rw [A]
   split
   ·exact ⟨_,_,rfl,by decide⟩
   ·by_cases T:own x.Kind=7
    ·obtain ⟨-,w,t,e,W,-⟩:=piece T
     exact ⟨w,t,e,W⟩
    ·by_cases i:own x.Kind=6
     ·exact (lc i).2
     ·obtain ⟨p,V⟩:∃ p,own x.Kind=p+1:=⟨own x.Kind - 1,by omega⟩
      obtain ⟨a,b,d,-,-,sa,-⟩:=K p V (by omega)
      obtain ⟨w,t,e,W⟩:=(m a (by simp [d])).ya (if p=2 then 4 else p+1)
      exact ⟨w,t++ch x.Kind::pd k (p+2) b,by rw [sa,e]; rfl,W⟩
  ·by_cases f:own x.Kind=q+1
   ·rw [A,if_neg (by omega)]
    exact (rc q f g j).more (by omega) (by omega) (by omega)
   ·have e:pd (k+1) (q+1) x=pd (k+1) (hn (q+1)) x:=by
     have Ne:hn (q+1)=q+2:=by rw [hn,if_pos (by omega)]
     rw [Ne,A,A]
     by_cases c:own x.Kind<q+1
     ·rw [if_pos c,if_pos (by omega)]
     ·rw [if_neg c,if_neg (by omega)]
    rw [e]
    exact (yl.of g (id (q+1) (by omega))).more (by omega) (by omega) (by omega)
end Go.Y
namespace Go.Y
open Go.bc Go.Dc
def wg (f:Wa→List mb) (l:List Wa):List mb:=[123]::((l.map f).flatten++[[125]])
def sf:Nat→Wa→List mb
 | 0,_=>[]
 | k+1,s =>
  if s.Kind=3 then [105,102]::(pd k 1 s.X++(wg (sf k) s.Body++(if s.jd=[] then [] else [101,108,115,101]::wg (sf k) s.jd)))
  else if s.Kind=4 then [119,104,105,108,101]::(pd k 1 s.X++wg (sf k) s.Body)
  else if s.Kind=1 then [108,101,116]::s.Name::[61]::(pd k 1 s.X++[[59]])
  else if s.Kind=2 then s.Name::[61]::(pd k 1 s.X++[[59]])
  else if s.Kind=7 then [115,101,110,100]::s.Name::(pd k 1 s.X++[[59]])
  else if s.Kind=6 then [[115,116,111,112],[59]]
  else (if s.Kind=5 then [114,101,116,117,114,110] else if s.Kind=8 then [111,117,116] else [100,111])::(pd k 1 s.X++[[59]])
def Kk:Nat→Wa→Prop
 | 0,_=>False
 | k+1,s=>1≤s.Kind∧s.Kind≤9∧(s.Kind≠6→Hp k s.X)∧((s.Kind=1∨s.Kind=2∨s.Kind=7)→sh s.Name)∧((s.Kind=3∨s.Kind=4)→s.Body.length≤50∧∀ y ∈ s.Body,Kk k y)∧(s.Kind=3→s.jd.length≤50∧∀ y ∈ s.jd,Kk k y)
theorem iC:([123]:mb)≠[40]∧∀ m,m<5→ln m [123]=0:=by decide
theorem Ls:([59]:mb)≠[40]∧∀ m,m<5→ln m [59]=0:=by decide
def ow (B:List Ua):Prop:=∀ t a,B=t::a→t.Text≠[101,108,115,101]
theorem nB {w:mb} (h:w≠[101,108,115,101]) {t:Ua} (a:t.Text=w) (B:List Ua):ow (t::B):=by
 intro ld b e
 obtain ⟨rfl,-⟩:=List.cons.inj e
 rw [a]; exact h
theorem PE {B:List Ua} (h:ow B) (e d:Int):kf B e d [101,108,115,101]=some (false,B,e,d):=by
 cases B with
 | nil=>exact kH
 | cons t B=>exact Kc (h t B rfl)
theorem vw (r:ua):ua.mk r.Kind r.N r.Name r.Kids=r:=by cases r; rfl
theorem oB:∀ (k:Nat) (s:Wa),Kk k s→∃ w t,sf k s=w::t∧w≠[125]∧w≠[101,108,115,101]
 | 0,s,h=>by cases h
 | k+1,s,h=>by
  obtain ⟨k1,d,e,c,f,g⟩:=h
  rw [sf]
  by_cases c3:s.Kind=3
  ·rw [if_pos c3]; exact ⟨_,_,rfl,by decide,by decide⟩
  rw [if_neg c3]
  by_cases c4:s.Kind=4
  ·rw [if_pos c4]; exact ⟨_,_,rfl,by decide,by decide⟩
  rw [if_neg c4]
  by_cases a:s.Kind=1
  ·rw [if_pos a]; exact ⟨_,_,rfl,by decide,by decide⟩
  rw [if_neg a]
  by_cases c2:s.Kind=2
  ·have hw:=c (by simp [c2])
   rw [if_pos c2]; exact ⟨_,_,rfl,hw.vp (by decide),hw.ne (by kernel_rfl)⟩
  rw [if_neg c2]
  by_cases b:s.Kind=7
  ·rw [if_pos b]; exact ⟨_,_,rfl,by decide,by decide⟩
  rw [if_neg b]
  by_cases Tc:s.Kind=6
  ·rw [if_pos Tc]; exact ⟨_,_,rfl,by decide,by decide⟩
  rw [if_neg Tc]
  by_cases c5:s.Kind=5
  ·rw [if_pos c5]; exact ⟨_,_,rfl,by decide,by decide⟩
  rw [if_neg c5]
  by_cases eh:s.Kind=8
  ·rw [if_pos eh]; exact ⟨_,_,rfl,by decide,by decide⟩
  rw [if_neg eh]
  exact ⟨_,_,rfl,by decide,by decide⟩
structure yJ (k n:Nat):Prop where
 body:∀ (l:List Wa) (A B:List Ua) (e d:Int),l.length≤50→(∀ y ∈ l,Kk k y)→7000+3*k+1≤n→0≤d→d+2*k+3≤200→Cb A (wg (sf k) l)→(tm n).vi (A++B) e d=some (l.map (gf k),B,e,d)
 stat:∀ (s:Wa) (A B:List Ua) (e d:Int),Kk k s→7000+3*k≤n→0≤d→d+2*k+2≤200→Cb A (sf k s)→ow B→(tm n).kj (A++B) e d=some (gf k s,B,e,d)
theorem lH (num:ou):∀ (n k:Nat),k≤50→yJ k n:=by
 intro n
 induction n with
 | zero=>intro k Z; exact ⟨fun _ _ _ _ _ _ _ h=>by omega,fun _ _ _ _ _ _ h=>by omega⟩
 | succ n K =>
  intro k Z
  refine ⟨fun l A B e d qa z md G ya f=>?_,fun s A B e d z md G ya f rd=>?_⟩
  ·show vi n (tm n) (A++B) e d=_
   obtain ⟨t,x,rfl,a,p⟩:=Cb.cons f
   rw [vi,Qm,Cc (by omega),ca,if_neg (by omega),ca]
   simp only []
   rw [List.cons_append,Wi a.ub,ca]
   simp only []
   have L:∀ (l:List Wa) (acc:List Wa) (m:Nat) (A:List Ua),(∀ y ∈ l,Kk k y)→l.length<m→acc.length+l.length≤50→Cb A ((l.map (sf k)).flatten++[[125]]) →
     Zp (tm n) m (A++B) e (d+1) acc=some (acc++l.map (gf k),B,e,d):=by
    intro l
    induction l with
    | nil =>
     intro acc m A z hm gc f
     obtain ⟨m,rfl⟩:∃ Q,m=Q+1:=⟨m - 1,by simp at hm; omega⟩
     obtain ⟨t,x,rfl,a,p⟩:=Cb.cons f
     have:=Cb.nil p
     subst this
     rw [Zp,List.cons_append,Sg a.ub,ca]
     simp only [if_true]
     rw [Sm,Cc (by omega),ca,ca]
     simp
    | cons s l wd =>
     intro acc m A z hm gc f
     rw [List.length_cons] at hm gc
     obtain ⟨m,rfl⟩:∃ Q,m=Q+1:=⟨m - 1,by omega⟩
     rw [List.map_cons,List.flatten_cons,List.append_assoc] at f
     obtain ⟨b,o,rfl,j,g⟩:=Cb.app f
     have lc:=z s (List.mem_cons_self ..)
     have Fd:ow (o++B):=by
      cases l with
      | nil =>
       obtain ⟨t,x,rfl,a,-⟩:=Cb.cons g
       exact nB (by decide) a.ub _
      | cons y l =>
       obtain ⟨w,ws,sa,-,Id⟩:=oB k y (z y (by simp))
       rw [List.map_cons,List.flatten_cons,sa] at g
       obtain ⟨t,x,rfl,a,-⟩:=Cb.cons g
       exact nB Id a.ub _
     have be:=(K k Z).stat s b (o++B) e (d+1) lc (by omega) (by omega) (by omega) j Fd
     obtain ⟨w,ws,sa,ce,-⟩:=oB k s lc
     have rc:=j
     rw [sa] at rc
     obtain ⟨t,r,rfl,a,-⟩:=Cb.cons rc
     rw [Zp,List.cons_append,List.cons_append,Kc (by rw [a.ub]; exact ce),ca]
     simp only [Bool.false_eq_true,if_false]
     rw [if_neg (by omega)]
     have ge:t::(r++o++B)=t::r++(o++B):=by simp
     rw [ge,be,ca]
     simp only []
     rw [hi (by simp; omega),ca,wd (acc++[gf k s]) m o (fun y he=>z y (List.mem_cons_of_mem _ he)) (by omega) (by simp; omega) g]
     simp
   have:=L l [] n x z (by omega) (by simpa using qa) p
   rw [this]
   simp
  ·show kj n (tm n) (A++B) e d=_
   cases k with
   | zero=>cases z
   | succ k =>
   obtain ⟨k1,ii,le,R,fd,Ne⟩:=z
   have of:gf (k+1) s=Wa.mk s.Kind (if s.Kind=1∨s.Kind=2∨s.Kind=7 then s.Name else []) (if s.Kind≠6 then Hf k s.X else ua.mk 0 0 [] []) (if s.Kind=3∨s.Kind=4 then s.Body.map (gf k) else []) (if s.Kind=3 then s.jd.map (gf k) else []):=rfl
   have X:s.Kind≠6→∀ (b H:List Ua),Cb b (pd k 1 s.X)→ni 0 H→(ae n).ug (b++H) e d=some (Hf k s.X,H,e,d):=fun wf b H If dg =>
    C.expr ((TB num k s.X (by omega) (le wf)).c 0 (by omega)) n b H e d (by omega) G (by omega) If dg
   have E:∀ (t:Ua) (Fg:Nm) (Ce:Int),t.Text=[59]→om (t::B) e d Ce Fg (Hf k s.X).Kind (Hf k s.X).N (Hf k s.X).Name (Hf k s.X).Kids=some (⟨Ce,Fg,Hf k s.X,[],[]⟩,B,e,d):=fun t Fg Ce h=>by
    rw [om,Wi h,ca,vw]
   rw [of]
   rw [sf] at f
   by_cases c3:s.Kind=3
   ·obtain ⟨U,S⟩:=fd (.inl c3)
    obtain ⟨nb,rg⟩:=Ne c3
    rw [if_pos c3] at f
    rw [if_neg (show ¬ (s.Kind=1∨s.Kind=2∨s.Kind=7) by omega),if_pos (show s.Kind≠6 by omega),if_pos (show s.Kind=3∨s.Kind=4 by omega),if_pos c3,c3]
    obtain ⟨t,x,rfl,a,p⟩:=Cb.cons f
    obtain ⟨b,o,rfl,j,g⟩:=Cb.app p
    obtain ⟨r,M,rfl,id,P⟩:=Cb.app g
    have f1:ni 0 (r++(M++B)):=by
     obtain ⟨t2,T,rfl,D,-⟩:=Cb.cons id
     exact Cn iC D.ub _ 0
    have hb:t::(b++(r++M))++B=t::(b++(r++(M++B))):=by simp
    rw [kj,hb,Sg a.ub,ca]
    simp only [if_true]
    rw [X (by omega) b _ j f1,ca]
    simp only []
    rw [(K k (by omega)).body s.Body r (M++B) e d U S (by omega) G (by omega) id,ca]
    simp only []
    by_cases q:s.jd=[]
    ·rw [if_pos q] at P
     have:=Cb.nil P
     subst this
     rw [List.nil_append,PE rd,ca]
     simp only [Bool.false_eq_true,if_false]
     rw [Nr,vw,q]
     rfl
    ·rw [if_neg q] at P
     obtain ⟨t2,T,rfl,D,bi⟩:=Cb.cons P
     rw [List.cons_append,Sg D.ub,ca]
     simp only [if_true]
     rw [(K k (by omega)).body s.jd T B e d nb rg (by omega) G (by omega) bi,ca,Nr,vw]
   rw [if_neg c3] at f
   by_cases c4:s.Kind=4
   ·obtain ⟨U,S⟩:=fd (.inr c4)
    rw [if_pos c4] at f
    rw [if_neg (show ¬ (s.Kind=1∨s.Kind=2∨s.Kind=7) by omega),if_pos (show s.Kind≠6 by omega),if_pos (show s.Kind=3∨s.Kind=4 by omega),if_neg c3,c4]
    obtain ⟨t,x,rfl,a,p⟩:=Cb.cons f
    obtain ⟨b,o,rfl,j,g⟩:=Cb.app p
    have f1:ni 0 (o++B):=by
     obtain ⟨t2,T,rfl,D,-⟩:=Cb.cons g
     exact Cn iC D.ub _ 0
    have hb:t::(b++o)++B=t::(b++(o++B)):=by simp
    rw [kj,hb]
    rw [Kc (by rw [a.ub]; decide),ca]
    simp only [Bool.false_eq_true,if_false]
    rw [Sg a.ub,ca]
    simp only [if_true]
    rw [X (by omega) b _ j f1,ca]
    simp only []
    rw [(K k (by omega)).body s.Body o B e d U S (by omega) G (by omega) g,ca,vw]
   rw [if_neg c4] at f
   by_cases V:s.Kind=1
   ·rw [if_pos V] at f
    rw [if_pos (show s.Kind=1∨s.Kind=2∨s.Kind=7 by omega),if_pos (show s.Kind≠6 by omega),if_neg (show ¬ (s.Kind=3∨s.Kind=4) by omega),if_neg c3,V]
    have hw:=R (by omega)
    obtain ⟨t,x,rfl,a,p⟩:=Cb.cons f
    obtain ⟨t2,li,rfl,D,ci⟩:=Cb.cons p
    obtain ⟨t3,r,rfl,W,v⟩:=Cb.cons ci
    obtain ⟨b,o,rfl,j,g⟩:=Cb.app v
    obtain ⟨t9,F,rfl,i,u⟩:=Cb.cons g
    have:=Cb.nil u
    subst this
    have f1:ni 0 (t9::B):=Cn Ls i.ub _ 0
    have hb:t::t2::t3::(b++[t9])++B=t::t2::t3::(b++t9::B):=by simp
    rw [kj,hb]
    rw [Kc (by rw [a.ub]; decide),ca]
    simp only [Bool.false_eq_true,if_false]
    rw [Kc (by rw [a.ub]; decide),ca]
    simp only [Bool.false_eq_true,if_false]
    rw [Sg a.ub,ca]
    simp only [if_true]
    rw [al (by omega) D hw,ca]
    simp only []
    rw [Wi W.ub,ca]
    simp only []
    rw [X (by omega) b _ j f1,ca]
    exact E t9 _ _ i.ub
   rw [if_neg V] at f
   by_cases c2:s.Kind=2
   ·rw [if_pos c2] at f
    rw [if_pos (show s.Kind=1∨s.Kind=2∨s.Kind=7 by omega),if_pos (show s.Kind≠6 by omega),if_neg (show ¬ (s.Kind=3∨s.Kind=4) by omega),if_neg c3,c2]
    have hw:=R (by omega)
    obtain ⟨t,x,rfl,a,p⟩:=Cb.cons f
    obtain ⟨t3,r,rfl,W,v⟩:=Cb.cons p
    obtain ⟨b,o,rfl,j,g⟩:=Cb.app v
    obtain ⟨t9,F,rfl,i,u⟩:=Cb.cons g
    have:=Cb.nil u
    subst this
    have f1:ni 0 (t9::B):=Cn Ls i.ub _ 0
    have hb:t::t3::(b++[t9])++B=t::t3::(b++t9::B):=by simp
    rw [kj,hb]
    rw [Kc (by rw [a.ub]; exact hw.ne (by kernel_rfl)),ca]
    simp only [Bool.false_eq_true,if_false]
    rw [Kc (by rw [a.ub]; exact hw.ne (by kernel_rfl)),ca]
    simp only [Bool.false_eq_true,if_false]
    rw [Kc (by rw [a.ub]; exact hw.ne (by kernel_rfl)),ca]
    simp only [Bool.false_eq_true,if_false]
    rw [Kc (by rw [a.ub]; exact hw.ne (by kernel_rfl)),ca]
    simp only [Bool.false_eq_true,if_false]
    rw [Kc (by rw [a.ub]; exact hw.ne (by kernel_rfl)),ca]
    simp only [Bool.false_eq_true,if_false]
    rw [Kc (by rw [a.ub]; exact hw.ne (by kernel_rfl)),ca]
    simp only [Bool.false_eq_true,if_false]
    rw [Kc (by rw [a.ub]; exact hw.ne (by kernel_rfl)),ca]
    simp only [Bool.false_eq_true,if_false]
    rw [Kc (by rw [a.ub]; exact hw.ne (by kernel_rfl)),ca]
    simp only [Bool.false_eq_true,if_false]
    rw [al (by omega) a hw,ca]
    simp only []
    rw [Wi W.ub,ca]
    simp only []
    rw [X (by omega) b _ j f1,ca]
    exact E t9 _ _ i.ub
   rw [if_neg c2] at f
   by_cases Y:s.Kind=7
   ·rw [if_pos Y] at f
    rw [if_pos (show s.Kind=1∨s.Kind=2∨s.Kind=7 by omega),if_pos (show s.Kind≠6 by omega),if_neg (show ¬ (s.Kind=3∨s.Kind=4) by omega),if_neg c3,Y]
    have hw:=R (by omega)
    obtain ⟨t,x,rfl,a,p⟩:=Cb.cons f
    obtain ⟨t2,r,rfl,D,v⟩:=Cb.cons p
    obtain ⟨b,o,rfl,j,g⟩:=Cb.app v
    obtain ⟨t9,F,rfl,i,u⟩:=Cb.cons g
    have:=Cb.nil u
    subst this
    have f1:ni 0 (t9::B):=Cn Ls i.ub _ 0
    have hb:t::t2::(b++[t9])++B=t::t2::(b++t9::B):=by simp
    rw [kj,hb]
    rw [Kc (by rw [a.ub]; decide),ca]
    simp only [Bool.false_eq_true,if_false]
    rw [Kc (by rw [a.ub]; decide),ca]
    simp only [Bool.false_eq_true,if_false]
    rw [Kc (by rw [a.ub]; decide),ca]
    simp only [Bool.false_eq_true,if_false]
    rw [Kc (by rw [a.ub]; decide),ca]
    simp only [Bool.false_eq_true,if_false]
    rw [Kc (by rw [a.ub]; decide),ca]
    simp only [Bool.false_eq_true,if_false]
    rw [Sg a.ub,ca]
    simp only [if_true]
    rw [al (by omega) D hw,ca]
    simp only []
    rw [X (by omega) b _ j f1,ca]
    exact E t9 _ _ i.ub
   rw [if_neg Y] at f
   by_cases Tc:s.Kind=6
   ·rw [if_pos Tc] at f
    rw [if_neg (show ¬ (s.Kind=1∨s.Kind=2∨s.Kind=7) by omega),if_neg (show ¬ s.Kind≠6 by omega),if_neg (show ¬ (s.Kind=3∨s.Kind=4) by omega),if_neg c3,Tc]
    obtain ⟨t,x,rfl,a,p⟩:=Cb.cons f
    obtain ⟨t9,F,rfl,i,u⟩:=Cb.cons p
    have:=Cb.nil u
    subst this
    have hb:t::[t9]++B=t::t9::B:=rfl
    rw [kj,hb]
    rw [Kc (by rw [a.ub]; decide),ca]
    simp only [Bool.false_eq_true,if_false]
    rw [Kc (by rw [a.ub]; decide),ca]
    simp only [Bool.false_eq_true,if_false]
    rw [Kc (by rw [a.ub]; decide),ca]
    simp only [Bool.false_eq_true,if_false]
    rw [Kc (by rw [a.ub]; decide),ca]
    simp only [Bool.false_eq_true,if_false]
    rw [Sg a.ub,ca]
    simp only [if_true]
    rw [om,Wi i.ub,ca]
   rw [if_neg Tc] at f
   by_cases c5:s.Kind=5
   ·rw [if_pos c5] at f
    rw [if_neg (show ¬ (s.Kind=1∨s.Kind=2∨s.Kind=7) by omega),if_pos (show s.Kind≠6 by omega),if_neg (show ¬ (s.Kind=3∨s.Kind=4) by omega),if_neg c3,c5]
    obtain ⟨t,r,rfl,a,v⟩:=Cb.cons f
    obtain ⟨b,o,rfl,j,g⟩:=Cb.app v
    obtain ⟨t9,F,rfl,i,u⟩:=Cb.cons g
    have:=Cb.nil u
    subst this
    have f1:ni 0 (t9::B):=Cn Ls i.ub _ 0
    have hb:t::(b++[t9])++B=t::(b++t9::B):=by simp
    rw [kj,hb]
    rw [Kc (by rw [a.ub]; decide),ca]
    simp only [Bool.false_eq_true,if_false]
    rw [Kc (by rw [a.ub]; decide),ca]
    simp only [Bool.false_eq_true,if_false]
    rw [Kc (by rw [a.ub]; decide),ca]
    simp only [Bool.false_eq_true,if_false]
    rw [Sg a.ub,ca]
    simp only [if_true]
    rw [X (by omega) b _ j f1,ca]
    exact E t9 _ _ i.ub
   rw [if_neg c5] at f
   by_cases eh:s.Kind=8
   ·rw [if_pos eh] at f
    rw [if_neg (show ¬ (s.Kind=1∨s.Kind=2∨s.Kind=7) by omega),if_pos (show s.Kind≠6 by omega),if_neg (show ¬ (s.Kind=3∨s.Kind=4) by omega),if_neg c3,eh]
    obtain ⟨t,r,rfl,a,v⟩:=Cb.cons f
    obtain ⟨b,o,rfl,j,g⟩:=Cb.app v
    obtain ⟨t9,F,rfl,i,u⟩:=Cb.cons g
    have:=Cb.nil u
    subst this
    have f1:ni 0 (t9::B):=Cn Ls i.ub _ 0
    have hb:t::(b++[t9])++B=t::(b++t9::B):=by simp
    rw [kj,hb]
    rw [Kc (by rw [a.ub]; decide),ca]
    simp only [Bool.false_eq_true,if_false]
    rw [Kc (by rw [a.ub]; decide),ca]
    simp only [Bool.false_eq_true,if_false]
    rw [Kc (by rw [a.ub]; decide),ca]
    simp only [Bool.false_eq_true,if_false]
    rw [Kc (by rw [a.ub]; decide),ca]
    simp only [Bool.false_eq_true,if_false]
    rw [Kc (by rw [a.ub]; decide),ca]
    simp only [Bool.false_eq_true,if_false]
    rw [Kc (by rw [a.ub]; decide),ca]
    simp only [Bool.false_eq_true,if_false]
    rw [Sg a.ub,ca]
    simp only [if_true]
    rw [X (by omega) b _ j f1,ca]
    exact E t9 _ _ i.ub
   rw [if_neg eh] at f
   have c9:s.Kind=9:=by omega
   rw [if_neg (show ¬ (s.Kind=1∨s.Kind=2∨s.Kind=7) by omega),if_pos (show s.Kind≠6 by omega),if_neg (show ¬ (s.Kind=3∨s.Kind=4) by omega),if_neg c3,c9]
   obtain ⟨t,r,rfl,a,v⟩:=Cb.cons f
   obtain ⟨b,o,rfl,j,g⟩:=Cb.app v
   obtain ⟨t9,F,rfl,i,u⟩:=Cb.cons g
   have:=Cb.nil u
   subst this
   have f1:ni 0 (t9::B):=Cn Ls i.ub _ 0
   have hb:t::(b++[t9])++B=t::(b++t9::B):=by simp
   rw [kj,hb]
   rw [Kc (by rw [a.ub]; decide),ca]
   simp only [Bool.false_eq_true,if_false]
   rw [Kc (by rw [a.ub]; decide),ca]
   simp only [Bool.false_eq_true,if_false]
   rw [Kc (by rw [a.ub]; decide),ca]
   simp only [Bool.false_eq_true,if_false]
   rw [Kc (by rw [a.ub]; decide),ca]
   simp only [Bool.false_eq_true,if_false]
   rw [Kc (by rw [a.ub]; decide),ca]
   simp only [Bool.false_eq_true,if_false]
   rw [Kc (by rw [a.ub]; decide),ca]
   simp only [Bool.false_eq_true,if_false]
   rw [Kc (by rw [a.ub]; decide),ca]
   simp only [Bool.false_eq_true,if_false]
   rw [Sg a.ub,ca]
   simp only [if_true]
   rw [X (by omega) b _ j f1,ca]
   exact E t9 _ _ i.ub
end Go.Y
namespace Go.Y
open Go.bc Go.Dc
def Eg (t:Ya):mb:=if t.Kind=1 then [110,117,109] else if t.Kind=2 then [98,111,111,108] else t.Nb
def Lk (t:Ya):Prop:=Jk t∧(t.Kind=3→sh t.Nb)
theorem As {fu:Nat} (f:20≤fu) {t:Ua} {ty:Ya} {B:List Ua} {e d:Int} (a:Bu t (Eg ty)) (h:Lk ty):Io fu (t::B) e d=some (hg ty,B,e,d):=by
 obtain ⟨⟨i,j⟩,g⟩:=h
 rw [Io]
 by_cases b:ty.Kind=1
 ·rw [Eg,if_pos b] at a
  rw [Sg a.ub,ca]
  simp only [if_true]
  rw [hg,if_pos (by omega),b]
 by_cases c2:ty.Kind=2
 ·rw [Eg,if_neg b,if_pos c2] at a
  rw [Kc (by rw [a.ub]; decide),ca]
  simp only [Bool.false_eq_true,if_false]
  rw [Sg a.ub,ca]
  simp only [if_true]
  rw [hg,if_pos (by omega),c2]
 ·have c3:ty.Kind=3:=by omega
  have c:=g c3
  rw [Eg,if_neg b,if_neg c2] at a
  rw [Kc (by rw [a.ub]; exact c.ne (by kernel_rfl)),ca]
  simp only [Bool.false_eq_true,if_false]
  rw [Kc (by rw [a.ub]; exact c.ne (by kernel_rfl)),ca]
  simp only [Bool.false_eq_true,if_false]
  rw [al f a c,ca,hg,if_neg (by omega)]
  obtain ⟨Ce,k⟩:=ty
  simp only at c3
  subst c3
  rfl
def qq (q:TParam):TParam:=TParam.mk q.Name (hg q.zb)
def Pj (l:List TParam):List mb:=(l.map fun q=>[44]::q.Name::[Eg q.zb]).flatten
def Fm:List TParam→List mb
 | []=>[[40],[41]]
 | q::l=>[40]::q.Name::Eg q.zb::(Pj l++[[41]])
theorem wD {fu:Nat} (h:20≤fu) {e d:Int} (B:List Ua):∀ (l:List TParam) (acc:List TParam) (m:Nat) (A:List Ua),(∀ q ∈ l,sh q.Name∧Lk q.zb)→l.length<m→0<acc.length→acc.length+l.length≤6→Cb A (Pj l++[[41]]) →
  Dl fu m (A++B) e d acc=some (acc++l.map qq,B,e,d):=by
 intro l
 induction l with
 | nil =>
  intro acc m A c hm i qa a
  obtain ⟨m,rfl⟩:∃ f,m=f+1:=⟨m - 1,by simp at hm; omega⟩
  obtain ⟨t,j,rfl,b,g⟩:=Cb.cons a
  have:=Cb.nil g
  subst this
  rw [Dl,List.cons_append,Sg b.ub,ca,if_pos rfl]
  simp
 | cons q l k =>
  intro acc m A c hm i qa a
  rw [List.length_cons] at hm qa
  obtain ⟨m,rfl⟩:∃ f,m=f+1:=⟨m - 1,by omega⟩
  have sa:Pj (q::l)++[[41]]=[44]::q.Name::Eg q.zb::(Pj l++[[41]]):=by simp [Pj]
  rw [sa] at a
  obtain ⟨t,j,rfl,b,g⟩:=Cb.cons a
  obtain ⟨t2,x,rfl,n,o⟩:=Cb.cons g
  obtain ⟨t3,p,rfl,r,s⟩:=Cb.cons o
  obtain ⟨u,v⟩:=c q (List.mem_cons_self ..)
  rw [Dl,List.cons_append,Kc (by rw [b.ub]; decide),ca]
  simp only [Bool.false_eq_true,if_false]
  rw [if_pos (by omega),Wi b.ub,ca,br,if_neg (by omega)]
  simp only [List.cons_append]
  rw [al h n u,ca]
  simp only []
  rw [As h r v,ca]
  simp only []
  rw [hi (by simp; omega),ca]
  have:=k (acc++[qq q]) m p (fun y w=>c y (List.mem_cons_of_mem _ w)) (by omega) (by simp) (by simp; omega) s
  refine Eq.trans this ?_
  simp
theorem TA {fu:Nat} (b:20≤fu) {l:List TParam} {A B:List Ua} {e d:Int} (h:∀ q ∈ l,sh q.Name∧Lk q.zb) (qa:l.length≤6) (i:Cb A (Fm l)):Xr fu (A++B) e d=some (l.map qq,B,e,d):=by
 obtain ⟨m,hm⟩:∃ n,fu=n+1:=⟨fu - 1,by omega⟩
 rw [Xr]
 cases l with
 | nil =>
  obtain ⟨t,o,rfl,c,f⟩:=Cb.cons i
  obtain ⟨t2,p,rfl,a,g⟩:=Cb.cons f
  have:=Cb.nil g
  subst this
  rw [List.cons_append,Wi c.ub,ca]
  simp only []
  have step:Dl fu (m+1) (t2::[]++B) e d []=some (([]:List TParam).map qq,B,e,d):=by
   rw [Dl,List.cons_append,Sg a.ub,ca,if_pos rfl]
   simp
  rw [← hm] at step
  exact step
 | cons q l =>
  rw [List.length_cons] at qa
  obtain ⟨t,o,rfl,c,f⟩:=Cb.cons i
  obtain ⟨t2,p,rfl,a,g⟩:=Cb.cons f
  obtain ⟨t3,j,rfl,r,s⟩:=Cb.cons g
  obtain ⟨k,u⟩:=h q (List.mem_cons_self ..)
  rw [List.cons_append,Wi c.ub,ca]
  simp only []
  have step:Dl fu (m+1) (t2::t3::j++B) e d []=some ((q::l).map qq,B,e,d):=by
   rw [Dl,List.cons_append,Kc (by rw [a.ub]; exact k.vp (by decide)),ca]
   simp only [Bool.false_eq_true,if_false]
   rw [if_neg (by simp),br,if_neg (by simp),al b a k,ca]
   simp only [List.cons_append]
   rw [As b r u,ca]
   simp only []
   rw [hi (by simp),ca]
   have:=wD b (e:=e) (d:=d) B l ([]++[qq q]) m j (fun y v=>h y (List.mem_cons_of_mem _ v)) (by omega) (by simp) (by simp; omega) s
   refine Eq.trans this ?_
   simp
  rw [← hm] at step
  exact step
def fj (d:va):List mb :=
 if d.Kind=1 then [[98,111,120],d.Name,Eg d.zb,Lib.itoa d.oe,[59]]
 else if d.Kind=4 then [116,97,115,107]::d.Name::wg (sf 39) d.Body
 else if d.Kind=2 then [102,110]::d.Name::(Fm d.Params++Eg d.zb::wg (sf 39) d.Body)
 else [103,101,110]::d.Name::(Fm d.Params++[116,97,107,101,115]::Eg d.Hc::[121,105,101,108,100,115]::Eg d.zb::wg (sf 39) d.Body)
structure sl (d:va):Prop where
 k1:1≤d.Kind
 Af:d.Kind≤4
 Fg:sh d.Name
 cg:d.Kind=2∨d.Kind=3→d.Params.length≤6∧∀ q ∈ d.Params,sh q.Name∧Lk q.zb
 Mh:d.Kind=3→Lk d.Hc
 ty:d.Kind≠4→Lk d.zb
 Nh:d.Kind=1→1≤d.oe∧d.oe≤20
 Rf:d.Kind≠1→d.Body.length≤50∧∀ y ∈ d.Body,Kk 39 y
theorem St {t:Ua} {B:List Ua} {e d:Int}:Is (t::B) e d=some t.dd:=by
 rw [Is,if_neg (by simp; omega),yg (by simp),ca]
 rfl
theorem jI (num:ou) {fu:Nat} (R:8000≤fu) {x:va} (h:sl x) {A B:List Ua} {e:Int} (d:Cb A (fj x)):Ap fu (A++B) e 0=some (jf 39 x,B,e,0):=by
 have p:jf 39 x=va.mk x.Kind x.Name (if x.Kind≠4 then hg x.zb else Ya.mk 0 []) (if x.Kind=3 then hg x.Hc else Ya.mk 0 []) (if x.Kind=1 then x.oe else 0) (if x.Kind=2∨x.Kind=3 then x.Params.map qq else []) (if x.Kind=1 then [] else x.Body.map (gf 39)):=rfl
 have q:∀ (f:List Ua),x.Kind≠1→Cb f (wg (sf 39) x.Body)→(tm fu).vi (f++B) e 0=some (x.Body.map (gf 39),B,e,0):=fun f s C =>
  (lH num fu 39 (by omega)).body x.Body f B e 0 (h.Rf s).1 (h.Rf s).2 (by omega) (by omega) (by omega) C
 have k1:=h.k1
 have Af:=h.Af
 rw [p]
 rw [fj] at d
 by_cases a:x.Kind=1
 ·obtain ⟨xa,a2⟩:=h.Nh a
  obtain ⟨u,D⟩:=num x.oe (by omega) (by omega)
  rw [if_pos a] at d
  rw [if_pos (show x.Kind≠4 by omega),if_neg (show ¬ x.Kind=3 by omega),if_pos a,if_neg (show ¬ (x.Kind=2∨x.Kind=3) by omega),if_pos a,a]
  obtain ⟨t,f,rfl,c,g⟩:=Cb.cons d
  obtain ⟨t2,o,rfl,i,j⟩:=Cb.cons g
  obtain ⟨t3,v,rfl,E,k⟩:=Cb.cons j
  obtain ⟨t4,w,rfl,y,l⟩:=Cb.cons k
  obtain ⟨t5,r,rfl,m,n⟩:=Cb.cons l
  have:=Cb.nil n
  subst this
  have F:t4.Kind=2:=by rw [y.Ce,u]
  have z:=y.Fg u
  rw [D] at z
  have G:=Option.some.inj z
  simp only [List.cons_append,List.nil_append]
  rw [Ap,St,ca,Sg c.ub,ca]
  simp only [if_true]
  rw [al (by omega) i h.Fg,ca]
  simp only []
  rw [As (by omega) E (h.ty (by omega)),ca]
  simp only []
  rw [St,ca,Pz F,ca]
  have Qe:∀ b,b=false→Yr (x.Name,t3::t4::t5::B,e,0) (hg x.zb,t4::t5::B,e,0) (t4.Eu,t5::B,e,0) b=some (⟨1,x.Name,hg x.zb,⟨0,[]⟩,x.oe,[],[]⟩,B,e,0):=by
   intro b p
   rw [Yr,p,if_neg (by decide)]
   simp only []
   rw [Wi m.ub,ca,← G]
  rw [if_neg (by simp only []; omega)]
  exact Qe _ (decide_eq_false (by simp only []; omega))
 rw [if_neg a] at d
 by_cases c4:x.Kind=4
 ·rw [if_pos c4] at d
  rw [if_neg (show ¬ x.Kind≠4 by omega),if_neg (show ¬ x.Kind=3 by omega),if_neg a,if_neg (show ¬ (x.Kind=2∨x.Kind=3) by omega),if_neg a,c4]
  obtain ⟨t,f,rfl,c,g⟩:=Cb.cons d
  obtain ⟨t2,o,rfl,i,j⟩:=Cb.cons g
  simp only [List.cons_append]
  rw [Ap,St,ca]
  rw [Kc (by rw [c.ub]; decide),ca]
  simp only [Bool.false_eq_true,if_false]
  rw [Kc (by rw [c.ub]; decide),ca]
  simp only [Bool.false_eq_true,if_false]
  rw [Kc (by rw [c.ub]; decide),ca]
  simp only [Bool.false_eq_true,if_false]
  rw [Sg c.ub,ca]
  simp only [if_true]
  rw [al (by omega) i h.Fg,ca]
  simp only []
  rw [q o a j,ca]
 rw [if_neg c4] at d
 by_cases c2:x.Kind=2
 ·obtain ⟨kb,Ib⟩:=h.cg (.inl c2)
  rw [if_pos c2] at d
  rw [if_pos c4,if_neg (show ¬ x.Kind=3 by omega),if_neg a,if_pos (show x.Kind=2∨x.Kind=3 by omega),if_neg a,c2]
  obtain ⟨t,f,rfl,c,g⟩:=Cb.cons d
  obtain ⟨t2,o,rfl,i,j⟩:=Cb.cons g
  obtain ⟨v,w,rfl,k,l⟩:=Cb.app j
  obtain ⟨t5,r,rfl,m,n⟩:=Cb.cons l
  simp only [List.cons_append,List.append_assoc]
  rw [Ap,St,ca]
  rw [Kc (by rw [c.ub]; decide),ca]
  simp only [Bool.false_eq_true,if_false]
  rw [Sg c.ub,ca]
  simp only [if_true]
  rw [al (by omega) i h.Fg,ca]
  simp only []
  rw [TA (by omega) Ib kb k,ca]
  simp only []
  rw [As (by omega) m (h.ty c4),ca]
  simp only []
  rw [q r a n,ca]
 rw [if_neg c2] at d
 have c3:x.Kind=3:=by omega
 obtain ⟨kb,Ib⟩:=h.cg (.inr c3)
 rw [if_pos c4,if_pos c3,if_neg a,if_pos (show x.Kind=2∨x.Kind=3 by omega),if_neg a,c3]
 obtain ⟨t,f,rfl,c,g⟩:=Cb.cons d
 obtain ⟨t2,o,rfl,i,j⟩:=Cb.cons g
 obtain ⟨v,w,rfl,k,l⟩:=Cb.app j
 obtain ⟨t5,r,rfl,m,n⟩:=Cb.cons l
 obtain ⟨t6,S,rfl,H,K⟩:=Cb.cons n
 obtain ⟨t7,T,rfl,L,M⟩:=Cb.cons K
 obtain ⟨t8,N,rfl,P,Q⟩:=Cb.cons M
 simp only [List.cons_append,List.append_assoc]
 rw [Ap,St,ca]
 rw [Kc (by rw [c.ub]; decide),ca]
 simp only [Bool.false_eq_true,if_false]
 rw [Kc (by rw [c.ub]; decide),ca]
 simp only [Bool.false_eq_true,if_false]
 rw [Sg c.ub,ca]
 simp only [if_true]
 rw [al (by omega) i h.Fg,ca]
 simp only []
 rw [TA (by omega) Ib kb k,ca]
 simp only []
 rw [Wi m.ub,ca]
 simp only []
 rw [As (by omega) H (h.Mh c3),ca]
 simp only []
 rw [Wi L.ub,ca]
 simp only []
 rw [As (by omega) P (h.ty c4),ca]
 simp only []
 rw [q N a Q,ca]
def Vj (l:List va):List mb:=(l.map fj).flatten
theorem kI (x:va):fj x≠[]:=by
 unfold fj
 split
 ·simp
 ·split
  ·simp
  ·split <;> simp
theorem QE (num:ou) {fu:Nat} (n:8000≤fu) (h:List Ua×Vc) {e:Int} (W:Vc) (o:W.Ue=0):∀ (l:List va) (acc:List va) (m:Nat) (A:List Ua),(∀ x ∈ l,sl x)→l.length<m→acc.length+l.length≤30→Cb A (Vj l)→Fj fu (acc++l.map (jf 39))=some W →
  fp fu h m A e 0 acc=some (acc++l.map (jf 39),h.2):=by
 intro l
 induction l with
 | nil =>
  intro acc m A c hm i b a
  obtain ⟨m,rfl⟩:∃ d,m=d+1:=⟨m - 1,by simp at hm; omega⟩
  have:=Cb.nil b
  subst this
  rw [List.map_nil,List.append_nil] at a ⊢
  rw [fp,if_neg (by simp),a,ca,if_neg (by simpa using o),av,iw,ca]
 | cons x l p =>
  intro acc m A c hm i b a
  rw [List.length_cons] at hm i
  obtain ⟨m,rfl⟩:∃ d,m=d+1:=⟨m - 1,by omega⟩
  rw [Vj,List.map_cons,List.flatten_cons] at b
  obtain ⟨f,j,rfl,g,q⟩:=Cb.app b
  have s:0<(f++j).length:=by
   cases f with
   | nil =>
    exfalso
    have k:=kI x
    generalize fj x=w at g k
    cases w with
    | nil=>exact k rfl
    | cons _ _=>cases g
   | cons t f=>simp
  rw [fp,if_pos (by omega),if_neg (by omega),jI num n (c x (List.mem_cons_self ..)) g,ca]
  simp only []
  rw [hi (by simp; omega),ca,Zu]
  have sa:acc++(x::l).map (jf 39)=(acc++[jf 39 x])++l.map (jf 39):=by simp
  rw [sa] at a ⊢
  exact p (acc++[jf 39 x]) m j (fun y r=>c y (List.mem_cons_of_mem _ r)) (by omega) (by simp; omega) q a
end Go.Y
namespace Go.Y
open Go.bc Go.Dc
def Dj:List mb:=[[61,61],[33,61],[60,61],[62,61],[60],[62],[61],[43],[45],[42],[47],[37],[40],[41],[123],[125],[44],[59]]
def Dh:List mb→mb
 | []=>[]
 | [w]=>w
 | w::w'::ws=>w++32::Dh (w'::ws)
def Fk (w:mb):Prop:=(∃ c u,w=c::u∧isLet c=true∧∀ x ∈ u,isLet x=true∨Xi x=true)∨(w≠[]∧(∀ x ∈ w,Xi x=true)∧w.length≤15∧∃ v,Mo w=some v)∨w ∈ Dj
theorem Ov (c:UInt8):uk c=some (isLet c):=by
 rw [uk,isLet]
 split
 ·split
  ·exact congrArg some (decide_eq_true (by omega)).symm
  ·exact congrArg some (decide_eq_decide.2 (by omega))
 ·exact congrArg some (decide_eq_decide.2 (by omega))
theorem Tt (c:UInt8):An c=some (Xi c):=by
 rw [An,Xi]
 split
 ·exact congrArg some (decide_eq_decide.2 (by omega))
 ·exact congrArg some (decide_eq_false (by omega)).symm
theorem XI (c:UInt8):du c=some (isLet c || Xi c):=by
 rw [du,Ov,ca]
 cases h:isLet c with
 | true=>rfl
 | false=>rw [if_neg (by decide),Tt,ca,Bool.false_or]
def Cw (t:mb):Prop:=t=[]∨∃ ld,t=32::ld
theorem pB {p:UInt8→Option Bool} {u t:mb} (hu:∀ c ∈ u,p c=some true) (a:Cw t) (b:p 32=some false) (qa:u.length≤6000) (fu:Nat) (h:6100≤fu):qm fu (u++t) p=some (u.length:Int):=by
 have L:∀ (m i:Nat),i≤u.length→u.length<m+i→Ej (u++t) p m (i:Int)=some (u.length:Int):=by
  intro m
  induction m with
  | zero=>intro i d f; omega
  | succ m g =>
   intro i d f
   rw [Ej]
   by_cases c:i<u.length
   ·rw [if_pos (by simp <;> omega),Rd,List.getElem?_append_left c,List.getElem?_eq_getElem c,ca,hu _ (List.getElem_mem c),ca,Zl,if_pos rfl,Cc (by omega),ca]
    exact g (i+1) c (by omega)
   ·have e:i=u.length:=by omega
    subst e
    rcases a with rfl | ⟨ld,rfl⟩
    ·rw [if_neg (by simp),Zl,if_neg (by decide)]
    ·rw [if_pos (by simp <;> omega),Rd,List.getElem?_append_right (Nat.le_refl _),Nat.sub_self]
     show Option.bind (some (32:UInt8)) _=_
     rw [ca,b,ca,Zl,if_neg (by decide)]
 exact L fu 0 (by omega) (by omega)
theorem YI {w t x:mb} (a:Cw t) (b:(32:UInt8) ∉ x):eu (w++t) x=some (decide (x=w.take x.length)):=by
 rw [eu,gw]
 by_cases c:x.length≤(w++t).length
 ·rw [if_pos (by omega),cut,if_pos (by omega)]
  simp only [Int.toNat_natCast,Int.toNat_zero,List.drop_zero,ca]
  refine congrArg some (decide_eq_decide.2 ?_)
  by_cases d:x.length≤w.length
  ·rw [List.take_append_of_le_length d]
   exact eq_comm
  ·constructor
   ·intro h
    exfalso
    rcases a with rfl | ⟨ld,rfl⟩
    ·simp at c; omega
    ·apply b
     rw [← h,List.take_append,List.take_of_length_le (by omega)]
     obtain ⟨j,e⟩:∃ j,x.length - w.length=j+1:=⟨x.length - w.length - 1,by omega⟩
     rw [e,List.take_succ_cons]
     simp
   ·intro h
    exfalso
    have:=congrArg List.length h
    rw [List.length_take] at this
    omega
 ·rw [if_neg (by omega),ca]
  refine congrArg some (decide_eq_false fun h=>?_).symm
  have:=congrArg List.length h
  rw [List.length_take] at this
  simp at c
  omega
theorem mH {w t:mb} (hw:w ∈ Dj) (a:Cw t):Lt (w++t)=some w:=by
 have b:∀ x ∈ Dj,(32:UInt8) ∉ x:=by decide
 have d:∀ w ∈ Dj,(Dj.find? fun x=>decide (x=w.take x.length))=some w:=by decide
 have L:∀ (m i:Nat),i≤18→18<m+i→sr (w++t) m (i:Int)=some (((Dj.drop i).find? fun x=>decide (x=w.take x.length)).getD []):=by
  intro m
  induction m with
  | zero=>intro i f g; omega
  | succ m h =>
   intro i f g
   rw [sr]
   have qa:Dj.length=18:=rfl
   by_cases c:i<18
   ·have hm:Dj[i] ∈ Dj:=List.getElem_mem _
    have e:at_ Dj (i:Int)=some Dj[i]:=by rw [Rd]; exact List.getElem?_eq_getElem _
    rw [if_pos (by omega)]
    show Option.bind (at_ Dj (i:Int)) _=_
    rw [e,ca,YI a (b _ hm),ca,List.drop_eq_getElem_cons (show i<Dj.length by omega),List.find?_cons]
    cases q:decide (Dj[i]=w.take Dj[i].length) with
    | true=>rfl
    | false =>
     rw [if_neg (by decide),Cc (by omega),ca]
     exact h (i+1) c (by omega)
   ·rw [if_neg (by omega),List.drop_eq_nil_of_le (by omega)]
    rfl
 rw [Lt]
 have:=L 19 0 (by omega) (by omega)
 rw [List.drop_zero,d w hw] at this
 exact this
theorem Fk.head {w:mb} (h:Fk w):∃ c u,w=c::u∧c.toNat≠32∧c.toNat≠9∧c.toNat≠10∧c.toNat≠35:=by
 rcases h with ⟨c,u,rfl,h,-⟩ | ⟨h,a,-⟩ | h
 ·have:=of_decide_eq_true h
  exact ⟨c,u,rfl,by omega,by omega,by omega,by omega⟩
 ·cases w with
  | nil=>exact absurd rfl h
  | cons c u =>
   have:=of_decide_eq_true (a c (List.mem_cons_self ..))
   exact ⟨c,u,rfl,by omega,by omega,by omega,by omega⟩
 ·have H:∀ w ∈ Dj,(match w with | []=>false | c::_=>decide (c.toNat≠32∧c.toNat≠9∧c.toNat≠10∧c.toNat≠35))=true:=by decide
  have:=H w h
  cases w with
  | nil=>cases this
  | cons c u =>
   have:=of_decide_eq_true this
   exact ⟨c,u,rfl,this⟩
theorem mG {fu:Nat} (d:100≤fu) {c:UInt8} {u:mb} (h:c.toNat≠32∧c.toNat≠9∧c.toNat≠10∧c.toNat≠35):rm fu (c::u)=some 0:=by
 obtain ⟨m,rfl⟩:∃ m,fu=m+1:=⟨fu - 1,by omega⟩
 have Qe:∀ b K,b=false→bm (m+1) (c::u) 0 c K b=some 0:=fun b K a=>by rw [bm,a,if_neg (by decide),if_neg (by omega)]
 rw [rm,Pk,if_pos (by simp <;> omega),yg (by simp),ca]
 show (if (c.toNat:Int)=32 then _ else if (c.toNat:Int)=9 then _ else bm (m+1) (c::u) 0 c (Pk (m+1) (c::u) m) (decide ((c.toNat:Int)=10)))=_
 rw [if_neg (by omega),if_neg (by omega)]
 exact Qe _ _ (decide_eq_false (by omega))
theorem nG {fu:Nat} (d:100≤fu) {c:UInt8} {u:mb} (h:c.toNat≠32∧c.toNat≠9∧c.toNat≠10∧c.toNat≠35):rm fu (32::c::u)=some 1:=by
 obtain ⟨m,rfl⟩:∃ m,fu=m+2:=⟨fu - 2,by omega⟩
 have Qe:∀ b K,b=false→bm (m+2) (32::c::u) 1 c K b=some 1:=fun b K a=>by rw [bm,a,if_neg (by decide),if_neg (by omega)]
 have sa:at_ (32::c::u) 1=some c:=by rw [tC (by simp)]; rfl
 rw [rm,Pk,if_pos (by simp <;> omega),yg (by simp),ca]
 show (if (((32:UInt8).toNat:Nat):Int)=32 then bm (m+2) (32::c::u) 0 32 (Pk (m+2) (32::c::u) (m+1)) (decide ((((32:UInt8).toNat:Nat):Int)=32)) else _)=_
 rw [if_pos (by decide),bm,if_pos (by decide),Cc (by omega),ca]
 show Pk (m+2) (32::c::u) (m+1) 1=_
 rw [Pk,if_pos (by simp <;> omega),sa,ca,if_neg (by omega),if_neg (by omega)]
 exact Qe _ _ (decide_eq_false (by omega))
theorem lA {fu:Nat} (a:100≤fu):rm fu []=some 0:=by
 obtain ⟨m,rfl⟩:∃ m,fu=m+1:=⟨fu - 1,by omega⟩
 rw [rm,Pk,if_neg (by simp)]
theorem qB (pre:mb) (t:mb):(pre++t).drop pre.length=t:=by simp
theorem UA {s:mb} {i:Nat} (h:i≤s.length):cut s (i:Int) (s.length:Int)=some (s.drop i):=by
 rw [cut,if_pos (by omega)]
 simp
def rest:List mb→mb
 | []=>[]
 | w::ws=>32::Dh (w::ws)
theorem Yv (w:mb) (ws:List mb):Dh (w::ws)=w++rest ws:=by
 cases ws with
 | nil=>simp [Dh,rest]
 | cons w' ws=>rfl
theorem RE (ws:List mb):Cw (rest ws):=by
 cases ws with
 | nil=>exact .inl rfl
 | cons w ws=>exact .inr ⟨_,rfl⟩
theorem bE {fu:Nat} (a:100≤fu) (ws:List mb) (h:∀ w ∈ ws,Fk w):rm fu (rest ws)=some (if ws=[] then 0 else 1):=by
 cases ws with
 | nil=>exact lA a
 | cons w ws =>
  obtain ⟨c,u,rfl,b⟩:=(h w (List.mem_cons_self ..)).head
  rw [rest,Yv,List.cons_append]
  exact nG a b
theorem yF {fu:Nat} (N:7000≤fu):∀ (ws:List mb) (pre:mb) (acc:List Ua) (m:Nat),(∀ w ∈ ws,Fk w)→ws.length<m→(pre++Dh ws).length≤6000→acc.length+(Dh ws).length≤6000 →
  ∃ e,Wl fu (pre++Dh ws) m (pre.length:Int) acc=some (acc++e,⟨0,0⟩)∧Cb e ws:=by
 intro ws
 induction ws with
 | nil =>
  intro pre acc m hw hm qa n
  obtain ⟨m,rfl⟩:∃ i,m=i+1:=⟨m - 1,by simp at hm; omega⟩
  refine ⟨[],?_,trivial⟩
  rw [Wl,if_neg (by simp [Dh]),List.append_nil]
 | cons w ws F =>
  intro pre acc m hw hm qa n
  rw [List.length_cons] at hm
  obtain ⟨m,rfl⟩:∃ i,m=i+1:=⟨m - 1,by omega⟩
  rw [Yv] at qa n ⊢
  have p:=hw w (List.mem_cons_self ..)
  have q:∀ y ∈ ws,Fk y:=fun y G=>hw y (List.mem_cons_of_mem _ G)
  have o:=RE ws
  obtain ⟨c,u,d,-⟩:=p.head
  have hlen:(pre++(w++rest ws)).length=pre.length+w.length+(rest ws).length:=by simp; omega
  have P:0<w.length:=by rw [d]; simp
  rw [List.length_append] at n
  have Qe:∀ (Ce Fg:Int),(∀ t:Ua,t=⟨Ce,w,Fg,pre.length⟩→Bu t w)→∃ e,Kp fu (pre++(w++rest ws)) (pre.length:Int) acc (Wl fu (pre++(w++rest ws)) m) Ce w Fg=some (acc++e,⟨0,0⟩)∧Cb e (w::ws):=by
   intro Ce Fg a
   have sa:(pre.length:Int)+(w.length:Int)=((pre.length+w.length:Nat):Int):=by omega
   have K:(pre++(w++rest ws)).drop (pre.length+w.length)=rest ws:=by rw [← List.append_assoc,← List.length_append,qB]
   rw [Kp,hi (by simp <;> omega),ca,Cc (by omega),ca,sa,UA (by omega),ca,K,bE (by omega) ws q,ca]
   cases ws with
   | nil =>
    rw [if_pos rfl,Cc (by omega),ca]
    obtain ⟨m,rfl⟩:∃ i,m=i+1:=⟨m - 1,by omega⟩
    refine ⟨[⟨Ce,w,Fg,pre.length⟩],?_,a _ rfl,trivial⟩
    rw [Wl,if_neg (by simp [rest])]
   | cons w' ws =>
    rw [if_neg (by simp),Cc (by omega),ca]
    have r:pre++(w++rest (w'::ws))=(pre++w++[32])++Dh (w'::ws):=by simp [rest]
    have L:((pre.length+w.length:Nat):Int)+1=((pre++w++[32]).length:Int):=by rw [List.length_append,List.length_append,List.length_singleton]; omega
    have Q:(rest (w'::ws)).length=(Dh (w'::ws)).length+1:=by simp [rest]
    rw [r,L]
    obtain ⟨e,j,k⟩:=F (pre++w++[32]) (acc++[⟨Ce,w,Fg,pre.length⟩]) m q (by omega) (by rw [← r]; exact qa) (by rw [List.length_append,List.length_singleton]; omega)
    refine ⟨⟨Ce,w,Fg,pre.length⟩::e,?_,a _ rfl,k⟩
    rw [j]
    simp
  have hb:(pre++(w++rest ws)).drop pre.length=w++rest ws:=qB _ _
  have M:at_ (w++rest ws) 0=some c:=by rw [d,yg (by simp)]; rfl
  have s:cut (w++rest ws) 0 (w.length:Int)=some w:=by rw [cut,if_pos (by rw [List.length_append]; omega)]; simp
  have a:kindOf w=if isLet c=true then 1 else if Xi c=true then 2 else 3:=by rw [d]; rfl
  rw [Wl,if_pos (by omega),UA (by omega),ca,hb,M,ca,Ov,ca]
  rcases p with ⟨tc,R,z,f,hu⟩ | ⟨S,A,T,v,B⟩ | C
  ·rw [d] at z
   obtain ⟨rfl,rfl⟩:=List.cons.inj z
   rw [if_pos f] at a
   rw [if_pos f,pB (u:=w) (fun x g=>by
    rw [XI]
    rw [d] at g
    rcases List.mem_cons.1 g with rfl | g
    ·rw [f]; rfl
    ·rcases hu x g with h | h <;> rw [h] <;> simp) o (by decide) (by omega) fu (by omega),ca,s,ca]
   exact Qe 1 0 fun t b=>⟨by rw [b],by rw [b,a],fun h=>by rw [a] at h; cases h⟩
  ·have f:Xi c=true:=A c (by rw [d]; exact List.mem_cons_self ..)
   have D:¬ isLet c=true:=fun h=>by have:=of_decide_eq_true h; have:=of_decide_eq_true f; omega
   rw [if_neg D,if_pos f] at a
   rw [if_neg D,Tt,ca,if_pos f,pB (u:=w) (fun x g=>by rw [Tt,A x g]) o (by decide) (by omega) fu (by omega),ca,s,ca,if_neg (by omega),B,ca]
   exact Qe 2 v fun t b=>⟨by rw [b],by rw [b,a],fun _=>by rw [b]; exact B⟩
  ·have H:∀ w ∈ Dj,(match w with | []=>false | c::_=>!isLet c && !Xi c)=true:=by decide
   have E:=H w C
   rw [d] at E
   have l:(!isLet c && !Xi c)=true:=E
   have j:isLet c=false:=by cases h:isLet c with | false=>rfl | true=>rw [h] at l; cases l
   have k:Xi c=false:=by cases h:Xi c with | false=>rfl | true=>rw [h,j] at l; cases l
   rw [j,k] at a
   rw [j,if_neg (by decide),Tt,ca,k,if_neg (by decide),mH C o,ca,if_neg (by rw [d]; simp)]
   exact Qe 3 0 fun t b=>⟨by rw [b],by rw [b,a]; rfl,fun h=>by rw [a] at h; cases h⟩
theorem lI {fu:Nat} (b:7000≤fu) (ws:List mb) (hw:∀ w ∈ ws,Fk w) (qa:(Dh ws).length≤6000):∃ a,nt fu (Dh ws)=some (a,⟨0,0⟩)∧Cb a ws:=by
 have d:rm fu (Dh ws)=some 0:=by
  cases ws with
  | nil=>exact lA (by omega)
  | cons w ws =>
   obtain ⟨c,u,rfl,e⟩:=(hw w (List.mem_cons_self ..)).head
   rw [Yv,List.cons_append]
   exact mG (by omega) e
 have f:∀ ws:List mb,(∀ w ∈ ws,Fk w)→ws.length≤(Dh ws).length:=by
  intro ws
  induction ws with
  | nil=>intro _; simp
  | cons w ws g =>
   intro h
   obtain ⟨c,u,rfl,-⟩:=(h w (List.mem_cons_self ..)).head
   have:=g fun y i=>h y (List.mem_cons_of_mem _ i)
   rw [Yv]
   cases ws with
   | nil=>simp [rest]
   | cons w' ws=>simp [rest] at this ⊢; omega
 have k:=f ws hw
 rw [nt,if_neg (by omega),d,ca]
 obtain ⟨a,sa,j⟩:=yF b ws [] [] fu hw (by omega) (by simpa using qa) (by simpa using qa)
 exact ⟨a,by simpa using sa,j⟩
end Go.Y
namespace Go.Y
open Go.bc Go.Dc
theorem Zv {n:Nat} (h:n<10):(UInt8.ofNat (48+n)).toNat=48+n:=by
 rw [UInt8.toNat_ofNat']
 omega
theorem kx:∀ (u:Nat),∀ c ∈ Lib.decDigits u,Xi c=true:=by
 intro u
 induction u using Nat.strongRecOn with
 | ind u b =>
  intro c a
  rw [Lib.decDigits] at a
  by_cases h:u<10
  ·rw [dif_pos h] at a
   rw [List.mem_singleton.1 a,Xi,Zv h]
   simp; omega
  ·rw [dif_neg h] at a
   rcases List.mem_append.1 a with a | a
   ·exact b (u / 10) (by omega) c a
   ·rw [List.mem_singleton.1 a,Xi,Zv (Nat.mod_lt _ (by decide))]
    have:=Nat.mod_lt u (show 10 > 0 by decide)
    simp; omega
theorem SE (M:Nat):∀ (u:Nat) (r:mb),u≤M→u≤999999999999999→Lib.parseUintM M 0 (Lib.decDigits u++r)=Lib.parseUintM M u r:=by
 intro u
 induction u using Nat.strongRecOn with
 | ind u a =>
  intro r b c
  rw [Lib.decDigits]
  by_cases h:u<10
  ·rw [dif_pos h,List.singleton_append,Lib.parseUintM,Zv h,if_pos (by omega),if_neg (by omega),if_neg (by omega)]
   congr 1
   omega
  ·have hm:=Nat.mod_lt u (show 10 > 0 by decide)
   rw [dif_neg h,List.append_assoc,a (u / 10) (by omega) _ (by omega) (by omega),List.singleton_append,Lib.parseUintM,Zv hm,if_pos (by omega),if_neg (by omega),if_neg (by omega)]
   congr 1
   omega
theorem pw (u:Nat):Lib.decDigits u≠[]:=by
 have a:=Lib.decDigits_length u
 have b:=Lib.nDigits_pos u
 intro h
 rw [h,List.length_nil] at a
 omega
theorem Xx:∀ (k u:Nat),u<10 ^ (k+1)→(Lib.decDigits u).length≤k+1:=by
 intro k
 induction k with
 | zero=>intro u h; rw [Lib.decDigits,dif_pos (by omega)]; simp
 | succ k a =>
  intro u h
  rw [Lib.decDigits]
  by_cases c:u<10
  ·rw [dif_pos c]; simp
  ·rw [dif_neg c,List.length_append,List.length_singleton]
   have:=a (u / 10) (by rw [Nat.pow_succ] at h; omega)
   omega
theorem Jx {N:Int} (h:0≤N):Lib.itoa N=Lib.decDigits N.toNat:=by rw [Lib.itoa,if_neg (by omega)]
theorem VA {u:Nat} (h:u≤999999999999999):Mo (Lib.decDigits u)=some (u:Int):=by
 have qa:=Xx 14 u (by omega)
 rw [Mo,if_pos (by omega)]
 have ya:=kx u
 have a:=SE (2 ^ 64 - 1) u [] (by omega) h
 rw [List.append_nil] at a
 cases e:Lib.decDigits u with
 | nil=>exact absurd e (pw u)
 | cons c r =>
  have b:=of_decide_eq_true (ya c (by rw [e]; exact List.mem_cons_self ..))
  rw [Lib.parseIntB_plain 64 c r (by omega) (by omega),← e,Lib.parseUintB,if_neg (pw u),a,Lib.parseUintM,Lib.signlessC,if_neg (by omega)]
theorem mI:ou:=by
 intro N b d
 rw [Jx b]
 have ya:=kx N.toNat
 constructor
 ·cases e:Lib.decDigits N.toNat with
  | nil=>exact absurd e (pw _)
  | cons c r =>
   have a:=ya c (by rw [e]; exact List.mem_cons_self ..)
   have f:=of_decide_eq_true a
   rw [kindOf,if_neg (fun h=>by have:=of_decide_eq_true h; omega),if_pos a]
 ·rw [VA (by omega)]
  congr 1
  omega
theorem WA {N:Int} (a:0≤N) (b:N≤999999999999999):Fk (Lib.itoa N):=by
 rw [Jx a]
 exact .inr (.inl ⟨pw _,kx _,Xx 14 _ (by omega),_,VA (by omega)⟩)
theorem sh.lex {w:mb} (h:sh w):Fk w:=by
 have f:=h.Cu
 have h:=h 7000 (by omega)
 cases w with
 | nil=>cases f
 | cons c u =>
  have g:isLet c=true:=by
   rw [kindOf] at f
   by_cases q:isLet c=true
   ·exact q
   ·rw [if_neg q] at f; split at f <;> cases f
  refine .inl ⟨c,u,rfl,g,fun x a=>?_⟩
  have Qe:∀ b,Yj 7000 (c::u) b=some true→b=false∧qm 7000 (c::u) hl=some ((c::u).length:Int):=by
   intro b d
   rw [Yj] at d
   by_cases q:b=true
   ·rw [if_pos q] at d; cases d
   ·rw [if_neg q] at d
    cases e:qm 7000 (c::u) hl with
    | none=>rw [e,fh] at d; cases d
    | some r =>
     rw [e,ca] at d
     have:=of_decide_eq_true (Option.some.inj d)
     rw [this]
     exact ⟨by simpa using q,rfl⟩
  have hw:qm 7000 (c::u) hl=some ((c::u).length:Int):=by
   rw [tg] at h
   split at h
   ·exact (Qe _ h).2
   ·split at h
    ·exact (Qe _ h).2
    ·rw [yg (by simp),ca] at h
     change Option.bind (uk c) _=_ at h
     rw [Ov,ca,if_pos g] at h
     cases sa:cat [32] (c::u) with
     | none=>rw [sa,fh] at h; cases h
     | some s1 =>
      rw [sa,ca] at h
      cases k:cat s1 [32] with
      | none=>rw [k,fh] at h; cases h
      | some s2 =>
       rw [k,ca] at h
       cases l:Ds zy s2 with
       | none=>rw [l,fh] at h; cases h
       | some b=>rw [l,ca] at h; exact (Qe _ h).2
  have n:∀ c,hl c=some (isLet c || Xi c):=fun c=>by
   rw [hl,Ov,ca]
   cases h:isLet c with
   | true=>rfl
   | false=>rw [if_neg (by decide),Tt,ca,Bool.false_or]
  have L:∀ (m i:Nat),i≤(c::u).length→Ej (c::u) hl m (i:Int)=some ((c::u).length:Int)→∀ x ∈ (c::u).drop i,isLet x=true∨Xi x=true:=by
   intro m
   induction m with
   | zero=>intro i o h; cases h
   | succ m p =>
    intro i o h x a
    rw [Ej] at h
    by_cases q:i<(c::u).length
    ·rw [if_pos (by omega),Rd,List.getElem?_eq_getElem q,ca,n,ca,Zl] at h
     rw [List.drop_eq_getElem_cons q] at a
     by_cases z:(isLet (c::u)[i] || Xi (c::u)[i])=true
     ·rw [if_pos z] at h
      cases e:i64 ((i:Int)+1) with
      | none=>rw [e,fh] at h; cases h
      | some j =>
       rw [e,ca] at h
       have s:j=((i+1:Nat):Int):=by
        rw [i64] at e
        split at e
        ·exact (Option.some.inj e).symm
        ·cases e
       rw [s] at h
       rcases List.mem_cons.1 a with rfl | a
       ·simpa using z
       ·exact p (i+1) q h x a
     ·rw [if_neg z] at h
      have:=Option.some.inj h
      omega
    ·rw [List.drop_eq_nil_of_le (by omega)] at a
     cases a
  have:=L 7000 0 (by simp) hw
  rw [List.drop_zero] at this
  exact this x (List.mem_cons_of_mem _ a)
theorem ji {w:mb} (h:(match w with | []=>false | c::u=>isLet c && u.all fun x=>isLet x || Xi x)=true):Fk w:=by
 cases w with
 | nil=>cases h
 | cons c u =>
  have h:(isLet c && u.all fun x=>isLet x || Xi x)=true:=h
  rw [Bool.and_eq_true,List.all_eq_true] at h
  exact .inl ⟨c,u,rfl,h.1,fun x a=>by simpa using h.2 x a⟩
theorem Ii {w:mb} (h:w ∈ Dj):Fk w:=.inr (.inr h)
def Sh (ws:List mb):Prop:=∀ w ∈ ws,Fk w
theorem Sh.nil:Sh []:=fun _ h=>by cases h
theorem Sh.cons {w:mb} {ws:List mb} (h:Fk w) (g:Sh ws):Sh (w::ws):=fun x a=>by
 rcases List.mem_cons.1 a with rfl | a
 ·exact h
 ·exact g x a
theorem Sh.app {u v:List mb} (h:Sh u) (g:Sh v):Sh (u++v):=fun x a=>(List.mem_append.1 a).elim (h x) (g x)
theorem Sh.flat {α:Type} {f:α→List mb} {l:List α} (h:∀ y ∈ l,Sh (f y)):Sh (l.map f).flatten:=fun w hw=>by
 obtain ⟨a,b,c⟩:=Ht hw
 exact h a b w c
theorem rB {k:Int} (h:4≤k∧k≤18):Fk (ch k):=by
 have:k=4∨k=5∨k=6∨k=7∨k=8∨k=9∨k=10∨k=11∨k=12∨k=13∨k=14∨k=15∨k=16∨k=17∨k=18:=by omega
 rcases this with rfl | rfl | rfl | rfl | rfl | rfl | rfl | rfl | rfl | rfl | rfl | rfl | rfl | rfl | rfl <;> first | exact Ii (by decide) | exact ji (by decide)
theorem nH {f:ua→List mb} {l:List ua} (h:∀ y ∈ l,Sh (f y)):Sh (Ch f l):=by
 cases l with
 | nil=>exact .cons (Ii (by decide)) (.cons (Ii (by decide)) .nil)
 | cons x l =>
  refine .cons (Ii (by decide)) (.app (h x (List.mem_cons_self ..)) (.app (.flat fun y a=>.cons (Ii (by decide)) (h y (List.mem_cons_of_mem _ a))) (.cons (Ii (by decide)) .nil)))
theorem UB:∀ (k j:Nat) (x:ua),Hp k x→Sh (pd k j x)
 | 0,j,x,h=>by cases h
 | k+1,j,x,h=>by
  obtain ⟨k1,q,r,o,s,g,p⟩:=h
  have i:=fun n y m=>UB k n y (p y m)
  have core:Sh (gh (pd k) x):=by
   rw [gh]
   split
   ·rename_i c
    obtain ⟨a,b⟩:=o c
    exact .cons (WA a b) .nil
   ·split
    ·refine .cons ?_ .nil
     split <;> exact ji (by decide)
    ·split
     ·rename_i c
      exact .cons (g (.inl c)).lex .nil
     ·split
      ·rename_i c
       refine .cons (rB (by omega)) ?_
       split
       ·rename_i a _ e
        exact i 6 a (by rw [e]; exact List.mem_cons_self ..)
       ·exact .nil
      ·split
       ·split
        ·rename_i a b _ e
         exact .app (i _ a (by rw [e]; exact List.mem_cons_self ..)) (.cons (rB (by omega)) (i _ b (by rw [e]; exact List.mem_cons_of_mem _ (List.mem_cons_self ..))))
        ·exact .nil
       ·have d:=nH (f:=pd k 1) (l:=x.Kids) fun y m=>i 1 y m
        split
        ·rename_i c
         exact .cons (g (by simp [c])).lex d
        ·split
         ·rename_i c
          exact .cons (ji (by decide)) (.cons (Ii (by decide)) (.cons (g (by simp [c])).lex (.cons (Ii (by decide)) .nil)))
         ·split
          ·exact .cons (ji (by decide)) d
          ·split
           ·rename_i c
            exact .cons (ji (by decide)) (.cons (g (by simp [c])).lex d)
           ·split
            ·exact .cons (ji (by decide)) d
            ·exact .cons (ji (by decide)) d
  rw [pd]
  split
  ·exact .cons (Ii (by decide)) (.app core (.cons (Ii (by decide)) .nil))
  ·exact core
theorem Gv {f:Wa→List mb} {l:List Wa} (h:∀ y ∈ l,Sh (f y)):Sh (wg f l):=.cons (Ii (by decide)) (.app (.flat h) (.cons (Ii (by decide)) .nil))
theorem qw:∀ (k:Nat) (s:Wa),Kk k s→Sh (sf k s)
 | 0,s,h=>by cases h
 | k+1,s,h=>by
  obtain ⟨k1,g,e,b,d,f⟩:=h
  have X:s.Kind≠6→Sh (pd k 1 s.X):=fun h=>UB k 1 s.X (e h)
  have mg:Sh [[59]]:=.cons (Ii (by decide)) .nil
  rw [sf]
  split
  ·rename_i c
   refine .cons (ji (by decide)) (.app (X (by omega)) (.app (Gv fun y a=>qw k y ((d (.inl c)).2 y a)) ?_))
   split
   ·exact .nil
   ·exact .cons (ji (by decide)) (Gv fun y a=>qw k y ((f c).2 y a))
  ·split
   ·rename_i c
    exact .cons (ji (by decide)) (.app (X (by omega)) (Gv fun y a=>qw k y ((d (.inr c)).2 y a)))
   ·split
    ·rename_i c
     exact .cons (ji (by decide)) (.cons (b (by omega)).lex (.cons (Ii (by decide)) (.app (X (by omega)) mg)))
    ·split
     ·rename_i c
      exact .cons (b (by omega)).lex (.cons (Ii (by decide)) (.app (X (by omega)) mg))
     ·split
      ·rename_i c
       exact .cons (ji (by decide)) (.cons (b (by omega)).lex (.app (X (by omega)) mg))
      ·split
       ·exact .cons (ji (by decide)) mg
       ·rename_i Tc
        refine .cons ?_ (.app (X Tc) mg)
        split
        ·exact ji (by decide)
        ·split <;> exact ji (by decide)
theorem hs {t:Ya} (h:Lk t):Fk (Eg t):=by
 obtain ⟨⟨b,c⟩,a⟩:=h
 rw [Eg]
 split
 ·exact ji (by decide)
 ·split
  ·exact ji (by decide)
  ·exact (a (by omega)).lex
theorem sB {l:List TParam} (h:∀ q ∈ l,sh q.Name∧Lk q.zb):Sh (Fm l):=by
 cases l with
 | nil=>exact .cons (Ii (by decide)) (.cons (Ii (by decide)) .nil)
 | cons q l =>
  obtain ⟨a,b⟩:=h q (List.mem_cons_self ..)
  refine .cons (Ii (by decide)) (.cons a.lex (.cons (hs b) (.app (.flat fun y c=>?_) (.cons (Ii (by decide)) .nil))))
  obtain ⟨a,b⟩:=h y (List.mem_cons_of_mem _ c)
  exact .cons (Ii (by decide)) (.cons a.lex (.cons (hs b) .nil))
theorem oH {x:va} (h:sl x):Sh (fj x):=by
 have Rf:x.Kind≠1→Sh (wg (sf 39) x.Body):=fun k=>Gv fun y d=>qw 39 y ((h.Rf k).2 y d)
 have k1:=h.k1
 have Af:=h.Af
 rw [fj]
 split
 ·rename_i c
  obtain ⟨a,b⟩:=h.Nh c
  exact .cons (ji (by decide)) (.cons h.Fg.lex (.cons (hs (h.ty (by omega))) (.cons (WA (by omega) (by omega)) (.cons (Ii (by decide)) .nil))))
 ·split
  ·exact .cons (ji (by decide)) (.cons h.Fg.lex (Rf (by omega)))
  ·split
   ·rename_i c
    exact .cons (ji (by decide)) (.cons h.Fg.lex (.app (sB (h.cg (.inl c)).2) (.cons (hs (h.ty (by omega))) (Rf (by omega)))))
   ·have c3:x.Kind=3:=by omega
    exact .cons (ji (by decide)) (.cons h.Fg.lex (.app (sB (h.cg (.inr c3)).2) (.cons (ji (by decide)) (.cons (hs (h.Mh c3)) (.cons (ji (by decide)) (.cons (hs (h.ty (by omega))) (Rf (by omega))))))))
theorem pH {fu:Nat} (c:8000≤fu) {l:List va} (qa:l.length≤30) (a:∀ x ∈ l,sl x) (d:(Dh (Vj l)).length≤6000) {W:Vc} (f:Fj fu (l.map (jf 39))=some W) (g:W.Ue=0):dq fu (Dh (Vj l))=some (l.map (jf 39),⟨0,0⟩):=by
 obtain ⟨b,sa,h⟩:=lI (fu:=fu) (by omega) (Vj l) (Sh.flat fun x i=>oH (a x i)) d
 rw [dq,sa,ca,if_neg (by simp)]
 have:=QE mI c (b,⟨0,0⟩) (e:=((Dh (Vj l)).length:Int)) W g l [] fu b a (by omega) (by simpa using qa) h (by simpa using f)
 rw [this]
 simp
end Go.Y
namespace Go.Y
open Go.bc Go.Dc
theorem mf {α β:Type} {o:Option α} {f:α→Option β} {r:β} (h:Option.bind o f=some r):∃ x,o=some x∧f x=some r:=ha h
theorem cE {w:mb} {p:UInt8→Option Bool}:∀ (m a:Nat) (i r:Int),m≤a→Ej w p m i=some r→Ej w p a i=some r:=by
 intro m
 induction m with
 | zero=>intro a i r h g; cases g
 | succ m d =>
  intro a i r h g
  obtain ⟨a,rfl⟩:∃ q,a=q+1:=⟨a - 1,by omega⟩
  rw [Ej] at g ⊢
  have Qe:∀ b,Zl i (Ej w p m) b=some r→Zl i (Ej w p a) b=some r:=by
   intro b g
   rw [Zl] at g ⊢
   split
   ·rename_i c
    rw [if_pos c] at g
    obtain ⟨x,e,g⟩:=mf g
    rw [e,ca]
    exact d a x r (by omega) g
   ·rename_i c
    rw [if_neg c] at g
    exact g
  split
  ·rename_i c
   rw [if_pos c] at g
   obtain ⟨x,e,g⟩:=mf g
   obtain ⟨y,f,g⟩:=mf g
   rw [e,ca,f,ca]
   exact Qe y g
  ·rename_i c
   rw [if_neg c] at g
   exact Qe _ g
theorem Qz {fu a:Nat} (h:fu≤a) {w:mb} {b:Bool} (g:tg fu w=some b):tg a w=some b:=by
 have Qe:∀ c,Yj fu w c=some b→Yj a w c=some b:=by
  intro c g
  rw [Yj] at g ⊢
  split
  ·rename_i q; rw [if_pos q] at g; exact g
  ·rename_i q
   rw [if_neg q] at g
   obtain ⟨x,e,g⟩:=mf g
   have:qm a w hl=some x:=cE fu a 0 x h e
   rw [this,ca]
   exact g
 rw [tg] at g ⊢
 split
 ·rename_i q; rw [if_pos q] at g; exact Qe _ g
 ·rename_i q
  rw [if_neg q] at g
  split
  ·rename_i q; rw [if_pos q] at g; exact Qe _ g
  ·rename_i q
   rw [if_neg q] at g
   obtain ⟨x,e,g⟩:=mf g
   obtain ⟨y,d,g⟩:=mf g
   rw [e,ca,d,ca]
   split
   ·rename_i q
    rw [if_pos q] at g
    obtain ⟨s1,sa,g⟩:=mf g
    obtain ⟨s2,f,g⟩:=mf g
    obtain ⟨nb,i,g⟩:=mf g
    rw [sa,ca,f,ca,i,ca]
    exact Qe _ g
   ·rename_i q
    rw [if_neg q] at g
    exact Qe _ g
theorem Bs {fu:Nat} (d:20≤fu) {w:mb} (h:tg fu w=some true):sh w:=by
 intro f e
 obtain ⟨b,a⟩:=rr 20 (Nat.le_refl _) w
 have c:=Qz d a
 rw [h] at c
 obtain rfl:=Option.some.inj c
 exact Qz e a
section
variable {fu:Nat} {self:vm} {x:ua} {d node k:Int}
theorem xD:∀ (m i:Nat) (c:Int),x.Kids.length≤6→Vi self x d m i c=some (0,k)→∀ j (b:j<x.Kids.length),i≤j→∃ tc a e,self.Vg tc x.Kids[j] a=some (0,e):=by
 intro m
 induction m with
 | zero=>intro i c _ h; cases h
 | succ m f =>
  intro i c qa h j b p
  rw [Vi,if_pos (by omega),Rd,List.getElem?_eq_getElem (show i<x.Kids.length by omega),ca] at h
  obtain ⟨a,sa,h⟩:=mf h
  obtain ⟨r,g,h⟩:=mf h
  by_cases z:r.1≠0
  ·rw [if_pos z] at h
   exact absurd (congrArg (fun o:Option (Int×Int)=>o.map (·.1)) h) (by simpa using z)
  ·rw [if_neg z,Cc (by omega),ca] at h
   by_cases q:j=i
   ·subst q
    obtain ⟨l,n⟩:=r
    obtain rfl:l=0:=Decidable.not_not.1 z
    exact ⟨c,a,n,g⟩
   ·exact f (i+1) r.2 qa h j b (by omega)
theorem rz {a:Int×Int} {b:Bool} (h:Al self x d a b=some (0,k)):∃ m c,Vi self x d m (0:Nat) c=some (0,k):=by
 rw [Al] at h
 split at h
 ·cases h
 ·exact ⟨_,_,h⟩
theorem yD {a:Int×Int} {r:Int} {b:Bool} (h:Bl self x d a r b=some (0,k)):∃ m c,Vi self x d m (0:Nat) c=some (0,k):=by
 rw [Bl] at h
 split at h
 ·exact rz h
 ·split at h <;> exact rz h
theorem tz {a:Int×Int} {r:Int} {b:Bool} (h:sk self x d a r b=some (0,k)):b=false∧∃ m c,Vi self x d m (0:Nat) c=some (0,k):=by
 rw [sk] at h
 split at h
 ·cases h
 ·rename_i q
  refine ⟨by simpa using q,?_⟩
  split at h <;> exact yD h
theorem ov {f:Int×Int} {r:Int} {b:Bool} (h:Qk fu self x d f r b=some (0,k)):b=false∧(x.Kind=3∨x.Kind=20∨r<0→tg fu x.Name=some true)∧∃ m c,Vi self x d m (0:Nat) c=some (0,k):=by
 rw [Qk] at h
 split at h
 ·cases h
 ·rename_i q
  refine ⟨by simpa using q,?_⟩
  have Qe:(Option.bind (tg fu x.Name) fun i=>sk self x d f r (!i))=some (0,k)→(x.Kind=3∨x.Kind=20∨r<0→tg fu x.Name=some true)∧∃ m c,Vi self x d m (0:Nat) c=some (0,k):=by
   intro h
   obtain ⟨re,e,h⟩:=mf h
   obtain ⟨j,a⟩:=tz h
   cases re with
   | true=>exact ⟨fun _=>e,a⟩
   | false=>cases j
  split at h
  ·exact Qe h
  ·split at h
   ·exact Qe h
   ·split at h
    ·exact Qe h
    ·obtain ⟨-,a⟩:=tz h
     exact ⟨fun g=>by omega,a⟩
theorem zF (h:Vg fu self node x d=some (0,k)):(x.Kind=1→0≤x.N∧x.N≤999999999999999)∧(x.Kind=2→x.N=0∨x.N=1)∧(x.Kind=3∨x.Kind=20∨jg x.Kind<0→tg fu x.Name=some true)∧∃ m c,Vi self x d m (0:Nat) c=some (0,k):=by
 rw [Vg] at h
 obtain ⟨i,-,h⟩:=mf h
 split at h
 ·rename_i z
  exact absurd (congrArg (fun o:Option (Int×Int)=>o.map (·.1)) h) (by simpa using z)
 ·have f:∀ b,Cl fu self x d i (jg x.Kind) b=some (0,k)→b=false∧(x.Kind=2→x.N=0∨x.N=1)∧(x.Kind=3∨x.Kind=20∨jg x.Kind<0→tg fu x.Name=some true)∧∃ m c,Vi self x d m (0:Nat) c=some (0,k):=by
   intro b h
   rw [Cl] at h
   split at h
   ·rename_i q
    obtain ⟨a,-⟩:=ov h
    rw [q] at a; cases a
   ·rename_i q
    refine ⟨by simpa using q,?_⟩
    split at h
    ·split at h
     ·obtain ⟨a,e⟩:=ov h
      exact ⟨fun _=>.inr (by simpa using a),e⟩
     ·rename_i z
      obtain ⟨a,e⟩:=ov h
      exact ⟨fun _=>.inl (Decidable.not_not.1 z),e⟩
    ·rename_i z
     obtain ⟨a,e⟩:=ov h
     exact ⟨fun g=>absurd g z,e⟩
  have j:∀ b,Zj fu self x d i b=some (0,k)→(x.Kind=1→0≤x.N∧x.N≤999999999999999)∧(x.Kind=2→x.N=0∨x.N=1)∧(x.Kind=3∨x.Kind=20∨jg x.Kind<0→tg fu x.Name=some true)∧∃ m c,Vi self x d m (0:Nat) c=some (0,k):=by
   intro b h
   rw [Zj] at h
   split at h
   ·cases h
   ·rw [ix,ca] at h
    split at h
    ·split at h
     ·obtain ⟨a,-⟩:=f _ h; cases a
     ·rename_i z
      obtain ⟨a,e⟩:=f _ h
      have:=of_decide_eq_false a
      exact ⟨fun _=>⟨by omega,by omega⟩,e⟩
    ·rename_i z
     obtain ⟨-,e⟩:=f _ h
     exact ⟨fun g=>absurd g z,e⟩
  split at h <;> exact j _ h
end
theorem tB:∀ (j n:Nat) (x:ua) (node d k:Int),30+j≤n→bh j x→(Nf n).Vg node x d=some (0,k)→Hp j x
 | 0,n,x,node,d,k,f,h,g=>h.elim
 | j+1,n,x,node,d,k,f,h,g=>by
  obtain ⟨k1,l,a,o⟩:=h
  obtain ⟨n,rfl⟩:∃ q,n=q+1:=⟨n - 1,by omega⟩
  obtain ⟨p,r,s,m,c,t⟩:=zF (show Vg n (Nf n) node x d=some (0,k) from g)
  refine ⟨k1,l,a,p,r,fun q=>Bs (by omega) (s ?_),fun y b=>?_⟩
  ·rcases q with q | q | q | q
   ·exact .inl q
   ·exact .inr (.inl q)
   ·rw [q]; exact .inr (.inr (by decide))
   ·rw [q]; exact .inr (.inr (by decide))
  ·obtain ⟨i,u,rfl⟩:=List.getElem_of_mem b
   obtain ⟨tc,v,w,e⟩:=xD m 0 c a.le t i u (Nat.zero_le _)
   exact tB j n _ tc v w (by omega) (o _ b) e
section
variable {fu:Nat} {self:wm} {x:Wa} {d node k:Int}
theorem bD {l:List Wa}:∀ (m i:Nat) (c:Int),l.length≤50→Xl self l d m i c=some (0,k)→∀ j (a:j<l.length),i≤j→∃ tc b,self.Wh tc l[j] d=some (0,b):=by
 intro m
 induction m with
 | zero=>intro i c _ h; cases h
 | succ m e =>
  intro i c qa h j a p
  rw [Xl,if_pos (by omega),Rd,List.getElem?_eq_getElem (show i<l.length by omega),ca] at h
  obtain ⟨r,f,h⟩:=mf h
  by_cases z:r.1≠0
  ·rw [if_pos z] at h
   exact absurd (congrArg (fun o:Option (Int×Int)=>o.map (·.1)) h) (by simpa using z)
  ·rw [if_neg z,Cc (by omega),ca] at h
   by_cases q:j=i
   ·subst q
    obtain ⟨g,n⟩:=r
    obtain rfl:g=0:=Decidable.not_not.1 z
    exact ⟨c,n,f⟩
   ·exact e (i+1) r.2 qa h j a (by omega)
theorem mA {l:List Wa} (qa:l.length≤50) (h:Xf self node l d=some (0,k)):∀ y ∈ l,∃ tc a,self.Wh tc y d=some (0,a):=by
 intro y b
 obtain ⟨j,c,rfl⟩:=List.getElem_of_mem b
 rw [Xf] at h
 split at h
 ·cases h
 ·exact bD _ 0 _ qa h j c (Nat.zero_le _)
theorem uz {c:Int} (h:cm self x d c=some (0,k)):x.Kind=3→∃ tc b f,self.Xf tc x.jd b=some (0,f):=by
 intro g
 rw [cm,if_pos g] at h
 obtain ⟨b,-,h⟩:=mf h
 obtain ⟨r,e,h⟩:=mf h
 obtain ⟨i,j⟩:=r
 obtain ⟨a,-⟩:=Prod.mk.inj (Option.some.inj h)
 have a:i=0:=a
 subst a
 exact ⟨_,_,_,e⟩
theorem vz {f:Int×Int} {b:Bool} (h:dm self x d f b=some (0,k)):(b=true→∃ tc a c,self.Xf tc x.Body a=some (0,c))∧(x.Kind=3→∃ tc a c,self.Xf tc x.jd a=some (0,c)):=by
 rw [dm] at h
 split at h
 ·obtain ⟨a,-,h⟩:=mf h
  obtain ⟨r,e,h⟩:=mf h
  split at h
  ·rename_i z
   exact absurd (congrArg (fun o:Option (Int×Int)=>o.map (·.1)) h) (by simpa using z)
  ·rename_i z
   obtain ⟨i,j⟩:=r
   obtain rfl:i=0:=Decidable.not_not.1 z
   exact ⟨fun _=>⟨_,_,_,e⟩,uz h⟩
 ·rename_i q
  exact ⟨fun g=>absurd g q,uz h⟩
theorem AF (h:Wh fu self node x d=some (0,k)):(x.Kind=1∨x.Kind=2∨x.Kind=7→tg fu x.Name=some true)∧(x.Kind≠6→(∃ tc a c,(Nf fu).Vg tc x.X a=some (0,c))∧(x.Kind=3∨x.Kind=4→∃ tc a c,self.Xf tc x.Body a=some (0,c))∧(x.Kind=3→∃ tc a c,self.Xf tc x.jd a=some (0,c))):=by
 rw [Wh] at h
 obtain ⟨j,-,h⟩:=mf h
 split at h
 ·rename_i z
  exact absurd (congrArg (fun o:Option (Int×Int)=>o.map (·.1)) h) (by simpa using z)
 ·have l:∀ b,tk fu self x d j b=some (0,k)→b=false∧(x.Kind≠6→(∃ tc a c,(Nf fu).Vg tc x.X a=some (0,c))∧(x.Kind=3∨x.Kind=4→∃ tc a c,self.Xf tc x.Body a=some (0,c))∧(x.Kind=3→∃ tc a c,self.Xf tc x.jd a=some (0,c))):=by
   intro b h
   rw [tk] at h
   split at h
   ·cases h
   ·rename_i q
    refine ⟨by simpa using q,fun m=>?_⟩
    rw [if_neg m] at h
    obtain ⟨a,-,h⟩:=mf h
    obtain ⟨r,e,h⟩:=mf h
    split at h
    ·rename_i z
     exact absurd (congrArg (fun o:Option (Int×Int)=>o.map (·.1)) h) (by simpa using z)
    ·rename_i z
     obtain ⟨n,u⟩:=r
     obtain rfl:n=0:=Decidable.not_not.1 z
     refine ⟨⟨_,_,_,e⟩,?_⟩
     split at h
     ·rename_i p
      obtain ⟨f,i⟩:=vz h
      exact ⟨fun _=>f rfl,i⟩
     ·rename_i p
      obtain ⟨f,i⟩:=vz h
      exact ⟨fun g=>f (decide_eq_true (by omega)),i⟩
  have s:∀ b,Rk fu self x d j b=some (0,k)→(x.Kind=1∨x.Kind=2∨x.Kind=7→tg fu x.Name=some true)∧(x.Kind≠6→(∃ tc a c,(Nf fu).Vg tc x.X a=some (0,c))∧(x.Kind=3∨x.Kind=4→∃ tc a c,self.Xf tc x.Body a=some (0,c))∧(x.Kind=3→∃ tc a c,self.Xf tc x.jd a=some (0,c))):=by
   intro b h
   rw [Rk] at h
   have N:(Option.bind (tg fu x.Name) fun t=>tk fu self x d j (!t))=some (0,k)→(x.Kind=1∨x.Kind=2∨x.Kind=7→tg fu x.Name=some true)∧(x.Kind≠6→(∃ tc a c,(Nf fu).Vg tc x.X a=some (0,c))∧(x.Kind=3∨x.Kind=4→∃ tc a c,self.Xf tc x.Body a=some (0,c))∧(x.Kind=3→∃ tc a c,self.Xf tc x.jd a=some (0,c))):=by
    intro h
    obtain ⟨re,e,h⟩:=mf h
    obtain ⟨f,i⟩:=l _ h
    cases re with
    | true=>exact ⟨fun _=>e,i⟩
    | false=>cases f
   split at h
   ·cases h
   ·split at h
    ·exact N h
    ·split at h
     ·exact N h
     ·split at h
      ·exact N h
      ·exact ⟨fun g=>by omega,(l _ h).2⟩
  split at h <;> exact s _ h
end
theorem uB:∀ (j n:Nat) (x:Wa) (node d k:Int),60+3*j≤n→Bj j x→(Of n).Wh node x d=some (0,k)→Kk j x
 | 0,n,x,node,d,k,r,h,g=>h.elim
 | j+1,n,x,node,d,k,r,h,g=>by
  obtain ⟨k1,s,t,u,v⟩:=h
  obtain ⟨n,rfl⟩:∃ q,n=q+2:=⟨n - 2,by omega⟩
  obtain ⟨w,i⟩:=AF (show Wh (n+1) (Of (n+1)) node x d=some (0,k) from g)
  have L:∀ (l:List Wa) (tc c f:Int),l.length≤50→(∀ y ∈ l,Bj j y)→(Of (n+1)).Xf tc l c=some (0,f)→∀ y ∈ l,Kk j y:=by
   intro l tc c f qa z A y o
   obtain ⟨c2,B,e⟩:=mA qa (show Xf (Of n) tc l c=some (0,f) from A) y o
   exact uB j n y c2 c B (by omega) (z y o) e
  refine ⟨k1,s,fun p=>?_,fun q=>Bs (by omega) (w q),fun q=>?_,fun q=>?_⟩
  ·obtain ⟨⟨tc,c,f,e⟩,-⟩:=i p
   exact tB j (n+1) x.X tc c f (by omega) (t p) e
  ·obtain ⟨a,b⟩:=u q
   obtain ⟨-,m,-⟩:=i (by omega)
   obtain ⟨tc,c,f,e⟩:=m q
   exact ⟨a,L x.Body tc c f a b e⟩
  ·obtain ⟨a,b⟩:=v q
   obtain ⟨-,-,m⟩:=i (by omega)
   obtain ⟨tc,c,f,e⟩:=m q
   exact ⟨a,L x.jd tc c f a b e⟩
theorem Yx {fu:Nat} (a:20≤fu) {t:Ya} (h:Yk fu t=some 0):Lk t:=by
 obtain ⟨e,c,d⟩:=Dv fu a t
 rw [h] at c
 obtain rfl:=Option.some.inj c
 refine ⟨d rfl,fun f=>?_⟩
 rw [Yk] at h
 have Qe:∀ b,Im fu t b=some 0→sh t.Nb:=by
  intro b h
  rw [Im] at h
  split at h
  ·cases h
  ·obtain ⟨re,e,h⟩:=mf (by simpa only [if_pos f] using h)
   cases re with
   | true=>exact Bs a e
   | false=>cases h
 split at h <;> exact Qe _ h
section
variable {fu:Nat} {x:va} {Ke:Int×Int} {k node:Int}
theorem Sz (h:im fu x Ke=some (0,k)):(x.Kind=1→1≤x.oe∧x.oe≤20)∧(x.Kind≠1→∃ tc c,(Of fu).Xf tc x.Body 2=some (0,c)):=by
 rw [im] at h
 split at h
 ·rename_i q
  obtain ⟨r,e,h⟩:=mf h
  obtain ⟨d,f⟩:=r
  obtain ⟨a,-⟩:=Prod.mk.inj (Option.some.inj h)
  have a:d=0:=a
  subst a
  exact ⟨fun g=>absurd g q,fun _=>⟨_,_,e⟩⟩
 ·rename_i q
  have Qe:∀ b,tr Ke b=some (0,k)→b=false:=by
   intro b h
   cases b with
   | false=>rfl
   | true=>cases h
  split at h
  ·cases Qe _ h
  ·have:=of_decide_eq_false (Qe _ h)
   exact ⟨fun _=>⟨by omega,by omega⟩,fun g=>absurd g q⟩
theorem Tz (a:20≤fu) (h:jm fu x Ke=some (0,k)):(x.Kind≠4→Lk x.zb)∧(x.Kind=1→1≤x.oe∧x.oe≤20)∧(x.Kind≠1→∃ tc b,(Of fu).Xf tc x.Body 2=some (0,b)):=by
 rw [jm] at h
 split at h
 ·obtain ⟨r,e,h⟩:=mf h
  split at h
  ·rename_i z
   exact absurd (congrArg (fun o:Option (Int×Int)=>o.map (·.1)) h) (by simpa using z)
  ·rename_i z
   obtain rfl:r=0:=Decidable.not_not.1 z
   exact ⟨fun _=>Yx a e,Sz h⟩
 ·rename_i q
  exact ⟨fun g=>absurd g q,Sz h⟩
theorem dE (a:20≤fu) (h:Sk fu x Ke=some (0,k)):(x.Kind=3→Lk x.Hc)∧(x.Kind≠4→Lk x.zb)∧(x.Kind=1→1≤x.oe∧x.oe≤20)∧(x.Kind≠1→∃ tc b,(Of fu).Xf tc x.Body 2=some (0,b)):=by
 rw [Sk] at h
 split at h
 ·obtain ⟨r,e,h⟩:=mf h
  split at h
  ·rename_i z
   exact absurd (congrArg (fun o:Option (Int×Int)=>o.map (·.1)) h) (by simpa using z)
  ·rename_i z
   obtain rfl:r=0:=Decidable.not_not.1 z
   exact ⟨fun _=>Yx a e,Tz a h⟩
 ·rename_i q
  exact ⟨fun g=>absurd g q,Tz a h⟩
theorem eE (c:20≤fu) (qa:x.Params.length≤6):∀ (m i:Nat),i≤x.Params.length→km fu x Ke m i=some (0,k)→(∀ j (a:j<x.Params.length),i≤j→sh x.Params[j].Name∧Lk x.Params[j].zb)∧Sk fu x Ke=some (0,k):=by
 intro m
 induction m with
 | zero=>intro i _ h; cases h
 | succ m d =>
  intro i p h
  rw [km] at h
  by_cases q:i<x.Params.length
  ·rw [if_pos (by omega),Rd,List.getElem?_eq_getElem q,ca] at h
   obtain ⟨b,sa,h⟩:=mf h
   cases b with
   | false=>cases h
   | true =>
    rw [if_pos rfl] at h
    obtain ⟨r,f,h⟩:=mf h
    by_cases z:r≠0
    ·rw [if_pos z] at h
     exact absurd (congrArg (fun o:Option (Int×Int)=>o.map (·.1)) h) (by simpa using z)
    ·rw [if_neg z,Cc (by omega),ca] at h
     obtain rfl:r=0:=Decidable.not_not.1 z
     obtain ⟨g,l⟩:=d (i+1) q h
     refine ⟨fun j a n=>?_,l⟩
     by_cases e:j=i
     ·subst e; exact ⟨Bs c sa,Yx c f⟩
     ·exact g j a (by omega)
  ·rw [if_neg (by omega)] at h
   exact ⟨fun j a n=>by omega,h⟩
theorem qH (C:300≤fu) (ok:Tl x) (h:xm fu node x=some (0,k)):sl x:=by
 rw [xm] at h
 obtain ⟨f,-,h⟩:=mf h
 split at h
 ·rename_i z
  exact absurd (congrArg (fun o:Option (Int×Int)=>o.map (·.1)) h) (by simpa using z)
 ·have fin:sh x.Name→(x.Kind=2∨x.Kind=3→x.Params.length≤6∧∀ q ∈ x.Params,sh q.Name∧Lk q.zb)→Sk fu x f=some (0,k)→sl x:=by
   intro d m h
   obtain ⟨a,b,c,e⟩:=dE (by omega) h
   refine ⟨ok.k1,ok.Af,d,m,a,b,c,fun k1=>⟨ok.Kd k1,fun y i=>?_⟩⟩
   obtain ⟨tc,p,r⟩:=e k1
   obtain ⟨n,rfl⟩:∃ q,fu=q+1:=⟨fu - 1,by omega⟩
   obtain ⟨c2,s,t⟩:=mA (ok.Kd k1) (show Xf (Of n) tc x.Body 2=some (0,p) from r) y i
   exact uB 39 n y c2 2 s (by omega) (ok.Rf k1 y i) t
  have l:∀ b,(b=true ↔ x.Kind=2∨x.Kind=3)→sh x.Name→mm fu x f b=some (0,k)→sl x:=by
   intro b g d h
   rw [mm] at h
   split at h
   ·rename_i q
    split at h
    ·cases h
    ·rename_i z
     obtain ⟨u,v⟩:=eE (by omega) (by omega) _ 0 (Nat.zero_le _) h
     exact fin d (fun _=>⟨by omega,fun q w=>by
      obtain ⟨j,A,rfl⟩:=List.getElem_of_mem w
      exact u j A (Nat.zero_le _)⟩) v
   ·rename_i q
    exact fin d (fun z=>absurd (g.2 z) q) h
  have B:∀ b,Tk fu x f b=some (0,k)→sl x:=by
   intro b h
   rw [Tk] at h
   split at h
   ·cases h
   ·obtain ⟨re,e,h⟩:=mf h
    cases re with
    | false=>cases h
    | true =>
     rw [if_pos rfl] at h
     split at h
     ·rename_i q; exact l _ (by simp [q]) (Bs (by omega) e) h
     ·rename_i q; exact l _ (by simp [q]) (Bs (by omega) e) h
  split at h <;> exact B _ h
end
theorem VB {fu:Nat} (g:300≤fu) {l:List va} {f:Vc} (h:Fj fu l=some f) (b:f.Ue=0):l.length≤30∧∀ x ∈ l,sl x:=by
 obtain ⟨s,d,k⟩:=kt fu (by omega) l
 rw [h] at d
 obtain rfl:=Option.some.inj d
 obtain ⟨-,ok⟩:=k b
 have qa:=ok.le
 refine ⟨qa,?_⟩
 rw [Fj,if_neg (by omega)] at h
 have L:∀ (m i:Nat) (c:Int),Yl fu l m i c=some f→∀ j (a:j<l.length),i≤j→sl l[j]:=by
  intro m
  induction m with
  | zero=>intro i c h; cases h
  | succ m n =>
   intro i c h j a t
   rw [Yl,if_pos (by omega),Rd,List.getElem?_eq_getElem (show i<l.length by omega),ca] at h
   obtain ⟨r,e,h⟩:=mf h
   by_cases z:r.1≠0
   ·rw [if_pos z] at h
    rw [← Option.some.inj h] at b
    exact absurd b z
   ·rw [if_neg z,Cc (by omega),ca] at h
    by_cases q:j=i
    ·subst q
     obtain ⟨o,u⟩:=r
     obtain rfl:o=0:=Decidable.not_not.1 z
     exact qH g (ok.ok _ (List.getElem_mem _)) e
    ·exact n (i+1) r.2 h j a (by omega)
 intro x p
 obtain ⟨j,a,rfl⟩:=List.getElem_of_mem p
 exact L _ 0 0 h j a (Nat.zero_le _)
end Go.Y
namespace Go.Y
open Go.bc Go.Dc
theorem Uz:∀ (j k:Nat) (x:ua),bh j x→Bq k x→Hf j x=Hf k x
 | 0,k,x,h,g=>h.elim
 | j+1,0,x,h,g=>by cases g
 | j+1,k+1,x,h,g=>by
  obtain ⟨-,-,-,b⟩:=h
  have e:x.Kids.map (Hf j)=x.Kids.map (Hf k):=List.map_congr_left fun y a=>Uz j k y (b y a) (g.2 y a)
  rw [Hf,Hf,e]
theorem lx:∀ (j k:Nat) (x:Wa),Bj j x→Zn k x→gf j x=gf k x
 | 0,k,x,h,g=>h.elim
 | j+1,0,x,h,g=>by cases g
 | j+1,k+1,x,h,g=>by
  obtain ⟨-,-,b,d,e⟩:=h
  obtain ⟨g1,g2,g3⟩:=g
  have sa:(if x.Kind≠6 then Hf j x.X else ua.mk 0 0 [] [])=(if x.Kind≠6 then Hf k x.X else ua.mk 0 0 [] []):=by
   by_cases c:x.Kind≠6
   ·rw [if_pos c,if_pos c,Uz j k x.X (b c) g1]
   ·rw [if_neg c,if_neg c]
  have f:(if x.Kind=3∨x.Kind=4 then x.Body.map (gf j) else [])=(if x.Kind=3∨x.Kind=4 then x.Body.map (gf k) else []):=by
   by_cases c:x.Kind=3∨x.Kind=4
   ·rw [if_pos c,if_pos c,List.map_congr_left fun y a=>lx j k y ((d c).2 y a) (g2.2 y a)]
   ·rw [if_neg c,if_neg c]
  have i:(if x.Kind=3 then x.jd.map (gf j) else [])=(if x.Kind=3 then x.jd.map (gf k) else []):=by
   by_cases c:x.Kind=3
   ·rw [if_pos c,if_pos c,List.map_congr_left fun y a=>lx j k y ((e c).2 y a) (g3.2 y a)]
   ·rw [if_neg c,if_neg c]
  rw [gf,gf,sa,f,i]
theorem fE {k:Nat} {x:va} (h:Tl x) (g:Fu k x):jf 39 x=jf k x:=by
 have e:(if x.Kind=1 then [] else x.Body.map (gf 39))=(if x.Kind=1 then [] else x.Body.map (gf k)):=by
  by_cases c:x.Kind=1
  ·rw [if_pos c,if_pos c]
  ·rw [if_neg c,if_neg c,List.map_congr_left fun y a=>lx 39 k y (h.Rf c y a) (g.2.2 y a)]
 rw [jf,jf,e]
theorem TE {fu:Nat} (i:8000≤fu) {k:Nat} {l:List va} (c:Gu k l) {f:Vc} (h:Fj fu l=some f) (a:f.Ue=0) (j:(Dh (Vj l)).length≤6000):dq fu (Dh (Vj l))=some (l.map (jf k),⟨0,0⟩):=by
 obtain ⟨o,d,m⟩:=kt fu (by omega) l
 rw [h] at d
 obtain rfl:=Option.some.inj d
 obtain ⟨-,ok⟩:=m a
 obtain ⟨qa,n⟩:=VB (by omega) h a
 have e:l.map (jf 39)=l.map (jf k):=List.map_congr_left fun x g=>fE (ok.ok x g) (c.2 x g)
 have b:=WD fu k l c
 rw [h] at b
 rw [← e] at b
 rw [pH i qa n j b a,e]
end Go.Y
namespace Go.Y
open Go.bc Go.Dc
def Cd:mb→List mb→mb
 | b,[]=>b
 | b,w::ws=>Cd (if b=[] then w else b++32::w) ws
def lw:List mb→Nat
 | []=>0
 | w::ws=>w.length+1+lw ws
theorem Kn:∀ (u v:List mb) (b:mb),Cd b (u++v)=Cd (Cd b u) v
 | [],v,b=>rfl
 | w::u,v,b=>by rw [List.cons_append,Cd,Cd,Kn u v]
theorem bf:∀ (u v:List mb),lw (u++v)=lw u+lw v
 | [],v=>by simp [lw]
 | w::u,v=>by rw [List.cons_append,lw,lw,bf u v]; omega
theorem ih:∀ (ws:List mb) (b:mb),(Cd b ws).length≤b.length+lw ws
 | [],b=>by simp [Cd,lw]
 | w::ws,b=>by
  rw [Cd,lw]
  refine Nat.le_trans (ih ws _) ?_
  split
  ·simp_all
  ·simp; omega
theorem vB:∀ (ws:List mb) (b:mb),b≠[]→Cd b ws=b++(ws.map fun w=>32::w).flatten
 | [],b,h=>by simp [Cd]
 | w::ws,b,h=>by
  rw [Cd,if_neg h,vB ws _ (by simp)]
  simp
theorem wB:∀ (ws:List mb) (w:mb),Dh (w::ws)=w++(ws.map fun w=>32::w).flatten
 | [],w=>by simp [Dh]
 | w'::ws,w=>by rw [Dh,wB ws w']; simp
theorem nI {ws:List mb} (h:∀ w t,ws=w::t→w≠[]):Cd [] ws=Dh ws:=by
 cases ws with
 | nil=>rfl
 | cons w ws=>rw [Cd,if_pos rfl,vB ws w (h w ws rfl),wB]
theorem xB {α:Type} {l xs:List α} (h:l.length+xs.length≤4294967296):app l xs=some (l++xs):=if_pos h
theorem BF (p:List mb):∀ (m i:Nat) (b:mb),p.length<m+i→i≤p.length→b.length+lw (p.drop i)≤4294967296→p.length≤4294967296→Gl p m i b=some (Cd b (p.drop i)):=by
 intro m
 induction m with
 | zero=>intro i b f g; omega
 | succ m j =>
  intro i b f g d k
  rw [Gl]
  by_cases c:i<p.length
  ·rw [if_pos (by omega),Rd,List.getElem?_eq_getElem c,ca,jq,ca]
   rw [List.drop_eq_getElem_cons c] at d ⊢
   rw [lw] at d
   rw [Cd]
   have go:∀ re,re.length≤b.length+1→(b=[]→re=[])→(if b=[] then p[i] else b++32::p[i])=re++p[i]→Rr i p[i] (Gl p m) re=some (Cd (if b=[] then p[i] else b++32::p[i]) (p.drop (i+1))):=by
    intro re a l e
    rw [Rr,Xt,xB (by omega),ca,ca,Cc (by omega),ca]
    rw [show ((i:Int)+1)=((i+1:Nat):Int) by omega]
    show Gl p m ((i+1:Nat):Int) (re++p[i])=_
    rw [e]
    refine j (i+1) _ (by omega) (by omega) ?_ k
    by_cases n:b=[]
    ·rw [l n]
     simp only [List.nil_append]
     omega
    ·rw [List.length_append]
     omega
   by_cases a:b=[]
   ·rw [if_neg (by subst a; simp)]
    exact go b (by omega) id (by rw [if_pos a,a]; simp)
   ·have:0<b.length:=List.length_pos_iff.2 a
    rw [if_pos (by omega),Pt,xB (by simp; omega),ca,ca]
    exact go (b++[32]) (by simp) (fun h=>absurd h a) (by rw [if_neg a]; simp)
  ·rw [if_neg (by omega),List.drop_eq_nil_of_le (by omega),Cd]
theorem jC:∀ ws:List mb,ws.length≤lw ws
 | []=>by simp [lw]
 | w::ws=>by have:=jC ws; simp [lw]; omega
theorem Xg {b:mb} {ws:List mb} (h:b.length+lw ws≤4294967296):De b ws=some (Cd b ws):=by
 have:=jC ws
 rw [De,show (0:Int)=((0:Nat):Int) from rfl,BF ws (ws.length+1) 0 b (by omega) (by omega) (by simpa using h) (by omega)]
 simp
theorem CF (p:List mb):∀ (m:Nat) (i:Int) (b:mb),qo p m i b=Gl p m i b:=by
 intro m
 induction m with
 | zero=>intro i b; rfl
 | succ m a =>
  intro i b
  have e:qo p m=Gl p m:=funext fun i=>funext fun b=>a i b
  rw [qo,Gl,e]
  rfl
theorem rH {b:mb} {ws:List mb} (h:b.length+lw ws≤4294967296):hk b ws=some (Cd b ws):=by
 rw [← Xg h,hk,De,CF]
theorem WB {n:Int} (h:0≤n∧n≤999999999999999):Ho n=some (Lib.itoa n):=if_pos ⟨by omega,by omega⟩
theorem oG {k:Int} (a:1≤k) (b:k≤24):Ft k=some (if 4≤k∧k≤18 then ch k else [],((own k:Nat):Int)):=by
 have:k=1∨k=2∨k=3∨k=4∨k=5∨k=6∨k=7∨k=8∨k=9∨k=10∨k=11∨k=12∨k=13∨k=14∨k=15∨k=16∨k=17∨k=18∨k=19∨k=20∨k=21∨k=22∨k=23∨k=24:=by omega
 rcases this with rfl | rfl | rfl | rfl | rfl | rfl | rfl | rfl | rfl | rfl | rfl | rfl | rfl | rfl | rfl | rfl | rfl | rfl | rfl | rfl | rfl | rfl | rfl | rfl <;> rfl
end Go.Y
namespace Go.Y
open Go.bc Go.Dc
section
variable {self:qk} {x:ua}
def qu (self:qk) (a:ua) (c:List UInt8×Int) (b:mb):Option mb :=
  if a.Kind=1 then
   (Ho a.N).bind fun d =>
   (De b [d]).bind fun r417 =>
   some r417
  else
   if a.Kind=2 then
    (at_ [[102,97,108,115,101],[116,114,117,101]] a.N).bind fun e =>
    (De b [e]).bind fun f =>
    some f
   else
    if a.Kind=3 then
     (De b [a.Name]).bind fun g =>
     some g
    else
     if a.Kind=4 then
      El self a b c (decide (a.Kind=4))
     else
      El self a b c (decide (a.Kind=5))
def yq (r:mb):Option mb:=(hk r [[41]]).bind some
theorem sH (a:List UInt8×Int) (b:mb) (i:Int):Br self x a b i=(np self x b a i).bind yq:=by
 unfold Br np yq
 simp only [Option.bind_assoc,Option.bind_some]
theorem tH (a:List UInt8×Int) (b:mb) (c:Bool):Cr self x a b c=(El self x b a c).bind yq:=by
 unfold Cr El
 simp only [sH]
 repeat' split
 all_goals (try unfold yq; simp only [Option.bind_assoc,Option.bind_some])
theorem uH (b:mb) (c:Int):gg self b x c=(Ft x.Kind).bind fun a=>if a.2<c then (De b [[40]]).bind fun U=>(qu self x a U).bind yq else qu self x a b:=by
 unfold gg qu
 simp only [tH]
 congr 1
 funext a
 split
 ·congr 1
  funext U
  repeat' split
  all_goals (try unfold yq; simp only [Option.bind_assoc,Option.bind_some])
 ·rfl
end
section
variable {self:qk} {f:Nat→ua→List mb}
def ho (f:ua→List mb):Nat→List ua→List mb
 | _,[]=>[]
 | 0,x::t=>f x++Ti f t
 | _+1,x::t=>Ti f (x::t)
theorem Cy (f:ua→List mb) (i:Nat) (l:List ua):ho f (i+1) l=Ti f l:=by cases l <;> rfl
theorem ZI (f:ua→List mb) {i:Nat} (h:i≠0) (l:List ua):ho f i l=Ti f l:=by
 obtain ⟨i,rfl⟩:=Nat.exists_eq_succ_of_ne_zero h
 exact Cy f i l
theorem aJ (f:ua→List mb) (l:List ua):Ch f l=[40]::(ho f 0 l++[[41]]):=by
 cases l with
 | nil=>rfl
 | cons x l=>simp [Ch,ho]
theorem gE {f:ua→List mb} {l:List ua} (g:∀ y ∈ l,∀ b:mb,b.length+lw (f y)≤4294967296→self.gg b y 1=some (Cd b (f y))):∀ (m i:Nat) (b:mb),i≤l.length→l.length<m+i→l.length≤6→b.length+lw (ho f i (l.drop i)++[[41]])≤4294967296→so self l m i b=some (Cd b (ho f i (l.drop i)++[[41]])):=by
 intro m
 induction m with
 | zero=>intro i b h j; omega
 | succ m k =>
  intro i b h j n a
  rw [so]
  by_cases c:i<l.length
  ·rw [if_pos (by omega)]
   rw [List.drop_eq_getElem_cons c] at a ⊢
   have go:∀ U:mb,U.length+lw (f l[i])+lw (Ti f (l.drop (i+1)))+lw [[41]]≤4294967296→Dr self l i (so self l m) U=some (Cd U (f l[i]++(Ti f (l.drop (i+1))++[[41]]))):=by
    intro U o
    rw [Dr,Rd,List.getElem?_eq_getElem c,ca,g _ (List.getElem_mem c) U (by omega),ca,Cc (by omega),ca]
    have qa:=ih (f l[i]) U
    have:=k (i+1) (Cd U (f l[i])) (by omega) (by omega) n (by rw [Cy,bf]; omega)
    rw [Cy] at this
    rw [show ((i:Int)+1)=((i+1:Nat):Int) by omega,this,Kn (f l[i])]
   by_cases d:i=0
   ·subst d
    rw [ho] at a ⊢
    rw [if_neg (by omega),go b (by rw [bf,bf] at a; omega),List.append_assoc]
   ·rw [ZI f d] at a ⊢
    have e:Ti f (l[i]::l.drop (i+1))=[[44]]++(f l[i]++Ti f (l.drop (i+1))):=by
     generalize l[i]=x
     generalize l.drop (i+1)=t
     rw [Ti,Ti,List.map_cons,List.flatten_cons]
     rfl
    rw [e] at a ⊢
    rw [bf,bf,bf] at a
    have qa:=ih [[44]] b
    rw [if_pos (by omega),Xg (by omega),ca,go _ (by omega),List.append_assoc,Kn [[44]],List.append_assoc]
  ·rw [if_neg (by omega)]
   have e:ho f i (l.drop i)=[]:=by
    rw [List.drop_eq_nil_of_le (by omega)]
    cases i <;> rfl
   rw [e,List.nil_append] at a ⊢
   rw [Xg a,ca]
theorem pG {f:ua→List mb} {l:List ua} (a:∀ y ∈ l,∀ b:mb,b.length+lw (f y)≤4294967296→self.gg b y 1=some (Cd b (f y))) (c:l.length≤6) {b:mb} (h:b.length+lw (Ch f l)≤4294967296):Qg self b l=some (Cd b (Ch f l)):=by
 rw [aJ] at h ⊢
 rw [show [40]::(ho f 0 l++[[41]])=[[40]]++(ho f 0 l++[[41]]) from rfl] at h ⊢
 rw [bf] at h
 have qa:=ih [[40]] b
 rw [Qg,Xg (by omega),ca,Kn [[40]]]
 have:=gE a (l.length+1) 0 (Cd b [[40]]) (by omega) (by omega) c (by simpa using (by omega))
 simpa using this
end
theorem XB {k:Nat} {E:qk} {x:ua} (z:Hp (k+1) x) (j:∀ y ∈ x.Kids,∀ (b:mb) (h:Nat),h≤8→b.length+lw (pd k h y)≤4294967296→E.gg b y h=some (Cd b (pd k h y))) (A:∀ (b:mb),b.length+lw (Ch (pd k 1) x.Kids)≤4294967296→E.Qg b x.Kids=some (Cd b (Ch (pd k 1) x.Kids))) (b:mb) (d:b.length+lw (gh (pd k) x)≤4294967296) :
  qu E x (if 4≤x.Kind∧x.Kind≤18 then ch x.Kind else [],((own x.Kind:Nat):Int)) b=some (Cd b (gh (pd k) x)):=by
 obtain ⟨G,H,n,B,C,-,-⟩:=z
 unfold gh at d ⊢
 unfold qu
 have two:∀ (u v:List mb) (b:mb),Cd (Cd b u) v=Cd b (u++v):=fun u v b=>(Kn u v b).symm
 have g:∀ (w:List mb),b.length+lw (w++Ch (pd k 1) x.Kids)≤4294967296→((De b w).bind fun r=>(E.Qg r x.Kids).bind fun q=>some q)=some (Cd b (w++Ch (pd k 1) x.Kids)):=by
  intro w hw
  rw [bf] at hw
  have qa:=ih w b
  rw [Xg (by omega),ca,A _ (by omega),ca,two]
 by_cases l:x.Kind=1
 ·simp only [if_pos l] at d ⊢
  rw [WB (B l),ca,Xg d,ca]
 simp only [if_neg l] at d ⊢
 by_cases c2:x.Kind=2
 ·simp only [if_pos c2] at d ⊢
  rcases C c2 with e | e
  ·rw [e] at d ⊢
   show ((De b [[102,97,108,115,101]]).bind fun r=>some r)=_
   rw [if_neg (by decide)] at d ⊢
   rw [Xg d,ca]
  ·rw [e] at d ⊢
   show ((De b [[116,114,117,101]]).bind fun r=>some r)=_
   rw [if_pos rfl] at d ⊢
   rw [Xg d,ca]
 simp only [if_neg c2] at d ⊢
 by_cases c3:x.Kind=3
 ·simp only [if_pos c3] at d ⊢
  rw [Xg d,ca]
 simp only [if_neg c3] at d ⊢
 by_cases i:x.Kind=4∨x.Kind=5
 ·simp only [if_pos i] at d ⊢
  have e:(if x.Kind=4 then El E x b (if 4≤x.Kind∧x.Kind≤18 then ch x.Kind else [],((own x.Kind:Nat):Int)) (decide (x.Kind=4)) else El E x b (if 4≤x.Kind∧x.Kind≤18 then ch x.Kind else [],((own x.Kind:Nat):Int)) (decide (x.Kind=5)))=El E x b (if 4≤x.Kind∧x.Kind≤18 then ch x.Kind else [],((own x.Kind:Nat):Int)) true:=by
   rcases i with c | c
   ·rw [if_pos c,decide_eq_true c]
   ·rw [if_neg (by omega),decide_eq_true c]
  rw [e,El,if_pos rfl,if_pos (by omega)]
  have m:x.Kids.length=1:=by
   have sa:jg x.Kind=1:=by rcases i with c | c <;> rw [c] <;> rfl
   have:=n.eq (by omega)
   omega
  obtain ⟨a,f⟩:=List.length_eq_one_iff.1 m
  rw [f] at d ⊢
  dsimp only at d ⊢
  rw [show ch x.Kind::pd k 6 a=[ch x.Kind]++pd k 6 a from rfl,bf] at d
  have qa:=ih [ch x.Kind] b
  have D:=j a (by simp [f]) (Cd b [ch x.Kind]) 6 (by omega) (by omega)
  rw [Xg (by omega),ca,yg (by simp),ca]
  show ((E.gg (Cd b [ch x.Kind]) a ((6:Nat):Int)).bind fun r=>some r)=_
  rw [D,ca,two]
  rfl
 simp only [if_neg i] at d ⊢
 rw [if_neg (by omega),decide_eq_false (show ¬ x.Kind=5 by omega),El,if_neg (by decide)]
 by_cases bg:x.Kind≤18
 ·simp only [if_pos bg] at d ⊢
  have m:x.Kids.length=2:=by
   have sa:jg x.Kind=2:=by unfold jg; rw [if_neg (by omega),if_neg (by omega),if_pos (by omega)]
   have:=n.eq (by omega)
   omega
  rw [if_pos (show 4≤x.Kind∧x.Kind≤18 by omega),if_neg (show ¬ x.Kind=20 by omega),if_neg (show ¬ x.Kind=21 by omega),if_neg (show ¬ x.Kind=23 by omega),if_neg (show ¬ x.Kind=24 by omega),if_neg (show ¬ x.Kind=22 by omega),if_neg (show ¬ x.Kind=19 by omega)]
  obtain ⟨a,c,f⟩:∃ a c,x.Kids=[a,c]:=by
   match x.Kids,m with
   | [a,c],_=>exact ⟨a,c,rfl⟩
  rw [f] at d ⊢
  dsimp only at d ⊢
  have K:own x.Kind≤7:=by
   unfold own
   (repeat' split) <;> omega
  have o:∀ left:Nat,left≤8→b.length+lw (pd k left a++ch x.Kind::pd k (own x.Kind+1) c)≤4294967296→np E x b (ch x.Kind,((own x.Kind:Nat):Int)) (left:Int)=some (Cd b (pd k left a++ch x.Kind::pd k (own x.Kind+1) c)):=by
   intro left F d
   rw [show pd k left a++ch x.Kind::pd k (own x.Kind+1) c=pd k left a++([ch x.Kind]++pd k (own x.Kind+1) c) from rfl] at d ⊢
   rw [bf,bf] at d
   have L:=ih (pd k left a) b
   have M:=ih [ch x.Kind] (Cd b (pd k left a))
   rw [np,f,yg (by simp),ca]
   dsimp only
   show ((E.gg b a (left:Int)).bind _)=_
   rw [j a (by simp [f]) b left F (by omega),ca,Xg (by omega),ca,tC (by simp),ca,Cc (by omega),ca]
   show ((E.gg _ c (((own x.Kind:Nat):Int)+1)).bind _)=_
   rw [show (((own x.Kind:Nat):Int)+1)=((own x.Kind+1:Nat):Int) by omega,j c (by simp [f]) _ (own x.Kind+1) (by omega) (by omega),ca,two,two]
  by_cases c3:own x.Kind=3
  ·rw [if_pos c3] at d ⊢
   rw [if_pos (by omega),Cc (by omega),ca,show (((own x.Kind:Nat):Int)+1)=((4:Nat):Int) by omega]
   exact o 4 (by omega) d
  ·rw [if_neg c3] at d ⊢
   rw [if_neg (by omega)]
   exact o (own x.Kind) (by omega) d
 simp only [if_neg bg] at d ⊢
 by_cases p:x.Kind=19
 ·simp only [if_pos p] at d ⊢
  rw [if_neg (by omega),if_neg (by omega),if_neg (by omega),if_neg (by omega),if_neg (by omega)]
  exact g [x.Name] d
 simp only [if_neg p] at d ⊢
 by_cases c20:x.Kind=20
 ·simp only [if_pos c20] at d ⊢
  rw [Xg d,ca]
 simp only [if_neg c20] at d ⊢
 by_cases c21:x.Kind=21
 ·simp only [if_pos c21] at d ⊢
  exact g [_] d
 simp only [if_neg c21] at d ⊢
 by_cases s:x.Kind=22
 ·simp only [if_pos s] at d ⊢
  rw [if_neg (by omega),if_neg (by omega)]
  exact g [_,x.Name] d
 simp only [if_neg s] at d ⊢
 by_cases t:x.Kind=23
 ·simp only [if_pos t] at d ⊢
  exact g [_] d
 simp only [if_neg t] at d ⊢
 rw [if_pos (by omega)]
 exact g [_] d
theorem ly:∀ (k n:Nat) (x:ua) (b:mb) (a:Nat),Hp k x→2*k≤n→b.length+lw (pd k a x)≤4294967296→(Il n).gg b x a=some (Cd b (pd k a x)):=by
 intro k
 induction k with
 | zero=>intro n x b a h; exact h.elim
 | succ k i =>
  intro n x b a e u d
  obtain ⟨n,rfl⟩:∃ m,n=m+2:=⟨n - 2,by omega⟩
  have q:=e
  obtain ⟨r,s,t,-,-,-,j⟩:=q
  have o:∀ y ∈ x.Kids,∀ (b:mb) (a:Nat),a≤8→b.length+lw (pd k a y)≤4294967296→(Il (n+1)).gg b y a=some (Cd b (pd k a y)):=fun y g b a _ d=>i (n+1) y b a (j y g) (by omega) d
  have p:∀ (b:mb),b.length+lw (Ch (pd k 1) x.Kids)≤4294967296→(Il (n+1)).Qg b x.Kids=some (Cd b (Ch (pd k 1) x.Kids)):=fun b d =>
   pG (self:=Il n) (f:=pd k 1) (l:=x.Kids) (fun y g b d=>i n y b 1 (j y g) (by omega) d) t.le d
  show gg (Il (n+1)) b x a=_
  rw [uH,oG r s,ca]
  rw [pd] at d ⊢
  by_cases c:own x.Kind<a
  ·rw [if_pos c] at d ⊢
   rw [show [40]::(gh (pd k) x++[[41]])=[[40]]++(gh (pd k) x++[[41]]) from rfl] at d ⊢
   rw [bf,bf] at d
   have v:=ih [[40]] b
   have w:=ih (gh (pd k) x) (Cd b [[40]])
   rw [if_pos (by exact Int.ofNat_lt.2 c),Xg (by omega),ca,XB e o p _ (by omega),ca,yq,rH (by omega),ca,Kn [[40]],Kn (gh (pd k) x)]
  ·rw [if_neg c] at d ⊢
   rw [if_neg (by simpa using c)]
   exact XB e o p b d
end Go.Y
namespace Go.Y
open Go.bc Go.Dc
section
variable {self:an} {g:Wa→List mb} {l:List Wa}
theorem hE (d:∀ y ∈ l,∀ b:mb,b.length+lw (g y)≤4294967296→self.Zk b y=some (Cd b (g y))) (j:l.length≤50):∀ (m i:Nat) (b:mb),i≤l.length→l.length<m+i→b.length+lw (((l.drop i).map g).flatten++[[125]])≤4294967296→Er self l m i b=some (Cd b (((l.drop i).map g).flatten++[[125]])):=by
 intro m
 induction m with
 | zero=>intro i b e f; omega
 | succ m h =>
  intro i b e f a
  rw [Er]
  by_cases c:i<l.length
  ·rw [if_pos (by omega),Rd,List.getElem?_eq_getElem c,ca]
   rw [List.drop_eq_getElem_cons c,List.map_cons,List.flatten_cons,List.append_assoc] at a ⊢
   rw [bf] at a
   have qa:=ih (g l[i]) b
   rw [d _ (List.getElem_mem c) b (by omega),ca,Cc (by omega),ca,show ((i:Int)+1)=((i+1:Nat):Int) from rfl,h (i+1) _ (by omega) (by omega) (by omega),Kn (g l[i])]
  ·rw [if_neg (by omega)]
   rw [List.drop_eq_nil_of_le (by omega),List.map_nil,List.flatten_nil,List.nil_append] at a ⊢
   rw [Xg a,ca]
theorem yB (a:∀ y ∈ l,∀ b:mb,b.length+lw (g y)≤4294967296→self.Zk b y=some (Cd b (g y))) (c:l.length≤50) {b:mb} (h:b.length+lw (wg g l)≤4294967296):ik self b l=some (Cd b (wg g l)):=by
 unfold wg at h ⊢
 rw [show [123]::((l.map g).flatten++[[125]])=[[123]]++((l.map g).flatten++[[125]]) from rfl] at h ⊢
 rw [bf] at h
 have qa:=ih [[123]] b
 rw [ik,Xg (by omega),ca,Kn [[123]]]
 have:=hE a c (l.length+1) 0 (Cd b [[123]]) (by omega) (by omega) (by simpa using (by omega))
 simpa using this
end
theorem qj (u v:List mb) (b:mb):Cd (Cd b u) v=Cd b (u++v):=(Kn u v b).symm
theorem vH {k fu:Nat} {S:an} {x:Wa} (t:Kk (k+1) x) (h:2*k≤fu) (i:∀ (l:List Wa),(∀ y ∈ l,Kk k y)→l.length≤50→∀ b:mb,b.length+lw (wg (sf k) l)≤4294967296→S.ik b l=some (Cd b (wg (sf k) l))) (b:mb) (a:b.length+lw (sf (k+1) x)≤4294967296) :
  Zk fu S b x=some (Cd b (sf (k+1) x)):=by
 obtain ⟨B,C,j,D,p,u⟩:=t
 have d:∀ (w:List mb),x.Kind≠6→b.length+lw (w++(pd k 1 x.X++[[59]]))≤4294967296→((De b w).bind fun r=>uo fu x r)=some (Cd b (w++(pd k 1 x.X++[[59]]))):=by
  intro w q hw
  rw [bf,bf] at hw
  have m:=ih w b
  have s:=ih (pd k 1 x.X) (Cd b w)
  rw [Xg (by omega),ca,uo,if_pos q]
  show (((Il fu).gg (Cd b w) x.X ((1:Nat):Int)).bind _)=_
  rw [ly k fu x.X _ 1 (j q) h (by omega),ca,Gr,Xg (by omega),ca,qj,qj]
 have v:Zk fu S b x=Hr fu S x b (decide (x.Kind=3∨x.Kind=4)):=by
  rw [Zk]
  by_cases c:x.Kind=3
  ·rw [if_pos c,decide_eq_true c,decide_eq_true (.inl c)]
  ·rw [if_neg c]
   congr 1
   exact decide_eq_decide.2 (by omega)
 rw [v,Hr]
 rw [sf] at a ⊢
 by_cases c3:x.Kind=3
 ·rw [if_pos c3] at a ⊢
  rw [decide_eq_true (.inl c3),if_pos rfl]
  rw [show [105,102]::(pd k 1 x.X++(wg (sf k) x.Body++(if x.jd=[] then [] else [101,108,115,101]::wg (sf k) x.jd)))=[[105,102]]++(pd k 1 x.X++(wg (sf k) x.Body++(if x.jd=[] then [] else [[101,108,115,101]]++wg (sf k) x.jd))) from rfl] at a ⊢
  rw [bf,bf,bf] at a
  have m:=ih [[105,102]] b
  have s:=ih (pd k 1 x.X) (Cd b [[105,102]])
  have E:=ih (wg (sf k) x.Body) (Cd (Cd b [[105,102]]) (pd k 1 x.X))
  obtain ⟨n,o⟩:=p (.inl c3)
  obtain ⟨z,A⟩:=u c3
  rw [show ((vb (cc (cc ([]:List (Int×List UInt8)) 3 [105,102]) 4 [119,104,105,108,101]) x.Kind).getD [])=[105,102] by rw [c3]; rfl]
  rw [Xg (by omega),ca]
  show (((Il fu).gg (Cd b [[105,102]]) x.X ((1:Nat):Int)).bind _)=_
  rw [ly k fu x.X _ 1 (j (by omega)) h (by omega),ca,i x.Body o n _ (by omega),ca,if_pos c3]
  by_cases ce:x.jd=[]
  ·rw [if_pos ce] at a ⊢
   rw [decide_eq_false (by rw [ce]; simp),Xp,if_neg (by decide),qj,qj]
   simp
  ·rw [if_neg ce] at a ⊢
   rw [bf] at a
   have F:=ih [[101,108,115,101]] (Cd (Cd (Cd b [[105,102]]) (pd k 1 x.X)) (wg (sf k) x.Body))
   have G:0<x.jd.length:=List.length_pos_iff.2 ce
   rw [decide_eq_true (by omega),Xp,if_pos rfl,Xg (by omega),ca,i x.jd A z _ (by omega),ca,qj,qj,qj,qj]
 rw [if_neg c3] at a ⊢
 by_cases c4:x.Kind=4
 ·rw [if_pos c4] at a ⊢
  rw [decide_eq_true (.inr c4),if_pos rfl]
  rw [show [119,104,105,108,101]::(pd k 1 x.X++wg (sf k) x.Body)=[[119,104,105,108,101]]++(pd k 1 x.X++wg (sf k) x.Body) from rfl] at a ⊢
  rw [bf,bf] at a
  have m:=ih [[119,104,105,108,101]] b
  have s:=ih (pd k 1 x.X) (Cd b [[119,104,105,108,101]])
  obtain ⟨n,o⟩:=p (.inr c4)
  rw [show ((vb (cc (cc ([]:List (Int×List UInt8)) 3 [105,102]) 4 [119,104,105,108,101]) x.Kind).getD [])=[119,104,105,108,101] by rw [c4]; rfl]
  rw [Xg (by omega),ca]
  show (((Il fu).gg (Cd b [[119,104,105,108,101]]) x.X ((1:Nat):Int)).bind _)=_
  rw [ly k fu x.X _ 1 (j (by omega)) h (by omega),ca,i x.Body o n _ (by omega),ca,if_neg c3,Xp,if_neg (by decide),qj,qj]
 rw [if_neg c4] at a ⊢
 rw [decide_eq_false (by omega),if_neg (by decide)]
 by_cases f:x.Kind=1
 ·rw [if_pos f] at a ⊢
  rw [if_pos f]
  exact d [_,x.Name,_] (by omega) a
 rw [if_neg f] at a ⊢
 rw [if_neg f]
 by_cases c2:x.Kind=2
 ·rw [if_pos c2] at a ⊢
  rw [if_pos c2]
  exact d [x.Name,_] (by omega) a
 rw [if_neg c2] at a ⊢
 rw [if_neg c2]
 by_cases g:x.Kind=7
 ·rw [if_pos g] at a ⊢
  rw [if_pos g]
  exact d [_,x.Name] (by omega) a
 rw [if_neg g] at a ⊢
 rw [if_neg g]
 by_cases Tc:x.Kind=6
 ·rw [if_pos Tc] at a ⊢
  rw [show ((vb (cc (cc (cc (cc ([]:List (Int×List UInt8)) 5 [114,101,116,117,114,110]) 6 [115,116,111,112]) 8 [111,117,116]) 9 [100,111]) x.Kind).getD [])=[115,116,111,112] by rw [Tc]; rfl]
  rw [show ([[115,116,111,112],[59]]:List mb)=[[115,116,111,112]]++[[59]] from rfl] at a ⊢
  rw [bf] at a
  have m:=ih [[115,116,111,112]] b
  rw [Xg (by omega),ca,uo,if_neg (by simpa using Tc),Gr,Xg (by omega),ca,qj]
 rw [if_neg Tc] at a ⊢
 have e:((vb (cc (cc (cc (cc ([]:List (Int×List UInt8)) 5 [114,101,116,117,114,110]) 6 [115,116,111,112]) 8 [111,117,116]) 9 [100,111]) x.Kind).getD [])=(if x.Kind=5 then [114,101,116,117,114,110] else if x.Kind=8 then [111,117,116] else [100,111]):=by
  have:x.Kind=5∨x.Kind=8∨x.Kind=9:=by omega
  rcases this with c | c | c <;> rw [c] <;> rfl
 rw [e]
 exact d [_] Tc a
theorem DF:∀ (k n:Nat) (x:Wa) (b:mb),Kk k x→4*k+2≤n→b.length+lw (sf k x)≤4294967296→(Co n).Zk b x=some (Cd b (sf k x)):=by
 intro k
 induction k with
 | zero=>intro n x b h; exact h.elim
 | succ k c =>
  intro n x b d i a
  obtain ⟨n,rfl⟩:∃ m,n=m+2:=⟨n - 2,by omega⟩
  exact vH (fu:=n+1) (S:=Co (n+1)) d (by omega) (fun l qa e b a=>yB (self:=Co n) (g:=sf k) (fun y f b a=>c n y b (qa y f) (by omega) a) e a) b a
theorem aw {t:Ya} (h:Jk t):Hn t=some (Eg t):=by
 rw [Hn,Eg]
 repeat' split
 all_goals first | rfl | omega
def Us:List TParam→List mb
 | []=>[]
 | q::l=>q.Name::Eg q.zb::Pj l
theorem UE {fu:Nat} {x:va} (t:x.Params.length≤6) (h:∀ q ∈ x.Params,Jk q.zb) (R:List mb) (j:∀ b:mb,b.length+lw R≤4294967296→(if x.Kind=3 then
    (Hn x.Hc).bind fun k =>
    (De b [[116,97,107,101,115],k,[121,105,101,108,100,115]]).bind fun n =>
    zn fu x n
   else
    zn fu x b)=some (Cd b R)):∀ (m i:Nat) (b:mb),i≤x.Params.length→x.Params.length<m+i→b.length+lw ((if i=0 then Us x.Params else Pj (x.Params.drop i))++([[41]]++R))≤4294967296→Lm fu x m i b=some (Cd b ((if i=0 then Us x.Params else Pj (x.Params.drop i))++([[41]]++R))):=by
 intro m
 induction m with
 | zero=>intro i b o p; omega
 | succ m r =>
  intro i b o p a
  rw [Lm]
  by_cases c:i<x.Params.length
  ·rw [if_pos (by omega),Rd,List.getElem?_eq_getElem c,ca]
   have go:∀ U:mb,U.length+lw ([x.Params[i].Name,Eg x.Params[i].zb]++(Pj (x.Params.drop (i+1))++([[41]]++R)))≤4294967296→Tr i x.Params[i] (Lm fu x m) U=some (Cd U ([x.Params[i].Name,Eg x.Params[i].zb]++(Pj (x.Params.drop (i+1))++([[41]]++R)))):=by
    intro U s
    rw [bf] at s
    have f:=ih [x.Params[i].Name,Eg x.Params[i].zb] U
    rw [Tr,aw (h _ (List.getElem_mem c)),ca,Xg (by omega),ca,Cv,Cc (by omega),ca,show ((i:Int)+1)=((i+1:Nat):Int) from rfl]
    have:=r (i+1) (Cd U [x.Params[i].Name,Eg x.Params[i].zb]) (by omega) (by omega) (by rw [if_neg (by omega)]; omega)
    rw [this,if_neg (by omega),qj]
   by_cases d:i=0
   ·subst d
    rw [if_pos rfl] at a ⊢
    rw [if_neg (by omega)]
    have e:∀ (P:List TParam) (g:0<P.length),Us P=[P[0].Name,Eg P[0].zb]++Pj (P.drop 1):=by
     intro P g
     cases P with
     | nil=>simp at g
     | cons q l=>rfl
    rw [e _ c,List.append_assoc] at a ⊢
    exact go b a
   ·rw [if_neg d] at a ⊢
    rw [if_pos (by omega)]
    have e:Pj (x.Params.drop i)=[[44]]++([x.Params[i].Name,Eg x.Params[i].zb]++Pj (x.Params.drop (i+1))):=by
     rw [List.drop_eq_getElem_cons c,Pj,Pj,List.map_cons,List.flatten_cons]
     rfl
    rw [e,List.append_assoc,List.append_assoc] at a ⊢
    rw [bf] at a
    have f:=ih [[44]] b
    rw [Xg (by omega),ca,go _ (by omega),qj]
  ·rw [if_neg (by omega)]
   have e:(if i=0 then Us x.Params else Pj (x.Params.drop i))=[]:=by
    by_cases d:i=0
    ·rw [if_pos d]
     have:x.Params=[]:=List.eq_nil_of_length_eq_zero (by omega)
     rw [this]
     rfl
    ·rw [if_neg d,List.drop_eq_nil_of_le (by omega)]
     rfl
   rw [e,List.nil_append] at a ⊢
   rw [bf] at a
   have f:=ih [[41]] b
   rw [Xg (by omega),ca,j _ (by omega),qj]
theorem wH {fu:Nat} (B:200≤fu) {x:va} (c:sl x) {b:mb} (a:b.length+lw (fj x)≤4294967296):Yt fu b x=some (Cd b (fj x)):=by
 have f:∀ b:mb,x.Kind≠1→b.length+lw (wg (sf 39) x.Body)≤4294967296→Sr fu x b=some (Cd b (wg (sf 39) x.Body)):=by
  intro b j a
  obtain ⟨k,o⟩:=c.Rf j
  obtain ⟨n,rfl⟩:∃ m,fu=m+1:=⟨fu - 1,by omega⟩
  rw [Sr]
  show ((ik (Co n) b x.Body).bind _)=_
  rw [yB (self:=Co n) (g:=sf 39) (fun y p b a=>DF 39 n y b (o y p) (by omega) a) k a,ca]
 have k1:=c.k1
 have Af:=c.Af
 rw [Yt]
 unfold fj at a ⊢
 by_cases d:x.Kind=1
 ·rw [if_pos d] at a ⊢
  obtain ⟨kb,Ib⟩:=c.Nh d
  rw [if_pos d,aw (c.ty (by omega)).1,ca,WB ⟨by omega,by omega⟩,ca,Xg a,ca,Bv]
 rw [if_neg d] at a ⊢
 rw [if_neg d]
 by_cases c4:x.Kind=4
 ·rw [if_pos c4] at a ⊢
  rw [show [116,97,115,107]::x.Name::wg (sf 39) x.Body=[[116,97,115,107],x.Name]++wg (sf 39) x.Body from rfl,bf] at a
  have e:=ih [[116,97,115,107],x.Name] b
  rw [if_pos c4,Xg (by omega),ca,f _ d (by omega),qj]
  rfl
 rw [if_neg c4] at a ⊢
 rw [if_neg c4]
 obtain ⟨r,s⟩:=c.cg (by omega)
 have i:∀ b:mb,b.length+lw ([Eg x.zb]++wg (sf 39) x.Body)≤4294967296→zn fu x b=some (Cd b ([Eg x.zb]++wg (sf 39) x.Body)):=by
  intro b a
  rw [bf] at a
  have e:=ih [Eg x.zb] b
  rw [zn,aw (c.ty c4).1,ca,Xg (by omega),ca,f _ d (by omega),qj]
 have t:∀ (h:mb) (R:List mb),h::x.Name::(Fm x.Params++R)=[h,x.Name,[40]]++(Us x.Params++([[41]]++R)):=by
  intro h R
  cases x.Params with
  | nil=>rfl
  | cons q l=>simp [Fm,Us]
 have fin:∀ (h:mb) (R:List mb),(∀ b:mb,b.length+lw R≤4294967296→(if x.Kind=3 then
    (Hn x.Hc).bind fun u =>
    (De b [[116,97,107,101,115],u,[121,105,101,108,100,115]]).bind fun v =>
    zn fu x v
   else
    zn fu x b)=some (Cd b R))→b.length+lw (h::x.Name::(Fm x.Params++R))≤4294967296→((De b [h,x.Name,[40]]).bind fun w=>xt fu x w)=some (Cd b (h::x.Name::(Fm x.Params++R))):=by
  intro h R z a
  rw [t] at a ⊢
  rw [bf] at a
  have e:=ih [h,x.Name,[40]] b
  have:=UE (fu:=fu) r (fun q A=>(s q A).2.1) R z (x.Params.length+1) 0 (Cd b [h,x.Name,[40]]) (by omega) (by omega) (by rw [if_pos rfl]; omega)
  rw [Xg (by omega),ca,xt]
  show Lm fu x (x.Params.length+1) ((0:Nat):Int) _=_
  rw [this,if_pos rfl,qj]
 by_cases c2:x.Kind=2
 ·rw [if_pos c2] at a ⊢
  rw [show ((vb (cc (cc ([]:List (Int×List UInt8)) 2 [102,110]) 3 [103,101,110]) x.Kind).getD [])=[102,110] by rw [c2]; rfl]
  refine fin _ _ (fun b a=>?_) a
  rw [if_neg (by omega)]
  exact i b a
 ·rw [if_neg c2] at a ⊢
  have c3:x.Kind=3:=by omega
  rw [show ((vb (cc (cc ([]:List (Int×List UInt8)) 2 [102,110]) 3 [103,101,110]) x.Kind).getD [])=[103,101,110] by rw [c3]; rfl]
  refine fin _ _ (fun b a=>?_) a
  rw [if_pos c3,aw (c.Mh c3).1,ca]
  rw [show [116,97,107,101,115]::Eg x.Hc::[121,105,101,108,100,115]::Eg x.zb::wg (sf 39) x.Body=[[116,97,107,101,115],Eg x.Hc,[121,105,101,108,100,115]]++([Eg x.zb]++wg (sf 39) x.Body) from rfl] at a ⊢
  rw [bf] at a
  have e:=ih [[116,97,107,101,115],Eg x.Hc,[121,105,101,108,100,115]] b
  rw [Xg (by omega),ca,i _ (by omega),qj]
end Go.Y
namespace Go.Y
open Go.bc Go.Dc
theorem xp {w:mb} (h:sh w):w.length≤12:=by
 have h:=h 20 (Nat.le_refl _)
 rw [tg] at h
 have bad:Yj 20 w true≠some true:=fun h=>by cases h
 split at h
 ·exact absurd h bad
 ·split at h
  ·exact absurd h bad
  ·omega
theorem qG (k:Int):(ch k).length≤3:=by
 unfold ch
 have d:∀ (c:Prop) [Decidable c] (a b:mb),a.length≤3→b.length≤3→(if c then a else b).length≤3:=by
  intro c _ a b e f
  split <;> assumption
 repeat' (first | (refine d _ _ _ (by decide) ?_) | decide)
theorem XA {N:Int} (a:0≤N) (b:N≤999999999999999):(Lib.itoa N).length≤15:=by
 rw [Jx a]
 exact Xx 14 _ (by omega)
theorem js {α:Type} (f:α→List mb) (g:α→Nat) (c:Nat):∀ (l:List α),(∀ y ∈ l,lw (f y)≤100*g y+c)→lw (l.map f).flatten≤100*(l.map g).sum+c*l.length
 | [],_=>by simp [lw]
 | y::l,h=>by
  rw [List.map_cons,List.flatten_cons,bf,List.map_cons,List.sum_cons,List.length_cons]
  have b:=h y (List.mem_cons_self ..)
  have d:=js f g c l fun z a=>h z (List.mem_cons_of_mem _ a)
  rw [Nat.mul_add,Nat.mul_add]
  omega
theorem bJ {f:ua→List mb} {g:ua→Nat} {l:List ua} (h:∀ y ∈ l,lw (f y)≤100*g y) (b:l.length≤6):lw (Ch f l)≤100*(l.map g).sum+16:=by
 have c:=js (fun x=>[44]::f x) g 2 l fun y a=>by
  have:=h y a
  show lw ([44]::f y)≤_
  rw [lw]
  simp
  omega
 have e:lw (Ch f l)≤4+lw (l.map fun x=>[44]::f x).flatten:=by
  cases l with
  | nil=>simp [Ch,lw]
  | cons x l =>
   rw [Ch,lw,bf,bf,List.map_cons,List.flatten_cons,bf,lw,Ti]
   simp [lw]
   omega
 omega
theorem cJ:∀ (k i:Nat) (x:ua),Hp k x→lw (pd k i x)≤100*Mg k x:=by
 intro k
 induction k with
 | zero=>intro i x h; exact h.elim
 | succ k b =>
  intro i x m
  obtain ⟨p,q,n,j,-,d,e⟩:=m
  have r:=bJ (f:=pd k 1) (g:=Mg k) (l:=x.Kids) (fun y o=>b 1 y (e y o)) n.le
  have key:lw (gh (pd k) x)≤100*(x.Kids.map (Mg k)).sum+60:=by
   have s:=qG x.Kind
   unfold gh
   split
   ·rename_i c
    have:=XA (j c).1 (j c).2
    simp [lw]; omega
   split
   ·rw [lw,lw]; split <;> simp <;> omega
   split
   ·rename_i c
    have:=xp (d (.inl c))
    simp [lw]; omega
   split
   ·cases h:x.Kids with
    | nil=>simp [lw]; omega
    | cons a t =>
     have:=b 6 a (e a (by simp [h]))
     simp [lw]; omega
   split
   ·cases h:x.Kids with
    | nil=>simp [lw]
    | cons a t =>
     cases t with
     | nil=>simp [lw]
     | cons c t =>
      have sa:=b (if own x.Kind=3 then 4 else own x.Kind) a (e a (by simp [h]))
      have u:=b (own x.Kind+1) c (e c (by simp [h]))
      simp only [bf,lw,List.map_cons,List.sum_cons]
      omega
   split
   ·rename_i c
    have:=xp (d (.inr (.inr (.inl c))))
    rw [lw]; omega
   split
   ·rename_i c
    have:=xp (d (.inr (.inl c)))
    simp [lw]; omega
   split
   ·simp [lw]; omega
   split
   ·rename_i c
    have:=xp (d (.inr (.inr (.inr c))))
    simp [lw]; omega
   split
   ·simp [lw]; omega
   ·simp [lw]; omega
  rw [pd,Mg]
  split
  ·rw [lw,bf]
   simp [lw]
   omega
  ·omega
theorem dJ:∀ (k:Nat) (x:Wa),Kk k x→lw (sf k x)≤100*we k x:=by
 intro k
 induction k with
 | zero=>intro x h; exact h.elim
 | succ k g =>
  intro x i
  obtain ⟨p,q,j,m,e,n⟩:=i
  have a:∀ l:List Wa,(∀ y ∈ l,Kk k y)→lw (wg (sf k) l)≤100*(l.map (we k)).sum+4:=by
   intro l qa
   have:=js (sf k) (we k) 0 l fun y o=>g y (qa y o)
   rw [wg,lw,bf]
   simp [lw]
   omega
  have f:x.Kind≠6→lw (pd k 1 x.X)≤100*Mg k x.X:=fun h=>cJ k 1 x.X (j h)
  have b:x.Kind=1∨x.Kind=2∨x.Kind=7→x.Name.length≤12:=fun h=>xp (m h)
  rw [sf,we]
  by_cases Tc:x.Kind=6
  ·rw [if_neg (by omega),if_neg (by omega),if_neg (by omega),if_neg (by omega),if_neg (by omega),if_pos Tc]
   simp [lw]; omega
  have f:=f Tc
  simp only [if_neg Tc]
  by_cases c3:x.Kind=3
  ·have U:=a x.Body (e (.inl c3)).2
   have r:=a x.jd (n c3).2
   rw [if_pos c3,if_pos (show x.Kind=3∨x.Kind=4 from .inl c3),if_pos c3,lw,bf,bf]
   split
   ·simp [lw]; omega
   ·simp [lw]; omega
  rw [if_neg c3]
  by_cases c4:x.Kind=4
  ·have U:=a x.Body (e (.inr c4)).2
   rw [if_pos c4,if_pos (show x.Kind=3∨x.Kind=4 from .inr c4),if_neg c3,lw,bf]
   simp; omega
  rw [if_neg c4,if_neg (show ¬ (x.Kind=3∨x.Kind=4) by omega),if_neg c3]
  by_cases c:x.Kind=1
  ·have:=b (.inl c)
   rw [if_pos c]
   simp only [lw,bf,List.length_cons,List.length_nil]; omega
  rw [if_neg c]
  by_cases c2:x.Kind=2
  ·have:=b (.inr (.inl c2))
   rw [if_pos c2]
   simp only [lw,bf,List.length_cons,List.length_nil]; omega
  rw [if_neg c2]
  by_cases d:x.Kind=7
  ·have:=b (.inr (.inr d))
   rw [if_pos d]
   simp only [lw,bf,List.length_cons,List.length_nil]; omega
  rw [if_neg d,lw,bf]
  split
  ·simp only [lw,List.length_cons,List.length_nil]; omega
  split
  ·simp only [lw,List.length_cons,List.length_nil]; omega
  ·simp only [lw,List.length_cons,List.length_nil]; omega
theorem bw {t:Ya} (h:Lk t):(Eg t).length≤12:=by
 obtain ⟨⟨b,c⟩,a⟩:=h
 rw [Eg]
 split
 ·decide
 ·split
  ·decide
  ·exact xp (a (by omega))
theorem eJ {x:va} (c:sl x):lw (fj x)≤100*Nk x+400:=by
 have o:=xp c.Fg
 have k1:=c.k1
 have Af:=c.Af
 have g:x.Kind≠1→lw (wg (sf 39) x.Body)≤100*(x.Body.map (we 39)).sum+4:=by
  intro f
  have:=js (sf 39) (we 39) 0 x.Body fun y k=>dJ 39 y ((c.Rf f).2 y k)
  rw [wg,lw,bf]
  simp [lw]
  omega
 have h:x.Kind=2∨x.Kind=3→lw (Fm x.Params)≤4+28*6:=by
  intro f
  obtain ⟨p,i⟩:=c.cg f
  have m:=js (fun q:TParam=>[44]::q.Name::[Eg q.zb]) (fun _=>0) 28 x.Params fun q j=>by
   have a:=xp (i q j).1
   have b:=bw (i q j).2
   simp [lw]; omega
  have hb:(x.Params.map fun _=>0).sum=0:=by
   generalize x.Params=P
   induction P with
   | nil=>rfl
   | cons q P n=>simpa using n
  rw [hb] at m
  have e:lw (Fm x.Params)≤4+lw (x.Params.map fun q:TParam=>[44]::q.Name::[Eg q.zb]).flatten:=by
   cases x.Params with
   | nil=>simp [Fm,lw]
   | cons q l =>
    simp only [Fm,Pj,lw,bf,List.map_cons,List.flatten_cons,List.length_cons,List.length_nil]
    omega
  omega
 unfold fj
 rw [Nk]
 by_cases d:x.Kind=1
 ·have a:=bw (c.ty (by omega))
  obtain ⟨kb,Ib⟩:=c.Nh d
  have b:=XA (N:=x.oe) (by omega) (by omega)
  rw [if_pos d]
  simp only [lw,List.length_cons,List.length_nil]
  omega
 have g:=g d
 rw [if_neg d,if_pos d]
 by_cases c4:x.Kind=4
 ·rw [if_pos c4]
  simp only [lw,List.length_cons,List.length_nil]
  omega
 have h:=h (by omega)
 have a:=bw (c.ty c4)
 rw [if_neg c4]
 by_cases c2:x.Kind=2
 ·rw [if_pos c2]
  simp only [lw,bf,List.length_cons,List.length_nil]
  omega
 ·have b:=bw (c.Mh (by omega))
  rw [if_neg c2]
  simp only [lw,bf,List.length_cons,List.length_nil]
  omega
theorem fJ {l:List va} (qa:l.length≤30) (a:∀ x ∈ l,sl x) (c:(l.map Nk).sum≤2000):lw (Vj l)≤300000:=by
 have:=js fj Nk 400 l fun x b=>eJ (a x b)
 rw [Vj]
 omega
theorem iE {fu:Nat} (d:200≤fu) {l:List va} (qa:l.length≤30) (e:∀ x ∈ l,sl x):∀ (m i:Nat) (b:mb),i≤l.length→l.length<m+i→b.length+lw (((l.drop i).map fj).flatten)≤4294967296 →
  Rp fu l m i b=some (if 6000<(Cd b ((l.drop i).map fj).flatten).length then ([],⟨4,0⟩) else (Cd b ((l.drop i).map fj).flatten,⟨0,0⟩)):=by
 intro m
 induction m with
 | zero=>intro i b f g; omega
 | succ m j =>
  intro i b f g a
  rw [Rp]
  by_cases c:i<l.length
  ·rw [if_pos (by omega),Rd,List.getElem?_eq_getElem c,ca]
   rw [List.drop_eq_getElem_cons c,List.map_cons,List.flatten_cons] at a ⊢
   rw [bf] at a
   have k:=ih (fj l[i]) b
   rw [wH d (e _ (List.getElem_mem c)) (by omega),ca,Cc (by omega),ca,show ((i:Int)+1)=((i+1:Nat):Int) from rfl,j (i+1) _ (by omega) (by omega) (by omega),qj]
  ·rw [if_neg (by omega),List.drop_eq_nil_of_le (by omega),jq,ca]
   simp only [List.map_nil,List.flatten_nil,Cd]
   by_cases h:6000<b.length
   ·rw [if_pos (by omega),if_pos h]
   ·rw [if_neg (by omega),if_neg h]
theorem rG {l:List va}:∀ w t,Vj l=w::t→w≠[]:=by
 intro w t h
 cases l with
 | nil=>cases h
 | cons x l =>
  rw [Vj,List.map_cons,List.flatten_cons] at h
  unfold fj at h
  split at h
  ·simp only [List.cons_append,List.cons.injEq] at h; rw [← h.1]; simp
  split at h
  ·simp only [List.cons_append,List.cons.injEq] at h; rw [← h.1]; simp
  split at h
  ·simp only [List.cons_append,List.cons.injEq] at h; rw [← h.1]; simp
  ·simp only [List.cons_append,List.cons.injEq] at h; rw [← h.1]; simp
theorem sG {fu:Nat} (c:300≤fu) (l:List va):∃ f,Fj fu l=some f∧((f.Ue≠0∧bq fu l=some ([],f))∨(f.Ue=0∧Iw l∧bq fu l=some (if 6000<(Dh (Vj l)).length then ([],⟨4,0⟩) else (Dh (Vj l),⟨0,0⟩)))):=by
 obtain ⟨f,a,d⟩:=kt fu (by omega) l
 refine ⟨f,a,?_⟩
 by_cases z:f.Ue=0
 ·obtain ⟨-,ok⟩:=d z
  obtain ⟨qa,b⟩:=VB c a z
  refine .inr ⟨z,ok,?_⟩
  have g:=fJ qa b ok.n
  have:=iE (fu:=fu) (by omega) qa b (l.length+1) 0 [] (by omega) (by omega) (by rw [List.drop_zero]; unfold Vj at g; simp; omega)
  rw [bq,a,ca,if_neg (by simpa using z)]
  show Rp fu l (l.length+1) ((0:Nat):Int) []=_
  rw [this,List.drop_zero]
  have e:Cd [] (l.map fj).flatten=Dh (Vj l):=nI rG
  rw [e]
 ·exact .inl ⟨z,by rw [bq,a,ca,if_pos z]⟩
end Go.Y
namespace Go.Y
open Go.bc Go.Dc
structure Oo (r:Wg):Prop where
 b:r.Hg.length≤4294967296
 u:r.Tf.length≤4294967296
 e:∀ x ∈ r.Tf,x.ij.length≤200∧x.Code.length≤4000
theorem Oo.nil:Oo ⟨[],[]⟩:=⟨by decide,by decide,fun x h=>absurd h (by simp)⟩
theorem zB {α:Type} {a b c:List α} (h:app a b=some c):c=a++b∧a.length+b.length≤4294967296:=by
 unfold app at h
 split at h
 ·exact ⟨(Option.some.inj h).symm,by assumption⟩
 ·cases h
theorem zD {fu:Nat} {l:List va} {B g:List (Nm×Int)} {D:List (Nm×va)} {Oh:List zi} (o:Oh.length≤4294967296) {r:Wg} {f:Vc}:∀ (m:Nat) (i:Int) (us:List Hh),us.length≤4294967296→(∀ x ∈ us,x.ij.length≤200∧x.Code.length≤4000)→zl fu l B g D Oh m i us=some (r,f)→Oo r:=by
 intro m
 induction m with
 | zero=>intro i us _ _ h; cases h
 | succ m k =>
  intro i us n d h
  rw [zl] at h
  split at h
  ·obtain ⟨x,-,h⟩:=mf h
   split at h
   ·obtain ⟨j,-,h⟩:=mf h
    exact k j us n d h
   ·obtain ⟨x,-,h⟩:=mf h
    obtain ⟨y,-,h⟩:=mf h
    have Qe:∀ b,(b=false→y.ij.length≤200∧y.Code.length≤4000)→So i us y (zl fu l B g D Oh m) b=some (r,f)→Oo r:=by
     intro b p h
     rw [So] at h
     split at h
     ·obtain ⟨e,-⟩:=Prod.mk.inj (Option.some.inj h)
      rw [← e]
      exact Oo.nil
     ·rename_i q
      obtain ⟨t,e,h⟩:=mf h
      obtain ⟨j,-,h⟩:=mf h
      obtain ⟨rfl,s⟩:=zB e
      refine k j _ (by rw [List.length_append]; exact s) (fun z a=>?_) h
      rcases List.mem_append.1 a with a | a
      ·exact d z a
      ·rw [List.mem_singleton.1 a]
       exact p (by simpa using q)
    split at h
    ·exact Qe true (fun h=>by cases h) h
    ·rename_i c
     exact Qe _ (fun h=>⟨by omega,by have:=of_decide_eq_false h; omega⟩) h
  ·obtain ⟨e,-⟩:=Prod.mk.inj (Option.some.inj h)
   rw [← e]
   exact ⟨o,n,d⟩
theorem AD {fu:Nat} {l:List va} {r:Wg} {f:Vc}:∀ (m:Nat) (i:Int) (B a:List (Nm×Int)) (D:List (Nm×va)) (Oh:List zi),Oh.length≤4294967296→Vl fu l m i B a D Oh=some (r,f)→Oo r:=by
 intro m
 induction m with
 | zero=>intro i B a D Oh _ h; cases h
 | succ m b =>
  intro i B a D Oh c h
  rw [Vl] at h
  split at h
  ·obtain ⟨x,-,h⟩:=mf h
   obtain ⟨x,-,h⟩:=mf h
   obtain ⟨x,-,h⟩:=mf h
   split at h
   ·obtain ⟨x,-,h⟩:=mf h
    rw [Ys] at h
    obtain ⟨x,-,h⟩:=mf h
    obtain ⟨x,-,h⟩:=mf h
    obtain ⟨x,-,h⟩:=mf h
    obtain ⟨g,e,h⟩:=mf h
    obtain ⟨rfl,d⟩:=zB e
    rw [Xs] at h
    obtain ⟨j,-,h⟩:=mf h
    exact b j _ _ _ _ (by rw [List.length_append]; exact d) h
   ·obtain ⟨x,-,h⟩:=mf h
    rw [Zs] at h
    obtain ⟨j,-,h⟩:=mf h
    exact b j _ _ _ _ c h
  ·exact zD c (l.length+1) 0 [] (by simp) (fun x h=>absurd h (by simp)) h
theorem EF {fu:Nat} {l:List va} {r:Wg} {f:Vc} (h:rn fu l=some (r,f)):Oo r:=by
 rw [rn] at h
 obtain ⟨x,-,h⟩:=mf h
 split at h
 ·rw [Iq] at h
  obtain ⟨e,-⟩:=Prod.mk.inj (Option.some.inj h)
  rw [← e]
  exact Oo.nil
 ·exact AD _ _ _ _ _ _ (by simp) h
theorem VE {l:List Int} (qa:l.length≤4294967296):Qt l l=some true:=by
 have L:∀ (m i:Nat),i≤l.length→l.length<m+i→Ir l l m i=some true:=by
  intro m
  induction m with
  | zero=>intro i a b; omega
  | succ m d =>
   intro i a b
   rw [Ir]
   by_cases c:i<l.length
   ·rw [if_pos (by omega),Rd,List.getElem?_eq_getElem c,ca,ca,if_neg (by simp),Cc (by omega),ca]
    exact d (i+1) (by omega) (by omega)
   ·rw [if_neg (by omega)]
 rw [Qt,if_neg (by simp)]
 exact L (l.length+1) 0 (by omega) (by omega)
theorem cD {l:List Bc} (qa:l.length≤4294967296) {j:Int} (a:i64 (j+1)=some (j+1)) (K:Int→Option Bool):∀ (m i:Nat),i≤l.length→l.length<m+i→Jr j l l K m i=K (j+1):=by
 intro m
 induction m with
 | zero=>intro i b d; omega
 | succ m e =>
  intro i b d
  rw [Jr]
  by_cases c:i<l.length
  ·rw [if_pos (by omega),Rd,List.getElem?_eq_getElem c,ca,ca,if_pos (by simp [Mi]),Cc (by omega),ca]
   exact e (i+1) (by omega) (by omega)
  ·rw [if_neg (by omega),a,ca]
theorem jE {r:Wg} (g:Oo r):Rt r r=some true:=by
 have n:=g.b
 have o:=g.u
 have h:∀ (m i:Nat),i≤r.Tf.length→r.Tf.length<m+i→vn r r m i=some true:=by
  intro m
  induction m with
  | zero=>intro i a d; omega
  | succ m f =>
   intro i a d
   rw [vn]
   by_cases c:i<r.Tf.length
   ·obtain ⟨sa,p⟩:=g.e _ (List.getElem_mem c)
    rw [if_pos (by omega),Rd,List.getElem?_eq_getElem c,ca,ca,vv,if_neg (by simp),if_neg (by simp),if_neg (by simp),if_neg (by simp),VE (by omega),ca,if_pos rfl,decide_eq_false (by simp),vo,if_neg (by decide)]
    have:=cD (l:=r.Tf[i].Code) (by omega) (j:=i) (Cc (by omega)) (vn r r m) (r.Tf[i].Code.length+1) 0 (by omega) (by omega)
    refine this.trans ?_
    exact f (i+1) (by omega) (by omega)
   ·rw [if_neg (by omega)]
 have k:∀ (m i:Nat),i≤r.Hg.length→r.Hg.length<m+i→Kr r r m i=some true:=by
  intro m
  induction m with
  | zero=>intro i a d; omega
  | succ m f =>
   intro i a d
   rw [Kr]
   by_cases c:i<r.Hg.length
   ·rw [if_pos (by omega),Rd,List.getElem?_eq_getElem c,ca,ca,if_pos (by simp [Mi]),Cc (by omega),ca]
    exact f (i+1) (by omega) (by omega)
   ·rw [if_neg (by omega)]
    exact h (r.Tf.length+1) 0 (by omega) (by omega)
 rw [Rt,if_neg (by simp),decide_eq_false (by simp),vt,if_neg (by decide)]
 exact k (r.Hg.length+1) 0 (by omega) (by omega)
theorem dD (k:Nat):Mv (k+60001)=some true:=by kernel_rfl
theorem BD (k:Nat) (l:List va) (qa:Gu k l):Gt (k+60001) l=some true:=by
 obtain ⟨f,a,b⟩:=sG (fu:=k+60001) (by omega) l
 rw [Gt,dD,ca,if_pos rfl]
 rcases b with ⟨z,h⟩ | ⟨z,ok,h⟩
 ·rw [h,ca,if_pos z]
 ·rw [h,ca]
  by_cases c:6000<(Dh (Vj l)).length
  ·rw [if_pos c,if_pos (by decide)]
  ·rw [if_neg c,if_neg (by simp)]
   obtain ⟨r,d,sa,-⟩:=MC (fu:=k+60001) (by omega) (l.map (jf k))
   rw [TE (by omega) qa a z (by omega),ca,if_neg (by simp),gH (k+60001) k l (by omega) qa,ca,sa,ca,ca,if_pos (by simp [Mi]),jE (EF sa),ca]
end Go.Y
