/- Texts of SynTurns Pm. -/
import Derived.Test.YtbdiobhgejmgoaaGreatDoorCMd
import Derived.Test.YtbdiobhgejmgoaaGreatDoorCPl
import Derived.Lib.ItoaNum
import Derived.Lib.ParseIntBCases
import Derived.KernelRfl
set_option linter.unusedSimpArgs false
set_option linter.unusedVariables false
set_option linter.unusedSectionVars false
namespace Go.Y
def Wl:Nat→wa→Prop
 | 0,_=>False
 | k+1,x=>x.Kids.length≤2513169434916∧∀ y ∈ x.Kids,Wl k y
def Xl:Nat→ib→Prop
 | 0,_=>False
 | k+1,s=>Wl k s.X∧(s.Body.length≤1099511627776∧∀ y ∈ s.Body,Xl k y)∧(s.Nc.length≤1099511627776∧∀ y ∈ s.Nc,Xl k y)
def Wr (k:Nat) (d:sb):Prop:=d.Params.length≤3518437208883∧d.Body.length≤1099511627776∧∀ y ∈ d.Body,Xl k y
def gp (k:Nat) (l:List sb):Prop:=l.length≤1099511627776∧∀ d ∈ l,Wr k d
theorem Wl.up:∀ {k m:Nat}{x:wa},Wl k x→k≤m→Wl m x
 | 0,m,x,h,a=>by cases h
 | k+1,0,x,h,a=>by omega
 | k+1,m+1,x,h,a=>⟨h.1,fun y b=>(h.2 y b).up (by omega)⟩
end Go.Y
namespace Go.Y
open Go.Sb Go.ec
abbrev Nm:=List UInt8
def ae (t:zc):zc:=if t.Kind≠3 then ⟨t.Kind,[]⟩ else t
theorem xA {t:zc}:(ae t).Kind=t.Kind:=by
 unfold ae;split<;>rfl
def nk {α:Type}(R:α→α→Prop) (l a:List α):Prop:=a.length=l.length∧∀ (i:Nat) (y:α),l[i]?=some y→∃ b,a[i]?=some b∧R y b
theorem nk.at {α:Type}{R:α→α→Prop}{l a:List α}(h:nk R l a){i:Nat}(c:i<l.length):∃ b:i<a.length,R l[i] a[i]:=by
 have b:i<a.length:=by rw [h.1];exact c
 obtain ⟨d,e,r⟩:=h.2 i _ (List.getElem?_eq_getElem c);rw [List.getElem?_eq_getElem b] at e;obtain rfl:=Option.some.inj e;exact ⟨b,r⟩
theorem Sf {α β:Type}{f:α→Option β}:Option.bind (none:Option α) f=none:=rfl
theorem iC {α β:Type}{f:α→List β}{l:List α}{b:β}(h:b ∈ (l.map f).flatten):∃ a ∈ l,b ∈ f a:=by
 obtain ⟨q,c,d⟩:=List.mem_flatten.1 h;obtain ⟨a,e,rfl⟩:=List.mem_map.1 c;exact ⟨a,e,d⟩
theorem two {α:Type}{l:List α}(h:l.length=2):∃ a b,l=[a,b]:=by
 match l,h with
 | [a,b],_=>exact ⟨a,b,rfl⟩
theorem one {α:Type}{l:List α}(h:l.length=1):∃ a,l=[a]:=by
 match l,h with
 | [a],_=>exact ⟨a,rfl⟩
theorem tn {α:Type}{l xs:List α}(h:l.length+xs.length≤4294967296):app l xs=some (l++xs):=if_pos h
def de:Nat→wa→wa
 | 0,x=>x
 | k+1,x=>wa.mk x.Kind (if x.Kind=1∨x.Kind=2 then x.N else 0) (if x.Kind=3∨x.Kind=20∨x.Kind=19∨x.Kind=22 then x.Name else []) (x.Kids.map (de k))
def Cd:Nat→ib→ib
 | 0,s=>s
 | k+1,s=>ib.mk s.Kind (if s.Kind=1∨s.Kind=2∨s.Kind=7 then s.Name else []) (if s.Kind≠6 then de k s.X else wa.mk 0 0 [] []) (if s.Kind=3∨s.Kind=4 then s.Body.map (Cd k) else []) (if s.Kind=3 then s.Nc.map (Cd k) else [])
def Dd (k:Nat) (d:sb):sb:=sb.mk d.Kind d.Name (if d.Kind≠4 then ae d.Rb else zc.mk 0 []) (if d.Kind=3 then ae d.Bd else zc.mk 0 []) (if d.Kind=1 then d.re else 0)
 (if d.Kind=2∨d.Kind=3 then d.Params.map (fun q=>TParam.mk q.Name (ae q.Rb)) else []) (if d.Kind=1 then [] else d.Body.map (Cd k))
theorem Wu (t:zc):Jo t=some (ae t):=by
 rw [Jo,ae];split
 ·rfl
 ·cases t;rfl
theorem qt {α:Type}{B:Nat}{l xs:List α}(h:l.length+xs.length≤B):Zj B l xs=some (l++xs):=if_pos h
theorem lD:∀ (n k:Nat) (x:wa),k≤n→Wl k x→(mm n).xk x=some (de k x):=by
 intro n
 induction n with
 | zero =>
  intro k x l a;obtain rfl:k=0:=by omega
  cases a
 | succ n t =>
  intro k x l a;cases k with
  | zero=>cases a
  | succ k =>
  obtain ⟨w,u⟩:=a;show xk (mm n) x=_;have L:∀ (i:Int) (s:Nm) (m j:Nat) (acc:List wa),j≤x.Kids.length→x.Kids.length<m+j→acc.length≤j→wo (mm n) x i s m j acc=some (wa.mk x.Kind i s (acc++(x.Kids.drop j).map (de k))):=by
   intro i s m
   induction m with
   | zero=>intro j acc l a; omega
   | succ m v =>
    intro j acc g1 g2 g3;rw [wo];by_cases c:j<x.Kids.length
    ·rw [if_pos (by omega),Te,List.getElem?_eq_getElem c,pa,t k x.Kids[j] (by omega) (u _ (List.getElem_mem c)),pa,qt (by simp;omega),pa,zs,Qd (by omega),pa];refine (v (j+1) _ c (by omega) (by simp;omega)).trans ?_;rw [List.drop_eq_getElem_cons c];simp only [List.map_cons,List.append_assoc,List.singleton_append]
    ·rw [if_neg (by omega),List.drop_eq_nil_of_le (by omega)];simp
  have o:∀ (i:Int) (s:Nm),zp (mm n) x i s=some (wa.mk x.Kind i s (x.Kids.map (de k))):=by
   intro i s;have:=L i s (x.Kids.length+1) 0 [] (by omega) (by omega) (by simp);simpa [zp] using this
  have p:∀ i:Int,Ap (mm n) x i=some (wa.mk x.Kind i (if x.Kind=3∨x.Kind=20∨x.Kind=19∨x.Kind=22 then x.Name else []) (x.Kids.map (de k))):=by
   intro i;have e:∀ b,(b=true ↔ x.Kind=3∨x.Kind=20∨x.Kind=19∨x.Kind=22)→Jn (mm n) x i b=some (wa.mk x.Kind i (if x.Kind=3∨x.Kind=20∨x.Kind=19∨x.Kind=22 then x.Name else []) (x.Kids.map (de k))):=by
    intro b d;rw [Jn];by_cases q:b=true
    ·rw [if_pos q,if_pos (d.1 q),o]
    ·rw [if_neg q,if_neg (fun h=>q (d.2 h)),o]
   rw [Ap];by_cases c3:x.Kind=3
   ·rw [if_pos c3];exact e _ (by simp [c3])
   rw [if_neg c3];by_cases c20:x.Kind=20
   ·rw [if_pos c20];exact e _ (by simp [c20])
   rw [if_neg c20];by_cases f:x.Kind=19
   ·rw [if_pos f];exact e _ (by simp [f])
   rw [if_neg f];exact e _ (by simp [c3,c20,f])
  have r:∀ b,(b=true ↔ x.Kind=1∨x.Kind=2)→Bp (mm n) x b=some (de (k+1) x):=by
   intro b d;rw [Bp,de];by_cases q:b=true
   ·rw [if_pos q,if_pos (d.1 q),p]
   ·rw [if_neg q,if_neg (fun h=>q (d.2 h)),p]
  rw [xk];by_cases g:x.Kind=1
  ·rw [if_pos g];exact r _ (by simp [g])
  ·rw [if_neg g];exact r _ (by simp [g])
theorem jC:∀ (n k:Nat) (l:List ib),k+1≤n→l.length≤1099511627776→(∀ y ∈ l,Xl k y)→(vi n).qj l=some (l.map (Cd k)):=by
 intro n
 induction n with
 | zero=>intro k l j; omega
 | succ n o =>
  intro k l j Q F;show qj n (vi n) l=_;have L:∀ (m i:Nat) (acc:List ib),i≤l.length→l.length<m+i→acc.length≤i→Fh n (vi n) l m i acc=some (acc++(l.drop i).map (Cd k)):=by
   intro m
   induction m with
   | zero=>intro i acc j R; omega
   | succ m G =>
    intro i acc g1 g2 g3;rw [Fh];by_cases c:i<l.length
    ·rw [if_pos (by omega),Te,List.getElem?_eq_getElem c,pa];have p:=F _ (List.getElem_mem c);have ew:=fun z (d:z=Cd k l[i])=>(G (i+1) (acc++[z]) c (by omega) (by simp;omega)).trans (show _=some (acc++(l.drop i).map (Cd k)) by
      rw [List.drop_eq_getElem_cons c,d];simp only [List.map_cons,List.append_assoc,List.singleton_append])
     generalize l[i]=y at *;cases k with
     | zero=>cases p
     | succ k =>
     obtain ⟨H,⟨K,M⟩,⟨N,P⟩⟩:=p;have r:∀ (s:Nm) (a b:Int) (t:Nm) (q:List wa) (oe el:List ib),ib.mk y.Kind s (wa.mk a b t q) oe el=Cd (k+1) y→np (i:Int) acc y s a b t q oe (Fh n (vi n) l m) el=some (acc++(l.drop i).map (Cd (k+1))):=by
      intro s a b t q oe el d;rw [np,qt (by simp;omega),pa,Qd (by omega),pa];exact ew _ d
     have u:∀ (s:Nm) (a b:Int) (t:Nm) (q:List wa) (oe:List ib),ib.mk y.Kind s (wa.mk a b t q) oe (if y.Kind=3 then y.Nc.map (Cd k) else [])=Cd (k+1) y→qp (vi n) (i:Int) acc y s a b t q (Fh n (vi n) l m) oe=some (acc++(l.drop i).map (Cd (k+1))):=by
      intro s a b t q oe d;rw [qp];by_cases c3:y.Kind=3
      ·rw [if_pos c3] at d ⊢;rw [o k y.Nc (by omega) N P,pa];exact r _ _ _ _ _ _ _ d
      ·rw [if_neg c3] at d ⊢;exact r _ _ _ _ _ _ _ d
     have x:∀ (s:Nm) (a b:Int) (t:Nm) (q:List wa) (v:Bool),(v=true ↔ y.Kind=3∨y.Kind=4)→ib.mk y.Kind s (wa.mk a b t q) (if y.Kind=3∨y.Kind=4 then y.Body.map (Cd k) else []) (if y.Kind=3 then y.Nc.map (Cd k) else [])=Cd (k+1) y→rp (vi n) (i:Int) acc y s a b t q (Fh n (vi n) l m) v=some (acc++(l.drop i).map (Cd (k+1))):=by
      intro s a b t q v A d;rw [rp];by_cases w:v=true
      ·rw [if_pos (A.1 w)] at d;rw [if_pos w,o k y.Body (by omega) K M,pa];exact u _ _ _ _ _ _ d
      ·rw [if_neg (fun h=>w (A.2 h))] at d;rw [if_neg w];exact u _ _ _ _ _ _ d
     have B:∀ (s:Nm) (a b:Int) (t:Nm) (q:List wa),ib.mk y.Kind s (wa.mk a b t q) (if y.Kind=3∨y.Kind=4 then y.Body.map (Cd k) else []) (if y.Kind=3 then y.Nc.map (Cd k) else [])=Cd (k+1) y→tp (vi n) (i:Int) acc y s (Fh n (vi n) l m) a b t q=some (acc++(l.drop i).map (Cd (k+1))):=by
      intro s a b t q d;rw [tp];by_cases c3:y.Kind=3
      ·rw [if_pos c3];exact x _ _ _ _ _ _ (by simp [c3]) d
      ·rw [if_neg c3];exact x _ _ _ _ _ _ (by simp [c3]) d
     have C:∀ s:Nm,s=(if y.Kind=1∨y.Kind=2∨y.Kind=7 then y.Name else [])→vp n (vi n) (i:Int) acc y (Fh n (vi n) l m) s=some (acc++(l.drop i).map (Cd (k+1))):=by
      intro s D;rw [vp];by_cases e:y.Kind≠6
      ·rw [if_pos e,lD n k y.X (by omega) H,pa];refine B _ _ _ _ _ ?_;rw [Cd,if_pos e,← D];generalize de k y.X=z;cases z;rfl
      ·rw [if_neg e];refine B _ _ _ _ _ ?_;rw [Cd,if_neg e,← D]
     have g:∀ b,(b=true ↔ y.Kind=1∨y.Kind=2∨y.Kind=7)→vo n (vi n) (i:Int) acc y (Fh n (vi n) l m) b=some (acc++(l.drop i).map (Cd (k+1))):=by
      intro b E;rw [vo];by_cases q:b=true
      ·rw [if_pos q];exact C _ (by rw [if_pos (E.1 q)])
      ·rw [if_neg q];exact C _ (by rw [if_neg (fun h=>q (E.2 h))])
     by_cases f:y.Kind=1
     ·rw [if_pos f];exact g _ (by simp [f])
     rw [if_neg f];by_cases c2:y.Kind=2
     ·rw [if_pos c2];exact g _ (by simp [c2])
     rw [if_neg c2];exact g _ (by simp [f,c2])
    ·rw [if_neg (by omega),List.drop_eq_nil_of_le (by omega)];simp
  have:=L (l.length+1) 0 [] (by omega) (by omega) (by simp);simpa [qj] using this
theorem JE (fu k:Nat) (l:List sb) (C:k+1≤fu) (n:gp k l):kr fu l=some (l.map (Dd k)):=by
 have L:∀ (m i:Nat) (acc:List sb),i≤l.length→l.length<m+i→acc.length≤i→xh fu l m i acc=some (acc++(l.drop i).map (Dd k)):=by
  have K:=n.1;intro m
  induction m with
  | zero=>intro i acc e g; omega
  | succ m D =>
   intro i acc g1 g2 g3;rw [xh];by_cases c:i<l.length
   ·rw [if_pos (by omega),Te,List.getElem?_eq_getElem c,pa];obtain ⟨M,E,F⟩:=n.2 _ (List.getElem_mem c);have ew:=fun z (d:z=Dd k l[i])=>(D (i+1) (acc++[z]) c (by omega) (by simp;omega)).trans (show _=some (acc++(l.drop i).map (Dd k)) by
     rw [List.drop_eq_getElem_cons c,d];simp only [List.map_cons,List.append_assoc,List.singleton_append])
    generalize l[i]=y at *;have o:∀ (a:Int) (s:Nm) (vg:Int) (oe:List ib) (b:Int) (t:Nm) (Xd:List TParam),sb.mk y.Kind y.Name (zc.mk a s) (zc.mk b t) vg Xd oe=Dd k y→zo (i:Int) acc y a s vg oe b t (xh fu l m) Xd=some (acc++(l.drop i).map (Dd k)):=by
     intro a s vg oe b t Xd d;rw [zo,qt (by simp;omega),pa,Qd (by omega),pa];exact ew _ d
    have p:∀ (a:Int) (s:Nm) (vg:Int) (oe:List ib) (b:Int) (t:Nm) (v:Bool),(v=true ↔ y.Kind=2∨y.Kind=3)→sb.mk y.Kind y.Name (zc.mk a s) (zc.mk b t) vg (if y.Kind=2∨y.Kind=3 then y.Params.map (fun q=>TParam.mk q.Name (ae q.Rb)) else []) oe=Dd k y→Np (i:Int) acc y a s vg oe b t (xh fu l m) v=some (acc++(l.drop i).map (Dd k)):=by
     intro a s vg oe b t v r d;rw [Np];by_cases w:v=true
     ·rw [if_pos (r.1 w)] at d;rw [if_pos w];have G:∀ (m2 j:Nat) (Xd:List TParam),j≤y.Params.length→y.Params.length<m2+j→Xd.length≤j→Ao (i:Int) acc y a s vg oe b t (xh fu l m) m2 j Xd=zo (i:Int) acc y a s vg oe b t (xh fu l m) (Xd++(y.Params.drop j).map (fun q=>TParam.mk q.Name (ae q.Rb))):=by
       intro m2
       induction m2 with
       | zero=>intro j Xd e g; omega
       | succ m2 H =>
        intro j Xd g4 g5 g6;rw [Ao];by_cases c2:j<y.Params.length
        ·rw [if_pos (by omega),Te,List.getElem?_eq_getElem c2,pa,Wu,pa,qt (by simp;omega),pa,Es,Qd (by omega),pa];refine (H (j+1) _ c2 (by omega) (by simp;omega)).trans ?_;rw [List.drop_eq_getElem_cons c2];simp only [List.map_cons,List.append_assoc,List.singleton_append]
        ·rw [if_neg (by omega),List.drop_eq_nil_of_le (by omega)];simp
      have:=G (y.Params.length+1) 0 [] (by omega) (by omega) (by simp);simp only [List.drop_zero,List.nil_append] at this;rw [show ((0:Nat):Int)=0 from rfl] at this;rw [this];exact o _ _ _ _ _ _ _ d
     ·rw [if_neg (fun h=>w (r.2 h))] at d;rw [if_neg w];exact o _ _ _ _ _ _ _ d
    have u:∀ (a:Int) (s:Nm) (vg:Int) (oe:List ib) (b:Int) (t:Nm),sb.mk y.Kind y.Name (zc.mk a s) (zc.mk b t) vg (if y.Kind=2∨y.Kind=3 then y.Params.map (fun q=>TParam.mk q.Name (ae q.Rb)) else []) oe=Dd k y→Pp (i:Int) acc y a s vg oe (xh fu l m) b t=some (acc++(l.drop i).map (Dd k)):=by
     intro a s vg oe b t d;rw [Pp];by_cases c2:y.Kind=2
     ·rw [if_pos c2];exact p _ _ _ _ _ _ _ (by simp [c2]) d
     ·rw [if_neg c2];exact p _ _ _ _ _ _ _ (by simp [c2]) d
    have x:∀ (a:Int) (s:Nm) (vg:Int) (oe:List ib),zc.mk a s=(if y.Kind≠4 then ae y.Rb else zc.mk 0 [])→vg=(if y.Kind=1 then y.re else 0)→oe=(if y.Kind=1 then [] else y.Body.map (Cd k))→Qp (i:Int) acc y a s (xh fu l m) vg oe=some (acc++(l.drop i).map (Dd k)):=by
     intro a s vg oe e g A;rw [Qp];by_cases c3:y.Kind=3
     ·rw [if_pos c3,Wu,pa];refine u _ _ _ _ _ _ ?_;rw [Dd,e,g,A,if_pos c3]
     ·rw [if_neg c3];refine u _ _ _ _ _ _ ?_;rw [Dd,e,g,A,if_neg c3]
    have B:∀ (a:Int) (s:Nm),zc.mk a s=(if y.Kind≠4 then ae y.Rb else zc.mk 0 [])→Rp fu (i:Int) acc y (xh fu l m) a s=some (acc++(l.drop i).map (Dd k)):=by
     intro a s e;rw [Rp];by_cases f:y.Kind=1
     ·rw [if_pos f];exact x _ _ _ _ e (by rw [if_pos f]) (by rw [if_pos f])
     ·rw [if_neg f,jC fu k y.Body C E F,pa];exact x _ _ _ _ e (by rw [if_neg f]) (by rw [if_neg f])
    by_cases c4:y.Kind≠4
    ·rw [if_pos c4,Wu,pa];exact B _ _ (by rw [if_pos c4])
    ·rw [if_neg c4];exact B _ _ (by rw [if_neg c4])
   ·rw [if_neg (by omega),List.drop_eq_nil_of_le (by omega)];simp
 have:=L (l.length+1) 0 [] (by omega) (by omega) (by simp);simpa [kr] using this
def cu:Nat→wa→wa→Prop
 | 0,_,_=>False
 | k+1,x,a=>a.Kind=x.Kind∧(x.Kind=1∨x.Kind=2→a.N=x.N)∧(x.Kind=3∨x.Kind=20∨x.Kind=19∨x.Kind=22→a.Name=x.Name)∧nk (cu k) x.Kids a.Kids
def hp:Nat→ib→ib→Prop
 | 0,_,_=>False
 | k+1,s,a=>a.Kind=s.Kind∧(s.Kind=1∨s.Kind=2∨s.Kind=7→a.Name=s.Name)∧(s.Kind≠6→cu k s.X a.X)∧(s.Kind=3∨s.Kind=4→nk (hp k) s.Body a.Body)∧(s.Kind=3→nk (hp k) s.Nc a.Nc)
theorem nk.map {α:Type}{R:α→α→Prop}{f:α→α}{l:List α}(h:∀ y ∈ l,R y (f y)):nk R l (l.map f):=
 ⟨by simp,fun i y a=>⟨f y,by rw [List.getElem?_map,a];rfl,h y (List.mem_of_getElem? a)⟩⟩
theorem Zw:∀ (k:Nat) (x:wa),Wl k x→cu k x (de k x)
 | 0,x,h=>by cases h
 | k+1,x,h=>⟨rfl,fun c=>by simp only [de]; rw [if_pos c],fun c=>by simp only [de]; rw [if_pos c],nk.map fun y a=>Zw k y (h.2 y a)⟩
theorem Bu:∀ (k:Nat) (x:ib),Xl k x→hp k x (Cd k x)
 | 0,x,h=>by cases h
 | k+1,x,h=>⟨rfl,fun c=>by simp only [Cd]; rw [if_pos c],fun c=>by simp only [Cd]; rw [if_pos c]; exact Zw k _ h.1,fun c=>by simp only [Cd]; rw [if_pos c]; exact nk.map fun y a=>Bu k y (h.2.1.2 y a),fun c=>by simp only [Cd]; rw [if_pos c]; exact nk.map fun y a=>Bu k y (h.2.2.2 y a)⟩
theorem qB:∀ (n k:Nat) (x a:wa) (d node:Int),cu k x a→(se n).Jf node a d=(se n).Jf node x d:=by
 intro n
 induction n with
 | zero=>intro k x a d node h; rfl
 | succ n A =>
  intro k x a d node h;cases k with
  | zero=>cases h
  | succ k =>
  obtain ⟨j,t,p,f⟩:=h;show Jf n (se n) node a d=Jf n (se n) node x d;have L:∀ (m i:Nat) (c:Int),Gh (se n) a d m i c=Gh (se n) x d m i c:=by
   intro m
   induction m with
   | zero=>intro i c; rfl
   | succ m B =>
    intro i c;rw [Gh,Gh,f.1];by_cases q:i<x.Kids.length
    ·obtain ⟨C,r⟩:=f.at q;rw [if_pos (by omega),if_pos (by omega),Te,List.getElem?_eq_getElem C,pa,Te,List.getElem?_eq_getElem q,pa];generalize i64 (d+1)=o;cases o with
     | none=>rw [Sf,Sf]
     | some u =>
      rw [pa,pa,A k x.Kids[i] a.Kids[i] u c r];generalize (se n).Jf c x.Kids[i] u=o;cases o with
      | none=>rw [Sf,Sf]
      | some e =>
       rw [pa,pa];by_cases z:e.1≠0
       ·rw [if_pos z,if_pos z]
       ·rw [if_neg z,if_neg z];by_cases w:(i:Int)+1≤9223372036854775807
        ·rw [Qd (by omega),pa,pa];exact B (i+1) e.2
        ·rw [i64,if_neg (by omega),Sf,Sf]
    ·rw [if_neg (by omega),if_neg (by omega)]
  have s:∀ (r:Int×Int) b,qk (se n) a d r b=qk (se n) x d r b:=by
   intro r b;rw [qk,qk,f.1];have:=L (x.Kids.length+1) 0 r.2;rw [show ((0:Nat):Int)=0 from rfl] at this;rw [this]
  have v:∀ (r:Int×Int) (q:Int) b,rk (se n) a d r q b=rk (se n) x d r q b:=by
   intro r q b;rw [rk,rk,f.1,s,s,s]
  have D:∀ (r:Int×Int) (q:Int) b,kj (se n) a d r q b=kj (se n) x d r q b:=by
   intro r q b;rw [kj,kj,f.1,v,v]
  have E:∀ (r:Int×Int) b,1≤x.Kind→x.Kind≤24→Ij n (se n) a d r (Ef x.Kind) b=Ij n (se n) x d r (Ef x.Kind) b:=by
   intro r b k1 l;rw [Ij,Ij,j];simp only [D];by_cases q:b=true
   ·rw [if_pos q,if_pos q]
   rw [if_neg q,if_neg q];by_cases c3:x.Kind=3
   ·rw [if_pos c3,if_pos c3,p (.inl c3)]
   rw [if_neg c3,if_neg c3];by_cases c20:x.Kind=20
   ·rw [if_pos c20,if_pos c20,p (.inr (.inl c20))]
   rw [if_neg c20,if_neg c20];by_cases c:Ef x.Kind<0
   ·rw [if_pos c,if_pos c,p (.inr (.inr ?_))];unfold Ef at c;split at c
    ·omega
    ·split at c
     ·omega
     ·split at c
      ·omega
      ·omega
   ·rw [if_neg c,if_neg c]
  have F:∀ (r:Int×Int) b,1≤x.Kind→x.Kind≤24→sk n (se n) a d r (Ef x.Kind) b=sk n (se n) x d r (Ef x.Kind) b:=by
   intro r b k1 l;rw [sk,sk,j];simp only [E _ _ k1 l];by_cases q:b=true
   ·rw [if_pos q,if_pos q]
   rw [if_neg q,if_neg q];by_cases c2:x.Kind=2
   ·rw [if_pos c2,if_pos c2,t (.inr c2)]
   ·rw [if_neg c2,if_neg c2]
  have y:∀ (r:Int×Int) b,(b=false→1≤x.Kind∧x.Kind≤24)→Ui n (se n) a d r b=Ui n (se n) x d r b:=by
   intro r b G;rw [Ui,Ui,j,ru];by_cases q:b=true
   ·rw [if_pos q,if_pos q]
   ·obtain ⟨k1,l⟩:=G (by simpa using q);rw [if_neg q,if_neg q,pa,pa];simp only [F _ _ k1 l];by_cases g:x.Kind=1
    ·rw [if_pos g,if_pos g,t (.inl g)]
    ·rw [if_neg g,if_neg g]
  rw [Jf,Jf,j];congr 1;funext r;by_cases z:r.1≠0
  ·rw [if_pos z,if_pos z]
  ·rw [if_neg z,if_neg z];by_cases c:x.Kind<1
   ·rw [if_pos c,if_pos c,y r true fun h=>by cases h]
   ·rw [if_neg c,if_neg c,y r _ fun h=>⟨by omega,by have:=of_decide_eq_false h;omega⟩]
theorem rB:∀ (n:Nat),(∀ (k:Nat) (l f:List ib) (d node:Int),nk (hp k) l f→(te n).Be node f d=(te n).Be node l d)∧(∀ (k:Nat) (x a:ib) (d node:Int),hp k x a→(te n).Mg node a d=(te n).Mg node x d):=by
 intro n
 induction n with
 | zero=>exact ⟨fun _ _ _ _ _ _=>rfl,fun _ _ _ _ _ _=>rfl⟩
 | succ n A =>
  obtain ⟨v,B⟩:=A;refine ⟨fun k l f d node h=>?_,fun k x a d node h=>?_⟩
  ·show Be (te n) node f d=Be (te n) node l d;have L:∀ (m i:Nat) (c:Int),Kk (te n) f d m i c=Kk (te n) l d m i c:=by
    intro m
    induction m with
    | zero=>intro i c; rfl
    | succ m C =>
     intro i c;rw [Kk,Kk,h.1];by_cases q:i<l.length
     ·obtain ⟨D,r⟩:=h.at q;rw [if_pos (by omega),if_pos (by omega),Te,List.getElem?_eq_getElem D,pa,Te,List.getElem?_eq_getElem q,pa,B k l[i] f[i] d c r];generalize (te n).Mg c l[i] d=o;cases o with
      | none=>rw [Sf,Sf]
      | some e =>
       rw [pa,pa];by_cases z:e.1≠0
       ·rw [if_pos z,if_pos z]
       ·rw [if_neg z,if_neg z];by_cases w:(i:Int)+1≤9223372036854775807
        ·rw [Qd (by omega),pa,pa];exact C (i+1) e.2
        ·rw [i64,if_neg (by omega),Sf,Sf]
     ·rw [if_neg (by omega),if_neg (by omega)]
   rw [Be,Be,h.1];have:=L (l.length+1) 0 node;rw [show ((0:Nat):Int)=0 from rfl] at this;rw [this]
  ·show Mg n (te n) node a d=Mg n (te n) node x d;cases k with
   | zero=>cases h
   | succ k =>
   obtain ⟨t,u,E,F,G⟩:=h;have H:∀ c,Mk (te n) a d c=Mk (te n) x d c:=by
    intro c;rw [Mk,Mk,t];by_cases c3:x.Kind=3
    ·rw [if_pos c3,if_pos c3];generalize i64 (d+1)=o;cases o with
     | none=>rw [Sf,Sf]
     | some g=>rw [pa,pa,v k x.Nc a.Nc g c (G c3)]
    ·rw [if_neg c3,if_neg c3]
   have y:∀ (r:Int×Int) b,(b=true→x.Kind=3∨x.Kind=4)→Nk (te n) a d r b=Nk (te n) x d r b:=by
    intro r b K;rw [Nk,Nk];simp only [H];by_cases q:b=true
    ·rw [if_pos q,if_pos q];generalize i64 (d+1)=o;cases o with
     | none=>rw [Sf,Sf]
     | some g=>rw [pa,pa,v k x.Body a.Body g r.2 (F (K q))]
    ·rw [if_neg q,if_neg q]
   have M:∀ (r:Int×Int) b,lj n (te n) a d r b=lj n (te n) x d r b:=by
    intro r b;rw [lj,lj,t];by_cases q:b=true
    ·rw [if_pos q,if_pos q]
    rw [if_neg q,if_neg q];by_cases j:x.Kind=6
    ·rw [if_pos j,if_pos j]
    rw [if_neg j,if_neg j];generalize i64 (d+1)=o;cases o with
    | none=>rw [Sf,Sf]
    | some g =>
     rw [pa,pa,qB n k x.X a.X g r.2 (E j)];generalize (se n).Jf r.2 x.X g=o;cases o with
     | none=>rw [Sf,Sf]
     | some e =>
      rw [pa,pa];by_cases z:e.1≠0
      ·rw [if_pos z,if_pos z]
      rw [if_neg z,if_neg z];by_cases c3:x.Kind=3
      ·rw [if_pos c3,if_pos c3,y e true fun _=>.inl c3]
      ·rw [if_neg c3,if_neg c3,y e _ fun h=>.inr (of_decide_eq_true h)]
   have N:∀ (r:Int×Int) b,Jj n (te n) a d r b=Jj n (te n) x d r b:=by
    intro r b;rw [Jj,Jj,t];simp only [M];by_cases q:b=true
    ·rw [if_pos q,if_pos q]
    rw [if_neg q,if_neg q];by_cases p:x.Kind=1
    ·rw [if_pos p,if_pos p,u (.inl p)]
    rw [if_neg p,if_neg p];by_cases c2:x.Kind=2
    ·rw [if_pos c2,if_pos c2,u (.inr (.inl c2))]
    rw [if_neg c2,if_neg c2];by_cases s:x.Kind=7
    ·rw [if_pos s,if_pos s,u (.inr (.inr s))]
    ·rw [if_neg s,if_neg s]
   rw [Mg,Mg,t];simp only [N]
theorem Ou (fu:Nat) (t:zc):Oj fu (ae t)=Oj fu t:=by
 have a:=xA (t:=t);have:∀ b,yl fu (ae t) b=yl fu t b:=by
  intro b;rw [yl,yl,a];by_cases c:t.Kind=3
  ·have e:ae t=t:=by rw [ae,if_neg (by simpa using c)]
   rw [e]
  ·rw [if_neg c,if_neg c]
 rw [Oj,Oj,a,this,this]
theorem kC (fu k:Nat) (d:sb) (node:Int) (Ua:Wr k d):Zk fu node (Dd k d)=Zk fu node d:=by
 have a:(Dd k d).Kind=d.Kind:=rfl;have p:(Dd k d).Name=d.Name:=rfl;have s:∀ r:Int×Int,Ok fu (Dd k d) r=Ok fu d r:=by
  intro r;rw [Ok,Ok,a];by_cases c:d.Kind≠1
  ·have f:nk (hp k) d.Body (Dd k d).Body:=by
    show nk (hp k) d.Body (if d.Kind=1 then [] else d.Body.map (Cd k));rw [if_neg c];exact nk.map fun y t=>Bu k y (Ua.2.2 y t)
   rw [if_pos c,if_pos c,(rB fu).1 k d.Body (Dd k d).Body 2 r.2 f]
  ·have u:(Dd k d).re=d.re:=by
    show (if d.Kind=1 then d.re else 0)=d.re;rw [if_pos (Decidable.not_not.1 c)]
   rw [if_neg c,if_neg c,u]
 have x:∀ r:Int×Int,Pk fu (Dd k d) r=Pk fu d r:=by
  intro r;rw [Pk,Pk,a];simp only [s];by_cases c:d.Kind≠4
  ·have g:(Dd k d).Rb=ae d.Rb:=by
    show (if d.Kind≠4 then ae d.Rb else _)=_;rw [if_pos c]
   rw [if_pos c,if_pos c,g,Ou]
  ·rw [if_neg c,if_neg c]
 have j:∀ r:Int×Int,Kj fu (Dd k d) r=Kj fu d r:=by
  intro r;rw [Kj,Kj,a];simp only [x];by_cases c:d.Kind=3
  ·have g:(Dd k d).Bd=ae d.Bd:=by
    show (if d.Kind=3 then ae d.Bd else _)=_;rw [if_pos c]
   rw [if_pos c,if_pos c,g,Ou]
  ·rw [if_neg c,if_neg c]
 have l:∀ (r:Int×Int) b,(b=true→d.Kind=2∨d.Kind=3)→Rk fu (Dd k d) r b=Rk fu d r b:=by
  intro r b f;rw [Rk,Rk];simp only [j];by_cases q:b=true
  ·have n:(Dd k d).Params=d.Params.map (fun q=>TParam.mk q.Name (ae q.Rb)):=by
    show (if d.Kind=2∨d.Kind=3 then _ else _)=_;rw [if_pos (f q)]
   have L:∀ (m i:Nat),Qk fu (Dd k d) r m i=Qk fu d r m i:=by
    intro m
    induction m with
    | zero=>intro i; rfl
    | succ m A =>
     intro i;rw [Qk,Qk,n,List.length_map];by_cases w:i<d.Params.length
     ·rw [if_pos (by omega),if_pos (by omega),Te,List.getElem?_map,List.getElem?_eq_getElem w,Te,List.getElem?_eq_getElem w,pa];simp only [Option.map_some,pa];rw [Ou];generalize De fu d.Params[i].Name=o;cases o with
      | none=>rw [Sf,Sf]
      | some v =>
       rw [pa,pa];by_cases y:v=true
       ·rw [if_pos y,if_pos y];generalize Oj fu d.Params[i].Rb=o;cases o with
        | none=>rw [Sf,Sf]
        | some e =>
         rw [pa,pa];by_cases z:e≠0
         ·rw [if_pos z,if_pos z]
         ·rw [if_neg z,if_neg z];have hle:=Ua.1;rw [Qd (by omega),pa,pa];exact A (i+1)
       ·rw [if_neg y,if_neg y]
     ·rw [if_neg (by omega),if_neg (by omega),j]
   have e:=L (d.Params.length+1) 0;rw [show ((0:Nat):Int)=0 from rfl] at e;rw [if_pos q,if_pos q,n,List.length_map,e]
  ·rw [if_neg q,if_neg q]
 have B:∀ (r:Int×Int) b,Lj fu (Dd k d) r b=Lj fu d r b:=by
  intro r b;rw [Lj,Lj,a,p];by_cases c2:d.Kind=2
  ·rw [if_pos c2,if_pos c2,l r true fun _=>.inl c2]
  ·rw [if_neg c2,if_neg c2,l r _ fun h=>.inr (of_decide_eq_true h)]
 rw [Zk,Zk,a];simp only [B]
theorem yA (fu k:Nat) (l:List sb) (a:gp k l):lh fu (l.map (Dd k))=lh fu l:=by
 have L:∀ (m i:Nat) (c:Int),Lk fu (l.map (Dd k)) m i c=Lk fu l m i c:=by
  intro m
  induction m with
  | zero=>intro i c; rfl
  | succ m b =>
   intro i c;rw [Lk,Lk,List.length_map];by_cases w:i<l.length
   ·rw [if_pos (by omega),if_pos (by omega),Te,List.getElem?_map,List.getElem?_eq_getElem w,Te,List.getElem?_eq_getElem w,pa];simp only [Option.map_some,pa];rw [kC fu k _ c (a.2 _ (List.getElem_mem w))];generalize Zk fu c l[i]=o;cases o with
    | none=>rw [Sf,Sf]
    | some e =>
     rw [pa,pa];by_cases z:e.1≠0
     ·rw [if_pos z,if_pos z]
     ·have:=a.1;rw [if_neg z,if_neg z,Qd (by omega),pa,pa];exact b (i+1) e.2
   ·rw [if_neg (by omega),if_neg (by omega)]
 rw [lh,lh,List.length_map];have:=L (l.length+1) 0 0;rw [show ((0:Nat):Int)=0 from rfl] at this;rw [this]
end Go.Y
namespace Go.Y
open Go.Sb Go.ec
structure lb {α:Type}(A:Option α) (B:Option (Except yb α)):Prop where
 out:∀ r,A=some r→B=some (.ok r)
theorem lb.none {α:Type}{B:Option (Except yb α)}:lb Option.none B:=⟨fun _ h=>by cases h⟩
theorem lb.pure {α:Type}{r:α}:lb (some r) (some (.ok r)):=⟨fun _ h=>by cases h;rfl⟩
theorem lb.bind {α β:Type}{A:Option α}{B:Option (Except yb α)}{f:α→Option β}{g:α→Option (Except yb β)}(h:lb A B) (k:∀ r,lb (f r) (g r)):lb (A.bind f) (pc B g):=⟨fun r b=>by
 cases A with
 | none=>cases b
 | some a =>
  rw [h.out a rfl];exact (k a).out r b⟩
theorem lb.Cf {α β:Type}{A:Option α}{f:α→Option β}{g:α→Option (Except yb β)}(k:∀ r,lb (f r) (g r)):lb (A.bind f) (A.bind g):=⟨fun r b=>by
 cases A with
 | none=>cases b
 | some a=>exact (k a).out r b⟩
theorem lb.ite {α:Type}{c:Prop}[Decidable c]{A a:Option α}{B b:Option (Except yb α)}(d:lb A B) (e:lb a b):lb (if c then A else a) (if c then B else b):=by
 by_cases h:c
 ·rw [if_pos h,if_pos h];exact d
 ·rw [if_neg h,if_neg h];exact e
section
variable {fu:Nat}
theorem zA (p:List (List UInt8)):∀ (n:Nat) (i:Int) (l:List Ca) (e d:Int),lb (Bo p n i l e d) (jm p n i l e d):=by
 intro n
 induction n with
 | zero=>intro i l e d; exact lb.none
 | succ n a =>
  intro i l e d;unfold Bo jm;repeat' first
   | exact lb.none
   | exact lb.pure
   | exact a _ _ _ _
   | refine lb.ite ?_ ?_
   | refine lb.bind ?_ fun r=>?_
   | refine lb.Cf fun r=>?_
theorem Th (p:List (List UInt8)) (l:List Ca) (e d:Int):lb (yh l e d p) (Lf l e d p):=by
 unfold yh Lf;repeat' first
  | exact lb.none
  | exact lb.pure
  | exact zA _ _ _ _ _ _
  | refine lb.ite ?_ ?_
  | refine lb.bind ?_ fun r=>?_
  | refine lb.Cf fun r=>?_
theorem AA (l:List Ca) (e d:Int) (b:Bool):lb (Xp fu l e d b) (gn fu l e d b):=by
 unfold Xp gn;repeat' first
  | exact lb.none
  | exact lb.pure
  | refine lb.ite ?_ ?_
  | refine lb.bind ?_ fun r=>?_
  | refine lb.Cf fun r=>?_
theorem yi (l:List Ca) (e d:Int):lb (Zi fu l e d) (Xg fu l e d):=by
 unfold Zi Xg;repeat' first
  | exact lb.none
  | exact lb.pure
  | exact AA _ _ _ _
  | refine lb.ite ?_ ?_
  | refine lb.bind ?_ fun r=>?_
  | refine lb.Cf fun r=>?_
theorem Pz (l:List Ca) (e d:Int) (b:Bool):lb (Dp l e d b) (Ym l e d b):=by
 unfold Dp Ym;repeat' first
  | exact lb.none
  | exact lb.pure
  | refine lb.ite ?_ ?_
  | refine lb.bind ?_ fun r=>?_
  | refine lb.Cf fun r=>?_
theorem Uk (l:List Ca) (e d:Int):lb (aq l e d) (wk l e d):=by
 unfold aq wk;repeat' first
  | exact lb.none
  | exact lb.pure
  | exact Pz _ _ _ _
  | refine lb.ite ?_ ?_
  | refine lb.bind ?_ fun r=>?_
  | refine lb.Cf fun r=>?_
theorem Ky (l:List Ca) (e d:Int):lb (yn fu l e d) (mi fu l e d):=by
 unfold yn mi;repeat' first
  | exact lb.none
  | exact lb.pure
  | exact yi _ _ _
  | refine lb.ite ?_ ?_
  | refine lb.bind ?_ fun r=>?_
  | refine lb.Cf fun r=>?_
theorem Qz:∀ (n:Nat) (l:List Ca) (e d:Int) (acc:List TParam),lb (tk fu n l e d acc) (Vg fu n l e d acc):=by
 intro n
 induction n with
 | zero=>intro l e d acc; exact lb.none
 | succ n a =>
  intro l e d acc;have j:∀ l e d,lb (Ep fu acc (tk fu n) l e d) (mj fu acc (Vg fu n) l e d):=fun l e d=>by
   unfold Ep mj;repeat' first
    | exact lb.none
    | exact lb.pure
    | exact yi _ _ _
    | exact Ky _ _ _
    | exact a _ _ _ _
    | refine lb.ite ?_ ?_
    | refine lb.bind ?_ fun r=>?_
    | refine lb.Cf fun r=>?_
  unfold tk Vg;repeat' first
   | exact lb.none
   | exact lb.pure
   | exact j _ _ _
   | exact Th _ _ _ _
   | refine lb.ite ?_ ?_
   | refine lb.bind ?_ fun r=>?_
   | refine lb.Cf fun r=>?_
theorem sB (l:List Ca) (e d:Int):lb (bq fu l e d) (sj fu l e d):=by
 unfold bq sj;repeat' first
  | exact lb.none
  | exact lb.pure
  | exact Th _ _ _ _
  | exact Qz _ _ _ _ _
  | refine lb.ite ?_ ?_
  | refine lb.bind ?_ fun r=>?_
  | refine lb.Cf fun r=>?_
theorem Sj (l:List Ca) (e d:Int):lb (Fl l e d) (zi l e d):=by
 unfold Fl zi;repeat' first
  | exact lb.none
  | exact lb.pure
  | refine lb.ite ?_ ?_
  | refine lb.bind ?_ fun r=>?_
  | refine lb.Cf fun r=>?_
structure DG (P:Yj) (Q:zg):Prop where
 expr:∀ (l:List Ca) (e d:Int),lb (P.Yg l e d) (Q.xd l e d)
 level:∀ (l:List Ca) (e d:Int) (k:Int),lb (P.hi l e d k) (Q.sf l e d k)
 unary:∀ (l:List Ca) (e d:Int),lb (P.Yi l e d) (Q.Me l e d)
 Sh:∀ (l:List Ca) (e d:Int),lb (P.Hf l e d) (Q.fg l e d)
 args:∀ (l:List Ca) (e d:Int),lb (P.zm l e d) (Q.Wf l e d)
 fixed:∀ (l:List Ca) (e d:Int) (k c:Int),lb (P.Rj l e d k c) (Q.tf l e d k c)
theorem mD:∀ n,DG (Ac n) (Kc n):=by
 intro n
 induction n with
 | zero=>exact ⟨fun _ _ _=>lb.none,fun _ _ _ _=>lb.none,fun _ _ _=>lb.none,fun _ _ _=>lb.none,fun _ _ _=>lb.none,fun _ _ _ _ _=>lb.none⟩
 | succ n f =>
  refine ⟨fun l e d=>?_,fun l e d k=>?_,fun l e d=>?_,fun l e d=>?_,fun l e d=>?_,fun l e d k c=>?_⟩
  ·show lb (Yg (Ac n) l e d) (xd (Kc n) l e d);unfold Yg xd;repeat' first
    | exact lb.none
    | exact lb.pure
    | exact f.expr _ _ _
    | exact f.level _ _ _ _
    | exact f.unary _ _ _
    | exact f.Sh _ _ _
    | exact f.args _ _ _
    | exact f.fixed _ _ _ _ _
    | exact Th _ _ _ _
    | exact yi _ _ _
    | exact Uk _ _ _
    | exact Sj _ _ _
    | refine lb.ite ?_ ?_
    | refine lb.bind ?_ fun r=>?_
    | refine lb.Cf fun r=>?_
  ·show lb (hi n (Ac n) l e d k) (sf n (Kc n) l e d k);have key:∀ (h:List Xe) (q:Nat) (l:List Ca) (e d a b:Int) (s:List UInt8) (g:List wa),lb (im (Ac n) k h q l e d a b s g) (ti (Kc n) k h q l e d a b s g):=by
    intro h q
    induction q with
    | zero=>intro l e d a b s g; exact lb.none
    | succ q m =>
     intro l e d a b s g;have j:∀ x y l e d g,lb (Fs k h x y (im (Ac n) k h q) l e d g) (an k h x y (ti (Kc n) k h q) l e d g):=fun x y l e d g=>by
      unfold Fs an;repeat' first
       | exact lb.none
       | exact lb.pure
       | exact aA _ _ _ _ _ _ _
       | exact m _ _ _ _ _ _ _
       | refine lb.ite ?_ ?_
       | refine lb.bind ?_ fun r=>?_
       | refine lb.Cf fun r=>?_
     unfold im ti;repeat' first
      | exact lb.none
      | exact lb.pure
      | exact aA _ _ _ _ _ _ _
      | exact j _ _ _ _ _ _
      | exact f.expr _ _ _
      | exact f.level _ _ _ _
      | exact f.unary _ _ _
      | exact f.Sh _ _ _
      | exact f.args _ _ _
      | exact f.fixed _ _ _ _ _
      | exact Th _ _ _ _
      | exact yi _ _ _
      | exact Uk _ _ _
      | exact Sj _ _ _
      | refine lb.ite ?_ ?_
      | refine lb.bind ?_ fun r=>?_
      | refine lb.Cf fun r=>?_
   unfold hi sf;repeat' first
    | exact lb.none
    | exact lb.pure
    | exact key _ _ _ _ _ _ _ _ _
    | exact f.expr _ _ _
    | exact f.level _ _ _ _
    | exact f.unary _ _ _
    | exact f.Sh _ _ _
    | exact f.args _ _ _
    | exact f.fixed _ _ _ _ _
    | exact Th _ _ _ _
    | exact yi _ _ _
    | exact Uk _ _ _
    | exact Sj _ _ _
    | refine lb.ite ?_ ?_
    | refine lb.bind ?_ fun r=>?_
    | refine lb.Cf fun r=>?_
  ·show lb (Yi (Ac n) l e d) (Me (Kc n) l e d);unfold Yi Me;repeat' first
    | exact lb.none
    | exact lb.pure
    | exact f.expr _ _ _
    | exact f.level _ _ _ _
    | exact f.unary _ _ _
    | exact f.Sh _ _ _
    | exact f.args _ _ _
    | exact f.fixed _ _ _ _ _
    | exact Th _ _ _ _
    | exact yi _ _ _
    | exact Uk _ _ _
    | exact Sj _ _ _
    | refine lb.ite ?_ ?_
    | refine lb.bind ?_ fun r=>?_
    | refine lb.Cf fun r=>?_
  ·show lb (Hf n (Ac n) l e d) (fg n (Kc n) l e d);have j:∀ b,lb (yg n (Ac n) l e d b) (jj n (Kc n) l e d b):=fun b=>by
    unfold yg jj;repeat' first
     | exact lb.none
     | exact lb.pure
     | exact f.expr _ _ _
     | exact f.level _ _ _ _
     | exact f.unary _ _ _
     | exact f.Sh _ _ _
     | exact f.args _ _ _
     | exact f.fixed _ _ _ _ _
     | exact Th _ _ _ _
     | exact yi _ _ _
     | exact Uk _ _ _
     | exact Sj _ _ _
     | refine lb.ite ?_ ?_
     | refine lb.bind ?_ fun r=>?_
     | refine lb.Cf fun r=>?_
   unfold Hf fg;repeat' first
    | exact lb.none
    | exact lb.pure
    | exact j _
    | refine lb.ite ?_ ?_
    | refine lb.bind ?_ fun r=>?_
    | refine lb.Cf fun r=>?_
  ·show lb (zm n (Ac n) l e d) (Wf n (Kc n) l e d);have key:∀ (q:Nat) (l:List Ca) (e d:Int) (acc:List wa),lb (Sk (Ac n) q l e d acc) (Wg (Kc n) q l e d acc):=by
    intro q
    induction q with
    | zero=>intro l e d acc; exact lb.none
    | succ q m =>
     intro l e d acc;have j:∀ l e d,lb (Yp (Ac n) acc (Sk (Ac n) q) l e d) (pj (Kc n) acc (Wg (Kc n) q) l e d):=fun l e d=>by
      unfold Yp pj;repeat' first
       | exact lb.none
       | exact lb.pure
       | exact m _ _ _ _
       | exact f.expr _ _ _
       | exact f.level _ _ _ _
       | exact f.unary _ _ _
       | exact f.Sh _ _ _
       | exact f.args _ _ _
       | exact f.fixed _ _ _ _ _
       | exact Th _ _ _ _
       | exact yi _ _ _
       | exact Uk _ _ _
       | exact Sj _ _ _
       | refine lb.ite ?_ ?_
       | refine lb.bind ?_ fun r=>?_
       | refine lb.Cf fun r=>?_
     unfold Sk Wg;repeat' first
      | exact lb.none
      | exact lb.pure
      | exact j _ _ _
      | exact f.expr _ _ _
      | exact f.level _ _ _ _
      | exact f.unary _ _ _
      | exact f.Sh _ _ _
      | exact f.args _ _ _
      | exact f.fixed _ _ _ _ _
      | exact Th _ _ _ _
      | exact yi _ _ _
      | exact Uk _ _ _
      | exact Sj _ _ _
      | refine lb.ite ?_ ?_
      | refine lb.bind ?_ fun r=>?_
      | refine lb.Cf fun r=>?_
   unfold zm Wf;repeat' first
    | exact lb.none
    | exact lb.pure
    | exact key _ _ _ _ _
    | exact f.expr _ _ _
    | exact f.level _ _ _ _
    | exact f.unary _ _ _
    | exact f.Sh _ _ _
    | exact f.args _ _ _
    | exact f.fixed _ _ _ _ _
    | exact Th _ _ _ _
    | exact yi _ _ _
    | exact Uk _ _ _
    | exact Sj _ _ _
    | refine lb.ite ?_ ?_
    | refine lb.bind ?_ fun r=>?_
    | refine lb.Cf fun r=>?_
  ·show lb (Rj (Ac n) l e d k c) (tf (Kc n) l e d k c);have key:∀ (q:Nat) (i:Int) (l:List Ca) (e d:Int) (acc:List wa),lb (zl (Ac n) k c q i l e d acc) (Cg (Kc n) k c q i l e d acc):=by
    intro q
    induction q with
    | zero=>intro i l e d acc; exact lb.none
    | succ q m =>
     intro i l e d acc;have fw:∀ l e d acc,lb (Wq i (zl (Ac n) k c q) l e d acc) (bn i (Cg (Kc n) k c q) l e d acc):=fun l e d acc=>by
      unfold Wq bn;repeat' first
       | exact lb.none
       | exact lb.pure
       | exact m _ _ _ _ _
       | refine lb.ite ?_ ?_
       | refine lb.bind ?_ fun r=>?_
       | refine lb.Cf fun r=>?_
     have j:∀ l e d,lb (Tp (Ac n) i acc (zl (Ac n) k c q) l e d) (oj (Kc n) i acc (Cg (Kc n) k c q) l e d):=fun l e d=>by
      unfold Tp oj;repeat' first
       | exact lb.none
       | exact lb.pure
       | exact fw _ _ _ _
       | exact f.expr _ _ _
       | exact f.level _ _ _ _
       | exact f.unary _ _ _
       | exact f.Sh _ _ _
       | exact f.args _ _ _
       | exact f.fixed _ _ _ _ _
       | exact Th _ _ _ _
       | exact yi _ _ _
       | exact Uk _ _ _
       | exact Sj _ _ _
       | refine lb.ite ?_ ?_
       | refine lb.bind ?_ fun r=>?_
       | refine lb.Cf fun r=>?_
     unfold zl Cg;repeat' first
      | exact lb.none
      | exact lb.pure
      | exact j _ _ _
      | exact f.expr _ _ _
      | exact f.level _ _ _ _
      | exact f.unary _ _ _
      | exact f.Sh _ _ _
      | exact f.args _ _ _
      | exact f.fixed _ _ _ _ _
      | exact Th _ _ _ _
      | exact yi _ _ _
      | exact Uk _ _ _
      | exact Sj _ _ _
      | refine lb.ite ?_ ?_
      | refine lb.bind ?_ fun r=>?_
      | refine lb.Cf fun r=>?_
   unfold Rj tf;repeat' first
    | exact lb.none
    | exact lb.pure
    | exact key _ _ _ _ _ _
    | exact f.expr _ _ _
    | exact f.level _ _ _ _
    | exact f.unary _ _ _
    | exact f.Sh _ _ _
    | exact f.args _ _ _
    | exact f.fixed _ _ _ _ _
    | exact Th _ _ _ _
    | exact yi _ _ _
    | exact Uk _ _ _
    | exact Sj _ _ _
    | refine lb.ite ?_ ?_
    | refine lb.bind ?_ fun r=>?_
    | refine lb.Cf fun r=>?_
theorem tu (l:List Ca) (e d a:Int) (s:List UInt8) (b c:Int) (t:List UInt8) (f:List wa):lb (Tk l e d a s b c t f) (mh l e d a s b c t f):=by
 unfold Tk mh;repeat' first
  | exact lb.none
  | exact lb.pure
  | exact Th _ _ _ _
  | refine lb.ite ?_ ?_
  | refine lb.bind ?_ fun r=>?_
  | refine lb.Cf fun r=>?_
structure EG (P:Er) (Q:dj):Prop where
 body:∀ (l:List Ca) (e d:Int),lb (P.vj l e d) (Q.Nd l e d)
 stat:∀ (l:List Ca) (e d:Int),lb (P.Ai l e d) (Q.Xf l e d)
theorem nD:∀ n,EG (rj n) (Kf n):=by
 intro n
 induction n with
 | zero=>exact ⟨fun _ _ _=>lb.none,fun _ _ _=>lb.none⟩
 | succ n a =>
  have E:=mD n;refine ⟨fun l e d=>?_,fun l e d=>?_⟩
  ·show lb (vj n (rj n) l e d) (Nd n (Kf n) l e d);have key:∀ (q:Nat) (l:List Ca) (e d:Int) (acc:List ib),lb (Co (rj n) q l e d acc) (Hh (Kf n) q l e d acc):=by
    intro q
    induction q with
    | zero=>intro l e d acc; exact lb.none
    | succ q b =>
     intro l e d acc;unfold Co Hh;repeat' first
      | exact lb.none
      | exact lb.pure
      | exact b _ _ _ _
      | exact E.expr _ _ _
      | exact a.body _ _ _
      | exact a.stat _ _ _
      | exact Th _ _ _ _
      | exact yi _ _ _
      | exact Sj _ _ _
      | exact tu _ _ _ _ _ _ _ _ _
      | exact Gw _ _ _ _ _ _
      | refine lb.ite ?_ ?_
      | refine lb.bind ?_ fun r=>?_
      | refine lb.Cf fun r=>?_
   unfold vj Nd;repeat' first
    | exact lb.none
    | exact lb.pure
    | exact key _ _ _ _ _
    | exact E.expr _ _ _
    | exact a.body _ _ _
    | exact a.stat _ _ _
    | exact Th _ _ _ _
    | exact yi _ _ _
    | exact Sj _ _ _
    | exact tu _ _ _ _ _ _ _ _ _
    | exact Gw _ _ _ _ _ _
    | refine lb.ite ?_ ?_
    | refine lb.bind ?_ fun r=>?_
    | refine lb.Cf fun r=>?_
  ·show lb (Ai n (rj n) l e d) (Xf n (Kf n) l e d);unfold Ai Xf;repeat' first
    | exact lb.none
    | exact lb.pure
    | exact E.expr _ _ _
    | exact a.body _ _ _
    | exact a.stat _ _ _
    | exact Th _ _ _ _
    | exact yi _ _ _
    | exact Sj _ _ _
    | exact tu _ _ _ _ _ _ _ _ _
    | exact Gw _ _ _ _ _ _
    | refine lb.ite ?_ ?_
    | refine lb.bind ?_ fun r=>?_
    | refine lb.Cf fun r=>?_
theorem tB (a:List UInt8×List Ca×Int×Int) (b:zc×List Ca×Int×Int) (x:Int) (c:Int×List Ca×Int×Int) (y:Bool):lb (cq a b c y) (wi a b x c y):=by
 unfold cq wi;repeat' first
  | exact lb.none
  | exact lb.pure
  | exact Th _ _ _ _
  | refine lb.ite ?_ ?_
  | refine lb.bind ?_ fun r=>?_
  | refine lb.Cf fun r=>?_
theorem KE (l:List Ca) (e d:Int):lb (eo fu l e d) (Bi fu l e d):=by
 have S:=nD fu;unfold eo Bi;repeat' first
  | exact lb.none
  | exact lb.pure
  | exact tB _ _ _ _ _
  | exact S.body _ _ _
  | exact Th _ _ _ _
  | exact yi _ _ _
  | exact Ky _ _ _
  | exact sB _ _ _
  | exact Uk _ _ _
  | refine lb.ite ?_ ?_
  | refine lb.bind ?_ fun r=>?_
  | refine lb.Cf fun r=>?_
theorem BA {a:List Ca×yb}:∀ (n:Nat) (l:List Ca) (e d:Int) (acc:List sb) (r:List sb×yb),Eo fu a n l e d acc=some r→xl fu a n l e d acc=some r:=by
 intro n
 induction n with
 | zero=>intro l e d acc r h; cases h
 | succ n f =>
  intro l e d acc r h;unfold Eo at h;unfold xl;by_cases b:(0:Int)<(l.length:Int)
  ·rw [if_pos b] at h ⊢;by_cases c:(acc.length:Int)=30
   ·rw [if_pos c] at h;cases h
   ·rw [if_neg c] at h ⊢;obtain ⟨x,g,h⟩:=Option.bind_eq_some_iff.1 h;obtain ⟨y,i,h⟩:=Option.bind_eq_some_iff.1 h;rw [(KE _ _ _).out x g];show (app acc [x.1]).bind _=_;rw [i];exact f _ _ _ _ _ h
  ·rw [if_neg b] at h ⊢;exact h
theorem Yx {s:List UInt8}{r:List sb×yb}(h:vr fu s=some r):tj fu s=some r:=by
 unfold vr at h;unfold tj;obtain ⟨x,b,h⟩:=Option.bind_eq_some_iff.1 h;rw [b,Option.bind_some];by_cases a:x.2.Wd≠0
 ·rw [if_pos a] at h ⊢;exact h
 ·rw [if_neg a] at h ⊢;exact BA _ _ _ _ _ _ h
end
end Go.Y
namespace Go.Y
open Go.Sb Go.ec
abbrev pb:=List UInt8
def isLet (c:UInt8):Bool:=decide (97≤c.toNat∧c.toNat≤122∨c.toNat=95)
def Kh (c:UInt8):Bool:=decide (48≤c.toNat∧c.toNat≤57)
def kindOf:pb→Int
 | []=>3
 | c::_=>if isLet c=true then 1 else if Kh c=true then 2 else 3
structure Qr (t:Ca) (w:pb):Prop where
 vb:t.Text=w
 bd:t.Kind=kindOf w
 eg:kindOf w=2→Sl w=some t.Tm
def zb:List Ca→List pb→Prop
 | [],[]=>True
 | t::a,w::ws=>Qr t w∧zb a ws
 | _,_=>False
theorem zb.nil {A:List Ca}(h:zb A []):A=[]:=by
 cases A with
 | nil=>rfl
 | cons t A=>cases h
theorem zb.cons {A:List Ca}{w:pb}{ws:List pb}(h:zb A (w::ws)):∃ t a,A=t::a∧Qr t w∧zb a ws:=by
 cases A with
 | nil=>cases h
 | cons t A=>exact ⟨t,A,rfl,h.1,h.2⟩
theorem zb.app:∀ {u v:List pb}{A:List Ca},zb A (u++v)→∃ a b,A=a++b∧zb a u∧zb b v
 | [],v,A,h=>⟨[],A,rfl,trivial,h⟩
 | w::u,v,A,h=>by
  obtain ⟨t,g,rfl,c,d⟩:=zb.cons h;obtain ⟨a,b,rfl,e,f⟩:=zb.app d;exact ⟨t::a,b,rfl,⟨c,e⟩,f⟩
theorem dt {α:Type}(t:α) (B:List α):cut (t::B) 1 ((t::B).length:Int)=some B:=by
 rw [cut,if_pos ⟨by omega,by simp;omega,by omega⟩];simp
theorem Bf {t:Ca}{B:List Ca}{e d:Int}{w:pb}(h:t.Text=w):Cc (t::B) e d w=some (true,B,e,d):=by
 rw [Cc,Og,if_pos (by simp),uf (by simp),pa,pa];show (if (decide (t.Text=w))=true then _ else _)=_;rw [if_pos (by simpa using h),dt,pa]
theorem ic {t:Ca}{B:List Ca}{e d:Int}{w:pb}(h:t.Text≠w):Cc (t::B) e d w=some (false,t::B,e,d):=by
 rw [Cc,Og,if_pos (by simp),uf (by simp),pa,pa];show (if (decide (t.Text=w))=true then _ else _)=_;rw [if_neg (by simpa using h)]
theorem ME {e d:Int}{w:pb}:Cc [] e d w=some (false,[],e,d):=by
 rw [Cc,Og,if_neg (by simp),pa,if_neg (by simp)]
theorem Ih {t:Ca}{B:List Ca}{e d:Int}{w:pb}(h:t.Text=w):yh (t::B) e d [w]=some (B,e,d):=by
 rw [yh,Bo,if_pos (by simp),uf (by simp),pa];show Option.bind (Cc (t::B) e d w) _=_;rw [Bf h,pa,if_pos rfl,Qd (by omega),pa];show Bo [w] 1 1 B e d=_;rw [Bo,if_neg (by simp)]
def kg (w:pb):Prop:=∀ fu,20≤fu→De fu w=some true
theorem kg.Rr {w:pb}(h:kg w):kindOf w=1:=by
 have h:=h 20 (Nat.le_refl _);cases w with
 | nil=>exact absurd h (by decide)
 | cons c w =>
  rw [De,if_neg (by simp;omega)] at h;have bad:∀ o:Option Bool,Si 20 (c::w) true≠some true:=fun _ h=>by cases h
  split at h
  ·exact absurd h (bad none)
  ·rw [uf (by simp),pa] at h;have e:ui c=some (isLet c):=by
    rw [ui,isLet];split
    ·split
     ·exact congrArg some (decide_eq_true (by omega)).symm
     ·exact congrArg some (decide_eq_decide.2 (by omega))
    ·exact congrArg some (decide_eq_decide.2 (by omega))
   show kindOf (c::w)=1;rw [kindOf];by_cases q:isLet c=true
   ·rw [if_pos q]
   ·exfalso
    change Option.bind (ui c) _=_ at h
    rw [e,pa,if_neg q] at h;exact bad none h
theorem Tj {fu:Nat}(c:20≤fu){t:Ca}{w:pb}{B:List Ca}{e d:Int}(h:Qr t w) (a:kg w):Zi fu (t::B) e d=some (w,B,e,d):=by
 have b:=h.bd;rw [a.Rr] at b;rw [Zi,if_neg (by simp;omega),uf (by simp),pa];show Xp fu (t::B) e d (decide (t.Kind≠1))=_;rw [decide_eq_false (by simpa using b),Xp,if_neg (by decide),uf (by simp),pa];show Option.bind (De fu t.Text) _=_;rw [h.vb,a fu c,pa,if_pos rfl,dt,pa];show some (t.Text,B,e,d)=_;rw [h.vb]
theorem kg.ne {w:pb}(h:kg w){k:pb}(a:vq Mv ([32]++k++[32])=some true):w≠k:=by
 rintro rfl;have h:=h 20 (Nat.le_refl _);rw [De] at h;have bad:Si 20 w true≠some true:=fun h=>by cases h
 split at h
 ·exact bad h
 ·split at h
  ·exact bad h
  ·rename_i f g;have c:0<w.length:=by omega
   rw [uf c,pa] at h;cases e:ui w[0] with
   | none=>rw [e,Sf] at h; cases h
   | some b =>
    rw [e,pa] at h;cases b with
    | false=>rw [if_neg (by decide)] at h; exact bad h
    | true =>
     have d:cat [32] w=some ([32]++w):=if_pos (by simp;omega);have c2:cat ([32]++w) [32]=some ([32]++w++[32]):=if_pos (by simp;omega);rw [if_pos rfl,d,pa,c2,pa,a,pa] at h;exact bad h
theorem kg.Tn {w:pb}(h:kg w){k:pb}(a:kindOf k≠1):w≠k:=by
 rintro rfl;exact a h.Rr
def own (k:Int):Nat:=if k=18 then 1 else if k=17 then 2 else if 11≤k∧k≤16 then 3 else if k=6∨k=7 then 4 else if 8≤k∧k≤10 then 5 else if k=4∨k=5 then 6 else 7
def Rf (k:Int):pb:=if k=18 then [111,114] else if k=17 then [97,110,100] else if k=11 then [61,61] else if k=12 then [33,61] else if k=13 then [60] else if k=14 then [60,61] else if k=15 then [62] else if k=16 then [62,61] else if k=6 then [43] else if k=7 then [45] else if k=8 then [42] else if k=9 then [47] else if k=10 then [37] else if k=4 then [45] else [110,111,116]
def Eh (f:wa→List pb) (l:List wa):List pb:=(l.map fun x=>[44]::f x).flatten
def wg (f:wa→List pb):List wa→List pb
 | []=>[[40],[41]]
 | x::l=>[40]::(f x++(Eh f l++[[41]]))
def Tf (f:Nat→wa→List pb) (x:wa):List pb :=
 if x.Kind=1 then [Lib.itoa x.N]
 else if x.Kind=2 then [if x.N=1 then [116,114,117,101] else [102,97,108,115,101]]
 else if x.Kind=3 then [x.Name]
 else if x.Kind=4∨x.Kind=5 then Rf x.Kind::(match x.Kids with | a::_=>f 6 a | _=>[])
 else if x.Kind≤18 then (match x.Kids with | a::b::_=>f (if own x.Kind=3 then 4 else own x.Kind) a++Rf x.Kind::f (own x.Kind+1) b | _=>[])
 else if x.Kind=19 then x.Name::wg (f 1) x.Kids
 else if x.Kind=20 then [[114,101,99,118],[40],x.Name,[41]]
 else if x.Kind=21 then [121,105,101,108,100]::wg (f 1) x.Kids
 else if x.Kind=22 then [115,116,97,114,116]::x.Name::wg (f 1) x.Kids
 else if x.Kind=23 then [114,101,115,117,109,101]::wg (f 1) x.Kids
 else [97,108,105,118,101]::wg (f 1) x.Kids
def Ec:Nat→Nat→wa→List pb
 | 0,oc,x=>[]
 | k+1,oc,x=>if own x.Kind<oc then [40]::(Tf (Ec k) x++[[41]]) else Tf (Ec k) x
def oo:Nat→wa→Prop
 | 0,_=>False
 | k+1,x=>1≤x.Kind∧x.Kind≤24∧uv x∧(x.Kind=1→0≤x.N∧x.N≤999999999999999)∧(x.Kind=2→x.N=0∨x.N=1)∧((x.Kind=3∨x.Kind=20∨x.Kind=19∨x.Kind=22)→kg x.Name)∧∀ y ∈ x.Kids,oo k y
def Yl:List Xe:=[(Xe.mk (qc ([]:List (List UInt8×Int)) [111,114] 18) false),(Xe.mk (qc ([]:List (List UInt8×Int)) [97,110,100] 17) false),(Xe.mk (qc (qc (qc (qc (qc (qc ([]:List (List UInt8×Int)) [61,61] 11) [33,61] 12) [60] 13) [60,61] 14) [62] 15) [62,61] 16) true),(Xe.mk (qc (qc ([]:List (List UInt8×Int)) [43] 6) [45] 7) false),(Xe.mk (qc (qc (qc ([]:List (List UInt8×Int)) [42] 8) [47] 9) [37] 10) false)]
theorem Ax:Io=some Yl:=rfl
def Zl (q:Nat) (w:pb):Int:=((Yl[q]?).map fun l=>(Ud l.og w).getD 0).getD 0
def once (q:Nat):Bool:=q == 2
def gh (q:Nat) (B:List Ca):Prop:=∀ t a,B=t::a→t.Text≠[40]∧∀ m,q≤m→m<5→Zl m t.Text=0
theorem gh.up {q a:Nat}{B:List Ca}(h:gh q B) (d:q≤a):gh a B:=fun t b e=>⟨(h t b e).1,fun m f c=>(h t b e).2 m (by omega) c⟩
def run (n:Nat) (q:Nat) (A:List Ca) (e d:Int):Option (wa×List Ca×Int×Int):=
 if q=7 then (Ac n).Hf A e d else if q=6 then (Ac n).Yi A e d else (Ac n).hi A e d q
def C (N D:Nat) (q:Nat) (ws:List pb) (r:wa):Prop:=∀ (n:Nat) (A B:List Ca) (e d:Int),N≤n→0≤d→d+D≤200→zb A ws→gh q B→run n q (A++B) e d=some (r,B,e,d)
def fo (n m q:Nat) (B:List Ca) (e d:Int) (r:wa):Option (wa×List Ca×Int×Int):=im (Ac n) q Yl m B e d r.Kind r.N r.Name r.Kids
def pk (N D c:Nat) (q:Nat) (ws:List pb) (r:wa):Prop:=∀ (n:Nat) (A B:List Ca) (e d:Int),N≤n→0≤d→d+D≤200→zb A ws→gh (q+1) B→∃ m,n≤m+c∧run (n+1) q (A++B) e d=fo n m q B e d r
theorem ez {q:Nat}(h:q<5):∃ l,Yl[q]?=some l∧at_ Yl (q:Int)=some l∧l.once=once q∧∀ w,Zl q w=(Ud l.og w).getD 0:=by
 have a:Yl.length=5:=rfl;have e:Yl[q]?=some Yl[q]:=List.getElem?_eq_getElem (by omega);refine ⟨Yl[q],e,by rw [Te,e],?_,fun w=>by rw [Zl,e];rfl⟩
 match q,h with
 | 0,_=>rfl
 | 1,_=>rfl
 | 2,_=>rfl
 | 3,_=>rfl
 | 4,_=>rfl
theorem Cu {n q:Nat}(a:q<5) (A:List Ca) (e d:Int):run (n+1) q A e d=(run n (q+1) A e d).bind fun r=>fo n n q r.2.1 r.2.2.1 r.2.2.2 r.1:=by
 have L:∀ m:Nat,m<5→hi n (Ac n) A e d (m:Int)=((Ac n).hi A e d ((m+1:Nat):Int)).bind fun r=>im (Ac n) (m:Int) Yl n r.2.1 r.2.2.1 r.2.2.2 r.1.Kind r.1.N r.1.Name r.1.Kids:=by
  intro m hm;have b:Yl.length=5:=rfl;rw [hi,Ax,pa,if_neg (by rw [b];omega),Qd (by omega),pa];rfl
 rw [run,if_neg (by omega),if_neg (by omega)];show hi n (Ac n) A e d (q:Int)=_;rw [L q a,run,if_neg (by omega),if_neg (by omega)];rfl
theorem mG {o:Option (wa×List Ca×Int×Int)}:Option.bind o (fun r=>some (r.1,r.2.1,r.2.2.1,r.2.2.2))=o:=by cases o<;>rfl
theorem lC {n:Nat}(A:List Ca) (e d:Int):run (n+1) 5 A e d=run n 6 A e d:=by
 show hi n (Ac n) A e d 5=(Ac n).Yi A e d;rw [hi,Ax,pa,if_pos (by rfl)];exact mG
theorem Bx {n m q:Nat}{B:List Ca}{e d:Int}{r:wa}(a:q<5) (h:gh q B):fo n (m+1) q B e d r=some (r,B,e,d):=by
 obtain ⟨l,-,c,-,f⟩:=ez a;rw [fo,im];cases B with
 | nil=>rw [if_neg (by simp),Sp]; cases r; rfl
 | cons t B =>
  have b:=(h t B rfl).2 q (Nat.le_refl _) a;rw [f] at b;rw [if_pos (by simp),c,pa,uf (by simp),pa];show (if (Ud l.og t.Text).getD 0=0 then _ else _)=_;rw [if_pos b,Sp];cases r;rfl
theorem C.lift {N D q:Nat}{ws:List pb}{r:wa}(b:q<5) (h:C N D (q+1) ws r):C (N+1) D q ws r:=by
 intro n A B e d i c Ua f a;obtain ⟨n,rfl⟩:∃ g,n=g+1:=⟨n - 1,by omega⟩;rw [Cu b,h n A B e d (by omega) c Ua f (a.up (by omega)),pa];cases n with
 | zero =>
  exfalso;have:=h 0 A B e d (by omega) c Ua f (a.up (by omega));rw [run,if_neg (by omega)] at this;split at this<;>cases this
 | succ n=>exact Bx b a
theorem C.JF {N D:Nat}{ws:List pb}{r:wa}(h:C N D 6 ws r):C (N+1) D 5 ws r:=by
 intro n A B e d g a Ua b c;obtain ⟨n,rfl⟩:∃ f,n=f+1:=⟨n - 1,by omega⟩;rw [lC];exact h n A B e d (by omega) a Ua b (c.up (by omega))
theorem C.KF {N D:Nat}{w:pb}{ws:List pb}{r:wa}(f:w≠[45]) (g:w≠[110,111,116]) (h:C N D 7 (w::ws) r):C (N+1) D 6 (w::ws) r:=by
 intro n A B e d o i Ua a j;obtain ⟨n,rfl⟩:∃ k,n=k+1:=⟨n - 1,by omega⟩;have l:=h n A B e d (by omega) i Ua a (j.up (by omega));obtain ⟨t,b,rfl,c,-⟩:=zb.cons a;show Yi (Ac n) (t::b++B) e d=_;rw [Yi,List.cons_append,ic (by rw [c.vb];exact f),pa];simp only [Bool.false_eq_true,if_false];rw [ic (by rw [c.vb];exact g),pa];simp only [Bool.false_eq_true,if_false];have m:(Ac n).Hf (t::(b++B)) e d=some (r,B,e,d):=l;rw [m,pa]
theorem C.more {N a D b q:Nat}{ws:List pb}{r:wa}(h:C N D q ws r) (f:N≤a) (g:D≤b):C a b q ws r:=fun n A B e d i c j=>h n A B e d (by omega) c (by omega)
theorem C.down {N D q:Nat}{ws:List pb}{r:wa}(b:q≤5) (h:C N D q ws r):∀ (j:Nat),j≤q→C (N+j) D (q - j) ws r
 | 0,_=>h
 | j+1,c=>by
  have a:=C.down b h j (by omega);have e:q - j=(q - (j+1))+1:=by omega
  rw [e] at a;exact C.lift (by omega) a
theorem pk.of {N D q:Nat}{ws:List pb}{r:wa}(a:q<5) (h:C N D (q+1) ws r):pk N D 0 q ws r:=by
 intro n A B e d b c Ua f g;exact ⟨n,by omega,by rw [Cu a,h n A B e d b c Ua f g,pa]⟩
theorem pk.to {N D c q:Nat}{ws:List pb}{r:wa}(b:q<5) (h:pk N D c q ws r):C (N+c+2) D q ws r:=by
 intro n A B e d l f Ua g a;obtain ⟨n,rfl⟩:∃ i,n=i+1:=⟨n - 1,by omega⟩;obtain ⟨m,o,j⟩:=h n A B e d (by omega) f Ua g (a.up (by omega));rw [j];obtain ⟨m,rfl⟩:∃ k,m=k+1:=⟨m - 1,by omega⟩;exact Bx b a
theorem pk.more {N a D b c f q:Nat}{ws:List pb}{r:wa}(h:pk N D c q ws r) (k:N≤a) (l:D≤b) (o:c≤f):pk a b f q ws r:=fun n A B e d p g s i j=>by
 obtain ⟨m,ea,e2⟩:=h n A B e d (by omega) g (by omega) i j;exact ⟨m,by omega,e2⟩
theorem qq {k:Int}(h:6≤k∧k≤18):∃ q:Nat,own k=q+1∧q<5∧Zl q (Rf k)=k∧(∀ m,m<5→m≠q→Zl m (Rf k)=0)∧Rf k≠[40]:=by
 have:k=6∨k=7∨k=8∨k=9∨k=10∨k=11∨k=12∨k=13∨k=14∨k=15∨k=16∨k=17∨k=18:=by omega
 rcases this with rfl | rfl | rfl | rfl | rfl | rfl | rfl | rfl | rfl | rfl | rfl | rfl | rfl
 ·exact ⟨3,by decide,by decide,by decide,by decide,by decide⟩
 ·exact ⟨3,by decide,by decide,by decide,by decide,by decide⟩
 ·exact ⟨4,by decide,by decide,by decide,by decide,by decide⟩
 ·exact ⟨4,by decide,by decide,by decide,by decide,by decide⟩
 ·exact ⟨4,by decide,by decide,by decide,by decide,by decide⟩
 ·exact ⟨2,by decide,by decide,by decide,by decide,by decide⟩
 ·exact ⟨2,by decide,by decide,by decide,by decide,by decide⟩
 ·exact ⟨2,by decide,by decide,by decide,by decide,by decide⟩
 ·exact ⟨2,by decide,by decide,by decide,by decide,by decide⟩
 ·exact ⟨2,by decide,by decide,by decide,by decide,by decide⟩
 ·exact ⟨2,by decide,by decide,by decide,by decide,by decide⟩
 ·exact ⟨1,by decide,by decide,by decide,by decide,by decide⟩
 ·exact ⟨0,by decide,by decide,by decide,by decide,by decide⟩
theorem ax {N D q:Nat}{f:List pb}{a b:wa}{k:Int}(o:q<5) (p:6≤k∧k≤18) (H:own k=q+1) (r:C N D (q+1) f b){n m:Nat}{A B:List Ca}{e d:Int}(s:N≤n) (u:0≤d) (Ua:d+D≤200) (v:zb A (Rf k::f)) (w:gh (q+1) B) :
  fo n (m+1) q (A++B) e d a=if once q=true then some (⟨k,0,[],[a,b]⟩,B,e,d) else fo n m q B e d ⟨k,0,[],[a,b]⟩:=by
 obtain ⟨l,K,g,x,y⟩:=ez o;obtain ⟨c,L,M,z,P,Q⟩:=qq p;obtain rfl:c=q:=by omega
 obtain ⟨t,h,rfl,E,F⟩:=zb.cons v;have i:(Ud l.og t.Text).getD 0=k:=by rw [E.vb,← y];exact z
 have j:=r n h B e d s u Ua F w;rw [run,if_neg (by omega),if_neg (by omega)] at j;rw [fo,im,List.cons_append,if_pos (by simp;omega),g,pa,uf (by simp),pa];show (if (Ud l.og t.Text).getD 0=0 then _ else _)=_;rw [i,if_neg (by omega),dt,pa,Qd (by omega),pa];have G:(Ac n).hi (h++B) e d ((c:Int)+1)=some (b,B,e,d):=j;rw [G,pa,Fs,g,pa,x];show (if once c=true then Sp B e d ((Ud l.og t.Text).getD 0) 0 [] _ else im _ _ _ _ B e d ((Ud l.og t.Text).getD 0) 0 [] _)=_;rw [i];cases a;rfl
theorem pk.bin {N D c q:Nat}{g h:List pb}{a b:wa}{k:Int}(u:q<5) (i:6≤k∧k≤18) (v:own k=q+1) (f:q≠2) (w:pk N D c q g a) (x:C N D (q+1) h b) (P:c<N):pk N D (c+1) q (g++Rf k::h) ⟨k,0,[],[a,b]⟩:=by
 intro n A B e d j l Ua y z;obtain ⟨E,o,rfl,F,p⟩:=zb.app y;obtain ⟨r,Q,R,S,G,H⟩:=qq i;obtain rfl:r=q:=by omega
 have K:gh (r+1) (o++B):=by
  obtain ⟨t,T,rfl,L,-⟩:=zb.cons p;intro V W s;rw [List.cons_append] at s;obtain ⟨rfl,-⟩:=List.cons.inj s;rw [L.vb];exact ⟨H,fun m X f=>G m f (by omega)⟩
 obtain ⟨m,ea,e2⟩:=w n E (o++B) e d j l Ua F K;obtain ⟨m,rfl⟩:∃ M,m=M+1:=⟨m - 1,by omega⟩;refine ⟨m,by omega,?_⟩;rw [List.append_assoc,e2,ax u i v x j l Ua p z,if_neg (by simpa [once] using f)]
theorem C.nG {N D:Nat}{g h:List pb}{a b:wa}{k:Int}(i:6≤k∧k≤18) (p:own k=3) (q:C N D 3 g a) (r:C N D 3 h b):C (N+2) D 2 (g++Rf k::h) ⟨k,0,[],[a,b]⟩:=by
 intro n A B e d H j Ua s u;obtain ⟨v,c,rfl,w,l⟩:=zb.app s;obtain ⟨x,K,L,M,y,z⟩:=qq i;obtain rfl:x=2:=by omega
 have E:gh 3 (c++B):=by
  obtain ⟨t,P,rfl,F,-⟩:=zb.cons l;intro Q R o;rw [List.cons_append] at o;obtain ⟨rfl,-⟩:=List.cons.inj o;rw [F.vb];exact ⟨z,fun m S G=>y m G (by omega)⟩
 obtain ⟨n,rfl⟩:∃ f,n=f+1:=⟨n - 1,by omega⟩;rw [List.append_assoc,Cu (by decide),q n v (c++B) e d (by omega) j Ua w E,pa];obtain ⟨n,rfl⟩:∃ f,n=f+1:=⟨n - 1,by omega⟩;show fo (n+1) (n+1) 2 (c++B) e d a=_;rw [ax (by decide) i p r (by omega) j Ua l (u.up (by omega)),if_pos (show once 2=true from rfl)]
theorem C.mC {N D:Nat}{ws:List pb}{r:wa}(h:C N D 0 ws r):C (N+2) (D+1) 7 ([40]::(ws++[[41]])) r:=by
 intro n A B e d u v Ua f w;obtain ⟨n,rfl⟩:∃ g,n=g+2:=⟨n - 2,by omega⟩;obtain ⟨t,x,rfl,b,i⟩:=zb.cons f;obtain ⟨a,y,rfl,j,k⟩:=zb.app i;obtain ⟨t2,z,rfl,c,l⟩:=zb.cons k;have:=zb.nil l;subst this;have o:gh 0 (t2::B):=by
  intro E F p;obtain ⟨rfl,-⟩:=List.cons.inj p;rw [c.vb];exact ⟨by decide,fun m _ h=>(by decide:∀ m,m<5→Zl m [41]=0) m h⟩
 have q:=h n a (t2::B) e (d+1) (by omega) (by omega) (by omega) j o;have s:(Ac n).hi (a++t2::B) e (d+1) 0=some (r,t2::B,e,d+1):=q;have he:(Ac (n+1)).Yg (a++t2::B) e d=some (r,t2::B,e,d):=by
  show Yg (Ac n) (a++t2::B) e d=_;rw [Yg,Fl,Qd (by omega),pa,if_neg (by omega),pa];simp only [];rw [s,pa];simp only [];rw [Gg,Qd (by omega),pa,pa];simp
 have G:t.Kind=3:=by rw [b.bd];decide
 show Hf (n+1) (Ac (n+1)) (t::(a++[t2])++B) e d=_;rw [Hf,List.cons_append,if_pos (by simp;omega),uf (by simp),pa];show yg (n+1) (Ac (n+1)) (t::(a++[t2]++B)) e d (decide (t.Kind=2))=_;rw [decide_eq_false (by omega),yg,if_neg (by decide),ic (by rw [b.vb];decide),pa];simp only [Bool.false_eq_true,if_false];rw [ic (by rw [b.vb];decide),pa];simp only [Bool.false_eq_true,if_false];rw [Bf b.vb,pa];simp only [if_true];rw [show a++[t2]++B=a++t2::B by simp,he,pa];simp only [];rw [Ih c.vb,pa]
theorem C.expr {N D:Nat}{ws:List pb}{r:wa}(h:C N D 0 ws r) (n:Nat) (A B:List Ca) (e d:Int) (i:N+1≤n) (j:0≤d) (Ua:d+D+1≤200) (a:zb A ws) (b:gh 0 B):(Ac n).Yg (A++B) e d=some (r,B,e,d):=by
 obtain ⟨n,rfl⟩:∃ c,n=c+1:=⟨n - 1,by omega⟩;have f:=h n A B e (d+1) (by omega) (by omega) (by omega) a b;have g:(Ac n).hi (A++B) e (d+1) 0=some (r,B,e,d+1):=f;show Yg (Ac n) (A++B) e d=_;rw [Yg,Fl,Qd (by omega),pa,if_neg (by omega),pa];simp only [];rw [g,pa];simp only [];rw [Gg,Qd (by omega),pa,pa];simp
theorem C.un {N D:Nat}{ws:List pb}{r:wa}{k:Int}(f:k=4∨k=5) (h:C N D 6 ws r):C (N+1) (D+1) 6 (Rf k::ws) ⟨k,0,[],[r]⟩:=by
 intro n A B e d o p Ua g i;obtain ⟨n,rfl⟩:∃ j,n=j+1:=⟨n - 1,by omega⟩;obtain ⟨t,a,rfl,b,l⟩:=zb.cons g;have m:=h n a B e (d+1) (by omega) (by omega) (by omega) l i;have c:(Ac n).Yi (a++B) e (d+1)=some (r,B,e,d+1):=m;have ea:Fl (a++B) e d=some (a++B,e,d+1):=by rw [Fl,Qd (by omega),pa,if_neg (by omega)]
 have e2:Gg B e (d+1)=some (B,e,d):=by rw [Gg,Qd (by omega),pa];simp
 show Yi (Ac n) (t::a++B) e d=_;rcases f with rfl | rfl
 ·rw [Yi,List.cons_append,Bf (by rw [b.vb];decide),pa,if_pos rfl];simp only [];rw [ea,pa];simp only [];rw [c,pa];simp only [];rw [e2,pa]
 ·rw [Yi,List.cons_append,ic (by rw [b.vb];decide),pa];simp only [Bool.false_eq_true,if_false];rw [Bf (by rw [b.vb];decide),pa,if_pos rfl];simp only [];rw [ea,pa];simp only [];rw [c,pa];simp only [];rw [e2,pa]
end Go.Y
namespace Go.Y
open Go.Sb Go.ec
theorem nm {w:pb}(h:(w≠[40])∧(∀ m,m<5→Zl m w=0)){t:Ca}(a:t.Text=w) (B:List Ca) (q:Nat):gh q (t::B):=by
 intro c d b;obtain ⟨rfl,-⟩:=List.cons.inj b;rw [a];exact ⟨h.1,fun m _ hm=>h.2 m hm⟩
theorem oG:([41]:pb)≠[40]∧∀ m,m<5→Zl m [41]=0:=by decide
theorem pG:([44]:pb)≠[40]∧∀ m,m<5→Zl m [44]=0:=by decide
section
variable {f:wa→List pb}{g:wa→wa}{N D:Nat}
theorem Kt {l:List wa}{A B:List Ca}(h:zb A (Eh f l++[[41]])):gh 0 (A++B):=by
 cases l with
 | nil =>
  obtain ⟨t,b,rfl,a,-⟩:=zb.cons h;exact nm oG a.vb _ 0
 | cons x l =>
  obtain ⟨t,b,rfl,a,-⟩:=zb.cons h;exact nm pG a.vb _ 0
theorem uB {n:Nat}(p:N+1≤n){e d:Int}(q:0≤d) (Ua:d+D+1≤200) (B:List Ca):∀ (l:List wa) (acc:List wa) (m:Nat) (A:List Ca),(∀ y ∈ l,C N D 0 (f y) (g y))→l.length<m→0<acc.length→acc.length+l.length≤6→zb A (Eh f l++[[41]]) →
  Sk (Ac n) m (A++B) e d acc=some (acc++l.map g,B,e,d):=by
 intro l
 induction l with
 | nil =>
  intro acc m A c hm r j a;obtain ⟨m,rfl⟩:∃ h,m=h+1:=⟨m - 1,by simp at hm;omega⟩;obtain ⟨t,s,rfl,b,i⟩:=zb.cons a;have:=zb.nil i;subst this;rw [Sk,List.cons_append,Bf b.vb,pa,if_pos rfl];simp
 | cons x l u =>
  intro acc m A c hm r j a;rw [List.length_cons] at hm j;obtain ⟨m,rfl⟩:∃ h,m=h+1:=⟨m - 1,by omega⟩;have ea:Eh f (x::l)++[[41]]=[44]::(f x++(Eh f l++[[41]])):=by simp [Eh]
  rw [ea] at a;obtain ⟨t,s,rfl,b,i⟩:=zb.cons a;obtain ⟨v,k,rfl,w,o⟩:=zb.app i;have z:=(c x (List.mem_cons_self ..)).expr n v (k++B) e d p q Ua w (Kt o);rw [Sk,List.cons_append,ic (by rw [b.vb];decide),pa];simp only [Bool.false_eq_true,if_false];rw [if_pos (by omega)];rw [Ih b.vb,pa,Yp,if_neg (by omega)];simp only [];rw [List.append_assoc,z,pa];simp only [];rw [tn (by simp;omega),pa,u (acc++[g x]) m k (fun y E=>c y (List.mem_cons_of_mem _ E)) (by omega) (by simp) (by simp;omega) o];simp
theorem Ly {l:List wa}{n:Nat}(M:N+10≤n){e d:Int}(j:0≤d) (Ua:d+D+1≤200){A B:List Ca}(k:∀ y ∈ l,C N D 0 (f y) (g y)) (u:∀ y ∈ l,∃ w ws,f y=w::ws∧w≠[41]) (v:l.length≤6) (o:zb A (wg f l)):(Ac n).zm (A++B) e d=some (l.map g,B,e,d):=by
 obtain ⟨n,rfl⟩:∃ c,n=c+1:=⟨n - 1,by omega⟩;show zm n (Ac n) (A++B) e d=_;rw [zm];cases l with
 | nil =>
  obtain ⟨t,z,rfl,h,i⟩:=zb.cons o;obtain ⟨t2,a,rfl,E,b⟩:=zb.cons i;have:=zb.nil b;subst this;rw [List.cons_append,Ih h.vb,pa];simp only [];obtain ⟨n,rfl⟩:∃ c,n=c+1:=⟨n - 1,by omega⟩;rw [Sk,List.cons_append,Bf E.vb,pa,if_pos rfl];simp
 | cons x l =>
  rw [List.length_cons] at v;obtain ⟨t,z,rfl,h,i⟩:=zb.cons o;obtain ⟨p,a,rfl,q,b⟩:=zb.app i;have F:=(k x (List.mem_cons_self ..)).expr n p (a++B) e d (by omega) j Ua q (Kt b);obtain ⟨w,ws,hw,G⟩:=u x (List.mem_cons_self ..);rw [List.cons_append,Ih h.vb,pa];simp only [];obtain ⟨m,hm⟩:∃ H,n=H+1:=⟨n - 1,by omega⟩;have step:Sk (Ac n) (m+1) (p++a++B) e d []=some ((x::l).map g,B,e,d):=by
   have r:=q;rw [hw] at r;obtain ⟨t3,s,rfl,K,-⟩:=zb.cons r;rw [Sk,List.cons_append,List.cons_append,ic (by rw [K.vb];exact G),pa];simp only [Bool.false_eq_true,if_false];rw [if_neg (by simp),Yp,if_neg (by simp)];have e2:t3::(s++a++B)=t3::s++(a++B):=by simp
   rw [e2,F,pa];simp only [];rw [tn (by simp),pa,uB (show N+1≤n by omega) j Ua B l ([]++[g x]) m a (fun y L=>k y (List.mem_cons_of_mem _ L)) (by omega) (by simp) (by simp;omega) b];simp
  rw [← hm] at step;exact step
theorem CA {n:Nat}(q:N+1≤n){e d:Int}(r:0≤d) (Ua:d+D+1≤200) (B:List Ca) (bd:Int) (M:Nat) (a:M≤6):∀ (l:List wa) (acc:List wa) (i m:Nat) (A:List Ca),(∀ y ∈ l,C N D 0 (f y) (g y))→l.length<m→0<i→i+l.length=M→acc.length≤i→zb A (Eh f l++[[41]]) →
  zl (Ac n) bd M m i (A++B) e d acc=some (⟨bd,0,[],acc++l.map g⟩,B,e,d):=by
 intro l
 induction l with
 | nil =>
  intro acc i m A c hm s a u b;rw [List.length_nil] at hm a;obtain ⟨m,rfl⟩:∃ h,m=h+1:=⟨m - 1,by omega⟩;obtain ⟨t,v,rfl,j,k⟩:=zb.cons b;have:=zb.nil k;subst this;rw [zl,if_neg (by omega),List.cons_append,Ih j.vb,pa];simp
 | cons x l w =>
  intro acc i m A c hm s a u b;rw [List.length_cons] at hm a;obtain ⟨m,rfl⟩:∃ h,m=h+1:=⟨m - 1,by omega⟩;have ea:Eh f (x::l)++[[41]]=[44]::(f x++(Eh f l++[[41]])):=by simp [Eh]
  rw [ea] at b;obtain ⟨t,v,rfl,j,k⟩:=zb.cons b;obtain ⟨z,o,rfl,E,p⟩:=zb.app k;have F:=(c x (List.mem_cons_self ..)).expr n z (o++B) e d q r Ua E (Kt p);rw [zl,if_pos (by omega),if_pos (by omega),List.cons_append,Ih j.vb,pa,Tp];simp only [];rw [List.append_assoc,F,pa];simp only [];rw [tn (by simp;omega),pa,Wq,Qd (by omega),pa];have:=w (acc++[g x]) (i+1) m o (fun y G=>c y (List.mem_cons_of_mem _ G)) (by omega) (by omega) (by omega) (by simp;omega) p;refine this.trans ?_;simp
theorem Xu {l:List wa}{n:Nat}(v:N+10≤n){e d:Int}(a:0≤d) (Ua:d+D+1≤200){A B:List Ca}(bd:Int) (b:∀ y ∈ l,C N D 0 (f y) (g y)) (i:l.length≤6) (j:0<l.length) (k:zb A (wg f l)):(Ac n).Rj (A++B) e d bd (l.length:Int)=some (⟨bd,0,[],l.map g⟩,B,e,d):=by
 obtain ⟨n,rfl⟩:∃ m,n=m+1:=⟨n - 1,by omega⟩;show Rj (Ac n) (A++B) e d bd (l.length:Int)=_;rw [Rj];cases l with
 | nil=>simp at j
 | cons x l =>
  rw [List.length_cons] at i;obtain ⟨t,w,rfl,o,p⟩:=zb.cons k;obtain ⟨q,c,rfl,r,h⟩:=zb.app p;have s:=(b x (List.mem_cons_self ..)).expr n q (c++B) e d (by omega) a Ua r (Kt h);rw [List.cons_append,Ih o.vb,pa];simp only [];have hm:((((x::l).length:Nat):Int) - 0).toNat+1=(l.length+1)+1:=by simp
  rw [hm,zl,if_pos (by simp),if_neg (by decide),Tp,List.append_assoc,s,pa];simp only [];rw [tn (by simp),pa,Wq,Qd (by omega),pa];have:=CA (e:=e) (show N+1≤n by omega) a Ua B bd (x::l).length (by simp;omega) l ([]++[g x]) 1 (l.length+1) c (fun y u=>b y (List.mem_cons_of_mem _ u)) (by omega) (by omega) (by simp;omega) (by simp) h;refine Eq.trans this ?_;simp
end
end Go.Y
namespace Go.Y
open Go.Sb Go.ec
theorem vB {q:Nat}{B:List Ca}{e d:Int}(h:gh q B):Og B e d [40]=some false:=by
 cases B with
 | nil=>rw [Og,if_neg (by simp)]
 | cons t B =>
  rw [Og,if_pos (by simp<;>omega),uf (by simp),pa];exact congrArg some (decide_eq_false (h t B rfl).1)
theorem Cx {t:Ca}{B:List Ca}{e d:Int}(h:t.Text=[40]):Og (t::B) e d [40]=some true:=by
 rw [Og,if_pos (by simp<;>omega),uf (by simp),pa];exact congrArg some (decide_eq_true h)
theorem Hw {t:Ca}{B:List Ca}{e d:Int}(h:t.Kind=2):aq (t::B) e d=some (t.Tm,B,e,d):=by
 rw [aq,if_neg (by simp<;>omega),uf (by simp),pa];show Dp (t::B) e d (decide (t.Kind≠2))=_;rw [decide_eq_false (by simpa using h),Dp,if_neg (by decide),uf (by simp),pa,dt,pa];rfl
theorem C.num {N:Int}(a:kindOf (Lib.itoa N)=2) (g:Sl (Lib.itoa N)=some N):C 2 0 7 [Lib.itoa N] ⟨1,N,[],[]⟩:=by
 intro n A B e d k l Ua h m;obtain ⟨n,rfl⟩:∃ i,n=i+2:=⟨n - 2,by omega⟩;obtain ⟨t,o,rfl,b,j⟩:=zb.cons h;have:=zb.nil j;subst this;have c:t.Kind=2:=by rw [b.bd,a]
 have f:=b.eg a;rw [g] at f;show Hf (n+1) (Ac (n+1)) (t::B) e d=_;rw [Hf,if_pos (by simp<;>omega),uf (by simp),pa];show yg (n+1) (Ac (n+1)) (t::B) e d (decide (t.Kind=2))=_;rw [decide_eq_true c,yg,if_pos rfl,Hw c,pa,Option.some.inj f]
theorem C.FG:C 2 0 7 [[116,114,117,101]] ⟨2,1,[],[]⟩:=by
 intro n A B e d h i Ua b j;obtain ⟨n,rfl⟩:∃ c,n=c+2:=⟨n - 2,by omega⟩;obtain ⟨t,k,rfl,a,f⟩:=zb.cons b;have:=zb.nil f;subst this;have g:¬ t.Kind=2:=by rw [a.bd];decide
 show Hf (n+1) (Ac (n+1)) (t::B) e d=_;rw [Hf,if_pos (by simp<;>omega),uf (by simp),pa];show yg (n+1) (Ac (n+1)) (t::B) e d (decide (t.Kind=2))=_;rw [decide_eq_false g,yg,if_neg (by decide)];rw [Bf a.vb,pa];simp only [if_true]
theorem C.GG:C 2 0 7 [[102,97,108,115,101]] ⟨2,0,[],[]⟩:=by
 intro n A B e d h i Ua b j;obtain ⟨n,rfl⟩:∃ c,n=c+2:=⟨n - 2,by omega⟩;obtain ⟨t,k,rfl,a,f⟩:=zb.cons b;have:=zb.nil f;subst this;have g:¬ t.Kind=2:=by rw [a.bd];decide
 show Hf (n+1) (Ac (n+1)) (t::B) e d=_;rw [Hf,if_pos (by simp<;>omega),uf (by simp),pa];show yg (n+1) (Ac (n+1)) (t::B) e d (decide (t.Kind=2))=_;rw [decide_eq_false g,yg,if_neg (by decide)];rw [ic (by rw [a.vb];decide),pa];simp only [Bool.false_eq_true,if_false];rw [Bf a.vb,pa];simp only [if_true]
theorem C.HG {w:pb}(hw:kg w):C 30 0 7 [[114,101,99,118],[40],w,[41]] ⟨20,0,w,[]⟩:=by
 intro n A B e d o p Ua b q;obtain ⟨n,rfl⟩:∃ c,n=c+2:=⟨n - 2,by omega⟩;obtain ⟨t,r,rfl,a,f⟩:=zb.cons b;obtain ⟨t2,s,rfl,g,h⟩:=zb.cons f;obtain ⟨t3,u,rfl,i,j⟩:=zb.cons h;obtain ⟨t4,v,rfl,k,l⟩:=zb.cons j;have:=zb.nil l;subst this;have m:¬ t.Kind=2:=by rw [a.bd];decide
 show Hf (n+1) (Ac (n+1)) (t::t2::t3::t4::B) e d=_;rw [Hf,if_pos (by simp<;>omega),uf (by simp),pa];show yg (n+1) (Ac (n+1)) (t::t2::t3::t4::B) e d (decide (t.Kind=2))=_;rw [decide_eq_false m,yg,if_neg (by decide)];rw [ic (by rw [a.vb];decide),pa];simp only [Bool.false_eq_true,if_false];rw [ic (by rw [a.vb];decide),pa];simp only [Bool.false_eq_true,if_false];rw [ic (by rw [a.vb];decide),pa];simp only [Bool.false_eq_true,if_false];rw [Bf a.vb,pa];simp only [if_true];rw [Ih g.vb,pa];simp only [];rw [Tj (by omega) i hw,pa];simp only [];rw [Ih k.vb,pa]
theorem C.IG {f:wa→List pb}{g:wa→wa}{N D:Nat}{l:List wa}(h:∀ y ∈ l,C N D 0 (f y) (g y)) (i:l.length=1):C (N+30) (D+1) 7 ([121,105,101,108,100]::wg f l) ⟨21,0,[],l.map g⟩:=by
 intro n A B e d r j Ua k s;obtain ⟨n,rfl⟩:∃ m,n=m+2:=⟨n - 2,by omega⟩;obtain ⟨t,b,rfl,a,o⟩:=zb.cons k;have c:=Xu (n:=n+1) (B:=B) (e:=e) (d:=d) (show N+10≤n+1 by omega) j (by omega) 21 h (by omega) (by omega) o;rw [i] at c;have p:¬ t.Kind=2:=by rw [a.bd];decide
 show Hf (n+1) (Ac (n+1)) (t::(b++B)) e d=_;rw [Hf,if_pos (by simp<;>omega),uf (by simp),pa];show yg (n+1) (Ac (n+1)) (t::(b++B)) e d (decide (t.Kind=2))=_;rw [decide_eq_false p,yg,if_neg (by decide)];rw [ic (by rw [a.vb];decide),pa];simp only [Bool.false_eq_true,if_false];rw [ic (by rw [a.vb];decide),pa];simp only [Bool.false_eq_true,if_false];rw [ic (by rw [a.vb];decide),pa];simp only [Bool.false_eq_true,if_false];rw [ic (by rw [a.vb];decide),pa];simp only [Bool.false_eq_true,if_false];rw [Bf a.vb,pa];simp only [if_true];have q:(Ac (n+1)).Rj (b++B) e d 21 1=some (⟨21,0,[],l.map g⟩,B,e,d):=c;rw [q,pa]
theorem C.JG {f:wa→List pb}{g:wa→wa}{N D:Nat}{l:List wa}(h:∀ y ∈ l,C N D 0 (f y) (g y)) (i:l.length=2):C (N+30) (D+1) 7 ([114,101,115,117,109,101]::wg f l) ⟨23,0,[],l.map g⟩:=by
 intro n A B e d r j Ua k s;obtain ⟨n,rfl⟩:∃ m,n=m+2:=⟨n - 2,by omega⟩;obtain ⟨t,b,rfl,a,o⟩:=zb.cons k;have c:=Xu (n:=n+1) (B:=B) (e:=e) (d:=d) (show N+10≤n+1 by omega) j (by omega) 23 h (by omega) (by omega) o;rw [i] at c;have p:¬ t.Kind=2:=by rw [a.bd];decide
 show Hf (n+1) (Ac (n+1)) (t::(b++B)) e d=_;rw [Hf,if_pos (by simp<;>omega),uf (by simp),pa];show yg (n+1) (Ac (n+1)) (t::(b++B)) e d (decide (t.Kind=2))=_;rw [decide_eq_false p,yg,if_neg (by decide)];rw [ic (by rw [a.vb];decide),pa];simp only [Bool.false_eq_true,if_false];rw [ic (by rw [a.vb];decide),pa];simp only [Bool.false_eq_true,if_false];rw [ic (by rw [a.vb];decide),pa];simp only [Bool.false_eq_true,if_false];rw [ic (by rw [a.vb];decide),pa];simp only [Bool.false_eq_true,if_false];rw [ic (by rw [a.vb];decide),pa];simp only [Bool.false_eq_true,if_false];rw [Bf a.vb,pa];simp only [if_true];have q:(Ac (n+1)).Rj (b++B) e d 23 2=some (⟨23,0,[],l.map g⟩,B,e,d):=c;rw [q,pa]
theorem C.KG {f:wa→List pb}{g:wa→wa}{N D:Nat}{l:List wa}(h:∀ y ∈ l,C N D 0 (f y) (g y)) (i:l.length=1):C (N+30) (D+1) 7 ([97,108,105,118,101]::wg f l) ⟨24,0,[],l.map g⟩:=by
 intro n A B e d r j Ua k s;obtain ⟨n,rfl⟩:∃ m,n=m+2:=⟨n - 2,by omega⟩;obtain ⟨t,b,rfl,a,o⟩:=zb.cons k;have c:=Xu (n:=n+1) (B:=B) (e:=e) (d:=d) (show N+10≤n+1 by omega) j (by omega) 24 h (by omega) (by omega) o;rw [i] at c;have p:¬ t.Kind=2:=by rw [a.bd];decide
 show Hf (n+1) (Ac (n+1)) (t::(b++B)) e d=_;rw [Hf,if_pos (by simp<;>omega),uf (by simp),pa];show yg (n+1) (Ac (n+1)) (t::(b++B)) e d (decide (t.Kind=2))=_;rw [decide_eq_false p,yg,if_neg (by decide)];rw [ic (by rw [a.vb];decide),pa];simp only [Bool.false_eq_true,if_false];rw [ic (by rw [a.vb];decide),pa];simp only [Bool.false_eq_true,if_false];rw [ic (by rw [a.vb];decide),pa];simp only [Bool.false_eq_true,if_false];rw [ic (by rw [a.vb];decide),pa];simp only [Bool.false_eq_true,if_false];rw [ic (by rw [a.vb];decide),pa];simp only [Bool.false_eq_true,if_false];rw [ic (by rw [a.vb];decide),pa];simp only [Bool.false_eq_true,if_false];rw [Bf a.vb,pa];simp only [if_true];have q:(Ac (n+1)).Rj (b++B) e d 24 1=some (⟨24,0,[],l.map g⟩,B,e,d):=c;rw [q,pa]
theorem C.LG {f:wa→List pb}{g:wa→wa}{N D:Nat}{l:List wa}{w:pb}(hw:kg w) (c:∀ y ∈ l,C N D 0 (f y) (g y)) (h:∀ y ∈ l,∃ w ws,f y=w::ws∧w≠[41]) (i:l.length≤6):C (N+30) (D+1) 7 ([115,116,97,114,116]::w::wg f l) ⟨22,0,w,l.map g⟩:=by
 intro n A B e d u j Ua k v;obtain ⟨n,rfl⟩:∃ m,n=m+2:=⟨n - 2,by omega⟩;obtain ⟨t,x,rfl,a,o⟩:=zb.cons k;obtain ⟨t2,b,rfl,p,q⟩:=zb.cons o;have r:=Ly (n:=n+1) (B:=B) (e:=e) (d:=d) (show N+10≤n+1 by omega) j (by omega) c h i q;have s:¬ t.Kind=2:=by rw [a.bd];decide
 show Hf (n+1) (Ac (n+1)) (t::t2::(b++B)) e d=_;rw [Hf,if_pos (by simp<;>omega),uf (by simp),pa];show yg (n+1) (Ac (n+1)) (t::t2::(b++B)) e d (decide (t.Kind=2))=_;rw [decide_eq_false s,yg,if_neg (by decide)];rw [ic (by rw [a.vb];decide),pa];simp only [Bool.false_eq_true,if_false];rw [ic (by rw [a.vb];decide),pa];simp only [Bool.false_eq_true,if_false];rw [ic (by rw [a.vb];decide),pa];simp only [Bool.false_eq_true,if_false];rw [ic (by rw [a.vb];decide),pa];simp only [Bool.false_eq_true,if_false];rw [ic (by rw [a.vb];decide),pa];simp only [Bool.false_eq_true,if_false];rw [ic (by rw [a.vb];decide),pa];simp only [Bool.false_eq_true,if_false];rw [ic (by rw [a.vb];decide),pa];simp only [Bool.false_eq_true,if_false];rw [Bf a.vb,pa];simp only [if_true];rw [Tj (by omega) p hw,pa];simp only [];rw [r,pa]
theorem C.call {f:wa→List pb}{g:wa→wa}{N D:Nat}{l:List wa}{w:pb}(hw:kg w) (i:∀ y ∈ l,C N D 0 (f y) (g y)) (j:∀ y ∈ l,∃ w ws,f y=w::ws∧w≠[41]) (k:l.length≤6):C (N+30) (D+1) 7 (w::wg f l) ⟨19,0,w,l.map g⟩:=by
 intro n A B e d v m Ua o z;obtain ⟨n,rfl⟩:∃ p,n=p+2:=⟨n - 2,by omega⟩;obtain ⟨t,b,rfl,a,c⟩:=zb.cons o;have q:=Ly (n:=n+1) (B:=B) (e:=e) (d:=d) (show N+10≤n+1 by omega) m (by omega) i j k c;have r:Og (b++B) e d [40]=some true:=by
  cases l with
  | nil=>obtain ⟨t2,s,rfl,h,-⟩:=zb.cons c; exact Cx h.vb
  | cons x l=>obtain ⟨t2,s,rfl,h,-⟩:=zb.cons c; exact Cx h.vb
 have u:¬ t.Kind=2:=by rw [a.bd];rw [hw.Rr];decide
 show Hf (n+1) (Ac (n+1)) (t::(b++B)) e d=_;rw [Hf,if_pos (by simp<;>omega),uf (by simp),pa];show yg (n+1) (Ac (n+1)) (t::(b++B)) e d (decide (t.Kind=2))=_;rw [decide_eq_false u,yg,if_neg (by decide)];rw [ic (by rw [a.vb];exact hw.ne (by kernel_rfl)),pa];simp only [Bool.false_eq_true,if_false];rw [ic (by rw [a.vb];exact hw.ne (by kernel_rfl)),pa];simp only [Bool.false_eq_true,if_false];rw [ic (by rw [a.vb];exact hw.Tn (by decide)),pa];simp only [Bool.false_eq_true,if_false];rw [ic (by rw [a.vb];exact hw.ne (by kernel_rfl)),pa];simp only [Bool.false_eq_true,if_false];rw [ic (by rw [a.vb];exact hw.ne (by kernel_rfl)),pa];simp only [Bool.false_eq_true,if_false];rw [ic (by rw [a.vb];exact hw.ne (by kernel_rfl)),pa];simp only [Bool.false_eq_true,if_false];rw [ic (by rw [a.vb];exact hw.ne (by kernel_rfl)),pa];simp only [Bool.false_eq_true,if_false];rw [ic (by rw [a.vb];exact hw.ne (by kernel_rfl)),pa];simp only [Bool.false_eq_true,if_false];rw [Tj (by omega) a hw,pa];simp only [];rw [r,pa];simp only [if_true];rw [q,pa]
theorem C.var {w:pb}(hw:kg w):C 30 0 7 [w] ⟨3,0,w,[]⟩:=by
 intro n A B e d i j Ua b c;obtain ⟨n,rfl⟩:∃ f,n=f+2:=⟨n - 2,by omega⟩;obtain ⟨t,k,rfl,a,g⟩:=zb.cons b;have:=zb.nil g;subst this;have h:¬ t.Kind=2:=by rw [a.bd];rw [hw.Rr];decide
 show Hf (n+1) (Ac (n+1)) (t::B) e d=_;rw [Hf,if_pos (by simp<;>omega),uf (by simp),pa];show yg (n+1) (Ac (n+1)) (t::B) e d (decide (t.Kind=2))=_;rw [decide_eq_false h,yg,if_neg (by decide)];rw [ic (by rw [a.vb];exact hw.ne (by kernel_rfl)),pa];simp only [Bool.false_eq_true,if_false];rw [ic (by rw [a.vb];exact hw.ne (by kernel_rfl)),pa];simp only [Bool.false_eq_true,if_false];rw [ic (by rw [a.vb];exact hw.Tn (by decide)),pa];simp only [Bool.false_eq_true,if_false];rw [ic (by rw [a.vb];exact hw.ne (by kernel_rfl)),pa];simp only [Bool.false_eq_true,if_false];rw [ic (by rw [a.vb];exact hw.ne (by kernel_rfl)),pa];simp only [Bool.false_eq_true,if_false];rw [ic (by rw [a.vb];exact hw.ne (by kernel_rfl)),pa];simp only [Bool.false_eq_true,if_false];rw [ic (by rw [a.vb];exact hw.ne (by kernel_rfl)),pa];simp only [Bool.false_eq_true,if_false];rw [ic (by rw [a.vb];exact hw.ne (by kernel_rfl)),pa];simp only [Bool.false_eq_true,if_false];rw [Tj (by omega) a hw,pa];simp only [];rw [vB c,pa];simp only [Bool.false_eq_true,if_false]
end Go.Y
namespace Go.Y
open Go.Sb Go.ec
theorem C.pz {N D p:Nat}{ws:List pb}{r:wa}(a:p≤5) (h:C N D p ws r){q:Nat}(b:q≤p):C (N+6) D q ws r:=by
 have:=C.down a h (p - q) (by omega);rw [show p - (p - q)=q by omega] at this;exact this.more (by omega) (Nat.le_refl _)
theorem C.qz {N D:Nat}{ws:List pb}{r:wa}(h:C N D 6 ws r){q:Nat}(a:q≤6):C (N+7) D q ws r:=by
 by_cases c:q=6
 ·subst c;exact h.more (by omega) (Nat.le_refl _)
 ·exact (C.pz (by omega) h.JF (show q≤5 by omega)).more (by omega) (Nat.le_refl _)
theorem C.rz {N D:Nat}{w:pb}{ws:List pb}{r:wa}(a:w≠[45]) (b:w≠[110,111,116]) (h:C N D 7 (w::ws) r){q:Nat}(d:q≤7):C (N+8) D q (w::ws) r:=by
 by_cases c:q=7
 ·subst c;exact h.more (by omega) (Nat.le_refl _)
 ·exact (C.qz (C.KF a b h) (show q≤6 by omega)).more (by omega) (Nat.le_refl _)
def Hn (q:Nat):Nat:=if q≤5 then q+1 else q
def Ez (ws:List pb):Prop:=∃ w t,ws=w::t∧w≠[41]
theorem Yu {k:Int}(h:1≤k∧k≤3∨19≤k):own k=7:=by
 unfold own;rw [if_neg (by omega),if_neg (by omega),if_neg (by omega),if_neg (by omega),if_neg (by omega),if_neg (by omega)]
theorem wv {k:Int}(h:k=4∨k=5):own k=6:=by
 rcases h with rfl | rfl<;>decide
def Hr:Prop:=∀ N:Int,0≤N→N≤999999999999999→kindOf (Lib.itoa N)=2∧Sl (Lib.itoa N)=some N
structure SG (k:Nat) (x:wa):Prop where
 Ua:∀ oc,Ez (Ec k oc x)
 c:∀ q,q≤7→C (100*k) (2*k) q (Ec k (Hn q) x) (de k x)
 s:∀ q,q<5→q≠2→pk (100*k) (2*k) k q (Ec k (q+1) x) (de k x)
theorem My (num:Hr):∀ (k:Nat) (x:wa),k≤60→oo k x→SG k x
 | 0,x,_,h=>by cases h
 | k+1,x,If,h=>by
  obtain ⟨k1,dg,B,id,md,D,L⟩:=h;have m:=fun y r=>My num k y (by omega) (L y r);have V:=B.le;have M:Ef x.Kind=1→∃ a,x.Kids=[a]:=fun h=>one (l:=x.Kids) (by have:=B.eq (by omega);omega);have W:Ef x.Kind=2→∃ a b,x.Kids=[a,b]:=fun h=>two (l:=x.Kids) (by have:=B.eq (by omega);omega);have E:Ef x.Kind=0→x.Kids=[]:=fun h=>List.length_eq_zero_iff.1 (by have:=B.eq (by omega);omega);have u:∀ y ∈ x.Kids,C (100*k) (2*k) 0 (Ec k 1 y) (de k y):=fun y r=>(m y r).c 0 (by omega);have X:∀ y ∈ x.Kids,∃ w ws,Ec k 1 y=w::ws∧w≠[41]:=fun y r=>(m y r).Ua 1;have P:de (k+1) x=wa.mk x.Kind (if x.Kind=1∨x.Kind=2 then x.N else 0) (if x.Kind=3∨x.Kind=20∨x.Kind=19∨x.Kind=22 then x.Name else []) (x.Kids.map (de k)):=rfl;have piece:own x.Kind=7→C (100*k+70) (2*k+1) 7 (Tf (Ec k) x) (de (k+1) x)∧∃ w t,Tf (Ec k) x=w::t∧w≠[41]∧w≠[45]∧w≠[110,111,116]:=by
   intro f;rw [P];by_cases n:x.Kind=1
   ·obtain ⟨rd,a2⟩:=id n;obtain ⟨ya,wd⟩:=num x.N rd a2;have ta:=E (by rw [n];decide);rw [Tf,if_pos n,n,ta];have ne:∀ w:pb,kindOf w≠2→Lib.itoa x.N≠w:=fun w hw e=>hw (e ▸ ya);exact ⟨(C.num ya wd).more (by omega) (by omega),_,_,rfl,ne _ (by decide),ne _ (by decide),ne _ (by decide)⟩
   by_cases c2:x.Kind=2
   ·have ta:=E (by rw [c2];decide);rw [Tf,if_neg n,if_pos c2,c2,ta];rcases md c2 with e | e
    ·rw [e];exact ⟨C.GG.more (by omega) (by omega),_,_,rfl,by decide,by decide,by decide⟩
    ·rw [e];exact ⟨C.FG.more (by omega) (by omega),_,_,rfl,by decide,by decide,by decide⟩
   by_cases c3:x.Kind=3
   ·have ta:=E (by rw [c3];decide);have hw:=D (.inl c3);rw [Tf,if_neg n,if_neg c2,if_pos c3,c3,ta];exact ⟨(C.var hw).more (by omega) (by omega),_,_,rfl,hw.Tn (by decide),hw.Tn (by decide),hw.ne (by kernel_rfl)⟩
   have o:¬ (x.Kind=4∨x.Kind=5):=fun h=>by rw [wv h] at f;cases f
   have Fd:¬ x.Kind≤18:=fun h=>by
    obtain ⟨q,Y,Z,-⟩:=qq (show 6≤x.Kind∧x.Kind≤18 by omega);omega
   rw [Tf,if_neg n,if_neg c2,if_neg c3,if_neg o,if_neg Fd,if_neg (show ¬ (x.Kind=1∨x.Kind=2) by omega)];by_cases F:x.Kind=19
   ·have hw:=D (by simp [F]);rw [if_pos F,if_pos (show x.Kind=3∨x.Kind=20∨x.Kind=19∨x.Kind=22 by omega),F];exact ⟨(C.call hw u X V).more (by omega) (by omega),_,_,rfl,hw.Tn (by decide),hw.Tn (by decide),hw.ne (by kernel_rfl)⟩
   rw [if_neg F];by_cases c20:x.Kind=20
   ·have hw:=D (by simp [c20]);have ta:=E (by rw [c20];decide);rw [if_pos c20,if_pos (show x.Kind=3∨x.Kind=20∨x.Kind=19∨x.Kind=22 by omega),c20,ta];exact ⟨(C.HG hw).more (by omega) (by omega),_,_,rfl,by decide,by decide,by decide⟩
   rw [if_neg c20];by_cases c21:x.Kind=21
   ·obtain ⟨a,d⟩:=M (by rw [c21];decide);rw [if_pos c21,if_neg (show ¬ (x.Kind=3∨x.Kind=20∨x.Kind=19∨x.Kind=22) by omega),c21];exact ⟨(C.IG u (by rw [d];rfl)).more (by omega) (by omega),_,_,rfl,by decide,by decide,by decide⟩
   rw [if_neg c21];by_cases G:x.Kind=22
   ·have hw:=D (by simp [G]);rw [if_pos G,if_pos (show x.Kind=3∨x.Kind=20∨x.Kind=19∨x.Kind=22 by omega),G];exact ⟨(C.LG hw u X V).more (by omega) (by omega),_,_,rfl,by decide,by decide,by decide⟩
   rw [if_neg G];by_cases H:x.Kind=23
   ·obtain ⟨a,b,d⟩:=W (by rw [H];decide);rw [if_pos H,if_neg (show ¬ (x.Kind=3∨x.Kind=20∨x.Kind=19∨x.Kind=22) by omega),H];exact ⟨(C.JG u (by rw [d];rfl)).more (by omega) (by omega),_,_,rfl,by decide,by decide,by decide⟩
   rw [if_neg H];have c24:x.Kind=24:=by omega
   obtain ⟨a,d⟩:=M (by rw [c24];decide);rw [if_neg (show ¬ (x.Kind=3∨x.Kind=20∨x.Kind=19∨x.Kind=22) by omega),c24];exact ⟨(C.KG u (by rw [d];rfl)).more (by omega) (by omega),_,_,rfl,by decide,by decide,by decide⟩
  have gc:own x.Kind=6→C (100*k+70) (2*k+1) 6 (Tf (Ec k) x) (de (k+1) x)∧Ez (Tf (Ec k) x):=by
   intro f;have o:x.Kind=4∨x.Kind=5:=by
    refine Decidable.byContradiction fun h=>?_;by_cases v:6≤x.Kind∧x.Kind≤18
    ·obtain ⟨q,Y,Z,-⟩:=qq v;omega
    ·rw [Yu (by omega)] at f;cases f
   obtain ⟨a,d⟩:=M (by rcases o with h | h<;>rw [h]<;>decide);rw [P,Tf,if_neg (by omega),if_neg (by omega),if_neg (by omega),if_pos o,d,if_neg (by omega),if_neg (by omega)];refine ⟨(C.un o ((m a (by simp [d])).c 6 (by omega))).more (by omega) (by omega),_,_,rfl,?_⟩;rcases o with h | h<;>rw [h]<;>decide
  have K:∀ q,own x.Kind=q+1→q<5→∃ a b,x.Kids=[a,b]∧6≤x.Kind∧x.Kind≤18∧Tf (Ec k) x=Ec k (if q=2 then 4 else q+1) a++Rf x.Kind::Ec k (q+2) b∧de (k+1) x=⟨x.Kind,0,[],[de k a,de k b]⟩:=by
   intro q f g;have i:6≤x.Kind∧x.Kind≤18:=by
    refine Decidable.byContradiction fun h=>?_;by_cases v:x.Kind=4∨x.Kind=5
    ·rw [wv v] at f;omega
    ·rw [Yu (by omega)] at f;omega
   obtain ⟨a,b,d⟩:=W (by unfold Ef;rw [if_neg (by omega),if_neg (by omega),if_pos (by omega)]);refine ⟨a,b,d,i.1,i.2,?_,?_⟩
   ·rw [Tf,if_neg (by omega),if_neg (by omega),if_neg (by omega),if_neg (by omega),if_pos i.2,d,f];by_cases j:q=2
    ·subst j;rfl
    ·simp only [];rw [if_neg (by omega),if_neg j]
   ·rw [P,d,if_neg (by omega),if_neg (by omega)];rfl
  have lc:∀ q,own x.Kind=q+1→q<5→q≠2→pk (100*k) (2*k) (k+1) q (Tf (Ec k) x) (de (k+1) x):=by
   intro q f g j;obtain ⟨a,b,d,i,Q,ea,e2⟩:=K q f g;rw [ea,e2,if_neg j];have Id:k≠0:=by rintro rfl;exact L a (by simp [d])
   have rc:=(m b (by simp [d])).c (q+1) (by omega);rw [Hn,if_pos (by omega)] at rc;exact pk.bin g ⟨i,Q⟩ f j ((m a (by simp [d])).s q g j) rc (by omega)
  have be:∀ q,own x.Kind=q+1→q<5→C (100*k+70) (2*k+1) q (Tf (Ec k) x) (de (k+1) x):=by
   intro q f g;by_cases j:q=2
   ·subst j;obtain ⟨a,b,d,i,Q,ea,e2⟩:=K 2 f g;rw [ea,e2,if_pos rfl];exact (C.nG ⟨i,Q⟩ f ((m a (by simp [d])).c 3 (by omega)) ((m b (by simp [d])).c 3 (by omega))).more (by omega) (by omega)
   ·obtain ⟨a,b,d,-⟩:=K q f g;have Id:k≠0:=by rintro rfl;exact L a (by simp [d])
    exact ((lc q f g j).to g).more (by omega) (by omega)
  have rg:1≤own x.Kind∧own x.Kind≤7:=by
   by_cases ce:6≤x.Kind∧x.Kind≤18
   ·obtain ⟨q,Y,Z,-⟩:=qq ce;omega
   ·by_cases v:x.Kind=4∨x.Kind=5
    ·rw [wv v];omega
    ·rw [Yu (by omega)];omega
  have core:∀ q,q≤7→Hn q≤own x.Kind→C (100*k+78) (2*k+1) q (Tf (Ec k) x) (de (k+1) x):=by
   intro q g z;have bi:(q≤5→q+1≤own x.Kind)∧(¬ q≤5→q≤own x.Kind):=by
    rw [Hn] at z;constructor
    ·intro h;rw [if_pos h] at z;exact z
    ·intro h;rw [if_neg h] at z;exact z
   by_cases R:own x.Kind=7
   ·obtain ⟨ua,w,t,e,-,ge,he⟩:=piece R;rw [e] at ua ⊢;exact (C.rz ge he ua g).more (by omega) (by omega)
   ·by_cases i:own x.Kind=6
    ·exact (C.qz (gc i).1 (show q≤6 by omega)).more (by omega) (by omega)
    ·obtain ⟨p,S⟩:∃ p,own x.Kind=p+1:=⟨own x.Kind - 1,by omega⟩;exact (C.pz (show p≤5 by omega) (be p S (by omega)) (show q≤p by omega)).more (by omega) (by omega)
  have Ne:C (100*k+80) (2*k+2) 7 ([40]::(Tf (Ec k) x++[[41]])) (de (k+1) x):=(C.mC (core 0 (by omega) (by rw [Hn,if_pos (by omega)];omega))).more (by omega) (by omega);have A:∀ oc,Ec (k+1) oc x=if own x.Kind<oc then [40]::(Tf (Ec k) x++[[41]]) else Tf (Ec k) x:=fun oc=>rfl;have fd:∀ q,q≤7→C (100*(k+1)) (2*(k+1)) q (Ec (k+1) (Hn q) x) (de (k+1) x):=by
   intro q g;rw [A];split
   ·exact (C.rz (by decide) (by decide) Ne g).more (by omega) (by omega)
   ·exact (core q g (by omega)).more (by omega) (by omega)
  refine ⟨fun oc=>?_,fd,fun q g j=>?_⟩
  ·rw [A];split
   ·exact ⟨_,_,rfl,by decide⟩
   ·by_cases R:own x.Kind=7
    ·obtain ⟨-,w,t,e,T,-⟩:=piece R;exact ⟨w,t,e,T⟩
    ·by_cases i:own x.Kind=6
     ·exact (gc i).2
     ·obtain ⟨p,S⟩:∃ p,own x.Kind=p+1:=⟨own x.Kind - 1,by omega⟩;obtain ⟨a,b,d,-,-,ea,-⟩:=K p S (by omega);obtain ⟨w,t,e,T⟩:=(m a (by simp [d])).Ua (if p=2 then 4 else p+1);exact ⟨w,t++Rf x.Kind::Ec k (p+2) b,by rw [ea,e];rfl,T⟩
  ·by_cases f:own x.Kind=q+1
   ·rw [A,if_neg (by omega)];exact (lc q f g j).more (by omega) (by omega) (by omega)
   ·have e:Ec (k+1) (q+1) x=Ec (k+1) (Hn (q+1)) x:=by
     have wf:Hn (q+1)=q+2:=by rw [Hn,if_pos (by omega)]
     rw [wf,A,A];by_cases c:own x.Kind<q+1
     ·rw [if_pos c,if_pos (by omega)]
     ·rw [if_neg c,if_neg (by omega)]
    rw [e];exact (pk.of g (fd (q+1) (by omega))).more (by omega) (by omega) (by omega)
end Go.Y
namespace Go.Y
open Go.Sb Go.ec
def bf (f:ib→List pb) (l:List ib):List pb:=[123]::((l.map f).flatten++[[125]])
def Zd:Nat→ib→List pb
 | 0,_=>[]
 | k+1,s =>
  if s.Kind=3 then [105,102]::(Ec k 1 s.X++(bf (Zd k) s.Body++(if s.Nc=[] then [] else [101,108,115,101]::bf (Zd k) s.Nc)))
  else if s.Kind=4 then [119,104,105,108,101]::(Ec k 1 s.X++bf (Zd k) s.Body)
  else if s.Kind=1 then [108,101,116]::s.Name::[61]::(Ec k 1 s.X++[[59]])
  else if s.Kind=2 then s.Name::[61]::(Ec k 1 s.X++[[59]])
  else if s.Kind=7 then [115,101,110,100]::s.Name::(Ec k 1 s.X++[[59]])
  else if s.Kind=6 then [[115,116,111,112],[59]]
  else (if s.Kind=5 then [114,101,116,117,114,110] else if s.Kind=8 then [111,117,116] else [100,111])::(Ec k 1 s.X++[[59]])
def Cj:Nat→ib→Prop
 | 0,_=>False
 | k+1,s=>1≤s.Kind∧s.Kind≤9∧(s.Kind≠6→oo k s.X)∧((s.Kind=1∨s.Kind=2∨s.Kind=7)→kg s.Name)∧((s.Kind=3∨s.Kind=4)→s.Body.length≤50∧∀ y ∈ s.Body,Cj k y)∧(s.Kind=3→s.Nc.length≤50∧∀ y ∈ s.Nc,Cj k y)
theorem fz:([123]:pb)≠[40]∧∀ m,m<5→Zl m [123]=0:=by decide
theorem Dq:([59]:pb)≠[40]∧∀ m,m<5→Zl m [59]=0:=by decide
def Lt (B:List Ca):Prop:=∀ t a,B=t::a→t.Text≠[101,108,115,101]
theorem Zx {w:pb}(h:w≠[101,108,115,101]){t:Ca}(a:t.Text=w) (B:List Ca):Lt (t::B):=by
 intro b c e;obtain ⟨rfl,-⟩:=List.cons.inj e;rw [a];exact h
theorem wB {B:List Ca}(h:Lt B) (e d:Int):Cc B e d [101,108,115,101]=some (false,B,e,d):=by
 cases B with
 | nil=>exact ME
 | cons t B=>exact ic (h t B rfl)
theorem Rt (r:wa):wa.mk r.Kind r.N r.Name r.Kids=r:=by cases r;rfl
theorem ay:∀ (k:Nat) (s:ib),Cj k s→∃ w t,Zd k s=w::t∧w≠[125]∧w≠[101,108,115,101]
 | 0,s,h=>by cases h
 | k+1,s,h=>by
  obtain ⟨k1,f,g,e,i,j⟩:=h;rw [Zd];by_cases c3:s.Kind=3
  ·rw [if_pos c3];exact ⟨_,_,rfl,by decide,by decide⟩
  rw [if_neg c3];by_cases c4:s.Kind=4
  ·rw [if_pos c4];exact ⟨_,_,rfl,by decide,by decide⟩
  rw [if_neg c4];by_cases a:s.Kind=1
  ·rw [if_pos a];exact ⟨_,_,rfl,by decide,by decide⟩
  rw [if_neg a];by_cases c2:s.Kind=2
  ·have hw:=e (by simp [c2]);rw [if_pos c2];exact ⟨_,_,rfl,hw.Tn (by decide),hw.ne (by kernel_rfl)⟩
  rw [if_neg c2];by_cases b:s.Kind=7
  ·rw [if_pos b];exact ⟨_,_,rfl,by decide,by decide⟩
  rw [if_neg b];by_cases c:s.Kind=6
  ·rw [if_pos c];exact ⟨_,_,rfl,by decide,by decide⟩
  rw [if_neg c];by_cases c5:s.Kind=5
  ·rw [if_pos c5];exact ⟨_,_,rfl,by decide,by decide⟩
  rw [if_neg c5];by_cases d:s.Kind=8
  ·rw [if_pos d];exact ⟨_,_,rfl,by decide,by decide⟩
  rw [if_neg d];exact ⟨_,_,rfl,by decide,by decide⟩
structure TG (k n:Nat):Prop where
 body:∀ (l:List ib) (A B:List Ca) (e d:Int),l.length≤50→(∀ y ∈ l,Cj k y)→7000+3*k+1≤n→0≤d→d+2*k+3≤200→zb A (bf (Zd k) l)→(rj n).vj (A++B) e d=some (l.map (Cd k),B,e,d)
 stat:∀ (s:ib) (A B:List Ca) (e d:Int),Cj k s→7000+3*k≤n→0≤d→d+2*k+2≤200→zb A (Zd k s)→Lt B→(rj n).Ai (A++B) e d=some (Cd k s,B,e,d)
theorem OE (num:Hr):∀ (n k:Nat),k≤50→TG k n:=by
 intro n
 induction n with
 | zero=>intro k lc; exact ⟨fun _ _ _ _ _ _ _ h=>by omega,fun _ _ _ _ _ _ h=>by omega⟩
 | succ n K =>
  intro k lc;refine ⟨fun l A B e d wd z Fd G Ua f=>?_,fun s A B e d z Fd G Ua f Id=>?_⟩
  ·show vj n (rj n) (A++B) e d=_;obtain ⟨t,x,rfl,a,p⟩:=zb.cons f;rw [vj,Fl,Qd (by omega),pa,if_neg (by omega),pa];simp only [];rw [List.cons_append,Ih a.vb,pa];simp only [];have L:∀ (l:List ib) (acc:List ib) (m:Nat) (A:List Ca),(∀ y ∈ l,Cj k y)→l.length<m→acc.length+l.length≤50→zb A ((l.map (Zd k)).flatten++[[125]]) →
     Co (rj n) m (A++B) e (d+1) acc=some (acc++l.map (Cd k),B,e,d):=by
    intro l
    induction l with
    | nil =>
     intro acc m A z hm rc f;obtain ⟨m,rfl⟩:∃ Q,m=Q+1:=⟨m - 1,by simp at hm;omega⟩;obtain ⟨t,x,rfl,a,p⟩:=zb.cons f;have:=zb.nil p;subst this;rw [Co,List.cons_append,Bf a.vb,pa];simp only [if_true];rw [Gg,Qd (by omega),pa,pa];simp
    | cons s l be =>
     intro acc m A z hm rc f;rw [List.length_cons] at hm rc;obtain ⟨m,rfl⟩:∃ Q,m=Q+1:=⟨m - 1,by omega⟩;rw [List.map_cons,List.flatten_cons,List.append_assoc] at f;obtain ⟨b,o,rfl,j,g⟩:=zb.app f;have fd:=z s (List.mem_cons_self ..);have ce:Lt (o++B):=by
      cases l with
      | nil =>
       obtain ⟨t,x,rfl,a,-⟩:=zb.cons g;exact Zx (by decide) a.vb _
      | cons y l =>
       obtain ⟨w,ws,ea,-,ge⟩:=ay k y (z y (by simp));rw [List.map_cons,List.flatten_cons,ea] at g;obtain ⟨t,x,rfl,a,-⟩:=zb.cons g;exact Zx ge a.vb _
     have he:=(K k lc).stat s b (o++B) e (d+1) fd (by omega) (by omega) (by omega) j ce;obtain ⟨w,ws,ea,e2,-⟩:=ay k s fd;have id:=j;rw [ea] at id;obtain ⟨t,r,rfl,a,-⟩:=zb.cons id;rw [Co,List.cons_append,List.cons_append,ic (by rw [a.vb];exact e2),pa];simp only [Bool.false_eq_true,if_false];rw [if_neg (by omega)];have le:t::(r++o++B)=t::r++(o++B):=by simp
     rw [le,he,pa];simp only [];rw [tn (by simp;omega),pa,be (acc++[Cd k s]) m o (fun y Ne=>z y (List.mem_cons_of_mem _ Ne)) (by omega) (by simp;omega) g];simp
   have:=L l [] n x z (by omega) (by simpa using wd) p;rw [this];simp
  ·show Ai n (rj n) (A++B) e d=_;cases k with
   | zero=>cases z
   | succ k =>
   obtain ⟨k1,Pi,of,R,md,wf⟩:=z;have If:Cd (k+1) s=ib.mk s.Kind (if s.Kind=1∨s.Kind=2∨s.Kind=7 then s.Name else []) (if s.Kind≠6 then de k s.X else wa.mk 0 0 [] []) (if s.Kind=3∨s.Kind=4 then s.Body.map (Cd k) else []) (if s.Kind=3 then s.Nc.map (Cd k) else []):=rfl;have X:s.Kind≠6→∀ (b H:List Ca),zb b (Ec k 1 s.X)→gh 0 H→(Ac n).Yg (b++H) e d=some (de k s.X,H,e,d):=fun dg b H rg bi =>
    C.expr ((My num k s.X (by omega) (of dg)).c 0 (by omega)) n b H e d (by omega) G (by omega) rg bi
   have E:∀ (t:Ca) (eg:Nm) (bd:Int),t.Text=[59]→Tk (t::B) e d bd eg (de k s.X).Kind (de k s.X).N (de k s.X).Name (de k s.X).Kids=some (⟨bd,eg,de k s.X,[],[]⟩,B,e,d):=fun t eg bd h=>by
    rw [Tk,Ih h,pa,Rt]
   rw [If];rw [Zd] at f;by_cases c3:s.Kind=3
   ·obtain ⟨ya,S⟩:=md (.inl c3);obtain ⟨ci,ii⟩:=wf c3;rw [if_pos c3] at f;rw [if_neg (show ¬ (s.Kind=1∨s.Kind=2∨s.Kind=7) by omega),if_pos (show s.Kind≠6 by omega),if_pos (show s.Kind=3∨s.Kind=4 by omega),if_pos c3,c3];obtain ⟨t,x,rfl,a,p⟩:=zb.cons f;obtain ⟨b,o,rfl,j,g⟩:=zb.app p;obtain ⟨r,M,rfl,rd,P⟩:=zb.app g;have f1:gh 0 (r++(M++B)):=by
     obtain ⟨t2,T,rfl,D,-⟩:=zb.cons rd;exact nm fz D.vb _ 0
    have ta:t::(b++(r++M))++B=t::(b++(r++(M++B))):=by simp
    rw [Ai,ta,Bf a.vb,pa];simp only [if_true];rw [X (by omega) b _ j f1,pa];simp only [];rw [(K k (by omega)).body s.Body r (M++B) e d ya S (by omega) G (by omega) rd,pa];simp only [];by_cases q:s.Nc=[]
    ·rw [if_pos q] at P;have:=zb.nil P;subst this;rw [List.nil_append,wB Id,pa];simp only [Bool.false_eq_true,if_false];rw [Rs,Rt,q];rfl
    ·rw [if_neg q] at P;obtain ⟨t2,T,rfl,D,li⟩:=zb.cons P;rw [List.cons_append,Bf D.vb,pa];simp only [if_true];rw [(K k (by omega)).body s.Nc T B e d ci ii (by omega) G (by omega) li,pa,Rs,Rt]
   rw [if_neg c3] at f;by_cases c4:s.Kind=4
   ·obtain ⟨ya,S⟩:=md (.inr c4);rw [if_pos c4] at f;rw [if_neg (show ¬ (s.Kind=1∨s.Kind=2∨s.Kind=7) by omega),if_pos (show s.Kind≠6 by omega),if_pos (show s.Kind=3∨s.Kind=4 by omega),if_neg c3,c4];obtain ⟨t,x,rfl,a,p⟩:=zb.cons f;obtain ⟨b,o,rfl,j,g⟩:=zb.app p;have f1:gh 0 (o++B):=by
     obtain ⟨t2,T,rfl,D,-⟩:=zb.cons g;exact nm fz D.vb _ 0
    have ta:t::(b++o)++B=t::(b++(o++B)):=by simp
    rw [Ai,ta];rw [ic (by rw [a.vb];decide),pa];simp only [Bool.false_eq_true,if_false];rw [Bf a.vb,pa];simp only [if_true];rw [X (by omega) b _ j f1,pa];simp only [];rw [(K k (by omega)).body s.Body o B e d ya S (by omega) G (by omega) g,pa,Rt]
   rw [if_neg c4] at f;by_cases V:s.Kind=1
   ·rw [if_pos V] at f;rw [if_pos (show s.Kind=1∨s.Kind=2∨s.Kind=7 by omega),if_pos (show s.Kind≠6 by omega),if_neg (show ¬ (s.Kind=3∨s.Kind=4) by omega),if_neg c3,V];have hw:=R (by omega);obtain ⟨t,x,rfl,a,p⟩:=zb.cons f;obtain ⟨t2,kk,rfl,D,pi⟩:=zb.cons p;obtain ⟨t3,r,rfl,W,v⟩:=zb.cons pi;obtain ⟨b,o,rfl,j,g⟩:=zb.app v;obtain ⟨t9,F,rfl,i,u⟩:=zb.cons g;have:=zb.nil u;subst this;have f1:gh 0 (t9::B):=nm Dq i.vb _ 0;have ta:t::t2::t3::(b++[t9])++B=t::t2::t3::(b++t9::B):=by simp
    rw [Ai,ta];rw [ic (by rw [a.vb];decide),pa];simp only [Bool.false_eq_true,if_false];rw [ic (by rw [a.vb];decide),pa];simp only [Bool.false_eq_true,if_false];rw [Bf a.vb,pa];simp only [if_true];rw [Tj (by omega) D hw,pa];simp only [];rw [Ih W.vb,pa];simp only [];rw [X (by omega) b _ j f1,pa];exact E t9 _ _ i.vb
   rw [if_neg V] at f;by_cases c2:s.Kind=2
   ·rw [if_pos c2] at f;rw [if_pos (show s.Kind=1∨s.Kind=2∨s.Kind=7 by omega),if_pos (show s.Kind≠6 by omega),if_neg (show ¬ (s.Kind=3∨s.Kind=4) by omega),if_neg c3,c2];have hw:=R (by omega);obtain ⟨t,x,rfl,a,p⟩:=zb.cons f;obtain ⟨t3,r,rfl,W,v⟩:=zb.cons p;obtain ⟨b,o,rfl,j,g⟩:=zb.app v;obtain ⟨t9,F,rfl,i,u⟩:=zb.cons g;have:=zb.nil u;subst this;have f1:gh 0 (t9::B):=nm Dq i.vb _ 0;have ta:t::t3::(b++[t9])++B=t::t3::(b++t9::B):=by simp
    rw [Ai,ta];rw [ic (by rw [a.vb];exact hw.ne (by kernel_rfl)),pa];simp only [Bool.false_eq_true,if_false];rw [ic (by rw [a.vb];exact hw.ne (by kernel_rfl)),pa];simp only [Bool.false_eq_true,if_false];rw [ic (by rw [a.vb];exact hw.ne (by kernel_rfl)),pa];simp only [Bool.false_eq_true,if_false];rw [ic (by rw [a.vb];exact hw.ne (by kernel_rfl)),pa];simp only [Bool.false_eq_true,if_false];rw [ic (by rw [a.vb];exact hw.ne (by kernel_rfl)),pa];simp only [Bool.false_eq_true,if_false];rw [ic (by rw [a.vb];exact hw.ne (by kernel_rfl)),pa];simp only [Bool.false_eq_true,if_false];rw [ic (by rw [a.vb];exact hw.ne (by kernel_rfl)),pa];simp only [Bool.false_eq_true,if_false];rw [ic (by rw [a.vb];exact hw.ne (by kernel_rfl)),pa];simp only [Bool.false_eq_true,if_false];rw [Tj (by omega) a hw,pa];simp only [];rw [Ih W.vb,pa];simp only [];rw [X (by omega) b _ j f1,pa];exact E t9 _ _ i.vb
   rw [if_neg c2] at f;by_cases Y:s.Kind=7
   ·rw [if_pos Y] at f;rw [if_pos (show s.Kind=1∨s.Kind=2∨s.Kind=7 by omega),if_pos (show s.Kind≠6 by omega),if_neg (show ¬ (s.Kind=3∨s.Kind=4) by omega),if_neg c3,Y];have hw:=R (by omega);obtain ⟨t,x,rfl,a,p⟩:=zb.cons f;obtain ⟨t2,r,rfl,D,v⟩:=zb.cons p;obtain ⟨b,o,rfl,j,g⟩:=zb.app v;obtain ⟨t9,F,rfl,i,u⟩:=zb.cons g;have:=zb.nil u;subst this;have f1:gh 0 (t9::B):=nm Dq i.vb _ 0;have ta:t::t2::(b++[t9])++B=t::t2::(b++t9::B):=by simp
    rw [Ai,ta];rw [ic (by rw [a.vb];decide),pa];simp only [Bool.false_eq_true,if_false];rw [ic (by rw [a.vb];decide),pa];simp only [Bool.false_eq_true,if_false];rw [ic (by rw [a.vb];decide),pa];simp only [Bool.false_eq_true,if_false];rw [ic (by rw [a.vb];decide),pa];simp only [Bool.false_eq_true,if_false];rw [ic (by rw [a.vb];decide),pa];simp only [Bool.false_eq_true,if_false];rw [Bf a.vb,pa];simp only [if_true];rw [Tj (by omega) D hw,pa];simp only [];rw [X (by omega) b _ j f1,pa];exact E t9 _ _ i.vb
   rw [if_neg Y] at f;by_cases Z:s.Kind=6
   ·rw [if_pos Z] at f;rw [if_neg (show ¬ (s.Kind=1∨s.Kind=2∨s.Kind=7) by omega),if_neg (show ¬ s.Kind≠6 by omega),if_neg (show ¬ (s.Kind=3∨s.Kind=4) by omega),if_neg c3,Z];obtain ⟨t,x,rfl,a,p⟩:=zb.cons f;obtain ⟨t9,F,rfl,i,u⟩:=zb.cons p;have:=zb.nil u;subst this;have ta:t::[t9]++B=t::t9::B:=rfl;rw [Ai,ta];rw [ic (by rw [a.vb];decide),pa];simp only [Bool.false_eq_true,if_false];rw [ic (by rw [a.vb];decide),pa];simp only [Bool.false_eq_true,if_false];rw [ic (by rw [a.vb];decide),pa];simp only [Bool.false_eq_true,if_false];rw [ic (by rw [a.vb];decide),pa];simp only [Bool.false_eq_true,if_false];rw [Bf a.vb,pa];simp only [if_true];rw [Tk,Ih i.vb,pa]
   rw [if_neg Z] at f;by_cases c5:s.Kind=5
   ·rw [if_pos c5] at f;rw [if_neg (show ¬ (s.Kind=1∨s.Kind=2∨s.Kind=7) by omega),if_pos (show s.Kind≠6 by omega),if_neg (show ¬ (s.Kind=3∨s.Kind=4) by omega),if_neg c3,c5];obtain ⟨t,r,rfl,a,v⟩:=zb.cons f;obtain ⟨b,o,rfl,j,g⟩:=zb.app v;obtain ⟨t9,F,rfl,i,u⟩:=zb.cons g;have:=zb.nil u;subst this;have f1:gh 0 (t9::B):=nm Dq i.vb _ 0;have ta:t::(b++[t9])++B=t::(b++t9::B):=by simp
    rw [Ai,ta];rw [ic (by rw [a.vb];decide),pa];simp only [Bool.false_eq_true,if_false];rw [ic (by rw [a.vb];decide),pa];simp only [Bool.false_eq_true,if_false];rw [ic (by rw [a.vb];decide),pa];simp only [Bool.false_eq_true,if_false];rw [Bf a.vb,pa];simp only [if_true];rw [X (by omega) b _ j f1,pa];exact E t9 _ _ i.vb
   rw [if_neg c5] at f;by_cases gc:s.Kind=8
   ·rw [if_pos gc] at f;rw [if_neg (show ¬ (s.Kind=1∨s.Kind=2∨s.Kind=7) by omega),if_pos (show s.Kind≠6 by omega),if_neg (show ¬ (s.Kind=3∨s.Kind=4) by omega),if_neg c3,gc];obtain ⟨t,r,rfl,a,v⟩:=zb.cons f;obtain ⟨b,o,rfl,j,g⟩:=zb.app v;obtain ⟨t9,F,rfl,i,u⟩:=zb.cons g;have:=zb.nil u;subst this;have f1:gh 0 (t9::B):=nm Dq i.vb _ 0;have ta:t::(b++[t9])++B=t::(b++t9::B):=by simp
    rw [Ai,ta];rw [ic (by rw [a.vb];decide),pa];simp only [Bool.false_eq_true,if_false];rw [ic (by rw [a.vb];decide),pa];simp only [Bool.false_eq_true,if_false];rw [ic (by rw [a.vb];decide),pa];simp only [Bool.false_eq_true,if_false];rw [ic (by rw [a.vb];decide),pa];simp only [Bool.false_eq_true,if_false];rw [ic (by rw [a.vb];decide),pa];simp only [Bool.false_eq_true,if_false];rw [ic (by rw [a.vb];decide),pa];simp only [Bool.false_eq_true,if_false];rw [Bf a.vb,pa];simp only [if_true];rw [X (by omega) b _ j f1,pa];exact E t9 _ _ i.vb
   rw [if_neg gc] at f;have c9:s.Kind=9:=by omega
   rw [if_neg (show ¬ (s.Kind=1∨s.Kind=2∨s.Kind=7) by omega),if_pos (show s.Kind≠6 by omega),if_neg (show ¬ (s.Kind=3∨s.Kind=4) by omega),if_neg c3,c9];obtain ⟨t,r,rfl,a,v⟩:=zb.cons f;obtain ⟨b,o,rfl,j,g⟩:=zb.app v;obtain ⟨t9,F,rfl,i,u⟩:=zb.cons g;have:=zb.nil u;subst this;have f1:gh 0 (t9::B):=nm Dq i.vb _ 0;have ta:t::(b++[t9])++B=t::(b++t9::B):=by simp
   rw [Ai,ta];rw [ic (by rw [a.vb];decide),pa];simp only [Bool.false_eq_true,if_false];rw [ic (by rw [a.vb];decide),pa];simp only [Bool.false_eq_true,if_false];rw [ic (by rw [a.vb];decide),pa];simp only [Bool.false_eq_true,if_false];rw [ic (by rw [a.vb];decide),pa];simp only [Bool.false_eq_true,if_false];rw [ic (by rw [a.vb];decide),pa];simp only [Bool.false_eq_true,if_false];rw [ic (by rw [a.vb];decide),pa];simp only [Bool.false_eq_true,if_false];rw [ic (by rw [a.vb];decide),pa];simp only [Bool.false_eq_true,if_false];rw [Bf a.vb,pa];simp only [if_true];rw [X (by omega) b _ j f1,pa];exact E t9 _ _ i.vb
end Go.Y
namespace Go.Y
open Go.Sb Go.ec
def lf (t:zc):pb:=if t.Kind=1 then [110,117,109] else if t.Kind=2 then [98,111,111,108] else t.Qc
def Dj (t:zc):Prop:=hk t∧(t.Kind=3→kg t.Qc)
theorem rq {fu:Nat}(f:20≤fu){t:Ca}{ty:zc}{B:List Ca}{e d:Int}(a:Qr t (lf ty)) (h:Dj ty):yn fu (t::B) e d=some (ae ty,B,e,d):=by
 obtain ⟨⟨i,j⟩,g⟩:=h;rw [yn];by_cases b:ty.Kind=1
 ·rw [lf,if_pos b] at a;rw [Bf a.vb,pa];simp only [if_true];rw [ae,if_pos (by omega),b]
 by_cases c2:ty.Kind=2
 ·rw [lf,if_neg b,if_pos c2] at a;rw [ic (by rw [a.vb];decide),pa];simp only [Bool.false_eq_true,if_false];rw [Bf a.vb,pa];simp only [if_true];rw [ae,if_pos (by omega),c2]
 ·have c3:ty.Kind=3:=by omega
  have c:=g c3;rw [lf,if_neg b,if_neg c2] at a;rw [ic (by rw [a.vb];exact c.ne (by kernel_rfl)),pa];simp only [Bool.false_eq_true,if_false];rw [ic (by rw [a.vb];exact c.ne (by kernel_rfl)),pa];simp only [Bool.false_eq_true,if_false];rw [Tj f a c,pa,ae,if_neg (by omega)];obtain ⟨bd,k⟩:=ty;simp only at c3;subst c3;rfl
def Zo (q:TParam):TParam:=TParam.mk q.Name (ae q.Rb)
def Li (l:List TParam):List pb:=(l.map fun q=>[44]::q.Name::[lf q.Rb]).flatten
def tl:List TParam→List pb
 | []=>[[40],[41]]
 | q::l=>[40]::q.Name::lf q.Rb::(Li l++[[41]])
theorem bA {fu:Nat}(h:20≤fu){e d:Int}(B:List Ca):∀ (l:List TParam) (acc:List TParam) (m:Nat) (A:List Ca),(∀ q ∈ l,kg q.Name∧Dj q.Rb)→l.length<m→0<acc.length→acc.length+l.length≤6→zb A (Li l++[[41]]) →
  tk fu m (A++B) e d acc=some (acc++l.map Zo,B,e,d):=by
 intro l
 induction l with
 | nil =>
  intro acc m A c hm j i a;obtain ⟨m,rfl⟩:∃ f,m=f+1:=⟨m - 1,by simp at hm;omega⟩;obtain ⟨t,k,rfl,b,g⟩:=zb.cons a;have:=zb.nil g;subst this;rw [tk,List.cons_append,Bf b.vb,pa,if_pos rfl];simp
 | cons q l n =>
  intro acc m A c hm j i a;rw [List.length_cons] at hm i;obtain ⟨m,rfl⟩:∃ f,m=f+1:=⟨m - 1,by omega⟩;have ea:Li (q::l)++[[41]]=[44]::q.Name::lf q.Rb::(Li l++[[41]]):=by simp [Li]
  rw [ea] at a;obtain ⟨t,k,rfl,b,g⟩:=zb.cons a;obtain ⟨t2,z,rfl,o,p⟩:=zb.cons g;obtain ⟨t3,r,rfl,s,u⟩:=zb.cons p;obtain ⟨v,w⟩:=c q (List.mem_cons_self ..);rw [tk,List.cons_append,ic (by rw [b.vb];decide),pa];simp only [Bool.false_eq_true,if_false];rw [if_pos (by omega),Ih b.vb,pa,Ep,if_neg (by omega)];simp only [List.cons_append];rw [Tj h o v,pa];simp only [];rw [rq h s w,pa];simp only [];rw [tn (by simp;omega),pa];have:=n (acc++[Zo q]) m r (fun y x=>c y (List.mem_cons_of_mem _ x)) (by omega) (by simp) (by simp;omega) u;refine Eq.trans this ?_;simp
theorem Dx {fu:Nat}(b:20≤fu){l:List TParam}{A B:List Ca}{e d:Int}(h:∀ q ∈ l,kg q.Name∧Dj q.Rb) (n:l.length≤6) (i:zb A (tl l)):bq fu (A++B) e d=some (l.map Zo,B,e,d):=by
 obtain ⟨m,hm⟩:∃ o,fu=o+1:=⟨fu - 1,by omega⟩;rw [bq];cases l with
 | nil =>
  obtain ⟨t,p,rfl,c,f⟩:=zb.cons i;obtain ⟨t2,r,rfl,a,g⟩:=zb.cons f;have:=zb.nil g;subst this;rw [List.cons_append,Ih c.vb,pa];simp only [];have step:tk fu (m+1) (t2::[]++B) e d []=some (([]:List TParam).map Zo,B,e,d):=by
   rw [tk,List.cons_append,Bf a.vb,pa,if_pos rfl];simp
  rw [← hm] at step;exact step
 | cons q l =>
  rw [List.length_cons] at n;obtain ⟨t,p,rfl,c,f⟩:=zb.cons i;obtain ⟨t2,r,rfl,a,g⟩:=zb.cons f;obtain ⟨t3,j,rfl,s,u⟩:=zb.cons g;obtain ⟨k,v⟩:=h q (List.mem_cons_self ..);rw [List.cons_append,Ih c.vb,pa];simp only [];have step:tk fu (m+1) (t2::t3::j++B) e d []=some ((q::l).map Zo,B,e,d):=by
   rw [tk,List.cons_append,ic (by rw [a.vb];exact k.Tn (by decide)),pa];simp only [Bool.false_eq_true,if_false];rw [if_neg (by simp),Ep,if_neg (by simp),Tj b a k,pa];simp only [List.cons_append];rw [rq b s v,pa];simp only [];rw [tn (by simp),pa];have:=bA b (e:=e) (d:=d) B l ([]++[Zo q]) m j (fun y w=>h y (List.mem_cons_of_mem _ w)) (by omega) (by simp) (by simp;omega) u;refine Eq.trans this ?_;simp
  rw [← hm] at step;exact step
def Ph (d:sb):List pb :=
 if d.Kind=1 then [[98,111,120],d.Name,lf d.Rb,Lib.itoa d.re,[59]]
 else if d.Kind=4 then [116,97,115,107]::d.Name::bf (Zd 39) d.Body
 else if d.Kind=2 then [102,110]::d.Name::(tl d.Params++lf d.Rb::bf (Zd 39) d.Body)
 else [103,101,110]::d.Name::(tl d.Params++[116,97,107,101,115]::lf d.Bd::[121,105,101,108,100,115]::lf d.Rb::bf (Zd 39) d.Body)
structure ik (d:sb):Prop where
 k1:1≤d.Kind
 Oh:d.Kind≤4
 eg:kg d.Name
 Xd:d.Kind=2∨d.Kind=3→d.Params.length≤6∧∀ q ∈ d.Params,kg q.Name∧Dj q.Rb
 Dn:d.Kind=3→Dj d.Bd
 ty:d.Kind≠4→Dj d.Rb
 vg:d.Kind=1→1≤d.re∧d.re≤20
 oe:d.Kind≠1→d.Body.length≤50∧∀ y ∈ d.Body,Cj 39 y
theorem mr {t:Ca}{B:List Ca}{e d:Int}:bh (t::B) e d=some t.Ae:=by
 rw [bh,if_neg (by simp;omega),uf (by simp),pa];rfl
theorem LF (num:Hr){fu:Nat}(R:8000≤fu){x:sb}(h:ik x){A B:List Ca}{e:Int}(d:zb A (Ph x)):eo fu (A++B) e 0=some (Dd 39 x,B,e,0):=by
 have p:Dd 39 x=sb.mk x.Kind x.Name (if x.Kind≠4 then ae x.Rb else zc.mk 0 []) (if x.Kind=3 then ae x.Bd else zc.mk 0 []) (if x.Kind=1 then x.re else 0) (if x.Kind=2∨x.Kind=3 then x.Params.map Zo else []) (if x.Kind=1 then [] else x.Body.map (Cd 39)):=rfl;have Vm:∀ (f:List Ca),x.Kind≠1→zb f (bf (Zd 39) x.Body)→(rj fu).vj (f++B) e 0=some (x.Body.map (Cd 39),B,e,0):=fun f r z =>
  (OE num fu 39 (by omega)).body x.Body f B e 0 (h.oe r).1 (h.oe r).2 (by omega) (by omega) (by omega) z
 have k1:=h.k1;have Oh:=h.Oh;rw [p];rw [Ph] at d;by_cases a:x.Kind=1
 ·obtain ⟨S,a2⟩:=h.vg a;obtain ⟨s,C⟩:=num x.re (by omega) (by omega);rw [if_pos a] at d;rw [if_pos (show x.Kind≠4 by omega),if_neg (show ¬ x.Kind=3 by omega),if_pos a,if_neg (show ¬ (x.Kind=2∨x.Kind=3) by omega),if_pos a,a];obtain ⟨t,f,rfl,c,g⟩:=zb.cons d;obtain ⟨t2,o,rfl,i,j⟩:=zb.cons g;obtain ⟨t3,u,rfl,D,k⟩:=zb.cons j;obtain ⟨t4,v,rfl,w,l⟩:=zb.cons k;obtain ⟨t5,q,rfl,m,n⟩:=zb.cons l;have:=zb.nil n;subst this;have E:t4.Kind=2:=by rw [w.bd,s]
  have y:=w.eg s;rw [C] at y;have F:=Option.some.inj y;simp only [List.cons_append,List.nil_append];rw [eo,mr,pa,Bf c.vb,pa];simp only [if_true];rw [Tj (by omega) i h.eg,pa];simp only [];rw [rq (by omega) D (h.ty (by omega)),pa];simp only [];rw [mr,pa,Hw E,pa];have G:∀ b,b=false→cq (x.Name,t3::t4::t5::B,e,0) (ae x.Rb,t4::t5::B,e,0) (t4.Tm,t5::B,e,0) b=some (⟨1,x.Name,ae x.Rb,⟨0,[]⟩,x.re,[],[]⟩,B,e,0):=by
   intro b p;rw [cq,p,if_neg (by decide)];simp only [];rw [Ih m.vb,pa,← F]
  rw [if_neg (by simp only [];omega)];exact G _ (decide_eq_false (by simp only [];omega))
 rw [if_neg a] at d;by_cases c4:x.Kind=4
 ·rw [if_pos c4] at d;rw [if_neg (show ¬ x.Kind≠4 by omega),if_neg (show ¬ x.Kind=3 by omega),if_neg a,if_neg (show ¬ (x.Kind=2∨x.Kind=3) by omega),if_neg a,c4];obtain ⟨t,f,rfl,c,g⟩:=zb.cons d;obtain ⟨t2,o,rfl,i,j⟩:=zb.cons g;simp only [List.cons_append];rw [eo,mr,pa];rw [ic (by rw [c.vb];decide),pa];simp only [Bool.false_eq_true,if_false];rw [ic (by rw [c.vb];decide),pa];simp only [Bool.false_eq_true,if_false];rw [ic (by rw [c.vb];decide),pa];simp only [Bool.false_eq_true,if_false];rw [Bf c.vb,pa];simp only [if_true];rw [Tj (by omega) i h.eg,pa];simp only [];rw [Vm o a j,pa]
 rw [if_neg c4] at d;by_cases c2:x.Kind=2
 ·obtain ⟨ua,sa⟩:=h.Xd (.inl c2);rw [if_pos c2] at d;rw [if_pos c4,if_neg (show ¬ x.Kind=3 by omega),if_neg a,if_pos (show x.Kind=2∨x.Kind=3 by omega),if_neg a,c2];obtain ⟨t,f,rfl,c,g⟩:=zb.cons d;obtain ⟨t2,o,rfl,i,j⟩:=zb.cons g;obtain ⟨u,v,rfl,k,l⟩:=zb.app j;obtain ⟨t5,q,rfl,m,n⟩:=zb.cons l;simp only [List.cons_append,List.append_assoc];rw [eo,mr,pa];rw [ic (by rw [c.vb];decide),pa];simp only [Bool.false_eq_true,if_false];rw [Bf c.vb,pa];simp only [if_true];rw [Tj (by omega) i h.eg,pa];simp only [];rw [Dx (by omega) sa ua k,pa];simp only [];rw [rq (by omega) m (h.ty c4),pa];simp only [];rw [Vm q a n,pa]
 rw [if_neg c2] at d;have c3:x.Kind=3:=by omega
 obtain ⟨ua,sa⟩:=h.Xd (.inr c3);rw [if_pos c4,if_pos c3,if_neg a,if_pos (show x.Kind=2∨x.Kind=3 by omega),if_neg a,c3];obtain ⟨t,f,rfl,c,g⟩:=zb.cons d;obtain ⟨t2,o,rfl,i,j⟩:=zb.cons g;obtain ⟨u,v,rfl,k,l⟩:=zb.app j;obtain ⟨t5,q,rfl,m,n⟩:=zb.cons l;obtain ⟨t6,T,rfl,H,K⟩:=zb.cons n;obtain ⟨t7,V,rfl,L,M⟩:=zb.cons K;obtain ⟨t8,N,rfl,P,Q⟩:=zb.cons M;simp only [List.cons_append,List.append_assoc];rw [eo,mr,pa];rw [ic (by rw [c.vb];decide),pa];simp only [Bool.false_eq_true,if_false];rw [ic (by rw [c.vb];decide),pa];simp only [Bool.false_eq_true,if_false];rw [Bf c.vb,pa];simp only [if_true];rw [Tj (by omega) i h.eg,pa];simp only [];rw [Dx (by omega) sa ua k,pa];simp only [];rw [Ih m.vb,pa];simp only [];rw [rq (by omega) H (h.Dn c3),pa];simp only [];rw [Ih L.vb,pa];simp only [];rw [rq (by omega) P (h.ty c4),pa];simp only [];rw [Vm N a Q,pa]
def Qh (l:List sb):List pb:=(l.map Ph).flatten
theorem MF (x:sb):Ph x≠[]:=by
 unfold Ph;split
 ·simp
 ·split
  ·simp
  ·split<;>simp
theorem xB (num:Hr){fu:Nat}(n:8000≤fu) (h:List Ca×yb){e:Int}(W:yb) (o:W.Wd=0):∀ (l:List sb) (acc:List sb) (m:Nat) (A:List Ca),(∀ x ∈ l,ik x)→l.length<m→acc.length+l.length≤30→zb A (Qh l)→lh fu (acc++l.map (Dd 39))=some W →
  Eo fu h m A e 0 acc=some (acc++l.map (Dd 39),h.2):=by
 intro l
 induction l with
 | nil =>
  intro acc m A c hm i b a;obtain ⟨m,rfl⟩:∃ d,m=d+1:=⟨m - 1,by simp at hm;omega⟩;have:=zb.nil b;subst this;rw [List.map_nil,List.append_nil] at a ⊢;rw [Eo,if_neg (by simp),a,pa,if_neg (by simpa using o),Ww,Wn,pa]
 | cons x l p =>
  intro acc m A c hm i b a;rw [List.length_cons] at hm i;obtain ⟨m,rfl⟩:∃ d,m=d+1:=⟨m - 1,by omega⟩;rw [Qh,List.map_cons,List.flatten_cons] at b;obtain ⟨f,j,rfl,g,q⟩:=zb.app b;have s:0<(f++j).length:=by
   cases f with
   | nil =>
    exfalso;have k:=MF x;generalize Ph x=w at g k;cases w with
    | nil=>exact k rfl
    | cons _ _=>cases g
   | cons t f=>simp
  rw [Eo,if_pos (by omega),if_neg (by omega),LF num n (c x (List.mem_cons_self ..)) g,pa];simp only [];rw [tn (by simp;omega),pa,Vw];have ea:acc++(x::l).map (Dd 39)=(acc++[Dd 39 x])++l.map (Dd 39):=by simp
  rw [ea] at a ⊢;exact p (acc++[Dd 39 x]) m j (fun y r=>c y (List.mem_cons_of_mem _ r)) (by omega) (by simp;omega) q a
end Go.Y
namespace Go.Y
open Go.Sb Go.ec
def si:List pb:=[[61,61],[33,61],[60,61],[62,61],[60],[62],[61],[43],[45],[42],[47],[37],[40],[41],[123],[125],[44],[59]]
def Uf:List pb→pb
 | []=>[]
 | [w]=>w
 | w::w'::ws=>w++32::Uf (w'::ws)
def zj (w:pb):Prop:=(∃ c u,w=c::u∧isLet c=true∧∀ x ∈ u,isLet x=true∨Kh x=true)∨(w≠[]∧(∀ x ∈ w,Kh x=true)∧w.length≤15∧∃ v,Sl w=some v)∨w ∈ si
theorem et (c:UInt8):ui c=some (isLet c):=by
 rw [ui,isLet];split
 ·split
  ·exact congrArg some (decide_eq_true (by omega)).symm
  ·exact congrArg some (decide_eq_decide.2 (by omega))
 ·exact congrArg some (decide_eq_decide.2 (by omega))
theorem nr (c:UInt8):Vk c=some (Kh c):=by
 rw [Vk,Kh];split
 ·exact congrArg some (decide_eq_decide.2 (by omega))
 ·exact congrArg some (decide_eq_false (by omega)).symm
theorem qG (c:UInt8):Wo c=some (isLet c || Kh c):=by
 rw [Wo,et,pa];cases h:isLet c with
 | true=>rfl
 | false=>rw [if_neg (by decide),nr,pa,Bool.false_or]
def Xt (t:pb):Prop:=t=[]∨∃ a,t=32::a
theorem cy {p:UInt8→Option Bool}{u t:pb}(hu:∀ c ∈ u,p c=some true) (a:Xt t) (b:p 32=some false) (h:u.length≤6000) (fu:Nat) (j:6100≤fu):Mj fu (u++t) p=some (u.length:Int):=by
 have L:∀ (m i:Nat),i≤u.length→u.length<m+i→Rh (u++t) p m (i:Int)=some (u.length:Int):=by
  intro m
  induction m with
  | zero=>intro i d f; omega
  | succ m g =>
   intro i d f;rw [Rh];by_cases c:i<u.length
   ·rw [if_pos (by simp<;>omega),Te,List.getElem?_append_left c,List.getElem?_eq_getElem c,pa,hu _ (List.getElem_mem c),pa,Hj,if_pos rfl,Qd (by omega),pa];exact g (i+1) c (by omega)
   ·have e:i=u.length:=by omega
    subst e;rcases a with rfl | ⟨k,rfl⟩
    ·rw [if_neg (by simp),Hj,if_neg (by decide)]
    ·rw [if_pos (by simp<;>omega),Te,List.getElem?_append_right (Nat.le_refl _),Nat.sub_self];show Option.bind (some (32:UInt8)) _=_;rw [pa,b,pa,Hj,if_neg (by decide)]
 exact L fu 0 (by omega) (by omega)
theorem rG {w t x:pb}(a:Xt t) (b:(32:UInt8) ∉ x):Xo (w++t) x=some (decide (x=w.take x.length)):=by
 rw [Xo,sr];by_cases c:x.length≤(w++t).length
 ·rw [if_pos (by omega),cut,if_pos (by omega)];simp only [Int.toNat_natCast,Int.toNat_zero,List.drop_zero,pa];refine congrArg some (decide_eq_decide.2 ?_);by_cases d:x.length≤w.length
  ·rw [List.take_append_of_le_length d];exact eq_comm
  ·constructor
   ·intro h;exfalso;rcases a with rfl | ⟨f,rfl⟩
    ·simp at c;omega
    ·apply b;rw [← h,List.take_append,List.take_of_length_le (by omega)];obtain ⟨j,e⟩:∃ j,x.length - w.length=j+1:=⟨x.length - w.length - 1,by omega⟩;rw [e,List.take_succ_cons];simp
   ·intro h;exfalso;have:=congrArg List.length h;rw [List.length_take] at this;omega
 ·rw [if_neg (by omega),pa];refine congrArg some (decide_eq_false fun h=>?_).symm;have:=congrArg List.length h;rw [List.length_take] at this;simp at c;omega
theorem PE {w t:pb}(hw:w ∈ si) (a:Xt t):dq (w++t)=some w:=by
 have b:∀ x ∈ si,(32:UInt8) ∉ x:=by decide
 have d:∀ w ∈ si,(si.find? fun x=>decide (x=w.take x.length))=some w:=by decide
 have L:∀ (m i:Nat),i≤18→18<m+i→Ln (w++t) m (i:Int)=some (((si.drop i).find? fun x=>decide (x=w.take x.length)).getD []):=by
  intro m
  induction m with
  | zero=>intro i f g; omega
  | succ m h =>
   intro i f g;rw [Ln];have j:si.length=18:=rfl;by_cases c:i<18
   ·have hm:si[i] ∈ si:=List.getElem_mem _;have e:at_ si (i:Int)=some si[i]:=by rw [Te];exact List.getElem?_eq_getElem _
    rw [if_pos (by omega)];show Option.bind (at_ si (i:Int)) _=_;rw [e,pa,rG a (b _ hm),pa,List.drop_eq_getElem_cons (show i<si.length by omega),List.find?_cons];cases q:decide (si[i]=w.take si[i].length) with
    | true=>rfl
    | false =>
     rw [if_neg (by decide),Qd (by omega),pa];exact h (i+1) c (by omega)
   ·rw [if_neg (by omega),List.drop_eq_nil_of_le (by omega)];rfl
 rw [dq];have:=L 19 0 (by omega) (by omega);rw [List.drop_zero,d w hw] at this;exact this
theorem zj.head {w:pb}(h:zj w):∃ c u,w=c::u∧c.toNat≠32∧c.toNat≠9∧c.toNat≠10∧c.toNat≠35:=by
 rcases h with ⟨c,u,rfl,h,-⟩ | ⟨h,a,-⟩ | h
 ·have:=of_decide_eq_true h;exact ⟨c,u,rfl,by omega,by omega,by omega,by omega⟩
 ·cases w with
  | nil=>exact absurd rfl h
  | cons c u =>
   have:=of_decide_eq_true (a c (List.mem_cons_self ..));exact ⟨c,u,rfl,by omega,by omega,by omega,by omega⟩
 ·have H:∀ w ∈ si,(match w with | []=>false | c::_=>decide (c.toNat≠32∧c.toNat≠9∧c.toNat≠10∧c.toNat≠35))=true:=by decide
  have:=H w h;cases w with
  | nil=>cases this
  | cons c u =>
   have:=of_decide_eq_true this;exact ⟨c,u,rfl,this⟩
theorem oD {fu:Nat}(e:100≤fu){c:UInt8}{u:pb}(h:c.toNat≠32∧c.toNat≠9∧c.toNat≠10∧c.toNat≠35):Nj fu (c::u)=some 0:=by
 obtain ⟨m,rfl⟩:∃ m,fu=m+1:=⟨fu - 1,by omega⟩;have a:∀ b K,b=false→Ti (m+1) (c::u) 0 c K b=some 0:=fun b K d=>by rw [Ti,d,if_neg (by decide),if_neg (by omega)]
 rw [Nj,fi,if_pos (by simp<;>omega),uf (by simp),pa];show (if (c.toNat:Int)=32 then _ else if (c.toNat:Int)=9 then _ else Ti (m+1) (c::u) 0 c (fi (m+1) (c::u) m) (decide ((c.toNat:Int)=10)))=_;rw [if_neg (by omega),if_neg (by omega)];exact a _ _ (decide_eq_false (by omega))
theorem pD {fu:Nat}(e:100≤fu){c:UInt8}{u:pb}(h:c.toNat≠32∧c.toNat≠9∧c.toNat≠10∧c.toNat≠35):Nj fu (32::c::u)=some 1:=by
 obtain ⟨m,rfl⟩:∃ m,fu=m+2:=⟨fu - 2,by omega⟩;have a:∀ b K,b=false→Ti (m+2) (32::c::u) 1 c K b=some 1:=fun b K d=>by rw [Ti,d,if_neg (by decide),if_neg (by omega)]
 have ea:at_ (32::c::u) 1=some c:=by rw [oz (by simp)];rfl
 rw [Nj,fi,if_pos (by simp<;>omega),uf (by simp),pa];show (if (((32:UInt8).toNat:Nat):Int)=32 then Ti (m+2) (32::c::u) 0 32 (fi (m+2) (32::c::u) (m+1)) (decide ((((32:UInt8).toNat:Nat):Int)=32)) else _)=_;rw [if_pos (by decide),Ti,if_pos (by decide),Qd (by omega),pa];show fi (m+2) (32::c::u) (m+1) 1=_;rw [fi,if_pos (by simp<;>omega),ea,pa,if_neg (by omega),if_neg (by omega)];exact a _ _ (decide_eq_false (by omega))
theorem bx {fu:Nat}(a:100≤fu):Nj fu []=some 0:=by
 obtain ⟨m,rfl⟩:∃ m,fu=m+1:=⟨fu - 1,by omega⟩;rw [Nj,fi,if_neg (by simp)]
theorem dy (pre:pb) (t:pb):(pre++t).drop pre.length=t:=by simp
theorem Ex {s:pb}{i:Nat}(h:i≤s.length):cut s (i:Int) (s.length:Int)=some (s.drop i):=by
 rw [cut,if_pos (by omega)];simp
def rest:List pb→pb
 | []=>[]
 | w::ws=>32::Uf (w::ws)
theorem tt (w:pb) (ws:List pb):Uf (w::ws)=w++rest ws:=by
 cases ws with
 | nil=>simp [Uf,rest]
 | cons w' ws=>rfl
theorem yB (ws:List pb):Xt (rest ws):=by
 cases ws with
 | nil=>exact .inl rfl
 | cons w ws=>exact .inr ⟨_,rfl⟩
theorem DA {fu:Nat}(a:100≤fu) (ws:List pb) (h:∀ w ∈ ws,zj w):Nj fu (rest ws)=some (if ws=[] then 0 else 1):=by
 cases ws with
 | nil=>exact bx a
 | cons w ws =>
  obtain ⟨c,u,rfl,b⟩:=(h w (List.mem_cons_self ..)).head;rw [rest,tt,List.cons_append];exact pD a b
theorem nC {fu:Nat}(P:7000≤fu):∀ (ws:List pb) (pre:pb) (acc:List Ca) (m:Nat),(∀ w ∈ ws,zj w)→ws.length<m→(pre++Uf ws).length≤6000→acc.length+(Uf ws).length≤6000 →
  ∃ e,ij fu (pre++Uf ws) m (pre.length:Int) acc=some (acc++e,⟨0,0⟩)∧zb e ws:=by
 intro ws
 induction ws with
 | nil =>
  intro pre acc m hw hm n o;obtain ⟨m,rfl⟩:∃ i,m=i+1:=⟨m - 1,by simp at hm;omega⟩;refine ⟨[],?_,trivial⟩;rw [ij,if_neg (by simp [Uf]),List.append_nil]
 | cons w ws K =>
  intro pre acc m hw hm n o;rw [List.length_cons] at hm;obtain ⟨m,rfl⟩:∃ i,m=i+1:=⟨m - 1,by omega⟩;rw [tt] at n o ⊢;have r:=hw w (List.mem_cons_self ..);have s:∀ y ∈ ws,zj y:=fun y L=>hw y (List.mem_cons_of_mem _ L);have p:=yB ws;obtain ⟨c,u,d,-⟩:=r.head;have hlen:(pre++(w++rest ws)).length=pre.length+w.length+(rest ws).length:=by simp;omega
  have Q:0<w.length:=by rw [d];simp
  rw [List.length_append] at o;have q:∀ (bd eg:Int),(∀ t:Ca,t=⟨bd,w,eg,pre.length⟩→Qr t w)→∃ e,Xm fu (pre++(w++rest ws)) (pre.length:Int) acc (ij fu (pre++(w++rest ws)) m) bd w eg=some (acc++e,⟨0,0⟩)∧zb e (w::ws):=by
   intro bd eg a;have ea:(pre.length:Int)+(w.length:Int)=((pre.length+w.length:Nat):Int):=by omega
   have e2:(pre++(w++rest ws)).drop (pre.length+w.length)=rest ws:=by rw [← List.append_assoc,← List.length_append,dy]
   rw [Xm,tn (by simp<;>omega),pa,Qd (by omega),pa,ea,Ex (by omega),pa,e2,DA (by omega) ws s,pa];cases ws with
   | nil =>
    rw [if_pos rfl,Qd (by omega),pa];obtain ⟨m,rfl⟩:∃ i,m=i+1:=⟨m - 1,by omega⟩;refine ⟨[⟨bd,w,eg,pre.length⟩],?_,a _ rfl,trivial⟩;rw [ij,if_neg (by simp [rest])]
   | cons w' ws =>
    rw [if_neg (by simp),Qd (by omega),pa];have z:pre++(w++rest (w'::ws))=(pre++w++[32])++Uf (w'::ws):=by simp [rest]
    have M:((pre.length+w.length:Nat):Int)+1=((pre++w++[32]).length:Int):=by rw [List.length_append,List.length_append,List.length_singleton];omega
    have R:(rest (w'::ws)).length=(Uf (w'::ws)).length+1:=by simp [rest]
    rw [z,M];obtain ⟨e,j,k⟩:=K (pre++w++[32]) (acc++[⟨bd,w,eg,pre.length⟩]) m s (by omega) (by rw [← z];exact n) (by rw [List.length_append,List.length_singleton];omega);refine ⟨⟨bd,w,eg,pre.length⟩::e,?_,a _ rfl,k⟩;rw [j];simp
  have ta:(pre++(w++rest ws)).drop pre.length=w++rest ws:=dy _ _;have N:at_ (w++rest ws) 0=some c:=by rw [d,uf (by simp)];rfl
  have A:cut (w++rest ws) 0 (w.length:Int)=some w:=by rw [cut,if_pos (by rw [List.length_append];omega)];simp
  have a:kindOf w=if isLet c=true then 1 else if Kh c=true then 2 else 3:=by rw [d];rfl
  rw [ij,if_pos (by omega),Ex (by omega),pa,ta,N,pa,et,pa];rcases r with ⟨S,T,B,f,hu⟩ | ⟨V,C,W,v,D⟩ | E
  ·rw [d] at B;obtain ⟨rfl,rfl⟩:=List.cons.inj B;rw [if_pos f] at a;rw [if_pos f,cy (u:=w) (fun x g=>by
    rw [qG];rw [d] at g;rcases List.mem_cons.1 g with rfl | g
    ·rw [f];rfl
    ·rcases hu x g with h | h<;>rw [h]<;>simp) p (by decide) (by omega) fu (by omega),pa,A,pa]
   exact q 1 0 fun t b=>⟨by rw [b],by rw [b,a],fun h=>by rw [a] at h;cases h⟩
  ·have f:Kh c=true:=C c (by rw [d];exact List.mem_cons_self ..);have F:¬ isLet c=true:=fun h=>by have:=of_decide_eq_true h;have:=of_decide_eq_true f;omega
   rw [if_neg F,if_pos f] at a;rw [if_neg F,nr,pa,if_pos f,cy (u:=w) (fun x g=>by rw [nr,C x g]) p (by decide) (by omega) fu (by omega),pa,A,pa,if_neg (by omega),D,pa];exact q 2 v fun t b=>⟨by rw [b],by rw [b,a],fun _=>by rw [b];exact D⟩
  ·have H:∀ w ∈ si,(match w with | []=>false | c::_=>!isLet c && !Kh c)=true:=by decide
   have G:=H w E;rw [d] at G;have l:(!isLet c && !Kh c)=true:=G;have j:isLet c=false:=by cases h:isLet c with | false=>rfl | true=>rw [h] at l;cases l
   have k:Kh c=false:=by cases h:Kh c with | false=>rfl | true=>rw [h,j] at l;cases l
   rw [j,k] at a;rw [j,if_neg (by decide),nr,pa,k,if_neg (by decide),PE E p,pa,if_neg (by rw [d];simp)];exact q 3 0 fun t b=>⟨by rw [b],by rw [b,a];rfl,fun h=>by rw [a] at h;cases h⟩
theorem NF {fu:Nat}(d:7000≤fu) (ws:List pb) (hw:∀ w ∈ ws,zj w) (b:(Uf ws).length≤6000):∃ a,Mn fu (Uf ws)=some (a,⟨0,0⟩)∧zb a ws:=by
 have e:Nj fu (Uf ws)=some 0:=by
  cases ws with
  | nil=>exact bx (by omega)
  | cons w ws =>
   obtain ⟨c,u,rfl,f⟩:=(hw w (List.mem_cons_self ..)).head;rw [tt,List.cons_append];exact oD (by omega) f
 have g:∀ ws:List pb,(∀ w ∈ ws,zj w)→ws.length≤(Uf ws).length:=by
  intro ws
  induction ws with
  | nil=>intro _; simp
  | cons w ws i =>
   intro h;obtain ⟨c,u,rfl,-⟩:=(h w (List.mem_cons_self ..)).head;have:=i fun y j=>h y (List.mem_cons_of_mem _ j);rw [tt];cases ws with
   | nil=>simp [rest]
   | cons w' ws=>simp [rest] at this ⊢; omega
 have k:=g ws hw;rw [Mn,if_neg (by omega),e,pa];obtain ⟨a,ea,e2⟩:=nC d ws [] [] fu hw (by omega) (by simpa using b) (by simpa using b);exact ⟨a,by simpa using ea,e2⟩
end Go.Y
namespace Go.Y
open Go.Sb Go.ec
theorem vt {n:Nat}(h:n<10):(UInt8.ofNat (48+n)).toNat=48+n:=by
 rw [UInt8.toNat_ofNat'];omega
theorem uu:∀ (u:Nat),∀ c ∈ Lib.decDigits u,Kh c=true:=by
 intro u
 induction u using Nat.strongRecOn with
 | ind u b =>
  intro c a;rw [Lib.decDigits] at a;by_cases h:u<10
  ·rw [dif_pos h] at a;rw [List.mem_singleton.1 a,Kh,vt h];simp;omega
  ·rw [dif_neg h] at a;rcases List.mem_append.1 a with a | a
   ·exact b (u / 10) (by omega) c a
   ·rw [List.mem_singleton.1 a,Kh,vt (Nat.mod_lt _ (by decide))];have:=Nat.mod_lt u (show 10 > 0 by decide);simp;omega
theorem zB (M:Nat):∀ (u:Nat) (r:pb),u≤M→u≤999999999999999→Lib.parseUintM M 0 (Lib.decDigits u++r)=Lib.parseUintM M u r:=by
 intro u
 induction u using Nat.strongRecOn with
 | ind u a =>
  intro r b c;rw [Lib.decDigits];by_cases h:u<10
  ·rw [dif_pos h,List.singleton_append,Lib.parseUintM,vt h,if_pos (by omega),if_neg (by omega),if_neg (by omega)];congr 1;omega
  ·have hm:=Nat.mod_lt u (show 10 > 0 by decide);rw [dif_neg h,List.append_assoc,a (u / 10) (by omega) _ (by omega) (by omega),List.singleton_append,Lib.parseUintM,vt hm,if_pos (by omega),if_neg (by omega),if_neg (by omega)];congr 1;omega
theorem Mt (u:Nat):Lib.decDigits u≠[]:=by
 have a:=Lib.decDigits_length u;have b:=Lib.nDigits_pos u;intro h;rw [h,List.length_nil] at a;omega
theorem Zu:∀ (k u:Nat),u<10 ^ (k+1)→(Lib.decDigits u).length≤k+1:=by
 intro k
 induction k with
 | zero=>intro u h; rw [Lib.decDigits,dif_pos (by omega)]; simp
 | succ k a =>
  intro u h;rw [Lib.decDigits];by_cases c:u<10
  ·rw [dif_pos c];simp
  ·rw [dif_neg c,List.length_append,List.length_singleton];have:=a (u / 10) (by rw [Nat.pow_succ] at h;omega);omega
theorem Pu {N:Int}(h:0≤N):Lib.itoa N=Lib.decDigits N.toNat:=by rw [Lib.itoa,if_neg (by omega)]
theorem Fx {u:Nat}(h:u≤999999999999999):Sl (Lib.decDigits u)=some (u:Int):=by
 have b:=Zu 14 u (by omega);rw [Sl,if_pos (by omega)];have Ua:=uu u;have a:=zB (2 ^ 64 - 1) u [] (by omega) h;rw [List.append_nil] at a;cases e:Lib.decDigits u with
 | nil=>exact absurd e (Mt u)
 | cons c r =>
  have d:=of_decide_eq_true (Ua c (by rw [e];exact List.mem_cons_self ..));rw [Lib.parseIntB_plain 64 c r (by omega) (by omega),← e,Lib.parseUintB,if_neg (Mt u),a,Lib.parseUintM,Lib.signlessC,if_neg (by omega)]
theorem OF:Hr:=by
 intro N b d;rw [Pu b];have Ua:=uu N.toNat
 constructor
 ·cases e:Lib.decDigits N.toNat with
  | nil=>exact absurd e (Mt _)
  | cons c r =>
   have a:=Ua c (by rw [e];exact List.mem_cons_self ..);have f:=of_decide_eq_true a;rw [kindOf,if_neg (fun h=>by have:=of_decide_eq_true h;omega),if_pos a]
 ·rw [Fx (by omega)];congr 1;omega
theorem Gx {N:Int}(a:0≤N) (b:N≤999999999999999):zj (Lib.itoa N):=by
 rw [Pu a];exact .inr (.inl ⟨Mt _,uu _,Zu 14 _ (by omega),_,Fx (by omega)⟩)
theorem kg.lex {w:pb}(h:kg w):zj w:=by
 have f:=h.Rr;have h:=h 7000 (by omega);cases w with
 | nil=>cases f
 | cons c u =>
  have k:isLet c=true:=by
   rw [kindOf] at f;by_cases q:isLet c=true
   ·exact q
   ·rw [if_neg q] at f;split at f<;>cases f
  refine .inl ⟨c,u,rfl,k,fun x a=>?_⟩;have g:∀ b,Si 7000 (c::u) b=some true→b=false∧Mj 7000 (c::u) Xj=some ((c::u).length:Int):=by
   intro b d;rw [Si] at d;by_cases q:b=true
   ·rw [if_pos q] at d;cases d
   ·rw [if_neg q] at d;cases e:Mj 7000 (c::u) Xj with
    | none=>rw [e,Sf] at d; cases d
    | some r =>
     rw [e,pa] at d;have:=of_decide_eq_true (Option.some.inj d);rw [this];exact ⟨by simpa using q,rfl⟩
  have hw:Mj 7000 (c::u) Xj=some ((c::u).length:Int):=by
   rw [De] at h;split at h
   ·exact (g _ h).2
   ·split at h
    ·exact (g _ h).2
    ·rw [uf (by simp),pa] at h
     change Option.bind (ui c) _=_ at h
     rw [et,pa,if_pos k] at h;cases ea:cat [32] (c::u) with
     | none=>rw [ea,Sf] at h; cases h
     | some s1 =>
      rw [ea,pa] at h;cases e2:cat s1 [32] with
      | none=>rw [e2,Sf] at h; cases h
      | some s2 =>
       rw [e2,pa] at h;cases l:vq Mv s2 with
       | none=>rw [l,Sf] at h; cases h
       | some b=>rw [l,pa] at h; exact (g _ h).2
  have n:∀ c,Xj c=some (isLet c || Kh c):=fun c=>by
   rw [Xj,et,pa];cases h:isLet c with
   | true=>rfl
   | false=>rw [if_neg (by decide),nr,pa,Bool.false_or]
  have L:∀ (m i:Nat),i≤(c::u).length→Rh (c::u) Xj m (i:Int)=some ((c::u).length:Int)→∀ x ∈ (c::u).drop i,isLet x=true∨Kh x=true:=by
   intro m
   induction m with
   | zero=>intro i o h; cases h
   | succ m p =>
    intro i o h x a;rw [Rh] at h;by_cases q:i<(c::u).length
    ·rw [if_pos (by omega),Te,List.getElem?_eq_getElem q,pa,n,pa,Hj] at h;rw [List.drop_eq_getElem_cons q] at a;by_cases z:(isLet (c::u)[i] || Kh (c::u)[i])=true
     ·rw [if_pos z] at h;cases e:i64 ((i:Int)+1) with
      | none=>rw [e,Sf] at h; cases h
      | some j =>
       rw [e,pa] at h;have s:j=((i+1:Nat):Int):=by
        rw [i64] at e;split at e
        ·exact (Option.some.inj e).symm
        ·cases e
       rw [s] at h;rcases List.mem_cons.1 a with rfl | a
       ·simpa using z
       ·exact p (i+1) q h x a
     ·rw [if_neg z] at h;have:=Option.some.inj h;omega
    ·rw [List.drop_eq_nil_of_le (by omega)] at a;cases a
  have:=L 7000 0 (by simp) hw;rw [List.drop_zero] at this;exact this x (List.mem_cons_of_mem _ a)
theorem ah {w:pb}(h:(match w with | []=>false | c::u=>isLet c && u.all fun x=>isLet x || Kh x)=true):zj w:=by
 cases w with
 | nil=>cases h
 | cons c u =>
  have h:(isLet c && u.all fun x=>isLet x || Kh x)=true:=h;rw [Bool.and_eq_true,List.all_eq_true] at h;exact .inl ⟨c,u,rfl,h.1,fun x a=>by simpa using h.2 x a⟩
theorem zh {w:pb}(h:w ∈ si):zj w:=.inr (.inr h)
def Hg (ws:List pb):Prop:=∀ w ∈ ws,zj w
theorem Hg.nil:Hg []:=fun _ h=>by cases h
theorem Hg.cons {w:pb}{ws:List pb}(h:zj w) (g:Hg ws):Hg (w::ws):=fun x a=>by
 rcases List.mem_cons.1 a with rfl | a
 ·exact h
 ·exact g x a
theorem Hg.app {u v:List pb}(h:Hg u) (g:Hg v):Hg (u++v):=fun x a=>(List.mem_append.1 a).elim (h x) (g x)
theorem Hg.flat {α:Type}{f:α→List pb}{l:List α}(h:∀ y ∈ l,Hg (f y)):Hg (l.map f).flatten:=fun w hw=>by
 obtain ⟨a,b,c⟩:=iC hw;exact h a b w c
theorem ey {k:Int}(h:4≤k∧k≤18):zj (Rf k):=by
 have:k=4∨k=5∨k=6∨k=7∨k=8∨k=9∨k=10∨k=11∨k=12∨k=13∨k=14∨k=15∨k=16∨k=17∨k=18:=by omega
 rcases this with rfl | rfl | rfl | rfl | rfl | rfl | rfl | rfl | rfl | rfl | rfl | rfl | rfl | rfl | rfl<;>first | exact zh (by decide) | exact ah (by decide)
theorem QE {f:wa→List pb}{l:List wa}(h:∀ y ∈ l,Hg (f y)):Hg (wg f l):=by
 cases l with
 | nil=>exact .cons (zh (by decide)) (.cons (zh (by decide)) .nil)
 | cons x l =>
  refine .cons (zh (by decide)) (.app (h x (List.mem_cons_self ..)) (.app (.flat fun y a=>.cons (zh (by decide)) (h y (List.mem_cons_of_mem _ a))) (.cons (zh (by decide)) .nil)))
theorem Ny:∀ (k oc:Nat) (x:wa),oo k x→Hg (Ec k oc x)
 | 0,oc,x,h=>by cases h
 | k+1,oc,x,h=>by
  obtain ⟨k1,p,q,m,r,g,o⟩:=h;have i:=fun n y j=>Ny k n y (o y j);have core:Hg (Tf (Ec k) x):=by
   rw [Tf];split
   ·rename_i c;obtain ⟨a,b⟩:=m c;exact .cons (Gx a b) .nil
   ·split
    ·refine .cons ?_ .nil;split<;>exact ah (by decide)
    ·split
     ·rename_i c;exact .cons (g (.inl c)).lex .nil
     ·split
      ·rename_i c;refine .cons (ey (by omega)) ?_;split
       ·rename_i a _ e;exact i 6 a (by rw [e];exact List.mem_cons_self ..)
       ·exact .nil
      ·split
       ·split
        ·rename_i a b _ e;exact .app (i _ a (by rw [e];exact List.mem_cons_self ..)) (.cons (ey (by omega)) (i _ b (by rw [e];exact List.mem_cons_of_mem _ (List.mem_cons_self ..))))
        ·exact .nil
       ·have d:=QE (f:=Ec k 1) (l:=x.Kids) fun y j=>i 1 y j;split
        ·rename_i c;exact .cons (g (by simp [c])).lex d
        ·split
         ·rename_i c;exact .cons (ah (by decide)) (.cons (zh (by decide)) (.cons (g (by simp [c])).lex (.cons (zh (by decide)) .nil)))
         ·split
          ·exact .cons (ah (by decide)) d
          ·split
           ·rename_i c;exact .cons (ah (by decide)) (.cons (g (by simp [c])).lex d)
           ·split
            ·exact .cons (ah (by decide)) d
            ·exact .cons (ah (by decide)) d
  rw [Ec];split
  ·exact .cons (zh (by decide)) (.app core (.cons (zh (by decide)) .nil))
  ·exact core
theorem Vs {f:ib→List pb}{l:List ib}(h:∀ y ∈ l,Hg (f y)):Hg (bf f l):=.cons (zh (by decide)) (.app (.flat h) (.cons (zh (by decide)) .nil))
theorem Nt:∀ (k:Nat) (s:ib),Cj k s→Hg (Zd k s)
 | 0,s,h=>by cases h
 | k+1,s,h=>by
  obtain ⟨k1,i,e,b,d,f⟩:=h;have X:s.Kind≠6→Hg (Ec k 1 s.X):=fun h=>Ny k 1 s.X (e h);have Lq:Hg [[59]]:=.cons (zh (by decide)) .nil;rw [Zd];split
  ·rename_i c;refine .cons (ah (by decide)) (.app (X (by omega)) (.app (Vs fun y a=>Nt k y ((d (.inl c)).2 y a)) ?_));split
   ·exact .nil
   ·exact .cons (ah (by decide)) (Vs fun y a=>Nt k y ((f c).2 y a))
  ·split
   ·rename_i c;exact .cons (ah (by decide)) (.app (X (by omega)) (Vs fun y a=>Nt k y ((d (.inr c)).2 y a)))
   ·split
    ·rename_i c;exact .cons (ah (by decide)) (.cons (b (by omega)).lex (.cons (zh (by decide)) (.app (X (by omega)) Lq)))
    ·split
     ·rename_i c;exact .cons (b (by omega)).lex (.cons (zh (by decide)) (.app (X (by omega)) Lq))
     ·split
      ·rename_i c;exact .cons (ah (by decide)) (.cons (b (by omega)).lex (.app (X (by omega)) Lq))
      ·split
       ·exact .cons (ah (by decide)) Lq
       ·rename_i g;refine .cons ?_ (.app (X g) Lq);split
        ·exact ah (by decide)
        ·split<;>exact ah (by decide)
theorem iq {t:zc}(h:Dj t):zj (lf t):=by
 obtain ⟨⟨b,c⟩,a⟩:=h;rw [lf];split
 ·exact ah (by decide)
 ·split
  ·exact ah (by decide)
  ·exact (a (by omega)).lex
theorem fy {l:List TParam}(h:∀ q ∈ l,kg q.Name∧Dj q.Rb):Hg (tl l):=by
 cases l with
 | nil=>exact .cons (zh (by decide)) (.cons (zh (by decide)) .nil)
 | cons q l =>
  obtain ⟨a,b⟩:=h q (List.mem_cons_self ..);refine .cons (zh (by decide)) (.cons a.lex (.cons (iq b) (.app (.flat fun y c=>?_) (.cons (zh (by decide)) .nil))));obtain ⟨a,b⟩:=h y (List.mem_cons_of_mem _ c);exact .cons (zh (by decide)) (.cons a.lex (.cons (iq b) .nil))
theorem RE {x:sb}(h:ik x):Hg (Ph x):=by
 have oe:x.Kind≠1→Hg (bf (Zd 39) x.Body):=fun k=>Vs fun y d=>Nt 39 y ((h.oe k).2 y d);have k1:=h.k1;have Oh:=h.Oh;rw [Ph];split
 ·rename_i c;obtain ⟨a,b⟩:=h.vg c;exact .cons (ah (by decide)) (.cons h.eg.lex (.cons (iq (h.ty (by omega))) (.cons (Gx (by omega) (by omega)) (.cons (zh (by decide)) .nil))))
 ·split
  ·exact .cons (ah (by decide)) (.cons h.eg.lex (oe (by omega)))
  ·split
   ·rename_i c;exact .cons (ah (by decide)) (.cons h.eg.lex (.app (fy (h.Xd (.inl c)).2) (.cons (iq (h.ty (by omega))) (oe (by omega)))))
   ·have c3:x.Kind=3:=by omega
    exact .cons (ah (by decide)) (.cons h.eg.lex (.app (fy (h.Xd (.inr c3)).2) (.cons (ah (by decide)) (.cons (iq (h.Dn c3)) (.cons (ah (by decide)) (.cons (iq (h.ty (by omega))) (oe (by omega))))))))
theorem AB {fu:Nat}(c:8000≤fu){l:List sb}(d:l.length≤30) (a:∀ x ∈ l,ik x) (f:(Uf (Qh l)).length≤6000){W:yb}(g:lh fu (l.map (Dd 39))=some W) (h:W.Wd=0):vr fu (Uf (Qh l))=some (l.map (Dd 39),⟨0,0⟩):=by
 obtain ⟨b,ea,e2⟩:=NF (fu:=fu) (by omega) (Qh l) (Hg.flat fun x i=>RE (a x i)) f;rw [vr,ea,pa,if_neg (by simp)];have:=xB OF c (b,⟨0,0⟩) (e:=((Uf (Qh l)).length:Int)) W h l [] fu b a (by omega) (by simpa using d) e2 (by simpa using g);rw [this];simp
end Go.Y
namespace Go.Y
open Go.Sb Go.ec
theorem Ff {α β:Type}{o:Option α}{f:α→Option β}{r:β}(h:Option.bind o f=some r):∃ x,o=some x∧f x=some r:=La h
theorem EA {w:pb}{p:UInt8→Option Bool}:∀ (m a:Nat) (i r:Int),m≤a→Rh w p m i=some r→Rh w p a i=some r:=by
 intro m
 induction m with
 | zero=>intro a i r h g; cases g
 | succ m f =>
  intro a i r h g;obtain ⟨a,rfl⟩:∃ q,a=q+1:=⟨a - 1,by omega⟩;rw [Rh] at g ⊢;have d:∀ b,Hj i (Rh w p m) b=some r→Hj i (Rh w p a) b=some r:=by
   intro b g;rw [Hj] at g ⊢;split
   ·rename_i c;rw [if_pos c] at g;obtain ⟨x,e,g⟩:=Ff g;rw [e,pa];exact f a x r (by omega) g
   ·rename_i c;rw [if_neg c] at g;exact g
  split
  ·rename_i c;rw [if_pos c] at g;obtain ⟨x,e,g⟩:=Ff g;obtain ⟨y,j,g⟩:=Ff g;rw [e,pa,j,pa];exact d y g
  ·rename_i c;rw [if_neg c] at g;exact d _ g
theorem Iw {fu a:Nat}(h:fu≤a){w:pb}{b:Bool}(g:De fu w=some b):De a w=some b:=by
 have d:∀ c,Si fu w c=some b→Si a w c=some b:=by
  intro c g;rw [Si] at g ⊢;split
  ·rename_i q;rw [if_pos q] at g;exact g
  ·rename_i q;rw [if_neg q] at g;obtain ⟨x,e,g⟩:=Ff g;have:Mj a w Xj=some x:=EA fu a 0 x h e;rw [this,pa];exact g
 rw [De] at g ⊢;split
 ·rename_i q;rw [if_pos q] at g;exact d _ g
 ·rename_i q;rw [if_neg q] at g;split
  ·rename_i q;rw [if_pos q] at g;exact d _ g
  ·rename_i q;rw [if_neg q] at g;obtain ⟨x,e,g⟩:=Ff g;obtain ⟨y,f,g⟩:=Ff g;rw [e,pa,f,pa];split
   ·rename_i q;rw [if_pos q] at g;obtain ⟨s1,ea,g⟩:=Ff g;obtain ⟨s2,e2,g⟩:=Ff g;obtain ⟨j,i,g⟩:=Ff g;rw [ea,pa,e2,pa,i,pa];exact d _ g
   ·rename_i q;rw [if_neg q] at g;exact d _ g
theorem sq {fu:Nat}(d:20≤fu){w:pb}(h:De fu w=some true):kg w:=by
 intro f e;obtain ⟨b,a⟩:=xo 20 (Nat.le_refl _) w;have c:=Iw d a;rw [h] at c;obtain rfl:=Option.some.inj c;exact Iw e a
section
variable {fu:Nat}{self:Xk}{x:wa}{d node k:Int}
theorem cA:∀ (m i:Nat) (c:Int),x.Kids.length≤6→Gh self x d m i c=some (0,k)→∀ j (b:j<x.Kids.length),i≤j→∃ e a f,self.Jf e x.Kids[j] a=some (0,f):=by
 intro m
 induction m with
 | zero=>intro i c _ h; cases h
 | succ m g =>
  intro i c l h j b s;rw [Gh,if_pos (by omega),Te,List.getElem?_eq_getElem (show i<x.Kids.length by omega),pa] at h;obtain ⟨a,ea,h⟩:=Ff h;obtain ⟨r,e2,h⟩:=Ff h;by_cases z:r.1≠0
  ·rw [if_pos z] at h;exact absurd (congrArg (fun o:Option (Int×Int)=>o.map (·.1)) h) (by simpa using z)
  ·rw [if_neg z,Qd (by omega),pa] at h;by_cases q:j=i
   ·subst q;obtain ⟨n,p⟩:=r;obtain rfl:n=0:=Decidable.not_not.1 z;exact ⟨c,a,p,e2⟩
   ·exact g (i+1) r.2 l h j b (by omega)
theorem uw {a:Int×Int}{b:Bool}(h:qk self x d a b=some (0,k)):∃ m c,Gh self x d m (0:Nat) c=some (0,k):=by
 rw [qk] at h;split at h
 ·cases h
 ·exact ⟨_,_,h⟩
theorem dA {a:Int×Int}{r:Int}{b:Bool}(h:rk self x d a r b=some (0,k)):∃ m c,Gh self x d m (0:Nat) c=some (0,k):=by
 rw [rk] at h;split at h
 ·exact uw h
 ·split at h<;>exact uw h
theorem vw {a:Int×Int}{r:Int}{b:Bool}(h:kj self x d a r b=some (0,k)):b=false∧∃ m c,Gh self x d m (0:Nat) c=some (0,k):=by
 rw [kj] at h;split at h
 ·cases h
 ·rename_i q;refine ⟨by simpa using q,?_⟩;split at h<;>exact dA h
theorem Bs {i:Int×Int}{r:Int}{b:Bool}(h:Ij fu self x d i r b=some (0,k)):b=false∧(x.Kind=3∨x.Kind=20∨r<0→De fu x.Name=some true)∧∃ m c,Gh self x d m (0:Nat) c=some (0,k):=by
 rw [Ij] at h;split at h
 ·cases h
 ·rename_i q;refine ⟨by simpa using q,?_⟩;have a:(Option.bind (De fu x.Name) fun j=>kj self x d i r (!j))=some (0,k)→(x.Kind=3∨x.Kind=20∨r<0→De fu x.Name=some true)∧∃ m c,Gh self x d m (0:Nat) c=some (0,k):=by
   intro h;obtain ⟨l,e,h⟩:=Ff h;obtain ⟨n,f⟩:=vw h;cases l with
   | true=>exact ⟨fun _=>e,f⟩
   | false=>cases n
  split at h
  ·exact a h
  ·split at h
   ·exact a h
   ·split at h
    ·exact a h
    ·obtain ⟨-,f⟩:=vw h;exact ⟨fun g=>by omega,f⟩
theorem oC (h:Jf fu self node x d=some (0,k)):(x.Kind=1→0≤x.N∧x.N≤999999999999999)∧(x.Kind=2→x.N=0∨x.N=1)∧(x.Kind=3∨x.Kind=20∨Ef x.Kind<0→De fu x.Name=some true)∧∃ m c,Gh self x d m (0:Nat) c=some (0,k):=by
 rw [Jf] at h;obtain ⟨i,-,h⟩:=Ff h;split at h
 ·rename_i z;exact absurd (congrArg (fun o:Option (Int×Int)=>o.map (·.1)) h) (by simpa using z)
 ·have f:∀ b,sk fu self x d i (Ef x.Kind) b=some (0,k)→b=false∧(x.Kind=2→x.N=0∨x.N=1)∧(x.Kind=3∨x.Kind=20∨Ef x.Kind<0→De fu x.Name=some true)∧∃ m c,Gh self x d m (0:Nat) c=some (0,k):=by
   intro b h;rw [sk] at h;split at h
   ·rename_i q;obtain ⟨a,-⟩:=Bs h;rw [q] at a;cases a
   ·rename_i q;refine ⟨by simpa using q,?_⟩;split at h
    ·split at h
     ·obtain ⟨a,e⟩:=Bs h;exact ⟨fun _=>.inr (by simpa using a),e⟩
     ·rename_i z;obtain ⟨a,e⟩:=Bs h;exact ⟨fun _=>.inl (Decidable.not_not.1 z),e⟩
    ·rename_i z;obtain ⟨a,e⟩:=Bs h;exact ⟨fun g=>absurd g z,e⟩
  have j:∀ b,Ui fu self x d i b=some (0,k)→(x.Kind=1→0≤x.N∧x.N≤999999999999999)∧(x.Kind=2→x.N=0∨x.N=1)∧(x.Kind=3∨x.Kind=20∨Ef x.Kind<0→De fu x.Name=some true)∧∃ m c,Gh self x d m (0:Nat) c=some (0,k):=by
   intro b h;rw [Ui] at h;split at h
   ·cases h
   ·rw [ru,pa] at h;split at h
    ·split at h
     ·obtain ⟨a,-⟩:=f _ h;cases a
     ·rename_i z;obtain ⟨a,e⟩:=f _ h;have:=of_decide_eq_false a;exact ⟨fun _=>⟨by omega,by omega⟩,e⟩
    ·rename_i z;obtain ⟨-,e⟩:=f _ h;exact ⟨fun g=>absurd g z,e⟩
  split at h<;>exact j _ h
end
theorem gy:∀ (j n:Nat) (x:wa) (node d k:Int),30+j≤n→Vl j x→(se n).Jf node x d=some (0,k)→oo j x
 | 0,n,x,node,d,k,f,h,g=>h.elim
 | j+1,n,x,node,d,k,f,h,g=>by
  obtain ⟨k1,l,a,o⟩:=h;obtain ⟨n,rfl⟩:∃ q,n=q+1:=⟨n - 1,by omega⟩;obtain ⟨p,r,s,m,c,t⟩:=oC (show Jf n (se n) node x d=some (0,k) from g);refine ⟨k1,l,a,p,r,fun q=>sq (by omega) (s ?_),fun y b=>?_⟩
  ·rcases q with q | q | q | q
   ·exact .inl q
   ·exact .inr (.inl q)
   ·rw [q];exact .inr (.inr (by decide))
   ·rw [q];exact .inr (.inr (by decide))
  ·obtain ⟨i,u,rfl⟩:=List.getElem_of_mem b;obtain ⟨v,w,z,e⟩:=cA m 0 c a.le t i u (Nat.zero_le _);exact gy j n _ v w z (by omega) (o _ b) e
section
variable {fu:Nat}{self:Yk}{x:ib}{d node k:Int}
theorem Sz {l:List ib}:∀ (m i:Nat) (c:Int),l.length≤50→Kk self l d m i c=some (0,k)→∀ j (a:j<l.length),i≤j→∃ b e,self.Mg b l[j] d=some (0,e):=by
 intro m
 induction m with
 | zero=>intro i c _ h; cases h
 | succ m f =>
  intro i c g h j a s;rw [Kk,if_pos (by omega),Te,List.getElem?_eq_getElem (show i<l.length by omega),pa] at h;obtain ⟨r,e2,h⟩:=Ff h;by_cases z:r.1≠0
  ·rw [if_pos z] at h;exact absurd (congrArg (fun o:Option (Int×Int)=>o.map (·.1)) h) (by simpa using z)
  ·rw [if_neg z,Qd (by omega),pa] at h;by_cases q:j=i
   ·subst q;obtain ⟨n,p⟩:=r;obtain rfl:n=0:=Decidable.not_not.1 z;exact ⟨c,p,e2⟩
   ·exact f (i+1) r.2 g h j a (by omega)
theorem cx {l:List ib}(a:l.length≤50) (h:Be self node l d=some (0,k)):∀ y ∈ l,∃ b c,self.Mg b y d=some (0,c):=by
 intro y e;obtain ⟨j,f,rfl⟩:=List.getElem_of_mem e;rw [Be] at h;split at h
 ·cases h
 ·exact Sz _ 0 _ a h j f (Nat.zero_le _)
theorem xw {c:Int}(h:Mk self x d c=some (0,k)):x.Kind=3→∃ f b g,self.Be f x.Nc b=some (0,g):=by
 intro i;rw [Mk,if_pos i] at h;obtain ⟨b,-,h⟩:=Ff h;obtain ⟨r,e,h⟩:=Ff h;obtain ⟨j,l⟩:=r;obtain ⟨a,-⟩:=Prod.mk.inj (Option.some.inj h);have a:j=0:=a;subst a;exact ⟨_,_,_,e⟩
theorem yw {i:Int×Int}{b:Bool}(h:Nk self x d i b=some (0,k)):(b=true→∃ c a f,self.Be c x.Body a=some (0,f))∧(x.Kind=3→∃ c a f,self.Be c x.Nc a=some (0,f)):=by
 rw [Nk] at h;split at h
 ·obtain ⟨a,-,h⟩:=Ff h;obtain ⟨r,e,h⟩:=Ff h;split at h
  ·rename_i z;exact absurd (congrArg (fun o:Option (Int×Int)=>o.map (·.1)) h) (by simpa using z)
  ·rename_i z;obtain ⟨j,l⟩:=r;obtain rfl:j=0:=Decidable.not_not.1 z;exact ⟨fun _=>⟨_,_,_,e⟩,xw h⟩
 ·rename_i q;exact ⟨fun g=>absurd g q,xw h⟩
theorem pC (h:Mg fu self node x d=some (0,k)):(x.Kind=1∨x.Kind=2∨x.Kind=7→De fu x.Name=some true)∧(x.Kind≠6→(∃ c a f,(se fu).Jf c x.X a=some (0,f))∧(x.Kind=3∨x.Kind=4→∃ c a f,self.Be c x.Body a=some (0,f))∧(x.Kind=3→∃ c a f,self.Be c x.Nc a=some (0,f))):=by
 rw [Mg] at h;obtain ⟨l,-,h⟩:=Ff h;split at h
 ·rename_i z;exact absurd (congrArg (fun o:Option (Int×Int)=>o.map (·.1)) h) (by simpa using z)
 ·have m:∀ b,lj fu self x d l b=some (0,k)→b=false∧(x.Kind≠6→(∃ c a f,(se fu).Jf c x.X a=some (0,f))∧(x.Kind=3∨x.Kind=4→∃ c a f,self.Be c x.Body a=some (0,f))∧(x.Kind=3→∃ c a f,self.Be c x.Nc a=some (0,f))):=by
   intro b h;rw [lj] at h;split at h
   ·cases h
   ·rename_i q;refine ⟨by simpa using q,fun n=>?_⟩;rw [if_neg n] at h;obtain ⟨a,-,h⟩:=Ff h;obtain ⟨r,e,h⟩:=Ff h;split at h
    ·rename_i z;exact absurd (congrArg (fun o:Option (Int×Int)=>o.map (·.1)) h) (by simpa using z)
    ·rename_i z;obtain ⟨p,w⟩:=r;obtain rfl:p=0:=Decidable.not_not.1 z;refine ⟨⟨_,_,_,e⟩,?_⟩;split at h
     ·rename_i s;obtain ⟨i,j⟩:=yw h;exact ⟨fun _=>i rfl,j⟩
     ·rename_i s;obtain ⟨i,j⟩:=yw h;exact ⟨fun g=>i (decide_eq_true (by omega)),j⟩
  have t:∀ b,Jj fu self x d l b=some (0,k)→(x.Kind=1∨x.Kind=2∨x.Kind=7→De fu x.Name=some true)∧(x.Kind≠6→(∃ c a f,(se fu).Jf c x.X a=some (0,f))∧(x.Kind=3∨x.Kind=4→∃ c a f,self.Be c x.Body a=some (0,f))∧(x.Kind=3→∃ c a f,self.Be c x.Nc a=some (0,f))):=by
   intro b h;rw [Jj] at h;have N:(Option.bind (De fu x.Name) fun u=>lj fu self x d l (!u))=some (0,k)→(x.Kind=1∨x.Kind=2∨x.Kind=7→De fu x.Name=some true)∧(x.Kind≠6→(∃ c a f,(se fu).Jf c x.X a=some (0,f))∧(x.Kind=3∨x.Kind=4→∃ c a f,self.Be c x.Body a=some (0,f))∧(x.Kind=3→∃ c a f,self.Be c x.Nc a=some (0,f))):=by
    intro h;obtain ⟨v,e,h⟩:=Ff h;obtain ⟨i,j⟩:=m _ h;cases v with
    | true=>exact ⟨fun _=>e,j⟩
    | false=>cases i
   split at h
   ·cases h
   ·split at h
    ·exact N h
    ·split at h
     ·exact N h
     ·split at h
      ·exact N h
      ·exact ⟨fun g=>by omega,(m _ h).2⟩
  split at h<;>exact t _ h
end
theorem hy:∀ (j n:Nat) (x:ib) (node d k:Int),60+3*j≤n→Hk j x→(te n).Mg node x d=some (0,k)→Cj j x
 | 0,n,x,node,d,k,s,h,g=>h.elim
 | j+1,n,x,node,d,k,s,h,g=>by
  obtain ⟨k1,t,u,v,w⟩:=h;obtain ⟨n,rfl⟩:∃ q,n=q+2:=⟨n - 2,by omega⟩;obtain ⟨z,m⟩:=pC (show Mg (n+1) (te (n+1)) node x d=some (0,k) from g);have L:∀ (l:List ib) (f c i:Int),l.length≤50→(∀ y ∈ l,Hk j y)→(te (n+1)).Be f l c=some (0,i)→∀ y ∈ l,Cj j y:=by
   intro l f c i A B C y p;obtain ⟨c2,D,e⟩:=cx A (show Be (te n) f l c=some (0,i) from C) y p;exact hy j n y c2 c D (by omega) (B y p) e
  refine ⟨k1,t,fun r=>?_,fun q=>sq (by omega) (z q),fun q=>?_,fun q=>?_⟩
  ·obtain ⟨⟨f,c,i,e⟩,-⟩:=m r;exact gy j (n+1) x.X f c i (by omega) (u r) e
  ·obtain ⟨a,b⟩:=v q;obtain ⟨-,o,-⟩:=m (by omega);obtain ⟨f,c,i,e⟩:=o q;exact ⟨a,L x.Body f c i a b e⟩
  ·obtain ⟨a,b⟩:=w q;obtain ⟨-,-,o⟩:=m (by omega);obtain ⟨f,c,i,e⟩:=o q;exact ⟨a,L x.Nc f c i a b e⟩
theorem av {fu:Nat}(a:20≤fu){t:zc}(h:Oj fu t=some 0):Dj t:=by
 obtain ⟨e,c,d⟩:=Us fu a t;rw [h] at c;obtain rfl:=Option.some.inj c;refine ⟨d rfl,fun f=>?_⟩;rw [Oj] at h;have g:∀ b,yl fu t b=some 0→kg t.Qc:=by
  intro b h;rw [yl] at h;split at h
  ·cases h
  ·obtain ⟨i,e,h⟩:=Ff (by simpa only [if_pos f] using h);cases i with
   | true=>exact sq a e
   | false=>cases h
 split at h<;>exact g _ h
section
variable {fu:Nat}{x:sb}{zd:Int×Int}{k node:Int}
theorem Jw (h:Ok fu x zd=some (0,k)):(x.Kind=1→1≤x.re∧x.re≤20)∧(x.Kind≠1→∃ d f,(te fu).Be d x.Body 2=some (0,f)):=by
 rw [Ok] at h;split at h
 ·rename_i q;obtain ⟨r,e,h⟩:=Ff h;obtain ⟨i,j⟩:=r;obtain ⟨a,-⟩:=Prod.mk.inj (Option.some.inj h);have a:i=0:=a;subst a;exact ⟨fun g=>absurd g q,fun _=>⟨_,_,e⟩⟩
 ·rename_i q;have c:∀ b,Fp zd b=some (0,k)→b=false:=by
   intro b h;cases b with
   | false=>rfl
   | true=>cases h
  split at h
  ·cases c _ h
  ·have:=of_decide_eq_false (c _ h);exact ⟨fun _=>⟨by omega,by omega⟩,fun g=>absurd g q⟩
theorem Kw (a:20≤fu) (h:Pk fu x zd=some (0,k)):(x.Kind≠4→Dj x.Rb)∧(x.Kind=1→1≤x.re∧x.re≤20)∧(x.Kind≠1→∃ b c,(te fu).Be b x.Body 2=some (0,c)):=by
 rw [Pk] at h;split at h
 ·obtain ⟨r,e,h⟩:=Ff h;split at h
  ·rename_i z;exact absurd (congrArg (fun o:Option (Int×Int)=>o.map (·.1)) h) (by simpa using z)
  ·rename_i z;obtain rfl:r=0:=Decidable.not_not.1 z;exact ⟨fun _=>av a e,Jw h⟩
 ·rename_i q;exact ⟨fun g=>absurd g q,Jw h⟩
theorem FA (a:20≤fu) (h:Kj fu x zd=some (0,k)):(x.Kind=3→Dj x.Bd)∧(x.Kind≠4→Dj x.Rb)∧(x.Kind=1→1≤x.re∧x.re≤20)∧(x.Kind≠1→∃ b c,(te fu).Be b x.Body 2=some (0,c)):=by
 rw [Kj] at h;split at h
 ·obtain ⟨r,e,h⟩:=Ff h;split at h
  ·rename_i z;exact absurd (congrArg (fun o:Option (Int×Int)=>o.map (·.1)) h) (by simpa using z)
  ·rename_i z;obtain rfl:r=0:=Decidable.not_not.1 z;exact ⟨fun _=>av a e,Kw a h⟩
 ·rename_i q;exact ⟨fun g=>absurd g q,Kw a h⟩
theorem GA (c:20≤fu) (n:x.Params.length≤6):∀ (m i:Nat),i≤x.Params.length→Qk fu x zd m i=some (0,k)→(∀ j (a:j<x.Params.length),i≤j→kg x.Params[j].Name∧Dj x.Params[j].Rb)∧Kj fu x zd=some (0,k):=by
 intro m
 induction m with
 | zero=>intro i _ h; cases h
 | succ m d =>
  intro i p h;rw [Qk] at h;by_cases q:i<x.Params.length
  ·rw [if_pos (by omega),Te,List.getElem?_eq_getElem q,pa] at h;obtain ⟨b,ea,h⟩:=Ff h;cases b with
   | false=>cases h
   | true =>
    rw [if_pos rfl] at h;obtain ⟨r,e2,h⟩:=Ff h;by_cases z:r≠0
    ·rw [if_pos z] at h;exact absurd (congrArg (fun o:Option (Int×Int)=>o.map (·.1)) h) (by simpa using z)
    ·rw [if_neg z,Qd (by omega),pa] at h;obtain rfl:r=0:=Decidable.not_not.1 z;obtain ⟨f,g⟩:=d (i+1) q h;refine ⟨fun j a l=>?_,g⟩;by_cases e:j=i
     ·subst e;exact ⟨sq c ea,av c e2⟩
     ·exact f j a (by omega)
  ·rw [if_neg (by omega)] at h;exact ⟨fun j a l=>by omega,h⟩
theorem SE (D:300≤fu) (ok:Gq x) (h:Zk fu node x=some (0,k)):ik x:=by
 rw [Zk] at h;obtain ⟨f,-,h⟩:=Ff h;split at h
 ·rename_i z;exact absurd (congrArg (fun o:Option (Int×Int)=>o.map (·.1)) h) (by simpa using z)
 ·have fin:kg x.Name→(x.Kind=2∨x.Kind=3→x.Params.length≤6∧∀ q ∈ x.Params,kg q.Name∧Dj q.Rb)→Kj fu x f=some (0,k)→ik x:=by
   intro d m h;obtain ⟨a,b,c,e⟩:=FA (by omega) h;refine ⟨ok.k1,ok.Oh,d,m,a,b,c,fun k1=>⟨ok.Nq k1,fun y i=>?_⟩⟩;obtain ⟨p,r,s⟩:=e k1;obtain ⟨n,rfl⟩:∃ q,fu=q+1:=⟨fu - 1,by omega⟩;obtain ⟨c2,t,e2⟩:=cx (ok.Nq k1) (show Be (te n) p x.Body 2=some (0,r) from s) y i;exact hy 39 n y c2 2 t (by omega) (ok.oe k1 y i) e2
  have l:∀ b,(b=true ↔ x.Kind=2∨x.Kind=3)→kg x.Name→Rk fu x f b=some (0,k)→ik x:=by
   intro b g d h;rw [Rk] at h;split at h
   ·rename_i q;split at h
    ·cases h
    ·rename_i z;obtain ⟨u,v⟩:=GA (by omega) (by omega) _ 0 (Nat.zero_le _) h;exact fin d (fun _=>⟨by omega,fun q w=>by
      obtain ⟨j,A,rfl⟩:=List.getElem_of_mem w;exact u j A (Nat.zero_le _)⟩) v
   ·rename_i q;exact fin d (fun z=>absurd (g.2 z) q) h
  have B:∀ b,Lj fu x f b=some (0,k)→ik x:=by
   intro b h;rw [Lj] at h;split at h
   ·cases h
   ·obtain ⟨C,e,h⟩:=Ff h;cases C with
    | false=>cases h
    | true =>
     rw [if_pos rfl] at h;split at h
     ·rename_i q;exact l _ (by simp [q]) (sq (by omega) e) h
     ·rename_i q;exact l _ (by simp [q]) (sq (by omega) e) h
  split at h<;>exact B _ h
end
theorem Oy {fu:Nat}(g:300≤fu){l:List sb}{f:yb}(h:lh fu l=some f) (b:f.Wd=0):l.length≤30∧∀ x ∈ l,ik x:=by
 obtain ⟨t,d,k⟩:=Uq fu (by omega) l;rw [h] at d;obtain rfl:=Option.some.inj d;obtain ⟨-,ok⟩:=k b;have n:=ok.le;refine ⟨n,?_⟩;rw [lh,if_neg (by omega)] at h;have L:∀ (m i:Nat) (c:Int),Lk fu l m i c=some f→∀ j (a:j<l.length),i≤j→ik l[j]:=by
  intro m
  induction m with
  | zero=>intro i c h; cases h
  | succ m o =>
   intro i c h j a u;rw [Lk,if_pos (by omega),Te,List.getElem?_eq_getElem (show i<l.length by omega),pa] at h;obtain ⟨r,e,h⟩:=Ff h;by_cases z:r.1≠0
   ·rw [if_pos z] at h;rw [← Option.some.inj h] at b;exact absurd b z
   ·rw [if_neg z,Qd (by omega),pa] at h;by_cases q:j=i
    ·subst q;obtain ⟨p,v⟩:=r;obtain rfl:p=0:=Decidable.not_not.1 z;exact SE g (ok.ok _ (List.getElem_mem _)) e
    ·exact o (i+1) r.2 h j a (by omega)
 intro x s;obtain ⟨j,a,rfl⟩:=List.getElem_of_mem s;exact L _ 0 0 h j a (Nat.zero_le _)
end Go.Y
namespace Go.Y
open Go.Sb Go.ec
theorem Lw:∀ (j k:Nat) (x:wa),Vl j x→Wl k x→de j x=de k x
 | 0,k,x,h,g=>h.elim
 | j+1,0,x,h,g=>by cases g
 | j+1,k+1,x,h,g=>by
  obtain ⟨-,-,-,b⟩:=h;have e:x.Kids.map (de j)=x.Kids.map (de k):=List.map_congr_left fun y a=>Lw j k y (b y a) (g.2 y a);rw [de,de,e]
theorem vu:∀ (j k:Nat) (x:ib),Hk j x→Xl k x→Cd j x=Cd k x
 | 0,k,x,h,g=>h.elim
 | j+1,0,x,h,g=>by cases g
 | j+1,k+1,x,h,g=>by
  obtain ⟨-,-,b,d,e⟩:=h;obtain ⟨g1,g2,g3⟩:=g;have ea:(if x.Kind≠6 then de j x.X else wa.mk 0 0 [] [])=(if x.Kind≠6 then de k x.X else wa.mk 0 0 [] []):=by
   by_cases c:x.Kind≠6
   ·rw [if_pos c,if_pos c,Lw j k x.X (b c) g1]
   ·rw [if_neg c,if_neg c]
  have e2:(if x.Kind=3∨x.Kind=4 then x.Body.map (Cd j) else [])=(if x.Kind=3∨x.Kind=4 then x.Body.map (Cd k) else []):=by
   by_cases c:x.Kind=3∨x.Kind=4
   ·rw [if_pos c,if_pos c,List.map_congr_left fun y a=>vu j k y ((d c).2 y a) (g2.2 y a)]
   ·rw [if_neg c,if_neg c]
  have f:(if x.Kind=3 then x.Nc.map (Cd j) else [])=(if x.Kind=3 then x.Nc.map (Cd k) else []):=by
   by_cases c:x.Kind=3
   ·rw [if_pos c,if_pos c,List.map_congr_left fun y a=>vu j k y ((e c).2 y a) (g3.2 y a)]
   ·rw [if_neg c,if_neg c]
  rw [Cd,Cd,ea,e2,f]
theorem HA {k:Nat}{x:sb}(h:Gq x) (g:Wr k x):Dd 39 x=Dd k x:=by
 have e:(if x.Kind=1 then [] else x.Body.map (Cd 39))=(if x.Kind=1 then [] else x.Body.map (Cd k)):=by
  by_cases c:x.Kind=1
  ·rw [if_pos c,if_pos c]
  ·rw [if_neg c,if_neg c,List.map_congr_left fun y a=>vu 39 k y (h.oe c y a) (g.2.2 y a)]
 rw [Dd,Dd,e]
theorem dx {fu:Nat}(i:8000≤fu){k:Nat}{l:List sb}(c:gp k l){f:yb}(h:lh fu l=some f) (a:f.Wd=0) (j:(Uf (Qh l)).length≤6000):vr fu (Uf (Qh l))=some (l.map (Dd k),⟨0,0⟩):=by
 obtain ⟨p,d,m⟩:=Uq fu (by omega) l;rw [h] at d;obtain rfl:=Option.some.inj d;obtain ⟨-,ok⟩:=m a;obtain ⟨n,o⟩:=Oy (by omega) h a;have e:l.map (Dd 39)=l.map (Dd k):=List.map_congr_left fun x g=>HA (ok.ok x g) (c.2 x g);have b:=yA fu k l c;rw [h] at b;rw [← e] at b;rw [AB i n o j b a,e]
end Go.Y
namespace Go.Y
open Go.Sb Go.ec
def Mc:pb→List pb→pb
 | b,[]=>b
 | b,w::ws=>Mc (if b=[] then w else b++32::w) ws
def lw:List pb→Nat
 | []=>0
 | w::ws=>w.length+1+lw ws
theorem Gm:∀ (u v:List pb) (b:pb),Mc b (u++v)=Mc (Mc b u) v
 | [],v,b=>rfl
 | w::u,v,b=>by rw [List.cons_append,Mc,Mc,Gm u v]
theorem Ld:∀ (u v:List pb),lw (u++v)=lw u+lw v
 | [],v=>by simp [lw]
 | w::u,v=>by rw [List.cons_append,lw,lw,Ld u v]; omega
theorem Yf:∀ (ws:List pb) (b:pb),(Mc b ws).length≤b.length+lw ws
 | [],b=>by simp [Mc,lw]
 | w::ws,b=>by
  rw [Mc,lw];refine Nat.le_trans (Yf ws _) ?_;split
  ·simp_all
  ·simp;omega
theorem iy:∀ (ws:List pb) (b:pb),b≠[]→Mc b ws=b++(ws.map fun w=>32::w).flatten
 | [],b,h=>by simp [Mc]
 | w::ws,b,h=>by
  rw [Mc,if_neg h,iy ws _ (by simp)];simp
theorem jy:∀ (ws:List pb) (w:pb),Uf (w::ws)=w++(ws.map fun w=>32::w).flatten
 | [],w=>by simp [Uf]
 | w'::ws,w=>by rw [Uf,jy ws w']; simp
theorem PF {ws:List pb}(h:∀ w t,ws=w::t→w≠[]):Mc [] ws=Uf ws:=by
 cases ws with
 | nil=>rfl
 | cons w ws=>rw [Mc,if_pos rfl,iy ws w (h w ws rfl),jy]
theorem ky {α:Type}{l xs:List α}(h:l.length+xs.length≤4294967296):app l xs=some (l++xs):=if_pos h
theorem qC (p:List pb):∀ (m i:Nat) (b:pb),p.length<m+i→i≤p.length→b.length+lw (p.drop i)≤4294967296→p.length≤4294967296→vk p m i b=some (Mc b (p.drop i)):=by
 intro m
 induction m with
 | zero=>intro i b g j; omega
 | succ m k =>
  intro i b g j f l;rw [vk];by_cases c:i<p.length
  ·rw [if_pos (by omega),Te,List.getElem?_eq_getElem c,pa,Qo,pa];rw [List.drop_eq_getElem_cons c] at f ⊢;rw [lw] at f;rw [Mc];have go:∀ d,d.length≤b.length+1→(b=[]→d=[])→(if b=[] then p[i] else b++32::p[i])=d++p[i]→Up i p[i] (vk p m) d=some (Mc (if b=[] then p[i] else b++32::p[i]) (p.drop (i+1))):=by
    intro d a n e;rw [Up,tr,ky (by omega),pa,pa,Qd (by omega),pa];rw [show ((i:Int)+1)=((i+1:Nat):Int) by omega];show vk p m ((i+1:Nat):Int) (d++p[i])=_;rw [e];refine k (i+1) _ (by omega) (by omega) ?_ l;by_cases o:b=[]
    ·rw [n o];simp only [List.nil_append];omega
    ·rw [List.length_append];omega
   by_cases a:b=[]
   ·rw [if_neg (by subst a;simp)];exact go b (by omega) id (by rw [if_pos a,a];simp)
   ·have:0<b.length:=List.length_pos_iff.2 a;rw [if_pos (by omega),jr,ky (by simp;omega),pa,pa];exact go (b++[32]) (by simp) (fun h=>absurd h a) (by rw [if_neg a];simp)
  ·rw [if_neg (by omega),List.drop_eq_nil_of_le (by omega),Mc]
theorem gz:∀ ws:List pb,ws.length≤lw ws
 | []=>by simp [lw]
 | w::ws=>by have:=gz ws; simp [lw]; omega
theorem Of {b:pb}{ws:List pb}(h:b.length+lw ws≤4294967296):td b ws=some (Mc b ws):=by
 have:=gz ws;rw [td,show (0:Int)=((0:Nat):Int) from rfl,qC ws (ws.length+1) 0 b (by omega) (by omega) (by simpa using h) (by omega)];simp
theorem rC (p:List pb):∀ (m:Nat) (i:Int) (b:pb),cn p m i b=vk p m i b:=by
 intro m
 induction m with
 | zero=>intro i b; rfl
 | succ m a =>
  intro i b;have e:cn p m=vk p m:=funext fun i=>funext fun b=>a i b;rw [cn,vk,e];rfl
theorem TE {b:pb}{ws:List pb}(h:b.length+lw ws≤4294967296):Wi b ws=some (Mc b ws):=by
 rw [← Of h,Wi,td,rC]
theorem Py {n:Int}(h:0≤n∧n≤999999999999999):vn n=some (Lib.itoa n):=if_pos ⟨by omega,by omega⟩
theorem qD {k:Int}(a:1≤k) (b:k≤24):cr k=some (if 4≤k∧k≤18 then Rf k else [],((own k:Nat):Int)):=by
 have:k=1∨k=2∨k=3∨k=4∨k=5∨k=6∨k=7∨k=8∨k=9∨k=10∨k=11∨k=12∨k=13∨k=14∨k=15∨k=16∨k=17∨k=18∨k=19∨k=20∨k=21∨k=22∨k=23∨k=24:=by omega
 rcases this with rfl | rfl | rfl | rfl | rfl | rfl | rfl | rfl | rfl | rfl | rfl | rfl | rfl | rfl | rfl | rfl | rfl | rfl | rfl | rfl | rfl | rfl | rfl | rfl<;>rfl
end Go.Y
namespace Go.Y
open Go.Sb Go.ec
section
variable {self:fj}{x:wa}
def Ir (self:fj) (a:wa) (c:List UInt8×Int) (b:pb):Option pb :=
  if a.Kind=1 then
   (vn a.N).bind fun d =>
   (td b [d]).bind fun r417 =>
   some r417
  else
   if a.Kind=2 then
    (at_ [[102,97,108,115,101],[116,114,117,101]] a.N).bind fun e =>
    (td b [e]).bind fun f =>
    some f
   else
    if a.Kind=3 then
     (td b [a.Name]).bind fun g =>
     some g
    else
     if a.Kind=4 then
      uk self a b c (decide (a.Kind=4))
     else
      uk self a b c (decide (a.Kind=5))
def ep (r:pb):Option pb:=(Wi r [[41]]).bind some
theorem UE (a:List UInt8×Int) (b:pb) (i:Int):Hp self x a b i=(Pn self x b a i).bind ep:=by
 unfold Hp Pn ep;simp only [Option.bind_assoc,Option.bind_some]
theorem VE (a:List UInt8×Int) (b:pb) (c:Bool):Ip self x a b c=(uk self x b a c).bind ep:=by
 unfold Ip uk;simp only [UE];repeat' split
 all_goals (try unfold ep;simp only [Option.bind_assoc,Option.bind_some])
theorem WE (b:pb) (oc:Int):Ie self b x oc=(cr x.Kind).bind fun a=>if a.2<oc then (td b [[40]]).bind fun ya=>(Ir self x a ya).bind ep else Ir self x a b:=by
 unfold Ie Ir;simp only [VE];congr 1;funext a;split
 ·congr 1;funext ya;repeat' split
  all_goals (try unfold ep;simp only [Option.bind_assoc,Option.bind_some])
 ·rfl
end
section
variable {self:fj}{f:Nat→wa→List pb}
def Wm (f:wa→List pb):Nat→List wa→List pb
 | _,[]=>[]
 | 0,x::t=>f x++Eh f t
 | _+1,x::t=>Eh f (x::t)
theorem Sv (f:wa→List pb) (i:Nat) (l:List wa):Wm f (i+1) l=Eh f l:=by cases l<;>rfl
theorem sG (f:wa→List pb){i:Nat}(h:i≠0) (l:List wa):Wm f i l=Eh f l:=by
 obtain ⟨i,rfl⟩:=Nat.exists_eq_succ_of_ne_zero h;exact Sv f i l
theorem tG (f:wa→List pb) (l:List wa):wg f l=[40]::(Wm f 0 l++[[41]]):=by
 cases l with
 | nil=>rfl
 | cons x l=>simp [wg,Wm]
theorem IA {f:wa→List pb}{l:List wa}(g:∀ y ∈ l,∀ b:pb,b.length+lw (f y)≤4294967296→self.Ie b y 1=some (Mc b (f y))):∀ (m i:Nat) (b:pb),i≤l.length→l.length<m+i→l.length≤6→b.length+lw (Wm f i (l.drop i)++[[41]])≤4294967296→dn self l m i b=some (Mc b (Wm f i (l.drop i)++[[41]])):=by
 intro m
 induction m with
 | zero=>intro i b h j; omega
 | succ m k =>
  intro i b h j n a;rw [dn];by_cases c:i<l.length
  ·rw [if_pos (by omega)];rw [List.drop_eq_getElem_cons c] at a ⊢;have go:∀ ya:pb,ya.length+lw (f l[i])+lw (Eh f (l.drop (i+1)))+lw [[41]]≤4294967296→Jp self l i (dn self l m) ya=some (Mc ya (f l[i]++(Eh f (l.drop (i+1))++[[41]]))):=by
    intro ya p;rw [Jp,Te,List.getElem?_eq_getElem c,pa,g _ (List.getElem_mem c) ya (by omega),pa,Qd (by omega),pa];have o:=Yf (f l[i]) ya;have:=k (i+1) (Mc ya (f l[i])) (by omega) (by omega) n (by rw [Sv,Ld];omega);rw [Sv] at this;rw [show ((i:Int)+1)=((i+1:Nat):Int) by omega,this,Gm (f l[i])]
   by_cases d:i=0
   ·subst d;rw [Wm] at a ⊢;rw [if_neg (by omega),go b (by rw [Ld,Ld] at a;omega),List.append_assoc]
   ·rw [sG f d] at a ⊢;have e:Eh f (l[i]::l.drop (i+1))=[[44]]++(f l[i]++Eh f (l.drop (i+1))):=by
     generalize l[i]=x;generalize l.drop (i+1)=t;rw [Eh,Eh,List.map_cons,List.flatten_cons];rfl
    rw [e] at a ⊢;rw [Ld,Ld,Ld] at a;have o:=Yf [[44]] b;rw [if_pos (by omega),Of (by omega),pa,go _ (by omega),List.append_assoc,Gm [[44]],List.append_assoc]
  ·rw [if_neg (by omega)];have e:Wm f i (l.drop i)=[]:=by
    rw [List.drop_eq_nil_of_le (by omega)];cases i<;>rfl
   rw [e,List.nil_append] at a ⊢;rw [Of a,pa]
theorem rD {f:wa→List pb}{l:List wa}(a:∀ y ∈ l,∀ b:pb,b.length+lw (f y)≤4294967296→self.Ie b y 1=some (Mc b (f y))) (c:l.length≤6){b:pb}(h:b.length+lw (wg f l)≤4294967296):xf self b l=some (Mc b (wg f l)):=by
 rw [tG] at h ⊢;rw [show [40]::(Wm f 0 l++[[41]])=[[40]]++(Wm f 0 l++[[41]]) from rfl] at h ⊢;rw [Ld] at h;have d:=Yf [[40]] b;rw [xf,Of (by omega),pa,Gm [[40]]];have:=IA a (l.length+1) 0 (Mc b [[40]]) (by omega) (by omega) c (by simpa using (by omega));simpa using this
end
theorem Qy {k:Nat}{E:fj}{x:wa}(t:oo (k+1) x) (i:∀ y ∈ x.Kids,∀ (b:pb) (oc:Nat),oc≤8→b.length+lw (Ec k oc y)≤4294967296→E.Ie b y oc=some (Mc b (Ec k oc y))) (z:∀ (b:pb),b.length+lw (wg (Ec k 1) x.Kids)≤4294967296→E.xf b x.Kids=some (Mc b (wg (Ec k 1) x.Kids))) (b:pb) (d:b.length+lw (Tf (Ec k) x)≤4294967296) :
  Ir E x (if 4≤x.Kind∧x.Kind≤18 then Rf x.Kind else [],((own x.Kind:Nat):Int)) b=some (Mc b (Tf (Ec k) x)):=by
 obtain ⟨G,H,m,A,B,-,-⟩:=t;unfold Tf at d ⊢;unfold Ir;have two:∀ (u v:List pb) (b:pb),Mc (Mc b u) v=Mc b (u++v):=fun u v b=>(Gm u v b).symm;have g:∀ (w:List pb),b.length+lw (w++wg (Ec k 1) x.Kids)≤4294967296→((td b w).bind fun r=>(E.xf r x.Kids).bind fun q=>some q)=some (Mc b (w++wg (Ec k 1) x.Kids)):=by
  intro w hw;rw [Ld] at hw;have C:=Yf w b;rw [Of (by omega),pa,z _ (by omega),pa,two]
 by_cases j:x.Kind=1
 ·simp only [if_pos j] at d ⊢;rw [Py (A j),pa,Of d,pa]
 simp only [if_neg j] at d ⊢;by_cases c2:x.Kind=2
 ·simp only [if_pos c2] at d ⊢;rcases B c2 with e | e
  ·rw [e] at d ⊢;show ((td b [[102,97,108,115,101]]).bind fun r=>some r)=_;rw [if_neg (by decide)] at d ⊢;rw [Of d,pa]
  ·rw [e] at d ⊢;show ((td b [[116,114,117,101]]).bind fun r=>some r)=_;rw [if_pos rfl] at d ⊢;rw [Of d,pa]
 simp only [if_neg c2] at d ⊢;by_cases c3:x.Kind=3
 ·simp only [if_pos c3] at d ⊢;rw [Of d,pa]
 simp only [if_neg c3] at d ⊢;by_cases h:x.Kind=4∨x.Kind=5
 ·simp only [if_pos h] at d ⊢;have e:(if x.Kind=4 then uk E x b (if 4≤x.Kind∧x.Kind≤18 then Rf x.Kind else [],((own x.Kind:Nat):Int)) (decide (x.Kind=4)) else uk E x b (if 4≤x.Kind∧x.Kind≤18 then Rf x.Kind else [],((own x.Kind:Nat):Int)) (decide (x.Kind=5)))=uk E x b (if 4≤x.Kind∧x.Kind≤18 then Rf x.Kind else [],((own x.Kind:Nat):Int)) true:=by
   rcases h with c | c
   ·rw [if_pos c,decide_eq_true c]
   ·rw [if_neg (by omega),decide_eq_true c]
  rw [e,uk,if_pos rfl,if_pos (by omega)];have l:x.Kids.length=1:=by
   have ea:Ef x.Kind=1:=by rcases h with c | c<;>rw [c]<;>rfl
   have:=m.eq (by omega);omega
  obtain ⟨a,f⟩:=List.length_eq_one_iff.1 l;rw [f] at d ⊢;dsimp only at d ⊢;rw [show Rf x.Kind::Ec k 6 a=[Rf x.Kind]++Ec k 6 a from rfl,Ld] at d;have C:=Yf [Rf x.Kind] b;have D:=i a (by simp [f]) (Mc b [Rf x.Kind]) 6 (by omega) (by omega);rw [Of (by omega),pa,uf (by simp),pa];show ((E.Ie (Mc b [Rf x.Kind]) a ((6:Nat):Int)).bind fun r=>some r)=_;rw [D,pa,two];rfl
 simp only [if_neg h] at d ⊢;rw [if_neg (by omega),decide_eq_false (show ¬ x.Kind=5 by omega),uk,if_neg (by decide)];by_cases n:x.Kind≤18
 ·simp only [if_pos n] at d ⊢;have l:x.Kids.length=2:=by
   have ea:Ef x.Kind=2:=by unfold Ef;rw [if_neg (by omega),if_neg (by omega),if_pos (by omega)]
   have:=m.eq (by omega);omega
  rw [if_pos (show 4≤x.Kind∧x.Kind≤18 by omega),if_neg (show ¬ x.Kind=20 by omega),if_neg (show ¬ x.Kind=21 by omega),if_neg (show ¬ x.Kind=23 by omega),if_neg (show ¬ x.Kind=24 by omega),if_neg (show ¬ x.Kind=22 by omega),if_neg (show ¬ x.Kind=19 by omega)];obtain ⟨a,c,f⟩:∃ a c,x.Kids=[a,c]:=by
   match x.Kids,l with
   | [a,c],_=>exact ⟨a,c,rfl⟩
  rw [f] at d ⊢;dsimp only at d ⊢;have K:own x.Kind≤7:=by
   unfold own
   (repeat' split)<;>omega
  have Fz:∀ left:Nat,left≤8→b.length+lw (Ec k left a++Rf x.Kind::Ec k (own x.Kind+1) c)≤4294967296→Pn E x b (Rf x.Kind,((own x.Kind:Nat):Int)) (left:Int)=some (Mc b (Ec k left a++Rf x.Kind::Ec k (own x.Kind+1) c)):=by
   intro left F d;rw [show Ec k left a++Rf x.Kind::Ec k (own x.Kind+1) c=Ec k left a++([Rf x.Kind]++Ec k (own x.Kind+1) c) from rfl] at d ⊢;rw [Ld,Ld] at d;have l1:=Yf (Ec k left a) b;have L:=Yf [Rf x.Kind] (Mc b (Ec k left a));rw [Pn,f,uf (by simp),pa];dsimp only;show ((E.Ie b a (left:Int)).bind _)=_;rw [i a (by simp [f]) b left F (by omega),pa,Of (by omega),pa,oz (by simp),pa,Qd (by omega),pa];show ((E.Ie _ c (((own x.Kind:Nat):Int)+1)).bind _)=_;rw [show (((own x.Kind:Nat):Int)+1)=((own x.Kind+1:Nat):Int) by omega,i c (by simp [f]) _ (own x.Kind+1) (by omega) (by omega),pa,two,two]
  by_cases c3:own x.Kind=3
  ·rw [if_pos c3] at d ⊢;rw [if_pos (by omega),Qd (by omega),pa,show (((own x.Kind:Nat):Int)+1)=((4:Nat):Int) by omega];exact Fz 4 (by omega) d
  ·rw [if_neg c3] at d ⊢;rw [if_neg (by omega)];exact Fz (own x.Kind) (by omega) d
 simp only [if_neg n] at d ⊢;by_cases o:x.Kind=19
 ·simp only [if_pos o] at d ⊢;rw [if_neg (by omega),if_neg (by omega),if_neg (by omega),if_neg (by omega),if_neg (by omega)];exact g [x.Name] d
 simp only [if_neg o] at d ⊢;by_cases c20:x.Kind=20
 ·simp only [if_pos c20] at d ⊢;rw [Of d,pa]
 simp only [if_neg c20] at d ⊢;by_cases c21:x.Kind=21
 ·simp only [if_pos c21] at d ⊢;exact g [_] d
 simp only [if_neg c21] at d ⊢;by_cases p:x.Kind=22
 ·simp only [if_pos p] at d ⊢;rw [if_neg (by omega),if_neg (by omega)];exact g [_,x.Name] d
 simp only [if_neg p] at d ⊢;by_cases s:x.Kind=23
 ·simp only [if_pos s] at d ⊢;exact g [_] d
 simp only [if_neg s] at d ⊢;rw [if_pos (by omega)];exact g [_] d
theorem xv:∀ (k n:Nat) (x:wa) (b:pb) (oc:Nat),oo k x→2*k≤n→b.length+lw (Ec k oc x)≤4294967296→(yk n).Ie b x oc=some (Mc b (Ec k oc x)):=by
 intro k
 induction k with
 | zero=>intro n x b oc h; exact h.elim
 | succ k g =>
  intro n x b oc d t a;obtain ⟨n,rfl⟩:∃ m,n=m+2:=⟨n - 2,by omega⟩;have p:=d;obtain ⟨q,r,s,-,-,-,i⟩:=p;have j:∀ y ∈ x.Kids,∀ (b:pb) (oc:Nat),oc≤8→b.length+lw (Ec k oc y)≤4294967296→(yk (n+1)).Ie b y oc=some (Mc b (Ec k oc y)):=fun y e b oc _ a=>g (n+1) y b oc (i y e) (by omega) a;have o:∀ (b:pb),b.length+lw (wg (Ec k 1) x.Kids)≤4294967296→(yk (n+1)).xf b x.Kids=some (Mc b (wg (Ec k 1) x.Kids)):=fun b a =>
   rD (self:=yk n) (f:=Ec k 1) (l:=x.Kids) (fun y e b a=>g n y b 1 (i y e) (by omega) a) s.le a
  show Ie (yk (n+1)) b x oc=_;rw [WE,qD q r,pa];rw [Ec] at a ⊢;by_cases c:own x.Kind<oc
  ·rw [if_pos c] at a ⊢;rw [show [40]::(Tf (Ec k) x++[[41]])=[[40]]++(Tf (Ec k) x++[[41]]) from rfl] at a ⊢;rw [Ld,Ld] at a;have l1:=Yf [[40]] b;have u:=Yf (Tf (Ec k) x) (Mc b [[40]]);rw [if_pos (by exact Int.ofNat_lt.2 c),Of (by omega),pa,Qy d j o _ (by omega),pa,ep,TE (by omega),pa,Gm [[40]],Gm (Tf (Ec k) x)]
  ·rw [if_neg c] at a ⊢;rw [if_neg (by simpa using c)];exact Qy d j o b a
end Go.Y
namespace Go.Y
open Go.Sb Go.ec
section
variable {self:Ul}{g:ib→List pb}{l:List ib}
theorem JA (d:∀ y ∈ l,∀ b:pb,b.length+lw (g y)≤4294967296→self.Qj b y=some (Mc b (g y))) (j:l.length≤50):∀ (m i:Nat) (b:pb),i≤l.length→l.length<m+i→b.length+lw (((l.drop i).map g).flatten++[[125]])≤4294967296→Kp self l m i b=some (Mc b (((l.drop i).map g).flatten++[[125]])):=by
 intro m
 induction m with
 | zero=>intro i b e f; omega
 | succ m h =>
  intro i b e f a;rw [Kp];by_cases c:i<l.length
  ·rw [if_pos (by omega),Te,List.getElem?_eq_getElem c,pa];rw [List.drop_eq_getElem_cons c,List.map_cons,List.flatten_cons,List.append_assoc] at a ⊢;rw [Ld] at a;have k:=Yf (g l[i]) b;rw [d _ (List.getElem_mem c) b (by omega),pa,Qd (by omega),pa,show ((i:Int)+1)=((i+1:Nat):Int) from rfl,h (i+1) _ (by omega) (by omega) (by omega),Gm (g l[i])]
  ·rw [if_neg (by omega)];rw [List.drop_eq_nil_of_le (by omega),List.map_nil,List.flatten_nil,List.nil_append] at a ⊢;rw [Of a,pa]
theorem ly (a:∀ y ∈ l,∀ b:pb,b.length+lw (g y)≤4294967296→self.Qj b y=some (Mc b (g y))) (c:l.length≤50){b:pb}(h:b.length+lw (bf g l)≤4294967296):Xi self b l=some (Mc b (bf g l)):=by
 unfold bf at h ⊢;rw [show [123]::((l.map g).flatten++[[125]])=[[123]]++((l.map g).flatten++[[125]]) from rfl] at h ⊢;rw [Ld] at h;have d:=Yf [[123]] b;rw [Xi,Of (by omega),pa,Gm [[123]]];have:=JA a c (l.length+1) 0 (Mc b [[123]]) (by omega) (by omega) (by simpa using (by omega));simpa using this
end
theorem di (u v:List pb) (b:pb):Mc (Mc b u) v=Mc b (u++v):=(Gm u v b).symm
theorem XE {k fu:Nat}{S:Ul}{x:ib}(s:Cj (k+1) x) (h:2*k≤fu) (i:∀ (l:List ib),(∀ y ∈ l,Cj k y)→l.length≤50→∀ b:pb,b.length+lw (bf (Zd k) l)≤4294967296→S.Xi b l=some (Mc b (bf (Zd k) l))) (b:pb) (a:b.length+lw (Zd (k+1) x)≤4294967296) :
  Qj fu S b x=some (Mc b (Zd (k+1) x)):=by
 obtain ⟨z,A,j,B,o,t⟩:=s;have so:∀ (w:List pb),x.Kind≠6→b.length+lw (w++(Ec k 1 x.X++[[59]]))≤4294967296→((td b w).bind fun r=>en fu x r)=some (Mc b (w++(Ec k 1 x.X++[[59]]))):=by
  intro w p hw;rw [Ld,Ld] at hw;have l1:=Yf w b;have q:=Yf (Ec k 1 x.X) (Mc b w);rw [Of (by omega),pa,en,if_pos p];show (((yk fu).Ie (Mc b w) x.X ((1:Nat):Int)).bind _)=_;rw [xv k fu x.X _ 1 (j p) h (by omega),pa,Lp,Of (by omega),pa,di,di]
 have fw:Qj fu S b x=Mp fu S x b (decide (x.Kind=3∨x.Kind=4)):=by
  rw [Qj];by_cases c:x.Kind=3
  ·rw [if_pos c,decide_eq_true c,decide_eq_true (.inl c)]
  ·rw [if_neg c];congr 1;exact decide_eq_decide.2 (by omega)
 rw [fw,Mp];rw [Zd] at a ⊢;by_cases c3:x.Kind=3
 ·rw [if_pos c3] at a ⊢;rw [decide_eq_true (.inl c3),if_pos rfl];rw [show [105,102]::(Ec k 1 x.X++(bf (Zd k) x.Body++(if x.Nc=[] then [] else [101,108,115,101]::bf (Zd k) x.Nc)))=[[105,102]]++(Ec k 1 x.X++(bf (Zd k) x.Body++(if x.Nc=[] then [] else [[101,108,115,101]]++bf (Zd k) x.Nc))) from rfl] at a ⊢;rw [Ld,Ld,Ld] at a;have l1:=Yf [[105,102]] b;have q:=Yf (Ec k 1 x.X) (Mc b [[105,102]]);have l3:=Yf (bf (Zd k) x.Body) (Mc (Mc b [[105,102]]) (Ec k 1 x.X));obtain ⟨m,n⟩:=o (.inl c3);obtain ⟨u,v⟩:=t c3;rw [show ((Ud (qc (qc ([]:List (Int×List UInt8)) 3 [105,102]) 4 [119,104,105,108,101]) x.Kind).getD [])=[105,102] by rw [c3];rfl];rw [Of (by omega),pa];show (((yk fu).Ie (Mc b [[105,102]]) x.X ((1:Nat):Int)).bind _)=_;rw [xv k fu x.X _ 1 (j (by omega)) h (by omega),pa,i x.Body n m _ (by omega),pa,if_pos c3];by_cases ce:x.Nc=[]
  ·rw [if_pos ce] at a ⊢;rw [decide_eq_false (by rw [ce];simp),yo,if_neg (by decide),di,di];simp
  ·rw [if_neg ce] at a ⊢;rw [Ld] at a;have C:=Yf [[101,108,115,101]] (Mc (Mc (Mc b [[105,102]]) (Ec k 1 x.X)) (bf (Zd k) x.Body));have D:0<x.Nc.length:=List.length_pos_iff.2 ce;rw [decide_eq_true (by omega),yo,if_pos rfl,Of (by omega),pa,i x.Nc v u _ (by omega),pa,di,di,di,di]
 rw [if_neg c3] at a ⊢;by_cases c4:x.Kind=4
 ·rw [if_pos c4] at a ⊢;rw [decide_eq_true (.inr c4),if_pos rfl];rw [show [119,104,105,108,101]::(Ec k 1 x.X++bf (Zd k) x.Body)=[[119,104,105,108,101]]++(Ec k 1 x.X++bf (Zd k) x.Body) from rfl] at a ⊢;rw [Ld,Ld] at a;have l1:=Yf [[119,104,105,108,101]] b;have q:=Yf (Ec k 1 x.X) (Mc b [[119,104,105,108,101]]);obtain ⟨m,n⟩:=o (.inr c4);rw [show ((Ud (qc (qc ([]:List (Int×List UInt8)) 3 [105,102]) 4 [119,104,105,108,101]) x.Kind).getD [])=[119,104,105,108,101] by rw [c4];rfl];rw [Of (by omega),pa];show (((yk fu).Ie (Mc b [[119,104,105,108,101]]) x.X ((1:Nat):Int)).bind _)=_;rw [xv k fu x.X _ 1 (j (by omega)) h (by omega),pa,i x.Body n m _ (by omega),pa,if_neg c3,yo,if_neg (by decide),di,di]
 rw [if_neg c4] at a ⊢;rw [decide_eq_false (by omega),if_neg (by decide)];by_cases f:x.Kind=1
 ·rw [if_pos f] at a ⊢;rw [if_pos f];exact so [_,x.Name,_] (by omega) a
 rw [if_neg f] at a ⊢;rw [if_neg f];by_cases c2:x.Kind=2
 ·rw [if_pos c2] at a ⊢;rw [if_pos c2];exact so [x.Name,_] (by omega) a
 rw [if_neg c2] at a ⊢;rw [if_neg c2];by_cases g:x.Kind=7
 ·rw [if_pos g] at a ⊢;rw [if_pos g];exact so [_,x.Name] (by omega) a
 rw [if_neg g] at a ⊢;rw [if_neg g];by_cases d:x.Kind=6
 ·rw [if_pos d] at a ⊢;rw [show ((Ud (qc (qc (qc (qc ([]:List (Int×List UInt8)) 5 [114,101,116,117,114,110]) 6 [115,116,111,112]) 8 [111,117,116]) 9 [100,111]) x.Kind).getD [])=[115,116,111,112] by rw [d];rfl];rw [show ([[115,116,111,112],[59]]:List pb)=[[115,116,111,112]]++[[59]] from rfl] at a ⊢;rw [Ld] at a;have l1:=Yf [[115,116,111,112]] b;rw [Of (by omega),pa,en,if_neg (by simpa using d),Lp,Of (by omega),pa,di]
 rw [if_neg d] at a ⊢;have e:((Ud (qc (qc (qc (qc ([]:List (Int×List UInt8)) 5 [114,101,116,117,114,110]) 6 [115,116,111,112]) 8 [111,117,116]) 9 [100,111]) x.Kind).getD [])=(if x.Kind=5 then [114,101,116,117,114,110] else if x.Kind=8 then [111,117,116] else [100,111]):=by
  have:x.Kind=5∨x.Kind=8∨x.Kind=9:=by omega
  rcases this with c | c | c<;>rw [c]<;>rfl
 rw [e];exact so [_] d a
theorem sC:∀ (k n:Nat) (x:ib) (b:pb),Cj k x→4*k+2≤n→b.length+lw (Zd k x)≤4294967296→(nn n).Qj b x=some (Mc b (Zd k x)):=by
 intro k
 induction k with
 | zero=>intro n x b h; exact h.elim
 | succ k c =>
  intro n x b d j a;obtain ⟨n,rfl⟩:∃ m,n=m+2:=⟨n - 2,by omega⟩;exact XE (fu:=n+1) (S:=nn (n+1)) d (by omega) (fun l e f b a=>ly (self:=nn n) (g:=Zd k) (fun y i b a=>c n y b (e y i) (by omega) a) f a) b a
theorem xt {t:zc}(h:hk t):tm t=some (lf t):=by
 rw [tm,lf];repeat' split
 all_goals first | rfl | omega
def Oq:List TParam→List pb
 | []=>[]
 | q::l=>q.Name::lf q.Rb::Li l
theorem BB {fu:Nat}{x:sb}(s:x.Params.length≤6) (g:∀ q ∈ x.Params,hk q.Rb) (R:List pb) (h:∀ b:pb,b.length+lw R≤4294967296→(if x.Kind=3 then
    (tm x.Bd).bind fun j =>
    (td b [[116,97,107,101,115],j,[121,105,101,108,100,115]]).bind fun k =>
    km fu x k
   else
    km fu x b)=some (Mc b R)):∀ (m i:Nat) (b:pb),i≤x.Params.length→x.Params.length<m+i→b.length+lw ((if i=0 then Oq x.Params else Li (x.Params.drop i))++([[41]]++R))≤4294967296→Al fu x m i b=some (Mc b ((if i=0 then Oq x.Params else Li (x.Params.drop i))++([[41]]++R))):=by
 intro m
 induction m with
 | zero=>intro i b n o; omega
 | succ m p =>
  intro i b n o a;rw [Al];by_cases c:i<x.Params.length
  ·rw [if_pos (by omega),Te,List.getElem?_eq_getElem c,pa];have go:∀ ya:pb,ya.length+lw ([x.Params[i].Name,lf x.Params[i].Rb]++(Li (x.Params.drop (i+1))++([[41]]++R)))≤4294967296→Wp i x.Params[i] (Al fu x m) ya=some (Mc ya ([x.Params[i].Name,lf x.Params[i].Rb]++(Li (x.Params.drop (i+1))++([[41]]++R)))):=by
    intro ya r;rw [Ld] at r;have l1:=Yf [x.Params[i].Name,lf x.Params[i].Rb] ya;rw [Wp,xt (g _ (List.getElem_mem c)),pa,Of (by omega),pa,Qs,Qd (by omega),pa,show ((i:Int)+1)=((i+1:Nat):Int) from rfl];have:=p (i+1) (Mc ya [x.Params[i].Name,lf x.Params[i].Rb]) (by omega) (by omega) (by rw [if_neg (by omega)];omega);rw [this,if_neg (by omega),di]
   by_cases d:i=0
   ·subst d;rw [if_pos rfl] at a ⊢;rw [if_neg (by omega)];have e:∀ (P:List TParam) (f:0<P.length),Oq P=[P[0].Name,lf P[0].Rb]++Li (P.drop 1):=by
     intro P f;cases P with
     | nil=>simp at f
     | cons q l=>rfl
    rw [e _ c,List.append_assoc] at a ⊢;exact go b a
   ·rw [if_neg d] at a ⊢;rw [if_pos (by omega)];have e:Li (x.Params.drop i)=[[44]]++([x.Params[i].Name,lf x.Params[i].Rb]++Li (x.Params.drop (i+1))):=by
     rw [List.drop_eq_getElem_cons c,Li,Li,List.map_cons,List.flatten_cons];rfl
    rw [e,List.append_assoc,List.append_assoc] at a ⊢;rw [Ld] at a;have l1:=Yf [[44]] b;rw [Of (by omega),pa,go _ (by omega),di]
  ·rw [if_neg (by omega)];have e:(if i=0 then Oq x.Params else Li (x.Params.drop i))=[]:=by
    by_cases d:i=0
    ·rw [if_pos d];have:x.Params=[]:=List.eq_nil_of_length_eq_zero (by omega);rw [this];rfl
    ·rw [if_neg d,List.drop_eq_nil_of_le (by omega)];rfl
   rw [e,List.nil_append] at a ⊢;rw [Ld] at a;have l1:=Yf [[41]] b;rw [Of (by omega),pa,h _ (by omega),di]
theorem YE {fu:Nat}(z:200≤fu){x:sb}(c:ik x){b:pb}(a:b.length+lw (Ph x)≤4294967296):ur fu b x=some (Mc b (Ph x)):=by
 have e:∀ b:pb,x.Kind≠1→b.length+lw (bf (Zd 39) x.Body)≤4294967296→Vp fu x b=some (Mc b (bf (Zd 39) x.Body)):=by
  intro b f a;obtain ⟨i,j⟩:=c.oe f;obtain ⟨n,rfl⟩:∃ m,fu=m+1:=⟨fu - 1,by omega⟩;rw [Vp];show ((Xi (nn n) b x.Body).bind _)=_;rw [ly (self:=nn n) (g:=Zd 39) (fun y k b a=>sC 39 n y b (j y k) (by omega) a) i a,pa]
 have k1:=c.k1;have Oh:=c.Oh;rw [ur];unfold Ph at a ⊢;by_cases d:x.Kind=1
 ·rw [if_pos d] at a ⊢;obtain ⟨ua,sa⟩:=c.vg d;rw [if_pos d,xt (c.ty (by omega)).1,pa,Py ⟨by omega,by omega⟩,pa,Of a,pa,Ps]
 rw [if_neg d] at a ⊢;rw [if_neg d];by_cases c4:x.Kind=4
 ·rw [if_pos c4] at a ⊢;rw [show [116,97,115,107]::x.Name::bf (Zd 39) x.Body=[[116,97,115,107],x.Name]++bf (Zd 39) x.Body from rfl,Ld] at a;have l1:=Yf [[116,97,115,107],x.Name] b;rw [if_pos c4,Of (by omega),pa,e _ d (by omega),di];rfl
 rw [if_neg c4] at a ⊢;rw [if_neg c4];obtain ⟨o,p⟩:=c.Xd (by omega);have Gz:∀ b:pb,b.length+lw ([lf x.Rb]++bf (Zd 39) x.Body)≤4294967296→km fu x b=some (Mc b ([lf x.Rb]++bf (Zd 39) x.Body)):=by
  intro b a;rw [Ld] at a;have l1:=Yf [lf x.Rb] b;rw [km,xt (c.ty c4).1,pa,Of (by omega),pa,e _ d (by omega),di]
 have r:∀ (h:pb) (R:List pb),h::x.Name::(tl x.Params++R)=[h,x.Name,[40]]++(Oq x.Params++([[41]]++R)):=by
  intro h R;cases x.Params with
  | nil=>rfl
  | cons q l=>simp [tl,Oq]
 have fin:∀ (h:pb) (R:List pb),(∀ b:pb,b.length+lw R≤4294967296→(if x.Kind=3 then
    (tm x.Bd).bind fun s =>
    (td b [[116,97,107,101,115],s,[121,105,101,108,100,115]]).bind fun t =>
    km fu x t
   else
    km fu x b)=some (Mc b R))→b.length+lw (h::x.Name::(tl x.Params++R))≤4294967296→((td b [h,x.Name,[40]]).bind fun u=>Xq fu x u)=some (Mc b (h::x.Name::(tl x.Params++R))):=by
  intro h R v a;rw [r] at a ⊢;rw [Ld] at a;have l1:=Yf [h,x.Name,[40]] b;have:=BB (fu:=fu) o (fun q w=>(p q w).2.1) R v (x.Params.length+1) 0 (Mc b [h,x.Name,[40]]) (by omega) (by omega) (by rw [if_pos rfl];omega);rw [Of (by omega),pa,Xq];show Al fu x (x.Params.length+1) ((0:Nat):Int) _=_;rw [this,if_pos rfl,di]
 by_cases c2:x.Kind=2
 ·rw [if_pos c2] at a ⊢;rw [show ((Ud (qc (qc ([]:List (Int×List UInt8)) 2 [102,110]) 3 [103,101,110]) x.Kind).getD [])=[102,110] by rw [c2];rfl];refine fin _ _ (fun b a=>?_) a;rw [if_neg (by omega)];exact Gz b a
 ·rw [if_neg c2] at a ⊢;have c3:x.Kind=3:=by omega
  rw [show ((Ud (qc (qc ([]:List (Int×List UInt8)) 2 [102,110]) 3 [103,101,110]) x.Kind).getD [])=[103,101,110] by rw [c3];rfl];refine fin _ _ (fun b a=>?_) a;rw [if_pos c3,xt (c.Dn c3).1,pa];rw [show [116,97,107,101,115]::lf x.Bd::[121,105,101,108,100,115]::lf x.Rb::bf (Zd 39) x.Body=[[116,97,107,101,115],lf x.Bd,[121,105,101,108,100,115]]++([lf x.Rb]++bf (Zd 39) x.Body) from rfl] at a ⊢;rw [Ld] at a;have l1:=Yf [[116,97,107,101,115],lf x.Bd,[121,105,101,108,100,115]] b;rw [Of (by omega),pa,Gz _ (by omega),di]
end Go.Y
namespace Go.Y
open Go.Sb Go.ec
theorem Un {w:pb}(h:kg w):w.length≤12:=by
 have h:=h 20 (Nat.le_refl _);rw [De] at h;have bad:Si 20 w true≠some true:=fun h=>by cases h
 split at h
 ·exact absurd h bad
 ·split at h
  ·exact absurd h bad
  ·omega
theorem sD (k:Int):(Rf k).length≤3:=by
 unfold Rf;have d:∀ (c:Prop) [Decidable c] (a b:pb),a.length≤3→b.length≤3→(if c then a else b).length≤3:=by
  intro c _ a b e f;split<;>assumption
 repeat' (first | (refine d _ _ _ (by decide) ?_) | decide)
theorem Hx {N:Int}(a:0≤N) (b:N≤999999999999999):(Lib.itoa N).length≤15:=by
 rw [Pu a];exact Zu 14 _ (by omega)
theorem jq {α:Type}(f:α→List pb) (g:α→Nat) (c:Nat):∀ (l:List α),(∀ y ∈ l,lw (f y)≤100*g y+c)→lw (l.map f).flatten≤100*(l.map g).sum+c*l.length
 | [],_=>by simp [lw]
 | y::l,h=>by
  rw [List.map_cons,List.flatten_cons,Ld,List.map_cons,List.sum_cons,List.length_cons];have b:=h y (List.mem_cons_self ..);have d:=jq f g c l fun z a=>h z (List.mem_cons_of_mem _ a);rw [Nat.mul_add,Nat.mul_add];omega
theorem uG {f:wa→List pb}{g:wa→Nat}{l:List wa}(h:∀ y ∈ l,lw (f y)≤100*g y) (b:l.length≤6):lw (wg f l)≤100*(l.map g).sum+16:=by
 have c:=jq (fun x=>[44]::f x) g 2 l fun y a=>by
  have:=h y a;show lw ([44]::f y)≤_;rw [lw];simp;omega
 have e:lw (wg f l)≤4+lw (l.map fun x=>[44]::f x).flatten:=by
  cases l with
  | nil=>simp [wg,lw]
  | cons x l =>
   rw [wg,lw,Ld,Ld,List.map_cons,List.flatten_cons,Ld,lw,Eh];simp [lw];omega
 omega
theorem vG:∀ (k oc:Nat) (x:wa),oo k x→lw (Ec k oc x)≤100*Jk k x:=by
 intro k
 induction k with
 | zero=>intro oc x h; exact h.elim
 | succ k b =>
  intro oc x j;obtain ⟨o,p,m,i,-,d,e⟩:=j;have q:=uG (f:=Ec k 1) (g:=Jk k) (l:=x.Kids) (fun y n=>b 1 y (e y n)) m.le;have key:lw (Tf (Ec k) x)≤100*(x.Kids.map (Jk k)).sum+60:=by
   have r:=sD x.Kind;unfold Tf;split
   ·rename_i c;have:=Hx (i c).1 (i c).2;simp [lw];omega
   split
   ·rw [lw,lw];split<;>simp<;>omega
   split
   ·rename_i c;have:=Un (d (.inl c));simp [lw];omega
   split
   ·cases h:x.Kids with
    | nil=>simp [lw]; omega
    | cons a t =>
     have:=b 6 a (e a (by simp [h]));simp [lw];omega
   split
   ·cases h:x.Kids with
    | nil=>simp [lw]
    | cons a t =>
     cases t with
     | nil=>simp [lw]
     | cons c t =>
      have ea:=b (if own x.Kind=3 then 4 else own x.Kind) a (e a (by simp [h]));have e2:=b (own x.Kind+1) c (e c (by simp [h]));simp only [Ld,lw,List.map_cons,List.sum_cons];omega
   split
   ·rename_i c;have:=Un (d (.inr (.inr (.inl c))));rw [lw];omega
   split
   ·rename_i c;have:=Un (d (.inr (.inl c)));simp [lw];omega
   split
   ·simp [lw];omega
   split
   ·rename_i c;have:=Un (d (.inr (.inr (.inr c))));simp [lw];omega
   split
   ·simp [lw];omega
   ·simp [lw];omega
  rw [Ec,Jk];split
  ·rw [lw,Ld];simp [lw];omega
  ·omega
theorem wG:∀ (k:Nat) (x:ib),Cj k x→lw (Zd k x)≤100*Qi k x:=by
 intro k
 induction k with
 | zero=>intro x h; exact h.elim
 | succ k i =>
  intro x j;obtain ⟨r,s,m,n,f,o⟩:=j;have a:∀ l:List ib,(∀ y ∈ l,Cj k y)→lw (bf (Zd k) l)≤100*(l.map (Qi k)).sum+4:=by
   intro l p;have:=jq (Zd k) (Qi k) 0 l fun y q=>i y (p y q);rw [bf,lw,Ld];simp [lw];omega
  have g:x.Kind≠6→lw (Ec k 1 x.X)≤100*Jk k x.X:=fun h=>vG k 1 x.X (m h);have b:x.Kind=1∨x.Kind=2∨x.Kind=7→x.Name.length≤12:=fun h=>Un (n h);rw [Zd,Qi];by_cases c:x.Kind=6
  ·rw [if_neg (by omega),if_neg (by omega),if_neg (by omega),if_neg (by omega),if_neg (by omega),if_pos c];simp [lw];omega
  have g:=g c;simp only [if_neg c];by_cases c3:x.Kind=3
  ·have ya:=a x.Body (f (.inl c3)).2;have t:=a x.Nc (o c3).2;rw [if_pos c3,if_pos (show x.Kind=3∨x.Kind=4 from .inl c3),if_pos c3,lw,Ld,Ld];split
   ·simp [lw];omega
   ·simp [lw];omega
  rw [if_neg c3];by_cases c4:x.Kind=4
  ·have ya:=a x.Body (f (.inr c4)).2;rw [if_pos c4,if_pos (show x.Kind=3∨x.Kind=4 from .inr c4),if_neg c3,lw,Ld];simp;omega
  rw [if_neg c4,if_neg (show ¬ (x.Kind=3∨x.Kind=4) by omega),if_neg c3];by_cases d:x.Kind=1
  ·have:=b (.inl d);rw [if_pos d];simp only [lw,Ld,List.length_cons,List.length_nil];omega
  rw [if_neg d];by_cases c2:x.Kind=2
  ·have:=b (.inr (.inl c2));rw [if_pos c2];simp only [lw,Ld,List.length_cons,List.length_nil];omega
  rw [if_neg c2];by_cases e:x.Kind=7
  ·have:=b (.inr (.inr e));rw [if_pos e];simp only [lw,Ld,List.length_cons,List.length_nil];omega
  rw [if_neg e,lw,Ld];split
  ·simp only [lw,List.length_cons,List.length_nil];omega
  split
  ·simp only [lw,List.length_cons,List.length_nil];omega
  ·simp only [lw,List.length_cons,List.length_nil];omega
theorem yt {t:zc}(h:Dj t):(lf t).length≤12:=by
 obtain ⟨⟨b,c⟩,a⟩:=h;rw [lf];split
 ·decide
 ·split
  ·decide
  ·exact Un (a (by omega))
theorem xG {x:sb}(c:ik x):lw (Ph x)≤100*Um x+400:=by
 have o:=Un c.eg;have k1:=c.k1;have Oh:=c.Oh;have g:x.Kind≠1→lw (bf (Zd 39) x.Body)≤100*(x.Body.map (Qi 39)).sum+4:=by
  intro f;have:=jq (Zd 39) (Qi 39) 0 x.Body fun y k=>wG 39 y ((c.oe f).2 y k);rw [bf,lw,Ld];simp [lw];omega
 have h:x.Kind=2∨x.Kind=3→lw (tl x.Params)≤4+28*6:=by
  intro f;obtain ⟨p,i⟩:=c.Xd f;have m:=jq (fun q:TParam=>[44]::q.Name::[lf q.Rb]) (fun _=>0) 28 x.Params fun q j=>by
   have a:=Un (i q j).1;have b:=yt (i q j).2;simp [lw];omega
  have ta:(x.Params.map fun _=>0).sum=0:=by
   generalize x.Params=P
   induction P with
   | nil=>rfl
   | cons q P n=>simpa using n
  rw [ta] at m;have e:lw (tl x.Params)≤4+lw (x.Params.map fun q:TParam=>[44]::q.Name::[lf q.Rb]).flatten:=by
   cases x.Params with
   | nil=>simp [tl,lw]
   | cons q l =>
    simp only [tl,Li,lw,Ld,List.map_cons,List.flatten_cons,List.length_cons,List.length_nil];omega
  omega
 unfold Ph;rw [Um];by_cases d:x.Kind=1
 ·have a:=yt (c.ty (by omega));obtain ⟨ua,sa⟩:=c.vg d;have b:=Hx (N:=x.re) (by omega) (by omega);rw [if_pos d];simp only [lw,List.length_cons,List.length_nil];omega
 have g:=g d;rw [if_neg d,if_pos d];by_cases c4:x.Kind=4
 ·rw [if_pos c4];simp only [lw,List.length_cons,List.length_nil];omega
 have h:=h (by omega);have a:=yt (c.ty c4);rw [if_neg c4];by_cases c2:x.Kind=2
 ·rw [if_pos c2];simp only [lw,Ld,List.length_cons,List.length_nil];omega
 ·have b:=yt (c.Dn (by omega));rw [if_neg c2];simp only [lw,Ld,List.length_cons,List.length_nil];omega
theorem yG {l:List sb}(c:l.length≤30) (a:∀ x ∈ l,ik x) (d:(l.map Um).sum≤2000):lw (Qh l)≤300000:=by
 have:=jq Ph Um 400 l fun x b=>xG (a x b);rw [Qh];omega
theorem KA {fu:Nat}(d:200≤fu){l:List sb}(k:l.length≤30) (e:∀ x ∈ l,ik x):∀ (m i:Nat) (b:pb),i≤l.length→l.length<m+i→b.length+lw (((l.drop i).map Ph).flatten)≤4294967296 →
  uo fu l m i b=some (if 6000<(Mc b ((l.drop i).map Ph).flatten).length then ([],⟨4,0⟩) else (Mc b ((l.drop i).map Ph).flatten,⟨0,0⟩)):=by
 intro m
 induction m with
 | zero=>intro i b f g; omega
 | succ m j =>
  intro i b f g a;rw [uo];by_cases c:i<l.length
  ·rw [if_pos (by omega),Te,List.getElem?_eq_getElem c,pa];rw [List.drop_eq_getElem_cons c,List.map_cons,List.flatten_cons] at a ⊢;rw [Ld] at a;have l1:=Yf (Ph l[i]) b;rw [YE d (e _ (List.getElem_mem c)) (by omega),pa,Qd (by omega),pa,show ((i:Int)+1)=((i+1:Nat):Int) from rfl,j (i+1) _ (by omega) (by omega) (by omega),di]
  ·rw [if_neg (by omega),List.drop_eq_nil_of_le (by omega),Qo,pa];simp only [List.map_nil,List.flatten_nil,Mc];by_cases h:6000<b.length
   ·rw [if_pos (by omega),if_pos h]
   ·rw [if_neg (by omega),if_neg h]
theorem tD {l:List sb}:∀ w t,Qh l=w::t→w≠[]:=by
 intro w t h;cases l with
 | nil=>cases h
 | cons x l =>
  rw [Qh,List.map_cons,List.flatten_cons] at h;unfold Ph at h;split at h
  ·simp only [List.cons_append,List.cons.injEq] at h;rw [← h.1];simp
  split at h
  ·simp only [List.cons_append,List.cons.injEq] at h;rw [← h.1];simp
  split at h
  ·simp only [List.cons_append,List.cons.injEq] at h;rw [← h.1];simp
  ·simp only [List.cons_append,List.cons.injEq] at h;rw [← h.1];simp
theorem my {fu:Nat}(d:300≤fu) (l:List sb):∃ f,lh fu l=some f∧((f.Wd≠0∧hn fu l=some ([],f))∨(f.Wd=0∧Vr l∧hn fu l=some (if 6000<(Uf (Qh l)).length then ([],⟨4,0⟩) else (Uf (Qh l),⟨0,0⟩)))):=by
 obtain ⟨f,a,g⟩:=Uq fu (by omega) l;refine ⟨f,a,?_⟩;by_cases z:f.Wd=0
 ·obtain ⟨-,ok⟩:=g z;obtain ⟨b,c⟩:=Oy d a z;refine .inr ⟨z,ok,?_⟩;have h:=yG b c ok.n;have:=KA (fu:=fu) (by omega) b c (l.length+1) 0 [] (by omega) (by omega) (by rw [List.drop_zero];unfold Qh at h;simp;omega);rw [hn,a,pa,if_neg (by simpa using z)];show uo fu l (l.length+1) ((0:Nat):Int) []=_;rw [this,List.drop_zero];have e:Mc [] (l.map Ph).flatten=Uf (Qh l):=PF tD;rw [e]
 ·exact .inl ⟨z,by rw [hn,a,pa,if_pos z]⟩
end Go.Y
namespace Go.Y
open Go.Sb Go.ec
def cw:Nat→wa→Prop
 | 0,_=>True
 | k+1,x=>((x.Kind=1∨x.Kind=2)∨x.N=0)∧((x.Kind=3∨x.Kind=20∨x.Kind=19∨x.Kind=22)∨x.Name=[])∧∀ y ∈ x.Kids,cw k y
def Vd (x:wa):Prop:=∀ k,cw k x
theorem Vd.mk {a b:Int}{s:List UInt8}{c:List wa}(d:(a=1∨a=2)∨b=0) (e:(a=3∨a=20∨a=19∨a=22)∨s=[]) (f:∀ y ∈ c,Vd y):Vd ⟨a,b,s,c⟩:=fun k=>by
 cases k with
 | zero=>trivial
 | succ k=>exact ⟨d,e,fun y g=>f y g k⟩
theorem map_id' {α:Type}{f:α→α}{l:List α}(h:∀ y ∈ l,f y=y):l.map f=l:=by
 induction l with
 | nil=>rfl
 | cons a l b=>rw [List.map_cons,h a (by simp),b fun y c=>h y (by simp [c])]
theorem Ix:∀ (k:Nat) (x:wa),cw k x→de k x=x
 | 0,x,_=>rfl
 | k+1,x,h=>by
  obtain ⟨d,e,f⟩:=h;obtain ⟨a,b,s,i⟩:=x;simp only [de];have ea:(if a=1∨a=2 then b else 0)=b:=by
   by_cases c:a=1∨a=2
   ·rw [if_pos c]
   ·rw [if_neg c];exact (d.resolve_left c).symm
  have e2:(if a=3∨a=20∨a=19∨a=22 then s else [])=s:=by
   by_cases c:a=3∨a=20∨a=19∨a=22
   ·rw [if_pos c]
   ·rw [if_neg c];exact (e.resolve_left c).symm
  rw [ea,e2,map_id' fun y g=>Ix k y (f y g)]
structure MG (P:zg):Prop where
 expr:∀ l e d,PP Vd (P.xd l e d)
 level:∀ l e d k,PP Vd (P.sf l e d k)
 unary:∀ l e d,PP Vd (P.Me l e d)
 Sh:∀ l e d,PP Vd (P.fg l e d)
 args:∀ l e d,PP (fun b=>∀ y ∈ b,Vd y) (P.Wf l e d)
 fixed:∀ l e d k c,PP Vd (P.tf l e d k c)
theorem ft {α:Type}{vf:α→Prop}{acc z:List α}{x:α}(a:∀ y ∈ acc,vf y) (b:vf x) (c:app acc [x]=some z):∀ y ∈ z,vf y:=by
 obtain rfl:=kq c;intro y d;rcases List.mem_append.1 d with h | h
 ·exact a y h
 ·obtain rfl:=List.mem_singleton.1 h;exact b
theorem ZE:∀ n,MG (Kc n):=by
 intro n
 induction n with
 | zero=>exact ⟨fun _ _ _=>PP.none,fun _ _ _ _=>PP.none,fun _ _ _=>PP.none,fun _ _ _=>PP.none,fun _ _ _=>PP.none,fun _ _ _ _ _=>PP.none⟩
 | succ n g =>
  have no:∀ y ∈ ([]:List wa),Vd y:=fun y o=>(List.not_mem_nil o).elim;refine ⟨fun l e d=>?_,fun l e d k=>?_,fun l e d=>?_,fun l e d=>?_,fun l e d=>?_,fun l e d k c=>?_⟩
  ·show PP Vd (xd (Kc n) l e d);unfold xd;exact PP.ag fun _=>PP.bind (g.level _ _ _ _) fun x f=>PP.Cb fun _ _=>PP.pure f
  ·show PP Vd (sf n (Kc n) l e d k);have key:∀ (v:List Xe) (q:Nat) (l:Nb) (e d a b:Int) (s:List UInt8) (m:List wa),Vd ⟨a,b,s,m⟩→PP Vd (ti (Kc n) k v q l e d a b s m):=by
    intro v q
    induction q with
    | zero=>intros; exact PP.none
    | succ q p =>
     intro l e d a b s m h;unfold ti;have so:∀ l e d a b s m,Vd ⟨a,b,s,m⟩→PP Vd (Vi l e d a b s m):=fun l e d a b s m h=>PP.pure h;refine PP.ite (PP.Cb fun _ _=>PP.Cb fun _ _=>PP.ite (so _ _ _ _ _ _ _ h) (PP.Cb fun _ _=>PP.Cb fun _ _=>PP.bind (g.level _ _ _ _) fun x f=>?_)) (so _ _ _ _ _ _ _ h);unfold an;have w:∀ y ∈ [wa.mk a b s m,x.1],Vd y:=fun y o=>by
      rcases List.mem_cons.1 o with rfl | o
      ·exact h
      ·obtain rfl:=List.mem_singleton.1 o;exact f
     exact PP.Cb fun _ _=>PP.ite (so _ _ _ _ _ _ _ (Vd.mk (.inr rfl) (.inr rfl) w)) (p _ _ _ _ _ _ _ (Vd.mk (.inr rfl) (.inr rfl) w))
   unfold sf;refine PP.Cb fun _ _=>PP.ite (PP.bind (g.unary _ _ _) fun x f=>PP.pure f) (PP.Cb fun _ _=>PP.bind (g.level _ _ _ _) fun x f=>key _ _ _ _ _ _ _ _ _ ?_);have:Vd x.1:=f;cases A:x.1;rw [A] at this;exact this
  ·show PP Vd (Me (Kc n) l e d);unfold Me;have u:∀ (k:Int) (x:wa),Vd x→Vd ⟨k,0,[],[x]⟩:=fun k x f=>Vd.mk (.inr rfl) (.inr rfl) fun y o=>by obtain rfl:=List.mem_singleton.1 o;exact f
   refine PP.Cb fun _ _=>PP.ite (PP.ag fun _=>PP.bind (g.unary _ _ _) fun x f=>PP.Cb fun _ _=>PP.pure (u _ _ f)) (PP.Cb fun _ _=>PP.ite (PP.ag fun _=>PP.bind (g.unary _ _ _) fun x f=>PP.Cb fun _ _=>PP.pure (u _ _ f)) (PP.bind (g.Sh _ _ _) fun x f=>PP.pure f))
  ·show PP Vd (fg n (Kc n) l e d);have j:∀ b,PP Vd (jj n (Kc n) l e d b):=fun b=>by
    unfold jj;refine PP.ite (PP.any fun _=>PP.pure (Vd.mk (.inl (.inl rfl)) (.inr rfl) no)) (PP.Cb fun _ _=>PP.ite (PP.pure (Vd.mk (.inl (.inr rfl)) (.inr rfl) no)) (PP.Cb fun _ _=>PP.ite (PP.pure (Vd.mk (.inl (.inr rfl)) (.inr rfl) no)) (PP.Cb fun _ _=>PP.ite ?_ (PP.Cb fun _ _=>PP.ite ?_ (PP.Cb fun _ _=>PP.ite ?_ (PP.Cb fun _ _=>PP.ite ?_ (PP.Cb fun _ _=>PP.ite ?_ (PP.Cb fun _ _=>PP.ite ?_ ?_))))))))
    ·exact PP.bind (g.expr _ _ _) fun x f=>PP.ag fun _=>PP.pure f
    ·exact PP.ag fun _=>PP.any fun _=>PP.ag fun _=>PP.pure (Vd.mk (.inr rfl) (.inl (.inr (.inl rfl))) no)
    ·exact PP.bind (g.fixed _ _ _ _ _) fun x f=>PP.pure f
    ·exact PP.bind (g.fixed _ _ _ _ _) fun x f=>PP.pure f
    ·exact PP.bind (g.fixed _ _ _ _ _) fun x f=>PP.pure f
    ·exact PP.any fun _=>PP.bind (g.args _ _ _) fun x f=>PP.pure (Vd.mk (.inr rfl) (.inl (.inr (.inr (.inr rfl)))) f)
    ·exact PP.any fun _=>PP.Cb fun _ _=>PP.ite (PP.bind (g.args _ _ _) fun x f=>PP.pure (Vd.mk (.inr rfl) (.inl (.inr (.inr (.inl rfl)))) f)) (PP.pure (Vd.mk (.inr rfl) (.inl (.inl rfl)) no))
   unfold fg;exact PP.ite (PP.Cb fun _ _=>j _) (j _)
  ·show PP _ (Wf n (Kc n) l e d);have key:∀ (q:Nat) (l:Nb) (e d:Int) (acc:List wa),(∀ y ∈ acc,Vd y)→PP (fun b=>∀ y ∈ b,Vd y) (Wg (Kc n) q l e d acc):=by
    intro q
    induction q with
    | zero=>intros; exact PP.none
    | succ q p =>
     intro l e d acc r;have j:∀ l e d,PP (fun b=>∀ y ∈ b,Vd y) (pj (Kc n) acc (Wg (Kc n) q) l e d):=fun l e d=>by
      unfold pj;exact PP.ite (PP.Cb fun _ _=>PP.err) (PP.bind (g.expr _ _ _) fun x f=>PP.Cb fun z t=>p _ _ _ _ (ft r f t))
     unfold Wg;exact PP.Cb fun _ _=>PP.ite (PP.pure r) (PP.ite (PP.ag fun _=>j _ _ _) (j _ _ _))
   unfold Wf;exact PP.ag fun _=>key _ _ _ _ _ no
  ·show PP Vd (tf (Kc n) l e d k c);have key:∀ (q:Nat) (i:Int) (l:Nb) (e d:Int) (acc:List wa),(∀ y ∈ acc,Vd y)→PP Vd (Cg (Kc n) k c q i l e d acc):=by
    intro q
    induction q with
    | zero=>intros; exact PP.none
    | succ q p =>
     intro i l e d acc r;have j:∀ l e d,PP Vd (oj (Kc n) i acc (Cg (Kc n) k c q) l e d):=fun l e d=>by
      unfold oj;refine PP.bind (g.expr _ _ _) fun x f=>PP.Cb fun z t=>?_;unfold bn;exact PP.Cb fun _ _=>p _ _ _ _ _ (ft r f t)
     unfold Cg;exact PP.ite (PP.ite (PP.ag fun _=>j _ _ _) (j _ _ _)) (PP.ag fun _=>PP.pure (Vd.mk (.inr rfl) (.inr rfl) r))
   unfold tf;exact PP.ag fun _=>key _ _ _ _ _ _ no
def du:Nat→ib→Prop
 | 0,_=>True
 | k+1,s=>((s.Kind=1∨s.Kind=2∨s.Kind=7)∨s.Name=[])∧Vd s.X∧(∀ y ∈ s.Body,du k y)∧∀ y ∈ s.Nc,du k y
def Ei (s:ib):Prop:=∀ k,du k s
theorem Ei.mk {a:Int}{s:List UInt8}{x:wa}{b c:List ib}(e:(a=1∨a=2∨a=7)∨s=[]) (f:Vd x) (g:∀ y ∈ b,Ei y) (h:∀ y ∈ c,Ei y):Ei ⟨a,s,x,b,c⟩:=fun k=>by
 cases k with
 | zero=>trivial
 | succ k=>exact ⟨e,f,fun y d=>g y d k,fun y d=>h y d k⟩
theorem Qu:∀ (k:Nat) (s:ib),ei k s→du k s→Cd k s=s
 | 0,s,_,_=>rfl
 | k+1,s,h,g=>by
  obtain ⟨e,f,i,j,l⟩:=h;obtain ⟨g1,g2,g3,g4⟩:=g;obtain ⟨a,n,x,b,c⟩:=s;simp only [Cd];have ea:(if a=1∨a=2∨a=7 then n else [])=n:=by
   by_cases q:a=1∨a=2∨a=7
   ·rw [if_pos q]
   ·rw [if_neg q];exact (g1.resolve_left q).symm
  have e2:(if a≠6 then de k x else wa.mk 0 0 [] [])=x:=by
   by_cases q:a≠6
   ·rw [if_pos q];exact Ix k x (g2 k)
   ·rw [if_neg q];exact (e (Decidable.not_not.1 q)).symm
  have m:(if a=3∨a=4 then b.map (Cd k) else [])=b:=by
   by_cases q:a=3∨a=4
   ·rw [if_pos q];exact map_id' fun y d=>Qu k y (j y d) (g3 y d)
   ·rw [if_neg q];exact (f (fun z=>q (.inl z)) fun z=>q (.inr z)).symm
  have o:(if a=3 then c.map (Cd k) else [])=c:=by
   by_cases q:a=3
   ·rw [if_pos q];exact map_id' fun y d=>Qu k y (l y d) (g4 y d)
   ·rw [if_neg q];exact (i q).symm
  rw [ea,e2,m,o]
structure NG (P:dj):Prop where
 body:∀ l e d,PP (fun x=>∀ y ∈ x,Ei y) (P.Nd l e d)
 stat:∀ l e d,PP Ei (P.Xf l e d)
theorem Bn (x:wa) (h:Vd x):Vd ⟨x.Kind,x.N,x.Name,x.Kids⟩:=by cases x;exact h
theorem uD:∀ n,NG (Kf n):=by
 intro n
 induction n with
 | zero=>exact ⟨fun _ _ _=>PP.none,fun _ _ _=>PP.none⟩
 | succ n f =>
  have E:=ZE n;have no:∀ y ∈ ([]:List ib),Ei y:=fun y h=>(List.not_mem_nil h).elim;refine ⟨fun l e d=>?_,fun l e d=>?_⟩
  ·show PP _ (Nd n (Kf n) l e d);have key:∀ (q:Nat) (l:Nb) (e d:Int) (acc:List ib),(∀ y ∈ acc,Ei y)→PP (fun b=>∀ y ∈ b,Ei y) (Hh (Kf n) q l e d acc):=by
    intro q
    induction q with
    | zero=>intros; exact PP.none
    | succ q m =>
     intro l e d acc k;unfold Hh;exact PP.Cb fun r _=>PP.ite (PP.Cb fun r _=>PP.pure k) (PP.ite (PP.Cb fun _ _=>PP.err) (PP.bind (f.stat _ _ _) fun x a=>PP.Cb fun z o=>m _ _ _ _ (ft k a o)))
   unfold Nd;exact PP.ag fun _=>PP.ag fun _=>key _ _ _ _ _ no
  ·show PP Ei (Xf n (Kf n) l e d);have j:∀ l e d (bd:Int) s b c t i,((bd=1∨bd=2∨bd=7)∨s=[])→Vd (wa.mk b c t i)→PP Ei (mh l e d bd s b c t i):=fun l e d bd s b c t i p u=>by
    unfold mh;exact PP.ag fun _=>PP.pure (Ei.mk p u no no)
   unfold Xf;refine PP.Cb fun _ _=>PP.ite ?_ (PP.Cb fun _ _=>PP.ite ?_ (PP.Cb fun _ _=>PP.ite ?_ (PP.Cb fun _ _=>PP.ite ?_ (PP.Cb fun _ _=>PP.ite ?_ (PP.Cb fun _ _=>PP.ite ?_ (PP.Cb fun _ _=>PP.ite ?_ (PP.Cb fun _ _=>PP.ite ?_ ?_)))))))
   ·refine PP.bind (E.expr _ _ _) fun x a=>PP.bind (f.body _ _ _) fun b g=>PP.Cb fun _ _=>PP.ite (PP.bind (f.body _ _ _) fun c v=>?_) ?_
    ·exact PP.pure (Ei.mk (.inr rfl) (Bn _ a) g v)
    ·exact PP.pure (Ei.mk (.inr rfl) (Bn _ a) g no)
   ·exact PP.bind (E.expr _ _ _) fun x a=>PP.bind (f.body _ _ _) fun b g=>PP.pure (Ei.mk (.inr rfl) (Bn _ a) g no)
   ·exact PP.any fun _=>PP.ag fun _=>PP.bind (E.expr _ _ _) fun x a=>j _ _ _ _ _ _ _ _ _ (.inl (.inl rfl)) (Bn _ a)
   ·exact PP.bind (E.expr _ _ _) fun x a=>j _ _ _ _ _ _ _ _ _ (.inr rfl) (Bn _ a)
   ·exact j _ _ _ _ _ _ _ _ _ (.inr rfl) (Vd.mk (.inr rfl) (.inr rfl) fun y h=>(List.not_mem_nil h).elim)
   ·exact PP.any fun _=>PP.bind (E.expr _ _ _) fun x a=>j _ _ _ _ _ _ _ _ _ (.inl (.inr (.inr rfl))) (Bn _ a)
   ·exact PP.bind (E.expr _ _ _) fun x a=>j _ _ _ _ _ _ _ _ _ (.inr rfl) (Bn _ a)
   ·exact PP.bind (E.expr _ _ _) fun x a=>j _ _ _ _ _ _ _ _ _ (.inr rfl) (Bn _ a)
   ·exact PP.any fun _=>PP.ag fun _=>PP.bind (E.expr _ _ _) fun x a=>j _ _ _ _ _ _ _ _ _ (.inl (.inr (.inl rfl))) (Bn _ a)
structure eu (x:sb):Prop where
 ty:x.Kind≠4→ae x.Rb=x.Rb
 t4:x.Kind=4→x.Rb=⟨0,[]⟩
 Dn:x.Kind=3→ae x.Bd=x.Bd
 t3:x.Kind≠3→x.Bd=⟨0,[]⟩
 vg:x.Kind≠1→x.re=0
 Xd:∀ q ∈ x.Params,ae q.Rb=q.Rb
 bd:x.Kind=1∨x.Kind=2∨x.Kind=3∨x.Kind=4
 oe:∀ y ∈ x.Body,Ei y
theorem Sr (t:zc) (h:ae t=t):ae ⟨t.Kind,t.Qc⟩=⟨t.Kind,t.Qc⟩:=by cases t;exact h
theorem tC {k:Nat}{x:sb}(h:Vm k x) (g:eu x):Dd k x=x:=by
 obtain ⟨g1,g2,g3,g4,g5,g6,g7,g8⟩:=g;obtain ⟨d,e,f⟩:=h;obtain ⟨a,n,t,Dn,cap,Xd,b⟩:=x;simp only [Dd];have ea:(if a≠4 then ae t else zc.mk 0 [])=t:=by
  by_cases q:a≠4
  ·rw [if_pos q];exact g1 q
  ·rw [if_neg q];exact (g2 (Decidable.not_not.1 q)).symm
 have e2:(if a=3 then ae Dn else zc.mk 0 [])=Dn:=by
  by_cases q:a=3
  ·rw [if_pos q];exact g3 q
  ·rw [if_neg q];exact (g4 q).symm
 have i:(if a=1 then cap else 0)=cap:=by
  by_cases q:a=1
  ·rw [if_pos q]
  ·rw [if_neg q];exact (g5 q).symm
 have j:(if a=2∨a=3 then Xd.map (fun q=>TParam.mk q.Name (ae q.Rb)) else [])=Xd:=by
  by_cases q:a=2∨a=3
  ·rw [if_pos q];exact map_id' fun y c=>by
    have:=g6 y c;rw [this]
  ·rw [if_neg q];have g9:a=1∨a=2∨a=3∨a=4:=g7;exact (f (show a=1∨a=4 by omega)).symm
 have l:(if a=1 then [] else b.map (Cd k))=b:=by
  by_cases q:a=1
  ·rw [if_pos q];exact (e q).symm
  ·rw [if_neg q];exact map_id' fun y c=>Qu k y (d y c) (g8 y c k)
 rw [ea,e2,i,j,l]
section
variable {fu:Nat}
theorem yr (l:Nb) (e d:Int):PP (fun t=>ae t=t) (mi fu l e d):=by
 unfold mi;exact PP.Cb fun _ _=>PP.ite (PP.pure rfl) (PP.Cb fun _ _=>PP.ite (PP.pure rfl) (PP.any fun _=>PP.pure rfl))
theorem fx (l:Nb) (e d:Int):PP (fun Xd=>∀ q ∈ Xd,ae q.Rb=q.Rb) (sj fu l e d):=by
 have key:∀ (n:Nat) (l:Nb) (e d:Int) (acc:List TParam),(∀ q ∈ acc,ae q.Rb=q.Rb)→PP (fun Xd=>∀ q ∈ Xd,ae q.Rb=q.Rb) (Vg fu n l e d acc):=by
  intro n
  induction n with
  | zero=>intros; exact PP.none
  | succ n b =>
   intro l e d acc a;have j:∀ l e d,PP (fun Xd=>∀ q ∈ Xd,ae q.Rb=q.Rb) (mj fu acc (Vg fu n) l e d):=fun l e d=>by
    unfold mj;exact PP.ite (PP.Cb fun _ _=>PP.err) (PP.any fun _=>PP.bind (yr _ _ _) fun t c=>PP.Cb fun z f=>b _ _ _ _ (ft (vf:=fun q:TParam=>ae q.Rb=q.Rb) a (Sr _ c) f))
   unfold Vg;exact PP.Cb fun _ _=>PP.ite (PP.pure a) (PP.ite (PP.ag fun _=>j _ _ _) (j _ _ _))
 unfold sj;exact PP.ag fun _=>key _ _ _ _ _ fun y g=>(List.not_mem_nil g).elim
theorem aF (l:Nb) (e d:Int):PP eu (Bi fu l e d):=by
 have S:=uD fu;have no:∀ y ∈ ([]:List ib),Ei y:=fun y i=>(List.not_mem_nil i).elim;have m:∀ q ∈ ([]:List TParam),ae q.Rb=q.Rb:=fun y i=>(List.not_mem_nil i).elim;have j:∀ a (b:zc×Nb×Int×Int) c z x,ae b.1=b.1→PP eu (wi a b c z x):=fun a b c z x f=>by
  unfold wi;exact PP.ite PP.err (PP.ag fun _=>PP.pure ⟨fun _=>Sr _ f,fun h=>absurd h (by decide:¬ (1:Int)=4),fun h=>absurd h (by decide:¬ (1:Int)=3),fun _=>rfl,fun h=>absurd rfl h,m,.inl rfl,no⟩)
 unfold Bi;refine PP.Cb fun _ _=>PP.Cb fun _ _=>PP.ite ?_ (PP.Cb fun _ _=>PP.ite ?_ (PP.Cb fun _ _=>PP.ite ?_ (PP.Cb fun _ _=>PP.ite ?_ PP.err)))
 ·exact PP.any fun _=>PP.bind (yr _ _ _) fun t g=>PP.Cb fun _ _=>PP.any fun _=>PP.ite (j _ _ _ _ _ g) (j _ _ _ _ _ g)
 ·exact PP.any fun _=>PP.bind (fx _ _ _) fun Xd k=>PP.bind (yr _ _ _) fun t g=>PP.bind (S.body _ _ _) fun b f=>PP.pure ⟨fun _=>Sr _ g,fun h=>absurd h (by decide:¬ (2:Int)=4),fun h=>absurd h (by decide:¬ (2:Int)=3),fun _=>rfl,fun _=>rfl,k,.inr (.inl rfl),f⟩
 ·exact PP.any fun _=>PP.bind (fx _ _ _) fun Xd k=>PP.ag fun _=>PP.bind (yr _ _ _) fun t g=>PP.ag fun _=>PP.bind (yr _ _ _) fun t2 n=>PP.bind (S.body _ _ _) fun b f=>PP.pure ⟨fun _=>Sr _ n,fun h=>absurd h (by decide:¬ (3:Int)=4),fun _=>Sr _ g,fun h=>absurd rfl h,fun _=>rfl,k,.inr (.inr (.inl rfl)),f⟩
 ·exact PP.any fun _=>PP.bind (S.body _ _ _) fun b f=>PP.pure ⟨fun h=>absurd rfl h,fun _=>rfl,fun h=>absurd h (by decide:¬ (4:Int)=3),fun _=>rfl,fun _=>rfl,m,.inr (.inr (.inr rfl)),f⟩
theorem QF {e:Int}{l:Nb}{ds:List sb}(h:lp fu e l ds):∀ x ∈ ds,eu x:=by
 induction h with
 | nil=>intro x a; exact (List.not_mem_nil a).elim
 | @cons l l1 x ds d a k c =>
  intro y b;rcases List.mem_cons.1 b with rfl | b
  ·exact (aF _ _ _).out _ _ _ _ a
  ·exact c y b
end
end Go.Y
namespace Go.Y
open Go.Sb Go.ec
theorem Tz (k:Nat):Zs (k+60001)=some true:=by kernel_rfl
theorem sz:∀ (k:Nat) (x:wa),Vl k x→Wl k x
 | 0,x,h=>h.elim
 | k+1,x,⟨_,_,a,b⟩=>⟨by have:=a.le; omega,fun y hm=>sz k y (b y hm)⟩
theorem Tv:∀ (k:Nat) (s:ib),Hk k s→ei k s→Xl (k+1) s
 | 0,s,h,_=>h.elim
 | k+1,s,⟨n,o,c,d,e⟩,⟨ya,f,i,j,l⟩=>by
  refine ⟨?_,?_,?_⟩
  ·by_cases h:s.Kind=6
   ·rw [ya h];exact ⟨by simp,fun y a=>(List.not_mem_nil a).elim⟩
   ·exact (sz k _ (c h)).up (by omega)
  ·by_cases h:s.Kind=3∨s.Kind=4
   ·obtain ⟨m,b⟩:=d h;exact ⟨by omega,fun y a=>Tv k y (b y a) (j y a)⟩
   ·rw [f (fun g=>h (.inl g)) fun g=>h (.inr g)];exact ⟨by simp,fun y a=>(List.not_mem_nil a).elim⟩
  ·by_cases h:s.Kind=3
   ·obtain ⟨m,b⟩:=e h;exact ⟨by omega,fun y a=>Tv k y (b y a) (l y a)⟩
   ·rw [i h];exact ⟨by simp,fun y a=>(List.not_mem_nil a).elim⟩
theorem zG {fu:Nat}(e:100≤fu){l:List sb}(h:Vr l) (d:∀ x ∈ l,Vm (fu / 2) x):gp 40 l:=by
 refine ⟨by have:=h.le;omega,fun x c=>?_⟩;have o:=h.ok x c;have b:=d x c;refine ⟨?_,?_,fun y a=>?_⟩
 ·by_cases q:x.Kind=1∨x.Kind=4
  ·rw [b.Gn q];simp
  ·have:=o.k1;have:=o.Oh;have:=(o.Xd (by omega)).1;omega
 ·by_cases q:x.Kind=1
  ·rw [b.ya q];simp
  ·have:=o.Nq q;omega
 ·by_cases q:x.Kind=1
  ·rw [b.ya q] at a;exact (List.not_mem_nil a).elim
  ·exact Tv 39 y (o.oe q y a) (ei.down _ _ _ (by omega) (b.oe y a))
theorem gx {fu:Nat}(n:10000≤fu){s:List UInt8}{m:List sb}{f:yb}(h:tj fu s=some (m,f)) (j:f.Wd=0):mn fu m m=some true∧gp 40 m∧m.map (Dd 40)=m∧∃ r,lh fu m=some r∧r.Wd=0:=by
 obtain ⟨-,c,o,p,d,e⟩:=iD (by omega) h j;obtain ⟨q,g,k⟩:=Uq fu (by omega) m;rw [d] at g;obtain rfl:=Option.some.inj g;have ok:=(k e).2;have a:=IF c;refine ⟨IE (by omega) ok a,zG (by omega) ok a,map_id' fun x i=>?_,_,d,e⟩;have b:=a x i;exact tC ⟨fun y l=>ei.down _ _ _ (by omega) (b.oe y l),b.ya,b.Gn⟩ (QF c x i)
theorem vD {fu:Nat}(k:20000≤fu) (s:List UInt8):Cp fu s=some true:=by
 unfold Cp;obtain ⟨⟨m,f⟩,hm⟩:=CE (fu:=fu) (s:=s) (by omega);rw [hm,Option.bind_some];by_cases a:f.Wd=0
 ·rw [if_neg (fun g=>g a)];obtain ⟨e,i,j,r,b,d⟩:=gx (by omega) hm a;show (lh fu m).bind _=_;rw [b,Option.bind_some,if_neg (fun g=>g d)];obtain ⟨l,ua,sa⟩:=my (fu:=fu) (by omega) m;rw [b] at ua;obtain rfl:=Option.some.inj ua;rcases sa with ⟨z,-⟩ | ⟨z,ok,h⟩
  ·exact absurd d z
  show (hn fu m).bind _=_;rw [h,Option.bind_some];by_cases c:6000<(Uf (Qh m)).length
  ·rw [if_pos c,if_pos (by decide)];rfl
  ·rw [if_neg c,if_neg (by simp)];have rd:=Yx (dx (by omega) i b d (by omega));show (tj fu (Uf (Qh m))).bind _=_;rw [rd,Option.bind_some,if_pos rfl,j];show (mn fu m m).bind _=_;rw [e];rfl
 ·rw [if_pos a]
theorem eA (k:Nat) (l:List sb){s:List UInt8}(b:gp k l):dr (k+60001) l s=some true:=by
 unfold dr;have a:=vD (fu:=k+60001) (by omega) s;rw [Tz,Option.bind_some,if_pos rfl];obtain ⟨f,d,e⟩:=my (fu:=k+60001) (by omega) l;rcases e with ⟨z,h⟩ | ⟨z,ok,h⟩
 ·rw [h,Option.bind_some,if_neg z];exact a
 ·rw [h,Option.bind_some];by_cases c:6000<(Uf (Qh l)).length
  ·rw [if_pos c,if_neg (by decide)];exact a
  ·rw [if_neg c,if_pos rfl];have rd:=Yx (dx (by omega) b d z (by omega));show (tj (k+60001) (Uf (Qh l))).bind _=_;rw [rd,Option.bind_some,if_neg (by simp),JE (k+60001) k l (by omega) b,Option.bind_some];show (mn (k+60001) (l.map (Dd k)) (l.map (Dd k))).bind _=_;rw [(gx (by omega) rd rfl).1,Option.bind_some];unfold Tq;rw [if_neg (by decide)];exact a
end Go.Y
