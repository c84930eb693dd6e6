/- Texts of GraphEnds Pm. -/
import Derived.Test.YtbhncpgjmkcdcaaGreatDoorCPl
import Derived.Test.YtbhncpgjmkcdcaaGreatDoorCMd
import Derived.KernelRfl
set_option linter.unusedSimpArgs false
set_option linter.unusedVariables false
set_option linter.unusedSectionVars false
namespace Go.Y
open Go.Ab Go.jc
variable {m:sb}{Va:kh}{us:List Int}{Sb:List Mc}
section
variable {c:se}{fs:List pb}{f:pb}{ws:List Int}{o:Option Int}{loc st:List Int}{u:Xc}{i:ud}{bc:List Int}{hs:List Bool}{out:List Int}{bx t:Int}
theorem dE {l:List Int}{k:Int}{x:Int}(h:at_ l k=some x):Fl l k=x:=by unfold Fl;rw [h];rfl
theorem rM {l:List Bool}{k:Int}(a:0≤k) (h:ca l k=true):l[k.toNat]?=some true:=by
 unfold ca at h;rw [kq a] at h;cases e:l[k.toNat]? with
 | none=>rw [e] at h; cases h
 | some x=>rw [e] at h; simp at h; rw [h]
theorem kL (O:Op m Va us c fs f ws o loc st u i bc hs) (R:Ug m Va) (z:wi m Sb) (rc:(i.Op=26→∃ b,at_ Sb i.A=some b∧dj b∧b.n≠b.l.length)∧(i.Op=27→∃ b,at_ Sb i.A=some b∧dj b∧b.n≠0)) (dg:out.length≤100000) (rg:i.Op≠23∧i.Op≠24∧i.Op≠25∧¬ 29≤i.Op) :
  ∃ r,dr m out c.state c.l c.live 8 400 (Sb,1,bx,t,fs++[f]) (fs.length:Int)=some r∧qp m Va us c out r:=by
 have N:=O.ab;have p:=N.ok;have ci:=N.nn.1;rw [dr,Nl,Ha,N.hu,Ha,N.Pa,Ha,Af (by have:=N.ey;omega),Ha];simp only [Hn];by_cases c1:i.Op=1
 ·rw [if_pos c1];have e:Ad m u i (bc,0) hs=af (bc,0) 1:=by unfold Ad;simp [c1]
  exact O.push R z (by omega) O.Am N.ws (bj.plain (.inl rfl)) (by rw [e] at p ⊢;exact (lk p).2) ⟨by omega,by omega,by omega⟩ (by omega)
 rw [if_neg c1];by_cases c2:i.Op=2
 ·rw [if_pos c2];have e:Ad m u i (bc,0) hs=af (bc,0) 2:=by unfold Ad;simp [c2]
  exact O.push R z (by omega) O.Am N.ws (bj.plain (.inr rfl)) (by rw [e] at p ⊢;exact (lk p).2) ⟨by omega,by omega,by omega⟩ (by omega)
 rw [if_neg c2];by_cases c3:i.Op=3
 ·rw [if_pos c3];have e:Ad m u i (bc,0) hs=af (bc,if ca hs i.A=true then 0 else Fe 0 11) (Fl u.Gc i.A):=by unfold Ad;simp [c3]
  rw [e] at p;obtain ⟨C,s⟩:=lk p;simp only at C s;have H:ca hs i.A=true:=by
   split at C
   ·assumption
   ·exact (Wl C (by decide)).elim
  obtain ⟨a0,pa⟩:=N.nn.2.2.1 (.inl c3);obtain ⟨ty,G,-⟩:=ck (l:=u.Gc) a0 pa;have L:i.A.toNat<loc.length:=by rw [N.lc.1];omega
  have hw:loc[i.A.toNat]?=some loc[i.A.toNat]:=List.getElem?_eq_getElem L;have Wa:=N.lc.2.2 _ _ _ (rM a0 H) (by rw [← kq a0];exact G) hw;have S:f.base+i.A=((ws.length+i.A.toNat:Nat):Int):=by rw [O.base];omega
  have hlen:(ws++(loc++st)).length≤400:=Nat.le_trans O.Am.le O.Am.Pa;rw [S,Af (by simp at hlen;omega),Ha,dD O.Am hw,Ha];simp only [Qv,Hn];exact O.push R z (by omega) O.Am N.ws Wa (by rw [e,s,dE G]) ⟨by omega,by omega,by omega⟩ (by omega)
 rw [if_neg c3];by_cases c4:i.Op=4
 ·rw [if_pos c4];have e:Ad m u i (bc,0) hs=Se [Fl u.Gc i.A] (bc,0):=by unfold Ad;simp [c4]
  rw [e] at p;obtain ⟨-,s⟩:=Vk _ _ p;obtain ⟨a0,pa⟩:=N.nn.2.2.1 (.inr c4);obtain ⟨ty,G,-⟩:=ck (l:=u.Gc) a0 pa;rw [dE G] at s e;obtain ⟨D,w,F,rfl,y,Wa,B,x⟩:=O.pop (bx:=bx) (t:=t) s;have L:i.A.toNat<loc.length:=by rw [N.lc.1];omega
  have hw:loc[i.A.toNat]?=some loc[i.A.toNat]:=List.getElem?_eq_getElem L;have S:f.base+i.A=((ws.length+i.A.toNat:Nat):Int):=by rw [O.base];omega
  have hlen:(ws++(loc++D)).length≤400:=Nat.le_trans x.le x.Pa;rw [B,Ha,S,Af (by simp at hlen;omega),Ha,dD x hw,Ha];simp only [Rv,Hn];simp only [Int.toNat_natCast];refine O.on (out:=out) (out':=out) R z (by omega) (g:=f1 f) rfl (loc':=loc.set i.A.toNat w) (st':=D) (N.next O.base ⟨by omega,by omega,by omega⟩ ?_ (by rw [e];exact y)) ?_
  ·have td:Ai i hs=hs.set i.A.toNat true:=if_pos c4;rw [td];refine ⟨by simpa using N.lc.1,by simpa using N.lc.2.1,fun j wd w' x1 T M=>?_⟩;by_cases d:j=i.A.toNat
   ·subst d;rw [List.getElem?_set_self L] at M;rw [kq a0] at G;rw [G] at T;cases T;cases M;exact Wa
   ·rw [List.getElem?_set_ne (fun h=>d h.symm)] at x1 M;exact N.lc.2.2 j wd w' x1 T M
  ·have:=x.set (k:=ws.length+i.A.toNat) (v:=w);have Fd:(ws++(loc++D)).set (ws.length+i.A.toNat) w=ws++(loc.set i.A.toNat w++D):=by
    rw [List.set_append,if_neg (by omega),List.set_append,if_pos (by omega),show ws.length+i.A.toNat - ws.length=i.A.toNat by omega]
   rw [Fd] at this;exact this
 rw [if_neg c4];by_cases c5:i.Op=5
 ·rw [if_pos c5];have e:Ad m u i (bc,0) hs=(Ac (bc,0)).2:=by unfold Ad;simp [c5]
  rw [e] at p;obtain ⟨-,s⟩:=Zr p;obtain ⟨D,w,F,rfl,y,Wa,B,x⟩:=O.pop (bx:=bx) (t:=t) s;rw [B,Ha];exact O.on R z (by omega) (g:=f1 f) rfl (N.next O.base ⟨by omega,by omega,by omega⟩ (by rw [Ln c4];exact N.lc) (by rw [e];exact y)) x
 rw [if_neg c5];by_cases yd:i.Op=6
 ·rw [if_pos yd];have e:Ad m u i (bc,0) hs=af (Se [1] (bc,0)) 1:=by unfold Ad;simp [yd]
  rw [e] at p;obtain ⟨Ia,Ta⟩:=lk p;obtain ⟨-,s⟩:=Vk _ _ Ia;obtain ⟨D,w,F,rfl,y,Wa,B,x⟩:=O.pop (bx:=bx) (t:=t) s;rw [B,Ha];exact O.push R z (by omega) x y (bj.plain (.inl rfl)) (by rw [e,Ta]) ⟨by omega,by omega,by omega⟩ (by omega)
 rw [if_neg yd];by_cases mg:i.Op=7
 ·rw [if_pos mg];have e:Ad m u i (bc,0) hs=af (Se [2] (bc,0)) 2:=by unfold Ad;simp [mg]
  rw [e] at p;obtain ⟨Ia,Ta⟩:=lk p;obtain ⟨-,s⟩:=Vk _ _ Ia;obtain ⟨D,w,F,rfl,y,Wa,B,x⟩:=O.pop (bx:=bx) (t:=t) s;rw [B,Ha];exact O.push R z (by omega) x y (bj.plain (.inr rfl)) (by rw [e,Ta]) ⟨by omega,by omega,by omega⟩ (by omega)
 rw [if_neg mg];by_cases rh:(8:Int)≤i.Op
 ·rw [if_pos rh];by_cases c20:i.Op≤20
  ·rw [decide_eq_true c20,Np,if_pos rfl];have two:∃ U fd id ty,bc=U++[fd]++[id]∧(Ad m u i (bc,0) hs).1=U++[ty]∧Jg ty:=by
    by_cases d:i.Op≤12
    ·have e:Ad m u i (bc,0) hs=af (Se [1,1] (bc,0)) 1:=by unfold Ad;simp [c1,c2,c3,c4,c5,yd,mg,rh,d]
     rw [e] at p ⊢;obtain ⟨Ia,Ta⟩:=lk p;obtain ⟨-,s⟩:=Vk _ _ Ia;exact ⟨_,1,1,1,s.trans (by simp),Ta,.inl rfl⟩
    ·by_cases d2:i.Op=13∨i.Op=14
     ·have e:Ad m u i (bc,0) hs=af (Se [(Ac (bc,0)).1] ((Ac (bc,0)).2.1,if (Ac (bc,0)).1≠1∧(Ac (bc,0)).1≠2 then Fe (Ac (bc,0)).2.2 9 else (Ac (bc,0)).2.2)) 2:=by unfold Ad;rw [if_neg c1,if_neg c2,if_neg c3,if_neg c4,if_neg c5,if_neg yd,if_neg mg,if_neg (by omega),if_pos d2]
      rw [e] at p ⊢;obtain ⟨Ia,Ta⟩:=lk p;obtain ⟨C,s⟩:=Vk _ _ Ia;simp only at C s;have W:(Ac (bc,0)).2.2=0:=by
       split at C
       ·exact (Wl C (by decide)).elim
       ·exact C
      obtain ⟨-,md⟩:=Zr W;simp only at md;refine ⟨_,(Ac (bc,0)).1,(Ac (bc,0)).1,2,?_,Ta,.inr rfl⟩;exact md.trans (congrArg (fun l=>l++[(Ac (bc,0)).1]) s)
     ·by_cases d3:i.Op≤18
      ·have e:Ad m u i (bc,0) hs=af (Se [1,1] (bc,0)) 2:=by unfold Ad;rw [if_neg c1,if_neg c2,if_neg c3,if_neg c4,if_neg c5,if_neg yd,if_neg mg,if_neg (by omega),if_neg d2,if_pos (by omega)]
       rw [e] at p ⊢;obtain ⟨Ia,Ta⟩:=lk p;obtain ⟨-,s⟩:=Vk _ _ Ia;exact ⟨_,1,1,2,s.trans (by simp),Ta,.inr rfl⟩
      ·have e:Ad m u i (bc,0) hs=af (Se [2,2] (bc,0)) 2:=by unfold Ad;rw [if_neg c1,if_neg c2,if_neg c3,if_neg c4,if_neg c5,if_neg yd,if_neg mg,if_neg (by omega),if_neg d2,if_neg (by omega),if_pos (by omega)]
       rw [e] at p ⊢;obtain ⟨Ia,Ta⟩:=lk p;obtain ⟨-,s⟩:=Vk _ _ Ia;exact ⟨_,2,2,2,s.trans (by simp),Ta,.inr rfl⟩
   obtain ⟨U,fd,id,ty,C,s,W⟩:=two;obtain ⟨D,dh,F,rfl,y,-,B,x⟩:=O.pop (bx:=bx) (t:=t) C;obtain ⟨ii,rd,Id,rfl,be,-,ce,ge⟩:=BC (bx:=bx) (t:=t) x y;rw [B,Ha,ce,Ha];have X:∀ q:Bool,(q=false→i.Op=11∨i.Op=12→dh≠0)→∃ r,Mp m out c.state (Sb,1,bx,t,fs++[f]) (fs.length:Int) f i (f.Rf+1) (dh,1,bx,t,F,c.live - 1,8,400) (rd,1,bx,t,Id,c.live - 1 - 1,8,400) q=some r∧qp m Va us c out r:=by
    intro q he;rw [Mp];by_cases d:q=true
    ·rw [if_pos d];simp only [Tk,Aj,Hn];rw [if_pos (by decide),Ha,Ha];exact Ds R z (by omega) O.len (O.un (g:=f1 f) rfl) (.inl rfl)
    ·rw [if_neg d];obtain ⟨v,ne⟩:=jL (op:=i.Op) (a:=rd) (b:=dh) ⟨rh,c20⟩ (he (by simpa using d));simp only [Hn];rw [ne,Ha];exact O.push R z (by omega) ge be (bj.plain W) s ⟨by omega,by omega,by omega⟩ (by omega)
   by_cases d11:i.Op=11
   ·rw [if_pos d11];exact X _ (fun h _=>by simpa using h)
   ·rw [if_neg d11];by_cases d12:i.Op=12
    ·rw [if_pos d12];exact X _ (fun h _=>by simpa using h)
    ·rw [if_neg d12];exact X false (fun _ h=>by omega)
  ·rw [decide_eq_false c20,Np,if_neg (by simp)];simp only [Hn];by_cases c21:i.Op=21
   ·rw [if_pos c21];have e:Ad m u i (bc,0) hs=(bc,0):=by unfold Ad;simp [c21]
    rw [Nl,Ha];exact O.on R z (by omega) (g:=⟨f.unit,i.A,f.base⟩) rfl (N.jump O.base (.inl c21) (by rw [Ln c4];exact N.lc) (by rw [e];exact N.ws)) O.Am
   rw [if_neg c21];by_cases P:i.Op=22
   ·rw [if_pos P];have e:Ad m u i (bc,0) hs=Se [2] (bc,0):=by unfold Ad;simp [P]
    rw [e] at p;obtain ⟨-,s⟩:=Vk _ _ p;obtain ⟨D,w,F,rfl,y,Wa,B,x⟩:=O.pop (bx:=bx) (t:=t) s;rw [B,Ha];simp only;by_cases d:w=0
    ·rw [if_pos d,Nl,Ha];exact O.on R z (by omega) (g:=⟨f.unit,i.A,f.base⟩) rfl (N.jump O.base (.inr P) (by rw [Ln c4];exact N.lc) (by rw [e];exact y)) x
    ·rw [if_neg d];exact O.on R z (by omega) (g:=f1 f) rfl (N.next O.base ⟨by omega,by omega,by omega⟩ (by rw [Ln c4];exact N.lc) (by rw [e];exact y)) x
   rw [if_neg P];by_cases Q:i.Op=26
   ·rw [if_pos Q];have e:Ad m u i (bc,0) hs=Se [(Gl m i.A).Ee] (bc,0):=by unfold Ad;simp [Q]
    rw [e] at p;obtain ⟨-,s⟩:=Vk _ _ p;obtain ⟨D,w,F,rfl,y,Wa,B,x⟩:=O.pop (bx:=bx) (t:=t) s;obtain ⟨b,H,Y,Z⟩:=rc.1 Q;obtain ⟨Lh,gc,hc⟩:=pM (v:=w) z H Y Z;rw [B,Ha];simp only [Aj];rw [gc,Ha,Ha];exact O.on R hc (by omega) (g:=f1 f) rfl (N.next O.base ⟨by omega,by omega,by omega⟩ (by rw [Ln c4];exact N.lc) (by rw [e];exact y)) x
   rw [if_neg Q];by_cases K:i.Op=27
   ·rw [if_pos K];have e:Ad m u i (bc,0) hs=af (bc,0) (Gl m i.A).Ee:=by unfold Ad;simp [K]
    obtain ⟨b,H,Y,Z⟩:=rc.2 K;obtain ⟨v,Lh,gc,hc⟩:=hL z H Y Z;rw [gc,Ha];simp only [Aj];rw [Ha];obtain ⟨a0,pa⟩:=N.nn.2.2.2.2.2.2 (.inr K);obtain ⟨bi,Ne,of⟩:=ck (l:=m.sc) a0 pa;have wf:(Gl m i.A).Ee=bi.Ee:=by unfold Gl;rw [Ne];rfl
    have If:Jg (Gl m i.A).Ee:=by rw [wf];exact (R.form.2.1 bi of).1
    exact O.push R hc (by omega) O.Am N.ws (bj.plain If) (by rw [e] at p ⊢;exact (lk p).2) ⟨by omega,by omega,by omega⟩ (by omega)
   rw [if_neg K];have c28:i.Op=28:=by omega
   rw [if_pos c28];have e:Ad m u i (bc,0) hs=((Ac (bc,0)).2.1,if (Ac (bc,0)).2.2=0∧¬ Jg (Ac (bc,0)).1 then Fe (Ac (bc,0)).2.2 9 else (Ac (bc,0)).2.2):=by unfold Ad;simp [c28]
   rw [e] at p;simp only at p;have C:(Ac (bc,0)).2.2=0:=by
    split at p
    ·exact (Wl p (by decide)).elim
    ·exact p
   obtain ⟨-,s⟩:=Zr C;obtain ⟨D,w,F,rfl,y,Wa,B,x⟩:=O.pop (bx:=bx) (t:=t) s;rw [B,Ha];simp only [Aj];rw [app,if_pos (by simp;omega),Ha,Ha];exact O.on R z (by simp) (g:=f1 f) rfl (N.next O.base ⟨by omega,by omega,by omega⟩ (by rw [Ln c4];exact N.lc) (by rw [e];exact y)) x
 ·omega
end
end Go.Y
namespace Go.Y
open Go.Ab Go.jc
variable {m:sb}{Va:kh}{us:List Int}{Sb:List Mc}
section
variable {c:se}{fs:List pb}{f:pb}{ws:List Int}{o:Option Int}{loc st:List Int}{u:Xc}{i:ud}{bc:List Int}{hs:List Bool}{out:List Int}{bx t:Int}
theorem qu {k p:Int}(h:rl m k p=true):∃ v,at_ m.Ya k=some v∧v.Kind=p∧v ∈ m.Ya:=by
 unfold rl at h;cases e:at_ m.Ya k with
 | none=>rw [e] at h; cases h
 | some v=>rw [e] at h; exact ⟨v,rfl,by simpa using h,(at_mem e).1⟩
theorem DA {k:Int}{v:Xc}(h:at_ m.Ya k=some v):Mj m k=v:=by unfold Mj;rw [h];rfl
theorem vi.split {a d w:List Int}(h:vi us (a++d) w):∃ e f,w=e++f∧vi us a e∧vi us d f:=by
 have i:=h.1;rw [List.length_append] at i;refine ⟨w.take a.length,w.drop a.length,(List.take_append_drop _ _).symm,⟨by simp;omega,fun k ty x c b=>?_⟩,⟨by simp;omega,fun k ty x c b=>?_⟩⟩
 ·have g:=(List.getElem?_eq_some_iff.1 c).1;rw [List.getElem?_take,if_pos g] at b;exact h.2 k ty x (by rw [List.getElem?_append_left g];exact c) b
 ·rw [List.getElem?_drop] at b;exact h.2 (a.length+k) ty x (by rw [List.getElem?_append_right (by omega)];rw [show a.length+k - a.length=k by omega];exact c) b
theorem lL {fr:List pb}{K:Int}:∀ (n:Nat) (k:Int) (s t:Int) (l W:List Int) (live:Int),0≤k→k≤K→K - k<n→K≤1000→vg l live W→∃ c Ob e f,cr fr K n k s bx t live 8 400 l=some (c,bx,Ob,fr,e,f,8,400)∧(c=s∧vg e f (W++List.replicate (K - k).toNat 0)∨c=5∧∃ r,vg e f r):=by
 intro n
 induction n with
 | zero=>intro k s t l W live u w x; omega
 | succ n j =>
  intro k s t l W live u w x m o;rw [cr];by_cases d:k<K
  ·rw [if_pos d];obtain ⟨s1,t1,p,q,ra,g⟩:=Kw (s:=s) (bx:=bx) (t:=t) (v:=0) o;rw [ra,Ha,Af (by omega),Ha];simp only;have y:(K - k).toNat=(K - (k+1)).toNat+1:=by omega
   rcases g with ⟨rfl,rfl,-,h⟩ | ⟨rfl,h⟩
   ·obtain ⟨c,Ob,e,f,i,g2⟩:=j (k+1) s1 t1 p _ q (by omega) (by omega) (by omega) m h;refine ⟨c,Ob,e,f,i,?_⟩;rcases g2 with ⟨a,b⟩ | g2
    ·refine .inl ⟨a,?_⟩;rw [y,List.replicate_succ];simpa [List.append_assoc] using b
    ·exact .inr g2
   ·obtain ⟨c,Ob,e,f,i,g2⟩:=j (k+1) 5 t1 p _ q (by omega) (by omega) (by omega) m h;refine ⟨c,Ob,e,f,i,.inr ?_⟩;rcases g2 with ⟨a,b⟩ | g2
    ·exact ⟨a,_,b⟩
    ·exact g2
  ·rw [if_neg d];refine ⟨s,t,l,live,rfl,.inl ⟨rfl,?_⟩⟩;rw [show (K - k).toNat=0 by omega];simpa using o
theorem MH {v:Xc}{j:Nat}(h:(Dh v)[j]?=some true):j<v.Params.toNat:=by
 unfold Dh at h;rcases Nat.lt_or_ge j v.Params.toNat with q | q
 ·exact q
 ·rw [List.getElem?_append_right (by simpa using q)] at h;obtain ⟨b,a⟩:=List.getElem?_eq_some_iff.1 h;simp at a
theorem yz (R:Ug m Va){k:Int}{v:Xc}(Wa:at_ m.Ya k=some v) (Qa:Zo m v){args:List Int}(a:vi us (v.Gc.take v.Params.toNat) args){b:Nat}{o':Option Int}(e:o'=none ↔ v.Kind≠2) (f:∀ r,o'=some r→v.Result=r) :
  hl m Va us ⟨k,0,(b:Int)⟩ b o' (args++List.replicate (v.Gc.length - v.Params.toNat) 0) [] []:=by
 obtain ⟨-,h,ra,c⟩:=R.ty _ _ Wa;have n:v.Params.toNat≤v.Gc.length:=by have:=Qa.2.1;omega
 have g:args.length=v.Params.toNat:=by have:=a.1;simp at this;omega
 refine ⟨rfl,v,[],h,Wa,ra,⟨by simp [g];omega,?_,fun j ty w x1 i d=>?_⟩,.nil,e,f⟩
 ·rw [c.1];unfold Dh;simp;omega
 ·have l:=MH (c.2 j x1);rw [List.getElem?_append_left (by omega)] at d;exact a.2 j ty w (by rw [List.getElem?_take,if_pos l];exact i) d
theorem yJ (O:Op m Va us c fs f ws o loc st u i bc hs) (R:Ug m Va) (n:wi m Sb) (j:i.Op=23) :
  ∃ r,((Vp m 1 bx t c.state (fs++[f1 f]) c.l c.live 8 400 i).bind fun q=>gi m q.1 q.2.1 q.2.2.1 Sb out q.2.2.2.1 q.2.2.2.2.1 q.2.2.2.2.2.2.1 q.2.2.2.2.2.2.2.1 q.2.2.2.2.2.2.2.2 q.2.2.2.2.2.1)=some r∧qp m Va us c out r:=by
 have N:=O.ab;have p:=N.ok;obtain ⟨v,Wa,y,z⟩:=qu (N.nn.2.2.2.2.1 j);have e:Ad m u i (bc,0) hs=af (cp v (bc,0)) v.Result:=by unfold Ad;simp [j,DA Wa]
 rw [e] at p;obtain ⟨Ia,Ta⟩:=lk p;unfold cp at Ia Ta e;obtain ⟨-,k⟩:=Vk _ _ Ia;rw [List.reverse_reverse] at k;simp only at k;have Qa:=(R.form.2.2.1 v z).1;have hw:=N.ws;rw [k] at hw;obtain ⟨a,args,rfl,B,s⟩:=hw.split;have W:(args.length:Int)=v.Params:=by
  have C:=s.1;have X:=Qa.2.1;rw [List.length_take] at C;omega
 have b:=O.Am;have D:=b.live;have hlen:=Nat.le_trans b.le b.Pa;simp only [List.length_append] at D hlen;rw [Vp,if_pos j,Yw,Wa,Ha,Qm,Ha,Af (by omega),Ha,Pv];by_cases d:(((fs++[f1 f]).length:Nat):Int)=40
 ·rw [if_pos d,Tk,if_pos (by decide),Aj,Ha,Ha,Ha,Ha];exact Ds R n (by omega) O.len (O.un (g:=f1 f) rfl) (.inl rfl)
 ·rw [if_neg d];have w:=O.Vf;rw [O.fr] at w;simp only [List.length_append,List.length_singleton] at w d;have Y:=Qa.2.1;rw [app,if_pos (by simp;omega),Ha,Af (by omega),Ha];obtain ⟨Z,Ob,F,G,H,g⟩:=lL (bx:=bx) (fr:=fs++[f1 f]++[pb.mk i.A 0 (c.live - v.Params)]) (K:=(v.Gc.length:Int) - v.Params) (((v.Gc.length:Int) - v.Params - 0).toNat+1) 0 1 t c.l _ c.live (by omega) (by omega) (by omega) (by omega) b;rw [H,Ha,Ha];simp only;have L:((fs++[f1 f]++[pb.mk i.A 0 (c.live - v.Params)])[0]?).map (·.unit)=lj c:=by
   rw [← O.un (g:=f1 f) rfl,List.getElem?_append_left (by simp)]
  refine Ds R n (by omega) (by simp;omega) L ?_;rcases g with ⟨rfl,x⟩ | ⟨rfl,-⟩
  ·obtain ⟨M,g1,g2⟩:=N.YA ⟨by omega,by omega,by omega⟩;rw [e,Ta] at g1;rw [Ln (by omega)] at g2;have P:hl m Va us (f1 f) ws.length o loc a [v.Result]:=⟨O.base,u,_,M,N.hu,g1,N.lc.dy g2,B,N.Qs,N.res⟩;have Q:c.live - v.Params=(((ws++(loc++a)).length:Nat):Int):=by simp;omega
   have S:hl m Va us ⟨i.A,0,c.live - v.Params⟩ (ws++(loc++a)).length (some v.Result) (args++List.replicate (v.Gc.length - v.Params.toNat) 0) [] []:=by
    rw [Q];exact yz R Wa Qa s (by simp [y]) (fun r h=>by cases h;rfl)
   have T:((v.Gc.length:Int) - v.Params - 0).toNat=v.Gc.length - v.Params.toNat:=by omega
   rw [T] at x;have U:vg F G (ws++(loc++a)++((args++List.replicate (v.Gc.length - v.Params.toNat) 0)++[])):=by simpa [List.append_assoc] using x
   exact .inr ⟨rfl,rfl,rfl,fs++[f1 f],ws++(loc++a),some v.Result,⟨i.A,0,c.live - v.Params⟩,_,[],rfl,.snoc O.Ei P,S,U⟩
  ·exact .inl rfl
theorem Ni.NH {r:Int}(h:Ni m Va us fs ws (some r)):∃ b g a o' c d,fs=b++[g]∧ws=a++(c++d)∧Ni m Va us b a o'∧hl m Va us g a.length o' c d [r]:=by
 cases h with
 | snoc e f=>exact ⟨_,_,_,_,_,_,rfl,rfl,e,f⟩
theorem mL (O:Op m Va us c fs f ws o loc st u i bc hs) (R:Ug m Va) (p:wi m Sb) (c24:i.Op=24) :
  ∃ r,((Vp m 1 bx t c.state (fs++[f1 f]) c.l c.live 8 400 i).bind fun q=>gi m q.1 q.2.1 q.2.2.1 Sb out q.2.2.2.1 q.2.2.2.2.1 q.2.2.2.2.2.2.1 q.2.2.2.2.2.2.2.1 q.2.2.2.2.2.2.2.2 q.2.2.2.2.2.1)=some r∧qp m Va us c out r:=by
 have N:=O.ab;have k:=N.ok;have e:Ad m u i (bc,0) hs=Sl (Se [u.Result] (bc,if u.Kind≠2 then Fe 0 8 else 0)):=by unfold Ad;simp [c24]
 rw [e] at k;obtain ⟨Ia,Ta,-⟩:=wJ k;obtain ⟨d,j⟩:=Vk _ _ Ia;simp only at d j;have x:u.Kind=2:=by
  split at d
  ·exact (Wl d (by decide)).elim
  ·rename_i h;exact Decidable.not_not.1 h
 rw [Ta] at j;have y:bc=[]++[u.Result]:=j;obtain ⟨z,w,rc,rfl,A,Wa,B,b⟩:=O.pop (bx:=bx) (t:=t) y;obtain rfl:z=[]:=List.eq_nil_of_length_eq_zero A.1;obtain ⟨r,C⟩:∃ r,o=some r:=by
  cases D:o with
  | none=>exact absurd x (N.Qs.1 D)
  | some r=>exact ⟨r,rfl⟩
 subst C;have er:=N.res r rfl;obtain ⟨a,g,F,o',G,H,rfl,rfl,K,L⟩:=O.Ei.NH;have n:=O.Vf;rw [O.fr] at n;simp only [List.length_append,List.length_singleton] at n;rw [List.append_nil] at b;obtain ⟨fd,M,P⟩:=Lz b;have Q:=b.live;have hlen:=Nat.le_trans b.le b.Pa;have S:=O.base;simp only [List.length_append] at Q hlen S;have Fa:cut (a++[g]++[f1 f]) 0 ((((a++[g]).length:Nat)):Int)=some (a++[g]):=by
  unfold cut;rw [if_pos (by simp;omega),Int.toNat_natCast,List.take_left];rfl
 have T:c.live - 1 - f.base=(loc.length:Int):=by omega
 rw [Vp,if_neg (by omega),if_pos c24,B,Ha,Ls,Af (by simp;omega),Ha,Nl,Ha,Dv,Ls,Af (by simp;omega),Ha,Fa,Ha,Cv];simp only [Qm];rw [Ha,T,Af (by omega),Ha,M,Ha,Bv];simp only;obtain ⟨id,Ob,md,rd,U,W⟩:=Kw (s:=1) (bx:=bx) (t:=t) (v:=w) P;rw [U,Ha,Ha];simp only;have X:((a++[g])[0]?).map (·.unit)=lj c:=by
  rw [← O.un (g:=f1 f) rfl,List.getElem?_append_left (l₁:=a++[g]) (by simp)]
 refine Ds R p (by omega) (by simp;omega) X ?_;rcases W with ⟨rfl,rfl,-,Y⟩ | ⟨rfl,-⟩
 ·obtain ⟨Z,gc,hc,lc,g1,g2,g3,g4,g5,g6⟩:=L;refine .inr ⟨rfl,rfl,rfl,a,F,o',g,G,H++[w],rfl,K,⟨Z,gc,hc++[r],lc,g1,by rw [List.append_nil];exact g2,g3,g4.push (by rw [← er];exact Wa),g5,g6⟩,by simpa [List.append_assoc] using Y⟩
 ·exact .inl rfl
end
end Go.Y
namespace Go.Y
open Go.Ab Go.jc
variable {m:sb}{Va:kh}{us:List Int}{Sb:List Mc}
def Rs (i:ud):Prop:=i.Op=25∨29≤i.Op
theorem eE (R:Ug m Va) (h:wi m Sb){c:se}(j:Hi m Va us c []) (d:c.fr.length≤40){s bx t:Int}(hs:s≤3) :
  ∃ fs f ws o loc st u i bc hs,Op m Va us c fs f ws o loc st u i bc hs∧∃ a Dg,kl m Sb s bx t c.fr=some (Sb,a,Dg,t,c.fr)∧Vb Sb a Dg∧(a=1→(i.Op=26→∃ b,at_ Sb i.A=some b∧dj b∧b.n≠b.l.length)∧(i.Op=27→∃ b,at_ Sb i.A=some b∧dj b∧b.n≠0)):=by
 obtain ⟨k,p,fs,ws,o,f,loc,st,e,q,g,r⟩:=j;obtain ⟨u,i,bc,v,a,Dg,N,ra,w,x⟩:=cD R h g (fs:=fs) (s:=s) (bx:=bx) (t:=t) (by rw [e] at d;simp at d;omega) hs;exact ⟨fs,f,ws,o,loc,st,u,i,bc,v,⟨e,q,g.base,N,r,k,p,d⟩,a,Dg,by rw [e];exact ra,w,x⟩
section
variable {c:se}{fs:List pb}{f:pb}{ws:List Int}{o:Option Int}{loc st:List Int}{u:Xc}{i:ud}{bc:List Int}{hs:List Bool}{out:List Int}{bx t s Dg:Int}
theorem OH (O:Op m Va us c fs f ws o loc st u i bc hs){a:Int}(e:kl m Sb s bx t c.fr=some (Sb,a,Dg,t,c.fr)) (h:a≠1):Ko m Sb s bx t out c.state c.fr c.l c.live c.Ig c.fg=some (false,Sb,a,Dg,t,out,c.state,c.fr,c.l,c.live,c.Ig,c.fg):=by
 rw [Ko,e,Ha,if_pos h]
theorem zJ (O:Op m Va us c fs f ws o loc st u i bc hs) (R:Ug m Va) (a:wi m Sb) (e:kl m Sb s bx t c.fr=some (Sb,1,Dg,t,c.fr)) (j:(i.Op=26→∃ b,at_ Sb i.A=some b∧dj b∧b.n≠b.l.length)∧(i.Op=27→∃ b,at_ Sb i.A=some b∧dj b∧b.n≠0)) (k:out.length≤100000) (d:¬ Rs i) :
  ∃ r,Ko m Sb s bx t out c.state c.fr c.l c.live c.Ig c.fg=some r∧qp m Va us c out r:=by
 have g:=O.Vf;have N:=O.ab;unfold Rs at d;rw [Ko,e,Ha,if_neg (by simp),O.Ig,O.fg,O.fr,Ls,Af (by rw [O.fr] at g;simp at g;omega),Ha,Nl,Ha];by_cases h:i.Op≠23∧i.Op≠24
 ·exact kL O R a j k ⟨h.1,h.2,fun h=>d (.inl h),fun h=>d (.inr h)⟩
 ·have q:=N.nn.1;rw [dr,Nl,Ha,N.hu,Ha,N.Pa,Ha,Af (by have:=N.ey;omega),Ha];simp only [Hn];rw [if_neg (by omega),if_neg (by omega),if_neg (by omega),if_neg (by omega),if_neg (by omega),if_neg (by omega),if_neg (by omega),if_pos (by omega),decide_eq_false (by omega),Np,if_neg (by simp)];simp only [Hn];rw [if_neg (by omega),if_neg (by omega),if_neg (by omega),if_neg (by omega),if_neg (by omega)];by_cases p:i.Op=23
  ·exact yJ O R a p
  ·exact mL O R a (by omega)
end
theorem Oi.AJ {cs:List se}{j:Nat}{Mf:List Int}{kd:List Nat}(h:Oi m Va us cs j Mf kd):j ∈ kd:=by cases h<;>simp
theorem Oi.lt {cs:List se}{j:Nat}{Mf:List Int}{kd:List Nat}(h:Oi m Va us cs j Mf kd):j<cs.length:=by
 cases h with
 | own a=>exact (List.getElem?_eq_some_iff.1 a).1
 | up a=>exact (List.getElem?_eq_some_iff.1 a).1
theorem Oi.off {cs:List se}{j k:Nat}{Mf:List Int}{kd:List Nat}{c':se}(h:Oi m Va us cs j Mf kd) (a:k ∉ kd):Oi m Va us (cs.set k c') j Mf kd:=by
 induction h with
 | own b c d f g i l=>exact .own (by rw [List.getElem?_set_ne (fun e=>a (by simp [e]))]; exact b) c d f g i l
 | up b c d f g i l p n o=>exact .up (by rw [List.getElem?_set_ne (fun e=>a (by simp [e]))]; exact b) c d f g i l (o fun e=>a (List.mem_cons_of_mem _ e)) n
theorem Oi.pq {cs:List se}{j:Nat}{Mf Ju:List Int}{kd:List Nat}{c c':se}(h:Oi m Va us cs j Mf kd) (hc:cs[j]?=some c) (a:c'.state=2) (hu:c'.up=c.up) (b:Hi m Va us c' Ju):Oi m Va us (cs.set j c') j Ju kd:=by
 have d:=(List.getElem?_eq_some_iff.1 hc).1;cases h with
 | own g1 g2 g3 g4 g5 g6 g7=>rw [hc] at g1; cases g1; exact .own (by simp [d]) a (hu.trans g3) b g5 g6 g7
 | up g1 g2 g3 g4 g5 g6 g7 g8 g9=>rw [hc] at g1; cases g1; exact .up (by simp [d]) a (hu.trans g3) b g5 g6 g7 (g8.off g9) g9
theorem Oi.mono {cs:List se}{j:Nat}{Mf:List Int}{kd:List Nat}{x:Int}{d:se}(h:Oi m Va us cs j Mf kd):Oi m Va (us++[x]) (cs++[d]) j Mf kd:=by
 induction h with
 | own a c e f b g i=>exact .own (by rw [List.getElem?_append_left (List.getElem?_eq_some_iff.1 a).1]; exact a) c e f.mono (by rw [List.getElem?_append_left (List.getElem?_eq_some_iff.1 b).1]; exact b) g i
 | up a c e f b g i n k l=>exact .up (by rw [List.getElem?_append_left (List.getElem?_eq_some_iff.1 a).1]; exact a) c e f.mono (by rw [List.getElem?_append_left (List.getElem?_eq_some_iff.1 b).1]; exact b) g i l k
theorem Oi.at {cs:List se}{j:Nat}{Mf:List Int}{kd:List Nat}(h:Oi m Va us cs j Mf kd):∃ c,cs[j]?=some c∧c.state=2∧Hi m Va us c Mf:=by
 cases h with
 | own a b e d=>exact ⟨_,a,b,d⟩
 | up a b e d=>exact ⟨_,a,b,d⟩
end Go.Y
namespace Go.Y
open Go.Ab Go.jc
variable {m:sb}{Va:kh}{us:List Int}{Sb:List Mc}
theorem Jn {α:Type}{l:List α}{k:Nat}{x y:α}(h:l[k]?=some y):(l.set k x)[k]?=some x:=by
 have:=(List.getElem?_eq_some_iff.1 h).1;simp [this]
theorem Oi.OM {cs:List se}{j:Nat}{Mf:List Int}{kd:List Nat}(h:Oi m Va us cs j Mf kd):∀ k ∈ kd,∃ c,cs[k]?=some c∧c.state=2:=by
 induction h with
 | own b d=>intro k a; obtain rfl:=List.mem_singleton.1 a; exact ⟨_,b,d⟩
 | up b d f g i l n o p e =>
  intro k a;rcases List.mem_cons.1 a with rfl | a
  ·exact ⟨_,b,d⟩
  ·exact e k a
section
variable {p:xc}{Mf Ju:List Int}{kd:List Nat}{c c':se}{s bx t v:Int}
theorem cj.pq (h:cj m Va us p Mf kd) (hc:p.cs[p.now]?=some c) (b:c'.state=2) (hu:c'.up=c.up) (f:lj c'=lj c) (g:c'.fr.length≤40) (i:Hi m Va us c' Ju):cj m Va us (p.put c') Ju kd where
 path:=h.path.pq hc b hu i
 len:=by show us.length=(p.cs.set _ _).length;simpa using h.len
 un j d Qa:=by
  by_cases e:j=p.now
  ·subst e;have:(p.cs.set p.now c')[p.now]?=some d:=Qa;rw [Jn hc] at this;cases this;rw [f];exact h.un _ _ hc
  ·have:(p.cs.set p.now c')[j]?=some d:=Qa;rw [List.getElem?_set_ne (fun q=>e q.symm)] at this;exact h.un j d this
 Vf j d Qa:=by
  by_cases e:j=p.now
  ·subst e;have:(p.cs.set p.now c')[p.now]?=some d:=Qa;rw [Jn hc] at this;cases this;exact g
  ·have:(p.cs.set p.now c')[j]?=some d:=Qa;rw [List.getElem?_set_ne (fun q=>e q.symm)] at this;exact h.Vf j d this
 off j d Qa a:=by
  have e:j≠p.now:=fun q=>a (q ▸ h.path.AJ);have:(p.cs.set p.now c')[j]?=some d:=Qa;rw [List.getElem?_set_ne (fun q=>e q.symm)] at this;exact h.off j d this a
theorem cj.at (h:cj m Va us p Mf kd):∃ c,p.cs[p.now]?=some c∧c.state=2∧Hi m Va us c Mf:=h.path.at
theorem cj.push {r:Int}(h:cj m Va us p [r] kd) (Wa:bj us r v):∃ b a Ob,Lo p s bx t v=some (b,a,bx,Ob)∧b.now<b.cs.length∧(a=s∧Ob=t∧cj m Va us b [] kd∨a=5):=by
 obtain ⟨c,hc,c2,d⟩:=h.at
 obtain ⟨g,i,fs,ws,o,f,loc,st,e,j,⟨k,u,bc,hs,g1,g2,g3,g4,g5,g6⟩,l⟩:=id d;obtain ⟨a,Ob,y,z,ra,n⟩:=Kw (s:=s) (bx:=bx) (t:=t) (v:=v) l;have q:=(List.getElem?_eq_some_iff.1 hc).1;rw [Lo,hc,Ha,g,i,ra,Ha];refine ⟨_,a,Ob,rfl,by simpa [xc.put] using q,?_⟩;rcases n with ⟨rfl,rfl,-,w⟩ | ⟨rfl,-⟩
 ·have x:=h.Vf _ _ hc;refine .inl ⟨rfl,rfl,h.pq hc c2 rfl rfl x ⟨rfl,rfl,fs,ws,o,f,loc,st++[v],e,j,⟨k,u,bc++[r],hs,g1,by rw [List.append_nil];exact g2,g3,g4.push Wa,g5,g6⟩,by simpa [List.append_assoc] using w⟩⟩
 ·exact .inr rfl
end
end Go.Y
namespace Go.Y
open Go.Ab Go.jc
variable {m:sb}{Va:kh}{us:List Int}{Sb:List Mc}
def rp (m:sb) (Va:kh) (bx:Int) (q:xc×Int×Int×Int):Prop:=q.1.now<q.1.cs.length∧(q.2.1=4∨q.2.1=5∨q.2.1=1∧∃ a b,cj m Va a q.1 [] b)
section
variable {p:xc}{kd:List Nat}{c:se}{fs:List pb}{f:pb}{ws:List Int}{o:Option Int}{loc st:List Int}{u:Xc}{i:ud}{bc:List Int}{hs:List Bool}{bx t:Int}
theorem Ni.PH (h:Ni m Va us fs ws none):fs=[]∧ws=[]:=by cases h;exact ⟨rfl,rfl⟩
theorem eC {cs:List se}{j:Nat}{Mf:List Int}{d:se}(h:Oi m Va us cs j Mf kd) (Qa:cs[j]?=some d):(d.up=none∧∃ k v,us[j]?=some k∧at_ m.Ya k=some v∧v.Kind=4)∨∃ i b k v,d.up=some i∧kd=j::b∧us[j]?=some k∧at_ m.Ya k=some v∧v.Kind=3∧Oi m Va us cs i [v.Result] b∧j ∉ b:=by
 cases h with
 | own a l c n e f g=>rw [Qa] at a; cases a; exact .inl ⟨c,_,_,e,f,g⟩
 | up a l c n e f g o p=>rw [Qa] at a; cases a; exact .inr ⟨_,_,_,_,c,rfl,e,f,g,o,p⟩
theorem eD {a b:se}:(p.put a).put b=p.put b:=by simp [xc.put]
theorem ux {a d:se}(h:p.cs[p.now]?=some d):(p.put a).cs[(p.put a).now]?=some a:=Jn h
theorem fD {Mf:List Int}{sn:Int}{v:Int}{d c1 c:se}{s:Int}(h:cj m Va us p Mf kd) (Qa:p.cs[p.now]?=some d){i:Nat}(r:d.up=some i) (A:c1.up=d.up) (B:lj c1=lj d) (C:c1.fr.length≤40) (f:c={ c1 with state:=sn,up:=none })
  (D:∀ k w,us[p.now]?=some k→at_ m.Ya k=some w→w.Kind=3→(sn=1∧Hi m Va us c [w.je]∨sn=3)∧bj us w.Result v) :
  ∃ g l Ob,Lr (p.put c1) s bx t sn v=some (g,l,bx,Ob)∧g.now<g.cs.length∧(l=s∧(∃ o,cj m Va us g [] o)∨l=5):=by
 rcases eC h.path Qa with ⟨n,-⟩ | ⟨O,o,k,w,n,rfl,u,y,z,F,G⟩
 ·rw [r] at n;cases n
 ·rw [r] at n;cases n;obtain ⟨g1,g2⟩:=D k w u y z;have H:lj c=us[p.now]?:=by
   have:=h.un _ _ Qa;rw [f];exact (show lj c1=_ from B).trans this
  have K:cj m Va us ⟨p.cs.set p.now c,i⟩ [w.Result] o:=by
   refine ⟨F.off G,by simpa using h.len,fun j e he=>?_,fun j e he=>?_,fun j e he L=>?_⟩
   ·by_cases q:j=p.now
    ·subst q;rw [Jn Qa] at he;cases he;exact H
    ·rw [List.getElem?_set_ne (fun x=>q x.symm)] at he;exact h.un j e he
   ·by_cases q:j=p.now
    ·subst q;rw [Jn Qa] at he;cases he;rw [f];exact C
    ·rw [List.getElem?_set_ne (fun x=>q x.symm)] at he;exact h.Vf j e he
   ·by_cases q:j=p.now
    ·subst q;rw [Jn Qa] at he;cases he;refine ⟨by rw [f],k,w,u,y,z,?_⟩;rcases g1 with ⟨a,b⟩ | a
     ·exact .inr (.inl ⟨by rw [f];exact a,b⟩)
     ·exact .inr (.inr (by rw [f];exact a))
    ·rw [List.getElem?_set_ne (fun x=>q x.symm)] at he;exact h.off j e he (fun x=>(List.mem_cons.1 x).elim q L)
  obtain ⟨g,l,Ob,ra,M,N⟩:=K.push (s:=s) (bx:=bx) (t:=t) g2;have es:(p.put c1).cs.set (p.put c1).now c=p.cs.set p.now c:=by simp [xc.put]
  rw [Lr,ux Qa,Ha,A,r,Ha,← f,es,ra];refine ⟨g,l,Ob,rfl,M,?_⟩;rcases N with ⟨a,b,x⟩ | x
  ·exact .inl ⟨a,o,x⟩
  ·exact .inr x
theorem Op.PM (O:Op m Va us c fs f ws o loc st u i bc hs) (b:u.Kind≠2):fs=[]∧ws=[]∧lj c=some f.unit:=by
 have d:=O.ab.Qs.2 b;have a:=O.Ei;rw [d] at a;obtain ⟨rfl,rfl⟩:=a.PH;exact ⟨rfl,rfl,by unfold lj;rw [O.fr];rfl⟩
theorem Op.QM (O:Op m Va us c fs f ws o loc st u i bc hs):lj { c with fr:=fs++[f1 f] }=lj c:=O.un (g:=f1 f) rfl
theorem nL (O:Op m Va us c fs f ws o loc st u i bc hs) (R:Ug m Va) (h:cj m Va us p [] kd) (hc:p.cs[p.now]?=some c) (g:i.Op=25):∃ q,Eh m (p.put { c with fr:=fs++[f1 f] }) 1 bx t i=some q∧rp m Va bx q:=by
 have j:=(List.getElem?_eq_some_iff.1 hc).1;rw [Eh,if_pos g,px,ux hc,Ha];by_cases b:c.up=none
 ·rw [if_pos b,Aj,Ha];exact ⟨_,rfl,by simpa [xc.put] using j,.inl rfl⟩
 ·rw [if_neg b];obtain ⟨d,Pa⟩:∃ d,c.up=some d:=by
   cases e:c.up with
   | none=>exact absurd e b
   | some x=>exact ⟨x,rfl⟩
  obtain ⟨A,B,Ob,ra,l,n⟩:=fD (s:=1) (bx:=bx) (t:=t) (sn:=3) (v:=0) h hc Pa (c1:={ c with fr:=fs++[f1 f] }) rfl O.QM O.len rfl (fun k w C r D=>⟨.inr rfl,bj.plain (by
   obtain ⟨y,-⟩:=at_mem r;exact (R.form.2.2.1 w y).1.2.2.2.1 (by omega))⟩)
  refine ⟨_,ra,l,?_⟩;rcases n with ⟨a,z,x⟩ | x
  ·exact .inr (.inr ⟨a,us,z,x⟩)
  ·exact .inr (.inl x)
end
end Go.Y
namespace Go.Y
open Go.Ab Go.jc
variable {m:sb}{Va:kh}{us:List Int}{Sb:List Mc}
section
variable {p:xc}{kd:List Nat}{c:se}{fs:List pb}{f:pb}{ws:List Int}{o:Option Int}{loc st:List Int}{u:Xc}{i:ud}{bc:List Int}{hs:List Bool}{bx t:Int}
abbrev Gj (c:se) (fs:List pb) (f:pb) (l:List Int) (live:Int):se:={ c with fr:=fs++[f1 f],l:=l,live:=live,Ig:=8,fg:=400 }
theorem Ux (O:Op m Va us c fs f ws o loc st u i bc hs):({ c with fr:=fs++[f1 f] }:se)=Gj c fs f c.l c.live:=by
 have a:=O.Ig;have b:=O.fg;cases c;simp at a b;simp [Gj,a,b]
theorem nw {p:xc}{d:se}{l a:List Int}{live w:Int}(hc:p.cs[p.now]?=some d) (e:Dj 1 bx t l live 8 400=some (w,1,bx,t,a,live - 1,8,400)):fq (p.put (Gj c fs f l live)) 1 bx t=some (w,p.put (Gj c fs f a (live - 1)),1,bx,t):=by
 rw [fq,ux hc,Ha];simp only [Gj];rw [e,Ha,eD]
theorem Op.await (O:Op m Va us c fs f ws o loc st u i bc hs) (d:follows i) (g:i.Op≠4){a b Mf l:List Int}{live:Int}(e:(Ad m u i (bc,0) hs).1=b++Mf) (hw:vi us b a) (h:vg l live (ws++(loc++a))):Hi m Va us (Gj c fs f l live) Mf:=by
 obtain ⟨j,g1,g2⟩:=O.ab.YA d;rw [e] at g1;rw [Ln g] at g2;exact ⟨rfl,rfl,fs,ws,o,f1 f,loc,a,rfl,O.Ei,⟨O.base,u,b,j,O.ab.hu,g1,O.ab.lc.dy g2,hw,O.ab.Qs,O.ab.res⟩,h⟩
theorem QH (O:Op m Va us c fs f ws o loc st u i bc hs) (R:Ug m Va) (h:cj m Va us p [] kd) (hc:p.cs[p.now]?=some c) (c31:i.Op=31):∃ q,Eh m (p.put { c with fr:=fs++[f1 f] }) 1 bx t i=some q∧rp m Va bx q:=by
 have N:=O.ab;have n:=N.ok;have e:Ad m u i (bc,0) hs=af (Se [u.Result] (bc,if u.Kind≠3 then Fe 0 8 else 0)) u.je:=by unfold Ad;simp [c31]
 rw [e] at n;obtain ⟨Ia,Ta⟩:=lk n;obtain ⟨d,r⟩:=Vk _ _ Ia;simp only at d r;have M:u.Kind=3:=by
  split at d
  ·exact (Wl d (by decide)).elim
  ·rename_i h;exact Decidable.not_not.1 h
 obtain ⟨P,w,B,rfl,C,Wa,D,F⟩:=O.pop (bx:=bx) (t:=t) r;obtain ⟨Q,S,hu⟩:=O.PM (by omega);have G:=O.await ⟨by omega,by omega,by omega⟩ (by omega) (by rw [e];exact Ta) C F;rw [Eh,if_neg (by omega),if_neg (by omega),if_neg (by omega),if_pos c31,Ux O,nw hc D,Ha];simp only;have l:=h.un _ _ hc;rw [hu] at l;rcases eC h.path hc with ⟨-,k,v,g1,g2,g3⟩ | ⟨j,y,k,v,H,-⟩
 ·rw [← l] at g1;cases g1;rw [N.hu] at g2;cases g2;omega
 ·obtain ⟨T,U,Ob,ra,K,L⟩:=fD (s:=1) (bx:=bx) (t:=t) (sn:=1) (v:=w) h hc H (c1:=Gj c fs f B (c.live - 1)) rfl (O.un (g:=f1 f) rfl) O.len rfl (fun W w' z A X=>by
   rw [← l] at z;cases z;rw [N.hu] at A;cases A;exact ⟨.inl ⟨rfl,by obtain ⟨a,b,x⟩:=G;exact ⟨a,b,x⟩⟩,Wa⟩)
  refine ⟨_,ra,K,?_⟩;rcases L with ⟨a,y,x⟩ | x
  ·exact .inr (.inr ⟨a,us,y,x⟩)
  ·exact .inr (.inl x)
end
end Go.Y
namespace Go.Y
open Go.Ab Go.jc
variable {m:sb}{Va:kh}{us:List Int}{Sb:List Mc}
theorem HD {s:gg}(h:(ai m s).2.2=0):s.2=0∧∃ t v,s.1=(Ac s).2.1++[t]∧(Ac s).2.2=0∧10≤t∧at_ m.Ya (t - 10)=some v∧v.Kind=3∧ai m s=(some v,(Ac s).2):=by
 unfold ai at h ⊢;by_cases c:(Ac s).2.2≠0
 ·rw [if_pos c] at h;exact absurd h c
 ·rw [if_neg c] at h ⊢;obtain ⟨Ia,Ta⟩:=Zr (Decidable.not_not.1 c);by_cases d:bk m (Ac s).1=true
  ·rw [if_pos d];unfold bk at d;simp only [Bool.and_eq_true,decide_eq_true_eq] at d;obtain ⟨v,Wa,a,-⟩:=qu d.2;exact ⟨Ia,_,v,Ta,Decidable.not_not.1 c,d.1,Wa,a,by rw [DA Wa]⟩
  ·rw [if_neg d] at h;exact (Wl h (by decide)).elim
section
variable {p:xc}{kd:List Nat}{c:se}{fs:List pb}{f:pb}{ws:List Int}{o:Option Int}{loc st:List Int}{u:Xc}{i:ud}{bc:List Int}{hs:List Bool}{bx t:Int}
theorem rp.of {q:xc×Int×Int×Int}{a:xc}{b Ob:Int}(e:q=(a,b,bx,Ob)) (h:a.now<a.cs.length) (g:b=1∧(∃ c d,cj m Va c a [] d)∨b=5):rp m Va bx q:=by
 subst e;exact ⟨h,by rcases g with g | g;exact .inr (.inr g);exact .inr (.inl g)⟩
theorem RH (O:Op m Va us c fs f ws o loc st u i bc hs) (R:Ug m Va) (h:cj m Va us p [] kd) (hc:p.cs[p.now]?=some c) (l:c.state=2) (j:i.Op=32):∃ q,Eh m (p.put { c with fr:=fs++[f1 f] }) 1 bx t i=some q∧rp m Va bx q:=by
 have N:=O.ab;have k:=N.ok;have e:Ad m u i (bc,0) hs=af (ai m (bc,0)).2 2:=by unfold Ad;simp [j]
 rw [e] at k;obtain ⟨Ia,Ta⟩:=lk k;obtain ⟨-,ty,v,n,K,r,Wa,L,yj⟩:=HD Ia;rw [yj] at Ta;obtain ⟨M,w,b,rfl,y,hw,z,A⟩:=O.pop (bx:=bx) (t:=t) n;obtain ⟨w0,Lj⟩:=hw r;have B:w.toNat<p.cs.length:=by rw [← h.len];exact (List.getElem?_eq_some_iff.1 Lj).1
 have C:Hi m Va us (Gj c fs f b (c.live - 1)) [2]:=O.await ⟨by omega,by omega,by omega⟩ (by omega) (by rw [e,yj];exact Ta) y A;have D:=h.pq (c':=Gj c fs f b (c.live - 1)) hc l rfl (O.un (g:=f1 f) rfl) O.len C;obtain ⟨d,Qa⟩:∃ d,(p.put (Gj c fs f b (c.live - 1))).cs[w.toNat]?=some d:=⟨_,List.getElem?_eq_getElem (by simpa [xc.put] using B)⟩;rw [Eh,if_neg (by omega),if_neg (by omega),if_neg (by omega),if_neg (by omega),if_pos j,Ux O,nw hc z,Ha];simp only;rw [if_neg (by omega),Qa,Ha];obtain ⟨x,F⟩:∃ x,jl (decide (d.state≠3))=some x:=by cases decide (d.state≠3)<;>exact ⟨_,rfl⟩
 rw [F,Ha];obtain ⟨P,Q,Ob,ra,G,H⟩:=D.push (s:=1) (bx:=bx) (t:=t) (v:=x) (bj.plain (.inr rfl));refine ⟨_,ra,.of rfl G ?_⟩;rcases H with ⟨a,-,x⟩ | x
 ·exact .inl ⟨a,us,kd,x⟩
 ·exact .inr x
theorem MG (O:Op m Va us c fs f ws o loc st u i bc hs) (R:Ug m Va) (h:cj m Va us p [] kd) (hc:p.cs[p.now]?=some c) (X:c.state=2) (H:i.Op=30):∃ q,Eh m (p.put { c with fr:=fs++[f1 f] }) 1 bx t i=some q∧rp m Va bx q:=by
 have N:=O.ab;have r:=N.ok;have e:Ad m u i (bc,0) hs=match ai m (Ac (bc,0)).2 with
  | (some x,w)=>af (w.1,if (Ac (bc,0)).1≠x.je then Fe w.2 9 else w.2) x.Result
  | (none,w)=>w:=by unfold Ad; simp [H] <;> rfl
 have Y:(ai m (Ac (bc,0)).2).2.2=0∧∃ x,(ai m (Ac (bc,0)).2).1=some x∧(Ac (bc,0)).1=x.je:=by
  rw [e] at r;cases yj:ai m (Ac (bc,0)).2 with
  | mk a w =>
   rw [yj] at r;cases a with
   | none =>
    exfalso;unfold ai at yj;split at yj
    ·rename_i k;rw [← (Prod.mk.inj yj).2] at r;exact k r
    ·split at yj
     ·cases (Prod.mk.inj yj).1
     ·rw [← (Prod.mk.inj yj).2] at r;exact Wl r (by decide)
   | some x =>
    obtain ⟨Ia,-⟩:=lk r;simp only at Ia;split at Ia
    ·exact (Wl Ia (by decide)).elim
    ·rename_i k;exact ⟨Ia,x,rfl,Decidable.not_not.1 k⟩
 obtain ⟨g0,x,K,gt⟩:=Y;obtain ⟨Ia,ty,v,L,be,Z,Wa,gc,yj⟩:=HD g0;obtain ⟨-,C⟩:=Zr Ia;rw [yj] at K;obtain rfl:v=x:=Option.some.inj K;have lc:(Ad m u i (bc,0) hs).1=(Ac (Ac (bc,0)).2).2.1++[v.Result]:=by
  rw [e] at r ⊢;rw [yj] at r ⊢;exact (lk r).2
 simp only at C L;rw [L] at C;obtain ⟨ce,ge,le,rfl,rc,M,fd,id⟩:=O.pop (bx:=bx) (t:=t) C;obtain ⟨ne,n,D,rfl,md,rd,td,wd⟩:=BC (bx:=bx) (t:=t) id rc;rw [gt] at M;obtain ⟨w0,Lj⟩:=rd Z;have Fd:Hi m Va us (Gj c fs f D (c.live - 1 - 1)) [v.Result]:=O.await ⟨by omega,by omega,by omega⟩ (by omega) lc md wd;have l:=h.pq (c':=Gj c fs f D (c.live - 1 - 1)) hc X rfl (O.un (g:=f1 f) rfl) O.len Fd;rw [Eh,if_neg (by omega),if_neg (by omega),if_pos H,Ux O,nw hc fd,Ha];simp only;rw [nw hc td,Ha];simp only;rw [if_neg (by omega)];generalize Ne:p.put (Gj c fs f D (c.live - 1 - 1))=Ta at l ⊢;have P:n.toNat<Ta.cs.length:=by rw [← l.len];exact (List.getElem?_eq_some_iff.1 Lj).1
 have Qa:Ta.cs[n.toNat]?=some Ta.cs[n.toNat]:=List.getElem?_eq_getElem P;generalize Ta.cs[n.toNat]=d at Qa;have Q:Ta.now<Ta.cs.length:=l.path.lt;rw [Dt,Qa,Ha];by_cases d3:d.state=3
 ·rw [if_pos d3,Tk,if_pos (by decide),Aj,Ha,Ha];exact ⟨_,rfl,.of rfl Q (.inr rfl)⟩
 rw [if_neg d3];by_cases d2:d.state=2
 ·rw [if_pos d2,Tk,if_pos (by decide),Aj,Ha,Ha];exact ⟨_,rfl,.of rfl Q (.inr rfl)⟩
 rw [if_neg d2];have F:n.toNat ∉ kd:=fun B=>by
  obtain ⟨wf,ra,G⟩:=l.path.OM _ B;rw [Qa] at ra;cases ra;exact d2 G
 obtain ⟨If,k,dg,S,T,rg,U⟩:=l.off _ _ Qa F;rw [Lj] at S;cases S;rw [Wa] at T;cases T;have W:∀ Mf,Hi m Va us { d with state:=2,up:=some Ta.now } Mf→cj m Va us ⟨Ta.cs.set n.toNat { d with state:=2,up:=some Ta.now },n.toNat⟩ Mf (n.toNat::kd):=by
  intro Mf y;refine ⟨.up (Jn Qa) rfl rfl y Lj Wa gc (l.path.off F) F,by simpa using l.len,fun j A he=>?_,fun j A he=>?_,fun j A he B=>?_⟩
  ·by_cases q:j=n.toNat
   ·subst q;rw [Jn Qa] at he;cases he;have:=l.un _ _ Qa;exact this
   ·rw [List.getElem?_set_ne (fun x=>q x.symm)] at he;exact l.un j A he
  ·by_cases q:j=n.toNat
   ·subst q;rw [Jn Qa] at he;cases he;have:=l.Vf _ _ Qa;exact this
   ·rw [List.getElem?_set_ne (fun x=>q x.symm)] at he;exact l.Vf j A he
  ·have q:j≠n.toNat:=fun x=>B (by simp [x]);rw [List.getElem?_set_ne (fun x=>q x.symm)] at he;exact l.off j A he (fun x=>B (List.mem_cons_of_mem _ x))
 by_cases d0:d.state=0
 ·rw [if_pos d0];have y:Hi m Va us d []:=by rcases U with ⟨a,b⟩ | ⟨a,b⟩ | a;exact b;omega;omega
  refine ⟨_,rfl,.of rfl (by simpa using P) (.inl ⟨rfl,us,_,W [] ?_⟩)⟩;obtain ⟨a,b,z⟩:=y;exact ⟨a,b,z⟩
 ·rw [if_neg d0];have y:Hi m Va us d [v.je]:=by rcases U with ⟨a,b⟩ | ⟨a,b⟩ | a;omega;exact b;omega
  obtain ⟨bi,w,Ob,ra,G,Id⟩:=(W [v.je] (by obtain ⟨a,b,z⟩:=y;exact ⟨a,b,z⟩)).push (s:=1) (bx:=bx) (t:=t) M;refine ⟨_,ra,.of rfl G ?_⟩;rcases Id with ⟨a,-,x⟩ | x
  ·exact .inl ⟨a,us,_,x⟩
  ·exact .inr x
end
end Go.Y
namespace Go.Y
open Go.Ab Go.jc
variable {m:sb}{Va:kh}{us:List Int}{Sb:List Mc}
theorem BJ {l ws vs:List Int}{live bx t:Int}(h:vg l live (ws++vs)):∃ a,ku 1 bx t l live 8 400 (vs.length:Int)=some (vs,1,bx,t,a,live - vs.length,8,400)∧vg a (live - vs.length) ws:=by
 obtain ⟨a,e,d⟩:=Lz h;refine ⟨a,?_,d⟩;have b:=h.live;have hle:=h.le;have g:=h.Pa;simp only [List.length_append] at b hle;have ra:Tt l live 8 400=some (ws++vs):=by
  have c:=h.take;rw [List.length_append] at c;have Fa:cut l 0 live=some (ws++vs):=by
   unfold cut;rw [if_pos (by omega),b];simp only [Int.toNat_natCast,Int.toNat_zero,List.drop_zero];rw [c]
  rw [Tt,Fa,Ha,app,if_pos (by simp;omega),Ha];rfl
 have f:cut (ws++vs) (live - vs.length) ((ws++vs).length:Int)=some vs:=by
  unfold cut;rw [if_pos (by simp;omega),Int.toNat_natCast,List.take_length,show live - (vs.length:Int)=(ws.length:Int) by omega,Int.toNat_natCast,List.drop_left]
 rw [ku,ra,Ha,Qm,Ha,Af (by omega),Ha,f,Ha,e,Ha]
theorem CJ {k:Int}{args:List Int}{v:Xc}(r:v.Gc.length≤200) (s:args.length≤v.Gc.length):∀ (n j:Nat) (st:Int) (l:List Int) (live:Int),j≤v.Gc.length→v.Gc.length<n+j→vg l live ((args++List.replicate (v.Gc.length - args.length) 0).take j) →
  ∃ b,vn k args v n j live 8 400 l=some b∧b.1=0∧b.2.1=[⟨k,0,0⟩]∧b.2.2.2.2.1=8∧b.2.2.2.2.2=400∧vg b.2.2.1 b.2.2.2.1 (args++List.replicate (v.Gc.length - args.length) 0):=by
 intro n
 induction n with
 | zero=>intro j st l live f g; omega
 | succ n h =>
  intro j st l live f g a;have i:(args++List.replicate (v.Gc.length - args.length) (0:Int)).length=v.Gc.length:=by simp;omega
  rw [vn];by_cases d:(j:Int)<v.Gc.length
  ·rw [if_pos d];have m:j<(args++List.replicate (v.Gc.length - args.length) (0:Int)).length:=by rw [i];omega
   have step:∀ w,(args++List.replicate (v.Gc.length - args.length) (0:Int))[j]=w→∃ b,Qq (j:Int) live 8 400 l (vn k args v n) w=some b∧b.1=0∧b.2.1=[⟨k,0,0⟩]∧b.2.2.2.2.1=8∧b.2.2.2.2.2=400∧vg b.2.2.1 b.2.2.2.1 (args++List.replicate (v.Gc.length - args.length) 0):=by
    intro w hw;obtain ⟨o,e,p⟩:=zC (v:=w) a (by rw [List.length_take];omega);rw [Qq,e,Ha,Af (by omega),Ha];have q:(j:Int)+1=((j+1:Nat):Int):=by omega
    simp only;rw [q];refine h (j+1) st o _ (by omega) (by omega) ?_;rw [List.take_succ_eq_append_getElem m,hw];exact p
   by_cases d2:(j:Int)<args.length
   ·have c:j<args.length:=by omega
    rw [if_pos d2,gn,List.getElem?_eq_getElem c,Ha];exact step _ (List.getElem_append_left c)
   ·rw [if_neg d2];exact step 0 (by rw [List.getElem_append_right (by omega)];simp)
  ·rw [if_neg d];rw [List.take_of_length_le (by omega)] at a;exact ⟨_,rfl,rfl,rfl,rfl,rfl,a⟩
theorem fC {k:Int}{args:List Int}{v:Xc}(Wa:at_ m.Ya k=some v) (a:v.Gc.length≤200) (c:args.length≤v.Gc.length):∃ b,Dr m k args=some b∧b.1=0∧b.2.1=[⟨k,0,0⟩]∧b.2.2.2.2.1=8∧b.2.2.2.2.2=400∧vg b.2.2.1 b.2.2.2.1 (args++List.replicate (v.Gc.length - args.length) 0):=by
 have d:cl 8=some 8:=by unfold cl;rw [if_pos (by decide)];rfl
 rw [Dr,mx,d,Ha,Ha,Wa,Ha];exact CJ (k:=k) a c (v.Gc.length+1) 0 0 _ 0 (by omega) (by omega) ⟨by simp,by simp,by simp,by simp,by simp⟩
section
variable {p:xc}{kd:List Nat}{c:se}{fs:List pb}{f:pb}{ws:List Int}{o:Option Int}{loc st:List Int}{u:Xc}{i:ud}{bc:List Int}{hs:List Bool}{bx t:Int}
theorem SH (O:Op m Va us c fs f ws o loc st u i bc hs) (R:Ug m Va) (h:cj m Va us p [] kd) (hc:p.cs[p.now]?=some c) (S:c.state=2) (D:i.Op=29):∃ q,Eh m (p.put { c with fr:=fs++[f1 f] }) 1 bx t i=some q∧rp m Va bx q:=by
 have N:=O.ab;have G:=N.ok;obtain ⟨v,Wa,H,T⟩:=qu (N.nn.2.2.2.2.2.1 D);have e:Ad m u i (bc,0) hs=af (cp v (bc,0)) (10+i.A):=by unfold Ad;simp [D,DA Wa]
 rw [e] at G;obtain ⟨Ia,Ta⟩:=lk G;unfold cp at Ia Ta e;obtain ⟨-,F⟩:=Vk _ _ Ia;rw [List.reverse_reverse] at F;simp only at F;have Qa:=(R.form.2.2.1 v T).1;have hw:=N.ws;rw [F] at hw;obtain ⟨wf,args,rfl,U,K⟩:=hw.split;have W:(args.length:Int)=v.Params:=by
  have X:=K.1;have If:=Qa.2.1;rw [List.length_take] at X;omega
 have L:=O.Am;rw [← List.append_assoc,← List.append_assoc] at L;obtain ⟨C,Y,M⟩:=BJ (bx:=bx) (t:=t) L;rw [List.append_assoc] at M;have Z:Hi m Va us (Gj c fs f C (c.live - args.length)) [10+i.A]:=O.await ⟨by omega,by omega,by omega⟩ (by omega) (by rw [e];exact Ta) U M;have n:=h.pq (c':=Gj c fs f C (c.live - args.length)) hc S rfl (O.un (g:=f1 f) rfl) O.len Z;have gc:Zw (p.put (Gj c fs f c.l c.live)) 1 bx t v.Params=some (args,p.put (Gj c fs f C (c.live - args.length)),1,bx,t):=by
  rw [Zw,ux hc,Ha];simp only [Gj];rw [← W,Y,Ha,eD]
 rw [Eh,if_neg (by omega),if_pos D,Ux O,uz,Wa,Ha,gc,Ha];simp only;generalize p.put (Gj c fs f C (c.live - args.length))=Ta at n ⊢;have lc:Ta.now<Ta.cs.length:=n.path.lt;by_cases d:(30:Int)<Ta.length
 ·rw [if_pos d,Tk,if_pos (by decide),Aj,Ha,Ha];exact ⟨_,rfl,.of rfl lc (.inr rfl)⟩
 rw [if_neg d];have rc:=Qa.2.1;obtain ⟨b,fd,V,Ke,eb,sf,id⟩:=fC (m:=m) (k:=i.A) (args:=args) Wa rc.1 (by omega);have hlen:Ta.cs.length≤30:=by unfold xc.length at d;omega
 rw [fd,Ha,Aj,Ha,Af (by simp;omega),Ha];have md:∃ g,lj (se.mk b.1 none b.2.1 b.2.2.1 b.2.2.2.1 b.2.2.2.2.1 b.2.2.2.2.2)=some i.A∧g=(se.mk b.1 none b.2.1 b.2.2.1 b.2.2.2.1 b.2.2.2.2.1 b.2.2.2.2.2):=⟨_,by unfold lj;rw [Ke];rfl,rfl⟩;obtain ⟨g,P,y⟩:=md;rw [← y] at P ⊢;have rd:v.Gc.length - args.length=v.Gc.length - v.Params.toNat:=by omega
 have td:Hi m Va (us++[i.A]) g []:=by
  have:=yz (us:=us++[i.A]) R Wa Qa K.mono (b:=0) (o':=none) (by simp [H]) (fun r h=>by cases h);rw [y];refine ⟨eb,sf,[],[],none,_,_,[],?_,.nil,this,?_⟩
  ·show b.2.1=_;rw [Ke];rfl
  ·rw [← rd];simpa using id
 have wd:cj m Va (us++[i.A]) ⟨Ta.cs++[g],Ta.now⟩ [10+i.A] kd:=by
  refine ⟨n.path.mono,by simp [n.len],fun j B he=>?_,fun j B he=>?_,fun j B he Fd=>?_⟩
  ·by_cases q:j<Ta.cs.length
   ·rw [List.getElem?_append_left q] at he;rw [List.getElem?_append_left (by rw [n.len];exact q)];exact n.un j B he
   ·rw [List.getElem?_append_right (by omega)] at he;have w:j - Ta.cs.length=0:=by have:=(List.getElem?_eq_some_iff.1 he).1;simp at this;omega
    rw [w] at he;cases he;rw [List.getElem?_append_right (by rw [n.len];omega),n.len,w];exact P
  ·by_cases q:j<Ta.cs.length
   ·rw [List.getElem?_append_left q] at he;exact n.Vf j B he
   ·rw [List.getElem?_append_right (by omega)] at he;have w:j - Ta.cs.length=0:=by have:=(List.getElem?_eq_some_iff.1 he).1;simp at this;omega
    rw [w] at he;cases he;rw [y];show b.2.1.length≤40;rw [Ke];simp
  ·by_cases q:j<Ta.cs.length
   ·rw [List.getElem?_append_left q] at he;obtain ⟨x1,k,Id,Q,be,ce,ge⟩:=n.off j B he Fd;refine ⟨x1,k,Id,by rw [List.getElem?_append_left (List.getElem?_eq_some_iff.1 Q).1];exact Q,be,ce,?_⟩;rcases ge with ⟨a,z⟩ | ⟨a,z⟩ | a
    ·exact .inl ⟨a,z.mono⟩
    ·exact .inr (.inl ⟨a,z.mono⟩)
    ·exact .inr (.inr a)
   ·rw [List.getElem?_append_right (by omega)] at he;have w:j - Ta.cs.length=0:=by have:=(List.getElem?_eq_some_iff.1 he).1;simp at this;omega
    rw [w] at he;cases he;refine ⟨by rw [y],i.A,v,by rw [List.getElem?_append_right (by rw [n.len];omega),n.len,w];rfl,Wa,H,.inl ⟨by rw [y];exact V,td⟩⟩
 obtain ⟨dg,rg,Ob,ra,le,ne⟩:=wd.push (s:=1) (bx:=bx) (t:=t) (v:=(Ta.cs.length:Int)) (fun _=>⟨by omega,by
  rw [Int.toNat_natCast,← n.len,List.getElem?_append_right (Nat.le_refl _)];simp;omega⟩)
 have Ne:(((Ta.cs++[g]).length:Nat):Int) - 1=(Ta.cs.length:Int):=by simp
 rw [Ne,ra];refine ⟨_,rfl,.of rfl le ?_⟩;rcases ne with ⟨a,-,x⟩ | x
 ·exact .inl ⟨a,_,_,x⟩
 ·exact .inr x
theorem oL (O:Op m Va us c fs f ws o loc st u i bc hs) (R:Ug m Va) (h:cj m Va us p [] kd) (hc:p.cs[p.now]?=some c) (a:c.state=2) (b:Rs i):∃ q,Eh m (p.put { c with fr:=fs++[f1 f] }) 1 bx t i=some q∧rp m Va bx q:=by
 have g:=O.ab.nn.1;rcases b with k | k
 ·exact nL O R h hc k
 ·by_cases k1:i.Op=29
  ·exact SH O R h hc a k1
  ·by_cases d:i.Op=30
   ·exact MG O R h hc a d
   ·by_cases e:i.Op=31
    ·exact QH O R h hc e
    ·exact RH O R h hc a (by omega)
end
end Go.Y
namespace Go.Y
open Go.Ab Go.jc
variable {m:sb}{Va:kh}{us:List Int}{Sb:List Mc}
def Wn (m:sb) (Va:kh) (p:xc) (s:Int):Prop:=p.now<p.cs.length∧(s=4∨s=5∨s≤3∧∃ us kd,cj m Va us p [] kd)
theorem Mw {p:xc}{c:se}(h:p.cs[p.now]?=some c):p.put c=p:=by
 obtain ⟨b,a⟩:=List.getElem?_eq_some_iff.1 h;unfold xc.put;rw [← a,List.set_getElem_self]
theorem TH {p:xc}{s bx t:Int}{i:ud}(h:1≤i.Op∧i.Op≤32) (a:¬ Rs i):Eh m p s bx t i=none:=by
 unfold Rs at a;rw [Eh,if_neg (by omega),if_neg (by omega),if_neg (by omega),if_neg (by omega),if_neg (by omega)]
theorem CC (R:Ug m Va) (j:wi m Sb){p:xc}{s bx t:Int}(h:Wn m Va p s):∃ a Dg,Kr m p s bx t Sb=some (p,a,Dg,t,Sb)∧Wn m Va p a∧(a≤3→Vb Sb a Dg)∧(s≤3→a≤3):=by
 obtain ⟨b,g⟩:=h;by_cases hs:s≤3
 ·rcases g with h | h | ⟨-,us,kd,d⟩
  ·omega
  ·omega
  ·obtain ⟨c,hc,c2,k⟩:=d.at
   obtain ⟨fs,f,ws,o,loc,st,u,i,bc,l,O,a,Dg,ra,e,-⟩:=eE R j k (d.Vf _ _ hc) (s:=s) (bx:=bx) (t:=t) hs;refine ⟨a,Dg,?_,⟨b,.inr (.inr ⟨e.le,us,kd,d⟩)⟩,fun _=>e,fun _=>e.le⟩;rw [Kr,hc,Ha,ra,Ha];simp only;rw [Mw hc]
 ·have hc:p.cs[p.now]?=some p.cs[p.now]:=List.getElem?_eq_getElem b;refine ⟨s,bx,?_,⟨b,g⟩,fun h=>absurd h hs,fun h=>absurd h hs⟩;rw [Kr,hc,Ha,Lw hs,Ha];simp only;rw [Mw hc]
theorem UH (R:Ug m Va) (e:wi m Sb){p:xc}{s bx t:Int}{out:List Int}(h:Wn m Va p s) (A:out.length≤100000):∃ q y g Dg Ob out' Lh,Mo m p s bx t out Sb=some (q,y,g,Dg,Ob,out',Lh)∧Wn m Va y g∧wi m Lh∧out'.length≤out.length+(if q=true then 1 else 0):=by
 obtain ⟨n,B⟩:=id h;have v:p.cs[p.now]?=some p.cs[p.now]:=List.getElem?_eq_getElem n;by_cases hs:s≤3
 ·rcases B with h | h | ⟨-,us,kd,j⟩
  ·omega
  ·omega
  ·obtain ⟨c,hc,c2,C⟩:=j.at
   have D:=j.Vf _ _ hc;obtain ⟨fs,f,ws,o,loc,st,u,i,bc,X,O,g,Dg,ra,F,G⟩:=eE R e C D (s:=s) (bx:=bx) (t:=t) hs;by_cases k:g=1
   ·subst k;have Y:c.fr.length=fs.length+1:=by rw [O.fr];simp
    by_cases w:Rs i
    ·obtain ⟨q,eq,H⟩:=oL (bx:=Dg) (t:=t) O R j hc c2 w;obtain ⟨K,L⟩:=H;have M:Wn m Va q.1 q.2.1:=⟨K,by rcases L with a | a | ⟨a,N,P,x⟩;exact .inl a;exact .inr (.inl a);exact .inr (.inr ⟨by omega,N,P,x⟩)⟩;obtain ⟨s2,l,Q,g1,-,-⟩:=CC R e (bx:=q.2.2.1) (t:=q.2.2.2) M;have d:qm m p s bx t out Sb=some (true,q.1,s2,l,q.2.2.2,out,Sb):=by
      rw [qm,hc,Ha,ra,Ha,if_neg (by simp)];simp only;rw [O.fr,Ls,Af (by omega),Ha,Nl,Ha,Et];simp only;rw [Nl,Ha,O.ab.hu,Ha,O.ab.Pa,Ha,Af (by have:=O.ab.ey;omega),Ha,Hn];have z:=eq;simp only [f1] at z;rw [z,Ha,Q,Ha]
     exact ⟨true,q.1,s2,l,q.2.2.2,out,Sb,by rw [Mo,d],g1,e,by simp⟩
    ·obtain ⟨r,er,Lh,s2,l,t2,S,T,U,W,rfl,g1,g2,g3,g4,g5⟩:=zJ O R e ra (G rfl) A w;have d:qm m p s bx t out Sb=none:=by
      rw [qm,hc,Ha,ra,Ha,if_neg (by simp)];simp only;rw [O.fr,Ls,Af (by omega),Ha,Nl,Ha,Et];simp only;rw [Nl,Ha,O.ab.hu,Ha,O.ab.Pa,Ha,Af (by have:=O.ab.ey;omega),Ha,TH O.ab.nn.1 w];rfl
     refine ⟨true,p.put ⟨c.state,c.up,T,U,W,8,400⟩,s2,l,t2,S,Lh,by rw [Mo,d,Ut,hc,Ha,er,Ha],⟨by simpa [xc.put] using n,?_⟩,g1,by rw [if_pos rfl];exact g2⟩;rcases g5 with a | ⟨a,b⟩
     ·exact .inr (.inl a)
     ·exact .inr (.inr ⟨a.le,us,kd,j.pq hc c2 rfl g4 g3 b⟩)
   ·have d:qm m p s bx t out Sb=none:=by rw [qm,hc,Ha,ra,Ha,if_pos k]
    refine ⟨false,p,g,Dg,t,out,Sb,?_,⟨n,.inr (.inr ⟨F.le,us,kd,j⟩)⟩,e,by simp⟩;rw [Mo,d,Ut,hc,Ha,OH O ra k,Ha];simp only;rw [Mw hc]
 ·have d:qm m p s bx t out Sb=none:=by rw [qm,v,Ha,Lw hs,Ha,if_pos (by simp;omega)]
  refine ⟨false,p,s,bx,t,out,Sb,?_,h,e,by simp⟩;rw [Mo,d,Ut,v,Ha,Ko,Lw hs,Ha,if_pos (by simp;omega),Ha];simp only;rw [Mw v]
end Go.Y
namespace Go.Y
open Go.Ab Go.jc
variable {m:sb}{Va:kh}
structure Qi (m:sb) (Va:kh) (x:ed) (n:Nat):Prop where
 El:x.m=m
 Sb:wi m x.boxes
 mn:∀ k ∈ x.tasks,Wn m Va k.Hk k.s∧k.out.length≤n
theorem Qi.look {x:ed}{n:Nat}(R:Ug m Va) (h:Qi m Va x n){i:Int}(c:0≤i) (d:i<x.tasks.length):∃ k a,at_ x.tasks i=some k∧Yp x i=some { x with tasks:=x.tasks.set i.toNat a }∧Qi m Va { x with tasks:=x.tasks.set i.toNat a } n∧(a.s≤3→Vb x.boxes a.s a.bx)∧a.out=k.out:=by
 obtain ⟨k,b,mk⟩:=ck (l:=x.tasks) c d;obtain ⟨g,go⟩:=h.mn k mk;obtain ⟨f,Dg,e,j,g2,-⟩:=CC R h.Sb (bx:=k.bx) (t:=k.t) g;refine ⟨k,{ k with s:=f,bx:=Dg },b,?_,⟨h.El,h.Sb,fun a o=>?_⟩,g2,rfl⟩
 ·rw [Yp,b,Ha,h.El,e,Ha]
 ·rcases List.mem_or_eq_of_mem_set o with q | rfl
  ·exact h.mn a q
  ·exact ⟨j,go⟩
theorem Qi.step {x:ed}{n:Nat}(R:Ug m Va) (h:Qi m Va x n) (w:n≤100000){i:Int}(d:0≤i) (f:i<x.tasks.length):∃ q c,lu x i=some (q,c)∧Qi m Va c (n+if q=true then 1 else 0)∧c.tasks.length=x.tasks.length∧c.m=x.m:=by
 obtain ⟨k,j,mk⟩:=ck (l:=x.tasks) d f;obtain ⟨g,go⟩:=h.mn k mk;obtain ⟨q,o,p,Dg,Ob,out',Lh,e,r,s,y⟩:=UH R h.Sb (bx:=k.bx) (t:=k.t) g (by omega:k.out.length≤100000);refine ⟨q,{ x with tasks:=x.tasks.set i.toNat ⟨o,p,Dg,Ob,out'⟩,boxes:=Lh },by rw [lu,j,Ha,h.El,e,Ha],⟨h.El,s,fun u v=>?_⟩,by simp,rfl⟩;rcases List.mem_or_eq_of_mem_set v with z | rfl
 ·obtain ⟨a,b⟩:=h.mn u z;exact ⟨a,by omega⟩
 ·exact ⟨r,by show out'.length≤n+_;omega⟩
end Go.Y
namespace Go.Y
open Go.Ab Go.jc
variable {m:sb}{Va:kh}
theorem DC:∀ (Jc:List np) (acc:List Mc),(∀ b ∈ Jc,1≤b.cg∧b.cg≤20)→acc.length+Jc.length≤1000→(∀ b ∈ acc,dj b)→∃ r,Bp Jc acc=some r∧r.length=acc.length+Jc.length∧∀ b ∈ r,dj b
 | [],acc,_,_,h=>⟨acc,rfl,rfl,h⟩
 | b::Jc,acc,c,d,h=>by
  have hc:=c b (List.mem_cons_self ..);have e:cl b.cg=some b.cg.toNat:=by unfold cl;rw [if_pos (by omega)]
  rw [List.length_cons] at d;obtain ⟨r,ra,f,g⟩:=DC Jc (acc++[⟨List.replicate b.cg.toNat 0,0,0⟩]) (fun x a=>c x (List.mem_cons_of_mem _ a)) (by simp;omega) (fun x a=>by
   rcases List.mem_append.1 a with q | q
   ·exact h x q
   ·obtain rfl:=List.mem_singleton.1 q;exact ⟨by simp;omega,by simp;omega,by simp,by simp;omega,by simp,by simp;omega⟩)
  refine ⟨r,?_,by rw [f];simp;omega,g⟩;rw [Bp,nx,e,Ha,Ha];simp only;rw [if_neg (by omega),ra]
theorem VH (h:m.Ya.length≤30):∀ (n i:Nat) (acc:List Int),i≤m.Ya.length→m.Ya.length<n+i→acc.length≤i→(∀ u ∈ acc,∃ v,at_ m.Ya u=some v∧v.Kind=4)→∃ us,tn m n i acc=some us∧us.length≤30∧∀ u ∈ us,∃ v,at_ m.Ya u=some v∧v.Kind=4:=by
 intro n
 induction n with
 | zero=>intro i acc f g; omega
 | succ n b =>
  intro i acc f g j a;rw [tn];by_cases d:(i:Int)<m.Ya.length
  ·have Pa:i<m.Ya.length:=by omega
   have c:at_ m.Ya (i:Int)=some m.Ya[i]:=by rw [gn,List.getElem?_eq_getElem Pa]
   rw [if_pos d,c,Ha];have e:(i:Int)+1=((i+1:Nat):Int):=by omega
   by_cases k:m.Ya[i].Kind=4
   ·rw [if_pos k,app,if_pos (by simp;omega),Ha,Af (by omega),Ha,e];refine b (i+1) _ Pa (by omega) (by simp;omega) fun u hu=>?_;rcases List.mem_append.1 hu with q | q
    ·exact a u q
    ·obtain rfl:=List.mem_singleton.1 q;exact ⟨_,c,k⟩
   ·rw [if_neg k,Af (by omega),Ha,e];exact b (i+1) acc Pa (by omega) (by omega) a
  ·rw [if_neg d];exact ⟨acc,rfl,by omega,a⟩
theorem pL (R:Ug m Va){u:Int}{v:Xc}(Wa:at_ m.Ya u=some v) (d:v.Kind=4):∃ p,wu m u=some (p,1,0,0,[])∧Wn m Va p 1:=by
 obtain ⟨g,-⟩:=at_mem Wa;have Qa:=(R.form.2.2.1 v g).1;have e:=Qa.2.1;have f:v.Params.toNat=0:=by have:=e.2.2.2.2 d;omega
 obtain ⟨b,i,V,Ke,eb,sf,l⟩:=fC (m:=m) (k:=u) (args:=[]) Wa e.1 (by simp);refine ⟨_,by rw [wu,i,Ha],by simp,.inr (.inr ⟨by decide,[u],[0],?_⟩)⟩;have n:=yz (us:=[u]) R Wa Qa (args:=[]) (by rw [f];exact .nil) (b:=0) (o':=none) (by simp [d]) (fun r h=>by cases h);have o:Hi m Va [u] (se.mk 2 none b.2.1 b.2.2.1 b.2.2.2.1 b.2.2.2.2.1 b.2.2.2.2.2) []:=by
  refine ⟨eb,sf,[],[],none,_,_,[],?_,.nil,n,?_⟩
  ·show b.2.1=_;rw [Ke];rfl
  ·rw [f];simpa using l
 refine ⟨.own rfl rfl rfl o rfl Wa d,rfl,fun j c hc=>?_,fun j c hc=>?_,fun j c hc a=>?_⟩
 ·have a:j=0:=by have:=(List.getElem?_eq_some_iff.1 hc).1;simp at this;exact this
  subst a;cases hc;unfold lj;rw [Ke];rfl
 ·have a:j=0:=by have:=(List.getElem?_eq_some_iff.1 hc).1;simp at this;exact this
  subst a;cases hc;show b.2.1.length≤40;rw [Ke];simp
 ·have:j=0:=by have:=(List.getElem?_eq_some_iff.1 hc).1;simp at this;exact this
  exact absurd this (by simpa using a)
theorem gC (R:Ug m Va):∀ (us:List Int) (acc:List Dk),(∀ u ∈ us,∃ v,at_ m.Ya u=some v∧v.Kind=4)→acc.length+us.length≤1000→(∀ k ∈ acc,Wn m Va k.Hk k.s∧k.out.length≤0)→∃ r,Cp m us acc=some r∧r.length=acc.length+us.length∧∀ k ∈ r,Wn m Va k.Hk k.s∧k.out.length≤0
 | [],acc,_,_,h=>⟨acc,rfl,rfl,h⟩
 | u::us,acc,hu,b,h=>by
  obtain ⟨v,Wa,c⟩:=hu u (List.mem_cons_self ..);obtain ⟨p,e,g⟩:=pL R Wa c;rw [List.length_cons] at b;obtain ⟨r,ra,d,f⟩:=gC R us (acc++[⟨p,1,0,0,[]⟩]) (fun x a=>hu x (List.mem_cons_of_mem _ a)) (by simp;omega) (fun x a=>by
   rcases List.mem_append.1 a with q | q
   ·exact h x q
   ·obtain rfl:=List.mem_singleton.1 q;exact ⟨g,by simp⟩)
  refine ⟨r,?_,by rw [d];simp;omega,f⟩;rw [Cp,e,Ha];simp only;rw [if_neg (by omega),ra]
theorem NG (R:Ug m Va):∃ x us,Vt m=some (x,0)∧Qi m Va x 0∧Up m=some us∧x.tasks.length=us.length∧us.length≤30:=by
 have a:=R.form;have n:=a.1.1;obtain ⟨bx,ra,d,e⟩:=DC m.sc [] (fun b f=>(a.2.1 b f).2) (by simp;omega) (by simp);obtain ⟨us,g,h,i⟩:=VH a.1.2 (m.Ya.length+1) 0 [] (by omega) (by omega) (by simp) (by simp);obtain ⟨ts,j,k,l⟩:=gC R us [] i (by simp;omega) (by simp);have c:Up m=some us:=g;refine ⟨⟨m,ts,bx⟩,us,by rw [Vt,ra,Ha,c,Ha,j,Ha],⟨rfl,⟨by simpa using d,e⟩,l⟩,c,by simpa using k,h⟩
end Go.Y
namespace Go.Y
open Go.Ab Go.jc
variable {m:sb}{Va:kh}
theorem qL (R:Ug m Va){P:xi}(l:0≤P.Task) (y:P.Uk≤10000):∀ (fu:Nat) (k de n:Nat) (x:ed),10001≤fu+k→k≤10000→n≤20000→n=de+k→Qi m Va x n→P.Task<x.tasks.length→∃ (d:tl) (b:ed) (a:Nat),Im P fu (k:Int) (n:Int) x=some (d,b,(a:Int))∧Qi m Va b a∧n≤a∧a≤20000∧b.tasks.length=x.tasks.length∧(d.xf=0→de<a):=by
 intro fu
 induction fu with
 | zero=>intro k de n x o p; omega
 | succ fu r =>
  intro k de n x o p i z c j;rw [Im];have stop:∀ x1,Qi m Va x1 n→x1.tasks.length=x.tasks.length→∃ d b a,xo (k:Int) (n:Int) (Im P fu) false x1=some (d,b,((a:Nat):Int))∧Qi m Va b a∧n≤a∧a≤20000∧b.tasks.length=x.tasks.length∧(d.xf=0→de<a):=by
   intro x1 g1 g2;rw [xo,if_neg (by simp)];by_cases k0:(k:Int)=0
   ·rw [if_pos k0];exact ⟨_,x1,n,rfl,g1,Nat.le_refl _,i,g2,fun h=>by simp at h⟩
   ·rw [if_neg k0];exact ⟨_,x1,n,rfl,g1,Nat.le_refl _,i,g2,fun _=>by omega⟩
  by_cases c1:(k:Int)<P.Uk
  ·rw [if_pos c1];by_cases c2:(n:Int)<20000
   ·rw [if_pos c2];obtain ⟨q,x1,e,g,f,A⟩:=c.step R (by omega) l j;rw [e,Ha];simp only;cases q with
    | false=>exact stop x1 (by simpa using g) f
    | true =>
     rw [xo,if_pos rfl,Af (by omega),Ha,Af (by omega),Ha];have ra:(k:Int)+1=((k+1:Nat):Int):=by omega
     have s:(n:Int)+1=((n+1:Nat):Int):=by omega
     rw [ra,s];obtain ⟨d,b,a,t,r2,B,u,v,w⟩:=r (k+1) de (n+1) x1 (by omega) (by omega) (by omega) (by omega) (by simpa using g) (by rw [f];exact j);exact ⟨d,b,a,t,r2,by omega,u,by rw [v,f],w⟩
   ·rw [if_neg c2];exact stop x c rfl
  ·rw [if_neg c1];exact stop x c rfl
theorem gD (R:Ug m Va){fu:Nat}(B:10001≤fu){P:xi}{n:Nat}{x:ed}(i:Qi m Va x n) (f:n≤20000):∃ d c a,Mr fu x (n:Int) P=some (d,c,((a:Nat):Int))∧Qi m Va c a∧n≤a∧a≤20000∧c.tasks.length=x.tasks.length∧(d.xf=0→n<a):=by
 have o:∀ b:Bool,0≤P.Task→P.Task<x.tasks.length→(b=false→P.Uk≤10000)→∃ d c a,gr fu x P (n:Int) b=some (d,c,((a:Nat):Int))∧Qi m Va c a∧n≤a∧a≤20000∧c.tasks.length=x.tasks.length∧(d.xf=0→n<a):=by
  intro b e p j;rw [gr];cases b with
  | true=>rw [if_pos rfl]; exact ⟨_,x,n,rfl,i,Nat.le_refl _,f,rfl,fun h=>by simp at h⟩
  | false =>
   rw [if_neg (by simp)];obtain ⟨k,l,ra,q,g,-,-⟩:=i.look R e p;have r:at_ (x.tasks.set P.Task.toNat l) P.Task=some l:=by
    rw [kq e,List.getElem?_set_self (by omega)]
   rw [ra,Ha,q,Ha];simp only;rw [r,Ha];by_cases d:l.s≠1
   ·rw [if_pos d];exact ⟨_,_,n,rfl,g,Nat.le_refl _,f,by simp,fun h=>by simp at h⟩
   ·rw [if_neg d];obtain ⟨t,c,a,u,r2,v,w,y,z⟩:=qL R e (j rfl) fu 0 n n _ (by omega) (by omega) f (by omega) g (by simpa using p);exact ⟨t,c,a,u,r2,v,w,by simpa using y,z⟩
 have A:∀ b:Bool,0≤P.Task→(b=false→P.Task<x.tasks.length)→∃ d c a,Pp fu x P (n:Int) b=some (d,c,((a:Nat):Int))∧Qi m Va c a∧n≤a∧a≤20000∧c.tasks.length=x.tasks.length∧(d.xf=0→n<a):=by
  intro b e j;rw [Pp];cases b with
  | true=>rw [if_pos rfl]; exact ⟨_,x,n,rfl,i,Nat.le_refl _,f,rfl,fun h=>by simp at h⟩
  | false =>
   rw [if_neg (by simp)];by_cases d:P.Uk<1
   ·rw [if_pos d];exact o true e (j rfl) (fun h=>by cases h)
   ·rw [if_neg d];exact o _ e (j rfl) (fun h=>by simpa using h)
 rw [Mr];by_cases e:P.Task<0
 ·rw [if_pos e,Pp,if_pos rfl];exact ⟨_,x,n,rfl,i,Nat.le_refl _,f,rfl,fun h=>by simp at h⟩
 ·rw [if_neg e];exact A _ (by omega) (fun h=>by
   have:=of_decide_eq_false h;unfold ed.length at this;omega)
end Go.Y
namespace Go.Y
open Go.Ab Go.jc
variable {m:sb}{Va:kh}
theorem DJ (R:Ug m Va){n:Nat}{x0:ed}{st:Int}(A:x0.tasks.length≤1000):∀ (fu i:Nat) (x:ed) (l:List Int),x0.tasks.length<fu+i→i≤x0.tasks.length→x.tasks.length=x0.tasks.length→x.boxes=x0.boxes→Qi m Va x n→l.length≤i→(∀ k ∈ l,0≤k∧k<x0.tasks.length) →
  ∃ b a,Dp x0 st fu (i:Int) x l=some (b,a,st)∧Qi m Va a n∧a.tasks.length=x0.tasks.length∧a.boxes=x0.boxes∧b.length≤x0.tasks.length∧∀ k ∈ b,0≤k∧k<x0.tasks.length:=by
 intro fu
 induction fu with
 | zero=>intro i x l r t; omega
 | succ fu j =>
  intro i x l r t c e o B f;rw [Dp];have u:(x0.length:Int)=x0.tasks.length:=rfl;by_cases d:(i:Int)<(x0.length:Int)
  ·rw [if_pos d];rw [u] at d;obtain ⟨k,h,ra,v,g,-,-⟩:=o.look R (i:=(i:Int)) (by omega) (by omega);have w:at_ (x.tasks.set (i:Int).toNat h) (i:Int)=some h:=by rw [kq (by omega),List.getElem?_set_self (by omega)]
   rw [ra,Ha,v,Ha];simp only;rw [w,Ha];have p:(i:Int)+1=((i+1:Nat):Int):=by omega
   by_cases q:h.s=1
   ·rw [if_pos q,app,if_pos (by simp;omega),Ha,Af (by omega),Ha,p];exact j (i+1) _ _ (by omega) (by omega) (by simpa using c) e g (by simp;omega) fun k y=>by
     rcases List.mem_append.1 y with z | z
     ·exact f k z
     ·obtain rfl:=List.mem_singleton.1 z;exact ⟨by omega,d⟩
   ·rw [if_neg q,Af (by omega),Ha,p];exact j (i+1) _ _ (by omega) (by omega) (by simpa using c) e g (by omega) f
  ·rw [if_neg d];exact ⟨l,x,rfl,o,c,e,by omega,f⟩
theorem EC (R:Ug m Va){n:Nat}{x:ed}(b:Qi m Va x n) (c:x.tasks.length≤1000) (st:Int):∃ l a,Wt x st=some (l,a,st)∧Qi m Va a n∧a.tasks.length=x.tasks.length∧a.boxes=x.boxes∧l.length≤x.tasks.length∧∀ k ∈ l,0≤k∧k<x.tasks.length :=
 DJ R c (x.length+1) 0 x [] (by unfold ed.length;omega) (by omega) rfl rfl b (by simp) (by simp)
end Go.Y
namespace Go.Y
open Go.Ab Go.jc
variable {m:sb}{Va:kh}
theorem WH {b:Mc}(h:dj b):∃ l,zw b.l b.first b.n=some l:=by
 have f:=h.c1;have g:=h.c2;have j:=h.f0;have k:=h.f1;have m:=h.de;have o:=h.Ce;have go:∀ (fu i:Nat) (l:List Int),b.n<fu+i→(i:Int)≤b.n→l.length≤i→∃ r,zp b.l b.first b.n fu (i:Int) l=some r:=by
  intro fu
  induction fu with
  | zero=>intro i l g1 g2; omega
  | succ fu a =>
   intro i l g1 g2 g3;rw [zp];by_cases d:(i:Int)<b.n
   ·have a0:0≤(b.first+i).tmod (b.l.length:Int):=Int.tmod_nonneg _ (by omega);have pa:(b.first+i).tmod (b.l.length:Int)<(b.l.length:Int):=Int.tmod_lt_of_pos _ (by omega);obtain ⟨x,c,-⟩:=ck (l:=b.l) a0 pa;rw [if_pos d,Af (by omega),Ha,an,if_neg (by omega),Ha,c,Ha,app,if_pos (by simp;omega),Ha,Av,Af (by omega),Ha];have e:(i:Int)+1=((i+1:Nat):Int):=by omega
    rw [e];exact a (i+1) _ (by omega) (by omega) (by simp;omega)
   ·rw [if_neg d];exact ⟨l,rfl⟩
 exact go _ 0 [] (by omega) (by omega) (by simp)
structure Zu (N:Nat) (w:Ch):Prop where
 len:w.gh.length=N
 bQ:∃ Sb,(∀ b ∈ Sb,dj b)∧∀ e ∈ w.gh,e.State≤3→Vb Sb e.State e.Vj
theorem rL {x:ed}(c:wi m x.boxes) (j:x.boxes.length≤1000){st:Int}{ts:List jj}:∀ (fu i:Nat) (l:List (List Int)),x.boxes.length<fu+i→i≤x.boxes.length→l.length≤i→∃ Jc,Ep st x ts fu (i:Int) l=some (⟨ts,Jc,st⟩,x,st):=by
 intro fu
 induction fu with
 | zero=>intro i l e f; omega
 | succ fu g =>
  intro i l e f k;rw [Ep];by_cases d:(i:Int)<x.boxes.length
  ·obtain ⟨b,a,ln⟩:=ck (l:=x.boxes) (i:=(i:Int)) (by omega) d;obtain ⟨r,er⟩:=WH (c.2 b ln);rw [if_pos d,a,Ha,Aw,a,Ha,er,Ha,app,if_pos (by simp;omega),Ha,Fv,Af (by omega),Ha];have h:(i:Int)+1=((i+1:Nat):Int):=by omega
   rw [h];exact g (i+1) _ (by omega) (by omega) (by simp;omega)
  ·rw [if_neg d];exact ⟨l,rfl⟩
theorem EJ (R:Ug m Va){n:Nat}{x0:ed}{st:Int}(y:n≤100000) (A:x0.tasks.length≤1000) (j:x0.boxes.length≤1000):∀ (fu i:Nat) (x:ed) (l:List jj),x0.tasks.length<fu+i→i≤x0.tasks.length→x.tasks.length=x0.tasks.length→x.boxes=x0.boxes→Qi m Va x n→l.length=i→(∀ e ∈ l,e.State≤3→Vb x0.boxes e.State e.Vj) →
  ∃ w o,Fp x0 st fu (i:Int) x l=some (w,o,st)∧Zu x0.tasks.length w:=by
 intro fu
 induction fu with
 | zero=>intro i x l p q; omega
 | succ fu r =>
  intro i x l p q s a b B c;rw [Fp];have f:(x0.length:Int)=x0.tasks.length:=rfl;by_cases d:(i:Int)<(x0.length:Int)
  ·rw [if_pos d];rw [f] at d;obtain ⟨k,h,ra,t,g,g2,g3⟩:=b.look R (i:=(i:Int)) (by omega) (by omega);have u:at_ (x.tasks.set (i:Int).toNat h) (i:Int)=some h:=by rw [kq (by omega),List.getElem?_set_self (by omega)]
   obtain ⟨mk,-⟩:=at_mem ra;have C:=(b.mn k mk).2;rw [ra,Ha,t,Ha];simp only;rw [u,Ha,Ha,Ha,Ha,app,if_pos (by rw [g3];simp;omega),Ha,app,if_pos (by simp;omega),Ha,Ev,Af (by omega),Ha];have v:(i:Int)+1=((i+1:Nat):Int):=by omega
   rw [v];refine r (i+1) _ _ (by omega) (by omega) (by simpa using s) a g (by simp;omega) fun e he=>?_;rcases List.mem_append.1 he with z | z
   ·exact c e z
   ·obtain rfl:=List.mem_singleton.1 z;rw [← a];exact g2
  ·rw [if_neg d];rw [f] at d;obtain ⟨Jc,e⟩:=rL b.Sb (by rw [a];exact j) (st:=st) (ts:=l) (x.boxes.length+1) 0 [] (by omega) (by omega) (by simp);refine ⟨_,x,e,by show l.length=_;omega,x0.boxes,by rw [← a];exact b.Sb.2,c⟩
theorem XH (R:Ug m Va){n:Nat}{x:ed}(a:Qi m Va x n) (b:n≤100000) (c:x.tasks.length≤1000) (st:Int):∃ w d,Bw x st=some (w,d,st)∧Zu x.tasks.length w :=
 EJ R b c (by rw [a.Sb.1];have:=R.form.1.1;omega) (x.length+1) 0 x [] (by unfold ed.length;omega) (by omega) rfl rfl a rfl (by simp)
end Go.Y
namespace Go.Y
open Go.Ab Go.jc
variable {m:sb}{Va:kh}
abbrev fy (N:Nat) (r:Option (Ch×Int)):Prop:=∃ w e,r=some (w,e)∧(e=0→Zu N w)
theorem OG {fu:Nat}{q i163 i168 b:Int}{l:List Int}{x:ed}{K:Int→List Int→Int→ed→Option (Ch×Int)}{N:Nat}(j:l.length≤1000) (a:∀ y:Int,fy N (Iq fu q i168 x K y)):∀ (n i:Nat),l.length<n+i→i≤l.length→fy N (Jq fu q i163 l i168 x b K n (i:Int)):=by
 intro n
 induction n with
 | zero=>intro i c e; omega
 | succ n f =>
  intro i c e;rw [Jq];by_cases d:(i:Int)<l.length
  ·obtain ⟨y,g,-⟩:=ck (l:=l) (i:=(i:Int)) (by omega) d;rw [if_pos d,g,Ha];split
   ·exact a _
   ·rw [Af (by omega),Ha];have h:(i:Int)+1=((i+1:Nat):Int):=by omega
    rw [h];exact f (i+1) (by omega) (by omega)
  ·rw [if_neg d];exact a _
theorem PG (R:Ug m Va){fu:Nat}(j:10001≤fu){q:Int}{N:Nat}(D:N≤1000):∀ (k n:Nat) (i:Int) (l:List Int) (x:ed),20001≤k+n→n≤20000→Qi m Va x n→x.tasks.length=N→l.length≤1000→fy N (mo fu q k i l (n:Int) x):=by
 intro k
 induction k with
 | zero=>intro n i l x o a; omega
 | succ k p =>
  intro n i l x o a b r s;rw [mo];by_cases d:(0:Int)<l.length
  ·obtain ⟨y,t,-⟩:=ck (l:=l) (i:=0) (by omega) d;rw [if_pos d,t,Ha];refine OG s (fun z=>?_) _ 0 (by omega) (by omega);obtain ⟨d,u,f,e,g1,g2,g3,g4,g5⟩:=gD R j (P:=⟨z,q⟩) b a;rw [Iq,e,Ha];by_cases c:d.xf≠0
   ·rw [if_pos c];exact ⟨_,_,rfl,fun h=>by cases h⟩
   ·rw [if_neg c];obtain ⟨v,A,B,C,r2,F,G,-⟩:=EC R g1 (by omega) (f:Int);rw [B,Ha];have:=g5 (Decidable.not_not.1 c);exact p f z v A (by omega) g3 C (by omega) (by omega)
  ·rw [if_neg d];obtain ⟨w,u,e,g⟩:=XH R b (by omega) (by omega) (n:Int);rw [e,Ha];exact ⟨w,0,rfl,fun _=>by rw [← r];exact g⟩
theorem QG (R:Ug m Va){fu:Nat}(y:20001≤fu){kd:List xi}{q:Int}{N:Nat}(o:N≤1000) (z:kd.length≤1000):∀ (k a n:Nat) (i:Int) (x:ed),kd.length<k+a→a≤kd.length→n≤20000→Qi m Va x n→x.tasks.length=N→fy N (yp fu kd q k i (a:Int) (n:Int) x):=by
 intro k
 induction k with
 | zero=>intro a n i x p r; omega
 | succ k b =>
  intro a n i x p r c f A;rw [yp];by_cases d:(a:Int)<kd.length
  ·obtain ⟨P,s,-⟩:=ck (l:=kd) (i:=(a:Int)) (by omega) d;obtain ⟨B,g,h,e,g1,g2,g3,g4,g5⟩:=gD R (by omega:10001≤fu) (P:=P) f c;have j:(a:Int)+1=((a+1:Nat):Int):=by omega
   rw [if_pos d,s,Ha,e,Ha];simp only;split
   ·rw [Af (by omega),Ha,j];exact b (a+1) h _ g (by omega) (by omega) g3 g1 (by omega)
   ·rw [Af (by omega),Ha,j];exact b (a+1) h _ g (by omega) (by omega) g3 g1 (by omega)
  ·rw [if_neg d];obtain ⟨t,u,v,w,r2,C,D,-⟩:=EC R f (by omega) (n:Int);rw [v,Ha];exact PG R (by omega) o fu n i t u (by omega) c w (by omega) (by omega)
theorem Yr.typed {u:Xc}(h:Yr m u):∃ T,Ro m u T∧∃ h,T 0=some ([],h)∧jg h (Dh u):=by
 obtain ⟨a,⟨f,g⟩,x,j,l,c⟩:=h;have fits:∀ p st hs,Fits a p st hs→p<u.Code.length∧∃ d,((zc a p).map fun y=>(y.stack,y.has))=some (st,d)∧jg d hs:=by
  rintro p st hs ⟨y,b,rfl,c⟩;exact ⟨(f p y b).1.2,y.has,by rw [b];rfl,c⟩
 refine ⟨fun p=>(zc a p).map fun y=>(y.stack,y.has),⟨fun p st hs n=>?_⟩,x.has,?_,c⟩
 ·obtain ⟨y,b,e⟩:=Option.map_eq_some_iff.1 n;obtain ⟨rfl,rfl⟩:=Prod.mk.inj e;obtain ⟨i,ra,o,q,r⟩:=g p y b;exact ⟨i,ra,o,fun k=>fits _ _ _ (q k),fun k=>fits _ _ _ (r k)⟩
 ·show (zc a 0).map _=_;rw [j];exact congrArg (fun z=>some (z,x.has)) l
theorem RG {fu:Nat}(d:1000000≤fu) (hm:Ik m) (kd:List xi) (q:Int):∃ w e,ur fu m kd q=some (w,e)∧(e=0→Yh m∧∃ us,Up m=some us∧us.length≤30∧Zu us.length w):=by
 obtain ⟨v,ra,f,-⟩:=KH hm d;rw [ur,Cw,ra,Ha];by_cases c:v.xf≠0
 ·rw [if_pos c,Ha,if_pos c];exact ⟨_,_,rfl,fun h=>absurd h c⟩
 rw [if_neg c];by_cases c2:(400:Int)<kd.length
 ·rw [if_pos c2,Ha,if_pos (by decide)];exact ⟨_,_,rfl,fun h=>by cases h⟩
 rw [if_neg c2,Ha,if_neg (by decide)];obtain ⟨-,a,g,-⟩:=f (Decidable.not_not.1 c);obtain ⟨Va,R⟩:=Ug.of a (fun u hu=>(g u hu).typed);have j:∀ b,∃ w e,Kq fu m kd q b=some (w,e)∧(e=0→Yh m∧∃ us,Up m=some us∧us.length≤30∧Zu us.length w):=by
  intro b;rw [Kq];cases b with
  | true=>rw [if_pos rfl]; exact ⟨_,_,rfl,fun h=>by cases h⟩
  | false =>
   rw [if_neg (by simp)];obtain ⟨x,us,V,Ke,eb,sf,i⟩:=NG R;rw [V,Ha];obtain ⟨w,e,g1,g2⟩:=QG R (fu:=fu) (by omega) (q:=q) (N:=x.tasks.length) (by omega) (by omega:kd.length≤1000) (kd.length+1) 0 0 (-1) x (Nat.lt_succ_self _) (Nat.zero_le _) (Nat.zero_le _) Ke rfl;exact ⟨w,e,g1,fun h=>⟨a,us,eb,i,sf ▸ g2 h⟩⟩
 split
 ·exact j _
 ·exact j _
end Go.Y
namespace Go.Y
open Go.Ab Go.jc
variable {m:sb}
theorem YH:gw 1000000=some true:=by kernel_rfl
theorem fE:∀ (l:List Int) (r:List Int),l.Nodup→(∀ x ∈ l,x ∈ r)→l.length≤r.length
 | [],r,_,_=>Nat.zero_le _
 | a::l,r,h,hs=>by
  obtain ⟨d,f⟩:=List.nodup_cons.1 h;have b:=hs a (List.mem_cons_self ..);have:=fE l (r.erase a) f fun x c=>(List.mem_erase_of_ne (fun e:x=a=>d (e ▸ c))).2 (hs x (List.mem_cons_of_mem _ c));rw [List.length_erase_of_mem b] at this;have:0<r.length:=List.length_pos_of_mem b;simp only [List.length_cons];omega
theorem yu {l:List Int}{N:Nat}(h:l.Nodup) (hs:∀ x ∈ l,0≤x∧x<N):l.length≤N:=by
 have:=fE l ((List.range N).map Int.ofNat) h fun x a=>List.mem_map.2 ⟨x.toNat,by simp;have:=hs x a;omega,by have:=hs x a;simp;omega⟩;simpa using this
def ZA (m:sb) (l:List Int):Prop:=l.Nodup∧∀ x ∈ l,0≤x∧x<(m.Ya.length:Int)
theorem ZH (h:Yh m){op bx o:Int}{L:Nat}{K:Int→List Int→Option Bool}{u:Xc}(hu:u ∈ m.Ya) (M:0≤o∧o≤1000) (y:∀ l,ZA m l→L≤l.length→∃ b,K (o+1) l=some b):∀ (n i:Nat) (l:List Int),u.Code.length<n+i→i≤u.Code.length→ZA m l→L≤l.length→∃ b,im op bx o u K n (i:Int) l=some b:=by
 have N:=(h.2.2.1 u hu).1.2.2.1.2;have O:=h.1.2;intro n
 induction n with
 | zero=>intro i l B C; omega
 | succ n r =>
  intro i l B C g s;have P:=yu g.1 g.2;rw [im];by_cases d:(i:Int)<u.Code.length
  ·obtain ⟨c,hc,D⟩:=ck (l:=u.Code) (i:=(i:Int)) (by omega) d;have Wa:=(h.2.2.1 u hu).2 c D;have t:(i:Int)+1=((i+1:Nat):Int):=by omega
   have ab:∀ q:Bool,(q=true→(0≤c.A∧c.A<(m.Ya.length:Int))∧c.A ∉ l)→∃ b,Gp (i:Int) l c (im op bx o u K n) q=some b:=by
    intro q f;rw [Gp];cases q with
    | true =>
     obtain ⟨g1,g2⟩:=f rfl;rw [if_pos rfl,app,if_pos (by simp;omega),Ha,Af (by omega),Ha,t];refine r (i+1) _ (by omega) (by omega) ⟨?_,fun x F=>?_⟩ (by simp;omega)
     ·rw [List.nodup_append];exact ⟨g.1,by simp,fun a G b w e=>g2 (by rw [List.mem_singleton] at w;rw [← w,← e];exact G)⟩
     ·rcases List.mem_append.1 F with z | z
      ·exact g.2 x z
      ·obtain rfl:=List.mem_singleton.1 z;exact g1
    | false =>
     rw [if_neg (by simp),Af (by omega),Ha,t];exact r (i+1) _ (by omega) (by omega) g s
   have H:∀ q:Bool,∃ b,Rq (i:Int) l c (im op bx o u K n) q=some b:=by
    intro q;rw [Rq];cases q with
    | true=>exact ⟨true,by rw [if_pos rfl]⟩
    | false =>
     rw [if_neg (by simp)];by_cases j:c.Op=23
     ·rw [if_pos j];refine ab _ fun f=>?_;obtain ⟨v,k,-⟩:=qu (Wa.2.2.2.2.1 j);exact ⟨(at_mem k).2,by simpa using f⟩
     ·rw [if_neg j];by_cases p:c.Op=29
      ·rw [if_pos p];refine ab _ fun f=>?_;obtain ⟨v,k,-⟩:=qu (Wa.2.2.2.2.2.1 p);exact ⟨(at_mem k).2,by simpa using f⟩
      ·rw [if_neg p];exact ab _ (fun f=>by cases f)
   rw [if_pos d,hc,Ha];split<;>exact H _
  ·rw [if_neg d,Af (by omega),Ha];exact y l g s
theorem aI (c:Yh m){op bx:Int}:∀ (n i:Nat) (l:List Int),31≤n+i→i≤l.length→ZA m l→∃ b,xn m op bx n (i:Int) l=some b:=by
 have s:=c.1.2;intro n
 induction n with
 | zero =>
  intro i l f g a;have h:=yu a.1 a.2;omega
 | succ n j =>
  intro i l f g a;have h:=yu a.1 a.2;rw [xn];by_cases d:(i:Int)<l.length
  ·obtain ⟨x,k,fg⟩:=ck (l:=l) (i:=(i:Int)) (by omega) d;have e:=a.2 x fg;obtain ⟨u,hu,fl⟩:=ck (l:=m.Ya) e.1 e.2;have o:(i:Int)+1=((i+1:Nat):Int):=by omega
   rw [if_pos d,k,Ha,hu,Ha];refine ZH c fl (L:=i+1) (by omega) (fun p q r=>?_) _ 0 l (by omega) (by omega) a (by omega);rw [o];exact j (i+1) p (by omega) r q
  ·rw [if_neg d];exact ⟨_,rfl⟩
theorem bI (a:Yh m){fu:Nat}(d:31≤fu){u op bx:Int}(hu:0≤u∧u<(m.Ya.length:Int)):∃ b,Dw fu m u op bx=some b :=
 aI a fu 0 [u] (by omega) (by simp) ⟨by simp,fun x c=>by obtain rfl:=List.mem_singleton.1 c;exact hu⟩
def ho (l:List Xc):Nat:=(l.filter fun u=>decide (u.Kind=4)).length
theorem cI (g:m.Ya.length≤30):∀ (n i:Nat) (acc us:List Int),m.Ya.length<n+i→i≤m.Ya.length→tn m n (i:Int) acc=some us→us.length=acc.length+ho (m.Ya.drop i):=by
 intro n
 induction n with
 | zero=>intro i acc us c e; omega
 | succ n a =>
  intro i acc us c e h;rw [tn] at h;by_cases d:(i:Int)<m.Ya.length
  ·have Pa:i<m.Ya.length:=by omega
   have f:at_ m.Ya (i:Int)=some m.Ya[i]:=by rw [gn,List.getElem?_eq_getElem Pa]
   have b:(i:Int)+1=((i+1:Nat):Int):=by omega
   rw [if_pos d,f,Ha] at h;rw [List.drop_eq_getElem_cons Pa,ho,List.filter_cons];by_cases k:m.Ya[i].Kind=4
   ·rw [if_pos k] at h;obtain ⟨l,ra,h⟩:=fa h;rw [Af (by omega),Ha,b] at h;unfold app at ra;split at ra
    ·cases ra;have:=a (i+1) _ us (by omega) (by omega) h;rw [this,if_pos (by simpa using k)];simp [ho];omega
    ·cases ra
   ·rw [if_neg k,Af (by omega),Ha,b] at h;have:=a (i+1) _ us (by omega) (by omega) h;rw [this,if_neg (by simpa using k)];rfl
  ·rw [if_neg d] at h;cases h;rw [List.drop_of_length_le (by omega)];rfl
def Vs (N:Nat) (e:jj) (k:Int):Prop:=-1≤k∧k<N∧(0≤k→e.State=2∨e.State=3)
theorem dI (p:Yh m){fu:Nat}(t:31≤fu){o:Int}(A:0≤o∧o≤1000){ws:List Int}(B:ws.length≤1000){e:jj}{N:Nat}{K:Int→List Int→Option (List Int×Int)}{r:Option (List Int×Int)}{R:Option (List Int×Int)→Prop}(v:∀ k,Vs N e k→R (K (o+1) (ws++[k]))):∀ (n i c:Nat) (a:Int),m.Ya.length<n+i→i≤m.Ya.length→c+ho (m.Ya.drop i)=N→c≤i→Vs c e a→R (Fm fu m o ws e K n a (c:Int) (i:Int)):=by
 have C:=p.1.2;intro n
 induction n with
 | zero=>intro i c a w x; omega
 | succ n g =>
  intro i c a w x f D hw;rw [Fm];by_cases d:(i:Int)<m.Ya.length
  ·have Pa:i<m.Ya.length:=by omega
   have y:at_ m.Ya (i:Int)=some m.Ya[i]:=by rw [gn,List.getElem?_eq_getElem Pa]
   have j:(i:Int)+1=((i+1:Nat):Int):=by omega
   have Fa:(c:Int)+1=((c+1:Nat):Int):=by omega
   rw [List.drop_eq_getElem_cons Pa,ho,List.filter_cons] at f;rw [if_pos d,y,Ha];by_cases k:m.Ya[i].Kind=4
   ·rw [if_neg (by simpa using k)];rw [if_pos (by simpa using k)] at f;have q:(c+1)+ho (m.Ya.drop (i+1))=N:=by simp [ho] at f ⊢;omega
    have ab:∀ b:Bool,(b=true→e.State=2∨e.State=3)→R (Sq a (c:Int) (i:Int) (Fm fu m o ws e K n) b):=by
     intro b l;rw [Sq];cases b with
     | true =>
      rw [if_pos rfl,Af (by omega),Ha,Af (by omega),Ha,j,Fa];exact g (i+1) (c+1) _ (by omega) (by omega) q (by omega) ⟨by omega,by omega,fun _=>l rfl⟩
     | false =>
      rw [if_neg (by simp),Af (by omega),Ha,Af (by omega),Ha,j,Fa];exact g (i+1) (c+1) _ (by omega) (by omega) q (by omega) ⟨hw.1,by have:=hw.2.1;omega,hw.2.2⟩
    by_cases z:((zc (Gd (Gd ([]:List (Int×Int)) 2 27) 3 26) e.State).getD 0)≠0
    ·rw [if_pos z];obtain ⟨b,l⟩:=bI p t (u:=(i:Int)) (op:=(zc (Gd (Gd ([]:List (Int×Int)) 2 27) 3 26) e.State).getD 0) (bx:=e.Vj) (by omega);rw [l,Ha];refine ab _ fun _=>?_;rw [Wv,Wv] at z;by_cases s:(3:Int)=e.State
     ·exact .inr s.symm
     ·by_cases s2:(2:Int)=e.State
      ·exact .inl s2.symm
      ·rw [if_neg s,if_neg s2] at z;exact absurd rfl z
    ·rw [if_neg z];exact ab _ (fun h=>by cases h)
   ·rw [if_pos (by simpa using k),Af (by omega),Ha,j];rw [if_neg (by simpa using k)] at f;exact g (i+1) c a (by omega) (by omega) f (by omega) hw
  ·rw [if_neg d,app,if_pos (by simp;omega),Ha,Af (by omega),Ha];refine v a ⟨hw.1,?_,hw.2.2⟩;have:=hw.2.1;omega
theorem eI (o:Yh m){fu:Nat}(p:31≤fu){r:Ch×Int}{N:Nat}(x:N≤30) (hw:r.1.gh.length=N) (hc:ho m.Ya=N):∀ (n i:Nat) (l:List Int),N<n+i→i≤N→l.length=i→(∀ (j:Nat) k,l[j]?=some k→∃ e,r.1.gh[j]?=some e∧Vs N e k)→∃ a,yn fu m r n (i:Int) l=some (a,0)∧a.length=N∧∀ (j:Nat) k,a[j]?=some k→∃ e,r.1.gh[j]?=some e∧Vs N e k:=by
 intro n
 induction n with
 | zero=>intro i l q s; omega
 | succ n t =>
  intro i l q s y f;rw [yn];by_cases d:(i:Int)<r.1.gh.length
  ·have Pa:i<r.1.gh.length:=by omega
   have u:at_ r.1.gh (i:Int)=some r.1.gh[i]:=by rw [gn,List.getElem?_eq_getElem Pa]
   have v:(i:Int)+1=((i+1:Nat):Int):=by omega
   rw [if_pos d,u,Ha];refine dI (N:=N) (R:=fun z=>∃ a,z=some (a,0)∧a.length=N∧∀ (j:Nat) k,a[j]?=some k→∃ e,r.1.gh[j]?=some e∧Vs N e k) (r:=none) o p (by omega) (by omega) (fun k w=>?_) _ 0 0 (-1) (by omega) (by omega) (by rw [List.drop_zero];omega) (by omega) ⟨by omega,by omega,fun h=>absurd h (by decide)⟩;rw [v];refine t (i+1) _ (by omega) (by omega) (by simp;omega) fun j g b=>?_;rcases Nat.lt_or_ge j l.length with c | c
   ·rw [List.getElem?_append_left c] at b;exact f j g b
   ·rw [List.getElem?_append_right c] at b;have:j - l.length=0:=by
     rcases Nat.eq_zero_or_pos (j - l.length) with z | z
     ·exact z
     ·rw [List.getElem?_eq_none (by simp;omega)] at b;cases b
    rw [this] at b;obtain rfl:k=g:=by simpa using b
    have e:j=i:=by omega
    subst e;exact ⟨_,List.getElem?_eq_getElem Pa,w⟩
  ·rw [if_neg d];exact ⟨l,rfl,by omega,f⟩
theorem hD:∀ (s:List (Int×Bool)) (k:Int) (x:Bool),zc s k=none→Gd s k x=s++[(k,x)]∧k ∉ s.map Prod.fst
 | [],k,x,_=>⟨rfl,by simp⟩
 | (a,b)::s,k,x,h=>by
  rw [zc] at h;by_cases c:a=k
  ·rw [if_pos c] at h;cases h
  ·rw [if_neg c] at h;obtain ⟨d,f⟩:=hD s k x h;refine ⟨by rw [Gd,if_neg c,d];rfl,?_⟩;simp only [List.map_cons,List.mem_cons,not_or];exact ⟨fun e=>c e.symm,f⟩
def aN (N:Nat) (s:List (Int×Bool)):Prop:=(s.map Prod.fst).Nodup∧(∀ x ∈ s.map Prod.fst,0≤x∧x<(N:Int))∧∀ k v,zc s k=some v→v=true
theorem FJ {l:List Int}{x:Int}{N:Nat}(p:N≤30) (r:l.length=N) (h:∀ k ∈ l,k<N):∀ (n:Nat) (k:Int) (s:List (Int×Bool)),N<n+s.length→0≤k∧k<N→aN N s→oo (l,x) n k s=some true:=by
 intro n
 induction n with
 | zero =>
  intro k s i d hs;have:=yu hs.1 hs.2.1;simp at this;omega
 | succ n j =>
  intro k s i d hs;have t:=yu hs.1 hs.2.1;rw [oo,if_pos d.1,jt];cases e:zc s k with
  | some v =>
   obtain rfl:=hs.2.2 k v e;have:s≠[]:=by rintro rfl;cases e
   rw [if_neg (by simp)];have:=List.length_pos_iff.2 this;rw [decide_eq_true (by omega)]
  | none =>
   rw [if_pos (by simp)];obtain ⟨y,m,o⟩:=ck (l:=l) d.1 (by omega);simp only;rw [m,Ha];by_cases c:y<0
   ·rw [if_pos c]
   ·rw [if_neg c,Ha];obtain ⟨Ia,Ta⟩:=hD s k true e;refine j y _ (by rw [Ia];simp;omega) ⟨by omega,h y o⟩ ⟨?_,?_,fun a v Wa=>?_⟩
    ·rw [Ia,List.map_append,List.nodup_append];exact ⟨hs.1,by simp,fun a f b g q=>Ta (by simp at g;rw [← g,← q];exact f)⟩
    ·rw [Ia,List.map_append];intro a f;rcases List.mem_append.1 f with z | z
     ·exact hs.2.1 a z
     ·simp at z;rw [z];exact d
    ·rw [Wv] at Wa;split at Wa
     ·cases Wa;rfl
     ·exact hs.2.2 a v Wa
theorem GJ {fu:Nat}(C:1000≤fu){f:Int}{l:List Int}{x:Int}{r2:Ch×Int}{N:Nat}(p:N≤30) (q:l.length=N) (hw:r2.1.gh.length=N) (g:∀ (j:Nat) k,l[j]?=some k→∃ e,r2.1.gh[j]?=some e∧Vs N e k):∀ (n i:Nat),N<n+i→i≤N→jm fu f (l,x) r2 n (i:Int)=some true:=by
 have r:∀ k ∈ l,k<N:=fun k mk=>by
  obtain ⟨j,s,e⟩:=List.mem_iff_getElem.1 mk;obtain ⟨D,-,-,h,-⟩:=g j k (by rw [List.getElem?_eq_getElem s,e]);exact h
 intro n
 induction n with
 | zero=>intro i t u; omega
 | succ n w =>
  intro i t u;rw [jm];simp only;by_cases d:(i:Int)<l.length
  ·have Pa:i<l.length:=by omega
   have m:i<r2.1.gh.length:=by omega
   have y:at_ l (i:Int)=some l[i]:=by rw [gn,List.getElem?_eq_getElem Pa]
   have A:at_ r2.1.gh (i:Int)=some r2.1.gh[i]:=by rw [gn,List.getElem?_eq_getElem m]
   obtain ⟨e,he,F,G,Wc⟩:=g i l[i] (List.getElem?_eq_getElem Pa);rw [List.getElem?_eq_getElem m] at he;obtain rfl:r2.1.gh[i]=e:=by simpa using he
   have ab:Hp (i:Int) (jm fu f (l,x) r2 n) false=some true:=by
    have B:(i:Int)+1=((i+1:Nat):Int):=by omega
    rw [Hp,if_neg (by simp),Af (by omega),Ha,B];exact w (i+1) (by omega) (by omega)
   have o:∀ b:Bool,(0≤l[i]→b=true)→Tq (l,x) (i:Int) l[i] (jm fu f (l,x) r2 n) b=some true:=by
    intro b a;rw [Tq,if_neg (by simp only;omega)];by_cases z:0≤l[i]
    ·rw [if_pos z,a z];exact ab
    ·rw [if_neg z];exact ab
   rw [if_pos d,y,Ha,A,Ha];by_cases c2:r2.1.gh[i].State=2
   ·rw [if_pos c2];exact o _ (fun _=>rfl)
   ·rw [if_neg c2,Ha];exact o _ fun z=>decide_eq_true ((Wc z).resolve_left c2)
  ·rw [if_neg d];have fin:∀ b:Bool,(b=false→0≤f∧f<N)→Uq fu f (l,x) b=some true:=by
    intro b a;rw [Uq];cases b with
    | true=>rw [if_pos rfl]
    | false =>
     rw [if_neg (by simp)];exact FJ p q r fu f [] (by simp;omega) (a rfl) ⟨by simp,by simp,fun k v h=>by cases h⟩
   by_cases c:f<0
   ·rw [if_pos c];exact fin _ (fun h=>by cases h)
   ·rw [if_neg c];exact fin _ fun h=>by have:=of_decide_eq_false h;omega
theorem nF (hm:Ik m) (kd:List xi) (q f:Int):Xt 1000000 m kd q f=some true:=by
 obtain ⟨w,e,d,g⟩:=RG (fu:=1000000) (Nat.le_refl _) hm kd q;rw [Xt,YH,Ha,if_pos rfl,Ew,d,Ha];by_cases c:e≠0
 ·rw [if_pos c,Ha,Ha];simp only;rw [if_pos c,Vq,if_pos rfl,decide_eq_true rfl]
 ·rw [if_neg c];obtain ⟨a,us,i,b,hw⟩:=g (Decidable.not_not.1 c);have n:ho m.Ya=us.length:=by
   have:=cI a.1.2 (m.Ya.length+1) 0 [] us (by omega) (by omega) i;simpa using this.symm
  obtain ⟨l,g1,g2,g3⟩:=eI (r:=(w,e)) a (fu:=1000000) (by decide) b hw.len n (w.gh.length+1) 0 [] (by have:=hw.len;omega) (by omega) rfl (fun j k h=>by simp at h);have o:yn 1000000 m (w,e) (w.gh.length+1) 0 []=some (l,0):=g1;rw [o,Ha,Ha];simp only;rw [if_neg (by simp),Vq,decide_eq_false c,if_neg (by simp),if_neg (by have:=hw.len;simp only;omega)];exact GJ (r2:=(w,e)) (by decide) b g2 hw.len g3 _ 0 (by show us.length<l.length+1+0;omega) (by omega)
end Go.Y
