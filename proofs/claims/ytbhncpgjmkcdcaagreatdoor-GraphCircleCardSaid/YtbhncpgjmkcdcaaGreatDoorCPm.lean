/- Texts of GraphCircle Pm. -/
import Derived.Test.YtbhncpgjmkcdcaaGreatDoorCPl
import Derived.Test.YtbhncpgjmkcdcaaGreatDoorCMd
import Derived.KernelRfl
set_option linter.unusedSimpArgs false
set_option linter.unusedVariables false
set_option linter.unusedSectionVars false
namespace Go.Y
open Go.yb Go.kc
variable {m:ub}{Va:eh}{us:List Int}{Kb:List Lc}
section
variable {c:se}{fs:List nb}{f:nb}{ws:List Int}{o:Option Int}{loc st:List Int}{u:Tc}{i:vd}{Ub:List Int}{hs:List Bool}{out:List Int}{bx t:Int}
theorem HD {l:List Int}{k:Int}{x:Int}(h:at_ l k=some x):Al l k=x:=by unfold Al;rw [h];rfl
theorem LL {l:List Bool}{k:Int}(a:0≤k) (h:ca l k=true):l[k.toNat]?=some true:=by
 unfold ca at h;rw [bq a] at h;cases e:l[k.toNat]? with
 | none=>rw [e] at h; cases h
 | some x=>rw [e] at h; simp at h; rw [h]
theorem CK (O:Op m Va us c fs f ws o loc st u i Ub hs) (R:Og m Va) (z:ri m Kb) (rc:(i.Op=26→∃ b,at_ Kb i.A=some b∧Xi b∧b.n≠b.l.length)∧(i.Op=27→∃ b,at_ Kb i.A=some b∧Xi b∧b.n≠0)) (dg:out.length≤100000) (rg:i.Op≠23∧i.Op≠24∧i.Op≠25∧¬ 29≤i.Op) :
  ∃ r,Rq m out c.state c.l c.live 8 400 (Kb,1,bx,t,fs++[f]) (fs.length:Int)=some r∧dp m Va us c out r:=by
 have N:=O.bb;have p:=N.ok;have ci:=N.gn.1;rw [Rq,Jl,Ja,N.hu,Ja,N.Ua,Ja,eg (by have:=N.Jx;omega),Ja];simp only [xn];by_cases c1:i.Op=1
 ·rw [if_pos c1];have e:xd m u i (Ub,0) hs=Ye (Ub,0) 1:=by unfold xd;simp [c1]
  exact O.push R z (by omega) O.ym N.ws (Vi.plain (.inl rfl)) (by rw [e] at p ⊢;exact (ck p).2) ⟨by omega,by omega,by omega⟩ (by omega)
 rw [if_neg c1];by_cases c2:i.Op=2
 ·rw [if_pos c2];have e:xd m u i (Ub,0) hs=Ye (Ub,0) 2:=by unfold xd;simp [c2]
  exact O.push R z (by omega) O.ym N.ws (Vi.plain (.inr rfl)) (by rw [e] at p ⊢;exact (ck p).2) ⟨by omega,by omega,by omega⟩ (by omega)
 rw [if_neg c2];by_cases c3:i.Op=3
 ·rw [if_pos c3];have e:xd m u i (Ub,0) hs=Ye (Ub,if ca hs i.A=true then 0 else Ee 0 11) (Al u.Cc i.A):=by unfold xd;simp [c3]
  rw [e] at p;obtain ⟨C,s⟩:=ck p;simp only at C s;have H:ca hs i.A=true:=by
   split at C
   ·assumption
   ·exact (Tl C (by decide)).elim
  obtain ⟨a0,pa⟩:=N.gn.2.2.1 (.inl c3);obtain ⟨ty,G,-⟩:=Ck (l:=u.Cc) a0 pa;have L:i.A.toNat<loc.length:=by rw [N.lc.1];omega
  have hw:loc[i.A.toNat]?=some loc[i.A.toNat]:=List.getElem?_eq_getElem L;have Wa:=N.lc.2.2 _ _ _ (LL a0 H) (by rw [← bq a0];exact G) hw;have S:f.base+i.A=((ws.length+i.A.toNat:Nat):Int):=by rw [O.base];omega
  have hlen:(ws++(loc++st)).length≤400:=Nat.le_trans O.ym.le O.ym.Ua;rw [S,eg (by simp at hlen;omega),Ja,IC O.ym hw,Ja];simp only [wv,xn];exact O.push R z (by omega) O.ym N.ws Wa (by rw [e,s,HD G]) ⟨by omega,by omega,by omega⟩ (by omega)
 rw [if_neg c3];by_cases c4:i.Op=4
 ·rw [if_pos c4];have e:xd m u i (Ub,0) hs=Le [Al u.Cc i.A] (Ub,0):=by unfold xd;simp [c4]
  rw [e] at p;obtain ⟨-,s⟩:=Rk _ _ p;obtain ⟨a0,pa⟩:=N.gn.2.2.1 (.inr c4);obtain ⟨ty,G,-⟩:=Ck (l:=u.Cc) a0 pa;rw [HD G] at s e;obtain ⟨D,w,F,rfl,y,Wa,B,x⟩:=O.pop (bx:=bx) (t:=t) s;have L:i.A.toNat<loc.length:=by rw [N.lc.1];omega
  have hw:loc[i.A.toNat]?=some loc[i.A.toNat]:=List.getElem?_eq_getElem L;have S:f.base+i.A=((ws.length+i.A.toNat:Nat):Int):=by rw [O.base];omega
  have hlen:(ws++(loc++D)).length≤400:=Nat.le_trans x.le x.Ua;rw [B,Ja,S,eg (by simp at hlen;omega),Ja,IC x hw,Ja];simp only [xv,xn];simp only [Int.toNat_natCast];refine O.on (out:=out) (out':=out) R z (by omega) (g:=f1 f) rfl (loc':=loc.set i.A.toNat w) (st':=D) (N.next O.base ⟨by omega,by omega,by omega⟩ ?_ (by rw [e];exact y)) ?_
  ·have td:ti i hs=hs.set i.A.toNat true:=if_pos c4;rw [td];refine ⟨by simpa using N.lc.1,by simpa using N.lc.2.1,fun j wd w' x1 T M=>?_⟩;by_cases d:j=i.A.toNat
   ·subst d;rw [List.getElem?_set_self L] at M;rw [bq a0] at G;rw [G] at T;cases T;cases M;exact Wa
   ·rw [List.getElem?_set_ne (fun h=>d h.symm)] at x1 M;exact N.lc.2.2 j wd w' x1 T M
  ·have:=x.set (k:=ws.length+i.A.toNat) (v:=w);have Fd:(ws++(loc++D)).set (ws.length+i.A.toNat) w=ws++(loc.set i.A.toNat w++D):=by
    rw [List.set_append,if_neg (by omega),List.set_append,if_pos (by omega),show ws.length+i.A.toNat - ws.length=i.A.toNat by omega]
   rw [Fd] at this;exact this
 rw [if_neg c4];by_cases c5:i.Op=5
 ·rw [if_pos c5];have e:xd m u i (Ub,0) hs=(vc (Ub,0)).2:=by unfold xd;simp [c5]
  rw [e] at p;obtain ⟨-,s⟩:=Kr p;obtain ⟨D,w,F,rfl,y,Wa,B,x⟩:=O.pop (bx:=bx) (t:=t) s;rw [B,Ja];exact O.on R z (by omega) (g:=f1 f) rfl (N.next O.base ⟨by omega,by omega,by omega⟩ (by rw [An c4];exact N.lc) (by rw [e];exact y)) x
 rw [if_neg c5];by_cases qd:i.Op=6
 ·rw [if_pos qd];have e:xd m u i (Ub,0) hs=Ye (Le [1] (Ub,0)) 1:=by unfold xd;simp [qd]
  rw [e] at p;obtain ⟨Ia,Ta⟩:=ck p;obtain ⟨-,s⟩:=Rk _ _ Ia;obtain ⟨D,w,F,rfl,y,Wa,B,x⟩:=O.pop (bx:=bx) (t:=t) s;rw [B,Ja];exact O.push R z (by omega) x y (Vi.plain (.inl rfl)) (by rw [e,Ta]) ⟨by omega,by omega,by omega⟩ (by omega)
 rw [if_neg qd];by_cases qg:i.Op=7
 ·rw [if_pos qg];have e:xd m u i (Ub,0) hs=Ye (Le [2] (Ub,0)) 2:=by unfold xd;simp [qg]
  rw [e] at p;obtain ⟨Ia,Ta⟩:=ck p;obtain ⟨-,s⟩:=Rk _ _ Ia;obtain ⟨D,w,F,rfl,y,Wa,B,x⟩:=O.pop (bx:=bx) (t:=t) s;rw [B,Ja];exact O.push R z (by omega) x y (Vi.plain (.inr rfl)) (by rw [e,Ta]) ⟨by omega,by omega,by omega⟩ (by omega)
 rw [if_neg qg];by_cases yh:(8:Int)≤i.Op
 ·rw [if_pos yh];by_cases c20:i.Op≤20
  ·rw [decide_eq_true c20,Fp,if_pos rfl];have two:∃ U fd id ty,Ub=U++[fd]++[id]∧(xd m u i (Ub,0) hs).1=U++[ty]∧Gg ty:=by
    by_cases d:i.Op≤12
    ·have e:xd m u i (Ub,0) hs=Ye (Le [1,1] (Ub,0)) 1:=by unfold xd;simp [c1,c2,c3,c4,c5,qd,qg,yh,d]
     rw [e] at p ⊢;obtain ⟨Ia,Ta⟩:=ck p;obtain ⟨-,s⟩:=Rk _ _ Ia;exact ⟨_,1,1,1,s.trans (by simp),Ta,.inl rfl⟩
    ·by_cases d2:i.Op=13∨i.Op=14
     ·have e:xd m u i (Ub,0) hs=Ye (Le [(vc (Ub,0)).1] ((vc (Ub,0)).2.1,if (vc (Ub,0)).1≠1∧(vc (Ub,0)).1≠2 then Ee (vc (Ub,0)).2.2 9 else (vc (Ub,0)).2.2)) 2:=by unfold xd;rw [if_neg c1,if_neg c2,if_neg c3,if_neg c4,if_neg c5,if_neg qd,if_neg qg,if_neg (by omega),if_pos d2]
      rw [e] at p ⊢;obtain ⟨Ia,Ta⟩:=ck p;obtain ⟨C,s⟩:=Rk _ _ Ia;simp only at C s;have W:(vc (Ub,0)).2.2=0:=by
       split at C
       ·exact (Tl C (by decide)).elim
       ·exact C
      obtain ⟨-,md⟩:=Kr W;simp only at md;refine ⟨_,(vc (Ub,0)).1,(vc (Ub,0)).1,2,?_,Ta,.inr rfl⟩;exact md.trans (congrArg (fun l=>l++[(vc (Ub,0)).1]) s)
     ·by_cases d3:i.Op≤18
      ·have e:xd m u i (Ub,0) hs=Ye (Le [1,1] (Ub,0)) 2:=by unfold xd;rw [if_neg c1,if_neg c2,if_neg c3,if_neg c4,if_neg c5,if_neg qd,if_neg qg,if_neg (by omega),if_neg d2,if_pos (by omega)]
       rw [e] at p ⊢;obtain ⟨Ia,Ta⟩:=ck p;obtain ⟨-,s⟩:=Rk _ _ Ia;exact ⟨_,1,1,2,s.trans (by simp),Ta,.inr rfl⟩
      ·have e:xd m u i (Ub,0) hs=Ye (Le [2,2] (Ub,0)) 2:=by unfold xd;rw [if_neg c1,if_neg c2,if_neg c3,if_neg c4,if_neg c5,if_neg qd,if_neg qg,if_neg (by omega),if_neg d2,if_neg (by omega),if_pos (by omega)]
       rw [e] at p ⊢;obtain ⟨Ia,Ta⟩:=ck p;obtain ⟨-,s⟩:=Rk _ _ Ia;exact ⟨_,2,2,2,s.trans (by simp),Ta,.inr rfl⟩
   obtain ⟨U,fd,id,ty,C,s,W⟩:=two;obtain ⟨D,Zg,F,rfl,y,-,B,x⟩:=O.pop (bx:=bx) (t:=t) C;obtain ⟨ii,rd,Id,rfl,be,-,ce,ge⟩:=fC (bx:=bx) (t:=t) x y;rw [B,Ja,ce,Ja];have X:∀ q:Bool,(q=false→i.Op=11∨i.Op=12→Zg≠0)→∃ r,Ep m out c.state (Kb,1,bx,t,fs++[f]) (fs.length:Int) f i (f.Pf+1) (Zg,1,bx,t,F,c.live - 1,8,400) (rd,1,bx,t,Id,c.live - 1 - 1,8,400) q=some r∧dp m Va us c out r:=by
    intro q he;rw [Ep];by_cases d:q=true
    ·rw [if_pos d];simp only [Pk,wj,xn];rw [if_pos (by decide),Ja,Ja];exact Xr R z (by omega) O.len (O.un (g:=f1 f) rfl) (.inl rfl)
    ·rw [if_neg d];obtain ⟨v,ne⟩:=BK (op:=i.Op) (a:=rd) (b:=Zg) ⟨yh,c20⟩ (he (by simpa using d));simp only [xn];rw [ne,Ja];exact O.push R z (by omega) ge be (Vi.plain W) s ⟨by omega,by omega,by omega⟩ (by omega)
   by_cases d11:i.Op=11
   ·rw [if_pos d11];exact X _ (fun h _=>by simpa using h)
   ·rw [if_neg d11];by_cases d12:i.Op=12
    ·rw [if_pos d12];exact X _ (fun h _=>by simpa using h)
    ·rw [if_neg d12];exact X false (fun _ h=>by omega)
  ·rw [decide_eq_false c20,Fp,if_neg (by simp)];simp only [xn];by_cases c21:i.Op=21
   ·rw [if_pos c21];have e:xd m u i (Ub,0) hs=(Ub,0):=by unfold xd;simp [c21]
    rw [Jl,Ja];exact O.on R z (by omega) (g:=⟨f.unit,i.A,f.base⟩) rfl (N.jump O.base (.inl c21) (by rw [An c4];exact N.lc) (by rw [e];exact N.ws)) O.ym
   rw [if_neg c21];by_cases P:i.Op=22
   ·rw [if_pos P];have e:xd m u i (Ub,0) hs=Le [2] (Ub,0):=by unfold xd;simp [P]
    rw [e] at p;obtain ⟨-,s⟩:=Rk _ _ p;obtain ⟨D,w,F,rfl,y,Wa,B,x⟩:=O.pop (bx:=bx) (t:=t) s;rw [B,Ja];simp only;by_cases d:w=0
    ·rw [if_pos d,Jl,Ja];exact O.on R z (by omega) (g:=⟨f.unit,i.A,f.base⟩) rfl (N.jump O.base (.inr P) (by rw [An c4];exact N.lc) (by rw [e];exact y)) x
    ·rw [if_neg d];exact O.on R z (by omega) (g:=f1 f) rfl (N.next O.base ⟨by omega,by omega,by omega⟩ (by rw [An c4];exact N.lc) (by rw [e];exact y)) x
   rw [if_neg P];by_cases Q:i.Op=26
   ·rw [if_pos Q];have e:xd m u i (Ub,0) hs=Le [(Bl m i.A).De] (Ub,0):=by unfold xd;simp [Q]
    rw [e] at p;obtain ⟨-,s⟩:=Rk _ _ p;obtain ⟨D,w,F,rfl,y,Wa,B,x⟩:=O.pop (bx:=bx) (t:=t) s;obtain ⟨b,H,Y,Z⟩:=rc.1 Q;obtain ⟨Ih,gc,hc⟩:=JL (v:=w) z H Y Z;rw [B,Ja];simp only [wj];rw [gc,Ja,Ja];exact O.on R hc (by omega) (g:=f1 f) rfl (N.next O.base ⟨by omega,by omega,by omega⟩ (by rw [An c4];exact N.lc) (by rw [e];exact y)) x
   rw [if_neg Q];by_cases K:i.Op=27
   ·rw [if_pos K];have e:xd m u i (Ub,0) hs=Ye (Ub,0) (Bl m i.A).De:=by unfold xd;simp [K]
    obtain ⟨b,H,Y,Z⟩:=rc.2 K;obtain ⟨v,Ih,gc,hc⟩:=zK z H Y Z;rw [gc,Ja];simp only [wj];rw [Ja];obtain ⟨a0,pa⟩:=N.gn.2.2.2.2.2.2 (.inr K);obtain ⟨bi,Ne,of⟩:=Ck (l:=m.uc) a0 pa;have wf:(Bl m i.A).De=bi.De:=by unfold Bl;rw [Ne];rfl
    have If:Gg (Bl m i.A).De:=by rw [wf];exact (R.form.2.1 bi of).1
    exact O.push R hc (by omega) O.ym N.ws (Vi.plain If) (by rw [e] at p ⊢;exact (ck p).2) ⟨by omega,by omega,by omega⟩ (by omega)
   rw [if_neg K];have c28:i.Op=28:=by omega
   rw [if_pos c28];have e:xd m u i (Ub,0) hs=((vc (Ub,0)).2.1,if (vc (Ub,0)).2.2=0∧¬ Gg (vc (Ub,0)).1 then Ee (vc (Ub,0)).2.2 9 else (vc (Ub,0)).2.2):=by unfold xd;simp [c28]
   rw [e] at p;simp only at p;have C:(vc (Ub,0)).2.2=0:=by
    split at p
    ·exact (Tl p (by decide)).elim
    ·exact p
   obtain ⟨-,s⟩:=Kr C;obtain ⟨D,w,F,rfl,y,Wa,B,x⟩:=O.pop (bx:=bx) (t:=t) s;rw [B,Ja];simp only [wj];rw [app,if_pos (by simp;omega),Ja,Ja];exact O.on R z (by simp) (g:=f1 f) rfl (N.next O.base ⟨by omega,by omega,by omega⟩ (by rw [An c4];exact N.lc) (by rw [e];exact y)) x
 ·omega
end
end Go.Y
namespace Go.Y
open Go.yb Go.kc
variable {m:ub}{Va:eh}{us:List Int}{Kb:List Lc}
section
variable {c:se}{fs:List nb}{f:nb}{ws:List Int}{o:Option Int}{loc st:List Int}{u:Tc}{i:vd}{Ub:List Int}{hs:List Bool}{out:List Int}{bx t:Int}
theorem rz {k p:Int}(h:ll m k p=true):∃ v,at_ m.lb k=some v∧v.Kind=p∧v ∈ m.lb:=by
 unfold ll at h;cases e:at_ m.lb k with
 | none=>rw [e] at h; cases h
 | some v=>rw [e] at h; exact ⟨v,rfl,by simpa using h,(at_mem e).1⟩
theorem kA {k:Int}{v:Tc}(h:at_ m.lb k=some v):Gj m k=v:=by unfold Gj;rw [h];rfl
theorem qi.split {a d w:List Int}(h:qi us (a++d) w):∃ e f,w=e++f∧qi us a e∧qi us d f:=by
 have i:=h.1;rw [List.length_append] at i;refine ⟨w.take a.length,w.drop a.length,(List.take_append_drop _ _).symm,⟨by simp;omega,fun k ty x c b=>?_⟩,⟨by simp;omega,fun k ty x c b=>?_⟩⟩
 ·have g:=(List.getElem?_eq_some_iff.1 c).1;rw [List.getElem?_take,if_pos g] at b;exact h.2 k ty x (by rw [List.getElem?_append_left g];exact c) b
 ·rw [List.getElem?_drop] at b;exact h.2 (a.length+k) ty x (by rw [List.getElem?_append_right (by omega)];rw [show a.length+k - a.length=k by omega];exact c) b
theorem DK {fr:List nb}{K:Int}:∀ (n:Nat) (k:Int) (s t:Int) (l W:List Int) (live:Int),0≤k→k≤K→K - k<n→K≤1000→og l live W→∃ c Lb e f,Qq fr K n k s bx t live 8 400 l=some (c,bx,Lb,fr,e,f,8,400)∧(c=s∧og e f (W++List.replicate (K - k).toNat 0)∨c=5∧∃ r,og e f r):=by
 intro n
 induction n with
 | zero=>intro k s t l W live u w x; omega
 | succ n j =>
  intro k s t l W live u w x m o;rw [Qq];by_cases d:k<K
  ·rw [if_pos d];obtain ⟨s1,t1,p,q,qa,g⟩:=jw (s:=s) (bx:=bx) (t:=t) (v:=0) o;rw [qa,Ja,eg (by omega),Ja];simp only;have y:(K - k).toNat=(K - (k+1)).toNat+1:=by omega
   rcases g with ⟨rfl,rfl,-,h⟩ | ⟨rfl,h⟩
   ·obtain ⟨c,Lb,e,f,i,g2⟩:=j (k+1) s1 t1 p _ q (by omega) (by omega) (by omega) m h;refine ⟨c,Lb,e,f,i,?_⟩;rcases g2 with ⟨a,b⟩ | g2
    ·refine .inl ⟨a,?_⟩;rw [y,List.replicate_succ];simpa [List.append_assoc] using b
    ·exact .inr g2
   ·obtain ⟨c,Lb,e,f,i,g2⟩:=j (k+1) 5 t1 p _ q (by omega) (by omega) (by omega) m h;refine ⟨c,Lb,e,f,i,.inr ?_⟩;rcases g2 with ⟨a,b⟩ | g2
    ·exact ⟨a,_,b⟩
    ·exact g2
  ·rw [if_neg d];refine ⟨s,t,l,live,rfl,.inl ⟨rfl,?_⟩⟩;rw [show (K - k).toNat=0 by omega];simpa using o
theorem pH {v:Tc}{j:Nat}(h:(Ch v)[j]?=some true):j<v.Params.toNat:=by
 unfold Ch at h;rcases Nat.lt_or_ge j v.Params.toNat with q | q
 ·exact q
 ·rw [List.getElem?_append_right (by simpa using q)] at h;obtain ⟨b,a⟩:=List.getElem?_eq_some_iff.1 h;simp at a
theorem dz (R:Og m Va){k:Int}{v:Tc}(Wa:at_ m.lb k=some v) (Na:To m v){args:List Int}(a:qi us (v.Cc.take v.Params.toNat) args){b:Nat}{o':Option Int}(e:o'=none ↔ v.Kind≠2) (f:∀ r,o'=some r→v.Result=r) :
  cl m Va us ⟨k,0,(b:Int)⟩ b o' (args++List.replicate (v.Cc.length - v.Params.toNat) 0) [] []:=by
 obtain ⟨-,h,qa,c⟩:=R.ty _ _ Wa;have n:v.Params.toNat≤v.Cc.length:=by have:=Na.2.1;omega
 have g:args.length=v.Params.toNat:=by have:=a.1;simp at this;omega
 refine ⟨rfl,v,[],h,Wa,qa,⟨by simp [g];omega,?_,fun j ty w x1 i d=>?_⟩,.nil,e,f⟩
 ·rw [c.1];unfold Ch;simp;omega
 ·have l:=pH (c.2 j x1);rw [List.getElem?_append_left (by omega)] at d;exact a.2 j ty w (by rw [List.getElem?_take,if_pos l];exact i) d
theorem VI (O:Op m Va us c fs f ws o loc st u i Ub hs) (R:Og m Va) (n:ri m Kb) (j:i.Op=23) :
  ∃ r,((Lp m 1 bx t c.state (fs++[f1 f]) c.l c.live 8 400 i).bind fun q=>ai m q.1 q.2.1 q.2.2.1 Kb out q.2.2.2.1 q.2.2.2.2.1 q.2.2.2.2.2.2.1 q.2.2.2.2.2.2.2.1 q.2.2.2.2.2.2.2.2 q.2.2.2.2.2.1)=some r∧dp m Va us c out r:=by
 have N:=O.bb;have p:=N.ok;obtain ⟨v,Wa,y,z⟩:=rz (N.gn.2.2.2.2.1 j);have e:xd m u i (Ub,0) hs=Ye (Vo v (Ub,0)) v.Result:=by unfold xd;simp [j,kA Wa]
 rw [e] at p;obtain ⟨Ia,Ta⟩:=ck p;unfold Vo at Ia Ta e;obtain ⟨-,k⟩:=Rk _ _ Ia;rw [List.reverse_reverse] at k;simp only at k;have Na:=(R.form.2.2.1 v z).1;have hw:=N.ws;rw [k] at hw;obtain ⟨a,args,rfl,B,s⟩:=hw.split;have W:(args.length:Int)=v.Params:=by
  have C:=s.1;have X:=Na.2.1;rw [List.length_take] at C;omega
 have b:=O.ym;have D:=b.live;have hlen:=Nat.le_trans b.le b.Ua;simp only [List.length_append] at D hlen;rw [Lp,if_pos j,Dw,Wa,Ja,Om,Ja,eg (by omega),Ja,vv];by_cases d:(((fs++[f1 f]).length:Nat):Int)=40
 ·rw [if_pos d,Pk,if_pos (by decide),wj,Ja,Ja,Ja,Ja];exact Xr R n (by omega) O.len (O.un (g:=f1 f) rfl) (.inl rfl)
 ·rw [if_neg d];have w:=O.Uf;rw [O.fr] at w;simp only [List.length_append,List.length_singleton] at w d;have Y:=Na.2.1;rw [app,if_pos (by simp;omega),Ja,eg (by omega),Ja];obtain ⟨Z,Lb,F,G,H,g⟩:=DK (bx:=bx) (fr:=fs++[f1 f]++[nb.mk i.A 0 (c.live - v.Params)]) (K:=(v.Cc.length:Int) - v.Params) (((v.Cc.length:Int) - v.Params - 0).toNat+1) 0 1 t c.l _ c.live (by omega) (by omega) (by omega) (by omega) b;rw [H,Ja,Ja];simp only;have L:((fs++[f1 f]++[nb.mk i.A 0 (c.live - v.Params)])[0]?).map (·.unit)=kj c:=by
   rw [← O.un (g:=f1 f) rfl,List.getElem?_append_left (by simp)]
  refine Xr R n (by omega) (by simp;omega) L ?_;rcases g with ⟨rfl,x⟩ | ⟨rfl,-⟩
  ·obtain ⟨M,g1,g2⟩:=N.EA ⟨by omega,by omega,by omega⟩;rw [e,Ta] at g1;rw [An (by omega)] at g2;have P:cl m Va us (f1 f) ws.length o loc a [v.Result]:=⟨O.base,u,_,M,N.hu,g1,N.lc.Ix g2,B,N.zs,N.res⟩;have Q:c.live - v.Params=(((ws++(loc++a)).length:Nat):Int):=by simp;omega
   have S:cl m Va us ⟨i.A,0,c.live - v.Params⟩ (ws++(loc++a)).length (some v.Result) (args++List.replicate (v.Cc.length - v.Params.toNat) 0) [] []:=by
    rw [Q];exact dz R Wa Na s (by simp [y]) (fun r h=>by cases h;rfl)
   have T:((v.Cc.length:Int) - v.Params - 0).toNat=v.Cc.length - v.Params.toNat:=by omega
   rw [T] at x;have U:og F G (ws++(loc++a)++((args++List.replicate (v.Cc.length - v.Params.toNat) 0)++[])):=by simpa [List.append_assoc] using x
   exact .inr ⟨rfl,rfl,rfl,fs++[f1 f],ws++(loc++a),some v.Result,⟨i.A,0,c.live - v.Params⟩,_,[],rfl,.snoc O.zi P,S,U⟩
  ·exact .inl rfl
theorem Ii.qH {r:Int}(h:Ii m Va us fs ws (some r)):∃ b g a o' c d,fs=b++[g]∧ws=a++(c++d)∧Ii m Va us b a o'∧cl m Va us g a.length o' c d [r]:=by
 cases h with
 | snoc e f=>exact ⟨_,_,_,_,_,_,rfl,rfl,e,f⟩
theorem EK (O:Op m Va us c fs f ws o loc st u i Ub hs) (R:Og m Va) (p:ri m Kb) (c24:i.Op=24) :
  ∃ r,((Lp m 1 bx t c.state (fs++[f1 f]) c.l c.live 8 400 i).bind fun q=>ai m q.1 q.2.1 q.2.2.1 Kb out q.2.2.2.1 q.2.2.2.2.1 q.2.2.2.2.2.2.1 q.2.2.2.2.2.2.2.1 q.2.2.2.2.2.2.2.2 q.2.2.2.2.2.1)=some r∧dp m Va us c out r:=by
 have N:=O.bb;have k:=N.ok;have e:xd m u i (Ub,0) hs=Ol (Le [u.Result] (Ub,if u.Kind≠2 then Ee 0 8 else 0)):=by unfold xd;simp [c24]
 rw [e] at k;obtain ⟨Ia,Ta,-⟩:=TI k;obtain ⟨d,j⟩:=Rk _ _ Ia;simp only at d j;have x:u.Kind=2:=by
  split at d
  ·exact (Tl d (by decide)).elim
  ·rename_i h;exact Decidable.not_not.1 h
 rw [Ta] at j;have y:Ub=[]++[u.Result]:=j;obtain ⟨z,w,rc,rfl,A,Wa,B,b⟩:=O.pop (bx:=bx) (t:=t) y;obtain rfl:z=[]:=List.eq_nil_of_length_eq_zero A.1;obtain ⟨r,C⟩:∃ r,o=some r:=by
  cases D:o with
  | none=>exact absurd x (N.zs.1 D)
  | some r=>exact ⟨r,rfl⟩
 subst C;have er:=N.res r rfl;obtain ⟨a,g,F,o',G,H,rfl,rfl,K,L⟩:=O.zi.qH;have n:=O.Uf;rw [O.fr] at n;simp only [List.length_append,List.length_singleton] at n;rw [List.append_nil] at b;obtain ⟨fd,M,P⟩:=qz b;have Q:=b.live;have hlen:=Nat.le_trans b.le b.Ua;have S:=O.base;simp only [List.length_append] at Q hlen S;have Fa:cut (a++[g]++[f1 f]) 0 ((((a++[g]).length:Nat)):Int)=some (a++[g]):=by
  unfold cut;rw [if_pos (by simp;omega),Int.toNat_natCast,List.take_left];rfl
 have T:c.live - 1 - f.base=(loc.length:Int):=by omega
 rw [Lp,if_neg (by omega),if_pos c24,B,Ja,ns,eg (by simp;omega),Ja,Jl,Ja,jv,ns,eg (by simp;omega),Ja,Fa,Ja,iv];simp only [Om];rw [Ja,T,eg (by omega),Ja,M,Ja,hv];simp only;obtain ⟨id,Lb,md,rd,U,W⟩:=jw (s:=1) (bx:=bx) (t:=t) (v:=w) P;rw [U,Ja,Ja];simp only;have X:((a++[g])[0]?).map (·.unit)=kj c:=by
  rw [← O.un (g:=f1 f) rfl,List.getElem?_append_left (l₁:=a++[g]) (by simp)]
 refine Xr R p (by omega) (by simp;omega) X ?_;rcases W with ⟨rfl,rfl,-,Y⟩ | ⟨rfl,-⟩
 ·obtain ⟨Z,gc,hc,lc,g1,g2,g3,g4,g5,g6⟩:=L;refine .inr ⟨rfl,rfl,rfl,a,F,o',g,G,H++[w],rfl,K,⟨Z,gc,hc++[r],lc,g1,by rw [List.append_nil];exact g2,g3,g4.push (by rw [← er];exact Wa),g5,g6⟩,by simpa [List.append_assoc] using Y⟩
 ·exact .inl rfl
end
end Go.Y
namespace Go.Y
open Go.yb Go.kc
variable {m:ub}{Va:eh}{us:List Int}{Kb:List Lc}
def As (i:vd):Prop:=i.Op=25∨29≤i.Op
theorem ID (R:Og m Va) (h:ri m Kb){c:se}(j:Ci m Va us c []) (d:c.fr.length≤40){s bx t:Int}(hs:s≤3) :
  ∃ fs f ws o loc st u i Ub hs,Op m Va us c fs f ws o loc st u i Ub hs∧∃ a Ag,hl m Kb s bx t c.fr=some (Kb,a,Ag,t,c.fr)∧Pb Kb a Ag∧(a=1→(i.Op=26→∃ b,at_ Kb i.A=some b∧Xi b∧b.n≠b.l.length)∧(i.Op=27→∃ b,at_ Kb i.A=some b∧Xi b∧b.n≠0)):=by
 obtain ⟨k,p,fs,ws,o,f,loc,st,e,q,g,r⟩:=j;obtain ⟨u,i,Ub,v,a,Ag,N,qa,w,x⟩:=HC R h g (fs:=fs) (s:=s) (bx:=bx) (t:=t) (by rw [e] at d;simp at d;omega) hs;exact ⟨fs,f,ws,o,loc,st,u,i,Ub,v,⟨e,q,g.base,N,r,k,p,d⟩,a,Ag,by rw [e];exact qa,w,x⟩
section
variable {c:se}{fs:List nb}{f:nb}{ws:List Int}{o:Option Int}{loc st:List Int}{u:Tc}{i:vd}{Ub:List Int}{hs:List Bool}{out:List Int}{bx t s Ag:Int}
theorem rH (O:Op m Va us c fs f ws o loc st u i Ub hs){a:Int}(e:hl m Kb s bx t c.fr=some (Kb,a,Ag,t,c.fr)) (h:a≠1):Eo m Kb s bx t out c.state c.fr c.l c.live c.Fg c.kg=some (false,Kb,a,Ag,t,out,c.state,c.fr,c.l,c.live,c.Fg,c.kg):=by
 rw [Eo,e,Ja,if_pos h]
theorem WI (O:Op m Va us c fs f ws o loc st u i Ub hs) (R:Og m Va) (a:ri m Kb) (e:hl m Kb s bx t c.fr=some (Kb,1,Ag,t,c.fr)) (j:(i.Op=26→∃ b,at_ Kb i.A=some b∧Xi b∧b.n≠b.l.length)∧(i.Op=27→∃ b,at_ Kb i.A=some b∧Xi b∧b.n≠0)) (k:out.length≤100000) (d:¬ As i) :
  ∃ r,Eo m Kb s bx t out c.state c.fr c.l c.live c.Fg c.kg=some r∧dp m Va us c out r:=by
 have g:=O.Uf;have N:=O.bb;unfold As at d;rw [Eo,e,Ja,if_neg (by simp),O.Fg,O.kg,O.fr,ns,eg (by rw [O.fr] at g;simp at g;omega),Ja,Jl,Ja];by_cases h:i.Op≠23∧i.Op≠24
 ·exact CK O R a j k ⟨h.1,h.2,fun h=>d (.inl h),fun h=>d (.inr h)⟩
 ·have q:=N.gn.1;rw [Rq,Jl,Ja,N.hu,Ja,N.Ua,Ja,eg (by have:=N.Jx;omega),Ja];simp only [xn];rw [if_neg (by omega),if_neg (by omega),if_neg (by omega),if_neg (by omega),if_neg (by omega),if_neg (by omega),if_neg (by omega),if_pos (by omega),decide_eq_false (by omega),Fp,if_neg (by simp)];simp only [xn];rw [if_neg (by omega),if_neg (by omega),if_neg (by omega),if_neg (by omega),if_neg (by omega)];by_cases p:i.Op=23
  ·exact VI O R a p
  ·exact EK O R a (by omega)
end
theorem Ji.XI {cs:List se}{j:Nat}{Gf:List Int}{gd:List Nat}(h:Ji m Va us cs j Gf gd):j ∈ gd:=by cases h<;>simp
theorem Ji.lt {cs:List se}{j:Nat}{Gf:List Int}{gd:List Nat}(h:Ji m Va us cs j Gf gd):j<cs.length:=by
 cases h with
 | own a=>exact (List.getElem?_eq_some_iff.1 a).1
 | up a=>exact (List.getElem?_eq_some_iff.1 a).1
theorem Ji.off {cs:List se}{j k:Nat}{Gf:List Int}{gd:List Nat}{c':se}(h:Ji m Va us cs j Gf gd) (a:k ∉ gd):Ji m Va us (cs.set k c') j Gf gd:=by
 induction h with
 | own b c d f g i l=>exact .own (by rw [List.getElem?_set_ne (fun e=>a (by simp [e]))]; exact b) c d f g i l
 | up b c d f g i l p n o=>exact .up (by rw [List.getElem?_set_ne (fun e=>a (by simp [e]))]; exact b) c d f g i l (o fun e=>a (List.mem_cons_of_mem _ e)) n
theorem Ji.hq {cs:List se}{j:Nat}{Gf ou:List Int}{gd:List Nat}{c c':se}(h:Ji m Va us cs j Gf gd) (hc:cs[j]?=some c) (a:c'.state=2) (hu:c'.up=c.up) (b:Ci m Va us c' ou):Ji m Va us (cs.set j c') j ou gd:=by
 have d:=(List.getElem?_eq_some_iff.1 hc).1;cases h with
 | own g1 g2 g3 g4 g5 g6 g7=>rw [hc] at g1; cases g1; exact .own (by simp [d]) a (hu.trans g3) b g5 g6 g7
 | up g1 g2 g3 g4 g5 g6 g7 g8 g9=>rw [hc] at g1; cases g1; exact .up (by simp [d]) a (hu.trans g3) b g5 g6 g7 (g8.off g9) g9
theorem Ji.mono {cs:List se}{j:Nat}{Gf:List Int}{gd:List Nat}{x:Int}{d:se}(h:Ji m Va us cs j Gf gd):Ji m Va (us++[x]) (cs++[d]) j Gf gd:=by
 induction h with
 | own a c e f b g i=>exact .own (by rw [List.getElem?_append_left (List.getElem?_eq_some_iff.1 a).1]; exact a) c e f.mono (by rw [List.getElem?_append_left (List.getElem?_eq_some_iff.1 b).1]; exact b) g i
 | up a c e f b g i n k l=>exact .up (by rw [List.getElem?_append_left (List.getElem?_eq_some_iff.1 a).1]; exact a) c e f.mono (by rw [List.getElem?_append_left (List.getElem?_eq_some_iff.1 b).1]; exact b) g i l k
theorem Ji.at {cs:List se}{j:Nat}{Gf:List Int}{gd:List Nat}(h:Ji m Va us cs j Gf gd):∃ c,cs[j]?=some c∧c.state=2∧Ci m Va us c Gf:=by
 cases h with
 | own a b e d=>exact ⟨_,a,b,d⟩
 | up a b e d=>exact ⟨_,a,b,d⟩
end Go.Y
namespace Go.Y
open Go.yb Go.kc
variable {m:ub}{Va:eh}{us:List Int}{Kb:List Lc}
theorem yn {α:Type}{l:List α}{k:Nat}{x y:α}(h:l[k]?=some y):(l.set k x)[k]?=some x:=by
 have:=(List.getElem?_eq_some_iff.1 h).1;simp [this]
theorem Ji.jM {cs:List se}{j:Nat}{Gf:List Int}{gd:List Nat}(h:Ji m Va us cs j Gf gd):∀ k ∈ gd,∃ c,cs[k]?=some c∧c.state=2:=by
 induction h with
 | own b d=>intro k a; obtain rfl:=List.mem_singleton.1 a; exact ⟨_,b,d⟩
 | up b d f g i l n o p e =>
  intro k a;rcases List.mem_cons.1 a with rfl | a
  ·exact ⟨_,b,d⟩
  ·exact e k a
section
variable {p:sc}{Gf ou:List Int}{gd:List Nat}{c c':se}{s bx t v:Int}
theorem Wi.hq (h:Wi m Va us p Gf gd) (hc:p.cs[p.now]?=some c) (b:c'.state=2) (hu:c'.up=c.up) (f:kj c'=kj c) (g:c'.fr.length≤40) (i:Ci m Va us c' ou):Wi m Va us (p.put c') ou gd where
 path:=h.path.hq hc b hu i
 len:=by show us.length=(p.cs.set _ _).length;simpa using h.len
 un j d Na:=by
  by_cases e:j=p.now
  ·subst e;have:(p.cs.set p.now c')[p.now]?=some d:=Na;rw [yn hc] at this;cases this;rw [f];exact h.un _ _ hc
  ·have:(p.cs.set p.now c')[j]?=some d:=Na;rw [List.getElem?_set_ne (fun q=>e q.symm)] at this;exact h.un j d this
 Uf j d Na:=by
  by_cases e:j=p.now
  ·subst e;have:(p.cs.set p.now c')[p.now]?=some d:=Na;rw [yn hc] at this;cases this;exact g
  ·have:(p.cs.set p.now c')[j]?=some d:=Na;rw [List.getElem?_set_ne (fun q=>e q.symm)] at this;exact h.Uf j d this
 off j d Na a:=by
  have e:j≠p.now:=fun q=>a (q ▸ h.path.XI);have:(p.cs.set p.now c')[j]?=some d:=Na;rw [List.getElem?_set_ne (fun q=>e q.symm)] at this;exact h.off j d this a
theorem Wi.at (h:Wi m Va us p Gf gd):∃ c,p.cs[p.now]?=some c∧c.state=2∧Ci m Va us c Gf:=h.path.at
theorem Wi.push {r:Int}(h:Wi m Va us p [r] gd) (Wa:Vi us r v):∃ b a Lb,Fo p s bx t v=some (b,a,bx,Lb)∧b.now<b.cs.length∧(a=s∧Lb=t∧Wi m Va us b [] gd∨a=5):=by
 obtain ⟨c,hc,c2,d⟩:=h.at
 obtain ⟨g,i,fs,ws,o,f,loc,st,e,j,⟨k,u,Ub,hs,g1,g2,g3,g4,g5,g6⟩,l⟩:=id d;obtain ⟨a,Lb,y,z,qa,n⟩:=jw (s:=s) (bx:=bx) (t:=t) (v:=v) l;have q:=(List.getElem?_eq_some_iff.1 hc).1;rw [Fo,hc,Ja,g,i,qa,Ja];refine ⟨_,a,Lb,rfl,by simpa [sc.put] using q,?_⟩;rcases n with ⟨rfl,rfl,-,w⟩ | ⟨rfl,-⟩
 ·have x:=h.Uf _ _ hc;refine .inl ⟨rfl,rfl,h.hq hc c2 rfl rfl x ⟨rfl,rfl,fs,ws,o,f,loc,st++[v],e,j,⟨k,u,Ub++[r],hs,g1,by rw [List.append_nil];exact g2,g3,g4.push Wa,g5,g6⟩,by simpa [List.append_assoc] using w⟩⟩
 ·exact .inr rfl
end
end Go.Y
namespace Go.Y
open Go.yb Go.kc
variable {m:ub}{Va:eh}{us:List Int}{Kb:List Lc}
def ep (m:ub) (Va:eh) (bx:Int) (q:sc×Int×Int×Int):Prop:=q.1.now<q.1.cs.length∧(q.2.1=4∨q.2.1=5∨q.2.1=1∧∃ a b,Wi m Va a q.1 [] b)
section
variable {p:sc}{gd:List Nat}{c:se}{fs:List nb}{f:nb}{ws:List Int}{o:Option Int}{loc st:List Int}{u:Tc}{i:vd}{Ub:List Int}{hs:List Bool}{bx t:Int}
theorem Ii.sH (h:Ii m Va us fs ws none):fs=[]∧ws=[]:=by cases h;exact ⟨rfl,rfl⟩
theorem JB {cs:List se}{j:Nat}{Gf:List Int}{d:se}(h:Ji m Va us cs j Gf gd) (Na:cs[j]?=some d):(d.up=none∧∃ k v,us[j]?=some k∧at_ m.lb k=some v∧v.Kind=4)∨∃ i b k v,d.up=some i∧gd=j::b∧us[j]?=some k∧at_ m.lb k=some v∧v.Kind=3∧Ji m Va us cs i [v.Result] b∧j ∉ b:=by
 cases h with
 | own a l c n e f g=>rw [Na] at a; cases a; exact .inl ⟨c,_,_,e,f,g⟩
 | up a l c n e f g o p=>rw [Na] at a; cases a; exact .inr ⟨_,_,_,_,c,rfl,e,f,g,o,p⟩
theorem JC {a b:se}:(p.put a).put b=p.put b:=by simp [sc.put]
theorem Vw {a d:se}(h:p.cs[p.now]?=some d):(p.put a).cs[(p.put a).now]?=some a:=yn h
theorem KC {Gf:List Int}{sn:Int}{v:Int}{d c1 c:se}{s:Int}(h:Wi m Va us p Gf gd) (Na:p.cs[p.now]?=some d){i:Nat}(r:d.up=some i) (A:c1.up=d.up) (B:kj c1=kj d) (C:c1.fr.length≤40) (f:c={ c1 with state:=sn,up:=none })
  (D:∀ k w,us[p.now]?=some k→at_ m.lb k=some w→w.Kind=3→(sn=1∧Ci m Va us c [w.Yd]∨sn=3)∧Vi us w.Result v) :
  ∃ g l Lb,vr (p.put c1) s bx t sn v=some (g,l,bx,Lb)∧g.now<g.cs.length∧(l=s∧(∃ o,Wi m Va us g [] o)∨l=5):=by
 rcases JB h.path Na with ⟨n,-⟩ | ⟨O,o,k,w,n,rfl,u,y,z,F,G⟩
 ·rw [r] at n;cases n
 ·rw [r] at n;cases n;obtain ⟨g1,g2⟩:=D k w u y z;have H:kj c=us[p.now]?:=by
   have:=h.un _ _ Na;rw [f];exact (show kj c1=_ from B).trans this
  have K:Wi m Va us ⟨p.cs.set p.now c,i⟩ [w.Result] o:=by
   refine ⟨F.off G,by simpa using h.len,fun j e he=>?_,fun j e he=>?_,fun j e he L=>?_⟩
   ·by_cases q:j=p.now
    ·subst q;rw [yn Na] at he;cases he;exact H
    ·rw [List.getElem?_set_ne (fun x=>q x.symm)] at he;exact h.un j e he
   ·by_cases q:j=p.now
    ·subst q;rw [yn Na] at he;cases he;rw [f];exact C
    ·rw [List.getElem?_set_ne (fun x=>q x.symm)] at he;exact h.Uf j e he
   ·by_cases q:j=p.now
    ·subst q;rw [yn Na] at he;cases he;refine ⟨by rw [f],k,w,u,y,z,?_⟩;rcases g1 with ⟨a,b⟩ | a
     ·exact .inr (.inl ⟨by rw [f];exact a,b⟩)
     ·exact .inr (.inr (by rw [f];exact a))
    ·rw [List.getElem?_set_ne (fun x=>q x.symm)] at he;exact h.off j e he (fun x=>(List.mem_cons.1 x).elim q L)
  obtain ⟨g,l,Lb,qa,M,N⟩:=K.push (s:=s) (bx:=bx) (t:=t) g2;have es:(p.put c1).cs.set (p.put c1).now c=p.cs.set p.now c:=by simp [sc.put]
  rw [vr,Vw Na,Ja,A,r,Ja,← f,es,qa];refine ⟨g,l,Lb,rfl,M,?_⟩;rcases N with ⟨a,b,x⟩ | x
  ·exact .inl ⟨a,o,x⟩
  ·exact .inr x
theorem Op.kM (O:Op m Va us c fs f ws o loc st u i Ub hs) (b:u.Kind≠2):fs=[]∧ws=[]∧kj c=some f.unit:=by
 have d:=O.bb.zs.2 b;have a:=O.zi;rw [d] at a;obtain ⟨rfl,rfl⟩:=a.sH;exact ⟨rfl,rfl,by unfold kj;rw [O.fr];rfl⟩
theorem Op.lM (O:Op m Va us c fs f ws o loc st u i Ub hs):kj { c with fr:=fs++[f1 f] }=kj c:=O.un (g:=f1 f) rfl
theorem FK (O:Op m Va us c fs f ws o loc st u i Ub hs) (R:Og m Va) (h:Wi m Va us p [] gd) (hc:p.cs[p.now]?=some c) (g:i.Op=25):∃ q,Dh m (p.put { c with fr:=fs++[f1 f] }) 1 bx t i=some q∧ep m Va bx q:=by
 have j:=(List.getElem?_eq_some_iff.1 hc).1;rw [Dh,if_pos g,Sw,Vw hc,Ja];by_cases b:c.up=none
 ·rw [if_pos b,wj,Ja];exact ⟨_,rfl,by simpa [sc.put] using j,.inl rfl⟩
 ·rw [if_neg b];obtain ⟨d,Ua⟩:∃ d,c.up=some d:=by
   cases e:c.up with
   | none=>exact absurd e b
   | some x=>exact ⟨x,rfl⟩
  obtain ⟨A,B,Lb,qa,l,n⟩:=KC (s:=1) (bx:=bx) (t:=t) (sn:=3) (v:=0) h hc Ua (c1:={ c with fr:=fs++[f1 f] }) rfl O.lM O.len rfl (fun k w C r D=>⟨.inr rfl,Vi.plain (by
   obtain ⟨y,-⟩:=at_mem r;exact (R.form.2.2.1 w y).1.2.2.2.1 (by omega))⟩)
  refine ⟨_,qa,l,?_⟩;rcases n with ⟨a,z,x⟩ | x
  ·exact .inr (.inr ⟨a,us,z,x⟩)
  ·exact .inr (.inl x)
end
end Go.Y
namespace Go.Y
open Go.yb Go.kc
variable {m:ub}{Va:eh}{us:List Int}{Kb:List Lc}
section
variable {p:sc}{gd:List Nat}{c:se}{fs:List nb}{f:nb}{ws:List Int}{o:Option Int}{loc st:List Int}{u:Tc}{i:vd}{Ub:List Int}{hs:List Bool}{bx t:Int}
abbrev Cj (c:se) (fs:List nb) (f:nb) (l:List Int) (live:Int):se:={ c with fr:=fs++[f1 f],l:=l,live:=live,Fg:=8,kg:=400 }
theorem Ax (O:Op m Va us c fs f ws o loc st u i Ub hs):({ c with fr:=fs++[f1 f] }:se)=Cj c fs f c.l c.live:=by
 have a:=O.Fg;have b:=O.kg;cases c;simp at a b;simp [Cj,a,b]
theorem Pv {p:sc}{d:se}{l a:List Int}{live w:Int}(hc:p.cs[p.now]?=some d) (e:zj 1 bx t l live 8 400=some (w,1,bx,t,a,live - 1,8,400)):Wp (p.put (Cj c fs f l live)) 1 bx t=some (w,p.put (Cj c fs f a (live - 1)),1,bx,t):=by
 rw [Wp,Vw hc,Ja];simp only [Cj];rw [e,Ja,JC]
theorem Op.await (O:Op m Va us c fs f ws o loc st u i Ub hs) (d:follows i) (g:i.Op≠4){a b Gf l:List Int}{live:Int}(e:(xd m u i (Ub,0) hs).1=b++Gf) (hw:qi us b a) (h:og l live (ws++(loc++a))):Ci m Va us (Cj c fs f l live) Gf:=by
 obtain ⟨j,g1,g2⟩:=O.bb.EA d;rw [e] at g1;rw [An g] at g2;exact ⟨rfl,rfl,fs,ws,o,f1 f,loc,a,rfl,O.zi,⟨O.base,u,b,j,O.bb.hu,g1,O.bb.lc.Ix g2,hw,O.bb.zs,O.bb.res⟩,h⟩
theorem tH (O:Op m Va us c fs f ws o loc st u i Ub hs) (R:Og m Va) (h:Wi m Va us p [] gd) (hc:p.cs[p.now]?=some c) (c31:i.Op=31):∃ q,Dh m (p.put { c with fr:=fs++[f1 f] }) 1 bx t i=some q∧ep m Va bx q:=by
 have N:=O.bb;have n:=N.ok;have e:xd m u i (Ub,0) hs=Ye (Le [u.Result] (Ub,if u.Kind≠3 then Ee 0 8 else 0)) u.Yd:=by unfold xd;simp [c31]
 rw [e] at n;obtain ⟨Ia,Ta⟩:=ck n;obtain ⟨d,r⟩:=Rk _ _ Ia;simp only at d r;have M:u.Kind=3:=by
  split at d
  ·exact (Tl d (by decide)).elim
  ·rename_i h;exact Decidable.not_not.1 h
 obtain ⟨P,w,B,rfl,C,Wa,D,F⟩:=O.pop (bx:=bx) (t:=t) r;obtain ⟨Q,S,hu⟩:=O.kM (by omega);have G:=O.await ⟨by omega,by omega,by omega⟩ (by omega) (by rw [e];exact Ta) C F;rw [Dh,if_neg (by omega),if_neg (by omega),if_neg (by omega),if_pos c31,Ax O,Pv hc D,Ja];simp only;have l:=h.un _ _ hc;rw [hu] at l;rcases JB h.path hc with ⟨-,k,v,g1,g2,g3⟩ | ⟨j,y,k,v,H,-⟩
 ·rw [← l] at g1;cases g1;rw [N.hu] at g2;cases g2;omega
 ·obtain ⟨T,U,Lb,qa,K,L⟩:=KC (s:=1) (bx:=bx) (t:=t) (sn:=1) (v:=w) h hc H (c1:=Cj c fs f B (c.live - 1)) rfl (O.un (g:=f1 f) rfl) O.len rfl (fun W w' z A X=>by
   rw [← l] at z;cases z;rw [N.hu] at A;cases A;exact ⟨.inl ⟨rfl,by obtain ⟨a,b,x⟩:=G;exact ⟨a,b,x⟩⟩,Wa⟩)
  refine ⟨_,qa,K,?_⟩;rcases L with ⟨a,y,x⟩ | x
  ·exact .inr (.inr ⟨a,us,y,x⟩)
  ·exact .inr (.inl x)
end
end Go.Y
namespace Go.Y
open Go.yb Go.kc
variable {m:ub}{Va:eh}{us:List Int}{Kb:List Lc}
theorem mD {s:bg}(h:(Vh m s).2.2=0):s.2=0∧∃ t v,s.1=(vc s).2.1++[t]∧(vc s).2.2=0∧10≤t∧at_ m.lb (t - 10)=some v∧v.Kind=3∧Vh m s=(some v,(vc s).2):=by
 unfold Vh at h ⊢;by_cases c:(vc s).2.2≠0
 ·rw [if_pos c] at h;exact absurd h c
 ·rw [if_neg c] at h ⊢;obtain ⟨Ia,Ta⟩:=Kr (Decidable.not_not.1 c);by_cases d:Tj m (vc s).1=true
  ·rw [if_pos d];unfold Tj at d;simp only [Bool.and_eq_true,decide_eq_true_eq] at d;obtain ⟨v,Wa,a,-⟩:=rz d.2;exact ⟨Ia,_,v,Ta,Decidable.not_not.1 c,d.1,Wa,a,by rw [kA Wa]⟩
  ·rw [if_neg d] at h;exact (Tl h (by decide)).elim
section
variable {p:sc}{gd:List Nat}{c:se}{fs:List nb}{f:nb}{ws:List Int}{o:Option Int}{loc st:List Int}{u:Tc}{i:vd}{Ub:List Int}{hs:List Bool}{bx t:Int}
theorem ep.of {q:sc×Int×Int×Int}{a:sc}{b Lb:Int}(e:q=(a,b,bx,Lb)) (h:a.now<a.cs.length) (g:b=1∧(∃ c d,Wi m Va c a [] d)∨b=5):ep m Va bx q:=by
 subst e;exact ⟨h,by rcases g with g | g;exact .inr (.inr g);exact .inr (.inl g)⟩
theorem uH (O:Op m Va us c fs f ws o loc st u i Ub hs) (R:Og m Va) (h:Wi m Va us p [] gd) (hc:p.cs[p.now]?=some c) (l:c.state=2) (j:i.Op=32):∃ q,Dh m (p.put { c with fr:=fs++[f1 f] }) 1 bx t i=some q∧ep m Va bx q:=by
 have N:=O.bb;have k:=N.ok;have e:xd m u i (Ub,0) hs=Ye (Vh m (Ub,0)).2 2:=by unfold xd;simp [j]
 rw [e] at k;obtain ⟨Ia,Ta⟩:=ck k;obtain ⟨-,ty,v,n,K,r,Wa,L,uj⟩:=mD Ia;rw [uj] at Ta;obtain ⟨M,w,b,rfl,y,hw,z,A⟩:=O.pop (bx:=bx) (t:=t) n;obtain ⟨w0,Zj⟩:=hw r;have B:w.toNat<p.cs.length:=by rw [← h.len];exact (List.getElem?_eq_some_iff.1 Zj).1
 have C:Ci m Va us (Cj c fs f b (c.live - 1)) [2]:=O.await ⟨by omega,by omega,by omega⟩ (by omega) (by rw [e,uj];exact Ta) y A;have D:=h.hq (c':=Cj c fs f b (c.live - 1)) hc l rfl (O.un (g:=f1 f) rfl) O.len C;obtain ⟨d,Na⟩:∃ d,(p.put (Cj c fs f b (c.live - 1))).cs[w.toNat]?=some d:=⟨_,List.getElem?_eq_getElem (by simpa [sc.put] using B)⟩;rw [Dh,if_neg (by omega),if_neg (by omega),if_neg (by omega),if_neg (by omega),if_pos j,Ax O,Pv hc z,Ja];simp only;rw [if_neg (by omega),Na,Ja];obtain ⟨x,F⟩:∃ x,gl (decide (d.state≠3))=some x:=by cases decide (d.state≠3)<;>exact ⟨_,rfl⟩
 rw [F,Ja];obtain ⟨P,Q,Lb,qa,G,H⟩:=D.push (s:=1) (bx:=bx) (t:=t) (v:=x) (Vi.plain (.inr rfl));refine ⟨_,qa,.of rfl G ?_⟩;rcases H with ⟨a,-,x⟩ | x
 ·exact .inl ⟨a,us,gd,x⟩
 ·exact .inr x
theorem nG (O:Op m Va us c fs f ws o loc st u i Ub hs) (R:Og m Va) (h:Wi m Va us p [] gd) (hc:p.cs[p.now]?=some c) (X:c.state=2) (H:i.Op=30):∃ q,Dh m (p.put { c with fr:=fs++[f1 f] }) 1 bx t i=some q∧ep m Va bx q:=by
 have N:=O.bb;have r:=N.ok;have e:xd m u i (Ub,0) hs=match Vh m (vc (Ub,0)).2 with
  | (some x,w)=>Ye (w.1,if (vc (Ub,0)).1≠x.Yd then Ee w.2 9 else w.2) x.Result
  | (none,w)=>w:=by unfold xd; simp [H] <;> rfl
 have Y:(Vh m (vc (Ub,0)).2).2.2=0∧∃ x,(Vh m (vc (Ub,0)).2).1=some x∧(vc (Ub,0)).1=x.Yd:=by
  rw [e] at r;cases uj:Vh m (vc (Ub,0)).2 with
  | mk a w =>
   rw [uj] at r;cases a with
   | none =>
    exfalso;unfold Vh at uj;split at uj
    ·rename_i k;rw [← (Prod.mk.inj uj).2] at r;exact k r
    ·split at uj
     ·cases (Prod.mk.inj uj).1
     ·rw [← (Prod.mk.inj uj).2] at r;exact Tl r (by decide)
   | some x =>
    obtain ⟨Ia,-⟩:=ck r;simp only at Ia;split at Ia
    ·exact (Tl Ia (by decide)).elim
    ·rename_i k;exact ⟨Ia,x,rfl,Decidable.not_not.1 k⟩
 obtain ⟨g0,x,K,gt⟩:=Y;obtain ⟨Ia,ty,v,L,be,Z,Wa,gc,uj⟩:=mD g0;obtain ⟨-,C⟩:=Kr Ia;rw [uj] at K;obtain rfl:v=x:=Option.some.inj K;have lc:(xd m u i (Ub,0) hs).1=(vc (vc (Ub,0)).2).2.1++[v.Result]:=by
  rw [e] at r ⊢;rw [uj] at r ⊢;exact (ck r).2
 simp only at C L;rw [L] at C;obtain ⟨ce,ge,le,rfl,rc,M,fd,id⟩:=O.pop (bx:=bx) (t:=t) C;obtain ⟨ne,n,D,rfl,md,rd,td,wd⟩:=fC (bx:=bx) (t:=t) id rc;rw [gt] at M;obtain ⟨w0,Zj⟩:=rd Z;have Fd:Ci m Va us (Cj c fs f D (c.live - 1 - 1)) [v.Result]:=O.await ⟨by omega,by omega,by omega⟩ (by omega) lc md wd;have l:=h.hq (c':=Cj c fs f D (c.live - 1 - 1)) hc X rfl (O.un (g:=f1 f) rfl) O.len Fd;rw [Dh,if_neg (by omega),if_neg (by omega),if_pos H,Ax O,Pv hc fd,Ja];simp only;rw [Pv hc td,Ja];simp only;rw [if_neg (by omega)];generalize Ne:p.put (Cj c fs f D (c.live - 1 - 1))=Ta at l ⊢;have P:n.toNat<Ta.cs.length:=by rw [← l.len];exact (List.getElem?_eq_some_iff.1 Zj).1
 have Na:Ta.cs[n.toNat]?=some Ta.cs[n.toNat]:=List.getElem?_eq_getElem P;generalize Ta.cs[n.toNat]=d at Na;have Q:Ta.now<Ta.cs.length:=l.path.lt;rw [et,Na,Ja];by_cases d3:d.state=3
 ·rw [if_pos d3,Pk,if_pos (by decide),wj,Ja,Ja];exact ⟨_,rfl,.of rfl Q (.inr rfl)⟩
 rw [if_neg d3];by_cases d2:d.state=2
 ·rw [if_pos d2,Pk,if_pos (by decide),wj,Ja,Ja];exact ⟨_,rfl,.of rfl Q (.inr rfl)⟩
 rw [if_neg d2];have F:n.toNat ∉ gd:=fun B=>by
  obtain ⟨wf,qa,G⟩:=l.path.jM _ B;rw [Na] at qa;cases qa;exact d2 G
 obtain ⟨If,k,dg,S,T,rg,U⟩:=l.off _ _ Na F;rw [Zj] at S;cases S;rw [Wa] at T;cases T;have W:∀ Gf,Ci m Va us { d with state:=2,up:=some Ta.now } Gf→Wi m Va us ⟨Ta.cs.set n.toNat { d with state:=2,up:=some Ta.now },n.toNat⟩ Gf (n.toNat::gd):=by
  intro Gf y;refine ⟨.up (yn Na) rfl rfl y Zj Wa gc (l.path.off F) F,by simpa using l.len,fun j A he=>?_,fun j A he=>?_,fun j A he B=>?_⟩
  ·by_cases q:j=n.toNat
   ·subst q;rw [yn Na] at he;cases he;have:=l.un _ _ Na;exact this
   ·rw [List.getElem?_set_ne (fun x=>q x.symm)] at he;exact l.un j A he
  ·by_cases q:j=n.toNat
   ·subst q;rw [yn Na] at he;cases he;have:=l.Uf _ _ Na;exact this
   ·rw [List.getElem?_set_ne (fun x=>q x.symm)] at he;exact l.Uf j A he
  ·have q:j≠n.toNat:=fun x=>B (by simp [x]);rw [List.getElem?_set_ne (fun x=>q x.symm)] at he;exact l.off j A he (fun x=>B (List.mem_cons_of_mem _ x))
 by_cases d0:d.state=0
 ·rw [if_pos d0];have y:Ci m Va us d []:=by rcases U with ⟨a,b⟩ | ⟨a,b⟩ | a;exact b;omega;omega
  refine ⟨_,rfl,.of rfl (by simpa using P) (.inl ⟨rfl,us,_,W [] ?_⟩)⟩;obtain ⟨a,b,z⟩:=y;exact ⟨a,b,z⟩
 ·rw [if_neg d0];have y:Ci m Va us d [v.Yd]:=by rcases U with ⟨a,b⟩ | ⟨a,b⟩ | a;omega;exact b;omega
  obtain ⟨bi,w,Lb,qa,G,Id⟩:=(W [v.Yd] (by obtain ⟨a,b,z⟩:=y;exact ⟨a,b,z⟩)).push (s:=1) (bx:=bx) (t:=t) M;refine ⟨_,qa,.of rfl G ?_⟩;rcases Id with ⟨a,-,x⟩ | x
  ·exact .inl ⟨a,us,_,x⟩
  ·exact .inr x
end
end Go.Y
namespace Go.Y
open Go.yb Go.kc
variable {m:ub}{Va:eh}{us:List Int}{Kb:List Lc}
theorem YI {l ws vs:List Int}{live bx t:Int}(h:og l live (ws++vs)):∃ a,Rt 1 bx t l live 8 400 (vs.length:Int)=some (vs,1,bx,t,a,live - vs.length,8,400)∧og a (live - vs.length) ws:=by
 obtain ⟨a,e,d⟩:=qz h;refine ⟨a,?_,d⟩;have b:=h.live;have hle:=h.le;have g:=h.Ua;simp only [List.length_append] at b hle;have qa:Et l live 8 400=some (ws++vs):=by
  have c:=h.take;rw [List.length_append] at c;have Fa:cut l 0 live=some (ws++vs):=by
   unfold cut;rw [if_pos (by omega),b];simp only [Int.toNat_natCast,Int.toNat_zero,List.drop_zero];rw [c]
  rw [Et,Fa,Ja,app,if_pos (by simp;omega),Ja];rfl
 have f:cut (ws++vs) (live - vs.length) ((ws++vs).length:Int)=some vs:=by
  unfold cut;rw [if_pos (by simp;omega),Int.toNat_natCast,List.take_length,show live - (vs.length:Int)=(ws.length:Int) by omega,Int.toNat_natCast,List.drop_left]
 rw [Rt,qa,Ja,Om,Ja,eg (by omega),Ja,f,Ja,e,Ja]
theorem ZI {k:Int}{args:List Int}{v:Tc}(r:v.Cc.length≤200) (s:args.length≤v.Cc.length):∀ (n j:Nat) (st:Int) (l:List Int) (live:Int),j≤v.Cc.length→v.Cc.length<n+j→og l live ((args++List.replicate (v.Cc.length - args.length) 0).take j) →
  ∃ b,ln k args v n j live 8 400 l=some b∧b.1=0∧b.2.1=[⟨k,0,0⟩]∧b.2.2.2.2.1=8∧b.2.2.2.2.2=400∧og b.2.2.1 b.2.2.2.1 (args++List.replicate (v.Cc.length - args.length) 0):=by
 intro n
 induction n with
 | zero=>intro j st l live f g; omega
 | succ n h =>
  intro j st l live f g a;have i:(args++List.replicate (v.Cc.length - args.length) (0:Int)).length=v.Cc.length:=by simp;omega
  rw [ln];by_cases d:(j:Int)<v.Cc.length
  ·rw [if_pos d];have m:j<(args++List.replicate (v.Cc.length - args.length) (0:Int)).length:=by rw [i];omega
   have step:∀ w,(args++List.replicate (v.Cc.length - args.length) (0:Int))[j]=w→∃ b,Jq (j:Int) live 8 400 l (ln k args v n) w=some b∧b.1=0∧b.2.1=[⟨k,0,0⟩]∧b.2.2.2.2.1=8∧b.2.2.2.2.2=400∧og b.2.2.1 b.2.2.2.1 (args++List.replicate (v.Cc.length - args.length) 0):=by
    intro w hw;obtain ⟨o,e,p⟩:=eC (v:=w) a (by rw [List.length_take];omega);rw [Jq,e,Ja,eg (by omega),Ja];have q:(j:Int)+1=((j+1:Nat):Int):=by omega
    simp only;rw [q];refine h (j+1) st o _ (by omega) (by omega) ?_;rw [List.take_succ_eq_append_getElem m,hw];exact p
   by_cases d2:(j:Int)<args.length
   ·have c:j<args.length:=by omega
    rw [if_pos d2,zu,List.getElem?_eq_getElem c,Ja];exact step _ (List.getElem_append_left c)
   ·rw [if_neg d2];exact step 0 (by rw [List.getElem_append_right (by omega)];simp)
  ·rw [if_neg d];rw [List.take_of_length_le (by omega)] at a;exact ⟨_,rfl,rfl,rfl,rfl,rfl,a⟩
theorem KB {k:Int}{args:List Int}{v:Tc}(Wa:at_ m.lb k=some v) (a:v.Cc.length≤200) (c:args.length≤v.Cc.length):∃ b,nr m k args=some b∧b.1=0∧b.2.1=[⟨k,0,0⟩]∧b.2.2.2.2.1=8∧b.2.2.2.2.2=400∧og b.2.2.1 b.2.2.2.1 (args++List.replicate (v.Cc.length - args.length) 0):=by
 have d:al 8=some 8:=by unfold al;rw [if_pos (by decide)];rfl
 rw [nr,Pw,d,Ja,Ja,Wa,Ja];exact ZI (k:=k) a c (v.Cc.length+1) 0 0 _ 0 (by omega) (by omega) ⟨by simp,by simp,by simp,by simp,by simp⟩
section
variable {p:sc}{gd:List Nat}{c:se}{fs:List nb}{f:nb}{ws:List Int}{o:Option Int}{loc st:List Int}{u:Tc}{i:vd}{Ub:List Int}{hs:List Bool}{bx t:Int}
theorem vH (O:Op m Va us c fs f ws o loc st u i Ub hs) (R:Og m Va) (h:Wi m Va us p [] gd) (hc:p.cs[p.now]?=some c) (S:c.state=2) (D:i.Op=29):∃ q,Dh m (p.put { c with fr:=fs++[f1 f] }) 1 bx t i=some q∧ep m Va bx q:=by
 have N:=O.bb;have G:=N.ok;obtain ⟨v,Wa,H,T⟩:=rz (N.gn.2.2.2.2.2.1 D);have e:xd m u i (Ub,0) hs=Ye (Vo v (Ub,0)) (10+i.A):=by unfold xd;simp [D,kA Wa]
 rw [e] at G;obtain ⟨Ia,Ta⟩:=ck G;unfold Vo at Ia Ta e;obtain ⟨-,F⟩:=Rk _ _ Ia;rw [List.reverse_reverse] at F;simp only at F;have Na:=(R.form.2.2.1 v T).1;have hw:=N.ws;rw [F] at hw;obtain ⟨wf,args,rfl,U,K⟩:=hw.split;have W:(args.length:Int)=v.Params:=by
  have X:=K.1;have If:=Na.2.1;rw [List.length_take] at X;omega
 have L:=O.ym;rw [← List.append_assoc,← List.append_assoc] at L;obtain ⟨C,Y,M⟩:=YI (bx:=bx) (t:=t) L;rw [List.append_assoc] at M;have Z:Ci m Va us (Cj c fs f C (c.live - args.length)) [10+i.A]:=O.await ⟨by omega,by omega,by omega⟩ (by omega) (by rw [e];exact Ta) U M;have n:=h.hq (c':=Cj c fs f C (c.live - args.length)) hc S rfl (O.un (g:=f1 f) rfl) O.len Z;have gc:Ew (p.put (Cj c fs f c.l c.live)) 1 bx t v.Params=some (args,p.put (Cj c fs f C (c.live - args.length)),1,bx,t):=by
  rw [Ew,Vw hc,Ja];simp only [Cj];rw [← W,Y,Ja,JC]
 rw [Dh,if_neg (by omega),if_pos D,Ax O,Zy,Wa,Ja,gc,Ja];simp only;generalize p.put (Cj c fs f C (c.live - args.length))=Ta at n ⊢;have lc:Ta.now<Ta.cs.length:=n.path.lt;by_cases d:(30:Int)<Ta.length
 ·rw [if_pos d,Pk,if_pos (by decide),wj,Ja,Ja];exact ⟨_,rfl,.of rfl lc (.inr rfl)⟩
 rw [if_neg d];have rc:=Na.2.1;obtain ⟨b,fd,V,Fe,Za,gf,id⟩:=KB (m:=m) (k:=i.A) (args:=args) Wa rc.1 (by omega);have hlen:Ta.cs.length≤30:=by unfold sc.length at d;omega
 rw [fd,Ja,wj,Ja,eg (by simp;omega),Ja];have md:∃ g,kj (se.mk b.1 none b.2.1 b.2.2.1 b.2.2.2.1 b.2.2.2.2.1 b.2.2.2.2.2)=some i.A∧g=(se.mk b.1 none b.2.1 b.2.2.1 b.2.2.2.1 b.2.2.2.2.1 b.2.2.2.2.2):=⟨_,by unfold kj;rw [Fe];rfl,rfl⟩;obtain ⟨g,P,y⟩:=md;rw [← y] at P ⊢;have rd:v.Cc.length - args.length=v.Cc.length - v.Params.toNat:=by omega
 have td:Ci m Va (us++[i.A]) g []:=by
  have:=dz (us:=us++[i.A]) R Wa Na K.mono (b:=0) (o':=none) (by simp [H]) (fun r h=>by cases h);rw [y];refine ⟨Za,gf,[],[],none,_,_,[],?_,.nil,this,?_⟩
  ·show b.2.1=_;rw [Fe];rfl
  ·rw [← rd];simpa using id
 have wd:Wi m Va (us++[i.A]) ⟨Ta.cs++[g],Ta.now⟩ [10+i.A] gd:=by
  refine ⟨n.path.mono,by simp [n.len],fun j B he=>?_,fun j B he=>?_,fun j B he Fd=>?_⟩
  ·by_cases q:j<Ta.cs.length
   ·rw [List.getElem?_append_left q] at he;rw [List.getElem?_append_left (by rw [n.len];exact q)];exact n.un j B he
   ·rw [List.getElem?_append_right (by omega)] at he;have w:j - Ta.cs.length=0:=by have:=(List.getElem?_eq_some_iff.1 he).1;simp at this;omega
    rw [w] at he;cases he;rw [List.getElem?_append_right (by rw [n.len];omega),n.len,w];exact P
  ·by_cases q:j<Ta.cs.length
   ·rw [List.getElem?_append_left q] at he;exact n.Uf j B he
   ·rw [List.getElem?_append_right (by omega)] at he;have w:j - Ta.cs.length=0:=by have:=(List.getElem?_eq_some_iff.1 he).1;simp at this;omega
    rw [w] at he;cases he;rw [y];show b.2.1.length≤40;rw [Fe];simp
  ·by_cases q:j<Ta.cs.length
   ·rw [List.getElem?_append_left q] at he;obtain ⟨x1,k,Id,Q,be,ce,ge⟩:=n.off j B he Fd;refine ⟨x1,k,Id,by rw [List.getElem?_append_left (List.getElem?_eq_some_iff.1 Q).1];exact Q,be,ce,?_⟩;rcases ge with ⟨a,z⟩ | ⟨a,z⟩ | a
    ·exact .inl ⟨a,z.mono⟩
    ·exact .inr (.inl ⟨a,z.mono⟩)
    ·exact .inr (.inr a)
   ·rw [List.getElem?_append_right (by omega)] at he;have w:j - Ta.cs.length=0:=by have:=(List.getElem?_eq_some_iff.1 he).1;simp at this;omega
    rw [w] at he;cases he;refine ⟨by rw [y],i.A,v,by rw [List.getElem?_append_right (by rw [n.len];omega),n.len,w];rfl,Wa,H,.inl ⟨by rw [y];exact V,td⟩⟩
 obtain ⟨dg,rg,Lb,qa,le,ne⟩:=wd.push (s:=1) (bx:=bx) (t:=t) (v:=(Ta.cs.length:Int)) (fun _=>⟨by omega,by
  rw [Int.toNat_natCast,← n.len,List.getElem?_append_right (Nat.le_refl _)];simp;omega⟩)
 have Ne:(((Ta.cs++[g]).length:Nat):Int) - 1=(Ta.cs.length:Int):=by simp
 rw [Ne,qa];refine ⟨_,rfl,.of rfl le ?_⟩;rcases ne with ⟨a,-,x⟩ | x
 ·exact .inl ⟨a,_,_,x⟩
 ·exact .inr x
theorem GK (O:Op m Va us c fs f ws o loc st u i Ub hs) (R:Og m Va) (h:Wi m Va us p [] gd) (hc:p.cs[p.now]?=some c) (a:c.state=2) (b:As i):∃ q,Dh m (p.put { c with fr:=fs++[f1 f] }) 1 bx t i=some q∧ep m Va bx q:=by
 have g:=O.bb.gn.1;rcases b with k | k
 ·exact FK O R h hc k
 ·by_cases k1:i.Op=29
  ·exact vH O R h hc a k1
  ·by_cases d:i.Op=30
   ·exact nG O R h hc a d
   ·by_cases e:i.Op=31
    ·exact tH O R h hc e
    ·exact uH O R h hc a (by omega)
end
end Go.Y
namespace Go.Y
open Go.yb Go.kc
variable {m:ub}{Va:eh}{us:List Int}{Kb:List Lc}
def Rn (m:ub) (Va:eh) (p:sc) (s:Int):Prop:=p.now<p.cs.length∧(s=4∨s=5∨s≤3∧∃ us gd,Wi m Va us p [] gd)
theorem nw {p:sc}{c:se}(h:p.cs[p.now]?=some c):p.put c=p:=by
 obtain ⟨b,a⟩:=List.getElem?_eq_some_iff.1 h;unfold sc.put;rw [← a,List.set_getElem_self]
theorem wH {p:sc}{s bx t:Int}{i:vd}(h:1≤i.Op∧i.Op≤32) (a:¬ As i):Dh m p s bx t i=none:=by
 unfold As at a;rw [Dh,if_neg (by omega),if_neg (by omega),if_neg (by omega),if_neg (by omega),if_neg (by omega)]
theorem gC (R:Og m Va) (j:ri m Kb){p:sc}{s bx t:Int}(h:Rn m Va p s):∃ a Ag,ur m p s bx t Kb=some (p,a,Ag,t,Kb)∧Rn m Va p a∧(a≤3→Pb Kb a Ag)∧(s≤3→a≤3):=by
 obtain ⟨b,g⟩:=h;by_cases hs:s≤3
 ·rcases g with h | h | ⟨-,us,gd,d⟩
  ·omega
  ·omega
  ·obtain ⟨c,hc,c2,k⟩:=d.at
   obtain ⟨fs,f,ws,o,loc,st,u,i,Ub,l,O,a,Ag,qa,e,-⟩:=ID R j k (d.Uf _ _ hc) (s:=s) (bx:=bx) (t:=t) hs;refine ⟨a,Ag,?_,⟨b,.inr (.inr ⟨e.le,us,gd,d⟩)⟩,fun _=>e,fun _=>e.le⟩;rw [ur,hc,Ja,qa,Ja];simp only;rw [nw hc]
 ·have hc:p.cs[p.now]?=some p.cs[p.now]:=List.getElem?_eq_getElem b;refine ⟨s,bx,?_,⟨b,g⟩,fun h=>absurd h hs,fun h=>absurd h hs⟩;rw [ur,hc,Ja,mw hs,Ja];simp only;rw [nw hc]
theorem xH (R:Og m Va) (e:ri m Kb){p:sc}{s bx t:Int}{out:List Int}(h:Rn m Va p s) (A:out.length≤100000):∃ q y g Ag Lb out' Ih,Ho m p s bx t out Kb=some (q,y,g,Ag,Lb,out',Ih)∧Rn m Va y g∧ri m Ih∧out'.length≤out.length+(if q=true then 1 else 0):=by
 obtain ⟨n,B⟩:=id h;have v:p.cs[p.now]?=some p.cs[p.now]:=List.getElem?_eq_getElem n;by_cases hs:s≤3
 ·rcases B with h | h | ⟨-,us,gd,j⟩
  ·omega
  ·omega
  ·obtain ⟨c,hc,c2,C⟩:=j.at
   have D:=j.Uf _ _ hc;obtain ⟨fs,f,ws,o,loc,st,u,i,Ub,X,O,g,Ag,qa,F,G⟩:=ID R e C D (s:=s) (bx:=bx) (t:=t) hs;by_cases k:g=1
   ·subst k;have Y:c.fr.length=fs.length+1:=by rw [O.fr];simp
    by_cases w:As i
    ·obtain ⟨q,eq,H⟩:=GK (bx:=Ag) (t:=t) O R j hc c2 w;obtain ⟨K,L⟩:=H;have M:Rn m Va q.1 q.2.1:=⟨K,by rcases L with a | a | ⟨a,N,P,x⟩;exact .inl a;exact .inr (.inl a);exact .inr (.inr ⟨by omega,N,P,x⟩)⟩;obtain ⟨s2,l,Q,g1,-,-⟩:=gC R e (bx:=q.2.2.1) (t:=q.2.2.2) M;have d:om m p s bx t out Kb=some (true,q.1,s2,l,q.2.2.2,out,Kb):=by
      rw [om,hc,Ja,qa,Ja,if_neg (by simp)];simp only;rw [O.fr,ns,eg (by omega),Ja,Jl,Ja,ft];simp only;rw [Jl,Ja,O.bb.hu,Ja,O.bb.Ua,Ja,eg (by have:=O.bb.Jx;omega),Ja,xn];have z:=eq;simp only [f1] at z;rw [z,Ja,Q,Ja]
     exact ⟨true,q.1,s2,l,q.2.2.2,out,Kb,by rw [Ho,d],g1,e,by simp⟩
    ·obtain ⟨r,er,Ih,s2,l,t2,S,T,U,W,rfl,g1,g2,g3,g4,g5⟩:=WI O R e qa (G rfl) A w;have d:om m p s bx t out Kb=none:=by
      rw [om,hc,Ja,qa,Ja,if_neg (by simp)];simp only;rw [O.fr,ns,eg (by omega),Ja,Jl,Ja,ft];simp only;rw [Jl,Ja,O.bb.hu,Ja,O.bb.Ua,Ja,eg (by have:=O.bb.Jx;omega),Ja,wH O.bb.gn.1 w];rfl
     refine ⟨true,p.put ⟨c.state,c.up,T,U,W,8,400⟩,s2,l,t2,S,Ih,by rw [Ho,d,Ft,hc,Ja,er,Ja],⟨by simpa [sc.put] using n,?_⟩,g1,by rw [if_pos rfl];exact g2⟩;rcases g5 with a | ⟨a,b⟩
     ·exact .inr (.inl a)
     ·exact .inr (.inr ⟨a.le,us,gd,j.hq hc c2 rfl g4 g3 b⟩)
   ·have d:om m p s bx t out Kb=none:=by rw [om,hc,Ja,qa,Ja,if_pos k]
    refine ⟨false,p,g,Ag,t,out,Kb,?_,⟨n,.inr (.inr ⟨F.le,us,gd,j⟩)⟩,e,by simp⟩;rw [Ho,d,Ft,hc,Ja,rH O qa k,Ja];simp only;rw [nw hc]
 ·have d:om m p s bx t out Kb=none:=by rw [om,v,Ja,mw hs,Ja,if_pos (by simp;omega)]
  refine ⟨false,p,s,bx,t,out,Kb,?_,h,e,by simp⟩;rw [Ho,d,Ft,v,Ja,Eo,mw hs,Ja,if_pos (by simp;omega),Ja];simp only;rw [nw v]
end Go.Y
namespace Go.Y
open Go.yb Go.kc
variable {m:ub}{Va:eh}
structure Ki (m:ub) (Va:eh) (x:Yc) (n:Nat):Prop where
 zl:x.m=m
 Kb:ri m x.boxes
 en:∀ k ∈ x.tasks,Rn m Va k.Ek k.s∧k.out.length≤n
theorem Ki.look {x:Yc}{n:Nat}(R:Og m Va) (h:Ki m Va x n){i:Int}(c:0≤i) (d:i<x.tasks.length):∃ k a,at_ x.tasks i=some k∧Pp x i=some { x with tasks:=x.tasks.set i.toNat a }∧Ki m Va { x with tasks:=x.tasks.set i.toNat a } n∧(a.s≤3→Pb x.boxes a.s a.bx)∧a.out=k.out:=by
 obtain ⟨k,b,mk⟩:=Ck (l:=x.tasks) c d;obtain ⟨g,go⟩:=h.en k mk;obtain ⟨f,Ag,e,j,g2,-⟩:=gC R h.Kb (bx:=k.bx) (t:=k.t) g;refine ⟨k,{ k with s:=f,bx:=Ag },b,?_,⟨h.zl,h.Kb,fun a o=>?_⟩,g2,rfl⟩
 ·rw [Pp,b,Ja,h.zl,e,Ja]
 ·rcases List.mem_or_eq_of_mem_set o with q | rfl
  ·exact h.en a q
  ·exact ⟨j,go⟩
theorem Ki.step {x:Yc}{n:Nat}(R:Og m Va) (h:Ki m Va x n) (w:n≤100000){i:Int}(d:0≤i) (f:i<x.tasks.length):∃ q c,St x i=some (q,c)∧Ki m Va c (n+if q=true then 1 else 0)∧c.tasks.length=x.tasks.length∧c.m=x.m:=by
 obtain ⟨k,j,mk⟩:=Ck (l:=x.tasks) d f;obtain ⟨g,go⟩:=h.en k mk;obtain ⟨q,o,p,Ag,Lb,out',Ih,e,r,s,y⟩:=xH R h.Kb (bx:=k.bx) (t:=k.t) g (by omega:k.out.length≤100000);refine ⟨q,{ x with tasks:=x.tasks.set i.toNat ⟨o,p,Ag,Lb,out'⟩,boxes:=Ih },by rw [St,j,Ja,h.zl,e,Ja],⟨h.zl,s,fun u v=>?_⟩,by simp,rfl⟩;rcases List.mem_or_eq_of_mem_set v with z | rfl
 ·obtain ⟨a,b⟩:=h.en u z;exact ⟨a,by omega⟩
 ·exact ⟨r,by show out'.length≤n+_;omega⟩
end Go.Y
namespace Go.Y
open Go.yb Go.kc
variable {m:ub}{Va:eh}
theorem hC:∀ (Ic:List cp) (acc:List Lc),(∀ b ∈ Ic,1≤b.Zf∧b.Zf≤20)→acc.length+Ic.length≤1000→(∀ b ∈ acc,Xi b)→∃ r,tp Ic acc=some r∧r.length=acc.length+Ic.length∧∀ b ∈ r,Xi b
 | [],acc,_,_,h=>⟨acc,rfl,rfl,h⟩
 | b::Ic,acc,c,d,h=>by
  have hc:=c b (List.mem_cons_self ..);have e:al b.Zf=some b.Zf.toNat:=by unfold al;rw [if_pos (by omega)]
  rw [List.length_cons] at d;obtain ⟨r,qa,f,g⟩:=hC Ic (acc++[⟨List.replicate b.Zf.toNat 0,0,0⟩]) (fun x a=>c x (List.mem_cons_of_mem _ a)) (by simp;omega) (fun x a=>by
   rcases List.mem_append.1 a with q | q
   ·exact h x q
   ·obtain rfl:=List.mem_singleton.1 q;exact ⟨by simp;omega,by simp;omega,by simp,by simp;omega,by simp,by simp;omega⟩)
  refine ⟨r,?_,by rw [f];simp;omega,g⟩;rw [tp,Qw,e,Ja,Ja];simp only;rw [if_neg (by omega),qa]
theorem yH (h:m.lb.length≤30):∀ (n i:Nat) (acc:List Int),i≤m.lb.length→m.lb.length<n+i→acc.length≤i→(∀ u ∈ acc,∃ v,at_ m.lb u=some v∧v.Kind=4)→∃ us,np m n i acc=some us∧us.length≤30∧∀ u ∈ us,∃ v,at_ m.lb u=some v∧v.Kind=4:=by
 intro n
 induction n with
 | zero=>intro i acc f g; omega
 | succ n b =>
  intro i acc f g j a;rw [np];by_cases d:(i:Int)<m.lb.length
  ·have Ua:i<m.lb.length:=by omega
   have c:at_ m.lb (i:Int)=some m.lb[i]:=by rw [zu,List.getElem?_eq_getElem Ua]
   rw [if_pos d,c,Ja];have e:(i:Int)+1=((i+1:Nat):Int):=by omega
   by_cases k:m.lb[i].Kind=4
   ·rw [if_pos k,app,if_pos (by simp;omega),Ja,eg (by omega),Ja,e];refine b (i+1) _ Ua (by omega) (by simp;omega) fun u hu=>?_;rcases List.mem_append.1 hu with q | q
    ·exact a u q
    ·obtain rfl:=List.mem_singleton.1 q;exact ⟨_,c,k⟩
   ·rw [if_neg k,eg (by omega),Ja,e];exact b (i+1) acc Ua (by omega) (by omega) a
  ·rw [if_neg d];exact ⟨acc,rfl,by omega,a⟩
theorem HK (R:Og m Va){u:Int}{v:Tc}(Wa:at_ m.lb u=some v) (d:v.Kind=4):∃ p,bu m u=some (p,1,0,0,[])∧Rn m Va p 1:=by
 obtain ⟨g,-⟩:=at_mem Wa;have Na:=(R.form.2.2.1 v g).1;have e:=Na.2.1;have f:v.Params.toNat=0:=by have:=e.2.2.2.2 d;omega
 obtain ⟨b,i,V,Fe,Za,gf,l⟩:=KB (m:=m) (k:=u) (args:=[]) Wa e.1 (by simp);refine ⟨_,by rw [bu,i,Ja],by simp,.inr (.inr ⟨by decide,[u],[0],?_⟩)⟩;have n:=dz (us:=[u]) R Wa Na (args:=[]) (by rw [f];exact .nil) (b:=0) (o':=none) (by simp [d]) (fun r h=>by cases h);have o:Ci m Va [u] (se.mk 2 none b.2.1 b.2.2.1 b.2.2.2.1 b.2.2.2.2.1 b.2.2.2.2.2) []:=by
  refine ⟨Za,gf,[],[],none,_,_,[],?_,.nil,n,?_⟩
  ·show b.2.1=_;rw [Fe];rfl
  ·rw [f];simpa using l
 refine ⟨.own rfl rfl rfl o rfl Wa d,rfl,fun j c hc=>?_,fun j c hc=>?_,fun j c hc a=>?_⟩
 ·have a:j=0:=by have:=(List.getElem?_eq_some_iff.1 hc).1;simp at this;exact this
  subst a;cases hc;unfold kj;rw [Fe];rfl
 ·have a:j=0:=by have:=(List.getElem?_eq_some_iff.1 hc).1;simp at this;exact this
  subst a;cases hc;show b.2.1.length≤40;rw [Fe];simp
 ·have:j=0:=by have:=(List.getElem?_eq_some_iff.1 hc).1;simp at this;exact this
  exact absurd this (by simpa using a)
theorem LB (R:Og m Va):∀ (us:List Int) (acc:List zk),(∀ u ∈ us,∃ v,at_ m.lb u=some v∧v.Kind=4)→acc.length+us.length≤1000→(∀ k ∈ acc,Rn m Va k.Ek k.s∧k.out.length≤0)→∃ r,vp m us acc=some r∧r.length=acc.length+us.length∧∀ k ∈ r,Rn m Va k.Ek k.s∧k.out.length≤0
 | [],acc,_,_,h=>⟨acc,rfl,rfl,h⟩
 | u::us,acc,hu,b,h=>by
  obtain ⟨v,Wa,c⟩:=hu u (List.mem_cons_self ..);obtain ⟨p,e,g⟩:=HK R Wa c;rw [List.length_cons] at b;obtain ⟨r,qa,d,f⟩:=LB R us (acc++[⟨p,1,0,0,[]⟩]) (fun x a=>hu x (List.mem_cons_of_mem _ a)) (by simp;omega) (fun x a=>by
   rcases List.mem_append.1 a with q | q
   ·exact h x q
   ·obtain rfl:=List.mem_singleton.1 q;exact ⟨g,by simp⟩)
  refine ⟨r,?_,by rw [d];simp;omega,f⟩;rw [vp,e,Ja];simp only;rw [if_neg (by omega),qa]
theorem oG (R:Og m Va):∃ x us,Gt m=some (x,0)∧Ki m Va x 0∧Kp m=some us∧x.tasks.length=us.length∧us.length≤30:=by
 have a:=R.form;have n:=a.1.1;obtain ⟨bx,qa,d,e⟩:=hC m.uc [] (fun b f=>(a.2.1 b f).2) (by simp;omega) (by simp);obtain ⟨us,g,h,i⟩:=yH a.1.2 (m.lb.length+1) 0 [] (by omega) (by omega) (by simp) (by simp);obtain ⟨ts,j,k,l⟩:=LB R us [] i (by simp;omega) (by simp);have c:Kp m=some us:=g;refine ⟨⟨m,ts,bx⟩,us,by rw [Gt,qa,Ja,c,Ja,j,Ja],⟨rfl,⟨by simpa using d,e⟩,l⟩,c,by simpa using k,h⟩
end Go.Y
namespace Go.Y
open Go.yb Go.kc
variable {m:ub}{Va:eh}
theorem IK (R:Og m Va){P:Mi}(l:0≤P.Task) (z:P.Qk≤10000):∀ (fu:Nat) (k Td n:Nat) (x:Yc),10001≤fu+k→k≤10000→n≤20000→n=Td+k→Ki m Va x n→P.Task<x.tasks.length→∃ (d:ql) (b:Yc) (a:Nat),Gm P fu (k:Int) (n:Int) x=some (d,b,(a:Int))∧Ki m Va b a∧n≤a∧a≤20000∧b.tasks.length=x.tasks.length∧(d.mf=0→Td<a):=by
 intro fu
 induction fu with
 | zero=>intro k Td n x o p; omega
 | succ fu r =>
  intro k Td n x o p i A c j;rw [Gm];have stop:∀ x1,Ki m Va x1 n→x1.tasks.length=x.tasks.length→∃ d b a,qo (k:Int) (n:Int) (Gm P fu) false x1=some (d,b,((a:Nat):Int))∧Ki m Va b a∧n≤a∧a≤20000∧b.tasks.length=x.tasks.length∧(d.mf=0→Td<a):=by
   intro x1 g1 g2;rw [qo,if_neg (by simp)];by_cases k0:(k:Int)=0
   ·rw [if_pos k0];exact ⟨_,x1,n,rfl,g1,Nat.le_refl _,i,g2,fun h=>by simp at h⟩
   ·rw [if_neg k0];exact ⟨_,x1,n,rfl,g1,Nat.le_refl _,i,g2,fun _=>by omega⟩
  by_cases c1:(k:Int)<P.Qk
  ·rw [if_pos c1];by_cases c2:(n:Int)<20000
   ·rw [if_pos c2];obtain ⟨q,x1,e,g,f,B⟩:=c.step R (by omega) l j;rw [e,Ja];simp only;cases q with
    | false=>exact stop x1 (by simpa using g) f
    | true =>
     rw [qo,if_pos rfl,eg (by omega),Ja,eg (by omega),Ja];have qa:(k:Int)+1=((k+1:Nat):Int):=by omega
     have s:(n:Int)+1=((n+1:Nat):Int):=by omega
     rw [qa,s];obtain ⟨d,b,a,t,u,C,v,w,y⟩:=r (k+1) Td (n+1) x1 (by omega) (by omega) (by omega) (by omega) (by simpa using g) (by rw [f];exact j);exact ⟨d,b,a,t,u,by omega,v,by rw [w,f],y⟩
   ·rw [if_neg c2];exact stop x c rfl
  ·rw [if_neg c1];exact stop x c rfl
theorem LC (R:Og m Va){fu:Nat}(C:10001≤fu){P:Mi}{n:Nat}{x:Yc}(i:Ki m Va x n) (f:n≤20000):∃ d c a,xr fu x (n:Int) P=some (d,c,((a:Nat):Int))∧Ki m Va c a∧n≤a∧a≤20000∧c.tasks.length=x.tasks.length∧(d.mf=0→n<a):=by
 have o:∀ b:Bool,0≤P.Task→P.Task<x.tasks.length→(b=false→P.Qk≤10000)→∃ d c a,Sq fu x P (n:Int) b=some (d,c,((a:Nat):Int))∧Ki m Va c a∧n≤a∧a≤20000∧c.tasks.length=x.tasks.length∧(d.mf=0→n<a):=by
  intro b e p j;rw [Sq];cases b with
  | true=>rw [if_pos rfl]; exact ⟨_,x,n,rfl,i,Nat.le_refl _,f,rfl,fun h=>by simp at h⟩
  | false =>
   rw [if_neg (by simp)];obtain ⟨k,l,qa,q,g,-,-⟩:=i.look R e p;have r:at_ (x.tasks.set P.Task.toNat l) P.Task=some l:=by
    rw [bq e,List.getElem?_set_self (by omega)]
   rw [qa,Ja,q,Ja];simp only;rw [r,Ja];by_cases d:l.s≠1
   ·rw [if_pos d];exact ⟨_,_,n,rfl,g,Nat.le_refl _,f,by simp,fun h=>by simp at h⟩
   ·rw [if_neg d];obtain ⟨t,c,a,u,v,w,y,z,A⟩:=IK R e (j rfl) fu 0 n n _ (by omega) (by omega) f (by omega) g (by simpa using p);exact ⟨t,c,a,u,v,w,y,by simpa using z,A⟩
 have B:∀ b:Bool,0≤P.Task→(b=false→P.Task<x.tasks.length)→∃ d c a,Gp fu x P (n:Int) b=some (d,c,((a:Nat):Int))∧Ki m Va c a∧n≤a∧a≤20000∧c.tasks.length=x.tasks.length∧(d.mf=0→n<a):=by
  intro b e j;rw [Gp];cases b with
  | true=>rw [if_pos rfl]; exact ⟨_,x,n,rfl,i,Nat.le_refl _,f,rfl,fun h=>by simp at h⟩
  | false =>
   rw [if_neg (by simp)];by_cases d:P.Qk<1
   ·rw [if_pos d];exact o true e (j rfl) (fun h=>by cases h)
   ·rw [if_neg d];exact o _ e (j rfl) (fun h=>by simpa using h)
 rw [xr];by_cases e:P.Task<0
 ·rw [if_pos e,Gp,if_pos rfl];exact ⟨_,x,n,rfl,i,Nat.le_refl _,f,rfl,fun h=>by simp at h⟩
 ·rw [if_neg e];exact B _ (by omega) (fun h=>by
   have:=of_decide_eq_false h;unfold Yc.length at this;omega)
end Go.Y
namespace Go.Y
open Go.yb Go.kc
variable {m:ub}{Va:eh}
theorem aJ (R:Og m Va){n:Nat}{x0:Yc}{st:Int}(A:x0.tasks.length≤1000):∀ (fu i:Nat) (x:Yc) (l:List Int),x0.tasks.length<fu+i→i≤x0.tasks.length→x.tasks.length=x0.tasks.length→x.boxes=x0.boxes→Ki m Va x n→l.length≤i→(∀ k ∈ l,0≤k∧k<x0.tasks.length) →
  ∃ b a,xp x0 st fu (i:Int) x l=some (b,a,st)∧Ki m Va a n∧a.tasks.length=x0.tasks.length∧a.boxes=x0.boxes∧b.length≤x0.tasks.length∧∀ k ∈ b,0≤k∧k<x0.tasks.length:=by
 intro fu
 induction fu with
 | zero=>intro i x l r t; omega
 | succ fu j =>
  intro i x l r t c e o B f;rw [xp];have u:(x0.length:Int)=x0.tasks.length:=rfl;by_cases d:(i:Int)<(x0.length:Int)
  ·rw [if_pos d];rw [u] at d;obtain ⟨k,h,qa,v,g,-,-⟩:=o.look R (i:=(i:Int)) (by omega) (by omega);have w:at_ (x.tasks.set (i:Int).toNat h) (i:Int)=some h:=by rw [bq (by omega),List.getElem?_set_self (by omega)]
   rw [qa,Ja,v,Ja];simp only;rw [w,Ja];have p:(i:Int)+1=((i+1:Nat):Int):=by omega
   by_cases q:h.s=1
   ·rw [if_pos q,app,if_pos (by simp;omega),Ja,eg (by omega),Ja,p];exact j (i+1) _ _ (by omega) (by omega) (by simpa using c) e g (by simp;omega) fun k y=>by
     rcases List.mem_append.1 y with z | z
     ·exact f k z
     ·obtain rfl:=List.mem_singleton.1 z;exact ⟨by omega,d⟩
   ·rw [if_neg q,eg (by omega),Ja,p];exact j (i+1) _ _ (by omega) (by omega) (by simpa using c) e g (by omega) f
  ·rw [if_neg d];exact ⟨l,x,rfl,o,c,e,by omega,f⟩
theorem iC (R:Og m Va){n:Nat}{x:Yc}(b:Ki m Va x n) (c:x.tasks.length≤1000) (st:Int):∃ l a,Ht x st=some (l,a,st)∧Ki m Va a n∧a.tasks.length=x.tasks.length∧a.boxes=x.boxes∧l.length≤x.tasks.length∧∀ k ∈ l,0≤k∧k<x.tasks.length :=
 aJ R c (x.length+1) 0 x [] (by unfold Yc.length;omega) (by omega) rfl rfl b (by simp) (by simp)
end Go.Y
namespace Go.Y
open Go.yb Go.kc
variable {m:ub}{Va:eh}
theorem zH {b:Lc}(h:Xi b):∃ l,Zv b.l b.first b.n=some l:=by
 have f:=h.c1;have g:=h.c2;have j:=h.f0;have k:=h.f1;have m:=h.Td;have o:=h.Ce;have go:∀ (fu i:Nat) (l:List Int),b.n<fu+i→(i:Int)≤b.n→l.length≤i→∃ r,qp b.l b.first b.n fu (i:Int) l=some r:=by
  intro fu
  induction fu with
  | zero=>intro i l g1 g2; omega
  | succ fu a =>
   intro i l g1 g2 g3;rw [qp];by_cases d:(i:Int)<b.n
   ·have a0:0≤(b.first+i).tmod (b.l.length:Int):=Int.tmod_nonneg _ (by omega);have pa:(b.first+i).tmod (b.l.length:Int)<(b.l.length:Int):=Int.tmod_lt_of_pos _ (by omega);obtain ⟨x,c,-⟩:=Ck (l:=b.l) a0 pa;rw [if_pos d,eg (by omega),Ja,Xm,if_neg (by omega),Ja,c,Ja,app,if_pos (by simp;omega),Ja,gv,eg (by omega),Ja];have e:(i:Int)+1=((i+1:Nat):Int):=by omega
    rw [e];exact a (i+1) _ (by omega) (by omega) (by simp;omega)
   ·rw [if_neg d];exact ⟨l,rfl⟩
 exact go _ 0 [] (by omega) (by omega) (by simp)
structure Zn (N:Nat) (w:zh):Prop where
 len:w.Fi.length=N
 vM:∃ Kb,(∀ b ∈ Kb,Xi b)∧∀ e ∈ w.Fi,e.State≤3→Pb Kb e.State e.yi
theorem JK {x:Yc}(c:ri m x.boxes) (j:x.boxes.length≤1000){st:Int}{ts:List gj}:∀ (fu i:Nat) (l:List (List Int)),x.boxes.length<fu+i→i≤x.boxes.length→l.length≤i→∃ Ic,yp st x ts fu (i:Int) l=some (⟨ts,Ic,st⟩,x,st):=by
 intro fu
 induction fu with
 | zero=>intro i l e f; omega
 | succ fu g =>
  intro i l e f k;rw [yp];by_cases d:(i:Int)<x.boxes.length
  ·obtain ⟨b,a,cm⟩:=Ck (l:=x.boxes) (i:=(i:Int)) (by omega) d;obtain ⟨r,er⟩:=zH (c.2 b cm);rw [if_pos d,a,Ja,aw,a,Ja,er,Ja,app,if_pos (by simp;omega),Ja,lv,eg (by omega),Ja];have h:(i:Int)+1=((i+1:Nat):Int):=by omega
   rw [h];exact g (i+1) _ (by omega) (by omega) (by simp;omega)
  ·rw [if_neg d];exact ⟨l,rfl⟩
theorem bJ (R:Og m Va){n:Nat}{x0:Yc}{st:Int}(y:n≤100000) (A:x0.tasks.length≤1000) (j:x0.boxes.length≤1000):∀ (fu i:Nat) (x:Yc) (l:List gj),x0.tasks.length<fu+i→i≤x0.tasks.length→x.tasks.length=x0.tasks.length→x.boxes=x0.boxes→Ki m Va x n→l.length=i→(∀ e ∈ l,e.State≤3→Pb x0.boxes e.State e.yi) →
  ∃ w o,zp x0 st fu (i:Int) x l=some (w,o,st)∧Zn x0.tasks.length w:=by
 intro fu
 induction fu with
 | zero=>intro i x l p q; omega
 | succ fu r =>
  intro i x l p q s a b B c;rw [zp];have f:(x0.length:Int)=x0.tasks.length:=rfl;by_cases d:(i:Int)<(x0.length:Int)
  ·rw [if_pos d];rw [f] at d;obtain ⟨k,h,qa,t,g,g2,g3⟩:=b.look R (i:=(i:Int)) (by omega) (by omega);have u:at_ (x.tasks.set (i:Int).toNat h) (i:Int)=some h:=by rw [bq (by omega),List.getElem?_set_self (by omega)]
   obtain ⟨mk,-⟩:=at_mem qa;have C:=(b.en k mk).2;rw [qa,Ja,t,Ja];simp only;rw [u,Ja,Ja,Ja,Ja,app,if_pos (by rw [g3];simp;omega),Ja,app,if_pos (by simp;omega),Ja,kv,eg (by omega),Ja];have v:(i:Int)+1=((i+1:Nat):Int):=by omega
   rw [v];refine r (i+1) _ _ (by omega) (by omega) (by simpa using s) a g (by simp;omega) fun e he=>?_;rcases List.mem_append.1 he with z | z
   ·exact c e z
   ·obtain rfl:=List.mem_singleton.1 z;rw [← a];exact g2
  ·rw [if_neg d];rw [f] at d;obtain ⟨Ic,e⟩:=JK b.Kb (by rw [a];exact j) (st:=st) (ts:=l) (x.boxes.length+1) 0 [] (by omega) (by omega) (by simp);refine ⟨_,x,e,by show l.length=_;omega,x0.boxes,by rw [← a];exact b.Kb.2,c⟩
theorem AH (R:Og m Va){n:Nat}{x:Yc}(a:Ki m Va x n) (b:n≤100000) (c:x.tasks.length≤1000) (st:Int):∃ w d,bw x st=some (w,d,st)∧Zn x.tasks.length w :=
 bJ R b c (by rw [a.Kb.1];have:=R.form.1.1;omega) (x.length+1) 0 x [] (by unfold Yc.length;omega) (by omega) rfl rfl a rfl (by simp)
end Go.Y
namespace Go.Y
open Go.yb Go.kc
variable {m:ub}{Va:eh}
abbrev Kx (N:Nat) (r:Option (zh×Int)):Prop:=∃ w e,r=some (w,e)∧(e=0→Zn N w)
theorem pG {fu:Nat}{q i163 i168 b:Int}{l:List Int}{x:Yc}{K:Int→List Int→Int→Yc→Option (zh×Int)}{N:Nat}(j:l.length≤1000) (a:∀ y:Int,Kx N (Aq fu q i168 x K y)):∀ (n i:Nat),l.length<n+i→i≤l.length→Kx N (Bq fu q i163 l i168 x b K n (i:Int)):=by
 intro n
 induction n with
 | zero=>intro i c e; omega
 | succ n f =>
  intro i c e;rw [Bq];by_cases d:(i:Int)<l.length
  ·obtain ⟨y,g,-⟩:=Ck (l:=l) (i:=(i:Int)) (by omega) d;rw [if_pos d,g,Ja];split
   ·exact a _
   ·rw [eg (by omega),Ja];have h:(i:Int)+1=((i+1:Nat):Int):=by omega
    rw [h];exact f (i+1) (by omega) (by omega)
  ·rw [if_neg d];exact a _
theorem qG (R:Og m Va){fu:Nat}(j:10001≤fu){q:Int}{N:Nat}(D:N≤1000):∀ (k n:Nat) (i:Int) (l:List Int) (x:Yc),20001≤k+n→n≤20000→Ki m Va x n→x.tasks.length=N→l.length≤1000→Kx N (ho fu q k i l (n:Int) x):=by
 intro k
 induction k with
 | zero=>intro n i l x o a; omega
 | succ k p =>
  intro n i l x o a b r s;rw [ho];by_cases d:(0:Int)<l.length
  ·obtain ⟨y,t,-⟩:=Ck (l:=l) (i:=0) (by omega) d;rw [if_pos d,t,Ja];refine pG s (fun z=>?_) _ 0 (by omega) (by omega);obtain ⟨d,u,f,e,g1,g2,g3,g4,g5⟩:=LC R j (P:=⟨z,q⟩) b a;rw [Aq,e,Ja];by_cases c:d.mf≠0
   ·rw [if_pos c];exact ⟨_,_,rfl,fun h=>by cases h⟩
   ·rw [if_neg c];obtain ⟨v,A,B,C,F,G,H,-⟩:=iC R g1 (by omega) (f:Int);rw [B,Ja];have:=g5 (Decidable.not_not.1 c);exact p f z v A (by omega) g3 C (by omega) (by omega)
  ·rw [if_neg d];obtain ⟨w,u,e,g⟩:=AH R b (by omega) (by omega) (n:Int);rw [e,Ja];exact ⟨w,0,rfl,fun _=>by rw [← r];exact g⟩
theorem rG (R:Og m Va){fu:Nat}(y:20001≤fu){gd:List Mi}{q:Int}{N:Nat}(o:N≤1000) (z:gd.length≤1000):∀ (k a n:Nat) (i:Int) (x:Yc),gd.length<k+a→a≤gd.length→n≤20000→Ki m Va x n→x.tasks.length=N→Kx N (lp fu gd q k i (a:Int) (n:Int) x):=by
 intro k
 induction k with
 | zero=>intro a n i x p r; omega
 | succ k b =>
  intro a n i x p r c f A;rw [lp];by_cases d:(a:Int)<gd.length
  ·obtain ⟨P,s,-⟩:=Ck (l:=gd) (i:=(a:Int)) (by omega) d;obtain ⟨B,g,h,e,g1,g2,g3,g4,g5⟩:=LC R (by omega:10001≤fu) (P:=P) f c;have j:(a:Int)+1=((a+1:Nat):Int):=by omega
   rw [if_pos d,s,Ja,e,Ja];simp only;split
   ·rw [eg (by omega),Ja,j];exact b (a+1) h _ g (by omega) (by omega) g3 g1 (by omega)
   ·rw [eg (by omega),Ja,j];exact b (a+1) h _ g (by omega) (by omega) g3 g1 (by omega)
  ·rw [if_neg d];obtain ⟨t,u,v,w,C,D,F,-⟩:=iC R f (by omega) (n:Int);rw [v,Ja];exact qG R (by omega) o fu n i t u (by omega) c w (by omega) (by omega)
theorem Jr.typed {u:Tc}(h:Jr m u):∃ T,Lo m u T∧∃ h,T 0=some ([],h)∧fg h (Ch u):=by
 obtain ⟨a,⟨f,g⟩,x,j,l,c⟩:=h;have fits:∀ p st hs,Fits a p st hs→p<u.Code.length∧∃ d,((Nc a p).map fun y=>(y.stack,y.has))=some (st,d)∧fg d hs:=by
  rintro p st hs ⟨y,b,rfl,c⟩;exact ⟨(f p y b).1.2,y.has,by rw [b];rfl,c⟩
 refine ⟨fun p=>(Nc a p).map fun y=>(y.stack,y.has),⟨fun p st hs n=>?_⟩,x.has,?_,c⟩
 ·obtain ⟨y,b,e⟩:=Option.map_eq_some_iff.1 n;obtain ⟨rfl,rfl⟩:=Prod.mk.inj e;obtain ⟨i,qa,o,q,r⟩:=g p y b;exact ⟨i,qa,o,fun k=>fits _ _ _ (q k),fun k=>fits _ _ _ (r k)⟩
 ·show (Nc a 0).map _=_;rw [j];exact congrArg (fun z=>some (z,x.has)) l
theorem sG {fu:Nat}(d:1000000≤fu) (hm:Fk m) (gd:List Mi) (q:Int):∃ w e,ht fu m gd q=some (w,e)∧(e=0→fj m∧∃ us,Kp m=some us∧us.length≤30∧Zn us.length w):=by
 obtain ⟨v,qa,f,-⟩:=nH hm d;rw [ht,cw,qa,Ja];by_cases c:v.mf≠0
 ·rw [if_pos c,Ja,if_pos c];exact ⟨_,_,rfl,fun h=>absurd h c⟩
 rw [if_neg c];by_cases c2:(400:Int)<gd.length
 ·rw [if_pos c2,Ja,if_pos (by decide)];exact ⟨_,_,rfl,fun h=>by cases h⟩
 rw [if_neg c2,Ja,if_neg (by decide)];obtain ⟨-,a,g,-⟩:=f (Decidable.not_not.1 c);obtain ⟨Va,R⟩:=Og.of a (fun u hu=>(g u hu).typed);have j:∀ b,∃ w e,Cq fu m gd q b=some (w,e)∧(e=0→fj m∧∃ us,Kp m=some us∧us.length≤30∧Zn us.length w):=by
  intro b;rw [Cq];cases b with
  | true=>rw [if_pos rfl]; exact ⟨_,_,rfl,fun h=>by cases h⟩
  | false =>
   rw [if_neg (by simp)];obtain ⟨x,us,V,Fe,Za,gf,i⟩:=oG R;rw [V,Ja];obtain ⟨w,e,g1,g2⟩:=rG R (fu:=fu) (by omega) (q:=q) (N:=x.tasks.length) (by omega) (by omega:gd.length≤1000) (gd.length+1) 0 0 (-1) x (Nat.lt_succ_self _) (Nat.zero_le _) (Nat.zero_le _) Fe rfl;exact ⟨w,e,g1,fun h=>⟨a,us,Za,i,gf ▸ g2 h⟩⟩
 split
 ·exact j _
 ·exact j _
end Go.Y
namespace Go.Y
open Go.yb Go.kc
variable {m:ub}
theorem BH:Lv 1000000=some true:=by kernel_rfl
theorem Zn.no {N:Nat}{w:zh}(h:Zn N w){a b:gj}(j:a ∈ w.Fi) (k:b ∈ w.Fi) (o:a.State=2) (p:b.State=3):a.yi≠b.yi:=by
 intro e;obtain ⟨Kb,m,c⟩:=h.vM;have d:=c a j (by omega);have f:=c b k (by omega);unfold Pb at d f;obtain ⟨x,x1,q⟩:∃ x,at_ Kb a.yi=some x∧x.n=x.l.length:=by
  rcases d with g | ⟨-,g⟩ | ⟨g,-⟩
  ·omega
  ·exact g
  ·omega
 obtain ⟨y,i,r⟩:∃ y,at_ Kb b.yi=some y∧y.n=0:=by
  rcases f with g | ⟨g,-⟩ | ⟨-,g⟩
  ·omega
  ·omega
  ·exact g
 rw [e,i] at x1;obtain rfl:y=x:=Option.some.inj x1;have:=(m y (at_mem i).1).c1;omega
theorem tG {r:zh×Int}{N:Nat}(h:Zn N r.1) (p:N≤1000){a:gj}(c:a ∈ r.1.Fi){o:Int}(s:0≤o∧o≤1000){K:Int→Option Bool}(e:K (o+1)=some true):∀ (n i:Nat),N<n+i→i≤N→Cm r o a K n (i:Int)=some true:=by
 have t:=h.len;intro n
 induction n with
 | zero=>intro i f g; omega
 | succ n j =>
  intro i f g;rw [Cm];by_cases d:(i:Int)<r.1.Fi.length
  ·obtain ⟨b,k,cm⟩:=Ck (l:=r.1.Fi) (i:=(i:Int)) (by omega) d;have bb:∀ q:Bool,q=false→kp (i:Int) (Cm r o a K n) q=some true:=by
    rintro q rfl;have m:(i:Int)+1=((i+1:Nat):Int):=by omega
    rw [kp,if_neg (by simp),eg (by omega),Ja,m];exact j (i+1) (by omega) (by omega)
   rw [if_pos d,k,Ja];by_cases c2:a.State=2
   ·rw [if_pos c2];by_cases c3:b.State=3
    ·rw [if_pos c3];exact bb _ (decide_eq_false (h.no c cm c2 c3))
    ·rw [if_neg c3];exact bb _ rfl
   ·rw [if_neg c2];exact bb _ rfl
  ·rw [if_neg d,eg (by omega),Ja];exact e
theorem uG {r:zh×Int}{N:Nat}(h:Zn N r.1) (b:N≤1000):∀ (n i:Nat),N<n+i→i≤N→fo r n (i:Int)=some true:=by
 have m:=h.len;intro n
 induction n with
 | zero=>intro i c e; omega
 | succ n f =>
  intro i c e;rw [fo];by_cases d:(i:Int)<r.1.Fi.length
  ·obtain ⟨a,g,j⟩:=Ck (l:=r.1.Fi) (i:=(i:Int)) (by omega) d;rw [if_pos d,g,Ja];refine tG h b j (by omega) ?_ _ 0 (by omega) (by omega);have k:(i:Int)+1=((i+1:Nat):Int):=by omega
   rw [k];exact f (i+1) (by omega) (by omega)
  ·rw [if_neg d]
theorem jE (hm:Fk m) (gd:List Mi) (q:Int):Ys 1000000 m gd q=some true:=by
 obtain ⟨w,e,a,b⟩:=sG (fu:=1000000) (Nat.le_refl _) hm gd q;rw [Ys,BH,Ja,if_pos rfl,a,Ja];by_cases c:e≠0
 ·rw [if_pos c]
 ·rw [if_neg c];obtain ⟨-,us,-,d,hw⟩:=b (Decidable.not_not.1 c);exact uG (r:=(w,e)) hw (by omega) _ 0 (by have:=hw.len;show us.length<w.Fi.length+1+0;omega) (by omega)
end Go.Y
