/- Texts of SynTurns Pl. -/
import Derived.Test.YtbdiobhgejmgoaaGreatDoorCMd
import Derived.Test.YtbdiobhgejmgoaaGreatDoorCLf
set_option linter.unusedSimpArgs false
set_option linter.unusedVariables false
set_option linter.unusedSectionVars false
namespace Go.Y
open Go.Sb Go.ec
abbrev Nb:=List Ca
def Ur:Nb→Int→Int
 | [],e=>e
 | t::_,_=>t.Ae
def Ua:Nb→List UInt8→Bool
 | [],_=>false
 | t::_,k=>decide (t.Text=k)
theorem Gk {α:Type}(x:α) (l:List α):at_ (x::l) 0=some x:=by simp [at_]
theorem Cq {α:Type}(x:α) (l:List α):cut (x::l) 1 (x::l).length=some l:=by
 unfold cut;rw [if_pos ⟨by omega,by simp;omega,by simp⟩];simp
theorem aj (l:Nb) (e d:Int):bh l e d=some (Ur l e):=by
 cases l with
 | nil=>rfl
 | cons t l =>
  unfold bh;rw [if_neg (by simp;omega),Gk];rfl
theorem bt (l:Nb) (e d:Int) (k:List UInt8):Og l e d k=some (Ua l k):=by
 cases l with
 | nil=>rfl
 | cons t l =>
  unfold Og;rw [if_pos (by simp),Gk];rfl
theorem oq (l:Nb) (e d:Int) (k:List UInt8):Cc l e d k=some (if Ua l k=true then (true,l.tail,e,d) else (false,l,e,d)):=by
 unfold Cc;rw [bt,Option.bind_some];cases l with
 | nil=>rfl
 | cons t l =>
  by_cases h:Ua (t::l) k=true
  ·rw [if_pos h,if_pos h,Cq];rfl
  ·rw [if_neg h,if_neg h]
theorem nE {l:Nb}{k:List UInt8}(h:Ua l k=true):∃ t a,l=t::a∧t.Text=k:=by
 cases l with
 | nil=>cases h
 | cons t l=>exact ⟨t,l,rfl,of_decide_eq_true h⟩
theorem tv {l:Nb}{k:List UInt8}(h:Ua l k=true):l.tail.length+1=l.length:=by
 obtain ⟨t,a,rfl,-⟩:=nE h;rfl
theorem er (l:Nb) (e d:Int) (k:List UInt8):Lf l e d [k]=some (if Ua l k=true then .ok (l.tail,e,d) else .error ⟨2,Ur l e⟩):=by
 unfold Lf;show jm [k] 2 0 l e d=_;unfold jm;rw [if_pos (by simp),Gk,Option.bind_some,oq,Option.bind_some];by_cases h:Ua l k=true
 ·rw [if_pos h,if_pos rfl,if_pos h];show (some (1:Int)).bind _=_;rw [Option.bind_some];unfold jm;rw [if_neg (by simp)]
 ·rw [if_neg h,if_neg (by simp),if_neg h,aj];rfl
theorem qu (l:Nb) (e d:Int):wk l e d=some (match l with
  | []=>.error ⟨2,e⟩
  | t::a=>if t.Kind=2 then .ok (t.Tm,a,e,d) else .error ⟨2,t.Ae⟩):=by
 cases l with
 | nil=>rfl
 | cons t l =>
  unfold wk;rw [if_neg (by simp;omega),Gk,Option.bind_some];unfold Ym;by_cases h:t.Kind=2
  ·rw [if_neg (by simp [h]),Gk,Option.bind_some,Cq,Option.bind_some];simp [h]
  ·rw [if_pos (by simp [h]),aj,Option.bind_some];simp [h,Ur]
theorem Lu {fu:Nat}(l:Nb) (e d:Int):Xg fu l e d=match l with
  | []=>some (.error ⟨2,e⟩)
  | t::a=>if t.Kind=1 then (De fu t.Text).bind fun b=>if b=true then some (.ok (t.Text,a,e,d)) else some (.error ⟨7,t.Ae⟩) else some (.error ⟨2,t.Ae⟩):=by
 cases l with
 | nil=>rfl
 | cons t l =>
  unfold Xg;rw [if_neg (by simp;omega),Gk,Option.bind_some];unfold gn;by_cases h:t.Kind=1
  ·rw [if_neg (by simp [h]),Gk,Option.bind_some];simp only [h,if_true];cases De fu t.Text with
   | none=>rfl
   | some b =>
    rw [Option.bind_some,Option.bind_some,Cq,Option.bind_some,aj,Option.bind_some];rfl
  ·rw [if_pos (by simp [h]),aj,Option.bind_some];simp [h,Ur]
theorem yF {Re α β:Type}{x:α}{k:Re→β}{f:α→Option β}:iu (some (.ok x)) k f=f x:=rfl
theorem ZB {l:Nb}{e d:Int}(a:0≤d) (b:d≤1000):zi l e d=some (if 200<d+1 then .error ⟨4,Ur l e⟩ else .ok (l,e,d+1)):=by
 unfold zi;rw [show i64 (d+1)=some (d+1) by unfold i64;rw [if_pos (by omega)],Option.bind_some];by_cases h:200<d+1
 ·rw [if_pos h,if_pos h,aj];rfl
 ·rw [if_neg h,if_neg h]
theorem cD {l:Nb}{e d:Int}(a:1≤d) (b:d≤1000):Gg l e d=some (l,e,d - 1):=by
 unfold Gg;rw [show i64 (d - 1)=some (d - 1) by unfold i64;rw [if_pos (by omega)]];rfl
end Go.Y
namespace Go.Y
open Go.Sb Go.ec Go.Tg
theorem oB (t:List UInt8):∀ acc k,acc<10 ^ k→k+t.length≤15→t.all nf=true→Lib.parseUintM (2 ^ 64 - 1) acc t=.ok (ir acc t):=by
 induction t with
 | nil=>intro acc k _ _ _; rfl
 | cons c t b =>
  intro acc k d a Ua;simp only [List.all_cons,Bool.and_eq_true] at Ua;have e:48≤c.toNat∧c.toNat≤57:=by simpa [nf] using Ua.1
  have f:acc<10 ^ 14:=Nat.lt_of_lt_of_le d (Nat.pow_le_pow_right (by decide) (by simp at a;omega));unfold Lib.parseUintM;rw [if_pos e,if_neg (by omega),if_neg (by omega)];exact b _ (k+1) (by rw [Nat.pow_succ];omega) (by simp at a;omega) Ua.2
theorem aC (t:List UInt8) (a:t≠[]) (h:t.length≤15) (Ua:t.all nf=true):Lib.parseIntB 64 t=.ok (val t:Nat):=by
 cases t with
 | nil=>exact absurd rfl a
 | cons c t =>
  have b:48≤c.toNat∧c.toNat≤57:=by simpa [nf] using (List.all_eq_true.1 Ua) c (by simp)
  have d:=MD (c::t) 0 0 (by decide) Ua;have e:(10:Nat) ^ (0+(c::t).length)≤10 ^ 15:=Nat.pow_le_pow_right (by decide) (by omega);have hu:=oB (c::t) 0 0 (by decide) (by simpa using h) Ua;unfold Lib.parseIntB;simp only;rw [if_neg (by omega)];unfold Lib.parseUintB;rw [if_neg (by simp),hu];simp only;rw [if_neg (by omega),if_neg (by omega),if_neg (by omega)];rfl
theorem pq {i:Int}(a:0≤i) (b:i≤100000):i64 i=some i:=by unfold i64;rw [if_pos (by omega)]
theorem Ev {α:Type}{l:List α}{i:Nat}{x:α}(h:l[i]?=some x):at_ l (i:Int)=some x:=by simp [at_,h]
theorem zF {α:Type}(x:α) (l:List α):at_ (x::l) 0=some x:=by simp [at_]
theorem Vu {α:Type}{s:List α}{i:Nat}(h:i≤s.length):cut s (i:Int) (s.length:Int)=some (s.drop i):=by
 unfold cut;rw [if_pos ⟨by omega,by omega,by omega⟩];simp
theorem Fv {α:Type}{s:List α}{i:Nat}(h:i≤s.length):cut s 0 (i:Int)=some (s.take i):=by
 unfold cut;rw [if_pos ⟨by omega,by omega,by omega⟩];simp
theorem dz (c:UInt8):ui c=some (rm c):=by
 unfold ui rm;by_cases h:(97:Int)≤(c.toNat:Int)
 ·rw [if_pos h];by_cases e:(c.toNat:Int)≤122
  ·rw [if_pos e];have a:97≤c.toNat:=by omega
   have b:c.toNat≤122:=by omega
   simp [a,b]
  ·rw [if_neg e];have b:¬ c.toNat≤122:=by omega
   have d:((c.toNat:Int)=95) ↔ c.toNat=95:=by omega
   simp [b,d];rfl
 ·rw [if_neg h];have a:¬ 97≤c.toNat:=by omega
  have d:((c.toNat:Int)=95) ↔ c.toNat=95:=by omega
  simp [a,d];rfl
theorem Gv (c:UInt8):Vk c=some (nf c):=by
 unfold Vk nf;by_cases h:(48:Int)≤(c.toNat:Int)
 ·rw [if_pos h];have a:48≤c.toNat:=by omega
  have b:((c.toNat:Int)≤57) ↔ c.toNat≤57:=by omega
  simp [a,b]
 ·rw [if_neg h];have a:¬ 48≤c.toNat:=by omega
  simp [a]
theorem AF (c:UInt8):Wo c=some (yq c):=by
 unfold Wo yq;rw [dz,Option.bind_some];cases rm c
 ·rw [if_neg (by decide),Gv];rfl
 ·rfl
theorem BF (c:UInt8):Dr c=some (ki c):=by
 unfold Dr ki;have a:((c.toNat:Int)≠10) ↔ c.toNat≠10:=by omega
 simp [a,bne];rfl
theorem ct {α:Type}{s:List α}{i:Nat}(h:i<s.length):s.drop i=s[i]::s.drop (i+1):=(List.drop_eq_getElem_cons h)
theorem CF {p:UInt8→Option Bool}{a:UInt8→Bool}(b:∀ c,p c=some (a c)){s:List UInt8}(e:s.length≤6000):∀ (n i:Nat),i≤s.length→s.length - i<n→Rh s p n (i:Int)=some ((i+((s.drop i).takeWhile a).length:Nat):Int):=by
 intro n
 induction n with
 | zero=>intro i _ h; omega
 | succ n d =>
  intro i f j;unfold Rh;by_cases h:i<s.length
  ·rw [if_pos (by omega),Ev (List.getElem?_eq_getElem h),Option.bind_some,b,Option.bind_some,ct h,List.takeWhile_cons];unfold Hj;by_cases g:a s[i]=true
   ·rw [if_pos g,if_pos g,pq (by omega) (by omega),Option.bind_some];have:=d (i+1) (by omega) (by omega);rw [show ((i:Int)+1)=((i+1:Nat):Int) by omega,this];congr 2;simp only [List.length_cons];omega
   ·rw [if_neg g,if_neg g];simp
  ·rw [if_neg (by omega)];unfold Hj;rw [if_neg (by decide),List.drop_of_length_le (by omega)];simp
theorem Hv {p:UInt8→Option Bool}{a:UInt8→Bool}(b:∀ c,p c=some (a c)){s:List UInt8}(d:s.length≤6000){fu:Nat}(e:7000≤fu):Mj fu s p=some ((s.takeWhile a).length:Int):=by
 have:=CF b d fu 0 (by omega) (by omega);unfold Mj;rw [show (0:Int)=((0:Nat):Int) by rfl,this];simp
theorem oE {fu:Nat}(l:7000≤fu){s:List UInt8}(m:s.length≤6000):∀ (n i:Nat),i≤s.length→s.length - i<n→fi fu s n (i:Int)=some ((i+space (s.drop i):Nat):Int):=by
 intro n
 induction n with
 | zero=>intro i _ h; omega
 | succ n k =>
  intro i o p;unfold fi;by_cases h:i<s.length
  ·rw [if_pos (by omega),Ev (List.getElem?_eq_getElem h),Option.bind_some];have Ua:s.drop i=s[i]::s.drop (i+1):=ct h;generalize q:s[i]=c at Ua ⊢;have r:(s.drop i).length=s.length - i:=List.length_drop ..;by_cases a:El c=true
   ·have e:space (s.drop i)=1+space (s.drop (i+1)):=by rw [Ua];exact Wz a
    have key:Ti fu s (i:Int) c (fi fu s n) true=some ((i+space (s.drop i):Nat):Int):=by
     unfold Ti;rw [if_pos rfl,pq (by omega) (by omega),Option.bind_some,show ((i:Int)+1)=((i+1:Nat):Int) by omega,k (i+1) (by omega) (by omega),e];congr 2;omega
    unfold El at a;simp only [Bool.or_eq_true,beq_iff_eq] at a;by_cases b:(c.toNat:Int)=32
    ·rw [if_pos b];simpa [b] using key
    ·rw [if_neg b];by_cases d:(c.toNat:Int)=9
     ·rw [if_pos d];simpa [d] using key
     ·rw [if_neg d];have f:(c.toNat:Int)=10:=by omega
      simpa [f] using key
   ·have j:El c=false:=by simpa using a
    have key:Ti fu s (i:Int) c (fi fu s n) false=some ((i+space (s.drop i):Nat):Int):=by
     unfold Ti;rw [if_neg (by decide)];by_cases g:c.toNat=35
     ·rw [if_pos (by omega),Vu (by omega),Option.bind_some,Hv BF (by omega) l,Option.bind_some];have t:((s.drop i).takeWhile ki).length≤(s.drop i).length:=(List.takeWhile_sublist _).length_le;have u:0<((s.drop i).takeWhile ki).length:=by
       rw [Ua,List.takeWhile_cons,if_pos (by simp [ki,g])];simp
      rw [pq (by omega) (by omega),Option.bind_some,show ((i:Int)+(((s.drop i).takeWhile ki).length:Int))=((i+((s.drop i).takeWhile ki).length:Nat):Int) by omega,k _ (by omega) (by omega)];have e:space (s.drop i)=((s.drop i).takeWhile ki).length+space ((s.drop i).drop ((s.drop i).takeWhile ki).length):=by
       conv=>lhs;rw [Ua]
       rw [Kz g,← Ua]
      rw [List.drop_drop] at e;rw [e];congr 2;omega
     ·rw [if_neg (by omega)];have e:space (s.drop i)=0:=by rw [Ua];exact oA j g
      rw [e];rfl
    unfold El at j;simp only [Bool.or_eq_false_iff,beq_eq_false_iff_ne,ne_eq] at j;rw [if_neg (by omega),if_neg (by omega)];have f:¬ (c.toNat:Int)=10:=by omega
    simpa [f] using key
  ·rw [if_neg (by omega),List.drop_of_length_le (by omega)];rfl
theorem Jy {fu:Nat}(a:7000≤fu){s:List UInt8}(b:s.length≤6000):Nj fu s=some (space s:Int):=by
 have:=oE a b fu 0 (by omega) (by omega);unfold Nj;rw [show (0:Int)=((0:Nat):Int) by rfl,this];simp
theorem pE (s x:List UInt8):Xo s x=some (x.isPrefixOf s):=by
 unfold Xo sr;by_cases h:x.length≤s.length
 ·rw [if_pos (by omega),Fv h,Option.bind_some,Option.bind_some,NB]
 ·rw [if_neg (by omega),Option.bind_some,XA _ _ (by omega)]
theorem qE (s:List UInt8):∀ (n i:Nat),n+i=19→i≤18→Ln s n (i:Int)=some (((og.drop i).find? fun x=>x.isPrefixOf s).getD []):=by
 intro n
 induction n with
 | zero=>intro i h c; omega
 | succ n b =>
  intro i d e;unfold Ln;by_cases h:i<18
  ·have a:i<og.length:=h;rw [if_pos (by omega)];show (at_ og (i:Int)).bind _=_;rw [Ev (List.getElem?_eq_getElem a),Option.bind_some,pE,Option.bind_some,ct a,List.find?_cons];cases g:og[i].isPrefixOf s with
   | true=>rfl
   | false =>
    rw [if_neg (by decide),pq (by omega) (by omega),Option.bind_some,show ((i:Int)+1)=((i+1:Nat):Int) by omega,b (i+1) (by omega) (by omega)]
  ·rw [if_neg (by omega),List.drop_of_length_le (by show 18≤i;omega)];rfl
theorem rE (s:List UInt8):dq s=some (sign s):=qE s 19 0 rfl (by omega)
def Mq (t:Tok):Ca:=⟨t.kind,t.text,t.num,t.pos⟩
def Mm:Except (Nat×Nat) (List Tok)→List Ca→List Ca×yb
 | .ok a,acc=>(acc++a.map Mq,⟨0,0⟩)
 | .error e,_=>([],⟨e.1,e.2⟩)
theorem bC (r:Except (Nat×Nat) (List Tok)) (t:Tok) (acc:List Ca):Mm (r.map (t::·)) acc=Mm r (acc++[Mq t]):=by
 cases r<;>simp [Except.map,Mm]
theorem DF {fu:Nat}(e:7000≤fu){s:List UInt8}(v:s.length≤6000):∀ (n i:Nat) (acc:List Ca),i≤s.length→s.length - i<n→acc.length≤i→ij fu s n (i:Int) acc=some (Mm (Km i (s.drop i)) acc):=by
 intro n
 induction n with
 | zero=>intro i _ _ h; omega
 | succ n l =>
  intro i acc w x y;unfold ij;by_cases h:i<s.length
  ·have Ua:s.drop i=s[i]::s.drop (i+1):=ct h;have z:(s.drop i).length=s.length - i:=List.length_drop ..;have f:s.drop i≠[]:=by rw [Ua];exact List.cons_ne_nil _ _
   rw [if_pos (by omega),Vu (by omega),Option.bind_some];have m:at_ (s.drop i) 0=some s[i]:=by rw [Ua];exact zF _ _
   rw [m,Option.bind_some,dz,Option.bind_some];have tok:∀ t:Tok,Ci i (s.drop i)=.ok t→Xm fu s (i:Int) acc (ij fu s n) t.kind t.text t.num=some (Mm (Km i (s.drop i)) acc):=by
    intro t j;obtain ⟨A,B,C,o⟩:=Ys j;rw [OC f j,bC];unfold Xm;rw [show app acc [Ca.mk t.kind t.text t.num i]=some (acc++[Mq t]) by unfold app;rw [if_pos (by simp;omega),Mq,o],Option.bind_some,pq (by omega) (by omega),Option.bind_some,show ((i:Int)+(t.text.length:Int))=((i+t.text.length:Nat):Int) by omega,Vu (by omega),Option.bind_some];rw [Jy e (by rw [List.length_drop];omega),Option.bind_some];have p:=sx (s.drop (i+t.text.length));rw [List.length_drop] at p;rw [pq (by omega) (by omega),Option.bind_some,show (((i+t.text.length:Nat):Int)+(space (s.drop (i+t.text.length)):Int))=((i+t.text.length+space (s.drop (i+t.text.length)):Nat):Int) by omega,l _ _ (by omega) (by omega) (by simp;omega)];simp only [List.drop_drop]
   generalize D:s[i]=c at Ua ⊢;by_cases d:rm c=true
   ·rw [if_pos d,Hv AF (by omega) e,Option.bind_some,Fv (List.takeWhile_sublist _).length_le,Option.bind_some,Rx];refine tok ⟨1,(s.drop i).takeWhile yq,0,i⟩ ?_;rw [Ua];simp only [Ci,d,if_true]
   ·have k:rm c=false:=by simpa using d
    rw [if_neg d,Gv,Option.bind_some];by_cases b:nf c=true
    ·rw [if_pos b,Hv Gv (by omega) e,Option.bind_some,Fv (List.takeWhile_sublist _).length_le,Option.bind_some,Rx];have a:Ci i (s.drop i)=if 15<((s.drop i).takeWhile nf).length then .error 3 else .ok ⟨2,(s.drop i).takeWhile nf,val ((s.drop i).takeWhile nf),i⟩:=by
      rw [Ua];exact OB k b
     by_cases g:15<((s.drop i).takeWhile nf).length
     ·rw [if_pos (by omega)];rw [if_pos g] at a;rw [tx f a];rfl
     ·rw [if_neg (by omega)];rw [if_neg g] at a;have q:(s.drop i).takeWhile nf≠[]:=by rw [Ua,List.takeWhile_cons,if_pos b];simp
      have r:Sl ((s.drop i).takeWhile nf)=some ((val ((s.drop i).takeWhile nf):Nat):Int):=by
       unfold Sl;rw [if_pos (by omega),aC _ q (by omega) (ZA _)]
      rw [r,Option.bind_some];exact tok _ a
    ·have u:nf c=false:=by simpa using b
     rw [if_neg b,rE,Option.bind_some];have a:Ci i (s.drop i)=if sign (s.drop i)=[] then .error 2 else .ok ⟨3,sign (s.drop i),0,i⟩:=by
      rw [Ua];exact YA k u
     by_cases g:sign (s.drop i)=[]
     ·rw [if_pos g];rw [if_pos g] at a;rw [tx f a];rfl
     ·rw [if_neg g];rw [if_neg g] at a;exact tok _ a
  ·rw [if_neg (by omega),List.drop_of_length_le (by omega),PB];simp [Mm]
theorem nw {fu:Nat}(a:7000≤fu) (s:List UInt8):Mn fu s=some (Mm (tokens s) []):=by
 rw [aB];unfold Mn;by_cases h:6000<s.length
 ·rw [if_pos (by omega),if_pos h];rfl
 ·rw [if_neg (by omega),if_neg h,Jy a (by omega),Option.bind_some];exact DF a (by omega) fu _ [] (sx s) (by omega) (by simp)
end Go.Y
namespace Go.Y
open Go.Sb Go.ec
theorem Qd {n:Int}(h:-9223372036854775808≤n∧n≤9223372036854775807):i64 n=some n:=if_pos h
theorem pa {α β:Type}{x:α}{f:α→Option β}:Option.bind (some x) f=f x:=rfl
theorem Te {α:Type}{l:List α}{i:Nat}:at_ l (i:Int)=l[i]?:=by simp [at_]
theorem uf {α:Type}{l:List α}(h:0<l.length):at_ l 0=some l[0]:=by simp [at_,h]
theorem oz {α:Type}{l:List α}(h:1<l.length):at_ l 1=some l[1]:=by simp [at_,h]
theorem tw (c:UInt8):∃ b,ui c=some b:=by
 unfold ui;split
 ·split<;>exact ⟨_,rfl⟩
 ·exact ⟨_,rfl⟩
theorem uA (c:UInt8):∃ b,Vk c=some b:=by
 unfold Vk;split<;>exact ⟨_,rfl⟩
theorem dD (c:UInt8):∃ b,Xj c=some b:=by
 obtain ⟨a,d⟩:=tw c;obtain ⟨b,e⟩:=uA c;unfold Xj;rw [d,pa,e,pa];split<;>exact ⟨_,rfl⟩
theorem Ew (l:List UInt8) (p:UInt8→Option Bool) (a:∀ c,∃ b,p c=some b) (d:l.length≤65536):∀ (n i:Nat),i≤l.length→l.length<n+i→∃ r,Rh l p n (i:Int)=some r
 | 0,i,e,f=>by omega
 | n+1,i,e,f=>by
  rw [Rh];by_cases c:i<l.length
  ·obtain ⟨b,g⟩:=a l[i];rw [if_pos (by omega),Te,List.getElem?_eq_getElem c,pa,g,pa];cases b with
   | true=>rw [Hj,if_pos rfl,Qd (by omega),pa]; exact Ew l p a d n (i+1) c (by omega)
   | false=>exact ⟨_,rfl⟩
  ·rw [if_neg (by omega)];exact ⟨_,rfl⟩
theorem xo (fu:Nat) (i:20≤fu) (s:List UInt8):∃ b,De fu s=some b:=by
 have a:∀ b,(b=true∨s.length≤12)→∃ r,Si fu s b=some r:=by
  intro b c;cases b with
  | true=>exact ⟨_,rfl⟩
  | false =>
   have j:s.length≤12:=by simpa using c
   obtain ⟨r,f⟩:=Ew s Xj dD (by omega) fu 0 (by omega) (by omega);have g:Mj fu s Xj=some r:=f;exact ⟨_,by rw [Si,if_neg (by decide),g,pa]⟩
 rw [De];by_cases d:(s.length:Int)<1
 ·rw [if_pos d];exact a _ (.inl rfl)
 ·rw [if_neg d];by_cases e:(12:Int)<s.length
  ·rw [if_pos e];exact a _ (.inl rfl)
  ·have h:0<s.length:=by omega
   obtain ⟨b,c⟩:=tw s[0];rw [if_neg e,uf h,pa,c,pa];cases b with
   | false=>rw [if_neg (by decide)]; exact a _ (.inl rfl)
   | true =>
    rw [if_pos rfl,cat,if_pos (by simp;omega),pa,cat,if_pos (by simp;omega),pa,vq,if_pos (by decide +kernel),pa];exact a _ (.inr (by omega))
def Ef (k:Int):Int:=if k≤3∨k=20 then 0 else if k≤5∨k=21∨k=24 then 1 else if k≤18∨k=23 then 2 else -1
theorem ru (k:Int):br k=some (Ef k):=by
 unfold br Ef;by_cases a:k≤3
 ·rw [if_pos a,if_pos (.inl a)];rfl
 ·rw [if_neg a];by_cases b:k=20
  ·rw [decide_eq_true b,if_pos (.inr b)];rfl
  ·rw [decide_eq_false b,Sq,if_neg (by decide),if_neg (show ¬ (k≤3∨k=20) by omega)];by_cases c:k≤5
   ·rw [if_pos c,if_pos (.inl c)];rfl
   ·rw [if_neg c];by_cases d:k=21
    ·rw [if_pos d,if_pos (.inr (.inl d))];rfl
    ·rw [if_neg d];by_cases e:k=24
     ·rw [decide_eq_true e,if_pos (.inr (.inr e))];rfl
     ·rw [decide_eq_false e,yp,if_neg (by decide),if_neg (show ¬ (k≤5∨k=21∨k=24) by omega)];by_cases f:k≤18
      ·rw [if_pos f,if_pos (.inl f)];rfl
      ·rw [if_neg f];by_cases g:k=23
       ·rw [decide_eq_true g,if_pos (.inr g)];rfl
       ·rw [decide_eq_false g,if_neg (show ¬ (k≤18∨k=23) by omega)];rfl
theorem su (node d:Int) (a:0≤node) (b:node≤4294967296):∃ e,Ho node d=some (e,node+1)∧(e=0→node+1≤2000∧d≤40):=by
 unfold Ho;rw [Qd (by omega),pa];by_cases c:2000<node+1
 ·rw [if_pos c];exact ⟨4,rfl,fun h=>absurd h (by decide)⟩
 ·rw [if_neg c];by_cases e:40<d
  ·rw [decide_eq_true e];exact ⟨4,rfl,fun h=>absurd h (by decide)⟩
  ·rw [decide_eq_false e];exact ⟨0,rfl,fun _=>⟨by omega,by omega⟩⟩
structure uv (x:wa):Prop where
 eq:0≤Ef x.Kind→(x.Kids.length:Int)=Ef x.Kind
 le:x.Kids.length≤6
def Vl:Nat→wa→Prop
 | 0,_=>False
 | k+1,x=>1≤x.Kind∧x.Kind≤24∧uv x∧∀ y ∈ x.Kids,Vl k y
def Jk:Nat→wa→Nat
 | 0,_=>0
 | k+1,x=>1+(x.Kids.map (Jk k)).sum
theorem eD (k:Int):Ef k≤2:=by
 unfold Ef;split
 ·decide
 ·split
  ·decide
  ·split<;>decide
theorem vA:∀ (n:Nat) (x:wa) (d node:Int),62≤n+d→0≤d→d≤41→0≤node→node≤2000 →
  ∃ e k,(se n).Jf node x d=some (e,k)∧node≤k∧(e=0→k≤2000∧Vl (41 - d).toNat x∧k=node+(Jk (41 - d).toNat x:Nat)):=by
 intro n
 induction n with
 | zero=>intro x d node D u v; omega
 | succ n E =>
  intro x d node D u v F Y;show ∃ e k,Jf n (se n) node x d=some (e,k)∧_;obtain ⟨b,H⟩:=xo n (by omega) x.Name;obtain ⟨e,K,he⟩:=su node d F (by omega);rw [Jf,K,pa];by_cases c:e=0
  ·subst c;obtain ⟨Z,Ua⟩:=he rfl;rw [if_neg (by simp)];have M:(41 - d).toNat=(40 - d).toNat+1:=by omega
   rw [M];generalize a:(fun o:Option (Int×Int)=>∃ e k,o=some (e,k)∧node≤k∧(e=0→k≤2000∧Vl ((40 - d).toNat+1) x∧k=node+(Jk ((40 - d).toNat+1) x:Nat)))=P;have bad:∀ e:Int,e≠0→P (some (e,node+1)):=fun e h=>by rw [← a];exact ⟨e,_,rfl,by omega,fun N=>absurd N h⟩
   have L:x.Kids.length≤6→∀ (m i:Nat) (c:Int),i≤x.Kids.length→x.Kids.length<m+i→0≤c→c≤2000 →
     ∃ e k,Gh (se n) x d m i c=some (e,k)∧c≤k∧(e=0→k≤2000∧(∀ y ∈ x.Kids.drop i,Vl (40 - d).toNat y)∧k=c+(((x.Kids.drop i).map (Jk (40 - d).toNat)).sum:Nat)):=by
    intro gc m
    induction m with
    | zero=>intro i c u v; omega
    | succ m Q =>
     intro i c g1 g2 g3 g4;rw [Gh];by_cases q:i<x.Kids.length
     ·obtain ⟨e,k,ea,e2,R⟩:=E x.Kids[i] (d+1) c (by omega) (by omega) (by omega) g3 g4;rw [if_pos (by omega),Te,List.getElem?_eq_getElem q,pa,Qd (by omega),pa,ea,pa];by_cases z:e=0
      ·subst z;obtain ⟨f1,f2,f3⟩:=R rfl;rw [if_neg (by simp),Qd (by omega),pa];obtain ⟨S,T,j,V,l⟩:=Q (i+1) k q (by omega) (by omega) f1;refine ⟨S,T,j,by omega,fun p=>?_⟩;obtain ⟨s1,s2,w⟩:=l p;have W:(41 - (d+1)).toNat=(40 - d).toNat:=by omega
       rw [W] at f2 f3;refine ⟨s1,fun y f=>?_,?_⟩
       ·rw [List.drop_eq_getElem_cons q] at f;rcases List.mem_cons.1 f with rfl | f
        ·exact f2
        ·exact s2 y f
       ·rw [List.drop_eq_getElem_cons q,List.map_cons,List.sum_cons];omega
      ·rw [if_pos z];exact ⟨e,k,rfl,e2,fun h=>absurd h z⟩
     ·rw [if_neg (by omega),List.drop_eq_nil_of_le (by omega)];exact ⟨0,c,rfl,by omega,fun _=>⟨g4,by simp,by simp⟩⟩
   by_cases bd:1≤x.Kind∧x.Kind≤24
   ·have r:∀ b,(b=false→uv x)→P (qk (se n) x d (0,node+1) b):=by
     intro b h;cases b with
     | true=>exact bad 5 (by decide)
     | false =>
      have A:=h rfl;rw [qk,if_neg (by decide),← a];obtain ⟨e,k,j,V,l⟩:=L A.le (x.Kids.length+1) 0 (node+1) (by omega) (by omega) (by omega) (by omega);refine ⟨e,k,j,by omega,fun p=>?_⟩;obtain ⟨s1,s2,w⟩:=l p;rw [List.drop_zero] at s2 w;exact ⟨s1,⟨bd.1,bd.2,A,s2⟩,by rw [Jk];omega⟩
    have lc:=eD x.Kind;have B:∀ b,(b=false→0≤Ef x.Kind→(x.Kids.length:Int)=Ef x.Kind)→P (rk (se n) x d (0,node+1) (Ef x.Kind) b):=by
     intro b h;cases b with
     | true=>rw [rk,if_pos rfl]; exact r _ (fun h=>absurd h (by decide))
     | false =>
      rw [rk,if_neg (by decide)];by_cases q:Ef x.Kind<0
      ·rw [if_pos q];exact r _ fun Ua=>⟨h rfl,by have:=of_decide_eq_false Ua;omega⟩
      ·rw [if_neg q];exact r _ fun _=>⟨h rfl,by have:=h rfl (by omega);omega⟩
    have s:∀ b,P (kj (se n) x d (0,node+1) (Ef x.Kind) b):=by
     intro b;cases b with
     | true=>exact bad 7 (by decide)
     | false =>
      rw [kj,if_neg (by decide)];by_cases q:0≤Ef x.Kind
      ·rw [if_pos q];exact B _ fun Ua _=>by have:=of_decide_eq_false Ua;omega
      ·rw [if_neg q];exact B _ fun _ h=>absurd h q
    have t:∀ b,P (Ij n (se n) x d (0,node+1) (Ef x.Kind) b):=by
     intro g;cases g with
     | true=>exact bad 3 (by decide)
     | false =>
      rw [Ij,if_neg (by decide),H];simp only [pa];split
      ·exact s _
      ·split
       ·exact s _
       ·split<;>exact s _
    have C:∀ b,P (sk n (se n) x d (0,node+1) (Ef x.Kind) b):=by
     intro g;unfold sk;split
     ·exact t _
     ·split
      ·split<;>exact t _
      ·exact t _
    have X:∀ b,P (Ui n (se n) x d (0,node+1) b):=by
     intro g;cases g with
     | true=>exact bad 1 (by decide)
     | false =>
      rw [Ui,if_neg (by decide),ru,pa];split
      ·split<;>exact C _
      ·exact C _
    have G:P (if x.Kind<1 then Ui n (se n) x d (0,node+1) true else Ui n (se n) x d (0,node+1) (decide ((24:Int)<x.Kind))):=by
     split<;>exact X _
    rw [← a] at G;exact G
   ·have G:P (if x.Kind<1 then Ui n (se n) x d (0,node+1) true else Ui n (se n) x d (0,node+1) (decide ((24:Int)<x.Kind))):=by
     split
     ·exact bad 1 (by decide)
     ·rw [decide_eq_true (show 24<x.Kind by omega)];exact bad 1 (by decide)
    rw [← a] at G;exact G
  ·rw [if_pos c];exact ⟨e,_,rfl,by omega,fun h=>absurd h c⟩
def Hk:Nat→ib→Prop
 | 0,_=>False
 | k+1,s=>1≤s.Kind∧s.Kind≤9∧(s.Kind≠6→Vl k s.X)∧((s.Kind=3∨s.Kind=4)→s.Body.length≤50∧∀ y ∈ s.Body,Hk k y)∧(s.Kind=3→s.Nc.length≤50∧∀ y ∈ s.Nc,Hk k y)
def Qi:Nat→ib→Nat
 | 0,_=>0
 | k+1,s=>1+(if s.Kind=6 then 0 else Jk k s.X)+(if s.Kind=3∨s.Kind=4 then (s.Body.map (Qi k)).sum else 0)+(if s.Kind=3 then (s.Nc.map (Qi k)).sum else 0)
theorem wA:∀ (n:Nat),(∀ (l:List ib) (d node:Int),2*(42 - d)+65≤n→0≤d→d≤41→0≤node→node≤2000 →
   ∃ e k,(te n).Be node l d=some (e,k)∧node≤k∧(e=0→k≤2000∧(l.length≤50∧∀ y ∈ l,Hk (41 - d).toNat y)∧k=node+((l.map (Qi (41 - d).toNat)).sum:Nat))) ∧
  (∀ (x:ib) (d node:Int),2*(42 - d)+64≤n→0≤d→d≤41→0≤node→node≤2000 →
   ∃ e k,(te n).Mg node x d=some (e,k)∧node≤k∧(e=0→k≤2000∧Hk (41 - d).toNat x∧k=node+(Qi (41 - d).toNat x:Nat))):=by
 intro n
 induction n with
 | zero=>exact ⟨fun l d node D s t=>by omega,fun l d node D s t=>by omega⟩
 | succ n R =>
  obtain ⟨S,T⟩:=R;refine ⟨fun l d node D s t j F=>?_,fun x d node D s t j F=>?_⟩
  ·show ∃ e k,Be (te n) node l d=some (e,k)∧_;rw [Be];by_cases H:(50:Int)<l.length
   ·rw [if_pos H];exact ⟨5,node,rfl,by omega,fun h=>absurd h (by decide)⟩
   ·rw [if_neg H];have L:∀ (m i:Nat) (c:Int),i≤l.length→l.length<m+i→0≤c→c≤2000 →
      ∃ e k,Kk (te n) l d m i c=some (e,k)∧c≤k∧(e=0→k≤2000∧(∀ y ∈ l.drop i,Hk (41 - d).toNat y)∧k=c+(((l.drop i).map (Qi (41 - d).toNat)).sum:Nat)):=by
     intro m
     induction m with
     | zero=>intro i c s t; omega
     | succ m V =>
      intro i c g1 g2 g3 g4;rw [Kk];by_cases q:i<l.length
      ·obtain ⟨e,k,ea,e2,W⟩:=T l[i] d c (by omega) s t g3 g4;rw [if_pos (by omega),Te,List.getElem?_eq_getElem q,pa,ea,pa];by_cases z:e=0
       ·subst z;obtain ⟨f1,f2,f3⟩:=W rfl;rw [if_neg (by simp),Qd (by omega),pa];obtain ⟨Y,Z,g,u,f⟩:=V (i+1) k q (by omega) (by omega) f1;refine ⟨Y,Z,g,by omega,fun v=>?_⟩;obtain ⟨s1,s2,p⟩:=f v;refine ⟨s1,fun y C=>?_,?_⟩
        ·rw [List.drop_eq_getElem_cons q] at C;rcases List.mem_cons.1 C with rfl | C
         ·exact f2
         ·exact s2 y C
        ·rw [List.drop_eq_getElem_cons q,List.map_cons,List.sum_cons];omega
       ·rw [if_pos z];exact ⟨e,k,rfl,e2,fun h=>absurd h z⟩
      ·rw [if_neg (by omega),List.drop_eq_nil_of_le (by omega)];exact ⟨0,c,rfl,by omega,fun _=>⟨g4,by simp,by simp⟩⟩
    obtain ⟨e,k,g,u,f⟩:=L (l.length+1) 0 node (by omega) (by omega) j F;refine ⟨e,k,g,u,fun v=>?_⟩;obtain ⟨s1,s2,p⟩:=f v;rw [List.drop_zero] at s2 p;exact ⟨s1,⟨by omega,s2⟩,p⟩
  ·show ∃ e k,Mg n (te n) node x d=some (e,k)∧_;obtain ⟨b,lc⟩:=xo n (by omega) x.Name;obtain ⟨e,rc,he⟩:=su node d j (by omega);rw [Mg,rc,pa];by_cases c:e=0
   ·subst c;obtain ⟨Fd,Ua⟩:=he rfl;rw [if_neg (by simp)];have fd:(41 - d).toNat=(40 - d).toNat+1:=by omega
    have K:(41 - (d+1)).toNat=(40 - d).toNat:=by omega
    rw [fd];generalize w:(fun o:Option (Int×Int)=>∃ e k,o=some (e,k)∧node≤k∧(e=0→k≤2000∧Hk ((40 - d).toNat+1) x∧k=node+(Qi ((40 - d).toNat+1) x:Nat)))=P;have bad:∀ e c:Int,e≠0→node≤c→P (some (e,c)):=fun e c h M=>by rw [← w];exact ⟨e,_,rfl,M,fun id=>absurd id h⟩
    have kids:=fun (l:List ib) (c:Int) (M:node≤c) (md:c≤2000)=>S l (d+1) c (by omega) (by omega) (by omega) (by omega) md;rw [K] at kids;have G:P (if x.Kind<1 then Jj n (te n) x d (0,node+1) true else Jj n (te n) x d (0,node+1) (decide ((9:Int)<x.Kind))):=by
     by_cases bd:1≤x.Kind∧x.Kind≤9
     ·have N:∀ (c:Int),node≤c→c≤2000→x.Kind≠6→Vl (40 - d).toNat x.X→((x.Kind=3∨x.Kind=4)→x.Body.length≤50∧∀ y ∈ x.Body,Hk (40 - d).toNat y) →
        c=node+1+(Jk (40 - d).toNat x.X:Nat)+((if x.Kind=3∨x.Kind=4 then (x.Body.map (Qi (40 - d).toNat)).sum else 0:Nat):Int)→P (Mk (te n) x d c):=by
       intro c g1 g2 a A r gc;rw [Mk];by_cases B:x.Kind=3
       ·obtain ⟨e,k,g,u,f⟩:=kids x.Nc c g1 g2;rw [if_pos B,Qd (by omega),pa,g,pa];rw [← w];refine ⟨e,k,rfl,by omega,fun v=>?_⟩;obtain ⟨s1,s2,p⟩:=f v;refine ⟨s1,⟨bd.1,bd.2,fun _=>A,r,fun _=>s2⟩,?_⟩;rw [Qi,if_neg a,if_pos B];omega
       ·rw [if_neg B,← w];refine ⟨0,c,rfl,g1,fun _=>⟨g2,⟨bd.1,bd.2,fun _=>A,r,fun h=>absurd h B⟩,?_⟩⟩;rw [Qi,if_neg a,if_neg B];omega
      have Q:∀ (c:Int) b,node≤c→c≤2000→x.Kind≠6→Vl (40 - d).toNat x.X→(b=true ↔ x.Kind=3∨x.Kind=4)→c=node+1+(Jk (40 - d).toNat x.X:Nat)→P (Nk (te n) x d (0,c) b):=by
       intro c b g1 g2 a A r gc;rw [Nk];by_cases q:b=true
       ·obtain ⟨e,k,g,u,f⟩:=kids x.Body c g1 g2;rw [if_pos q,Qd (by omega),pa,g,pa];by_cases z:e=0
        ·subst z;obtain ⟨s1,s2,p⟩:=f rfl;rw [if_neg (by simp)];exact N k (by omega) s1 a A (fun _=>s2) (by rw [if_pos (r.1 q)];omega)
        ·rw [if_pos z];exact bad e k z (by omega)
       ·rw [if_neg q];exact N c g1 g2 a A (fun h=>absurd (r.2 h) q) (by rw [if_neg fun h=>q (r.2 h)];omega)
      have E:∀ b,P (lj n (te n) x d (0,node+1) b):=by
       intro b;cases b with
       | true=>exact bad 7 _ (by decide) (by omega)
       | false =>
        rw [lj,if_neg (by decide)];by_cases a:x.Kind=6
        ·rw [if_pos a,← w];refine ⟨0,node+1,rfl,by omega,fun _=>⟨by omega,⟨bd.1,bd.2,fun h=>absurd a h,fun h=>by omega,fun h=>by omega⟩,?_⟩⟩;rw [Qi,if_pos a,if_neg (by omega),if_neg (by omega)];omega
        ·obtain ⟨e,k,g,u,f⟩:=vA n x.X (d+1) (node+1) (by omega) (by omega) (by omega) (by omega) (by omega);rw [K] at f;rw [if_neg a,Qd (by omega),pa,g,pa];by_cases z:e=0
         ·subst z;obtain ⟨s1,s2,p⟩:=f rfl;rw [if_neg (by simp)];split
          ·rename_i j;exact Q k true (by omega) s1 a s2 (by simp [j]) (by omega)
          ·rename_i j;exact Q k _ (by omega) s1 a s2 (by simp [j]) (by omega)
         ·rw [if_pos z];exact bad e k z (by omega)
      have rd:∀ b,P (Jj n (te n) x d (0,node+1) b):=by
       intro wd;cases wd with
       | true=>exact bad 1 _ (by decide) (by omega)
       | false =>
        rw [Jj,if_neg (by decide),lc];simp only [pa];split
        ·exact E _
        ·split
         ·exact E _
         ·split<;>exact E _
      split<;>exact rd _
     ·split
      ·exact bad 1 _ (by decide) (by omega)
      ·rw [decide_eq_true (show 9<x.Kind by omega)];exact bad 1 _ (by decide) (by omega)
    rw [← w] at G;exact G
   ·rw [if_pos c];exact ⟨e,_,rfl,by omega,fun h=>absurd h c⟩
def hk (t:zc):Prop:=1≤t.Kind∧t.Kind≤3
theorem Us (fu:Nat) (a:20≤fu) (t:zc):∃ e,Oj fu t=some e∧(e=0→hk t):=by
 obtain ⟨b,d⟩:=xo fu a t.Qc;rw [Oj];by_cases c:1≤t.Kind∧t.Kind≤3
 ·rw [if_neg (by omega),decide_eq_false (by omega),yl,if_neg (by decide),d];simp only [pa];have:∀ b,∃ e,Vq b=some e:=fun b=>by cases b<;>exact ⟨_,rfl⟩
  split
  ·obtain ⟨e,he⟩:=this (!b);exact ⟨e,he,fun _=>c⟩
  ·obtain ⟨e,he⟩:=this false;exact ⟨e,he,fun _=>c⟩
 ·split
  ·exact ⟨1,rfl,fun h=>absurd h (by decide)⟩
  ·rw [decide_eq_true (show 3<t.Kind by omega)];exact ⟨1,rfl,fun h=>absurd h (by decide)⟩
structure Gq (x:sb):Prop where
 k1:1≤x.Kind
 Oh:x.Kind≤4
 Xd:x.Kind=2∨x.Kind=3→x.Params.length≤6∧∀ p ∈ x.Params,hk p.Rb
 Dn:x.Kind=3→hk x.Bd
 ty:x.Kind≠4→hk x.Rb
 Nq:x.Kind≠1→x.Body.length≤50
 oe:x.Kind≠1→∀ y ∈ x.Body,Hk 39 y
def Um (x:sb):Nat:=1+if x.Kind≠1 then (x.Body.map (Qi 39)).sum else 0
theorem pB (fu:Nat) (R:200≤fu) (x:sb) (node:Int) (w:0≤node) (S:node≤2000):∃ e k,Zk fu node x=some (e,k)∧node≤k∧(e=0→k≤2000∧Gq x∧k=node+(Um x:Nat)):=by
 obtain ⟨b,y⟩:=xo fu (by omega) x.Name;obtain ⟨e,A,he⟩:=su node 1 w (by omega);rw [Zk,A,pa];by_cases c:e=0
 ·subst c;obtain ⟨T,Ua⟩:=he rfl;rw [if_neg (by simp)];generalize j:(fun o:Option (Int×Int)=>∃ e k,o=some (e,k)∧node≤k∧(e=0→k≤2000∧Gq x∧k=node+(Um x:Nat)))=P;have bad:∀ e c:Int,e≠0→node≤c→P (some (e,c)):=fun e c h B=>by rw [← j];exact ⟨e,_,rfl,B,fun C=>absurd C h⟩
  have G:P (if x.Kind<1 then Lj fu x (0,node+1) true else Lj fu x (0,node+1) (decide ((4:Int)<x.Kind))):=by
   by_cases bd:1≤x.Kind∧x.Kind≤4
   ·have s:(x.Kind=2∨x.Kind=3→x.Params.length≤6∧∀ p ∈ x.Params,hk p.Rb)→(x.Kind=3→hk x.Bd)→(x.Kind≠4→hk x.Rb)→P (Ok fu x (0,node+1)):=by
     intro g1 g2 g3;rw [Ok];by_cases k1:x.Kind=1
     ·rw [if_neg (by simpa using k1)];have D:∀ b,P (Fp (0,node+1) b):=by
       intro b;cases b with
       | true=>exact bad 3 _ (by decide) (by omega)
       | false =>
        rw [← j];exact ⟨0,node+1,rfl,by omega,fun _=>⟨by omega,⟨bd.1,bd.2,g1,g2,g3,fun h=>absurd k1 h,fun h=>absurd k1 h⟩,by rw [Um,if_neg (by simpa using k1)];omega⟩⟩
      split<;>exact D _
     ·obtain ⟨e,k,E,V,F⟩:=(wA fu).1 x.Body 2 (node+1) (by omega) (by omega) (by omega) (by omega) (by omega);rw [if_pos k1,E,pa,← j];refine ⟨e,k,rfl,by omega,fun H=>?_⟩;obtain ⟨s1,s2,K⟩:=F H;exact ⟨s1,⟨bd.1,bd.2,g1,g2,g3,fun _=>s2.1,fun _=>s2.2⟩,by rw [Um,if_pos k1];rw [show (41 - (2:Int)).toNat=39 from rfl] at K;omega⟩
    have t:(x.Kind=2∨x.Kind=3→x.Params.length≤6∧∀ p ∈ x.Params,hk p.Rb)→(x.Kind=3→hk x.Bd)→P (Pk fu x (0,node+1)):=by
     intro g1 g2;rw [Pk];by_cases Oh:x.Kind=4
     ·rw [if_neg (by simpa using Oh)];exact s g1 g2 fun h=>absurd Oh h
     ·obtain ⟨e,d,a⟩:=Us fu (by omega) x.Rb;rw [if_pos Oh,d,pa];by_cases z:e=0
      ·rw [if_neg (by simpa using z)];exact s g1 g2 fun _=>a z
      ·rw [if_pos z];exact bad e _ z (by omega)
    have u:(x.Kind=2∨x.Kind=3→x.Params.length≤6∧∀ p ∈ x.Params,hk p.Rb)→P (Kj fu x (0,node+1)):=by
     intro g1;rw [Kj];by_cases n:x.Kind=3
     ·obtain ⟨e,d,a⟩:=Us fu (by omega) x.Bd;rw [if_pos n,d,pa];by_cases z:e=0
      ·rw [if_neg (by simpa using z)];exact t g1 fun _=>a z
      ·rw [if_pos z];exact bad e _ z (by omega)
     ·rw [if_neg n];exact t g1 fun h=>absurd h n
    have L:x.Params.length≤6→∀ (m i:Nat),i≤x.Params.length→x.Params.length<m+i→(∀ p ∈ x.Params.take i,hk p.Rb)→P (Qk fu x (0,node+1) m i):=by
     intro l m
     induction m with
     | zero=>intro i d a; omega
     | succ m M =>
      intro i g1 g2 g3;rw [Qk];by_cases q:i<x.Params.length
      ·obtain ⟨r,N⟩:=xo fu (by omega) x.Params[i].Name;obtain ⟨e,d,a⟩:=Us fu (by omega) x.Params[i].Rb;rw [if_pos (by omega),Te,List.getElem?_eq_getElem q,pa,N,pa];cases r with
       | false=>rw [if_neg (by decide)]; exact bad 7 _ (by decide) (by omega)
       | true =>
        rw [if_pos rfl,d,pa];by_cases z:e=0
        ·rw [if_neg (by simpa using z),Qd (by omega),pa];refine M (i+1) q (by omega) fun p f=>?_;rw [List.take_succ_eq_append_getElem q] at f;rcases List.mem_append.1 f with f | f
         ·exact g3 p f
         ·rw [List.mem_singleton.1 f];exact a z
        ·rw [if_pos z];exact bad e _ z (by omega)
      ·rw [if_neg (by omega)];rw [List.take_of_length_le (by omega)] at g3;exact u fun _=>⟨l,g3⟩
    have v:∀ b,(b=true ↔ x.Kind=2∨x.Kind=3)→P (Rk fu x (0,node+1) b):=by
     intro b g;rw [Rk];by_cases q:b=true
     ·rw [if_pos q];by_cases l:(6:Int)<x.Params.length
      ·rw [if_pos l];exact bad 5 _ (by decide) (by omega)
      ·rw [if_neg l];exact L (by omega) (x.Params.length+1) 0 (by omega) (by omega) (by simp)
     ·rw [if_neg q];exact u fun h=>absurd (g.2 h) q
    have Q:∀ b,P (Lj fu x (0,node+1) b):=by
     intro r;cases r with
     | true=>exact bad 1 _ (by decide) (by omega)
     | false =>
      rw [Lj,if_neg (by decide),y,pa];cases b with
      | false=>rw [if_neg (by decide)]; exact bad 7 _ (by decide) (by omega)
      | true =>
       rw [if_pos rfl];split
       ·rename_i a;exact v _ (by simp [a])
       ·rename_i a;exact v _ (by simp [a])
    split<;>exact Q _
   ·split
    ·exact bad 1 _ (by decide) (by omega)
    ·rw [decide_eq_true (show 4<x.Kind by omega)];exact bad 1 _ (by decide) (by omega)
  rw [← j] at G;exact G
 ·rw [if_pos c];exact ⟨e,_,rfl,by omega,fun h=>absurd h c⟩
structure Vr (l:List sb):Prop where
 le:l.length≤30
 ok:∀ d ∈ l,Gq d
 n:(l.map Um).sum≤2000
theorem Uq (fu:Nat) (g:200≤fu) (l:List sb):∃ f,lh fu l=some f∧(f.Wd=0→f.Ae=0∧Vr l):=by
 rw [lh];by_cases b:(30:Int)<l.length
 ·rw [if_pos b];exact ⟨_,rfl,fun h=>absurd h (by decide:(5:Int)≠0)⟩
 ·rw [if_neg b];have L:∀ (m i:Nat) (c:Int),i≤l.length→l.length<m+i→0≤c→c≤2000→(∀ d ∈ l.take i,Gq d)→c=(((l.take i).map Um).sum:Nat)→∃ f,Lk fu l m i c=some f∧(f.Wd=0→f.Ae=0∧Vr l):=by
   intro m
   induction m with
   | zero=>intro i c o r; omega
   | succ m j =>
    intro i c g1 g2 g3 g4 g5 g6;rw [Lk];by_cases q:i<l.length
    ·obtain ⟨e,k,ea,e2,n⟩:=pB fu g l[i] c g3 g4;rw [if_pos (by omega),Te,List.getElem?_eq_getElem q,pa,ea,pa];by_cases z:e=0
     ·subst z;obtain ⟨f1,f2,f3⟩:=n rfl;rw [if_neg (by simp),Qd (by omega),pa];refine j (i+1) k q (by omega) (by omega) f1 (fun p a=>?_) ?_
      ·rw [List.take_succ_eq_append_getElem q] at a;rcases List.mem_append.1 a with a | a
       ·exact g5 p a
       ·rw [List.mem_singleton.1 a];exact f2
      ·rw [List.take_succ_eq_append_getElem q,List.map_append,List.sum_append,List.map_cons,List.map_nil,List.sum_cons,List.sum_nil];omega
     ·rw [if_pos z];exact ⟨_,rfl,fun h=>absurd h z⟩
    ·rw [if_neg (by omega)];rw [List.take_of_length_le (by omega)] at g5 g6;exact ⟨_,rfl,fun _=>⟨rfl,by omega,g5,by omega⟩⟩
  exact L (l.length+1) 0 0 (by omega) (by omega) (by omega) (by omega) (by simp) (by simp)
end Go.Y
namespace Go.Y
open Go.Sb Go.ec
def key (t:Ca):Int×List UInt8×Int:=(t.Kind,t.Text,t.Tm)
def vd (a b:Nb):Prop:=a.map key=b.map key
abbrev Yd (α:Type):=Option (Except yb (α×Nb×Int×Int))
abbrev Hq:=Option (Except yb (Nb×Int×Int))
section
variable {fu:Nat}{m:Nb}{e e2 d d2:Int}{α β:Type}
def Ya (m:Nb) (e e2 d:Int) (N:Nat) (A B:Yd α):Prop :=
 ∀ x l ea d1,A=some (.ok (x,l,ea,d1))→(ea=e∧d1=d)∧l.length≤N∧(l≠[]→∃ l3,B=some (.ok (x,l3,e2,d))∧vd l3 (l++m))
def bu (m:Nb) (e e2 d:Int) (N:Nat) (A B:Hq):Prop :=
 ∀ l ea d1,A=some (.ok (l,ea,d1))→(ea=e∧d1=d)∧l.length≤N∧(l≠[]→∃ l3,B=some (.ok (l3,e2,d))∧vd l3 (l++m))
theorem vd.cons {t:Ca}{l l3:Nb}(h:vd l3 (t::l++m)):∃ a b,l3=a::b∧key a=key t∧vd b (l++m):=by
 cases l3 with
 | nil=>cases h
 | cons a b =>
  unfold vd at h;simp only [List.cons_append,List.map_cons,List.cons.injEq] at h;exact ⟨a,b,rfl,h.1,h.2⟩
theorem Mu {t a:Ca}(h:key a=key t):a.Kind=t.Kind:=congrArg (·.1) h
theorem Rn {t a:Ca}(h:key a=key t):a.Text=t.Text:=congrArg (·.2.1) h
theorem fD {t a:Ca}(h:key a=key t):a.Tm=t.Tm:=congrArg (·.2.2) h
theorem Ya.mono {N f:Nat}{A B:Yd α}(h:Ya m e e2 d N A B) (i:N≤f):Ya m e e2 d f A B:=fun x l ea d g=>by
 obtain ⟨a,b,c⟩:=h x l ea d g;exact ⟨a,by omega,c⟩
theorem Ya.nil {A B c:Yd α}(h:Ya m e e2 d 0 A B):Ya m e e2 d 0 A c:=fun x l ea d g=>by
 obtain ⟨a,b,-⟩:=h x l ea d g;exact ⟨a,b,fun f=>absurd (List.length_eq_zero_iff.1 (by omega)) f⟩
theorem Ya.bind {N:Nat}{A B:Yd α}{f c:α×Nb×Int×Int→Yd β}(h:Ya m e e2 d N A B) (k:∀ x l l3,l.length≤N→vd l3 (l++m)→Ya m e e2 d2 l.length (f (x,l,e,d)) (c (x,l3,e2,d))):Ya m e e2 d2 N (pc A f) (pc B c):=by
 intro y l1 ea d1 g;rcases Dc g with ⟨_,_,q⟩ | ⟨⟨x,l,ta,d0⟩,j,g⟩
 ·cases q
 obtain ⟨⟨rfl,rfl⟩,n,o⟩:=h x l ta d0 j;by_cases a:l=[]
 ·subst a;obtain ⟨b,i,-⟩:=k x [] m (by omega) rfl y l1 ea d1 g;have:l1=[]:=List.length_eq_zero_iff.1 (by simpa using i);exact ⟨b,by simp [this],fun a=>absurd this a⟩
 ·obtain ⟨l3,rfl,p⟩:=o a;obtain ⟨b,i,r⟩:=k x l l3 n p y l1 ea d1 g;exact ⟨b,by omega,r⟩
theorem Ya.ye {N:Nat}{A B:Hq}{f c:Nb×Int×Int→Yd β}(h:bu m e e2 d N A B) (k:∀ l l3,l.length≤N→vd l3 (l++m)→Ya m e e2 d2 l.length (f (l,e,d)) (c (l3,e2,d))):Ya m e e2 d2 N (pc A f) (pc B c):=by
 intro y l1 ea d1 g;rcases Dc g with ⟨_,_,q⟩ | ⟨⟨l,ta,d0⟩,j,g⟩
 ·cases q
 obtain ⟨⟨rfl,rfl⟩,n,o⟩:=h l ta d0 j;by_cases a:l=[]
 ·subst a;obtain ⟨b,i,-⟩:=k [] m (by omega) rfl y l1 ea d1 g;have:l1=[]:=List.length_eq_zero_iff.1 (by simpa using i);exact ⟨b,by simp [this],fun a=>absurd this a⟩
 ·obtain ⟨l3,rfl,p⟩:=o a;obtain ⟨b,i,r⟩:=k l l3 n p y l1 ea d1 g;exact ⟨b,by omega,r⟩
theorem Ya.pure {x:α}{l l3:Nb}(a:vd l3 (l++m)):Ya m e e2 d l.length (some (.ok (x,l,e,d))) (some (.ok (x,l3,e2,d))):=by
 intro y l1 ea d1 g;have:=Except.ok.inj (Option.some.inj g);cases this;exact ⟨⟨rfl,rfl⟩,Nat.le_refl _,fun _=>⟨l3,rfl,a⟩⟩
theorem Ya.err {N:Nat}{q:yb}{B:Yd α}:Ya m e e2 d N (some (.error q)) B:=fun _ _ _ _ g=>by cases g
theorem Ya.none {N:Nat}{B:Yd α}:Ya m e e2 d N Option.none B:=fun _ _ _ _ g=>by cases g
theorem Ya.Cb {N:Nat}{o:Option α}{f a:α→Yd β}(h:∀ y,Ya m e e2 d N (f y) (a y)):Ya m e e2 d N (o.bind f) (o.bind a):=by
 cases o with
 | none=>exact Ya.none
 | some y=>exact h y
theorem Ya.at {N:Nat}{l l3:Nb}{k:Int}{B:Yd α}:Ya m e e2 d N ((bh l e d).bind fun r=>some (.error (yb.mk k r))) B:=by
 rw [aj];exact Ya.err
theorem Ya.is {l l3:Nb}{k:List UInt8}{f a:Bool×Nb×Int×Int→Yd α}(b:vd l3 (l++m))
  (i:∀ l1 l3,l1.length+1=l.length→vd l3 (l1++m)→Ya m e e2 d2 l1.length (f (true,l1,e,d)) (a (true,l3,e2,d))) (c:∀ l3,vd l3 (l++m)→Ya m e e2 d2 l.length (f (false,l,e,d)) (a (false,l3,e2,d))):Ya m e e2 d2 l.length ((Cc l e d k).bind f) ((Cc l3 e2 d k).bind a):=by
 rw [oq,oq,Option.bind_some,Option.bind_some];cases l with
 | nil =>
  rw [if_neg (by simp [Ua])];exact (c m rfl).nil
 | cons t l =>
  obtain ⟨j,h,rfl,n,o⟩:=b.cons;have ea:Ua (j::h) k=Ua (t::l) k:=by simp only [Ua,Rn n]
  rw [ea];by_cases g:Ua (t::l) k=true
  ·rw [if_pos g,if_pos g];exact (i l h rfl o).mono (by simp)
  ·rw [if_neg g,if_neg g];exact c _ b
theorem Ya.lG {l l3:Nb}{k:List UInt8}{f a:Bool→Yd α}(c:vd l3 (l++m)) (h:∀ b,Ya m e e2 d2 l.length (f b) (a b)):Ya m e e2 d2 l.length ((Og l e d k).bind f) ((Og l3 e2 d k).bind a):=by
 rw [bt,bt,Option.bind_some,Option.bind_some];cases l with
 | nil=>exact (h false).nil
 | cons t l =>
  obtain ⟨g,i,rfl,j,n⟩:=c.cons;have ea:Ua (g::i) k=Ua (t::l) k:=by simp only [Ua,Rn j]
  rw [ea];exact h _
theorem Ya.oc {l l3:Nb}{k:List UInt8}(b:vd l3 (l++m)):bu m e e2 d l.length (Lf l e d [k]) (Lf l3 e2 d [k]):=by
 rw [er,er];intro l1 ea d1 g;cases l with
 | nil=>simp [Ua] at g
 | cons t l =>
  obtain ⟨c,a,rfl,f,h⟩:=b.cons;have ea:Ua (c::a) k=Ua (t::l) k:=by simp only [Ua,Rn f]
  rw [ea];by_cases g1:Ua (t::l) k=true
  ·rw [if_pos g1] at g ⊢;have:=Except.ok.inj (Option.some.inj g);cases this;exact ⟨⟨rfl,rfl⟩,by simp,fun _=>⟨a,rfl,h⟩⟩
  ·rw [if_neg g1] at g;cases g
theorem Ya.name {l l3:Nb}(c:vd l3 (l++m)):Ya m e e2 d l.length (Xg fu l e d) (Xg fu l3 e2 d):=by
 rw [Lu,Lu];cases l with
 | nil=>exact Ya.err
 | cons t l =>
  obtain ⟨g,h,rfl,a,f⟩:=c.cons;simp only [Mu a,Rn a];by_cases g1:t.Kind=1
  ·rw [if_pos g1,if_pos g1];cases De fu t.Text with
   | none=>exact Ya.none
   | some b =>
    rw [Option.bind_some,Option.bind_some];cases b with
    | true=>exact (Ya.pure f).mono (by simp)
    | false=>exact Ya.err
  ·rw [if_neg g1,if_neg g1];exact Ya.err
theorem Ya.number {l l3:Nb}(b:vd l3 (l++m)):Ya m e e2 d l.length (wk l e d) (wk l3 e2 d):=by
 rw [qu,qu];cases l with
 | nil=>exact Ya.err
 | cons t l =>
  obtain ⟨f,g,rfl,a,c⟩:=b.cons;simp only [Mu a,fD a];by_cases g1:t.Kind=2
  ·rw [if_pos g1,if_pos g1];exact (Ya.pure c).mono (by simp)
  ·rw [if_neg g1,if_neg g1];exact Ya.err
theorem pr {a b:Int}(h:i64 a=some b):b=a:=by
 unfold i64 at h;split at h
 ·exact (Option.some.inj h).symm
 ·cases h
theorem Ya.dk {l l3:Nb}(b:vd l3 (l++m)):bu m e e2 (d+1) l.length (zi l e d) (zi l3 e2 d):=by
 intro l1 ea d1 g;unfold zi at g ⊢;obtain ⟨i,a,g⟩:=La g;rw [a,Option.bind_some];obtain rfl:=pr a;by_cases h:200<d+1
 ·rw [if_pos h] at g;obtain ⟨_,_,g⟩:=La g;cases g
 ·rw [if_neg h] at g ⊢;have:=Except.ok.inj (Option.some.inj g);cases this;exact ⟨⟨rfl,rfl⟩,Nat.le_refl _,fun _=>⟨l3,rfl,b⟩⟩
theorem Ya.out {N:Nat}{l l3:Nb}{f a:Nb×Int×Int→Yd α}(h:Ya m e e2 d2 N (f (l,e,d)) (a (l3,e2,d))):Ya m e e2 d2 N ((Gg l e (d+1)).bind f) ((Gg l3 e2 (d+1)).bind a):=by
 unfold Gg;cases b:i64 (d+1 - 1) with
 | none=>exact Ya.none
 | some i =>
  obtain rfl:=pr b;rw [Int.add_sub_cancel];exact h
theorem Ya.Ki {l l3:Nb}(a:vd l3 (l++m)):Ya m e e2 d l.length (mi fu l e d) (mi fu l3 e2 d):=by
 unfold mi;refine Ya.is a (fun l1 l3 _ a=>?_) fun l3 a=>?_
 ·exact Ya.pure a
 refine Ya.is a (fun l1 l3 _ a=>?_) fun l3 a=>?_
 ·exact Ya.pure a
 exact Ya.bind (Ya.name a) fun x l l3 _ a=>Ya.pure a
theorem Ya.cC:∀ (n:Nat) (l l3:Nb) (acc:List TParam),vd l3 (l++m)→Ya m e e2 d l.length (Vg fu n l e d acc) (Vg fu n l3 e2 d acc):=by
 intro n
 induction n with
 | zero=>intros; exact Ya.none
 | succ n b =>
  intro l l3 acc a;unfold Vg;refine Ya.is a (fun l1 l3 _ a=>?_) fun l3 a=>?_
  ·exact Ya.pure a
  have key:∀ l l3,vd l3 (l++m)→Ya m e e2 d l.length (mj fu acc (Vg fu n) l e d) (mj fu acc (Vg fu n) l3 e2 d):=by
   intro l l3 a;unfold mj;by_cases h:(acc.length:Int)=6
   ·rw [if_pos h,if_pos h];exact Ya.at (l3:=l3)
   ·rw [if_neg h,if_neg h];refine Ya.bind (Ya.name a) fun x l l3 _ a=>?_;refine Ya.bind (Ya.Ki a) fun y l l3 _ a=>?_;exact Ya.Cb fun z=>b l l3 z a
  show Ya m e e2 d l.length (if (0:Int)<(acc.length:Int) then _ else _) (if (0:Int)<(acc.length:Int) then _ else _);by_cases h:(0:Int)<(acc.length:Int)
  ·rw [if_pos h,if_pos h];exact Ya.ye (Ya.oc a) fun l l3 _ a=>key l l3 a
  ·rw [if_neg h,if_neg h];exact key l l3 a
theorem Ya.params {l l3:Nb}(a:vd l3 (l++m)):Ya m e e2 d l.length (sj fu l e d) (sj fu l3 e2 d):=by
 unfold sj;exact Ya.ye (Ya.oc a) fun l l3 _ a=>Ya.cC fu l l3 [] a
end
end Go.Y
namespace Go.Y
open Go.Sb Go.ec
section
variable {m:Nb}{e e2 d d2:Int}{α β:Type}
structure LE (m:Nb) (e e2:Int) (P:zg):Prop where
 expr:∀ l l3 d,vd l3 (l++m)→Ya m e e2 d l.length (P.xd l e d) (P.xd l3 e2 d)
 level:∀ l l3 d n,vd l3 (l++m)→Ya m e e2 d l.length (P.sf l e d n) (P.sf l3 e2 d n)
 unary:∀ l l3 d,vd l3 (l++m)→Ya m e e2 d l.length (P.Me l e d) (P.Me l3 e2 d)
 Sh:∀ l l3 d,vd l3 (l++m)→Ya m e e2 d l.length (P.fg l e d) (P.fg l3 e2 d)
 args:∀ l l3 d,vd l3 (l++m)→Ya m e e2 d l.length (P.Wf l e d) (P.Wf l3 e2 d)
 fixed:∀ l l3 d k n,vd l3 (l++m)→Ya m e e2 d l.length (P.tf l e d k n) (P.tf l3 e2 d k n)
variable {P:zg}
theorem LE.EF (b:LE m e e2 P) (l l3:Nb) (d:Int) (a:vd l3 (l++m)):Ya m e e2 d l.length (xd P l e d) (xd P l3 e2 d):=by
 unfold xd;refine Ya.ye (Ya.dk a) fun l l3 _ a=>?_;refine Ya.bind (b.level _ _ _ _ a) fun x l l3 _ a=>?_;exact Ya.out (Ya.pure a)
theorem LE.gD (q:LE m e e2 P) (n:Int) (o:List Xe):∀ (k:Nat) (l l3:Nb) (d:Int) (a b:Int) (c:List UInt8) (f:List wa),vd l3 (l++m)→Ya m e e2 d l.length (ti P n o k l e d a b c f) (ti P n o k l3 e2 d a b c f):=by
 intro k
 induction k with
 | zero=>intros; exact Ya.none
 | succ k r =>
  intro l l3 d a b c f j;unfold ti;cases l with
  | nil =>
   rw [if_neg (by simp)];have:Ya m e e2 d ([]:Nb).length (Vi ([]:Nb) e d a b c f) (Vi m e2 d a b c f):=by
    unfold Vi;exact Ya.pure rfl
   exact this.nil
  | cons t l =>
   obtain ⟨u,v,rfl,p,s⟩:=j.cons;rw [if_pos (by simp),if_pos (by simp),Gk,Gk];refine Ya.Cb fun x=>?_;rw [Option.bind_some,Option.bind_some,Rn p];by_cases h:((Ud x.og t.Text).getD 0)=0
   ·rw [if_pos h,if_pos h];unfold Vi;exact Ya.pure j
   ·rw [if_neg h,if_neg h,Cq,Cq,Option.bind_some,Option.bind_some];refine Ya.mono (N:=l.length) (Ya.Cb fun i=>?_) (by simp);refine Ya.bind (q.level _ _ _ _ s) fun y l l3 _ j=>?_;unfold an;refine Ya.Cb fun z=>?_;rw [Rn p];by_cases g:z.once=true
    ·rw [if_pos g,if_pos g];unfold Vi;exact Ya.pure j
    ·rw [if_neg g,if_neg g];exact r _ _ _ _ _ _ _ j
theorem LE.sE (fu:Nat) (b:LE m e e2 P) (l l3:Nb) (d n:Int) (a:vd l3 (l++m)):Ya m e e2 d l.length (sf fu P l e d n) (sf fu P l3 e2 d n):=by
 unfold sf;refine Ya.Cb fun c=>?_;by_cases h:n=(c.length:Int)
 ·rw [if_pos h,if_pos h];exact Ya.bind (b.unary _ _ _ a) fun x l l3 _ a=>Ya.pure a
 ·rw [if_neg h,if_neg h];refine Ya.Cb fun i=>?_;exact Ya.bind (b.level _ _ _ _ a) fun x l l3 _ a=>b.gD n c fu _ _ _ _ _ _ _ a
theorem LE.tE (b:LE m e e2 P) (l l3:Nb) (d:Int) (a:vd l3 (l++m)):Ya m e e2 d l.length (Me P l e d) (Me P l3 e2 d):=by
 unfold Me;refine Ya.is a (fun l1 l3 _ a=>?_) fun l3 a=>?_
 ·refine Ya.ye (Ya.dk a) fun l l3 _ a=>?_;refine Ya.bind (b.unary _ _ _ a) fun x l l3 _ a=>?_;exact Ya.out (Ya.pure a)
 refine Ya.is a (fun l1 l3 _ a=>?_) fun l3 a=>?_
 ·refine Ya.ye (Ya.dk a) fun l l3 _ a=>?_;refine Ya.bind (b.unary _ _ _ a) fun x l l3 _ a=>?_;exact Ya.out (Ya.pure a)
 exact Ya.bind (b.Sh _ _ _ a) fun x l l3 _ a=>Ya.pure a
theorem LE.Yw (fu:Nat) (c:LE m e e2 P) (l l3:Nb) (d:Int) (b:Bool) (a:vd l3 (l++m)):Ya m e e2 d l.length (jj fu P l e d b) (jj fu P l3 e2 d b):=by
 unfold jj;by_cases h:b=true
 ·rw [if_pos h,if_pos h];exact Ya.bind (Ya.number a) fun x l l3 _ a=>Ya.pure a
 rw [if_neg h,if_neg h];refine Ya.is a (fun l1 l3 _ a=>Ya.pure a) fun l3 a=>?_;refine Ya.is a (fun l1 l3 _ a=>Ya.pure a) fun l3 a=>?_;refine Ya.is a (fun l1 l3 _ a=>?_) fun l3 a=>?_
 ·refine Ya.bind (c.expr _ _ _ a) fun x l l3 _ a=>?_;exact Ya.ye (Ya.oc a) fun l l3 _ a=>Ya.pure a
 refine Ya.is a (fun l1 l3 _ a=>?_) fun l3 a=>?_
 ·refine Ya.ye (Ya.oc a) fun l l3 _ a=>?_;refine Ya.bind (Ya.name a) fun x l l3 _ a=>?_;exact Ya.ye (Ya.oc a) fun l l3 _ a=>Ya.pure a
 refine Ya.is a (fun l1 l3 _ a=>Ya.bind (c.fixed _ _ _ _ _ a) fun x l l3 _ a=>Ya.pure a) fun l3 a=>?_;refine Ya.is a (fun l1 l3 _ a=>Ya.bind (c.fixed _ _ _ _ _ a) fun x l l3 _ a=>Ya.pure a) fun l3 a=>?_;refine Ya.is a (fun l1 l3 _ a=>Ya.bind (c.fixed _ _ _ _ _ a) fun x l l3 _ a=>Ya.pure a) fun l3 a=>?_;refine Ya.is a (fun l1 l3 _ a=>?_) fun l3 a=>?_
 ·refine Ya.bind (Ya.name a) fun x l l3 _ a=>?_;exact Ya.bind (c.args _ _ _ a) fun y l l3 _ a=>Ya.pure a
 refine Ya.bind (Ya.name a) fun x l l3 _ a=>?_;refine Ya.lG a fun b=>?_;by_cases g:b=true
 ·rw [if_pos g,if_pos g];exact Ya.bind (c.args _ _ _ a) fun y l l3 _ a=>Ya.pure a
 ·rw [if_neg g,if_neg g];exact Ya.pure a
theorem LE.dC (fu:Nat) (a:LE m e e2 P) (l l3:Nb) (d:Int) (b:vd l3 (l++m)):Ya m e e2 d l.length (fg fu P l e d) (fg fu P l3 e2 d):=by
 unfold fg;cases l with
 | nil =>
  rw [if_neg (by simp)];exact (a.Yw fu [] m d false rfl).nil
 | cons t l =>
  obtain ⟨f,g,rfl,c,h⟩:=b.cons;rw [if_pos (by simp),if_pos (by simp),Gk,Gk,Option.bind_some,Option.bind_some,Mu c];exact a.Yw fu _ _ _ _ b
theorem LE.uE (b:LE m e e2 P):∀ (n:Nat) (l l3:Nb) (d:Int) (acc:List wa),vd l3 (l++m)→Ya m e e2 d l.length (Wg P n l e d acc) (Wg P n l3 e2 d acc):=by
 intro n
 induction n with
 | zero=>intros; exact Ya.none
 | succ n c =>
  intro l l3 d acc a;unfold Wg;refine Ya.is a (fun l1 l3 _ a=>Ya.pure a) fun l3 a=>?_;have key:∀ l l3,vd l3 (l++m)→Ya m e e2 d l.length (pj P acc (Wg P n) l e d) (pj P acc (Wg P n) l3 e2 d):=by
   intro l l3 a;unfold pj;by_cases h:(acc.length:Int)=6
   ·rw [if_pos h,if_pos h];exact Ya.at (l3:=l3)
   ·rw [if_neg h,if_neg h];refine Ya.bind (b.expr _ _ _ a) fun x l l3 _ a=>?_;exact Ya.Cb fun z=>c l l3 d z a
  show Ya m e e2 d l.length (if (0:Int)<(acc.length:Int) then _ else _) (if (0:Int)<(acc.length:Int) then _ else _);by_cases h:(0:Int)<(acc.length:Int)
  ·rw [if_pos h,if_pos h];exact Ya.ye (Ya.oc a) fun l l3 _ a=>key l l3 a
  ·rw [if_neg h,if_neg h];exact key l l3 a
theorem LE.FF (fu:Nat) (b:LE m e e2 P) (l l3:Nb) (d:Int) (a:vd l3 (l++m)):Ya m e e2 d l.length (Wf fu P l e d) (Wf fu P l3 e2 d):=by
 unfold Wf;exact Ya.ye (Ya.oc a) fun l l3 _ a=>b.uE fu _ _ _ _ a
theorem LE.hD (b:LE m e e2 P) (k c:Int):∀ (n:Nat) (i:Int) (l l3:Nb) (d:Int) (acc:List wa),vd l3 (l++m)→Ya m e e2 d l.length (Cg P k c n i l e d acc) (Cg P k c n i l3 e2 d acc):=by
 intro n
 induction n with
 | zero=>intros; exact Ya.none
 | succ n f =>
  intro i l l3 d acc a;unfold Cg;have key:∀ l l3,vd l3 (l++m)→Ya m e e2 d l.length (oj P i acc (Cg P k c n) l e d) (oj P i acc (Cg P k c n) l3 e2 d):=by
   intro l l3 a;unfold oj;refine Ya.bind (b.expr _ _ _ a) fun x l l3 _ a=>?_;refine Ya.Cb fun z=>?_;unfold bn;exact Ya.Cb fun j=>f _ _ _ _ _ a
  by_cases g:i<c
  ·rw [if_pos g,if_pos g];by_cases h:(0:Int)<i
   ·rw [if_pos h,if_pos h];exact Ya.ye (Ya.oc a) fun l l3 _ a=>key l l3 a
   ·rw [if_neg h,if_neg h];exact key l l3 a
  ·rw [if_neg g,if_neg g];exact Ya.ye (Ya.oc a) fun l l3 _ a=>Ya.pure a
theorem LE.vE (b:LE m e e2 P) (l l3:Nb) (d k n:Int) (a:vd l3 (l++m)):Ya m e e2 d l.length (tf P l e d k n) (tf P l3 e2 d k n):=by
 unfold tf;exact Ya.ye (Ya.oc a) fun l l3 _ a=>b.hD k n _ _ _ _ _ _ a
theorem wE:∀ n,LE m e e2 (Kc n):=by
 intro n
 induction n with
 | zero=>exact ⟨fun _ _ _ _=>Ya.none,fun _ _ _ _ _=>Ya.none,fun _ _ _ _=>Ya.none,fun _ _ _ _=>Ya.none,fun _ _ _ _=>Ya.none,fun _ _ _ _ _ _=>Ya.none⟩
 | succ n a=>exact ⟨a.EF,a.sE n,a.tE,a.dC n,a.FF n,a.vE⟩
structure En (m:Nb) (e e2:Int) (P:dj):Prop where
 body:∀ l l3 d,vd l3 (l++m)→Ya m e e2 d l.length (P.Nd l e d) (P.Nd l3 e2 d)
 stat:∀ l l3 d,vd l3 (l++m)→Ya m e e2 d l.length (P.Xf l e d) (P.Xf l3 e2 d)
variable {S:dj}
theorem En.vv (b:En m e e2 S):∀ (n:Nat) (l l3:Nb) (d:Int) (acc:List ib),vd l3 (l++m)→Ya m e e2 d l.length (Hh S n l e (d+1) acc) (Hh S n l3 e2 (d+1) acc):=by
 intro n
 induction n with
 | zero=>intros; exact Ya.none
 | succ n c =>
  intro l l3 d acc a;unfold Hh;refine Ya.is a (fun l1 l3 _ a=>Ya.out (Ya.pure a)) fun l3 a=>?_;show Ya m e e2 d l.length (if (acc.length:Int)=50 then _ else _) (if (acc.length:Int)=50 then _ else _);by_cases h:(acc.length:Int)=50
  ·rw [if_pos h,if_pos h];exact Ya.at (l3:=l3)
  ·rw [if_neg h,if_neg h];refine Ya.bind (b.stat _ _ _ a) fun x l l3 _ a=>?_;exact Ya.Cb fun z=>c l l3 d z a
theorem En.GF (fu:Nat) (b:En m e e2 S) (l l3:Nb) (d:Int) (a:vd l3 (l++m)):Ya m e e2 d l.length (Nd fu S l e d) (Nd fu S l3 e2 d):=by
 unfold Nd;refine Ya.ye (Ya.dk a) fun l l3 _ a=>?_;exact Ya.ye (Ya.oc a) fun l l3 _ a=>b.vv fu _ _ _ _ a
theorem Ya.xj {l l3:Nb}{a b c:Int}{s t:List UInt8}{g:List wa}(f:vd l3 (l++m)):Ya m e e2 d l.length (mh l e d a s b c t g) (mh l3 e2 d a s b c t g):=by
 unfold mh;exact Ya.ye (Ya.oc f) fun l l3 _ f=>Ya.pure f
theorem En.HF (fu:Nat) (b:En m e e2 S) (l l3:Nb) (d:Int) (a:vd l3 (l++m)):Ya m e e2 d l.length (Xf fu S l e d) (Xf fu S l3 e2 d):=by
 have E:=wE (m:=m) (e:=e) (e2:=e2) fu;unfold Xf;refine Ya.is a (fun l1 l3 _ a=>?_) fun l3 a=>?_
 ·refine Ya.bind (E.expr _ _ _ a) fun x l l3 _ a=>?_;refine Ya.bind (b.body _ _ _ a) fun y l l3 _ a=>?_;refine Ya.is a (fun l1 l3 _ a=>?_) fun l3 a=>?_
  ·exact Ya.bind (b.body _ _ _ a) fun z l l3 _ a=>Ya.pure a
  ·exact Ya.pure a
 refine Ya.is a (fun l1 l3 _ a=>?_) fun l3 a=>?_
 ·refine Ya.bind (E.expr _ _ _ a) fun x l l3 _ a=>?_;exact Ya.bind (b.body _ _ _ a) fun y l l3 _ a=>Ya.pure a
 refine Ya.is a (fun l1 l3 _ a=>?_) fun l3 a=>?_
 ·refine Ya.bind (Ya.name a) fun x l l3 _ a=>?_;refine Ya.ye (Ya.oc a) fun l l3 _ a=>?_;exact Ya.bind (E.expr _ _ _ a) fun x l l3 _ a=>Ya.xj a
 refine Ya.is a (fun l1 l3 _ a=>Ya.bind (E.expr _ _ _ a) fun x l l3 _ a=>Ya.xj a) fun l3 a=>?_;refine Ya.is a (fun l1 l3 _ a=>Ya.xj a) fun l3 a=>?_;refine Ya.is a (fun l1 l3 _ a=>?_) fun l3 a=>?_
 ·refine Ya.bind (Ya.name a) fun x l l3 _ a=>?_;exact Ya.bind (E.expr _ _ _ a) fun x l l3 _ a=>Ya.xj a
 refine Ya.is a (fun l1 l3 _ a=>Ya.bind (E.expr _ _ _ a) fun x l l3 _ a=>Ya.xj a) fun l3 a=>?_;refine Ya.is a (fun l1 l3 _ a=>Ya.bind (E.expr _ _ _ a) fun x l l3 _ a=>Ya.xj a) fun l3 a=>?_;refine Ya.bind (Ya.name a) fun x l l3 _ a=>?_;refine Ya.ye (Ya.oc a) fun l l3 _ a=>?_;exact Ya.bind (E.expr _ _ _ a) fun x l l3 _ a=>Ya.xj a
theorem xE:∀ n,En m e e2 (Kf n):=by
 intro n
 induction n with
 | zero=>exact ⟨fun _ _ _ _=>Ya.none,fun _ _ _ _=>Ya.none⟩
 | succ n a=>exact ⟨a.GF n,a.HF n⟩
end
end Go.Y
namespace Go.Y
open Go.Sb Go.ec
section
variable {fu:Nat}{m:Nb}{e e2 d d2:Int}{α β:Type}
def tc (m:Nb) (e e2 d:Int) (N:Nat) (A B:Yd α):Prop :=
 ∀ x l ea d1,A=some (.ok (x,l,ea,d1))→(ea=e∧d1=d)∧l.length<N∧∃ l3,B=some (.ok (x,l3,e2,d))∧vd l3 (l++m)
theorem tc.mono {N f:Nat}{A B:Yd α}(h:tc m e e2 d N A B) (i:N≤f):tc m e e2 d f A B:=fun x l ea d1 g=>by
 obtain ⟨a,b,c⟩:=h x l ea d1 g;exact ⟨a,by omega,c⟩
theorem tc.nil {A B c:Yd α}(h:tc m e e2 d 0 A B){N:Nat}:tc m e e2 d N A c:=fun x l ea d1 g=>by
 obtain ⟨a,b,-⟩:=h x l ea d1 g;omega
theorem tc.bind {N:Nat}{A B:Yd α}{f a:α×Nb×Int×Int→Yd β}(h:Ya m e e2 d N A B) (k:∀ x l l3,l.length≤N→vd l3 (l++m)→tc m e e2 d2 l.length (f (x,l,e,d)) (a (x,l3,e2,d))):tc m e e2 d2 N (pc A f) (pc B a):=by
 intro y l1 ea d1 g;rcases Dc g with ⟨_,_,q⟩ | ⟨⟨x,l,ta,d0⟩,j,g⟩
 ·cases q
 obtain ⟨⟨rfl,rfl⟩,n,o⟩:=h x l ta d0 j;by_cases b:l=[]
 ·subst b;obtain ⟨c,i,-⟩:=k x [] m (by omega) rfl y l1 ea d1 g;exact absurd i (by simp)
 ·obtain ⟨l3,rfl,p⟩:=o b;obtain ⟨c,i,r⟩:=k x l l3 n p y l1 ea d1 g;exact ⟨c,by omega,r⟩
theorem tc.ye {N:Nat}{A B:Hq}{f a:Nb×Int×Int→Yd β}(h:bu m e e2 d N A B) (k:∀ l l3,l.length≤N→vd l3 (l++m)→tc m e e2 d2 l.length (f (l,e,d)) (a (l3,e2,d))):tc m e e2 d2 N (pc A f) (pc B a):=by
 intro y l1 ea d1 g;rcases Dc g with ⟨_,_,q⟩ | ⟨⟨l,ta,d0⟩,j,g⟩
 ·cases q
 obtain ⟨⟨rfl,rfl⟩,n,o⟩:=h l ta d0 j;by_cases b:l=[]
 ·subst b;obtain ⟨c,i,-⟩:=k [] m (by omega) rfl y l1 ea d1 g;exact absurd i (by simp)
 ·obtain ⟨l3,rfl,p⟩:=o b;obtain ⟨c,i,r⟩:=k l l3 n p y l1 ea d1 g;exact ⟨c,by omega,r⟩
theorem tc.Rv {N:Nat}{A B:Yd α}{f:α→β}(h:tc m e e2 d N A B):tc m e e2 d N (pc A fun r=>some (.ok (f r.1,r.2.1,r.2.2.1,r.2.2.2))) (pc B fun r=>some (.ok (f r.1,r.2.1,r.2.2.1,r.2.2.2))):=by
 intro y l1 ea d1 g;rcases Dc g with ⟨_,_,q⟩ | ⟨⟨x,l,ta,d0⟩,a,g⟩
 ·cases q
 obtain ⟨⟨rfl,rfl⟩,b,l3,rfl,c⟩:=h x l ta d0 a;have:=Except.ok.inj (Option.some.inj g);cases this;exact ⟨⟨rfl,rfl⟩,b,l3,rfl,c⟩
theorem tc.pure {x:α}{l l3:Nb}(a:vd l3 (l++m)):tc m e e2 d (l.length+1) (some (.ok (x,l,e,d))) (some (.ok (x,l3,e2,d))):=by
 intro y l1 ea d1 g;have:=Except.ok.inj (Option.some.inj g);cases this;exact ⟨⟨rfl,rfl⟩,by omega,l3,rfl,a⟩
theorem tc.err {N:Nat}{q:yb}{B:Yd α}:tc m e e2 d N (some (.error q)) B:=fun _ _ _ _ g=>by cases g
theorem tc.none {N:Nat}{B:Yd α}:tc m e e2 d N Option.none B:=fun _ _ _ _ g=>by cases g
theorem tc.Cb {N:Nat}{o:Option α}{f a:α→Yd β}(h:∀ y,tc m e e2 d N (f y) (a y)):tc m e e2 d N (o.bind f) (o.bind a):=by
 cases o with
 | none=>exact tc.none
 | some y=>exact h y
theorem tc.at {N:Nat}{l:Nb}{d1 k:Int}{B:Yd α}:tc m e e2 d N ((bh l e d1).bind fun r=>some (.error (yb.mk k r))) B:=by
 rw [aj];exact tc.err
theorem tc.is {l l3:Nb}{k:List UInt8}{f a:Bool×Nb×Int×Int→Yd α}(b:vd l3 (l++m))
  (i:∀ l1 l3,l1.length+1=l.length→vd l3 (l1++m)→tc m e e2 d2 (l1.length+1) (f (true,l1,e,d)) (a (true,l3,e2,d))) (c:∀ l3,vd l3 (l++m)→tc m e e2 d2 l.length (f (false,l,e,d)) (a (false,l3,e2,d))):tc m e e2 d2 l.length ((Cc l e d k).bind f) ((Cc l3 e2 d k).bind a):=by
 rw [oq,oq,Option.bind_some,Option.bind_some];cases l with
 | nil =>
  rw [if_neg (by simp [Ua])];exact (c m rfl).nil
 | cons t l =>
  obtain ⟨j,h,rfl,n,o⟩:=b.cons;have ea:Ua (j::h) k=Ua (t::l) k:=by simp only [Ua,Rn n]
  rw [ea];by_cases g:Ua (t::l) k=true
  ·rw [if_pos g,if_pos g];exact i l h rfl o
  ·rw [if_neg g,if_neg g];exact c _ b
theorem tc.oc {l l3:Nb}{k:List UInt8}{x:α}(a:vd l3 (l++m)):tc m e e2 d l.length (pc (Lf l e d [k]) fun r=>some (.ok (x,r.1,r.2.1,r.2.2))) (pc (Lf l3 e2 d [k]) fun r=>some (.ok (x,r.1,r.2.1,r.2.2))):=by
 rw [er,er];cases l with
 | nil=>exact tc.err
 | cons t l =>
  obtain ⟨b,c,rfl,f,g⟩:=a.cons;have ea:Ua (b::c) k=Ua (t::l) k:=by simp only [Ua,Rn f]
  rw [ea];by_cases g1:Ua (t::l) k=true
  ·rw [if_pos g1,if_pos g1];exact tc.pure g
  ·rw [if_neg g1,if_neg g1];exact tc.err
theorem tc.out {N:Nat}{l l3:Nb}{f a:Nb×Int×Int→Yd α}(h:tc m e e2 d2 N (f (l,e,d)) (a (l3,e2,d))):tc m e e2 d2 N ((Gg l e (d+1)).bind f) ((Gg l3 e2 (d+1)).bind a):=by
 unfold Gg;cases b:i64 (d+1 - 1) with
 | none=>exact tc.none
 | some i =>
  obtain rfl:=pr b;rw [Int.add_sub_cancel];exact h
theorem tc.vv {S:dj}(b:En m e e2 S):∀ (n:Nat) (l l3:Nb) (d:Int) (acc:List ib),vd l3 (l++m)→tc m e e2 d l.length (Hh S n l e (d+1) acc) (Hh S n l3 e2 (d+1) acc):=by
 intro n
 induction n with
 | zero=>intros; exact tc.none
 | succ n c =>
  intro l l3 d acc a;unfold Hh;refine tc.is a (fun l1 l3 _ a=>tc.out (tc.pure a)) fun l3 a=>?_;show tc m e e2 d l.length (if (acc.length:Int)=50 then _ else _) (if (acc.length:Int)=50 then _ else _);by_cases h:(acc.length:Int)=50
  ·rw [if_pos h,if_pos h];exact tc.at
  ·rw [if_neg h,if_neg h];refine tc.bind (b.stat _ _ _ a) fun x l l3 _ a=>?_;exact tc.Cb fun z=>c l l3 d z a
theorem tc.body {S:dj}(b:En m e e2 S){l l3:Nb}(a:vd l3 (l++m)):tc m e e2 d l.length (Nd fu S l e d) (Nd fu S l3 e2 d):=by
 unfold Nd;refine tc.ye (Ya.dk a) fun l l3 _ a=>?_;exact tc.ye (Ya.oc a) fun l l3 _ a=>tc.vv b fu _ _ _ _ a
theorem tc.Iv:∀ (n:Nat){l l3:Nb},vd l3 (l++m)→tc m e e2 d l.length ((Kf n).Nd l e d) ((Kf n).Nd l3 e2 d)
 | 0,_,_,_=>tc.none
 | n+1,_,_,a=>tc.body (xE n) a
theorem tc.def {l l3:Nb}(a:vd l3 (l++m)):tc m e e2 d l.length (Bi fu l e d) (Bi fu l3 e2 d):=by
 unfold Bi;rw [aj,aj,Option.bind_some,Option.bind_some];refine tc.is a (fun l1 l3 _ a=>?_) fun l3 a=>?_
 ·refine tc.mono (N:=l1.length) ?_ (by omega);refine tc.bind (Ya.name a) fun x l l3 _ a=>?_;refine tc.bind (Ya.Ki a) fun y l l3 _ a=>?_;rw [aj,aj,Option.bind_some,Option.bind_some];refine tc.bind (Ya.number a) fun z l l3 _ a=>?_;have c:∀ b f g i j k n,tc m e e2 d l.length (wi (x,i) (y,j) f (z,l,e,d) b) (wi (x,k) (y,n) g (z,l3,e2,d) b):=by
   intro b f g i j k n;unfold wi;by_cases h:b=true
   ·rw [if_pos h,if_pos h];exact tc.err
   ·rw [if_neg h,if_neg h];exact tc.oc a
  show tc m e e2 d l.length (if z<1 then _ else _) (if z<1 then _ else _);by_cases h:z<1
  ·rw [if_pos h,if_pos h];exact c _ _ _ _ _ _ _
  ·rw [if_neg h,if_neg h];exact c _ _ _ _ _ _ _
 refine tc.is a (fun l1 l3 _ a=>?_) fun l3 a=>?_
 ·refine tc.mono (N:=l1.length) ?_ (by omega);refine tc.bind (Ya.name a) fun x l l3 _ a=>?_;refine tc.bind (Ya.params a) fun x l l3 _ a=>?_;refine tc.bind (Ya.Ki a) fun x l l3 _ a=>?_;exact (tc.Iv fu a).Rv
 refine tc.is a (fun l1 l3 _ a=>?_) fun l3 a=>?_
 ·refine tc.mono (N:=l1.length) ?_ (by omega);refine tc.bind (Ya.name a) fun x l l3 _ a=>?_;refine tc.bind (Ya.params a) fun x l l3 _ a=>?_;refine tc.ye (Ya.oc a) fun l l3 _ a=>?_;refine tc.bind (Ya.Ki a) fun x l l3 _ a=>?_;refine tc.ye (Ya.oc a) fun l l3 _ a=>?_;refine tc.bind (Ya.Ki a) fun x l l3 _ a=>?_;exact (tc.Iv fu a).Rv
 refine tc.is a (fun l1 l3 _ a=>?_) fun l3 a=>tc.err;refine tc.mono (N:=l1.length) ?_ (by omega);refine tc.bind (Ya.name a) fun x l l3 _ a=>?_;exact (tc.Iv fu a).Rv
end
end Go.Y
namespace Go.Y
open Go.Sb Go.ec
section
variable {fu:Nat}{α β:Type}
structure Ka (A:Option (Except yb α)):Prop where
 out:∀ f,A=some (.error f)→f.Wd≠0
theorem Ka.bind {A:Option (Except yb α)}{f:α→Option (Except yb β)}(h:Ka A) (k:∀ r,Ka (f r)):Ka (pc A f):=⟨fun q g=>by
 rcases Dc g with ⟨e,he,a⟩ | ⟨x,b,g⟩
 ·cases a;exact h.out _ he
 ·exact (k x).out q g⟩
theorem Ka.pure {x:α}:Ka (some (.ok x)):=⟨fun _ g=>by cases g⟩
theorem Ka.none:Ka (Option.none:Option (Except yb α)):=⟨fun _ g=>by cases g⟩
theorem Ka.err {k a:Int}(h:k≠0):Ka (some (.error (yb.mk k a)):Option (Except yb α)):=⟨fun _ g=>by cases g;exact h⟩
theorem Ka.Cb {o:Option β}{f:β→Option (Except yb α)}(h:∀ y,Ka (f y)):Ka (o.bind f):=by
 cases o with
 | none=>exact Ka.none
 | some y=>exact h y
theorem Ka.at {l:Nb}{e d k:Int}(h:k≠0):Ka ((bh l e d).bind fun r=>(some (.error (yb.mk k r)):Option (Except yb α))):=Ka.Cb fun _=>Ka.err h
theorem Ka.ite {c:Prop}[Decidable c]{A B:Option (Except yb α)}(a:Ka A) (b:Ka B):Ka (if c then A else B):=by
 by_cases h:c
 ·rw [if_pos h];exact a
 ·rw [if_neg h];exact b
theorem Ka.oc {l:Nb}{e d:Int}{k:List (List UInt8)}:Ka (Lf l e d k):=by
 unfold Lf;generalize k.length+1=n;generalize (0:Int)=i
 induction n generalizing i l e d with
 | zero=>exact Ka.none
 | succ n a =>
  unfold jm;exact Ka.ite (Ka.Cb fun _=>Ka.Cb fun _=>Ka.ite (Ka.Cb fun _=>a _) (Ka.at (by decide))) Ka.pure
theorem Ka.name {l:Nb}{e d:Int}:Ka (Xg fu l e d):=by
 have j:∀ b,Ka (gn fu l e d b):=fun b=>by
  unfold gn;exact Ka.ite (Ka.at (by decide)) (Ka.Cb fun _=>Ka.Cb fun _=>Ka.ite (Ka.Cb fun _=>Ka.pure) (Ka.at (by decide)))
 unfold Xg;exact Ka.ite (j _) (Ka.Cb fun _=>j _)
theorem Ka.number {l:Nb}{e d:Int}:Ka (wk l e d):=by
 have j:∀ b,Ka (Ym l e d b):=fun b=>by
  unfold Ym;exact Ka.ite (Ka.at (by decide)) (Ka.Cb fun _=>Ka.Cb fun _=>Ka.pure)
 unfold wk;exact Ka.ite (j _) (Ka.Cb fun _=>j _)
theorem Ka.Ki {l:Nb}{e d:Int}:Ka (mi fu l e d):=by
 unfold mi;exact Ka.Cb fun _=>Ka.ite Ka.pure (Ka.Cb fun _=>Ka.ite Ka.pure (Ka.bind Ka.name fun _=>Ka.pure))
theorem Ka.params {l:Nb}{e d:Int}:Ka (sj fu l e d):=by
 unfold sj;refine Ka.bind Ka.oc fun r=>?_;have key:∀ n l e d acc,Ka (Vg fu n l e d acc):=by
  intro n
  induction n with
  | zero=>intros; exact Ka.none
  | succ n a =>
   intro l e d acc;unfold Vg;have j:∀ l e d,Ka (mj fu acc (Vg fu n) l e d):=fun l e d=>by
    unfold mj;exact Ka.ite (Ka.at (by decide)) (Ka.bind Ka.name fun _=>Ka.bind Ka.Ki fun _=>Ka.Cb fun _=>a _ _ _ _)
   exact Ka.Cb fun _=>Ka.ite Ka.pure (Ka.ite (Ka.bind Ka.oc fun _=>j _ _ _) (j _ _ _))
 exact key _ _ _ _ _
theorem Ka.dk {l:Nb}{e d:Int}:Ka (zi l e d):=by
 unfold zi;exact Ka.Cb fun _=>Ka.ite (Ka.at (by decide)) Ka.pure
structure NE (P:zg):Prop where
 expr:∀ l e d,Ka (P.xd l e d)
 level:∀ l e d n,Ka (P.sf l e d n)
 unary:∀ l e d,Ka (P.Me l e d)
 Sh:∀ l e d,Ka (P.fg l e d)
 args:∀ l e d,Ka (P.Wf l e d)
 fixed:∀ l e d k n,Ka (P.tf l e d k n)
theorem yE:∀ n,NE (Kc n):=by
 intro n
 induction n with
 | zero=>exact ⟨fun _ _ _=>Ka.none,fun _ _ _ _=>Ka.none,fun _ _ _=>Ka.none,fun _ _ _=>Ka.none,fun _ _ _=>Ka.none,fun _ _ _ _ _=>Ka.none⟩
 | succ n f =>
  refine ⟨fun l e d=>?_,fun l e d k=>?_,fun l e d=>?_,fun l e d=>?_,fun l e d=>?_,fun l e d k c=>?_⟩
  ·show Ka (xd (Kc n) l e d);unfold xd;exact Ka.bind Ka.dk fun _=>Ka.bind (f.level _ _ _ _) fun _=>Ka.Cb fun _=>Ka.pure
  ·show Ka (sf n (Kc n) l e d k);unfold sf;refine Ka.Cb fun s=>Ka.ite (Ka.bind (f.unary _ _ _) fun _=>Ka.pure) (Ka.Cb fun _=>Ka.bind (f.level _ _ _ _) fun r=>?_);have key:∀ q l e d a b c p,Ka (ti (Kc n) k s q l e d a b c p):=by
    intro q
    induction q with
    | zero=>intros; exact Ka.none
    | succ q g =>
     intro l e d a b c p;unfold ti Vi;exact Ka.ite (Ka.Cb fun _=>Ka.Cb fun _=>Ka.ite Ka.pure (Ka.Cb fun _=>Ka.Cb fun _=>Ka.bind (f.level _ _ _ _) fun _=>by
      unfold an Vi;exact Ka.Cb fun _=>Ka.ite Ka.pure (g ..))) Ka.pure
   exact key _ _ _ _ _ _ _ _
  ·show Ka (Me (Kc n) l e d);unfold Me;have u:∀ l e d (k:Int),Ka (pc (zi l e d) fun m=>pc ((Kc n).Me m.1 m.2.1 m.2.2) fun h=>(Gg h.2.1 h.2.2.1 h.2.2.2).bind fun o=>some (.ok ((wa.mk k 0 [] [h.1]),o.1,o.2.1,o.2.2))):=fun l e d k=>Ka.bind Ka.dk fun _=>Ka.bind (f.unary _ _ _) fun _=>Ka.Cb fun _=>Ka.pure;exact Ka.Cb fun _=>Ka.ite (u _ _ _ _) (Ka.Cb fun _=>Ka.ite (u _ _ _ _) (Ka.bind (f.Sh _ _ _) fun _=>Ka.pure))
  ·show Ka (fg n (Kc n) l e d);have j:∀ b,Ka (jj n (Kc n) l e d b):=fun b=>by
    unfold jj;refine Ka.ite (Ka.bind Ka.number fun _=>Ka.pure) (Ka.Cb fun _=>Ka.ite Ka.pure (Ka.Cb fun _=>Ka.ite Ka.pure (Ka.Cb fun _=>Ka.ite ?_ (Ka.Cb fun _=>Ka.ite ?_ (Ka.Cb fun _=>Ka.ite ?_ (Ka.Cb fun _=>Ka.ite ?_ (Ka.Cb fun _=>Ka.ite ?_ (Ka.Cb fun _=>Ka.ite ?_ ?_))))))))
    ·exact Ka.bind (f.expr _ _ _) fun _=>Ka.bind Ka.oc fun _=>Ka.pure
    ·exact Ka.bind Ka.oc fun _=>Ka.bind Ka.name fun _=>Ka.bind Ka.oc fun _=>Ka.pure
    ·exact Ka.bind (f.fixed _ _ _ _ _) fun _=>Ka.pure
    ·exact Ka.bind (f.fixed _ _ _ _ _) fun _=>Ka.pure
    ·exact Ka.bind (f.fixed _ _ _ _ _) fun _=>Ka.pure
    ·exact Ka.bind Ka.name fun _=>Ka.bind (f.args _ _ _) fun _=>Ka.pure
    ·exact Ka.bind Ka.name fun _=>Ka.Cb fun _=>Ka.ite (Ka.bind (f.args _ _ _) fun _=>Ka.pure) Ka.pure
   unfold fg;exact Ka.ite (Ka.Cb fun _=>j _) (j _)
  ·show Ka (Wf n (Kc n) l e d);unfold Wf;refine Ka.bind Ka.oc fun r=>?_;have key:∀ q l e d acc,Ka (Wg (Kc n) q l e d acc):=by
    intro q
    induction q with
    | zero=>intros; exact Ka.none
    | succ q g =>
     intro l e d acc;unfold Wg;have j:∀ l e d,Ka (pj (Kc n) acc (Wg (Kc n) q) l e d):=fun l e d=>by
      unfold pj;exact Ka.ite (Ka.at (by decide)) (Ka.bind (f.expr _ _ _) fun _=>Ka.Cb fun _=>g _ _ _ _)
     exact Ka.Cb fun _=>Ka.ite Ka.pure (Ka.ite (Ka.bind Ka.oc fun _=>j _ _ _) (j _ _ _))
   exact key _ _ _ _ _
  ·show Ka (tf (Kc n) l e d k c);unfold tf;refine Ka.bind Ka.oc fun r=>?_;have key:∀ q i l e d acc,Ka (Cg (Kc n) k c q i l e d acc):=by
    intro q
    induction q with
    | zero=>intros; exact Ka.none
    | succ q g =>
     intro i l e d acc;unfold Cg;have j:∀ l e d,Ka (oj (Kc n) i acc (Cg (Kc n) k c q) l e d):=fun l e d=>by
      unfold oj bn;exact Ka.bind (f.expr _ _ _) fun _=>Ka.Cb fun _=>Ka.Cb fun _=>g _ _ _ _ _
     exact Ka.ite (Ka.ite (Ka.bind Ka.oc fun _=>j _ _ _) (j _ _ _)) (Ka.bind Ka.oc fun _=>Ka.pure)
   exact key _ _ _ _ _ _
structure PG (P:dj):Prop where
 body:∀ l e d,Ka (P.Nd l e d)
 stat:∀ l e d,Ka (P.Xf l e d)
theorem zE:∀ n,PG (Kf n):=by
 intro n
 induction n with
 | zero=>exact ⟨fun _ _ _=>Ka.none,fun _ _ _=>Ka.none⟩
 | succ n f =>
  refine ⟨fun l e d=>?_,fun l e d=>?_⟩
  ·show Ka (Nd n (Kf n) l e d);unfold Nd;refine Ka.bind Ka.dk fun _=>Ka.bind Ka.oc fun r=>?_;have key:∀ q l e d acc,Ka (Hh (Kf n) q l e d acc):=by
    intro q
    induction q with
    | zero=>intros; exact Ka.none
    | succ q h =>
     intro l e d acc;unfold Hh;exact Ka.Cb fun _=>Ka.ite (Ka.Cb fun _=>Ka.pure) (Ka.ite (Ka.at (by decide)) (Ka.bind (f.stat _ _ _) fun _=>Ka.Cb fun _=>h _ _ _ _))
   exact key _ _ _ _ _
  ·show Ka (Xf n (Kf n) l e d);have E:=yE n;have j:∀ l e d a s b c t g,Ka (mh l e d a s b c t g):=fun l e d a s b c t g=>by
    unfold mh;exact Ka.bind Ka.oc fun _=>Ka.pure
   unfold Xf;refine Ka.Cb fun _=>Ka.ite ?_ (Ka.Cb fun _=>Ka.ite ?_ (Ka.Cb fun _=>Ka.ite ?_ (Ka.Cb fun _=>Ka.ite ?_ (Ka.Cb fun _=>Ka.ite ?_ (Ka.Cb fun _=>Ka.ite ?_ (Ka.Cb fun _=>Ka.ite ?_ (Ka.Cb fun _=>Ka.ite ?_ ?_)))))))
   ·exact Ka.bind (E.expr _ _ _) fun _=>Ka.bind (f.body _ _ _) fun _=>Ka.Cb fun _=>Ka.ite (Ka.bind (f.body _ _ _) fun _=>Ka.pure) Ka.pure
   ·exact Ka.bind (E.expr _ _ _) fun _=>Ka.bind (f.body _ _ _) fun _=>Ka.pure
   ·exact Ka.bind Ka.name fun _=>Ka.bind Ka.oc fun _=>Ka.bind (E.expr _ _ _) fun _=>j _ _ _ _ _ _ _ _ _
   ·exact Ka.bind (E.expr _ _ _) fun _=>j _ _ _ _ _ _ _ _ _
   ·exact j _ _ _ _ _ _ _ _ _
   ·exact Ka.bind Ka.name fun _=>Ka.bind (E.expr _ _ _) fun _=>j _ _ _ _ _ _ _ _ _
   ·exact Ka.bind (E.expr _ _ _) fun _=>j _ _ _ _ _ _ _ _ _
   ·exact Ka.bind (E.expr _ _ _) fun _=>j _ _ _ _ _ _ _ _ _
   ·exact Ka.bind Ka.name fun _=>Ka.bind Ka.oc fun _=>Ka.bind (E.expr _ _ _) fun _=>j _ _ _ _ _ _ _ _ _
theorem Ka.def {l:Nb}{e d:Int}:Ka (Bi fu l e d):=by
 have S:=zE fu;have j:∀ a b c q x,Ka (wi a b c q x):=fun a b c q x=>by
  unfold wi;exact Ka.ite (Ka.err (by decide)) (Ka.bind Ka.oc fun _=>Ka.pure)
 unfold Bi;refine Ka.Cb fun _=>Ka.Cb fun _=>Ka.ite ?_ (Ka.Cb fun _=>Ka.ite ?_ (Ka.Cb fun _=>Ka.ite ?_ (Ka.Cb fun _=>Ka.ite ?_ (Ka.err (by decide)))))
 ·exact Ka.bind Ka.name fun _=>Ka.bind Ka.Ki fun _=>Ka.Cb fun _=>Ka.bind Ka.number fun _=>Ka.ite (j _ _ _ _ _) (j _ _ _ _ _)
 ·exact Ka.bind Ka.name fun _=>Ka.bind Ka.params fun _=>Ka.bind Ka.Ki fun _=>Ka.bind (S.body _ _ _) fun _=>Ka.pure
 ·exact Ka.bind Ka.name fun _=>Ka.bind Ka.params fun _=>Ka.bind Ka.oc fun _=>Ka.bind Ka.Ki fun _=>Ka.bind Ka.oc fun _=>Ka.bind Ka.Ki fun _=>Ka.bind (S.body _ _ _) fun _=>Ka.pure
 ·exact Ka.bind Ka.name fun _=>Ka.bind (S.body _ _ _) fun _=>Ka.pure
end
end Go.Y
namespace Go.Y
open Go.Sb Go.ec
theorem kq {α:Type}{l xs r:List α}(h:app l xs=some r):r=l++xs:=by
 unfold app at h;split at h
 ·exact (Option.some.inj h).symm
 ·cases h
theorem lr {α:Type}{l:List α}{x:α}(h:l.length≤100000):app l [x]=some (l++[x]):=by
 unfold app;rw [if_pos (by simp;omega)]
inductive lp (fu:Nat) (e:Int):Nb→List sb→Prop where
 | nil:lp fu e [] []
 | cons {l l1:Nb} {x:sb} {ds:List sb} (a:l≠[]) (h:Bi fu l e 0=some (.ok (x,l1,e,0))) (k:lp fu e l1 ds):lp fu e l (x::ds)
theorem eC {fu:Nat}{j:Nb×yb}{e:Int}:∀ (n:Nat) (l:Nb) (acc a:List sb) (g:yb),xl fu j n l e 0 acc=some (a,g)→g.Wd=0→acc.length≤30 →
  ∃ ds,lp fu e l ds∧a=acc++ds∧a.length≤30∧∃ r,lh fu a=some r∧r.Wd=0:=by
 intro n
 induction n with
 | zero=>intro l acc a g h; cases h
 | succ n k =>
  intro l acc a g h b o;unfold xl at h;cases l with
  | nil =>
   rw [if_neg (by simp)] at h;obtain ⟨r,c,h⟩:=Option.bind_eq_some_iff.1 h;by_cases d:r.Wd≠0
   ·rw [if_pos d] at h;unfold ps Wn at h;simp only [Option.bind_some,Option.some.injEq,Prod.mk.injEq] at h;obtain ⟨-,rfl⟩:=h;exact absurd b d
   ·rw [if_neg d] at h;unfold qs Wn at h;simp only [Option.bind_some,Option.some.injEq,Prod.mk.injEq] at h;obtain ⟨rfl,-⟩:=h;exact ⟨[],.nil,by simp,o,r,c,Decidable.not_not.1 d⟩
  | cons t l =>
   rw [if_pos (by simp)] at h;by_cases f:(acc.length:Int)=30
   ·rw [if_pos f,aj,Option.bind_some] at h;simp only [Option.some.injEq,Prod.mk.injEq] at h;obtain ⟨-,rfl⟩:=h;exact absurd b (by simp)
   ·rw [if_neg f] at h;rcases vz h with ⟨q,p,c⟩ | ⟨⟨x,l1,ea,d1⟩,i,h⟩
    ·simp only [Prod.mk.injEq] at c;obtain ⟨-,rfl⟩:=c;exact absurd b (Ka.def.out _ p)
    ·obtain ⟨⟨he,Ua⟩,-,-⟩:=tc.def (m:=[]) (e2:=e) (l3:=t::l) (by simp [vd]) x l1 ea d1 i;subst he;subst Ua;obtain ⟨w,s,h⟩:=Option.bind_eq_some_iff.1 h;obtain rfl:=kq s;unfold ns at h;obtain ⟨ds,Ua,rfl,u,v⟩:=k l1 _ a g h b (by simp;omega);exact ⟨x::ds,.cons (by simp) i Ua,by simp,u,v⟩
theorem fC {n p:Nat}{l:List UInt8}{e:Nat×Nat}(h:Tg.Bk n p l=.error e):e.1≠0:=by
 induction n generalizing p l with
 | zero=>cases h
 | succ n b =>
  unfold Tg.Bk at h;split at h
  ·cases h
  ·rename_i d;cases a:Tg.Ci p l with
   | error q =>
    rw [a] at h;simp only at h;cases h;show q≠0;obtain ⟨c,l,rfl⟩:=List.exists_cons_of_ne_nil d;unfold Tg.Ci at a;simp only at a;split at a
    ·cases a
    ·split at a
     ·split at a
      ·cases a;decide
      ·cases a
     ·split at a
      ·cases a;decide
      ·cases a
   | ok t =>
    rw [a] at h;simp only at h
    revert h
    generalize f:Tg.Bk n _ _=q;intro h;cases q with
    | ok g=>cases h
    | error q =>
     cases h;exact b f
theorem Fw {s:List UInt8}{e:Nat×Nat}(h:Tg.tokens s=.error e):e.1≠0:=by
 unfold Tg.tokens at h;split at h
 ·cases h;decide
 ·exact fC h
theorem iD {fu:Nat}(g:7000≤fu){s:List UInt8}{a:List sb}{f:yb}(h:tj fu s=some (a,f)) (c:f.Wd=0) :
  Tg.yz s=0∧lp fu s.length ((Tg.xz s).map Mq) a∧a.length≤30∧∃ r,lh fu a=some r∧r.Wd=0:=by
 unfold tj at h;rw [nw g,Option.bind_some] at h;cases b:Tg.tokens s with
 | error e =>
  rw [b] at h;have he:=Fw b;rw [if_pos (by show ((e.1:Nat):Int)≠0;omega)] at h;unfold ks at h;cases h;exact absurd c (by show ((e.1:Nat):Int)≠0;omega)
 | ok l =>
  rw [b] at h;rw [if_neg (by simp [Mm])] at h;obtain ⟨ds,i,d,j,k⟩:=eC _ _ _ _ _ h c (by simp);rw [List.nil_append] at d;subst d;refine ⟨by simp [Tg.yz,b],?_,j,k⟩;simpa [Tg.xz,b,Mm] using i
end Go.Y
namespace Go.Y
open Go.Sb Go.ec
section
variable {fu:Nat}{e d d2:Int}{α β:Type}
structure Xa (e d:Int) (N:Nat) (A:Yd α):Prop where
 out:∃ r,A=some r∧∀ x l ea d1,r=.ok (x,l,ea,d1)→ea=e∧d1=d∧l.length≤N
structure Nh (e d:Int) (N:Nat) (A:Hq):Prop where
 out:∃ r,A=some r∧∀ l ea d1,r=.ok (l,ea,d1)→ea=e∧d1=d∧l.length≤N
theorem Xa.mono {N f:Nat}{A:Yd α}(h:Xa e d N A) (i:N≤f):Xa e d f A:=⟨by
 obtain ⟨r,h,k⟩:=h.out;exact ⟨r,h,fun x l ea d1 g=>by obtain ⟨a,b,c⟩:=k x l ea d1 g;exact ⟨a,b,by omega⟩⟩⟩
theorem Xa.pure {x:α}{l:Nb}:Xa e d l.length (some (.ok (x,l,e,d))):=⟨_,rfl,fun y l1 ea d1 g=>by
 cases Except.ok.inj g;exact ⟨rfl,rfl,Nat.le_refl _⟩⟩
theorem Xa.err {N:Nat}{q:yb}:Xa e d N (some (.error q):Yd α):=⟨_,rfl,fun _ _ _ _ g=>by cases g⟩
theorem Xa.bind {N:Nat}{A:Yd α}{f:α×Nb×Int×Int→Yd β}(h:Xa e d N A) (k:∀ x l,l.length≤N→Xa e d2 l.length (f (x,l,e,d))):Xa e d2 N (pc A f):=by
 obtain ⟨r,rfl,b⟩:=h.out;cases r with
 | error q=>exact Xa.err
 | ok r =>
  obtain ⟨x,l,ea,d1⟩:=r;obtain ⟨rfl,rfl,a⟩:=b _ _ _ _ rfl;exact (k x l a).mono a
theorem Xa.ye {N:Nat}{A:Hq}{f:Nb×Int×Int→Yd β}(h:Nh e d N A) (k:∀ l,l.length≤N→Xa e d2 l.length (f (l,e,d))):Xa e d2 N (pc A f):=by
 obtain ⟨r,rfl,b⟩:=h.out;cases r with
 | error q=>exact Xa.err
 | ok r =>
  obtain ⟨l,ea,d1⟩:=r;obtain ⟨rfl,rfl,a⟩:=b _ _ _ rfl;exact (k l a).mono a
theorem Xa.Cb {N:Nat}{y:β}{o:Option β}{f:β→Yd α}(a:o=some y) (h:Xa e d N (f y)):Xa e d N (o.bind f):=by rw [a];exact h
theorem Xa.ite {N:Nat}{c:Prop}[Decidable c]{A B:Yd α}(a:c→Xa e d N A) (b:¬ c→Xa e d N B):Xa e d N (if c then A else B):=by
 by_cases h:c
 ·rw [if_pos h];exact a h
 ·rw [if_neg h];exact b h
theorem Xa.f {N:Nat}{A B:Yd α}(h:Xa e d N B):Xa e d N (if false=true then A else B):=h
theorem Xa.at {N:Nat}{l:Nb}{d1 k:Int}:Xa e d N ((bh l e d1).bind fun r=>(some (.error (yb.mk k r)):Yd α)):=by
 rw [aj];exact Xa.err
theorem Xa.is {l:Nb}{k:List UInt8}{f:Bool×Nb×Int×Int→Yd α}(a:∀ l1,l1.length+1=l.length→Xa e d2 l1.length (f (true,l1,e,d))) (b:Xa e d2 l.length (f (false,l,e,d))):Xa e d2 l.length ((Cc l e d k).bind f):=by
 rw [oq,Option.bind_some];by_cases h:Ua l k=true
 ·rw [if_pos h];exact (a l.tail (tv h)).mono (by have:=tv h;omega)
 ·rw [if_neg h];exact b
theorem Nh.oc {l:Nb}{k:List UInt8}:Nh e d l.length (Lf l e d [k]):=by
 rw [er];by_cases h:Ua l k=true
 ·rw [if_pos h];refine ⟨_,rfl,fun l1 ea d1 g=>?_⟩;cases Except.ok.inj g;exact ⟨rfl,rfl,by have:=tv h;omega⟩
 ·rw [if_neg h];exact ⟨_,rfl,fun l1 ea d1 g=>by cases g⟩
theorem Xa.name (a:20≤fu){l:Nb}:Xa e d l.length (Xg fu l e d):=by
 rw [Lu];cases l with
 | nil=>exact Xa.err
 | cons t l =>
  refine Xa.ite (fun _=>?_) fun _=>Xa.err;obtain ⟨b,c⟩:=xo fu a t.Text;exact Xa.Cb c (Xa.ite (fun _=>Xa.pure.mono (by simp)) fun _=>Xa.err)
theorem Xa.number {l:Nb}:Xa e d l.length (wk l e d):=by
 rw [qu];cases l with
 | nil=>exact Xa.err
 | cons t l =>
  by_cases g:t.Kind=2
  ·simp only [g,if_true];exact Xa.pure.mono (by simp)
  ·simp only [g,if_false];exact Xa.err
theorem Xa.Ki (a:20≤fu){l:Nb}:Xa e d l.length (mi fu l e d):=by
 unfold mi;exact Xa.is (fun l1 _=>Xa.pure) (Xa.is (fun l1 _=>Xa.pure) (Xa.bind (Xa.name a) fun x l _=>Xa.pure))
theorem Xa.dk {l:Nb}{f:Nb×Int×Int→Yd α}(a:0≤d) (b:d≤200) (k:d+1≤200→Xa e d2 l.length (f (l,e,d+1))):Xa e d2 l.length (pc (zi l e d) f):=by
 rw [ZB a (by omega)];by_cases h:200<d+1
 ·rw [if_pos h];exact Xa.err
 ·rw [if_neg h];exact k (by omega)
theorem Xa.Wt {N:Nat}{l:Nb}{f:Nb×Int×Int→Yd α}(a:0≤d) (b:d≤200) (k:Xa e d2 N (f (l,e,d))):Xa e d2 N ((Gg l e (d+1)).bind f):=by
 rw [cD (by omega) (by omega),Option.bind_some,Int.add_sub_cancel];exact k
theorem Xa.params (a:20≤fu){l:Nb}:Xa e d l.length (sj fu l e d):=by
 unfold sj;refine Xa.ye Nh.oc fun l _=>?_;have key:∀ (n:Nat) (l:Nb) (acc:List TParam),acc.length≤6→6 - acc.length<n→Xa e d l.length (Vg fu n l e d acc):=by
  intro n
  induction n with
  | zero=>intro l acc _ h; omega
  | succ n b =>
   intro l acc c g;unfold Vg;have j:∀ l:Nb,Xa e d l.length (mj fu acc (Vg fu n) l e d):=fun l=>by
    unfold mj;refine Xa.ite (fun _=>Xa.at) fun i=>Xa.bind (Xa.name a) fun x l _=>Xa.bind (Xa.Ki a) fun y l _=>?_;exact Xa.Cb (lr (by omega)) (b l _ (by simp;omega) (by simp;omega))
   exact Xa.is (fun l1 _=>Xa.pure) (Xa.f (Xa.ite (fun _=>Xa.ye Nh.oc fun l _=>j l) fun _=>j l))
 exact key fu l [] (by simp) (by simp;omega)
structure QG (e:Int) (n:Nat) (P:zg):Prop where
 expr:∀ l d,0≤d→d≤200→(202 - d)*12+(l.length:Int)+70≤n→Xa e d l.length (P.xd l e d)
 level:∀ l d (k:Nat),0≤d→d≤200→k≤5→(202 - d)*12+11 - k+(l.length:Int)+70≤n→Xa e d l.length (P.sf l e d k)
 unary:∀ l d,0≤d→d≤200→(202 - d)*12+5+(l.length:Int)+70≤n→Xa e d l.length (P.Me l e d)
 Sh:∀ l d,0≤d→d≤200→(202 - d)*12+4+(l.length:Int)+70≤n→Xa e d l.length (P.fg l e d)
 args:∀ l d,0≤d→d≤200→(202 - d)*12+3+(l.length:Int)+70≤n→Xa e d l.length (P.Wf l e d)
 fixed:∀ l d k (c:Nat),0≤d→d≤200→c≤2→(202 - d)*12+2+(l.length:Int)+70≤n→Xa e d l.length (P.tf l e d k c)
theorem Yo {i:Int}(a:-1000000≤i) (b:i≤1000000):i64 i=some i:=by unfold i64;rw [if_pos (by omega)]
theorem AE:∀ n,QG e n (Kc n):=by
 intro n
 induction n with
 | zero=>exact ⟨fun l d a b h=>by omega,fun l d k a b c h=>by omega,fun l d a b h=>by omega,fun l d a b h=>by omega,fun l d a b h=>by omega,fun l d k c a b g h=>by omega⟩
 | succ n r =>
  refine ⟨fun l d m o v=>?_,fun l d k m o G v=>?_,fun l d m o v=>?_,fun l d m o v=>?_,fun l d m o v=>?_,fun l d k c m o H v=>?_⟩
  ·show Xa e d l.length (xd (Kc n) l e d);unfold xd;refine Xa.dk m o fun Ua=>Xa.bind (r.level l (d+1) 0 (by omega) Ua (by omega) (by omega)) fun x l _=>?_;exact Xa.Wt m o Xa.pure
  ·show Xa e d l.length (sf n (Kc n) l e d k);unfold sf;obtain ⟨u,C,hlen⟩:∃ u,Io=some u∧u.length=5:=⟨_,rfl,rfl⟩;refine Xa.Cb C (Xa.ite (fun _=>Xa.bind (r.unary l d m o (by omega)) fun x l _=>Xa.pure) fun D=>?_);rw [hlen] at D;refine Xa.Cb (Yo (by omega) (by omega)) ?_;rw [show ((k:Int)+1)=((k+1:Nat):Int) by omega];refine Xa.bind (r.level l d (k+1) m o (by omega) (by omega)) fun x l p=>?_;have key:∀ (q:Nat) (l:Nb) (a b:Int) (c:List UInt8) (z:List wa),(202 - d)*12+11 - k+(l.length:Int)+70≤n+1→l.length<q→Xa e d l.length (ti (Kc n) k u q l e d a b c z):=by
    intro q
    induction q with
    | zero=>intro l a b c z _ h; omega
    | succ q w =>
     intro l a b c z s A;unfold ti;cases l with
     | nil =>
      rw [if_neg (by simp)];unfold Vi;exact Xa.pure
     | cons t l =>
      rw [if_pos (by simp),Gk];have B:at_ u (k:Int)=some (u[k]'(by omega)):=by rw [Te,List.getElem?_eq_getElem]
      refine Xa.Cb B ?_;rw [Option.bind_some];refine Xa.ite (fun _=>by unfold Vi;exact Xa.pure) fun _=>?_;rw [Cq,Option.bind_some,Yo (by omega) (by omega),Option.bind_some,show ((k:Int)+1)=((k+1:Nat):Int) by omega];simp only [List.length_cons] at s A;refine Xa.mono (N:=l.length) (Xa.bind (r.level l d (k+1) m o (by omega) (by omega)) fun y l1 K=>?_) (by simp);unfold an;refine Xa.Cb B (Xa.ite (fun _=>by unfold Vi;exact Xa.pure) fun _=>w l1 _ _ _ _ (by omega) (by omega))
   exact key n l _ _ _ _ (by omega) (by omega)
  ·show Xa e d l.length (Me (Kc n) l e d);unfold Me;refine Xa.is (fun l1 p=>Xa.dk m o fun Ua=>Xa.bind (r.unary l1 (d+1) (by omega) Ua (by omega)) fun x l _=>Xa.Wt m o Xa.pure) ?_;refine Xa.is (fun l1 p=>Xa.dk m o fun Ua=>Xa.bind (r.unary l1 (d+1) (by omega) Ua (by omega)) fun x l _=>Xa.Wt m o Xa.pure) ?_;exact Xa.bind (r.Sh l d m o (by omega)) fun x l _=>Xa.pure
  ·show Xa e d l.length (fg n (Kc n) l e d);have j:∀ b,Xa e d l.length (jj n (Kc n) l e d b):=fun b=>by
    unfold jj;refine Xa.ite (fun _=>Xa.bind Xa.number fun x l _=>Xa.pure) fun _=>?_;refine Xa.is (fun l1 p=>Xa.pure) (Xa.is (fun l1 p=>Xa.pure) (Xa.is (fun l1 p=>?_) (Xa.is (fun l1 p=>?_) (Xa.is (fun l1 p=>?_) (Xa.is (fun l1 p=>?_) (Xa.is (fun l1 p=>?_) (Xa.is (fun l1 p=>?_) ?_)))))))
    ·exact Xa.bind (r.expr l1 d m o (by omega)) fun x l _=>Xa.ye Nh.oc fun l _=>Xa.pure
    ·exact Xa.ye Nh.oc fun l _=>Xa.bind (Xa.name (by omega)) fun x l _=>Xa.ye Nh.oc fun l _=>Xa.pure
    ·exact Xa.bind (r.fixed l1 d 21 1 m o (by omega) (by omega)) fun x l _=>Xa.pure
    ·exact Xa.bind (r.fixed l1 d 23 2 m o (by omega) (by omega)) fun x l _=>Xa.pure
    ·exact Xa.bind (r.fixed l1 d 24 1 m o (by omega) (by omega)) fun x l _=>Xa.pure
    ·exact Xa.bind (Xa.name (by omega)) fun x l p=>Xa.bind (r.args l d m o (by omega)) fun y l _=>Xa.pure
    ·refine Xa.bind (Xa.name (by omega)) fun x l p=>?_;rw [bt];exact Xa.ite (fun _=>Xa.bind (r.args l d m o (by omega)) fun y l _=>Xa.pure) fun _=>Xa.pure
   unfold fg;cases l with
   | nil=>rw [if_neg (by simp)]; exact j _
   | cons t l=>rw [if_pos (by simp),Gk]; exact j _
  ·show Xa e d l.length (Wf n (Kc n) l e d);unfold Wf;refine Xa.ye Nh.oc fun l p=>?_;have key:∀ (q:Nat) (l:Nb) (acc:List wa),(202 - d)*12+(l.length:Int)+70≤n→acc.length≤6→6 - acc.length<q→Xa e d l.length (Wg (Kc n) q l e d acc):=by
    intro q
    induction q with
    | zero=>intro l acc _ _ h; omega
    | succ q w =>
     intro l acc s E A;unfold Wg;have j:∀ l:Nb,(202 - d)*12+(l.length:Int)+70≤n→Xa e d l.length (pj (Kc n) acc (Wg (Kc n) q) l e d):=fun l s=>by
      unfold pj;refine Xa.ite (fun _=>Xa.at) fun L=>Xa.bind (r.expr l d m o s) fun x l1 p=>?_;exact Xa.Cb (lr (by omega)) (w l1 _ (by omega) (by simp;omega) (by simp;omega))
     exact Xa.is (fun l1 _=>Xa.pure) (Xa.f (Xa.ite (fun _=>Xa.ye Nh.oc fun l1 p=>j l1 (by omega)) fun _=>j l s))
   exact key n l [] (by omega) (by simp) (by simp;omega)
  ·show Xa e d l.length (tf (Kc n) l e d k c);unfold tf;refine Xa.ye Nh.oc fun l p=>?_;have key:∀ (q i:Nat) (l:Nb) (acc:List wa),(202 - d)*12+(l.length:Int)+70≤n→acc.length≤i→i≤c→c - i<q→Xa e d l.length (Cg (Kc n) k c q i l e d acc):=by
    intro q
    induction q with
    | zero=>intro i l acc _ _ _ h; omega
    | succ q w =>
     intro i l acc s E M A;unfold Cg;have j:i<c→∀ l:Nb,(202 - d)*12+(l.length:Int)+70≤n→Xa e d l.length (oj (Kc n) i acc (Cg (Kc n) k c q) l e d):=fun F l s=>by
      unfold oj;refine Xa.bind (r.expr l d m o s) fun x l1 p=>Xa.Cb (lr (by omega)) ?_;unfold bn;refine Xa.Cb (Yo (by omega) (by omega)) ?_;rw [show ((i:Int)+1)=((i+1:Nat):Int) by omega];exact w (i+1) l1 _ (by omega) (by simp;omega) (by omega) (by omega)
     refine Xa.ite (fun F=>Xa.ite (fun _=>Xa.ye Nh.oc fun l1 p=>j (by omega) l1 (by omega)) fun _=>j (by omega) l s) fun _=>Xa.ye Nh.oc fun l _=>Xa.pure
   have:=key (((c:Int) - 0).toNat+1) 0 l [] (by omega) (by simp) (by omega) (by omega);exact this
structure RG (e:Int) (n:Nat) (P:dj):Prop where
 body:∀ l d,0≤d→d≤200→(202 - d)*12+(l.length:Int)+80≤n→Xa e d l.length (P.Nd l e d)
 stat:∀ l d,0≤d→d≤200→(202 - d)*12+1+(l.length:Int)+80≤n→Xa e d l.length (P.Xf l e d)
theorem Xa.xj {l:Nb}{a b c:Int}{s t:List UInt8}{f:List wa}:Xa e d l.length (mh l e d a s b c t f):=by
 unfold mh;exact Xa.ye Nh.oc fun l _=>Xa.pure
theorem BE:∀ n,RG e n (Kf n):=by
 intro n
 induction n with
 | zero=>exact ⟨fun l d a b h=>by omega,fun l d a b h=>by omega⟩
 | succ n m =>
  refine ⟨fun l d c g r=>?_,fun l d c g r=>?_⟩
  ·show Xa e d l.length (Nd n (Kf n) l e d);unfold Nd;refine Xa.dk c g fun Ua=>Xa.ye Nh.oc fun l i=>?_;have key:∀ (q:Nat) (l:Nb) (acc:List ib),(201 - d)*12+1+(l.length:Int)+80≤n→acc.length≤50→50 - acc.length<q→Xa e d l.length (Hh (Kf n) q l e (d+1) acc):=by
    intro q
    induction q with
    | zero=>intro l acc _ _ h; omega
    | succ q s =>
     intro l acc t u v;unfold Hh;refine Xa.is (fun l1 _=>Xa.Wt c g Xa.pure) (Xa.f (Xa.ite (fun _=>Xa.at) fun w=>Xa.bind (m.stat l (d+1) (by omega) Ua (by omega)) fun x l1 i=>?_));exact Xa.Cb (lr (by omega)) (s l1 _ (by omega) (by simp;omega) (by simp;omega))
   exact key n l [] (by omega) (by simp) (by simp;omega)
  ·show Xa e d l.length (Xf n (Kf n) l e d);have E:=AE (e:=e) n;unfold Xf;refine Xa.is (fun l1 i=>?_) (Xa.is (fun l1 i=>?_) (Xa.is (fun l1 i=>?_) (Xa.is (fun l1 i=>?_) (Xa.is (fun l1 i=>?_) (Xa.is (fun l1 i=>?_) (Xa.is (fun l1 i=>?_) (Xa.is (fun l1 i=>?_) ?_)))))))
   ·refine Xa.bind (E.expr l1 d c g (by omega)) fun x j o=>Xa.bind (m.body j d c g (by omega)) fun y l3 p=>?_;exact Xa.is (fun k A=>Xa.bind (m.body k d c g (by omega)) fun z B _=>Xa.pure) Xa.pure
   ·exact Xa.bind (E.expr l1 d c g (by omega)) fun x j o=>Xa.bind (m.body j d c g (by omega)) fun y l3 p=>Xa.pure
   ·exact Xa.bind (Xa.name (by omega)) fun x j o=>Xa.ye Nh.oc fun l3 p=>Xa.bind (E.expr l3 d c g (by omega)) fun y k _=>Xa.xj
   ·exact Xa.bind (E.expr l1 d c g (by omega)) fun y k _=>Xa.xj
   ·exact Xa.xj
   ·exact Xa.bind (Xa.name (by omega)) fun x j o=>Xa.bind (E.expr j d c g (by omega)) fun y k _=>Xa.xj
   ·exact Xa.bind (E.expr l1 d c g (by omega)) fun y k _=>Xa.xj
   ·exact Xa.bind (E.expr l1 d c g (by omega)) fun y k _=>Xa.xj
   ·exact Xa.bind (Xa.name (by omega)) fun x j o=>Xa.ye Nh.oc fun l3 p=>Xa.bind (E.expr l3 d c g (by omega)) fun y k _=>Xa.xj
theorem Xa.def {l:Nb}(o:(l.length:Int)+3000≤fu):Xa e 0 l.length (Bi fu l e 0):=by
 have S:=BE (e:=e) fu;have j:∀ (a:List UInt8×Nb×Int×Int) (b:zc×Nb×Int×Int) (c:Int) (z:Int) (l:Nb) (x:Bool),Xa e 0 l.length (wi a b c (z,l,e,0) x):=fun a b c z l x=>by
  unfold wi;exact Xa.ite (fun _=>Xa.err) fun _=>Xa.ye Nh.oc fun l _=>Xa.pure
 unfold Bi;rw [aj,Option.bind_some];refine Xa.is (fun l1 f=>?_) (Xa.is (fun l1 f=>?_) (Xa.is (fun l1 f=>?_) (Xa.is (fun l1 f=>?_) Xa.err)))
 ·refine Xa.bind (Xa.name (by omega)) fun x d g=>Xa.bind (Xa.Ki (by omega)) fun y l3 i=>?_;rw [aj,Option.bind_some];exact Xa.bind Xa.number fun z h k=>Xa.ite (fun _=>j _ _ _ _ _ _) fun _=>j _ _ _ _ _ _
 ·exact Xa.bind (Xa.name (by omega)) fun x d g=>Xa.bind (Xa.params (by omega)) fun y l3 i=>Xa.bind (Xa.Ki (by omega)) fun z h k=>Xa.bind (S.body h 0 (by omega) (by omega) (by omega)) fun b m _=>Xa.pure
 ·exact Xa.bind (Xa.name (by omega)) fun x d g=>Xa.bind (Xa.params (by omega)) fun y l3 i=>Xa.ye Nh.oc fun h k=>Xa.bind (Xa.Ki (by omega)) fun z m p=>Xa.ye Nh.oc fun q r=>Xa.bind (Xa.Ki (by omega)) fun z n s=>Xa.bind (S.body n 0 (by omega) (by omega) (by omega)) fun b t _=>Xa.pure
 ·exact Xa.bind (Xa.name (by omega)) fun x d g=>Xa.bind (S.body d 0 (by omega) (by omega) (by omega)) fun b m _=>Xa.pure
theorem gC {c:Nb×yb}:∀ (n:Nat) (l:Nb) (acc:List sb),(l.length:Int)+3000≤fu→acc.length≤30→30 - acc.length<n→∃ r,xl fu c n l e 0 acc=some r:=by
 intro n
 induction n with
 | zero=>intro l acc _ _ h; omega
 | succ n d =>
  intro l acc g m o;unfold xl;by_cases h:(0:Int)<(l.length:Int)
  ·rw [if_pos h];by_cases a:(acc.length:Int)=30
   ·rw [if_pos a,aj];exact ⟨_,rfl⟩
   ·rw [if_neg a];obtain ⟨r,i,j⟩:=(Xa.def (e:=e) (l:=l) g).out;rw [i];cases r with
    | error q=>exact ⟨_,rfl⟩
    | ok r =>
     obtain ⟨x,l1,ea,d1⟩:=r;obtain ⟨rfl,rfl,p⟩:=j _ _ _ _ rfl;rw [yF,lr (by omega),Option.bind_some];exact d l1 _ (by omega) (by simp;omega) (by simp;omega)
  ·rw [if_neg h];obtain ⟨f,k,-⟩:=Uq fu (by omega) acc;rw [k,Option.bind_some];by_cases b:f.Wd≠0
   ·rw [if_pos b];exact ⟨_,rfl⟩
   ·rw [if_neg b];exact ⟨_,rfl⟩
theorem hC {n p:Nat}{l:List UInt8}{a:List Tg.Tok}(h:Tg.Bk n p l=.ok a):a.length≤l.length:=by
 induction n generalizing p l a with
 | zero=>cases h; simp
 | succ n c =>
  unfold Tg.Bk at h;split at h
  ·cases h;simp
  ·cases b:Tg.Ci p l with
   | error q=>rw [b] at h; cases h
   | ok t =>
    rw [b] at h;simp only at h;obtain ⟨d,e,-,-⟩:=Tg.Ys b;obtain ⟨us,rfl,hu⟩:=Tg.ND h;have:=c hu;simp only [List.length_drop] at this;simp only [List.length_cons];omega
theorem CE {s:List UInt8}(c:10000≤fu):∃ r,tj fu s=some r:=by
 unfold tj;rw [nw (by omega),Option.bind_some];cases a:Tg.tokens s with
 | error q =>
  have:=Fw a;rw [if_pos (by show ((q.1:Nat):Int)≠0;omega)];exact ⟨_,rfl⟩
 | ok b =>
  have d:b.length≤6000:=by
   unfold Tg.tokens at a;split at a
   ·cases a
   ·have:=hC a;simp only [List.length_drop] at this;omega
  rw [if_neg (by simp [Mm])];refine gC fu _ [] ?_ (by simp) (by simp;omega);show (([]++b.map Mq).length:Int)+3000≤fu;simp;omega
end
end Go.Y
namespace Go.Y
open Go.Sb Go.ec
section
variable {α β:Type}
structure PP (vf:α→Prop) (A:Yd α):Prop where
 out:∀ x l e d,A=some (.ok (x,l,e,d))→vf x
variable {vf:α→Prop}{dw:β→Prop}
theorem PP.err {q:yb}:PP vf (some (.error q)):=⟨fun _ _ _ _ g=>by cases g⟩
theorem PP.none:PP vf Option.none:=⟨fun _ _ _ _ g=>by cases g⟩
theorem PP.pure {x:α}{l:Nb}{e d:Int}(h:vf x):PP vf (some (.ok (x,l,e,d))):=⟨fun y l1 ea d1 g=>by
 cases Except.ok.inj (Option.some.inj g);exact h⟩
theorem PP.bind {A:Yd β}{f:β×Nb×Int×Int→Yd α}(h:PP dw A) (k:∀ r,dw r.1→PP vf (f r)):PP vf (pc A f):=⟨fun y l1 ea d1 g=>by
 rcases Dc g with ⟨_,_,q⟩ | ⟨⟨x,l,e,d⟩,a,g⟩
 ·cases q
 ·exact (k (x,l,e,d) (h.out _ _ _ _ a)).out _ _ _ _ g⟩
theorem PP.any {A:Yd β}{f:β×Nb×Int×Int→Yd α}(k:∀ r,PP vf (f r)):PP vf (pc A f):=PP.bind (dw:=fun _=>True) ⟨fun _ _ _ _ _=>trivial⟩ fun r _=>k r
theorem PP.ag {A:Hq}{f:Nb×Int×Int→Yd α}(k:∀ r,PP vf (f r)):PP vf (pc A f):=⟨fun y l1 ea d1 g=>by
 rcases Dc g with ⟨_,_,q⟩ | ⟨r,a,g⟩
 ·cases q
 ·exact (k r).out _ _ _ _ g⟩
theorem PP.Cb {a:Type}{o:Option a}{f:a→Yd α}(h:∀ y,o=some y→PP vf (f y)):PP vf (o.bind f):=by
 cases o with
 | none=>exact PP.none
 | some y=>exact h y rfl
theorem PP.ite {c:Prop}[Decidable c]{A B:Yd α}(a:PP vf A) (b:PP vf B):PP vf (if c then A else B):=by
 by_cases h:c
 ·rw [if_pos h];exact a
 ·rw [if_neg h];exact b
end
def ei:Nat→ib→Prop
 | 0,_=>True
 | k+1,s=>(s.Kind=6→s.X=⟨0,0,[],[]⟩)∧(s.Kind≠3→s.Kind≠4→s.Body=[])∧(s.Kind≠3→s.Nc=[])∧(∀ y ∈ s.Body,ei k y)∧∀ y ∈ s.Nc,ei k y
theorem ei.down:∀ (n k:Nat) (s:ib),k≤n→ei n s→ei k s:=by
 intro n
 induction n with
 | zero =>
  intro k s h _;have:k=0:=by omega
  subst this;trivial
 | succ n e =>
  intro k s h f;cases k with
  | zero=>trivial
  | succ k =>
   obtain ⟨a,b,c,p,q⟩:=f;exact ⟨a,b,c,fun y d=>e k y (by omega) (p y d),fun y d=>e k y (by omega) (q y d)⟩
structure Dz (a b:Nat) (P:dj):Prop where
 body:∀ l e d,PP (fun x=>∀ y ∈ x,ei a y) (P.Nd l e d)
 stat:∀ l e d,PP (ei b) (P.Xf l e d)
theorem jD (a n m:Nat) (g:Dz a n (Kf m)):(∀ l e d,PP (fun b=>∀ y ∈ b,ei n y) (Nd m (Kf m) l e d))∧(∀ l e d,PP (ei (a+1)) (Xf m (Kf m) l e d)):=by
 refine ⟨fun l e d=>?_,fun l e d=>?_⟩
 ·unfold Nd;refine PP.ag fun r=>PP.ag fun r=>?_;have key:∀ (q:Nat) (l:Nb) (e d:Int) (acc:List ib),(∀ y ∈ acc,ei n y)→PP (fun b=>∀ y ∈ b,ei n y) (Hh (Kf m) q l e d acc):=by
   intro q
   induction q with
   | zero=>intros; exact PP.none
   | succ q p =>
    intro l e d acc o;unfold Hh;refine PP.Cb fun r _=>PP.ite (PP.Cb fun r _=>PP.pure o) (PP.ite (PP.Cb fun _ _=>PP.err) (PP.bind (g.stat _ _ _) fun x u=>PP.Cb fun z v=>p _ _ _ _ ?_));obtain rfl:=kq v;intro y f;rcases List.mem_append.1 f with h | h
    ·exact o y h
    ·obtain rfl:=List.mem_singleton.1 h;exact u
  exact key _ _ _ _ _ (by simp)
 ·have j:∀ l e d (bd:Int) s b c t k,(bd=6→wa.mk b c t k=⟨0,0,[],[]⟩)→bd≠3→bd≠4→PP (ei (a+1)) (mh l e d bd s b c t k):=fun l e d bd s b c t k w B C=>by
   unfold mh;exact PP.ag fun _=>PP.pure ⟨w,fun _ _=>rfl,fun _=>rfl,fun y f=>(List.not_mem_nil f).elim,fun y f=>(List.not_mem_nil f).elim⟩
  unfold Xf;refine PP.Cb fun _ _=>PP.ite ?_ (PP.Cb fun _ _=>PP.ite ?_ (PP.Cb fun _ _=>PP.ite ?_ (PP.Cb fun _ _=>PP.ite ?_ (PP.Cb fun _ _=>PP.ite ?_ (PP.Cb fun _ _=>PP.ite ?_ (PP.Cb fun _ _=>PP.ite ?_ (PP.Cb fun _ _=>PP.ite ?_ ?_)))))))
  ·refine PP.any fun _=>PP.bind (g.body _ _ _) fun b i=>PP.Cb fun _ _=>PP.ite (PP.bind (g.body _ _ _) fun c A=>?_) ?_
   ·exact PP.pure ⟨fun h=>absurd h (by simp),fun h=>absurd rfl h,fun h=>absurd rfl h,i,A⟩
   ·exact PP.pure ⟨fun h=>absurd h (by simp),fun h=>absurd rfl h,fun h=>absurd rfl h,i,fun y f=>(List.not_mem_nil f).elim⟩
  ·exact PP.any fun _=>PP.bind (g.body _ _ _) fun b i=>PP.pure ⟨fun h=>absurd h (by simp),fun _ h=>absurd rfl h,fun _=>rfl,i,fun y f=>(List.not_mem_nil f).elim⟩
  ·exact PP.any fun _=>PP.ag fun _=>PP.any fun _=>j _ _ _ 1 _ _ _ _ _ (fun h=>absurd h (by decide)) (by decide) (by decide)
  ·exact PP.any fun _=>j _ _ _ 5 _ _ _ _ _ (fun h=>absurd h (by decide)) (by decide) (by decide)
  ·exact j _ _ _ 6 _ _ _ _ _ (fun h=>rfl) (by decide) (by decide)
  ·exact PP.any fun _=>PP.any fun _=>j _ _ _ 7 _ _ _ _ _ (fun h=>absurd h (by decide)) (by decide) (by decide)
  ·exact PP.any fun _=>j _ _ _ 8 _ _ _ _ _ (fun h=>absurd h (by decide)) (by decide) (by decide)
  ·exact PP.any fun _=>j _ _ _ 9 _ _ _ _ _ (fun h=>absurd h (by decide)) (by decide) (by decide)
  ·exact PP.any fun _=>PP.ag fun _=>PP.any fun _=>j _ _ _ 2 _ _ _ _ _ (fun h=>absurd h (by decide)) (by decide) (by decide)
theorem DE:∀ m,Dz (m / 2) ((m+1) / 2) (Kf m):=by
 intro m
 induction m with
 | zero=>exact ⟨fun _ _ _=>PP.none,fun _ _ _=>PP.none⟩
 | succ m a =>
  obtain ⟨b,c⟩:=jD _ _ _ a;exact ⟨b,by rw [show (m+1+1) / 2=m / 2+1 by omega];exact c⟩
structure Vm (n:Nat) (x:sb):Prop where
 oe:∀ y ∈ x.Body,ei n y
 ya:x.Kind=1→x.Body=[]
 Gn:x.Kind=1∨x.Kind=4→x.Params=[]
theorem EE {fu:Nat}{l:Nb}{e d:Int}:PP (Vm (fu / 2)) (Bi fu l e d):=by
 have S:=DE fu;have j:∀ a b c z x,PP (Vm (fu / 2)) (wi a b c z x):=fun a b c z x=>by
  unfold wi;exact PP.ite PP.err (PP.ag fun _=>PP.pure ⟨fun y g=>(List.not_mem_nil g).elim,fun _=>rfl,fun _=>rfl⟩)
 unfold Bi;refine PP.Cb fun _ _=>PP.Cb fun _ _=>PP.ite ?_ (PP.Cb fun _ _=>PP.ite ?_ (PP.Cb fun _ _=>PP.ite ?_ (PP.Cb fun _ _=>PP.ite ?_ PP.err)))
 ·exact PP.any fun _=>PP.any fun _=>PP.Cb fun _ _=>PP.any fun _=>PP.ite (j _ _ _ _ _) (j _ _ _ _ _)
 ·exact PP.any fun _=>PP.any fun _=>PP.any fun _=>PP.bind (S.body _ _ _) fun b f=>PP.pure ⟨f,fun h=>absurd h (by simp),fun h=>absurd h (by simp)⟩
 ·exact PP.any fun _=>PP.any fun _=>PP.ag fun _=>PP.any fun _=>PP.ag fun _=>PP.any fun _=>PP.bind (S.body _ _ _) fun b f=>PP.pure ⟨f,fun h=>absurd h (by simp),fun h=>absurd h (by simp)⟩
 ·exact PP.any fun _=>PP.bind (S.body _ _ _) fun b f=>PP.pure ⟨f,fun h=>absurd h (by simp),fun _=>rfl⟩
theorem IF {fu:Nat}{e:Int}{l:Nb}{ds:List sb}(h:lp fu e l ds):∀ x ∈ ds,Vm (fu / 2) x:=by
 induction h with
 | nil=>intro x a; exact (List.not_mem_nil a).elim
 | @cons l l1 x ds d a k c =>
  intro y b;rcases List.mem_cons.1 b with rfl | b
  ·exact EE.out _ _ _ _ a
  ·exact c y b
end Go.Y
namespace Go.Y
open Go.Sb Go.ec
theorem FE:∀ (k n:Nat) (x:wa),k≤n→Vl k x→(ln n).xi x x=some true:=by
 intro k
 induction k with
 | zero=>intro n x _ h; exact h.elim
 | succ k a =>
  intro n x e h;obtain ⟨n,rfl⟩:∃ q,n=q+1:=⟨n - 1,by omega⟩;obtain ⟨-,-,b,c⟩:=h;show xi (ln n) x x=some true;unfold xi;rw [if_neg (by simp),if_neg (by simp),if_neg (by simp)];unfold On;rw [if_neg (by simp)];have key:∀ (q i:Nat),i≤x.Kids.length→x.Kids.length - i<q→Nn (ln n) x x q (i:Int)=some true:=by
   intro q
   induction q with
   | zero=>intro i _ h; omega
   | succ q d =>
    intro i f j;unfold Nn;by_cases g:i<x.Kids.length
    ·have l:=b.le;rw [if_pos (by omega),Te,List.getElem?_eq_getElem g,Option.bind_some,Option.bind_some,a n _ (by omega) (c _ (List.getElem_mem g)),Option.bind_some,if_pos rfl,Yo (by omega) (by omega),Option.bind_some];rw [show ((i:Int)+1)=((i+1:Nat):Int) by omega];exact d (i+1) (by omega) (by omega)
    ·rw [if_neg (by omega)]
  exact key _ 0 (by omega) (by omega)
theorem kD (n:Nat):(ln (n+1)).xi ⟨0,0,[],[]⟩ ⟨0,0,[],[]⟩=some true:=by
 show xi (ln n) ⟨0,0,[],[]⟩ ⟨0,0,[],[]⟩=some true;unfold xi;rw [if_neg (by simp),if_neg (by simp),if_neg (by simp)];unfold On;rw [if_neg (by simp)];show Nn _ _ _ 1 0=_;unfold Nn;rw [if_neg (by simp)]
theorem Nu (n:Nat):(Pj (n+1)).oh [] []=some true:=by
 show oh n (Pj n) [] []=some true;unfold oh;rw [if_neg (by simp)];show nj n _ _ _ 1 0=_;unfold nj;rw [if_neg (by simp)]
theorem HE:∀ (k n:Nat) (l:List ib),k+2≤n→l.length≤50→(∀ y ∈ l,Hk k y∧ei k y)→(Pj n).oh l l=some true∨90<k:=by
 intro k
 induction k with
 | zero =>
  intro n l m o h;left;obtain ⟨n,rfl⟩:∃ q,n=q+1:=⟨n - 1,by omega⟩;cases l with
  | nil=>exact Nu n
  | cons y l=>exact (h y (by simp)).1.elim
 | succ k e =>
  intro n l m o h;by_cases E:89<k
  ·right;omega
  left;obtain ⟨n,rfl⟩:∃ q,n=q+1:=⟨n - 1,by omega⟩;show oh n (Pj n) l l=some true;unfold oh;rw [if_neg (by simp)];have empty:(Pj n).oh [] []=some true:=by
   obtain ⟨n,rfl⟩:∃ q,n=q+1:=⟨n - 1,by omega⟩;exact Nu n
  have key:∀ (q i:Nat),i≤l.length→l.length - i<q→nj n (Pj n) l l q (i:Int)=some true:=by
   intro q
   induction q with
   | zero=>intro i _ h; omega
   | succ q p =>
    intro i F G;unfold nj;by_cases g:i<l.length
    ·obtain ⟨⟨H,K,r,s,t⟩,ya,u,v,w,z⟩:=h _ (List.getElem_mem g);generalize A:l[i]=x at *;have B:at_ l (i:Int)=some x:=by rw [Te,List.getElem?_eq_getElem g,A]
     have ea:(ln n).xi x.X x.X=some true:=by
      by_cases j:x.Kind=6
      ·rw [ya j];obtain ⟨f,rfl⟩:∃ q,n=q+1:=⟨n - 1,by omega⟩;exact kD f
      ·exact FE k n _ (by omega) (r j)
     have e2:(Pj n).oh x.Body x.Body=some true:=by
      by_cases a:x.Kind=3∨x.Kind=4
      ·obtain ⟨c,d⟩:=s a;exact (e n x.Body (by omega) c fun y b=>⟨d y b,w y b⟩).resolve_right (by omega)
      ·rw [u (fun h=>a (.inl h)) fun h=>a (.inr h)];exact empty
     have C:(Pj n).oh x.Nc x.Nc=some true:=by
      by_cases a:x.Kind=3
      ·obtain ⟨c,d⟩:=t a;exact (e n x.Nc (by omega) c fun y b=>⟨d y b,z y b⟩).resolve_right (by omega)
      ·rw [v a];exact empty
     have D:Zm (i:Int) (nj n (Pj n) l l q) false=nj n (Pj n) l l q ((i+1:Nat):Int):=by
      unfold Zm;rw [if_neg (by decide),Yo (by omega) (by omega),Option.bind_some];rfl
     rw [if_pos (by omega),B,Option.bind_some,Option.bind_some,if_neg (not_not_intro rfl),Option.bind_some,Option.bind_some,if_neg (not_not_intro rfl),Option.bind_some,Option.bind_some,ea,Option.bind_some,if_pos rfl,Option.bind_some,Option.bind_some,e2,Option.bind_some,if_pos rfl,Option.bind_some,Option.bind_some,C,Option.bind_some,Bool.not_true,D];exact p (i+1) (by omega) (by omega)
    ·rw [if_neg (by omega)]
  exact key _ 0 (by omega) (by omega)
theorem IE {fu:Nat}(p:1000≤fu){l:List sb}(h:Vr l) (d:∀ x ∈ l,Vm (fu / 2) x):mn fu l l=some true:=by
 unfold mn;rw [if_neg (by simp)];have s:=h.le;have key:∀ (q i:Nat),i≤l.length→l.length - i<q→gm fu l l q (i:Int)=some true:=by
  intro q
  induction q with
  | zero=>intro i _ h; omega
  | succ q e =>
   intro i t u;unfold gm;by_cases g:i<l.length
   ·have a:=h.ok _ (List.getElem_mem g);have Ua:=d _ (List.getElem_mem g);generalize k:l[i]=x at *;have m:at_ l (i:Int)=some x:=by rw [Te,List.getElem?_eq_getElem g,k]
    have v:x.Params.length≤6:=by
     by_cases b:x.Kind=1∨x.Kind=4
     ·rw [Ua.Gn b];simp
     ·have:=a.k1;have:=a.Oh;exact (a.Xd (by omega)).1
    have ea:(Pj fu).oh x.Body x.Body=some true:=by
     by_cases b:x.Kind=1
     ·rw [Ua.ya b];obtain ⟨f,rfl⟩:∃ q,fu=q+1:=⟨fu - 1,by omega⟩;exact Nu f
     ·exact (HE 39 fu x.Body (by omega) (a.Nq b) fun y c=>⟨a.oe b y c,ei.down _ _ _ (by omega) (Ua.oe y c)⟩).resolve_right (by omega)
    rw [if_pos (by omega),m,Option.bind_some,Option.bind_some];unfold Cs;simp only [ne_eq,not_true_eq_false,if_false,bj,decide_true,Bool.and_self,if_true,ea,Option.bind_some,Bool.not_true];unfold fm;rw [if_neg (by decide)];have inner:∀ (r j:Nat),j≤x.Params.length→x.Params.length - j<r→Gp (i:Int) x.Params x.Params (gm fu l l q) r (j:Int)=some true:=by
     intro r
     induction r with
     | zero=>intro j _ h; omega
     | succ r n =>
      intro j w z;unfold Gp;by_cases o:j<x.Params.length
      ·rw [if_pos (by omega),Te,List.getElem?_eq_getElem o,Option.bind_some,Option.bind_some,if_pos (by simp [bj]),Yo (by omega) (by omega),Option.bind_some,show ((j:Int)+1)=((j+1:Nat):Int) by omega];exact n (j+1) (by omega) (by omega)
      ·rw [if_neg (by omega),Yo (by omega) (by omega),Option.bind_some,show ((i:Int)+1)=((i+1:Nat):Int) by omega];exact e (i+1) (by omega) (by omega)
    exact inner _ 0 (by omega) (by omega)
   ·rw [if_neg (by omega)]
 exact key _ 0 (by omega) (by omega)
end Go.Y
