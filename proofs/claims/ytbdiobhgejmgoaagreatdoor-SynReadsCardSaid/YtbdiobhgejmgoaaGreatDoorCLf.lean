/- Texts of Lf. -/
import Derived.Lib.IndexMore
set_option linter.unusedSimpArgs false
set_option linter.unusedVariables false
set_option linter.unusedSectionVars false
namespace Go.af
def ng (c:UInt8):Bool:=(97≤c.toNat && c.toNat≤122) || c.toNat == 95
def dd (c:UInt8):Bool:=48≤c.toNat && c.toNat≤57
def Kh (c:UInt8):Bool:=ng c || dd c
def Mf (c:UInt8):Bool:=c.toNat != 10
def Wf (c:UInt8):Bool:=c.toNat == 32 || c.toNat == 9 || c.toNat == 10
def sp:Bool→List UInt8→Nat
 | _,[]=>0
 | false,c::l=>if Wf c then 1+sp false l else if c.toNat=35 then 1+sp true l else 0
 | true,c::l=>if c.toNat=10 then 1+sp false l else 1+sp true l
def space (l:List UInt8):Nat:=sp false l
theorem Sx (l:List UInt8):sp true l=(l.takeWhile Mf).length+sp false (l.drop (l.takeWhile Mf).length):=by
 induction l with
 | nil=>rfl
 | cons c l a =>
  by_cases h:c.toNat=10
  ·have b:Wf c=true:=by simp [Wf,h]
   simp [sp,Mf,h,b]
  ·have d:Mf c=true:=by simp [Mf,h]
   simp only [sp,h,List.takeWhile_cons,d,if_true,if_false,List.length_cons,List.drop_succ_cons];rw [a];omega
theorem yu {c:UInt8}{l:List UInt8}(h:Wf c=true):space (c::l)=1+space l:=by simp [space,sp,h]
theorem ru {c:UInt8}{l:List UInt8}(h:c.toNat=35):space (c::l)=((c::l).takeWhile Mf).length+space ((c::l).drop ((c::l).takeWhile Mf).length):=by
 have a:Wf c=false:=by simp [Wf,h]
 have b:Mf c=true:=by simp [Mf,h]
 simp only [space,sp,a,h,List.takeWhile_cons,b,if_true,if_false,Bool.false_eq_true,List.length_cons,List.drop_succ_cons];rw [Sx];omega
theorem As {c:UInt8}{l:List UInt8}(a:Wf c=false) (h:¬ c.toNat=35):space (c::l)=0:=by simp [space,sp,a,h]
theorem LB (b:Bool) (l:List UInt8):sp b l≤l.length:=by
 induction l generalizing b with
 | nil=>simp [sp]
 | cons c l a =>
  have d:=a false;have e:=a true;cases b<;>simp only [sp,List.length_cons]<;>split<;>(try split)<;>omega
theorem gv (l:List UInt8):space l≤l.length:=LB false l
def Ag:List (List UInt8):=[[61,61],[33,61],[60,61],[62,61],[60],[62],[61],[43],[45],[42],[47],[37],[40],[41],[123],[125],[44],[59]]
def sign (l:List UInt8):List UInt8:=(Ag.find? fun x=>x.isPrefixOf l).getD []
theorem xy (l p:List UInt8):decide (l.take p.length=p)=p.isPrefixOf l:=by
 rw [Bool.eq_iff_iff];simp only [decide_eq_true_eq,List.isPrefixOf_iff_prefix];constructor
 ·intro h;rw [← h];exact List.take_prefix _ _
 ·intro h;exact (List.prefix_iff_eq_take.1 h).symm
theorem Tx (l p:List UInt8) (h:l.length<p.length):p.isPrefixOf l=false:=by
 rw [Bool.eq_false_iff];intro a;have:=(List.isPrefixOf_iff_prefix.1 a).length_le;omega
theorem vz (l:List UInt8):(sign l).length≤l.length:=by
 unfold sign;cases h:Ag.find? fun x=>x.isPrefixOf l with
 | none=>simp
 | some x =>
  have a:=List.find?_some (p:=fun x:List UInt8=>x.isPrefixOf l) h;exact (List.isPrefixOf_iff_prefix.1 a).length_le
structure Tok where
 kind:Nat
 text:List UInt8
 num:Nat
 pos:Nat
 deriving DecidableEq
def dp (a:Nat) (t:List UInt8):Nat:=t.foldl (fun a c=>a*10+(c.toNat - 48)) a
def val (t:List UInt8):Nat:=dp 0 t
def gg (pos:Nat) (l:List UInt8):Except Nat Tok:=match l with
 | []=>.error 0
 | c::_ =>
  if ng c then .ok ⟨1,l.takeWhile Kh,0,pos⟩
  else if dd c then (if 15<(l.takeWhile dd).length then .error 3 else .ok ⟨2,l.takeWhile dd,val (l.takeWhile dd),pos⟩)
  else if sign l=[] then .error 2 else .ok ⟨3,sign l,0,pos⟩
def oj:Nat→Nat→List UInt8→Except (Nat×Nat) (List Tok)
 | 0,_,_=>.ok []
 | n+1,pos,l=>if l=[] then .ok [] else match gg pos l with
  | .error e=>.error (e,pos)
  | .ok t=>(oj n (pos+t.text.length+space (l.drop t.text.length)) ((l.drop t.text.length).drop (space (l.drop t.text.length)))).map (t::·)
def tokens (l:List UInt8):Except (Nat×Nat) (List Tok):=if 6000<l.length then .error (4,0) else oj (l.length+1) (space l) (l.drop (space l))
theorem Yo {pos:Nat}{l:List UInt8}{t:Tok}(h:gg pos l=.ok t):0<t.text.length∧t.text.length≤l.length∧t.text=l.take t.text.length∧t.pos=pos:=by
 cases l with
 | nil=>cases h
 | cons c l =>
  unfold gg at h;simp only at h;have j:∀ p:UInt8→Bool,p c=true→0<((c::l).takeWhile p).length∧((c::l).takeWhile p).length≤(c::l).length∧(c::l).takeWhile p=(c::l).take ((c::l).takeWhile p).length:=by
   intro p f;refine ⟨by simp [List.takeWhile_cons,f],(List.takeWhile_sublist _).length_le,?_⟩;exact List.prefix_iff_eq_take.1 (List.takeWhile_prefix _)
  by_cases g:ng c=true
  ·rw [if_pos g] at h;cases h;obtain ⟨a,b,d⟩:=j Kh (by simp [Kh,g]);exact ⟨a,b,d,rfl⟩
  ·rw [if_neg g] at h;by_cases i:dd c=true
   ·rw [if_pos i] at h;by_cases e:15<((c::l).takeWhile dd).length
    ·rw [if_pos e] at h;cases h
    ·rw [if_neg e] at h;cases h;obtain ⟨a,b,d⟩:=j dd i;exact ⟨a,b,d,rfl⟩
   ·rw [if_neg i] at h;by_cases e:sign (c::l)=[]
    ·rw [if_pos e] at h;cases h
    ·rw [if_neg e] at h;cases h;refine ⟨List.length_pos_iff.2 e,vz _,?_,rfl⟩;unfold sign at e ⊢;cases k:Ag.find? (fun x=>x.isPrefixOf (c::l)) with
     | none=>rw [k] at e; simp at e
     | some x =>
      have f:=List.find?_some (p:=fun x:List UInt8=>x.isPrefixOf (c::l)) k;exact List.prefix_iff_eq_take.1 (List.isPrefixOf_iff_prefix.1 f)
theorem hv {pos:Nat}{c:UInt8}{l:List UInt8}(a:ng c=false) (b:dd c=true):gg pos (c::l)=if 15<((c::l).takeWhile dd).length then .error 3 else .ok ⟨2,(c::l).takeWhile dd,val ((c::l).takeWhile dd),pos⟩:=by
 simp only [gg,a,b];rfl
theorem Mu {pos:Nat}{c:UInt8}{l:List UInt8}(a:ng c=false) (b:dd c=false):gg pos (c::l)=if sign (c::l)=[] then .error 2 else .ok ⟨3,sign (c::l),0,pos⟩:=by
 simp only [gg,a,b];rfl
theorem Nu {n m pos:Nat}{l:List UInt8}(c:l.length<n) (hm:l.length<m):oj n pos l=oj m pos l:=by
 induction n generalizing m pos l with
 | zero=>omega
 | succ n a =>
  cases m with
  | zero=>omega
  | succ m =>
   unfold oj;by_cases h:l=[]
   ·rw [if_pos h,if_pos h]
   ·rw [if_neg h,if_neg h];cases b:gg pos l with
    | error e=>rfl
    | ok t =>
     simp only;have d:=Yo b;rw [a (m:=m) (by simp;omega) (by simp;omega)]
theorem Vv (t:List UInt8):∀ a k,a<10 ^ k→t.all dd=true→dp a t<10 ^ (k+t.length):=by
 induction t with
 | nil=>intro a k h _; simpa [dp] using h
 | cons c t b =>
  intro a k h gb;simp only [List.all_cons,Bool.and_eq_true] at gb;have d:c.toNat - 48≤9:=by simp [dd] at gb;omega
  have:=b (a*10+(c.toNat - 48)) (k+1) (by rw [Nat.pow_succ];omega) gb.2;simp only [dp,List.foldl_cons,List.length_cons] at this ⊢;rw [show k+(t.length+1)=k+1+t.length by omega];exact this
theorem Ou (l:List UInt8):(l.takeWhile dd).all dd=true:=by
 induction l with
 | nil=>rfl
 | cons c l a =>
  rw [List.takeWhile_cons];by_cases h:dd c=true
  ·rw [if_pos h,List.all_cons,h,a];rfl
  ·rw [if_neg h];rfl
theorem Bv (p:UInt8→Bool) (l:List UInt8):l.take (l.takeWhile p).length=l.takeWhile p:=(List.prefix_iff_eq_take.1 (List.takeWhile_prefix _)).symm
def Kk (pos:Nat) (l:List UInt8):Except (Nat×Nat) (List Tok):=oj (l.length+1) pos l
theorem iv (pos:Nat):Kk pos []=.ok []:=rfl
theorem Ss {pos e:Nat}{l:List UInt8}(h:l≠[]) (a:gg pos l=.error e):Kk pos l=.error (e,pos):=by
 unfold Kk oj;rw [if_neg h,a]
theorem Cv {pos:Nat}{l:List UInt8}{t:Tok}(h:l≠[]) (a:gg pos l=.ok t) :
  Kk pos l=(Kk (pos+t.text.length+space (l.drop t.text.length)) ((l.drop t.text.length).drop (space (l.drop t.text.length)))).map (t::·):=by
 have b:=Yo a;unfold Kk;rw [oj.eq_def];simp only [if_neg h,a];rw [Nu (n:=l.length) (m:=((l.drop t.text.length).drop (space (l.drop t.text.length))).length+1) (by simp;omega) (by omega)]
theorem Pu (l:List UInt8):tokens l=if 6000<l.length then .error (4,0) else Kk (space l) (l.drop (space l)):=by
 unfold tokens Kk;split
 ·rfl
 ·rw [Nu]
  ·simp;omega
  ·omega
end Go.af
namespace Go.af
def lg (p:Nat) (l:List UInt8):Except (Nat×Nat) (List Tok):=Kk (p+space l) (l.drop (space l))
def Sw (l:List UInt8):List Tok:=match tokens l with | .ok a=>a | .error _=>[]
def Tw (l:List UInt8):Nat:=match tokens l with | .ok _=>0 | .error e=>e.1
theorem Ux {l:List UInt8}(h:l.length≤6000):tokens l=lg 0 l:=by
 rw [Pu,if_neg (by omega),lg,Nat.zero_add]
theorem pA {p:Nat}{l:List UInt8}(h:space l=l.length):lg p l=.ok []:=by
 rw [lg,h,List.drop_length,iv]
theorem MB {p:Nat}{l:List UInt8}{t:Tok}(h:space l<l.length) (a:gg (p+space l) (l.drop (space l))=.ok t) :
  lg p l=(lg (p+space l+t.text.length) (l.drop (space l+t.text.length))).map (t::·):=by
 have b:l.drop (space l)≠[]:=by
  intro e;have:=congrArg List.length e;simp at this;omega
 rw [lg,Cv b a,lg,List.drop_drop]
theorem qA {p e:Nat}{l:List UInt8}(h:space l<l.length) (a:gg (p+space l) (l.drop (space l))=.error e):lg p l=.error (e,p+space l):=by
 have b:l.drop (space l)≠[]:=by
  intro e;have:=congrArg List.length e;simp at this;omega
 rw [lg,Ss b a]
theorem rA {re:Type}{r:Except re (List Tok)}{t:Tok}{us:List Tok}(h:r.map (t::·)=.ok us):∃ a,us=t::a∧r=.ok a:=by
 cases r with
 | error e=>cases h
 | ok a=>cases h; exact ⟨a,rfl,rfl⟩
end Go.af
namespace Go.af
def Kf (c:UInt8):Nat:=if ng c then 1 else if dd c then 2 else if Wf c then 3 else if c.toNat=35 then 4 else 5
def Mh:List UInt8:=[60,62,61,43,45,42,47,37,40,41,123,125,44,59]
end Go.af
