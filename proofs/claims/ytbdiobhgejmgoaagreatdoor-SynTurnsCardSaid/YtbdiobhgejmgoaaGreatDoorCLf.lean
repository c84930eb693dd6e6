/- Texts of Lf. -/
set_option linter.unusedSimpArgs false
set_option linter.unusedVariables false
set_option linter.unusedSectionVars false
namespace Go.Tg
def rm (c:UInt8):Bool:=(97≤c.toNat && c.toNat≤122) || c.toNat == 95
def nf (c:UInt8):Bool:=48≤c.toNat && c.toNat≤57
def yq (c:UInt8):Bool:=rm c || nf c
def ki (c:UInt8):Bool:=c.toNat != 10
def El (c:UInt8):Bool:=c.toNat == 32 || c.toNat == 9 || c.toNat == 10
def sp:Bool→List UInt8→Nat
 | _,[]=>0
 | false,c::l=>if El c then 1+sp false l else if c.toNat=35 then 1+sp true l else 0
 | true,c::l=>if c.toNat=10 then 1+sp false l else 1+sp true l
def space (l:List UInt8):Nat:=sp false l
theorem WA (l:List UInt8):sp true l=(l.takeWhile ki).length+sp false (l.drop (l.takeWhile ki).length):=by
 induction l with
 | nil=>rfl
 | cons c l a =>
  by_cases h:c.toNat=10
  ·have b:El c=true:=by simp [El,h]
   simp [sp,ki,h,b]
  ·have d:ki c=true:=by simp [ki,h]
   simp only [sp,h,List.takeWhile_cons,d,if_true,if_false,List.length_cons,List.drop_succ_cons];rw [a];omega
theorem Wz {c:UInt8}{l:List UInt8}(h:El c=true):space (c::l)=1+space l:=by simp [space,sp,h]
theorem Kz {c:UInt8}{l:List UInt8}(h:c.toNat=35):space (c::l)=((c::l).takeWhile ki).length+space ((c::l).drop ((c::l).takeWhile ki).length):=by
 have a:El c=false:=by simp [El,h]
 have b:ki c=true:=by simp [ki,h]
 simp only [space,sp,a,h,List.takeWhile_cons,b,if_true,if_false,Bool.false_eq_true,List.length_cons,List.drop_succ_cons];rw [WA];omega
theorem oA {c:UInt8}{l:List UInt8}(a:El c=false) (h:¬ c.toNat=35):space (c::l)=0:=by simp [space,sp,a,h]
theorem tF (b:Bool) (l:List UInt8):sp b l≤l.length:=by
 induction l generalizing b with
 | nil=>simp [sp]
 | cons c l a =>
  have d:=a false;have e:=a true;cases b<;>simp only [sp,List.length_cons]<;>split<;>(try split)<;>omega
theorem sx (l:List UInt8):space l≤l.length:=tF false l
def og:List (List UInt8):=[[61,61],[33,61],[60,61],[62,61],[60],[62],[61],[43],[45],[42],[47],[37],[40],[41],[123],[125],[44],[59]]
def sign (l:List UInt8):List UInt8:=(og.find? fun x=>x.isPrefixOf l).getD []
theorem NB (l p:List UInt8):decide (l.take p.length=p)=p.isPrefixOf l:=by
 rw [Bool.eq_iff_iff];simp only [decide_eq_true_eq,List.isPrefixOf_iff_prefix];constructor
 ·intro h;rw [← h];exact List.take_prefix _ _
 ·intro h;exact (List.prefix_iff_eq_take.1 h).symm
theorem XA (l p:List UInt8) (h:l.length<p.length):p.isPrefixOf l=false:=by
 rw [Bool.eq_false_iff];intro a;have:=(List.isPrefixOf_iff_prefix.1 a).length_le;omega
theorem NC (l:List UInt8):(sign l).length≤l.length:=by
 unfold sign;cases h:og.find? fun x=>x.isPrefixOf l with
 | none=>simp
 | some x =>
  have a:=List.find?_some (p:=fun x:List UInt8=>x.isPrefixOf l) h;exact (List.isPrefixOf_iff_prefix.1 a).length_le
structure Tok where
 kind:Nat
 text:List UInt8
 num:Nat
 pos:Nat
 deriving DecidableEq
def ir (a:Nat) (t:List UInt8):Nat:=t.foldl (fun a c=>a*10+(c.toNat - 48)) a
def val (t:List UInt8):Nat:=ir 0 t
def Ci (pos:Nat) (l:List UInt8):Except Nat Tok:=match l with
 | []=>.error 0
 | c::_ =>
  if rm c then .ok ⟨1,l.takeWhile yq,0,pos⟩
  else if nf c then (if 15<(l.takeWhile nf).length then .error 3 else .ok ⟨2,l.takeWhile nf,val (l.takeWhile nf),pos⟩)
  else if sign l=[] then .error 2 else .ok ⟨3,sign l,0,pos⟩
def Bk:Nat→Nat→List UInt8→Except (Nat×Nat) (List Tok)
 | 0,_,_=>.ok []
 | n+1,pos,l=>if l=[] then .ok [] else match Ci pos l with
  | .error e=>.error (e,pos)
  | .ok t=>(Bk n (pos+t.text.length+space (l.drop t.text.length)) ((l.drop t.text.length).drop (space (l.drop t.text.length)))).map (t::·)
def tokens (l:List UInt8):Except (Nat×Nat) (List Tok):=if 6000<l.length then .error (4,0) else Bk (l.length+1) (space l) (l.drop (space l))
theorem Ys {pos:Nat}{l:List UInt8}{t:Tok}(h:Ci pos l=.ok t):0<t.text.length∧t.text.length≤l.length∧t.text=l.take t.text.length∧t.pos=pos:=by
 cases l with
 | nil=>cases h
 | cons c l =>
  unfold Ci at h;simp only at h;have j:∀ p:UInt8→Bool,p c=true→0<((c::l).takeWhile p).length∧((c::l).takeWhile p).length≤(c::l).length∧(c::l).takeWhile p=(c::l).take ((c::l).takeWhile p).length:=by
   intro p f;refine ⟨by simp [List.takeWhile_cons,f],(List.takeWhile_sublist _).length_le,?_⟩;exact List.prefix_iff_eq_take.1 (List.takeWhile_prefix _)
  by_cases g:rm c=true
  ·rw [if_pos g] at h;cases h;obtain ⟨a,b,d⟩:=j yq (by simp [yq,g]);exact ⟨a,b,d,rfl⟩
  ·rw [if_neg g] at h;by_cases i:nf c=true
   ·rw [if_pos i] at h;by_cases e:15<((c::l).takeWhile nf).length
    ·rw [if_pos e] at h;cases h
    ·rw [if_neg e] at h;cases h;obtain ⟨a,b,d⟩:=j nf i;exact ⟨a,b,d,rfl⟩
   ·rw [if_neg i] at h;by_cases e:sign (c::l)=[]
    ·rw [if_pos e] at h;cases h
    ·rw [if_neg e] at h;cases h;refine ⟨List.length_pos_iff.2 e,NC _,?_,rfl⟩;unfold sign at e ⊢;cases k:og.find? (fun x=>x.isPrefixOf (c::l)) with
     | none=>rw [k] at e; simp at e
     | some x =>
      have f:=List.find?_some (p:=fun x:List UInt8=>x.isPrefixOf (c::l)) k;exact List.prefix_iff_eq_take.1 (List.isPrefixOf_iff_prefix.1 f)
theorem OB {pos:Nat}{c:UInt8}{l:List UInt8}(a:rm c=false) (b:nf c=true):Ci pos (c::l)=if 15<((c::l).takeWhile nf).length then .error 3 else .ok ⟨2,(c::l).takeWhile nf,val ((c::l).takeWhile nf),pos⟩:=by
 simp only [Ci,a,b];rfl
theorem YA {pos:Nat}{c:UInt8}{l:List UInt8}(a:rm c=false) (b:nf c=false):Ci pos (c::l)=if sign (c::l)=[] then .error 2 else .ok ⟨3,sign (c::l),0,pos⟩:=by
 simp only [Ci,a,b];rfl
theorem Uw {n m pos:Nat}{l:List UInt8}(c:l.length<n) (hm:l.length<m):Bk n pos l=Bk m pos l:=by
 induction n generalizing m pos l with
 | zero=>omega
 | succ n a =>
  cases m with
  | zero=>omega
  | succ m =>
   unfold Bk;by_cases h:l=[]
   ·rw [if_pos h,if_pos h]
   ·rw [if_neg h,if_neg h];cases b:Ci pos l with
    | error e=>rfl
    | ok t =>
     simp only;have d:=Ys b;rw [a (m:=m) (by simp;omega) (by simp;omega)]
theorem MD (t:List UInt8):∀ a k,a<10 ^ k→t.all nf=true→ir a t<10 ^ (k+t.length):=by
 induction t with
 | nil=>intro a k h _; simpa [ir] using h
 | cons c t b =>
  intro a k h Ua;simp only [List.all_cons,Bool.and_eq_true] at Ua;have d:c.toNat - 48≤9:=by simp [nf] at Ua;omega
  have:=b (a*10+(c.toNat - 48)) (k+1) (by rw [Nat.pow_succ];omega) Ua.2;simp only [ir,List.foldl_cons,List.length_cons] at this ⊢;rw [show k+(t.length+1)=k+1+t.length by omega];exact this
theorem ZA (l:List UInt8):(l.takeWhile nf).all nf=true:=by
 induction l with
 | nil=>rfl
 | cons c l a =>
  rw [List.takeWhile_cons];by_cases h:nf c=true
  ·rw [if_pos h,List.all_cons,h,a];rfl
  ·rw [if_neg h];rfl
theorem Rx (p:UInt8→Bool) (l:List UInt8):l.take (l.takeWhile p).length=l.takeWhile p:=(List.prefix_iff_eq_take.1 (List.takeWhile_prefix _)).symm
def Km (pos:Nat) (l:List UInt8):Except (Nat×Nat) (List Tok):=Bk (l.length+1) pos l
theorem PB (pos:Nat):Km pos []=.ok []:=rfl
theorem tx {pos e:Nat}{l:List UInt8}(h:l≠[]) (a:Ci pos l=.error e):Km pos l=.error (e,pos):=by
 unfold Km Bk;rw [if_neg h,a]
theorem OC {pos:Nat}{l:List UInt8}{t:Tok}(h:l≠[]) (a:Ci pos l=.ok t) :
  Km pos l=(Km (pos+t.text.length+space (l.drop t.text.length)) ((l.drop t.text.length).drop (space (l.drop t.text.length)))).map (t::·):=by
 have b:=Ys a;unfold Km;rw [Bk.eq_def];simp only [if_neg h,a];rw [Uw (n:=l.length) (m:=((l.drop t.text.length).drop (space (l.drop t.text.length))).length+1) (by simp;omega) (by omega)]
theorem aB (l:List UInt8):tokens l=if 6000<l.length then .error (4,0) else Km (space l) (l.drop (space l)):=by
 unfold tokens Km;split
 ·rfl
 ·rw [Uw]
  ·simp;omega
  ·omega
end Go.Tg
namespace Go.Tg
def xz (l:List UInt8):List Tok:=match tokens l with | .ok a=>a | .error _=>[]
def yz (l:List UInt8):Nat:=match tokens l with | .ok _=>0 | .error e=>e.1
theorem ND {Re:Type}{r:Except Re (List Tok)}{t:Tok}{us:List Tok}(h:r.map (t::·)=.ok us):∃ a,us=t::a∧r=.ok a:=by
 cases r with
 | error e=>cases h
 | ok a=>cases h; exact ⟨a,rfl,rfl⟩
end Go.Tg
