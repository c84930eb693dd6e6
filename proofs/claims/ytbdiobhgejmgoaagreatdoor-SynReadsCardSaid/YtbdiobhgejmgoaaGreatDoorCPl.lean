/- Texts of SynReads Pl. -/
import Derived.Test.YtbdiobhgejmgoaaGreatDoorCLf
import Derived.Test.YtbdiobhgejmgoaaGreatDoorCMd
import Derived.Laws.RangeString
set_option linter.unusedSimpArgs false
set_option linter.unusedVariables false
set_option linter.unusedSectionVars false
namespace Go.af
theorem Ly {p:Nat}{c:UInt8}{l:List UInt8}(h:Wf c=true):lg p (c::l)=lg (p+1) l:=by
 unfold lg;rw [yu h,Nat.add_comm 1 (space l),List.drop_succ_cons,show p+(space l+1)=p+1+space l by omega]
theorem PA {p:Nat}{c:UInt8}{l:List UInt8}(h:c.toNat=35):lg p (c::l)=lg (p+((c::l).takeWhile Mf).length) ((c::l).drop ((c::l).takeWhile Mf).length):=by
 unfold lg;rw [ru h,List.drop_drop,Nat.add_assoc]
theorem QA {p:Nat}{c:UInt8}{l:List UInt8}{t:Tok}(b:Wf c=false) (h:¬ c.toNat=35) (d:gg p (c::l)=.ok t):lg p (c::l)=(lg (p+t.text.length) ((c::l).drop t.text.length)).map (t::·):=by
 have a:=As (l:=l) b h;have:=MB (p:=p) (l:=c::l) (t:=t) (by rw [a];simp) (by rw [a];exact d);rw [a] at this;simpa using this
theorem mw {p e:Nat}{c:UInt8}{l:List UInt8}(b:Wf c=false) (h:¬ c.toNat=35) (d:gg p (c::l)=.error e):lg p (c::l)=.error (e,p):=by
 have a:=As (l:=l) b h;have:=qA (p:=p) (l:=c::l) (e:=e) (by rw [a];simp) (by rw [a];exact d);rw [a] at this;simpa using this
theorem DC {c:UInt8}(h:Kf c=3):Wf c=true:=by
 unfold Kf at h;split at h
 ·omega
 ·split at h
  ·omega
  ·split at h
   ·assumption
   ·split at h<;>omega
theorem Nw {c:UInt8}(h:Kf c=4):c.toNat=35:=by
 unfold Kf at h;split at h
 ·omega
 ·split at h
  ·omega
  ·split at h
   ·omega
   ·split at h
    ·assumption
    ·omega
theorem EC {c:UInt8}(h:Kf c=1):ng c=true∧Wf c=false∧¬ c.toNat=35:=by
 have a:ng c=true:=by
  unfold Kf at h;split at h
  ·assumption
  ·split at h
   ·omega
   ·split at h
    ·omega
    ·split at h<;>omega
 refine ⟨a,?_⟩;simp [ng] at a;simp [Wf];omega
theorem FC {c:UInt8}(h:Kf c=2):ng c=false∧dd c=true∧Wf c=false∧¬ c.toNat=35:=by
 have a:ng c=false∧dd c=true:=by
  unfold Kf at h;split at h
  ·omega
  ·rename_i b;split at h
   ·rename_i d;exact ⟨by simpa using b,d⟩
   ·split at h
    ·omega
    ·split at h<;>omega
 refine ⟨a.1,a.2,?_⟩;have:=a.2;simp [dd] at this;simp [Wf];omega
theorem GC {c:UInt8}(g:¬ Kf c=1) (h:¬ Kf c=2) (i:¬ Kf c=3) (f:¬ Kf c=4):ng c=false∧dd c=false∧Wf c=false∧¬ c.toNat=35:=by
 unfold Kf at g h i f;cases a:ng c with
 | true=>rw [a] at g; simp at g
 | false =>
  cases b:dd c with
  | true=>rw [a,b] at h; simp at h
  | false =>
   cases d:Wf c with
   | true=>rw [a,b,d] at i; simp at i
   | false =>
    rw [a,b,d] at f;refine ⟨rfl,rfl,rfl,fun e=>?_⟩;rw [if_pos e] at f;simp at f
theorem HC {c:UInt8}:Kh c=decide (Kf c≤2):=by
 unfold Kf Kh;cases a:ng c with
 | true=>simp
 | false =>
  cases b:dd c with
  | true=>simp
  | false =>
   simp only [Bool.or_self,Bool.false_eq_true,if_false];split
   ·rfl
   ·split<;>rfl
theorem Ow {c:UInt8}:dd c=decide (Kf c=2):=by
 unfold Kf;cases a:ng c with
 | true =>
  simp [ng] at a;simp [dd];omega
 | false =>
  cases b:dd c with
  | true=>simp
  | false =>
   simp only [Bool.false_eq_true,if_false];split
   ·rfl
   ·split<;>rfl
theorem My (t:List UInt8) (c:UInt8):val (t++[c])=val t*10+(c.toNat - 48):=by
 simp [val,dp,List.foldl_append]
theorem Ny {l:List UInt8}{k:Nat}{c:UInt8}(a:l[k]?=some c):val (l.take (k+1))=val (l.take k)*10+(c.toNat - 48):=by
 rw [List.take_add_one,a];exact My _ _
theorem hy {t:List UInt8}(h:t.all dd=true) (a:t.length≤15):val t<1000000000000000:=by
 have:=Vv t 0 0 (by decide) h;have b:(10:Nat) ^ (0+t.length)≤10 ^ 15:=Nat.pow_le_pow_right (by decide) (by omega);have c:(10:Nat) ^ 15=1000000000000000:=by decide
 unfold val;omega
def Nq (c:UInt8) (b:Bool):List UInt8→Bool
 | [a]=>a == c
 | [a,_]=>a == c && b
 | _=>false
def Nt (c:UInt8) (b:Bool):List UInt8:=(Ag.find? (Nq c b)).getD []
theorem RA (c:UInt8) (l:List UInt8):sign (c::l)=Nt c (l.head? == some 61):=by
 unfold sign Nt;congr 1;have h:∀ x ∈ Ag,∃ a,x=[a]∨x=[a,61]:=by
  intro x b;simp only [Ag,List.mem_cons,List.not_mem_nil,or_false] at b;rcases b with rfl | rfl | rfl | rfl | rfl | rfl | rfl | rfl | rfl | rfl | rfl | rfl | rfl | rfl | rfl | rfl | rfl | rfl;all_goals first | exact ⟨_,.inr rfl⟩ | exact ⟨_,.inl rfl⟩
 revert h
 generalize Ag=xs;intro h
 induction xs with
 | nil=>rfl
 | cons x xs f =>
  have e:x.isPrefixOf (c::l)=Nq c (l.head? == some 61) x:=by
   obtain ⟨a,rfl | rfl⟩:=h x (by simp)
   ·simp [List.isPrefixOf,Nq]
   ·cases l with
    | nil=>simp [List.isPrefixOf,Nq]
    | cons d l =>
     simp only [List.isPrefixOf,Nq,List.head?_cons,Bool.and_true];congr 1;rw [Bool.eq_iff_iff];simp;exact eq_comm
  rw [List.find?_cons,List.find?_cons,e,f fun y g=>h y (by simp [g])]
theorem iy:∀ n,n<256→∀ b,Nt (UInt8.ofNat n) b=if b && (n == 61 || n == 33 || n == 60 || n == 62) then [UInt8.ofNat n,61] else if n == 33 || !Mh.contains (UInt8.ofNat n) then [] else [UInt8.ofNat n]:=by decide +kernel
theorem sign_eq (c:UInt8) (l:List UInt8):sign (c::l)=if l.head?=some 61∧(c.toNat=61∨c.toNat=33∨c.toNat=60∨c.toNat=62) then [c,61] else if c.toNat=33∨Mh.contains c=false then [] else [c]:=by
 rw [RA];have:=iy c.toNat c.toNat_lt (l.head? == some 61);rw [UInt8.ofNat_toNat] at this;rw [this];simp [or_assoc]
end Go.af
namespace Go.Y
open Go.cc Go.Kc
abbrev sb:=List ya
def Wg:sb→Int→Int
 | [],e=>e
 | t::_,_=>t.Td
def gb:sb→List UInt8→Bool
 | [],_=>false
 | t::_,k=>decide (t.Text=k)
theorem Qf {α:Type}(x:α) (l:List α):at_ (x::l) 0=some x:=by simp [at_]
theorem Vj {α:Type}(x:α) (l:List α):cut (x::l) 1 (x::l).length=some l:=by
 unfold cut;rw [if_pos ⟨by omega,by simp;omega,by simp⟩];simp
theorem sg (l:sb) (e d:Int):mh l e d=some (Wg l e):=by
 cases l with
 | nil=>rfl
 | cons t l =>
  unfold mh;rw [if_neg (by simp;omega),Qf];rfl
theorem iq (l:sb) (e d:Int) (k:List UInt8):Ni l e d k=some (gb l k):=by
 cases l with
 | nil=>rfl
 | cons t l =>
  unfold Ni;rw [if_pos (by simp),Qf];rfl
theorem ml (l:sb) (e d:Int) (k:List UInt8):Md l e d k=some (if gb l k=true then (true,l.tail,e,d) else (false,l,e,d)):=by
 unfold Md;rw [iq,Option.bind_some];cases l with
 | nil=>rfl
 | cons t l =>
  by_cases h:gb (t::l) k=true
  ·rw [if_pos h,if_pos h,Vj];rfl
  ·rw [if_neg h,if_neg h]
theorem Rr {l:sb}{k:List UInt8}(h:gb l k=true):∃ t a,l=t::a∧t.Text=k:=by
 cases l with
 | nil=>cases h
 | cons t l=>exact ⟨t,l,rfl,of_decide_eq_true h⟩
theorem ql {l:sb}{k:List UInt8}(h:gb l k=true):l.tail.length+1=l.length:=by
 obtain ⟨t,a,rfl,-⟩:=Rr h;rfl
theorem cp (l:sb) (e d:Int) (k:List UInt8):tf l e d [k]=some (if gb l k=true then .ok (l.tail,e,d) else .error ⟨2,Wg l e⟩):=by
 unfold tf;show Fm [k] 2 0 l e d=_;unfold Fm;rw [if_pos (by simp),Qf,Option.bind_some,ml,Option.bind_some];by_cases h:gb l k=true
 ·rw [if_pos h,if_pos rfl,if_pos h];show (some (1:Int)).bind _=_;rw [Option.bind_some];unfold Fm;rw [if_neg (by simp)]
 ·rw [if_neg h,if_neg (by simp),if_neg h,sg];rfl
theorem hr (l:sb) (e d:Int):Fj l e d=some (match l with
  | []=>.error ⟨2,e⟩
  | t::a=>if t.Kind=2 then .ok (t.hn,a,e,d) else .error ⟨2,t.Td⟩):=by
 cases l with
 | nil=>rfl
 | cons t l =>
  unfold Fj;rw [if_neg (by simp;omega),Qf,Option.bind_some];unfold sn;by_cases h:t.Kind=2
  ·rw [if_neg (by simp [h]),Qf,Option.bind_some,Vj,Option.bind_some];simp [h]
  ·rw [if_pos (by simp [h]),sg,Option.bind_some];simp [h,Wg]
theorem Oy {fu:Nat}{a:List UInt8→Bool}(b:∀ w,Yg fu w=some (a w)) (l:sb) (e d:Int):og fu l e d=some (match l with
  | []=>.error ⟨2,e⟩
  | t::c=>if t.Kind=1 then (if a t.Text=true then .ok (t.Text,c,e,d) else .error ⟨7,t.Td⟩) else .error ⟨2,t.Td⟩):=by
 cases l with
 | nil=>rfl
 | cons t l =>
  unfold og;rw [if_neg (by simp;omega),Qf,Option.bind_some];unfold Gm;by_cases h:t.Kind=1
  ·rw [if_neg (by simp [h]),Qf,Option.bind_some,b,Option.bind_some];by_cases g:a t.Text=true
   ·rw [if_pos g,Vj,Option.bind_some];simp [h,g]
   ·rw [if_neg g,sg,Option.bind_some];simp [h,g,Wg]
  ·rw [if_pos (by simp [h]),sg,Option.bind_some];simp [h,Wg]
theorem Us {fu:Nat}(l:sb) (e d:Int):og fu l e d=match l with
  | []=>some (.error ⟨2,e⟩)
  | t::a=>if t.Kind=1 then (Yg fu t.Text).bind fun b=>if b=true then some (.ok (t.Text,a,e,d)) else some (.error ⟨7,t.Td⟩) else some (.error ⟨2,t.Td⟩):=by
 cases l with
 | nil=>rfl
 | cons t l =>
  unfold og;rw [if_neg (by simp;omega),Qf,Option.bind_some];unfold Gm;by_cases h:t.Kind=1
  ·rw [if_neg (by simp [h]),Qf,Option.bind_some];simp only [h,if_true];cases Yg fu t.Text with
   | none=>rfl
   | some b =>
    rw [Option.bind_some,Option.bind_some,Vj,Option.bind_some,sg,Option.bind_some];rfl
  ·rw [if_pos (by simp [h]),sg,Option.bind_some];simp [h,Wg]
theorem Fw {re α β:Type}{x:α}{k:re→β}{f:α→Option β}:Qq (some (.ok x)) k f=f x:=rfl
theorem SA {re α β:Type}{e:re}{k:re→β}{f:α→Option β}:Qq (some (.error e:Except re α)) k f=some (k e):=rfl
theorem nv {l:sb}{e d:Int}(a:0≤d) (b:d≤1000):Th l e d=some (if 200<d+1 then .error ⟨4,Wg l e⟩ else .ok (l,e,d+1)):=by
 unfold Th;rw [show i64 (d+1)=some (d+1) by unfold i64;rw [if_pos (by omega)],Option.bind_some];by_cases h:200<d+1
 ·rw [if_pos h,if_pos h,sg];rfl
 ·rw [if_neg h,if_neg h]
theorem Jv {l:sb}{e d:Int}(a:1≤d) (b:d≤1000):Lh l e d=some (l,e,d - 1):=by
 unfold Lh;rw [show i64 (d - 1)=some (d - 1) by unfold i64;rw [if_pos (by omega)]];rfl
end Go.Y
namespace Go.Y
open Go.cc Go.Kc Go.af
theorem jy (t:List UInt8):∀ acc k,acc<10 ^ k→k+t.length≤15→t.all dd=true→Lib.parseUintM (2 ^ 64 - 1) acc t=.ok (dp acc t):=by
 induction t with
 | nil=>intro acc k _ _ _; rfl
 | cons c t b =>
  intro acc k d a gb;simp only [List.all_cons,Bool.and_eq_true] at gb;have e:48≤c.toNat∧c.toNat≤57:=by simpa [dd] using gb.1
  have f:acc<10 ^ 14:=Nat.lt_of_lt_of_le d (Nat.pow_le_pow_right (by decide) (by simp at a;omega));unfold Lib.parseUintM;rw [if_pos e,if_neg (by omega),if_neg (by omega)];exact b _ (k+1) (by rw [Nat.pow_succ];omega) (by simp at a;omega) gb.2
theorem Py (t:List UInt8) (a:t≠[]) (h:t.length≤15) (gb:t.all dd=true):Lib.parseIntB 64 t=.ok (val t:Nat):=by
 cases t with
 | nil=>exact absurd rfl a
 | cons c t =>
  have b:48≤c.toNat∧c.toNat≤57:=by simpa [dd] using (List.all_eq_true.1 gb) c (by simp)
  have d:=Vv (c::t) 0 0 (by decide) gb;have e:(10:Nat) ^ (0+(c::t).length)≤10 ^ 15:=Nat.pow_le_pow_right (by decide) (by omega);have hu:=jy (c::t) 0 0 (by decide) (by simpa using h) gb;unfold Lib.parseIntB;simp only;rw [if_neg (by omega)];unfold Lib.parseUintB;rw [if_neg (by simp),hu];simp only;rw [if_neg (by omega),if_neg (by omega),if_neg (by omega)];rfl
theorem Wh {i:Int}(a:0≤i) (b:i≤100000):i64 i=some i:=by unfold i64;rw [if_pos (by omega)]
theorem rl {α:Type}{l:List α}{i:Nat}{x:α}(h:l[i]?=some x):at_ l (i:Int)=some x:=by simp [at_,h]
theorem TB {α:Type}(x:α) (l:List α):at_ (x::l) 0=some x:=by simp [at_]
theorem ft {α:Type}{s:List α}{i:Nat}(h:i≤s.length):cut s (i:Int) (s.length:Int)=some (s.drop i):=by
 unfold cut;rw [if_pos ⟨by omega,by omega,by omega⟩];simp
theorem Ot {α:Type}{s:List α}{i:Nat}(h:i≤s.length):cut s 0 (i:Int)=some (s.take i):=by
 unfold cut;rw [if_pos ⟨by omega,by omega,by omega⟩];simp
theorem Gw (c:UInt8):dj c=some (ng c):=by
 unfold dj ng;by_cases h:(97:Int)≤(c.toNat:Int)
 ·rw [if_pos h];by_cases e:(c.toNat:Int)≤122
  ·rw [if_pos e];have a:97≤c.toNat:=by omega
   have b:c.toNat≤122:=by omega
   simp [a,b]
  ·rw [if_neg e];have b:¬ c.toNat≤122:=by omega
   have d:((c.toNat:Int)=95) ↔ c.toNat=95:=by omega
   simp [b,d];rfl
 ·rw [if_neg h];have a:¬ 97≤c.toNat:=by omega
  have d:((c.toNat:Int)=95) ↔ c.toNat=95:=by omega
  simp [a,d];rfl
theorem Pt (c:UInt8):Ej c=some (dd c):=by
 unfold Ej dd;by_cases h:(48:Int)≤(c.toNat:Int)
 ·rw [if_pos h];have a:48≤c.toNat:=by omega
  have b:((c.toNat:Int)≤57) ↔ c.toNat≤57:=by omega
  simp [a,b]
 ·rw [if_neg h];have a:¬ 48≤c.toNat:=by omega
  simp [a]
theorem UB (c:UInt8):Bq c=some (Kh c):=by
 unfold Bq Kh;rw [Gw,Option.bind_some];cases ng c
 ·rw [if_neg (by decide),Pt];rfl
 ·rfl
theorem VB (c:UInt8):Cq c=some (Mf c):=by
 unfold Cq Mf;have a:((c.toNat:Int)≠10) ↔ c.toNat≠10:=by omega
 simp [a,bne];rfl
theorem Pm {α:Type}{s:List α}{i:Nat}(h:i<s.length):s.drop i=s[i]::s.drop (i+1):=(List.drop_eq_getElem_cons h)
theorem WB {p:UInt8→Option Bool}{a:UInt8→Bool}(b:∀ c,p c=some (a c)){s:List UInt8}(e:s.length≤6000):∀ (n i:Nat),i≤s.length→s.length - i<n→xj s p n (i:Int)=some ((i+((s.drop i).takeWhile a).length:Nat):Int):=by
 intro n
 induction n with
 | zero=>intro i _ h; omega
 | succ n d =>
  intro i f j;unfold xj;by_cases h:i<s.length
  ·rw [if_pos (by omega),rl (List.getElem?_eq_getElem h),Option.bind_some,b,Option.bind_some,Pm h,List.takeWhile_cons];unfold xl;by_cases g:a s[i]=true
   ·rw [if_pos g,if_pos g,Wh (by omega) (by omega),Option.bind_some];have:=d (i+1) (by omega) (by omega);rw [show ((i:Int)+1)=((i+1:Nat):Int) by omega,this];congr 2;simp only [List.length_cons];omega
   ·rw [if_neg g,if_neg g];simp
  ·rw [if_neg (by omega)];unfold xl;rw [if_neg (by decide),List.drop_of_length_le (by omega)];simp
theorem Qt {p:UInt8→Option Bool}{a:UInt8→Bool}(b:∀ c,p c=some (a c)){s:List UInt8}(d:s.length≤6000){fu:Nat}(e:7000≤fu):ik fu s p=some ((s.takeWhile a).length:Int):=by
 have:=WB b d fu 0 (by omega) (by omega);unfold ik;rw [show (0:Int)=((0:Nat):Int) by rfl,this];simp
theorem TA {fu:Nat}(l:7000≤fu){s:List UInt8}(m:s.length≤6000):∀ (n i:Nat),i≤s.length→s.length - i<n→ck fu s n (i:Int)=some ((i+space (s.drop i):Nat):Int):=by
 intro n
 induction n with
 | zero=>intro i _ h; omega
 | succ n k =>
  intro i o p;unfold ck;by_cases h:i<s.length
  ·rw [if_pos (by omega),rl (List.getElem?_eq_getElem h),Option.bind_some];have gb:s.drop i=s[i]::s.drop (i+1):=Pm h;generalize q:s[i]=c at gb ⊢;have r:(s.drop i).length=s.length - i:=List.length_drop ..;by_cases a:Wf c=true
   ·have e:space (s.drop i)=1+space (s.drop (i+1)):=by rw [gb];exact yu a
    have key:yl fu s (i:Int) c (ck fu s n) true=some ((i+space (s.drop i):Nat):Int):=by
     unfold yl;rw [if_pos rfl,Wh (by omega) (by omega),Option.bind_some,show ((i:Int)+1)=((i+1:Nat):Int) by omega,k (i+1) (by omega) (by omega),e];congr 2;omega
    unfold Wf at a;simp only [Bool.or_eq_true,beq_iff_eq] at a;by_cases b:(c.toNat:Int)=32
    ·rw [if_pos b];simpa [b] using key
    ·rw [if_neg b];by_cases d:(c.toNat:Int)=9
     ·rw [if_pos d];simpa [d] using key
     ·rw [if_neg d];have f:(c.toNat:Int)=10:=by omega
      simpa [f] using key
   ·have j:Wf c=false:=by simpa using a
    have key:yl fu s (i:Int) c (ck fu s n) false=some ((i+space (s.drop i):Nat):Int):=by
     unfold yl;rw [if_neg (by decide)];by_cases g:c.toNat=35
     ·rw [if_pos (by omega),ft (by omega),Option.bind_some,Qt VB (by omega) l,Option.bind_some];have t:((s.drop i).takeWhile Mf).length≤(s.drop i).length:=(List.takeWhile_sublist _).length_le;have u:0<((s.drop i).takeWhile Mf).length:=by
       rw [gb,List.takeWhile_cons,if_pos (by simp [Mf,g])];simp
      rw [Wh (by omega) (by omega),Option.bind_some,show ((i:Int)+(((s.drop i).takeWhile Mf).length:Int))=((i+((s.drop i).takeWhile Mf).length:Nat):Int) by omega,k _ (by omega) (by omega)];have e:space (s.drop i)=((s.drop i).takeWhile Mf).length+space ((s.drop i).drop ((s.drop i).takeWhile Mf).length):=by
       conv=>lhs;rw [gb]
       rw [ru g,← gb]
      rw [List.drop_drop] at e;rw [e];congr 2;omega
     ·rw [if_neg (by omega)];have e:space (s.drop i)=0:=by rw [gb];exact As j g
      rw [e];rfl
    unfold Wf at j;simp only [Bool.or_eq_false_iff,beq_eq_false_iff_ne,ne_eq] at j;rw [if_neg (by omega),if_neg (by omega)];have f:¬ (c.toNat:Int)=10:=by omega
    simpa [f] using key
  ·rw [if_neg (by omega),List.drop_of_length_le (by omega)];rfl
theorem nw {fu:Nat}(a:7000≤fu){s:List UInt8}(b:s.length≤6000):Zo fu s=some (space s:Int):=by
 have:=TA a b fu 0 (by omega) (by omega);unfold Zo;rw [show (0:Int)=((0:Nat):Int) by rfl,this];simp
theorem UA (s x:List UInt8):Dq s x=some (x.isPrefixOf s):=by
 unfold Dq Gr;by_cases h:x.length≤s.length
 ·rw [if_pos (by omega),Ot h,Option.bind_some,Option.bind_some,xy]
 ·rw [if_neg (by omega),Option.bind_some,Tx _ _ (by omega)]
theorem VA (s:List UInt8):∀ (n i:Nat),n+i=19→i≤18→Eo s n (i:Int)=some (((Ag.drop i).find? fun x=>x.isPrefixOf s).getD []):=by
 intro n
 induction n with
 | zero=>intro i h c; omega
 | succ n b =>
  intro i d e;unfold Eo;by_cases h:i<18
  ·have a:i<Ag.length:=h;rw [if_pos (by omega)];show (at_ Ag (i:Int)).bind _=_;rw [rl (List.getElem?_eq_getElem a),Option.bind_some,UA,Option.bind_some,Pm a,List.find?_cons];cases g:Ag[i].isPrefixOf s with
   | true=>rfl
   | false =>
    rw [if_neg (by decide),Wh (by omega) (by omega),Option.bind_some,show ((i:Int)+1)=((i+1:Nat):Int) by omega,b (i+1) (by omega) (by omega)]
  ·rw [if_neg (by omega),List.drop_of_length_le (by show 18≤i;omega)];rfl
theorem WA (s:List UInt8):ur s=some (sign s):=VA s 19 0 rfl (by omega)
def mn (t:Tok):ya:=⟨t.kind,t.text,t.num,t.pos⟩
def eh:Except (Nat×Nat) (List Tok)→List ya→List ya×xb
 | .ok a,acc=>(acc++a.map mn,⟨0,0⟩)
 | .error e,_=>([],⟨e.1,e.2⟩)
theorem ov (r:Except (Nat×Nat) (List Tok)) (t:Tok) (acc:List ya):eh (r.map (t::·)) acc=eh r (acc++[mn t]):=by
 cases r<;>simp [Except.map,eh]
theorem XB {fu:Nat}(e:7000≤fu){s:List UInt8}(v:s.length≤6000):∀ (n i:Nat) (acc:List ya),i≤s.length→s.length - i<n→acc.length≤i→Pk fu s n (i:Int) acc=some (eh (Kk i (s.drop i)) acc):=by
 intro n
 induction n with
 | zero=>intro i _ _ h; omega
 | succ n l =>
  intro i acc w x y;unfold Pk;by_cases h:i<s.length
  ·have gb:s.drop i=s[i]::s.drop (i+1):=Pm h;have z:(s.drop i).length=s.length - i:=List.length_drop ..;have f:s.drop i≠[]:=by rw [gb];exact List.cons_ne_nil _ _
   rw [if_pos (by omega),ft (by omega),Option.bind_some];have m:at_ (s.drop i) 0=some s[i]:=by rw [gb];exact TB _ _
   rw [m,Option.bind_some,Gw,Option.bind_some];have tok:∀ t:Tok,gg i (s.drop i)=.ok t→qn fu s (i:Int) acc (Pk fu s n) t.kind t.text t.num=some (eh (Kk i (s.drop i)) acc):=by
    intro t j;obtain ⟨A,B,C,o⟩:=Yo j;rw [Cv f j,ov];unfold qn;rw [show app acc [ya.mk t.kind t.text t.num i]=some (acc++[mn t]) by unfold app;rw [if_pos (by simp;omega),mn,o],Option.bind_some,Wh (by omega) (by omega),Option.bind_some,show ((i:Int)+(t.text.length:Int))=((i+t.text.length:Nat):Int) by omega,ft (by omega),Option.bind_some];rw [nw e (by rw [List.length_drop];omega),Option.bind_some];have p:=gv (s.drop (i+t.text.length));rw [List.length_drop] at p;rw [Wh (by omega) (by omega),Option.bind_some,show (((i+t.text.length:Nat):Int)+(space (s.drop (i+t.text.length)):Int))=((i+t.text.length+space (s.drop (i+t.text.length)):Nat):Int) by omega,l _ _ (by omega) (by omega) (by simp;omega)];simp only [List.drop_drop]
   generalize D:s[i]=c at gb ⊢;by_cases d:ng c=true
   ·rw [if_pos d,Qt UB (by omega) e,Option.bind_some,Ot (List.takeWhile_sublist _).length_le,Option.bind_some,Bv];refine tok ⟨1,(s.drop i).takeWhile Kh,0,i⟩ ?_;rw [gb];simp only [gg,d,if_true]
   ·have k:ng c=false:=by simpa using d
    rw [if_neg d,Pt,Option.bind_some];by_cases b:dd c=true
    ·rw [if_pos b,Qt Pt (by omega) e,Option.bind_some,Ot (List.takeWhile_sublist _).length_le,Option.bind_some,Bv];have a:gg i (s.drop i)=if 15<((s.drop i).takeWhile dd).length then .error 3 else .ok ⟨2,(s.drop i).takeWhile dd,val ((s.drop i).takeWhile dd),i⟩:=by
      rw [gb];exact hv k b
     by_cases g:15<((s.drop i).takeWhile dd).length
     ·rw [if_pos (by omega)];rw [if_pos g] at a;rw [Ss f a];rfl
     ·rw [if_neg (by omega)];rw [if_neg g] at a;have q:(s.drop i).takeWhile dd≠[]:=by rw [gb,List.takeWhile_cons,if_pos b];simp
      have r:Hq ((s.drop i).takeWhile dd)=some ((val ((s.drop i).takeWhile dd):Nat):Int):=by
       unfold Hq;rw [if_pos (by omega),Py _ q (by omega) (Ou _)]
      rw [r,Option.bind_some];exact tok _ a
    ·have u:dd c=false:=by simpa using b
     rw [if_neg b,WA,Option.bind_some];have a:gg i (s.drop i)=if sign (s.drop i)=[] then .error 2 else .ok ⟨3,sign (s.drop i),0,i⟩:=by
      rw [gb];exact Mu k u
     by_cases g:sign (s.drop i)=[]
     ·rw [if_pos g];rw [if_pos g] at a;rw [Ss f a];rfl
     ·rw [if_neg g];rw [if_neg g] at a;exact tok _ a
  ·rw [if_neg (by omega),List.drop_of_length_le (by omega),iv];simp [eh]
theorem Uq {fu:Nat}(a:7000≤fu) (s:List UInt8):Up fu s=some (eh (tokens s) []):=by
 rw [Pu];unfold Up;by_cases h:6000<s.length
 ·rw [if_pos (by omega),if_pos h];rfl
 ·rw [if_neg (by omega),if_neg h,nw a (by omega),Option.bind_some];exact XB a (by omega) fu _ [] (gv s) (by omega) (by simp)
end Go.Y
namespace Go.Y
open Go.cc Go.Kc
theorem Xh {n:Int}(h:-9223372036854775808≤n∧n≤9223372036854775807):i64 n=some n:=if_pos h
theorem pc {α β:Type}{x:α}{f:α→Option β}:Option.bind (some x) f=f x:=rfl
theorem lj {α:Type}{l:List α}{i:Nat}:at_ l (i:Int)=l[i]?:=by simp [at_]
theorem Pw {α:Type}{l:List α}(h:0<l.length):at_ l 0=some l[0]:=by simp [at_,h]
theorem zu (c:UInt8):∃ b,dj c=some b:=by
 unfold dj;split
 ·split<;>exact ⟨_,rfl⟩
 ·exact ⟨_,rfl⟩
theorem Ix (c:UInt8):∃ b,Ej c=some b:=by
 unfold Ej;split<;>exact ⟨_,rfl⟩
theorem Mz (c:UInt8):∃ b,Hk c=some b:=by
 obtain ⟨a,d⟩:=zu c;obtain ⟨b,e⟩:=Ix c;unfold Hk;rw [d,pc,e,pc];split<;>exact ⟨_,rfl⟩
theorem Eu (l:List UInt8) (p:UInt8→Option Bool) (a:∀ c,∃ b,p c=some b) (d:l.length≤65536):∀ (n i:Nat),i≤l.length→l.length<n+i→∃ r,xj l p n (i:Int)=some r
 | 0,i,e,f=>by omega
 | n+1,i,e,f=>by
  rw [xj];by_cases c:i<l.length
  ·obtain ⟨b,g⟩:=a l[i];rw [if_pos (by omega),lj,List.getElem?_eq_getElem c,pc,g,pc];cases b with
   | true=>rw [xl,if_pos rfl,Xh (by omega),pc]; exact Eu l p a d n (i+1) c (by omega)
   | false=>exact ⟨_,rfl⟩
  ·rw [if_neg (by omega)];exact ⟨_,rfl⟩
theorem Bo (fu:Nat) (i:20≤fu) (s:List UInt8):∃ b,Yg fu s=some b:=by
 have a:∀ b,(b=true∨s.length≤12)→∃ r,bk fu s b=some r:=by
  intro b c;cases b with
  | true=>exact ⟨_,rfl⟩
  | false =>
   have j:s.length≤12:=by simpa using c
   obtain ⟨r,f⟩:=Eu s Hk Mz (by omega) fu 0 (by omega) (by omega);have g:ik fu s Hk=some r:=f;exact ⟨_,by rw [bk,if_neg (by decide),g,pc]⟩
 rw [Yg];by_cases d:(s.length:Int)<1
 ·rw [if_pos d];exact a _ (.inl rfl)
 ·rw [if_neg d];by_cases e:(12:Int)<s.length
  ·rw [if_pos e];exact a _ (.inl rfl)
  ·have h:0<s.length:=by omega
   obtain ⟨b,c⟩:=zu s[0];rw [if_neg e,Pw h,pc,c,pc];cases b with
   | false=>rw [if_neg (by decide)]; exact a _ (.inl rfl)
   | true =>
    rw [if_pos rfl,cat,if_pos (by simp;omega),pc,cat,if_pos (by simp;omega),pc,zq,if_pos (by decide +kernel),pc];exact a _ (.inr (by omega))
def ag (k:Int):Int:=if k≤3∨k=20 then 0 else if k≤5∨k=21∨k=24 then 1 else if k≤18∨k=23 then 2 else -1
theorem Fu (k:Int):fq k=some (ag k):=by
 unfold fq ag;by_cases a:k≤3
 ·rw [if_pos a,if_pos (.inl a)];rfl
 ·rw [if_neg a];by_cases b:k=20
  ·rw [decide_eq_true b,if_pos (.inr b)];rfl
  ·rw [decide_eq_false b,Qp,if_neg (by decide),if_neg (show ¬ (k≤3∨k=20) by omega)];by_cases c:k≤5
   ·rw [if_pos c,if_pos (.inl c)];rfl
   ·rw [if_neg c];by_cases d:k=21
    ·rw [if_pos d,if_pos (.inr (.inl d))];rfl
    ·rw [if_neg d];by_cases e:k=24
     ·rw [decide_eq_true e,if_pos (.inr (.inr e))];rfl
     ·rw [decide_eq_false e,qo,if_neg (by decide),if_neg (show ¬ (k≤5∨k=21∨k=24) by omega)];by_cases f:k≤18
      ·rw [if_pos f,if_pos (.inl f)];rfl
      ·rw [if_neg f];by_cases g:k=23
       ·rw [decide_eq_true g,if_pos (.inr g)];rfl
       ·rw [decide_eq_false g,if_neg (show ¬ (k≤18∨k=23) by omega)];rfl
theorem Cs (node d:Int) (a:0≤node) (b:node≤4294967296):∃ e,Ii node d=some (e,node+1)∧(e=0→node+1≤2000∧d≤40):=by
 unfold Ii;rw [Xh (by omega),pc];by_cases c:2000<node+1
 ·rw [if_pos c];exact ⟨4,rfl,fun h=>absurd h (by decide)⟩
 ·rw [if_neg c];by_cases e:40<d
  ·rw [decide_eq_true e];exact ⟨4,rfl,fun h=>absurd h (by decide)⟩
  ·rw [decide_eq_false e];exact ⟨0,rfl,fun _=>⟨by omega,by omega⟩⟩
structure ow (x:ab):Prop where
 eq:0≤ag x.Kind→(x.Kids.length:Int)=ag x.Kind
 le:x.Kids.length≤6
def jn:Nat→ab→Prop
 | 0,_=>False
 | k+1,x=>1≤x.Kind∧x.Kind≤24∧ow x∧∀ y ∈ x.Kids,jn k y
def nn:Nat→ab→Nat
 | 0,_=>0
 | k+1,x=>1+(x.Kids.map (nn k)).sum
theorem Kv (k:Int):ag k≤2:=by
 unfold ag;split
 ·decide
 ·split
  ·decide
  ·split<;>decide
theorem Jx:∀ (n:Nat) (x:ab) (d node:Int),62≤n+d→0≤d→d≤41→0≤node→node≤2000 →
  ∃ e k,(hf n).Hh node x d=some (e,k)∧node≤k∧(e=0→k≤2000∧jn (41 - d).toNat x∧k=node+(nn (41 - d).toNat x:Nat)):=by
 intro n
 induction n with
 | zero=>intro x d node D u v; omega
 | succ n E =>
  intro x d node D u v F Y;show ∃ e k,Hh n (hf n) node x d=some (e,k)∧_;obtain ⟨b,H⟩:=Bo n (by omega) x.Name;obtain ⟨e,K,he⟩:=Cs node d F (by omega);rw [Hh,K,pc];by_cases c:e=0
  ·subst c;obtain ⟨gc,gb⟩:=he rfl;rw [if_neg (by simp)];have M:(41 - d).toNat=(40 - d).toNat+1:=by omega
   rw [M];generalize a:(fun o:Option (Int×Int)=>∃ e k,o=some (e,k)∧node≤k∧(e=0→k≤2000∧jn ((40 - d).toNat+1) x∧k=node+(nn ((40 - d).toNat+1) x:Nat)))=P;have bad:∀ e:Int,e≠0→P (some (e,node+1)):=fun e h=>by rw [← a];exact ⟨e,_,rfl,by omega,fun N=>absurd N h⟩
   have L:x.Kids.length≤6→∀ (m i:Nat) (c:Int),i≤x.Kids.length→x.Kids.length<m+i→0≤c→c≤2000 →
     ∃ e k,mm (hf n) x d m i c=some (e,k)∧c≤k∧(e=0→k≤2000∧(∀ y ∈ x.Kids.drop i,jn (40 - d).toNat y)∧k=c+(((x.Kids.drop i).map (nn (40 - d).toNat)).sum:Nat)):=by
    intro lc m
    induction m with
    | zero=>intro i c u v; omega
    | succ m Q =>
     intro i c g1 g2 g3 g4;rw [mm];by_cases q:i<x.Kids.length
     ·obtain ⟨e,k,la,e2,R⟩:=E x.Kids[i] (d+1) c (by omega) (by omega) (by omega) g3 g4;rw [if_pos (by omega),lj,List.getElem?_eq_getElem q,pc,Xh (by omega),pc,la,pc];by_cases z:e=0
      ·subst z;obtain ⟨f1,f2,f3⟩:=R rfl;rw [if_neg (by simp),Xh (by omega),pc];obtain ⟨S,T,j,V,l⟩:=Q (i+1) k q (by omega) (by omega) f1;refine ⟨S,T,j,by omega,fun p=>?_⟩;obtain ⟨s1,s2,w⟩:=l p;have W:(41 - (d+1)).toNat=(40 - d).toNat:=by omega
       rw [W] at f2 f3;refine ⟨s1,fun y f=>?_,?_⟩
       ·rw [List.drop_eq_getElem_cons q] at f;rcases List.mem_cons.1 f with rfl | f
        ·exact f2
        ·exact s2 y f
       ·rw [List.drop_eq_getElem_cons q,List.map_cons,List.sum_cons];omega
      ·rw [if_pos z];exact ⟨e,k,rfl,e2,fun h=>absurd h z⟩
     ·rw [if_neg (by omega),List.drop_eq_nil_of_le (by omega)];exact ⟨0,c,rfl,by omega,fun _=>⟨g4,by simp,by simp⟩⟩
   by_cases Sf:1≤x.Kind∧x.Kind≤24
   ·have r:∀ b,(b=false→ow x)→P (zl (hf n) x d (0,node+1) b):=by
     intro b h;cases b with
     | true=>exact bad 5 (by decide)
     | false =>
      have A:=h rfl;rw [zl,if_neg (by decide),← a];obtain ⟨e,k,j,V,l⟩:=L A.le (x.Kids.length+1) 0 (node+1) (by omega) (by omega) (by omega) (by omega);refine ⟨e,k,j,by omega,fun p=>?_⟩;obtain ⟨s1,s2,w⟩:=l p;rw [List.drop_zero] at s2 w;exact ⟨s1,⟨Sf.1,Sf.2,A,s2⟩,by rw [nn];omega⟩
    have rc:=Kv x.Kind;have B:∀ b,(b=false→0≤ag x.Kind→(x.Kids.length:Int)=ag x.Kind)→P (Al (hf n) x d (0,node+1) (ag x.Kind) b):=by
     intro b h;cases b with
     | true=>rw [Al,if_pos rfl]; exact r _ (fun h=>absurd h (by decide))
     | false =>
      rw [Al,if_neg (by decide)];by_cases q:ag x.Kind<0
      ·rw [if_pos q];exact r _ fun gb=>⟨h rfl,by have:=of_decide_eq_false gb;omega⟩
      ·rw [if_neg q];exact r _ fun _=>⟨h rfl,by have:=h rfl (by omega);omega⟩
    have s:∀ b,P (Qk (hf n) x d (0,node+1) (ag x.Kind) b):=by
     intro b;cases b with
     | true=>exact bad 7 (by decide)
     | false =>
      rw [Qk,if_neg (by decide)];by_cases q:0≤ag x.Kind
      ·rw [if_pos q];exact B _ fun gb _=>by have:=of_decide_eq_false gb;omega
      ·rw [if_neg q];exact B _ fun _ h=>absurd h q
    have t:∀ b,P (Gi n (hf n) x d (0,node+1) (ag x.Kind) b):=by
     intro g;cases g with
     | true=>exact bad 3 (by decide)
     | false =>
      rw [Gi,if_neg (by decide),H];simp only [pc];split
      ·exact s _
      ·split
       ·exact s _
       ·split<;>exact s _
    have C:∀ b,P (Bl n (hf n) x d (0,node+1) (ag x.Kind) b):=by
     intro g;unfold Bl;split
     ·exact t _
     ·split
      ·split<;>exact t _
      ·exact t _
    have X:∀ b,P (yj n (hf n) x d (0,node+1) b):=by
     intro g;cases g with
     | true=>exact bad 1 (by decide)
     | false =>
      rw [yj,if_neg (by decide),Fu,pc];split
      ·split<;>exact C _
      ·exact C _
    have G:P (if x.Kind<1 then yj n (hf n) x d (0,node+1) true else yj n (hf n) x d (0,node+1) (decide ((24:Int)<x.Kind))):=by
     split<;>exact X _
    rw [← a] at G;exact G
   ·have G:P (if x.Kind<1 then yj n (hf n) x d (0,node+1) true else yj n (hf n) x d (0,node+1) (decide ((24:Int)<x.Kind))):=by
     split
     ·exact bad 1 (by decide)
     ·rw [decide_eq_true (show 24<x.Kind by omega)];exact bad 1 (by decide)
    rw [← a] at G;exact G
  ·rw [if_pos c];exact ⟨e,_,rfl,by omega,fun h=>absurd h c⟩
def bm:Nat→Eb→Prop
 | 0,_=>False
 | k+1,s=>1≤s.Kind∧s.Kind≤9∧(s.Kind≠6→jn k s.X)∧((s.Kind=3∨s.Kind=4)→s.Body.length≤50∧∀ y ∈ s.Body,bm k y)∧(s.Kind=3→s.me.length≤50∧∀ y ∈ s.me,bm k y)
def Ok:Nat→Eb→Nat
 | 0,_=>0
 | k+1,s=>1+(if s.Kind=6 then 0 else nn k s.X)+(if s.Kind=3∨s.Kind=4 then (s.Body.map (Ok k)).sum else 0)+(if s.Kind=3 then (s.me.map (Ok k)).sum else 0)
theorem Kx:∀ (n:Nat),(∀ (l:List Eb) (d node:Int),2*(42 - d)+65≤n→0≤d→d≤41→0≤node→node≤2000 →
   ∃ e k,(Uf n).Zg node l d=some (e,k)∧node≤k∧(e=0→k≤2000∧(l.length≤50∧∀ y ∈ l,bm (41 - d).toNat y)∧k=node+((l.map (Ok (41 - d).toNat)).sum:Nat))) ∧
  (∀ (x:Eb) (d node:Int),2*(42 - d)+64≤n→0≤d→d≤41→0≤node→node≤2000 →
   ∃ e k,(Uf n).Ji node x d=some (e,k)∧node≤k∧(e=0→k≤2000∧bm (41 - d).toNat x∧k=node+(Ok (41 - d).toNat x:Nat))):=by
 intro n
 induction n with
 | zero=>exact ⟨fun l d node D s t=>by omega,fun l d node D s t=>by omega⟩
 | succ n R =>
  obtain ⟨S,T⟩:=R;refine ⟨fun l d node D s t j F=>?_,fun x d node D s t j F=>?_⟩
  ·show ∃ e k,Zg (Uf n) node l d=some (e,k)∧_;rw [Zg];by_cases H:(50:Int)<l.length
   ·rw [if_pos H];exact ⟨5,node,rfl,by omega,fun h=>absurd h (by decide)⟩
   ·rw [if_neg H];have L:∀ (m i:Nat) (c:Int),i≤l.length→l.length<m+i→0≤c→c≤2000 →
      ∃ e k,fm (Uf n) l d m i c=some (e,k)∧c≤k∧(e=0→k≤2000∧(∀ y ∈ l.drop i,bm (41 - d).toNat y)∧k=c+(((l.drop i).map (Ok (41 - d).toNat)).sum:Nat)):=by
     intro m
     induction m with
     | zero=>intro i c s t; omega
     | succ m V =>
      intro i c g1 g2 g3 g4;rw [fm];by_cases q:i<l.length
      ·obtain ⟨e,k,la,e2,W⟩:=T l[i] d c (by omega) s t g3 g4;rw [if_pos (by omega),lj,List.getElem?_eq_getElem q,pc,la,pc];by_cases z:e=0
       ·subst z;obtain ⟨f1,f2,f3⟩:=W rfl;rw [if_neg (by simp),Xh (by omega),pc];obtain ⟨Y,lc,g,u,f⟩:=V (i+1) k q (by omega) (by omega) f1;refine ⟨Y,lc,g,by omega,fun v=>?_⟩;obtain ⟨s1,s2,p⟩:=f v;refine ⟨s1,fun y C=>?_,?_⟩
        ·rw [List.drop_eq_getElem_cons q] at C;rcases List.mem_cons.1 C with rfl | C
         ·exact f2
         ·exact s2 y C
        ·rw [List.drop_eq_getElem_cons q,List.map_cons,List.sum_cons];omega
       ·rw [if_pos z];exact ⟨e,k,rfl,e2,fun h=>absurd h z⟩
      ·rw [if_neg (by omega),List.drop_eq_nil_of_le (by omega)];exact ⟨0,c,rfl,by omega,fun _=>⟨g4,by simp,by simp⟩⟩
    obtain ⟨e,k,g,u,f⟩:=L (l.length+1) 0 node (by omega) (by omega) j F;refine ⟨e,k,g,u,fun v=>?_⟩;obtain ⟨s1,s2,p⟩:=f v;rw [List.drop_zero] at s2 p;exact ⟨s1,⟨by omega,s2⟩,p⟩
  ·show ∃ e k,Ji n (Uf n) node x d=some (e,k)∧_;obtain ⟨b,rc⟩:=Bo n (by omega) x.Name;obtain ⟨e,fd,he⟩:=Cs node d j (by omega);rw [Ji,fd,pc];by_cases c:e=0
   ·subst c;obtain ⟨Id,gb⟩:=he rfl;rw [if_neg (by simp)];have id:(41 - d).toNat=(40 - d).toNat+1:=by omega
    have K:(41 - (d+1)).toNat=(40 - d).toNat:=by omega
    rw [id];generalize w:(fun o:Option (Int×Int)=>∃ e k,o=some (e,k)∧node≤k∧(e=0→k≤2000∧bm ((40 - d).toNat+1) x∧k=node+(Ok ((40 - d).toNat+1) x:Nat)))=P;have bad:∀ e c:Int,e≠0→node≤c→P (some (e,c)):=fun e c h M=>by rw [← w];exact ⟨e,_,rfl,M,fun md=>absurd md h⟩
    have kids:=fun (l:List Eb) (c:Int) (M:node≤c) (rd:c≤2000)=>S l (d+1) c (by omega) (by omega) (by omega) (by omega) rd;rw [K] at kids;have G:P (if x.Kind<1 then Sk n (Uf n) x d (0,node+1) true else Sk n (Uf n) x d (0,node+1) (decide ((9:Int)<x.Kind))):=by
     by_cases Sf:1≤x.Kind∧x.Kind≤9
     ·have N:∀ (c:Int),node≤c→c≤2000→x.Kind≠6→jn (40 - d).toNat x.X→((x.Kind=3∨x.Kind=4)→x.Body.length≤50∧∀ y ∈ x.Body,bm (40 - d).toNat y) →
        c=node+1+(nn (40 - d).toNat x.X:Nat)+((if x.Kind=3∨x.Kind=4 then (x.Body.map (Ok (40 - d).toNat)).sum else 0:Nat):Int)→P (nm (Uf n) x d c):=by
       intro c g1 g2 a A r gc;rw [nm];by_cases B:x.Kind=3
       ·obtain ⟨e,k,g,u,f⟩:=kids x.me c g1 g2;rw [if_pos B,Xh (by omega),pc,g,pc];rw [← w];refine ⟨e,k,rfl,by omega,fun v=>?_⟩;obtain ⟨s1,s2,p⟩:=f v;refine ⟨s1,⟨Sf.1,Sf.2,fun _=>A,r,fun _=>s2⟩,?_⟩;rw [Ok,if_neg a,if_pos B];omega
       ·rw [if_neg B,← w];refine ⟨0,c,rfl,g1,fun _=>⟨g2,⟨Sf.1,Sf.2,fun _=>A,r,fun h=>absurd h B⟩,?_⟩⟩;rw [Ok,if_neg a,if_neg B];omega
      have Q:∀ (c:Int) b,node≤c→c≤2000→x.Kind≠6→jn (40 - d).toNat x.X→(b=true ↔ x.Kind=3∨x.Kind=4)→c=node+1+(nn (40 - d).toNat x.X:Nat)→P (om (Uf n) x d (0,c) b):=by
       intro c b g1 g2 a A r gc;rw [om];by_cases q:b=true
       ·obtain ⟨e,k,g,u,f⟩:=kids x.Body c g1 g2;rw [if_pos q,Xh (by omega),pc,g,pc];by_cases z:e=0
        ·subst z;obtain ⟨s1,s2,p⟩:=f rfl;rw [if_neg (by simp)];exact N k (by omega) s1 a A (fun _=>s2) (by rw [if_pos (r.1 q)];omega)
        ·rw [if_pos z];exact bad e k z (by omega)
       ·rw [if_neg q];exact N c g1 g2 a A (fun h=>absurd (r.2 h) q) (by rw [if_neg fun h=>q (r.2 h)];omega)
      have E:∀ b,P (Rk n (Uf n) x d (0,node+1) b):=by
       intro b;cases b with
       | true=>exact bad 7 _ (by decide) (by omega)
       | false =>
        rw [Rk,if_neg (by decide)];by_cases a:x.Kind=6
        ·rw [if_pos a,← w];refine ⟨0,node+1,rfl,by omega,fun _=>⟨by omega,⟨Sf.1,Sf.2,fun h=>absurd a h,fun h=>by omega,fun h=>by omega⟩,?_⟩⟩;rw [Ok,if_pos a,if_neg (by omega),if_neg (by omega)];omega
        ·obtain ⟨e,k,g,u,f⟩:=Jx n x.X (d+1) (node+1) (by omega) (by omega) (by omega) (by omega) (by omega);rw [K] at f;rw [if_neg a,Xh (by omega),pc,g,pc];by_cases z:e=0
         ·subst z;obtain ⟨s1,s2,p⟩:=f rfl;rw [if_neg (by simp)];split
          ·rename_i j;exact Q k true (by omega) s1 a s2 (by simp [j]) (by omega)
          ·rename_i j;exact Q k _ (by omega) s1 a s2 (by simp [j]) (by omega)
         ·rw [if_pos z];exact bad e k z (by omega)
      have wd:∀ b,P (Sk n (Uf n) x d (0,node+1) b):=by
       intro Fd;cases Fd with
       | true=>exact bad 1 _ (by decide) (by omega)
       | false =>
        rw [Sk,if_neg (by decide),rc];simp only [pc];split
        ·exact E _
        ·split
         ·exact E _
         ·split<;>exact E _
      split<;>exact wd _
     ·split
      ·exact bad 1 _ (by decide) (by omega)
      ·rw [decide_eq_true (show 9<x.Kind by omega)];exact bad 1 _ (by decide) (by omega)
    rw [← w] at G;exact G
   ·rw [if_pos c];exact ⟨e,_,rfl,by omega,fun h=>absurd h c⟩
def Lk (t:fe):Prop:=1≤t.Kind∧t.Kind≤3
theorem Ks (fu:Nat) (a:20≤fu) (t:fe):∃ e,Kl fu t=some e∧(e=0→Lk t):=by
 obtain ⟨b,d⟩:=Bo fu a t.Jc;rw [Kl];by_cases c:1≤t.Kind∧t.Kind≤3
 ·rw [if_neg (by omega),decide_eq_false (by omega),xn,if_neg (by decide),d];simp only [pc];have:∀ b,∃ e,Vp b=some e:=fun b=>by cases b<;>exact ⟨_,rfl⟩
  split
  ·obtain ⟨e,he⟩:=this (!b);exact ⟨e,he,fun _=>c⟩
  ·obtain ⟨e,he⟩:=this false;exact ⟨e,he,fun _=>c⟩
 ·split
  ·exact ⟨1,rfl,fun h=>absurd h (by decide)⟩
  ·rw [decide_eq_true (show 3<t.Kind by omega)];exact ⟨1,rfl,fun h=>absurd h (by decide)⟩
structure Zr (x:dc):Prop where
 k1:1≤x.Kind
 ho:x.Kind≤4
 Cg:x.Kind=2∨x.Kind=3→x.Params.length≤6∧∀ p ∈ x.Params,Lk p.Yc
 dD:x.Kind=3→Lk x.Qd
 ty:x.Kind≠4→Lk x.Yc
 QC:x.Kind≠1→x.Body.length≤50
 mu:x.Kind≠1→∀ y ∈ x.Body,bm 39 y
def Kp (x:dc):Nat:=1+if x.Kind≠1 then (x.Body.map (Ok 39)).sum else 0
theorem ky (fu:Nat) (R:200≤fu) (x:dc) (node:Int) (w:0≤node) (S:node≤2000):∃ e k,Ln fu node x=some (e,k)∧node≤k∧(e=0→k≤2000∧Zr x∧k=node+(Kp x:Nat)):=by
 obtain ⟨b,y⟩:=Bo fu (by omega) x.Name;obtain ⟨e,A,he⟩:=Cs node 1 w (by omega);rw [Ln,A,pc];by_cases c:e=0
 ·subst c;obtain ⟨T,gb⟩:=he rfl;rw [if_neg (by simp)];generalize j:(fun o:Option (Int×Int)=>∃ e k,o=some (e,k)∧node≤k∧(e=0→k≤2000∧Zr x∧k=node+(Kp x:Nat)))=P;have bad:∀ e c:Int,e≠0→node≤c→P (some (e,c)):=fun e c h B=>by rw [← j];exact ⟨e,_,rfl,B,fun C=>absurd C h⟩
  have G:P (if x.Kind<1 then Uk fu x (0,node+1) true else Uk fu x (0,node+1) (decide ((4:Int)<x.Kind))):=by
   by_cases Sf:1≤x.Kind∧x.Kind≤4
   ·have s:(x.Kind=2∨x.Kind=3→x.Params.length≤6∧∀ p ∈ x.Params,Lk p.Yc)→(x.Kind=3→Lk x.Qd)→(x.Kind≠4→Lk x.Yc)→P (vm fu x (0,node+1)):=by
     intro g1 g2 g3;rw [vm];by_cases k1:x.Kind=1
     ·rw [if_neg (by simpa using k1)];have D:∀ b,P (Fo (0,node+1) b):=by
       intro b;cases b with
       | true=>exact bad 3 _ (by decide) (by omega)
       | false =>
        rw [← j];exact ⟨0,node+1,rfl,by omega,fun _=>⟨by omega,⟨Sf.1,Sf.2,g1,g2,g3,fun h=>absurd k1 h,fun h=>absurd k1 h⟩,by rw [Kp,if_neg (by simpa using k1)];omega⟩⟩
      split<;>exact D _
     ·obtain ⟨e,k,E,V,F⟩:=(Kx fu).1 x.Body 2 (node+1) (by omega) (by omega) (by omega) (by omega) (by omega);rw [if_pos k1,E,pc,← j];refine ⟨e,k,rfl,by omega,fun H=>?_⟩;obtain ⟨s1,s2,K⟩:=F H;exact ⟨s1,⟨Sf.1,Sf.2,g1,g2,g3,fun _=>s2.1,fun _=>s2.2⟩,by rw [Kp,if_pos k1];rw [show (41 - (2:Int)).toNat=39 from rfl] at K;omega⟩
    have t:(x.Kind=2∨x.Kind=3→x.Params.length≤6∧∀ p ∈ x.Params,Lk p.Yc)→(x.Kind=3→Lk x.Qd)→P (wm fu x (0,node+1)):=by
     intro g1 g2;rw [wm];by_cases ho:x.Kind=4
     ·rw [if_neg (by simpa using ho)];exact s g1 g2 fun h=>absurd ho h
     ·obtain ⟨e,d,a⟩:=Ks fu (by omega) x.Yc;rw [if_pos ho,d,pc];by_cases z:e=0
      ·rw [if_neg (by simpa using z)];exact s g1 g2 fun _=>a z
      ·rw [if_pos z];exact bad e _ z (by omega)
    have u:(x.Kind=2∨x.Kind=3→x.Params.length≤6∧∀ p ∈ x.Params,Lk p.Yc)→P (xm fu x (0,node+1)):=by
     intro g1;rw [xm];by_cases n:x.Kind=3
     ·obtain ⟨e,d,a⟩:=Ks fu (by omega) x.Qd;rw [if_pos n,d,pc];by_cases z:e=0
      ·rw [if_neg (by simpa using z)];exact t g1 fun _=>a z
      ·rw [if_pos z];exact bad e _ z (by omega)
     ·rw [if_neg n];exact t g1 fun h=>absurd h n
    have L:x.Params.length≤6→∀ (m i:Nat),i≤x.Params.length→x.Params.length<m+i→(∀ p ∈ x.Params.take i,Lk p.Yc)→P (ym fu x (0,node+1) m i):=by
     intro l m
     induction m with
     | zero=>intro i d a; omega
     | succ m M =>
      intro i g1 g2 g3;rw [ym];by_cases q:i<x.Params.length
      ·obtain ⟨r,N⟩:=Bo fu (by omega) x.Params[i].Name;obtain ⟨e,d,a⟩:=Ks fu (by omega) x.Params[i].Yc;rw [if_pos (by omega),lj,List.getElem?_eq_getElem q,pc,N,pc];cases r with
       | false=>rw [if_neg (by decide)]; exact bad 7 _ (by decide) (by omega)
       | true =>
        rw [if_pos rfl,d,pc];by_cases z:e=0
        ·rw [if_neg (by simpa using z),Xh (by omega),pc];refine M (i+1) q (by omega) fun p f=>?_;rw [List.take_succ_eq_append_getElem q] at f;rcases List.mem_append.1 f with f | f
         ·exact g3 p f
         ·rw [List.mem_singleton.1 f];exact a z
        ·rw [if_pos z];exact bad e _ z (by omega)
      ·rw [if_neg (by omega)];rw [List.take_of_length_le (by omega)] at g3;exact u fun _=>⟨l,g3⟩
    have v:∀ b,(b=true ↔ x.Kind=2∨x.Kind=3)→P (zm fu x (0,node+1) b):=by
     intro b g;rw [zm];by_cases q:b=true
     ·rw [if_pos q];by_cases l:(6:Int)<x.Params.length
      ·rw [if_pos l];exact bad 5 _ (by decide) (by omega)
      ·rw [if_neg l];exact L (by omega) (x.Params.length+1) 0 (by omega) (by omega) (by simp)
     ·rw [if_neg q];exact u fun h=>absurd (g.2 h) q
    have Q:∀ b,P (Uk fu x (0,node+1) b):=by
     intro r;cases r with
     | true=>exact bad 1 _ (by decide) (by omega)
     | false =>
      rw [Uk,if_neg (by decide),y,pc];cases b with
      | false=>rw [if_neg (by decide)]; exact bad 7 _ (by decide) (by omega)
      | true =>
       rw [if_pos rfl];split
       ·rename_i a;exact v _ (by simp [a])
       ·rename_i a;exact v _ (by simp [a])
    split<;>exact Q _
   ·split
    ·exact bad 1 _ (by decide) (by omega)
    ·rw [decide_eq_true (show 4<x.Kind by omega)];exact bad 1 _ (by decide) (by omega)
  rw [← j] at G;exact G
 ·rw [if_pos c];exact ⟨e,_,rfl,by omega,fun h=>absurd h c⟩
structure ku (l:List dc):Prop where
 le:l.length≤30
 ok:∀ d ∈ l,Zr d
 n:(l.map Kp).sum≤2000
theorem qs (fu:Nat) (g:200≤fu) (l:List dc):∃ f,Gl fu l=some f∧(f.oe=0→f.Td=0∧ku l):=by
 rw [Gl];by_cases b:(30:Int)<l.length
 ·rw [if_pos b];exact ⟨_,rfl,fun h=>absurd h (by decide:(5:Int)≠0)⟩
 ·rw [if_neg b];have L:∀ (m i:Nat) (c:Int),i≤l.length→l.length<m+i→0≤c→c≤2000→(∀ d ∈ l.take i,Zr d)→c=(((l.take i).map Kp).sum:Nat)→∃ f,gm fu l m i c=some f∧(f.oe=0→f.Td=0∧ku l):=by
   intro m
   induction m with
   | zero=>intro i c o r; omega
   | succ m j =>
    intro i c g1 g2 g3 g4 g5 g6;rw [gm];by_cases q:i<l.length
    ·obtain ⟨e,k,la,e2,n⟩:=ky fu g l[i] c g3 g4;rw [if_pos (by omega),lj,List.getElem?_eq_getElem q,pc,la,pc];by_cases z:e=0
     ·subst z;obtain ⟨f1,f2,f3⟩:=n rfl;rw [if_neg (by simp),Xh (by omega),pc];refine j (i+1) k q (by omega) (by omega) f1 (fun p a=>?_) ?_
      ·rw [List.take_succ_eq_append_getElem q] at a;rcases List.mem_append.1 a with a | a
       ·exact g5 p a
       ·rw [List.mem_singleton.1 a];exact f2
      ·rw [List.take_succ_eq_append_getElem q,List.map_append,List.sum_append,List.map_cons,List.map_nil,List.sum_cons,List.sum_nil];omega
     ·rw [if_pos z];exact ⟨_,rfl,fun h=>absurd h z⟩
    ·rw [if_neg (by omega)];rw [List.take_of_length_le (by omega)] at g5 g6;exact ⟨_,rfl,fun _=>⟨rfl,by omega,g5,by omega⟩⟩
  exact L (l.length+1) 0 0 (by omega) (by omega) (by omega) (by omega) (by simp) (by simp)
end Go.Y
namespace Go.Y
open Go.cc Go.Kc
def key (t:ya):Int×List UInt8×Int:=(t.Kind,t.Text,t.hn)
def pd (a b:sb):Prop:=a.map key=b.map key
abbrev Zc (α:Type):=Option (Except xb (α×sb×Int×Int))
abbrev kn:=Option (Except xb (sb×Int×Int))
section
variable {fu:Nat}{m:sb}{e e2 d d2:Int}{α β:Type}
def eb (m:sb) (e e2 d:Int) (N:Nat) (A B:Zc α):Prop :=
 ∀ x l la d1,A=some (.ok (x,l,la,d1))→(la=e∧d1=d)∧l.length≤N∧(l≠[]→∃ l3,B=some (.ok (x,l3,e2,d))∧pd l3 (l++m))
def bs (m:sb) (e e2 d:Int) (N:Nat) (A B:kn):Prop :=
 ∀ l la d1,A=some (.ok (l,la,d1))→(la=e∧d1=d)∧l.length≤N∧(l≠[]→∃ l3,B=some (.ok (l3,e2,d))∧pd l3 (l++m))
theorem pd.cons {t:ya}{l l3:sb}(h:pd l3 (t::l++m)):∃ a b,l3=a::b∧key a=key t∧pd b (l++m):=by
 cases l3 with
 | nil=>cases h
 | cons a b =>
  unfold pd at h;simp only [List.cons_append,List.map_cons,List.cons.injEq] at h;exact ⟨a,b,rfl,h.1,h.2⟩
theorem Vs {t a:ya}(h:key a=key t):a.Kind=t.Kind:=congrArg (·.1) h
theorem Qm {t a:ya}(h:key a=key t):a.Text=t.Text:=congrArg (·.2.1) h
theorem Nz {t a:ya}(h:key a=key t):a.hn=t.hn:=congrArg (·.2.2) h
theorem eb.mono {N f:Nat}{A B:Zc α}(h:eb m e e2 d N A B) (i:N≤f):eb m e e2 d f A B:=fun x l la d g=>by
 obtain ⟨a,b,c⟩:=h x l la d g;exact ⟨a,by omega,c⟩
theorem eb.nil {A B B':Zc α}(h:eb m e e2 d 0 A B):eb m e e2 d 0 A B':=fun x l la d g=>by
 obtain ⟨a,b,-⟩:=h x l la d g;exact ⟨a,b,fun c=>absurd (List.length_eq_zero_iff.1 (by omega)) c⟩
theorem eb.bind {N:Nat}{A B:Zc α}{f i:α×sb×Int×Int→Zc β}(h:eb m e e2 d N A B) (k:∀ x l l3,l.length≤N→pd l3 (l++m)→eb m e e2 d2 l.length (f (x,l,e,d)) (i (x,l3,e2,d))):eb m e e2 d2 N (oc A f) (oc B i):=by
 intro y b la d1 g;rcases Cc g with ⟨_,_,q⟩ | ⟨⟨x,l,Ga,d0⟩,n,g⟩
 ·cases q
 obtain ⟨⟨rfl,rfl⟩,o,p⟩:=h x l Ga d0 n;by_cases a:l=[]
 ·subst a;obtain ⟨c,j,-⟩:=k x [] m (by omega) rfl y b la d1 g;have:b=[]:=List.length_eq_zero_iff.1 (by simpa using j);exact ⟨c,by simp [this],fun a=>absurd this a⟩
 ·obtain ⟨l3,rfl,r⟩:=p a;obtain ⟨c,j,s⟩:=k x l l3 o r y b la d1 g;exact ⟨c,by omega,s⟩
theorem eb.od {N:Nat}{A B:kn}{f i:sb×Int×Int→Zc β}(h:bs m e e2 d N A B) (k:∀ l l3,l.length≤N→pd l3 (l++m)→eb m e e2 d2 l.length (f (l,e,d)) (i (l3,e2,d))):eb m e e2 d2 N (oc A f) (oc B i):=by
 intro y b la d1 g;rcases Cc g with ⟨_,_,q⟩ | ⟨⟨l,Ga,d0⟩,n,g⟩
 ·cases q
 obtain ⟨⟨rfl,rfl⟩,o,p⟩:=h l Ga d0 n;by_cases a:l=[]
 ·subst a;obtain ⟨c,j,-⟩:=k [] m (by omega) rfl y b la d1 g;have:b=[]:=List.length_eq_zero_iff.1 (by simpa using j);exact ⟨c,by simp [this],fun a=>absurd this a⟩
 ·obtain ⟨l3,rfl,r⟩:=p a;obtain ⟨c,j,s⟩:=k l l3 o r y b la d1 g;exact ⟨c,by omega,s⟩
theorem eb.pure {x:α}{l l3:sb}(a:pd l3 (l++m)):eb m e e2 d l.length (some (.ok (x,l,e,d))) (some (.ok (x,l3,e2,d))):=by
 intro y b la d1 g;have:=Except.ok.inj (Option.some.inj g);cases this;exact ⟨⟨rfl,rfl⟩,Nat.le_refl _,fun _=>⟨l3,rfl,a⟩⟩
theorem eb.err {N:Nat}{q:xb}{B:Zc α}:eb m e e2 d N (some (.error q)) B:=fun _ _ _ _ g=>by cases g
theorem eb.none {N:Nat}{B:Zc α}:eb m e e2 d N Option.none B:=fun _ _ _ _ g=>by cases g
theorem eb.Wb {N:Nat}{o:Option α}{f a:α→Zc β}(h:∀ y,eb m e e2 d N (f y) (a y)):eb m e e2 d N (o.bind f) (o.bind a):=by
 cases o with
 | none=>exact eb.none
 | some y=>exact h y
theorem eb.at {N:Nat}{l l3:sb}{k:Int}{B:Zc α}:eb m e e2 d N ((mh l e d).bind fun r=>some (.error (xb.mk k r))) B:=by
 rw [sg];exact eb.err
theorem eb.is {l l3:sb}{k:List UInt8}{f b:Bool×sb×Int×Int→Zc α}(c:pd l3 (l++m))
  (j:∀ a l3,a.length+1=l.length→pd l3 (a++m)→eb m e e2 d2 a.length (f (true,a,e,d)) (b (true,l3,e2,d))) (h:∀ l3,pd l3 (l++m)→eb m e e2 d2 l.length (f (false,l,e,d)) (b (false,l3,e2,d))):eb m e e2 d2 l.length ((Md l e d k).bind f) ((Md l3 e2 d k).bind b):=by
 rw [ml,ml,Option.bind_some,Option.bind_some];cases l with
 | nil =>
  rw [if_neg (by simp [gb])];exact (h m rfl).nil
 | cons t l =>
  obtain ⟨n,i,rfl,o,p⟩:=c.cons;have la:gb (n::i) k=gb (t::l) k:=by simp only [gb,Qm o]
  rw [la];by_cases g:gb (t::l) k=true
  ·rw [if_pos g,if_pos g];exact (j l i rfl p).mono (by simp)
  ·rw [if_neg g,if_neg g];exact h _ c
theorem eb.IC {l l3:sb}{k:List UInt8}{f a:Bool→Zc α}(c:pd l3 (l++m)) (h:∀ b,eb m e e2 d2 l.length (f b) (a b)):eb m e e2 d2 l.length ((Ni l e d k).bind f) ((Ni l3 e2 d k).bind a):=by
 rw [iq,iq,Option.bind_some,Option.bind_some];cases l with
 | nil=>exact (h false).nil
 | cons t l =>
  obtain ⟨g,i,rfl,j,n⟩:=c.cons;have la:gb (g::i) k=gb (t::l) k:=by simp only [gb,Qm j]
  rw [la];exact h _
theorem eb.Nc {l l3:sb}{k:List UInt8}(b:pd l3 (l++m)):bs m e e2 d l.length (tf l e d [k]) (tf l3 e2 d [k]):=by
 rw [cp,cp];intro i la d1 g;cases l with
 | nil=>simp [gb] at g
 | cons t l =>
  obtain ⟨c,a,rfl,f,h⟩:=b.cons;have la:gb (c::a) k=gb (t::l) k:=by simp only [gb,Qm f]
  rw [la];by_cases g1:gb (t::l) k=true
  ·rw [if_pos g1] at g ⊢;have:=Except.ok.inj (Option.some.inj g);cases this;exact ⟨⟨rfl,rfl⟩,by simp,fun _=>⟨a,rfl,h⟩⟩
  ·rw [if_neg g1] at g;cases g
theorem eb.name {l l3:sb}(c:pd l3 (l++m)):eb m e e2 d l.length (og fu l e d) (og fu l3 e2 d):=by
 rw [Us,Us];cases l with
 | nil=>exact eb.err
 | cons t l =>
  obtain ⟨g,h,rfl,a,f⟩:=c.cons;simp only [Vs a,Qm a];by_cases g1:t.Kind=1
  ·rw [if_pos g1,if_pos g1];cases Yg fu t.Text with
   | none=>exact eb.none
   | some b =>
    rw [Option.bind_some,Option.bind_some];cases b with
    | true=>exact (eb.pure f).mono (by simp)
    | false=>exact eb.err
  ·rw [if_neg g1,if_neg g1];exact eb.err
theorem eb.number {l l3:sb}(b:pd l3 (l++m)):eb m e e2 d l.length (Fj l e d) (Fj l3 e2 d):=by
 rw [hr,hr];cases l with
 | nil=>exact eb.err
 | cons t l =>
  obtain ⟨f,g,rfl,a,c⟩:=b.cons;simp only [Vs a,Nz a];by_cases g1:t.Kind=2
  ·rw [if_pos g1,if_pos g1];exact (eb.pure c).mono (by simp)
  ·rw [if_neg g1,if_neg g1];exact eb.err
theorem oq {a b:Int}(h:i64 a=some b):b=a:=by
 unfold i64 at h;split at h
 ·exact (Option.some.inj h).symm
 ·cases h
theorem eb.oh {l l3:sb}(b:pd l3 (l++m)):bs m e e2 (d+1) l.length (Th l e d) (Th l3 e2 d):=by
 intro c la d1 g;unfold Th at g ⊢;obtain ⟨i,a,g⟩:=La g;rw [a,Option.bind_some];obtain rfl:=oq a;by_cases h:200<d+1
 ·rw [if_pos h] at g;obtain ⟨_,_,g⟩:=La g;cases g
 ·rw [if_neg h] at g ⊢;have:=Except.ok.inj (Option.some.inj g);cases this;exact ⟨⟨rfl,rfl⟩,Nat.le_refl _,fun _=>⟨l3,rfl,b⟩⟩
theorem eb.out {N:Nat}{l l3:sb}{f a:sb×Int×Int→Zc α}(h:eb m e e2 d2 N (f (l,e,d)) (a (l3,e2,d))):eb m e e2 d2 N ((Lh l e (d+1)).bind f) ((Lh l3 e2 (d+1)).bind a):=by
 unfold Lh;cases b:i64 (d+1 - 1) with
 | none=>exact eb.none
 | some i =>
  obtain rfl:=oq b;rw [Int.add_sub_cancel];exact h
theorem eb.Bg {l l3:sb}(a:pd l3 (l++m)):eb m e e2 d l.length (Yh fu l e d) (Yh fu l3 e2 d):=by
 unfold Yh;refine eb.is a (fun b l3 _ a=>?_) fun l3 a=>?_
 ·exact eb.pure a
 refine eb.is a (fun b l3 _ a=>?_) fun l3 a=>?_
 ·exact eb.pure a
 exact eb.bind (eb.name a) fun x l l3 _ a=>eb.pure a
theorem eb.Qy:∀ (n:Nat) (l l3:sb) (acc:List TParam),pd l3 (l++m)→eb m e e2 d l.length (Xg fu n l e d acc) (Xg fu n l3 e2 d acc):=by
 intro n
 induction n with
 | zero=>intros; exact eb.none
 | succ n b =>
  intro l l3 acc a;unfold Xg;refine eb.is a (fun c l3 _ a=>?_) fun l3 a=>?_
  ·exact eb.pure a
  have key:∀ l l3,pd l3 (l++m)→eb m e e2 d l.length (Zi fu acc (Xg fu n) l e d) (Zi fu acc (Xg fu n) l3 e2 d):=by
   intro l l3 a;unfold Zi;by_cases h:(acc.length:Int)=6
   ·rw [if_pos h,if_pos h];exact eb.at (l3:=l3)
   ·rw [if_neg h,if_neg h];refine eb.bind (eb.name a) fun x l l3 _ a=>?_;refine eb.bind (eb.Bg a) fun y l l3 _ a=>?_;exact eb.Wb fun z=>b l l3 z a
  show eb m e e2 d l.length (if (0:Int)<(acc.length:Int) then _ else _) (if (0:Int)<(acc.length:Int) then _ else _);by_cases h:(0:Int)<(acc.length:Int)
  ·rw [if_pos h,if_pos h];exact eb.od (eb.Nc a) fun l l3 _ a=>key l l3 a
  ·rw [if_neg h,if_neg h];exact key l l3 a
theorem eb.params {l l3:sb}(a:pd l3 (l++m)):eb m e e2 d l.length (fj fu l e d) (fj fu l3 e2 d):=by
 unfold fj;exact eb.od (eb.Nc a) fun l l3 _ a=>eb.Qy fu l l3 [] a
end
end Go.Y
namespace Go.Y
open Go.cc Go.Kc
section
variable {m:sb}{e e2 d d2:Int}{α β:Type}
structure LE (m:sb) (e e2:Int) (P:hg):Prop where
 expr:∀ l l3 d,pd l3 (l++m)→eb m e e2 d l.length (P.Ed l e d) (P.Ed l3 e2 d)
 level:∀ l l3 d n,pd l3 (l++m)→eb m e e2 d l.length (P.pf l e d n) (P.pf l3 e2 d n)
 unary:∀ l l3 d,pd l3 (l++m)→eb m e e2 d l.length (P.Pe l e d) (P.Pe l3 e2 d)
 Nn:∀ l l3 d,pd l3 (l++m)→eb m e e2 d l.length (P.eg l e d) (P.eg l3 e2 d)
 args:∀ l l3 d,pd l3 (l++m)→eb m e e2 d l.length (P.Xf l e d) (P.Xf l3 e2 d)
 fixed:∀ l l3 d k n,pd l3 (l++m)→eb m e e2 d l.length (P.qf l e d k n) (P.qf l3 e2 d k n)
variable {P:hg}
theorem LE.YB (b:LE m e e2 P) (l l3:sb) (d:Int) (a:pd l3 (l++m)):eb m e e2 d l.length (Ed P l e d) (Ed P l3 e2 d):=by
 unfold Ed;refine eb.od (eb.oh a) fun l l3 _ a=>?_;refine eb.bind (b.level _ _ _ _ a) fun x l l3 _ a=>?_;exact eb.out (eb.pure a)
theorem LE.Oz (q:LE m e e2 P) (n:Int) (o:List mf):∀ (k:Nat) (l l3:sb) (d:Int) (a b:Int) (c:List UInt8) (f:List ab),pd l3 (l++m)→eb m e e2 d l.length (Hi P n o k l e d a b c f) (Hi P n o k l3 e2 d a b c f):=by
 intro k
 induction k with
 | zero=>intros; exact eb.none
 | succ k r =>
  intro l l3 d a b c f j;unfold Hi;cases l with
  | nil =>
   rw [if_neg (by simp)];have:eb m e e2 d ([]:sb).length (th ([]:sb) e d a b c f) (th m e2 d a b c f):=by
    unfold th;exact eb.pure rfl
   exact this.nil
  | cons t l =>
   obtain ⟨u,v,rfl,p,s⟩:=j.cons;rw [if_pos (by simp),if_pos (by simp),Qf,Qf];refine eb.Wb fun x=>?_;rw [Option.bind_some,Option.bind_some,Qm p];by_cases h:((Ef x.Ag t.Text).getD 0)=0
   ·rw [if_pos h,if_pos h];unfold th;exact eb.pure j
   ·rw [if_neg h,if_neg h,Vj,Vj,Option.bind_some,Option.bind_some];refine eb.mono (N:=l.length) (eb.Wb fun i=>?_) (by simp);refine eb.bind (q.level _ _ _ _ s) fun y l l3 _ j=>?_;unfold yn;refine eb.Wb fun z=>?_;rw [Qm p];by_cases g:z.once=true
    ·rw [if_pos g,if_pos g];unfold th;exact eb.pure j
    ·rw [if_neg g,if_neg g];exact r _ _ _ _ _ _ _ j
theorem LE.XA (fu:Nat) (b:LE m e e2 P) (l l3:sb) (d n:Int) (a:pd l3 (l++m)):eb m e e2 d l.length (pf fu P l e d n) (pf fu P l3 e2 d n):=by
 unfold pf;refine eb.Wb fun c=>?_;by_cases h:n=(c.length:Int)
 ·rw [if_pos h,if_pos h];exact eb.bind (b.unary _ _ _ a) fun x l l3 _ a=>eb.pure a
 ·rw [if_neg h,if_neg h];refine eb.Wb fun i=>?_;exact eb.bind (b.level _ _ _ _ a) fun x l l3 _ a=>b.Oz n c fu _ _ _ _ _ _ _ a
theorem LE.YA (b:LE m e e2 P) (l l3:sb) (d:Int) (a:pd l3 (l++m)):eb m e e2 d l.length (Pe P l e d) (Pe P l3 e2 d):=by
 unfold Pe;refine eb.is a (fun c l3 _ a=>?_) fun l3 a=>?_
 ·refine eb.od (eb.oh a) fun l l3 _ a=>?_;refine eb.bind (b.unary _ _ _ a) fun x l l3 _ a=>?_;exact eb.out (eb.pure a)
 refine eb.is a (fun c l3 _ a=>?_) fun l3 a=>?_
 ·refine eb.od (eb.oh a) fun l l3 _ a=>?_;refine eb.bind (b.unary _ _ _ a) fun x l l3 _ a=>?_;exact eb.out (eb.pure a)
 exact eb.bind (b.Nn _ _ _ a) fun x l l3 _ a=>eb.pure a
theorem LE.Uu (fu:Nat) (f:LE m e e2 P) (l l3:sb) (d:Int) (b:Bool) (a:pd l3 (l++m)):eb m e e2 d l.length (Yi fu P l e d b) (Yi fu P l3 e2 d b):=by
 unfold Yi;by_cases h:b=true
 ·rw [if_pos h,if_pos h];exact eb.bind (eb.number a) fun x l l3 _ a=>eb.pure a
 rw [if_neg h,if_neg h];refine eb.is a (fun c l3 _ a=>eb.pure a) fun l3 a=>?_;refine eb.is a (fun c l3 _ a=>eb.pure a) fun l3 a=>?_;refine eb.is a (fun c l3 _ a=>?_) fun l3 a=>?_
 ·refine eb.bind (f.expr _ _ _ a) fun x l l3 _ a=>?_;exact eb.od (eb.Nc a) fun l l3 _ a=>eb.pure a
 refine eb.is a (fun c l3 _ a=>?_) fun l3 a=>?_
 ·refine eb.od (eb.Nc a) fun l l3 _ a=>?_;refine eb.bind (eb.name a) fun x l l3 _ a=>?_;exact eb.od (eb.Nc a) fun l l3 _ a=>eb.pure a
 refine eb.is a (fun c l3 _ a=>eb.bind (f.fixed _ _ _ _ _ a) fun x l l3 _ a=>eb.pure a) fun l3 a=>?_;refine eb.is a (fun c l3 _ a=>eb.bind (f.fixed _ _ _ _ _ a) fun x l l3 _ a=>eb.pure a) fun l3 a=>?_;refine eb.is a (fun c l3 _ a=>eb.bind (f.fixed _ _ _ _ _ a) fun x l l3 _ a=>eb.pure a) fun l3 a=>?_;refine eb.is a (fun c l3 _ a=>?_) fun l3 a=>?_
 ·refine eb.bind (eb.name a) fun x l l3 _ a=>?_;exact eb.bind (f.args _ _ _ a) fun y l l3 _ a=>eb.pure a
 refine eb.bind (eb.name a) fun x l l3 _ a=>?_;refine eb.IC a fun b=>?_;by_cases g:b=true
 ·rw [if_pos g,if_pos g];exact eb.bind (f.args _ _ _ a) fun y l l3 _ a=>eb.pure a
 ·rw [if_neg g,if_neg g];exact eb.pure a
theorem LE.Ry (fu:Nat) (a:LE m e e2 P) (l l3:sb) (d:Int) (b:pd l3 (l++m)):eb m e e2 d l.length (eg fu P l e d) (eg fu P l3 e2 d):=by
 unfold eg;cases l with
 | nil =>
  rw [if_neg (by simp)];exact (a.Uu fu [] m d false rfl).nil
 | cons t l =>
  obtain ⟨f,g,rfl,c,h⟩:=b.cons;rw [if_pos (by simp),if_pos (by simp),Qf,Qf,Option.bind_some,Option.bind_some,Vs c];exact a.Uu fu _ _ _ _ b
theorem LE.ZA (b:LE m e e2 P):∀ (n:Nat) (l l3:sb) (d:Int) (acc:List ab),pd l3 (l++m)→eb m e e2 d l.length (ah P n l e d acc) (ah P n l3 e2 d acc):=by
 intro n
 induction n with
 | zero=>intros; exact eb.none
 | succ n c =>
  intro l l3 d acc a;unfold ah;refine eb.is a (fun f l3 _ a=>eb.pure a) fun l3 a=>?_;have key:∀ l l3,pd l3 (l++m)→eb m e e2 d l.length (ej P acc (ah P n) l e d) (ej P acc (ah P n) l3 e2 d):=by
   intro l l3 a;unfold ej;by_cases h:(acc.length:Int)=6
   ·rw [if_pos h,if_pos h];exact eb.at (l3:=l3)
   ·rw [if_neg h,if_neg h];refine eb.bind (b.expr _ _ _ a) fun x l l3 _ a=>?_;exact eb.Wb fun z=>c l l3 d z a
  show eb m e e2 d l.length (if (0:Int)<(acc.length:Int) then _ else _) (if (0:Int)<(acc.length:Int) then _ else _);by_cases h:(0:Int)<(acc.length:Int)
  ·rw [if_pos h,if_pos h];exact eb.od (eb.Nc a) fun l l3 _ a=>key l l3 a
  ·rw [if_neg h,if_neg h];exact key l l3 a
theorem LE.ZB (fu:Nat) (b:LE m e e2 P) (l l3:sb) (d:Int) (a:pd l3 (l++m)):eb m e e2 d l.length (Xf fu P l e d) (Xf fu P l3 e2 d):=by
 unfold Xf;exact eb.od (eb.Nc a) fun l l3 _ a=>b.ZA fu _ _ _ _ a
theorem LE.Pz (b:LE m e e2 P) (k c:Int):∀ (n:Nat) (i:Int) (l l3:sb) (d:Int) (acc:List ab),pd l3 (l++m)→eb m e e2 d l.length (Og P k c n i l e d acc) (Og P k c n i l3 e2 d acc):=by
 intro n
 induction n with
 | zero=>intros; exact eb.none
 | succ n f =>
  intro i l l3 d acc a;unfold Og;have key:∀ l l3,pd l3 (l++m)→eb m e e2 d l.length (bj P i acc (Og P k c n) l e d) (bj P i acc (Og P k c n) l3 e2 d):=by
   intro l l3 a;unfold bj;refine eb.bind (b.expr _ _ _ a) fun x l l3 _ a=>?_;refine eb.Wb fun z=>?_;unfold zn;exact eb.Wb fun j=>f _ _ _ _ _ a
  by_cases g:i<c
  ·rw [if_pos g,if_pos g];by_cases h:(0:Int)<i
   ·rw [if_pos h,if_pos h];exact eb.od (eb.Nc a) fun l l3 _ a=>key l l3 a
   ·rw [if_neg h,if_neg h];exact key l l3 a
  ·rw [if_neg g,if_neg g];exact eb.od (eb.Nc a) fun l l3 _ a=>eb.pure a
theorem LE.aB (b:LE m e e2 P) (l l3:sb) (d k n:Int) (a:pd l3 (l++m)):eb m e e2 d l.length (qf P l e d k n) (qf P l3 e2 d k n):=by
 unfold qf;exact eb.od (eb.Nc a) fun l l3 _ a=>b.Pz k n _ _ _ _ _ _ a
theorem bB:∀ n,LE m e e2 (cd n):=by
 intro n
 induction n with
 | zero=>exact ⟨fun _ _ _ _=>eb.none,fun _ _ _ _ _=>eb.none,fun _ _ _ _=>eb.none,fun _ _ _ _=>eb.none,fun _ _ _ _=>eb.none,fun _ _ _ _ _ _=>eb.none⟩
 | succ n a=>exact ⟨a.YB,a.XA n,a.YA,a.Ry n,a.ZB n,a.aB⟩
structure dm (m:sb) (e e2:Int) (P:yi):Prop where
 body:∀ l l3 d,pd l3 (l++m)→eb m e e2 d l.length (P.de l e d) (P.de l3 e2 d)
 stat:∀ l l3 d,pd l3 (l++m)→eb m e e2 d l.length (P.Yf l e d) (P.Yf l3 e2 d)
variable {S:yi}
theorem dm.Gt (b:dm m e e2 S):∀ (n:Nat) (l l3:sb) (d:Int) (acc:List Eb),pd l3 (l++m)→eb m e e2 d l.length (uh S n l e (d+1) acc) (uh S n l3 e2 (d+1) acc):=by
 intro n
 induction n with
 | zero=>intros; exact eb.none
 | succ n c =>
  intro l l3 d acc a;unfold uh;refine eb.is a (fun f l3 _ a=>eb.out (eb.pure a)) fun l3 a=>?_;show eb m e e2 d l.length (if (acc.length:Int)=50 then _ else _) (if (acc.length:Int)=50 then _ else _);by_cases h:(acc.length:Int)=50
  ·rw [if_pos h,if_pos h];exact eb.at (l3:=l3)
  ·rw [if_neg h,if_neg h];refine eb.bind (b.stat _ _ _ a) fun x l l3 _ a=>?_;exact eb.Wb fun z=>c l l3 d z a
theorem dm.aC (fu:Nat) (b:dm m e e2 S) (l l3:sb) (d:Int) (a:pd l3 (l++m)):eb m e e2 d l.length (de fu S l e d) (de fu S l3 e2 d):=by
 unfold de;refine eb.od (eb.oh a) fun l l3 _ a=>?_;exact eb.od (eb.Nc a) fun l l3 _ a=>b.Gt fu _ _ _ _ a
theorem eb.yg {l l3:sb}{a b c:Int}{s t:List UInt8}{g:List ab}(f:pd l3 (l++m)):eb m e e2 d l.length (bh l e d a s b c t g) (bh l3 e2 d a s b c t g):=by
 unfold bh;exact eb.od (eb.Nc f) fun l l3 _ f=>eb.pure f
theorem dm.bC (fu:Nat) (c:dm m e e2 S) (l l3:sb) (d:Int) (a:pd l3 (l++m)):eb m e e2 d l.length (Yf fu S l e d) (Yf fu S l3 e2 d):=by
 have E:=bB (m:=m) (e:=e) (e2:=e2) fu;unfold Yf;refine eb.is a (fun b l3 _ a=>?_) fun l3 a=>?_
 ·refine eb.bind (E.expr _ _ _ a) fun x l l3 _ a=>?_;refine eb.bind (c.body _ _ _ a) fun y l l3 _ a=>?_;refine eb.is a (fun b l3 _ a=>?_) fun l3 a=>?_
  ·exact eb.bind (c.body _ _ _ a) fun z l l3 _ a=>eb.pure a
  ·exact eb.pure a
 refine eb.is a (fun b l3 _ a=>?_) fun l3 a=>?_
 ·refine eb.bind (E.expr _ _ _ a) fun x l l3 _ a=>?_;exact eb.bind (c.body _ _ _ a) fun y l l3 _ a=>eb.pure a
 refine eb.is a (fun b l3 _ a=>?_) fun l3 a=>?_
 ·refine eb.bind (eb.name a) fun x l l3 _ a=>?_;refine eb.od (eb.Nc a) fun l l3 _ a=>?_;exact eb.bind (E.expr _ _ _ a) fun x l l3 _ a=>eb.yg a
 refine eb.is a (fun b l3 _ a=>eb.bind (E.expr _ _ _ a) fun x l l3 _ a=>eb.yg a) fun l3 a=>?_;refine eb.is a (fun b l3 _ a=>eb.yg a) fun l3 a=>?_;refine eb.is a (fun b l3 _ a=>?_) fun l3 a=>?_
 ·refine eb.bind (eb.name a) fun x l l3 _ a=>?_;exact eb.bind (E.expr _ _ _ a) fun x l l3 _ a=>eb.yg a
 refine eb.is a (fun b l3 _ a=>eb.bind (E.expr _ _ _ a) fun x l l3 _ a=>eb.yg a) fun l3 a=>?_;refine eb.is a (fun b l3 _ a=>eb.bind (E.expr _ _ _ a) fun x l l3 _ a=>eb.yg a) fun l3 a=>?_;refine eb.bind (eb.name a) fun x l l3 _ a=>?_;refine eb.od (eb.Nc a) fun l l3 _ a=>?_;exact eb.bind (E.expr _ _ _ a) fun x l l3 _ a=>eb.yg a
theorem cB:∀ n,dm m e e2 (Vf n):=by
 intro n
 induction n with
 | zero=>exact ⟨fun _ _ _ _=>eb.none,fun _ _ _ _=>eb.none⟩
 | succ n a=>exact ⟨a.aC n,a.bC n⟩
end
end Go.Y
namespace Go.Y
open Go.cc Go.Kc
section
variable {fu:Nat}{m:sb}{e e2 d d2:Int}{α β:Type}
def uc (m:sb) (e e2 d:Int) (N:Nat) (A B:Zc α):Prop :=
 ∀ x l la d1,A=some (.ok (x,l,la,d1))→(la=e∧d1=d)∧l.length<N∧∃ l3,B=some (.ok (x,l3,e2,d))∧pd l3 (l++m)
theorem uc.mono {N f:Nat}{A B:Zc α}(h:uc m e e2 d N A B) (i:N≤f):uc m e e2 d f A B:=fun x l la d1 g=>by
 obtain ⟨a,b,c⟩:=h x l la d1 g;exact ⟨a,by omega,c⟩
theorem uc.nil {A B B':Zc α}(h:uc m e e2 d 0 A B){N:Nat}:uc m e e2 d N A B':=fun x l la d1 g=>by
 obtain ⟨a,b,-⟩:=h x l la d1 g;omega
theorem uc.bind {N:Nat}{A B:Zc α}{f a:α×sb×Int×Int→Zc β}(h:eb m e e2 d N A B) (k:∀ x l l3,l.length≤N→pd l3 (l++m)→uc m e e2 d2 l.length (f (x,l,e,d)) (a (x,l3,e2,d))):uc m e e2 d2 N (oc A f) (oc B a):=by
 intro y b la d1 g;rcases Cc g with ⟨_,_,q⟩ | ⟨⟨x,l,Ga,d0⟩,n,g⟩
 ·cases q
 obtain ⟨⟨rfl,rfl⟩,o,p⟩:=h x l Ga d0 n;by_cases c:l=[]
 ·subst c;obtain ⟨i,j,-⟩:=k x [] m (by omega) rfl y b la d1 g;exact absurd j (by simp)
 ·obtain ⟨l3,rfl,r⟩:=p c;obtain ⟨i,j,s⟩:=k x l l3 o r y b la d1 g;exact ⟨i,by omega,s⟩
theorem uc.od {N:Nat}{A B:kn}{f a:sb×Int×Int→Zc β}(h:bs m e e2 d N A B) (k:∀ l l3,l.length≤N→pd l3 (l++m)→uc m e e2 d2 l.length (f (l,e,d)) (a (l3,e2,d))):uc m e e2 d2 N (oc A f) (oc B a):=by
 intro y b la d1 g;rcases Cc g with ⟨_,_,q⟩ | ⟨⟨l,Ga,d0⟩,n,g⟩
 ·cases q
 obtain ⟨⟨rfl,rfl⟩,o,p⟩:=h l Ga d0 n;by_cases c:l=[]
 ·subst c;obtain ⟨i,j,-⟩:=k [] m (by omega) rfl y b la d1 g;exact absurd j (by simp)
 ·obtain ⟨l3,rfl,r⟩:=p c;obtain ⟨i,j,s⟩:=k l l3 o r y b la d1 g;exact ⟨i,by omega,s⟩
theorem uc.Xt {N:Nat}{A B:Zc α}{f:α→β}(h:uc m e e2 d N A B):uc m e e2 d N (oc A fun r=>some (.ok (f r.1,r.2.1,r.2.2.1,r.2.2.2))) (oc B fun r=>some (.ok (f r.1,r.2.1,r.2.2.1,r.2.2.2))):=by
 intro y i la d1 g;rcases Cc g with ⟨_,_,q⟩ | ⟨⟨x,l,Ga,d0⟩,a,g⟩
 ·cases q
 obtain ⟨⟨rfl,rfl⟩,b,l3,rfl,c⟩:=h x l Ga d0 a;have:=Except.ok.inj (Option.some.inj g);cases this;exact ⟨⟨rfl,rfl⟩,b,l3,rfl,c⟩
theorem uc.pure {x:α}{l l3:sb}(a:pd l3 (l++m)):uc m e e2 d (l.length+1) (some (.ok (x,l,e,d))) (some (.ok (x,l3,e2,d))):=by
 intro y b la d1 g;have:=Except.ok.inj (Option.some.inj g);cases this;exact ⟨⟨rfl,rfl⟩,by omega,l3,rfl,a⟩
theorem uc.err {N:Nat}{q:xb}{B:Zc α}:uc m e e2 d N (some (.error q)) B:=fun _ _ _ _ g=>by cases g
theorem uc.none {N:Nat}{B:Zc α}:uc m e e2 d N Option.none B:=fun _ _ _ _ g=>by cases g
theorem uc.Wb {N:Nat}{o:Option α}{f a:α→Zc β}(h:∀ y,uc m e e2 d N (f y) (a y)):uc m e e2 d N (o.bind f) (o.bind a):=by
 cases o with
 | none=>exact uc.none
 | some y=>exact h y
theorem uc.at {N:Nat}{l:sb}{d1 k:Int}{B:Zc α}:uc m e e2 d N ((mh l e d1).bind fun r=>some (.error (xb.mk k r))) B:=by
 rw [sg];exact uc.err
theorem uc.is {l l3:sb}{k:List UInt8}{f b:Bool×sb×Int×Int→Zc α}(c:pd l3 (l++m))
  (j:∀ a l3,a.length+1=l.length→pd l3 (a++m)→uc m e e2 d2 (a.length+1) (f (true,a,e,d)) (b (true,l3,e2,d))) (h:∀ l3,pd l3 (l++m)→uc m e e2 d2 l.length (f (false,l,e,d)) (b (false,l3,e2,d))):uc m e e2 d2 l.length ((Md l e d k).bind f) ((Md l3 e2 d k).bind b):=by
 rw [ml,ml,Option.bind_some,Option.bind_some];cases l with
 | nil =>
  rw [if_neg (by simp [gb])];exact (h m rfl).nil
 | cons t l =>
  obtain ⟨n,i,rfl,o,p⟩:=c.cons;have la:gb (n::i) k=gb (t::l) k:=by simp only [gb,Qm o]
  rw [la];by_cases g:gb (t::l) k=true
  ·rw [if_pos g,if_pos g];exact j l i rfl p
  ·rw [if_neg g,if_neg g];exact h _ c
theorem uc.Nc {l l3:sb}{k:List UInt8}{x:α}(a:pd l3 (l++m)):uc m e e2 d l.length (oc (tf l e d [k]) fun r=>some (.ok (x,r.1,r.2.1,r.2.2))) (oc (tf l3 e2 d [k]) fun r=>some (.ok (x,r.1,r.2.1,r.2.2))):=by
 rw [cp,cp];cases l with
 | nil=>exact uc.err
 | cons t l =>
  obtain ⟨b,c,rfl,f,g⟩:=a.cons;have la:gb (b::c) k=gb (t::l) k:=by simp only [gb,Qm f]
  rw [la];by_cases g1:gb (t::l) k=true
  ·rw [if_pos g1,if_pos g1];exact uc.pure g
  ·rw [if_neg g1,if_neg g1];exact uc.err
theorem uc.out {N:Nat}{l l3:sb}{f a:sb×Int×Int→Zc α}(h:uc m e e2 d2 N (f (l,e,d)) (a (l3,e2,d))):uc m e e2 d2 N ((Lh l e (d+1)).bind f) ((Lh l3 e2 (d+1)).bind a):=by
 unfold Lh;cases b:i64 (d+1 - 1) with
 | none=>exact uc.none
 | some i =>
  obtain rfl:=oq b;rw [Int.add_sub_cancel];exact h
theorem uc.Gt {S:yi}(b:dm m e e2 S):∀ (n:Nat) (l l3:sb) (d:Int) (acc:List Eb),pd l3 (l++m)→uc m e e2 d l.length (uh S n l e (d+1) acc) (uh S n l3 e2 (d+1) acc):=by
 intro n
 induction n with
 | zero=>intros; exact uc.none
 | succ n c =>
  intro l l3 d acc a;unfold uh;refine uc.is a (fun f l3 _ a=>uc.out (uc.pure a)) fun l3 a=>?_;show uc m e e2 d l.length (if (acc.length:Int)=50 then _ else _) (if (acc.length:Int)=50 then _ else _);by_cases h:(acc.length:Int)=50
  ·rw [if_pos h,if_pos h];exact uc.at
  ·rw [if_neg h,if_neg h];refine uc.bind (b.stat _ _ _ a) fun x l l3 _ a=>?_;exact uc.Wb fun z=>c l l3 d z a
theorem uc.body {S:yi}(b:dm m e e2 S){l l3:sb}(a:pd l3 (l++m)):uc m e e2 d l.length (de fu S l e d) (de fu S l3 e2 d):=by
 unfold de;refine uc.od (eb.oh a) fun l l3 _ a=>?_;exact uc.od (eb.Nc a) fun l l3 _ a=>uc.Gt b fu _ _ _ _ a
theorem uc.Rt:∀ (n:Nat){l l3:sb},pd l3 (l++m)→uc m e e2 d l.length ((Vf n).de l e d) ((Vf n).de l3 e2 d)
 | 0,_,_,_=>uc.none
 | n+1,_,_,a=>uc.body (cB n) a
theorem uc.def {l l3:sb}(a:pd l3 (l++m)):uc m e e2 d l.length (vi fu l e d) (vi fu l3 e2 d):=by
 unfold vi;rw [sg,sg,Option.bind_some,Option.bind_some];refine uc.is a (fun c l3 _ a=>?_) fun l3 a=>?_
 ·refine uc.mono (N:=c.length) ?_ (by omega);refine uc.bind (eb.name a) fun x l l3 _ a=>?_;refine uc.bind (eb.Bg a) fun y l l3 _ a=>?_;rw [sg,sg,Option.bind_some,Option.bind_some];refine uc.bind (eb.number a) fun z l l3 _ a=>?_;have f:∀ b g i j k n o,uc m e e2 d l.length (ki (x,j) (y,k) g (z,l,e,d) b) (ki (x,n) (y,o) i (z,l3,e2,d) b):=by
   intro b g i j k n o;unfold ki;by_cases h:b=true
   ·rw [if_pos h,if_pos h];exact uc.err
   ·rw [if_neg h,if_neg h];exact uc.Nc a
  show uc m e e2 d l.length (if z<1 then _ else _) (if z<1 then _ else _);by_cases h:z<1
  ·rw [if_pos h,if_pos h];exact f _ _ _ _ _ _ _
  ·rw [if_neg h,if_neg h];exact f _ _ _ _ _ _ _
 refine uc.is a (fun c l3 _ a=>?_) fun l3 a=>?_
 ·refine uc.mono (N:=c.length) ?_ (by omega);refine uc.bind (eb.name a) fun x l l3 _ a=>?_;refine uc.bind (eb.params a) fun x l l3 _ a=>?_;refine uc.bind (eb.Bg a) fun x l l3 _ a=>?_;exact (uc.Rt fu a).Xt
 refine uc.is a (fun c l3 _ a=>?_) fun l3 a=>?_
 ·refine uc.mono (N:=c.length) ?_ (by omega);refine uc.bind (eb.name a) fun x l l3 _ a=>?_;refine uc.bind (eb.params a) fun x l l3 _ a=>?_;refine uc.od (eb.Nc a) fun l l3 _ a=>?_;refine uc.bind (eb.Bg a) fun x l l3 _ a=>?_;refine uc.od (eb.Nc a) fun l l3 _ a=>?_;refine uc.bind (eb.Bg a) fun x l l3 _ a=>?_;exact (uc.Rt fu a).Xt
 refine uc.is a (fun c l3 _ a=>?_) fun l3 a=>uc.err;refine uc.mono (N:=c.length) ?_ (by omega);refine uc.bind (eb.name a) fun x l l3 _ a=>?_;exact (uc.Rt fu a).Xt
end
end Go.Y
namespace Go.Y
open Go.cc Go.Kc
section
variable {fu:Nat}{α β:Type}
structure Ra (A:Option (Except xb α)):Prop where
 out:∀ f,A=some (.error f)→f.oe≠0
theorem Ra.bind {A:Option (Except xb α)}{f:α→Option (Except xb β)}(h:Ra A) (k:∀ r,Ra (f r)):Ra (oc A f):=⟨fun q g=>by
 rcases Cc g with ⟨e,he,a⟩ | ⟨x,b,g⟩
 ·cases a;exact h.out _ he
 ·exact (k x).out q g⟩
theorem Ra.pure {x:α}:Ra (some (.ok x)):=⟨fun _ g=>by cases g⟩
theorem Ra.none:Ra (Option.none:Option (Except xb α)):=⟨fun _ g=>by cases g⟩
theorem Ra.err {k a:Int}(h:k≠0):Ra (some (.error (xb.mk k a)):Option (Except xb α)):=⟨fun _ g=>by cases g;exact h⟩
theorem Ra.Wb {o:Option β}{f:β→Option (Except xb α)}(h:∀ y,Ra (f y)):Ra (o.bind f):=by
 cases o with
 | none=>exact Ra.none
 | some y=>exact h y
theorem Ra.at {l:sb}{e d k:Int}(h:k≠0):Ra ((mh l e d).bind fun r=>(some (.error (xb.mk k r)):Option (Except xb α))):=Ra.Wb fun _=>Ra.err h
theorem Ra.ite {c:Prop}[Decidable c]{A B:Option (Except xb α)}(a:Ra A) (b:Ra B):Ra (if c then A else B):=by
 by_cases h:c
 ·rw [if_pos h];exact a
 ·rw [if_neg h];exact b
theorem Ra.Nc {l:sb}{e d:Int}{k:List (List UInt8)}:Ra (tf l e d k):=by
 unfold tf;generalize k.length+1=n;generalize (0:Int)=i
 induction n generalizing i l e d with
 | zero=>exact Ra.none
 | succ n a =>
  unfold Fm;exact Ra.ite (Ra.Wb fun _=>Ra.Wb fun _=>Ra.ite (Ra.Wb fun _=>a _) (Ra.at (by decide))) Ra.pure
theorem Ra.name {l:sb}{e d:Int}:Ra (og fu l e d):=by
 have j:∀ b,Ra (Gm fu l e d b):=fun b=>by
  unfold Gm;exact Ra.ite (Ra.at (by decide)) (Ra.Wb fun _=>Ra.Wb fun _=>Ra.ite (Ra.Wb fun _=>Ra.pure) (Ra.at (by decide)))
 unfold og;exact Ra.ite (j _) (Ra.Wb fun _=>j _)
theorem Ra.number {l:sb}{e d:Int}:Ra (Fj l e d):=by
 have j:∀ b,Ra (sn l e d b):=fun b=>by
  unfold sn;exact Ra.ite (Ra.at (by decide)) (Ra.Wb fun _=>Ra.Wb fun _=>Ra.pure)
 unfold Fj;exact Ra.ite (j _) (Ra.Wb fun _=>j _)
theorem Ra.Bg {l:sb}{e d:Int}:Ra (Yh fu l e d):=by
 unfold Yh;exact Ra.Wb fun _=>Ra.ite Ra.pure (Ra.Wb fun _=>Ra.ite Ra.pure (Ra.bind Ra.name fun _=>Ra.pure))
theorem Ra.params {l:sb}{e d:Int}:Ra (fj fu l e d):=by
 unfold fj;refine Ra.bind Ra.Nc fun r=>?_;have key:∀ n l e d acc,Ra (Xg fu n l e d acc):=by
  intro n
  induction n with
  | zero=>intros; exact Ra.none
  | succ n a =>
   intro l e d acc;unfold Xg;have j:∀ l e d,Ra (Zi fu acc (Xg fu n) l e d):=fun l e d=>by
    unfold Zi;exact Ra.ite (Ra.at (by decide)) (Ra.bind Ra.name fun _=>Ra.bind Ra.Bg fun _=>Ra.Wb fun _=>a _ _ _ _)
   exact Ra.Wb fun _=>Ra.ite Ra.pure (Ra.ite (Ra.bind Ra.Nc fun _=>j _ _ _) (j _ _ _))
 exact key _ _ _ _ _
theorem Ra.oh {l:sb}{e d:Int}:Ra (Th l e d):=by
 unfold Th;exact Ra.Wb fun _=>Ra.ite (Ra.at (by decide)) Ra.pure
structure NE (P:hg):Prop where
 expr:∀ l e d,Ra (P.Ed l e d)
 level:∀ l e d n,Ra (P.pf l e d n)
 unary:∀ l e d,Ra (P.Pe l e d)
 Nn:∀ l e d,Ra (P.eg l e d)
 args:∀ l e d,Ra (P.Xf l e d)
 fixed:∀ l e d k n,Ra (P.qf l e d k n)
theorem dB:∀ n,NE (cd n):=by
 intro n
 induction n with
 | zero=>exact ⟨fun _ _ _=>Ra.none,fun _ _ _ _=>Ra.none,fun _ _ _=>Ra.none,fun _ _ _=>Ra.none,fun _ _ _=>Ra.none,fun _ _ _ _ _=>Ra.none⟩
 | succ n f =>
  refine ⟨fun l e d=>?_,fun l e d k=>?_,fun l e d=>?_,fun l e d=>?_,fun l e d=>?_,fun l e d k c=>?_⟩
  ·show Ra (Ed (cd n) l e d);unfold Ed;exact Ra.bind Ra.oh fun _=>Ra.bind (f.level _ _ _ _) fun _=>Ra.Wb fun _=>Ra.pure
  ·show Ra (pf n (cd n) l e d k);unfold pf;refine Ra.Wb fun s=>Ra.ite (Ra.bind (f.unary _ _ _) fun _=>Ra.pure) (Ra.Wb fun _=>Ra.bind (f.level _ _ _ _) fun r=>?_);have key:∀ q l e d a b c p,Ra (Hi (cd n) k s q l e d a b c p):=by
    intro q
    induction q with
    | zero=>intros; exact Ra.none
    | succ q g =>
     intro l e d a b c p;unfold Hi th;exact Ra.ite (Ra.Wb fun _=>Ra.Wb fun _=>Ra.ite Ra.pure (Ra.Wb fun _=>Ra.Wb fun _=>Ra.bind (f.level _ _ _ _) fun _=>by
      unfold yn th;exact Ra.Wb fun _=>Ra.ite Ra.pure (g ..))) Ra.pure
   exact key _ _ _ _ _ _ _ _
  ·show Ra (Pe (cd n) l e d);unfold Pe;have u:∀ l e d (k:Int),Ra (oc (Th l e d) fun m=>oc ((cd n).Pe m.1 m.2.1 m.2.2) fun h=>(Lh h.2.1 h.2.2.1 h.2.2.2).bind fun o=>some (.ok ((ab.mk k 0 [] [h.1]),o.1,o.2.1,o.2.2))):=fun l e d k=>Ra.bind Ra.oh fun _=>Ra.bind (f.unary _ _ _) fun _=>Ra.Wb fun _=>Ra.pure;exact Ra.Wb fun _=>Ra.ite (u _ _ _ _) (Ra.Wb fun _=>Ra.ite (u _ _ _ _) (Ra.bind (f.Nn _ _ _) fun _=>Ra.pure))
  ·show Ra (eg n (cd n) l e d);have j:∀ b,Ra (Yi n (cd n) l e d b):=fun b=>by
    unfold Yi;refine Ra.ite (Ra.bind Ra.number fun _=>Ra.pure) (Ra.Wb fun _=>Ra.ite Ra.pure (Ra.Wb fun _=>Ra.ite Ra.pure (Ra.Wb fun _=>Ra.ite ?_ (Ra.Wb fun _=>Ra.ite ?_ (Ra.Wb fun _=>Ra.ite ?_ (Ra.Wb fun _=>Ra.ite ?_ (Ra.Wb fun _=>Ra.ite ?_ (Ra.Wb fun _=>Ra.ite ?_ ?_))))))))
    ·exact Ra.bind (f.expr _ _ _) fun _=>Ra.bind Ra.Nc fun _=>Ra.pure
    ·exact Ra.bind Ra.Nc fun _=>Ra.bind Ra.name fun _=>Ra.bind Ra.Nc fun _=>Ra.pure
    ·exact Ra.bind (f.fixed _ _ _ _ _) fun _=>Ra.pure
    ·exact Ra.bind (f.fixed _ _ _ _ _) fun _=>Ra.pure
    ·exact Ra.bind (f.fixed _ _ _ _ _) fun _=>Ra.pure
    ·exact Ra.bind Ra.name fun _=>Ra.bind (f.args _ _ _) fun _=>Ra.pure
    ·exact Ra.bind Ra.name fun _=>Ra.Wb fun _=>Ra.ite (Ra.bind (f.args _ _ _) fun _=>Ra.pure) Ra.pure
   unfold eg;exact Ra.ite (Ra.Wb fun _=>j _) (j _)
  ·show Ra (Xf n (cd n) l e d);unfold Xf;refine Ra.bind Ra.Nc fun r=>?_;have key:∀ q l e d acc,Ra (ah (cd n) q l e d acc):=by
    intro q
    induction q with
    | zero=>intros; exact Ra.none
    | succ q g =>
     intro l e d acc;unfold ah;have j:∀ l e d,Ra (ej (cd n) acc (ah (cd n) q) l e d):=fun l e d=>by
      unfold ej;exact Ra.ite (Ra.at (by decide)) (Ra.bind (f.expr _ _ _) fun _=>Ra.Wb fun _=>g _ _ _ _)
     exact Ra.Wb fun _=>Ra.ite Ra.pure (Ra.ite (Ra.bind Ra.Nc fun _=>j _ _ _) (j _ _ _))
   exact key _ _ _ _ _
  ·show Ra (qf (cd n) l e d k c);unfold qf;refine Ra.bind Ra.Nc fun r=>?_;have key:∀ q i l e d acc,Ra (Og (cd n) k c q i l e d acc):=by
    intro q
    induction q with
    | zero=>intros; exact Ra.none
    | succ q g =>
     intro i l e d acc;unfold Og;have j:∀ l e d,Ra (bj (cd n) i acc (Og (cd n) k c q) l e d):=fun l e d=>by
      unfold bj zn;exact Ra.bind (f.expr _ _ _) fun _=>Ra.Wb fun _=>Ra.Wb fun _=>g _ _ _ _ _
     exact Ra.ite (Ra.ite (Ra.bind Ra.Nc fun _=>j _ _ _) (j _ _ _)) (Ra.bind Ra.Nc fun _=>Ra.pure)
   exact key _ _ _ _ _ _
structure RC (P:yi):Prop where
 body:∀ l e d,Ra (P.de l e d)
 stat:∀ l e d,Ra (P.Yf l e d)
theorem eB:∀ n,RC (Vf n):=by
 intro n
 induction n with
 | zero=>exact ⟨fun _ _ _=>Ra.none,fun _ _ _=>Ra.none⟩
 | succ n f =>
  refine ⟨fun l e d=>?_,fun l e d=>?_⟩
  ·show Ra (de n (Vf n) l e d);unfold de;refine Ra.bind Ra.oh fun _=>Ra.bind Ra.Nc fun r=>?_;have key:∀ q l e d acc,Ra (uh (Vf n) q l e d acc):=by
    intro q
    induction q with
    | zero=>intros; exact Ra.none
    | succ q h =>
     intro l e d acc;unfold uh;exact Ra.Wb fun _=>Ra.ite (Ra.Wb fun _=>Ra.pure) (Ra.ite (Ra.at (by decide)) (Ra.bind (f.stat _ _ _) fun _=>Ra.Wb fun _=>h _ _ _ _))
   exact key _ _ _ _ _
  ·show Ra (Yf n (Vf n) l e d);have E:=dB n;have j:∀ l e d a s b c t g,Ra (bh l e d a s b c t g):=fun l e d a s b c t g=>by
    unfold bh;exact Ra.bind Ra.Nc fun _=>Ra.pure
   unfold Yf;refine Ra.Wb fun _=>Ra.ite ?_ (Ra.Wb fun _=>Ra.ite ?_ (Ra.Wb fun _=>Ra.ite ?_ (Ra.Wb fun _=>Ra.ite ?_ (Ra.Wb fun _=>Ra.ite ?_ (Ra.Wb fun _=>Ra.ite ?_ (Ra.Wb fun _=>Ra.ite ?_ (Ra.Wb fun _=>Ra.ite ?_ ?_)))))))
   ·exact Ra.bind (E.expr _ _ _) fun _=>Ra.bind (f.body _ _ _) fun _=>Ra.Wb fun _=>Ra.ite (Ra.bind (f.body _ _ _) fun _=>Ra.pure) Ra.pure
   ·exact Ra.bind (E.expr _ _ _) fun _=>Ra.bind (f.body _ _ _) fun _=>Ra.pure
   ·exact Ra.bind Ra.name fun _=>Ra.bind Ra.Nc fun _=>Ra.bind (E.expr _ _ _) fun _=>j _ _ _ _ _ _ _ _ _
   ·exact Ra.bind (E.expr _ _ _) fun _=>j _ _ _ _ _ _ _ _ _
   ·exact j _ _ _ _ _ _ _ _ _
   ·exact Ra.bind Ra.name fun _=>Ra.bind (E.expr _ _ _) fun _=>j _ _ _ _ _ _ _ _ _
   ·exact Ra.bind (E.expr _ _ _) fun _=>j _ _ _ _ _ _ _ _ _
   ·exact Ra.bind (E.expr _ _ _) fun _=>j _ _ _ _ _ _ _ _ _
   ·exact Ra.bind Ra.name fun _=>Ra.bind Ra.Nc fun _=>Ra.bind (E.expr _ _ _) fun _=>j _ _ _ _ _ _ _ _ _
theorem Ra.def {l:sb}{e d:Int}:Ra (vi fu l e d):=by
 have S:=eB fu;have j:∀ a b c q x,Ra (ki a b c q x):=fun a b c q x=>by
  unfold ki;exact Ra.ite (Ra.err (by decide)) (Ra.bind Ra.Nc fun _=>Ra.pure)
 unfold vi;refine Ra.Wb fun _=>Ra.Wb fun _=>Ra.ite ?_ (Ra.Wb fun _=>Ra.ite ?_ (Ra.Wb fun _=>Ra.ite ?_ (Ra.Wb fun _=>Ra.ite ?_ (Ra.err (by decide)))))
 ·exact Ra.bind Ra.name fun _=>Ra.bind Ra.Bg fun _=>Ra.Wb fun _=>Ra.bind Ra.number fun _=>Ra.ite (j _ _ _ _ _) (j _ _ _ _ _)
 ·exact Ra.bind Ra.name fun _=>Ra.bind Ra.params fun _=>Ra.bind Ra.Bg fun _=>Ra.bind (S.body _ _ _) fun _=>Ra.pure
 ·exact Ra.bind Ra.name fun _=>Ra.bind Ra.params fun _=>Ra.bind Ra.Nc fun _=>Ra.bind Ra.Bg fun _=>Ra.bind Ra.Nc fun _=>Ra.bind Ra.Bg fun _=>Ra.bind (S.body _ _ _) fun _=>Ra.pure
 ·exact Ra.bind Ra.name fun _=>Ra.bind (S.body _ _ _) fun _=>Ra.pure
end
end Go.Y
namespace Go.Y
open Go.cc Go.Kc
theorem pq {α:Type}{l xs r:List α}(h:app l xs=some r):r=l++xs:=by
 unfold app at h;split at h
 ·exact (Option.some.inj h).symm
 ·cases h
theorem fl {α:Type}{l:List α}{x:α}(h:l.length≤100000):app l [x]=some (l++[x]):=by
 unfold app;rw [if_pos (by simp;omega)]
inductive Lp (fu:Nat) (e:Int):sb→List dc→Prop where
 | nil:Lp fu e [] []
 | cons {l a:sb} {x:dc} {ds:List dc} (b:l≠[]) (h:vi fu l e 0=some (.ok (x,a,e,0))) (k:Lp fu e a ds):Lp fu e l (x::ds)
theorem Sy {fu:Nat}{k:sb×xb}{e:Int}:∀ (n:Nat) (l:sb) (acc a:List dc) (g:xb),aj fu k n l e 0 acc=some (a,g)→g.oe=0→acc.length≤30 →
  ∃ ds,Lp fu e l ds∧a=acc++ds∧a.length≤30∧∃ r,Gl fu a=some r∧r.oe=0:=by
 intro n
 induction n with
 | zero=>intro l acc a g h; cases h
 | succ n o =>
  intro l acc a g h b p;unfold aj at h;cases l with
  | nil =>
   rw [if_neg (by simp)] at h;obtain ⟨r,c,h⟩:=Option.bind_eq_some_iff.1 h;by_cases d:r.oe≠0
   ·rw [if_pos d] at h;unfold Sp Vm at h;simp only [Option.bind_some,Option.some.injEq,Prod.mk.injEq] at h;obtain ⟨-,rfl⟩:=h;exact absurd b d
   ·rw [if_neg d] at h;unfold uo Vm at h;simp only [Option.bind_some,Option.some.injEq,Prod.mk.injEq] at h;obtain ⟨rfl,-⟩:=h;exact ⟨[],.nil,by simp,p,r,c,Decidable.not_not.1 d⟩
  | cons t l =>
   rw [if_pos (by simp)] at h;by_cases f:(acc.length:Int)=30
   ·rw [if_pos f,sg,Option.bind_some] at h;simp only [Option.some.injEq,Prod.mk.injEq] at h;obtain ⟨-,rfl⟩:=h;exact absurd b (by simp)
   ·rw [if_neg f] at h;rcases eu h with ⟨q,s,c⟩ | ⟨⟨x,i,la,d1⟩,j,h⟩
    ·simp only [Prod.mk.injEq] at c;obtain ⟨-,rfl⟩:=c;exact absurd b (Ra.def.out _ s)
    ·obtain ⟨⟨he,gb⟩,-,-⟩:=uc.def (m:=[]) (e2:=e) (l3:=t::l) (by simp [pd]) x i la d1 j;subst he;subst gb;obtain ⟨y,u,h⟩:=Option.bind_eq_some_iff.1 h;obtain rfl:=pq u;unfold so at h;obtain ⟨ds,gb,rfl,v,w⟩:=o i _ a g h b (by simp;omega);exact ⟨x::ds,.cons (by simp) j gb,by simp,v,w⟩
theorem Ty {n p:Nat}{l:List UInt8}{e:Nat×Nat}(h:af.oj n p l=.error e):e.1≠0:=by
 induction n generalizing p l with
 | zero=>cases h
 | succ n b =>
  unfold af.oj at h;split at h
  ·cases h
  ·rename_i d;cases a:af.gg p l with
   | error q =>
    rw [a] at h;simp only at h;cases h;show q≠0;obtain ⟨c,l,rfl⟩:=List.exists_cons_of_ne_nil d;unfold af.gg at a;simp only at a;split at a
    ·cases a
    ·split at a
     ·split at a
      ·cases a;decide
      ·cases a
     ·split at a
      ·cases a;decide
      ·cases a
   | ok t =>
    rw [a] at h;simp only at h
    revert h
    generalize f:af.oj n _ _=q;intro h;cases q with
    | ok g=>cases h
    | error q =>
     cases h;exact b f
theorem Ds {s:List UInt8}{e:Nat×Nat}(h:af.tokens s=.error e):e.1≠0:=by
 unfold af.tokens at h;split at h
 ·cases h;decide
 ·exact Ty h
theorem Qz {fu:Nat}(g:7000≤fu){s:List UInt8}{a:List dc}{f:xb}(h:jk fu s=some (a,f)) (c:f.oe=0) :
  af.Tw s=0∧Lp fu s.length ((af.Sw s).map mn) a∧a.length≤30∧∃ r,Gl fu a=some r∧r.oe=0:=by
 unfold jk at h;rw [Uq g,Option.bind_some] at h;cases b:af.tokens s with
 | error e =>
  rw [b] at h;have he:=Ds b;rw [if_pos (by show ((e.1:Nat):Int)≠0;omega)] at h;unfold Rp at h;cases h;exact absurd c (by show ((e.1:Nat):Int)≠0;omega)
 | ok l =>
  rw [b] at h;rw [if_neg (by simp [eh])] at h;obtain ⟨ds,i,d,j,k⟩:=Sy _ _ _ _ _ h c (by simp);rw [List.nil_append] at d;subst d;refine ⟨by simp [af.Tw,b],?_,j,k⟩;simpa [af.Sw,b,eh] using i
end Go.Y
namespace Go.Y
open Go.cc Go.Kc
section
variable {fu:Nat}{e d d2:Int}{α β:Type}
structure cb (e d:Int) (N:Nat) (A:Zc α):Prop where
 out:∃ r,A=some r∧∀ x l la d1,r=.ok (x,l,la,d1)→la=e∧d1=d∧l.length≤N
structure hh (e d:Int) (N:Nat) (A:kn):Prop where
 out:∃ r,A=some r∧∀ l la d1,r=.ok (l,la,d1)→la=e∧d1=d∧l.length≤N
theorem cb.mono {N f:Nat}{A:Zc α}(h:cb e d N A) (i:N≤f):cb e d f A:=⟨by
 obtain ⟨r,h,k⟩:=h.out;exact ⟨r,h,fun x l la d1 g=>by obtain ⟨a,b,c⟩:=k x l la d1 g;exact ⟨a,b,by omega⟩⟩⟩
theorem cb.pure {x:α}{l:sb}:cb e d l.length (some (.ok (x,l,e,d))):=⟨_,rfl,fun y a la d1 g=>by
 cases Except.ok.inj g;exact ⟨rfl,rfl,Nat.le_refl _⟩⟩
theorem cb.err {N:Nat}{q:xb}:cb e d N (some (.error q):Zc α):=⟨_,rfl,fun _ _ _ _ g=>by cases g⟩
theorem cb.bind {N:Nat}{A:Zc α}{f:α×sb×Int×Int→Zc β}(h:cb e d N A) (k:∀ x l,l.length≤N→cb e d2 l.length (f (x,l,e,d))):cb e d2 N (oc A f):=by
 obtain ⟨r,rfl,b⟩:=h.out;cases r with
 | error q=>exact cb.err
 | ok r =>
  obtain ⟨x,l,la,d1⟩:=r;obtain ⟨rfl,rfl,a⟩:=b _ _ _ _ rfl;exact (k x l a).mono a
theorem cb.od {N:Nat}{A:kn}{f:sb×Int×Int→Zc β}(h:hh e d N A) (k:∀ l,l.length≤N→cb e d2 l.length (f (l,e,d))):cb e d2 N (oc A f):=by
 obtain ⟨r,rfl,b⟩:=h.out;cases r with
 | error q=>exact cb.err
 | ok r =>
  obtain ⟨l,la,d1⟩:=r;obtain ⟨rfl,rfl,a⟩:=b _ _ _ rfl;exact (k l a).mono a
theorem cb.Wb {N:Nat}{y:β}{o:Option β}{f:β→Zc α}(a:o=some y) (h:cb e d N (f y)):cb e d N (o.bind f):=by rw [a];exact h
theorem cb.ite {N:Nat}{c:Prop}[Decidable c]{A B:Zc α}(a:c→cb e d N A) (b:¬ c→cb e d N B):cb e d N (if c then A else B):=by
 by_cases h:c
 ·rw [if_pos h];exact a h
 ·rw [if_neg h];exact b h
theorem cb.f {N:Nat}{A B:Zc α}(h:cb e d N B):cb e d N (if false=true then A else B):=h
theorem cb.at {N:Nat}{l:sb}{d1 k:Int}:cb e d N ((mh l e d1).bind fun r=>(some (.error (xb.mk k r)):Zc α)):=by
 rw [sg];exact cb.err
theorem cb.is {l:sb}{k:List UInt8}{f:Bool×sb×Int×Int→Zc α}(b:∀ a,a.length+1=l.length→cb e d2 a.length (f (true,a,e,d))) (c:cb e d2 l.length (f (false,l,e,d))):cb e d2 l.length ((Md l e d k).bind f):=by
 rw [ml,Option.bind_some];by_cases h:gb l k=true
 ·rw [if_pos h];exact (b l.tail (ql h)).mono (by have:=ql h;omega)
 ·rw [if_neg h];exact c
theorem hh.Nc {l:sb}{k:List UInt8}:hh e d l.length (tf l e d [k]):=by
 rw [cp];by_cases h:gb l k=true
 ·rw [if_pos h];refine ⟨_,rfl,fun a la d1 g=>?_⟩;cases Except.ok.inj g;exact ⟨rfl,rfl,by have:=ql h;omega⟩
 ·rw [if_neg h];exact ⟨_,rfl,fun a la d1 g=>by cases g⟩
theorem cb.name (a:20≤fu){l:sb}:cb e d l.length (og fu l e d):=by
 rw [Us];cases l with
 | nil=>exact cb.err
 | cons t l =>
  refine cb.ite (fun _=>?_) fun _=>cb.err;obtain ⟨b,c⟩:=Bo fu a t.Text;exact cb.Wb c (cb.ite (fun _=>cb.pure.mono (by simp)) fun _=>cb.err)
theorem cb.number {l:sb}:cb e d l.length (Fj l e d):=by
 rw [hr];cases l with
 | nil=>exact cb.err
 | cons t l =>
  by_cases g:t.Kind=2
  ·simp only [g,if_true];exact cb.pure.mono (by simp)
  ·simp only [g,if_false];exact cb.err
theorem cb.Bg (a:20≤fu){l:sb}:cb e d l.length (Yh fu l e d):=by
 unfold Yh;exact cb.is (fun b _=>cb.pure) (cb.is (fun b _=>cb.pure) (cb.bind (cb.name a) fun x l _=>cb.pure))
theorem cb.oh {l:sb}{f:sb×Int×Int→Zc α}(a:0≤d) (b:d≤200) (k:d+1≤200→cb e d2 l.length (f (l,e,d+1))):cb e d2 l.length (oc (Th l e d) f):=by
 rw [nv a (by omega)];by_cases h:200<d+1
 ·rw [if_pos h];exact cb.err
 ·rw [if_neg h];exact k (by omega)
theorem cb.Yr {N:Nat}{l:sb}{f:sb×Int×Int→Zc α}(a:0≤d) (b:d≤200) (k:cb e d2 N (f (l,e,d))):cb e d2 N ((Lh l e (d+1)).bind f):=by
 rw [Jv (by omega) (by omega),Option.bind_some,Int.add_sub_cancel];exact k
theorem cb.params (a:20≤fu){l:sb}:cb e d l.length (fj fu l e d):=by
 unfold fj;refine cb.od hh.Nc fun l _=>?_;have key:∀ (n:Nat) (l:sb) (acc:List TParam),acc.length≤6→6 - acc.length<n→cb e d l.length (Xg fu n l e d acc):=by
  intro n
  induction n with
  | zero=>intro l acc _ h; omega
  | succ n b =>
   intro l acc c g;unfold Xg;have j:∀ l:sb,cb e d l.length (Zi fu acc (Xg fu n) l e d):=fun l=>by
    unfold Zi;refine cb.ite (fun _=>cb.at) fun i=>cb.bind (cb.name a) fun x l _=>cb.bind (cb.Bg a) fun y l _=>?_;exact cb.Wb (fl (by omega)) (b l _ (by simp;omega) (by simp;omega))
   exact cb.is (fun k _=>cb.pure) (cb.f (cb.ite (fun _=>cb.od hh.Nc fun l _=>j l) fun _=>j l))
 exact key fu l [] (by simp) (by simp;omega)
structure SC (e:Int) (n:Nat) (P:hg):Prop where
 expr:∀ l d,0≤d→d≤200→(202 - d)*12+(l.length:Int)+70≤n→cb e d l.length (P.Ed l e d)
 level:∀ l d (k:Nat),0≤d→d≤200→k≤5→(202 - d)*12+11 - k+(l.length:Int)+70≤n→cb e d l.length (P.pf l e d k)
 unary:∀ l d,0≤d→d≤200→(202 - d)*12+5+(l.length:Int)+70≤n→cb e d l.length (P.Pe l e d)
 Nn:∀ l d,0≤d→d≤200→(202 - d)*12+4+(l.length:Int)+70≤n→cb e d l.length (P.eg l e d)
 args:∀ l d,0≤d→d≤200→(202 - d)*12+3+(l.length:Int)+70≤n→cb e d l.length (P.Xf l e d)
 fixed:∀ l d k (c:Nat),0≤d→d≤200→c≤2→(202 - d)*12+2+(l.length:Int)+70≤n→cb e d l.length (P.qf l e d k c)
theorem zh {i:Int}(a:-1000000≤i) (b:i≤1000000):i64 i=some i:=by unfold i64;rw [if_pos (by omega)]
theorem fB:∀ n,SC e n (cd n):=by
 intro n
 induction n with
 | zero=>exact ⟨fun l d a b h=>by omega,fun l d k a b c h=>by omega,fun l d a b h=>by omega,fun l d a b h=>by omega,fun l d a b h=>by omega,fun l d k c a b g h=>by omega⟩
 | succ n s =>
  refine ⟨fun l d o p w=>?_,fun l d k o p H w=>?_,fun l d o p w=>?_,fun l d o p w=>?_,fun l d o p w=>?_,fun l d k c o p K w=>?_⟩
  ·show cb e d l.length (Ed (cd n) l e d);unfold Ed;refine cb.oh o p fun gb=>cb.bind (s.level l (d+1) 0 (by omega) gb (by omega) (by omega)) fun x l _=>?_;exact cb.Yr o p cb.pure
  ·show cb e d l.length (pf n (cd n) l e d k);unfold pf;obtain ⟨v,D,hlen⟩:∃ v,bp=some v∧v.length=5:=⟨_,rfl,rfl⟩;refine cb.Wb D (cb.ite (fun _=>cb.bind (s.unary l d o p (by omega)) fun x l _=>cb.pure) fun E=>?_);rw [hlen] at E;refine cb.Wb (zh (by omega) (by omega)) ?_;rw [show ((k:Int)+1)=((k+1:Nat):Int) by omega];refine cb.bind (s.level l d (k+1) o p (by omega) (by omega)) fun x l r=>?_;have key:∀ (q:Nat) (l:sb) (a b:Int) (c:List UInt8) (A:List ab),(202 - d)*12+11 - k+(l.length:Int)+70≤n+1→l.length<q→cb e d l.length (Hi (cd n) k v q l e d a b c A):=by
    intro q
    induction q with
    | zero=>intro l a b c A _ h; omega
    | succ q z =>
     intro l a b c A u B;unfold Hi;cases l with
     | nil =>
      rw [if_neg (by simp)];unfold th;exact cb.pure
     | cons t l =>
      rw [if_pos (by simp),Qf];have C:at_ v (k:Int)=some (v[k]'(by omega)):=by rw [lj,List.getElem?_eq_getElem]
      refine cb.Wb C ?_;rw [Option.bind_some];refine cb.ite (fun _=>by unfold th;exact cb.pure) fun _=>?_;rw [Vj,Option.bind_some,zh (by omega) (by omega),Option.bind_some,show ((k:Int)+1)=((k+1:Nat):Int) by omega];simp only [List.length_cons] at u B;refine cb.mono (N:=l.length) (cb.bind (s.level l d (k+1) o p (by omega) (by omega)) fun y m L=>?_) (by simp);unfold yn;refine cb.Wb C (cb.ite (fun _=>by unfold th;exact cb.pure) fun _=>z m _ _ _ _ (by omega) (by omega))
   exact key n l _ _ _ _ (by omega) (by omega)
  ·show cb e d l.length (Pe (cd n) l e d);unfold Pe;refine cb.is (fun m r=>cb.oh o p fun gb=>cb.bind (s.unary m (d+1) (by omega) gb (by omega)) fun x l _=>cb.Yr o p cb.pure) ?_;refine cb.is (fun m r=>cb.oh o p fun gb=>cb.bind (s.unary m (d+1) (by omega) gb (by omega)) fun x l _=>cb.Yr o p cb.pure) ?_;exact cb.bind (s.Nn l d o p (by omega)) fun x l _=>cb.pure
  ·show cb e d l.length (eg n (cd n) l e d);have j:∀ b,cb e d l.length (Yi n (cd n) l e d b):=fun b=>by
    unfold Yi;refine cb.ite (fun _=>cb.bind cb.number fun x l _=>cb.pure) fun _=>?_;refine cb.is (fun m r=>cb.pure) (cb.is (fun m r=>cb.pure) (cb.is (fun m r=>?_) (cb.is (fun m r=>?_) (cb.is (fun m r=>?_) (cb.is (fun m r=>?_) (cb.is (fun m r=>?_) (cb.is (fun m r=>?_) ?_)))))))
    ·exact cb.bind (s.expr m d o p (by omega)) fun x l _=>cb.od hh.Nc fun l _=>cb.pure
    ·exact cb.od hh.Nc fun l _=>cb.bind (cb.name (by omega)) fun x l _=>cb.od hh.Nc fun l _=>cb.pure
    ·exact cb.bind (s.fixed m d 21 1 o p (by omega) (by omega)) fun x l _=>cb.pure
    ·exact cb.bind (s.fixed m d 23 2 o p (by omega) (by omega)) fun x l _=>cb.pure
    ·exact cb.bind (s.fixed m d 24 1 o p (by omega) (by omega)) fun x l _=>cb.pure
    ·exact cb.bind (cb.name (by omega)) fun x l r=>cb.bind (s.args l d o p (by omega)) fun y l _=>cb.pure
    ·refine cb.bind (cb.name (by omega)) fun x l r=>?_;rw [iq];exact cb.ite (fun _=>cb.bind (s.args l d o p (by omega)) fun y l _=>cb.pure) fun _=>cb.pure
   unfold eg;cases l with
   | nil=>rw [if_neg (by simp)]; exact j _
   | cons t l=>rw [if_pos (by simp),Qf]; exact j _
  ·show cb e d l.length (Xf n (cd n) l e d);unfold Xf;refine cb.od hh.Nc fun l r=>?_;have key:∀ (q:Nat) (l:sb) (acc:List ab),(202 - d)*12+(l.length:Int)+70≤n→acc.length≤6→6 - acc.length<q→cb e d l.length (ah (cd n) q l e d acc):=by
    intro q
    induction q with
    | zero=>intro l acc _ _ h; omega
    | succ q z =>
     intro l acc u F B;unfold ah;have j:∀ l:sb,(202 - d)*12+(l.length:Int)+70≤n→cb e d l.length (ej (cd n) acc (ah (cd n) q) l e d):=fun l u=>by
      unfold ej;refine cb.ite (fun _=>cb.at) fun M=>cb.bind (s.expr l d o p u) fun x m r=>?_;exact cb.Wb (fl (by omega)) (z m _ (by omega) (by simp;omega) (by simp;omega))
     exact cb.is (fun m _=>cb.pure) (cb.f (cb.ite (fun _=>cb.od hh.Nc fun m r=>j m (by omega)) fun _=>j l u))
   exact key n l [] (by omega) (by simp) (by simp;omega)
  ·show cb e d l.length (qf (cd n) l e d k c);unfold qf;refine cb.od hh.Nc fun l r=>?_;have key:∀ (q i:Nat) (l:sb) (acc:List ab),(202 - d)*12+(l.length:Int)+70≤n→acc.length≤i→i≤c→c - i<q→cb e d l.length (Og (cd n) k c q i l e d acc):=by
    intro q
    induction q with
    | zero=>intro i l acc _ _ _ h; omega
    | succ q z =>
     intro i l acc u F P B;unfold Og;have j:i<c→∀ l:sb,(202 - d)*12+(l.length:Int)+70≤n→cb e d l.length (bj (cd n) i acc (Og (cd n) k c q) l e d):=fun G l u=>by
      unfold bj;refine cb.bind (s.expr l d o p u) fun x m r=>cb.Wb (fl (by omega)) ?_;unfold zn;refine cb.Wb (zh (by omega) (by omega)) ?_;rw [show ((i:Int)+1)=((i+1:Nat):Int) by omega];exact z (i+1) m _ (by omega) (by simp;omega) (by omega) (by omega)
     refine cb.ite (fun G=>cb.ite (fun _=>cb.od hh.Nc fun m r=>j (by omega) m (by omega)) fun _=>j (by omega) l u) fun _=>cb.od hh.Nc fun l _=>cb.pure
   have:=key (((c:Int) - 0).toNat+1) 0 l [] (by omega) (by simp) (by omega) (by omega);exact this
structure TC (e:Int) (n:Nat) (P:yi):Prop where
 body:∀ l d,0≤d→d≤200→(202 - d)*12+(l.length:Int)+80≤n→cb e d l.length (P.de l e d)
 stat:∀ l d,0≤d→d≤200→(202 - d)*12+1+(l.length:Int)+80≤n→cb e d l.length (P.Yf l e d)
theorem cb.yg {l:sb}{a b c:Int}{s t:List UInt8}{f:List ab}:cb e d l.length (bh l e d a s b c t f):=by
 unfold bh;exact cb.od hh.Nc fun l _=>cb.pure
theorem gB:∀ n,TC e n (Vf n):=by
 intro n
 induction n with
 | zero=>exact ⟨fun l d a b h=>by omega,fun l d a b h=>by omega⟩
 | succ n o =>
  refine ⟨fun l d g i s=>?_,fun l d g i s=>?_⟩
  ·show cb e d l.length (de n (Vf n) l e d);unfold de;refine cb.oh g i fun gb=>cb.od hh.Nc fun l j=>?_;have key:∀ (q:Nat) (l:sb) (acc:List Eb),(201 - d)*12+1+(l.length:Int)+80≤n→acc.length≤50→50 - acc.length<q→cb e d l.length (uh (Vf n) q l e (d+1) acc):=by
    intro q
    induction q with
    | zero=>intro l acc _ _ h; omega
    | succ q t =>
     intro l acc u v w;unfold uh;refine cb.is (fun c _=>cb.Yr g i cb.pure) (cb.f (cb.ite (fun _=>cb.at) fun A=>cb.bind (o.stat l (d+1) (by omega) gb (by omega)) fun x c j=>?_));exact cb.Wb (fl (by omega)) (t c _ (by omega) (by simp;omega) (by simp;omega))
   exact key n l [] (by omega) (by simp) (by simp;omega)
  ·show cb e d l.length (Yf n (Vf n) l e d);have E:=fB (e:=e) n;unfold Yf;refine cb.is (fun c j=>?_) (cb.is (fun c j=>?_) (cb.is (fun c j=>?_) (cb.is (fun c j=>?_) (cb.is (fun c j=>?_) (cb.is (fun c j=>?_) (cb.is (fun c j=>?_) (cb.is (fun c j=>?_) ?_)))))))
   ·refine cb.bind (E.expr c d g i (by omega)) fun x k p=>cb.bind (o.body k d g i (by omega)) fun y l3 r=>?_;exact cb.is (fun m B=>cb.bind (o.body m d g i (by omega)) fun z C _=>cb.pure) cb.pure
   ·exact cb.bind (E.expr c d g i (by omega)) fun x k p=>cb.bind (o.body k d g i (by omega)) fun y l3 r=>cb.pure
   ·exact cb.bind (cb.name (by omega)) fun x k p=>cb.od hh.Nc fun l3 r=>cb.bind (E.expr l3 d g i (by omega)) fun y m _=>cb.yg
   ·exact cb.bind (E.expr c d g i (by omega)) fun y m _=>cb.yg
   ·exact cb.yg
   ·exact cb.bind (cb.name (by omega)) fun x k p=>cb.bind (E.expr k d g i (by omega)) fun y m _=>cb.yg
   ·exact cb.bind (E.expr c d g i (by omega)) fun y m _=>cb.yg
   ·exact cb.bind (E.expr c d g i (by omega)) fun y m _=>cb.yg
   ·exact cb.bind (cb.name (by omega)) fun x k p=>cb.od hh.Nc fun l3 r=>cb.bind (E.expr l3 d g i (by omega)) fun y m _=>cb.yg
theorem cb.def {l:sb}(p:(l.length:Int)+3000≤fu):cb e 0 l.length (vi fu l e 0):=by
 have S:=gB (e:=e) fu;have j:∀ (a:List UInt8×sb×Int×Int) (b:fe×sb×Int×Int) (c:Int) (z:Int) (l:sb) (x:Bool),cb e 0 l.length (ki a b c (z,l,e,0) x):=fun a b c z l x=>by
  unfold ki;exact cb.ite (fun _=>cb.err) fun _=>cb.od hh.Nc fun l _=>cb.pure
 unfold vi;rw [sg,Option.bind_some];refine cb.is (fun f g=>?_) (cb.is (fun f g=>?_) (cb.is (fun f g=>?_) (cb.is (fun f g=>?_) cb.err)))
 ·refine cb.bind (cb.name (by omega)) fun x d h=>cb.bind (cb.Bg (by omega)) fun y l3 k=>?_;rw [sg,Option.bind_some];exact cb.bind cb.number fun z i m=>cb.ite (fun _=>j _ _ _ _ _ _) fun _=>j _ _ _ _ _ _
 ·exact cb.bind (cb.name (by omega)) fun x d h=>cb.bind (cb.params (by omega)) fun y l3 k=>cb.bind (cb.Bg (by omega)) fun z i m=>cb.bind (S.body i 0 (by omega) (by omega) (by omega)) fun b n _=>cb.pure
 ·exact cb.bind (cb.name (by omega)) fun x d h=>cb.bind (cb.params (by omega)) fun y l3 k=>cb.od hh.Nc fun i m=>cb.bind (cb.Bg (by omega)) fun z n q=>cb.od hh.Nc fun r s=>cb.bind (cb.Bg (by omega)) fun z o t=>cb.bind (S.body o 0 (by omega) (by omega) (by omega)) fun b u _=>cb.pure
 ·exact cb.bind (cb.name (by omega)) fun x d h=>cb.bind (S.body d 0 (by omega) (by omega) (by omega)) fun b n _=>cb.pure
theorem Uy {c:sb×xb}:∀ (n:Nat) (l:sb) (acc:List dc),(l.length:Int)+3000≤fu→acc.length≤30→30 - acc.length<n→∃ r,aj fu c n l e 0 acc=some r:=by
 intro n
 induction n with
 | zero=>intro l acc _ _ h; omega
 | succ n d =>
  intro l acc g o p;unfold aj;by_cases h:(0:Int)<(l.length:Int)
  ·rw [if_pos h];by_cases a:(acc.length:Int)=30
   ·rw [if_pos a,sg];exact ⟨_,rfl⟩
   ·rw [if_neg a];obtain ⟨r,i,j⟩:=(cb.def (e:=e) (l:=l) g).out;rw [i];cases r with
    | error q=>exact ⟨_,rfl⟩
    | ok r =>
     obtain ⟨x,k,la,d1⟩:=r;obtain ⟨rfl,rfl,s⟩:=j _ _ _ _ rfl;rw [Fw,fl (by omega),Option.bind_some];exact d k _ (by omega) (by simp;omega) (by simp;omega)
  ·rw [if_neg h];obtain ⟨f,m,-⟩:=qs fu (by omega) acc;rw [m,Option.bind_some];by_cases b:f.oe≠0
   ·rw [if_pos b];exact ⟨_,rfl⟩
   ·rw [if_neg b];exact ⟨_,rfl⟩
theorem pv {n p:Nat}{l:List UInt8}{a:List af.Tok}(h:af.oj n p l=.ok a):a.length≤l.length:=by
 induction n generalizing p l a with
 | zero=>cases h; simp
 | succ n c =>
  unfold af.oj at h;split at h
  ·cases h;simp
  ·cases b:af.gg p l with
   | error q=>rw [b] at h; cases h
   | ok t =>
    rw [b] at h;simp only at h;obtain ⟨d,e,-,-⟩:=af.Yo b;obtain ⟨us,rfl,hu⟩:=af.rA h;have:=c hu;simp only [List.length_drop] at this;simp only [List.length_cons];omega
theorem hB {s:List UInt8}(c:10000≤fu):∃ r,jk fu s=some r:=by
 unfold jk;rw [Uq (by omega),Option.bind_some];cases a:af.tokens s with
 | error q =>
  have:=Ds a;rw [if_pos (by show ((q.1:Nat):Int)≠0;omega)];exact ⟨_,rfl⟩
 | ok b =>
  have d:b.length≤6000:=by
   unfold af.tokens at a;split at a
   ·cases a
   ·have:=pv a;simp only [List.length_drop] at this;omega
  rw [if_neg (by simp [eh])];refine Uy fu _ [] ?_ (by simp) (by simp;omega);show (([]++b.map mn).length:Int)+3000≤fu;simp;omega
end
end Go.Y
namespace Go.Y
open Go.cc Go.Kc
section
variable {α β:Type}
structure PP (Rf:α→Prop) (A:Zc α):Prop where
 out:∀ x l e d,A=some (.ok (x,l,e,d))→Rf x
variable {Rf:α→Prop}{nu:β→Prop}
theorem PP.err {q:xb}:PP Rf (some (.error q)):=⟨fun _ _ _ _ g=>by cases g⟩
theorem PP.none:PP Rf Option.none:=⟨fun _ _ _ _ g=>by cases g⟩
theorem PP.pure {x:α}{l:sb}{e d:Int}(h:Rf x):PP Rf (some (.ok (x,l,e,d))):=⟨fun y a la d1 g=>by
 cases Except.ok.inj (Option.some.inj g);exact h⟩
theorem PP.bind {A:Zc β}{f:β×sb×Int×Int→Zc α}(h:PP nu A) (k:∀ r,nu r.1→PP Rf (f r)):PP Rf (oc A f):=⟨fun y b la d1 g=>by
 rcases Cc g with ⟨_,_,q⟩ | ⟨⟨x,l,e,d⟩,a,g⟩
 ·cases q
 ·exact (k (x,l,e,d) (h.out _ _ _ _ a)).out _ _ _ _ g⟩
theorem PP.any {A:Zc β}{f:β×sb×Int×Int→Zc α}(k:∀ r,PP Rf (f r)):PP Rf (oc A f):=PP.bind (nu:=fun _=>True) ⟨fun _ _ _ _ _=>trivial⟩ fun r _=>k r
theorem PP.dn {A:kn}{f:sb×Int×Int→Zc α}(k:∀ r,PP Rf (f r)):PP Rf (oc A f):=⟨fun y a la d1 g=>by
 rcases Cc g with ⟨_,_,q⟩ | ⟨r,b,g⟩
 ·cases q
 ·exact (k r).out _ _ _ _ g⟩
theorem PP.Wb {Zj:Type}{o:Option Zj}{f:Zj→Zc α}(h:∀ y,o=some y→PP Rf (f y)):PP Rf (o.bind f):=by
 cases o with
 | none=>exact PP.none
 | some y=>exact h y rfl
theorem PP.ite {c:Prop}[Decidable c]{A B:Zc α}(a:PP Rf A) (b:PP Rf B):PP Rf (if c then A else B):=by
 by_cases h:c
 ·rw [if_pos h];exact a
 ·rw [if_neg h];exact b
end
def Fi:Nat→Eb→Prop
 | 0,_=>True
 | k+1,s=>(s.Kind=6→s.X=⟨0,0,[],[]⟩)∧(s.Kind≠3→s.Kind≠4→s.Body=[])∧(s.Kind≠3→s.me=[])∧(∀ y ∈ s.Body,Fi k y)∧∀ y ∈ s.me,Fi k y
theorem Fi.down:∀ (n k:Nat) (s:Eb),k≤n→Fi n s→Fi k s:=by
 intro n
 induction n with
 | zero =>
  intro k s h _;have:k=0:=by omega
  subst this;trivial
 | succ n e =>
  intro k s h f;cases k with
  | zero=>trivial
  | succ k =>
   obtain ⟨a,b,c,p,q⟩:=f;exact ⟨a,b,c,fun y d=>e k y (by omega) (p y d),fun y d=>e k y (by omega) (q y d)⟩
structure Yw (a b:Nat) (P:yi):Prop where
 body:∀ l e d,PP (fun x=>∀ y ∈ x,Fi a y) (P.de l e d)
 stat:∀ l e d,PP (Fi b) (P.Yf l e d)
theorem Rz (a n m:Nat) (g:Yw a n (Vf m)):(∀ l e d,PP (fun b=>∀ y ∈ b,Fi n y) (de m (Vf m) l e d))∧(∀ l e d,PP (Fi (a+1)) (Yf m (Vf m) l e d)):=by
 refine ⟨fun l e d=>?_,fun l e d=>?_⟩
 ·unfold de;refine PP.dn fun r=>PP.dn fun r=>?_;have key:∀ (q:Nat) (l:sb) (e d:Int) (acc:List Eb),(∀ y ∈ acc,Fi n y)→PP (fun b=>∀ y ∈ b,Fi n y) (uh (Vf m) q l e d acc):=by
   intro q
   induction q with
   | zero=>intros; exact PP.none
   | succ q p =>
    intro l e d acc o;unfold uh;refine PP.Wb fun r _=>PP.ite (PP.Wb fun r _=>PP.pure o) (PP.ite (PP.Wb fun _ _=>PP.err) (PP.bind (g.stat _ _ _) fun x u=>PP.Wb fun z v=>p _ _ _ _ ?_));obtain rfl:=pq v;intro y f;rcases List.mem_append.1 f with h | h
    ·exact o y h
    ·obtain rfl:=List.mem_singleton.1 h;exact u
  exact key _ _ _ _ _ (by simp)
 ·have j:∀ l e d (Sf:Int) s b c t k,(Sf=6→ab.mk b c t k=⟨0,0,[],[]⟩)→Sf≠3→Sf≠4→PP (Fi (a+1)) (bh l e d Sf s b c t k):=fun l e d Sf s b c t k w B C=>by
   unfold bh;exact PP.dn fun _=>PP.pure ⟨w,fun _ _=>rfl,fun _=>rfl,fun y f=>(List.not_mem_nil f).elim,fun y f=>(List.not_mem_nil f).elim⟩
  unfold Yf;refine PP.Wb fun _ _=>PP.ite ?_ (PP.Wb fun _ _=>PP.ite ?_ (PP.Wb fun _ _=>PP.ite ?_ (PP.Wb fun _ _=>PP.ite ?_ (PP.Wb fun _ _=>PP.ite ?_ (PP.Wb fun _ _=>PP.ite ?_ (PP.Wb fun _ _=>PP.ite ?_ (PP.Wb fun _ _=>PP.ite ?_ ?_)))))))
  ·refine PP.any fun _=>PP.bind (g.body _ _ _) fun b i=>PP.Wb fun _ _=>PP.ite (PP.bind (g.body _ _ _) fun c A=>?_) ?_
   ·exact PP.pure ⟨fun h=>absurd h (by simp),fun h=>absurd rfl h,fun h=>absurd rfl h,i,A⟩
   ·exact PP.pure ⟨fun h=>absurd h (by simp),fun h=>absurd rfl h,fun h=>absurd rfl h,i,fun y f=>(List.not_mem_nil f).elim⟩
  ·exact PP.any fun _=>PP.bind (g.body _ _ _) fun b i=>PP.pure ⟨fun h=>absurd h (by simp),fun _ h=>absurd rfl h,fun _=>rfl,i,fun y f=>(List.not_mem_nil f).elim⟩
  ·exact PP.any fun _=>PP.dn fun _=>PP.any fun _=>j _ _ _ 1 _ _ _ _ _ (fun h=>absurd h (by decide)) (by decide) (by decide)
  ·exact PP.any fun _=>j _ _ _ 5 _ _ _ _ _ (fun h=>absurd h (by decide)) (by decide) (by decide)
  ·exact j _ _ _ 6 _ _ _ _ _ (fun h=>rfl) (by decide) (by decide)
  ·exact PP.any fun _=>PP.any fun _=>j _ _ _ 7 _ _ _ _ _ (fun h=>absurd h (by decide)) (by decide) (by decide)
  ·exact PP.any fun _=>j _ _ _ 8 _ _ _ _ _ (fun h=>absurd h (by decide)) (by decide) (by decide)
  ·exact PP.any fun _=>j _ _ _ 9 _ _ _ _ _ (fun h=>absurd h (by decide)) (by decide) (by decide)
  ·exact PP.any fun _=>PP.dn fun _=>PP.any fun _=>j _ _ _ 2 _ _ _ _ _ (fun h=>absurd h (by decide)) (by decide) (by decide)
theorem iB:∀ m,Yw (m / 2) ((m+1) / 2) (Vf m):=by
 intro m
 induction m with
 | zero=>exact ⟨fun _ _ _=>PP.none,fun _ _ _=>PP.none⟩
 | succ m a =>
  obtain ⟨b,c⟩:=Rz _ _ _ a;exact ⟨b,by rw [show (m+1+1) / 2=m / 2+1 by omega];exact c⟩
structure js (n:Nat) (x:dc):Prop where
 mu:∀ y ∈ x.Body,Fi n y
 Da:x.Kind=1→x.Body=[]
 UC:x.Kind=1∨x.Kind=4→x.Params=[]
theorem jB {fu:Nat}{l:sb}{e d:Int}:PP (js (fu / 2)) (vi fu l e d):=by
 have S:=iB fu;have j:∀ a b c z x,PP (js (fu / 2)) (ki a b c z x):=fun a b c z x=>by
  unfold ki;exact PP.ite PP.err (PP.dn fun _=>PP.pure ⟨fun y g=>(List.not_mem_nil g).elim,fun _=>rfl,fun _=>rfl⟩)
 unfold vi;refine PP.Wb fun _ _=>PP.Wb fun _ _=>PP.ite ?_ (PP.Wb fun _ _=>PP.ite ?_ (PP.Wb fun _ _=>PP.ite ?_ (PP.Wb fun _ _=>PP.ite ?_ PP.err)))
 ·exact PP.any fun _=>PP.any fun _=>PP.Wb fun _ _=>PP.any fun _=>PP.ite (j _ _ _ _ _) (j _ _ _ _ _)
 ·exact PP.any fun _=>PP.any fun _=>PP.any fun _=>PP.bind (S.body _ _ _) fun b f=>PP.pure ⟨f,fun h=>absurd h (by simp),fun h=>absurd h (by simp)⟩
 ·exact PP.any fun _=>PP.any fun _=>PP.dn fun _=>PP.any fun _=>PP.dn fun _=>PP.any fun _=>PP.bind (S.body _ _ _) fun b f=>PP.pure ⟨f,fun h=>absurd h (by simp),fun h=>absurd h (by simp)⟩
 ·exact PP.any fun _=>PP.bind (S.body _ _ _) fun b f=>PP.pure ⟨f,fun h=>absurd h (by simp),fun _=>rfl⟩
theorem cC {fu:Nat}{e:Int}{l:sb}{ds:List dc}(h:Lp fu e l ds):∀ x ∈ ds,js (fu / 2) x:=by
 induction h with
 | nil=>intro x a; exact (List.not_mem_nil a).elim
 | @cons l d x ds f a k c =>
  intro y b;rcases List.mem_cons.1 b with rfl | b
  ·exact jB.out _ _ _ _ a
  ·exact c y b
end Go.Y
namespace Go.Y
open Go.cc Go.Kc
theorem kB:∀ (k n:Nat) (x:ab),k≤n→jn k x→(Ll n).Ih x x=some true:=by
 intro k
 induction k with
 | zero=>intro n x _ h; exact h.elim
 | succ k a =>
  intro n x e h;obtain ⟨n,rfl⟩:∃ q,n=q+1:=⟨n - 1,by omega⟩;obtain ⟨-,-,b,c⟩:=h;show Ih (Ll n) x x=some true;unfold Ih;rw [if_neg (by simp),if_neg (by simp),if_neg (by simp)];unfold Bm;rw [if_neg (by simp)];have key:∀ (q i:Nat),i≤x.Kids.length→x.Kids.length - i<q→Am (Ll n) x x q (i:Int)=some true:=by
   intro q
   induction q with
   | zero=>intro i _ h; omega
   | succ q d =>
    intro i f j;unfold Am;by_cases g:i<x.Kids.length
    ·have l:=b.le;rw [if_pos (by omega),lj,List.getElem?_eq_getElem g,Option.bind_some,Option.bind_some,a n _ (by omega) (c _ (List.getElem_mem g)),Option.bind_some,if_pos rfl,zh (by omega) (by omega),Option.bind_some];rw [show ((i:Int)+1)=((i+1:Nat):Int) by omega];exact d (i+1) (by omega) (by omega)
    ·rw [if_neg (by omega)]
  exact key _ 0 (by omega) (by omega)
theorem Sz (n:Nat):(Ll (n+1)).Ih ⟨0,0,[],[]⟩ ⟨0,0,[],[]⟩=some true:=by
 show Ih (Ll n) ⟨0,0,[],[]⟩ ⟨0,0,[],[]⟩=some true;unfold Ih;rw [if_neg (by simp),if_neg (by simp),if_neg (by simp)];unfold Bm;rw [if_neg (by simp)];show Am _ _ _ 1 0=_;unfold Am;rw [if_neg (by simp)]
theorem Ws (n:Nat):(Li (n+1)).Fg [] []=some true:=by
 show Fg n (Li n) [] []=some true;unfold Fg;rw [if_neg (by simp)];show hi n _ _ _ 1 0=_;unfold hi;rw [if_neg (by simp)]
theorem lB:∀ (k n:Nat) (l:List Eb),k+2≤n→l.length≤50→(∀ y ∈ l,bm k y∧Fi k y)→(Li n).Fg l l=some true∨90<k:=by
 intro k
 induction k with
 | zero =>
  intro n l m o h;left;obtain ⟨n,rfl⟩:∃ q,n=q+1:=⟨n - 1,by omega⟩;cases l with
  | nil=>exact Ws n
  | cons y l=>exact (h y (by simp)).1.elim
 | succ k e =>
  intro n l m o h;by_cases E:89<k
  ·right;omega
  left;obtain ⟨n,rfl⟩:∃ q,n=q+1:=⟨n - 1,by omega⟩;show Fg n (Li n) l l=some true;unfold Fg;rw [if_neg (by simp)];have empty:(Li n).Fg [] []=some true:=by
   obtain ⟨n,rfl⟩:∃ q,n=q+1:=⟨n - 1,by omega⟩;exact Ws n
  have key:∀ (q i:Nat),i≤l.length→l.length - i<q→hi n (Li n) l l q (i:Int)=some true:=by
   intro q
   induction q with
   | zero=>intro i _ h; omega
   | succ q p =>
    intro i F G;unfold hi;by_cases g:i<l.length
    ·obtain ⟨⟨H,K,r,s,t⟩,Da,u,v,w,z⟩:=h _ (List.getElem_mem g);generalize A:l[i]=x at *;have B:at_ l (i:Int)=some x:=by rw [lj,List.getElem?_eq_getElem g,A]
     have la:(Ll n).Ih x.X x.X=some true:=by
      by_cases j:x.Kind=6
      ·rw [Da j];obtain ⟨f,rfl⟩:∃ q,n=q+1:=⟨n - 1,by omega⟩;exact Sz f
      ·exact kB k n _ (by omega) (r j)
     have e2:(Li n).Fg x.Body x.Body=some true:=by
      by_cases a:x.Kind=3∨x.Kind=4
      ·obtain ⟨c,d⟩:=s a;exact (e n x.Body (by omega) c fun y b=>⟨d y b,w y b⟩).resolve_right (by omega)
      ·rw [u (fun h=>a (.inl h)) fun h=>a (.inr h)];exact empty
     have C:(Li n).Fg x.me x.me=some true:=by
      by_cases a:x.Kind=3
      ·obtain ⟨c,d⟩:=t a;exact (e n x.me (by omega) c fun y b=>⟨d y b,z y b⟩).resolve_right (by omega)
      ·rw [v a];exact empty
     have D:Cl (i:Int) (hi n (Li n) l l q) false=hi n (Li n) l l q ((i+1:Nat):Int):=by
      unfold Cl;rw [if_neg (by decide),zh (by omega) (by omega),Option.bind_some];rfl
     rw [if_pos (by omega),B,Option.bind_some,Option.bind_some,if_neg (not_not_intro rfl),Option.bind_some,Option.bind_some,if_neg (not_not_intro rfl),Option.bind_some,Option.bind_some,la,Option.bind_some,if_pos rfl,Option.bind_some,Option.bind_some,e2,Option.bind_some,if_pos rfl,Option.bind_some,Option.bind_some,C,Option.bind_some,Bool.not_true,D];exact p (i+1) (by omega) (by omega)
    ·rw [if_neg (by omega)]
  exact key _ 0 (by omega) (by omega)
theorem mB {fu:Nat}(p:1000≤fu){l:List dc}(h:ku l) (d:∀ x ∈ l,js (fu / 2) x):Rm fu l l=some true:=by
 unfold Rm;rw [if_neg (by simp)];have s:=h.le;have key:∀ (q i:Nat),i≤l.length→l.length - i<q→zj fu l l q (i:Int)=some true:=by
  intro q
  induction q with
  | zero=>intro i _ h; omega
  | succ q e =>
   intro i t u;unfold zj;by_cases g:i<l.length
   ·have a:=h.ok _ (List.getElem_mem g);have gb:=d _ (List.getElem_mem g);generalize k:l[i]=x at *;have m:at_ l (i:Int)=some x:=by rw [lj,List.getElem?_eq_getElem g,k]
    have v:x.Params.length≤6:=by
     by_cases b:x.Kind=1∨x.Kind=4
     ·rw [gb.UC b];simp
     ·have:=a.k1;have:=a.ho;exact (a.Cg (by omega)).1
    have la:(Li fu).Fg x.Body x.Body=some true:=by
     by_cases b:x.Kind=1
     ·rw [gb.Da b];obtain ⟨f,rfl⟩:∃ q,fu=q+1:=⟨fu - 1,by omega⟩;exact Ws f
     ·exact (lB 39 fu x.Body (by omega) (a.QC b) fun y c=>⟨a.mu b y c,Fi.down _ _ _ (by omega) (gb.mu y c)⟩).resolve_right (by omega)
    rw [if_pos (by omega),m,Option.bind_some,Option.bind_some];unfold Yq;simp only [ne_eq,not_true_eq_false,if_false,ch,decide_true,Bool.and_self,if_true,la,Option.bind_some,Bool.not_true];unfold Vk;rw [if_neg (by decide)];have inner:∀ (r j:Nat),j≤x.Params.length→x.Params.length - j<r→Ho (i:Int) x.Params x.Params (zj fu l l q) r (j:Int)=some true:=by
     intro r
     induction r with
     | zero=>intro j _ h; omega
     | succ r n =>
      intro j w z;unfold Ho;by_cases o:j<x.Params.length
      ·rw [if_pos (by omega),lj,List.getElem?_eq_getElem o,Option.bind_some,Option.bind_some,if_pos (by simp [ch]),zh (by omega) (by omega),Option.bind_some,show ((j:Int)+1)=((j+1:Nat):Int) by omega];exact n (j+1) (by omega) (by omega)
      ·rw [if_neg (by omega),zh (by omega) (by omega),Option.bind_some,show ((i:Int)+1)=((i+1:Nat):Int) by omega];exact e (i+1) (by omega) (by omega)
    exact inner _ 0 (by omega) (by omega)
   ·rw [if_neg (by omega)]
 exact key _ 0 (by omega) (by omega)
end Go.Y
namespace Go.Y
open Go.cc Go.Kc
abbrev pn:=List UInt8
def isLet (c:UInt8):Bool:=decide (97≤c.toNat∧c.toNat≤122∨c.toNat=95)
def wi (c:UInt8):Bool:=decide (48≤c.toNat∧c.toNat≤57)
theorem qv (c:UInt8):dj c=some (isLet c):=by
 rw [dj,isLet];split
 ·split
  ·exact congrArg some (decide_eq_true (by omega)).symm
  ·exact congrArg some (decide_eq_decide.2 (by omega))
 ·exact congrArg some (decide_eq_decide.2 (by omega))
theorem Tz (c:UInt8):Ej c=some (wi c):=by
 rw [Ej,wi];split
 ·exact congrArg some (decide_eq_decide.2 (by omega))
 ·exact congrArg some (decide_eq_false (by omega)).symm
def vj:List pn:=[[98,111,120],[102,110],[103,101,110],[116,97,115,107],[116,97,107,101,115],[121,105,101,108,100,115],[108,101,116],[105,102],[101,108,115,101],[119,104,105,108,101],[114,101,116,117,114,110],[115,116,111,112],[115,101,110,100],[111,117,116],[100,111],[114,101,99,118],[121,105,101,108,100],[115,116,97,114,116],[114,101,115,117,109,101],[97,108,105,118,101],[110,117,109],[98,111,111,108],[116,114,117,101],[102,97,108,115,101],[97,110,100],[111,114],[110,111,116]]
def Mg (c:UInt8):Bool:=isLet c || wi c
def Lq:pn→Bool
 | c::_=>isLet c
 | []=>true
def jh (w:pn):Bool:=decide (0<w.length) && decide (w.length≤12) && Lq w && w.all Mg && !vj.contains w
theorem ly (sub:List UInt8):∀ s:List UInt8,0≤Lib.index s sub ↔ ∃ i,i≤s.length∧sub.isPrefixOf (s.drop i)=true:=by
 intro s
 induction s with
 | nil =>
  simp only [Lib.index];cases sub with
  | nil=>simp
  | cons a l=>simp
 | cons b l j =>
  simp only [Lib.index];by_cases h:sub.isPrefixOf (b::l)=true
  ·rw [if_pos h];exact ⟨fun _=>⟨0,by simp,h⟩,fun _=>by omega⟩
  ·rw [if_neg h];have e:(0≤(if (Lib.index l sub == -1)=true then (-1:Int) else Lib.index l sub+1)) ↔ 0≤Lib.index l sub:=by
    by_cases f:Lib.index l sub=-1
    ·simp [f]
    ·have k:(Lib.index l sub == -1)=false:=by simpa using f
     rw [k];simp only [Bool.false_eq_true,if_false];have:-1≤Lib.index l sub:=by
      clear j f k h
      induction l with
      | nil=>simp only [Lib.index]; split <;> omega
      | cons c l m =>
       simp only [Lib.index];split
       ·omega
       ·split
        ·omega
        ·have:=m;omega
     omega
   rw [e,j];constructor
   ·rintro ⟨i,g,d⟩;exact ⟨i+1,by simpa using g,by simpa using d⟩
   ·rintro ⟨i,g,d⟩;cases i with
    | zero=>exact absurd (by simpa using d) h
    | succ i=>exact ⟨i,by simpa using g,by simpa using d⟩
theorem my:∀ i,i<Rj.length→(Rj.drop i).head?=some 32→((Rj.drop (i+1)).takeWhile (fun c=>c != 32)) ∈ vj∨(Rj.drop (i+1)).takeWhile (fun c=>c != 32)=[]:=by decide +kernel
theorem Uz:∀ w ∈ vj,Lib.contains Rj (32::w++[32])=true:=by decide +kernel
theorem Lv (l r:List UInt8) (h:∀ c ∈ l,c≠32):(l++32::r).takeWhile (fun c=>c != 32)=l:=by
 induction l with
 | nil=>simp
 | cons c l a =>
  have b:=h c (by simp);rw [List.cons_append,List.takeWhile_cons];simp only [bne_iff_ne,ne_eq,b,not_false_eq_true,if_true];rw [a fun d gb=>h d (by simp [gb])]
theorem Vz {l:List UInt8}(b:l≠[]) (hw:∀ c ∈ l,c≠32):Lib.contains Rj (32::l++[32])=vj.contains l:=by
 rw [Bool.eq_iff_iff];constructor
 ·intro h;have d:=(ly _ _).1 (of_decide_eq_true h);obtain ⟨i,j,e⟩:=d;obtain ⟨r,a⟩:=List.isPrefixOf_iff_prefix.1 e;have f:i<Rj.length:=by
   rcases Nat.lt_or_ge i Rj.length with h | h
   ·exact h
   ·rw [List.drop_eq_nil_of_le h] at a;simp at a
  have e2:Rj.drop (i+1)=l++32::r:=by
   have:=congrArg List.tail a;simpa using this.symm
  have g:(Rj.drop i).head?=some 32:=by rw [← a];rfl
  rcases my i f g with h | h
  ·rw [e2,Lv l r hw] at h;simpa using h
  ·rw [e2,Lv l r hw] at h;exact absurd h b
 ·intro h;exact Uz l (by simpa using h)
theorem nB {l:List UInt8}(h:l.all Mg=true):∀ c ∈ l,c≠32:=by
 intro c a e;subst e;exact absurd (List.all_eq_true.1 h 32 a) (by decide)
theorem JC (c:UInt8):Hk c=some (Mg c):=by
 rw [Hk,qv,pc,Mg];cases h:isLet c with
 | true=>rfl
 | false=>rw [if_neg (by decide),Tz,pc,Bool.false_or]
theorem Vy (w:pn) (hw:w.length≤12):∀ (m i:Nat),i≤w.length→w.length<m+i→xj w Hk m i=some ((i+((w.drop i).takeWhile Mg).length:Nat):Int):=by
 intro m
 induction m with
 | zero=>intro i a b; omega
 | succ m d =>
  intro i a b;rw [xj];by_cases c:i<w.length
  ·rw [if_pos (by omega),lj,List.getElem?_eq_getElem c,pc,JC,pc,xl,List.drop_eq_getElem_cons c,List.takeWhile_cons];cases h:Mg w[i] with
   | true =>
    rw [if_pos rfl,Xh (by omega),pc,show ((i:Int)+1)=((i+1:Nat):Int) from rfl,d (i+1) (by omega) (by omega)];simp;omega
   | false=>simp
  ·rw [if_neg (by omega),xl,if_neg (by decide),List.drop_eq_nil_of_le (by omega)];simp
theorem pw (l:pn):decide (((l.takeWhile Mg).length:Int)=(l.length:Int))=l.all Mg:=by
 induction l with
 | nil=>rfl
 | cons c l a =>
  rw [List.all_cons,List.takeWhile_cons];cases h:Mg c with
  | false=>simp; omega
  | true =>
   rw [Bool.true_and,← a];simp only [if_true,List.length_cons];exact decide_eq_decide.2 (by omega)
theorem Co {fu:Nat}(i:20≤fu) (w:pn):Yg fu w=some (jh w):=by
 have bad:bk fu w true=some false:=rfl;rw [Yg];by_cases d:(w.length:Int)<1
 ·rw [if_pos d,bad,jh,decide_eq_false (by omega)];rfl
 rw [if_neg d];by_cases e:(12:Int)<w.length
 ·rw [if_pos e,bad,jh,decide_eq_false (show ¬ w.length≤12 by omega)];simp
 rw [if_neg e];cases w with
 | nil=>simp at d
 | cons c u =>
  rw [Pw (by simp),pc];show Option.bind (dj c) _=_;rw [qv,pc];cases f:isLet c with
  | false =>
   rw [if_neg (by decide),bad,jh,Lq,f];simp
  | true =>
   have b:(c::u).length≤12:=by omega
   have la:cat [32] (c::u)=some (32::c::u):=if_pos (by simp at b ⊢;omega);have e2:cat (32::c::u) [32]=some (32::(c::u)++[32]):=if_pos (by simp at b ⊢;omega);rw [if_pos rfl,la,pc,e2,pc,zq,if_pos (by decide +kernel),pc];have h:jh (c::u)=((c::u).all Mg && !vj.contains (c::u)):=by
    rw [jh,Lq,f,decide_eq_true (by simp),decide_eq_true b];simp
   rw [h];have g:ik fu (c::u) Hk=some ((((c::u).takeWhile Mg).length:Nat):Int):=by
    rw [ik,show (0:Int)=((0:Nat):Int) from rfl,Vy _ b fu 0 (by omega) (by omega)];simp
   by_cases a:(c::u).all Mg=true
   ·rw [Vz (by simp) (nB a),a,Bool.true_and];cases j:vj.contains (c::u) with
    | true=>rfl
    | false=>rw [bk,if_neg (by decide),g,pc,pw,a]; rfl
   ·have a:(c::u).all Mg=false:=by simpa using a
    rw [a,Bool.false_and];cases Lib.contains Rj (32::(c::u)++[32]) with
    | true=>rfl
    | false=>rw [bk,if_neg (by decide),g,pc,pw,a]
def cls (c:UInt8):Int:=if isLet c then 1 else if wi c then 2 else if c.toNat=32∨c.toNat=9∨c.toNat=10 then 3 else if c.toNat=35 then 4 else 5
theorem Mv (c:UInt8):Il c=some (cls c):=by
 have d:isLet c=decide (97≤c.toNat∧c.toNat≤122∨c.toNat=95):=rfl;have e:wi c=decide (48≤c.toNat∧c.toNat≤57):=rfl;have ou:∀ b,b=decide (c.toNat=32∨c.toNat=9∨c.toNat=10)→tn c b=some (if c.toNat=32∨c.toNat=9∨c.toNat=10 then 3 else if c.toNat=35 then 4 else 5):=by
  intro b a;rw [tn,a];by_cases h:c.toNat=32∨c.toNat=9∨c.toNat=10
  ·rw [decide_eq_true h,if_pos rfl,if_pos h]
  ·rw [decide_eq_false h,if_neg (by decide),if_neg h];by_cases f:c.toNat=35
   ·rw [if_pos (by omega),if_pos f]
   ·rw [if_neg (by omega),if_neg f]
 have Zw:∀ b,b=wi c→vo c b=some (if wi c then 2 else if c.toNat=32∨c.toNat=9∨c.toNat=10 then 3 else if c.toNat=35 then 4 else 5):=by
  intro b a;rw [vo,a];cases wi c with
  | true=>rfl
  | false =>
   simp only [Bool.false_eq_true,if_false];by_cases g:c.toNat=32
   ·rw [if_pos (show ((c.toNat:Int)=32) by omega),ou _ (decide_eq_true (.inl g)).symm]
   rw [if_neg (show ¬ ((c.toNat:Int)=32) by omega)];by_cases i:c.toNat=9
   ·rw [if_pos (show ((c.toNat:Int)=9) by omega),ou _ (decide_eq_true (.inr (.inl i))).symm]
   rw [if_neg (show ¬ ((c.toNat:Int)=9) by omega),ou _ (decide_eq_decide.2 (by omega))]
 have Mp:∀ b,b=isLet c→wo c b=some (cls c):=by
  intro b a;rw [wo,a,cls];cases isLet c with
  | true=>rfl
  | false =>
   simp only [Bool.false_eq_true,if_false];by_cases h:(48:Int)≤(c.toNat:Int)
   ·rw [if_pos h,Zw _ (by rw [e];exact decide_eq_decide.2 (by omega))]
   ·rw [if_neg h,Zw _ (by rw [e];exact (decide_eq_false (by omega)).symm)]
 rw [Il];have Np:∀ b,b=decide (97≤c.toNat∧c.toNat≤122)→xo c b=some (cls c):=by
  intro b a;rw [xo,a];by_cases h:97≤c.toNat∧c.toNat≤122
  ·rw [decide_eq_true h,if_pos rfl,Mp true (by rw [d];exact (decide_eq_true (.inl h)).symm)]
  ·rw [decide_eq_false h,if_neg (by decide),Mp _ (by rw [d];exact decide_eq_decide.2 (by omega))]
 by_cases h:(97:Int)≤(c.toNat:Int)
 ·rw [if_pos h,Np _ (decide_eq_decide.2 (by omega))]
 ·rw [if_neg h,Np _ (decide_eq_false (by omega)).symm]
theorem dC (w:pn):rq w=some (vj.contains w):=by
 have L:∀ (m i:Nat),i≤27→27<m+i→Mo w m i=some ((vj.drop i).contains w):=by
  intro m
  induction m with
  | zero=>intro i b d; omega
  | succ m f =>
   intro i b d;rw [Mo];by_cases c:i<27
   ·have hlen:vj.length=27:=rfl;have a:i<vj.length:=by omega
    rw [if_pos (by omega)];show Option.bind (at_ vj (i:Int)) _=_;rw [lj,List.getElem?_eq_getElem a,pc,List.drop_eq_getElem_cons a,List.contains_cons];by_cases e:vj[i]=w
    ·rw [if_pos e,e];simp
    ·have g:(w == vj[i])=false:=by simpa using Ne.symm e
     rw [if_neg e,Xh (by omega),pc,g,Bool.false_or];exact f (i+1) (by omega) (by omega)
   ·rw [if_neg (by omega),List.drop_eq_nil_of_le (by show 27≤i;omega)];rfl
 rw [rq];exact L 28 0 (by omega) (by omega)
theorem Lo (w:pn):mi w=some (jh w):=by
 have n:∀ c,(cls c=1 ↔ isLet c=true)∧(isLet c=false→(cls c=2 ↔ wi c=true)):=by
  intro c;unfold cls;cases isLet c<;>cases wi c<;>simp;split
  ·decide
  ·split<;>decide
 have small:∀ c,Mg c=true→c.toNat<128:=by
  intro c h;unfold Mg isLet wi at h;simp at h;omega
 have L:∀ (m q:Nat),q≤w.length→w.length<m+q→(w.take q).all Mg=true→(0<q→Lq w=true)→dk w m q=some (jh w):=by
  intro m
  induction m with
  | zero=>intro q o r; omega
  | succ m s =>
   intro q o r f i;rw [dk];by_cases c:q<w.length
   ·rw [if_pos c,lj,List.getElem?_eq_getElem c,pc,Mv,pc];obtain ⟨k1,j⟩:=n w[q];have bad:jh w=false→qm w q (dk w m) true=some (jh w):=fun h=>by rw [h];rfl
    have k:Mg w[q]=true→(q=0→isLet w[q]=true)→qm w q (dk w m) false=some (jh w):=by
     intro hw g;rw [qm,if_neg (by decide)];have e:wd w q=1:=by
      show (Utf8.decode ⟨⟨w⟩⟩ q).2=1;rw [decode_ascii ⟨⟨w⟩⟩ q c (small _ hw)]
     rw [e];refine s (q+1) (by omega) (by omega) ?_ fun _=>?_
     ·rw [List.take_succ_eq_append_getElem c,List.all_append,f];simp [hw]
     ·rcases Nat.eq_zero_or_pos q with h | h
      ·subst h;cases w with
       | nil=>rfl
       | cons d u=>exact g rfl
      ·exact i h
    have VC:Mg w[q]=false→jh w=false:=fun h=>by
     have:w.all Mg=false:=List.all_eq_false.2 ⟨_,List.getElem_mem c,by simp [h]⟩;rw [jh,this];simp
    by_cases a:cls w[q]=1
    ·rw [if_neg (by simpa using a)];have:=k1.1 a;exact k (by rw [Mg,this];rfl) fun _=>this
    ·rw [if_pos a];have b:isLet w[q]=false:=by
      cases h:isLet w[q] with
      | false=>rfl
      | true=>exact absurd (k1.2 h) a
     by_cases c2:cls w[q]=2
     ·have gb:=(j b).1 c2;rw [if_neg (by simpa using c2)];by_cases l:q=0
      ·rw [decide_eq_true (by omega)];refine bad ?_;subst l;cases w with
       | nil=>simp at c
       | cons d u =>
        have:isLet d=false:=b;rw [jh,Lq,this];simp
      ·rw [decide_eq_false (by omega)];exact k (by rw [Mg,gb];simp) fun h=>absurd h l
     ·rw [if_pos c2];refine bad (VC ?_);have:wi w[q]=false:=by
       cases h:wi w[q] with
       | false=>rfl
       | true=>exact absurd ((j b).2 h) c2
      rw [Mg,b,this];rfl
   ·have g:q=w.length:=by omega
    subst g;rw [List.take_length] at f;rw [if_neg c];by_cases p:(0:Int)<(w.length:Int)
    ·rw [if_pos p];by_cases pa:(w.length:Int)≤12
     ·rw [if_pos pa,dC,pc,jh,f,i (by omega),decide_eq_true (by omega),decide_eq_true (by omega)];simp
     ·rw [if_neg pa,jh,decide_eq_false (show ¬ w.length≤12 by omega)];simp
    ·rw [if_neg p,jh,decide_eq_false (by omega)];simp
 rw [mi];exact L (w.length+1) 0 (by omega) (by omega) (by simp) (by omega)
end Go.Y
namespace Go.Y
open Go.cc Go.Kc
theorem Gp {α β:Type}{f:α→Option β}:Option.bind (none:Option α) f=none:=rfl
theorem Ht (k d:Int):(i64 (k+1)=none∧vk k d=none∧Ii k d=none)∨(∃ i,vk k d=some (false,i)∧Ii k d=some (4,i))∨(∃ i,vk k d=some (true,i)∧Ii k d=some (0,i)):=by
 cases h:i64 (k+1) with
 | none=>exact .inl ⟨rfl,by rw [vk,h,Gp],by rw [Ii,h,Gp]⟩
 | some i =>
  rw [vk,Ii,h,pc,pc];by_cases c:i≤2000
  ·rw [if_pos c,if_neg (by omega)];by_cases c2:d≤40
   ·rw [decide_eq_true c2,decide_eq_false (by omega)];exact .inr (.inr ⟨i,rfl,rfl⟩)
   ·rw [decide_eq_false c2,decide_eq_true (by omega)];exact .inr (.inl ⟨i,rfl,rfl⟩)
  ·rw [if_neg c,if_pos (by omega)];exact .inr (.inl ⟨i,rfl,rfl⟩)
theorem ny {k:Int}(a:1≤k) (b:k≤24):vr k=some (ag k):=by
 have:k=1∨k=2∨k=3∨k=4∨k=5∨k=6∨k=7∨k=8∨k=9∨k=10∨k=11∨k=12∨k=13∨k=14∨k=15∨k=16∨k=17∨k=18∨k=19∨k=20∨k=21∨k=22∨k=23∨k=24:=by omega
 rcases this with rfl | rfl | rfl | rfl | rfl | rfl | rfl | rfl | rfl | rfl | rfl | rfl | rfl | rfl | rfl | rfl | rfl | rfl | rfl | rfl | rfl | rfl | rfl | rfl<;>rfl
theorem Wy {k:Int}(a:1≤k) (b:k≤24):ag k<0 ↔ k=19∨k=22:=by
 have:k=1∨k=2∨k=3∨k=4∨k=5∨k=6∨k=7∨k=8∨k=9∨k=10∨k=11∨k=12∨k=13∨k=14∨k=15∨k=16∨k=17∨k=18∨k=19∨k=20∨k=21∨k=22∨k=23∨k=24:=by omega
 rcases this with rfl | rfl | rfl | rfl | rfl | rfl | rfl | rfl | rfl | rfl | rfl | rfl | rfl | rfl | rfl | rfl | rfl | rfl | rfl | rfl | rfl | rfl | rfl | rfl<;>decide
theorem Wz:∀ (n a:Nat) (x:ab) (d k:Int),62≤n+d→62≤a+d→0≤d→d≤41→(wk a).hj k x d=(hf n).Hh k x d:=by
 intro n
 induction n with
 | zero=>intro a x d k z A B C; omega
 | succ n D =>
  intro a x d k z A B C;obtain ⟨a,rfl⟩:∃ m,a=m+1:=⟨a - 1,by omega⟩;show hj (wk a) k x d=Hh n (hf n) k x d;rw [hj,Hh];rcases Ht k d with ⟨-,la,e2⟩ | ⟨i,la,e2⟩ | ⟨i,la,e2⟩
  ·rw [la,e2,Gp,Gp]
  ·rw [la,e2,pc,pc,if_neg (show ¬ ((false,i):Bool×Int).1=true by simp),if_pos (show ((4,i):Int×Int).1≠0 by simp)]
  ·rw [la,e2,pc,pc,if_pos rfl,if_neg (show ¬ ((0,i):Int×Int).1≠0 by simp)];by_cases gb:d=41
   ·subst gb;exfalso;rw [Ii] at e2;cases h:i64 (k+1) with
    | none=>rw [h,Gp] at e2; cases e2
    | some j =>
     rw [h,pc,decide_eq_true (by decide)] at e2;split at e2<;>cases e2
   have E:20≤n:=by omega
   have L:∀ (m:Nat) (j q:Int),Jo (wk a) x d m j q=mm (hf n) x d m j q:=by
    intro m
    induction m with
    | zero=>intro j q; rfl
    | succ m F =>
     intro j q;rw [Jo,mm];split
     ·congr 1;funext y;rw [Xh (by omega),pc,pc,D a y (d+1) q (by omega) (by omega) (by omega) (by omega)];congr 1;funext r;split
      ·rfl
      ·congr 1;funext G;exact F G r.2
     ·rfl
   have o:∀ b,An (wk a) x d (true,i) b=zl (hf n) x d (0,i) b:=by
    intro b;cases b with
    | true=>rfl
    | false=>rw [An,zl]; exact L _ _ _
   have s:∀ b,(b=false→1≤x.Kind∧x.Kind≤24)→Ko (wk a) x d (true,i) b=yj n (hf n) x d (0,i) b:=by
    intro b H;cases b with
    | true=>rfl
    | false =>
     obtain ⟨k1,t⟩:=H rfl;have M:=Kv x.Kind;have K:∀ b,El (wk a) x d (true,i) b=Qk (hf n) x d (0,i) (ag x.Kind) b:=by
      intro b;cases b with
      | true=>rfl
      | false =>
       rw [El,Qk];simp only [Bool.false_eq_true,if_false];rw [ny k1 t,pc];by_cases c:0≤ag x.Kind
       ·rw [if_pos c,if_pos c];by_cases c2:(x.Kids.length:Int)≠ag x.Kind
        ·rw [if_pos c2,decide_eq_true c2,o];rfl
        ·rw [if_neg c2,decide_eq_false c2,Al,if_neg (by decide),if_neg (by omega),o,decide_eq_false (by omega)]
       ·rw [if_neg c,if_neg c,Al,if_neg (by decide),if_pos (by omega),o]
     have e:cj (wk a) x d (true,i) false=Gi n (hf n) x d (0,i) (ag x.Kind) false:=by
      have p:=Wy k1 t;rw [cj,Gi];simp only [Bool.false_eq_true,if_false,Lo,Co E,pc,K];by_cases c3:x.Kind=3
      ·rw [if_pos c3,if_pos c3]
      rw [if_neg c3,if_neg c3];by_cases c20:x.Kind=20
      ·rw [if_pos c20,if_pos c20]
      rw [if_neg c20,if_neg c20];by_cases f:x.Kind=19
      ·rw [if_pos f,if_pos (p.2 (.inl f))]
      rw [if_neg f];by_cases g:x.Kind=22
      ·rw [if_pos g,if_pos (p.2 (.inr g))]
      rw [if_neg g,if_neg (fun h=>by rcases p.1 h with h | h;exact f h;exact g h)]
     have T:cj (wk a) x d (true,i) true=some (3,i):=rfl;have u:Bl n (hf n) x d (0,i) (ag x.Kind) true=some (3,i):=rfl;have v:Gi n (hf n) x d (0,i) (ag x.Kind) true=some (3,i):=rfl;have w:Bl n (hf n) x d (0,i) (ag x.Kind) false=(if x.Kind=2 then (if x.N≠0 then Gi n (hf n) x d (0,i) (ag x.Kind) (decide (x.N≠1)) else Gi n (hf n) x d (0,i) (ag x.Kind) false) else Gi n (hf n) x d (0,i) (ag x.Kind) false):=rfl;rw [Ko,yj];simp only [Bool.false_eq_true,if_false];rw [Fu,pc];by_cases l:x.Kind=1
     ·rw [if_pos l,if_pos l,if_neg (show ¬ x.Kind=2 by omega)];by_cases ta:x.N<0
      ·rw [if_pos ta,if_pos ta,T,u]
      rw [if_neg ta,if_neg ta];by_cases pa:(999999999999999:Int)<x.N
      ·rw [if_pos pa,decide_eq_true pa,T,u]
      ·rw [if_neg pa,decide_eq_false pa,w,if_neg (show ¬ x.Kind=2 by omega),e]
     rw [if_neg l,if_neg l,w];by_cases c2:x.Kind=2
     ·rw [if_pos c2,if_pos c2];by_cases ta:x.N<0
      ·rw [if_pos ta,if_pos (by omega),decide_eq_true (by omega),T,v]
      rw [if_neg ta];by_cases oa:x.N≠0
      ·rw [if_pos oa];by_cases pa:(1:Int)<x.N
       ·rw [decide_eq_true pa,decide_eq_true (by omega),T,v]
       ·rw [decide_eq_false pa,decide_eq_false (by omega),e]
      ·rw [if_neg oa,decide_eq_false (by omega),e]
     ·rw [if_neg c2,if_neg c2,e]
   by_cases c:x.Kind<1
   ·rw [if_pos c,if_pos c];exact s true (fun h=>by cases h)
   ·rw [if_neg c,if_neg c];exact s _ (fun h=>by have:=of_decide_eq_false h;omega)
theorem Xy:∀ (n a:Nat) (l:List Eb) (d k:Int),2*(42 - d)+65≤n→(42 - d)+65≤a→0≤d→d≤41→(Hj a).ni k l d=(Uf n).Zg k l d:=by
 intro n
 induction n using Nat.strongRecOn with
 | _ n t =>
  intro a l d k E F G H;obtain ⟨n,rfl⟩:∃ m,n=m+2:=⟨n - 2,by omega⟩;obtain ⟨a,rfl⟩:∃ m,a=m+1:=⟨a - 1,by omega⟩;show ni a (Hj a) k l d=Zg (Uf (n+1)) k l d;rw [ni,Zg];by_cases f:(50:Int)<(l.length:Int)
  ·rw [if_pos f,if_pos f]
  rw [if_neg f,if_neg f];have A:20≤n:=by omega
  have S:∀ (x:Eb) (i k:Int) (K:Int→Int→Option (Int×Int)),((vk k d).bind fun g=>if g.1=true then (if x.Kind<1 then tm a (Hj a) d i x g K true else tm a (Hj a) d i x g K (decide ((9:Int)<x.Kind))) else some (4,g.2)) =
    (Ji n (Uf n) k x d).bind fun r=>if r.1≠0 then some (r.1,r.2) else (i64 (i+1)).bind fun j=>K j r.2:=by
   intro x i k K;rw [Ji];have fin:∀ q:Int,((some ((0:Int),q):Option (Int×Int)).bind fun r=>if r.1≠0 then some (r.1,r.2) else (i64 (i+1)).bind fun j=>K j r.2)=(i64 (i+1)).bind fun j=>K j q:=fun q=>by rw [pc,if_neg (by simp)]
   have bad:∀ e q:Int,e≠0→((some (e,q):Option (Int×Int)).bind fun r=>if r.1≠0 then some (r.1,r.2) else (i64 (i+1)).bind fun j=>K j r.2)=some (e,q):=fun e q h=>by rw [pc,if_pos h]
   rcases Ht k d with ⟨-,la,e2⟩ | ⟨q,la,e2⟩ | ⟨q,la,e2⟩
   ·rw [la,e2];rfl
   ·rw [la,e2,pc,pc,if_neg (show ¬ ((false,q):Bool×Int).1=true by simp),if_pos (show ((4,q):Int×Int).1≠0 by simp),bad 4 q (by decide)]
   ·rw [la,e2,pc,pc,if_pos rfl,if_neg (show ¬ ((0,q):Int×Int).1≠0 by simp)];by_cases gb:d=41
    ·subst gb;exfalso;rw [Ii] at e2;cases h:i64 (k+1) with
     | none=>rw [h,Gp] at e2; cases e2
     | some j =>
      rw [h,pc,decide_eq_true (by decide)] at e2;split at e2<;>cases e2
    have u:∀ z:Int,yo (Hj a) d i x K z=(nm (Uf n) x d z).bind fun r=>if r.1≠0 then some (r.1,r.2) else (i64 (i+1)).bind fun j=>K j r.2:=by
     intro z;rw [yo,nm];by_cases c3:x.Kind=3
     ·rw [if_pos c3,if_pos c3,Xh (by omega),pc,pc,t n (by omega) a x.me (d+1) z (by omega) (by omega) (by omega) (by omega)];cases (Uf n).Zg z x.me (d+1) with
      | none=>rfl
      | some r=>rfl
     ·rw [if_neg c3,if_neg c3,fin]
    have v:∀ (r:Int×Int) b,zo (Hj a) d i x r K b=(om (Uf n) x d r b).bind fun r=>if r.1≠0 then some (r.1,r.2) else (i64 (i+1)).bind fun j=>K j r.2:=by
     intro r b;cases b with
     | false=>exact u r.2
     | true =>
      rw [zo,om,if_pos rfl,if_pos rfl,Xh (by omega),pc,pc,t n (by omega) a x.Body (d+1) r.2 (by omega) (by omega) (by omega) (by omega)];cases (Uf n).Zg r.2 x.Body (d+1) with
      | none=>rfl
      | some r' =>
       rw [pc,pc];by_cases c:r'.1≠0
       ·rw [if_pos c,if_pos c,bad _ _ c]
       ·rw [if_neg c,if_neg c];exact u r'.2
    have B:∀ b,rm a (Hj a) d i x (true,q) K b=(Rk n (Uf n) x d (0,q) b).bind fun r=>if r.1≠0 then some (r.1,r.2) else (i64 (i+1)).bind fun j=>K j r.2:=by
     intro b;cases b with
     | true=>rfl
     | false =>
      rw [rm,Rk];simp only [Bool.false_eq_true,if_false];by_cases o:x.Kind=6
      ·rw [if_pos o,if_pos o,fin]
      rw [if_neg o,if_neg o,Xh (by omega),pc,pc,Wz n a x.X (d+1) q (by omega) (by omega) (by omega) (by omega)];cases (hf n).Hh q x.X (d+1) with
      | none=>rfl
      | some r' =>
       rw [pc,pc];by_cases c:r'.1≠0
       ·rw [if_pos c,if_pos c,bad _ _ c]
       ·rw [if_neg c,if_neg c];by_cases c3:x.Kind=3
        ·rw [if_pos c3,if_pos c3];exact v r' true
        ·rw [if_neg c3,if_neg c3];exact v r' _
    have w:∀ b,tm a (Hj a) d i x (true,q) K b=(Sk n (Uf n) x d (0,q) b).bind fun r=>if r.1≠0 then some (r.1,r.2) else (i64 (i+1)).bind fun j=>K j r.2:=by
     intro b;cases b with
     | true=>rfl
     | false =>
      rw [tm,Sk];simp only [Bool.false_eq_true,if_false,Lo,Co A,pc,B];by_cases p:x.Kind=1
      ·rw [if_pos p,if_pos p]
      rw [if_neg p,if_neg p];by_cases c2:x.Kind=2
      ·rw [if_pos c2,if_pos c2]
      rw [if_neg c2,if_neg c2];by_cases s:x.Kind=7
      ·rw [if_pos s,if_pos s]
      ·rw [if_neg s,if_neg s]
    by_cases c:x.Kind<1
    ·rw [if_pos c,if_pos c];exact w true
    ·rw [if_neg c,if_neg c];exact w _
  have L:∀ (m:Nat) (j q:Int),ek a (Hj a) l d m j q=fm (Uf (n+1)) l d m j q:=by
   intro m
   induction m with
   | zero=>intro j q; rfl
   | succ m C =>
    intro j q;rw [ek,fm];split
    ·congr 1;funext y;rw [S];show _=Option.bind (Ji n (Uf n) q y d) _;congr 1;funext r;split
     ·rfl
     ·congr 1;funext D;exact C D r.2
    ·rfl
  exact L _ _ _
theorem It {fu:Nat}(c:20≤fu) (t:fe):Mn t=Kl fu t:=by
 rw [Mn,Kl];have a:∀ b,Io t b=xn fu t b:=by
  intro b;cases b with
  | true=>rfl
  | false =>
   rw [Io,xn];simp only [Bool.false_eq_true,if_false,Lo,Co c,pc];rfl
 rw [a,a]
theorem oB {fu:Nat}(o:200≤fu) (x:dc) (k:Int):sq fu k x=Ln fu k x:=by
 rw [sq,Ln];rcases Ht k 1 with ⟨-,la,e2⟩ | ⟨q,la,e2⟩ | ⟨q,la,e2⟩
 ·rw [la,e2];rfl
 ·rw [la,e2,pc,pc,if_neg (show ¬ ((false,q):Bool×Int).1=true by simp),if_pos (show ((4,q):Int×Int).1≠0 by simp)]
 ·rw [la,e2,pc,pc,if_pos rfl,if_neg (show ¬ ((0,q):Int×Int).1≠0 by simp)];have d:∀ b,(b=false→1≤x.Kind∧x.Kind≤4)→So fu x (true,q) b=Uk fu x (0,q) b:=by
   intro b f;cases b with
   | true=>rfl
   | false =>
    obtain ⟨k1,ho⟩:=f rfl;have g:No fu x (true,q)=vm fu x (0,q):=by
     rw [No,vm];by_cases c:x.Kind=1
     ·rw [if_pos c,if_neg (show ¬ x.Kind≠1 by omega)];have e:∀ b,Hm fu x (true,q) b=Fo (0,q) b:=by
       intro b;cases b with
       | true=>rfl
       | false=>rw [Hm]; simp only [Bool.false_eq_true,if_false]; rw [if_pos c]; rfl
      rw [e,e]
     ·rw [if_neg c,if_pos c,Hm];simp only [Bool.false_eq_true,if_false];rw [if_neg c,Xy fu fu x.Body 2 q (by omega) (by omega) (by omega) (by omega)]
    have j:Oo fu x (true,q)=wm fu x (0,q):=by
     rw [Oo,wm,It (by omega:20≤fu),g];by_cases c:x.Kind<4
     ·rw [if_pos c,if_pos (by omega)]
     ·rw [if_neg c,if_neg (by omega)]
    have a:Po fu x (true,q)=xm fu x (0,q):=by
     rw [Po,xm,It (by omega:20≤fu),j]
    have L:∀ (m:Nat) (i:Int),Qo fu x (true,q) m i=ym fu x (0,q) m i:=by
     intro m
     induction m with
     | zero=>intro i; rfl
     | succ m l =>
      intro i;rw [Qo,ym,a];simp only [It (by omega:20≤fu),Lo,Co (by omega:20≤fu),pc,l]
    have n:∀ b,Ro fu x (true,q) b=zm fu x (0,q) b:=by
     intro b;cases b with
     | false=>exact a
     | true =>
      rw [Ro,zm,L,a];try rfl
    rw [So,Uk];simp only [Bool.false_eq_true,if_false,Lo,Co (by omega:20≤fu),pc,n]
  by_cases c:x.Kind<1
  ·rw [if_pos c,if_pos c];exact d true (fun h=>by cases h)
  ·rw [if_neg c,if_neg c];exact d _ (fun h=>by have:=of_decide_eq_false h;omega)
theorem Yy {fu:Nat}(a:200≤fu) (l:List dc):gq fu l=Gl fu l:=by
 rw [gq,Gl];have L:∀ (m:Nat) (i k:Int),Ao fu l m i k=gm fu l m i k:=by
  intro m
  induction m with
  | zero=>intro i k; rfl
  | succ m b =>
   intro i k;rw [Ao,gm];simp only [oB a,b]
 rw [L]
end Go.Y
namespace Go.Y
open Go.cc Go.Kc
abbrev sh (β:Type):=Option (β×sb×Int×Int×Int×Int)
abbrev Vw:=Option (sb×Int×Int×Int×Int)
section
variable {fu:Nat}{e d d2 er a:Int}{α β Zj:Type}
theorem Sc (l:sb) (e d er a:Int):zi l e d er a=some (Wg l e):=by
 cases l with
 | nil=>rfl
 | cons t l =>
  unfold zi;rw [if_pos (by simp),Qf];rfl
theorem qi (h:er≠0) (l:sb) (e d a:Int):pg l e d er a=some false:=by
 unfold pg;simp [h]
theorem ud (h:er≠0) (l:sb) (e d a:Int) (w:List UInt8):Sm l e d er a w=some false:=by
 unfold Sm;rw [qi h];rfl
theorem gd (h:er≠0) (l:sb) (e d a x y:Int):wh l e d er a x y=some (l,e,d,er,a):=by
 unfold wh;rw [qi h];rfl
theorem bd (h:er≠0) (l:sb) (e d a:Int) (w:List UInt8):gf l e d er a w=some (false,l,e,d,er,a):=by
 unfold gf;rw [ud h];rfl
theorem ad (h:er≠0) (l:sb) (e d a:Int) (w:List UInt8):Bf l e d er a w=some (l,e,d,er,a):=by
 unfold Bf;rw [bd h,Option.bind_some,if_neg (by simp),Sc,Option.bind_some,gd h];rfl
theorem nd (h:er≠0) (l:sb) (e d a:Int):Rg l e d er a=some ([],l,e,d,er,a):=by
 unfold Rg;rw [qi h,Option.bind_some,if_neg (by simp)];unfold Cn;rw [if_pos rfl,Sc,Option.bind_some,gd h];rfl
theorem xd (h:er≠0) (l:sb) (e d a:Int):Tl l e d er a=some (0,l,e,d,er,a):=by
 unfold Tl;rw [qi h,Option.bind_some,if_neg (by simp)];unfold Gn;rw [if_pos rfl,Sc,Option.bind_some,gd h];rfl
theorem yd (h:er≠0) (l:sb) (e d a:Int):Ik l e d er a=some (⟨3,[]⟩,l,e,d,er,a):=by
 unfold Ik;rw [bd h,Option.bind_some,if_neg (by simp),bd h,Option.bind_some,if_neg (by simp),nd h];rfl
theorem qw (h:er≠0) (b:0≤d) (c:d≤1000) (l:sb) (e a:Int):Sj l e d er a=some (false,l,e,d+1,er,a):=by
 unfold Sj;rw [zh (by omega) (by omega),Option.bind_some];split
 ·rw [Sc,Option.bind_some,gd h,Option.bind_some];unfold ep;rw [qi h];rfl
 ·unfold ep;rw [qi h];rfl
theorem jo (h:er≠0) (n:Nat) (l:sb) (e d a:Int) (acc:List TParam):ji (n+1) l e d er a acc=some (acc,l,e,d,er,a):=by
 unfold ji;rw [qi h,Option.bind_some,if_neg (by simp)];unfold Tp;rw [if_neg (by simp)]
theorem Lx (h:er≠0) (b:1≤fu) (l:sb) (e d a:Int):Jl fu l e d er a=some ([],l,e,d,er,a):=by
 obtain ⟨n,rfl⟩:∃ n,fu=n+1:=⟨fu - 1,by omega⟩;unfold Jl;rw [ad h,Option.bind_some,jo h]
theorem rr (h:er≠0) (b:0≤d) (c:d≤1000) (n:Nat) (l:sb) (e a:Int):(qd (n+1)).uf l e d er a=some (⟨0,0,[],[]⟩,l,e,d,er,a):=by
 show uf (qd n) l e d er a=_;unfold uf;rw [qw h b c,Option.bind_some,if_neg (by simp)];unfold Im;rw [Int.add_sub_cancel,zh (by omega) (by omega)];rfl
theorem ss (h:er≠0){self:Dg}{c:Int}(n:Nat) (l:sb) (e d a:Int) (acc:List ab):jf self c (n+1) l e d er a acc=some (acc,l,e,d,er,a):=by
 unfold jf;rw [qi h,Option.bind_some,if_neg (by simp)];unfold To;split
 ·rw [ad h];rfl
 ·rfl
theorem Zy (h:er≠0) (n:Nat) (l:sb) (e d a c:Int):(qd (n+2)).fg l e d er a c=some ([],l,e,d,er,a):=by
 show fg (n+1) (qd (n+1)) l e d er a c=_;unfold fg;rw [ad h,Option.bind_some,ss h]
theorem tu (h:er≠0){self:Dg}{q:Int}(n:Nat) (l:sb) (e d a x y:Int) (s:List UInt8) (b:List ab):Aj self q (n+1) l e d er a x y s b=some (⟨x,y,s,b⟩,l,e,d,er,a):=by
 unfold Aj;rw [qi h,Option.bind_some,if_neg (by simp)];unfold Dm;rw [if_neg (by simp)];rfl
theorem mx (h:er≠0) (b:0≤d) (c:d≤1000){self:Nk}(n:Nat) (l:sb) (e a:Int) (acc:List Eb):Rh self (n+1) l e (d+1) er a acc=some (acc,l,e,d,er,a):=by
 unfold Rh;rw [qi h,Option.bind_some,if_neg (by simp)];unfold Yp;rw [if_neg (by simp)];unfold Km;rw [Int.add_sub_cancel,zh (by omega) (by omega)];rfl
theorem rv (h:er≠0) (b:0≤d) (c:d≤1000) (n:Nat) (l:sb) (e a:Int):(Tg (n+1)).Sg l e d er a=some ([],l,e,d,er,a):=by
 show Sg n (Tg n) l e d er a=_;unfold Sg;rw [qw h b c,Option.bind_some,if_neg (by simp)];unfold Km;rw [Int.add_sub_cancel,zh (by omega) (by omega)];rfl
theorem az (h:er≠0) (b:0≤d) (c:d≤1000) (n:Nat) (l:sb) (e a:Int):(Tg (n+2)).Oi l e d er a=some (⟨2,[],⟨0,0,[],[]⟩,[],[]⟩,l,e,d,er,a):=by
 show Oi (n+1) (Tg (n+1)) l e d er a=_;unfold Oi;rw [bd h,Option.bind_some,if_neg (by simp),bd h,Option.bind_some,if_neg (by simp),qi h,Option.bind_some,if_neg (by simp)];unfold Dj;rw [if_neg (by simp)];unfold Lm;rw [if_neg (by decide),if_pos rfl];unfold Uo;rw [if_pos rfl,nd h,Option.bind_some];unfold bq;rw [if_neg (by decide)];unfold aq;rw [if_pos (by decide),ad h,Option.bind_some];unfold Zp;rw [if_pos (by decide),rr h b c,Option.bind_some];unfold Sh;rw [ad h];rfl
theorem Gu (h:er≠0) (b:0≤d) (c:d≤1000) (f:1≤fu) (l:sb) (e a k t t2:Int) (s s1 s2:List UInt8) (Cg:List TParam):∃ y,lk fu l e d er a k s t s1 t2 s2 Cg=some (y,l,e,d,er,a):=by
 obtain ⟨n,rfl⟩:∃ n,fu=n+1:=⟨fu - 1,by omega⟩;unfold lk;rw [rv h b c];exact ⟨_,rfl⟩
theorem Xz (h:er≠0) (b:0≤d) (c:d≤1000) (f:1≤fu) (l:sb) (e a:Int):∃ y,Wn fu l e d er a=some (y,l,e,d,er,a):=by
 unfold Wn;rw [bd h,Option.bind_some,if_neg (by simp),bd h,Option.bind_some,if_neg (by simp),bd h,Option.bind_some,if_neg (by simp),ad h,Option.bind_some,nd h,Option.bind_some];exact Gu h b c f _ _ _ _ _ _ _ _ _ _
theorem Vu (l:sb) (e d:Int) (w:List UInt8):Sm l e d 0 0 w=some (gb l w):=by
 unfold Sm pg;rw [Option.bind_some,if_pos (by decide)];cases l with
 | nil=>rfl
 | cons t l=>rw [if_pos (by simp),Qf]; rfl
theorem nq (l:sb) (e d:Int) (w:List UInt8):gf l e d 0 0 w=some (if gb l w=true then (true,l.tail,e,d,0,0) else (false,l,e,d,0,0)):=by
 unfold gf;rw [Vu,Option.bind_some];cases l with
 | nil=>rfl
 | cons t l =>
  by_cases h:gb (t::l) w=true
  ·rw [if_pos h,if_pos h,Vj];rfl
  ·rw [if_neg h,if_neg h]
theorem qk (l:sb) (e d x y:Int):wh l e d 0 0 x y=some (l,e,d,x,y):=by
 unfold wh pg;rfl
theorem Xs (l:sb) (e d:Int) (w:List UInt8):Bf l e d 0 0 w=some (if gb l w=true then (l.tail,e,d,0,0) else (l,e,d,2,Wg l e)):=by
 unfold Bf;rw [nq,Option.bind_some];by_cases h:gb l w=true
 ·rw [if_pos h,if_pos rfl,if_pos h]
 ·rw [if_neg h,if_neg (by simp),if_neg h,Sc,Option.bind_some,qk];rfl
theorem bz (l:sb) (e d:Int):Rg l e d 0 0=some (match l with
  | []=>([],[],e,d,2,e)
  | t::a=>if t.Kind=1 then (if jh t.Text=true then (t.Text,a,e,d,0,0) else ([],t::a,e,d,7,t.Td)) else ([],t::a,e,d,2,t.Td)):=by
 cases l with
 | nil=>rfl
 | cons t l =>
  unfold Rg pg;rw [Option.bind_some,if_pos (by decide),if_neg (by simp;omega),Qf,Option.bind_some];unfold Cn;by_cases h:t.Kind=1
  ·rw [if_neg (by simp [h]),Qf,Option.bind_some,Lo,Option.bind_some];by_cases g:jh t.Text=true
   ·rw [if_pos g,Vj,Option.bind_some];simp [h,g]
   ·rw [if_neg g,Sc,Option.bind_some,qk];simp [h,g,Wg]
  ·rw [if_pos (by simp [h]),Sc,Option.bind_some,qk];simp [h,Wg]
theorem Yz (l:sb) (e d:Int):Tl l e d 0 0=some (match l with
  | []=>(0,[],e,d,2,e)
  | t::a=>if t.Kind=2 then (t.hn,a,e,d,0,0) else (0,t::a,e,d,2,t.Td)):=by
 cases l with
 | nil=>rfl
 | cons t l =>
  unfold Tl pg;rw [Option.bind_some,if_pos (by decide),if_neg (by simp;omega),Qf,Option.bind_some];unfold Gn;by_cases h:t.Kind=2
  ·rw [if_neg (by simp [h]),Qf,Option.bind_some,Vj,Option.bind_some];simp [h]
  ·rw [if_pos (by simp [h]),Sc,Option.bind_some,qk];simp [h,Wg]
structure Fh (e d er a:Int) (B:sh β):Prop where
 out:∃ y l,B=some (y,l,e,d,er,a)
structure Xa (e d:Int) (N:Nat) (A:Zc α) (B:sh α):Prop where
 out:(∃ x l,A=some (.ok (x,l,e,d))∧l.length≤N∧B=some (x,l,e,d,0,0))∨∃ f y l,A=some (.error f)∧f.oe≠0∧B=some (y,l,e,d,f.oe,f.Td)
structure ih (e d:Int) (N:Nat) (A:kn) (B:Vw):Prop where
 out:(∃ l,A=some (.ok (l,e,d))∧l.length≤N∧B=some (l,e,d,0,0))∨∃ f l,A=some (.error f)∧f.oe≠0∧B=some (l,e,d,f.oe,f.Td)
theorem Xa.mono {N a:Nat}{A:Zc α}{B:sh α}(h:Xa e d N A B) (f:N≤a):Xa e d a A B:=⟨by
 rcases h.out with ⟨x,l,b,g,c⟩ | h
 ·exact .inl ⟨x,l,b,by omega,c⟩
 ·exact .inr h⟩
theorem Xa.pure {x:α}{l:sb}:Xa e d l.length (some (.ok (x,l,e,d))) (some (x,l,e,d,0,0)):=⟨.inl ⟨x,l,rfl,Nat.le_refl _,rfl⟩⟩
theorem Xa.err {N:Nat}{f:xb}{B:sh α}(h:f.oe≠0) (k:Fh e d f.oe f.Td B):Xa e d N (some (.error f):Zc α) B:=⟨by
 obtain ⟨y,l,a⟩:=k.out;exact .inr ⟨f,y,l,rfl,h,a⟩⟩
theorem Xa.bind {N:Nat}{A:Zc α}{B:sh α}{f:α×sb×Int×Int→Zc β}{g:α×sb×Int×Int×Int×Int→sh β}(h:Xa e d N A B) (b:∀ er a,er≠0→∀ y l,Fh e d2 er a (g (y,l,e,d,er,a))) (k:∀ x l,l.length≤N→Xa e d2 l.length (f (x,l,e,d)) (g (x,l,e,d,0,0))):Xa e d2 N (oc A f) (B.bind g):=by
 rcases h.out with ⟨x,l,rfl,c,rfl⟩ | ⟨q,y,l,rfl,i,rfl⟩
 ·exact (k x l c).mono c
 ·exact Xa.err i (b _ _ i y l)
theorem Xa.od {N:Nat}{A:kn}{B:Vw}{f:sb×Int×Int→Zc β}{g:sb×Int×Int×Int×Int→sh β}(h:ih e d N A B) (b:∀ er a,er≠0→∀ l,Fh e d2 er a (g (l,e,d,er,a))) (k:∀ l,l.length≤N→Xa e d2 l.length (f (l,e,d)) (g (l,e,d,0,0))):Xa e d2 N (oc A f) (B.bind g):=by
 rcases h.out with ⟨l,rfl,c,rfl⟩ | ⟨q,l,rfl,i,rfl⟩
 ·exact (k l c).mono c
 ·exact Xa.err i (b _ _ i l)
theorem Xa.Wb {N:Nat}{y:β}{o:Option β}{f:β→Zc α}{B:sh α}(a:o=some y) (h:Xa e d N (f y) B):Xa e d N (o.bind f) B:=by rw [a];exact h
theorem Xa.cm {N:Nat}{y:Zj}{o:Option Zj}{A:Zc α}{g:Zj→sh α}(a:o=some y) (h:Xa e d N A (g y)):Xa e d N A (o.bind g):=by rw [a];exact h
theorem Xa.lu {N:Nat}{y:Zj}{o:Option Zj}{f:Zj→Zc α}{g:Zj→sh α}(a:o=some y) (h:Xa e d N (f y) (g y)):Xa e d N (o.bind f) (o.bind g):=by rw [a];exact h
theorem Xa.ite {N:Nat}{c:Prop}[Decidable c]{A a:Zc α}{B B':sh α}(b:c→Xa e d N A B) (f:¬ c→Xa e d N a B'):Xa e d N (if c then A else a) (if c then B else B'):=by
 by_cases h:c
 ·rw [if_pos h,if_pos h];exact b h
 ·rw [if_neg h,if_neg h];exact f h
theorem Xa.is {l:sb}{k:List UInt8}{f:Bool×sb×Int×Int→Zc α}{g:Bool×sb×Int×Int×Int×Int→sh α}(b:∀ a,a.length+1=l.length→Xa e d2 a.length (f (true,a,e,d)) (g (true,a,e,d,0,0))) (c:gb l k=false→Xa e d2 l.length (f (false,l,e,d)) (g (false,l,e,d,0,0))):Xa e d2 l.length ((Md l e d k).bind f) ((gf l e d 0 0 k).bind g):=by
 rw [ml,nq,Option.bind_some,Option.bind_some];by_cases h:gb l k=true
 ·rw [if_pos h,if_pos h];exact (b l.tail (ql h)).mono (by have:=ql h;omega)
 ·rw [if_neg h,if_neg h];exact c (by simpa using h)
theorem ih.Nc {l:sb}{k:List UInt8}:ih e d l.length (tf l e d [k]) (Bf l e d 0 0 k):=⟨by
 rw [cp,Xs];by_cases h:gb l k=true
 ·rw [if_pos h,if_pos h];exact .inl ⟨_,rfl,by have:=ql h;omega,rfl⟩
 ·rw [if_neg h,if_neg h];exact .inr ⟨_,_,rfl,by simp,rfl⟩⟩
theorem Xa.name (a:20≤fu){l:sb}:Xa e d l.length (og fu l e d) (Rg l e d 0 0):=⟨by
 rw [Oy (fun w=>Co a w),bz];cases l with
 | nil=>exact .inr ⟨_,_,_,rfl,by simp,rfl⟩
 | cons t l =>
  by_cases h:t.Kind=1
  ·by_cases g:jh t.Text=true
   ·simp only [h,g,if_true];exact .inl ⟨_,_,rfl,by simp,rfl⟩
   ·simp only [h,g,if_true,if_false];exact .inr ⟨_,_,_,rfl,by simp,rfl⟩
  ·simp only [h,if_false];exact .inr ⟨_,_,_,rfl,by simp,rfl⟩⟩
theorem Xa.number {l:sb}:Xa e d l.length (Fj l e d) (Tl l e d 0 0):=⟨by
 rw [hr,Yz];cases l with
 | nil=>exact .inr ⟨_,_,_,rfl,by simp,rfl⟩
 | cons t l =>
  by_cases h:t.Kind=2
  ·simp only [h,if_true];exact .inl ⟨_,_,rfl,by simp,rfl⟩
  ·simp only [h,if_false];exact .inr ⟨_,_,_,rfl,by simp,rfl⟩⟩
theorem Xa.oh {l:sb}{f:sb×Int×Int→Zc α}{g:Bool×sb×Int×Int×Int×Int→sh α}(c:0≤d) (j:d≤200) (b:∀ er a,er≠0→Fh e d2 er a (g (false,l,e,d+1,er,a))) (k:d+1≤200→Xa e d2 l.length (f (l,e,d+1)) (g (true,l,e,d+1,0,0))):Xa e d2 l.length (oc (Th l e d) f) ((Sj l e d 0 0).bind g):=by
 rw [nv c (by omega)];have i:Sj l e d 0 0=some (if 200<d+1 then (false,l,e,d+1,4,Wg l e) else (true,l,e,d+1,0,0)):=by
  unfold Sj;rw [zh (by omega) (by omega),Option.bind_some];by_cases h:200<d+1
  ·rw [if_pos h,if_pos h,Sc,Option.bind_some,qk];rfl
  ·rw [if_neg h,if_neg h];rfl
 rw [i,Option.bind_some];by_cases h:200<d+1
 ·rw [if_pos h,if_pos h];exact Xa.err (by simp) (b _ _ (by simp))
 ·rw [if_neg h,if_neg h];exact k (by omega)
end
end Go.Y
namespace Go.Y
open Go.cc Go.Kc
section
variable {fu:Nat}{e d d2 er a:Int}{α β Zj:Type}
theorem rk (l:sb) (e d:Int):pg l e d 0 0=some true:=rfl
theorem Xa.ak {N:Nat}{A:Zc α}{B B':sh α}(h:B=B') (k:Xa e d N A B'):Xa e d N A B:=by rw [h];exact k
theorem Xa.f {N:Nat}{A a:Zc α}{B:sh α}(h:Xa e d N a B):Xa e d N (if false=true then A else a) B:=h
theorem Xa.eta {N:Nat}{A:Zc α}{B:sh α}(h:Xa e d N A B):Xa e d N (oc A fun r=>some (.ok (r.1,r.2.1,r.2.2.1,r.2.2.2))) B:=⟨by
 rcases h.out with ⟨x,l,rfl,a,rfl⟩ | ⟨q,y,l,rfl,b,rfl⟩
 ·exact .inl ⟨x,l,rfl,a,rfl⟩
 ·exact .inr ⟨q,y,l,rfl,b,rfl⟩⟩
theorem zr {l:sb}(a:0≤d) (b:d≤200):Lh l e (d+1)=some (l,e,d):=by
 rw [Jv (by omega) (by omega),Int.add_sub_cancel]
theorem Xa.bo {l:sb}{k:List UInt8}{f:Bool×sb×Int×Int→Zc α}{B:sh α}(b:∀ t a,l=t::a→t.Text=k→Xa e d2 a.length (f (true,a,e,d)) B) (c:gb l k=false→Xa e d2 l.length (f (false,l,e,d)) B):Xa e d2 l.length ((Md l e d k).bind f) B:=by
 rw [ml,Option.bind_some];by_cases h:gb l k=true
 ·rw [if_pos h];obtain ⟨t,a,rfl,g⟩:=Rr h;exact (b t a rfl g).mono (by simp)
 ·rw [if_neg h];exact c (by simpa using h)
theorem Xa.OC {l:sb}{k1 c:List UInt8}{f h:Bool×sb×Int×Int→Zc α}{g i:Bool×sb×Int×Int×Int×Int→sh α}(k:k1≠c) (m:f (false,l,e,d)=(Md l e d c).bind h) (j:g (false,l,e,d,0,0)=(gf l e d 0 0 k1).bind i) (n:∀ a,a.length+1=l.length→Xa e d2 a.length (f (true,a,e,d)) (i (true,a,e,d,0,0))) (o:∀ a,a.length+1=l.length→Xa e d2 a.length (h (true,a,e,d)) (g (true,a,e,d,0,0))) (p:Xa e d2 l.length (h (false,l,e,d)) (i (false,l,e,d,0,0))):Xa e d2 l.length ((Md l e d k1).bind f) ((gf l e d 0 0 c).bind g):=by
 rw [ml,nq,Option.bind_some,Option.bind_some];by_cases b:gb l k1=true
 ·have c2:¬ gb l c=true:=fun c2=>by
   obtain ⟨t,a,rfl,la⟩:=Rr b;obtain ⟨r,s,e2,q⟩:=Rr c2;cases e2;exact k (la.symm.trans q)
  rw [if_pos b,if_neg c2,j,nq,Option.bind_some,if_pos b];exact (n _ (ql b)).mono (by have:=ql b;omega)
 ·rw [if_neg b,m,ml,Option.bind_some];by_cases c2:gb l c=true
  ·rw [if_pos c2,if_pos c2];exact (o _ (ql c2)).mono (by have:=ql c2;omega)
  ·rw [if_neg c2,if_neg c2,j,nq,Option.bind_some,if_neg b];exact p
theorem Xa.Bg (b:20≤fu){l:sb}:Xa e d l.length (Yh fu l e d) (Ik l e d 0 0):=by
 unfold Yh Ik;exact Xa.is (fun c _=>Xa.pure) fun _=>Xa.is (fun c _=>Xa.pure) fun _=>Xa.bind (Xa.name b) (fun er a h y l=>⟨by (try simp only [ad h,bd h,nd h,xd h,yd h,ud h,gd h,Sc,Option.bind_some,Bool.false_eq_true,if_false]);exact ⟨_,_,rfl⟩⟩) fun x l _=>Xa.pure
theorem Xa.params (c:20≤fu){l:sb}:Xa e d l.length (fj fu l e d) (Jl fu l e d 0 0):=by
 unfold fj Jl;obtain ⟨f1,g⟩:∃ m,fu=m+1:=⟨fu - 1,by omega⟩;refine Xa.od ih.Nc (fun er a h l=>⟨by (try simp only [ad h,bd h,nd h,xd h,yd h,ud h,gd h,Sc,Option.bind_some,Bool.false_eq_true,if_false,g,jo h]);exact ⟨_,_,rfl⟩⟩) fun l _=>?_;have key:∀ (n:Nat) (l:sb) (acc:List TParam),acc.length≤6→7 - acc.length<n→Xa e d l.length (Xg fu n l e d acc) (ji n l e d 0 0 acc):=by
  intro n
  induction n with
  | zero=>intro l acc _ h; omega
  | succ n i =>
   intro l acc o p;obtain ⟨m,hm⟩:∃ m,n=m+1:=⟨n - 1,by omega⟩;have b:∀ x:TParam,app acc [x]=some (acc++[x]):=fun x=>fl (by omega);have j:∀ l:sb,Xa e d l.length (Zi fu acc (Xg fu n) l e d) (Dl acc (ji n) l e d 0 0):=fun l=>by
    unfold Zi Dl;refine Xa.ite (fun k=>?_) fun k=>?_
    ·rw [sg,Sc,Option.bind_some,Option.bind_some,qk,Option.bind_some];have h:(5:Int)≠0:=by decide
     refine Xa.err h ⟨?_⟩;simp only [vn,b,hm,jo h,ad h,bd h,nd h,xd h,yd h,ud h,gd h,Sc,Option.bind_some,Bool.false_eq_true,if_false];exact ⟨_,_,rfl⟩
    ·unfold vn;refine Xa.bind (Xa.name c) (fun er a h y l=>⟨by (try simp only [ad h,bd h,nd h,xd h,yd h,ud h,gd h,Sc,Option.bind_some,Bool.false_eq_true,if_false,b,hm,jo h]);exact ⟨_,_,rfl⟩⟩) fun x l _=>Xa.bind (Xa.Bg c) (fun er a h y l=>⟨by (try simp only [ad h,bd h,nd h,xd h,yd h,ud h,gd h,Sc,Option.bind_some,Bool.false_eq_true,if_false,b,hm,jo h]);exact ⟨_,_,rfl⟩⟩) fun y l _=>?_;exact Xa.lu (b _) (i l _ (by simp;omega) (by simp;omega))
   unfold Xg ji;refine Xa.cm (rk _ _ _) (Xa.is (fun q _=>Xa.pure) fun _=>Xa.f ?_);show Xa e d l.length _ (_root_.ite ((0:Int)<(acc.length:Int)) ((Bf l e d 0 0 [44]).bind fun r=>Dl acc (ji n) r.1 r.2.1 r.2.2.1 r.2.2.2.1 r.2.2.2.2) (Dl acc (ji n) l e d 0 0));refine Xa.ite (fun _=>Xa.od ih.Nc ?_ fun l _=>j l) fun _=>j l;intro er a h l;refine ⟨?_⟩;simp only [Dl,vn,b,hm,jo h,ad h,bd h,nd h,xd h,yd h,ud h,gd h,Sc,Option.bind_some,Bool.false_eq_true,if_false];split<;>exact ⟨_,_,rfl⟩
 exact key fu l [] (by simp) (by simp;omega)
def fs:List mf:=bp.getD []
theorem eC:bp=some fs:=rfl
theorem pB:∀ k:Nat,k<5→∃ x,at_ fs (k:Int)=some x∧(x.once=true ↔ (k:Int)+1=3)∧∀ w,al ((k:Int)+1) w=some ((Ef x.Ag w).getD 0)∧0≤(Ef x.Ag w).getD 0:=by
 intro k b;have a:k=0∨k=1∨k=2∨k=3∨k=4:=by omega
 rcases a with rfl | rfl | rfl | rfl | rfl
 ·refine ⟨mf.mk [([111,114],18)] false,by rfl,by decide,fun w=>?_⟩;simp only [al,i64,at_,Ef];simp [Fl,at_,i64]
  (repeat' split)<;>simp_all
 ·refine ⟨mf.mk [([97,110,100],17)] false,by rfl,by decide,fun w=>?_⟩;simp only [al,i64,at_,Ef];simp [Fl,at_,i64]
  (repeat' split)<;>simp_all
 ·refine ⟨mf.mk [([61,61],11),([33,61],12),([60],13),([60,61],14),([62],15),([62,61],16)] true,by rfl,by decide,fun w=>?_⟩;simp only [al,i64,at_,Ef];simp [Fl,at_,i64]
  (repeat' split)<;>simp_all
 ·refine ⟨mf.mk [([43],6),([45],7)] false,by rfl,by decide,fun w=>?_⟩;simp only [al,i64,at_,Ef];simp [Fl,at_,i64]
  (repeat' split)<;>simp_all
 ·refine ⟨mf.mk [([42],8),([47],9),([37],10)] false,by rfl,by decide,fun w=>?_⟩;simp only [al,i64,at_,Ef];simp [Fl,at_,i64]
  (repeat' split)<;>simp_all
theorem oo (c:0≤d) (f:d≤200){i:Int}{l:sb}{er a:Int}{b:List ab}:Wk i l e (d+1) er a b=some (⟨i,0,[],b⟩,l,e,d,er,a):=by
 unfold Wk;rw [Int.add_sub_cancel,zh (by omega) (by omega)];rfl
theorem ts (c:0≤d) (f:d≤200){l:sb}{er a i j:Int}{s:List UInt8}{b:List ab}:Im l e (d+1) er a i j s b=some (⟨i,j,s,b⟩,l,e,d,er,a):=by
 unfold Im;rw [Int.add_sub_cancel,zh (by omega) (by omega)];rfl
theorem ab.eta (x:ab):(⟨x.Kind,x.N,x.Name,x.Kids⟩:ab)=x:=by cases x;rfl
theorem nx (b:0≤d) (c:d≤200){l:sb}{er a:Int}{x:ab}:Im l e (d+1) er a x.Kind x.N x.Name x.Kids=some (x,l,e,d,er,a):=by rw [ts b c,ab.eta]
structure WC (e:Int) (n:Nat) (P:hg) (K:Dg):Prop where
 expr:∀ l d,0≤d→d≤200→(202 - d)*12+(l.length:Int)+70≤n→Xa e d l.length (P.Ed l e d) (K.uf l e d 0 0)
 level:∀ l d (k:Nat),0≤d→d≤200→k≤5→(202 - d)*12+11 - k+(l.length:Int)+70≤n→Xa e d l.length (P.pf l e d k) (K.si l e d 0 0 ((k:Int)+1))
 unary:∀ l d,0≤d→d≤200→(202 - d)*12+5+(l.length:Int)+70≤n→Xa e d l.length (P.Pe l e d) (K.ti l e d 0 0)
 Nn:∀ l d,0≤d→d≤200→(202 - d)*12+4+(l.length:Int)+70≤n→Xa e d l.length (P.eg l e d) (K.Ij l e d 0 0)
 args:∀ l d,0≤d→d≤200→(202 - d)*12+3+(l.length:Int)+70≤n→Xa e d l.length (P.Xf l e d) (K.fg l e d 0 0 0)
 fixed:∀ l d k (c:Nat),0≤d→d≤200→1≤c→c≤2→(202 - d)*12+2+(l.length:Int)+70≤n→Xa e d l.length (P.qf l e d k c) ((K.fg l e d 0 0 c).bind fun r=>some (ab.mk k 0 [] r.1,r.2.1,r.2.2.1,r.2.2.2.1,r.2.2.2.2.1,r.2.2.2.2.2))
theorem qB:∀ n,WC e n (cd n) (qd n):=by
 intro n
 induction n with
 | zero=>exact ⟨fun l d a b h=>by omega,fun l d k a b c h=>by omega,fun l d a b h=>by omega,fun l d a b h=>by omega,fun l d a b h=>by omega,fun l d k c a b g wd h=>by omega⟩
 | succ n w =>
  refine ⟨fun l d o p H=>?_,fun l d k o p Fd H=>?_,fun l d o p H=>?_,fun l d o p H=>?_,fun l d o p H=>?_,fun l d k c o p Id be H=>?_⟩
  ·show Xa e d l.length (Ed (cd n) l e d) (uf (qd n) l e d 0 0);unfold Ed uf;refine Xa.oh o p (fun er a h=>⟨by (try simp only [ad h,bd h,nd h,xd h,yd h,ud h,gd h,Sc,Option.bind_some,Bool.false_eq_true,if_false,ts o p]);exact ⟨_,_,rfl⟩⟩) fun gb=>Xa.bind (w.level l (d+1) 0 (by omega) gb (by omega) (by omega)) (fun er a h y l=>⟨by (try simp only [ad h,bd h,nd h,xd h,yd h,ud h,gd h,Sc,Option.bind_some,Bool.false_eq_true,if_false,ts o p]);exact ⟨_,_,rfl⟩⟩) fun x l _=>?_;exact Xa.Wb (zr o p) (Xa.ak (nx o p) Xa.pure)
  ·show Xa e d l.length (pf n (cd n) l e d k) (si n (qd n) l e d 0 0 ((k:Int)+1));unfold pf si;refine Xa.Wb eC ?_;have hlen:(fs.length:Int)=5:=rfl;by_cases ce:k=5
   ·rw [if_pos (by omega),if_pos (by omega)];exact Xa.bind (w.unary l d o p (by omega)) (fun er a h y l=>⟨by (try simp only [ad h,bd h,nd h,xd h,yd h,ud h,gd h,Sc,Option.bind_some,Bool.false_eq_true,if_false]);exact ⟨_,_,rfl⟩⟩) fun x l _=>Xa.pure
   ·rw [if_neg (by omega),if_neg (by omega)];have i1:i64 ((k:Int)+1)=some (((k+1:Nat):Int)):=zh (by omega) (by omega);have i2:i64 ((k:Int)+1+1)=some (((k+1:Nat):Int)+1):=zh (by omega) (by omega);refine Xa.Wb i1 (Xa.cm i2 ?_);obtain ⟨m,hm⟩:∃ m,n=m+1:=⟨n - 1,by omega⟩;refine Xa.bind (w.level l d (k+1) o p (by omega) (by omega)) ?_ fun x l v=>?_
    ·intro er a h y l;refine ⟨?_⟩;show ∃ z ge,Aj (qd n) _ n l e d er a _ _ _ _=_;rw [hm,tu h];exact ⟨_,_,rfl⟩
    obtain ⟨W,X,Y,fd⟩:=pB k (by omega);have key:∀ (q:Nat) (l:sb) (a b:Int) (c:List UInt8) (P:List ab),(202 - d)*12+11 - k+(l.length:Int)+70≤n+1→l.length<q→Xa e d l.length (Hi (cd n) k fs q l e d a b c P) (Aj (qd n) ((k:Int)+1) q l e d 0 0 a b c P):=by
     intro q
     induction q with
     | zero=>intro l a b c P _ h; omega
     | succ q K =>
      intro l a b c P B S;unfold Hi Aj;refine Xa.cm (rk _ _ _) ?_;rw [if_pos rfl];cases l with
      | nil =>
       rw [if_neg (by simp),if_neg (by simp)];unfold th Dm;rw [if_neg (by simp)];unfold Cm;exact Xa.pure
      | cons t l =>
       rw [if_pos (by simp),if_pos (by simp),Qf];obtain ⟨gc,he⟩:=fd t.Text;refine Xa.Wb X ?_;rw [Option.bind_some,Option.bind_some,gc,Option.bind_some];unfold Dm;by_cases lc:(Ef W.Ag t.Text).getD 0=0
       ·rw [if_pos lc,if_neg (by simp;omega)];unfold th Cm;exact Xa.pure
       ·rw [if_neg lc,if_pos (by simp;omega),Qf,Option.bind_some,gc,Option.bind_some,Vj,Option.bind_some,Option.bind_some];refine Xa.Wb i1 (Xa.cm i2 ?_);simp only [List.length_cons] at B S;obtain ⟨L,Q⟩:∃ L,q=L+1:=⟨q - 1,by omega⟩;refine Xa.mono (N:=l.length) (Xa.bind (w.level l d (k+1) o p (by omega) (by omega)) ?_ fun y s le=>?_) (by simp)
        ·intro er a h y l;refine ⟨?_⟩;split
         ·unfold Cm;exact ⟨_,_,rfl⟩
         ·rw [Q,tu h];exact ⟨_,_,rfl⟩
        unfold yn;refine Xa.Wb X ?_;by_cases R:W.once=true
        ·rw [if_pos R,if_pos (Y.1 R)];unfold th Cm;exact Xa.pure
        ·rw [if_neg R,if_neg (fun g=>R (Y.2 g))];exact K s _ _ _ _ (by omega) (by omega)
    exact key n l _ _ _ _ (by omega) (by omega)
  ·show Xa e d l.length (Pe (cd n) l e d) (ti (qd n) l e d 0 0);unfold Pe ti;refine Xa.is (fun s v=>?_) fun _=>Xa.is (fun s v=>?_) fun _=>?_
   ·show Xa e d s.length _ ((Sj s e d 0 0).bind fun u=>ite (u.1=true) (((qd n).ti u.2.1 u.2.2.1 u.2.2.2.1 u.2.2.2.2.1 u.2.2.2.2.2).bind fun A=>Wk 4 A.2.1 A.2.2.1 A.2.2.2.1 A.2.2.2.2.1 A.2.2.2.2.2 [A.1]) (Wk 4 u.2.1 u.2.2.1 u.2.2.2.1 u.2.2.2.2.1 u.2.2.2.2.2 []));exact Xa.oh o p (fun er a h=>⟨by (try simp only [ad h,bd h,nd h,xd h,yd h,ud h,gd h,Sc,Option.bind_some,Bool.false_eq_true,if_false,oo o p]);exact ⟨_,_,rfl⟩⟩) fun gb=>Xa.bind (w.unary s (d+1) (by omega) gb (by omega)) (fun er a h y l=>⟨by (try simp only [ad h,bd h,nd h,xd h,yd h,ud h,gd h,Sc,Option.bind_some,Bool.false_eq_true,if_false,oo o p]);exact ⟨_,_,rfl⟩⟩) fun x l _=>Xa.Wb (zr o p) (Xa.ak (oo o p) Xa.pure)
   ·show Xa e d s.length _ ((Sj s e d 0 0).bind fun u=>ite (u.1=true) (((qd n).ti u.2.1 u.2.2.1 u.2.2.2.1 u.2.2.2.2.1 u.2.2.2.2.2).bind fun A=>Wk 5 A.2.1 A.2.2.1 A.2.2.2.1 A.2.2.2.2.1 A.2.2.2.2.2 [A.1]) (Wk 5 u.2.1 u.2.2.1 u.2.2.2.1 u.2.2.2.2.1 u.2.2.2.2.2 []));exact Xa.oh o p (fun er a h=>⟨by (try simp only [ad h,bd h,nd h,xd h,yd h,ud h,gd h,Sc,Option.bind_some,Bool.false_eq_true,if_false,oo o p]);exact ⟨_,_,rfl⟩⟩) fun gb=>Xa.bind (w.unary s (d+1) (by omega) gb (by omega)) (fun er a h y l=>⟨by (try simp only [ad h,bd h,nd h,xd h,yd h,ud h,gd h,Sc,Option.bind_some,Bool.false_eq_true,if_false,oo o p]);exact ⟨_,_,rfl⟩⟩) fun x l _=>Xa.Wb (zr o p) (Xa.ak (oo o p) Xa.pure)
   ·show Xa e d l.length _ (((qd n).Ij l e d 0 0).bind fun F=>some (F.1,F.2.1,F.2.2.1,F.2.2.2.1,F.2.2.2.2.1,F.2.2.2.2.2));exact Xa.bind (w.Nn l d o p (by omega)) (fun er a h y l=>⟨by (try simp only [ad h,bd h,nd h,xd h,yd h,ud h,gd h,Sc,Option.bind_some,Bool.false_eq_true,if_false]);exact ⟨_,_,rfl⟩⟩) fun x l _=>Xa.pure
  ·show Xa e d l.length (eg n (cd n) l e d) (Ij (qd n) l e d 0 0);obtain ⟨m,hm⟩:∃ m,n=m+2:=⟨n - 2,by omega⟩;have j:∀ b,Xa e d l.length (Yi n (cd n) l e d b) (Bn (qd n) l e d 0 0 b):=fun b=>by
    unfold Yi Bn;refine Xa.ite (fun _=>Xa.bind Xa.number (fun er a h y l=>⟨by (try simp only [ad h,bd h,nd h,xd h,yd h,ud h,gd h,Sc,Option.bind_some,Bool.false_eq_true,if_false]);exact ⟨_,_,rfl⟩⟩) fun x l _=>Xa.pure) fun _=>?_;refine Xa.is (fun s v=>Xa.pure) fun _=>Xa.is (fun s v=>Xa.pure) fun _=>Xa.is (fun s v=>?_) fun _=>Xa.is (fun s v=>?_) fun _=>Xa.is (fun s v=>?_) fun _=>Xa.OC (by decide) (by rfl) (by rfl) (fun s v=>?_) (fun s v=>?_) (Xa.is (fun s v=>?_) fun _=>?_)
    ·exact Xa.bind (w.expr s d o p (by omega)) (fun er a h y l=>⟨by (try simp only [ad h,bd h,nd h,xd h,yd h,ud h,gd h,Sc,Option.bind_some,Bool.false_eq_true,if_false]);exact ⟨_,_,rfl⟩⟩) fun x l _=>Xa.od ih.Nc (fun er a h l=>⟨by (try simp only [ad h,bd h,nd h,xd h,yd h,ud h,gd h,Sc,Option.bind_some,Bool.false_eq_true,if_false]);exact ⟨_,_,rfl⟩⟩) fun l _=>Xa.pure
    ·exact Xa.od ih.Nc (fun er a h l=>⟨by (try simp only [ad h,bd h,nd h,xd h,yd h,ud h,gd h,Sc,Option.bind_some,Bool.false_eq_true,if_false]);exact ⟨_,_,rfl⟩⟩) fun l _=>Xa.bind (Xa.name (by omega)) (fun er a h y l=>⟨by (try simp only [ad h,bd h,nd h,xd h,yd h,ud h,gd h,Sc,Option.bind_some,Bool.false_eq_true,if_false]);exact ⟨_,_,rfl⟩⟩) fun x l _=>Xa.od ih.Nc (fun er a h l=>⟨by (try simp only [ad h,bd h,nd h,xd h,yd h,ud h,gd h,Sc,Option.bind_some,Bool.false_eq_true,if_false]);exact ⟨_,_,rfl⟩⟩) fun l _=>Xa.pure
    ·exact Xa.eta (w.fixed s d 21 1 o p (by omega) (by omega) (by omega))
    ·exact Xa.eta (w.fixed s d 23 2 o p (by omega) (by omega) (by omega))
    ·exact Xa.eta (w.fixed s d 24 1 o p (by omega) (by omega) (by omega))
    ·exact Xa.bind (Xa.name (by omega)) (fun er a h y l=>⟨by (try simp only [ad h,bd h,nd h,xd h,yd h,ud h,gd h,Sc,Option.bind_some,Bool.false_eq_true,if_false,hm,Zy h]);exact ⟨_,_,rfl⟩⟩) fun x l v=>Xa.bind (w.args l d o p (by omega)) (fun er a h y l=>⟨by (try simp only [ad h,bd h,nd h,xd h,yd h,ud h,gd h,Sc,Option.bind_some,Bool.false_eq_true,if_false]);exact ⟨_,_,rfl⟩⟩) fun y l _=>Xa.pure
    ·refine Xa.bind (Xa.name (by omega)) (fun er a h y l=>⟨by (try simp only [ad h,bd h,nd h,xd h,yd h,ud h,gd h,Sc,Option.bind_some,Bool.false_eq_true,if_false]);exact ⟨_,_,rfl⟩⟩) fun x l v=>?_;rw [iq,Vu];exact Xa.ite (fun _=>Xa.bind (w.args l d o p (by omega)) (fun er a h y l=>⟨by (try simp only [ad h,bd h,nd h,xd h,yd h,ud h,gd h,Sc,Option.bind_some,Bool.false_eq_true,if_false]);exact ⟨_,_,rfl⟩⟩) fun y l _=>Xa.pure) fun _=>Xa.pure
   unfold eg Ij;refine Xa.cm (rk _ _ _) ?_;rw [if_pos rfl];cases l with
   | nil=>rw [if_neg (by simp),if_neg (by simp)]; exact j _
   | cons t l=>rw [if_pos (by simp),if_pos (by simp),Qf]; exact j _
  ·show Xa e d l.length (Xf n (cd n) l e d) (fg n (qd n) l e d 0 0 0);unfold Xf fg;obtain ⟨T,C⟩:∃ m,n=m+1:=⟨n - 1,by omega⟩;have Da:∀ er a,er≠0→∀ (q:Nat) (l:sb) (acc:List ab),Fh e d er a (jf (qd n) 0 (q+1) l e d er a acc):=fun er a h q l acc=>⟨by rw [ss h];exact ⟨_,_,rfl⟩⟩;refine Xa.od ih.Nc (fun er a h l=>?_) fun l v=>?_
   ·show Fh e d er a (jf (qd n) 0 n l e d er a []);have:=Da er a h T l [];rwa [← C] at this
   have key:∀ (q:Nat) (l:sb) (acc:List ab),(202 - d)*12+(l.length:Int)+70≤n→acc.length≤6→7 - acc.length<q→Xa e d l.length (ah (cd n) q l e d acc) (jf (qd n) 0 q l e d 0 0 acc):=by
    intro q
    induction q with
    | zero=>intro l acc _ _ h; omega
    | succ q K =>
     intro l acc B id S;obtain ⟨L,Q⟩:∃ m,q=m+1:=⟨q - 1,by omega⟩;have D:∀ x:ab,app acc [x]=some (acc++[x]):=fun x=>fl (by omega);have M:∀ er a,er≠0→∀ (l:sb),Fh e d er a (Bj (qd n) acc (jf (qd n) 0 q) l e d er a):=fun er a h l=>by
      unfold Bj;rw [C,rr h o (by omega),Option.bind_some,D,Option.bind_some,← C,Q];exact Da er a h L l _
     have md:∀ er a,er≠0→∀ (l:sb),Fh e d er a (Cj (qd n) acc (jf (qd n) 0 q) l e d er a):=fun er a h l=>by
      unfold Cj;split
      ·rw [Sc,Option.bind_some,gd h];exact M er a h l
      ·exact M er a h l
     have j:∀ l:sb,(202 - d)*12+(l.length:Int)+70≤n→Xa e d l.length (ej (cd n) acc (ah (cd n) q) l e d) (Cj (qd n) acc (jf (qd n) 0 q) l e d 0 0):=fun l B=>by
      unfold ej Cj;refine Xa.ite (fun rd=>?_) fun rd=>?_
      ·rw [sg,Sc,Option.bind_some,Option.bind_some,qk];exact Xa.err (by simp) (M _ _ (by simp) l)
      ·unfold Bj;refine Xa.bind (w.expr l d o p B) (fun er a h y l=>?_) fun x s v=>Xa.lu (D _) (K s _ (by omega) (by simp;omega) (by simp;omega));rw [D,Option.bind_some,Q];exact Da er a h L l _
     unfold ah jf;refine Xa.cm (rk _ _ _) ?_;rw [if_pos rfl,if_pos rfl];refine Xa.is (fun s _=>Xa.pure) fun _=>Xa.f ?_;show Xa e d l.length _ (ite ((0:Int)<(acc.length:Int)) ((Bf l e d 0 0 [44]).bind fun r=>Cj (qd n) acc (jf (qd n) 0 q) r.1 r.2.1 r.2.2.1 r.2.2.2.1 r.2.2.2.2) (Cj (qd n) acc (jf (qd n) 0 q) l e d 0 0));exact Xa.ite (fun _=>Xa.od ih.Nc (fun er a h l=>md er a h l) fun s v=>j s (by omega)) fun _=>j l B
   exact key n l [] (by omega) (by simp) (by simp;omega)
  ·show Xa e d l.length (qf (cd n) l e d k c) ((fg n (qd n) l e d 0 0 c).bind _);unfold qf fg;rw [Option.bind_assoc];obtain ⟨T,C⟩:∃ m,n=m+1:=⟨n - 1,by omega⟩;have Da:∀ er a,er≠0→∀ (q:Nat) (l:sb) (acc:List ab),Fh e d er a ((jf (qd n) c (q+1) l e d er a acc).bind fun r=>some (ab.mk k 0 [] r.1,r.2.1,r.2.2.1,r.2.2.2.1,r.2.2.2.2.1,r.2.2.2.2.2)):=fun er a h q l acc=>⟨by rw [ss h];exact ⟨_,_,rfl⟩⟩;refine Xa.od ih.Nc (fun er a h l=>?_) fun l v=>?_
   ·show Fh e d er a ((jf (qd n) c n l e d er a []).bind _);have:=Da er a h T l [];rwa [← C] at this
   have key:∀ (q G i:Nat) (l:sb) (acc:List ab),(202 - d)*12+(l.length:Int)+70≤n→acc.length=i→i≤c→c - i<q→c - i+1<G→Xa e d l.length (Og (cd n) k c q i l e d acc) ((jf (qd n) c G l e d 0 0 acc).bind fun r=>some (ab.mk k 0 [] r.1,r.2.1,r.2.2.1,r.2.2.2.1,r.2.2.2.2.1,r.2.2.2.2.2)):=by
    intro q
    induction q with
    | zero=>intro G i l acc _ _ _ h; omega
    | succ q K =>
     intro G i l acc B id ne S Ne;obtain ⟨E,rfl⟩:∃ m,G=m+1+1:=⟨G - 2,by omega⟩;have D:∀ x:ab,app acc [x]=some (acc++[x]):=fun x=>fl (by omega);unfold Og jf;rw [rk,Option.bind_some,if_pos rfl,if_neg (show ¬ (c:Int)=0 by omega),if_pos (show (0:Int)<(c:Int) by omega)];unfold Jm;by_cases of:i<c
     ·rw [if_pos (show (i:Int)<(c:Int) by omega)];have V:∀ (l:sb) (er a:Int),Cj (qd n) acc (jf (qd n) c (E+1)) l e d er a=Bj (qd n) acc (jf (qd n) c (E+1)) l e d er a:=fun l er a=>by
       unfold Cj;rw [if_neg (by omega)]
      have j:∀ l:sb,(202 - d)*12+(l.length:Int)+70≤n→Xa e d l.length (bj (cd n) i acc (Og (cd n) k c q) l e d) ((Bj (qd n) acc (jf (qd n) c (E+1)) l e d 0 0).bind fun r=>some (ab.mk k 0 [] r.1,r.2.1,r.2.2.1,r.2.2.2.1,r.2.2.2.2.1,r.2.2.2.2.2)):=fun l B=>by
       unfold bj Bj;rw [Option.bind_assoc];refine Xa.bind (w.expr l d o p B) (fun er a h y l=>?_) fun x s v=>?_
       ·rw [D,Option.bind_some];exact Da er a h E l _
       ·rw [D,Option.bind_some,Option.bind_some];unfold zn;rw [zh (by omega) (by omega),Option.bind_some,show ((i:Int)+1)=((i+1:Nat):Int) by omega];exact K (E+1) (i+1) s _ (by omega) (by simp;omega) (by omega) (by omega) (by omega)
      have M:∀ er a,er≠0→∀ (l:sb),Fh e d er a ((Bj (qd n) acc (jf (qd n) c (E+1)) l e d er a).bind fun r=>some (ab.mk k 0 [] r.1,r.2.1,r.2.2.1,r.2.2.2.1,r.2.2.2.2.1,r.2.2.2.2.2)):=fun er a h l=>by
       unfold Bj;rw [C,rr h o (by omega),Option.bind_some,D,Option.bind_some,← C];exact Da er a h E l _
      by_cases rc:(0:Int)<(i:Int)
      ·rw [if_pos rc,if_neg (by simp;omega),if_pos (show (0:Int)<(acc.length:Int) by omega),Option.bind_assoc];refine Xa.od ih.Nc (fun er a h l=>?_) fun s v=>?_
       ·rw [V];exact M er a h l
       ·rw [V];exact j s (by omega)
      ·rw [if_neg rc,if_neg (by simp;omega),if_neg (show ¬ (0:Int)<(acc.length:Int) by omega),V];exact j l B
     ·rw [if_neg (show ¬ (i:Int)<(c:Int) by omega),if_pos (by simp;omega)];unfold To;rw [if_pos (by omega),Option.bind_assoc];exact Xa.od ih.Nc (fun er a h l=>⟨⟨_,_,rfl⟩⟩) fun l _=>Xa.pure
   exact key (((c:Int) - 0).toNat+1) n 0 l [] (by omega) (by simp) (by omega) (by omega) (by omega)
end
end Go.Y
namespace Go.Y
open Go.cc Go.Kc
section
variable {fu:Nat}{e d d2 er a:Int}{α β Zj:Type}
theorem Au (b:0≤d) (c:d≤200){l:sb}{er a:Int}{acc:List Eb}:Km l e (d+1) er a acc=some (acc,l,e,d,er,a):=by
 unfold Km;rw [Int.add_sub_cancel,zh (by omega) (by omega)];rfl
def Rq (w:List UInt8):Int:=(Ef (ed (ed (ed (ed (ed (ed ([]:List (List UInt8×Int)) [108,101,116] 1) [114,101,116,117,114,110] 5) [115,116,111,112] 6) [115,101,110,100] 7) [111,117,116] 8) [100,111] 9) w).getD 0
theorem fC {w:List UInt8}(a:w≠[108,101,116]) (b:w≠[114,101,116,117,114,110]) (c:w≠[115,116,111,112]) (d:w≠[115,101,110,100]) (e:w≠[111,117,116]) (f:w≠[100,111]):Rq w=0:=by
 show (Ef [([108,101,116],(1:Int)),([114,101,116,117,114,110],5),([115,116,111,112],6),([115,101,110,100],7),([111,117,116],8),([100,111],9)] w).getD 0=0;simp only [Ef,Ne.symm a,Ne.symm b,Ne.symm c,Ne.symm d,Ne.symm e,Ne.symm f,if_false];rfl
def Sq (fu:Nat) (a:Bool×sb×Int×Int×Int×Int):sh Eb :=
 (pg a.2.1 a.2.2.1 a.2.2.2.1 a.2.2.2.2.1 a.2.2.2.2.2).bind fun b =>
 if b=true then
  if (0:Int)<(a.2.1.length:Int) then
   (at_ a.2.1 0).bind fun c =>
   Dj fu a (decide ((0:Int)<Rq c.Text))
  else
   Dj fu a false
 else
  Dj fu a false
theorem Dp {t:ya}{l:sb}{i:Int}{w:List UInt8}(a:t.Text=w) (b:Rq w=i) (c:0<i):Sq fu (false,t::l,e,d,0,0)=Lm fu (false,t::l,e,d,0,0) l i:=by
 unfold Sq;rw [rk,Option.bind_some,if_pos rfl,if_pos (by simp),Qf,Option.bind_some,a,b];unfold Dj;rw [if_pos (by simpa using c),Qf,Option.bind_some,Vj,Option.bind_some,a];show Lm fu _ l (Rq w)=_;rw [b]
theorem KC {l:sb}(h:∀ t a,l=t::a→Rq t.Text=0):Sq fu (false,l,e,d,0,0)=Lm fu (false,l,e,d,0,0) l 2:=by
 unfold Sq;rw [rk,Option.bind_some,if_pos rfl];cases l with
 | nil=>rw [if_neg (by simp)]; unfold Dj; rw [if_neg (by simp)]
 | cons t l =>
  rw [if_pos (by simp),Qf,Option.bind_some,h t l rfl];unfold Dj;rw [if_neg (by simp)]
theorem Ap {l:sb}{k:List UInt8}(h:gb l k=false):∀ t a,l=t::a→t.Text≠k:=by
 rintro t a rfl b;exact absurd h (by simp [gb,b])
theorem Xa.yg {l:sb}{a b c:Int}{s t:List UInt8}{f:List ab}:Xa e d l.length (bh l e d a s b c t f) (Sh a s l e d 0 0 b c t f):=by
 unfold bh Sh;exact Xa.od ih.Nc (fun er a h l=>⟨by (try simp only [ad h,bd h,nd h,xd h,yd h,ud h,gd h,Sc,Option.bind_some,Bool.false_eq_true,if_false]);exact ⟨_,_,rfl⟩⟩) fun l _=>Xa.pure
theorem fk (h:er≠0){l:sb}{x b c:Int}{s t:List UInt8}{f:List ab}:Sh x s l e d er a b c t f=some (⟨x,s,⟨b,c,t,f⟩,[],[]⟩,l,e,d,er,a):=by
 unfold Sh;rw [ad h];rfl
structure XC (e:Int) (n:Nat) (P:yi) (K:Nk):Prop where
 body:∀ l d,0≤d→d≤200→(202 - d)*12+(l.length:Int)+80≤n→Xa e d l.length (P.de l e d) (K.Sg l e d 0 0)
 stat:∀ l d,0≤d→d≤200→(202 - d)*12+1+(l.length:Int)+80≤n→Xa e d l.length (P.Yf l e d) (K.Oi l e d 0 0)
theorem rB:∀ n,XC e n (Vf n) (Tg n):=by
 intro n
 induction n with
 | zero=>exact ⟨fun l d a b h=>by omega,fun l d a b h=>by omega⟩
 | succ n B =>
  refine ⟨fun l d j o Q=>?_,fun l d j o Q=>?_⟩
  ·show Xa e d l.length (de n (Vf n) l e d) (Sg n (Tg n) l e d 0 0);unfold de Sg;obtain ⟨H,D⟩:∃ m,n=m+2:=⟨n - 2,by omega⟩;have Da:∀ er a,er≠0→∀ (q:Nat) (l:sb) (acc:List Eb),Fh e d er a (Rh (Tg n) (q+1) l e (d+1) er a acc):=fun er a h q l acc=>⟨by rw [mx h j (by omega)];exact ⟨_,_,rfl⟩⟩;refine Xa.oh j o (fun er a h=>⟨by (try simp only [ad h,bd h,nd h,xd h,yd h,ud h,gd h,Sc,Option.bind_some,Bool.false_eq_true,if_false,Au j o]);exact ⟨_,_,rfl⟩⟩) fun gb=>Xa.od ih.Nc (fun er a h l=>?_) fun l g=>?_
   ·show Fh e d er a (Rh (Tg n) n l e (d+1) er a []);have:=Da er a h (H+1) l [];rwa [← D] at this
   have key:∀ (q:Nat) (l:sb) (acc:List Eb),(201 - d)*12+1+(l.length:Int)+80≤n→acc.length≤50→51 - acc.length<q→Xa e d l.length (uh (Vf n) q l e (d+1) acc) (Rh (Tg n) q l e (d+1) 0 0 acc):=by
    intro q
    induction q with
    | zero=>intro l acc _ _ h; omega
    | succ q R =>
     intro l acc rc fd id;obtain ⟨K,L⟩:∃ m,q=m+1:=⟨q - 1,by omega⟩;have F:∀ x:Eb,app acc [x]=some (acc++[x]):=fun x=>fl (by omega);unfold uh Rh;refine Xa.cm (rk _ _ _) ?_;rw [if_pos rfl];refine Xa.is (fun c _=>Xa.Wb (zr j o) (Xa.ak (Au j o) Xa.pure)) fun _=>Xa.f ?_;show Xa e d l.length _ (_root_.ite ((acc.length:Int)=50) ((zi l e (d+1) 0 0).bind fun S=>(wh l e (d+1) 0 0 5 S).bind fun w=>Hl (Tg n) acc (Rh (Tg n) q) w.1 w.2.1 w.2.2.1 w.2.2.2.1 w.2.2.2.2) (Hl (Tg n) acc (Rh (Tg n) q) l e (d+1) 0 0));refine Xa.ite (fun T=>?_) fun T=>?_
     ·rw [sg,Sc,Option.bind_some,Option.bind_some,qk];refine Xa.err (by simp) ?_;show Fh e d 5 (Wg l e) (Hl (Tg n) acc (Rh (Tg n) q) l e (d+1) 5 (Wg l e));unfold Hl;rw [D,az (by decide) (by omega) (by omega),Option.bind_some,F,Option.bind_some,← D,L];exact Da 5 _ (by decide) K l _
     ·unfold Hl;refine Xa.bind (B.stat l (d+1) (by omega) gb (by omega)) (fun er a h y l=>?_) fun x c g=>Xa.lu (F _) (R c _ (by omega) (by simp;omega) (by simp;omega));rw [F,Option.bind_some,L];exact Da er a h K l _
   exact key n l [] (by omega) (by simp) (by simp;omega)
  ·show Xa e d l.length (Yf n (Vf n) l e d) (Oi n (Tg n) l e d 0 0);have E:=qB (e:=e) n;obtain ⟨m,hm⟩:∃ m,n=m+1:=⟨n - 1,by omega⟩;have M:d≤1000:=by omega
   have A:∀ er a,er≠0→∀ l,(qd n).uf l e d er a=some (⟨0,0,[],[]⟩,l,e,d,er,a):=fun er a h l=>by rw [hm];exact rr h j M m l e a
   have P:∀ er a,er≠0→∀ l,(Tg n).Sg l e d er a=some ([],l,e,d,er,a):=fun er a h l=>by rw [hm];exact rv h j M m l e a
   unfold Yf Oi;refine Xa.is (fun c g=>?_) fun H=>Xa.is (fun c g=>?_) fun md=>?_
   ·refine Xa.bind (E.expr c d j o (by omega)) (fun er a h y l=>⟨by (try simp only [ad h,bd h,nd h,xd h,yd h,ud h,gd h,Sc,Option.bind_some,Bool.false_eq_true,if_false,P _ _ h,Dn]);exact ⟨_,_,rfl⟩⟩) fun x s C=>Xa.bind (B.body s d j o (by omega)) (fun er a h y l=>⟨by (try simp only [ad h,bd h,nd h,xd h,yd h,ud h,gd h,Sc,Option.bind_some,Bool.false_eq_true,if_false,Dn]);exact ⟨_,_,rfl⟩⟩) fun y l3 G=>?_;exact Xa.is (fun v rd=>Xa.bind (B.body v d j o (by omega)) (fun er a h y l=>⟨by (try simp only [ad h,bd h,nd h,xd h,yd h,ud h,gd h,Sc,Option.bind_some,Bool.false_eq_true,if_false,Dn]);exact ⟨_,_,rfl⟩⟩) fun z wd _=>Xa.pure) fun _=>Xa.pure
   ·exact Xa.bind (E.expr c d j o (by omega)) (fun er a h y l=>⟨by (try simp only [ad h,bd h,nd h,xd h,yd h,ud h,gd h,Sc,Option.bind_some,Bool.false_eq_true,if_false,P _ _ h]);exact ⟨_,_,rfl⟩⟩) fun x s C=>Xa.bind (B.body s d j o (by omega)) (fun er a h y l=>⟨by (try simp only [ad h,bd h,nd h,xd h,yd h,ud h,gd h,Sc,Option.bind_some,Bool.false_eq_true,if_false]);exact ⟨_,_,rfl⟩⟩) fun y l3 G=>Xa.pure
   refine Xa.ak (B':=Sq n (false,l,e,d,0,0)) rfl ?_;refine Xa.bo (fun t c k p=>?_) fun V=>Xa.bo (fun t c k p=>?_) fun W=>Xa.bo (fun t c k p=>?_) fun X=>Xa.bo (fun t c k p=>?_) fun Y=>Xa.bo (fun t c k p=>?_) fun gc=>Xa.bo (fun t c k p=>?_) fun lc=>?_
   ·have g:=congrArg List.length k;rw [k,Dp p (i:=1) (by rfl) (by decide)];simp only [List.length_cons] at g;refine Xa.ak (B':=(Rg c e d 0 0).bind fun r=>(Bf r.2.1 r.2.2.1 r.2.2.2.1 r.2.2.2.2.1 r.2.2.2.2.2 [61]).bind fun u=>((qd n).uf u.1 u.2.1 u.2.2.1 u.2.2.2.1 u.2.2.2.2).bind fun x=>Sh 1 r.1 x.2.1 x.2.2.1 x.2.2.2.1 x.2.2.2.2.1 x.2.2.2.2.2 x.1.Kind x.1.N x.1.Name x.1.Kids) (by rfl) ?_;exact Xa.bind (Xa.name (by omega)) (fun er a h y l=>⟨by (try simp only [ad h,bd h,nd h,xd h,yd h,ud h,gd h,Sc,Option.bind_some,Bool.false_eq_true,if_false,A _ _ h,fk h]);exact ⟨_,_,rfl⟩⟩) fun x s C=>Xa.od ih.Nc (fun er a h l=>⟨by (try simp only [ad h,bd h,nd h,xd h,yd h,ud h,gd h,Sc,Option.bind_some,Bool.false_eq_true,if_false,A _ _ h,fk h]);exact ⟨_,_,rfl⟩⟩) fun l3 G=>Xa.bind (E.expr l3 d j o (by omega)) (fun er a h y l=>⟨by (try simp only [ad h,bd h,nd h,xd h,yd h,ud h,gd h,Sc,Option.bind_some,Bool.false_eq_true,if_false,fk h]);exact ⟨_,_,rfl⟩⟩) fun y v _=>Xa.yg
   ·have g:=congrArg List.length k;rw [k,Dp p (i:=5) (by rfl) (by decide)];simp only [List.length_cons] at g;refine Xa.ak (B':=((qd n).uf c e d 0 0).bind fun x=>Sh 5 [] x.2.1 x.2.2.1 x.2.2.2.1 x.2.2.2.2.1 x.2.2.2.2.2 x.1.Kind x.1.N x.1.Name x.1.Kids) (by rfl) ?_;exact Xa.bind (E.expr c d j o (by omega)) (fun er a h y l=>⟨by (try simp only [ad h,bd h,nd h,xd h,yd h,ud h,gd h,Sc,Option.bind_some,Bool.false_eq_true,if_false,fk h]);exact ⟨_,_,rfl⟩⟩) fun y v _=>Xa.yg
   ·have g:=congrArg List.length k;rw [k,Dp p (i:=6) (by rfl) (by decide)];exact Xa.ak (B':=Sh 6 [] c e d 0 0 0 0 [] []) (by rfl) Xa.yg
   ·have g:=congrArg List.length k;rw [k,Dp p (i:=7) (by rfl) (by decide)];simp only [List.length_cons] at g;refine Xa.ak (B':=(Rg c e d 0 0).bind fun r=>((qd n).uf r.2.1 r.2.2.1 r.2.2.2.1 r.2.2.2.2.1 r.2.2.2.2.2).bind fun x=>Sh 7 r.1 x.2.1 x.2.2.1 x.2.2.2.1 x.2.2.2.2.1 x.2.2.2.2.2 x.1.Kind x.1.N x.1.Name x.1.Kids) (by rfl) ?_;exact Xa.bind (Xa.name (by omega)) (fun er a h y l=>⟨by (try simp only [ad h,bd h,nd h,xd h,yd h,ud h,gd h,Sc,Option.bind_some,Bool.false_eq_true,if_false,A _ _ h,fk h]);exact ⟨_,_,rfl⟩⟩) fun x s C=>Xa.bind (E.expr s d j o (by omega)) (fun er a h y l=>⟨by (try simp only [ad h,bd h,nd h,xd h,yd h,ud h,gd h,Sc,Option.bind_some,Bool.false_eq_true,if_false,fk h]);exact ⟨_,_,rfl⟩⟩) fun y v _=>Xa.yg
   ·have g:=congrArg List.length k;rw [k,Dp p (i:=8) (by rfl) (by decide)];simp only [List.length_cons] at g;refine Xa.ak (B':=((qd n).uf c e d 0 0).bind fun x=>Sh 8 [] x.2.1 x.2.2.1 x.2.2.2.1 x.2.2.2.2.1 x.2.2.2.2.2 x.1.Kind x.1.N x.1.Name x.1.Kids) (by rfl) ?_;exact Xa.bind (E.expr c d j o (by omega)) (fun er a h y l=>⟨by (try simp only [ad h,bd h,nd h,xd h,yd h,ud h,gd h,Sc,Option.bind_some,Bool.false_eq_true,if_false,fk h]);exact ⟨_,_,rfl⟩⟩) fun y v _=>Xa.yg
   ·have g:=congrArg List.length k;rw [k,Dp p (i:=9) (by rfl) (by decide)];simp only [List.length_cons] at g;refine Xa.ak (B':=((qd n).uf c e d 0 0).bind fun x=>Sh 9 [] x.2.1 x.2.2.1 x.2.2.2.1 x.2.2.2.2.1 x.2.2.2.2.2 x.1.Kind x.1.N x.1.Name x.1.Kids) (by rfl) ?_;exact Xa.bind (E.expr c d j o (by omega)) (fun er a h y l=>⟨by (try simp only [ad h,bd h,nd h,xd h,yd h,ud h,gd h,Sc,Option.bind_some,Bool.false_eq_true,if_false,fk h]);exact ⟨_,_,rfl⟩⟩) fun y v _=>Xa.yg
   ·rw [KC fun t c g=>fC (Ap V t c g) (Ap W t c g) (Ap X t c g) (Ap Y t c g) (Ap gc t c g) (Ap lc t c g)];refine Xa.ak (B':=(Rg l e d 0 0).bind fun r=>(Bf r.2.1 r.2.2.1 r.2.2.2.1 r.2.2.2.2.1 r.2.2.2.2.2 [61]).bind fun u=>((qd n).uf u.1 u.2.1 u.2.2.1 u.2.2.2.1 u.2.2.2.2).bind fun x=>Sh 2 r.1 x.2.1 x.2.2.1 x.2.2.2.1 x.2.2.2.2.1 x.2.2.2.2.2 x.1.Kind x.1.N x.1.Name x.1.Kids) (by rfl) ?_;exact Xa.bind (Xa.name (by omega)) (fun er a h y l=>⟨by (try simp only [ad h,bd h,nd h,xd h,yd h,ud h,gd h,Sc,Option.bind_some,Bool.false_eq_true,if_false,A _ _ h,fk h]);exact ⟨_,_,rfl⟩⟩) fun x s C=>Xa.od ih.Nc (fun er a h l=>⟨by (try simp only [ad h,bd h,nd h,xd h,yd h,ud h,gd h,Sc,Option.bind_some,Bool.false_eq_true,if_false,A _ _ h,fk h]);exact ⟨_,_,rfl⟩⟩) fun l3 G=>Xa.bind (E.expr l3 d j o (by omega)) (fun er a h y l=>⟨by (try simp only [ad h,bd h,nd h,xd h,yd h,ud h,gd h,Sc,Option.bind_some,Bool.false_eq_true,if_false,fk h]);exact ⟨_,_,rfl⟩⟩) fun y v _=>Xa.yg
theorem Xa.def {l:sb}(D:(l.length:Int)+3000≤fu):Xa e 0 l.length (vi fu l e 0) (Wn fu l e 0 0 0):=by
 have S:=rB (e:=e) fu;have c:∀ er a,er≠0→∀ (l:sb) (k t t2:Int) (s s1 s2:List UInt8) (Cg:List TParam),Fh e 0 er a (lk fu l e 0 er a k s t s1 t2 s2 Cg):=fun er a h l k t t2 s s1 s2 Cg=>⟨by
  obtain ⟨y,w⟩:=Gu (fu:=fu) h (Int.le_refl 0) (by decide) (by omega) l e a k t t2 s s1 s2 Cg;exact ⟨y,l,w⟩⟩
 have ax:∀ er a,er≠0→∀ l,Jl fu l e 0 er a=some ([],l,e,0,er,a):=fun er a h l=>Lx h (by omega) l e 0 a;have Mp:∀ er a,er≠0→∀ (g:List UInt8×sb×Int×Int×Int×Int) (i:fe×sb×Int×Int×Int×Int) (p:Int×sb×Int×Int×Int×Int) (l:sb),Fh e 0 er a (Hn g i p l e 0 er a):=fun er a h g i p l=>⟨by
  unfold Hn;rw [ad h];exact ⟨_,_,rfl⟩⟩
 have Np:∀ er a,er≠0→∀ (g:List UInt8×sb×Int×Int×Int×Int) (i:fe×sb×Int×Int×Int×Int) (x y:Int) (l:sb) (b:Bool),Fh e 0 er a (Mm g i x (y,l,e,0,er,a) b):=fun er a h g i x y l b=>by
  unfold Mm;split
  ·rw [gd h];exact Mp er a h _ _ _ _
  ·exact Mp er a h _ _ _ _
 unfold vi Wn;rw [sg,Option.bind_some];refine Xa.is (fun j m=>?_) fun E=>Xa.is (fun j m=>?_) fun F=>Xa.is (fun j m=>?_) fun G=>?_
 ·refine Xa.bind (Xa.name (by omega)) ?_ fun x d n=>Xa.bind (Xa.Bg (by omega)) ?_ fun y l3 q=>?_
  ·intro er a h y l;simp only [ad h,bd h,nd h,xd h,yd h,ud h,gd h,Sc,Option.bind_some,Bool.false_eq_true,if_false];split<;>exact Np er a h _ _ _ _ _ _
  ·intro er a h y l;simp only [ad h,bd h,nd h,xd h,yd h,ud h,gd h,Sc,Option.bind_some,Bool.false_eq_true,if_false];split<;>exact Np er a h _ _ _ _ _ _
  rw [sg,Sc,Option.bind_some,Option.bind_some];refine Xa.bind Xa.number ?_ fun z f r=>?_
  ·intro er a h y l;split<;>exact Np er a h _ _ _ _ _ _
  have u:∀ b,Xa e 0 f.length (ki (x,d,e,0) (y,l3,e,0) (Wg l3 e) (z,f,e,0) b) (Mm (x,d,e,0,0,0) (y,l3,e,0,0,0) (Wg l3 e) (z,f,e,0,0,0) b):=fun b=>by
   unfold ki Mm;refine Xa.ite (fun _=>?_) fun _=>?_
   ·rw [qk];exact Xa.err (by simp) (Mp _ _ (by simp) _ _ _ _)
   ·unfold Hn;exact Xa.od ih.Nc (fun er a h l=>⟨by (try simp only [ad h,bd h,nd h,xd h,yd h,ud h,gd h,Sc,Option.bind_some,Bool.false_eq_true,if_false]);exact ⟨_,_,rfl⟩⟩) fun l _=>Xa.pure
  exact Xa.ite (fun _=>u _) fun _=>u _
 ·refine Xa.bind (Xa.name (by omega)) (fun er a h y l=>?_) fun x d n=>Xa.bind (Xa.params (by omega)) (fun er a h y l=>?_) fun y l3 q=>Xa.bind (Xa.Bg (by omega)) (fun er a h y l=>c er a h _ _ _ _ _ _ _ _) fun z f r=>?_
  ·simp only [ax er a h,ad h,bd h,nd h,xd h,yd h,ud h,gd h,Sc,Option.bind_some,Bool.false_eq_true,if_false];exact c er a h _ _ _ _ _ _ _ _
  ·simp only [ad h,bd h,nd h,xd h,yd h,ud h,gd h,Sc,Option.bind_some,Bool.false_eq_true,if_false];exact c er a h _ _ _ _ _ _ _ _
  unfold lk;exact Xa.bind (S.body f 0 (by omega) (by omega) (by omega)) (fun er a h y l=>⟨by (try simp only [ad h,bd h,nd h,xd h,yd h,ud h,gd h,Sc,Option.bind_some,Bool.false_eq_true,if_false]);exact ⟨_,_,rfl⟩⟩) fun b v _=>Xa.pure
 ·refine Xa.bind (Xa.name (by omega)) (fun er a h y l=>?_) fun x d n=>Xa.bind (Xa.params (by omega)) (fun er a h y l=>?_) fun y l3 q=>Xa.od ih.Nc (fun er a h l=>?_) fun f r=>Xa.bind (Xa.Bg (by omega)) (fun er a h y l=>?_) fun z v H=>Xa.od ih.Nc (fun er a h l=>?_) fun K L=>Xa.bind (Xa.Bg (by omega)) (fun er a h y l=>c er a h _ _ _ _ _ _ _ _) fun z A M=>?_
  ·simp only [ax er a h,ad h,bd h,nd h,xd h,yd h,ud h,gd h,Sc,Option.bind_some,Bool.false_eq_true,if_false];exact c er a h _ _ _ _ _ _ _ _
  ·simp only [ad h,bd h,nd h,xd h,yd h,ud h,gd h,Sc,Option.bind_some,Bool.false_eq_true,if_false];exact c er a h _ _ _ _ _ _ _ _
  ·simp only [ad h,bd h,nd h,xd h,yd h,ud h,gd h,Sc,Option.bind_some,Bool.false_eq_true,if_false];exact c er a h _ _ _ _ _ _ _ _
  ·simp only [ad h,bd h,nd h,xd h,yd h,ud h,gd h,Sc,Option.bind_some,Bool.false_eq_true,if_false];exact c er a h _ _ _ _ _ _ _ _
  ·simp only [ad h,bd h,nd h,xd h,yd h,ud h,gd h,Sc,Option.bind_some,Bool.false_eq_true,if_false];exact c er a h _ _ _ _ _ _ _ _
  unfold lk;exact Xa.bind (S.body A 0 (by omega) (by omega) (by omega)) (fun er a h y l=>⟨by (try simp only [ad h,bd h,nd h,xd h,yd h,ud h,gd h,Sc,Option.bind_some,Bool.false_eq_true,if_false]);exact ⟨_,_,rfl⟩⟩) fun b N _=>Xa.pure
 ·refine Xa.bo (fun t j o B=>?_) fun C=>?_
  ·have la:Bf l e 0 0 0 [116,97,115,107]=some (j,e,0,0,0):=by rw [Xs,if_pos (by rw [o];simp [gb,B]),o];rfl
   have m:=congrArg List.length o;simp only [List.length_cons] at m;refine Xa.cm la (Xa.bind (Xa.name (by omega)) (fun er a h y l=>c er a h _ _ _ _ _ _ _ _) fun x d n=>?_);unfold lk;exact Xa.bind (S.body d 0 (by omega) (by omega) (by omega)) (fun er a h y l=>⟨by (try simp only [ad h,bd h,nd h,xd h,yd h,ud h,gd h,Sc,Option.bind_some,Bool.false_eq_true,if_false]);exact ⟨_,_,rfl⟩⟩) fun b v _=>Xa.pure
  ·have la:Bf l e 0 0 0 [116,97,115,107]=some (l,e,0,2,Wg l e):=by rw [Xs,if_neg (by simp [C])]
   have h:(2:Int)≠0:=by decide
   refine Xa.cm la (Xa.err h ?_);show Fh e 0 2 (Wg l e) ((Rg l e 0 2 (Wg l e)).bind _);rw [nd h];exact c _ _ h _ _ _ _ _ _ _ _
theorem Bu (h:er≠0) (n:Nat) (l:sb) (e d a:Int) (acc:List dc):hk fu (n+1) l e d er a acc=some ([],⟨er,a⟩):=by
 unfold hk;rw [qi h,Option.bind_some,if_neg (by simp)];unfold Xo;rw [if_neg (by simp),qi h,Option.bind_some,if_neg (by simp)];unfold Wo;rw [qi h,Option.bind_some,if_neg (by simp)]
theorem cz {j:sb×xb}(q:j.2=⟨0,0⟩) (e:Int):∀ (n:Nat) (l:sb) (acc:List dc),(l.length:Int)+3000≤fu→acc.length≤30→31 - acc.length<n→aj fu j n l e 0 acc=hk fu n l e 0 0 0 acc:=by
 intro n
 induction n with
 | zero=>intro l acc _ _ h; omega
 | succ n r =>
  intro l acc s v w;obtain ⟨z,k⟩:∃ m,n=m+1:=⟨n - 1,by omega⟩;have c:∀ x:dc,app acc [x]=some (acc++[x]):=fun x=>fl (by omega);unfold aj hk;rw [rk,Option.bind_some,if_pos rfl];unfold Xo;by_cases h:(0:Int)<(l.length:Int)
  ·rw [if_pos h,if_pos (decide_eq_true h)];by_cases b:(acc.length:Int)=30
   ·rw [if_pos b,if_pos b,sg,Sc,Option.bind_some,Option.bind_some,qk,Option.bind_some];unfold Vo;obtain ⟨y,t⟩:=Xz (er:=5) (fu:=fu) (by decide) (Int.le_refl 0) (by decide) (by omega) l e (Wg l e);rw [t,Option.bind_some,c,Option.bind_some,k];exact (Bu (by decide) _ _ _ _ _ _).symm
   ·rw [if_neg b,if_neg b];unfold Vo;rcases (Xa.def (e:=e) (l:=l) s).out with ⟨x,o,d,p,i⟩ | ⟨f,y,o,d,p,i⟩
    ·rw [d,i,Fw,Option.bind_some,c,Option.bind_some,Option.bind_some];unfold so;exact r o _ (by omega) (by simp;omega) (by simp;omega)
    ·rw [d,i,SA,Option.bind_some,c,Option.bind_some,k];exact (Bu p _ _ _ _ _ _).symm
  ·rw [if_neg h,if_neg (show ¬ decide ((0:Int)<(l.length:Int))=true from fun g=>h (of_decide_eq_true g)),rk,Option.bind_some,if_pos rfl,Yy (by omega)];obtain ⟨f,u,-⟩:=qs fu (by omega) acc;rw [u,Option.bind_some,Option.bind_some,qk,Option.bind_some];unfold Wo;by_cases a:f.oe≠0
   ·rw [if_pos a,qi a,Option.bind_some,if_neg (by simp)];rfl
   ·rw [if_neg a];have a:f.oe=0:=Decidable.not_not.1 a;unfold uo Vm;rw [a,rk,Option.bind_some,Option.bind_some,if_pos rfl,q]
end
end Go.Y
namespace Go.Y
open Go.cc Go.Kc Go.af
theorem gC (c:UInt8):cls c=(Kf c:Int):=by
 have b:isLet c=ng c:=by
  unfold isLet ng;rw [Bool.eq_iff_iff];simp
 have d:wi c=dd c:=by
  unfold wi dd;rw [Bool.eq_iff_iff];simp
 unfold cls Kf;rw [b,d];cases ng c with
 | true=>rfl
 | false =>
  cases dd c with
  | true=>rfl
  | false =>
   simp only [Bool.false_eq_true,if_false];have a:(c.toNat=32∨c.toNat=9∨c.toNat=10) ↔ Wf c=true:=by unfold Wf;simp [or_assoc]
   by_cases h:Wf c=true
   ·rw [if_pos h,if_pos (a.2 h)];rfl
   ·rw [if_neg h,if_neg fun g=>h (a.1 g)];split<;>rfl
theorem Ar (c:UInt8):Il c=some (Kf c:Int):=by rw [Mv,gC]
theorem Hw {n:Int}(a:0≤n) (b:n<9223372036854775808):Ep n=n:=by
 unfold Ep;rw [IntKind.wrap_i64];omega
theorem LC {n:Int}(a:0≤n) (b:n<256):Me n=n:=by
 unfold Me;rw [IntKind.wrap_u8];omega
abbrev YC:=Int→List ya→Option (List ya×xb)
section
variable {s:List UInt8}{acc:List ya}{K:YC}{p:Nat}
theorem hC (b:s.length≤6000):∀ (m i:Nat),i≤s.length→s.length - i<m→jm s acc K m (i:Int)=K ((i+((s.drop i).takeWhile Mf).length:Nat):Int) acc:=by
 intro m
 induction m with
 | zero=>intro i _ h; omega
 | succ m a =>
  intro i c hm;unfold jm;by_cases h:i<s.length
  ·rw [if_pos (by omega),rl (List.getElem?_eq_getElem h),Option.bind_some,Pm h,List.takeWhile_cons];unfold lo;have e:decide (((s[i].toNat:Nat):Int)≠10)=Mf s[i]:=by
    unfold Mf;rw [Bool.eq_iff_iff];simp;omega
   rw [e];by_cases g:Mf s[i]=true
   ·rw [if_pos g,if_pos g,Wh (by omega) (by omega),Option.bind_some,show ((i:Int)+1)=((i+1:Nat):Int) by omega,a (i+1) (by omega) (by omega)];congr 2;simp only [List.length_cons];omega
   ·rw [if_neg g,if_neg g];simp
  ·rw [if_neg (by omega),List.drop_of_length_le (by omega)];unfold lo;rw [if_neg (by decide)];simp
theorem iC (b:s.length≤6000):∀ (m i:Nat),i≤s.length→s.length - i<m→km s (p:Int) acc K m (i:Int)=(cut s (p:Int) ((i+((s.drop i).takeWhile Kh).length:Nat):Int)).bind fun u=>(app acc [ya.mk 1 u 0 p]).bind fun l=>K ((i+((s.drop i).takeWhile Kh).length:Nat):Int) l:=by
 intro m
 induction m with
 | zero=>intro i _ h; omega
 | succ m a =>
  intro i c hm;unfold km;by_cases h:i<s.length
  ·rw [if_pos (by omega),rl (List.getElem?_eq_getElem h),Option.bind_some,Ar,Option.bind_some,Pm h,List.takeWhile_cons];unfold mo;have e:decide (((Kf s[i]:Nat):Int)≤2)=Kh s[i]:=by
    rw [HC];exact decide_eq_decide.2 (by omega)
   rw [e];by_cases g:Kh s[i]=true
   ·rw [if_pos g,if_pos g,Wh (by omega) (by omega),Option.bind_some,show ((i:Int)+1)=((i+1:Nat):Int) by omega,a (i+1) (by omega) (by omega)];rw [show i+1+((s.drop (i+1)).takeWhile Kh).length=i+(s[i]::(s.drop (i+1)).takeWhile Kh).length by simp only [List.length_cons];omega]
   ·rw [if_neg g,if_neg g];simp
  ·rw [if_neg (by omega),List.drop_of_length_le (by omega)];unfold mo;rw [if_neg (by decide)];simp
theorem jC (B:s.length≤6000) (C:p≤s.length){D:List UInt8}(b:D=(s.drop p).takeWhile dd):∀ (m k:Nat),k≤D.length→D.length - k<m→vl s (p:Int) acc K m ((p+k:Nat):Int) ((val (D.take (min k 15)):Nat):Int) =
  if 15<D.length then some ([],⟨3,p⟩) else (cut s (p:Int) ((p+D.length:Nat):Int)).bind fun u=>(app acc [ya.mk 2 u (val D:Nat) p]).bind fun l=>K ((p+D.length:Nat):Int) l:=by
 have d:D.all dd=true:=by rw [b];exact Ou _
 obtain ⟨r,f⟩:∃ r,D++r=s.drop p:=by rw [b];exact List.takeWhile_prefix dd
 have hle:D.length≤s.length - p:=by
  rw [b];have:=(List.takeWhile_sublist (l:=s.drop p) dd).length_le;simpa using this
 intro m
 induction m with
 | zero=>intro k _ h; omega
 | succ m j =>
  intro k o hm;unfold vl;by_cases h:k<D.length
  ·have q:s[p+k]?=some D[k]:=by
    have la:(s.drop p)[k]?=some D[k]:=by rw [← f,List.getElem?_append_left h,List.getElem?_eq_getElem h]
    simpa using la
   have i:dd D[k]=true:=List.all_eq_true.1 d _ (List.getElem_mem h);have w:Kf D[k]=2:=by rw [Ow] at i;exact of_decide_eq_true i
   have E:48≤D[k].toNat∧D[k].toNat≤57:=by simpa [dd] using i
   rw [if_pos (by omega),rl q,Option.bind_some,Ar,Option.bind_some,w];unfold rn;rw [if_pos (by decide),Wh (by omega) (by omega),Option.bind_some];by_cases F:k<15
   ·rw [if_pos (by omega),rl q,Option.bind_some];have G:val (D.take k)<1000000000000000:=hy (by
     rw [List.all_eq_true];intro x y;exact List.all_eq_true.1 d x (List.mem_of_mem_take y)) (by rw [List.length_take];omega)
    rw [LC (by omega) (by omega),Wh (by omega) (by omega),Option.bind_some,Wh (by omega) (by omega),Option.bind_some];have e:=Ny (l:=D) (k:=k) (c:=D[k]) (List.getElem?_eq_getElem h);rw [show min k 15=k by omega] at *;rw [Hw (n:=10*_) (by omega) (by omega),Hw (by omega) (by omega)];have:=j (k+1) (by omega) (by omega);rw [show min (k+1) 15=k+1 by omega,e] at this;rw [← this];congr 1;omega
   ·rw [if_neg (by omega),Wh (by omega) (by omega),Option.bind_some];have:=j (k+1) (by omega) (by omega);rw [show min (k+1) 15=min k 15 by omega] at this;exact this
  ·have o:k=D.length:=by omega
   subst o;have key:rn s (p:Int) acc ((p+D.length:Nat):Int) ((val (D.take (min D.length 15)):Nat):Int) K (vl s (p:Int) acc K m) false=if 15<D.length then some ([],⟨3,p⟩) else (cut s (p:Int) ((p+D.length:Nat):Int)).bind fun u=>(app acc [ya.mk 2 u (val D:Nat) p]).bind fun l=>K ((p+D.length:Nat):Int) l:=by
    unfold rn;rw [if_neg (by decide),Wh (by omega) (by omega),Option.bind_some];by_cases g:15<D.length
    ·rw [if_pos (by omega),if_pos g]
    ·rw [if_neg (by omega),if_neg g,show min D.length 15=D.length by omega,List.take_length]
   by_cases t:p+D.length<s.length
   ·rw [if_pos (by omega),rl (List.getElem?_eq_getElem t),Option.bind_some,Ar,Option.bind_some];have v:dd s[p+D.length]=false:=by
     cases z:dd s[p+D.length] with
     | false=>rfl
     | true =>
      have la:(s.drop p)[D.length]?=some s[p+D.length]:=by simp [List.getElem?_eq_getElem t]
      rw [← f,List.getElem?_append_right (Nat.le_refl _),Nat.sub_self] at la;cases r with
      | nil=>simp at la
      | cons c r =>
       simp only [List.getElem?_cons_zero,Option.some.injEq] at la;have e2:=congrArg List.length b;rw [← f,List.takeWhile_append_of_pos (fun a A=>List.all_eq_true.1 d a A),List.takeWhile_cons,la,z] at e2;simp at e2
    rw [show decide (((Kf s[p+D.length]:Nat):Int)=2)=false by
     rw [Ow] at v;exact decide_eq_false fun g=>(of_decide_eq_false v) (by omega)]
    exact key
   ·rw [if_neg (by omega)];exact key
end
theorem kC {fu:Nat}(N:7000≤fu){s:List UInt8}(j:s.length≤6000):∀ (n i:Nat) (acc:List ya),i≤s.length→s.length - i<n→acc.length≤i→Ve fu s n (i:Int) acc=some (eh (lg i (s.drop i)) acc):=by
 intro n
 induction n with
 | zero=>intro i _ _ h; omega
 | succ n k =>
  intro i acc C q P;unfold Ve;by_cases h:i<s.length
  ·have gb:s.drop i=s[i]::s.drop (i+1):=Pm h;have Q:(s.drop i).length=s.length - i:=List.length_drop ..;have D:∀ x:ya,app acc [x]=some (acc++[x]):=fun x=>by unfold app;rw [if_pos (by simp;omega)]
   rw [if_pos (by omega),rl (List.getElem?_eq_getElem h),Option.bind_some,Ar,Option.bind_some];have tok:∀ (t:Tok),Wf s[i]=false→¬ s[i].toNat=35→gg i (s.drop i)=.ok t→0<t.text.length→(cut s (i:Int) ((i+t.text.length:Nat):Int)).bind (fun u=>(app acc [ya.mk t.kind u t.num i]).bind fun l=>Ve fu s n ((i+t.text.length:Nat):Int) l)=some (eh (lg i (s.drop i)) acc):=by
    intro t Da E m _;obtain ⟨R,S,F,G⟩:=Yo m;have H:cut s (i:Int) ((i+t.text.length:Nat):Int)=some t.text:=by
     unfold cut;rw [if_pos ⟨by omega,by omega,by omega⟩];simp only [Int.toNat_natCast];rw [List.drop_take,show i+t.text.length - i=t.text.length by omega];exact congrArg some F.symm
    rw [H,Option.bind_some,D,Option.bind_some,k _ _ (by omega) (by omega) (by simp;omega)];rw [gb] at m
    conv=>rhs;rw [gb,QA Da E m,ov,← gb]
    rw [List.drop_drop,mn,G]
   by_cases r:Kf s[i]=3
   ·rw [if_pos (by omega),Wh (by omega) (by omega),Option.bind_some,show ((i:Int)+1)=((i+1:Nat):Int) by omega,k (i+1) acc (by omega) (by omega) (by omega)];rw [gb,Ly (DC r)]
   rw [if_neg (by omega)];by_cases o:Kf s[i]=4
   ·rw [if_pos (by omega),hC j fu i (by omega) (by omega)];have hle:=(List.takeWhile_sublist (l:=s.drop i) Mf).length_le;have d:0<((s.drop i).takeWhile Mf).length:=by
     rw [gb,List.takeWhile_cons,if_pos (by simp [Mf,Nw o])];simp
    rw [k _ acc (by omega) (by omega) (by omega)]
    conv=>rhs;rw [gb,PA (Nw o),← gb]
    rw [List.drop_drop]
   rw [if_neg (by omega)];by_cases v:Kf s[i]=1
   ·obtain ⟨g1,g2,g3⟩:=EC v;rw [if_pos (by omega),iC j fu i (by omega) (by omega)];have d:0<((s.drop i).takeWhile Kh).length:=by
     rw [gb,List.takeWhile_cons,if_pos (by simp [Kh,g1])];simp
    exact tok ⟨1,(s.drop i).takeWhile Kh,0,i⟩ g2 g3 (by rw [gb];simp only [gg,g1,if_true]) d
   rw [if_neg (by omega)];by_cases w:Kf s[i]=2
   ·obtain ⟨g1,g2,g3,g4⟩:=FC w;rw [if_pos (by omega)];have hle:=(List.takeWhile_sublist (l:=s.drop i) dd).length_le;have e:=jC (acc:=acc) (K:=Ve fu s n) j C (rfl:(s.drop i).takeWhile dd=_) fu 0 (by omega) (by omega);rw [show min 0 15=0 by rfl,List.take_zero,Nat.add_zero] at e;rw [show ((val []:Nat):Int)=0 by rfl] at e;rw [e];have a:gg i (s.drop i)=if 15<((s.drop i).takeWhile dd).length then .error 3 else .ok ⟨2,(s.drop i).takeWhile dd,val ((s.drop i).takeWhile dd),i⟩:=by
     rw [gb];exact hv g1 g2
    have d:0<((s.drop i).takeWhile dd).length:=by
     rw [gb,List.takeWhile_cons,if_pos g2];simp
    by_cases g:15<((s.drop i).takeWhile dd).length
    ·rw [if_pos g];rw [if_pos g] at a;rw [gb] at a ⊢;rw [mw g3 g4 a];rfl
    ·rw [if_neg g];rw [if_neg g] at a;exact tok _ g3 g4 a d
   rw [if_neg (by omega)];obtain ⟨g1,g2,g3,g4⟩:=GC v w r o;have b:sign (s.drop i)=if (s.drop (i+1)).head?=some 61∧(s[i].toNat=61∨s[i].toNat=33∨s[i].toNat=60∨s[i].toNat=62) then [s[i],61] else if s[i].toNat=33∨Mh.contains s[i]=false then [] else [s[i]]:=by rw [gb];exact sign_eq _ _
   have a:gg i (s.drop i)=if sign (s.drop i)=[] then .error 2 else .ok ⟨3,sign (s.drop i),0,i⟩:=by
    rw [gb];exact Mu g1 g2
   rw [Option.bind_some,Wh (by omega) (by omega),Option.bind_some,show ((i:Int)+1)=((i+1:Nat):Int) by omega];have yes:sign (s.drop i)=[s[i],61]→wj s (i:Int) acc s[i] ((i+1:Nat):Int) (Ve fu s n) true=some (eh (lg i (s.drop i)) acc):=fun c=>by
    rw [c,if_neg (by simp)] at a;have p:2≤(s.drop i).length:=(Yo a).2.1;unfold wj;rw [if_pos rfl,Wh (by omega) (by omega),Option.bind_some];unfold ko;exact tok _ g3 g4 a (by simp)
   have no:¬ ((s.drop (i+1)).head?=some 61∧(s[i].toNat=61∨s[i].toNat=33∨s[i].toNat=60∨s[i].toNat=62))→wj s (i:Int) acc s[i] ((i+1:Nat):Int) (Ve fu s n) false=some (eh (lg i (s.drop i)) acc):=fun q=>by
    rw [if_neg q] at b;unfold wj;rw [if_neg (by decide)];have L:sign (s.drop i)=[s[i]]→im s (i:Int) acc ((i+1:Nat):Int) (Ve fu s n) false=some (eh (lg i (s.drop i)) acc):=fun c=>by
     unfold im ko;rw [if_neg (by decide)];rw [c,if_neg (by simp)] at a;exact tok _ g3 g4 a (by simp)
    have bad:sign (s.drop i)=[]→im s (i:Int) acc ((i+1:Nat):Int) (Ve fu s n) true=some (eh (lg i (s.drop i)) acc):=fun c=>by
     unfold im;rw [if_pos rfl];rw [if_pos c,gb] at a;rw [gb,mw g3 g4 a];rfl
    by_cases y:s[i].toNat=33
    ·rw [if_pos (by omega)];exact bad (by rw [b,if_pos (.inl y)])
    ·rw [if_neg (by omega)];unfold ot;rw [Option.bind_some];cases z:Mh.contains s[i] with
     | true=>exact L (by rw [b,if_neg (by rw [z]; simp [y])])
     | false=>exact bad (by rw [b,if_pos (.inr z)])
   by_cases p:i+1<s.length
   ·rw [if_pos (by omega),rl (List.getElem?_eq_getElem p),Option.bind_some];have A:(s.drop (i+1)).head?=some s[i+1]:=by rw [Pm p];rfl
    by_cases B:s[i+1].toNat=61
    ·rw [if_pos (by omega)];have M:(s.drop (i+1)).head?=some 61:=by rw [A];congr 1;exact UInt8.toNat_inj.1 B
     have f:(s[i].toNat=61∨s[i].toNat=33∨s[i].toNat=60∨s[i].toNat=62)→sign (s.drop i)=[s[i],61]:=fun g=>by rw [b,if_pos ⟨M,g⟩]
     by_cases k1:s[i].toNat=61
     ·rw [if_pos (by omega)];exact yes (f (by omega))
     rw [if_neg (by omega)];by_cases T:s[i].toNat=33
     ·rw [if_pos (by omega)];exact yes (f (by omega))
     rw [if_neg (by omega)];by_cases V:s[i].toNat=60
     ·rw [if_pos (by omega)];exact yes (f (by omega))
     rw [if_neg (by omega)];by_cases ho:s[i].toNat=62
     ·rw [decide_eq_true (by omega)];exact yes (f (by omega))
     ·rw [decide_eq_false (by omega)];exact no (by omega)
    ·rw [if_neg (by omega)];exact no fun g=>B (by rw [A] at g;rw [Option.some.inj g.1];rfl)
   ·rw [if_neg (by omega)];exact no fun g=>by rw [List.drop_of_length_le (by omega)] at g;simp at g
  ·rw [if_neg (by omega),List.drop_of_length_le (by omega),pA (by rfl)];simp [eh]
theorem ox {fu:Nat}(a:7000≤fu) (s:List UInt8):Xp fu s=some (eh (tokens s) []):=by
 unfold Xp;by_cases h:6000<s.length
 ·rw [if_pos (by omega),show tokens s=.error (4,0) by unfold tokens;rw [if_pos h]];rfl
 ·rw [if_neg (by omega),Ux (by omega)];exact kC a (by omega) fu 0 [] (by omega) (by omega) (by simp)
end Go.Y
namespace Go.Y
open Go.cc Go.Kc
theorem sB {fu:Nat}(c:10000≤fu) (s:List UInt8):jk fu s=tq fu s:=by
 unfold jk tq;rw [Uq (by omega),ox (by omega),Option.bind_some,Option.bind_some];cases a:af.tokens s with
 | error q =>
  have:=Ds a;rw [if_pos (by show ((q.1:Nat):Int)≠0;omega),if_pos (by show ((q.1:Nat):Int)≠0;omega)];rfl
 | ok b =>
  have d:b.length≤6000:=by
   unfold af.tokens at a;split at a
   ·cases a
   ·have:=pv a;simp only [List.length_drop] at this;omega
  rw [if_neg (by simp [eh]),if_neg (by simp [eh])];refine cz rfl _ fu _ [] ?_ (by simp) (by simp;omega);show (([]++b.map mn).length:Int)+3000≤fu;simp;omega
theorem dz {fu:Nat}{b:sb×xb}(f:b.2.oe=0):∀ (n:Nat) (l:sb) (e d:Int) (acc a:List dc) (g:xb),aj fu b n l e d acc=some (a,g)→g.oe≠0→a=[]:=by
 intro n
 induction n with
 | zero=>intro l e d acc a g h; cases h
 | succ n i =>
  intro l e d acc a g h c;unfold aj at h;split at h
  ·split at h
   ·obtain ⟨x,-,h⟩:=Option.bind_eq_some_iff.1 h;cases h;rfl
   ·rcases eu h with ⟨q,-,j⟩ | ⟨r,-,h⟩
    ·cases j;rfl
    ·obtain ⟨k,-,h⟩:=Option.bind_eq_some_iff.1 h;unfold so at h;exact i _ _ _ _ _ _ h c
  ·obtain ⟨r,-,h⟩:=Option.bind_eq_some_iff.1 h;split at h
   ·unfold Sp Vm at h;cases h;rfl
   ·unfold uo Vm at h;cases h;exact absurd f c
theorem ez {fu:Nat}(d:10000≤fu){s:List UInt8}{a:List dc}{g:xb}(h:jk fu s=some (a,g)) (b:g.oe≠0):a=[]:=by
 unfold jk at h;rw [Uq (by omega),Option.bind_some] at h;split at h
 ·unfold Rp at h;cases h;rfl
 ·rename_i c;exact dz (Decidable.not_not.1 c) _ _ _ _ _ _ _ h b
theorem oy (fu:Nat):Rm fu [] []=some true:=by
 unfold Rm;rw [if_neg (by simp)];show zj fu [] [] 1 0=_;unfold zj;rw [if_neg (by simp)]
theorem px (s:List UInt8):hq 60001 s=some true:=by
 unfold hq;obtain ⟨⟨a,f⟩,b⟩:=hB (fu:=60001) (s:=s) (by decide);rw [← sB (by decide),b,Option.bind_some,Option.bind_some,if_pos (by simp [ch])];have d:Rm 60001 a a=some true:=by
  by_cases h:f.oe=0
  ·obtain ⟨-,e,k,l,g,i⟩:=Qz (fu:=60001) (by decide) b h;obtain ⟨q,c,j⟩:=qs 60001 (by decide) a;rw [g] at c;obtain rfl:=Option.some.inj c;exact mB (by decide) (j i).2 (cC e)
  ·rw [ez (by decide) b h];exact oy _
 rw [d];rfl
end Go.Y
