/- Texts of SynJoined Pl. -/
import Derived.Test.YtbdiobhgejmgoaaDoorCMd
import Derived.KernelRfl
set_option linter.unusedSimpArgs false
set_option linter.unusedVariables false
set_option linter.unusedSectionVars false
namespace Go.Lx
def letterB (c:UInt8):Bool:=(97≤c.toNat && c.toNat≤122) || c.toNat == 95
def digitB (c:UInt8):Bool:=48≤c.toNat && c.toNat≤57
def wordB (c:UInt8):Bool:=letterB c || digitB c
def lineB (c:UInt8):Bool:=c.toNat != 10
def blankB (c:UInt8):Bool:=c.toNat == 32 || c.toNat == 9 || c.toNat == 10
def sp:Bool→List UInt8→Nat
 | _,[]=>0
 | false,c::l=>if blankB c then 1+sp false l else if c.toNat=35 then 1+sp true l else 0
 | true,c::l=>if c.toNat=10 then 1+sp false l else 1+sp true l
def space (l:List UInt8):Nat:=sp false l
theorem sp_remark (l:List UInt8):sp true l=(l.takeWhile lineB).length+sp false (l.drop (l.takeWhile lineB).length):=by
 induction l with
 | nil=>rfl
 | cons c l ih =>
  by_cases h:c.toNat=10
  ·have hb:blankB c=true:=by simp [blankB,h]
   simp [sp,lineB,h,hb]
  ·have hl:lineB c=true:=by simp [lineB,h]
   simp only [sp,h,List.takeWhile_cons,hl,if_true,if_false,List.length_cons,List.drop_succ_cons]
   rw [ih]
   omega
theorem space_blank {c:UInt8} {l:List UInt8} (h:blankB c=true):space (c::l)=1+space l:=by simp [space,sp,h]
theorem space_remark {c:UInt8} {l:List UInt8} (h:c.toNat=35):space (c::l)=((c::l).takeWhile lineB).length+space ((c::l).drop ((c::l).takeWhile lineB).length):=by
 have hb:blankB c=false:=by simp [blankB,h]
 have hl:lineB c=true:=by simp [lineB,h]
 simp only [space,sp,hb,h,List.takeWhile_cons,hl,if_true,if_false,Bool.false_eq_true,List.length_cons,List.drop_succ_cons]
 rw [sp_remark]
 omega
theorem space_stop {c:UInt8} {l:List UInt8} (hb:blankB c=false) (h:¬ c.toNat=35):space (c::l)=0:=by simp [space,sp,hb,h]
theorem sp_le (b:Bool) (l:List UInt8):sp b l≤l.length:=by
 induction l generalizing b with
 | nil=>simp [sp]
 | cons c l ih =>
  have h1:=ih false
  have h2:=ih true
  cases b <;> simp only [sp,List.length_cons] <;> split <;> (try split) <;> omega
theorem space_le (l:List UInt8):space l≤l.length:=sp_le false l
def signs:List (List UInt8):=[[61,61],[33,61],[60,61],[62,61],[60],[62],[61],[43],[45],[42],[47],[37],[40],[41],[123],[125],[44],[59]]
def sign (l:List UInt8):List UInt8:=(signs.find? fun x=>x.isPrefixOf l).getD []
theorem pre_take (l p:List UInt8):decide (l.take p.length=p)=p.isPrefixOf l:=by
 rw [Bool.eq_iff_iff]
 simp only [decide_eq_true_eq,List.isPrefixOf_iff_prefix]
 constructor
 ·intro h; rw [← h]; exact List.take_prefix _ _
 ·intro h; exact (List.prefix_iff_eq_take.1 h).symm
theorem pre_short (l p:List UInt8) (h:l.length<p.length):p.isPrefixOf l=false:=by
 rw [Bool.eq_false_iff]
 intro hp
 have:=(List.isPrefixOf_iff_prefix.1 hp).length_le
 omega
theorem sign_le (l:List UInt8):(sign l).length≤l.length:=by
 unfold sign
 cases h:signs.find? fun x=>x.isPrefixOf l with
 | none=>simp
 | some x =>
  have hp:=List.find?_some (p:=fun x:List UInt8=>x.isPrefixOf l) h
  exact (List.isPrefixOf_iff_prefix.1 hp).length_le
structure Tok where
 kind:Nat
 text:List UInt8
 num:Nat
 pos:Nat
 deriving DecidableEq
def valFrom (a:Nat) (t:List UInt8):Nat:=t.foldl (fun a c=>a*10+(c.toNat - 48)) a
def val (t:List UInt8):Nat:=valFrom 0 t
def tok1 (pos:Nat) (l:List UInt8):Except Nat Tok:=match l with
 | []=>.error 0
 | c::_ =>
  if letterB c then .ok ⟨1,l.takeWhile wordB,0,pos⟩
  else if digitB c then (if 15<(l.takeWhile digitB).length then .error 3 else .ok ⟨2,l.takeWhile digitB,val (l.takeWhile digitB),pos⟩)
  else if sign l=[] then .error 2 else .ok ⟨3,sign l,0,pos⟩
def toks:Nat→Nat→List UInt8→Except (Nat×Nat) (List Tok)
 | 0,_,_=>.ok []
 | n+1,pos,l=>if l=[] then .ok [] else match tok1 pos l with
  | .error e=>.error (e,pos)
  | .ok t=>(toks n (pos+t.text.length+space (l.drop t.text.length)) ((l.drop t.text.length).drop (space (l.drop t.text.length)))).map (t::·)
def tokens (l:List UInt8):Except (Nat×Nat) (List Tok):=if 6000<l.length then .error (4,0) else toks (l.length+1) (space l) (l.drop (space l))
theorem tok1_len {pos:Nat} {l:List UInt8} {t:Tok} (h:tok1 pos l=.ok t):0<t.text.length∧t.text.length≤l.length∧t.text=l.take t.text.length∧t.pos=pos:=by
 cases l with
 | nil=>cases h
 | cons c l =>
  unfold tok1 at h
  simp only at h
  have tw:∀ p:UInt8→Bool,p c=true→0<((c::l).takeWhile p).length∧((c::l).takeWhile p).length≤(c::l).length∧(c::l).takeWhile p=(c::l).take ((c::l).takeWhile p).length:=by
   intro p hp
   refine ⟨by simp [List.takeWhile_cons,hp],(List.takeWhile_sublist _).length_le,?_⟩
   exact List.prefix_iff_eq_take.1 (List.takeWhile_prefix _)
  by_cases h1:letterB c=true
  ·rw [if_pos h1] at h
   cases h
   obtain ⟨a,b,d⟩:=tw wordB (by simp [wordB,h1])
   exact ⟨a,b,d,rfl⟩
  ·rw [if_neg h1] at h
   by_cases h2:digitB c=true
   ·rw [if_pos h2] at h
    by_cases h3:15<((c::l).takeWhile digitB).length
    ·rw [if_pos h3] at h; cases h
    ·rw [if_neg h3] at h
     cases h
     obtain ⟨a,b,d⟩:=tw digitB h2
     exact ⟨a,b,d,rfl⟩
   ·rw [if_neg h2] at h
    by_cases h3:sign (c::l)=[]
    ·rw [if_pos h3] at h; cases h
    ·rw [if_neg h3] at h
     cases h
     refine ⟨List.length_pos_iff.2 h3,sign_le _,?_,rfl⟩
     unfold sign at h3 ⊢
     cases hf:signs.find? (fun x=>x.isPrefixOf (c::l)) with
     | none=>rw [hf] at h3; simp at h3
     | some x =>
      have hp:=List.find?_some (p:=fun x:List UInt8=>x.isPrefixOf (c::l)) hf
      exact List.prefix_iff_eq_take.1 (List.isPrefixOf_iff_prefix.1 hp)
theorem tok1_num {pos:Nat} {c:UInt8} {l:List UInt8} (h2:letterB c=false) (h3:digitB c=true):tok1 pos (c::l)=if 15<((c::l).takeWhile digitB).length then .error 3 else .ok ⟨2,(c::l).takeWhile digitB,val ((c::l).takeWhile digitB),pos⟩:=by
 simp only [tok1,h2,h3]
 rfl
theorem tok1_sign {pos:Nat} {c:UInt8} {l:List UInt8} (h2:letterB c=false) (h3:digitB c=false):tok1 pos (c::l)=if sign (c::l)=[] then .error 2 else .ok ⟨3,sign (c::l),0,pos⟩:=by
 simp only [tok1,h2,h3]
 rfl
theorem toks_fuel {n m pos:Nat} {l:List UInt8} (hn:l.length<n) (hm:l.length<m):toks n pos l=toks m pos l:=by
 induction n generalizing m pos l with
 | zero=>omega
 | succ n ih =>
  cases m with
  | zero=>omega
  | succ m =>
   unfold toks
   by_cases h:l=[]
   ·rw [if_pos h,if_pos h]
   ·rw [if_neg h,if_neg h]
    cases ht:tok1 pos l with
    | error e=>rfl
    | ok t =>
     simp only
     have hl:=tok1_len ht
     rw [ih (m:=m) (by simp; omega) (by simp; omega)]
theorem val_lt (t:List UInt8):∀ a k,a<10 ^ k→t.all digitB=true→valFrom a t<10 ^ (k+t.length):=by
 induction t with
 | nil=>intro a k h _; simpa [valFrom] using h
 | cons c t ih =>
  intro a k h hd
  simp only [List.all_cons,Bool.and_eq_true] at hd
  have hc:c.toNat - 48≤9:=by simp [digitB] at hd; omega
  have:=ih (a*10+(c.toNat - 48)) (k+1) (by rw [Nat.pow_succ]; omega) hd.2
  simp only [valFrom,List.foldl_cons,List.length_cons] at this ⊢
  rw [show k+(t.length+1)=k+1+t.length by omega]
  exact this
theorem tw_digits (l:List UInt8):(l.takeWhile digitB).all digitB=true:=by
 induction l with
 | nil=>rfl
 | cons c l ih =>
  rw [List.takeWhile_cons]
  by_cases h:digitB c=true
  ·rw [if_pos h,List.all_cons,h,ih]; rfl
  ·rw [if_neg h]; rfl
theorem tw_take (p:UInt8→Bool) (l:List UInt8):l.take (l.takeWhile p).length=l.takeWhile p:=(List.prefix_iff_eq_take.1 (List.takeWhile_prefix _)).symm
def lexr (pos:Nat) (l:List UInt8):Except (Nat×Nat) (List Tok):=toks (l.length+1) pos l
theorem lexr_nil (pos:Nat):lexr pos []=.ok []:=rfl
theorem lexr_err {pos e:Nat} {l:List UInt8} (h:l≠[]) (ht:tok1 pos l=.error e):lexr pos l=.error (e,pos):=by
 unfold lexr toks
 rw [if_neg h,ht]
theorem lexr_ok {pos:Nat} {l:List UInt8} {t:Tok} (h:l≠[]) (ht:tok1 pos l=.ok t) :
  lexr pos l=(lexr (pos+t.text.length+space (l.drop t.text.length)) ((l.drop t.text.length).drop (space (l.drop t.text.length)))).map (t::·):=by
 have hl:=tok1_len ht
 unfold lexr
 rw [toks.eq_def]
 simp only [if_neg h,ht]
 rw [toks_fuel (n:=l.length) (m:=((l.drop t.text.length).drop (space (l.drop t.text.length))).length+1) (by simp; omega) (by omega)]
theorem tokens_eq (l:List UInt8):tokens l=if 6000<l.length then .error (4,0) else lexr (space l) (l.drop (space l)):=by
 unfold tokens lexr
 split
 ·rfl
 ·rw [toks_fuel]
  ·simp; omega
  ·omega
end Go.Lx
namespace Go.Lx
def lx (p:Nat) (l:List UInt8):Except (Nat×Nat) (List Tok):=lexr (p+space l) (l.drop (space l))
def tks (l:List UInt8):List Tok:=match tokens l with | .ok ts=>ts | .error _=>[]
def tkE (l:List UInt8):Nat:=match tokens l with | .ok _=>0 | .error e=>e.1
theorem tokens_lx {l:List UInt8} (h:l.length≤6000):tokens l=lx 0 l:=by
 rw [tokens_eq,if_neg (by omega),lx,Nat.zero_add]
theorem lx_end {p:Nat} {l:List UInt8} (h:space l=l.length):lx p l=.ok []:=by
 rw [lx,h,List.drop_length,lexr_nil]
theorem lx_ok {p:Nat} {l:List UInt8} {t:Tok} (h:space l<l.length) (ht:tok1 (p+space l) (l.drop (space l))=.ok t) :
  lx p l=(lx (p+space l+t.text.length) (l.drop (space l+t.text.length))).map (t::·):=by
 have hne:l.drop (space l)≠[]:=by
  intro e
  have:=congrArg List.length e
  simp at this
  omega
 rw [lx,lexr_ok hne ht,lx,List.drop_drop]
theorem lx_err {p e:Nat} {l:List UInt8} (h:space l<l.length) (ht:tok1 (p+space l) (l.drop (space l))=.error e):lx p l=.error (e,p+space l):=by
 have hne:l.drop (space l)≠[]:=by
  intro e
  have:=congrArg List.length e
  simp at this
  omega
 rw [lx,lexr_err hne ht]
theorem map_ok {ε:Type} {r:Except ε (List Tok)} {t:Tok} {us:List Tok} (h:r.map (t::·)=.ok us):∃ ts,us=t::ts∧r=.ok ts:=by
 cases r with
 | error e=>cases h
 | ok ts=>cases h; exact ⟨ts,rfl,rfl⟩
theorem lx_inv {p:Nat} {l:List UInt8} {us:List Tok} (h:lx p l=.ok us):(us=[]∧space l=l.length) ∨
  ∃ t ts,us=t::ts∧space l<l.length∧tok1 (p+space l) (l.drop (space l))=.ok t∧t.pos=p+space l∧0<t.text.length∧space l+t.text.length≤l.length∧t.text=(l.drop (space l)).take t.text.length∧lx (p+space l+t.text.length) (l.drop (space l+t.text.length))=.ok ts:=by
 have hs:=space_le l
 by_cases he:space l=l.length
 ·rw [lx_end he] at h
  cases h
  exact .inl ⟨rfl,he⟩
 ·have hlt:space l<l.length:=by omega
  cases ht:tok1 (p+space l) (l.drop (space l)) with
  | error e=>rw [lx_err hlt ht] at h; cases h
  | ok t =>
   rw [lx_ok hlt ht] at h
   obtain ⟨ts,rfl,h2⟩:=map_ok h
   obtain ⟨a,b,c,d⟩:=tok1_len ht
   rw [List.length_drop] at b
   exact .inr ⟨t,ts,rfl,hlt,rfl,d,a,by omega,c,h2⟩
theorem sp_app_lt (r:List UInt8):∀ (l:List UInt8) (b:Bool),sp b l<l.length→sp b (l++r)=sp b l:=by
 intro l
 induction l with
 | nil=>intro b h; simp at h
 | cons c l ih =>
  intro b h
  cases b with
  | false =>
   simp only [sp,List.cons_append] at h ⊢
   split
   ·rename_i hb; rw [if_pos hb] at h; rw [ih false (by simp at h; omega)]
   ·rename_i hb
    rw [if_neg hb] at h
    split
    ·rename_i hc; rw [if_pos hc] at h; rw [ih true (by simp at h; omega)]
    ·rfl
  | true =>
   simp only [sp,List.cons_append] at h ⊢
   split
   ·rename_i hb; rw [if_pos hb] at h; rw [ih false (by simp at h; omega)]
   ·rename_i hb; rw [if_neg hb] at h; rw [ih true (by simp at h; omega)]
theorem sp_app_all (t:List UInt8):∀ (l:List UInt8) (b:Bool),sp b l=l.length→sp b (l++10::t)=l.length+1+sp false t:=by
 intro l
 induction l with
 | nil=>intro b h; cases b <;> simp [sp,blankB]
 | cons c l ih =>
  intro b h
  cases b with
  | false =>
   simp only [sp,List.cons_append,List.length_cons] at h ⊢
   split
   ·rename_i hb; rw [if_pos hb] at h; rw [ih false (by omega)]; omega
   ·rename_i hb
    rw [if_neg hb] at h
    split
    ·rename_i hc; rw [if_pos hc] at h; rw [ih true (by omega)]; omega
    ·rename_i hc; rw [if_neg hc] at h; omega
  | true =>
   simp only [sp,List.cons_append,List.length_cons] at h ⊢
   split
   ·rename_i hb; rw [if_pos hb] at h; rw [ih false (by omega)]; omega
   ·rename_i hb; rw [if_neg hb] at h; rw [ih true (by omega)]; omega
theorem tw_app {p:UInt8→Bool} (hp:p 10=false) (l t:List UInt8):(l++10::t).takeWhile p=l.takeWhile p:=by
 induction l with
 | nil=>simp [hp]
 | cons c l ih =>
  rw [List.cons_append,List.takeWhile_cons,List.takeWhile_cons,ih]
theorem pre_app {x:List UInt8} (hx:10 ∉ x):∀ (l t:List UInt8),x.isPrefixOf (l++10::t)=x.isPrefixOf l:=by
 induction x with
 | nil=>intro l t; rfl
 | cons c x ih =>
  intro l t
  have hc:c≠10:=fun e=>hx (by simp [e])
  cases l with
  | nil=>simp [List.isPrefixOf,hc]
  | cons d l =>
   simp only [List.cons_append,List.isPrefixOf]
   rw [ih (fun h=>hx (by simp [h]))]
theorem sign_app (l t:List UInt8):sign (l++10::t)=sign l:=by
 unfold sign
 congr 1
 have h:∀ x ∈ signs,(10:UInt8) ∉ x:=by decide
 revert h
 generalize signs=xs
 intro h
 induction xs with
 | nil=>rfl
 | cons x xs ih =>
  rw [List.find?_cons,List.find?_cons,pre_app (h x (by simp)),ih (fun y hy=>h y (by simp [hy]))]
theorem tok1_app {p:Nat} {l t:List UInt8} (h:l≠[]):tok1 p (l++10::t)=tok1 p l:=by
 cases l with
 | nil=>exact absurd rfl h
 | cons c l =>
  have h1:=tw_app (p:=wordB) (by decide) (c::l) t
  have h2:=tw_app (p:=digitB) (by decide) (c::l) t
  have h3:=sign_app (c::l) t
  rw [List.cons_append] at h1 h2 h3 ⊢
  simp only [tok1,h1,h2,h3]
theorem lx_join:∀ (n:Nat) (l:List UInt8) (p:Nat) (ts us:List Tok) (t:List UInt8),l.length≤n→lx p l=.ok ts→lx (p+l.length+1) t=.ok us→lx p (l++10::t)=.ok (ts++us):=by
 intro n
 induction n with
 | zero =>
  intro l p ts us t hn h1 h2
  have:l=[]:=List.eq_nil_of_length_eq_zero (by omega)
  subst this
  cases h1
  have hs:space ([]++10::t)=1+space t:=space_blank (by decide)
  have hx:lx p ([]++10::t)=lx (p+0+1) t:=by
   unfold lx
   rw [hs,List.nil_append,show p+(1+space t)=p+0+1+space t by omega,Nat.add_comm 1 (space t),List.drop_succ_cons]
  rw [hx]
  exact h2
 | succ n ih =>
  intro l p ts us t hn h1 h2
  rcases lx_inv h1 with ⟨rfl,hs⟩ | ⟨k,ts,rfl,hs,ht,hp,h0,hl,hk,hr⟩
  ·have e:space (l++10::t)=l.length+1+space t:=sp_app_all t l false hs
   have hx:lx p (l++10::t)=lx (p+l.length+1) t:=by
    unfold lx
    rw [e,show p+(l.length+1+space t)=p+l.length+1+space t by omega,show l++10::t=(l++[10])++t by simp,List.drop_append,List.drop_eq_nil_of_le (by simp)]
    simp [Nat.add_assoc]
    congr 2
    omega
   rw [hx]
   exact h2
  ·have e:space (l++10::t)=space l:=sp_app_lt _ l false hs
   have hne:l.drop (space l)≠[]:=by
    intro e
    have:=congrArg List.length e
    simp at this
    omega
   have hd:(l++10::t).drop (space l)=l.drop (space l)++10::t:=List.drop_append_of_le_length (by omega)
   rw [lx_ok (t:=k) (by rw [e]; simp; omega) (by rw [e,hd,tok1_app hne]; exact ht),e]
   have hd2:(l++10::t).drop (space l+k.text.length)=l.drop (space l+k.text.length)++10::t:=List.drop_append_of_le_length (by omega)
   rw [hd2,ih (l.drop (space l+k.text.length)) _ ts us t (by rw [List.length_drop]; omega) hr (by
    rw [List.length_drop,show p+space l+k.text.length+(l.length - (space l+k.text.length))+1=p+l.length+1 by omega]; exact h2)]
   rfl
def Tok.on (d:Nat) (t:Tok):Tok:={ t with pos:=t.pos+d }
theorem tok1_on {p d:Nat} {l:List UInt8} {t:Tok} (h:tok1 p l=.ok t):tok1 (p+d) l=.ok (t.on d):=by
 cases l with
 | nil=>cases h
 | cons c l =>
  simp only [tok1] at h ⊢
  split at h
  ·rename_i h1; rw [if_pos h1]; cases h; rfl
  ·rename_i h1
   rw [if_neg h1]
   split at h
   ·rename_i h2
    rw [if_pos h2]
    split at h
    ·cases h
    ·rename_i h3; rw [if_neg h3]; cases h; rfl
   ·rename_i h2
    rw [if_neg h2]
    split at h
    ·cases h
    ·rename_i h3; rw [if_neg h3]; cases h; rfl
theorem lx_on (d:Nat):∀ (n:Nat) (l:List UInt8) (p:Nat) (ts:List Tok),l.length≤n→lx p l=.ok ts→lx (p+d) l=.ok (ts.map (Tok.on d)):=by
 intro n
 induction n with
 | zero =>
  intro l p ts hn h
  have:l=[]:=List.eq_nil_of_length_eq_zero (by omega)
  subst this
  cases h
  rfl
 | succ n ih =>
  intro l p ts hn h
  rcases lx_inv h with ⟨rfl,hs⟩ | ⟨k,ts,rfl,hs,ht,hp,h0,hl,hk,hr⟩
  ·exact lx_end hs
  ·have ht2:=tok1_on (d:=d) ht
   rw [show p+space l+d=p+d+space l by omega] at ht2
   rw [lx_ok hs ht2]
   have:=ih _ _ ts (by rw [List.length_drop]; omega) hr
   rw [show p+space l+k.text.length+d=p+d+space l+k.text.length by omega] at this
   rw [show (k.on d).text=k.text from rfl,this]
   rfl
theorem tks_lx {l:List UInt8} (h:tkE l=0) (hl:l.length≤6000):lx 0 l=.ok (tks l):=by
 have h1:=tokens_lx hl
 unfold tkE at h
 unfold tks
 rw [h1] at h ⊢
 cases hx:lx 0 l with
 | ok ts=>rfl
 | error e =>
  rw [hx] at h
  exfalso
  have:∀ (n:Nat) (l:List UInt8) (p:Nat) (e:Nat×Nat),l.length≤n→lx p l=.error e→e.1≠0:=by
   intro n
   induction n with
   | zero =>
    intro l p e hn h
    have:l=[]:=List.eq_nil_of_length_eq_zero (by omega)
    subst this
    cases h
   | succ n ih =>
    intro l p e hn h
    by_cases he:space l=l.length
    ·rw [lx_end he] at h; cases h
    ·have hs:=space_le l
     have hlt:space l<l.length:=by omega
     cases ht:tok1 (p+space l) (l.drop (space l)) with
     | error e' =>
      rw [lx_err hlt ht] at h
      cases h
      simp only
      revert ht
      cases hd:l.drop (space l) with
      | nil=>have:=congrArg List.length hd; simp at this; omega
      | cons c r =>
       simp only [tok1]
       split
       ·intro h; cases h
       ·split
        ·split
         ·intro h; cases h; decide
         ·intro h; cases h
        ·split
         ·intro h; cases h; decide
         ·intro h; cases h
     | ok t =>
      rw [lx_ok hlt ht] at h
      obtain ⟨a,-⟩:=tok1_len ht
      cases hr:lx (p+space l+t.text.length) (l.drop (space l+t.text.length)) with
      | ok ts=>rw [hr] at h; cases h
      | error e2 =>
       rw [hr] at h
       cases h
       exact ih _ _ _ (by rw [List.length_drop]; omega) hr
  exact this _ _ _ _ (Nat.le_refl _) hx h
theorem tokens_join {s t:List UInt8} (h1:tkE s=0) (h2:tkE t=0) (hl:s.length+t.length+1≤6000):tokens (s++10::t)=.ok (tks s++(tks t).map (Tok.on (s.length+1))):=by
 rw [tokens_lx (by simp; omega)]
 refine lx_join _ s 0 _ _ t (Nat.le_refl _) (tks_lx h1 (by omega)) ?_
 have:=lx_on (s.length+1) _ t 0 _ (Nat.le_refl _) (tks_lx h2 (by omega))
 rw [show 0+s.length+1=0+(s.length+1) by omega]
 exact this
end Go.Lx
namespace Go.Y
open Go.Wk Go.Xt
abbrev Ts:=List TToken
def atE:Ts→Int→Int
 | [],e=>e
 | t::_,_=>t.At
def hd:Ts→List UInt8→Bool
 | [],_=>false
 | t::_,k=>decide (t.Text=k)
theorem at0 {α:Type} (x:α) (l:List α):at_ (x::l) 0=some x:=by simp [at_]
theorem cut1 {α:Type} (x:α) (l:List α):cut (x::l) 1 (x::l).length=some l:=by
 unfold cut
 rw [if_pos ⟨by omega,by simp; omega,by simp⟩]
 simp
theorem p_at_t (l:Ts) (e d:Int):p_at l e d=some (atE l e):=by
 cases l with
 | nil=>rfl
 | cons t l =>
  unfold p_at
  rw [if_neg (by simp; omega),at0]
  rfl
theorem p_sees_t (l:Ts) (e d:Int) (k:List UInt8):p_sees l e d k=some (hd l k):=by
 cases l with
 | nil=>rfl
 | cons t l =>
  unfold p_sees
  rw [if_pos (by simp),at0]
  rfl
theorem p_is_t (l:Ts) (e d:Int) (k:List UInt8):p_is l e d k=some (if hd l k=true then (true,l.tail,e,d) else (false,l,e,d)):=by
 unfold p_is
 rw [p_sees_t,Option.bind_some]
 cases l with
 | nil=>rfl
 | cons t l =>
  by_cases h:hd (t::l) k=true
  ·rw [if_pos h,if_pos h,cut1]; rfl
  ·rw [if_neg h,if_neg h]
theorem hd_pos {l:Ts} {k:List UInt8} (h:hd l k=true):∃ t l',l=t::l'∧t.Text=k:=by
 cases l with
 | nil=>cases h
 | cons t l=>exact ⟨t,l,rfl,of_decide_eq_true h⟩
theorem hd_len {l:Ts} {k:List UInt8} (h:hd l k=true):l.tail.length+1=l.length:=by
 obtain ⟨t,l',rfl,-⟩:=hd_pos h
 rfl
theorem p_need_t (l:Ts) (e d:Int) (k:List UInt8):p_need l e d [k]=some (if hd l k=true then .ok (l.tail,e,d) else .error ⟨2,atE l e⟩):=by
 unfold p_need
 show p_need_l1 [k] 2 0 l e d=_
 unfold p_need_l1
 rw [if_pos (by simp),at0,Option.bind_some,p_is_t,Option.bind_some]
 by_cases h:hd l k=true
 ·rw [if_pos h,if_pos rfl,if_pos h]
  show (some (1:Int)).bind _=_
  rw [Option.bind_some]
  unfold p_need_l1
  rw [if_neg (by simp)]
 ·rw [if_neg h,if_neg (by simp),if_neg h,p_at_t]
  rfl
theorem p_number_t (l:Ts) (e d:Int):p_number l e d=some (match l with
  | []=>.error ⟨2,e⟩
  | t::l'=>if t.Kind=2 then .ok (t.Num,l',e,d) else .error ⟨2,t.At⟩):=by
 cases l with
 | nil=>rfl
 | cons t l =>
  unfold p_number
  rw [if_neg (by simp; omega),at0,Option.bind_some]
  unfold p_number_j1
  by_cases h:t.Kind=2
  ·rw [if_neg (by simp [h]),at0,Option.bind_some,cut1,Option.bind_some]
   simp [h]
  ·rw [if_pos (by simp [h]),p_at_t,Option.bind_some]
   simp [h,atE]
theorem p_name_n {fu:Nat} (l:Ts) (e d:Int):p_name fu l e d=match l with
  | []=>some (.error ⟨2,e⟩)
  | t::l'=>if t.Kind=1 then (lex_named fu t.Text).bind fun b=>if b=true then some (.ok (t.Text,l',e,d)) else some (.error ⟨7,t.At⟩) else some (.error ⟨2,t.At⟩):=by
 cases l with
 | nil=>rfl
 | cons t l =>
  unfold p_name
  rw [if_neg (by simp; omega),at0,Option.bind_some]
  unfold p_name_j1
  by_cases h:t.Kind=1
  ·rw [if_neg (by simp [h]),at0,Option.bind_some]
   simp only [h,if_true]
   cases lex_named fu t.Text with
   | none=>rfl
   | some b =>
    rw [Option.bind_some,Option.bind_some,cut1,Option.bind_some,p_at_t,Option.bind_some]
    rfl
  ·rw [if_pos (by simp [h]),p_at_t,Option.bind_some]
   simp [h,atE]
theorem bC_ok {ε α β:Type} {x:α} {k:ε→β} {f:α→Option β}:bC (some (.ok x)) k f=f x:=rfl
theorem p_into_t {l:Ts} {e d:Int} (h0:0≤d) (h1:d≤1000):p_into l e d=some (if 200<d+1 then .error ⟨4,atE l e⟩ else .ok (l,e,d+1)):=by
 unfold p_into
 rw [show i64 (d+1)=some (d+1) by unfold i64; rw [if_pos (by omega)],Option.bind_some]
 by_cases h:200<d+1
 ·rw [if_pos h,if_pos h,p_at_t]; rfl
 ·rw [if_neg h,if_neg h]
theorem p_out_t {l:Ts} {e d:Int} (h0:1≤d) (h1:d≤1000):p_out l e d=some (l,e,d - 1):=by
 unfold p_out
 rw [show i64 (d - 1)=some (d - 1) by unfold i64; rw [if_pos (by omega)]]
 rfl
end Go.Y
namespace Go.Y
open Go.Wk Go.Xt Go.Lx
theorem parse_ok' (t:List UInt8):∀ acc k,acc<10 ^ k→k+t.length≤15→t.all digitB=true→Lib.parseUintM (2 ^ 64 - 1) acc t=.ok (valFrom acc t):=by
 induction t with
 | nil=>intro acc k _ _ _; rfl
 | cons c t ih =>
  intro acc k ha hk hd
  simp only [List.all_cons,Bool.and_eq_true] at hd
  have hc:48≤c.toNat∧c.toNat≤57:=by simpa [digitB] using hd.1
  have h14:acc<10 ^ 14:=Nat.lt_of_lt_of_le ha (Nat.pow_le_pow_right (by decide) (by simp at hk; omega))
  unfold Lib.parseUintM
  rw [if_pos hc,if_neg (by omega),if_neg (by omega)]
  exact ih _ (k+1) (by rw [Nat.pow_succ]; omega) (by simp at hk; omega) hd.2
theorem parse_ok (t:List UInt8) (h0:t≠[]) (h:t.length≤15) (hd:t.all digitB=true):Lib.parseIntB 64 t=.ok (val t:Nat):=by
 cases t with
 | nil=>exact absurd rfl h0
 | cons c t =>
  have hc:48≤c.toNat∧c.toNat≤57:=by simpa [digitB] using (List.all_eq_true.1 hd) c (by simp)
  have hv:=val_lt (c::t) 0 0 (by decide) hd
  have h2:(10:Nat) ^ (0+(c::t).length)≤10 ^ 15:=Nat.pow_le_pow_right (by decide) (by omega)
  have hu:=parse_ok' (c::t) 0 0 (by decide) (by simpa using h) hd
  unfold Lib.parseIntB
  simp only
  rw [if_neg (by omega)]
  unfold Lib.parseUintB
  rw [if_neg (by simp),hu]
  simp only
  rw [if_neg (by omega),if_neg (by omega),if_neg (by omega)]
  rfl
theorem bd_i64 {i:Int} (h0:0≤i) (h1:i≤100000):i64 i=some i:=by unfold i64; rw [if_pos (by omega)]
theorem at_nt {α:Type} {l:List α} {i:Nat} {x:α} (h:l[i]?=some x):at_ l (i:Int)=some x:=by simp [at_,h]
theorem at_hd {α:Type} (x:α) (l:List α):at_ (x::l) 0=some x:=by simp [at_]
theorem cut_nat {α:Type} {s:List α} {i:Nat} (h:i≤s.length):cut s (i:Int) (s.length:Int)=some (s.drop i):=by
 unfold cut
 rw [if_pos ⟨by omega,by omega,by omega⟩]
 simp
theorem cut_0 {α:Type} {s:List α} {i:Nat} (h:i≤s.length):cut s 0 (i:Int)=some (s.take i):=by
 unfold cut
 rw [if_pos ⟨by omega,by omega,by omega⟩]
 simp
theorem lxl_e (c:UInt8):lx_letter c=some (letterB c):=by
 unfold lx_letter letterB
 by_cases h:(97:Int)≤(c.toNat:Int)
 ·rw [if_pos h]
  by_cases h':(c.toNat:Int)≤122
  ·rw [if_pos h']
   have h1:97≤c.toNat:=by omega
   have h2:c.toNat≤122:=by omega
   simp [h1,h2]
  ·rw [if_neg h']
   have h2:¬ c.toNat≤122:=by omega
   have h3:((c.toNat:Int)=95) ↔ c.toNat=95:=by omega
   simp [h2,h3]; rfl
 ·rw [if_neg h]
  have h1:¬ 97≤c.toNat:=by omega
  have h3:((c.toNat:Int)=95) ↔ c.toNat=95:=by omega
  simp [h1,h3]; rfl
theorem lxd_e (c:UInt8):lx_digit c=some (digitB c):=by
 unfold lx_digit digitB
 by_cases h:(48:Int)≤(c.toNat:Int)
 ·rw [if_pos h]
  have h1:48≤c.toNat:=by omega
  have h3:((c.toNat:Int)≤57) ↔ c.toNat≤57:=by omega
  simp [h1,h3]
 ·rw [if_neg h]
  have h1:¬ 48≤c.toNat:=by omega
  simp [h1]
theorem lxt_e (c:UInt8):lx_t1 c=some (wordB c):=by
 unfold lx_t1 wordB
 rw [lxl_e,Option.bind_some]
 cases letterB c
 ·rw [if_neg (by decide),lxd_e]; rfl
 ·rfl
theorem lxs_e (c:UInt8):lx_s1 c=some (lineB c):=by
 unfold lx_s1 lineB
 have h3:((c.toNat:Int)≠10) ↔ c.toNat≠10:=by omega
 simp [h3,bne]; rfl
theorem drop_get {α:Type} {s:List α} {i:Nat} (h:i<s.length):s.drop i=s[i]::s.drop (i+1):=(List.drop_eq_getElem_cons h)
theorem lxw_l {p:UInt8→Option Bool} {pb:UInt8→Bool} (hp:∀ c,p c=some (pb c)) {s:List UInt8} (hs:s.length≤6000):∀ (n i:Nat),i≤s.length→s.length - i<n→lx_while_l1 s p n (i:Int)=some ((i+((s.drop i).takeWhile pb).length:Nat):Int):=by
 intro n
 induction n with
 | zero=>intro i _ h; omega
 | succ n ih =>
  intro i hi hn
  unfold lx_while_l1
  by_cases h:i<s.length
  ·rw [if_pos (by omega),at_nt (List.getElem?_eq_getElem h),Option.bind_some,hp,Option.bind_some,drop_get h,List.takeWhile_cons]
   unfold lx_while_j1
   by_cases g:pb s[i]=true
   ·rw [if_pos g,if_pos g,bd_i64 (by omega) (by omega),Option.bind_some]
    have:=ih (i+1) (by omega) (by omega)
    rw [show ((i:Int)+1)=((i+1:Nat):Int) by omega,this]
    congr 2
    simp only [List.length_cons]
    omega
   ·rw [if_neg g,if_neg g]
    simp
  ·rw [if_neg (by omega)]
   unfold lx_while_j1
   rw [if_neg (by decide),List.drop_of_length_le (by omega)]
   simp
theorem lxw_e {p:UInt8→Option Bool} {pb:UInt8→Bool} (hp:∀ c,p c=some (pb c)) {s:List UInt8} (hs:s.length≤6000) {fu:Nat} (hf:7000≤fu):lx_while fu s p=some ((s.takeWhile pb).length:Int):=by
 have:=lxw_l hp hs fu 0 (by omega) (by omega)
 unfold lx_while
 rw [show (0:Int)=((0:Nat):Int) by rfl,this]
 simp
theorem lxsp_l {fu:Nat} (hf:7000≤fu) {s:List UInt8} (hs:s.length≤6000):∀ (n i:Nat),i≤s.length→s.length - i<n→lx_space_l1 fu s n (i:Int)=some ((i+space (s.drop i):Nat):Int):=by
 intro n
 induction n with
 | zero=>intro i _ h; omega
 | succ n ih =>
  intro i hi hn
  unfold lx_space_l1
  by_cases h:i<s.length
  ·rw [if_pos (by omega),at_nt (List.getElem?_eq_getElem h),Option.bind_some]
   have hd:s.drop i=s[i]::s.drop (i+1):=drop_get h
   generalize hc:s[i]=c at hd ⊢
   have hl:(s.drop i).length=s.length - i:=List.length_drop ..
   by_cases hb:blankB c=true
   ·have e:space (s.drop i)=1+space (s.drop (i+1)):=by rw [hd]; exact space_blank hb
    have key:lx_space_j1 fu s (i:Int) c (lx_space_l1 fu s n) true=some ((i+space (s.drop i):Nat):Int):=by
     unfold lx_space_j1
     rw [if_pos rfl,bd_i64 (by omega) (by omega),Option.bind_some,show ((i:Int)+1)=((i+1:Nat):Int) by omega,ih (i+1) (by omega) (by omega),e]
     congr 2
     omega
    unfold blankB at hb
    simp only [Bool.or_eq_true,beq_iff_eq] at hb
    by_cases h1:(c.toNat:Int)=32
    ·rw [if_pos h1]; simpa [h1] using key
    ·rw [if_neg h1]
     by_cases h2:(c.toNat:Int)=9
     ·rw [if_pos h2]; simpa [h2] using key
     ·rw [if_neg h2]
      have h3:(c.toNat:Int)=10:=by omega
      simpa [h3] using key
   ·have hb':blankB c=false:=by simpa using hb
    have key:lx_space_j1 fu s (i:Int) c (lx_space_l1 fu s n) false=some ((i+space (s.drop i):Nat):Int):=by
     unfold lx_space_j1
     rw [if_neg (by decide)]
     by_cases g:c.toNat=35
     ·rw [if_pos (by omega),cut_nat (by omega),Option.bind_some,lxw_e lxs_e (by omega) hf,Option.bind_some]
      have ht:((s.drop i).takeWhile lineB).length≤(s.drop i).length:=(List.takeWhile_sublist _).length_le
      have hpos:0<((s.drop i).takeWhile lineB).length:=by
       rw [hd,List.takeWhile_cons,if_pos (by simp [lineB,g])]; simp
      rw [bd_i64 (by omega) (by omega),Option.bind_some,show ((i:Int)+(((s.drop i).takeWhile lineB).length:Int))=((i+((s.drop i).takeWhile lineB).length:Nat):Int) by omega,ih _ (by omega) (by omega)]
      have e:space (s.drop i)=((s.drop i).takeWhile lineB).length+space ((s.drop i).drop ((s.drop i).takeWhile lineB).length):=by
       conv=>lhs; rw [hd]
       rw [space_remark g,← hd]
      rw [List.drop_drop] at e
      rw [e]
      congr 2
      omega
     ·rw [if_neg (by omega)]
      have e:space (s.drop i)=0:=by rw [hd]; exact space_stop hb' g
      rw [e]; rfl
    unfold blankB at hb'
    simp only [Bool.or_eq_false_iff,beq_eq_false_iff_ne,ne_eq] at hb'
    rw [if_neg (by omega),if_neg (by omega)]
    have h3:¬ (c.toNat:Int)=10:=by omega
    simpa [h3] using key
  ·rw [if_neg (by omega),List.drop_of_length_le (by omega)]
   rfl
theorem lxsp_e {fu:Nat} (hf:7000≤fu) {s:List UInt8} (hs:s.length≤6000):lx_space fu s=some (space s:Int):=by
 have:=lxsp_l hf hs fu 0 (by omega) (by omega)
 unfold lx_space
 rw [show (0:Int)=((0:Nat):Int) by rfl,this]
 simp
theorem lxhp_e (s x:List UInt8):lx_hp s x=some (x.isPrefixOf s):=by
 unfold lx_hp lx_hp0
 by_cases h:x.length≤s.length
 ·rw [if_pos (by omega),cut_0 h,Option.bind_some,Option.bind_some,pre_take]
 ·rw [if_neg (by omega),Option.bind_some,pre_short _ _ (by omega)]
theorem lxsg_l (s:List UInt8):∀ (n i:Nat),n+i=19→i≤18→lx_sign_l1 s n (i:Int)=some (((signs.drop i).find? fun x=>x.isPrefixOf s).getD []):=by
 intro n
 induction n with
 | zero=>intro i h h'; omega
 | succ n ih =>
  intro i hn hi
  unfold lx_sign_l1
  by_cases h:i<18
  ·have hs:i<signs.length:=h
   rw [if_pos (by omega)]
   show (at_ signs (i:Int)).bind _=_
   rw [at_nt (List.getElem?_eq_getElem hs),Option.bind_some,lxhp_e,Option.bind_some,drop_get hs,List.find?_cons]
   cases g:signs[i].isPrefixOf s with
   | true=>rfl
   | false =>
    rw [if_neg (by decide),bd_i64 (by omega) (by omega),Option.bind_some,show ((i:Int)+1)=((i+1:Nat):Int) by omega,ih (i+1) (by omega) (by omega)]
  ·rw [if_neg (by omega),List.drop_of_length_le (by show 18≤i; omega)]
   rfl
theorem lxsg_e (s:List UInt8):lx_sign s=some (sign s):=lxsg_l s 19 0 rfl (by omega)
def TT (t:Tok):TToken:=⟨t.kind,t.text,t.num,t.pos⟩
def endT:Except (Nat×Nat) (List Tok)→List TToken→List TToken×TFault
 | .ok ts,acc=>(acc++ts.map TT,⟨0,0⟩)
 | .error e,_=>([],⟨e.1,e.2⟩)
theorem endT_map (r:Except (Nat×Nat) (List Tok)) (t:Tok) (acc:List TToken):endT (r.map (t::·)) acc=endT r (acc++[TT t]):=by
 cases r <;> simp [Except.map,endT]
theorem lxt_l {fu:Nat} (hf:7000≤fu) {s:List UInt8} (hs:s.length≤6000):∀ (n i:Nat) (acc:List TToken),i≤s.length→s.length - i<n→acc.length≤i→lex_tokens_l1 fu s n (i:Int) acc=some (endT (lexr i (s.drop i)) acc):=by
 intro n
 induction n with
 | zero=>intro i _ _ h; omega
 | succ n ih =>
  intro i acc hi hn ha
  unfold lex_tokens_l1
  by_cases h:i<s.length
  ·have hd:s.drop i=s[i]::s.drop (i+1):=drop_get h
   have hl:(s.drop i).length=s.length - i:=List.length_drop ..
   have hne:s.drop i≠[]:=by rw [hd]; exact List.cons_ne_nil _ _
   rw [if_pos (by omega),cut_nat (by omega),Option.bind_some]
   have h0:at_ (s.drop i) 0=some s[i]:=by rw [hd]; exact at_hd _ _
   rw [h0,Option.bind_some,lxl_e,Option.bind_some]
   have tok:∀ t:Tok,tok1 i (s.drop i)=.ok t→lex_tokens_j1 fu s (i:Int) acc (lex_tokens_l1 fu s n) t.kind t.text t.num=some (endT (lexr i (s.drop i)) acc):=by
    intro t ht
    obtain ⟨q1,q2,q3,q4⟩:=tok1_len ht
    rw [lexr_ok hne ht,endT_map]
    unfold lex_tokens_j1
    rw [show app acc [TToken.mk t.kind t.text t.num i]=some (acc++[TT t]) by unfold app; rw [if_pos (by simp; omega),TT,q4],Option.bind_some,bd_i64 (by omega) (by omega),Option.bind_some,show ((i:Int)+(t.text.length:Int))=((i+t.text.length:Nat):Int) by omega,cut_nat (by omega),Option.bind_some]
    rw [lxsp_e hf (by rw [List.length_drop]; omega),Option.bind_some]
    have hsp:=space_le (s.drop (i+t.text.length))
    rw [List.length_drop] at hsp
    rw [bd_i64 (by omega) (by omega),Option.bind_some,show (((i+t.text.length:Nat):Int)+(space (s.drop (i+t.text.length)):Int))=((i+t.text.length+space (s.drop (i+t.text.length)):Nat):Int) by omega,ih _ _ (by omega) (by omega) (by simp; omega)]
    simp only [List.drop_drop]
   generalize hc:s[i]=c at hd ⊢
   by_cases h1:letterB c=true
   ·rw [if_pos h1,lxw_e lxt_e (by omega) hf,Option.bind_some,cut_0 (List.takeWhile_sublist _).length_le,Option.bind_some,tw_take]
    refine tok ⟨1,(s.drop i).takeWhile wordB,0,i⟩ ?_
    rw [hd]
    simp only [tok1,h1,if_true]
   ·have h1':letterB c=false:=by simpa using h1
    rw [if_neg h1,lxd_e,Option.bind_some]
    by_cases h2:digitB c=true
    ·rw [if_pos h2,lxw_e lxd_e (by omega) hf,Option.bind_some,cut_0 (List.takeWhile_sublist _).length_le,Option.bind_some,tw_take]
     have hk:tok1 i (s.drop i)=if 15<((s.drop i).takeWhile digitB).length then .error 3 else .ok ⟨2,(s.drop i).takeWhile digitB,val ((s.drop i).takeWhile digitB),i⟩:=by
      rw [hd]; exact tok1_num h1' h2
     by_cases g:15<((s.drop i).takeWhile digitB).length
     ·rw [if_pos (by omega)]
      rw [if_pos g] at hk
      rw [lexr_err hne hk]
      rfl
     ·rw [if_neg (by omega)]
      rw [if_neg g] at hk
      have hne':(s.drop i).takeWhile digitB≠[]:=by rw [hd,List.takeWhile_cons,if_pos h2]; simp
      have hp:pint ((s.drop i).takeWhile digitB)=some ((val ((s.drop i).takeWhile digitB):Nat):Int):=by
       unfold pint
       rw [if_pos (by omega),parse_ok _ hne' (by omega) (tw_digits _)]
      rw [hp,Option.bind_some]
      exact tok _ hk
    ·have h2':digitB c=false:=by simpa using h2
     rw [if_neg h2,lxsg_e,Option.bind_some]
     have hk:tok1 i (s.drop i)=if sign (s.drop i)=[] then .error 2 else .ok ⟨3,sign (s.drop i),0,i⟩:=by
      rw [hd]; exact tok1_sign h1' h2'
     by_cases g:sign (s.drop i)=[]
     ·rw [if_pos g]
      rw [if_pos g] at hk
      rw [lexr_err hne hk]
      rfl
     ·rw [if_neg g]
      rw [if_neg g] at hk
      exact tok _ hk
  ·rw [if_neg (by omega),List.drop_of_length_le (by omega),lexr_nil]
   simp [endT]
theorem lex_tokens_e {fu:Nat} (hf:7000≤fu) (s:List UInt8):lex_tokens fu s=some (endT (tokens s) []):=by
 rw [tokens_eq]
 unfold lex_tokens
 by_cases h:6000<s.length
 ·rw [if_pos (by omega),if_pos h]; rfl
 ·rw [if_neg (by omega),if_neg h,lxsp_e hf (by omega),Option.bind_some]
  exact lxt_l hf (by omega) fu _ [] (space_le s) (by omega) (by simp)
end Go.Y
namespace Go.Y
open Go.Wk Go.Xt
theorem i64_ok {n:Int} (h:-9223372036854775808≤n∧n≤9223372036854775807):i64 n=some n:=if_pos h
theorem bS {α β:Type} {x:α} {f:α→Option β}:Option.bind (some x) f=f x:=rfl
theorem at_nat {α:Type} {l:List α} {i:Nat}:at_ l (i:Int)=l[i]?:=by simp [at_]
theorem at_0 {α:Type} {l:List α} (h:0<l.length):at_ l 0=some l[0]:=by simp [at_,h]
theorem lx_letter_t (c:UInt8):∃ b,lx_letter c=some b:=by
 unfold lx_letter
 split
 ·split <;> exact ⟨_,rfl⟩
 ·exact ⟨_,rfl⟩
theorem lx_digit_t (c:UInt8):∃ b,lx_digit c=some b:=by
 unfold lx_digit
 split <;> exact ⟨_,rfl⟩
theorem lx_n1_t (c:UInt8):∃ b,lx_n1 c=some b:=by
 obtain ⟨a,ha⟩:=lx_letter_t c
 obtain ⟨b,hb⟩:=lx_digit_t c
 unfold lx_n1
 rw [ha,bS,hb,bS]
 split <;> exact ⟨_,rfl⟩
theorem lx_while_t (l:List UInt8) (p:UInt8→Option Bool) (hp:∀ c,∃ b,p c=some b) (hl:l.length≤65536):∀ (n i:Nat),i≤l.length→l.length<n+i→∃ r,lx_while_l1 l p n (i:Int)=some r
 | 0,i,h1,h2=>by omega
 | n+1,i,h1,h2=>by
  rw [lx_while_l1]
  by_cases c:i<l.length
  ·obtain ⟨b,hb⟩:=hp l[i]
   rw [if_pos (by omega),at_nat,List.getElem?_eq_getElem c,bS,hb,bS]
   cases b with
   | true=>rw [lx_while_j1,if_pos rfl,i64_ok (by omega),bS]; exact lx_while_t l p hp hl n (i+1) c (by omega)
   | false=>exact ⟨_,rfl⟩
  ·rw [if_neg (by omega)]
   exact ⟨_,rfl⟩
theorem lex_named_t (fu:Nat) (hf:20≤fu) (s:List UInt8):∃ b,lex_named fu s=some b:=by
 have hj:∀ b,(b=true∨s.length≤12)→∃ r,lex_named_j1 fu s b=some r:=by
  intro b hb
  cases b with
  | true=>exact ⟨_,rfl⟩
  | false =>
   have hs:s.length≤12:=by simpa using hb
   obtain ⟨r,hr⟩:=lx_while_t s lx_n1 lx_n1_t (by omega) fu 0 (by omega) (by omega)
   have hr2:lx_while fu s lx_n1=some r:=hr
   exact ⟨_,by rw [lex_named_j1,if_neg (by decide),hr2,bS]⟩
 rw [lex_named]
 by_cases h1:(s.length:Int)<1
 ·rw [if_pos h1]; exact hj _ (.inl rfl)
 ·rw [if_neg h1]
  by_cases h2:(12:Int)<s.length
  ·rw [if_pos h2]; exact hj _ (.inl rfl)
  ·have h0:0<s.length:=by omega
   obtain ⟨b,hb⟩:=lx_letter_t s[0]
   rw [if_neg h2,at_0 h0,bS,hb,bS]
   cases b with
   | false=>rw [if_neg (by decide)]; exact hj _ (.inl rfl)
   | true =>
    rw [if_pos rfl,cat,if_pos (by simp; omega),bS,cat,if_pos (by simp; omega),bS,scont,if_pos (by decide +kernel),bS]
    exact hj _ (.inr (by omega))
def kidN (k:Int):Int:=if k≤3∨k=20 then 0 else if k≤5∨k=21∨k=24 then 1 else if k≤18∨k=23 then 2 else -1
theorem syn_kids_t (k:Int):syn_kids k=some (kidN k):=by
 unfold syn_kids kidN
 by_cases h1:k≤3
 ·rw [if_pos h1,if_pos (.inl h1)]; rfl
 ·rw [if_neg h1]
  by_cases h2:k=20
  ·rw [decide_eq_true h2,if_pos (.inr h2)]; rfl
  ·rw [decide_eq_false h2,syn_kids_j1,if_neg (by decide),if_neg (show ¬ (k≤3∨k=20) by omega)]
   by_cases h3:k≤5
   ·rw [if_pos h3,if_pos (.inl h3)]; rfl
   ·rw [if_neg h3]
    by_cases h4:k=21
    ·rw [if_pos h4,if_pos (.inr (.inl h4))]; rfl
    ·rw [if_neg h4]
     by_cases h5:k=24
     ·rw [decide_eq_true h5,if_pos (.inr (.inr h5))]; rfl
     ·rw [decide_eq_false h5,syn_kids_j2,if_neg (by decide),if_neg (show ¬ (k≤5∨k=21∨k=24) by omega)]
      by_cases h6:k≤18
      ·rw [if_pos h6,if_pos (.inl h6)]; rfl
      ·rw [if_neg h6]
       by_cases h7:k=23
       ·rw [decide_eq_true h7,if_pos (.inr h7)]; rfl
       ·rw [decide_eq_false h7,if_neg (show ¬ (k≤18∨k=23) by omega)]; rfl
theorem syn_node_t (node d:Int) (h0:0≤node) (h1:node≤4294967296):∃ e,syn_node node d=some (e,node+1)∧(e=0→node+1≤2000∧d≤40):=by
 unfold syn_node
 rw [i64_ok (by omega),bS]
 by_cases c:2000<node+1
 ·rw [if_pos c]; exact ⟨4,rfl,fun h=>absurd h (by decide)⟩
 ·rw [if_neg c]
  by_cases e:40<d
  ·rw [decide_eq_true e]; exact ⟨4,rfl,fun h=>absurd h (by decide)⟩
  ·rw [decide_eq_false e]; exact ⟨0,rfl,fun _=>⟨by omega,by omega⟩⟩
structure KidsOk (x:TExpr):Prop where
 eq:0≤kidN x.Kind→(x.Kids.length:Int)=kidN x.Kind
 le:x.Kids.length≤6
def OkE:Nat→TExpr→Prop
 | 0,_=>False
 | k+1,x=>1≤x.Kind∧x.Kind≤24∧KidsOk x∧∀ y ∈ x.Kids,OkE k y
def nE:Nat→TExpr→Nat
 | 0,_=>0
 | k+1,x=>1+(x.Kids.map (nE k)).sum
theorem kidN_le (k:Int):kidN k≤2:=by
 unfold kidN
 split
 ·decide
 ·split
  ·decide
  ·split <;> decide
theorem syn_expr_t:∀ (n:Nat) (x:TExpr) (d node:Int),62≤n+d→0≤d→d≤41→0≤node→node≤2000 →
  ∃ e k,(SynExpr_run n).syn_expr node x d=some (e,k)∧node≤k∧(e=0→k≤2000∧OkE (41 - d).toNat x∧k=node+(nE (41 - d).toNat x:Nat)):=by
 intro n
 induction n with
 | zero=>intro x d node h0 h1 h2; omega
 | succ n ih =>
  intro x d node h0 h1 h2 h3 h4
  show ∃ e k,syn_expr n (SynExpr_run n) node x d=some (e,k)∧_
  obtain ⟨b,hb⟩:=lex_named_t n (by omega) x.Name
  obtain ⟨e,hn,he⟩:=syn_node_t node d h3 (by omega)
  rw [syn_expr,hn,bS]
  by_cases c:e=0
  ·subst c
   obtain ⟨hk,hd⟩:=he rfl
   rw [if_neg (by simp)]
   have hD:(41 - d).toNat=(40 - d).toNat+1:=by omega
   rw [hD]
   generalize hP:(fun o:Option (Int×Int)=>∃ e k,o=some (e,k)∧node≤k∧(e=0→k≤2000∧OkE ((40 - d).toNat+1) x∧k=node+(nE ((40 - d).toNat+1) x:Nat)))=P
   have bad:∀ e:Int,e≠0→P (some (e,node+1)):=fun e h=>by rw [← hP]; exact ⟨e,_,rfl,by omega,fun h'=>absurd h' h⟩
   have L:x.Kids.length≤6→∀ (m i:Nat) (c:Int),i≤x.Kids.length→x.Kids.length<m+i→0≤c→c≤2000 →
     ∃ e k,syn_expr_l1 (SynExpr_run n) x d m i c=some (e,k)∧c≤k∧(e=0→k≤2000∧(∀ y ∈ x.Kids.drop i,OkE (40 - d).toNat y)∧k=c+(((x.Kids.drop i).map (nE (40 - d).toNat)).sum:Nat)):=by
    intro hl m
    induction m with
    | zero=>intro i c h1 h2; omega
    | succ m ihm =>
     intro i c g1 g2 g3 g4
     rw [syn_expr_l1]
     by_cases q:i<x.Kids.length
     ·obtain ⟨e,k,e1,e2,e3⟩:=ih x.Kids[i] (d+1) c (by omega) (by omega) (by omega) g3 g4
      rw [if_pos (by omega),at_nat,List.getElem?_eq_getElem q,bS,i64_ok (by omega),bS,e1,bS]
      by_cases z:e=0
      ·subst z
       obtain ⟨f1,f2,f3⟩:=e3 rfl
       rw [if_neg (by simp),i64_ok (by omega),bS]
       obtain ⟨e',k',r1,r2,r3⟩:=ihm (i+1) k q (by omega) (by omega) f1
       refine ⟨e',k',r1,by omega,fun hz=>?_⟩
       obtain ⟨s1,s2,s3⟩:=r3 hz
       have hd':(41 - (d+1)).toNat=(40 - d).toNat:=by omega
       rw [hd'] at f2 f3
       refine ⟨s1,fun y hy=>?_,?_⟩
       ·rw [List.drop_eq_getElem_cons q] at hy
        rcases List.mem_cons.1 hy with rfl | hy
        ·exact f2
        ·exact s2 y hy
       ·rw [List.drop_eq_getElem_cons q,List.map_cons,List.sum_cons]
        omega
      ·rw [if_pos z]
       exact ⟨e,k,rfl,e2,fun h=>absurd h z⟩
     ·rw [if_neg (by omega),List.drop_eq_nil_of_le (by omega)]
      exact ⟨0,c,rfl,by omega,fun _=>⟨g4,by simp,by simp⟩⟩
   by_cases kd:1≤x.Kind∧x.Kind≤24
   ·have J6:∀ b,(b=false→KidsOk x)→P (syn_expr_j6 (SynExpr_run n) x d (0,node+1) b):=by
     intro b h
     cases b with
     | true=>exact bad 5 (by decide)
     | false =>
      have hk':=h rfl
      rw [syn_expr_j6,if_neg (by decide),← hP]
      obtain ⟨e,k,r1,r2,r3⟩:=L hk'.le (x.Kids.length+1) 0 (node+1) (by omega) (by omega) (by omega) (by omega)
      refine ⟨e,k,r1,by omega,fun hz=>?_⟩
      obtain ⟨s1,s2,s3⟩:=r3 hz
      rw [List.drop_zero] at s2 s3
      exact ⟨s1,⟨kd.1,kd.2,hk',s2⟩,by rw [nE]; omega⟩
    have kl:=kidN_le x.Kind
    have J5:∀ b,(b=false→0≤kidN x.Kind→(x.Kids.length:Int)=kidN x.Kind)→P (syn_expr_j5 (SynExpr_run n) x d (0,node+1) (kidN x.Kind) b):=by
     intro b h
     cases b with
     | true=>rw [syn_expr_j5,if_pos rfl]; exact J6 _ (fun h=>absurd h (by decide))
     | false =>
      rw [syn_expr_j5,if_neg (by decide)]
      by_cases q:kidN x.Kind<0
      ·rw [if_pos q]
       exact J6 _ fun hd=>⟨h rfl,by have:=of_decide_eq_false hd; omega⟩
      ·rw [if_neg q]
       exact J6 _ fun _=>⟨h rfl,by have:=h rfl (by omega); omega⟩
    have J4:∀ b,P (syn_expr_j4 (SynExpr_run n) x d (0,node+1) (kidN x.Kind) b):=by
     intro b
     cases b with
     | true=>exact bad 7 (by decide)
     | false =>
      rw [syn_expr_j4,if_neg (by decide)]
      by_cases q:0≤kidN x.Kind
      ·rw [if_pos q]
       exact J5 _ fun hd _=>by have:=of_decide_eq_false hd; omega
      ·rw [if_neg q]
       exact J5 _ fun _ h=>absurd h q
    have J3:∀ b,P (syn_expr_j3 n (SynExpr_run n) x d (0,node+1) (kidN x.Kind) b):=by
     intro b'
     cases b' with
     | true=>exact bad 3 (by decide)
     | false =>
      rw [syn_expr_j3,if_neg (by decide),hb]
      simp only [bS]
      split
      ·exact J4 _
      ·split
       ·exact J4 _
       ·split <;> exact J4 _
    have J2:∀ b,P (syn_expr_j2 n (SynExpr_run n) x d (0,node+1) (kidN x.Kind) b):=by
     intro b'
     unfold syn_expr_j2
     split
     ·exact J3 _
     ·split
      ·split <;> exact J3 _
      ·exact J3 _
    have J1:∀ b,P (syn_expr_j1 n (SynExpr_run n) x d (0,node+1) b):=by
     intro b'
     cases b' with
     | true=>exact bad 1 (by decide)
     | false =>
      rw [syn_expr_j1,if_neg (by decide),syn_kids_t,bS]
      split
      ·split <;> exact J2 _
      ·exact J2 _
    have G:P (if x.Kind<1 then syn_expr_j1 n (SynExpr_run n) x d (0,node+1) true else syn_expr_j1 n (SynExpr_run n) x d (0,node+1) (decide ((24:Int)<x.Kind))):=by
     split <;> exact J1 _
    rw [← hP] at G
    exact G
   ·have G:P (if x.Kind<1 then syn_expr_j1 n (SynExpr_run n) x d (0,node+1) true else syn_expr_j1 n (SynExpr_run n) x d (0,node+1) (decide ((24:Int)<x.Kind))):=by
     split
     ·exact bad 1 (by decide)
     ·rw [decide_eq_true (show 24<x.Kind by omega)]
      exact bad 1 (by decide)
    rw [← hP] at G
    exact G
  ·rw [if_pos c]
   exact ⟨e,_,rfl,by omega,fun h=>absurd h c⟩
def OkS:Nat→TStat→Prop
 | 0,_=>False
 | k+1,s=>1≤s.Kind∧s.Kind≤9∧(s.Kind≠6→OkE k s.X)∧((s.Kind=3∨s.Kind=4)→s.Body.length≤50∧∀ y ∈ s.Body,OkS k y)∧(s.Kind=3→s.Else.length≤50∧∀ y ∈ s.Else,OkS k y)
def nS:Nat→TStat→Nat
 | 0,_=>0
 | k+1,s=>1+(if s.Kind=6 then 0 else nE k s.X)+(if s.Kind=3∨s.Kind=4 then (s.Body.map (nS k)).sum else 0)+(if s.Kind=3 then (s.Else.map (nS k)).sum else 0)
theorem syn_stat_t:∀ (n:Nat),(∀ (l:List TStat) (d node:Int),2*(42 - d)+65≤n→0≤d→d≤41→0≤node→node≤2000 →
   ∃ e k,(SynStat_run n).syn_stats node l d=some (e,k)∧node≤k∧(e=0→k≤2000∧(l.length≤50∧∀ y ∈ l,OkS (41 - d).toNat y)∧k=node+((l.map (nS (41 - d).toNat)).sum:Nat))) ∧
  (∀ (x:TStat) (d node:Int),2*(42 - d)+64≤n→0≤d→d≤41→0≤node→node≤2000 →
   ∃ e k,(SynStat_run n).syn_stat node x d=some (e,k)∧node≤k∧(e=0→k≤2000∧OkS (41 - d).toNat x∧k=node+(nS (41 - d).toNat x:Nat))):=by
 intro n
 induction n with
 | zero=>exact ⟨fun l d node h0 h1 h2=>by omega,fun l d node h0 h1 h2=>by omega⟩
 | succ n ih =>
  obtain ⟨ihl,ihs⟩:=ih
  refine ⟨fun l d node h0 h1 h2 h3 h4=>?_,fun x d node h0 h1 h2 h3 h4=>?_⟩
  ·show ∃ e k,syn_stats (SynStat_run n) node l d=some (e,k)∧_
   rw [syn_stats]
   by_cases hl:(50:Int)<l.length
   ·rw [if_pos hl]; exact ⟨5,node,rfl,by omega,fun h=>absurd h (by decide)⟩
   ·rw [if_neg hl]
    have L:∀ (m i:Nat) (c:Int),i≤l.length→l.length<m+i→0≤c→c≤2000 →
      ∃ e k,syn_stats_l1 (SynStat_run n) l d m i c=some (e,k)∧c≤k∧(e=0→k≤2000∧(∀ y ∈ l.drop i,OkS (41 - d).toNat y)∧k=c+(((l.drop i).map (nS (41 - d).toNat)).sum:Nat)):=by
     intro m
     induction m with
     | zero=>intro i c h1 h2; omega
     | succ m ihm =>
      intro i c g1 g2 g3 g4
      rw [syn_stats_l1]
      by_cases q:i<l.length
      ·obtain ⟨e,k,e1,e2,e3⟩:=ihs l[i] d c (by omega) h1 h2 g3 g4
       rw [if_pos (by omega),at_nat,List.getElem?_eq_getElem q,bS,e1,bS]
       by_cases z:e=0
       ·subst z
        obtain ⟨f1,f2,f3⟩:=e3 rfl
        rw [if_neg (by simp),i64_ok (by omega),bS]
        obtain ⟨e',k',r1,r2,r3⟩:=ihm (i+1) k q (by omega) (by omega) f1
        refine ⟨e',k',r1,by omega,fun hz=>?_⟩
        obtain ⟨s1,s2,s3⟩:=r3 hz
        refine ⟨s1,fun y hy=>?_,?_⟩
        ·rw [List.drop_eq_getElem_cons q] at hy
         rcases List.mem_cons.1 hy with rfl | hy
         ·exact f2
         ·exact s2 y hy
        ·rw [List.drop_eq_getElem_cons q,List.map_cons,List.sum_cons]
         omega
       ·rw [if_pos z]
        exact ⟨e,k,rfl,e2,fun h=>absurd h z⟩
      ·rw [if_neg (by omega),List.drop_eq_nil_of_le (by omega)]
       exact ⟨0,c,rfl,by omega,fun _=>⟨g4,by simp,by simp⟩⟩
    obtain ⟨e,k,r1,r2,r3⟩:=L (l.length+1) 0 node (by omega) (by omega) h3 h4
    refine ⟨e,k,r1,r2,fun hz=>?_⟩
    obtain ⟨s1,s2,s3⟩:=r3 hz
    rw [List.drop_zero] at s2 s3
    exact ⟨s1,⟨by omega,s2⟩,s3⟩
  ·show ∃ e k,syn_stat n (SynStat_run n) node x d=some (e,k)∧_
   obtain ⟨b,hb⟩:=lex_named_t n (by omega) x.Name
   obtain ⟨e,hn,he⟩:=syn_node_t node d h3 (by omega)
   rw [syn_stat,hn,bS]
   by_cases c:e=0
   ·subst c
    obtain ⟨hk,hd⟩:=he rfl
    rw [if_neg (by simp)]
    have hD:(41 - d).toNat=(40 - d).toNat+1:=by omega
    have hD':(41 - (d+1)).toNat=(40 - d).toNat:=by omega
    rw [hD]
    generalize hP:(fun o:Option (Int×Int)=>∃ e k,o=some (e,k)∧node≤k∧(e=0→k≤2000∧OkS ((40 - d).toNat+1) x∧k=node+(nS ((40 - d).toNat+1) x:Nat)))=P
    have bad:∀ e c:Int,e≠0→node≤c→P (some (e,c)):=fun e c h hc=>by rw [← hP]; exact ⟨e,_,rfl,hc,fun h'=>absurd h' h⟩
    have kids:=fun (l:List TStat) (c:Int) (hc:node≤c) (hc':c≤2000)=>ihl l (d+1) c (by omega) (by omega) (by omega) (by omega) hc'
    rw [hD'] at kids
    have G:P (if x.Kind<1 then syn_stat_j1 n (SynStat_run n) x d (0,node+1) true else syn_stat_j1 n (SynStat_run n) x d (0,node+1) (decide ((9:Int)<x.Kind))):=by
     by_cases kd:1≤x.Kind∧x.Kind≤9
     ·have J4:∀ (c:Int),node≤c→c≤2000→x.Kind≠6→OkE (40 - d).toNat x.X→((x.Kind=3∨x.Kind=4)→x.Body.length≤50∧∀ y ∈ x.Body,OkS (40 - d).toNat y) →
        c=node+1+(nE (40 - d).toNat x.X:Nat)+((if x.Kind=3∨x.Kind=4 then (x.Body.map (nS (40 - d).toNat)).sum else 0:Nat):Int)→P (syn_stat_j4 (SynStat_run n) x d c):=by
       intro c g1 g2 k6 gx gb gc
       rw [syn_stat_j4]
       by_cases k3:x.Kind=3
       ·obtain ⟨e,k,r1,r2,r3⟩:=kids x.Else c g1 g2
        rw [if_pos k3,i64_ok (by omega),bS,r1,bS]
        rw [← hP]
        refine ⟨e,k,rfl,by omega,fun hz=>?_⟩
        obtain ⟨s1,s2,s3⟩:=r3 hz
        refine ⟨s1,⟨kd.1,kd.2,fun _=>gx,gb,fun _=>s2⟩,?_⟩
        rw [nS,if_neg k6,if_pos k3]
        omega
       ·rw [if_neg k3,← hP]
        refine ⟨0,c,rfl,g1,fun _=>⟨g2,⟨kd.1,kd.2,fun _=>gx,gb,fun h=>absurd h k3⟩,?_⟩⟩
        rw [nS,if_neg k6,if_neg k3]
        omega
      have J3:∀ (c:Int) b,node≤c→c≤2000→x.Kind≠6→OkE (40 - d).toNat x.X→(b=true ↔ x.Kind=3∨x.Kind=4)→c=node+1+(nE (40 - d).toNat x.X:Nat)→P (syn_stat_j3 (SynStat_run n) x d (0,c) b):=by
       intro c b g1 g2 k6 gx gb gc
       rw [syn_stat_j3]
       by_cases q:b=true
       ·obtain ⟨e,k,r1,r2,r3⟩:=kids x.Body c g1 g2
        rw [if_pos q,i64_ok (by omega),bS,r1,bS]
        by_cases z:e=0
        ·subst z
         obtain ⟨s1,s2,s3⟩:=r3 rfl
         rw [if_neg (by simp)]
         exact J4 k (by omega) s1 k6 gx (fun _=>s2) (by rw [if_pos (gb.1 q)]; omega)
        ·rw [if_pos z]
         exact bad e k z (by omega)
       ·rw [if_neg q]
        exact J4 c g1 g2 k6 gx (fun h=>absurd (gb.2 h) q) (by rw [if_neg fun h=>q (gb.2 h)]; omega)
      have J2:∀ b,P (syn_stat_j2 n (SynStat_run n) x d (0,node+1) b):=by
       intro b
       cases b with
       | true=>exact bad 7 _ (by decide) (by omega)
       | false =>
        rw [syn_stat_j2,if_neg (by decide)]
        by_cases k6:x.Kind=6
        ·rw [if_pos k6,← hP]
         refine ⟨0,node+1,rfl,by omega,fun _=>⟨by omega,⟨kd.1,kd.2,fun h=>absurd k6 h,fun h=>by omega,fun h=>by omega⟩,?_⟩⟩
         rw [nS,if_pos k6,if_neg (by omega),if_neg (by omega)]
         omega
        ·obtain ⟨e,k,r1,r2,r3⟩:=syn_expr_t n x.X (d+1) (node+1) (by omega) (by omega) (by omega) (by omega) (by omega)
         rw [hD'] at r3
         rw [if_neg k6,i64_ok (by omega),bS,r1,bS]
         by_cases z:e=0
         ·subst z
          obtain ⟨s1,s2,s3⟩:=r3 rfl
          rw [if_neg (by simp)]
          split
          ·rename_i h3
           exact J3 k true (by omega) s1 k6 s2 (by simp [h3]) (by omega)
          ·rename_i h3
           exact J3 k _ (by omega) s1 k6 s2 (by simp [h3]) (by omega)
         ·rw [if_pos z]
          exact bad e k z (by omega)
      have J1:∀ b,P (syn_stat_j1 n (SynStat_run n) x d (0,node+1) b):=by
       intro b'
       cases b' with
       | true=>exact bad 1 _ (by decide) (by omega)
       | false =>
        rw [syn_stat_j1,if_neg (by decide),hb]
        simp only [bS]
        split
        ·exact J2 _
        ·split
         ·exact J2 _
         ·split <;> exact J2 _
      split <;> exact J1 _
     ·split
      ·exact bad 1 _ (by decide) (by omega)
      ·rw [decide_eq_true (show 9<x.Kind by omega)]
       exact bad 1 _ (by decide) (by omega)
    rw [← hP] at G
    exact G
   ·rw [if_pos c]
    exact ⟨e,_,rfl,by omega,fun h=>absurd h c⟩
def OkT (t:TType):Prop:=1≤t.Kind∧t.Kind≤3
theorem syn_typ_t (fu:Nat) (hf:20≤fu) (t:TType):∃ e,syn_typ fu t=some e∧(e=0→OkT t):=by
 obtain ⟨b,hb⟩:=lex_named_t fu hf t.Gen
 rw [syn_typ]
 by_cases c:1≤t.Kind∧t.Kind≤3
 ·rw [if_neg (by omega),decide_eq_false (by omega),syn_typ_j1,if_neg (by decide),hb]
  simp only [bS]
  have:∀ b,∃ e,syn_typ_j2 b=some e:=fun b=>by cases b <;> exact ⟨_,rfl⟩
  split
  ·obtain ⟨e,he⟩:=this (!b); exact ⟨e,he,fun _=>c⟩
  ·obtain ⟨e,he⟩:=this false; exact ⟨e,he,fun _=>c⟩
 ·split
  ·exact ⟨1,rfl,fun h=>absurd h (by decide)⟩
  ·rw [decide_eq_true (show 3<t.Kind by omega)]
   exact ⟨1,rfl,fun h=>absurd h (by decide)⟩
structure OkD (x:TDef):Prop where
 k1:1≤x.Kind
 k4:x.Kind≤4
 ps:x.Kind=2∨x.Kind=3→x.Params.length≤6∧∀ p ∈ x.Params,OkT p.Typ
 tk:x.Kind=3→OkT x.Takes
 ty:x.Kind≠4→OkT x.Typ
 bl:x.Kind≠1→x.Body.length≤50
 bo:x.Kind≠1→∀ y ∈ x.Body,OkS 39 y
def nD (x:TDef):Nat:=1+if x.Kind≠1 then (x.Body.map (nS 39)).sum else 0
theorem syn_def_t (fu:Nat) (hf:200≤fu) (x:TDef) (node:Int) (h3:0≤node) (h4:node≤2000):∃ e k,syn_def fu node x=some (e,k)∧node≤k∧(e=0→k≤2000∧OkD x∧k=node+(nD x:Nat)):=by
 obtain ⟨b,hb⟩:=lex_named_t fu (by omega) x.Name
 obtain ⟨e,hn,he⟩:=syn_node_t node 1 h3 (by omega)
 rw [syn_def,hn,bS]
 by_cases c:e=0
 ·subst c
  obtain ⟨hk,hd⟩:=he rfl
  rw [if_neg (by simp)]
  generalize hP:(fun o:Option (Int×Int)=>∃ e k,o=some (e,k)∧node≤k∧(e=0→k≤2000∧OkD x∧k=node+(nD x:Nat)))=P
  have bad:∀ e c:Int,e≠0→node≤c→P (some (e,c)):=fun e c h hc=>by rw [← hP]; exact ⟨e,_,rfl,hc,fun h'=>absurd h' h⟩
  have G:P (if x.Kind<1 then syn_def_j1 fu x (0,node+1) true else syn_def_j1 fu x (0,node+1) (decide ((4:Int)<x.Kind))):=by
   by_cases kd:1≤x.Kind∧x.Kind≤4
   ·have J5:(x.Kind=2∨x.Kind=3→x.Params.length≤6∧∀ p ∈ x.Params,OkT p.Typ)→(x.Kind=3→OkT x.Takes)→(x.Kind≠4→OkT x.Typ)→P (syn_def_j5 fu x (0,node+1)):=by
     intro g1 g2 g3
     rw [syn_def_j5]
     by_cases k1:x.Kind=1
     ·rw [if_neg (by simpa using k1)]
      have J6:∀ b,P (syn_def_j6 (0,node+1) b):=by
       intro b
       cases b with
       | true=>exact bad 3 _ (by decide) (by omega)
       | false =>
        rw [← hP]
        exact ⟨0,node+1,rfl,by omega,fun _=>⟨by omega,⟨kd.1,kd.2,g1,g2,g3,fun h=>absurd k1 h,fun h=>absurd k1 h⟩,by rw [nD,if_neg (by simpa using k1)]; omega⟩⟩
      split <;> exact J6 _
     ·obtain ⟨e,k,r1,r2,r3⟩:=(syn_stat_t fu).1 x.Body 2 (node+1) (by omega) (by omega) (by omega) (by omega) (by omega)
      rw [if_pos k1,r1,bS,← hP]
      refine ⟨e,k,rfl,by omega,fun hz=>?_⟩
      obtain ⟨s1,s2,s3⟩:=r3 hz
      exact ⟨s1,⟨kd.1,kd.2,g1,g2,g3,fun _=>s2.1,fun _=>s2.2⟩,by rw [nD,if_pos k1]; rw [show (41 - (2:Int)).toNat=39 from rfl] at s3; omega⟩
    have J4:(x.Kind=2∨x.Kind=3→x.Params.length≤6∧∀ p ∈ x.Params,OkT p.Typ)→(x.Kind=3→OkT x.Takes)→P (syn_def_j4 fu x (0,node+1)):=by
     intro g1 g2
     rw [syn_def_j4]
     by_cases k4:x.Kind=4
     ·rw [if_neg (by simpa using k4)]
      exact J5 g1 g2 fun h=>absurd k4 h
     ·obtain ⟨e,h1,h2⟩:=syn_typ_t fu (by omega) x.Typ
      rw [if_pos k4,h1,bS]
      by_cases z:e=0
      ·rw [if_neg (by simpa using z)]; exact J5 g1 g2 fun _=>h2 z
      ·rw [if_pos z]; exact bad e _ z (by omega)
    have J3:(x.Kind=2∨x.Kind=3→x.Params.length≤6∧∀ p ∈ x.Params,OkT p.Typ)→P (syn_def_j3 fu x (0,node+1)):=by
     intro g1
     rw [syn_def_j3]
     by_cases k3:x.Kind=3
     ·obtain ⟨e,h1,h2⟩:=syn_typ_t fu (by omega) x.Takes
      rw [if_pos k3,h1,bS]
      by_cases z:e=0
      ·rw [if_neg (by simpa using z)]; exact J4 g1 fun _=>h2 z
      ·rw [if_pos z]; exact bad e _ z (by omega)
     ·rw [if_neg k3]
      exact J4 g1 fun h=>absurd h k3
    have L:x.Params.length≤6→∀ (m i:Nat),i≤x.Params.length→x.Params.length<m+i→(∀ p ∈ x.Params.take i,OkT p.Typ)→P (syn_def_l1 fu x (0,node+1) m i):=by
     intro hl m
     induction m with
     | zero=>intro i h1 h2; omega
     | succ m ihm =>
      intro i g1 g2 g3
      rw [syn_def_l1]
      by_cases q:i<x.Params.length
      ·obtain ⟨b',hb'⟩:=lex_named_t fu (by omega) x.Params[i].Name
       obtain ⟨e,h1,h2⟩:=syn_typ_t fu (by omega) x.Params[i].Typ
       rw [if_pos (by omega),at_nat,List.getElem?_eq_getElem q,bS,hb',bS]
       cases b' with
       | false=>rw [if_neg (by decide)]; exact bad 7 _ (by decide) (by omega)
       | true =>
        rw [if_pos rfl,h1,bS]
        by_cases z:e=0
        ·rw [if_neg (by simpa using z),i64_ok (by omega),bS]
         refine ihm (i+1) q (by omega) fun p hp=>?_
         rw [List.take_succ_eq_append_getElem q] at hp
         rcases List.mem_append.1 hp with hp | hp
         ·exact g3 p hp
         ·rw [List.mem_singleton.1 hp]; exact h2 z
        ·rw [if_pos z]; exact bad e _ z (by omega)
      ·rw [if_neg (by omega)]
       rw [List.take_of_length_le (by omega)] at g3
       exact J3 fun _=>⟨hl,g3⟩
    have J2:∀ b,(b=true ↔ x.Kind=2∨x.Kind=3)→P (syn_def_j2 fu x (0,node+1) b):=by
     intro b g
     rw [syn_def_j2]
     by_cases q:b=true
     ·rw [if_pos q]
      by_cases hl:(6:Int)<x.Params.length
      ·rw [if_pos hl]; exact bad 5 _ (by decide) (by omega)
      ·rw [if_neg hl]
       exact L (by omega) (x.Params.length+1) 0 (by omega) (by omega) (by simp)
     ·rw [if_neg q]
      exact J3 fun h=>absurd (g.2 h) q
    have J1:∀ b,P (syn_def_j1 fu x (0,node+1) b):=by
     intro b'
     cases b' with
     | true=>exact bad 1 _ (by decide) (by omega)
     | false =>
      rw [syn_def_j1,if_neg (by decide),hb,bS]
      cases b with
      | false=>rw [if_neg (by decide)]; exact bad 7 _ (by decide) (by omega)
      | true =>
       rw [if_pos rfl]
       split
       ·rename_i h2; exact J2 _ (by simp [h2])
       ·rename_i h2; exact J2 _ (by simp [h2])
    split <;> exact J1 _
   ·split
    ·exact bad 1 _ (by decide) (by omega)
    ·rw [decide_eq_true (show 4<x.Kind by omega)]
     exact bad 1 _ (by decide) (by omega)
  rw [← hP] at G
  exact G
 ·rw [if_pos c]
  exact ⟨e,_,rfl,by omega,fun h=>absurd h c⟩
structure OkP (l:List TDef):Prop where
 le:l.length≤30
 ok:∀ d ∈ l,OkD d
 n:(l.map nD).sum≤2000
theorem syn_wrong_t (fu:Nat) (hf:200≤fu) (l:List TDef):∃ f,syn_wrong fu l=some f∧(f.Err=0→f.At=0∧OkP l):=by
 rw [syn_wrong]
 by_cases hl:(30:Int)<l.length
 ·rw [if_pos hl]; exact ⟨_,rfl,fun h=>absurd h (by decide:(5:Int)≠0)⟩
 ·rw [if_neg hl]
  have L:∀ (m i:Nat) (c:Int),i≤l.length→l.length<m+i→0≤c→c≤2000→(∀ d ∈ l.take i,OkD d)→c=(((l.take i).map nD).sum:Nat)→∃ f,syn_wrong_l1 fu l m i c=some f∧(f.Err=0→f.At=0∧OkP l):=by
   intro m
   induction m with
   | zero=>intro i c h1 h2; omega
   | succ m ihm =>
    intro i c g1 g2 g3 g4 g5 g6
    rw [syn_wrong_l1]
    by_cases q:i<l.length
    ·obtain ⟨e,k,e1,e2,e3⟩:=syn_def_t fu hf l[i] c g3 g4
     rw [if_pos (by omega),at_nat,List.getElem?_eq_getElem q,bS,e1,bS]
     by_cases z:e=0
     ·subst z
      obtain ⟨f1,f2,f3⟩:=e3 rfl
      rw [if_neg (by simp),i64_ok (by omega),bS]
      refine ihm (i+1) k q (by omega) (by omega) f1 (fun p hp=>?_) ?_
      ·rw [List.take_succ_eq_append_getElem q] at hp
       rcases List.mem_append.1 hp with hp | hp
       ·exact g5 p hp
       ·rw [List.mem_singleton.1 hp]; exact f2
      ·rw [List.take_succ_eq_append_getElem q,List.map_append,List.sum_append,List.map_cons,List.map_nil,List.sum_cons,List.sum_nil]
       omega
     ·rw [if_pos z]
      exact ⟨_,rfl,fun h=>absurd h z⟩
    ·rw [if_neg (by omega)]
     rw [List.take_of_length_le (by omega)] at g5 g6
     exact ⟨_,rfl,fun _=>⟨rfl,by omega,g5,by omega⟩⟩
  exact L (l.length+1) 0 0 (by omega) (by omega) (by omega) (by omega) (by simp) (by simp)
end Go.Y
namespace Go.Y
open Go.Wk Go.Xt
def key (t:TToken):Int×List UInt8×Int:=(t.Kind,t.Text,t.Num)
def Sm (a b:Ts):Prop:=a.map key=b.map key
abbrev St (α:Type):=Option (Except TFault (α×Ts×Int×Int))
abbrev St0:=Option (Except TFault (Ts×Int×Int))
section
variable {fu:Nat} {m:Ts} {e e2 d d2:Int} {α β:Type}
def LL (m:Ts) (e e2 d:Int) (N:Nat) (A B:St α):Prop :=
 ∀ x l e1 d1,A=some (.ok (x,l,e1,d1))→(e1=e∧d1=d)∧l.length≤N∧(l≠[]→∃ l3,B=some (.ok (x,l3,e2,d))∧Sm l3 (l++m))
def LL0 (m:Ts) (e e2 d:Int) (N:Nat) (A B:St0):Prop :=
 ∀ l e1 d1,A=some (.ok (l,e1,d1))→(e1=e∧d1=d)∧l.length≤N∧(l≠[]→∃ l3,B=some (.ok (l3,e2,d))∧Sm l3 (l++m))
theorem Sm.cons {t:TToken} {l l3:Ts} (h:Sm l3 (t::l++m)):∃ t' l',l3=t'::l'∧key t'=key t∧Sm l' (l++m):=by
 cases l3 with
 | nil=>cases h
 | cons t' l' =>
  unfold Sm at h
  simp only [List.cons_append,List.map_cons,List.cons.injEq] at h
  exact ⟨t',l',rfl,h.1,h.2⟩
theorem key_kind {t t':TToken} (h:key t'=key t):t'.Kind=t.Kind:=congrArg (·.1) h
theorem key_text {t t':TToken} (h:key t'=key t):t'.Text=t.Text:=congrArg (·.2.1) h
theorem key_num {t t':TToken} (h:key t'=key t):t'.Num=t.Num:=congrArg (·.2.2) h
theorem LL.mono {N N':Nat} {A B:St α} (h:LL m e e2 d N A B) (hN:N≤N'):LL m e e2 d N' A B:=fun x l e1 d g=>by
 obtain ⟨a,b,c⟩:=h x l e1 d g
 exact ⟨a,by omega,c⟩
theorem LL.nil {A B B':St α} (h:LL m e e2 d 0 A B):LL m e e2 d 0 A B':=fun x l e1 d g=>by
 obtain ⟨a,b,-⟩:=h x l e1 d g
 exact ⟨a,b,fun hl=>absurd (List.length_eq_zero_iff.1 (by omega)) hl⟩
theorem LL.bind {N:Nat} {A B:St α} {f f':α×Ts×Int×Int→St β} (h:LL m e e2 d N A B) (k:∀ x l l3,l.length≤N→Sm l3 (l++m)→LL m e e2 d2 l.length (f (x,l,e,d)) (f' (x,l3,e2,d))):LL m e e2 d2 N (bT A f) (bT B f'):=by
 intro y l1 e1 d1 g
 rcases bTe g with ⟨_,_,q⟩ | ⟨⟨x,l,e0,d0⟩,ha,g⟩
 ·cases q
 obtain ⟨⟨rfl,rfl⟩,hN,hB⟩:=h x l e0 d0 ha
 by_cases hl:l=[]
 ·subst hl
  obtain ⟨q1,q2,-⟩:=k x [] m (by omega) rfl y l1 e1 d1 g
  have:l1=[]:=List.length_eq_zero_iff.1 (by simpa using q2)
  exact ⟨q1,by simp [this],fun hl=>absurd this hl⟩
 ·obtain ⟨l3,rfl,hs⟩:=hB hl
  obtain ⟨q1,q2,q3⟩:=k x l l3 hN hs y l1 e1 d1 g
  exact ⟨q1,by omega,q3⟩
theorem LL.bind0 {N:Nat} {A B:St0} {f f':Ts×Int×Int→St β} (h:LL0 m e e2 d N A B) (k:∀ l l3,l.length≤N→Sm l3 (l++m)→LL m e e2 d2 l.length (f (l,e,d)) (f' (l3,e2,d))):LL m e e2 d2 N (bT A f) (bT B f'):=by
 intro y l1 e1 d1 g
 rcases bTe g with ⟨_,_,q⟩ | ⟨⟨l,e0,d0⟩,ha,g⟩
 ·cases q
 obtain ⟨⟨rfl,rfl⟩,hN,hB⟩:=h l e0 d0 ha
 by_cases hl:l=[]
 ·subst hl
  obtain ⟨q1,q2,-⟩:=k [] m (by omega) rfl y l1 e1 d1 g
  have:l1=[]:=List.length_eq_zero_iff.1 (by simpa using q2)
  exact ⟨q1,by simp [this],fun hl=>absurd this hl⟩
 ·obtain ⟨l3,rfl,hs⟩:=hB hl
  obtain ⟨q1,q2,q3⟩:=k l l3 hN hs y l1 e1 d1 g
  exact ⟨q1,by omega,q3⟩
theorem LL.pure {x:α} {l l3:Ts} (hs:Sm l3 (l++m)):LL m e e2 d l.length (some (.ok (x,l,e,d))) (some (.ok (x,l3,e2,d))):=by
 intro y l1 e1 d1 g
 have:=Except.ok.inj (Option.some.inj g)
 cases this
 exact ⟨⟨rfl,rfl⟩,Nat.le_refl _,fun _=>⟨l3,rfl,hs⟩⟩
theorem LL.err {N:Nat} {q:TFault} {B:St α}:LL m e e2 d N (some (.error q)) B:=fun _ _ _ _ g=>by cases g
theorem LL.none {N:Nat} {B:St α}:LL m e e2 d N Option.none B:=fun _ _ _ _ g=>by cases g
theorem LL.ob {N:Nat} {o:Option α} {f f':α→St β} (h:∀ y,LL m e e2 d N (f y) (f' y)):LL m e e2 d N (o.bind f) (o.bind f'):=by
 cases o with
 | none=>exact LL.none
 | some y=>exact h y
theorem LL.at {N:Nat} {l l3:Ts} {k:Int} {B:St α}:LL m e e2 d N ((p_at l e d).bind fun r=>some (.error (TFault.mk k r))) B:=by
 rw [p_at_t]; exact LL.err
theorem LL.is {l l3:Ts} {k:List UInt8} {f f':Bool×Ts×Int×Int→St α} (hs:Sm l3 (l++m))
  (ht:∀ l1 l3,l1.length+1=l.length→Sm l3 (l1++m)→LL m e e2 d2 l1.length (f (true,l1,e,d)) (f' (true,l3,e2,d))) (hf:∀ l3,Sm l3 (l++m)→LL m e e2 d2 l.length (f (false,l,e,d)) (f' (false,l3,e2,d))):LL m e e2 d2 l.length ((p_is l e d k).bind f) ((p_is l3 e2 d k).bind f'):=by
 rw [p_is_t,p_is_t,Option.bind_some,Option.bind_some]
 cases l with
 | nil =>
  rw [if_neg (by simp [hd])]
  exact (hf m rfl).nil
 | cons t l =>
  obtain ⟨t',l',rfl,hk,hs'⟩:=hs.cons
  have e1:hd (t'::l') k=hd (t::l) k:=by simp only [hd,key_text hk]
  rw [e1]
  by_cases g:hd (t::l) k=true
  ·rw [if_pos g,if_pos g]
   exact (ht l l' rfl hs').mono (by simp)
  ·rw [if_neg g,if_neg g]
   exact hf _ hs
theorem LL.sees {l l3:Ts} {k:List UInt8} {f f':Bool→St α} (hs:Sm l3 (l++m)) (h:∀ b,LL m e e2 d2 l.length (f b) (f' b)):LL m e e2 d2 l.length ((p_sees l e d k).bind f) ((p_sees l3 e2 d k).bind f'):=by
 rw [p_sees_t,p_sees_t,Option.bind_some,Option.bind_some]
 cases l with
 | nil=>exact (h false).nil
 | cons t l =>
  obtain ⟨t',l',rfl,hk,hs'⟩:=hs.cons
  have e1:hd (t'::l') k=hd (t::l) k:=by simp only [hd,key_text hk]
  rw [e1]
  exact h _
theorem LL.need {l l3:Ts} {k:List UInt8} (hs:Sm l3 (l++m)):LL0 m e e2 d l.length (p_need l e d [k]) (p_need l3 e2 d [k]):=by
 rw [p_need_t,p_need_t]
 intro l1 e1 d1 g
 cases l with
 | nil=>simp [hd] at g
 | cons t l =>
  obtain ⟨t',l',rfl,hk,hs'⟩:=hs.cons
  have e1:hd (t'::l') k=hd (t::l) k:=by simp only [hd,key_text hk]
  rw [e1]
  by_cases g1:hd (t::l) k=true
  ·rw [if_pos g1] at g ⊢
   have:=Except.ok.inj (Option.some.inj g)
   cases this
   exact ⟨⟨rfl,rfl⟩,by simp,fun _=>⟨l',rfl,hs'⟩⟩
  ·rw [if_neg g1] at g
   cases g
theorem LL.name {l l3:Ts} (hs:Sm l3 (l++m)):LL m e e2 d l.length (p_name fu l e d) (p_name fu l3 e2 d):=by
 rw [p_name_n,p_name_n]
 cases l with
 | nil=>exact LL.err
 | cons t l =>
  obtain ⟨t',l',rfl,hk,hs'⟩:=hs.cons
  simp only [key_kind hk,key_text hk]
  by_cases g1:t.Kind=1
  ·rw [if_pos g1,if_pos g1]
   cases lex_named fu t.Text with
   | none=>exact LL.none
   | some b =>
    rw [Option.bind_some,Option.bind_some]
    cases b with
    | true=>exact (LL.pure hs').mono (by simp)
    | false=>exact LL.err
  ·rw [if_neg g1,if_neg g1]
   exact LL.err
theorem LL.number {l l3:Ts} (hs:Sm l3 (l++m)):LL m e e2 d l.length (p_number l e d) (p_number l3 e2 d):=by
 rw [p_number_t,p_number_t]
 cases l with
 | nil=>exact LL.err
 | cons t l =>
  obtain ⟨t',l',rfl,hk,hs'⟩:=hs.cons
  simp only [key_kind hk,key_num hk]
  by_cases g1:t.Kind=2
  ·rw [if_pos g1,if_pos g1]
   exact (LL.pure hs').mono (by simp)
  ·rw [if_neg g1,if_neg g1]
   exact LL.err
theorem i64_eq {a b:Int} (h:i64 a=some b):b=a:=by
 unfold i64 at h
 split at h
 ·exact (Option.some.inj h).symm
 ·cases h
theorem LL.into {l l3:Ts} (hs:Sm l3 (l++m)):LL0 m e e2 (d+1) l.length (p_into l e d) (p_into l3 e2 d):=by
 intro l1 e1 d1 g
 unfold p_into at g ⊢
 obtain ⟨i,hi,g⟩:=bI g
 rw [hi,Option.bind_some]
 obtain rfl:=i64_eq hi
 by_cases h:200<d+1
 ·rw [if_pos h] at g
  obtain ⟨_,_,g⟩:=bI g
  cases g
 ·rw [if_neg h] at g ⊢
  have:=Except.ok.inj (Option.some.inj g)
  cases this
  exact ⟨⟨rfl,rfl⟩,Nat.le_refl _,fun _=>⟨l3,rfl,hs⟩⟩
theorem LL.out {N:Nat} {l l3:Ts} {f f':Ts×Int×Int→St α} (h:LL m e e2 d2 N (f (l,e,d)) (f' (l3,e2,d))):LL m e e2 d2 N ((p_out l e (d+1)).bind f) ((p_out l3 e2 (d+1)).bind f'):=by
 unfold p_out
 cases hi:i64 (d+1 - 1) with
 | none=>exact LL.none
 | some i =>
  obtain rfl:=i64_eq hi
  rw [Int.add_sub_cancel]
  exact h
theorem LL.typ {l l3:Ts} (hs:Sm l3 (l++m)):LL m e e2 d l.length (p_typ fu l e d) (p_typ fu l3 e2 d):=by
 unfold p_typ
 refine LL.is hs (fun l1 l3 _ hs=>?_) fun l3 hs=>?_
 ·exact LL.pure hs
 refine LL.is hs (fun l1 l3 _ hs=>?_) fun l3 hs=>?_
 ·exact LL.pure hs
 exact LL.bind (LL.name hs) fun x l l3 _ hs=>LL.pure hs
theorem LL.params_l:∀ (n:Nat) (l l3:Ts) (acc:List TParam),Sm l3 (l++m)→LL m e e2 d l.length (p_params_l1 fu n l e d acc) (p_params_l1 fu n l3 e2 d acc):=by
 intro n
 induction n with
 | zero=>intros; exact LL.none
 | succ n ih =>
  intro l l3 acc hs
  unfold p_params_l1
  refine LL.is hs (fun l1 l3 _ hs=>?_) fun l3 hs=>?_
  ·exact LL.pure hs
  have key:∀ l l3,Sm l3 (l++m)→LL m e e2 d l.length (p_params_j1 fu acc (p_params_l1 fu n) l e d) (p_params_j1 fu acc (p_params_l1 fu n) l3 e2 d):=by
   intro l l3 hs
   unfold p_params_j1
   by_cases h:(acc.length:Int)=6
   ·rw [if_pos h,if_pos h]; exact LL.at (l3:=l3)
   ·rw [if_neg h,if_neg h]
    refine LL.bind (LL.name hs) fun x l l3 _ hs=>?_
    refine LL.bind (LL.typ hs) fun y l l3 _ hs=>?_
    exact LL.ob fun z=>ih l l3 z hs
  show LL m e e2 d l.length (if (0:Int)<(acc.length:Int) then _ else _) (if (0:Int)<(acc.length:Int) then _ else _)
  by_cases h:(0:Int)<(acc.length:Int)
  ·rw [if_pos h,if_pos h]
   exact LL.bind0 (LL.need hs) fun l l3 _ hs=>key l l3 hs
  ·rw [if_neg h,if_neg h]
   exact key l l3 hs
theorem LL.params {l l3:Ts} (hs:Sm l3 (l++m)):LL m e e2 d l.length (p_params fu l e d) (p_params fu l3 e2 d):=by
 unfold p_params
 exact LL.bind0 (LL.need hs) fun l l3 _ hs=>LL.params_l fu l l3 [] hs
end
end Go.Y
namespace Go.Y
open Go.Wk Go.Xt
section
variable {m:Ts} {e e2 d d2:Int} {α β:Type}
structure LE (m:Ts) (e e2:Int) (P:ParE):Prop where
 expr:∀ l l3 d,Sm l3 (l++m)→LL m e e2 d l.length (P.p_expr l e d) (P.p_expr l3 e2 d)
 level:∀ l l3 d n,Sm l3 (l++m)→LL m e e2 d l.length (P.p_level l e d n) (P.p_level l3 e2 d n)
 unary:∀ l l3 d,Sm l3 (l++m)→LL m e e2 d l.length (P.p_unary l e d) (P.p_unary l3 e2 d)
 primary:∀ l l3 d,Sm l3 (l++m)→LL m e e2 d l.length (P.p_primary l e d) (P.p_primary l3 e2 d)
 args:∀ l l3 d,Sm l3 (l++m)→LL m e e2 d l.length (P.p_args l e d) (P.p_args l3 e2 d)
 fixed:∀ l l3 d k n,Sm l3 (l++m)→LL m e e2 d l.length (P.p_fixed l e d k n) (P.p_fixed l3 e2 d k n)
variable {P:ParE}
theorem LE.expr' (I:LE m e e2 P) (l l3:Ts) (d:Int) (hs:Sm l3 (l++m)):LL m e e2 d l.length (p_expr P l e d) (p_expr P l3 e2 d):=by
 unfold p_expr
 refine LL.bind0 (LL.into hs) fun l l3 _ hs=>?_
 refine LL.bind (I.level _ _ _ _ hs) fun x l l3 _ hs=>?_
 exact LL.out (LL.pure hs)
theorem LE.level_l (I:LE m e e2 P) (n:Int) (lv:List TSynLevel):∀ (k:Nat) (l l3:Ts) (d:Int) (a b:Int) (c:List UInt8) (ks:List TExpr),Sm l3 (l++m)→LL m e e2 d l.length (p_level_l1 P n lv k l e d a b c ks) (p_level_l1 P n lv k l3 e2 d a b c ks):=by
 intro k
 induction k with
 | zero=>intros; exact LL.none
 | succ k ih =>
  intro l l3 d a b c ks hs
  unfold p_level_l1
  cases l with
  | nil =>
   rw [if_neg (by simp)]
   have:LL m e e2 d ([]:Ts).length (p_level_j1 ([]:Ts) e d a b c ks) (p_level_j1 m e2 d a b c ks):=by
    unfold p_level_j1
    exact LL.pure rfl
   exact this.nil
  | cons t l =>
   obtain ⟨t',l',rfl,hk,hs'⟩:=hs.cons
   rw [if_pos (by simp),if_pos (by simp),at0,at0]
   refine LL.ob fun x=>?_
   rw [Option.bind_some,Option.bind_some,key_text hk]
   by_cases h:((mget x.signs t.Text).getD 0)=0
   ·rw [if_pos h,if_pos h]
    unfold p_level_j1
    exact LL.pure hs
   ·rw [if_neg h,if_neg h,cut1,cut1,Option.bind_some,Option.bind_some]
    refine LL.mono (N:=l.length) (LL.ob fun i=>?_) (by simp)
    refine LL.bind (I.level _ _ _ _ hs') fun y l l3 _ hs=>?_
    unfold p_level_j2
    refine LL.ob fun z=>?_
    rw [key_text hk]
    by_cases g:z.once=true
    ·rw [if_pos g,if_pos g]
     unfold p_level_j1
     exact LL.pure hs
    ·rw [if_neg g,if_neg g]
     exact ih _ _ _ _ _ _ _ hs
theorem LE.level' (fu:Nat) (I:LE m e e2 P) (l l3:Ts) (d n:Int) (hs:Sm l3 (l++m)):LL m e e2 d l.length (p_level fu P l e d n) (p_level fu P l3 e2 d n):=by
 unfold p_level
 refine LL.ob fun lv=>?_
 by_cases h:n=(lv.length:Int)
 ·rw [if_pos h,if_pos h]
  exact LL.bind (I.unary _ _ _ hs) fun x l l3 _ hs=>LL.pure hs
 ·rw [if_neg h,if_neg h]
  refine LL.ob fun i=>?_
  exact LL.bind (I.level _ _ _ _ hs) fun x l l3 _ hs=>I.level_l n lv fu _ _ _ _ _ _ _ hs
theorem LE.unary' (I:LE m e e2 P) (l l3:Ts) (d:Int) (hs:Sm l3 (l++m)):LL m e e2 d l.length (p_unary P l e d) (p_unary P l3 e2 d):=by
 unfold p_unary
 refine LL.is hs (fun l1 l3 _ hs=>?_) fun l3 hs=>?_
 ·refine LL.bind0 (LL.into hs) fun l l3 _ hs=>?_
  refine LL.bind (I.unary _ _ _ hs) fun x l l3 _ hs=>?_
  exact LL.out (LL.pure hs)
 refine LL.is hs (fun l1 l3 _ hs=>?_) fun l3 hs=>?_
 ·refine LL.bind0 (LL.into hs) fun l l3 _ hs=>?_
  refine LL.bind (I.unary _ _ _ hs) fun x l l3 _ hs=>?_
  exact LL.out (LL.pure hs)
 exact LL.bind (I.primary _ _ _ hs) fun x l l3 _ hs=>LL.pure hs
theorem LE.primary_j (fu:Nat) (I:LE m e e2 P) (l l3:Ts) (d:Int) (b:Bool) (hs:Sm l3 (l++m)):LL m e e2 d l.length (p_primary_j1 fu P l e d b) (p_primary_j1 fu P l3 e2 d b):=by
 unfold p_primary_j1
 by_cases h:b=true
 ·rw [if_pos h,if_pos h]
  exact LL.bind (LL.number hs) fun x l l3 _ hs=>LL.pure hs
 rw [if_neg h,if_neg h]
 refine LL.is hs (fun l1 l3 _ hs=>LL.pure hs) fun l3 hs=>?_
 refine LL.is hs (fun l1 l3 _ hs=>LL.pure hs) fun l3 hs=>?_
 refine LL.is hs (fun l1 l3 _ hs=>?_) fun l3 hs=>?_
 ·refine LL.bind (I.expr _ _ _ hs) fun x l l3 _ hs=>?_
  exact LL.bind0 (LL.need hs) fun l l3 _ hs=>LL.pure hs
 refine LL.is hs (fun l1 l3 _ hs=>?_) fun l3 hs=>?_
 ·refine LL.bind0 (LL.need hs) fun l l3 _ hs=>?_
  refine LL.bind (LL.name hs) fun x l l3 _ hs=>?_
  exact LL.bind0 (LL.need hs) fun l l3 _ hs=>LL.pure hs
 refine LL.is hs (fun l1 l3 _ hs=>LL.bind (I.fixed _ _ _ _ _ hs) fun x l l3 _ hs=>LL.pure hs) fun l3 hs=>?_
 refine LL.is hs (fun l1 l3 _ hs=>LL.bind (I.fixed _ _ _ _ _ hs) fun x l l3 _ hs=>LL.pure hs) fun l3 hs=>?_
 refine LL.is hs (fun l1 l3 _ hs=>LL.bind (I.fixed _ _ _ _ _ hs) fun x l l3 _ hs=>LL.pure hs) fun l3 hs=>?_
 refine LL.is hs (fun l1 l3 _ hs=>?_) fun l3 hs=>?_
 ·refine LL.bind (LL.name hs) fun x l l3 _ hs=>?_
  exact LL.bind (I.args _ _ _ hs) fun y l l3 _ hs=>LL.pure hs
 refine LL.bind (LL.name hs) fun x l l3 _ hs=>?_
 refine LL.sees hs fun b=>?_
 by_cases g:b=true
 ·rw [if_pos g,if_pos g]
  exact LL.bind (I.args _ _ _ hs) fun y l l3 _ hs=>LL.pure hs
 ·rw [if_neg g,if_neg g]
  exact LL.pure hs
theorem LE.primary' (fu:Nat) (I:LE m e e2 P) (l l3:Ts) (d:Int) (hs:Sm l3 (l++m)):LL m e e2 d l.length (p_primary fu P l e d) (p_primary fu P l3 e2 d):=by
 unfold p_primary
 cases l with
 | nil =>
  rw [if_neg (by simp)]
  exact (I.primary_j fu [] m d false rfl).nil
 | cons t l =>
  obtain ⟨t',l',rfl,hk,hs'⟩:=hs.cons
  rw [if_pos (by simp),if_pos (by simp),at0,at0,Option.bind_some,Option.bind_some,key_kind hk]
  exact I.primary_j fu _ _ _ _ hs
theorem LE.args_l (I:LE m e e2 P):∀ (n:Nat) (l l3:Ts) (d:Int) (acc:List TExpr),Sm l3 (l++m)→LL m e e2 d l.length (p_args_l1 P n l e d acc) (p_args_l1 P n l3 e2 d acc):=by
 intro n
 induction n with
 | zero=>intros; exact LL.none
 | succ n ih =>
  intro l l3 d acc hs
  unfold p_args_l1
  refine LL.is hs (fun l1 l3 _ hs=>LL.pure hs) fun l3 hs=>?_
  have key:∀ l l3,Sm l3 (l++m)→LL m e e2 d l.length (p_args_j1 P acc (p_args_l1 P n) l e d) (p_args_j1 P acc (p_args_l1 P n) l3 e2 d):=by
   intro l l3 hs
   unfold p_args_j1
   by_cases h:(acc.length:Int)=6
   ·rw [if_pos h,if_pos h]; exact LL.at (l3:=l3)
   ·rw [if_neg h,if_neg h]
    refine LL.bind (I.expr _ _ _ hs) fun x l l3 _ hs=>?_
    exact LL.ob fun z=>ih l l3 d z hs
  show LL m e e2 d l.length (if (0:Int)<(acc.length:Int) then _ else _) (if (0:Int)<(acc.length:Int) then _ else _)
  by_cases h:(0:Int)<(acc.length:Int)
  ·rw [if_pos h,if_pos h]
   exact LL.bind0 (LL.need hs) fun l l3 _ hs=>key l l3 hs
  ·rw [if_neg h,if_neg h]
   exact key l l3 hs
theorem LE.args' (fu:Nat) (I:LE m e e2 P) (l l3:Ts) (d:Int) (hs:Sm l3 (l++m)):LL m e e2 d l.length (p_args fu P l e d) (p_args fu P l3 e2 d):=by
 unfold p_args
 exact LL.bind0 (LL.need hs) fun l l3 _ hs=>I.args_l fu _ _ _ _ hs
theorem LE.fixed_l (I:LE m e e2 P) (k c:Int):∀ (n:Nat) (i:Int) (l l3:Ts) (d:Int) (acc:List TExpr),Sm l3 (l++m)→LL m e e2 d l.length (p_fixed_l1 P k c n i l e d acc) (p_fixed_l1 P k c n i l3 e2 d acc):=by
 intro n
 induction n with
 | zero=>intros; exact LL.none
 | succ n ih =>
  intro i l l3 d acc hs
  unfold p_fixed_l1
  have key:∀ l l3,Sm l3 (l++m)→LL m e e2 d l.length (p_fixed_j1 P i acc (p_fixed_l1 P k c n) l e d) (p_fixed_j1 P i acc (p_fixed_l1 P k c n) l3 e2 d):=by
   intro l l3 hs
   unfold p_fixed_j1
   refine LL.bind (I.expr _ _ _ hs) fun x l l3 _ hs=>?_
   refine LL.ob fun z=>?_
   unfold p_fixed_j2
   exact LL.ob fun j=>ih _ _ _ _ _ hs
  by_cases g:i<c
  ·rw [if_pos g,if_pos g]
   by_cases h:(0:Int)<i
   ·rw [if_pos h,if_pos h]
    exact LL.bind0 (LL.need hs) fun l l3 _ hs=>key l l3 hs
   ·rw [if_neg h,if_neg h]
    exact key l l3 hs
  ·rw [if_neg g,if_neg g]
   exact LL.bind0 (LL.need hs) fun l l3 _ hs=>LL.pure hs
theorem LE.fixed' (I:LE m e e2 P) (l l3:Ts) (d k n:Int) (hs:Sm l3 (l++m)):LL m e e2 d l.length (p_fixed P l e d k n) (p_fixed P l3 e2 d k n):=by
 unfold p_fixed
 exact LL.bind0 (LL.need hs) fun l l3 _ hs=>I.fixed_l k n _ _ _ _ _ _ hs
theorem le_run:∀ n,LE m e e2 (ParE_run n):=by
 intro n
 induction n with
 | zero=>exact ⟨fun _ _ _ _=>LL.none,fun _ _ _ _ _=>LL.none,fun _ _ _ _=>LL.none,fun _ _ _ _=>LL.none,fun _ _ _ _=>LL.none,fun _ _ _ _ _ _=>LL.none⟩
 | succ n ih=>exact ⟨ih.expr',ih.level' n,ih.unary',ih.primary' n,ih.args' n,ih.fixed'⟩
structure LS (m:Ts) (e e2:Int) (P:ParS):Prop where
 body:∀ l l3 d,Sm l3 (l++m)→LL m e e2 d l.length (P.p_body l e d) (P.p_body l3 e2 d)
 stat:∀ l l3 d,Sm l3 (l++m)→LL m e e2 d l.length (P.p_stat l e d) (P.p_stat l3 e2 d)
variable {S:ParS}
theorem LS.body_l (I:LS m e e2 S):∀ (n:Nat) (l l3:Ts) (d:Int) (acc:List TStat),Sm l3 (l++m)→LL m e e2 d l.length (p_body_l1 S n l e (d+1) acc) (p_body_l1 S n l3 e2 (d+1) acc):=by
 intro n
 induction n with
 | zero=>intros; exact LL.none
 | succ n ih =>
  intro l l3 d acc hs
  unfold p_body_l1
  refine LL.is hs (fun l1 l3 _ hs=>LL.out (LL.pure hs)) fun l3 hs=>?_
  show LL m e e2 d l.length (if (acc.length:Int)=50 then _ else _) (if (acc.length:Int)=50 then _ else _)
  by_cases h:(acc.length:Int)=50
  ·rw [if_pos h,if_pos h]; exact LL.at (l3:=l3)
  ·rw [if_neg h,if_neg h]
   refine LL.bind (I.stat _ _ _ hs) fun x l l3 _ hs=>?_
   exact LL.ob fun z=>ih l l3 d z hs
theorem LS.body' (fu:Nat) (I:LS m e e2 S) (l l3:Ts) (d:Int) (hs:Sm l3 (l++m)):LL m e e2 d l.length (p_body fu S l e d) (p_body fu S l3 e2 d):=by
 unfold p_body
 refine LL.bind0 (LL.into hs) fun l l3 _ hs=>?_
 exact LL.bind0 (LL.need hs) fun l l3 _ hs=>I.body_l fu _ _ _ _ hs
theorem LL.stat_j {l l3:Ts} {a b c:Int} {s t:List UInt8} {ks:List TExpr} (hs:Sm l3 (l++m)):LL m e e2 d l.length (p_stat_j1 l e d a s b c t ks) (p_stat_j1 l3 e2 d a s b c t ks):=by
 unfold p_stat_j1
 exact LL.bind0 (LL.need hs) fun l l3 _ hs=>LL.pure hs
theorem LS.stat' (fu:Nat) (I:LS m e e2 S) (l l3:Ts) (d:Int) (hs:Sm l3 (l++m)):LL m e e2 d l.length (p_stat fu S l e d) (p_stat fu S l3 e2 d):=by
 have E:=le_run (m:=m) (e:=e) (e2:=e2) fu
 unfold p_stat
 refine LL.is hs (fun l1 l3 _ hs=>?_) fun l3 hs=>?_
 ·refine LL.bind (E.expr _ _ _ hs) fun x l l3 _ hs=>?_
  refine LL.bind (I.body _ _ _ hs) fun y l l3 _ hs=>?_
  refine LL.is hs (fun l1 l3 _ hs=>?_) fun l3 hs=>?_
  ·exact LL.bind (I.body _ _ _ hs) fun z l l3 _ hs=>LL.pure hs
  ·exact LL.pure hs
 refine LL.is hs (fun l1 l3 _ hs=>?_) fun l3 hs=>?_
 ·refine LL.bind (E.expr _ _ _ hs) fun x l l3 _ hs=>?_
  exact LL.bind (I.body _ _ _ hs) fun y l l3 _ hs=>LL.pure hs
 refine LL.is hs (fun l1 l3 _ hs=>?_) fun l3 hs=>?_
 ·refine LL.bind (LL.name hs) fun x l l3 _ hs=>?_
  refine LL.bind0 (LL.need hs) fun l l3 _ hs=>?_
  exact LL.bind (E.expr _ _ _ hs) fun x l l3 _ hs=>LL.stat_j hs
 refine LL.is hs (fun l1 l3 _ hs=>LL.bind (E.expr _ _ _ hs) fun x l l3 _ hs=>LL.stat_j hs) fun l3 hs=>?_
 refine LL.is hs (fun l1 l3 _ hs=>LL.stat_j hs) fun l3 hs=>?_
 refine LL.is hs (fun l1 l3 _ hs=>?_) fun l3 hs=>?_
 ·refine LL.bind (LL.name hs) fun x l l3 _ hs=>?_
  exact LL.bind (E.expr _ _ _ hs) fun x l l3 _ hs=>LL.stat_j hs
 refine LL.is hs (fun l1 l3 _ hs=>LL.bind (E.expr _ _ _ hs) fun x l l3 _ hs=>LL.stat_j hs) fun l3 hs=>?_
 refine LL.is hs (fun l1 l3 _ hs=>LL.bind (E.expr _ _ _ hs) fun x l l3 _ hs=>LL.stat_j hs) fun l3 hs=>?_
 refine LL.bind (LL.name hs) fun x l l3 _ hs=>?_
 refine LL.bind0 (LL.need hs) fun l l3 _ hs=>?_
 exact LL.bind (E.expr _ _ _ hs) fun x l l3 _ hs=>LL.stat_j hs
theorem ls_run:∀ n,LS m e e2 (ParS_run n):=by
 intro n
 induction n with
 | zero=>exact ⟨fun _ _ _ _=>LL.none,fun _ _ _ _=>LL.none⟩
 | succ n ih=>exact ⟨ih.body' n,ih.stat' n⟩
end
end Go.Y
namespace Go.Y
open Go.Wk Go.Xt
section
variable {fu:Nat} {m:Ts} {e e2 d d2:Int} {α β:Type}
def LLs (m:Ts) (e e2 d:Int) (N:Nat) (A B:St α):Prop :=
 ∀ x l e1 d1,A=some (.ok (x,l,e1,d1))→(e1=e∧d1=d)∧l.length<N∧∃ l3,B=some (.ok (x,l3,e2,d))∧Sm l3 (l++m)
theorem LLs.mono {N N':Nat} {A B:St α} (h:LLs m e e2 d N A B) (hN:N≤N'):LLs m e e2 d N' A B:=fun x l e1 d1 g=>by
 obtain ⟨a,b,c⟩:=h x l e1 d1 g
 exact ⟨a,by omega,c⟩
theorem LLs.nil {A B B':St α} (h:LLs m e e2 d 0 A B) {N:Nat}:LLs m e e2 d N A B':=fun x l e1 d1 g=>by
 obtain ⟨a,b,-⟩:=h x l e1 d1 g
 omega
theorem LLs.bind {N:Nat} {A B:St α} {f f':α×Ts×Int×Int→St β} (h:LL m e e2 d N A B) (k:∀ x l l3,l.length≤N→Sm l3 (l++m)→LLs m e e2 d2 l.length (f (x,l,e,d)) (f' (x,l3,e2,d))):LLs m e e2 d2 N (bT A f) (bT B f'):=by
 intro y l1 e1 d1 g
 rcases bTe g with ⟨_,_,q⟩ | ⟨⟨x,l,e0,d0⟩,ha,g⟩
 ·cases q
 obtain ⟨⟨rfl,rfl⟩,hN,hB⟩:=h x l e0 d0 ha
 by_cases hl:l=[]
 ·subst hl
  obtain ⟨q1,q2,-⟩:=k x [] m (by omega) rfl y l1 e1 d1 g
  exact absurd q2 (by simp)
 ·obtain ⟨l3,rfl,hs⟩:=hB hl
  obtain ⟨q1,q2,q3⟩:=k x l l3 hN hs y l1 e1 d1 g
  exact ⟨q1,by omega,q3⟩
theorem LLs.bind0 {N:Nat} {A B:St0} {f f':Ts×Int×Int→St β} (h:LL0 m e e2 d N A B) (k:∀ l l3,l.length≤N→Sm l3 (l++m)→LLs m e e2 d2 l.length (f (l,e,d)) (f' (l3,e2,d))):LLs m e e2 d2 N (bT A f) (bT B f'):=by
 intro y l1 e1 d1 g
 rcases bTe g with ⟨_,_,q⟩ | ⟨⟨l,e0,d0⟩,ha,g⟩
 ·cases q
 obtain ⟨⟨rfl,rfl⟩,hN,hB⟩:=h l e0 d0 ha
 by_cases hl:l=[]
 ·subst hl
  obtain ⟨q1,q2,-⟩:=k [] m (by omega) rfl y l1 e1 d1 g
  exact absurd q2 (by simp)
 ·obtain ⟨l3,rfl,hs⟩:=hB hl
  obtain ⟨q1,q2,q3⟩:=k l l3 hN hs y l1 e1 d1 g
  exact ⟨q1,by omega,q3⟩
theorem LLs.keep {N:Nat} {A B:St α} {f:α→β} (h:LLs m e e2 d N A B):LLs m e e2 d N (bT A fun r=>some (.ok (f r.1,r.2.1,r.2.2.1,r.2.2.2))) (bT B fun r=>some (.ok (f r.1,r.2.1,r.2.2.1,r.2.2.2))):=by
 intro y l1 e1 d1 g
 rcases bTe g with ⟨_,_,q⟩ | ⟨⟨x,l,e0,d0⟩,ha,g⟩
 ·cases q
 obtain ⟨⟨rfl,rfl⟩,hN,l3,rfl,hs⟩:=h x l e0 d0 ha
 have:=Except.ok.inj (Option.some.inj g)
 cases this
 exact ⟨⟨rfl,rfl⟩,hN,l3,rfl,hs⟩
theorem LLs.pure {x:α} {l l3:Ts} (hs:Sm l3 (l++m)):LLs m e e2 d (l.length+1) (some (.ok (x,l,e,d))) (some (.ok (x,l3,e2,d))):=by
 intro y l1 e1 d1 g
 have:=Except.ok.inj (Option.some.inj g)
 cases this
 exact ⟨⟨rfl,rfl⟩,by omega,l3,rfl,hs⟩
theorem LLs.err {N:Nat} {q:TFault} {B:St α}:LLs m e e2 d N (some (.error q)) B:=fun _ _ _ _ g=>by cases g
theorem LLs.none {N:Nat} {B:St α}:LLs m e e2 d N Option.none B:=fun _ _ _ _ g=>by cases g
theorem LLs.ob {N:Nat} {o:Option α} {f f':α→St β} (h:∀ y,LLs m e e2 d N (f y) (f' y)):LLs m e e2 d N (o.bind f) (o.bind f'):=by
 cases o with
 | none=>exact LLs.none
 | some y=>exact h y
theorem LLs.at {N:Nat} {l:Ts} {d1 k:Int} {B:St α}:LLs m e e2 d N ((p_at l e d1).bind fun r=>some (.error (TFault.mk k r))) B:=by
 rw [p_at_t]; exact LLs.err
theorem LLs.is {l l3:Ts} {k:List UInt8} {f f':Bool×Ts×Int×Int→St α} (hs:Sm l3 (l++m))
  (ht:∀ l1 l3,l1.length+1=l.length→Sm l3 (l1++m)→LLs m e e2 d2 (l1.length+1) (f (true,l1,e,d)) (f' (true,l3,e2,d))) (hf:∀ l3,Sm l3 (l++m)→LLs m e e2 d2 l.length (f (false,l,e,d)) (f' (false,l3,e2,d))):LLs m e e2 d2 l.length ((p_is l e d k).bind f) ((p_is l3 e2 d k).bind f'):=by
 rw [p_is_t,p_is_t,Option.bind_some,Option.bind_some]
 cases l with
 | nil =>
  rw [if_neg (by simp [hd])]
  exact (hf m rfl).nil
 | cons t l =>
  obtain ⟨t',l',rfl,hk,hs'⟩:=hs.cons
  have e1:hd (t'::l') k=hd (t::l) k:=by simp only [hd,key_text hk]
  rw [e1]
  by_cases g:hd (t::l) k=true
  ·rw [if_pos g,if_pos g]
   exact ht l l' rfl hs'
  ·rw [if_neg g,if_neg g]
   exact hf _ hs
theorem LLs.need {l l3:Ts} {k:List UInt8} {x:α} (hs:Sm l3 (l++m)):LLs m e e2 d l.length (bT (p_need l e d [k]) fun r=>some (.ok (x,r.1,r.2.1,r.2.2))) (bT (p_need l3 e2 d [k]) fun r=>some (.ok (x,r.1,r.2.1,r.2.2))):=by
 rw [p_need_t,p_need_t]
 cases l with
 | nil=>exact LLs.err
 | cons t l =>
  obtain ⟨t',l',rfl,hk,hs'⟩:=hs.cons
  have e1:hd (t'::l') k=hd (t::l) k:=by simp only [hd,key_text hk]
  rw [e1]
  by_cases g1:hd (t::l) k=true
  ·rw [if_pos g1,if_pos g1]
   exact LLs.pure hs'
  ·rw [if_neg g1,if_neg g1]
   exact LLs.err
theorem LLs.out {N:Nat} {l l3:Ts} {f f':Ts×Int×Int→St α} (h:LLs m e e2 d2 N (f (l,e,d)) (f' (l3,e2,d))):LLs m e e2 d2 N ((p_out l e (d+1)).bind f) ((p_out l3 e2 (d+1)).bind f'):=by
 unfold p_out
 cases hi:i64 (d+1 - 1) with
 | none=>exact LLs.none
 | some i =>
  obtain rfl:=i64_eq hi
  rw [Int.add_sub_cancel]
  exact h
theorem LLs.body_l {S:ParS} (I:LS m e e2 S):∀ (n:Nat) (l l3:Ts) (d:Int) (acc:List TStat),Sm l3 (l++m)→LLs m e e2 d l.length (p_body_l1 S n l e (d+1) acc) (p_body_l1 S n l3 e2 (d+1) acc):=by
 intro n
 induction n with
 | zero=>intros; exact LLs.none
 | succ n ih =>
  intro l l3 d acc hs
  unfold p_body_l1
  refine LLs.is hs (fun l1 l3 _ hs=>LLs.out (LLs.pure hs)) fun l3 hs=>?_
  show LLs m e e2 d l.length (if (acc.length:Int)=50 then _ else _) (if (acc.length:Int)=50 then _ else _)
  by_cases h:(acc.length:Int)=50
  ·rw [if_pos h,if_pos h]; exact LLs.at
  ·rw [if_neg h,if_neg h]
   refine LLs.bind (I.stat _ _ _ hs) fun x l l3 _ hs=>?_
   exact LLs.ob fun z=>ih l l3 d z hs
theorem LLs.body {S:ParS} (I:LS m e e2 S) {l l3:Ts} (hs:Sm l3 (l++m)):LLs m e e2 d l.length (p_body fu S l e d) (p_body fu S l3 e2 d):=by
 unfold p_body
 refine LLs.bind0 (LL.into hs) fun l l3 _ hs=>?_
 exact LLs.bind0 (LL.need hs) fun l l3 _ hs=>LLs.body_l I fu _ _ _ _ hs
theorem LLs.bodyR:∀ (n:Nat) {l l3:Ts},Sm l3 (l++m)→LLs m e e2 d l.length ((ParS_run n).p_body l e d) ((ParS_run n).p_body l3 e2 d)
 | 0,_,_,_=>LLs.none
 | n+1,_,_,hs=>LLs.body (ls_run n) hs
theorem LLs.def {l l3:Ts} (hs:Sm l3 (l++m)):LLs m e e2 d l.length (p_def fu l e d) (p_def fu l3 e2 d):=by
 unfold p_def
 rw [p_at_t,p_at_t,Option.bind_some,Option.bind_some]
 refine LLs.is hs (fun l1 l3 _ hs=>?_) fun l3 hs=>?_
 ·refine LLs.mono (N:=l1.length) ?_ (by omega)
  refine LLs.bind (LL.name hs) fun x l l3 _ hs=>?_
  refine LLs.bind (LL.typ hs) fun y l l3 _ hs=>?_
  rw [p_at_t,p_at_t,Option.bind_some,Option.bind_some]
  refine LLs.bind (LL.number hs) fun z l l3 _ hs=>?_
  have key2:∀ b r1 r2 q1 q2 q3 q4,LLs m e e2 d l.length (p_def_j1 (x,q1) (y,q2) r1 (z,l,e,d) b) (p_def_j1 (x,q3) (y,q4) r2 (z,l3,e2,d) b):=by
   intro b r1 r2 q1 q2 q3 q4
   unfold p_def_j1
   by_cases h:b=true
   ·rw [if_pos h,if_pos h]; exact LLs.err
   ·rw [if_neg h,if_neg h]
    exact LLs.need hs
  show LLs m e e2 d l.length (if z<1 then _ else _) (if z<1 then _ else _)
  by_cases h:z<1
  ·rw [if_pos h,if_pos h]; exact key2 _ _ _ _ _ _ _
  ·rw [if_neg h,if_neg h]; exact key2 _ _ _ _ _ _ _
 refine LLs.is hs (fun l1 l3 _ hs=>?_) fun l3 hs=>?_
 ·refine LLs.mono (N:=l1.length) ?_ (by omega)
  refine LLs.bind (LL.name hs) fun x l l3 _ hs=>?_
  refine LLs.bind (LL.params hs) fun x l l3 _ hs=>?_
  refine LLs.bind (LL.typ hs) fun x l l3 _ hs=>?_
  exact (LLs.bodyR fu hs).keep
 refine LLs.is hs (fun l1 l3 _ hs=>?_) fun l3 hs=>?_
 ·refine LLs.mono (N:=l1.length) ?_ (by omega)
  refine LLs.bind (LL.name hs) fun x l l3 _ hs=>?_
  refine LLs.bind (LL.params hs) fun x l l3 _ hs=>?_
  refine LLs.bind0 (LL.need hs) fun l l3 _ hs=>?_
  refine LLs.bind (LL.typ hs) fun x l l3 _ hs=>?_
  refine LLs.bind0 (LL.need hs) fun l l3 _ hs=>?_
  refine LLs.bind (LL.typ hs) fun x l l3 _ hs=>?_
  exact (LLs.bodyR fu hs).keep
 refine LLs.is hs (fun l1 l3 _ hs=>?_) fun l3 hs=>LLs.err
 refine LLs.mono (N:=l1.length) ?_ (by omega)
 refine LLs.bind (LL.name hs) fun x l l3 _ hs=>?_
 exact (LLs.bodyR fu hs).keep
end
end Go.Y
namespace Go.Y
open Go.Wk Go.Xt
section
variable {s:Int} {α:Type}
abbrev Cn:=Option (Int×Int)
structure UU (s:Int) (A B:Cn):Prop where
 out:∀ k,A=some (0,k)→B=some (0,k+s)∨∃ k',B=some (4,k')
theorem UU.err {e k:Int} {B:Cn} (h:e≠0):UU s (some (e,k)) B:=⟨fun k' g=>by cases g; exact absurd rfl h⟩
theorem UU.none {B:Cn}:UU s Option.none B:=⟨fun _ g=>by cases g⟩
theorem UU.pure {k:Int}:UU s (some (0,k)) (some (0,k+s)):=⟨fun k' g=>by cases g; exact .inl rfl⟩
theorem UU.ob {o:Option α} {f f':α→Cn} (h:∀ y,UU s (f y) (f' y)):UU s (o.bind f) (o.bind f'):=by
 cases o with
 | none=>exact UU.none
 | some y=>exact h y
theorem UU.ite {c:Prop} [Decidable c] {A B A' B':Cn} (h1:UU s A B) (h2:UU s A' B'):UU s (if c then A else A') (if c then B else B'):=by
 by_cases h:c
 ·rw [if_pos h,if_pos h]; exact h1
 ·rw [if_neg h,if_neg h]; exact h2
theorem UU.sub {A B:Cn} {F F':Int×Int→Cn} (h:UU s A B) (k:∀ i,UU s (F (0,i)) (F' (0,i+s))):UU s (A.bind fun r=>if r.1≠0 then some (r.1,r.2) else F r) (B.bind fun r=>if r.1≠0 then some (r.1,r.2) else F' r):=by
 refine ⟨fun k' g=>?_⟩
 obtain ⟨⟨a,b⟩,ha,g⟩:=Option.bind_eq_some_iff.1 g
 by_cases h0:a=0
 ·subst h0
  rw [if_neg (by simp)] at g
  rcases h.out _ ha with hb | ⟨q,hb⟩
  ·rw [hb,Option.bind_some,if_neg (by simp)]
   exact (k b).out k' g
  ·rw [hb]
   exact .inr ⟨q,rfl⟩
 ·rw [if_pos h0] at g
  have:=Option.some.inj g
  simp only [Prod.mk.injEq] at this
  exact absurd this.1 h0
theorem UU.id {A B:Cn} (h:UU s A B):UU s (A.bind fun r=>some (r.1,r.2)) (B.bind fun r=>some (r.1,r.2)):=by
 refine ⟨fun k' g=>?_⟩
 obtain ⟨⟨a,b⟩,ha,g⟩:=Option.bind_eq_some_iff.1 g
 cases g
 rcases h.out _ ha with hb | ⟨q,hb⟩
 ·rw [hb]; exact .inl rfl
 ·rw [hb]; exact .inr ⟨q,rfl⟩
theorem UU.node (h0:0≤s) (h1:s≤2000) {c d:Int}:UU s (syn_node c d) (syn_node (c+s) d):=by
 refine ⟨fun k g=>?_⟩
 unfold syn_node at g ⊢
 obtain ⟨i,hi,g⟩:=Option.bind_eq_some_iff.1 g
 have hi':i=c+1∧-9223372036854775808≤c+1∧c+1≤9223372036854775807:=by
  unfold i64 at hi
  split at hi
  ·rename_i h; exact ⟨(Option.some.inj hi).symm,h⟩
  ·cases hi
 obtain ⟨rfl,hb⟩:=hi'
 by_cases h:2000<c+1
 ·rw [if_pos h] at g
  cases g
 ·rw [if_neg h] at g
  rw [show i64 (c+s+1)=some (c+s+1) by unfold i64; rw [if_pos (by omega)],Option.bind_some]
  unfold syn_node_j1 at g ⊢
  by_cases hd:40<d
  ·rw [if_pos (by simpa using hd)] at g
   cases g
  ·rw [if_neg (by simpa using hd)] at g
   cases g
   by_cases h2:2000<c+s+1
   ·rw [if_pos h2]; exact .inr ⟨_,rfl⟩
   ·rw [if_neg h2,if_neg (by simpa using hd)]
    exact .inl (by rw [show c+1+s=c+s+1 by omega])
def UE (s:Int) (P:SynExpr):Prop:=∀ c x d,UU s (P.syn_expr c x d) (P.syn_expr (c+s) x d)
theorem UE.l {P:SynExpr} (I:UE s P) (x:TExpr) (d:Int):∀ (n:Nat) (i c:Int),UU s (syn_expr_l1 P x d n i c) (syn_expr_l1 P x d n i (c+s)):=by
 intro n
 induction n with
 | zero=>intros; exact UU.none
 | succ n ih =>
  intro i c
  unfold syn_expr_l1
  refine UU.ite (UU.ob fun y=>UU.ob fun z=>UU.sub (I _ _ _) fun j=>UU.ob fun k=>ih _ _) UU.pure
theorem UE.j6 {P:SynExpr} (I:UE s P) (x:TExpr) (d c:Int) (b:Bool):UU s (syn_expr_j6 P x d (0,c) b) (syn_expr_j6 P x d (0,c+s) b):=by
 unfold syn_expr_j6
 exact UU.ite (UU.err (by decide)) (I.l _ _ _ _ _)
theorem UE.j5 {P:SynExpr} (I:UE s P) (x:TExpr) (d c r:Int) (b:Bool):UU s (syn_expr_j5 P x d (0,c) r b) (syn_expr_j5 P x d (0,c+s) r b):=by
 unfold syn_expr_j5
 exact UU.ite (I.j6 ..) (UU.ite (I.j6 ..) (I.j6 ..))
theorem UE.j4 {P:SynExpr} (I:UE s P) (x:TExpr) (d c r:Int) (b:Bool):UU s (syn_expr_j4 P x d (0,c) r b) (syn_expr_j4 P x d (0,c+s) r b):=by
 unfold syn_expr_j4
 exact UU.ite (UU.err (by decide)) (UU.ite (I.j5 ..) (I.j5 ..))
theorem UE.j3 {P:SynExpr} (I:UE s P) (fu:Nat) (x:TExpr) (d c r:Int) (b:Bool):UU s (syn_expr_j3 fu P x d (0,c) r b) (syn_expr_j3 fu P x d (0,c+s) r b):=by
 unfold syn_expr_j3
 exact UU.ite (UU.err (by decide)) (UU.ite (UU.ob fun _=>I.j4 ..) (UU.ite (UU.ob fun _=>I.j4 ..) (UU.ite (UU.ob fun _=>I.j4 ..) (I.j4 ..))))
theorem UE.j2 {P:SynExpr} (I:UE s P) (fu:Nat) (x:TExpr) (d c r:Int) (b:Bool):UU s (syn_expr_j2 fu P x d (0,c) r b) (syn_expr_j2 fu P x d (0,c+s) r b):=by
 unfold syn_expr_j2
 exact UU.ite (I.j3 ..) (UU.ite (UU.ite (I.j3 ..) (I.j3 ..)) (I.j3 ..))
theorem UE.j1 {P:SynExpr} (I:UE s P) (fu:Nat) (x:TExpr) (d c:Int) (b:Bool):UU s (syn_expr_j1 fu P x d (0,c) b) (syn_expr_j1 fu P x d (0,c+s) b):=by
 unfold syn_expr_j1
 exact UU.ite (UU.err (by decide)) (UU.ob fun r=>UU.ite (UU.ite (I.j2 ..) (I.j2 ..)) (I.j2 ..))
theorem ue_run (h0:0≤s) (h1:s≤2000):∀ n,UE s (SynExpr_run n):=by
 intro n
 induction n with
 | zero=>exact fun _ _ _=>UU.none
 | succ n I =>
  intro c x d
  show UU s (syn_expr n (SynExpr_run n) c x d) (syn_expr n (SynExpr_run n) (c+s) x d)
  unfold syn_expr
  exact UU.sub (UU.node h0 h1) fun i=>UU.ite (I.j1 ..) (I.j1 ..)
structure US (s:Int) (P:SynStat):Prop where
 stats:∀ c x d,UU s (P.syn_stats c x d) (P.syn_stats (c+s) x d)
 stat:∀ c x d,UU s (P.syn_stat c x d) (P.syn_stat (c+s) x d)
theorem US.l {P:SynStat} (I:US s P) (x:List TStat) (d:Int):∀ (n:Nat) (i c:Int),UU s (syn_stats_l1 P x d n i c) (syn_stats_l1 P x d n i (c+s)):=by
 intro n
 induction n with
 | zero=>intros; exact UU.none
 | succ n ih =>
  intro i c
  unfold syn_stats_l1
  exact UU.ite (UU.ob fun y=>UU.sub (I.stat _ _ _) fun j=>UU.ob fun k=>ih _ _) UU.pure
theorem US.j4 {P:SynStat} (I:US s P) (x:TStat) (d c:Int):UU s (syn_stat_j4 P x d c) (syn_stat_j4 P x d (c+s)):=by
 unfold syn_stat_j4
 exact UU.ite (UU.ob fun _=>UU.id (I.stats _ _ _)) UU.pure
theorem US.j3 {P:SynStat} (I:US s P) (x:TStat) (d c:Int) (b:Bool):UU s (syn_stat_j3 P x d (0,c) b) (syn_stat_j3 P x d (0,c+s) b):=by
 unfold syn_stat_j3
 exact UU.ite (UU.ob fun _=>UU.sub (F:=fun r=>syn_stat_j4 P x d r.2) (F':=fun r=>syn_stat_j4 P x d r.2) (I.stats _ _ _) fun i=>I.j4 ..) (I.j4 ..)
theorem US.j2 (h0:0≤s) (h1:s≤2000) {P:SynStat} (I:US s P) (fu:Nat) (x:TStat) (d c:Int) (b:Bool):UU s (syn_stat_j2 fu P x d (0,c) b) (syn_stat_j2 fu P x d (0,c+s) b):=by
 unfold syn_stat_j2
 refine UU.ite (UU.err (by decide)) (UU.ite UU.pure (UU.ob fun _=>?_))
 exact UU.sub (F:=fun r=>if x.Kind=3 then syn_stat_j3 P x d r true else syn_stat_j3 P x d r (decide (x.Kind=4))) (F':=fun r=>if x.Kind=3 then syn_stat_j3 P x d r true else syn_stat_j3 P x d r (decide (x.Kind=4))) (ue_run h0 h1 fu _ _ _) fun i=>UU.ite (I.j3 ..) (I.j3 ..)
theorem US.j1 (h0:0≤s) (h1:s≤2000) {P:SynStat} (I:US s P) (fu:Nat) (x:TStat) (d c:Int) (b:Bool):UU s (syn_stat_j1 fu P x d (0,c) b) (syn_stat_j1 fu P x d (0,c+s) b):=by
 unfold syn_stat_j1
 exact UU.ite (UU.err (by decide)) (UU.ite (UU.ob fun _=>I.j2 h0 h1 ..) (UU.ite (UU.ob fun _=>I.j2 h0 h1 ..) (UU.ite (UU.ob fun _=>I.j2 h0 h1 ..) (I.j2 h0 h1 ..))))
theorem us_run (h0:0≤s) (h1:s≤2000):∀ n,US s (SynStat_run n):=by
 intro n
 induction n with
 | zero=>exact ⟨fun _ _ _=>UU.none,fun _ _ _=>UU.none⟩
 | succ n I =>
  refine ⟨fun c x d=>?_,fun c x d=>?_⟩
  ·show UU s (syn_stats (SynStat_run n) c x d) (syn_stats (SynStat_run n) (c+s) x d)
   unfold syn_stats
   exact UU.ite (UU.err (by decide)) (I.l ..)
  ·show UU s (syn_stat n (SynStat_run n) c x d) (syn_stat n (SynStat_run n) (c+s) x d)
   unfold syn_stat
   exact UU.sub (UU.node h0 h1) fun i=>UU.ite (I.j1 h0 h1 ..) (I.j1 h0 h1 ..)
theorem UU.j6 (c:Int) (b:Bool):UU s (syn_def_j6 (0,c) b) (syn_def_j6 (0,c+s) b):=by
 unfold syn_def_j6
 exact UU.ite (UU.err (by decide)) UU.pure
theorem UU.j5 (h0:0≤s) (h1:s≤2000) (fu:Nat) (x:TDef) (c:Int):UU s (syn_def_j5 fu x (0,c)) (syn_def_j5 fu x (0,c+s)):=by
 unfold syn_def_j5
 exact UU.ite (UU.id ((us_run h0 h1 fu).stats _ _ _)) (UU.ite (UU.j6 _ _) (UU.j6 _ _))
theorem UU.er {o:Option Int} {c:Int} {A B:Cn} (h:UU s A B):UU s (o.bind fun r=>if r≠0 then some (r,c) else A) (o.bind fun r=>if r≠0 then some (r,c+s) else B):=by
 refine UU.ob fun y=>?_
 by_cases g:y≠0
 ·rw [if_pos g,if_pos g]; exact UU.err g
 ·rw [if_neg g,if_neg g]; exact h
theorem UU.j4 (h0:0≤s) (h1:s≤2000) (fu:Nat) (x:TDef) (c:Int):UU s (syn_def_j4 fu x (0,c)) (syn_def_j4 fu x (0,c+s)):=by
 unfold syn_def_j4
 exact UU.ite (UU.er (UU.j5 h0 h1 ..)) (UU.j5 h0 h1 ..)
theorem UU.j3 (h0:0≤s) (h1:s≤2000) (fu:Nat) (x:TDef) (c:Int):UU s (syn_def_j3 fu x (0,c)) (syn_def_j3 fu x (0,c+s)):=by
 unfold syn_def_j3
 exact UU.ite (UU.er (UU.j4 h0 h1 ..)) (UU.j4 h0 h1 ..)
theorem UU.dl (h0:0≤s) (h1:s≤2000) (fu:Nat) (x:TDef) (c:Int):∀ (n:Nat) (i:Int),UU s (syn_def_l1 fu x (0,c) n i) (syn_def_l1 fu x (0,c+s) n i):=by
 intro n
 induction n with
 | zero=>intros; exact UU.none
 | succ n ih =>
  intro i
  unfold syn_def_l1
  exact UU.ite (UU.ob fun y=>UU.ob fun b=>UU.ite (UU.er (UU.ob fun k=>ih _)) (UU.err (by decide))) (UU.j3 h0 h1 ..)
theorem UU.j2 (h0:0≤s) (h1:s≤2000) (fu:Nat) (x:TDef) (c:Int) (b:Bool):UU s (syn_def_j2 fu x (0,c) b) (syn_def_j2 fu x (0,c+s) b):=by
 unfold syn_def_j2
 exact UU.ite (UU.ite (UU.err (by decide)) (UU.dl h0 h1 ..)) (UU.j3 h0 h1 ..)
theorem UU.j1 (h0:0≤s) (h1:s≤2000) (fu:Nat) (x:TDef) (c:Int) (b:Bool):UU s (syn_def_j1 fu x (0,c) b) (syn_def_j1 fu x (0,c+s) b):=by
 unfold syn_def_j1
 exact UU.ite (UU.err (by decide)) (UU.ob fun _=>UU.ite (UU.ite (UU.j2 h0 h1 ..) (UU.j2 h0 h1 ..)) (UU.err (by decide)))
theorem UU.def (h0:0≤s) (h1:s≤2000) (fu:Nat) (x:TDef) (c:Int):UU s (syn_def fu c x) (syn_def fu (c+s) x):=by
 unfold syn_def
 exact UU.sub (UU.node h0 h1) fun i=>UU.ite (UU.j1 h0 h1 ..) (UU.j1 h0 h1 ..)
end
end Go.Y
namespace Go.Y
open Go.Wk Go.Xt
section
variable {fu:Nat} {α β:Type}
structure NZ (A:Option (Except TFault α)):Prop where
 out:∀ f,A=some (.error f)→f.Err≠0
theorem NZ.bind {A:Option (Except TFault α)} {f:α→Option (Except TFault β)} (h:NZ A) (k:∀ r,NZ (f r)):NZ (bT A f):=⟨fun q g=>by
 rcases bTe g with ⟨e,he,hq⟩ | ⟨x,hx,g⟩
 ·cases hq
  exact h.out _ he
 ·exact (k x).out q g⟩
theorem NZ.pure {x:α}:NZ (some (.ok x)):=⟨fun _ g=>by cases g⟩
theorem NZ.none:NZ (Option.none:Option (Except TFault α)):=⟨fun _ g=>by cases g⟩
theorem NZ.err {k a:Int} (h:k≠0):NZ (some (.error (TFault.mk k a)):Option (Except TFault α)):=⟨fun _ g=>by cases g; exact h⟩
theorem NZ.ob {o:Option β} {f:β→Option (Except TFault α)} (h:∀ y,NZ (f y)):NZ (o.bind f):=by
 cases o with
 | none=>exact NZ.none
 | some y=>exact h y
theorem NZ.at {l:Ts} {e d k:Int} (h:k≠0):NZ ((p_at l e d).bind fun r=>(some (.error (TFault.mk k r)):Option (Except TFault α))):=NZ.ob fun _=>NZ.err h
theorem NZ.ite {c:Prop} [Decidable c] {A B:Option (Except TFault α)} (h1:NZ A) (h2:NZ B):NZ (if c then A else B):=by
 by_cases h:c
 ·rw [if_pos h]; exact h1
 ·rw [if_neg h]; exact h2
theorem NZ.need {l:Ts} {e d:Int} {k:List (List UInt8)}:NZ (p_need l e d k):=by
 unfold p_need
 generalize k.length+1=n
 generalize (0:Int)=i
 induction n generalizing i l e d with
 | zero=>exact NZ.none
 | succ n ih =>
  unfold p_need_l1
  exact NZ.ite (NZ.ob fun _=>NZ.ob fun _=>NZ.ite (NZ.ob fun _=>ih _) (NZ.at (by decide))) NZ.pure
theorem NZ.name {l:Ts} {e d:Int}:NZ (p_name fu l e d):=by
 have j:∀ b,NZ (p_name_j1 fu l e d b):=fun b=>by
  unfold p_name_j1
  exact NZ.ite (NZ.at (by decide)) (NZ.ob fun _=>NZ.ob fun _=>NZ.ite (NZ.ob fun _=>NZ.pure) (NZ.at (by decide)))
 unfold p_name
 exact NZ.ite (j _) (NZ.ob fun _=>j _)
theorem NZ.number {l:Ts} {e d:Int}:NZ (p_number l e d):=by
 have j:∀ b,NZ (p_number_j1 l e d b):=fun b=>by
  unfold p_number_j1
  exact NZ.ite (NZ.at (by decide)) (NZ.ob fun _=>NZ.ob fun _=>NZ.pure)
 unfold p_number
 exact NZ.ite (j _) (NZ.ob fun _=>j _)
theorem NZ.typ {l:Ts} {e d:Int}:NZ (p_typ fu l e d):=by
 unfold p_typ
 exact NZ.ob fun _=>NZ.ite NZ.pure (NZ.ob fun _=>NZ.ite NZ.pure (NZ.bind NZ.name fun _=>NZ.pure))
theorem NZ.params {l:Ts} {e d:Int}:NZ (p_params fu l e d):=by
 unfold p_params
 refine NZ.bind NZ.need fun r=>?_
 have key:∀ n l e d acc,NZ (p_params_l1 fu n l e d acc):=by
  intro n
  induction n with
  | zero=>intros; exact NZ.none
  | succ n ih =>
   intro l e d acc
   unfold p_params_l1
   have j:∀ l e d,NZ (p_params_j1 fu acc (p_params_l1 fu n) l e d):=fun l e d=>by
    unfold p_params_j1
    exact NZ.ite (NZ.at (by decide)) (NZ.bind NZ.name fun _=>NZ.bind NZ.typ fun _=>NZ.ob fun _=>ih _ _ _ _)
   exact NZ.ob fun _=>NZ.ite NZ.pure (NZ.ite (NZ.bind NZ.need fun _=>j _ _ _) (j _ _ _))
 exact key _ _ _ _ _
theorem NZ.into {l:Ts} {e d:Int}:NZ (p_into l e d):=by
 unfold p_into
 exact NZ.ob fun _=>NZ.ite (NZ.at (by decide)) NZ.pure
structure NE (P:ParE):Prop where
 expr:∀ l e d,NZ (P.p_expr l e d)
 level:∀ l e d n,NZ (P.p_level l e d n)
 unary:∀ l e d,NZ (P.p_unary l e d)
 primary:∀ l e d,NZ (P.p_primary l e d)
 args:∀ l e d,NZ (P.p_args l e d)
 fixed:∀ l e d k n,NZ (P.p_fixed l e d k n)
theorem ne_run:∀ n,NE (ParE_run n):=by
 intro n
 induction n with
 | zero=>exact ⟨fun _ _ _=>NZ.none,fun _ _ _ _=>NZ.none,fun _ _ _=>NZ.none,fun _ _ _=>NZ.none,fun _ _ _=>NZ.none,fun _ _ _ _ _=>NZ.none⟩
 | succ n I =>
  refine ⟨fun l e d=>?_,fun l e d k=>?_,fun l e d=>?_,fun l e d=>?_,fun l e d=>?_,fun l e d k c=>?_⟩
  ·show NZ (p_expr (ParE_run n) l e d)
   unfold p_expr
   exact NZ.bind NZ.into fun _=>NZ.bind (I.level _ _ _ _) fun _=>NZ.ob fun _=>NZ.pure
  ·show NZ (p_level n (ParE_run n) l e d k)
   unfold p_level
   refine NZ.ob fun lv=>NZ.ite (NZ.bind (I.unary _ _ _) fun _=>NZ.pure) (NZ.ob fun _=>NZ.bind (I.level _ _ _ _) fun r=>?_)
   have key:∀ q l e d a b c ks,NZ (p_level_l1 (ParE_run n) k lv q l e d a b c ks):=by
    intro q
    induction q with
    | zero=>intros; exact NZ.none
    | succ q ih =>
     intro l e d a b c ks
     unfold p_level_l1 p_level_j1
     exact NZ.ite (NZ.ob fun _=>NZ.ob fun _=>NZ.ite NZ.pure (NZ.ob fun _=>NZ.ob fun _=>NZ.bind (I.level _ _ _ _) fun _=>by
      unfold p_level_j2 p_level_j1
      exact NZ.ob fun _=>NZ.ite NZ.pure (ih ..))) NZ.pure
   exact key _ _ _ _ _ _ _ _
  ·show NZ (p_unary (ParE_run n) l e d)
   unfold p_unary
   have u:∀ l e d (k:Int),NZ (bT (p_into l e d) fun r38=>bT ((ParE_run n).p_unary r38.1 r38.2.1 r38.2.2) fun r45=>(p_out r45.2.1 r45.2.2.1 r45.2.2.2).bind fun r56=>some (.ok ((TExpr.mk k 0 [] [r45.1]),r56.1,r56.2.1,r56.2.2))):=fun l e d k=>NZ.bind NZ.into fun _=>NZ.bind (I.unary _ _ _) fun _=>NZ.ob fun _=>NZ.pure
   exact NZ.ob fun _=>NZ.ite (u _ _ _ _) (NZ.ob fun _=>NZ.ite (u _ _ _ _) (NZ.bind (I.primary _ _ _) fun _=>NZ.pure))
  ·show NZ (p_primary n (ParE_run n) l e d)
   have j:∀ b,NZ (p_primary_j1 n (ParE_run n) l e d b):=fun b=>by
    unfold p_primary_j1
    refine NZ.ite (NZ.bind NZ.number fun _=>NZ.pure) (NZ.ob fun _=>NZ.ite NZ.pure (NZ.ob fun _=>NZ.ite NZ.pure (NZ.ob fun _=>NZ.ite ?_ (NZ.ob fun _=>NZ.ite ?_ (NZ.ob fun _=>NZ.ite ?_ (NZ.ob fun _=>NZ.ite ?_ (NZ.ob fun _=>NZ.ite ?_ (NZ.ob fun _=>NZ.ite ?_ ?_))))))))
    ·exact NZ.bind (I.expr _ _ _) fun _=>NZ.bind NZ.need fun _=>NZ.pure
    ·exact NZ.bind NZ.need fun _=>NZ.bind NZ.name fun _=>NZ.bind NZ.need fun _=>NZ.pure
    ·exact NZ.bind (I.fixed _ _ _ _ _) fun _=>NZ.pure
    ·exact NZ.bind (I.fixed _ _ _ _ _) fun _=>NZ.pure
    ·exact NZ.bind (I.fixed _ _ _ _ _) fun _=>NZ.pure
    ·exact NZ.bind NZ.name fun _=>NZ.bind (I.args _ _ _) fun _=>NZ.pure
    ·exact NZ.bind NZ.name fun _=>NZ.ob fun _=>NZ.ite (NZ.bind (I.args _ _ _) fun _=>NZ.pure) NZ.pure
   unfold p_primary
   exact NZ.ite (NZ.ob fun _=>j _) (j _)
  ·show NZ (p_args n (ParE_run n) l e d)
   unfold p_args
   refine NZ.bind NZ.need fun r=>?_
   have key:∀ q l e d acc,NZ (p_args_l1 (ParE_run n) q l e d acc):=by
    intro q
    induction q with
    | zero=>intros; exact NZ.none
    | succ q ih =>
     intro l e d acc
     unfold p_args_l1
     have j:∀ l e d,NZ (p_args_j1 (ParE_run n) acc (p_args_l1 (ParE_run n) q) l e d):=fun l e d=>by
      unfold p_args_j1
      exact NZ.ite (NZ.at (by decide)) (NZ.bind (I.expr _ _ _) fun _=>NZ.ob fun _=>ih _ _ _ _)
     exact NZ.ob fun _=>NZ.ite NZ.pure (NZ.ite (NZ.bind NZ.need fun _=>j _ _ _) (j _ _ _))
   exact key _ _ _ _ _
  ·show NZ (p_fixed (ParE_run n) l e d k c)
   unfold p_fixed
   refine NZ.bind NZ.need fun r=>?_
   have key:∀ q i l e d acc,NZ (p_fixed_l1 (ParE_run n) k c q i l e d acc):=by
    intro q
    induction q with
    | zero=>intros; exact NZ.none
    | succ q ih =>
     intro i l e d acc
     unfold p_fixed_l1
     have j:∀ l e d,NZ (p_fixed_j1 (ParE_run n) i acc (p_fixed_l1 (ParE_run n) k c q) l e d):=fun l e d=>by
      unfold p_fixed_j1 p_fixed_j2
      exact NZ.bind (I.expr _ _ _) fun _=>NZ.ob fun _=>NZ.ob fun _=>ih _ _ _ _ _
     exact NZ.ite (NZ.ite (NZ.bind NZ.need fun _=>j _ _ _) (j _ _ _)) (NZ.bind NZ.need fun _=>NZ.pure)
   exact key _ _ _ _ _ _
structure NS (P:ParS):Prop where
 body:∀ l e d,NZ (P.p_body l e d)
 stat:∀ l e d,NZ (P.p_stat l e d)
theorem ns_run:∀ n,NS (ParS_run n):=by
 intro n
 induction n with
 | zero=>exact ⟨fun _ _ _=>NZ.none,fun _ _ _=>NZ.none⟩
 | succ n I =>
  refine ⟨fun l e d=>?_,fun l e d=>?_⟩
  ·show NZ (p_body n (ParS_run n) l e d)
   unfold p_body
   refine NZ.bind NZ.into fun _=>NZ.bind NZ.need fun r=>?_
   have key:∀ q l e d acc,NZ (p_body_l1 (ParS_run n) q l e d acc):=by
    intro q
    induction q with
    | zero=>intros; exact NZ.none
    | succ q ih =>
     intro l e d acc
     unfold p_body_l1
     exact NZ.ob fun _=>NZ.ite (NZ.ob fun _=>NZ.pure) (NZ.ite (NZ.at (by decide)) (NZ.bind (I.stat _ _ _) fun _=>NZ.ob fun _=>ih _ _ _ _))
   exact key _ _ _ _ _
  ·show NZ (p_stat n (ParS_run n) l e d)
   have E:=ne_run n
   have j:∀ l e d a s b c t ks,NZ (p_stat_j1 l e d a s b c t ks):=fun l e d a s b c t ks=>by
    unfold p_stat_j1
    exact NZ.bind NZ.need fun _=>NZ.pure
   unfold p_stat
   refine NZ.ob fun _=>NZ.ite ?_ (NZ.ob fun _=>NZ.ite ?_ (NZ.ob fun _=>NZ.ite ?_ (NZ.ob fun _=>NZ.ite ?_ (NZ.ob fun _=>NZ.ite ?_ (NZ.ob fun _=>NZ.ite ?_ (NZ.ob fun _=>NZ.ite ?_ (NZ.ob fun _=>NZ.ite ?_ ?_)))))))
   ·exact NZ.bind (E.expr _ _ _) fun _=>NZ.bind (I.body _ _ _) fun _=>NZ.ob fun _=>NZ.ite (NZ.bind (I.body _ _ _) fun _=>NZ.pure) NZ.pure
   ·exact NZ.bind (E.expr _ _ _) fun _=>NZ.bind (I.body _ _ _) fun _=>NZ.pure
   ·exact NZ.bind NZ.name fun _=>NZ.bind NZ.need fun _=>NZ.bind (E.expr _ _ _) fun _=>j _ _ _ _ _ _ _ _ _
   ·exact NZ.bind (E.expr _ _ _) fun _=>j _ _ _ _ _ _ _ _ _
   ·exact j _ _ _ _ _ _ _ _ _
   ·exact NZ.bind NZ.name fun _=>NZ.bind (E.expr _ _ _) fun _=>j _ _ _ _ _ _ _ _ _
   ·exact NZ.bind (E.expr _ _ _) fun _=>j _ _ _ _ _ _ _ _ _
   ·exact NZ.bind (E.expr _ _ _) fun _=>j _ _ _ _ _ _ _ _ _
   ·exact NZ.bind NZ.name fun _=>NZ.bind NZ.need fun _=>NZ.bind (E.expr _ _ _) fun _=>j _ _ _ _ _ _ _ _ _
theorem NZ.def {l:Ts} {e d:Int}:NZ (p_def fu l e d):=by
 have S:=ns_run fu
 have j:∀ a b c q x,NZ (p_def_j1 a b c q x):=fun a b c q x=>by
  unfold p_def_j1
  exact NZ.ite (NZ.err (by decide)) (NZ.bind NZ.need fun _=>NZ.pure)
 unfold p_def
 refine NZ.ob fun _=>NZ.ob fun _=>NZ.ite ?_ (NZ.ob fun _=>NZ.ite ?_ (NZ.ob fun _=>NZ.ite ?_ (NZ.ob fun _=>NZ.ite ?_ (NZ.err (by decide)))))
 ·exact NZ.bind NZ.name fun _=>NZ.bind NZ.typ fun _=>NZ.ob fun _=>NZ.bind NZ.number fun _=>NZ.ite (j _ _ _ _ _) (j _ _ _ _ _)
 ·exact NZ.bind NZ.name fun _=>NZ.bind NZ.params fun _=>NZ.bind NZ.typ fun _=>NZ.bind (S.body _ _ _) fun _=>NZ.pure
 ·exact NZ.bind NZ.name fun _=>NZ.bind NZ.params fun _=>NZ.bind NZ.need fun _=>NZ.bind NZ.typ fun _=>NZ.bind NZ.need fun _=>NZ.bind NZ.typ fun _=>NZ.bind (S.body _ _ _) fun _=>NZ.pure
 ·exact NZ.bind NZ.name fun _=>NZ.bind (S.body _ _ _) fun _=>NZ.pure
end
end Go.Y
namespace Go.Y
open Go.Wk Go.Xt
theorem app_eq {α:Type} {l xs r:List α} (h:app l xs=some r):r=l++xs:=by
 unfold app at h
 split at h
 ·exact (Option.some.inj h).symm
 ·cases h
theorem app_one {α:Type} {l:List α} {x:α} (h:l.length≤100000):app l [x]=some (l++[x]):=by
 unfold app
 rw [if_pos (by simp; omega)]
inductive RD (fu:Nat) (e:Int):Ts→List TDef→Prop where
 | nil:RD fu e [] []
 | cons {l l1:Ts} {x:TDef} {ds:List TDef} (hl:l≠[]) (h:p_def fu l e 0=some (.ok (x,l1,e,0))) (k:RD fu e l1 ds):RD fu e l (x::ds)
theorem read_inv {fu:Nat} {r8:Ts×TFault} {e:Int}:∀ (n:Nat) (l:Ts) (acc a:List TDef) (g:TFault),syn_read_l1 fu r8 n l e 0 acc=some (a,g)→g.Err=0→acc.length≤30 →
  ∃ ds,RD fu e l ds∧a=acc++ds∧a.length≤30∧∃ r,syn_wrong fu a=some r∧r.Err=0:=by
 intro n
 induction n with
 | zero=>intro l acc a g h; cases h
 | succ n ih =>
  intro l acc a g h hg hl
  unfold syn_read_l1 at h
  cases l with
  | nil =>
   rw [if_neg (by simp)] at h
   obtain ⟨r,hr,h⟩:=Option.bind_eq_some_iff.1 h
   by_cases h0:r.Err≠0
   ·rw [if_pos h0] at h
    unfold syn_read_j3 p_done at h
    simp only [Option.bind_some,Option.some.injEq,Prod.mk.injEq] at h
    obtain ⟨-,rfl⟩:=h
    exact absurd hg h0
   ·rw [if_neg h0] at h
    unfold syn_read_j4 p_done at h
    simp only [Option.bind_some,Option.some.injEq,Prod.mk.injEq] at h
    obtain ⟨rfl,-⟩:=h
    exact ⟨[],.nil,by simp,hl,r,hr,Decidable.not_not.1 h0⟩
  | cons t l =>
   rw [if_pos (by simp)] at h
   by_cases h30:(acc.length:Int)=30
   ·rw [if_pos h30,p_at_t,Option.bind_some] at h
    simp only [Option.some.injEq,Prod.mk.injEq] at h
    obtain ⟨-,rfl⟩:=h
    exact absurd hg (by simp)
   ·rw [if_neg h30] at h
    rcases bCe h with ⟨q,hq,hr⟩ | ⟨⟨x,l1,e1,d1⟩,hx,h⟩
    ·simp only [Prod.mk.injEq] at hr
     obtain ⟨-,rfl⟩:=hr
     exact absurd hg (NZ.def.out _ hq)
    ·obtain ⟨⟨he,hd⟩,-,-⟩:=LLs.def (m:=[]) (e2:=e) (l3:=t::l) (by simp [Sm]) x l1 e1 d1 hx
     subst he
     subst hd
     obtain ⟨acc',ha,h⟩:=Option.bind_eq_some_iff.1 h
     obtain rfl:=app_eq ha
     unfold syn_read_j2 at h
     obtain ⟨ds,hd,rfl,h3,h4⟩:=ih l1 _ a g h hg (by simp; omega)
     exact ⟨x::ds,.cons (by simp) hx hd,by simp,h3,h4⟩
theorem read_fwd {fu:Nat} {r8:Ts×TFault} {m:Ts} {e e2:Int} {l:Ts} {ds:List TDef} (h:RD fu e l ds):∀ (n:Nat) (acc:List TDef) (l3:Ts),Sm l3 (l++m)→ds.length<n→acc.length≤30 →
  (∃ q,syn_read_l1 fu r8 n l3 e2 0 acc=some ([],TFault.mk 5 q))∨∃ l4,Sm l4 m∧acc.length+ds.length≤30∧syn_read_l1 fu r8 n l3 e2 0 acc=syn_read_l1 fu r8 (n - ds.length) l4 e2 0 (acc++ds):=by
 induction h with
 | nil =>
  intro n acc l3 hs hn ha
  exact .inr ⟨l3,hs,by simpa using ha,by simp⟩
 | @cons l l1 x ds hl hx k ih =>
  intro n acc l3 hs hn ha
  obtain ⟨n,rfl⟩:∃ k,n=k+1:=⟨n - 1,by omega⟩
  obtain ⟨t,l,rfl⟩:=List.exists_cons_of_ne_nil hl
  obtain ⟨t',l',rfl,hk,hs'⟩:=hs.cons
  obtain ⟨-,-,l4,hB,hs4⟩:=LLs.def (e2:=e2) hs x l1 e 0 hx
  by_cases h30:(acc.length:Int)=30
  ·left
   unfold syn_read_l1
   rw [if_pos (by simp),if_pos h30,p_at_t,Option.bind_some]
   exact ⟨_,rfl⟩
  ·have e1:syn_read_l1 fu r8 (n+1) (t'::l') e2 0 acc=syn_read_l1 fu r8 n l4 e2 0 (acc++[x]):=by
    conv=>lhs; unfold syn_read_l1
    rw [if_pos (by simp),if_neg h30,hB,bC_ok,app_one (by omega),Option.bind_some]
    rfl
   rcases ih n (acc++[x]) l4 hs4 (by simp at hn; omega) (by simp; omega) with ⟨q,hq⟩ | ⟨l5,h5,h6,h7⟩
   ·exact .inl ⟨q,e1.trans hq⟩
   ·refine .inr ⟨l5,h5,by simp at h6 ⊢; omega,?_⟩
    rw [e1,h7]
    simp [Nat.add_sub_add_right]
inductive WD (fu:Nat):List TDef→Int→Int→Prop where
 | nil {c:Int}:WD fu [] c c
 | cons {x:TDef} {ds:List TDef} {c c1 k:Int} (h:syn_def fu c x=some (0,c1)) (r:WD fu ds c1 k):WD fu (x::ds) c k
inductive WF (fu:Nat):List TDef→Int→Prop where
 | here {x:TDef} {ds:List TDef} {c k:Int} (h:syn_def fu c x=some (4,k)):WF fu (x::ds) c
 | there {x:TDef} {ds:List TDef} {c c1:Int} (h:syn_def fu c x=some (0,c1)) (r:WF fu ds c1):WF fu (x::ds) c
theorem WD.app {fu:Nat} {a b:List TDef} {c k k2:Int} (h:WD fu a c k) (h2:WD fu b k k2):WD fu (a++b) c k2:=by
 induction h with
 | nil=>exact h2
 | cons h r ih=>exact .cons h (ih h2)
theorem WF.app {fu:Nat} {a b:List TDef} {c k:Int} (h:WD fu a c k) (h2:WF fu b k):WF fu (a++b) c:=by
 induction h with
 | nil=>exact h2
 | cons h r ih=>exact .there h (ih h2)
theorem WD.shift {fu:Nat} {s:Int} (h0:0≤s) (h1:s≤2000) {b:List TDef} {c k:Int} (h:WD fu b c k):WD fu b (c+s) (k+s)∨WF fu b (c+s):=by
 induction h with
 | nil=>exact .inl .nil
 | cons h r ih =>
  rcases (UU.def h0 h1 fu _ _).out _ h with g | ⟨q,g⟩
  ·rcases ih with i | i
   ·exact .inl (.cons g i)
   ·exact .inr (.there g i)
  ·exact .inr (.here g)
theorem WD.bound {fu:Nat} (hf:200≤fu) {b:List TDef} {c k:Int} (h:WD fu b c k) (h0:0≤c) (h1:c≤2000):0≤k∧k≤2000:=by
 induction h with
 | nil=>exact ⟨h0,h1⟩
 | @cons x ds c c1 k h r ih =>
  obtain ⟨e,q,he,h2,h3⟩:=syn_def_t fu hf x c h0 h1
  rw [h] at he
  simp only [Option.some.injEq,Prod.mk.injEq] at he
  obtain ⟨rfl,rfl⟩:=he
  exact ih (by omega) (h3 rfl).1
theorem wrong_inv {fu:Nat} {l:List TDef} {r:TFault} (hr:r.Err=0):∀ (n i:Nat) (c:Int),i≤l.length→syn_wrong_l1 fu l n (i:Int) c=some r→∃ k,WD fu (l.drop i) c k:=by
 intro n
 induction n with
 | zero=>intro i c _ h; cases h
 | succ n ih =>
  intro i c hi h
  unfold syn_wrong_l1 at h
  by_cases g:i<l.length
  ·rw [if_pos (by omega)] at h
   obtain ⟨x,hx,h⟩:=Option.bind_eq_some_iff.1 h
   rw [at_nat,List.getElem?_eq_getElem g] at hx
   obtain rfl:=Option.some.inj hx
   obtain ⟨⟨e,c1⟩,hd,h⟩:=Option.bind_eq_some_iff.1 h
   by_cases he:e=0
   ·subst he
    rw [if_neg (by simp)] at h
    obtain ⟨j,hj,h⟩:=Option.bind_eq_some_iff.1 h
    obtain rfl:=i64_eq hj
    obtain ⟨k,hk⟩:=ih (i+1) c1 (by omega) (by rw [show ((i+1:Nat):Int)=(i:Int)+1 by omega]; exact h)
    exact ⟨k,by rw [List.drop_eq_getElem_cons g]; exact .cons hd hk⟩
   ·rw [if_pos he] at h
    obtain rfl:=Option.some.inj h
    exact absurd hr he
  ·rw [List.drop_of_length_le (by omega)]
   exact ⟨c,.nil⟩
theorem wrong_fwd {fu:Nat} {l:List TDef} (hl:l.length≤100):∀ (n i:Nat) (c k:Int),i≤l.length→l.length - i<n→WD fu (l.drop i) c k→syn_wrong_l1 fu l n (i:Int) c=some (TFault.mk 0 0):=by
 intro n
 induction n with
 | zero=>intro i c k _ h; omega
 | succ n ih =>
  intro i c k hi hn h
  unfold syn_wrong_l1
  by_cases g:i<l.length
  ·rw [List.drop_eq_getElem_cons g] at h
   cases h with
   | @cons _ _ _ c1 _ hd r =>
    rw [if_pos (by omega),at_nat,List.getElem?_eq_getElem g,Option.bind_some,hd,Option.bind_some,if_neg (by simp),show i64 ((i:Int)+1)=some ((i:Int)+1) by unfold i64; rw [if_pos (by omega)],Option.bind_some]
    have:=ih (i+1) c1 k (by omega) (by omega) r
    rw [show ((i+1:Nat):Int)=(i:Int)+1 by omega] at this
    exact this
  ·rw [if_neg (by omega)]
theorem wrong_fwdF {fu:Nat} {l:List TDef} (hl:l.length≤100):∀ (n i:Nat) (c:Int),i≤l.length→l.length - i<n→WF fu (l.drop i) c→∃ q,syn_wrong_l1 fu l n (i:Int) c=some (TFault.mk 4 q):=by
 intro n
 induction n with
 | zero=>intro i c _ h; omega
 | succ n ih =>
  intro i c hi hn h
  unfold syn_wrong_l1
  by_cases g:i<l.length
  ·rw [List.drop_eq_getElem_cons g] at h
   cases h with
   | here hd =>
    rw [if_pos (by omega),at_nat,List.getElem?_eq_getElem g,Option.bind_some,hd,Option.bind_some,if_pos (by simp)]
    exact ⟨_,rfl⟩
   | @there _ _ _ c1 hd r =>
    rw [if_pos (by omega),at_nat,List.getElem?_eq_getElem g,Option.bind_some,hd,Option.bind_some,if_neg (by simp),show i64 ((i:Int)+1)=some ((i:Int)+1) by unfold i64; rw [if_pos (by omega)],Option.bind_some]
    have:=ih (i+1) c1 (by omega) (by omega) r
    rw [show ((i+1:Nat):Int)=(i:Int)+1 by omega] at this
    exact this
  ·rw [List.drop_of_length_le (by omega)] at h
   cases h
theorem wrong_in {fu:Nat} {a:List TDef} {r:TFault} (h:syn_wrong fu a=some r) (hr:r.Err=0):∃ k,WD fu a 0 k:=by
 unfold syn_wrong at h
 by_cases g:(30:Int)<(a.length:Int)
 ·rw [if_pos g] at h
  obtain rfl:=Option.some.inj h
  exact absurd hr (by decide)
 ·rw [if_neg g] at h
  have:=wrong_inv hr _ 0 0 (by omega) h
  simpa using this
theorem wrong_app {fu:Nat} (hf:200≤fu) {a b:List TDef} {r1 r2:TFault} (h1:syn_wrong fu a=some r1) (e1:r1.Err=0) (h2:syn_wrong fu b=some r2) (e2:r2.Err=0) (hl:a.length+b.length≤30):∃ r,syn_wrong fu (a++b)=some r∧(r.Err=0∨r.Err=4):=by
 obtain ⟨k,ha⟩:=wrong_in h1 e1
 obtain ⟨k2,hb⟩:=wrong_in h2 e2
 obtain ⟨b0,b1⟩:=ha.bound hf (by omega) (by omega)
 have hl':(a++b).length≤30:=by simpa using hl
 unfold syn_wrong
 rw [if_neg (by omega)]
 rcases hb.shift b0 b1 with h | h
 ·rw [Int.zero_add] at h
  have:=wrong_fwd (l:=a++b) (by omega) ((a++b).length+1) 0 0 _ (by omega) (by omega) (ha.app h)
  exact ⟨_,this,.inl rfl⟩
 ·rw [Int.zero_add] at h
  obtain ⟨q,hq⟩:=wrong_fwdF (l:=a++b) (by omega) ((a++b).length+1) 0 0 (by omega) (by omega) (WF.app ha h)
  exact ⟨_,hq,.inr rfl⟩
theorem toks_err {n p:Nat} {l:List UInt8} {e:Nat×Nat} (h:Lx.toks n p l=.error e):e.1≠0:=by
 induction n generalizing p l with
 | zero=>cases h
 | succ n ih =>
  unfold Lx.toks at h
  split at h
  ·cases h
  ·rename_i hl
   cases ht:Lx.tok1 p l with
   | error q =>
    rw [ht] at h
    simp only at h
    cases h
    show q≠0
    obtain ⟨c,l,rfl⟩:=List.exists_cons_of_ne_nil hl
    unfold Lx.tok1 at ht
    simp only at ht
    split at ht
    ·cases ht
    ·split at ht
     ·split at ht
      ·cases ht; decide
      ·cases ht
     ·split at ht
      ·cases ht; decide
      ·cases ht
   | ok t =>
    rw [ht] at h
    simp only at h
    revert h
    generalize hq:Lx.toks n _ _=q
    intro h
    cases q with
    | ok ts=>cases h
    | error q =>
     cases h
     exact ih hq
theorem tokens_err {s:List UInt8} {e:Nat×Nat} (h:Lx.tokens s=.error e):e.1≠0:=by
 unfold Lx.tokens at h
 split at h
 ·cases h; decide
 ·exact toks_err h
theorem read_in {fu:Nat} (hf:7000≤fu) {s:List UInt8} {a:List TDef} {f:TFault} (h:syn_read fu s=some (a,f)) (h0:f.Err=0) :
  Lx.tkE s=0∧RD fu s.length ((Lx.tks s).map TT) a∧a.length≤30∧∃ r,syn_wrong fu a=some r∧r.Err=0:=by
 unfold syn_read at h
 rw [lex_tokens_e hf,Option.bind_some] at h
 cases ht:Lx.tokens s with
 | error e =>
  rw [ht] at h
  have he:=tokens_err ht
  rw [if_pos (by show ((e.1:Nat):Int)≠0; omega)] at h
  unfold syn_read_j1 at h
  cases h
  exact absurd h0 (by show ((e.1:Nat):Int)≠0; omega)
 | ok ts =>
  rw [ht] at h
  rw [if_neg (by simp [endT])] at h
  obtain ⟨ds,h1,h2,h3,h4⟩:=read_inv _ _ _ _ _ h h0 (by simp)
  rw [List.nil_append] at h2
  subst h2
  refine ⟨by simp [Lx.tkE,ht],?_,h3,h4⟩
  simpa [Lx.tks,ht,endT] using h1
theorem joined_law {fu:Nat} (hf:7000≤fu) {s t:List UInt8} {a b:List TDef} {f g:TFault} (h1:syn_read fu s=some (a,f)) (h2:syn_read fu t=some (b,g)) (hf0:f.Err=0) (hg0:g.Err=0) :
  ∃ c h,syn_read fu (s++10::t)=some (c,h)∧((h.Err=0∧c=a++b)∨h.Err=4∨h.Err=5):=by
 obtain ⟨s1,s2,s3,r1,s4,s5⟩:=read_in hf h1 hf0
 obtain ⟨t1,t2,t3,r2,t4,t5⟩:=read_in hf h2 hg0
 unfold syn_read
 rw [lex_tokens_e hf,Option.bind_some]
 by_cases hl:s.length+t.length+1≤6000
 ·rw [Lx.tokens_join s1 t1 hl]
  rw [if_neg (by simp [endT])]
  have hs:Sm ((Lx.tks s++(Lx.tks t).map (Lx.Tok.on (s.length+1))).map TT) ((Lx.tks s).map TT++(Lx.tks t).map TT):=by
   unfold Sm
   simp only [List.map_append,List.map_map]
   congr 1
  show ∃ c h,syn_read_l1 fu _ fu ([]++_) _ 0 []=some (c,h)∧_
  rw [List.nil_append]
  rcases read_fwd (r8:=([]++(Lx.tks s++(Lx.tks t).map (Lx.Tok.on (s.length+1))).map TT,TFault.mk 0 0)) (e2:=((s++10::t).length:Int)) s2 fu [] _ hs (by omega) (by simp) with ⟨q,hq⟩ | ⟨l4,hs4,h4,e4⟩
  ·exact ⟨_,_,hq,.inr (.inr rfl)⟩
  ·rcases read_fwd (r8:=([]++(Lx.tks s++(Lx.tks t).map (Lx.Tok.on (s.length+1))).map TT,TFault.mk 0 0)) (e2:=((s++10::t).length:Int)) (m:=[]) t2 (fu - a.length) a l4 (by simpa [Sm] using hs4) (by omega) s3 with ⟨q,hq⟩ | ⟨l5,hs5,h5,e5⟩
   ·rw [List.nil_append] at e4
    exact ⟨_,_,e4.trans hq,.inr (.inr rfl)⟩
   ·rw [List.nil_append] at e4
    have hn:l5=[]:=by
     have:=congrArg List.length hs5
     simpa using this
    subst hn
    obtain ⟨r,hr,hr0⟩:=wrong_app (by omega) s4 s5 t4 t5 h5
    obtain ⟨k,hk⟩:∃ k,fu - a.length - b.length=k+1:=⟨fu - a.length - b.length - 1,by omega⟩
    rw [hk] at e5
    have e6:=e4.trans e5
    have e7:∀ (r8:Ts×TFault) (e2:Int),syn_read_l1 fu r8 (k+1) [] e2 0 (a++b)=(syn_wrong fu (a++b)).bind fun r118=>if r118.Err≠0 then syn_read_j3 r118 else syn_read_j4 r8 (a++b):=fun r8 e2=>by
     conv=>lhs; unfold syn_read_l1
     rw [if_neg (by simp)]
    rw [e7,hr,Option.bind_some] at e6
    by_cases h0:r.Err=0
    ·rw [if_neg (by simp [h0])] at e6
     exact ⟨_,_,e6,.inl ⟨rfl,rfl⟩⟩
    ·rw [if_pos h0] at e6
     refine ⟨_,_,e6,.inr (.inl ?_)⟩
     rcases hr0 with hr0 | hr0
     ·exact absurd hr0 h0
     ·exact hr0
 ·rw [show Lx.tokens (s++10::t)=.error (4,0) by unfold Lx.tokens; rw [if_pos (by simp; omega)]]
  rw [if_pos (by decide)]
  exact ⟨_,_,rfl,.inr (.inl rfl)⟩
end Go.Y
namespace Go.Y
open Go.Wk Go.Xt
section
variable {fu:Nat} {e d d2:Int} {α β:Type}
structure TO (e d:Int) (N:Nat) (A:St α):Prop where
 out:∃ r,A=some r∧∀ x l e1 d1,r=.ok (x,l,e1,d1)→e1=e∧d1=d∧l.length≤N
structure TO0 (e d:Int) (N:Nat) (A:St0):Prop where
 out:∃ r,A=some r∧∀ l e1 d1,r=.ok (l,e1,d1)→e1=e∧d1=d∧l.length≤N
theorem TO.mono {N N':Nat} {A:St α} (h:TO e d N A) (hN:N≤N'):TO e d N' A:=⟨by
 obtain ⟨r,h,k⟩:=h.out
 exact ⟨r,h,fun x l e1 d1 g=>by obtain ⟨a,b,c⟩:=k x l e1 d1 g; exact ⟨a,b,by omega⟩⟩⟩
theorem TO.pure {x:α} {l:Ts}:TO e d l.length (some (.ok (x,l,e,d))):=⟨_,rfl,fun y l1 e1 d1 g=>by
 cases Except.ok.inj g; exact ⟨rfl,rfl,Nat.le_refl _⟩⟩
theorem TO.err {N:Nat} {q:TFault}:TO e d N (some (.error q):St α):=⟨_,rfl,fun _ _ _ _ g=>by cases g⟩
theorem TO.bind {N:Nat} {A:St α} {f:α×Ts×Int×Int→St β} (h:TO e d N A) (k:∀ x l,l.length≤N→TO e d2 l.length (f (x,l,e,d))):TO e d2 N (bT A f):=by
 obtain ⟨r,rfl,hk⟩:=h.out
 cases r with
 | error q=>exact TO.err
 | ok r =>
  obtain ⟨x,l,e1,d1⟩:=r
  obtain ⟨rfl,rfl,hl⟩:=hk _ _ _ _ rfl
  exact (k x l hl).mono hl
theorem TO.bind0 {N:Nat} {A:St0} {f:Ts×Int×Int→St β} (h:TO0 e d N A) (k:∀ l,l.length≤N→TO e d2 l.length (f (l,e,d))):TO e d2 N (bT A f):=by
 obtain ⟨r,rfl,hk⟩:=h.out
 cases r with
 | error q=>exact TO.err
 | ok r =>
  obtain ⟨l,e1,d1⟩:=r
  obtain ⟨rfl,rfl,hl⟩:=hk _ _ _ rfl
  exact (k l hl).mono hl
theorem TO.ob {N:Nat} {y:β} {o:Option β} {f:β→St α} (ho:o=some y) (h:TO e d N (f y)):TO e d N (o.bind f):=by rw [ho]; exact h
theorem TO.ite {N:Nat} {c:Prop} [Decidable c] {A B:St α} (h1:c→TO e d N A) (h2:¬ c→TO e d N B):TO e d N (if c then A else B):=by
 by_cases h:c
 ·rw [if_pos h]; exact h1 h
 ·rw [if_neg h]; exact h2 h
theorem TO.f {N:Nat} {A B:St α} (h:TO e d N B):TO e d N (if false=true then A else B):=h
theorem TO.at {N:Nat} {l:Ts} {d1 k:Int}:TO e d N ((p_at l e d1).bind fun r=>(some (.error (TFault.mk k r)):St α)):=by
 rw [p_at_t]; exact TO.err
theorem TO.is {l:Ts} {k:List UInt8} {f:Bool×Ts×Int×Int→St α} (ht:∀ l1,l1.length+1=l.length→TO e d2 l1.length (f (true,l1,e,d))) (hf:TO e d2 l.length (f (false,l,e,d))):TO e d2 l.length ((p_is l e d k).bind f):=by
 rw [p_is_t,Option.bind_some]
 by_cases h:hd l k=true
 ·rw [if_pos h]
  exact (ht l.tail (hd_len h)).mono (by have:=hd_len h; omega)
 ·rw [if_neg h]; exact hf
theorem TO0.need {l:Ts} {k:List UInt8}:TO0 e d l.length (p_need l e d [k]):=by
 rw [p_need_t]
 by_cases h:hd l k=true
 ·rw [if_pos h]
  refine ⟨_,rfl,fun l1 e1 d1 g=>?_⟩
  cases Except.ok.inj g
  exact ⟨rfl,rfl,by have:=hd_len h; omega⟩
 ·rw [if_neg h]
  exact ⟨_,rfl,fun l1 e1 d1 g=>by cases g⟩
theorem TO.name (hf:20≤fu) {l:Ts}:TO e d l.length (p_name fu l e d):=by
 rw [p_name_n]
 cases l with
 | nil=>exact TO.err
 | cons t l =>
  refine TO.ite (fun _=>?_) fun _=>TO.err
  obtain ⟨b,hb⟩:=lex_named_t fu hf t.Text
  exact TO.ob hb (TO.ite (fun _=>TO.pure.mono (by simp)) fun _=>TO.err)
theorem TO.number {l:Ts}:TO e d l.length (p_number l e d):=by
 rw [p_number_t]
 cases l with
 | nil=>exact TO.err
 | cons t l =>
  by_cases g:t.Kind=2
  ·simp only [g,if_true]; exact TO.pure.mono (by simp)
  ·simp only [g,if_false]; exact TO.err
theorem TO.typ (hf:20≤fu) {l:Ts}:TO e d l.length (p_typ fu l e d):=by
 unfold p_typ
 exact TO.is (fun l1 _=>TO.pure) (TO.is (fun l1 _=>TO.pure) (TO.bind (TO.name hf) fun x l _=>TO.pure))
theorem TO.into {l:Ts} {f:Ts×Int×Int→St α} (h0:0≤d) (h1:d≤200) (k:d+1≤200→TO e d2 l.length (f (l,e,d+1))):TO e d2 l.length (bT (p_into l e d) f):=by
 rw [p_into_t h0 (by omega)]
 by_cases h:200<d+1
 ·rw [if_pos h]; exact TO.err
 ·rw [if_neg h]; exact k (by omega)
theorem TO.out' {N:Nat} {l:Ts} {f:Ts×Int×Int→St α} (h0:0≤d) (h1:d≤200) (k:TO e d2 N (f (l,e,d))):TO e d2 N ((p_out l e (d+1)).bind f):=by
 rw [p_out_t (by omega) (by omega),Option.bind_some,Int.add_sub_cancel]; exact k
theorem TO.params (hf:20≤fu) {l:Ts}:TO e d l.length (p_params fu l e d):=by
 unfold p_params
 refine TO.bind0 TO0.need fun l _=>?_
 have key:∀ (n:Nat) (l:Ts) (acc:List TParam),acc.length≤6→6 - acc.length<n→TO e d l.length (p_params_l1 fu n l e d acc):=by
  intro n
  induction n with
  | zero=>intro l acc _ h; omega
  | succ n ih =>
   intro l acc ha hn
   unfold p_params_l1
   have j:∀ l:Ts,TO e d l.length (p_params_j1 fu acc (p_params_l1 fu n) l e d):=fun l=>by
    unfold p_params_j1
    refine TO.ite (fun _=>TO.at) fun h6=>TO.bind (TO.name hf) fun x l _=>TO.bind (TO.typ hf) fun y l _=>?_
    exact TO.ob (app_one (by omega)) (ih l _ (by simp; omega) (by simp; omega))
   exact TO.is (fun l1 _=>TO.pure) (TO.f (TO.ite (fun _=>TO.bind0 TO0.need fun l _=>j l) fun _=>j l))
 exact key fu l [] (by simp) (by simp; omega)
structure TE (e:Int) (n:Nat) (P:ParE):Prop where
 expr:∀ l d,0≤d→d≤200→(202 - d)*12+(l.length:Int)+70≤n→TO e d l.length (P.p_expr l e d)
 level:∀ l d (k:Nat),0≤d→d≤200→k≤5→(202 - d)*12+11 - k+(l.length:Int)+70≤n→TO e d l.length (P.p_level l e d k)
 unary:∀ l d,0≤d→d≤200→(202 - d)*12+5+(l.length:Int)+70≤n→TO e d l.length (P.p_unary l e d)
 primary:∀ l d,0≤d→d≤200→(202 - d)*12+4+(l.length:Int)+70≤n→TO e d l.length (P.p_primary l e d)
 args:∀ l d,0≤d→d≤200→(202 - d)*12+3+(l.length:Int)+70≤n→TO e d l.length (P.p_args l e d)
 fixed:∀ l d k (c:Nat),0≤d→d≤200→c≤2→(202 - d)*12+2+(l.length:Int)+70≤n→TO e d l.length (P.p_fixed l e d k c)
theorem i64_s {i:Int} (h0:-1000000≤i) (h1:i≤1000000):i64 i=some i:=by unfold i64; rw [if_pos (by omega)]
theorem te_run:∀ n,TE e n (ParE_run n):=by
 intro n
 induction n with
 | zero=>exact ⟨fun l d a b h=>by omega,fun l d k a b c h=>by omega,fun l d a b h=>by omega,fun l d a b h=>by omega,fun l d a b h=>by omega,fun l d k c a b g h=>by omega⟩
 | succ n I =>
  refine ⟨fun l d h0 h1 hn=>?_,fun l d k h0 h1 hk hn=>?_,fun l d h0 h1 hn=>?_,fun l d h0 h1 hn=>?_,fun l d h0 h1 hn=>?_,fun l d k c h0 h1 hc hn=>?_⟩
  ·show TO e d l.length (p_expr (ParE_run n) l e d)
   unfold p_expr
   refine TO.into h0 h1 fun hd=>TO.bind (I.level l (d+1) 0 (by omega) hd (by omega) (by omega)) fun x l _=>?_
   exact TO.out' h0 h1 TO.pure
  ·show TO e d l.length (p_level n (ParE_run n) l e d k)
   unfold p_level
   obtain ⟨lv,hlv,hlen⟩:∃ lv,p_levels=some lv∧lv.length=5:=⟨_,rfl,rfl⟩
   refine TO.ob hlv (TO.ite (fun _=>TO.bind (I.unary l d h0 h1 (by omega)) fun x l _=>TO.pure) fun hk5=>?_)
   rw [hlen] at hk5
   refine TO.ob (i64_s (by omega) (by omega)) ?_
   rw [show ((k:Int)+1)=((k+1:Nat):Int) by omega]
   refine TO.bind (I.level l d (k+1) h0 h1 (by omega) (by omega)) fun x l hl=>?_
   have key:∀ (q:Nat) (l:Ts) (a b:Int) (c:List UInt8) (ks:List TExpr),(202 - d)*12+11 - k+(l.length:Int)+70≤n+1→l.length<q→TO e d l.length (p_level_l1 (ParE_run n) k lv q l e d a b c ks):=by
    intro q
    induction q with
    | zero=>intro l a b c ks _ h; omega
    | succ q ih =>
     intro l a b c ks hb hq
     unfold p_level_l1
     cases l with
     | nil =>
      rw [if_neg (by simp)]
      unfold p_level_j1
      exact TO.pure
     | cons t l =>
      rw [if_pos (by simp),at0]
      have hx:at_ lv (k:Int)=some (lv[k]'(by omega)):=by rw [at_nat,List.getElem?_eq_getElem]
      refine TO.ob hx ?_
      rw [Option.bind_some]
      refine TO.ite (fun _=>by unfold p_level_j1; exact TO.pure) fun _=>?_
      rw [cut1,Option.bind_some,i64_s (by omega) (by omega),Option.bind_some,show ((k:Int)+1)=((k+1:Nat):Int) by omega]
      simp only [List.length_cons] at hb hq
      refine TO.mono (N:=l.length) (TO.bind (I.level l d (k+1) h0 h1 (by omega) (by omega)) fun y l1 hl1=>?_) (by simp)
      unfold p_level_j2
      refine TO.ob hx (TO.ite (fun _=>by unfold p_level_j1; exact TO.pure) fun _=>ih l1 _ _ _ _ (by omega) (by omega))
   exact key n l _ _ _ _ (by omega) (by omega)
  ·show TO e d l.length (p_unary (ParE_run n) l e d)
   unfold p_unary
   refine TO.is (fun l1 hl=>TO.into h0 h1 fun hd=>TO.bind (I.unary l1 (d+1) (by omega) hd (by omega)) fun x l _=>TO.out' h0 h1 TO.pure) ?_
   refine TO.is (fun l1 hl=>TO.into h0 h1 fun hd=>TO.bind (I.unary l1 (d+1) (by omega) hd (by omega)) fun x l _=>TO.out' h0 h1 TO.pure) ?_
   exact TO.bind (I.primary l d h0 h1 (by omega)) fun x l _=>TO.pure
  ·show TO e d l.length (p_primary n (ParE_run n) l e d)
   have j:∀ b,TO e d l.length (p_primary_j1 n (ParE_run n) l e d b):=fun b=>by
    unfold p_primary_j1
    refine TO.ite (fun _=>TO.bind TO.number fun x l _=>TO.pure) fun _=>?_
    refine TO.is (fun l1 hl=>TO.pure) (TO.is (fun l1 hl=>TO.pure) (TO.is (fun l1 hl=>?_) (TO.is (fun l1 hl=>?_) (TO.is (fun l1 hl=>?_) (TO.is (fun l1 hl=>?_) (TO.is (fun l1 hl=>?_) (TO.is (fun l1 hl=>?_) ?_)))))))
    ·exact TO.bind (I.expr l1 d h0 h1 (by omega)) fun x l _=>TO.bind0 TO0.need fun l _=>TO.pure
    ·exact TO.bind0 TO0.need fun l _=>TO.bind (TO.name (by omega)) fun x l _=>TO.bind0 TO0.need fun l _=>TO.pure
    ·exact TO.bind (I.fixed l1 d 21 1 h0 h1 (by omega) (by omega)) fun x l _=>TO.pure
    ·exact TO.bind (I.fixed l1 d 23 2 h0 h1 (by omega) (by omega)) fun x l _=>TO.pure
    ·exact TO.bind (I.fixed l1 d 24 1 h0 h1 (by omega) (by omega)) fun x l _=>TO.pure
    ·exact TO.bind (TO.name (by omega)) fun x l hl=>TO.bind (I.args l d h0 h1 (by omega)) fun y l _=>TO.pure
    ·refine TO.bind (TO.name (by omega)) fun x l hl=>?_
     rw [p_sees_t]
     exact TO.ite (fun _=>TO.bind (I.args l d h0 h1 (by omega)) fun y l _=>TO.pure) fun _=>TO.pure
   unfold p_primary
   cases l with
   | nil=>rw [if_neg (by simp)]; exact j _
   | cons t l=>rw [if_pos (by simp),at0]; exact j _
  ·show TO e d l.length (p_args n (ParE_run n) l e d)
   unfold p_args
   refine TO.bind0 TO0.need fun l hl=>?_
   have key:∀ (q:Nat) (l:Ts) (acc:List TExpr),(202 - d)*12+(l.length:Int)+70≤n→acc.length≤6→6 - acc.length<q→TO e d l.length (p_args_l1 (ParE_run n) q l e d acc):=by
    intro q
    induction q with
    | zero=>intro l acc _ _ h; omega
    | succ q ih =>
     intro l acc hb ha hq
     unfold p_args_l1
     have j:∀ l:Ts,(202 - d)*12+(l.length:Int)+70≤n→TO e d l.length (p_args_j1 (ParE_run n) acc (p_args_l1 (ParE_run n) q) l e d):=fun l hb=>by
      unfold p_args_j1
      refine TO.ite (fun _=>TO.at) fun h6=>TO.bind (I.expr l d h0 h1 hb) fun x l1 hl=>?_
      exact TO.ob (app_one (by omega)) (ih l1 _ (by omega) (by simp; omega) (by simp; omega))
     exact TO.is (fun l1 _=>TO.pure) (TO.f (TO.ite (fun _=>TO.bind0 TO0.need fun l1 hl=>j l1 (by omega)) fun _=>j l hb))
   exact key n l [] (by omega) (by simp) (by simp; omega)
  ·show TO e d l.length (p_fixed (ParE_run n) l e d k c)
   unfold p_fixed
   refine TO.bind0 TO0.need fun l hl=>?_
   have key:∀ (q i:Nat) (l:Ts) (acc:List TExpr),(202 - d)*12+(l.length:Int)+70≤n→acc.length≤i→i≤c→c - i<q→TO e d l.length (p_fixed_l1 (ParE_run n) k c q i l e d acc):=by
    intro q
    induction q with
    | zero=>intro i l acc _ _ _ h; omega
    | succ q ih =>
     intro i l acc hb ha hi hq
     unfold p_fixed_l1
     have j:i<c→∀ l:Ts,(202 - d)*12+(l.length:Int)+70≤n→TO e d l.length (p_fixed_j1 (ParE_run n) i acc (p_fixed_l1 (ParE_run n) k c q) l e d):=fun hic l hb=>by
      unfold p_fixed_j1
      refine TO.bind (I.expr l d h0 h1 hb) fun x l1 hl=>TO.ob (app_one (by omega)) ?_
      unfold p_fixed_j2
      refine TO.ob (i64_s (by omega) (by omega)) ?_
      rw [show ((i:Int)+1)=((i+1:Nat):Int) by omega]
      exact ih (i+1) l1 _ (by omega) (by simp; omega) (by omega) (by omega)
     refine TO.ite (fun hic=>TO.ite (fun _=>TO.bind0 TO0.need fun l1 hl=>j (by omega) l1 (by omega)) fun _=>j (by omega) l hb) fun _=>TO.bind0 TO0.need fun l _=>TO.pure
   have:=key (((c:Int) - 0).toNat+1) 0 l [] (by omega) (by simp) (by omega) (by omega)
   exact this
structure TS (e:Int) (n:Nat) (P:ParS):Prop where
 body:∀ l d,0≤d→d≤200→(202 - d)*12+(l.length:Int)+80≤n→TO e d l.length (P.p_body l e d)
 stat:∀ l d,0≤d→d≤200→(202 - d)*12+1+(l.length:Int)+80≤n→TO e d l.length (P.p_stat l e d)
theorem TO.stat_j {l:Ts} {a b c:Int} {s t:List UInt8} {ks:List TExpr}:TO e d l.length (p_stat_j1 l e d a s b c t ks):=by
 unfold p_stat_j1
 exact TO.bind0 TO0.need fun l _=>TO.pure
theorem ts_run:∀ n,TS e n (ParS_run n):=by
 intro n
 induction n with
 | zero=>exact ⟨fun l d a b h=>by omega,fun l d a b h=>by omega⟩
 | succ n I =>
  refine ⟨fun l d h0 h1 hn=>?_,fun l d h0 h1 hn=>?_⟩
  ·show TO e d l.length (p_body n (ParS_run n) l e d)
   unfold p_body
   refine TO.into h0 h1 fun hd=>TO.bind0 TO0.need fun l hl=>?_
   have key:∀ (q:Nat) (l:Ts) (acc:List TStat),(201 - d)*12+1+(l.length:Int)+80≤n→acc.length≤50→50 - acc.length<q→TO e d l.length (p_body_l1 (ParS_run n) q l e (d+1) acc):=by
    intro q
    induction q with
    | zero=>intro l acc _ _ h; omega
    | succ q ih =>
     intro l acc hb ha hq
     unfold p_body_l1
     refine TO.is (fun l1 _=>TO.out' h0 h1 TO.pure) (TO.f (TO.ite (fun _=>TO.at) fun h50=>TO.bind (I.stat l (d+1) (by omega) hd (by omega)) fun x l1 hl=>?_))
     exact TO.ob (app_one (by omega)) (ih l1 _ (by omega) (by simp; omega) (by simp; omega))
   exact key n l [] (by omega) (by simp) (by simp; omega)
  ·show TO e d l.length (p_stat n (ParS_run n) l e d)
   have E:=te_run (e:=e) n
   unfold p_stat
   refine TO.is (fun l1 hl=>?_) (TO.is (fun l1 hl=>?_) (TO.is (fun l1 hl=>?_) (TO.is (fun l1 hl=>?_) (TO.is (fun l1 hl=>?_) (TO.is (fun l1 hl=>?_) (TO.is (fun l1 hl=>?_) (TO.is (fun l1 hl=>?_) ?_)))))))
   ·refine TO.bind (E.expr l1 d h0 h1 (by omega)) fun x l2 h2=>TO.bind (I.body l2 d h0 h1 (by omega)) fun y l3 h3=>?_
    exact TO.is (fun l4 h4=>TO.bind (I.body l4 d h0 h1 (by omega)) fun z l5 _=>TO.pure) TO.pure
   ·exact TO.bind (E.expr l1 d h0 h1 (by omega)) fun x l2 h2=>TO.bind (I.body l2 d h0 h1 (by omega)) fun y l3 h3=>TO.pure
   ·exact TO.bind (TO.name (by omega)) fun x l2 h2=>TO.bind0 TO0.need fun l3 h3=>TO.bind (E.expr l3 d h0 h1 (by omega)) fun y l4 _=>TO.stat_j
   ·exact TO.bind (E.expr l1 d h0 h1 (by omega)) fun y l4 _=>TO.stat_j
   ·exact TO.stat_j
   ·exact TO.bind (TO.name (by omega)) fun x l2 h2=>TO.bind (E.expr l2 d h0 h1 (by omega)) fun y l4 _=>TO.stat_j
   ·exact TO.bind (E.expr l1 d h0 h1 (by omega)) fun y l4 _=>TO.stat_j
   ·exact TO.bind (E.expr l1 d h0 h1 (by omega)) fun y l4 _=>TO.stat_j
   ·exact TO.bind (TO.name (by omega)) fun x l2 h2=>TO.bind0 TO0.need fun l3 h3=>TO.bind (E.expr l3 d h0 h1 (by omega)) fun y l4 _=>TO.stat_j
theorem TO.def {l:Ts} (hf:(l.length:Int)+3000≤fu):TO e 0 l.length (p_def fu l e 0):=by
 have S:=ts_run (e:=e) fu
 have j:∀ (a:List UInt8×Ts×Int×Int) (b:TType×Ts×Int×Int) (c:Int) (z:Int) (l:Ts) (x:Bool),TO e 0 l.length (p_def_j1 a b c (z,l,e,0) x):=fun a b c z l x=>by
  unfold p_def_j1
  exact TO.ite (fun _=>TO.err) fun _=>TO.bind0 TO0.need fun l _=>TO.pure
 unfold p_def
 rw [p_at_t,Option.bind_some]
 refine TO.is (fun l1 hl=>?_) (TO.is (fun l1 hl=>?_) (TO.is (fun l1 hl=>?_) (TO.is (fun l1 hl=>?_) TO.err)))
 ·refine TO.bind (TO.name (by omega)) fun x l2 h2=>TO.bind (TO.typ (by omega)) fun y l3 h3=>?_
  rw [p_at_t,Option.bind_some]
  exact TO.bind TO.number fun z l4 h4=>TO.ite (fun _=>j _ _ _ _ _ _) fun _=>j _ _ _ _ _ _
 ·exact TO.bind (TO.name (by omega)) fun x l2 h2=>TO.bind (TO.params (by omega)) fun y l3 h3=>TO.bind (TO.typ (by omega)) fun z l4 h4=>TO.bind (S.body l4 0 (by omega) (by omega) (by omega)) fun b l5 _=>TO.pure
 ·exact TO.bind (TO.name (by omega)) fun x l2 h2=>TO.bind (TO.params (by omega)) fun y l3 h3=>TO.bind0 TO0.need fun l4 h4=>TO.bind (TO.typ (by omega)) fun z l5 h5=>TO.bind0 TO0.need fun l6 h6=>TO.bind (TO.typ (by omega)) fun z l7 h7=>TO.bind (S.body l7 0 (by omega) (by omega) (by omega)) fun b l8 _=>TO.pure
 ·exact TO.bind (TO.name (by omega)) fun x l2 h2=>TO.bind (S.body l2 0 (by omega) (by omega) (by omega)) fun b l5 _=>TO.pure
theorem read_l_t {r8:Ts×TFault}:∀ (n:Nat) (l:Ts) (acc:List TDef),(l.length:Int)+3000≤fu→acc.length≤30→30 - acc.length<n→∃ r,syn_read_l1 fu r8 n l e 0 acc=some r:=by
 intro n
 induction n with
 | zero=>intro l acc _ _ h; omega
 | succ n ih =>
  intro l acc hb ha hn
  unfold syn_read_l1
  by_cases h:(0:Int)<(l.length:Int)
  ·rw [if_pos h]
   by_cases h30:(acc.length:Int)=30
   ·rw [if_pos h30,p_at_t]; exact ⟨_,rfl⟩
   ·rw [if_neg h30]
    obtain ⟨r,hr,hk⟩:=(TO.def (e:=e) (l:=l) hb).out
    rw [hr]
    cases r with
    | error q=>exact ⟨_,rfl⟩
    | ok r =>
     obtain ⟨x,l1,e1,d1⟩:=r
     obtain ⟨rfl,rfl,hl⟩:=hk _ _ _ _ rfl
     rw [bC_ok,app_one (by omega),Option.bind_some]
     exact ih l1 _ (by omega) (by simp; omega) (by simp; omega)
  ·rw [if_neg h]
   obtain ⟨f,hf,-⟩:=syn_wrong_t fu (by omega) acc
   rw [hf,Option.bind_some]
   by_cases h0:f.Err≠0
   ·rw [if_pos h0]; exact ⟨_,rfl⟩
   ·rw [if_neg h0]; exact ⟨_,rfl⟩
theorem toks_len {n p:Nat} {l:List UInt8} {ts:List Lx.Tok} (h:Lx.toks n p l=.ok ts):ts.length≤l.length:=by
 induction n generalizing p l ts with
 | zero=>cases h; simp
 | succ n ih =>
  unfold Lx.toks at h
  split at h
  ·cases h; simp
  ·cases ht:Lx.tok1 p l with
   | error q=>rw [ht] at h; cases h
   | ok t =>
    rw [ht] at h
    simp only at h
    obtain ⟨q1,q2,-,-⟩:=Lx.tok1_len ht
    obtain ⟨us,rfl,hu⟩:=Lx.map_ok h
    have:=ih hu
    simp only [List.length_drop] at this
    simp only [List.length_cons]
    omega
theorem read_t {s:List UInt8} (hf:10000≤fu):∃ r,syn_read fu s=some r:=by
 unfold syn_read
 rw [lex_tokens_e (by omega),Option.bind_some]
 cases ht:Lx.tokens s with
 | error q =>
  have:=tokens_err ht
  rw [if_pos (by show ((q.1:Nat):Int)≠0; omega)]
  exact ⟨_,rfl⟩
 | ok ts =>
  have hl:ts.length≤6000:=by
   unfold Lx.tokens at ht
   split at ht
   ·cases ht
   ·have:=toks_len ht
    simp only [List.length_drop] at this
    omega
  rw [if_neg (by simp [endT])]
  refine read_l_t fu _ [] ?_ (by simp) (by simp; omega)
  show (([]++ts.map TT).length:Int)+3000≤fu
  simp
  omega
end
end Go.Y
namespace Go.Y
open Go.Wk Go.Xt
section
variable {α β:Type}
structure PP (Φ:α→Prop) (A:St α):Prop where
 out:∀ x l e d,A=some (.ok (x,l,e,d))→Φ x
variable {Φ:α→Prop} {Ψ:β→Prop}
theorem PP.err {q:TFault}:PP Φ (some (.error q)):=⟨fun _ _ _ _ g=>by cases g⟩
theorem PP.none:PP Φ Option.none:=⟨fun _ _ _ _ g=>by cases g⟩
theorem PP.pure {x:α} {l:Ts} {e d:Int} (h:Φ x):PP Φ (some (.ok (x,l,e,d))):=⟨fun y l1 e1 d1 g=>by
 cases Except.ok.inj (Option.some.inj g); exact h⟩
theorem PP.bind {A:St β} {f:β×Ts×Int×Int→St α} (h:PP Ψ A) (k:∀ r,Ψ r.1→PP Φ (f r)):PP Φ (bT A f):=⟨fun y l1 e1 d1 g=>by
 rcases bTe g with ⟨_,_,q⟩ | ⟨⟨x,l,e,d⟩,ha,g⟩
 ·cases q
 ·exact (k (x,l,e,d) (h.out _ _ _ _ ha)).out _ _ _ _ g⟩
theorem PP.any {A:St β} {f:β×Ts×Int×Int→St α} (k:∀ r,PP Φ (f r)):PP Φ (bT A f):=PP.bind (Ψ:=fun _=>True) ⟨fun _ _ _ _ _=>trivial⟩ fun r _=>k r
theorem PP.any0 {A:St0} {f:Ts×Int×Int→St α} (k:∀ r,PP Φ (f r)):PP Φ (bT A f):=⟨fun y l1 e1 d1 g=>by
 rcases bTe g with ⟨_,_,q⟩ | ⟨r,ha,g⟩
 ·cases q
 ·exact (k r).out _ _ _ _ g⟩
theorem PP.ob {γ:Type} {o:Option γ} {f:γ→St α} (h:∀ y,o=some y→PP Φ (f y)):PP Φ (o.bind f):=by
 cases o with
 | none=>exact PP.none
 | some y=>exact h y rfl
theorem PP.ite {c:Prop} [Decidable c] {A B:St α} (h1:PP Φ A) (h2:PP Φ B):PP Φ (if c then A else B):=by
 by_cases h:c
 ·rw [if_pos h]; exact h1
 ·rw [if_neg h]; exact h2
end
def BS:Nat→TStat→Prop
 | 0,_=>True
 | k+1,s=>(s.Kind=6→s.X=⟨0,0,[],[]⟩)∧(s.Kind≠3→s.Kind≠4→s.Body=[])∧(s.Kind≠3→s.Else=[])∧(∀ y ∈ s.Body,BS k y)∧∀ y ∈ s.Else,BS k y
theorem BS.down:∀ (n k:Nat) (s:TStat),k≤n→BS n s→BS k s:=by
 intro n
 induction n with
 | zero =>
  intro k s h _
  have:k=0:=by omega
  subst this
  trivial
 | succ n ih =>
  intro k s h hb
  cases k with
  | zero=>trivial
  | succ k =>
   obtain ⟨a,b,c,p,q⟩:=hb
   exact ⟨a,b,c,fun y hy=>ih k y (by omega) (p y hy),fun y hy=>ih k y (by omega) (q y hy)⟩
structure RB (a b:Nat) (P:ParS):Prop where
 body:∀ l e d,PP (fun x=>∀ y ∈ x,BS a y) (P.p_body l e d)
 stat:∀ l e d,PP (BS b) (P.p_stat l e d)
theorem rb_step (a n m:Nat) (I:RB a n (ParS_run m)):(∀ l e d,PP (fun b=>∀ y ∈ b,BS n y) (p_body m (ParS_run m) l e d))∧(∀ l e d,PP (BS (a+1)) (p_stat m (ParS_run m) l e d)):=by
 refine ⟨fun l e d=>?_,fun l e d=>?_⟩
 ·unfold p_body
  refine PP.any0 fun r=>PP.any0 fun r=>?_
  have key:∀ (q:Nat) (l:Ts) (e d:Int) (acc:List TStat),(∀ y ∈ acc,BS n y)→PP (fun b=>∀ y ∈ b,BS n y) (p_body_l1 (ParS_run m) q l e d acc):=by
   intro q
   induction q with
   | zero=>intros; exact PP.none
   | succ q ih =>
    intro l e d acc ha
    unfold p_body_l1
    refine PP.ob fun r _=>PP.ite (PP.ob fun r _=>PP.pure ha) (PP.ite (PP.ob fun _ _=>PP.err) (PP.bind (I.stat _ _ _) fun x hx=>PP.ob fun z hz=>ih _ _ _ _ ?_))
    obtain rfl:=app_eq hz
    intro y hy
    rcases List.mem_append.1 hy with h | h
    ·exact ha y h
    ·obtain rfl:=List.mem_singleton.1 h
     exact hx
  exact key _ _ _ _ _ (by simp)
 ·have j:∀ l e d (kd:Int) s b c t ks,(kd=6→TExpr.mk b c t ks=⟨0,0,[],[]⟩)→kd≠3→kd≠4→PP (BS (a+1)) (p_stat_j1 l e d kd s b c t ks):=fun l e d kd s b c t ks h6 h3 h4=>by
   unfold p_stat_j1
   exact PP.any0 fun _=>PP.pure ⟨h6,fun _ _=>rfl,fun _=>rfl,fun y hy=>(List.not_mem_nil hy).elim,fun y hy=>(List.not_mem_nil hy).elim⟩
  unfold p_stat
  refine PP.ob fun _ _=>PP.ite ?_ (PP.ob fun _ _=>PP.ite ?_ (PP.ob fun _ _=>PP.ite ?_ (PP.ob fun _ _=>PP.ite ?_ (PP.ob fun _ _=>PP.ite ?_ (PP.ob fun _ _=>PP.ite ?_ (PP.ob fun _ _=>PP.ite ?_ (PP.ob fun _ _=>PP.ite ?_ ?_)))))))
  ·refine PP.any fun _=>PP.bind (I.body _ _ _) fun b hb=>PP.ob fun _ _=>PP.ite (PP.bind (I.body _ _ _) fun c hc=>?_) ?_
   ·exact PP.pure ⟨fun h=>absurd h (by simp),fun h=>absurd rfl h,fun h=>absurd rfl h,hb,hc⟩
   ·exact PP.pure ⟨fun h=>absurd h (by simp),fun h=>absurd rfl h,fun h=>absurd rfl h,hb,fun y hy=>(List.not_mem_nil hy).elim⟩
  ·exact PP.any fun _=>PP.bind (I.body _ _ _) fun b hb=>PP.pure ⟨fun h=>absurd h (by simp),fun _ h=>absurd rfl h,fun _=>rfl,hb,fun y hy=>(List.not_mem_nil hy).elim⟩
  ·exact PP.any fun _=>PP.any0 fun _=>PP.any fun _=>j _ _ _ 1 _ _ _ _ _ (fun h=>absurd h (by decide)) (by decide) (by decide)
  ·exact PP.any fun _=>j _ _ _ 5 _ _ _ _ _ (fun h=>absurd h (by decide)) (by decide) (by decide)
  ·exact j _ _ _ 6 _ _ _ _ _ (fun h=>rfl) (by decide) (by decide)
  ·exact PP.any fun _=>PP.any fun _=>j _ _ _ 7 _ _ _ _ _ (fun h=>absurd h (by decide)) (by decide) (by decide)
  ·exact PP.any fun _=>j _ _ _ 8 _ _ _ _ _ (fun h=>absurd h (by decide)) (by decide) (by decide)
  ·exact PP.any fun _=>j _ _ _ 9 _ _ _ _ _ (fun h=>absurd h (by decide)) (by decide) (by decide)
  ·exact PP.any fun _=>PP.any0 fun _=>PP.any fun _=>j _ _ _ 2 _ _ _ _ _ (fun h=>absurd h (by decide)) (by decide) (by decide)
theorem rb_run:∀ m,RB (m / 2) ((m+1) / 2) (ParS_run m):=by
 intro m
 induction m with
 | zero=>exact ⟨fun _ _ _=>PP.none,fun _ _ _=>PP.none⟩
 | succ m ih =>
  obtain ⟨h1,h2⟩:=rb_step _ _ _ ih
  exact ⟨h1,by rw [show (m+1+1) / 2=m / 2+1 by omega]; exact h2⟩
structure BD (n:Nat) (x:TDef):Prop where
 bo:∀ y ∈ x.Body,BS n y
 b1:x.Kind=1→x.Body=[]
 pa:x.Kind=1∨x.Kind=4→x.Params=[]
theorem bd_def {fu:Nat} {l:Ts} {e d:Int}:PP (BD (fu / 2)) (p_def fu l e d):=by
 have S:=rb_run fu
 have j:∀ a b c z x,PP (BD (fu / 2)) (p_def_j1 a b c z x):=fun a b c z x=>by
  unfold p_def_j1
  exact PP.ite PP.err (PP.any0 fun _=>PP.pure ⟨fun y hy=>(List.not_mem_nil hy).elim,fun _=>rfl,fun _=>rfl⟩)
 unfold p_def
 refine PP.ob fun _ _=>PP.ob fun _ _=>PP.ite ?_ (PP.ob fun _ _=>PP.ite ?_ (PP.ob fun _ _=>PP.ite ?_ (PP.ob fun _ _=>PP.ite ?_ PP.err)))
 ·exact PP.any fun _=>PP.any fun _=>PP.ob fun _ _=>PP.any fun _=>PP.ite (j _ _ _ _ _) (j _ _ _ _ _)
 ·exact PP.any fun _=>PP.any fun _=>PP.any fun _=>PP.bind (S.body _ _ _) fun b hb=>PP.pure ⟨hb,fun h=>absurd h (by simp),fun h=>absurd h (by simp)⟩
 ·exact PP.any fun _=>PP.any fun _=>PP.any0 fun _=>PP.any fun _=>PP.any0 fun _=>PP.any fun _=>PP.bind (S.body _ _ _) fun b hb=>PP.pure ⟨hb,fun h=>absurd h (by simp),fun h=>absurd h (by simp)⟩
 ·exact PP.any fun _=>PP.bind (S.body _ _ _) fun b hb=>PP.pure ⟨hb,fun h=>absurd h (by simp),fun _=>rfl⟩
theorem rd_bd {fu:Nat} {e:Int} {l:Ts} {ds:List TDef} (h:RD fu e l ds):∀ x ∈ ds,BD (fu / 2) x:=by
 induction h with
 | nil=>intro x hx; exact (List.not_mem_nil hx).elim
 | @cons l l1 x ds hl hx k ih =>
  intro y hy
  rcases List.mem_cons.1 hy with rfl | hy
  ·exact bd_def.out _ _ _ _ hx
  ·exact ih y hy
end Go.Y
namespace Go.Y
open Go.Wk Go.Xt
theorem same_e:∀ (k n:Nat) (x:TExpr),k≤n→OkE k x→(SmE_run n).sm_expr x x=some true:=by
 intro k
 induction k with
 | zero=>intro n x _ h; exact h.elim
 | succ k ih =>
  intro n x hn h
  obtain ⟨n,rfl⟩:∃ q,n=q+1:=⟨n - 1,by omega⟩
  obtain ⟨-,-,hk,hy⟩:=h
  show sm_expr (SmE_run n) x x=some true
  unfold sm_expr
  rw [if_neg (by simp),if_neg (by simp),if_neg (by simp)]
  unfold sm_expr_j1
  rw [if_neg (by simp)]
  have key:∀ (q i:Nat),i≤x.Kids.length→x.Kids.length - i<q→sm_expr_l1 (SmE_run n) x x q (i:Int)=some true:=by
   intro q
   induction q with
   | zero=>intro i _ h; omega
   | succ q ihq =>
    intro i hi hq
    unfold sm_expr_l1
    by_cases g:i<x.Kids.length
    ·have hl:=hk.le
     rw [if_pos (by omega),at_nat,List.getElem?_eq_getElem g,Option.bind_some,Option.bind_some,ih n _ (by omega) (hy _ (List.getElem_mem g)),Option.bind_some,if_pos rfl,i64_s (by omega) (by omega),Option.bind_some]
     rw [show ((i:Int)+1)=((i+1:Nat):Int) by omega]
     exact ihq (i+1) (by omega) (by omega)
    ·rw [if_neg (by omega)]
  exact key _ 0 (by omega) (by omega)
theorem same_e0 (n:Nat):(SmE_run (n+1)).sm_expr ⟨0,0,[],[]⟩ ⟨0,0,[],[]⟩=some true:=by
 show sm_expr (SmE_run n) ⟨0,0,[],[]⟩ ⟨0,0,[],[]⟩=some true
 unfold sm_expr
 rw [if_neg (by simp),if_neg (by simp),if_neg (by simp)]
 unfold sm_expr_j1
 rw [if_neg (by simp)]
 show sm_expr_l1 _ _ _ 1 0=_
 unfold sm_expr_l1
 rw [if_neg (by simp)]
theorem same_nil (n:Nat):(SmS_run (n+1)).sm_stats [] []=some true:=by
 show sm_stats n (SmS_run n) [] []=some true
 unfold sm_stats
 rw [if_neg (by simp)]
 show sm_stats_l1 n _ _ _ 1 0=_
 unfold sm_stats_l1
 rw [if_neg (by simp)]
theorem same_s:∀ (k n:Nat) (l:List TStat),k+2≤n→l.length≤50→(∀ y ∈ l,OkS k y∧BS k y)→(SmS_run n).sm_stats l l=some true∨90<k:=by
 intro k
 induction k with
 | zero =>
  intro n l hn hl h
  left
  obtain ⟨n,rfl⟩:∃ q,n=q+1:=⟨n - 1,by omega⟩
  cases l with
  | nil=>exact same_nil n
  | cons y l=>exact (h y (by simp)).1.elim
 | succ k ih =>
  intro n l hn hl h
  by_cases hk:89<k
  ·right; omega
  left
  obtain ⟨n,rfl⟩:∃ q,n=q+1:=⟨n - 1,by omega⟩
  show sm_stats n (SmS_run n) l l=some true
  unfold sm_stats
  rw [if_neg (by simp)]
  have empty:(SmS_run n).sm_stats [] []=some true:=by
   obtain ⟨n,rfl⟩:∃ q,n=q+1:=⟨n - 1,by omega⟩
   exact same_nil n
  have key:∀ (q i:Nat),i≤l.length→l.length - i<q→sm_stats_l1 n (SmS_run n) l l q (i:Int)=some true:=by
   intro q
   induction q with
   | zero=>intro i _ h; omega
   | succ q ihq =>
    intro i hi hq
    unfold sm_stats_l1
    by_cases g:i<l.length
    ·obtain ⟨⟨o1,o2,o3,o4,o5⟩,b1,b2,b3,b4,b5⟩:=h _ (List.getElem_mem g)
     generalize hx:l[i]=x at *
     have hat:at_ l (i:Int)=some x:=by rw [at_nat,List.getElem?_eq_getElem g,hx]
     have e1:(SmE_run n).sm_expr x.X x.X=some true:=by
      by_cases h6:x.Kind=6
      ·rw [b1 h6]
       obtain ⟨f,rfl⟩:∃ q,n=q+1:=⟨n - 1,by omega⟩
       exact same_e0 f
      ·exact same_e k n _ (by omega) (o3 h6)
     have e2:(SmS_run n).sm_stats x.Body x.Body=some true:=by
      by_cases h3:x.Kind=3∨x.Kind=4
      ·obtain ⟨q1,q2⟩:=o4 h3
       exact (ih n x.Body (by omega) q1 fun y hy=>⟨q2 y hy,b4 y hy⟩).resolve_right (by omega)
      ·rw [b2 (fun h=>h3 (.inl h)) fun h=>h3 (.inr h)]; exact empty
     have e3:(SmS_run n).sm_stats x.Else x.Else=some true:=by
      by_cases h3:x.Kind=3
      ·obtain ⟨q1,q2⟩:=o5 h3
       exact (ih n x.Else (by omega) q1 fun y hy=>⟨q2 y hy,b5 y hy⟩).resolve_right (by omega)
      ·rw [b3 h3]; exact empty
     have e4:sm_stats_j1 (i:Int) (sm_stats_l1 n (SmS_run n) l l q) false=sm_stats_l1 n (SmS_run n) l l q ((i+1:Nat):Int):=by
      unfold sm_stats_j1
      rw [if_neg (by decide),i64_s (by omega) (by omega),Option.bind_some]
      rfl
     rw [if_pos (by omega),hat,Option.bind_some,Option.bind_some,if_neg (not_not_intro rfl),Option.bind_some,Option.bind_some,if_neg (not_not_intro rfl),Option.bind_some,Option.bind_some,e1,Option.bind_some,if_pos rfl,Option.bind_some,Option.bind_some,e2,Option.bind_some,if_pos rfl,Option.bind_some,Option.bind_some,e3,Option.bind_some,Bool.not_true,e4]
     exact ihq (i+1) (by omega) (by omega)
    ·rw [if_neg (by omega)]
  exact key _ 0 (by omega) (by omega)
theorem same_p {fu:Nat} (hf:1000≤fu) {l:List TDef} (h:OkP l) (hb:∀ x ∈ l,BD (fu / 2) x):sm_same fu l l=some true:=by
 unfold sm_same
 rw [if_neg (by simp)]
 have hl:=h.le
 have key:∀ (q i:Nat),i≤l.length→l.length - i<q→sm_same_l1 fu l l q (i:Int)=some true:=by
  intro q
  induction q with
  | zero=>intro i _ h; omega
  | succ q ihq =>
   intro i hi hq
   unfold sm_same_l1
   by_cases g:i<l.length
   ·have ho:=h.ok _ (List.getElem_mem g)
    have hd:=hb _ (List.getElem_mem g)
    generalize hx:l[i]=x at *
    have hat:at_ l (i:Int)=some x:=by rw [at_nat,List.getElem?_eq_getElem g,hx]
    have hpl:x.Params.length≤6:=by
     by_cases h1:x.Kind=1∨x.Kind=4
     ·rw [hd.pa h1]; simp
     ·have:=ho.k1; have:=ho.k4
      exact (ho.ps (by omega)).1
    have e1:(SmS_run fu).sm_stats x.Body x.Body=some true:=by
     by_cases h1:x.Kind=1
     ·rw [hd.b1 h1]
      obtain ⟨f,rfl⟩:∃ q,fu=q+1:=⟨fu - 1,by omega⟩
      exact same_nil f
     ·exact (same_s 39 fu x.Body (by omega) (ho.bl h1) fun y hy=>⟨ho.bo h1 y hy,BS.down _ _ _ (by omega) (hd.bo y hy)⟩).resolve_right (by omega)
    rw [if_pos (by omega),hat,Option.bind_some,Option.bind_some]
    unfold sm_same_j1
    simp only [ne_eq,not_true_eq_false,if_false,andL,decide_true,Bool.and_self,if_true,e1,Option.bind_some,Bool.not_true]
    unfold sm_same_j2
    rw [if_neg (by decide)]
    have inner:∀ (r j:Nat),j≤x.Params.length→x.Params.length - j<r→sm_same_l2 (i:Int) x.Params x.Params (sm_same_l1 fu l l q) r (j:Int)=some true:=by
     intro r
     induction r with
     | zero=>intro j _ h; omega
     | succ r ihr =>
      intro j hj hr
      unfold sm_same_l2
      by_cases gj:j<x.Params.length
      ·rw [if_pos (by omega),at_nat,List.getElem?_eq_getElem gj,Option.bind_some,Option.bind_some,if_pos (by simp [andL]),i64_s (by omega) (by omega),Option.bind_some,show ((j:Int)+1)=((j+1:Nat):Int) by omega]
       exact ihr (j+1) (by omega) (by omega)
      ·rw [if_neg (by omega),i64_s (by omega) (by omega),Option.bind_some,show ((i:Int)+1)=((i+1:Nat):Int) by omega]
       exact ihq (i+1) (by omega) (by omega)
    exact inner _ 0 (by omega) (by omega)
   ·rw [if_neg (by omega)]
 exact key _ 0 (by omega) (by omega)
end Go.Y
namespace Go.Y
open Go.Wk Go.Xt
theorem l2_alive_ok:l2_alive 60001=some true:=by kernel_rfl
theorem law_synj_ok {s t:List UInt8} (hs:s.length+t.length+1≤9223372036854775807):law_synj 60001 s t=some true:=by
 unfold law_synj
 rw [l2_alive_ok,Option.bind_some,if_pos rfl]
 obtain ⟨⟨a,f⟩,ha⟩:=read_t (fu:=60001) (s:=s) (by decide)
 obtain ⟨⟨b,g⟩,hb⟩:=read_t (fu:=60001) (s:=t) (by decide)
 rw [ha,hb,Option.bind_some,Option.bind_some]
 have jt:law_synj_j1 60001 s t (a,f) (b,g) true=some true:=by
  unfold law_synj_j1
  rw [if_pos rfl]
 by_cases h1:f.Err≠0
 ·rw [if_pos h1]; exact jt
 rw [if_neg h1]
 by_cases h2:g.Err≠0
 ·rw [decide_eq_true (show (b,g).2.Err≠0 from h2)]; exact jt
 rw [decide_eq_false (show ¬ (b,g).2.Err≠0 from h2)]
 have h1':f.Err=0:=Decidable.not_not.1 h1
 have h2':g.Err=0:=Decidable.not_not.1 h2
 obtain ⟨c,h,hc,hq⟩:=joined_law (fu:=60001) (by decide) ha hb h1' h2'
 unfold law_synj_j1
 rw [if_neg (by decide)]
 rw [show cat s [10]=some (s++[10]) by unfold cat; rw [if_pos (by simp; omega)],Option.bind_some]
 rw [show cat (s++[10]) t=some (s++10::t) by unfold cat; rw [if_pos (by simp; omega)]; simp,Option.bind_some,hc,Option.bind_some]
 rcases hq with ⟨h0,rfl⟩ | h4 | h5
 ·rw [if_neg (by simp [h0])]
  obtain ⟨-,ra,la,r1,wa,ea⟩:=read_in (fu:=60001) (by decide) ha h1'
  obtain ⟨-,rb,lb,r2,wb,eb⟩:=read_in (fu:=60001) (by decide) hb h2'
  obtain ⟨-,rc,lc,r3,wc,ec⟩:=read_in (fu:=60001) (by decide) hc h0
  obtain ⟨q,hq,hk⟩:=syn_wrong_t 60001 (by decide) (a++b)
  rw [wc] at hq
  obtain rfl:=Option.some.inj hq
  rw [show app ([]:List TDef) a=some a by unfold app; rw [if_pos (by simp; omega)]; simp,Option.bind_some,show app a b=some (a++b) by unfold app; rw [if_pos (by omega)],Option.bind_some]
  rw [same_p (by decide) (hk ec).2 (rd_bd rc)]
  rfl
 ·rw [if_pos (by simp [h4])]
  simp [h4]
 ·rw [if_pos (by simp [h5])]
  simp [h5]
end Go.Y
