/- Texts of AsmTells Pl. -/
import Derived.Test.YtnjpnifbgldmiaaDoorCMd
import Derived.Lib.CutLaws
import Derived.Lib.IndexMore
import Derived.Lib.CountLaws
import Derived.Lib.ItoaMem
import Derived.Lib.ParseIntBCases
set_option linter.unusedSimpArgs false
set_option linter.unusedVariables false
set_option linter.unusedSectionVars false
namespace Go.Y
open Go.Wk Go.Xt
theorem i64_ok {n:Int} (h:-9223372036854775808≤n∧n≤9223372036854775807):i64 n=some n:=if_pos h
theorem at_ok {α:Type} {l:List α} {i:Nat} (h:i<l.length):at_ l (i:Int)=some l[i]:=by simp [at_,h]
theorem bS {α β:Type} {x:α} {f:α→Option β}:Option.bind (some x) f=f x:=rfl
theorem sameInts_refl (l:List Int) (hl:l.length≤4294967296):∀ (n i:Nat),i≤l.length→l.length<n+i→r6_ints_l1 l l n i=some true:=by
 intro n
 induction n with
 | zero=>intro i h1 h2; omega
 | succ n ih =>
  intro i h1 h2
  unfold r6_ints_l1
  split
  ·rename_i h
   have h:i<l.length:=by omega
   rw [at_ok h,bS,bS,if_neg (by simp),i64_ok (by omega),bS]
   exact ih (i+1) (by omega) (by omega)
  ·rfl
theorem same_code (u:Int) (l:List TInstr) (k:Int→Option Bool) (hl:l.length≤4294967296):∀ (n i:Nat),i≤l.length→l.length<n+i→r6_same_l3 u l l k n i=Option.bind (i64 (u+1)) k:=by
 intro n
 induction n with
 | zero=>intro i h1 h2; omega
 | succ n ih =>
  intro i h1 h2
  unfold r6_same_l3
  split
  ·rename_i h
   have h:i<l.length:=by omega
   rw [at_ok h,bS,bS,if_pos (by simp [andL]),i64_ok (by omega),bS]
   exact ih (i+1) (by omega) (by omega)
  ·rfl
structure Small (m:TModule):Prop where
 b:m.Boxes.length≤4294967296
 u:m.Units.length≤4294967296
 e:∀ x ∈ m.Units,x.Code.length≤4294967296∧x.Locals.length≤4294967296
theorem same_units (m:TModule) (hm:Small m):∀ (n i:Nat),i≤m.Units.length→m.Units.length<n+i→r6_same_l2 m m n i=some true:=by
 intro n
 induction n with
 | zero=>intro i h1 h2; omega
 | succ n ih =>
  intro i h1 h2
  unfold r6_same_l2
  split
  ·rename_i h
   have h:i<m.Units.length:=by omega
   obtain ⟨e1,e2⟩:=hm.e _ (List.getElem_mem h)
   have hi:=hm.u
   rw [at_ok h,bS,bS]
   unfold r6_same_j2
   rw [if_neg (by simp),if_neg (by simp),if_neg (by simp),if_neg (by simp)]
   unfold r6_ints
   rw [if_neg (by simp)]
   have:=sameInts_refl m.Units[i].Locals e2 (m.Units[i].Locals.length+1) 0 (by omega) (by omega)
   rw [show ((0:Nat):Int)=0 from rfl] at this
   rw [this,bS,if_pos rfl]
   unfold r6_same_j3
   rw [if_neg (by simp)]
   have:=same_code i m.Units[i].Code (r6_same_l2 m m n) e1 (m.Units[i].Code.length+1) 0 (by omega) (by omega)
   rw [show ((0:Nat):Int)=0 from rfl] at this
   rw [this,i64_ok (by omega),bS]
   exact ih (i+1) (by omega) (by omega)
  ·rfl
theorem same_boxes (m:TModule) (hm:Small m):∀ (n i:Nat),i≤m.Boxes.length→m.Boxes.length<n+i→r6_same_l1 m m n i=some true:=by
 intro n
 induction n with
 | zero=>intro i h1 h2; omega
 | succ n ih =>
  intro i h1 h2
  have hb:=hm.b
  unfold r6_same_l1
  split
  ·rename_i h
   have h:i<m.Boxes.length:=by omega
   rw [at_ok h,bS,bS,if_pos (by simp [andL]),i64_ok (by omega),bS]
   exact ih (i+1) (by omega) (by omega)
  ·exact same_units m hm _ 0 (by omega) (by omega)
theorem same_refl (m:TModule) (hm:Small m):r6_same m m=some true:=by
 unfold r6_same
 rw [if_neg (by simp)]
 unfold r6_same_j1
 rw [if_neg (by simp)]
 exact same_boxes m hm _ 0 (by omega) (by omega)
def line (bs:List TBi) (us:List TUnit) (ln:List UInt8):Option (Bool×List TBi×List TUnit) :=
 Option.bind (s_pre ln [9]) fun r =>
 if r.2=true then
  Option.bind (asm_instr r.1) fun q =>
  if q.2=true∧0<us.length then
   Option.bind (at_ us ((us.length:Int) - 1)) fun x =>
   Option.bind (app x.Code [q.1]) fun l=>some (true,bs,uset us l)
  else some (false,bs,us)
 else asm_head bs us ln
theorem read_step (n:Nat) (s:List UInt8) (i:Int) (us:List TUnit) (bs:List TBi) (hu:us.length≤4294967296):asm_read_l1 (n+1) s i us bs =
  if s≠[] then Option.bind (s_cut s [10]) fun r =>
   if r.2.2=true then Option.bind (line bs us r.1) fun q=>if q.1=true then Option.bind (i64 (i+1)) fun i'=>asm_read_l1 n r.2.1 i' q.2.2 q.2.1 else some (⟨[],[]⟩,⟨2,i⟩)
   else some (⟨[],[]⟩,⟨2,i⟩)
  else some (⟨bs,us⟩,⟨0,0⟩):=by
 rw [asm_read_l1]
 split
 ·congr 1
  funext r
  split
  ·unfold line
   cases h1:s_pre r.1 [9] with
   | none=>rfl
   | some q =>
    simp only [bS]
    split
    ·cases h2:asm_instr q.1 with
     | none=>rfl
     | some p =>
      simp only [bS]
      by_cases h3:p.2=true
      ·by_cases h4:0<us.length
       ·rw [if_pos h3,if_pos ⟨h3,h4⟩]
        unfold asm_read_j2
        rw [if_pos (by simpa using h4),i64_ok (by omega)]
        simp only [bS]
        cases h5:at_ us ((us.length:Int) - 1) with
        | none=>rfl
        | some x =>
         simp only [bS]
         cases h6:app x.Code [p.1] with
         | none=>rfl
         | some l =>
          simp only [bS]
          unfold asm_read_j3 asm_read_j1
          rw [if_pos h3]
          simp
       ·rw [if_pos h3,if_neg (fun h=>h4 h.2)]
        unfold asm_read_j2 asm_read_j1
        rw [if_neg (by simpa using h4)]
        simp
      ·rw [if_neg h3,if_neg (fun h=>h3 h.1)]
       unfold asm_read_j2 asm_read_j1
       simp
    ·cases h2:asm_head bs us r.1 with
     | none=>rfl
     | some p =>
      simp only [bS]
      unfold asm_read_j1
      split <;> rfl
  ·rename_i h
   unfold asm_read_j1
   rw [if_neg h]
 ·rfl
theorem idx_app (c:UInt8) (t:List UInt8):∀ s:List UInt8,0≤Lib.index s [c]→Lib.index (s++t) [c]=Lib.index s [c]
 | [],h=>by simp [Lib.index] at h
 | b::l,h=>by
  rw [List.cons_append]
  unfold Lib.index at h ⊢
  have e:[c].isPrefixOf (b::(l++t))=[c].isPrefixOf (b::l):=by simp [List.isPrefixOf]
  rw [e]
  split
  ·rfl
  ·rename_i h1
   rw [if_neg h1] at h
   split at h
   ·omega
   ·rename_i h2
    have h3:=Lib.index_ge l [c]
    have h4:0≤Lib.index l [c]:=by simp at h2; omega
    rw [idx_app c t l h4]
theorem cut_app (c:UInt8) (s t a b:List UInt8) (h:Lib.cut s [c]=(a,b,true)):Lib.cut (s++t) [c]=(a,b++t,true)∧b.length<s.length∧s≠[]:=by
 unfold Lib.cut at h ⊢
 split at h
 ·rename_i h0
  have hr:=Lib.index_room s [c] h0
  simp only [Prod.mk.injEq,and_true] at h
  obtain ⟨rfl,rfl⟩:=h
  rw [idx_app c t s h0,if_pos h0]
  simp only [List.length_singleton] at hr ⊢
  refine ⟨?_,by simp; omega,by rintro rfl; simp [Lib.index] at h0⟩
  rw [List.take_append_of_le_length (by omega),List.drop_append_of_le_length (by omega)]
 ·simp at h
theorem app_ok {α:Type} {l xs:List α} (h:l.length+xs.length≤4294967296):app l xs=some (l++xs):=if_pos h
theorem pieces_le (sep:List UInt8):∀ (k:Nat) (s:List UInt8),∀ x ∈ Lib.splitK sep 0 k s,x.length≤s.length
 | 0,s,x,h=>by simp [Lib.splitK] at h; subst h; exact Nat.le_refl _
 | k+1,s,x,h=>by
  rw [Lib.splitK] at h
  split at h
  ·simp at h; subst h; exact Nat.le_refl _
  ·rcases List.mem_cons.1 h with rfl | h
   ·simp; omega
   ·exact Nat.le_trans (pieces_le sep k _ x h) (by simp)
theorem pieces_ne (sep:List UInt8) (k:Nat) (s:List UInt8):Lib.splitK sep 0 k s≠[]:=by
 cases k with
 | zero=>simp [Lib.splitK]
 | succ k=>rw [Lib.splitK]; split <;> simp
theorem pieces_len (sep:List UInt8):∀ (k:Nat) (s:List UInt8),(Lib.splitK sep 0 k s).length≤k+1
 | 0,s=>by simp [Lib.splitK]
 | k+1,s=>by
  rw [Lib.splitK]
  split
  ·simp
  ·have:=pieces_len sep k (s.drop ((Lib.index s sep).toNat+sep.length))
   simp; omega
theorem split_some {a:List UInt8} {c:UInt8} (h:a.length≤60000):∃ l,s_split a [c]=some l∧l≠[]∧l.length≤60002∧∀ x ∈ l,x.length≤60000:=by
 refine ⟨Lib.splitK [c] 0 (Lib.count a [c]) a,?_,pieces_ne _ _ _,?_,fun x hx=>Nat.le_trans (pieces_le _ _ _ x hx) h⟩
 ·unfold s_split
  rw [if_pos ⟨by omega,by simp⟩,Lib.splitB_data]
 ·have:=pieces_len [c] (Lib.count a [c]) a
  have:=Lib.count_le a [c]
  omega
theorem number_some {a:List UInt8} (h:a.length≤60000):∃ r,asm_number a=some r:=by
 unfold asm_number
 rw [if_pos (by omega)]
 exact ⟨_,rfl⟩
theorem numbers_l_some (l:List (List UInt8)) (hl:l.length≤60002) (hx:∀ x ∈ l,x.length≤60000):∀ (n i:Nat) (out:List Int),i≤l.length→l.length<n+i→out.length=i→∃ r,asm_numbers_l1 l n i out=some r∧r.1.length≤60002:=by
 intro n
 induction n with
 | zero=>intro i out h1 h2; omega
 | succ n ih =>
  intro i out h1 h2 h3
  unfold asm_numbers_l1
  split
  ·rename_i h
   have h:i<l.length:=by omega
   obtain ⟨r,hr⟩:=number_some (hx _ (List.getElem_mem h))
   rw [at_ok h,bS,hr,bS]
   split
   ·rw [app_ok (by simp; omega),bS,i64_ok (by omega),bS]
    exact ih (i+1) _ (by omega) (by omega) (by simp; omega)
   ·exact ⟨_,rfl,by simp⟩
  ·exact ⟨_,rfl,by simp; omega⟩
theorem numbers_some {l:List (List UInt8)} (hl:l.length≤60002) (hx:∀ x ∈ l,x.length≤60000):∃ r,asm_numbers l=some r∧r.1.length≤60002 :=
 numbers_l_some l hl hx (l.length+1) 0 [] (by omega) (by omega) rfl
theorem idx_range (x:ByteArray):∀ (zs:List ByteArray) (i:Nat),-1≤Lib.idxFromS zs x i∧Lib.idxFromS zs x i<i+zs.length
 | [],i=>by simp [Lib.idxFromS]; omega
 | z::zs,i=>by
  rw [Lib.idxFromS]
  split
  ·simp; omega
  ·have:=idx_range x zs (i+1)
   simp; omega
theorem sidx_some (l:List (List UInt8)) (x:List UInt8):∃ r,s_idx l x=some r∧-1≤r∧r<l.length:=by
 refine ⟨_,rfl,?_⟩
 have:=idx_range ⟨⟨x⟩⟩ (l.map fun y=>⟨⟨y⟩⟩) 0
 simpa [Lib.idxOfS] using this
theorem has_j1_some (i:Int) (b:Bool):∃ r,asm_has_j1 i b=some r:=by
 unfold asm_has_j1
 split <;> exact ⟨_,rfl⟩
theorem has_some (i:Int):∃ r,asm_has i=some r:=by
 unfold asm_has
 repeat' split
 all_goals exact has_j1_some _ _
theorem instr_some {a:List UInt8} (h:a.length≤60000):∃ r,asm_instr a=some r:=by
 obtain ⟨l,e1,hne,hl,hx⟩:=split_some (c:=32) h
 have hpos:0<l.length:=List.length_pos_iff.2 hne
 unfold asm_instr
 have e2:at_ l 0=some l[0]:=at_ok (i:=0) hpos
 rw [e1,bS,e2,bS]
 unfold asm_mnem
 rw [bS]
 obtain ⟨r,e3,h1,h2⟩:=sidx_some [[112,117,115,104],[116,114,117,116,104],[108,111,97,100],[115,116,111,114,101],[100,114,111,112],[110,101,103],[110,111,116],[97,100,100],[115,117,98],[109,117,108],[100,105,118],[109,111,100],[101,113],[110,101],[108,116],[108,101],[103,116],[103,101],[97,110,100],[111,114],[106,117,109,112],[101,108,115,101],[99,97,108,108],[114,101,116],[101,110,100],[115,101,110,100],[114,101,99,118],[111,117,116],[115,116,97,114,116],[114,101,115,117,109,101],[121,105,101,108,100],[97,108,105,118,101]] l[0]
 simp only [List.length_cons,List.length_nil] at h2
 rw [e3,bS,i64_ok (by omega),bS]
 unfold asm_instr_j1
 obtain ⟨q,hq⟩:=has_some (r+1)
 rw [hq,bS]
 have j5:∀ a b c d,∃ r,asm_instr_j5 a b c d=some r:=fun a b c d=>⟨_,rfl⟩
 have j4:∀ w b,(b=true∨w=1∨2≤l.length)→∃ r',asm_instr_j4 l (r+1) q w b=some r':=by
  intro w b hw
  unfold asm_instr_j4
  split
  ·exact ⟨_,rfl⟩
  ·split
   ·exact ⟨_,rfl⟩
   ·rename_i c1 c2
    have h2:1<l.length:=by
     rcases hw with h | h | h
     ·exact absurd h c1
     ·exact absurd h c2
     ·omega
    obtain ⟨v,hv⟩:=number_some (hx _ (List.getElem_mem h2))
    have e4:at_ l 1=some l[1]:=at_ok (i:=1) h2
    rw [e4,bS,hv,bS]
    split <;> exact j5 _ _ _ _
 have j3:∀ w,(w=1∨w=2)→∃ r',asm_instr_j3 l (r+1) q w=some r':=by
  intro w hw
  unfold asm_instr_j3
  split
  ·exact j4 _ _ (.inl rfl)
  ·refine j4 _ _ ?_
   rcases hw with rfl | rfl
   ·exact .inr (.inl rfl)
   ·by_cases hl2:(l.length:Int)=2
    ·exact .inr (.inr (by omega))
    ·exact .inl (by simpa using hl2)
 have j2:∀ b,∃ r',asm_instr_j2 l (r+1) q b=some r':=by
  intro b
  unfold asm_instr_j2
  split
  ·exact j3 _ (.inr rfl)
  ·exact j3 _ (.inl rfl)
 split <;> exact j2 _
structure Inv (k:Nat) (bs:List TBi) (us:List TUnit):Prop where
 b:bs.length≤k
 u:us.length≤k
 e:∀ x ∈ us,x.Code.length≤k∧x.Locals.length≤60002
theorem Inv.mono {k k':Nat} {bs:List TBi} {us:List TUnit} (h:Inv k bs us) (hk:k≤k'):Inv k' bs us :=
 ⟨by have:=h.b; omega,by have:=h.u; omega,fun x hx=>by have:=h.e x hx; omega⟩
theorem cut_ok {α:Type} {l:List α} {i j:Int} (h:0≤i∧i≤j∧j≤l.length):cut l i j=some ((l.take j.toNat).drop i.toNat):=if_pos h
theorem head_some {k:Nat} {bs:List TBi} {us:List TUnit} {ln:List UInt8} (hI:Inv k bs us) (hk:k≤60000) (h:ln.length≤60000):∃ b bs' us',asm_head bs us ln=some (b,bs',us')∧Inv (k+1) bs' us':=by
 obtain ⟨l,e1,hne,hl,hx⟩:=split_some (c:=32) h
 have hpos:0<l.length:=List.length_pos_iff.2 hne
 have hb:=hI.b
 have hu:=hI.u
 have stay:Inv (k+1) bs us:=hI.mono (by omega)
 unfold asm_head
 rw [e1,bS,cut_ok (by omega),bS]
 obtain ⟨r,e2,hr⟩:=numbers_some (l:=(l.take (l.length:Int).toNat).drop (1:Int).toNat) (by simp; omega) (fun x hx'=>hx x (List.mem_of_mem_take (List.mem_of_mem_drop hx')))
 rw [e2,bS]
 split
 ·have e3:at_ l 0=some l[0]:=at_ok (i:=0) hpos
  rw [e3,bS]
  split
  ·have j1:∀ b,(b=true∨(r.1.length:Int)=2)→∃ b' bs' us',asm_head_j1 bs us r b=some (b',bs',us')∧Inv (k+1) bs' us':=by
    intro b hb'
    unfold asm_head_j1
    split
    ·exact ⟨_,_,_,rfl,stay⟩
    ·rename_i c
     have h2:r.1.length=2:=by rcases hb' with h | h; exact absurd h c; omega
     have f1:at_ r.1 0=some r.1[0]:=at_ok (i:=0) (by omega)
     have f2:at_ r.1 1=some r.1[1]:=at_ok (i:=1) (by omega)
     rw [f1,bS,f2,bS,app_ok (by simp; omega),bS]
     exact ⟨_,_,_,rfl,⟨by simp; omega,by omega,stay.e⟩⟩
   split
   ·exact j1 _ (.inl rfl)
   ·rename_i c; exact j1 _ (.inr (by omega))
  ·rw [bS]
   unfold asm_units
   rw [bS]
   obtain ⟨q,e4,h1,h2⟩:=sidx_some [[102,110],[103,101,110],[116,97,115,107]] l[0]
   simp only [List.length_cons,List.length_nil] at h2
   rw [e4,bS]
   have j4:∀ b,(b=true∨3≤r.1.length)→∃ b' bs' us',asm_head_j4 bs us r q b=some (b',bs',us')∧Inv (k+1) bs' us':=by
    intro b hb'
    unfold asm_head_j4
    split
    ·exact ⟨_,_,_,rfl,stay⟩
    ·rename_i c
     have h2:3≤r.1.length:=by rcases hb' with h | h; exact absurd h c; exact h
     have f1:at_ r.1 0=some r.1[0]:=at_ok (i:=0) (by omega)
     have f2:at_ r.1 1=some r.1[1]:=at_ok (i:=1) (by omega)
     have f3:at_ r.1 2=some r.1[2]:=at_ok (i:=2) (by omega)
     rw [i64_ok (by omega),bS,f1,bS,f2,bS,f3,bS,cut_ok (by omega),bS,app_ok (by simp; omega),bS]
     refine ⟨_,_,_,rfl,⟨by omega,by simp; omega,fun x hx=>?_⟩⟩
     rcases List.mem_append.1 hx with hx | hx
     ·exact stay.e x hx
     ·simp at hx; subst hx; simp; omega
   unfold asm_head_j3
   split
   ·exact j4 _ (.inl rfl)
   ·by_cases h3:3≤r.1.length
    ·exact j4 _ (.inr h3)
    ·exact j4 _ (.inl (by simp; omega))
 ·exact ⟨_,_,_,rfl,stay⟩
theorem line_some {k:Nat} {bs:List TBi} {us:List TUnit} {ln:List UInt8} (hI:Inv k bs us) (hk:k≤60000) (h:ln.length≤60000):∃ b bs' us',line bs us ln=some (b,bs',us')∧Inv (k+1) bs' us':=by
 have stay:Inv (k+1) bs us:=hI.mono (by omega)
 unfold line
 unfold s_pre
 rw [bS]
 split
 ·have hp:(Lib.trimPrefix ln [9]).length≤60000:=by
   unfold Lib.trimPrefix; split <;> first | exact h | (simp; omega)
  obtain ⟨q,hq⟩:=instr_some hp
  rw [hq,bS]
  split
  ·rename_i c
   have hu:=hI.u
   have hne:us≠[]:=fun e=>by rw [e] at c; simp at c
   obtain ⟨init,x,rfl⟩:∃ init x,us=init++[x]:=⟨us.dropLast,us.getLast hne,(List.dropLast_concat_getLast hne).symm⟩
   have hx:=hI.e x (by simp)
   have e1:at_ (init++[x]) (((init++[x]).length:Int) - 1)=some x:=by
    rw [show (((init++[x]).length:Int) - 1)=(init.length:Int) by simp,at_ok (by simp)]
    simp
   rw [e1,bS,app_ok (by simp; omega),bS,uset_app]
   refine ⟨_,_,_,rfl,⟨stay.b,by simpa using stay.u,fun y hy=>?_⟩⟩
   rcases List.mem_append.1 hy with hy | hy
   ·exact stay.e y (by simp [hy])
   ·simp at hy; subst hy
    show (x.Code++[q.1]).length≤k+1∧x.Locals.length≤60002
    simp; omega
  ·exact ⟨_,_,_,rfl,stay⟩
 ·exact head_some hI hk h
theorem cut_some {s:List UInt8} (h:s.length≤60000):s_cut s [10]=some (Lib.cut s [10]):=if_pos (by omega)
theorem cut_small {s:List UInt8}:(Lib.cut s [10]).1.length≤s.length:=by
 unfold Lib.cut
 split
 ·simp; omega
 ·exact Nat.le_refl _
theorem read_some:∀ (n:Nat) (s:List UInt8) (k:Nat) (us:List TUnit) (bs:List TBi),s.length<n→Inv k bs us→k+s.length≤60000 →
  ∃ m f,asm_read_l1 n s k us bs=some (m,f)∧Inv 60000 m.Boxes m.Units∧(f.Err=0∨f.Err=2)∧(∀ n',n≤n'→asm_read_l1 n' s k us bs=some (m,f)):=by
 intro n
 induction n with
 | zero=>intro s k us bs h; omega
 | succ n ih =>
  intro s k us bs h1 hI h2
  have hu:=hI.u
  by_cases hs:s=[]
  ·refine ⟨⟨bs,us⟩,⟨0,0⟩,?_,hI.mono (by omega),.inl rfl,?_⟩
   ·rw [read_step _ _ _ _ _ (by omega),if_neg (by simpa using hs)]
   ·intro n' hn
    obtain ⟨n',rfl⟩:∃ q,n'=q+1:=⟨n' - 1,by omega⟩
    rw [read_step _ _ _ _ _ (by omega),if_neg (by simpa using hs)]
  ·rcases hcut:Lib.cut s [10] with ⟨a,b,c⟩
   have ha:a.length≤s.length:=by have:=cut_small (s:=s); rw [hcut] at this; exact this
   have nil:Inv 60000 [] []:=⟨by simp,by simp,by simp⟩
   cases c with
   | false =>
    refine ⟨⟨[],[]⟩,⟨2,k⟩,?_,nil,.inr rfl,?_⟩
    ·rw [read_step _ _ _ _ _ (by omega),if_pos hs,cut_some (by omega),bS,hcut]; rfl
    ·intro n' hn
     obtain ⟨n',rfl⟩:∃ q,n'=q+1:=⟨n' - 1,by omega⟩
     rw [read_step _ _ _ _ _ (by omega),if_pos hs,cut_some (by omega),bS,hcut]; rfl
   | true =>
    obtain ⟨-,hb,-⟩:=cut_app 10 s [] a b hcut
    obtain ⟨ok,bs',us',e,hI'⟩:=line_some (ln:=a) hI (by omega) (by omega)
    cases ok with
    | false =>
     refine ⟨⟨[],[]⟩,⟨2,k⟩,?_,nil,.inr rfl,?_⟩
     ·rw [read_step _ _ _ _ _ (by omega),if_pos hs,cut_some (by omega),bS,hcut,if_pos rfl,e,bS]; rfl
     ·intro n' hn
      obtain ⟨n',rfl⟩:∃ q,n'=q+1:=⟨n' - 1,by omega⟩
      rw [read_step _ _ _ _ _ (by omega),if_pos hs,cut_some (by omega),bS,hcut,if_pos rfl,e,bS]; rfl
    | true =>
     obtain ⟨m,f,e1,e2,e3,e4⟩:=ih b (k+1) us' bs' (by omega) hI' (by omega)
     have st:∀ q,asm_read_l1 (q+1) s k us bs=asm_read_l1 q b (k+1:Nat) us' bs':=fun q=>by
      rw [read_step _ _ _ _ _ (by omega),if_pos hs,cut_some (by omega),bS,hcut,if_pos rfl,e,bS,if_pos rfl,i64_ok (by omega),bS]
      rfl
     refine ⟨m,f,by rw [st]; exact e1,e2,e3,?_⟩
     intro n' hn
     obtain ⟨n',rfl⟩:∃ q,n'=q+1:=⟨n' - 1,by omega⟩
     rw [st]
     exact e4 n' (by omega)
end Go.Y
namespace Go.Y
open Go.Wk Go.Xt
theorem w64_i {n:Int} (h0:-9223372036854775808≤n) (h1:n≤9223372036854775807):w64 n=n:=by
 unfold w64
 rw [IntKind.wrap_i64]; omega
theorem w8_i {n:Int} (h0:0≤n) (h1:n<256):w8 n=n:=by
 unfold w8
 rw [IntKind.wrap_u8]; omega
theorem dec_small {u:Nat} (h:u<10):Lib.decDigits u=[UInt8.ofNat (48+u)]:=by rw [Lib.decDigits,dif_pos h]
theorem dec_big {u:Nat} (h:¬ u<10):Lib.decDigits u=Lib.decDigits (u / 10)++[UInt8.ofNat (48+u % 10)]:=by rw [Lib.decDigits,dif_neg h]
theorem dec_len:∀ (n u:Nat),u<10 ^ (n+1)→(Lib.decDigits u).length≤n+1:=by
 intro n
 induction n with
 | zero=>intro u h; rw [dec_small (by simpa using h)]; simp
 | succ n ih =>
  intro u h
  by_cases c:u<10
  ·rw [dec_small c]; simp
  ·rw [dec_big c]
   have:=ih (u / 10) (by rw [Nat.pow_succ] at h; omega)
   simp; omega
theorem one_dig {r:Int} {k:Nat} (hk:k<10) (hr:r=48+(k:Int)):((i32 (w64 r)).bind fun i=>rune1 i)=some [UInt8.ofNat (48+k)]:=by
 subst hr
 rw [w64_i (by omega) (by omega)]
 unfold i32
 rw [if_pos (by omega),Option.bind_some]
 unfold rune1
 rw [if_pos (by omega)]
 congr 3
theorem p19:(10:Nat) ^ (18+1)=10000000000000000000:=by decide
theorem dig_n:∀ (n u:Nat),u<10 ^ (n+1)→u≤9223372036854775808 →
  (u≤9223372036854775807→(R13D_run (n+1)).r13_digits (u:Int)=some (Lib.decDigits u))∧(1≤u→(R13D_run (n+1)).r13_digits (-(u:Int))=some (45::Lib.decDigits u)):=by
 intro n
 induction n with
 | zero =>
  intro u h hu
  have h10:u<10:=by simpa using h
  refine ⟨fun _=>?_,fun h1=>?_⟩
  ·show r13_digits (R13D_run 0) (u:Int)=_
   unfold r13_digits
   rw [if_neg (by omega),if_neg (by omega),dec_small h10]
   have:=one_dig (r:=48+(u:Int)) h10 rfl
   cases hi:i32 (w64 (48+(u:Int))) with
   | none=>rw [hi] at this; cases this
   | some i=>rw [hi,Option.bind_some] at this; rw [Option.bind_some,this]; rfl
  ·show r13_digits (R13D_run 0) (-(u:Int))=_
   unfold r13_digits
   rw [if_pos (by omega),if_neg (by omega),dec_small h10]
   have:=one_dig (r:=48 - -(u:Int)) h10 (by omega)
   cases hi:i32 (w64 (48 - -(u:Int))) with
   | none=>rw [hi] at this; cases this
   | some i=>rw [hi,Option.bind_some] at this; rw [Option.bind_some,this]; rfl
 | succ n ih =>
  intro u h hu
  obtain ⟨i1,i2⟩:=ih (u / 10) (by rw [Nat.pow_succ] at h; omega) (by omega)
  refine ⟨fun h9=>?_,fun h1=>?_⟩
  ·show r13_digits (R13D_run (n+1)) (u:Int)=_
   unfold r13_digits
   rw [if_neg (by omega)]
   by_cases c:u<10
   ·rw [if_neg (by omega),dec_small c]
    have:=one_dig (r:=48+(u:Int)) c rfl
    cases hi:i32 (w64 (48+(u:Int))) with
    | none=>rw [hi] at this; cases this
    | some i=>rw [hi,Option.bind_some] at this; rw [Option.bind_some,this]; rfl
   ·rw [if_pos (by omega)]
    have hq:quo (u:Int) 10=some ((u / 10:Nat):Int):=by
     unfold quo
     rw [if_neg (by decide)]
     have:(u:Int).tdiv 10=((u / 10:Nat):Int):=by
      rw [Int.tdiv_eq_ediv_of_nonneg (by omega)]; omega
     rw [this,w64_i (by omega) (by omega)]
    have hm:remt (u:Int) 10=some ((u % 10:Nat):Int):=by
     unfold remt
     rw [if_neg (by decide)]
     have:(u:Int).tmod 10=((u % 10:Nat):Int):=by
      rw [Int.tmod_eq_emod_of_nonneg (by omega)]; omega
     rw [this]
    rw [hq,Option.bind_some,i1 (by omega),Option.bind_some,hm,Option.bind_some,dec_big c]
    have:=one_dig (r:=48+((u % 10:Nat):Int)) (Nat.mod_lt u (by decide)) rfl
    have hl:=dec_len 18 (u / 10) (by rw [p19]; omega)
    cases hi:i32 (w64 (48+((u % 10:Nat):Int))) with
    | none=>rw [hi] at this; cases this
    | some i =>
     rw [hi,Option.bind_some] at this
     rw [Option.bind_some,this,Option.bind_some]
     unfold cat
     rw [if_pos (by simp; omega)]; rfl
  ·show r13_digits (R13D_run (n+1)) (-(u:Int))=_
   unfold r13_digits
   rw [if_pos (by omega)]
   by_cases c:u<10
   ·rw [if_neg (by omega),dec_small c]
    have:=one_dig (r:=48 - -(u:Int)) c (by omega)
    cases hi:i32 (w64 (48 - -(u:Int))) with
    | none=>rw [hi] at this; cases this
    | some i=>rw [hi,Option.bind_some] at this; rw [Option.bind_some,this]; rfl
   ·rw [if_pos (by omega)]
    have hq:quo (-(u:Int)) 10=some (-((u / 10:Nat):Int)):=by
     unfold quo
     rw [if_neg (by decide)]
     have:(-(u:Int)).tdiv 10=-((u / 10:Nat):Int):=by
      rw [Int.neg_tdiv,Int.tdiv_eq_ediv_of_nonneg (by omega)]; omega
     rw [this,w64_i (by omega) (by omega)]
    have hm:remt (-(u:Int)) 10=some (-((u % 10:Nat):Int)):=by
     unfold remt
     rw [if_neg (by decide)]
     have:(-(u:Int)).tmod 10=-((u % 10:Nat):Int):=by
      rw [Int.neg_tmod,Int.tmod_eq_emod_of_nonneg (by omega)]; omega
     rw [this]
    rw [hq,Option.bind_some,i2 (by omega),Option.bind_some,hm,Option.bind_some,dec_big c]
    have:=one_dig (r:=48 - -((u % 10:Nat):Int)) (Nat.mod_lt u (by decide)) (by omega)
    have hl:=dec_len 18 (u / 10) (by rw [p19]; omega)
    cases hi:i32 (w64 (48 - -((u % 10:Nat):Int))) with
    | none=>rw [hi] at this; cases this
    | some i =>
     rw [hi,Option.bind_some] at this
     rw [Option.bind_some,this,Option.bind_some]
     unfold cat
     rw [if_pos (by simp; omega)]; rfl
theorem digits_e {fu:Nat} (hf:21≤fu) {x:Int} (h:R64 x):(R13D_run fu).r13_digits x=some (Lib.itoa x):=by
 obtain ⟨h0,h1⟩:=h
 obtain ⟨n,rfl⟩:∃ n,fu=n+1:=⟨fu - 1,by omega⟩
 have hp:(10:Nat) ^ (18+1)≤10 ^ (n+1):=Nat.pow_le_pow_right (by decide) (by omega)
 rw [p19] at hp
 unfold Lib.itoa
 by_cases c:x<0
 ·rw [if_pos c]
  have:=(dig_n n x.natAbs (by omega) (by omega)).2 (by omega)
  rw [← this]
  congr 1
  omega
 ·rw [if_neg c]
  have:=(dig_n n x.toNat (by omega) (by omega)).1 (by omega)
  rw [← this]
  congr 1
  omega
theorem itoa_len {x:Int} (h:R64 x):1≤(Lib.itoa x).length∧(Lib.itoa x).length≤20:=by
 obtain ⟨h0,h1⟩:=h
 unfold Lib.itoa
 by_cases c:x<0
 ·rw [if_pos c]
  have:=dec_len 18 x.natAbs (by rw [p19]; omega)
  simp; omega
 ·rw [if_neg c]
  have:=dec_len 18 x.toNat (by rw [p19]; omega)
  refine ⟨?_,by omega⟩
  by_cases d:x.toNat<10
  ·rw [dec_small d]; simp
  ·rw [dec_big d]; simp
end Go.Y
namespace Go.Y
open Go.Wk Go.Xt
def nums (ns:List Int):List UInt8:=(ns.map fun n=>32::Lib.itoa n).flatten
theorem nums_cons (a:Int) (l:List Int):nums (a::l)=32::Lib.itoa a++nums l:=by simp [nums]
theorem nums_len {ns:List Int} (h:∀ n ∈ ns,R64 n):(nums ns).length≤21*ns.length:=by
 induction ns with
 | nil=>simp [nums]
 | cons a l ih =>
  have h1:=itoa_len (h a (by simp))
  have h2:=ih fun n hn=>h n (by simp [hn])
  unfold nums at h2 ⊢
  simp only [List.map_cons,List.flatten_cons,List.length_append,List.length_cons]
  omega
theorem cat_t {a b:List UInt8} (h:a.length+b.length≤4294967296):cat a b=some (a++b):=by unfold cat; rw [if_pos (by omega)]
theorem app_t {α:Type} {a b:List α} (h:a.length+b.length≤4294967296):app a b=some (a++b):=by unfold app; rw [if_pos h]
theorem str_t {a b:List UInt8} (h:a.length+b.length≤4294967296):bd_str a b=some ((b.length:Int),(),a++b):=by unfold bd_str; rw [app_t h]; rfl
theorem byte_t {a:List UInt8} {c:UInt8} (h:a.length+1≤4294967296):bd_byte a c=some ((),a++[c]):=by unfold bd_byte; rw [app_t (by simpa using h)]; rfl
theorem fmt_t {n:Int} (h:R64 n):fmt10 n=some (Lib.itoa n):=by unfold fmt10; rw [if_pos ⟨h.1,h.2⟩]
theorem drop_e {α:Type} {l:List α} {i:Nat} (h:i<l.length):l.drop i=l[i]::l.drop (i+1):=List.drop_eq_getElem_cons h
theorem line_l1 {ns:List Int} (h:∀ n ∈ ns,R64 n) (hl:ns.length≤10000000):∀ (n i:Nat) (b:List UInt8),i≤ns.length→ns.length - i<n→b.length+21*(ns.length - i)+1≤4294967296→pr_line_l1 ns n (i:Int) b=some (b++nums (ns.drop i)++[10]):=by
 intro n
 induction n with
 | zero=>intro i b _ h; omega
 | succ n ih =>
  intro i b hi hn hb
  unfold pr_line_l1
  by_cases c:i<ns.length
  ·have hr:=h _ (List.getElem_mem c)
   have h1:=itoa_len hr
   rw [if_pos (by omega),at_ok c,Option.bind_some,fmt_t hr,Option.bind_some,cat_t (by simp; omega),Option.bind_some,str_t (by simp; omega),Option.bind_some,i64_ok (by omega),Option.bind_some]
   have:=ih (i+1) (b++32::Lib.itoa ns[i]) c (by omega) (by simp; omega)
   rw [show ((i:Int)+1)=((i+1:Nat):Int) by omega]
   refine this.trans ?_
   rw [drop_e c,nums_cons]
   simp only [List.append_assoc,List.cons_append,List.nil_append]
  ·rw [if_neg (by omega),byte_t (by omega),Option.bind_some,List.drop_of_length_le (by omega)]
   simp [nums]
theorem line_t {ns:List Int} {w b:List UInt8} (h:∀ n ∈ ns,R64 n) (hl:ns.length≤10000000) (hb:b.length+w.length+21*ns.length+1≤4294967296):pr_line w ns b=some (b++w++nums ns++[10]):=by
 unfold pr_line
 rw [str_t (by omega),Option.bind_some]
 have:=line_l1 h hl (ns.length+1) 0 (b++w) (by omega) (by omega) (by simp; omega)
 simpa using this
def wordOk (k:Nat):Bool:=match r13_word ((k:Int)+1),asm_has ((k:Int)+1),asm_mnem.bind fun l=>at_ l (k:Int) with
 | some (w,h),some (n,a),some x=>decide (w=x) && decide (w≠[]) && decide (w.length≤6) && decide (32 ∉ w∧10 ∉ w) && (decide (h=2∧n=true∧a=false) || decide (h=1∧n=false∧a=true) || decide (h=0∧n=false∧a=false))
 | _,_,_=>false
theorem word_all:∀ k:Nat,k<32→wordOk k=true:=by decide +kernel
theorem word_e {op:Int} (h0:1≤op) (h1:op≤32):∃ w h n a l,r13_word op=some (w,h)∧asm_has op=some (n,a)∧asm_mnem=some l∧at_ l (op - 1)=some w∧w≠[]∧w.length≤6∧(32 ∉ w∧10 ∉ w)∧((h=2∧n=true∧a=false)∨(h=1∧n=false∧a=true)∨(h=0∧n=false∧a=false)):=by
 obtain ⟨k,rfl⟩:∃ k:Nat,op=(k:Int)+1:=⟨(op - 1).toNat,by omega⟩
 have:=word_all k (by omega)
 unfold wordOk at this
 rw [show ((k:Int)+1 - 1)=(k:Int) by omega]
 cases e1:r13_word ((k:Int)+1) with
 | none=>rw [e1] at this; simp at this
 | some q =>
  obtain ⟨w,h⟩:=q
  cases e2:asm_has ((k:Int)+1) with
  | none=>rw [e1,e2] at this; simp at this
  | some q =>
   obtain ⟨n,a⟩:=q
   obtain ⟨l,hl⟩:∃ l,asm_mnem=some l:=⟨_,rfl⟩
   cases e3:at_ l (k:Int) with
   | none=>rw [e1,e2,hl,Option.bind_some,e3] at this; simp at this
   | some x =>
    rw [e1,e2,hl,Option.bind_some,e3] at this
    simp only [Bool.and_eq_true,Bool.or_eq_true,decide_eq_true_eq] at this
    obtain ⟨⟨⟨⟨rfl,t2⟩,t3⟩,t4⟩,t5⟩:=this
    exact ⟨w,h,n,a,l,rfl,rfl,hl,e3,t2,t3,t4,by rcases t5 with (t | t) | t <;> simp [t]⟩
theorem word_no {op:Int} (h:¬ (1≤op∧op≤32)):r13_word op=some ([],0):=by
 unfold r13_word
 by_cases c:op<1
 ·rw [if_pos c]; rfl
 ·rw [if_neg c,decide_eq_true (by omega)]; rfl
def insT (w:List UInt8) (h:Int) (i:TInstr):List UInt8:=9::w++(if h=1 then 32::Lib.itoa i.A else [])++(if h=2 then 32::Lib.itoa i.N else [])++[10]
theorem insT_len {w:List UInt8} {h:Int} {i:TInstr} (hi:MzC i) (hw:w.length≤6):(insT w h i).length≤60:=by
 have h1:=itoa_len hi.2.1
 have h2:=itoa_len hi.2.2
 unfold insT
 split <;> split <;> simp <;> omega
section
variable {fu:Nat} {k:Int} {x:TUnit} {s:List UInt8} {K:Int→List UInt8→Option (List UInt8×TWhere)} {K':List UInt8→Int→Option (List UInt8×TWhere)}
theorem code_e (hf:21≤fu) (hx:MzU x) (hk:-1≤k∧k≤10000000) (hK:∀ b:List UInt8,b.length≤60000→K (k+1) b=K' b (k+1)) (hs:s.length≤1000000000):∀ (n i:Nat) (p:List UInt8),p.length≤60*i→i≤x.Code.length→asm_print_l3 k x K n (i:Int) (s++p)=r13_print_l4 fu k x s K' n p (i:Int):=by
 obtain ⟨-,-,-,-,-,hc,hcr⟩:=hx
 intro n
 induction n with
 | zero=>intros; rfl
 | succ n ih =>
  intro i p hp hi
  unfold asm_print_l3 r13_print_l4
  by_cases c:i<x.Code.length
  ·have hr:=hcr _ (List.getElem_mem c)
   generalize hq:x.Code[i]=q at hr
   rw [if_pos (by omega),if_pos (by omega),at_ok c,hq,Option.bind_some,Option.bind_some]
   by_cases ho:1≤q.Op∧q.Op≤32
   ·obtain ⟨w,h,nn,aa,l,e1,e2,e3,e4,e5,e6,-,e7⟩:=word_e ho.1 ho.2
    have hA:=itoa_len hr.2.1
    have hN:=itoa_len hr.2.2
    rw [if_neg (by omega),e1,Option.bind_some,if_neg e5,decide_eq_false (by omega)]
    have key:asm_print_j3 k (i:Int) (s++p) q (asm_print_l3 k x K n) false=asm_print_l3 k x K n ((i+1:Nat):Int) (s++(p++insT w h q)):=by
     unfold asm_print_j3
     rw [if_neg (by decide),i64_ok (by omega),Option.bind_some,e3,Option.bind_some,e4,Option.bind_some,cat_t (by simp; omega),Option.bind_some]
     unfold asm_print_j4
     rw [e2,Option.bind_some]
     rcases e7 with ⟨rfl,rfl,rfl⟩ | ⟨rfl,rfl,rfl⟩ | ⟨rfl,rfl,rfl⟩
     ·rw [if_pos rfl,cat_t (by simp; omega),Option.bind_some,fmt_t hr.2.2,Option.bind_some,cat_t (by simp; omega),Option.bind_some,cat_t (by simp; omega),Option.bind_some,str_t (by simp; omega),Option.bind_some,i64_ok (by omega),Option.bind_some,show ((i:Int)+1)=((i+1:Nat):Int) by omega]
      congr 1
      simp [insT]
     ·rw [if_neg (by decide),if_pos rfl,line_t (by simpa using hr.2.1) (by simp) (by simp; omega),Option.bind_some,i64_ok (by omega),Option.bind_some,show ((i:Int)+1)=((i+1:Nat):Int) by omega]
      congr 1
      simp [insT,nums]
     ·rw [if_neg (by decide),if_neg (by decide),line_t (by simp) (by simp) (by simp; omega),Option.bind_some,i64_ok (by omega),Option.bind_some,show ((i:Int)+1)=((i+1:Nat):Int) by omega]
      congr 1
      simp [insT,nums]
    have hl:=insT_len (h:=h) hr e6
    rw [key,ih (i+1) _ (by simp; omega) c,cat_t (by simp; omega),Option.bind_some,cat_t (by simp; omega),Option.bind_some]
    rcases e7 with ⟨rfl,-,-⟩ | ⟨rfl,-,-⟩ | ⟨rfl,-,-⟩
    ·rw [if_neg (by simp)]
     unfold r13_print_j2
     rw [if_pos rfl,cat_t (by simp; omega),Option.bind_some,digits_e hf hr.2.2,Option.bind_some,cat_t (by simp; omega),Option.bind_some,cat_t (by simp; omega),Option.bind_some,i64_ok (by omega),Option.bind_some,show ((i:Int)+1)=((i+1:Nat):Int) by omega]
     congr 1
     simp [insT]
    ·rw [if_pos rfl,cat_t (by simp; omega),Option.bind_some,digits_e hf hr.2.1,Option.bind_some,cat_t (by simp; omega),Option.bind_some]
     unfold r13_print_j2
     rw [if_neg (by simp),cat_t (by simp; omega),Option.bind_some,i64_ok (by omega),Option.bind_some,show ((i:Int)+1)=((i+1:Nat):Int) by omega]
     congr 1
     simp [insT]
    ·rw [if_neg (by simp)]
     unfold r13_print_j2
     rw [if_neg (by simp),cat_t (by simp; omega),Option.bind_some,i64_ok (by omega),Option.bind_some,show ((i:Int)+1)=((i+1:Nat):Int) by omega]
     congr 1
     simp [insT]
   ·rw [word_no ho,Option.bind_some,if_pos rfl]
    by_cases c1:q.Op<1
    ·rw [if_pos c1]; rfl
    ·rw [if_neg c1,decide_eq_true (by omega)]; rfl
  ·rw [if_neg (by omega),if_neg (by omega),cat_t (by omega),Option.bind_some]
   unfold bd_len
   rw [Option.bind_some]
   by_cases c6:(60000:Int)<((s++p).length:Int)
   ·rw [if_pos c6,if_pos c6]
   ·rw [if_neg c6,if_neg c6,i64_ok (by omega),Option.bind_some,Option.bind_some]
    exact hK _ (by omega)
theorem nums_l3 (hf:21≤fu) {ns:List Int} (h:∀ n ∈ ns,R64 n) (hl:ns.length≤10000000):∀ (n i:Nat) (b:List UInt8),i≤ns.length→ns.length - i<n→b.length+21*(ns.length - i)+1≤4294967296→r13_print_l3 fu k x ns K' n b (i:Int)=r13_print_l4 fu k x (b++nums (ns.drop i)++[10]) K' (x.Code.length+1) [] 0:=by
 intro n
 induction n with
 | zero=>intro i b _ h; omega
 | succ n ih =>
  intro i b hi hn hb
  unfold r13_print_l3
  by_cases c:i<ns.length
  ·have hr:=h _ (List.getElem_mem c)
   have h1:=itoa_len hr
   rw [if_pos (by omega),at_ok c,Option.bind_some,cat_t (by simp; omega),Option.bind_some,digits_e hf hr,Option.bind_some,cat_t (by simp; omega),Option.bind_some,i64_ok (by omega),Option.bind_some]
   have:=ih (i+1) (b++[32]++Lib.itoa ns[i]) c (by omega) (by simp; omega)
   rw [show ((i:Int)+1)=((i+1:Nat):Int) by omega]
   refine this.trans ?_
   rw [drop_e c,nums_cons]
   simp only [List.append_assoc,List.cons_append,List.nil_append]
  ·have h0:=nums_len h
   rw [if_neg (by omega),cat_t (by simp; omega),Option.bind_some,List.drop_of_length_le (by omega)]
   simp [nums]
end
theorem units_e {fu:Nat} (hf:21≤fu) {m:TModule} (hm:MzM m):∀ (n i:Nat) (b:List UInt8),b.length≤100000000→i≤m.Units.length→asm_print_l2 m n (i:Int) b=r13_print_l2 fu m n b (i:Int):=by
 obtain ⟨-,hul,hur⟩:=hm
 intro n
 induction n with
 | zero=>intros; rfl
 | succ n ih =>
  intro i b hb hi
  unfold asm_print_l2 r13_print_l2
  by_cases c:i<m.Units.length
  ·have hr:=hur _ (List.getElem_mem c)
   generalize hq:m.Units[i]=q at hr
   rw [if_pos (by omega),if_pos (by omega),at_ok c,hq,Option.bind_some,Option.bind_some]
   obtain ⟨r0,r1,r2,r3,⟨hll,hlr⟩,hcl,hcr⟩:=hr
   have hcode:=fun (s:List UInt8) (hs:s.length≤1000000000)=>code_e (K:=asm_print_l2 m n) (K':=r13_print_l2 fu m n) (k:=(i:Int)) (s:=s) hf ⟨r0,r1,r2,r3,⟨hll,hlr⟩,hcl,hcr⟩ (by omega) (fun b hb=>by
    have:=ih (i+1) b (by omega) c
    rw [show ((i:Int)+1)=((i+1:Nat):Int) by omega]
    exact this) hs (q.Code.length+1) 0 [] (by simp) (by omega)
   have hns:∀ y ∈ ([q.Params,q.Result,q.Takes]:List Int)++q.Locals,R64 y:=fun y hy=>by
    rcases List.mem_append.1 hy with h | h
    ·simp only [List.mem_cons,List.not_mem_nil,or_false] at h
     rcases h with rfl | rfl | rfl
     ·exact r1
     ·exact r2
     ·exact r3
    ·exact hlr y h
   have hnl:=nums_len hns
   simp only [List.length_append,List.length_cons,List.length_nil] at hnl
   have main:∀ w:List UInt8,w.length≤4→(app ([q.Params,q.Result,q.Takes]:List Int) q.Locals).bind (fun l755=>(pr_line w l755 b).bind fun r765=>asm_print_j2 (i:Int) q (asm_print_l2 m n) r765) =
     (cat b w).bind fun s597=>(app ([q.Params,q.Result,q.Takes]:List Int) q.Locals).bind fun l604=>r13_print_l3 fu (i:Int) q l604 (r13_print_l2 fu m n) (l604.length+1) s597 0:=fun w hw=>by
    rw [app_t (by simp; omega),Option.bind_some,line_t hns (by simp; omega) (by simp; omega),Option.bind_some,cat_t (by omega),Option.bind_some,Option.bind_some]
    unfold asm_print_j2
    have e:=nums_l3 (K':=r13_print_l2 fu m n) (k:=(i:Int)) (x:=q) hf hns (by simp; omega) (([q.Params,q.Result,q.Takes]++q.Locals).length+1) 0 (b++w) (by omega) (by omega) (by simp; omega)
    have e2:=hcode (b++w++nums ([q.Params,q.Result,q.Takes]++q.Locals)++[10]) (by simp at hnl ⊢; omega)
    rw [List.append_nil] at e2
    exact e2.trans e.symm
   by_cases hk:2≤q.Kind∧q.Kind≤4
   ·rw [if_neg (by omega),decide_eq_false (by omega)]
    unfold asm_print_j1
    rw [if_neg (by decide),i64_ok (by omega),Option.bind_some]
    have h3:q.Kind=2∨q.Kind=3∨q.Kind=4:=by omega
    rcases h3 with h | h | h
    ·rw [h]; exact main _ (by decide)
    ·rw [h]; exact main _ (by decide)
    ·rw [h]; exact main _ (by decide)
   ·have e0:(mget (mput (mput (mput ([]:List (Int×List UInt8)) 2 [102,110]) 3 [103,101,110]) 4 [116,97,115,107]) q.Kind).getD []=[]:=by
     show (mget [((2:Int),([102,110]:List UInt8)),(3,[103,101,110]),(4,[116,97,115,107])] q.Kind).getD []=[]
     simp only [mget]
     rw [if_neg (by omega),if_neg (by omega),if_neg (by omega)]; rfl
    rw [if_pos e0]
    by_cases c2:q.Kind<2
    ·rw [if_pos c2]; rfl
    ·rw [if_neg c2,decide_eq_true (by omega)]; rfl
  ·rw [if_neg (by omega),if_neg (by omega)]
   rfl
theorem print_e {fu:Nat} (hf:21≤fu) {m:TModule} (hm:MzM m):asm_print m=r13_print fu m:=by
 have key:∀ (n i:Nat) (b:List UInt8),b.length≤50*i→i≤m.Boxes.length→asm_print_l1 m n (i:Int) b=r13_print_l1 fu m n b (i:Int):=by
  intro n
  induction n with
  | zero=>intros; rfl
  | succ n ih =>
   intro i b hb hi
   unfold asm_print_l1 r13_print_l1
   have hbl:=hm.1.1
   by_cases c:i<m.Boxes.length
   ·obtain ⟨h1,h2⟩:=hm.1.2 _ (List.getElem_mem c)
    have l1:=itoa_len h1
    have l2:=itoa_len h2
    rw [if_pos (by omega),if_pos (by omega),at_ok c,Option.bind_some,Option.bind_some,line_t (by simp [h1,h2]) (by simp) (by simp; omega),Option.bind_some,i64_ok (by omega),Option.bind_some,cat_t (by simp; omega),Option.bind_some,digits_e hf h1,Option.bind_some,cat_t (by simp; omega),Option.bind_some,cat_t (by simp; omega),Option.bind_some,digits_e hf h2,Option.bind_some,cat_t (by simp; omega),Option.bind_some,cat_t (by simp; omega),Option.bind_some]
    unfold r13_print_j1
    rw [i64_ok (by omega),Option.bind_some,show ((i:Int)+1)=((i+1:Nat):Int) by omega]
    have:=ih (i+1) (b++[98,111,120]++nums [m.Boxes[i].Typ,m.Boxes[i].Cap]++[10]) (by simp [nums]; omega) c
    refine this.trans ?_
    congr 1
    simp [nums]
   ·rw [if_neg (by omega),if_neg (by omega)]
    exact units_e hf hm _ 0 b (by omega) (by omega)
 exact key _ 0 [] (by simp) (by omega)
end Go.Y
namespace Go.Y
open Go.Wk Go.Xt
theorem dec_dig:∀ (u:Nat),∀ c ∈ Lib.decDigits u,48≤c.toNat∧c.toNat≤57:=by
 intro u
 induction u using Nat.strongRecOn with
 | ind u ih =>
  intro c hc
  by_cases h:u<10
  ·rw [dec_small h,List.mem_singleton] at hc
   subst hc
   rw [UInt8.toNat_ofNat']; omega
  ·rw [dec_big h,List.mem_append,List.mem_singleton] at hc
   rcases hc with hc | rfl
   ·exact ih (u / 10) (by omega) c hc
   ·rw [UInt8.toNat_ofNat']; omega
theorem dec_ne (u:Nat):Lib.decDigits u≠[]:=by
 by_cases h:u<10
 ·rw [dec_small h]; simp
 ·rw [dec_big h]; simp
theorem parse_dec (M:Nat):∀ (u:Nat) (r:List UInt8),u≤M→u≤9223372036854775808→Lib.parseUintM M 0 (Lib.decDigits u++r)=Lib.parseUintM M u r:=by
 intro u
 induction u using Nat.strongRecOn with
 | ind u ih =>
  intro r hM hu
  by_cases h:u<10
  ·have e:(UInt8.ofNat (48+u)).toNat=48+u:=by rw [UInt8.toNat_ofNat']; omega
   rw [dec_small h,List.singleton_append,Lib.parseUintM,if_pos (by omega),if_neg (by omega),if_neg (by omega)]
   congr 1
   omega
  ·have e:(UInt8.ofNat (48+u % 10)).toNat=48+u % 10:=by rw [UInt8.toNat_ofNat']; omega
   rw [dec_big h,List.append_assoc,ih (u / 10) (by omega) _ (by omega) (by omega),List.singleton_append,Lib.parseUintM,if_pos (by omega),if_neg (by omega),if_neg (by omega)]
   congr 1
   omega
theorem parse_itoa {v:Int} (h:R64 v):Lib.parseIntB 64 (Lib.itoa v)=.ok v:=by
 obtain ⟨h0,h1⟩:=h
 unfold Lib.itoa
 by_cases c:v<0
 ·rw [if_pos c,Lib.parseIntB_minus]
  unfold Lib.parseUintB
  have:=parse_dec (2 ^ 64 - 1) v.natAbs [] (by omega) (by omega)
  rw [List.append_nil] at this
  rw [if_neg (dec_ne _),this]
  unfold Lib.parseUintM Lib.signedC
  simp only
  rw [if_neg (by omega)]
  congr 1
  omega
 ·rw [if_neg c]
  have hd:=dec_dig v.toNat
  have hp:=parse_dec (2 ^ 64 - 1) v.toNat [] (by omega) (by omega)
  rw [List.append_nil] at hp
  have hne:=dec_ne v.toNat
  generalize hq:Lib.decDigits v.toNat=q at *
  cases q with
  | nil=>exact absurd rfl hne
  | cons a q =>
   have ha:=hd a (by simp)
   rw [Lib.parseIntB_plain _ _ _ (by omega) (by omega)]
   unfold Lib.parseUintB
   rw [if_neg hne,hp]
   unfold Lib.parseUintM Lib.signlessC
   simp only
   rw [if_neg (by omega)]
   congr 1
   omega
theorem parse_in {s:List UInt8} {k:Int} (h:Lib.parseIntB 64 s=.ok k):R64 k:=by
 unfold Lib.parseIntB at h
 split at h
 ·cases h
 ·rename_i c r
  dsimp only at h
  split at h
  ·cases h
  ·cases h
  ·rename_i u hu
   split at h
   ·cases h
   ·split at h
    ·cases h
    ·simp at h
     unfold R64
     split at h <;> omega
theorem anum_itoa {v:Int} (h:R64 v):asm_number (Lib.itoa v)=some (v,true):=by
 have:=itoa_len h
 unfold asm_number
 rw [if_pos (by omega),parse_itoa h]
 simp
theorem anum_true {s:List UInt8} {x:Int} (h:asm_number s=some (x,true)):R64 x∧s=Lib.itoa x:=by
 unfold asm_number at h
 split at h
 ·have h2:=Option.some.inj h
  clear h
  split at h2
  ·rename_i v hp
   simp only [Prod.mk.injEq,decide_eq_true_eq] at h2
   obtain ⟨rfl,h3⟩:=h2
   exact ⟨parse_in hp,h3.symm⟩
  ·cases h2
  ·cases h2
 ·cases h
def nl:Int→List UInt8→Option Int
 | acc,[]=>some acc
 | acc,c::r=>if c.toNat<48∨57<c.toNat∨acc < -922337203685477580∨(acc=-922337203685477580∧56<c.toNat) then none else nl (10*acc - ((c.toNat:Int) - 48)) r
theorem nl_in:∀ (l:List UInt8) (acc z:Int),-9223372036854775808≤acc→acc≤0→nl acc l=some z→-9223372036854775808≤z∧z≤0:=by
 intro l
 induction l with
 | nil=>intro acc z h0 h1 h; cases h; exact ⟨h0,h1⟩
 | cons c l ih =>
  intro acc z h0 h1 h
  unfold nl at h
  split at h
  ·cases h
  ·exact ih _ _ (by omega) (by omega) h
theorem nl_dec:∀ (u:Nat) (r:List UInt8),u≤9223372036854775808→nl 0 (Lib.decDigits u++r)=nl (-(u:Int)) r:=by
 intro u
 induction u using Nat.strongRecOn with
 | ind u ih =>
  intro r hu
  by_cases h:u<10
  ·have e:(UInt8.ofNat (48+u)).toNat=48+u:=by rw [UInt8.toNat_ofNat']; omega
   rw [dec_small h,List.singleton_append,nl,if_neg (by omega),e]
   congr 1
   omega
  ·have e:(UInt8.ofNat (48+u % 10)).toNat=48+u % 10:=by rw [UInt8.toNat_ofNat']; omega
   rw [dec_big h,List.append_assoc,ih (u / 10) (by omega) _ (by omega),List.singleton_append,nl,if_neg (by omega),e]
   congr 1
   omega
section
variable {fu:Nat} {s:List UInt8} {u5:UInt8}
def tl13 (fu:Nat) (s:List UInt8) (u5:UInt8) (z:Int):Option (Int×Bool):=if (u5.toNat:Int)=45 then r13_number_j4 fu s z else if z=-9223372036854775808 then some (0,false) else r13_number_j4 fu s (w64 (0 - z))
theorem num_l1 {l:List UInt8} (hl:l.length≤100):∀ (n i:Nat) (acc:Int),i≤l.length→l.length - i<n→-9223372036854775808≤acc→acc≤0→r13_number_l1 fu s u5 l n acc (i:Int)=match nl acc (l.drop i) with | none=>some (0,false) | some z=>tl13 fu s u5 z:=by
 intro n
 induction n with
 | zero=>intro i acc _ h; omega
 | succ n ih =>
  intro i acc hi hn h0 h1
  unfold r13_number_l1
  by_cases c:i<l.length
  ·rw [if_pos (by omega),at_ok c,Option.bind_some,drop_e c]
   generalize l[i]=x
   have bad:r13_number_j3 acc (i:Int) x (r13_number_l1 fu s u5 l n) true=some (0,false):=rfl
   have good:¬ (x.toNat<48∨57<x.toNat∨acc < -922337203685477580∨(acc=-922337203685477580∧56<x.toNat))→r13_number_j3 acc (i:Int) x (r13_number_l1 fu s u5 l n) false=match nl acc (x::l.drop (i+1)) with | none=>some (0,false) | some z=>tl13 fu s u5 z:=fun hg=>by
    unfold r13_number_j3
    rw [if_neg (by decide),w8_i (by omega) (by omega),i64_ok (by omega),Option.bind_some,i64_ok (by omega),Option.bind_some,w64_i (n:=10*acc) (by omega) (by omega),w64_i (by omega) (by omega),show ((i:Int)+1)=((i+1:Nat):Int) by omega,ih (i+1) _ c (by omega) (by omega) (by omega),nl,if_neg hg]
   by_cases a1:x.toNat<48
   ·rw [if_pos (by omega),bad,nl,if_pos (.inl a1)]
   rw [if_neg (by omega)]
   by_cases a2:57<x.toNat
   ·rw [if_pos (by omega),bad,nl,if_pos (.inr (.inl a2))]
   rw [if_neg (by omega)]
   by_cases a3:acc < -922337203685477580
   ·rw [if_pos a3,bad,nl,if_pos (.inr (.inr (.inl a3)))]
   rw [if_neg a3]
   by_cases a4:acc=-922337203685477580
   ·rw [if_pos a4]
    by_cases a5:56<x.toNat
    ·rw [decide_eq_true (by omega),bad,nl,if_pos (.inr (.inr (.inr ⟨a4,a5⟩)))]
    ·rw [decide_eq_false (by omega)]; exact good (by omega)
   ·rw [if_neg a4]; exact good (by omega)
  ·rw [if_neg (by omega),List.drop_of_length_le (by omega)]
   rfl
theorem num_j2 {d:List UInt8} (hd:d.length≤100):r13_number_j2 fu s u5 d=match nl 0 d with | none=>some (0,false) | some z=>tl13 fu s u5 z:=by
 unfold r13_number_j2 s2b
 rw [if_pos (by omega),Option.bind_some]
 exact num_l1 hd (d.length+1) 0 0 (by omega) (by omega) (by omega) (by omega)
theorem num_j4 (hf:21≤fu) {z:Int} (hz:R64 z):r13_number_j4 fu s z=some (z,decide (Lib.itoa z=s)):=by
 unfold r13_number_j4
 rw [digits_e hf hz]; rfl
theorem tl_some (hf:21≤fu) {z:Int} (h0:-9223372036854775808≤z) (h1:z≤0):∃ x b,tl13 fu s u5 z=some (x,b)∧(b=true→R64 x∧s=Lib.itoa x):=by
 unfold tl13
 by_cases a:(u5.toNat:Int)=45
 ·rw [if_pos a,num_j4 hf ⟨h0,by omega⟩]
  exact ⟨_,_,rfl,fun h=>⟨⟨h0,by omega⟩,(of_decide_eq_true h).symm⟩⟩
 ·rw [if_neg a]
  by_cases b:z=-9223372036854775808
  ·rw [if_pos b]; exact ⟨_,_,rfl,fun h=>by cases h⟩
  ·rw [if_neg b,w64_i (by omega) (by omega),num_j4 hf ⟨by omega,by omega⟩]
   exact ⟨_,_,rfl,fun h=>⟨⟨by omega,by omega⟩,(of_decide_eq_true h).symm⟩⟩
theorem j2_some (hf:21≤fu) {d:List UInt8} (hd:d.length≤100):∃ x b,r13_number_j2 fu s u5 d=some (x,b)∧(b=true→R64 x∧s=Lib.itoa x):=by
 rw [num_j2 hd]
 cases h:nl 0 d with
 | none=>exact ⟨_,_,rfl,fun h=>by cases h⟩
 | some z =>
  obtain ⟨h0,h1⟩:=nl_in d 0 z (by omega) (by omega) h
  exact tl_some hf h0 h1
theorem num_some (hf:21≤fu) (s:List UInt8):∃ x b,r13_number fu s=some (x,b)∧(b=true→R64 x∧s=Lib.itoa x):=by
 have bad:∃ x b,r13_number_j1 fu s true=some (x,b)∧(b=true→R64 x∧s=Lib.itoa x):=⟨_,_,rfl,fun h=>by cases h⟩
 unfold r13_number
 by_cases h0:(s.length:Int)=0
 ·rw [if_pos h0]; exact bad
 rw [if_neg h0]
 by_cases h20:(20:Int)<(s.length:Int)
 ·rw [decide_eq_true h20]; exact bad
 rw [decide_eq_false h20]
 unfold r13_number_j1
 rw [if_neg (by decide)]
 cases s with
 | nil=>exact absurd rfl h0
 | cons a t =>
  simp only [List.length_cons] at h20
  rw [show at_ (a::t) 0=some a by simp [at_],Option.bind_some]
  split
  ·rw [show cut (a::t) 1 ((a::t).length:Int)=some t by unfold cut; rw [if_pos ⟨by omega,by simp; omega,by simp⟩]; simp,Option.bind_some]
   exact j2_some hf (by omega)
  ·exact j2_some hf (by simp; omega)
theorem num_itoa (hf:21≤fu) {v:Int} (h:R64 v):r13_number fu (Lib.itoa v)=some (v,true):=by
 have hl:=itoa_len h
 obtain ⟨h0,h1⟩:=h
 unfold r13_number
 rw [if_neg (by omega),decide_eq_false (by omega)]
 unfold r13_number_j1
 rw [if_neg (by decide)]
 by_cases c:v<0
 ·have e:Lib.itoa v=45::Lib.decDigits v.natAbs:=by unfold Lib.itoa; rw [if_pos c]
  have hd:=nl_dec v.natAbs [] (by omega)
  rw [List.append_nil] at hd
  rw [e] at hl ⊢
  simp only [List.length_cons] at hl
  rw [show at_ (45::Lib.decDigits v.natAbs) 0=some 45 by simp [at_],Option.bind_some,if_pos (by decide)]
  rw [show cut (45::Lib.decDigits v.natAbs) 1 ((45::Lib.decDigits v.natAbs).length:Int)=some (Lib.decDigits v.natAbs) by unfold cut; rw [if_pos ⟨by omega,by simp; omega,by simp⟩]; simp,Option.bind_some,num_j2 (by omega),hd]
  simp only [nl]
  unfold tl13
  rw [if_pos (by decide),num_j4 hf ⟨by omega,by omega⟩,show -(v.natAbs:Int)=v by omega,e]
  simp
 ·have e:Lib.itoa v=Lib.decDigits v.toNat:=by unfold Lib.itoa; rw [if_neg c]
  have hd:=nl_dec v.toNat [] (by omega)
  have hdg:=dec_dig v.toNat
  rw [List.append_nil] at hd
  rw [← e] at hd hdg
  generalize hq:Lib.itoa v=q at *
  cases q with
  | nil=>simp at hl
  | cons a t =>
   have ha:=hdg a (by simp)
   rw [show at_ (a::t) 0=some a by simp [at_],Option.bind_some,if_neg (by omega),num_j2 (by omega),hd]
   simp only [nl]
   unfold tl13
   rw [if_neg (by omega),if_neg (by omega),w64_i (by omega) (by omega),num_j4 hf ⟨by omega,by omega⟩,show 0 - -(v.toNat:Int)=v by omega,hq]
   simp
theorem number_e (hf:21≤fu) {s:List UInt8} (hs:s.length≤60000):∃ x y b,asm_number s=some (x,b)∧r13_number fu s=some (y,b)∧(b=true→x=y∧R64 x∧s=Lib.itoa x):=by
 obtain ⟨⟨x,b⟩,h1⟩:=number_some hs
 obtain ⟨y,b2,h2,h3⟩:=num_some (fu:=fu) hf s
 cases b with
 | true =>
  obtain ⟨hr,rfl⟩:=anum_true h1
  exact ⟨x,x,true,h1,num_itoa hf hr,fun _=>⟨rfl,hr,rfl⟩⟩
 | false =>
  cases b2 with
  | false=>exact ⟨x,y,false,h1,h2,fun h=>by cases h⟩
  | true =>
   obtain ⟨hr,rfl⟩:=h3 rfl
   rw [anum_itoa hr] at h1
   cases h1
end
end Go.Y
namespace Go.Y
open Go.Wk Go.Xt
theorem idx_no {c:UInt8}:∀ {s:List UInt8},c ∉ s→Lib.index s [c]=-1
 | [],h=>rfl
 | b::s,h=>by
  simp only [List.mem_cons,not_or] at h
  rw [Lib.index,idx_no h.2]
  have:(List.isPrefixOf [c] (b::s))=false:=by simp [List.isPrefixOf,h.1]
  rw [this]; rfl
theorem idx_yes {c:UInt8}:∀ {a:List UInt8} (b:List UInt8),c ∉ a→Lib.index (a++c::b) [c]=a.length
 | [],b,h=>by
  rw [List.nil_append,Lib.index]
  have:(List.isPrefixOf [c] (c::b))=true:=by simp [List.isPrefixOf]
  rw [this]; rfl
 | d::a,b,h=>by
  simp only [List.mem_cons,not_or] at h
  rw [List.cons_append,Lib.index,idx_yes b h.2]
  have:(List.isPrefixOf [c] (d::(a++c::b)))=false:=by simp [List.isPrefixOf,h.1]
  rw [this]
  have h2:((a.length:Int) == -1)=false:=by rw [beq_eq_false_iff_ne]; omega
  simp only [Bool.false_eq_true,if_false,h2]
  simp
theorem first {c:UInt8}:∀ {s:List UInt8},c ∈ s→∃ a b,s=a++c::b∧c ∉ a
 | [],h=>by simp at h
 | d::s,h=>by
  by_cases e:d=c
  ·subst e; exact ⟨[],s,rfl,by simp⟩
  ·have:c ∈ s:=by
    rcases List.mem_cons.1 h with h | h
    ·exact absurd h.symm e
    ·exact h
   obtain ⟨a,b,rfl,hn⟩:=first this
   exact ⟨d::a,b,rfl,by simp [hn]; exact fun g=>e g.symm⟩
def wds:List UInt8→List (List UInt8)
 | []=>[[]]
 | c::r=>if c=32 then []::wds r else match wds r with
  | []=>[[c]]
  | w::ws=>(c::w)::ws
theorem wds_ne:∀ s,∃ w ws,wds s=w::ws
 | []=>⟨[],[],rfl⟩
 | c::r=>by
  obtain ⟨w,ws,h⟩:=wds_ne r
  unfold wds
  split
  ·exact ⟨_,_,rfl⟩
  ·rw [h]; exact ⟨_,_,rfl⟩
theorem wds_no:∀ {s:List UInt8},32 ∉ s→wds s=[s]
 | [],h=>rfl
 | c::r,h=>by
  simp only [List.mem_cons,not_or] at h
  rw [wds,if_neg (fun e=>h.1 e.symm),wds_no h.2]
theorem wds_yes:∀ {a:List UInt8} (b:List UInt8),32 ∉ a→wds (a++32::b)=a::wds b
 | [],b,h=>by rw [List.nil_append,wds,if_pos rfl]
 | c::r,b,h=>by
  simp only [List.mem_cons,not_or] at h
  rw [List.cons_append,wds,if_neg (fun e=>h.1 e.symm),wds_yes b h.2]
theorem cnt_e:∀ (n:Nat) (s:List UInt8),s.length<n→Lib.countFrom [32] n s=s.count 32:=by
 intro n
 induction n with
 | zero=>intro s h; omega
 | succ n ih =>
  intro s h
  unfold Lib.countFrom
  by_cases c:32 ∈ s
  ·obtain ⟨a,b,rfl,hn⟩:=first c
   rw [idx_yes b hn]
   have h2:((a.length:Int) == -1)=false:=by rw [beq_eq_false_iff_ne]; omega
   rw [h2]
   simp only [Bool.false_eq_true,if_false]
   have e:(a++32::b).drop ((a.length:Int).toNat+[(32:UInt8)].length)=b:=by simp
   rw [e,ih b (by simp at h; omega),List.count_append,List.count_eq_zero_of_not_mem hn,List.count_cons]
   simp; omega
  ·rw [idx_no c]
   simp [List.count_eq_zero_of_not_mem c]
theorem split_w:∀ (k:Nat) (s:List UInt8),s.count 32≤k→Lib.splitK [32] 0 k s=wds s:=by
 intro k
 induction k with
 | zero =>
  intro s h
  have:32 ∉ s:=fun c=>by have:=List.count_pos_iff.2 c; omega
  rw [wds_no this]; rfl
 | succ k ih =>
  intro s h
  unfold Lib.splitK
  by_cases c:32 ∈ s
  ·obtain ⟨a,b,rfl,hn⟩:=first c
   rw [idx_yes b hn]
   have h2:((a.length:Int) == -1)=false:=by rw [beq_eq_false_iff_ne]; omega
   rw [h2]
   simp only [Bool.false_eq_true,if_false]
   rw [List.count_append,List.count_cons] at h
   simp only [beq_self_eq_true,if_true] at h
   have e:(a++32::b).drop ((a.length:Int).toNat+[(32:UInt8)].length)=b:=by simp
   rw [e,ih b (by omega),wds_yes b hn]
   congr 1
   simp
  ·rw [idx_no c,wds_no c]; rfl
theorem ssplit_e {s:List UInt8} (h:s.length≤60000):s_split s [32]=some (wds s):=by
 unfold s_split
 rw [if_pos ⟨by omega,by simp⟩,Lib.splitB_data]
 congr 1
 exact split_w _ _ (by
  show _≤Lib.countFrom [32] (s.length+1) s
  rw [cnt_e _ _ (by omega)]; exact Nat.le_refl _)
def glue (cur:List UInt8):List (List UInt8)→List (List UInt8)
 | []=>[cur]
 | w::ws=>(cur++w)::ws
theorem glue_nil (s:List UInt8):glue [] (wds s)=wds s:=by
 obtain ⟨w,ws,h⟩:=wds_ne s
 rw [h]; rfl
theorem words_l1 {s:List UInt8} (hs:s.length≤60000):∀ (n i:Nat) (dn:List (List UInt8)) (cur:List UInt8),i≤s.length→s.length - i<n→dn.length≤i→cur.length≤i→r13_words_l1 s n (i:Int) (dn++[cur])=some (dn++glue cur (wds (s.drop i))):=by
 intro n
 induction n with
 | zero=>intro i dn cur _ h; omega
 | succ n ih =>
  intro i dn cur hi hn hd hc
  unfold r13_words_l1
  by_cases c:i<s.length
  ·rw [if_pos (by omega),at_ok c,Option.bind_some,drop_e c,wds]
   by_cases e:s[i]=32
   ·rw [if_pos (by rw [e]; decide),if_pos e,app_t (by simp; omega),Option.bind_some,i64_ok (by omega),Option.bind_some]
    have:=ih (i+1) (dn++[cur]) [] c (by omega) (by simp; omega) (by simp)
    rw [show ((i:Int)+1)=((i+1:Nat):Int) by omega]
    refine this.trans ?_
    rw [glue_nil]
    simp [glue]
   ·have e2:¬ ((s[i].toNat:Nat):Int)=32:=fun h=>by
     have h3:s[i].toNat=(32:UInt8).toNat:=by show s[i].toNat=32; omega
     exact e (UInt8.toNat_inj.1 h3)
    have hl:((dn++[cur]).length:Int) - 1=(dn.length:Int):=by simp
    rw [if_neg e2,if_neg e,i64_ok (by omega),Option.bind_some,hl,i64_ok (by omega)]
    have hcut:cut s (i:Int) ((i:Int)+1)=some [s[i]]:=by
     unfold cut
     rw [if_pos ⟨by omega,by omega,by omega⟩]
     congr 1
     rw [show ((i:Int)+1).toNat=i+1 by omega,show (i:Int).toNat=i by omega,List.drop_take,show i+1 - i=1 by omega,drop_e c]
     rfl
    have hat:at_ (dn++[cur]) (dn.length:Int)=some cur:=by simp [at_]
    rw [hcut,Option.bind_some,Option.bind_some,Option.bind_some,hat,Option.bind_some,cat_t (by simp; omega),Option.bind_some,Option.bind_some]
    unfold r13_words_j1
    rw [i64_ok (by omega),Option.bind_some]
    have hset:(dn++[cur]).set ((dn.length:Int)).toNat (cur++[s[i]])=dn++[cur++[s[i]]]:=by simp
    rw [hset]
    have:=ih (i+1) dn (cur++[s[i]]) c (by omega) (by omega) (by simp; omega)
    rw [show ((i:Int)+1)=((i+1:Nat):Int) by omega]
    refine this.trans ?_
    obtain ⟨w,ws,h⟩:=wds_ne (s.drop (i+1))
    rw [h]
    simp [glue]
  ·rw [if_neg (by omega),List.drop_of_length_le (by omega)]
   simp [wds,glue]
theorem words_e {fu:Nat} (hf:60001≤fu) {s:List UInt8} (hs:s.length≤60000):r13_words fu s=some (wds s):=by
 unfold r13_words
 have:=words_l1 hs fu 0 [] [] (by omega) (by omega) (by simp) (by simp)
 rw [List.nil_append,List.nil_append,List.drop_zero,glue_nil] at this
 exact this
theorem wds_len:∀ s:List UInt8,(wds s).length≤s.length+1
 | []=>by simp [wds]
 | c::r=>by
  have:=wds_len r
  obtain ⟨w,ws,h⟩:=wds_ne r
  rw [h] at this
  unfold wds
  split
  ·rw [h]; simp at this ⊢; omega
  ·rw [h]; simp at this ⊢; omega
theorem wds_in:∀ (s:List UInt8),∀ w ∈ wds s,w.length≤s.length
 | [],w,h=>by simp [wds] at h; subst h; simp
 | c::r,w,h=>by
  have ih:=wds_in r
  obtain ⟨v,vs,e⟩:=wds_ne r
  rw [e] at ih
  unfold wds at h
  split at h
  ·rcases List.mem_cons.1 h with rfl | h
   ·simp
   ·rw [e] at h; have:=ih w h; simp; omega
  ·rw [e] at h
   rcases List.mem_cons.1 h with rfl | h
   ·have:=ih v (by simp); simp; omega
   ·have:=ih w (by simp [h]); simp; omega
end Go.Y
namespace Go.Y
open Go.Wk Go.Xt
theorem idx_from (x:List UInt8):∀ (l:List (List UInt8)) (i:Nat),(Lib.idxFromS (l.map fun y=>⟨⟨y⟩⟩) ⟨⟨x⟩⟩ i=-1∧x ∉ l)∨∃ k:Nat,k<l.length∧Lib.idxFromS (l.map fun y=>⟨⟨y⟩⟩) ⟨⟨x⟩⟩ i=((i+k:Nat):Int)∧l[k]?=some x∧∀ j,j<k→l[j]?≠some x:=by
 intro l
 induction l with
 | nil=>intro i; exact .inl ⟨rfl,by simp⟩
 | cons y l ih =>
  intro i
  rw [List.map_cons,Lib.idxFromS]
  by_cases c:y=x
  ·subst c
   rw [if_pos rfl]
   exact .inr ⟨0,by simp,by simp,rfl,fun j h=>by omega⟩
  ·have hne:¬ (⟨⟨y⟩⟩:ByteArray)=⟨⟨x⟩⟩:=fun h=>c (by injection h with h; injection h)
   rw [if_neg hne]
   rcases ih (i+1) with ⟨h1,h2⟩ | ⟨k,h1,h2,h3,h4⟩
   ·exact .inl ⟨h1,by simp [h2]; exact fun e=>c e.symm⟩
   ·refine .inr ⟨k+1,by simp; omega,by rw [h2]; congr 1; omega,by simpa using h3,fun j hj=>?_⟩
    cases j with
    | zero=>simpa using c
    | succ j=>simpa using h4 j (by omega)
theorem sidx_e (l:List (List UInt8)) (x:List UInt8):(s_idx l x=some (-1)∧x ∉ l)∨∃ k:Nat,k<l.length∧s_idx l x=some (k:Int)∧l[k]?=some x∧∀ j,j<k→l[j]?≠some x:=by
 unfold s_idx Lib.idxOfS
 rcases idx_from x l 0 with ⟨h1,h2⟩ | ⟨k,h1,h2,h3,h4⟩
 ·exact .inl ⟨by rw [h1],h2⟩
 ·exact .inr ⟨k,h1,by rw [h2]; simp,h3,h4⟩
def MN:List (List UInt8):=asm_mnem.getD []
theorem mn_e:asm_mnem=some MN:=rfl
theorem mn_len:MN.length=32:=rfl
theorem at_t {α:Type} {l:List α} {k:Nat} {x:α} (h:l[k]?=some x):at_ l (k:Int)=some x:=by simp [at_,h]
theorem word_k {k:Nat} (hk:k<32):∃ w h n a,r13_word ((k:Int)+1)=some (w,h)∧asm_has ((k:Int)+1)=some (n,a)∧MN[k]?=some w∧((h=2∧n=true∧a=false)∨(h=1∧n=false∧a=true)∨(h=0∧n=false∧a=false)):=by
 obtain ⟨w,h,n,a,l,e1,e2,e3,e4,-,-,-,e5⟩:=word_e (op:=(k:Int)+1) (by omega) (by omega)
 rw [mn_e] at e3
 obtain rfl:=Option.some.inj e3
 rw [show ((k:Int)+1 - 1)=(k:Int) by omega] at e4
 refine ⟨w,h,n,a,e1,e2,?_,e5⟩
 have hl:k<MN.length:=by rw [mn_len]; exact hk
 rw [at_ok hl] at e4
 rw [List.getElem?_eq_getElem hl,e4]
section
variable {fu:Nat} {bs:List TBi} {us:List TUnit}
theorem l1_no {x:List UInt8} {ws:List (List UInt8)} (hx:x ∉ MN):∀ (n j:Nat),j≤32→32 - j<n→r13_line_l1 fu bs us (x::ws) n ((j:Int)+1)=some (false,bs,us):=by
 intro n
 induction n with
 | zero=>intro j _ h; omega
 | succ n ih =>
  intro j hj hn
  unfold r13_line_l1
  by_cases c:j<32
  ·obtain ⟨w,h,nn,a,e1,e2,e3,e5⟩:=word_k c
   have hw:w≠x:=fun e=>hx (by rw [← e]; exact List.mem_of_getElem? e3)
   rw [if_pos (by omega),e1,Option.bind_some,show at_ (x::ws) 0=some x by simp [at_],Option.bind_some,if_pos hw,i64_ok (by omega),Option.bind_some]
   exact ih (j+1) c (by omega)
  ·rw [if_neg (by omega)]
theorem l1_yes {x:List UInt8} {ws:List (List UInt8)} {k:Nat} (hk:k<32) (hx:MN[k]?=some x) (hn0:∀ j,j<k→MN[j]?≠some x):∀ (n j:Nat),j≤k→k - j<n →
  r13_line_l1 fu bs us (x::ws) n ((j:Int)+1)=(r13_word ((k:Int)+1)).bind fun r168=>if ((x::ws).length:Int)=1 then r13_line_j2 fu bs us (x::ws) ((k:Int)+1) r168 (decide (r168.2=0)) else r13_line_j2 fu bs us (x::ws) ((k:Int)+1) r168 false:=by
 intro n
 induction n with
 | zero=>intro j _ h; omega
 | succ n ih =>
  intro j hj hn
  unfold r13_line_l1
  obtain ⟨w,h,nn,a,e1,e2,e3,e5⟩:=word_k (k:=j) (by omega)
  rw [if_pos (by omega),e1,Option.bind_some,show at_ (x::ws) 0=some x by simp [at_],Option.bind_some]
  by_cases c:j=k
  ·subst c
   rw [hx] at e3
   obtain rfl:=Option.some.inj e3
   rw [if_neg (fun g=>g rfl),e1,Option.bind_some]
  ·have hw:w≠x:=fun e=>hn0 j (by omega) (by rw [e3,e])
   rw [if_pos hw,i64_ok (by omega),Option.bind_some]
   exact ih (j+1) (by omega) (by omega)
def putI (bs:List TBi) (us:List TUnit) (q:TInstr×Bool):Option (Bool×List TBi×List TUnit) :=
 if q.2=true∧0<us.length then (at_ us ((us.length:Int) - 1)).bind fun x=>(app x.Code [q.1]).bind fun l=>some (true,bs,uset us l) else some (false,bs,us)
theorem putI_no {q:TInstr}:putI bs us (q,false)=some (false,bs,us):=by unfold putI; rw [if_neg (by simp)]
theorem j5_e (hu:us.length≤100000) {a b c:Int}:r13_line_j5 bs us a b c (decide ((us.length:Int)=0))=putI bs us (⟨a,b,c⟩,true):=by
 unfold r13_line_j5 putI
 by_cases h:us.length=0
 ·rw [if_pos (by simp [h]),if_neg (by omega)]
 ·rw [if_neg (show ¬ decide ((us.length:Int)=0)=true from fun g=>h (by have:=of_decide_eq_true g; omega)),if_pos ⟨rfl,by omega⟩,i64_ok (by omega),Option.bind_some]
  cases hx:at_ us ((us.length:Int) - 1) with
  | none=>rfl
  | some x =>
   rw [Option.bind_some,Option.bind_some]
   cases app x.Code [(⟨a,b,c⟩:TInstr)] with
   | none=>rfl
   | some l=>rw [Option.bind_some,Option.bind_some,Option.bind_some]; rfl
theorem instr_e (hf:60001≤fu) {t:List UInt8} (ht:t.length≤60000) (hu:us.length≤100000):(asm_instr t).bind (putI bs us)=(r13_words fu t).bind fun r28=>r13_line_l1 fu bs us r28 fu 1:=by
 rw [words_e hf ht,Option.bind_some]
 obtain ⟨x,ws,hw⟩:=wds_ne t
 have hin:=wds_in t
 have hln:=wds_len t
 unfold asm_instr
 rw [ssplit_e ht,hw,Option.bind_some,show at_ (x::ws) 0=some x by simp [at_],Option.bind_some,mn_e,Option.bind_some]
 rw [hw] at hin hln
 rcases sidx_e MN x with ⟨e,hx⟩ | ⟨k,hk,e,hx,hn0⟩
 ·rw [e,Option.bind_some,i64_ok (by omega),Option.bind_some]
  have:=l1_no (fu:=fu) (bs:=bs) (us:=us) (ws:=ws) hx fu 0 (by omega) (by omega)
  rw [show ((0:Nat):Int)+1=1 by omega] at this
  rw [this]
  exact putI_no
 ·rw [mn_len] at hk
  have:=l1_yes (fu:=fu) (bs:=bs) (us:=us) (ws:=ws) hk hx hn0 fu 0 (by omega) (by omega)
  rw [show ((0:Nat):Int)+1=1 by omega] at this
  obtain ⟨w,h,n,a,e1,e2,e3,e5⟩:=word_k hk
  rw [hx] at e3
  obtain rfl:=Option.some.inj e3
  rw [this,e,Option.bind_some,i64_ok (by omega),Option.bind_some,e1,Option.bind_some]
  unfold asm_instr_j1
  rw [e2,Option.bind_some]
  have want:∀ q:Int,q=(if h=0 then 1 else 2)→(asm_instr_j3 (x::ws) ((k:Int)+1) (n,a) q).bind (putI bs us)=if ((x::ws).length:Int)=1 then r13_line_j2 fu bs us (x::ws) ((k:Int)+1) (x,h) (decide (h=0)) else r13_line_j2 fu bs us (x::ws) ((k:Int)+1) (x,h) false:=by
   intro q hq
   unfold asm_instr_j3
   rw [if_neg (by omega)]
   unfold asm_instr_j4
   have no:r13_line_j3 fu bs us (x::ws) ((k:Int)+1) (x,h) false false=some (false,bs,us):=rfl
   match ws,hin with
   | [],_ =>
    rw [if_pos (show (([x]:List (List UInt8)).length:Int)=1 by rfl)]
    unfold r13_line_j2
    rw [if_neg (show ¬ (([x]:List (List UInt8)).length:Int)=2 by simp)]
    by_cases h0:h=0
    ·subst h0
     rw [if_pos rfl] at hq
     subst hq
     rw [if_neg (by simp),if_pos rfl,decide_eq_true rfl]
     unfold r13_line_j3
     rw [if_neg (by decide)]
     unfold r13_line_j4
     rw [if_pos rfl,j5_e hu]; rfl
    ·rw [if_neg h0] at hq
     subst hq
     rw [if_pos (by simp),decide_eq_false h0]
     exact putI_no.trans no.symm
   | [y],hin =>
    rw [if_neg (show ¬ (([x,y]:List (List UInt8)).length:Int)=1 by simp)]
    unfold r13_line_j2
    rw [if_pos (show (([x,y]:List (List UInt8)).length:Int)=2 by rfl)]
    have hy:y.length≤60000:=by have:=hin y (by simp); omega
    by_cases h0:h=0
    ·subst h0
     rw [if_pos rfl] at hq
     subst hq
     rw [if_pos (by simp),decide_eq_false (by simp)]
     exact putI_no.trans no.symm
    ·rw [if_neg h0] at hq
     subst hq
     rw [if_neg (by simp),if_neg (by decide),show at_ [x,y] 1=some y by rfl,Option.bind_some]
     obtain ⟨v,v',b,n1,n2,n3⟩:=number_e (fu:=fu) (by omega) hy
     rw [n1,Option.bind_some,decide_eq_true (by show (0:Int)<h; omega)]
     unfold r13_line_j3
     rw [if_pos rfl,show at_ [x,y] 1=some y by rfl,Option.bind_some,n2,Option.bind_some]
     rcases e5 with ⟨rfl,rfl,rfl⟩ | ⟨rfl,rfl,rfl⟩ | ⟨rfl,rfl,rfl⟩
     ·rw [if_pos rfl,if_neg (by simp)]
      unfold r13_line_j4 asm_instr_j5
      cases b with
      | true =>
       obtain ⟨rfl,-,-⟩:=n3 rfl
       rw [if_pos rfl,j5_e hu]; rfl
      | false=>rw [if_neg (by simp)]; exact putI_no
     ·rw [if_neg (by simp),if_pos rfl]
      unfold r13_line_j4 asm_instr_j5
      cases b with
      | true =>
       obtain ⟨rfl,-,-⟩:=n3 rfl
       rw [if_pos rfl,j5_e hu]; rfl
      | false=>rw [if_neg (by simp)]; exact putI_no
     ·exact absurd rfl h0
   | y::z::ws,_ =>
    have hl:¬ (((x::y::z::ws:List (List UInt8)).length:Int)=q):=by
     rw [hq]; simp; split <;> omega
    rw [if_neg (show ¬ ((x::y::z::ws:List (List UInt8)).length:Int)=1 by simp; omega),if_pos (by simpa using hl)]
    unfold r13_line_j2
    rw [if_neg (show ¬ ((x::y::z::ws:List (List UInt8)).length:Int)=2 by simp; omega)]
    exact putI_no.trans no.symm
  rcases e5 with ⟨rfl,rfl,rfl⟩ | ⟨rfl,rfl,rfl⟩ | ⟨rfl,rfl,rfl⟩
  ·rw [if_pos rfl]; unfold asm_instr_j2; rw [if_pos rfl]; exact want 2 (by simp)
  ·rw [if_neg (by simp)]; unfold asm_instr_j2; rw [if_pos rfl]; exact want 2 (by simp)
  ·rw [if_neg (by simp)]; unfold asm_instr_j2; rw [if_neg (by simp)]; exact want 1 (by simp)
def UN:List (List UInt8):=[[102,110],[103,101,110],[116,97,115,107]]
theorem numbers_e (hf:60001≤fu) {x:List UInt8} {ws:List (List UInt8)} (hl:ws.length≤60001) (hin:∀ w ∈ ws,w.length≤60000):∀ (n i:Nat) (acc:List Int),i≤ws.length→ws.length - i<n→acc.length=i →
  ∃ r,asm_numbers_l1 ws n (i:Int) acc=some r∧r.1.length≤60001∧r13_line_l2 fu bs us (x::ws) ws n (i:Int) acc=if r.2=true then (at_ (x::ws) 0).bind fun x332=>if x332=[98,111,120] then (if (r.1.length:Int)=2 then r13_line_j7 bs us (x::ws) r.1 (decide ((us.length:Int)=0)) else r13_line_j7 bs us (x::ws) r.1 false) else r13_line_j7 bs us (x::ws) r.1 false else some (false,bs,us):=by
 intro n
 induction n with
 | zero=>intro i acc _ h; omega
 | succ n ih =>
  intro i acc hi hn ha
  unfold asm_numbers_l1 r13_line_l2
  by_cases c:i<ws.length
  ·obtain ⟨v,v',b,n1,n2,n3⟩:=number_e (fu:=fu) (by omega) (hin _ (List.getElem_mem c))
   rw [if_pos (by omega),if_pos (by omega),at_ok c,Option.bind_some,Option.bind_some,n1,n2,Option.bind_some,Option.bind_some]
   cases b with
   | false=>exact ⟨_,rfl,by simp,rfl⟩
   | true =>
    obtain ⟨rfl,-,-⟩:=n3 rfl
    rw [if_pos rfl,if_pos rfl,app_t (by simp; omega),Option.bind_some,i64_ok (by omega),Option.bind_some,Option.bind_some,Option.bind_some]
    exact ih (i+1) (acc++[v]) c (by omega) (by simp [ha])
  ·rw [if_neg (by omega),if_neg (by omega)]
   exact ⟨_,rfl,by show acc.length≤_; omega,rfl⟩
theorem head_e (hf:60001≤fu) {t:List UInt8} (ht:t.length≤60000) (hb:bs.length≤100000) (hu:us.length≤100000):asm_head bs us t=(r13_words fu t).bind fun r249=>(cut r249 1 r249.length).bind fun l255=>r13_line_l2 fu bs us r249 l255 (l255.length+1) 0 []:=by
 rw [words_e hf ht,Option.bind_some]
 obtain ⟨x,ws,hw⟩:=wds_ne t
 have hin:=wds_in t
 have hln:=wds_len t
 unfold asm_head
 rw [ssplit_e ht,hw,Option.bind_some]
 rw [hw] at hin hln
 simp only [List.length_cons] at hln
 have hcut:cut (x::ws) 1 ((x::ws).length:Int)=some ws:=by
  unfold cut
  rw [if_pos ⟨by omega,by simp; omega,by simp⟩]
  simp
 rw [hcut,Option.bind_some,Option.bind_some]
 obtain ⟨r,h1,h2,h3⟩:=numbers_e (fu:=fu) (bs:=bs) (us:=us) hf (x:=x) (ws:=ws) (by omega) (fun w hm=>by have:=hin w (by simp [hm]); omega) (ws.length+1) 0 [] (by omega) (by omega) rfl
 unfold asm_numbers
 rw [show ((0:Nat):Int)=0 by rfl] at h1 h3
 rw [h1,Option.bind_some,h3]
 have hat:at_ (x::ws) 0=some x:=by simp [at_]
 by_cases hr:r.2=true
 ·rw [if_pos hr,if_pos hr]
  simp only [hat,Option.bind_some]
  have j7f:r13_line_j7 bs us (x::ws) r.1 false=if ((mget (mput (mput (mput ([]:List (List UInt8×Int)) [102,110] 2) [103,101,110] 3) [116,97,115,107] 4) x).getD 0)=0 then r13_line_j9 bs us r.1 x true else r13_line_j9 bs us r.1 x (decide ((r.1.length:Int)<3)):=by
   unfold r13_line_j7
   rw [if_neg (by decide),hat,Option.bind_some]
  by_cases hx:x=[98,111,120]
  ·rw [if_pos hx,if_pos hx]
   have hno:r13_line_j7 bs us (x::ws) r.1 false=some (false,bs,us):=by
    rw [j7f,hx,if_pos (by rfl)]; rfl
   by_cases hl:(r.1.length:Int)=2
   ·rw [if_neg (fun g=>g hl),if_pos hl]
    by_cases h0:us.length=0
    ·rw [decide_eq_false (by omega),decide_eq_true (by omega)]
     unfold asm_head_j1 r13_line_j7
     rw [if_neg (by decide),if_pos rfl]
     cases at_ r.1 0 with
     | none=>rfl
     | some a =>
      cases at_ r.1 1 with
      | none=>rfl
      | some b=>rfl
    ·rw [decide_eq_true (by omega),decide_eq_false (by omega),hno]; rfl
   ·rw [if_pos hl,if_neg hl,hno]; rfl
  ·rw [if_neg hx,if_neg hx,j7f,show asm_units=some UN by rfl,Option.bind_some]
   have main:∀ k:Nat,k<3→((mget (mput (mput (mput ([]:List (List UInt8×Int)) [102,110] 2) [103,101,110] 3) [116,97,115,107] 4) x).getD 0)=2+(k:Int)→asm_head_j3 bs us r (k:Int)=if ((mget (mput (mput (mput ([]:List (List UInt8×Int)) [102,110] 2) [103,101,110] 3) [116,97,115,107] 4) x).getD 0)=0 then r13_line_j9 bs us r.1 x true else r13_line_j9 bs us r.1 x (decide ((r.1.length:Int)<3)):=fun k hk hm=>by
    rw [if_neg (by omega)]
    unfold asm_head_j3
    rw [if_neg (by omega)]
    unfold asm_head_j4 r13_line_j9
    by_cases h3:(r.1.length:Int)<3
    ·rw [decide_eq_true h3,if_pos rfl,if_pos rfl]
    ·rw [decide_eq_false h3,if_neg (by decide),if_neg (by decide),i64_ok (by omega),Option.bind_some,hm]
     rfl
   rcases sidx_e UN x with ⟨e,hn⟩ | ⟨k,hk,e,hk2,-⟩
   ·rw [e,Option.bind_some]
    have hm:((mget (mput (mput (mput ([]:List (List UInt8×Int)) [102,110] 2) [103,101,110] 3) [116,97,115,107] 4) x).getD 0)=0:=by
     show (mget [(([102,110]:List UInt8),(2:Int)),([103,101,110],3),([116,97,115,107],4)] x).getD 0=0
     simp only [UN,List.mem_cons,List.not_mem_nil,or_false,not_or] at hn
     simp only [mget]
     rw [if_neg (fun g=>hn.1 g.symm),if_neg (fun g=>hn.2.1 g.symm),if_neg (fun g=>hn.2.2 g.symm)]; rfl
    rw [if_pos hm]; rfl
   ·rw [e,Option.bind_some]
    have h3:k=0∨k=1∨k=2:=by simp [UN] at hk; omega
    rcases h3 with rfl | rfl | rfl
    ·simp only [UN,List.getElem?_cons_zero,Option.some.injEq] at hk2
     subst hk2
     exact main 0 (by omega) rfl
    ·simp only [UN,List.getElem?_cons_succ,List.getElem?_cons_zero,Option.some.injEq] at hk2
     subst hk2
     exact main 1 (by omega) rfl
    ·simp only [UN,List.getElem?_cons_succ,List.getElem?_cons_zero,Option.some.injEq] at hk2
     subst hk2
     exact main 2 (by omega) rfl
 ·rw [if_neg hr,if_neg hr]
theorem line_e (hf:60001≤fu) {t:List UInt8} (ht:t.length≤60000) (hb:bs.length≤100000) (hu:us.length≤100000):line bs us t=r13_line fu bs us t:=by
 unfold line r13_line
 cases t with
 | nil =>
  rw [if_neg (by simp)]
  unfold s_pre
  rw [Option.bind_some,if_neg (by simp [Lib.hasPrefix]),r13_line_j1,if_neg (by decide)]
  exact head_e hf ht hb hu
 | cons c t =>
  rw [if_pos (by simp),show at_ (c::t) 0=some c by simp [at_],Option.bind_some]
  unfold s_pre
  rw [Option.bind_some]
  by_cases h9:c=9
  ·subst h9
   rw [if_pos (by simp [Lib.hasPrefix]),decide_eq_true (by decide),r13_line_j1,if_pos rfl]
   have hcut:cut (9::t) 1 ((9::t).length:Int)=some t:=by
    unfold cut
    rw [if_pos ⟨by omega,by simp; omega,by simp⟩]
    simp
   have htr:Lib.trimPrefix (9::t) [9]=t:=by simp [Lib.trimPrefix,Lib.hasPrefix]
   rw [hcut,Option.bind_some,htr]
   show (asm_instr t).bind (putI bs us)=_
   exact instr_e hf (by simp at ht; omega) hu
  ·have e2:¬ ((c.toNat:Nat):Int)=9:=fun h=>by
    have h3:c.toNat=(9:UInt8).toNat:=by show c.toNat=9; omega
    exact h9 (UInt8.toNat_inj.1 h3)
   rw [if_neg (by simp [Lib.hasPrefix]; exact fun g=>h9 g.symm),decide_eq_false e2,r13_line_j1,if_neg (by decide)]
   exact head_e hf ht hb hu
end
theorem cut_no {s:List UInt8} (h:(10:UInt8) ∉ s):Lib.cut s [10]=(s,[],false):=by
 unfold Lib.cut
 rw [idx_no h,if_neg (by decide)]
theorem cut_yes {a b:List UInt8} (h:(10:UInt8) ∉ a):Lib.cut (a++10::b) [10]=(a,b,true):=by
 unfold Lib.cut
 rw [idx_yes b h,if_pos (by omega)]
 simp
theorem skip_l1 {fu:Nat} {s:List UInt8} (hs:s.length≤60000) {f at0:Int} {us:List TUnit} {bs:List TBi}:∀ (k n i:Nat),i+k≤s.length→(∀ j,i≤j→j<i+k→s[j]?≠some 10)→r13_read_l1 fu s (n+k) f at0 (i:Int) us bs=r13_read_l1 fu s n f at0 ((i+k:Nat):Int) us bs:=by
 intro k
 induction k with
 | zero=>intro n i _ _; rfl
 | succ k ih =>
  intro n i hi hj
  rw [show n+(k+1)=(n+k)+1 by omega]
  conv=>lhs; unfold r13_read_l1
  have c:i<s.length:=by omega
  have h10:s[i]≠10:=fun e=>hj i (Nat.le_refl _) (by omega) (by rw [List.getElem?_eq_getElem c,e])
  have e2:((s[i].toNat:Nat):Int)≠10:=fun h=>by
   have h3:s[i].toNat=(10:UInt8).toNat:=by show s[i].toNat=10; omega
   exact h10 (UInt8.toNat_inj.1 h3)
  rw [if_pos (by omega),at_ok c,Option.bind_some,if_pos e2,i64_ok (by omega),Option.bind_some,show ((i:Int)+1)=((i+1:Nat):Int) by omega,ih n (i+1) (by omega) (fun j h1 h2=>hj j (by omega) (by omega))]
  congr 1
  omega
theorem read_l_e {fu:Nat} (hf:60001≤fu) {s:List UInt8} (hs:s.length≤60000):∀ (m k f n:Nat) (us:List TUnit) (bs:List TBi),Inv k bs us→k+(s.length - f)≤60000→f≤s.length→s.length - f<m→s.length - f<n →
  asm_read_l1 m (s.drop f) (k:Int) us bs=r13_read_l1 fu s n (f:Int) (k:Int) (f:Int) us bs:=by
 intro m
 induction m with
 | zero=>intro k f n us bs _ _ _ h; omega
 | succ m ih =>
  intro k f n us bs hI hk hfl hm hn
  have hbl:bs.length≤100000∧us.length≤100000:=by have h1:=hI.b; have h2:=hI.u; omega
  rw [read_step _ _ _ _ _ (by omega)]
  by_cases c:(10:UInt8) ∈ s.drop f
  ·obtain ⟨a,b,e,hn10⟩:=first c
   have hl:(s.drop f).length=s.length - f:=List.length_drop ..
   rw [e] at hl
   simp only [List.length_append,List.length_cons] at hl
   rw [if_pos (by rw [e]; simp),cut_some (by rw [List.length_drop]; omega),e,cut_yes hn10,Option.bind_some,if_pos rfl]
   obtain ⟨n',rfl⟩:∃ q,n=(q+1)+a.length:=⟨n - a.length - 1,by omega⟩
   have hget:∀ j,s[f+j]?=(a++10::b)[j]?:=fun j=>by rw [← e,List.getElem?_drop]
   rw [skip_l1 hs a.length (n'+1) f (by omega) (fun j h1 h2=>by
    have:=hget (j - f)
    rw [show f+(j - f)=j by omega,List.getElem?_append_left (by omega)] at this
    rw [this]
    intro h
    exact hn10 (List.mem_of_getElem? h))]
   have h10:s[f+a.length]?=some 10:=by rw [hget,List.getElem?_append_right (Nat.le_refl _),Nat.sub_self]; rfl
   have hcut:cut s (f:Int) ((f+a.length:Nat):Int)=some a:=by
    unfold cut
    rw [if_pos ⟨by omega,by omega,by omega⟩]
    congr 1
    rw [show (((f+a.length:Nat):Int)).toNat=f+a.length by omega,show (f:Int).toNat=f by omega,List.drop_take,e,show f+a.length - f=a.length by omega]
    simp
   obtain ⟨b',bs',us',hline,hI'⟩:=line_some hI (by omega) (show a.length≤60000 by omega)
   have step:r13_read_l1 fu s (n'+1) (f:Int) (k:Int) ((f+a.length:Nat):Int) us bs=if b'=true then r13_read_l1 fu s n' (((f+a.length:Nat):Int)+1) ((k:Int)+1) (((f+a.length:Nat):Int)+1) us' bs' else some (⟨[],[]⟩,⟨2,(k:Int)⟩):=by
    conv=>lhs; unfold r13_read_l1
    rw [if_pos (by omega),at_t h10,Option.bind_some,if_neg (by decide),hcut,Option.bind_some,← line_e hf (by omega) hbl.1 hbl.2,hline,Option.bind_some,i64_ok (by omega),i64_ok (by omega)]
    rfl
   rw [step,hline,Option.bind_some]
   cases b' with
   | false=>rw [if_neg (by simp),if_neg (by simp)]
   | true =>
    rw [if_pos rfl,if_pos rfl,i64_ok (by omega),Option.bind_some]
    have hb:b=s.drop (f+a.length+1):=by
     have:=congrArg (List.drop (a.length+1)) e
     rw [List.drop_drop] at this
     rw [show f+a.length+1=f+(a.length+1) by omega,this]
     simp
    have:=ih (k+1) (f+a.length+1) n' us' bs' hI' (by omega) (by omega) (by omega) (by omega)
    rw [← hb] at this
    rw [show ((k:Int)+1)=((k+1:Nat):Int) by omega,show (((f+a.length:Nat):Int)+1)=((f+a.length+1:Nat):Int) by omega]
    exact this
  ·have hl:(s.drop f).length=s.length - f:=List.length_drop ..
   obtain ⟨n',rfl⟩:∃ q,n=(q+1)+(s.length - f):=⟨n - (s.length - f) - 1,by omega⟩
   rw [skip_l1 hs (s.length - f) (n'+1) f (by omega) (fun j h1 h2 h=>c (by
    have:(s.drop f)[j - f]?=some 10:=by rw [List.getElem?_drop,show f+(j - f)=j by omega,h]
    exact List.mem_of_getElem? this))]
   by_cases h0:f<s.length
   ·rw [if_pos (by intro h; rw [h] at hl; simp at hl; omega),cut_some (by rw [List.length_drop]; omega),cut_no c,Option.bind_some,if_neg (by simp)]
    unfold r13_read_l1
    rw [if_neg (by omega),if_pos (by omega)]
   ·rw [if_neg (by rw [List.drop_of_length_le (by omega)]; simp)]
    unfold r13_read_l1
    rw [if_neg (by omega),if_neg (by omega)]
theorem read_e {fu:Nat} (hf:60001≤fu) (s:List UInt8):asm_read fu s=r13_read fu s:=by
 unfold asm_read r13_read
 by_cases h:(60000:Int)<(s.length:Int)
 ·rw [if_pos h,if_pos h]
 ·rw [if_neg h,if_neg h]
  have:=read_l_e hf (s:=s) (by omega) fu 0 0 fu [] [] ⟨by simp,by simp,by simp⟩ (by omega) (by omega) (by omega) (by omega)
  rw [List.drop_zero] at this
  exact this
end Go.Y
namespace Go.Y
open Go.Wk Go.Xt
def boxT (b:TBi):List UInt8:=[98,111,120]++nums [b.Typ,b.Cap]++[10]
def insX (i:TInstr):List UInt8:=match r13_word i.Op with
 | some (w,h)=>insT w h i
 | none=>[]
def codeT (c:List TInstr):List UInt8:=(c.map insX).flatten
def kindW (k:Int):List UInt8:=if k=2 then [102,110] else if k=3 then [103,101,110] else [116,97,115,107]
def unitT (u:TUnit):List UInt8:=kindW u.Kind++nums ([u.Params,u.Result,u.Takes]++u.Locals)++[10]++codeT u.Code
def modT (m:TModule):List UInt8:=(m.Boxes.map boxT).flatten++(m.Units.map unitT).flatten
def OpsOk (c:List TInstr):Prop:=∀ i ∈ c,1≤i.Op∧i.Op≤32
def UnitsOk (l:List TUnit):Prop:=∀ u ∈ l,(2≤u.Kind∧u.Kind≤4)∧OpsOk u.Code
def Pq (o:Option (List UInt8×TWhere)) (C:Prop) (t:List UInt8):Prop:=∃ r,o=some r∧(r.2.Err=0→C∧r.1=t∧r.1.length≤60000)
theorem code_t {k:Int} {x:TUnit} {K:Int→List UInt8→Option (List UInt8×TWhere)} {C:Prop} {R:List UInt8} (hx:MzU x) (hk:-1≤k∧k≤10000000) (hK:∀ b:List UInt8,b.length≤60000→Pq (K (k+1) b) C (b++R)):∀ (n i:Nat) (b:List UInt8),b.length≤1000000000+60*i→i≤x.Code.length→x.Code.length - i<n→Pq (asm_print_l3 k x K n (i:Int) b) (OpsOk (x.Code.drop i)∧C) (b++codeT (x.Code.drop i)++R):=by
 obtain ⟨-,-,-,-,-,hc,hcr⟩:=hx
 intro n
 induction n with
 | zero=>intro i b _ _ h; omega
 | succ n ih =>
  intro i b hb hi hn
  unfold asm_print_l3
  by_cases c:i<x.Code.length
  ·have hr:=hcr _ (List.getElem_mem c)
   rw [drop_e c]
   generalize hq:x.Code[i]=q at hr
   rw [if_pos (by omega),at_ok c,hq,Option.bind_some]
   by_cases ho:1≤q.Op∧q.Op≤32
   ·obtain ⟨w,h,nn,aa,l,e1,e2,e3,e4,e5,e6,-,e7⟩:=word_e ho.1 ho.2
    have hA:=itoa_len hr.2.1
    have hN:=itoa_len hr.2.2
    rw [if_neg (by omega),decide_eq_false (by omega)]
    have hX:insX q=insT w h q:=by unfold insX; rw [e1]
    have key:asm_print_j3 k (i:Int) b q (asm_print_l3 k x K n) false=asm_print_l3 k x K n ((i+1:Nat):Int) (b++insT w h q):=by
     unfold asm_print_j3
     rw [if_neg (by decide),i64_ok (by omega),Option.bind_some,e3,Option.bind_some,e4,Option.bind_some,cat_t (by simp; omega),Option.bind_some]
     unfold asm_print_j4
     rw [e2,Option.bind_some]
     rcases e7 with ⟨rfl,rfl,rfl⟩ | ⟨rfl,rfl,rfl⟩ | ⟨rfl,rfl,rfl⟩
     ·rw [if_pos rfl,cat_t (by simp; omega),Option.bind_some,fmt_t hr.2.2,Option.bind_some,cat_t (by simp; omega),Option.bind_some,cat_t (by simp; omega),Option.bind_some,str_t (by simp; omega),Option.bind_some,i64_ok (by omega),Option.bind_some,show ((i:Int)+1)=((i+1:Nat):Int) by omega]
      congr 1
      simp [insT]
     ·rw [if_neg (by decide),if_pos rfl,line_t (by simpa using hr.2.1) (by simp) (by simp; omega),Option.bind_some,i64_ok (by omega),Option.bind_some,show ((i:Int)+1)=((i+1:Nat):Int) by omega]
      congr 1
      simp [insT,nums]
     ·rw [if_neg (by decide),if_neg (by decide),line_t (by simp) (by simp) (by simp; omega),Option.bind_some,i64_ok (by omega),Option.bind_some,show ((i:Int)+1)=((i+1:Nat):Int) by omega]
      congr 1
      simp [insT,nums]
    have hl:=insT_len (h:=h) hr e6
    rw [key]
    obtain ⟨r,h1,h2⟩:=ih (i+1) (b++insT w h q) (by simp; omega) c (by omega)
    refine ⟨r,h1,fun h0=>?_⟩
    obtain ⟨⟨g1,g2⟩,g3,g4⟩:=h2 h0
    refine ⟨⟨fun y hy=>?_,g2⟩,?_,g4⟩
    ·rcases List.mem_cons.1 hy with rfl | hy
     ·exact ho
     ·exact g1 y hy
    ·rw [g3]
     simp [codeT,hX]
   ·have bad:Pq (asm_print_j3 k (i:Int) b q (asm_print_l3 k x K n) true) (OpsOk (q::x.Code.drop (i+1))∧C) (b++codeT (q::x.Code.drop (i+1))++R):=⟨_,rfl,fun h=>absurd h (by simp)⟩
    by_cases c1:q.Op<1
    ·rw [if_pos c1]; exact bad
    ·rw [if_neg c1,decide_eq_true (by omega)]; exact bad
  ·rw [if_neg (by omega),List.drop_of_length_le (by omega)]
   unfold bd_len
   rw [Option.bind_some]
   by_cases c6:(60000:Int)<(b.length:Int)
   ·rw [if_pos c6]; exact ⟨_,rfl,fun h=>absurd h (by simp)⟩
   ·rw [if_neg c6,i64_ok (by omega),Option.bind_some]
    obtain ⟨r,h1,h2⟩:=hK b (by omega)
    refine ⟨r,h1,fun h0=>?_⟩
    obtain ⟨g1,g2,g3⟩:=h2 h0
    exact ⟨⟨fun y hy=>(List.not_mem_nil hy).elim,g1⟩,by rw [g2]; simp [codeT],g3⟩
theorem units_t {m:TModule} (hm:MzM m):∀ (n i:Nat) (b:List UInt8),b.length≤100000000→i≤m.Units.length→m.Units.length - i<n→Pq (asm_print_l2 m n (i:Int) b) (UnitsOk (m.Units.drop i)) (b++((m.Units.drop i).map unitT).flatten):=by
 obtain ⟨-,hul,hur⟩:=hm
 intro n
 induction n with
 | zero=>intro i b _ _ h; omega
 | succ n ih =>
  intro i b hb hi hn
  unfold asm_print_l2
  by_cases c:i<m.Units.length
  ·have hr:=hur _ (List.getElem_mem c)
   rw [drop_e c]
   generalize hq:m.Units[i]=q at hr
   rw [if_pos (by omega),at_ok c,hq,Option.bind_some]
   have hr':=hr
   obtain ⟨r0,r1,r2,r3,⟨hll,hlr⟩,hcl,hcr⟩:=hr'
   have hns:∀ y ∈ ([q.Params,q.Result,q.Takes]:List Int)++q.Locals,R64 y:=fun y hy=>by
    rcases List.mem_append.1 hy with h | h
    ·simp only [List.mem_cons,List.not_mem_nil,or_false] at h
     rcases h with rfl | rfl | rfl
     ·exact r1
     ·exact r2
     ·exact r3
    ·exact hlr y h
   have hnl:=nums_len hns
   simp only [List.length_append,List.length_cons,List.length_nil] at hnl
   have main:∀ w:List UInt8,w=kindW q.Kind→w.length≤4→(2≤q.Kind∧q.Kind≤4)→Pq ((app ([q.Params,q.Result,q.Takes]:List Int) q.Locals).bind (fun l755=>(pr_line w l755 b).bind fun r765=>asm_print_j2 (i:Int) q (asm_print_l2 m n) r765)) (UnitsOk (q::m.Units.drop (i+1))) (b++((q::m.Units.drop (i+1)).map unitT).flatten):=fun w hw hwl hk=>by
    rw [app_t (by simp; omega),Option.bind_some,line_t hns (by simp; omega) (by simp; omega),Option.bind_some]
    unfold asm_print_j2
    obtain ⟨r,h1,h2⟩:=code_t (K:=asm_print_l2 m n) (k:=(i:Int)) (C:=UnitsOk (m.Units.drop (i+1))) (R:=((m.Units.drop (i+1)).map unitT).flatten) hr (by omega) (fun b hb=>by
     have:=ih (i+1) b (by omega) c (by omega)
     rw [show ((i:Int)+1)=((i+1:Nat):Int) by omega]
     exact this) (q.Code.length+1) 0 (b++w++nums ([q.Params,q.Result,q.Takes]++q.Locals)++[10]) (by simp at hnl ⊢; omega) (by omega) (by omega)
    refine ⟨r,h1,fun h0=>?_⟩
    obtain ⟨⟨g1,g2⟩,g3,g4⟩:=h2 h0
    rw [List.drop_zero] at g1 g3
    refine ⟨fun u hu=>?_,?_,g4⟩
    ·rcases List.mem_cons.1 hu with rfl | hu
     ·exact ⟨hk,g1⟩
     ·exact g2 u hu
    ·rw [g3,List.map_cons,List.flatten_cons,unitT,← hw]
     simp
   by_cases hk:2≤q.Kind∧q.Kind≤4
   ·rw [if_neg (by omega),decide_eq_false (by omega)]
    unfold asm_print_j1
    rw [if_neg (by decide),i64_ok (by omega),Option.bind_some]
    have h3:q.Kind=2∨q.Kind=3∨q.Kind=4:=by omega
    have hk':=hk
    rcases h3 with h | h | h
    ·rw [h]; exact main [102,110] (by rw [h]; rfl) (by decide) hk
    ·rw [h]; exact main [103,101,110] (by rw [h]; rfl) (by decide) hk
    ·rw [h]; exact main [116,97,115,107] (by rw [h]; rfl) (by decide) hk
   ·have bad:Pq (asm_print_j1 (i:Int) b q (asm_print_l2 m n) true) (UnitsOk (q::m.Units.drop (i+1))) (b++((q::m.Units.drop (i+1)).map unitT).flatten):=⟨_,rfl,fun h=>absurd h (by simp)⟩
    by_cases c2:q.Kind<2
    ·rw [if_pos c2]; exact bad
    ·rw [if_neg c2,decide_eq_true (by omega)]; exact bad
  ·rw [if_neg (by omega),List.drop_of_length_le (by omega)]
   unfold bd_len
   rw [Option.bind_some]
   by_cases c6:(60000:Int)<(b.length:Int)
   ·rw [if_pos c6]; exact ⟨_,rfl,fun h=>absurd h (by simp)⟩
   ·rw [if_neg c6]
    exact ⟨_,rfl,fun _=>⟨fun u hu=>(List.not_mem_nil hu).elim,by simp,by show b.length≤_; omega⟩⟩
theorem print_t {m:TModule} (hm:MzM m):Pq (asm_print m) (UnitsOk m.Units) (modT m):=by
 have key:∀ (n i:Nat) (b:List UInt8),b.length≤50*i→i≤m.Boxes.length→m.Boxes.length - i<n→Pq (asm_print_l1 m n (i:Int) b) (UnitsOk m.Units) (b++((m.Boxes.drop i).map boxT).flatten++(m.Units.map unitT).flatten):=by
  intro n
  induction n with
  | zero=>intro i b _ _ h; omega
  | succ n ih =>
   intro i b hb hi hn
   unfold asm_print_l1
   have hbl:=hm.1.1
   by_cases c:i<m.Boxes.length
   ·obtain ⟨h1,h2⟩:=hm.1.2 _ (List.getElem_mem c)
    have l1:=itoa_len h1
    have l2:=itoa_len h2
    rw [if_pos (by omega),at_ok c,Option.bind_some,line_t (by simp [h1,h2]) (by simp) (by simp; omega),Option.bind_some,i64_ok (by omega),Option.bind_some,show ((i:Int)+1)=((i+1:Nat):Int) by omega]
    have:=ih (i+1) (b++[98,111,120]++nums [m.Boxes[i].Typ,m.Boxes[i].Cap]++[10]) (by simp [nums]; omega) c (by omega)
    rw [drop_e c,List.map_cons,List.flatten_cons,boxT]
    simpa using this
   ·rw [if_neg (by omega),List.drop_of_length_le (by omega)]
    have:=units_t hm (m.Units.length+1) 0 b (by omega) (by omega) (by omega)
    simpa using this
 have:=key (m.Boxes.length+1) 0 [] (by simp) (by omega) (by omega)
 simpa [modT,asm_print] using this
theorem inv0:Inv 0 [] []:=⟨by simp,by simp,by simp⟩
theorem read_any (fu:Nat) (hfu:60001≤fu) (s:List UInt8):∃ m f,asm_read fu s=some (m,f)∧Inv 60000 m.Boxes m.Units∧(f.Err=0→s.length≤60000∧asm_read_l1 fu s 0 [] []=some (m,f)):=by
 unfold asm_read
 split
 ·exact ⟨_,_,rfl,⟨by simp,by simp,by simp⟩,fun h=>by simp at h⟩
 ·rename_i h
  obtain ⟨m,f,e1,e2,e3,e4⟩:=read_some fu s 0 [] [] (by omega) inv0 (by omega)
  exact ⟨m,f,e1,e2,fun _=>⟨by omega,e1⟩⟩
theorem same_r {fu:Nat} (hf:60001≤fu) {s:List UInt8} {m:TModule} {f:TFault} (h:asm_read fu s=some (m,f)):r6_same m m=some true:=by
 obtain ⟨m',f',h1,h2,-⟩:=read_any fu hf s
 rw [h] at h1
 obtain ⟨rfl,rfl⟩:=Prod.mk.inj (Option.some.inj h1)
 exact same_refl m ⟨by have:=h2.b; omega,by have:=h2.u; omega,fun x hx=>by have:=h2.e x hx; omega⟩
theorem law_asmt_ok {m:TModule} {s:List UInt8} (hm:MzM m):law_asmt 60001 m s=some true:=by
 unfold law_asmt
 obtain ⟨r,hr,-⟩:=print_t hm
 rw [← print_e (fu:=60001) (by decide) hm,hr,Option.bind_some,Option.bind_some,if_neg (fun g=>g rfl)]
 unfold law_asmt_j1
 rw [if_neg (by simp [andL])]
 obtain ⟨m',f',h1,-,-⟩:=read_any 60001 (by decide) s
 rw [← read_e (by decide),h1,Option.bind_some,Option.bind_some,if_pos (by simp [andL]),same_r (by decide) h1]
 rfl
end Go.Y
