/- Texts of AsmTurns Pl. -/
import Derived.Test.YtnjpnifbgldmiaaDoorCMd
import Derived.Lib.CutLaws
import Derived.Lib.IndexMore
import Derived.Lib.CountLaws
import Derived.Lib.ItoaMem
import Derived.Lib.ParseIntBCases
set_option linter.unusedSimpArgs false
set_option linter.unusedVariables false
set_option linter.unusedSectionVars false
namespace Go.Y
open Go.Wk Go.Xt
theorem i64_ok {n:Int} (h:-9223372036854775808≤n∧n≤9223372036854775807):i64 n=some n:=if_pos h
theorem at_ok {α:Type} {l:List α} {i:Nat} (h:i<l.length):at_ l (i:Int)=some l[i]:=by simp [at_,h]
theorem bS {α β:Type} {x:α} {f:α→Option β}:Option.bind (some x) f=f x:=rfl
theorem sameInts_refl (l:List Int) (hl:l.length≤4294967296):∀ (n i:Nat),i≤l.length→l.length<n+i→r6_ints_l1 l l n i=some true:=by
 intro n
 induction n with
 | zero=>intro i h1 h2; omega
 | succ n ih =>
  intro i h1 h2
  unfold r6_ints_l1
  split
  ·rename_i h
   have h:i<l.length:=by omega
   rw [at_ok h,bS,bS,if_neg (by simp),i64_ok (by omega),bS]
   exact ih (i+1) (by omega) (by omega)
  ·rfl
theorem same_code (u:Int) (l:List TInstr) (k:Int→Option Bool) (hl:l.length≤4294967296):∀ (n i:Nat),i≤l.length→l.length<n+i→r6_same_l3 u l l k n i=Option.bind (i64 (u+1)) k:=by
 intro n
 induction n with
 | zero=>intro i h1 h2; omega
 | succ n ih =>
  intro i h1 h2
  unfold r6_same_l3
  split
  ·rename_i h
   have h:i<l.length:=by omega
   rw [at_ok h,bS,bS,if_pos (by simp [andL]),i64_ok (by omega),bS]
   exact ih (i+1) (by omega) (by omega)
  ·rfl
structure Small (m:TModule):Prop where
 b:m.Boxes.length≤4294967296
 u:m.Units.length≤4294967296
 e:∀ x ∈ m.Units,x.Code.length≤4294967296∧x.Locals.length≤4294967296
theorem same_units (m:TModule) (hm:Small m):∀ (n i:Nat),i≤m.Units.length→m.Units.length<n+i→r6_same_l2 m m n i=some true:=by
 intro n
 induction n with
 | zero=>intro i h1 h2; omega
 | succ n ih =>
  intro i h1 h2
  unfold r6_same_l2
  split
  ·rename_i h
   have h:i<m.Units.length:=by omega
   obtain ⟨e1,e2⟩:=hm.e _ (List.getElem_mem h)
   have hi:=hm.u
   rw [at_ok h,bS,bS]
   unfold r6_same_j2
   rw [if_neg (by simp),if_neg (by simp),if_neg (by simp),if_neg (by simp)]
   unfold r6_ints
   rw [if_neg (by simp)]
   have:=sameInts_refl m.Units[i].Locals e2 (m.Units[i].Locals.length+1) 0 (by omega) (by omega)
   rw [show ((0:Nat):Int)=0 from rfl] at this
   rw [this,bS,if_pos rfl]
   unfold r6_same_j3
   rw [if_neg (by simp)]
   have:=same_code i m.Units[i].Code (r6_same_l2 m m n) e1 (m.Units[i].Code.length+1) 0 (by omega) (by omega)
   rw [show ((0:Nat):Int)=0 from rfl] at this
   rw [this,i64_ok (by omega),bS]
   exact ih (i+1) (by omega) (by omega)
  ·rfl
theorem same_boxes (m:TModule) (hm:Small m):∀ (n i:Nat),i≤m.Boxes.length→m.Boxes.length<n+i→r6_same_l1 m m n i=some true:=by
 intro n
 induction n with
 | zero=>intro i h1 h2; omega
 | succ n ih =>
  intro i h1 h2
  have hb:=hm.b
  unfold r6_same_l1
  split
  ·rename_i h
   have h:i<m.Boxes.length:=by omega
   rw [at_ok h,bS,bS,if_pos (by simp [andL]),i64_ok (by omega),bS]
   exact ih (i+1) (by omega) (by omega)
  ·exact same_units m hm _ 0 (by omega) (by omega)
theorem same_refl (m:TModule) (hm:Small m):r6_same m m=some true:=by
 unfold r6_same
 rw [if_neg (by simp)]
 unfold r6_same_j1
 rw [if_neg (by simp)]
 exact same_boxes m hm _ 0 (by omega) (by omega)
def line (bs:List TBi) (us:List TUnit) (ln:List UInt8):Option (Bool×List TBi×List TUnit) :=
 Option.bind (s_pre ln [9]) fun r =>
 if r.2=true then
  Option.bind (asm_instr r.1) fun q =>
  if q.2=true∧0<us.length then
   Option.bind (at_ us ((us.length:Int) - 1)) fun x =>
   Option.bind (app x.Code [q.1]) fun l=>some (true,bs,uset us l)
  else some (false,bs,us)
 else asm_head bs us ln
theorem read_step (n:Nat) (s:List UInt8) (i:Int) (us:List TUnit) (bs:List TBi) (hu:us.length≤4294967296):asm_read_l1 (n+1) s i us bs =
  if s≠[] then Option.bind (s_cut s [10]) fun r =>
   if r.2.2=true then Option.bind (line bs us r.1) fun q=>if q.1=true then Option.bind (i64 (i+1)) fun i'=>asm_read_l1 n r.2.1 i' q.2.2 q.2.1 else some (⟨[],[]⟩,⟨2,i⟩)
   else some (⟨[],[]⟩,⟨2,i⟩)
  else some (⟨bs,us⟩,⟨0,0⟩):=by
 rw [asm_read_l1]
 split
 ·congr 1
  funext r
  split
  ·unfold line
   cases h1:s_pre r.1 [9] with
   | none=>rfl
   | some q =>
    simp only [bS]
    split
    ·cases h2:asm_instr q.1 with
     | none=>rfl
     | some p =>
      simp only [bS]
      by_cases h3:p.2=true
      ·by_cases h4:0<us.length
       ·rw [if_pos h3,if_pos ⟨h3,h4⟩]
        unfold asm_read_j2
        rw [if_pos (by simpa using h4),i64_ok (by omega)]
        simp only [bS]
        cases h5:at_ us ((us.length:Int) - 1) with
        | none=>rfl
        | some x =>
         simp only [bS]
         cases h6:app x.Code [p.1] with
         | none=>rfl
         | some l =>
          simp only [bS]
          unfold asm_read_j3 asm_read_j1
          rw [if_pos h3]
          simp
       ·rw [if_pos h3,if_neg (fun h=>h4 h.2)]
        unfold asm_read_j2 asm_read_j1
        rw [if_neg (by simpa using h4)]
        simp
      ·rw [if_neg h3,if_neg (fun h=>h3 h.1)]
       unfold asm_read_j2 asm_read_j1
       simp
    ·cases h2:asm_head bs us r.1 with
     | none=>rfl
     | some p =>
      simp only [bS]
      unfold asm_read_j1
      split <;> rfl
  ·rename_i h
   unfold asm_read_j1
   rw [if_neg h]
 ·rfl
theorem idx_app (c:UInt8) (t:List UInt8):∀ s:List UInt8,0≤Lib.index s [c]→Lib.index (s++t) [c]=Lib.index s [c]
 | [],h=>by simp [Lib.index] at h
 | b::l,h=>by
  rw [List.cons_append]
  unfold Lib.index at h ⊢
  have e:[c].isPrefixOf (b::(l++t))=[c].isPrefixOf (b::l):=by simp [List.isPrefixOf]
  rw [e]
  split
  ·rfl
  ·rename_i h1
   rw [if_neg h1] at h
   split at h
   ·omega
   ·rename_i h2
    have h3:=Lib.index_ge l [c]
    have h4:0≤Lib.index l [c]:=by simp at h2; omega
    rw [idx_app c t l h4]
theorem cut_app (c:UInt8) (s t a b:List UInt8) (h:Lib.cut s [c]=(a,b,true)):Lib.cut (s++t) [c]=(a,b++t,true)∧b.length<s.length∧s≠[]:=by
 unfold Lib.cut at h ⊢
 split at h
 ·rename_i h0
  have hr:=Lib.index_room s [c] h0
  simp only [Prod.mk.injEq,and_true] at h
  obtain ⟨rfl,rfl⟩:=h
  rw [idx_app c t s h0,if_pos h0]
  simp only [List.length_singleton] at hr ⊢
  refine ⟨?_,by simp; omega,by rintro rfl; simp [Lib.index] at h0⟩
  rw [List.take_append_of_le_length (by omega),List.drop_append_of_le_length (by omega)]
 ·simp at h
theorem app_ok {α:Type} {l xs:List α} (h:l.length+xs.length≤4294967296):app l xs=some (l++xs):=if_pos h
theorem pieces_le (sep:List UInt8):∀ (k:Nat) (s:List UInt8),∀ x ∈ Lib.splitK sep 0 k s,x.length≤s.length
 | 0,s,x,h=>by simp [Lib.splitK] at h; subst h; exact Nat.le_refl _
 | k+1,s,x,h=>by
  rw [Lib.splitK] at h
  split at h
  ·simp at h; subst h; exact Nat.le_refl _
  ·rcases List.mem_cons.1 h with rfl | h
   ·simp; omega
   ·exact Nat.le_trans (pieces_le sep k _ x h) (by simp)
theorem pieces_ne (sep:List UInt8) (k:Nat) (s:List UInt8):Lib.splitK sep 0 k s≠[]:=by
 cases k with
 | zero=>simp [Lib.splitK]
 | succ k=>rw [Lib.splitK]; split <;> simp
theorem pieces_len (sep:List UInt8):∀ (k:Nat) (s:List UInt8),(Lib.splitK sep 0 k s).length≤k+1
 | 0,s=>by simp [Lib.splitK]
 | k+1,s=>by
  rw [Lib.splitK]
  split
  ·simp
  ·have:=pieces_len sep k (s.drop ((Lib.index s sep).toNat+sep.length))
   simp; omega
theorem split_some {a:List UInt8} {c:UInt8} (h:a.length≤60000):∃ l,s_split a [c]=some l∧l≠[]∧l.length≤60002∧∀ x ∈ l,x.length≤60000:=by
 refine ⟨Lib.splitK [c] 0 (Lib.count a [c]) a,?_,pieces_ne _ _ _,?_,fun x hx=>Nat.le_trans (pieces_le _ _ _ x hx) h⟩
 ·unfold s_split
  rw [if_pos ⟨by omega,by simp⟩,Lib.splitB_data]
 ·have:=pieces_len [c] (Lib.count a [c]) a
  have:=Lib.count_le a [c]
  omega
theorem number_some {a:List UInt8} (h:a.length≤60000):∃ r,asm_number a=some r:=by
 unfold asm_number
 rw [if_pos (by omega)]
 exact ⟨_,rfl⟩
theorem numbers_l_some (l:List (List UInt8)) (hl:l.length≤60002) (hx:∀ x ∈ l,x.length≤60000):∀ (n i:Nat) (out:List Int),i≤l.length→l.length<n+i→out.length=i→∃ r,asm_numbers_l1 l n i out=some r∧r.1.length≤60002:=by
 intro n
 induction n with
 | zero=>intro i out h1 h2; omega
 | succ n ih =>
  intro i out h1 h2 h3
  unfold asm_numbers_l1
  split
  ·rename_i h
   have h:i<l.length:=by omega
   obtain ⟨r,hr⟩:=number_some (hx _ (List.getElem_mem h))
   rw [at_ok h,bS,hr,bS]
   split
   ·rw [app_ok (by simp; omega),bS,i64_ok (by omega),bS]
    exact ih (i+1) _ (by omega) (by omega) (by simp; omega)
   ·exact ⟨_,rfl,by simp⟩
  ·exact ⟨_,rfl,by simp; omega⟩
theorem numbers_some {l:List (List UInt8)} (hl:l.length≤60002) (hx:∀ x ∈ l,x.length≤60000):∃ r,asm_numbers l=some r∧r.1.length≤60002 :=
 numbers_l_some l hl hx (l.length+1) 0 [] (by omega) (by omega) rfl
theorem idx_range (x:ByteArray):∀ (zs:List ByteArray) (i:Nat),-1≤Lib.idxFromS zs x i∧Lib.idxFromS zs x i<i+zs.length
 | [],i=>by simp [Lib.idxFromS]; omega
 | z::zs,i=>by
  rw [Lib.idxFromS]
  split
  ·simp; omega
  ·have:=idx_range x zs (i+1)
   simp; omega
theorem sidx_some (l:List (List UInt8)) (x:List UInt8):∃ r,s_idx l x=some r∧-1≤r∧r<l.length:=by
 refine ⟨_,rfl,?_⟩
 have:=idx_range ⟨⟨x⟩⟩ (l.map fun y=>⟨⟨y⟩⟩) 0
 simpa [Lib.idxOfS] using this
theorem has_j1_some (i:Int) (b:Bool):∃ r,asm_has_j1 i b=some r:=by
 unfold asm_has_j1
 split <;> exact ⟨_,rfl⟩
theorem has_some (i:Int):∃ r,asm_has i=some r:=by
 unfold asm_has
 repeat' split
 all_goals exact has_j1_some _ _
theorem instr_some {a:List UInt8} (h:a.length≤60000):∃ r,asm_instr a=some r:=by
 obtain ⟨l,e1,hne,hl,hx⟩:=split_some (c:=32) h
 have hpos:0<l.length:=List.length_pos_iff.2 hne
 unfold asm_instr
 have e2:at_ l 0=some l[0]:=at_ok (i:=0) hpos
 rw [e1,bS,e2,bS]
 unfold asm_mnem
 rw [bS]
 obtain ⟨r,e3,h1,h2⟩:=sidx_some [[112,117,115,104],[116,114,117,116,104],[108,111,97,100],[115,116,111,114,101],[100,114,111,112],[110,101,103],[110,111,116],[97,100,100],[115,117,98],[109,117,108],[100,105,118],[109,111,100],[101,113],[110,101],[108,116],[108,101],[103,116],[103,101],[97,110,100],[111,114],[106,117,109,112],[101,108,115,101],[99,97,108,108],[114,101,116],[101,110,100],[115,101,110,100],[114,101,99,118],[111,117,116],[115,116,97,114,116],[114,101,115,117,109,101],[121,105,101,108,100],[97,108,105,118,101]] l[0]
 simp only [List.length_cons,List.length_nil] at h2
 rw [e3,bS,i64_ok (by omega),bS]
 unfold asm_instr_j1
 obtain ⟨q,hq⟩:=has_some (r+1)
 rw [hq,bS]
 have j5:∀ a b c d,∃ r,asm_instr_j5 a b c d=some r:=fun a b c d=>⟨_,rfl⟩
 have j4:∀ w b,(b=true∨w=1∨2≤l.length)→∃ r',asm_instr_j4 l (r+1) q w b=some r':=by
  intro w b hw
  unfold asm_instr_j4
  split
  ·exact ⟨_,rfl⟩
  ·split
   ·exact ⟨_,rfl⟩
   ·rename_i c1 c2
    have h2:1<l.length:=by
     rcases hw with h | h | h
     ·exact absurd h c1
     ·exact absurd h c2
     ·omega
    obtain ⟨v,hv⟩:=number_some (hx _ (List.getElem_mem h2))
    have e4:at_ l 1=some l[1]:=at_ok (i:=1) h2
    rw [e4,bS,hv,bS]
    split <;> exact j5 _ _ _ _
 have j3:∀ w,(w=1∨w=2)→∃ r',asm_instr_j3 l (r+1) q w=some r':=by
  intro w hw
  unfold asm_instr_j3
  split
  ·exact j4 _ _ (.inl rfl)
  ·refine j4 _ _ ?_
   rcases hw with rfl | rfl
   ·exact .inr (.inl rfl)
   ·by_cases hl2:(l.length:Int)=2
    ·exact .inr (.inr (by omega))
    ·exact .inl (by simpa using hl2)
 have j2:∀ b,∃ r',asm_instr_j2 l (r+1) q b=some r':=by
  intro b
  unfold asm_instr_j2
  split
  ·exact j3 _ (.inr rfl)
  ·exact j3 _ (.inl rfl)
 split <;> exact j2 _
structure Inv (k:Nat) (bs:List TBi) (us:List TUnit):Prop where
 b:bs.length≤k
 u:us.length≤k
 e:∀ x ∈ us,x.Code.length≤k∧x.Locals.length≤60002
theorem Inv.mono {k k':Nat} {bs:List TBi} {us:List TUnit} (h:Inv k bs us) (hk:k≤k'):Inv k' bs us :=
 ⟨by have:=h.b; omega,by have:=h.u; omega,fun x hx=>by have:=h.e x hx; omega⟩
theorem cut_ok {α:Type} {l:List α} {i j:Int} (h:0≤i∧i≤j∧j≤l.length):cut l i j=some ((l.take j.toNat).drop i.toNat):=if_pos h
theorem head_some {k:Nat} {bs:List TBi} {us:List TUnit} {ln:List UInt8} (hI:Inv k bs us) (hk:k≤60000) (h:ln.length≤60000):∃ b bs' us',asm_head bs us ln=some (b,bs',us')∧Inv (k+1) bs' us':=by
 obtain ⟨l,e1,hne,hl,hx⟩:=split_some (c:=32) h
 have hpos:0<l.length:=List.length_pos_iff.2 hne
 have hb:=hI.b
 have hu:=hI.u
 have stay:Inv (k+1) bs us:=hI.mono (by omega)
 unfold asm_head
 rw [e1,bS,cut_ok (by omega),bS]
 obtain ⟨r,e2,hr⟩:=numbers_some (l:=(l.take (l.length:Int).toNat).drop (1:Int).toNat) (by simp; omega) (fun x hx'=>hx x (List.mem_of_mem_take (List.mem_of_mem_drop hx')))
 rw [e2,bS]
 split
 ·have e3:at_ l 0=some l[0]:=at_ok (i:=0) hpos
  rw [e3,bS]
  split
  ·have j1:∀ b,(b=true∨(r.1.length:Int)=2)→∃ b' bs' us',asm_head_j1 bs us r b=some (b',bs',us')∧Inv (k+1) bs' us':=by
    intro b hb'
    unfold asm_head_j1
    split
    ·exact ⟨_,_,_,rfl,stay⟩
    ·rename_i c
     have h2:r.1.length=2:=by rcases hb' with h | h; exact absurd h c; omega
     have f1:at_ r.1 0=some r.1[0]:=at_ok (i:=0) (by omega)
     have f2:at_ r.1 1=some r.1[1]:=at_ok (i:=1) (by omega)
     rw [f1,bS,f2,bS,app_ok (by simp; omega),bS]
     exact ⟨_,_,_,rfl,⟨by simp; omega,by omega,stay.e⟩⟩
   split
   ·exact j1 _ (.inl rfl)
   ·rename_i c; exact j1 _ (.inr (by omega))
  ·rw [bS]
   unfold asm_units
   rw [bS]
   obtain ⟨q,e4,h1,h2⟩:=sidx_some [[102,110],[103,101,110],[116,97,115,107]] l[0]
   simp only [List.length_cons,List.length_nil] at h2
   rw [e4,bS]
   have j4:∀ b,(b=true∨3≤r.1.length)→∃ b' bs' us',asm_head_j4 bs us r q b=some (b',bs',us')∧Inv (k+1) bs' us':=by
    intro b hb'
    unfold asm_head_j4
    split
    ·exact ⟨_,_,_,rfl,stay⟩
    ·rename_i c
     have h2:3≤r.1.length:=by rcases hb' with h | h; exact absurd h c; exact h
     have f1:at_ r.1 0=some r.1[0]:=at_ok (i:=0) (by omega)
     have f2:at_ r.1 1=some r.1[1]:=at_ok (i:=1) (by omega)
     have f3:at_ r.1 2=some r.1[2]:=at_ok (i:=2) (by omega)
     rw [i64_ok (by omega),bS,f1,bS,f2,bS,f3,bS,cut_ok (by omega),bS,app_ok (by simp; omega),bS]
     refine ⟨_,_,_,rfl,⟨by omega,by simp; omega,fun x hx=>?_⟩⟩
     rcases List.mem_append.1 hx with hx | hx
     ·exact stay.e x hx
     ·simp at hx; subst hx; simp; omega
   unfold asm_head_j3
   split
   ·exact j4 _ (.inl rfl)
   ·by_cases h3:3≤r.1.length
    ·exact j4 _ (.inr h3)
    ·exact j4 _ (.inl (by simp; omega))
 ·exact ⟨_,_,_,rfl,stay⟩
theorem line_some {k:Nat} {bs:List TBi} {us:List TUnit} {ln:List UInt8} (hI:Inv k bs us) (hk:k≤60000) (h:ln.length≤60000):∃ b bs' us',line bs us ln=some (b,bs',us')∧Inv (k+1) bs' us':=by
 have stay:Inv (k+1) bs us:=hI.mono (by omega)
 unfold line
 unfold s_pre
 rw [bS]
 split
 ·have hp:(Lib.trimPrefix ln [9]).length≤60000:=by
   unfold Lib.trimPrefix; split <;> first | exact h | (simp; omega)
  obtain ⟨q,hq⟩:=instr_some hp
  rw [hq,bS]
  split
  ·rename_i c
   have hu:=hI.u
   have hne:us≠[]:=fun e=>by rw [e] at c; simp at c
   obtain ⟨init,x,rfl⟩:∃ init x,us=init++[x]:=⟨us.dropLast,us.getLast hne,(List.dropLast_concat_getLast hne).symm⟩
   have hx:=hI.e x (by simp)
   have e1:at_ (init++[x]) (((init++[x]).length:Int) - 1)=some x:=by
    rw [show (((init++[x]).length:Int) - 1)=(init.length:Int) by simp,at_ok (by simp)]
    simp
   rw [e1,bS,app_ok (by simp; omega),bS,uset_app]
   refine ⟨_,_,_,rfl,⟨stay.b,by simpa using stay.u,fun y hy=>?_⟩⟩
   rcases List.mem_append.1 hy with hy | hy
   ·exact stay.e y (by simp [hy])
   ·simp at hy; subst hy
    show (x.Code++[q.1]).length≤k+1∧x.Locals.length≤60002
    simp; omega
  ·exact ⟨_,_,_,rfl,stay⟩
 ·exact head_some hI hk h
theorem cut_some {s:List UInt8} (h:s.length≤60000):s_cut s [10]=some (Lib.cut s [10]):=if_pos (by omega)
theorem cut_small {s:List UInt8}:(Lib.cut s [10]).1.length≤s.length:=by
 unfold Lib.cut
 split
 ·simp; omega
 ·exact Nat.le_refl _
theorem read_some:∀ (n:Nat) (s:List UInt8) (k:Nat) (us:List TUnit) (bs:List TBi),s.length<n→Inv k bs us→k+s.length≤60000 →
  ∃ m f,asm_read_l1 n s k us bs=some (m,f)∧Inv 60000 m.Boxes m.Units∧(f.Err=0∨f.Err=2)∧(∀ n',n≤n'→asm_read_l1 n' s k us bs=some (m,f)):=by
 intro n
 induction n with
 | zero=>intro s k us bs h; omega
 | succ n ih =>
  intro s k us bs h1 hI h2
  have hu:=hI.u
  by_cases hs:s=[]
  ·refine ⟨⟨bs,us⟩,⟨0,0⟩,?_,hI.mono (by omega),.inl rfl,?_⟩
   ·rw [read_step _ _ _ _ _ (by omega),if_neg (by simpa using hs)]
   ·intro n' hn
    obtain ⟨n',rfl⟩:∃ q,n'=q+1:=⟨n' - 1,by omega⟩
    rw [read_step _ _ _ _ _ (by omega),if_neg (by simpa using hs)]
  ·rcases hcut:Lib.cut s [10] with ⟨a,b,c⟩
   have ha:a.length≤s.length:=by have:=cut_small (s:=s); rw [hcut] at this; exact this
   have nil:Inv 60000 [] []:=⟨by simp,by simp,by simp⟩
   cases c with
   | false =>
    refine ⟨⟨[],[]⟩,⟨2,k⟩,?_,nil,.inr rfl,?_⟩
    ·rw [read_step _ _ _ _ _ (by omega),if_pos hs,cut_some (by omega),bS,hcut]; rfl
    ·intro n' hn
     obtain ⟨n',rfl⟩:∃ q,n'=q+1:=⟨n' - 1,by omega⟩
     rw [read_step _ _ _ _ _ (by omega),if_pos hs,cut_some (by omega),bS,hcut]; rfl
   | true =>
    obtain ⟨-,hb,-⟩:=cut_app 10 s [] a b hcut
    obtain ⟨ok,bs',us',e,hI'⟩:=line_some (ln:=a) hI (by omega) (by omega)
    cases ok with
    | false =>
     refine ⟨⟨[],[]⟩,⟨2,k⟩,?_,nil,.inr rfl,?_⟩
     ·rw [read_step _ _ _ _ _ (by omega),if_pos hs,cut_some (by omega),bS,hcut,if_pos rfl,e,bS]; rfl
     ·intro n' hn
      obtain ⟨n',rfl⟩:∃ q,n'=q+1:=⟨n' - 1,by omega⟩
      rw [read_step _ _ _ _ _ (by omega),if_pos hs,cut_some (by omega),bS,hcut,if_pos rfl,e,bS]; rfl
    | true =>
     obtain ⟨m,f,e1,e2,e3,e4⟩:=ih b (k+1) us' bs' (by omega) hI' (by omega)
     have st:∀ q,asm_read_l1 (q+1) s k us bs=asm_read_l1 q b (k+1:Nat) us' bs':=fun q=>by
      rw [read_step _ _ _ _ _ (by omega),if_pos hs,cut_some (by omega),bS,hcut,if_pos rfl,e,bS,if_pos rfl,i64_ok (by omega),bS]
      rfl
     refine ⟨m,f,by rw [st]; exact e1,e2,e3,?_⟩
     intro n' hn
     obtain ⟨n',rfl⟩:∃ q,n'=q+1:=⟨n' - 1,by omega⟩
     rw [st]
     exact e4 n' (by omega)
end Go.Y
namespace Go.Y
open Go.Wk Go.Xt
theorem dec_small {u:Nat} (h:u<10):Lib.decDigits u=[UInt8.ofNat (48+u)]:=by rw [Lib.decDigits,dif_pos h]
theorem dec_big {u:Nat} (h:¬ u<10):Lib.decDigits u=Lib.decDigits (u / 10)++[UInt8.ofNat (48+u % 10)]:=by rw [Lib.decDigits,dif_neg h]
theorem dec_len:∀ (n u:Nat),u<10 ^ (n+1)→(Lib.decDigits u).length≤n+1:=by
 intro n
 induction n with
 | zero=>intro u h; rw [dec_small (by simpa using h)]; simp
 | succ n ih =>
  intro u h
  by_cases c:u<10
  ·rw [dec_small c]; simp
  ·rw [dec_big c]
   have:=ih (u / 10) (by rw [Nat.pow_succ] at h; omega)
   simp; omega
theorem p19:(10:Nat) ^ (18+1)=10000000000000000000:=by decide
theorem itoa_len {x:Int} (h:R64 x):1≤(Lib.itoa x).length∧(Lib.itoa x).length≤20:=by
 obtain ⟨h0,h1⟩:=h
 unfold Lib.itoa
 by_cases c:x<0
 ·rw [if_pos c]
  have:=dec_len 18 x.natAbs (by rw [p19]; omega)
  simp; omega
 ·rw [if_neg c]
  have:=dec_len 18 x.toNat (by rw [p19]; omega)
  refine ⟨?_,by omega⟩
  by_cases d:x.toNat<10
  ·rw [dec_small d]; simp
  ·rw [dec_big d]; simp
end Go.Y
namespace Go.Y
open Go.Wk Go.Xt
def nums (ns:List Int):List UInt8:=(ns.map fun n=>32::Lib.itoa n).flatten
theorem nums_cons (a:Int) (l:List Int):nums (a::l)=32::Lib.itoa a++nums l:=by simp [nums]
theorem nums_nil:nums []=[]:=rfl
theorem nums_len {ns:List Int} (h:∀ n ∈ ns,R64 n):(nums ns).length≤21*ns.length:=by
 induction ns with
 | nil=>simp [nums]
 | cons a l ih =>
  have h1:=itoa_len (h a (by simp))
  have h2:=ih fun n hn=>h n (by simp [hn])
  unfold nums at h2 ⊢
  simp only [List.map_cons,List.flatten_cons,List.length_append,List.length_cons]
  omega
theorem cat_t {a b:List UInt8} (h:a.length+b.length≤4294967296):cat a b=some (a++b):=by unfold cat; rw [if_pos (by omega)]
theorem app_t {α:Type} {a b:List α} (h:a.length+b.length≤4294967296):app a b=some (a++b):=by unfold app; rw [if_pos h]
theorem str_t {a b:List UInt8} (h:a.length+b.length≤4294967296):bd_str a b=some ((b.length:Int),(),a++b):=by unfold bd_str; rw [app_t h]; rfl
theorem byte_t {a:List UInt8} {c:UInt8} (h:a.length+1≤4294967296):bd_byte a c=some ((),a++[c]):=by unfold bd_byte; rw [app_t (by simpa using h)]; rfl
theorem fmt_t {n:Int} (h:R64 n):fmt10 n=some (Lib.itoa n):=by unfold fmt10; rw [if_pos ⟨h.1,h.2⟩]
theorem drop_e {α:Type} {l:List α} {i:Nat} (h:i<l.length):l.drop i=l[i]::l.drop (i+1):=List.drop_eq_getElem_cons h
theorem line_l1 {ns:List Int} (h:∀ n ∈ ns,R64 n) (hl:ns.length≤10000000):∀ (n i:Nat) (b:List UInt8),i≤ns.length→ns.length - i<n→b.length+21*(ns.length - i)+1≤4294967296→pr_line_l1 ns n (i:Int) b=some (b++nums (ns.drop i)++[10]):=by
 intro n
 induction n with
 | zero=>intro i b _ h; omega
 | succ n ih =>
  intro i b hi hn hb
  unfold pr_line_l1
  by_cases c:i<ns.length
  ·have hr:=h _ (List.getElem_mem c)
   have h1:=itoa_len hr
   rw [if_pos (by omega),at_ok c,Option.bind_some,fmt_t hr,Option.bind_some,cat_t (by simp; omega),Option.bind_some,str_t (by simp; omega),Option.bind_some,i64_ok (by omega),Option.bind_some]
   have:=ih (i+1) (b++32::Lib.itoa ns[i]) c (by omega) (by simp; omega)
   rw [show ((i:Int)+1)=((i+1:Nat):Int) by omega]
   refine this.trans ?_
   rw [drop_e c,nums_cons]
   simp only [List.append_assoc,List.cons_append,List.nil_append]
  ·rw [if_neg (by omega),byte_t (by omega),Option.bind_some,List.drop_of_length_le (by omega)]
   simp [nums]
theorem line_t {ns:List Int} {w b:List UInt8} (h:∀ n ∈ ns,R64 n) (hl:ns.length≤10000000) (hb:b.length+w.length+21*ns.length+1≤4294967296):pr_line w ns b=some (b++w++nums ns++[10]):=by
 unfold pr_line
 rw [str_t (by omega),Option.bind_some]
 have:=line_l1 h hl (ns.length+1) 0 (b++w) (by omega) (by omega) (by simp; omega)
 simpa using this
def wordOk (k:Nat):Bool:=match r13_word ((k:Int)+1),asm_has ((k:Int)+1),asm_mnem.bind fun l=>at_ l (k:Int) with
 | some (w,h),some (n,a),some x=>decide (w=x) && decide (w≠[]) && decide (w.length≤6) && decide (32 ∉ w∧10 ∉ w) && (decide (h=2∧n=true∧a=false) || decide (h=1∧n=false∧a=true) || decide (h=0∧n=false∧a=false))
 | _,_,_=>false
theorem word_all:∀ k:Nat,k<32→wordOk k=true:=by decide +kernel
theorem word_e {op:Int} (h0:1≤op) (h1:op≤32):∃ w h n a l,r13_word op=some (w,h)∧asm_has op=some (n,a)∧asm_mnem=some l∧at_ l (op - 1)=some w∧w≠[]∧w.length≤6∧(32 ∉ w∧10 ∉ w)∧((h=2∧n=true∧a=false)∨(h=1∧n=false∧a=true)∨(h=0∧n=false∧a=false)):=by
 obtain ⟨k,rfl⟩:∃ k:Nat,op=(k:Int)+1:=⟨(op - 1).toNat,by omega⟩
 have:=word_all k (by omega)
 unfold wordOk at this
 rw [show ((k:Int)+1 - 1)=(k:Int) by omega]
 cases e1:r13_word ((k:Int)+1) with
 | none=>rw [e1] at this; simp at this
 | some q =>
  obtain ⟨w,h⟩:=q
  cases e2:asm_has ((k:Int)+1) with
  | none=>rw [e1,e2] at this; simp at this
  | some q =>
   obtain ⟨n,a⟩:=q
   obtain ⟨l,hl⟩:∃ l,asm_mnem=some l:=⟨_,rfl⟩
   cases e3:at_ l (k:Int) with
   | none=>rw [e1,e2,hl,Option.bind_some,e3] at this; simp at this
   | some x =>
    rw [e1,e2,hl,Option.bind_some,e3] at this
    simp only [Bool.and_eq_true,Bool.or_eq_true,decide_eq_true_eq] at this
    obtain ⟨⟨⟨⟨rfl,t2⟩,t3⟩,t4⟩,t5⟩:=this
    exact ⟨w,h,n,a,l,rfl,rfl,hl,e3,t2,t3,t4,by rcases t5 with (t | t) | t <;> simp [t]⟩
theorem word_no {op:Int} (h:¬ (1≤op∧op≤32)):r13_word op=some ([],0):=by
 unfold r13_word
 by_cases c:op<1
 ·rw [if_pos c]; rfl
 ·rw [if_neg c,decide_eq_true (by omega)]; rfl
def insT (w:List UInt8) (h:Int) (i:TInstr):List UInt8:=9::w++(if h=1 then 32::Lib.itoa i.A else [])++(if h=2 then 32::Lib.itoa i.N else [])++[10]
theorem insT_len {w:List UInt8} {h:Int} {i:TInstr} (hi:MzC i) (hw:w.length≤6):(insT w h i).length≤60:=by
 have h1:=itoa_len hi.2.1
 have h2:=itoa_len hi.2.2
 unfold insT
 split <;> split <;> simp <;> omega
section
variable {fu:Nat} {k:Int} {x:TUnit} {s:List UInt8} {K:Int→List UInt8→Option (List UInt8×TWhere)} {K':List UInt8→Int→Option (List UInt8×TWhere)}
end
end Go.Y
namespace Go.Y
open Go.Wk Go.Xt
theorem dec_dig:∀ (u:Nat),∀ c ∈ Lib.decDigits u,48≤c.toNat∧c.toNat≤57:=by
 intro u
 induction u using Nat.strongRecOn with
 | ind u ih =>
  intro c hc
  by_cases h:u<10
  ·rw [dec_small h,List.mem_singleton] at hc
   subst hc
   rw [UInt8.toNat_ofNat']; omega
  ·rw [dec_big h,List.mem_append,List.mem_singleton] at hc
   rcases hc with hc | rfl
   ·exact ih (u / 10) (by omega) c hc
   ·rw [UInt8.toNat_ofNat']; omega
theorem dec_ne (u:Nat):Lib.decDigits u≠[]:=by
 by_cases h:u<10
 ·rw [dec_small h]; simp
 ·rw [dec_big h]; simp
theorem parse_dec (M:Nat):∀ (u:Nat) (r:List UInt8),u≤M→u≤9223372036854775808→Lib.parseUintM M 0 (Lib.decDigits u++r)=Lib.parseUintM M u r:=by
 intro u
 induction u using Nat.strongRecOn with
 | ind u ih =>
  intro r hM hu
  by_cases h:u<10
  ·have e:(UInt8.ofNat (48+u)).toNat=48+u:=by rw [UInt8.toNat_ofNat']; omega
   rw [dec_small h,List.singleton_append,Lib.parseUintM,if_pos (by omega),if_neg (by omega),if_neg (by omega)]
   congr 1
   omega
  ·have e:(UInt8.ofNat (48+u % 10)).toNat=48+u % 10:=by rw [UInt8.toNat_ofNat']; omega
   rw [dec_big h,List.append_assoc,ih (u / 10) (by omega) _ (by omega) (by omega),List.singleton_append,Lib.parseUintM,if_pos (by omega),if_neg (by omega),if_neg (by omega)]
   congr 1
   omega
theorem parse_itoa {v:Int} (h:R64 v):Lib.parseIntB 64 (Lib.itoa v)=.ok v:=by
 obtain ⟨h0,h1⟩:=h
 unfold Lib.itoa
 by_cases c:v<0
 ·rw [if_pos c,Lib.parseIntB_minus]
  unfold Lib.parseUintB
  have:=parse_dec (2 ^ 64 - 1) v.natAbs [] (by omega) (by omega)
  rw [List.append_nil] at this
  rw [if_neg (dec_ne _),this]
  unfold Lib.parseUintM Lib.signedC
  simp only
  rw [if_neg (by omega)]
  congr 1
  omega
 ·rw [if_neg c]
  have hd:=dec_dig v.toNat
  have hp:=parse_dec (2 ^ 64 - 1) v.toNat [] (by omega) (by omega)
  rw [List.append_nil] at hp
  have hne:=dec_ne v.toNat
  generalize hq:Lib.decDigits v.toNat=q at *
  cases q with
  | nil=>exact absurd rfl hne
  | cons a q =>
   have ha:=hd a (by simp)
   rw [Lib.parseIntB_plain _ _ _ (by omega) (by omega)]
   unfold Lib.parseUintB
   rw [if_neg hne,hp]
   unfold Lib.parseUintM Lib.signlessC
   simp only
   rw [if_neg (by omega)]
   congr 1
   omega
theorem parse_in {s:List UInt8} {k:Int} (h:Lib.parseIntB 64 s=.ok k):R64 k:=by
 unfold Lib.parseIntB at h
 split at h
 ·cases h
 ·rename_i c r
  dsimp only at h
  split at h
  ·cases h
  ·cases h
  ·rename_i u hu
   split at h
   ·cases h
   ·split at h
    ·cases h
    ·simp at h
     unfold R64
     split at h <;> omega
theorem anum_itoa {v:Int} (h:R64 v):asm_number (Lib.itoa v)=some (v,true):=by
 have:=itoa_len h
 unfold asm_number
 rw [if_pos (by omega),parse_itoa h]
 simp
theorem anum_true {s:List UInt8} {x:Int} (h:asm_number s=some (x,true)):R64 x∧s=Lib.itoa x:=by
 unfold asm_number at h
 split at h
 ·have h2:=Option.some.inj h
  clear h
  split at h2
  ·rename_i v hp
   simp only [Prod.mk.injEq,decide_eq_true_eq] at h2
   obtain ⟨rfl,h3⟩:=h2
   exact ⟨parse_in hp,h3.symm⟩
  ·cases h2
  ·cases h2
 ·cases h
section
variable {fu:Nat} {s:List UInt8} {u5:UInt8}
end
end Go.Y
namespace Go.Y
open Go.Wk Go.Xt
theorem idx_no {c:UInt8}:∀ {s:List UInt8},c ∉ s→Lib.index s [c]=-1
 | [],h=>rfl
 | b::s,h=>by
  simp only [List.mem_cons,not_or] at h
  rw [Lib.index,idx_no h.2]
  have:(List.isPrefixOf [c] (b::s))=false:=by simp [List.isPrefixOf,h.1]
  rw [this]; rfl
theorem idx_yes {c:UInt8}:∀ {a:List UInt8} (b:List UInt8),c ∉ a→Lib.index (a++c::b) [c]=a.length
 | [],b,h=>by
  rw [List.nil_append,Lib.index]
  have:(List.isPrefixOf [c] (c::b))=true:=by simp [List.isPrefixOf]
  rw [this]; rfl
 | d::a,b,h=>by
  simp only [List.mem_cons,not_or] at h
  rw [List.cons_append,Lib.index,idx_yes b h.2]
  have:(List.isPrefixOf [c] (d::(a++c::b)))=false:=by simp [List.isPrefixOf,h.1]
  rw [this]
  have h2:((a.length:Int) == -1)=false:=by rw [beq_eq_false_iff_ne]; omega
  simp only [Bool.false_eq_true,if_false,h2]
  simp
theorem first {c:UInt8}:∀ {s:List UInt8},c ∈ s→∃ a b,s=a++c::b∧c ∉ a
 | [],h=>by simp at h
 | d::s,h=>by
  by_cases e:d=c
  ·subst e; exact ⟨[],s,rfl,by simp⟩
  ·have:c ∈ s:=by
    rcases List.mem_cons.1 h with h | h
    ·exact absurd h.symm e
    ·exact h
   obtain ⟨a,b,rfl,hn⟩:=first this
   exact ⟨d::a,b,rfl,by simp [hn]; exact fun g=>e g.symm⟩
def wds:List UInt8→List (List UInt8)
 | []=>[[]]
 | c::r=>if c=32 then []::wds r else match wds r with
  | []=>[[c]]
  | w::ws=>(c::w)::ws
theorem wds_ne:∀ s,∃ w ws,wds s=w::ws
 | []=>⟨[],[],rfl⟩
 | c::r=>by
  obtain ⟨w,ws,h⟩:=wds_ne r
  unfold wds
  split
  ·exact ⟨_,_,rfl⟩
  ·rw [h]; exact ⟨_,_,rfl⟩
theorem wds_no:∀ {s:List UInt8},32 ∉ s→wds s=[s]
 | [],h=>rfl
 | c::r,h=>by
  simp only [List.mem_cons,not_or] at h
  rw [wds,if_neg (fun e=>h.1 e.symm),wds_no h.2]
theorem wds_yes:∀ {a:List UInt8} (b:List UInt8),32 ∉ a→wds (a++32::b)=a::wds b
 | [],b,h=>by rw [List.nil_append,wds,if_pos rfl]
 | c::r,b,h=>by
  simp only [List.mem_cons,not_or] at h
  rw [List.cons_append,wds,if_neg (fun e=>h.1 e.symm),wds_yes b h.2]
theorem cnt_e:∀ (n:Nat) (s:List UInt8),s.length<n→Lib.countFrom [32] n s=s.count 32:=by
 intro n
 induction n with
 | zero=>intro s h; omega
 | succ n ih =>
  intro s h
  unfold Lib.countFrom
  by_cases c:32 ∈ s
  ·obtain ⟨a,b,rfl,hn⟩:=first c
   rw [idx_yes b hn]
   have h2:((a.length:Int) == -1)=false:=by rw [beq_eq_false_iff_ne]; omega
   rw [h2]
   simp only [Bool.false_eq_true,if_false]
   have e:(a++32::b).drop ((a.length:Int).toNat+[(32:UInt8)].length)=b:=by simp
   rw [e,ih b (by simp at h; omega),List.count_append,List.count_eq_zero_of_not_mem hn,List.count_cons]
   simp; omega
  ·rw [idx_no c]
   simp [List.count_eq_zero_of_not_mem c]
theorem split_w:∀ (k:Nat) (s:List UInt8),s.count 32≤k→Lib.splitK [32] 0 k s=wds s:=by
 intro k
 induction k with
 | zero =>
  intro s h
  have:32 ∉ s:=fun c=>by have:=List.count_pos_iff.2 c; omega
  rw [wds_no this]; rfl
 | succ k ih =>
  intro s h
  unfold Lib.splitK
  by_cases c:32 ∈ s
  ·obtain ⟨a,b,rfl,hn⟩:=first c
   rw [idx_yes b hn]
   have h2:((a.length:Int) == -1)=false:=by rw [beq_eq_false_iff_ne]; omega
   rw [h2]
   simp only [Bool.false_eq_true,if_false]
   rw [List.count_append,List.count_cons] at h
   simp only [beq_self_eq_true,if_true] at h
   have e:(a++32::b).drop ((a.length:Int).toNat+[(32:UInt8)].length)=b:=by simp
   rw [e,ih b (by omega),wds_yes b hn]
   congr 1
   simp
  ·rw [idx_no c,wds_no c]; rfl
theorem ssplit_e {s:List UInt8} (h:s.length≤60000):s_split s [32]=some (wds s):=by
 unfold s_split
 rw [if_pos ⟨by omega,by simp⟩,Lib.splitB_data]
 congr 1
 exact split_w _ _ (by
  show _≤Lib.countFrom [32] (s.length+1) s
  rw [cnt_e _ _ (by omega)]; exact Nat.le_refl _)
theorem wds_len:∀ s:List UInt8,(wds s).length≤s.length+1
 | []=>by simp [wds]
 | c::r=>by
  have:=wds_len r
  obtain ⟨w,ws,h⟩:=wds_ne r
  rw [h] at this
  unfold wds
  split
  ·rw [h]; simp at this ⊢; omega
  ·rw [h]; simp at this ⊢; omega
end Go.Y
namespace Go.Y
open Go.Wk Go.Xt
theorem idx_from (x:List UInt8):∀ (l:List (List UInt8)) (i:Nat),(Lib.idxFromS (l.map fun y=>⟨⟨y⟩⟩) ⟨⟨x⟩⟩ i=-1∧x ∉ l)∨∃ k:Nat,k<l.length∧Lib.idxFromS (l.map fun y=>⟨⟨y⟩⟩) ⟨⟨x⟩⟩ i=((i+k:Nat):Int)∧l[k]?=some x∧∀ j,j<k→l[j]?≠some x:=by
 intro l
 induction l with
 | nil=>intro i; exact .inl ⟨rfl,by simp⟩
 | cons y l ih =>
  intro i
  rw [List.map_cons,Lib.idxFromS]
  by_cases c:y=x
  ·subst c
   rw [if_pos rfl]
   exact .inr ⟨0,by simp,by simp,rfl,fun j h=>by omega⟩
  ·have hne:¬ (⟨⟨y⟩⟩:ByteArray)=⟨⟨x⟩⟩:=fun h=>c (by injection h with h; injection h)
   rw [if_neg hne]
   rcases ih (i+1) with ⟨h1,h2⟩ | ⟨k,h1,h2,h3,h4⟩
   ·exact .inl ⟨h1,by simp [h2]; exact fun e=>c e.symm⟩
   ·refine .inr ⟨k+1,by simp; omega,by rw [h2]; congr 1; omega,by simpa using h3,fun j hj=>?_⟩
    cases j with
    | zero=>simpa using c
    | succ j=>simpa using h4 j (by omega)
theorem sidx_e (l:List (List UInt8)) (x:List UInt8):(s_idx l x=some (-1)∧x ∉ l)∨∃ k:Nat,k<l.length∧s_idx l x=some (k:Int)∧l[k]?=some x∧∀ j,j<k→l[j]?≠some x:=by
 unfold s_idx Lib.idxOfS
 rcases idx_from x l 0 with ⟨h1,h2⟩ | ⟨k,h1,h2,h3,h4⟩
 ·exact .inl ⟨by rw [h1],h2⟩
 ·exact .inr ⟨k,h1,by rw [h2]; simp,h3,h4⟩
def MN:List (List UInt8):=asm_mnem.getD []
theorem mn_e:asm_mnem=some MN:=rfl
theorem mn_len:MN.length=32:=rfl
theorem at_t {α:Type} {l:List α} {k:Nat} {x:α} (h:l[k]?=some x):at_ l (k:Int)=some x:=by simp [at_,h]
theorem word_k {k:Nat} (hk:k<32):∃ w h n a,r13_word ((k:Int)+1)=some (w,h)∧asm_has ((k:Int)+1)=some (n,a)∧MN[k]?=some w∧((h=2∧n=true∧a=false)∨(h=1∧n=false∧a=true)∨(h=0∧n=false∧a=false)):=by
 obtain ⟨w,h,n,a,l,e1,e2,e3,e4,-,-,-,e5⟩:=word_e (op:=(k:Int)+1) (by omega) (by omega)
 rw [mn_e] at e3
 obtain rfl:=Option.some.inj e3
 rw [show ((k:Int)+1 - 1)=(k:Int) by omega] at e4
 refine ⟨w,h,n,a,e1,e2,?_,e5⟩
 have hl:k<MN.length:=by rw [mn_len]; exact hk
 rw [at_ok hl] at e4
 rw [List.getElem?_eq_getElem hl,e4]
section
variable {fu:Nat} {bs:List TBi} {us:List TUnit}
def putI (bs:List TBi) (us:List TUnit) (q:TInstr×Bool):Option (Bool×List TBi×List TUnit) :=
 if q.2=true∧0<us.length then (at_ us ((us.length:Int) - 1)).bind fun x=>(app x.Code [q.1]).bind fun l=>some (true,bs,uset us l) else some (false,bs,us)
theorem putI_no {q:TInstr}:putI bs us (q,false)=some (false,bs,us):=by unfold putI; rw [if_neg (by simp)]
def UN:List (List UInt8):=[[102,110],[103,101,110],[116,97,115,107]]
end
theorem cut_no {s:List UInt8} (h:(10:UInt8) ∉ s):Lib.cut s [10]=(s,[],false):=by
 unfold Lib.cut
 rw [idx_no h,if_neg (by decide)]
theorem cut_yes {a b:List UInt8} (h:(10:UInt8) ∉ a):Lib.cut (a++10::b) [10]=(a,b,true):=by
 unfold Lib.cut
 rw [idx_yes b h,if_pos (by omega)]
 simp
end Go.Y
namespace Go.Y
open Go.Wk Go.Xt
def boxT (b:TBi):List UInt8:=[98,111,120]++nums [b.Typ,b.Cap]++[10]
def insX (i:TInstr):List UInt8:=match r13_word i.Op with
 | some (w,h)=>insT w h i
 | none=>[]
def codeT (c:List TInstr):List UInt8:=(c.map insX).flatten
def kindW (k:Int):List UInt8:=if k=2 then [102,110] else if k=3 then [103,101,110] else [116,97,115,107]
def unitT (u:TUnit):List UInt8:=kindW u.Kind++nums ([u.Params,u.Result,u.Takes]++u.Locals)++[10]++codeT u.Code
def modT (m:TModule):List UInt8:=(m.Boxes.map boxT).flatten++(m.Units.map unitT).flatten
def OpsOk (c:List TInstr):Prop:=∀ i ∈ c,1≤i.Op∧i.Op≤32
def UnitsOk (l:List TUnit):Prop:=∀ u ∈ l,(2≤u.Kind∧u.Kind≤4)∧OpsOk u.Code
def Pq (o:Option (List UInt8×TWhere)) (C:Prop) (t:List UInt8):Prop:=∃ r,o=some r∧(r.2.Err=0→C∧r.1=t∧r.1.length≤60000)∧(C→t.length≤60000→r.2.Err=0)
theorem code_t {k:Int} {x:TUnit} {K:Int→List UInt8→Option (List UInt8×TWhere)} {C:Prop} {R:List UInt8} (hx:MzU x) (hk:-1≤k∧k≤10000000) (hK:∀ b:List UInt8,b.length≤60000→Pq (K (k+1) b) C (b++R)):∀ (n i:Nat) (b:List UInt8),b.length≤1000000000+60*i→i≤x.Code.length→x.Code.length - i<n→Pq (asm_print_l3 k x K n (i:Int) b) (OpsOk (x.Code.drop i)∧C) (b++codeT (x.Code.drop i)++R):=by
 obtain ⟨-,-,-,-,-,hc,hcr⟩:=hx
 intro n
 induction n with
 | zero=>intro i b _ _ h; omega
 | succ n ih =>
  intro i b hb hi hn
  unfold asm_print_l3
  by_cases c:i<x.Code.length
  ·have hr:=hcr _ (List.getElem_mem c)
   rw [drop_e c]
   generalize hq:x.Code[i]=q at hr
   rw [if_pos (by omega),at_ok c,hq,Option.bind_some]
   by_cases ho:1≤q.Op∧q.Op≤32
   ·obtain ⟨w,h,nn,aa,l,e1,e2,e3,e4,e5,e6,-,e7⟩:=word_e ho.1 ho.2
    have hA:=itoa_len hr.2.1
    have hN:=itoa_len hr.2.2
    rw [if_neg (by omega),decide_eq_false (by omega)]
    have hX:insX q=insT w h q:=by unfold insX; rw [e1]
    have key:asm_print_j3 k (i:Int) b q (asm_print_l3 k x K n) false=asm_print_l3 k x K n ((i+1:Nat):Int) (b++insT w h q):=by
     unfold asm_print_j3
     rw [if_neg (by decide),i64_ok (by omega),Option.bind_some,e3,Option.bind_some,e4,Option.bind_some,cat_t (by simp; omega),Option.bind_some]
     unfold asm_print_j4
     rw [e2,Option.bind_some]
     rcases e7 with ⟨rfl,rfl,rfl⟩ | ⟨rfl,rfl,rfl⟩ | ⟨rfl,rfl,rfl⟩
     ·rw [if_pos rfl,cat_t (by simp; omega),Option.bind_some,fmt_t hr.2.2,Option.bind_some,cat_t (by simp; omega),Option.bind_some,cat_t (by simp; omega),Option.bind_some,str_t (by simp; omega),Option.bind_some,i64_ok (by omega),Option.bind_some,show ((i:Int)+1)=((i+1:Nat):Int) by omega]
      congr 1
      simp [insT]
     ·rw [if_neg (by decide),if_pos rfl,line_t (by simpa using hr.2.1) (by simp) (by simp; omega),Option.bind_some,i64_ok (by omega),Option.bind_some,show ((i:Int)+1)=((i+1:Nat):Int) by omega]
      congr 1
      simp [insT,nums]
     ·rw [if_neg (by decide),if_neg (by decide),line_t (by simp) (by simp) (by simp; omega),Option.bind_some,i64_ok (by omega),Option.bind_some,show ((i:Int)+1)=((i+1:Nat):Int) by omega]
      congr 1
      simp [insT,nums]
    have hl:=insT_len (h:=h) hr e6
    rw [key]
    obtain ⟨r,h1,h2,h3⟩:=ih (i+1) (b++insT w h q) (by simp; omega) c (by omega)
    refine ⟨r,h1,fun h0=>?_,fun ⟨g1,g2⟩ hl=>h3 ⟨fun y hy=>g1 y (List.mem_cons_of_mem _ hy),g2⟩ (by simp [codeT,hX] at hl ⊢; omega)⟩
    obtain ⟨⟨g1,g2⟩,g3,g4⟩:=h2 h0
    refine ⟨⟨fun y hy=>?_,g2⟩,?_,g4⟩
    ·rcases List.mem_cons.1 hy with rfl | hy
     ·exact ho
     ·exact g1 y hy
    ·rw [g3]
     simp [codeT,hX]
   ·have bad:Pq (asm_print_j3 k (i:Int) b q (asm_print_l3 k x K n) true) (OpsOk (q::x.Code.drop (i+1))∧C) (b++codeT (q::x.Code.drop (i+1))++R):=⟨_,rfl,fun h=>absurd h (by simp),fun ⟨g,_⟩ _=>absurd (g q (List.mem_cons_self ..)) ho⟩
    by_cases c1:q.Op<1
    ·rw [if_pos c1]; exact bad
    ·rw [if_neg c1,decide_eq_true (by omega)]; exact bad
  ·rw [if_neg (by omega),List.drop_of_length_le (by omega)]
   unfold bd_len
   rw [Option.bind_some]
   by_cases c6:(60000:Int)<(b.length:Int)
   ·rw [if_pos c6]; exact ⟨_,rfl,fun h=>absurd h (by simp),fun _ hl=>by simp at hl; omega⟩
   ·rw [if_neg c6,i64_ok (by omega),Option.bind_some]
    obtain ⟨r,h1,h2,h3⟩:=hK b (by omega)
    refine ⟨r,h1,fun h0=>?_,fun ⟨_,g⟩ hl=>h3 g (by simp [codeT] at hl ⊢; omega)⟩
    obtain ⟨g1,g2,g3⟩:=h2 h0
    exact ⟨⟨fun y hy=>(List.not_mem_nil hy).elim,g1⟩,by rw [g2]; simp [codeT],g3⟩
theorem units_t {m:TModule} (hm:MzM m):∀ (n i:Nat) (b:List UInt8),b.length≤100000000→i≤m.Units.length→m.Units.length - i<n→Pq (asm_print_l2 m n (i:Int) b) (UnitsOk (m.Units.drop i)) (b++((m.Units.drop i).map unitT).flatten):=by
 obtain ⟨-,hul,hur⟩:=hm
 intro n
 induction n with
 | zero=>intro i b _ _ h; omega
 | succ n ih =>
  intro i b hb hi hn
  unfold asm_print_l2
  by_cases c:i<m.Units.length
  ·have hr:=hur _ (List.getElem_mem c)
   rw [drop_e c]
   generalize hq:m.Units[i]=q at hr
   rw [if_pos (by omega),at_ok c,hq,Option.bind_some]
   have hr':=hr
   obtain ⟨r0,r1,r2,r3,⟨hll,hlr⟩,hcl,hcr⟩:=hr'
   have hns:∀ y ∈ ([q.Params,q.Result,q.Takes]:List Int)++q.Locals,R64 y:=fun y hy=>by
    rcases List.mem_append.1 hy with h | h
    ·simp only [List.mem_cons,List.not_mem_nil,or_false] at h
     rcases h with rfl | rfl | rfl
     ·exact r1
     ·exact r2
     ·exact r3
    ·exact hlr y h
   have hnl:=nums_len hns
   simp only [List.length_append,List.length_cons,List.length_nil] at hnl
   have main:∀ w:List UInt8,w=kindW q.Kind→w.length≤4→(2≤q.Kind∧q.Kind≤4)→Pq ((app ([q.Params,q.Result,q.Takes]:List Int) q.Locals).bind (fun l755=>(pr_line w l755 b).bind fun r765=>asm_print_j2 (i:Int) q (asm_print_l2 m n) r765)) (UnitsOk (q::m.Units.drop (i+1))) (b++((q::m.Units.drop (i+1)).map unitT).flatten):=fun w hw hwl hk=>by
    rw [app_t (by simp; omega),Option.bind_some,line_t hns (by simp; omega) (by simp; omega),Option.bind_some]
    unfold asm_print_j2
    obtain ⟨r,h1,h2,h3⟩:=code_t (K:=asm_print_l2 m n) (k:=(i:Int)) (C:=UnitsOk (m.Units.drop (i+1))) (R:=((m.Units.drop (i+1)).map unitT).flatten) hr (by omega) (fun b hb=>by
     have:=ih (i+1) b (by omega) c (by omega)
     rw [show ((i:Int)+1)=((i+1:Nat):Int) by omega]
     exact this) (q.Code.length+1) 0 (b++w++nums ([q.Params,q.Result,q.Takes]++q.Locals)++[10]) (by simp at hnl ⊢; omega) (by omega) (by omega)
    refine ⟨r,h1,fun h0=>?_,fun g hl=>h3 ⟨fun y hy=>(g q (List.mem_cons_self ..)).2 y (by simpa using hy),fun u hu=>g u (List.mem_cons_of_mem _ hu)⟩ (by simp [unitT,← hw] at hl ⊢; omega)⟩
    obtain ⟨⟨g1,g2⟩,g3,g4⟩:=h2 h0
    rw [List.drop_zero] at g1 g3
    refine ⟨fun u hu=>?_,?_,g4⟩
    ·rcases List.mem_cons.1 hu with rfl | hu
     ·exact ⟨hk,g1⟩
     ·exact g2 u hu
    ·rw [g3,List.map_cons,List.flatten_cons,unitT,← hw]
     simp
   by_cases hk:2≤q.Kind∧q.Kind≤4
   ·rw [if_neg (by omega),decide_eq_false (by omega)]
    unfold asm_print_j1
    rw [if_neg (by decide),i64_ok (by omega),Option.bind_some]
    have h3:q.Kind=2∨q.Kind=3∨q.Kind=4:=by omega
    have hk':=hk
    rcases h3 with h | h | h
    ·rw [h]; exact main [102,110] (by rw [h]; rfl) (by decide) hk
    ·rw [h]; exact main [103,101,110] (by rw [h]; rfl) (by decide) hk
    ·rw [h]; exact main [116,97,115,107] (by rw [h]; rfl) (by decide) hk
   ·have bad:Pq (asm_print_j1 (i:Int) b q (asm_print_l2 m n) true) (UnitsOk (q::m.Units.drop (i+1))) (b++((q::m.Units.drop (i+1)).map unitT).flatten):=⟨_,rfl,fun h=>absurd h (by simp),fun g _=>absurd (g q (List.mem_cons_self ..)).1 hk⟩
    by_cases c2:q.Kind<2
    ·rw [if_pos c2]; exact bad
    ·rw [if_neg c2,decide_eq_true (by omega)]; exact bad
  ·rw [if_neg (by omega),List.drop_of_length_le (by omega)]
   unfold bd_len
   rw [Option.bind_some]
   by_cases c6:(60000:Int)<(b.length:Int)
   ·rw [if_pos c6]; exact ⟨_,rfl,fun h=>absurd h (by simp),fun _ hl=>by simp at hl; omega⟩
   ·rw [if_neg c6]
    exact ⟨_,rfl,fun _=>⟨fun u hu=>(List.not_mem_nil hu).elim,by simp,by show b.length≤_; omega⟩,fun _ _=>rfl⟩
theorem print_t {m:TModule} (hm:MzM m):Pq (asm_print m) (UnitsOk m.Units) (modT m):=by
 have key:∀ (n i:Nat) (b:List UInt8),b.length≤50*i→i≤m.Boxes.length→m.Boxes.length - i<n→Pq (asm_print_l1 m n (i:Int) b) (UnitsOk m.Units) (b++((m.Boxes.drop i).map boxT).flatten++(m.Units.map unitT).flatten):=by
  intro n
  induction n with
  | zero=>intro i b _ _ h; omega
  | succ n ih =>
   intro i b hb hi hn
   unfold asm_print_l1
   have hbl:=hm.1.1
   by_cases c:i<m.Boxes.length
   ·obtain ⟨h1,h2⟩:=hm.1.2 _ (List.getElem_mem c)
    have l1:=itoa_len h1
    have l2:=itoa_len h2
    rw [if_pos (by omega),at_ok c,Option.bind_some,line_t (by simp [h1,h2]) (by simp) (by simp; omega),Option.bind_some,i64_ok (by omega),Option.bind_some,show ((i:Int)+1)=((i+1:Nat):Int) by omega]
    have:=ih (i+1) (b++[98,111,120]++nums [m.Boxes[i].Typ,m.Boxes[i].Cap]++[10]) (by simp [nums]; omega) c (by omega)
    rw [drop_e c,List.map_cons,List.flatten_cons,boxT]
    simpa using this
   ·rw [if_neg (by omega),List.drop_of_length_le (by omega)]
    have:=units_t hm (m.Units.length+1) 0 b (by omega) (by omega) (by omega)
    simpa using this
 have:=key (m.Boxes.length+1) 0 [] (by simp) (by omega) (by omega)
 simpa [modT,asm_print] using this
theorem inv0:Inv 0 [] []:=⟨by simp,by simp,by simp⟩
theorem read_any (fu:Nat) (hfu:60001≤fu) (s:List UInt8):∃ m f,asm_read fu s=some (m,f)∧Inv 60000 m.Boxes m.Units∧(f.Err=0→s.length≤60000∧asm_read_l1 fu s 0 [] []=some (m,f)):=by
 unfold asm_read
 split
 ·exact ⟨_,_,rfl,⟨by simp,by simp,by simp⟩,fun h=>by simp at h⟩
 ·rename_i h
  obtain ⟨m,f,e1,e2,e3,e4⟩:=read_some fu s 0 [] [] (by omega) inv0 (by omega)
  exact ⟨m,f,e1,e2,fun _=>⟨by omega,e1⟩⟩
theorem same_r {fu:Nat} (hf:60001≤fu) {s:List UInt8} {m:TModule} {f:TFault} (h:asm_read fu s=some (m,f)):r6_same m m=some true:=by
 obtain ⟨m',f',h1,h2,-⟩:=read_any fu hf s
 rw [h] at h1
 obtain ⟨rfl,rfl⟩:=Prod.mk.inj (Option.some.inj h1)
 exact same_refl m ⟨by have:=h2.b; omega,by have:=h2.u; omega,fun x hx=>by have:=h2.e x hx; omega⟩
end Go.Y
namespace Go.Y
open Go.Wk Go.Xt
theorem it_ge {v:Int}:∀ c ∈ Lib.itoa v,45≤c.toNat:=by
 intro c hc
 unfold Lib.itoa at hc
 split at hc
 ·rcases List.mem_cons.1 hc with rfl | hc
  ·decide
  ·have:=dec_dig _ c hc; omega
 ·have:=dec_dig _ c hc; omega
theorem it_no {v:Int}:(32:UInt8) ∉ Lib.itoa v∧(10:UInt8) ∉ Lib.itoa v :=
 ⟨fun h=>absurd (it_ge _ h) (by decide),fun h=>absurd (it_ge _ h) (by decide)⟩
theorem nums_no:∀ (ns:List Int),(10:UInt8) ∉ nums ns
 | [],h=>by simp [nums] at h
 | n::ns,h=>by
  rw [nums_cons,List.cons_append] at h
  rcases List.mem_cons.1 h with h | h
  ·exact absurd h (by decide)
  ·rcases List.mem_append.1 h with h | h
   ·exact it_no.2 h
   ·exact nums_no ns h
theorem wds_nums:∀ (ns:List Int) (w:List UInt8),32 ∉ w→wds (w++nums ns)=w::ns.map Lib.itoa
 | [],w,h=>by rw [nums_nil,List.append_nil,wds_no h]; rfl
 | n::ns,w,h=>by rw [nums_cons,List.cons_append,wds_yes _ h,wds_nums ns _ it_no.1]; rfl
theorem wds_join:∀ (s:List UInt8) (w:List UInt8) (ws:List (List UInt8)),wds s=w::ws→s=w++(ws.map fun x=>32::x).flatten
 | [],w,ws,h=>by simp [wds] at h; obtain ⟨rfl,rfl⟩:=h; rfl
 | c::r,w,ws,h=>by
  obtain ⟨v,vs,e⟩:=wds_ne r
  have ih:=wds_join r v vs e
  unfold wds at h
  split at h
  ·rename_i hc
   subst hc
   simp only [List.cons.injEq] at h
   obtain ⟨rfl,rfl⟩:=h
   rw [e]
   simp [ih]
  ·rw [e] at h
   simp only [List.cons.injEq] at h
   obtain ⟨rfl,rfl⟩:=h
   rw [ih]; simp
theorem join_nums (ns:List Int):((ns.map Lib.itoa).map fun x=>(32:UInt8)::x).flatten=nums ns:=by simp [nums,List.map_map,Function.comp_def]
theorem numbers_f {ns:List Int} (h:∀ n ∈ ns,R64 n) (hl:ns.length≤60001):∀ (n i:Nat) (acc:List Int),i≤ns.length→ns.length - i<n→acc.length=i→acc++ns.drop i=ns→asm_numbers_l1 (ns.map Lib.itoa) n (i:Int) acc=some (ns,true):=by
 intro n
 induction n with
 | zero=>intro i acc _ h; omega
 | succ n ih =>
  intro i acc hi hn ha he
  unfold asm_numbers_l1
  by_cases c:i<ns.length
  ·rw [if_pos (by simpa using c),at_t (x:=Lib.itoa ns[i]) (by simp [c]),Option.bind_some,anum_itoa (h _ (List.getElem_mem c)),Option.bind_some,if_pos rfl,app_t (by simp; omega),Option.bind_some,i64_ok (by omega),Option.bind_some]
   refine ih (i+1) (acc++[ns[i]]) c (by omega) (by simp [ha]) ?_
   rw [drop_e c] at he
   simpa using he
  ·rw [if_neg (by simp; omega)]
   rw [List.drop_of_length_le (by omega),List.append_nil] at he
   rw [he]
theorem numbers_b {ws:List (List UInt8)} (hl:ws.length≤60002):∀ (n i:Nat) (acc r:List Int),asm_numbers_l1 ws n (i:Int) acc=some (r,true)→∃ tl,r=acc++tl∧ws.drop i=tl.map Lib.itoa∧∀ y ∈ tl,R64 y:=by
 intro n
 induction n with
 | zero=>intro i acc r h; cases h
 | succ n ih =>
  intro i acc r h
  unfold asm_numbers_l1 at h
  by_cases c:i<ws.length
  ·rw [if_pos (by omega),at_ok c,Option.bind_some] at h
   obtain ⟨⟨v,b⟩,e1,h⟩:=bI h
   cases b with
   | false=>cases h
   | true =>
    rw [if_pos rfl] at h
    obtain ⟨l,e2,h⟩:=bI h
    obtain ⟨rfl,-⟩:=app_eq e2
    rw [i64_ok (by omega),Option.bind_some] at h
    obtain ⟨tl,h1,h2,h3⟩:=ih (i+1) _ _ h
    obtain ⟨hv,he⟩:=anum_true e1
    refine ⟨v::tl,by rw [h1]; simp,by rw [drop_e c,he,h2]; rfl,fun y hy=>?_⟩
    rcases List.mem_cons.1 hy with rfl | hy
    ·exact hv
    ·exact h3 y hy
  ·rw [if_neg (by omega)] at h
   cases h
   exact ⟨[],by simp,by rw [List.drop_of_length_le (by omega)]; rfl,by simp⟩
theorem idx_all:∀ k:Nat,k<32→s_idx MN ((MN[k]?).getD [])=some (k:Int):=by decide +kernel
theorem mn_idx {k:Nat} {w:List UInt8} (hk:k<32) (h:MN[k]?=some w):s_idx MN w=some (k:Int):=by
 have:=idx_all k hk
 rw [h] at this; exact this
def bareI (i:TInstr):TInstr:=match r13_word i.Op with
 | some (_,h)=>⟨i.Op,if h=1 then i.A else 0,if h=2 then i.N else 0⟩
 | none=>i
def bareU (u:TUnit):TUnit:={ u with Code:=u.Code.map bareI }
theorem j1_two {x y:List UInt8} {op:Int} {n a:Bool} (h:asm_has op=some (n,a)) (h0:op≠0) (ho:n=true∨a=true):asm_instr_j1 [x,y] op=(asm_number y).bind fun r=>some (if n=true then ⟨op,0,r.1⟩ else ⟨op,r.1,0⟩,r.2):=by
 unfold asm_instr_j1
 rw [h,Option.bind_some]
 have key:asm_instr_j3 [x,y] op (n,a) 2=(asm_number y).bind fun r=>some (if n=true then ⟨op,0,r.1⟩ else ⟨op,r.1,0⟩,r.2):=by
  unfold asm_instr_j3
  rw [if_neg h0]
  unfold asm_instr_j4
  rw [if_neg (by simp),if_neg (by decide),show at_ [x,y] 1=some y by rfl,Option.bind_some]
  congr 1
  funext r
  cases n <;> rfl
 cases n with
 | true=>exact key
 | false =>
  rcases ho with ho | ho
  ·cases ho
  ·subst ho; exact key
theorem j1_one {x:List UInt8} {op:Int} (h:asm_has op=some (false,false)) (h0:op≠0):asm_instr_j1 [x] op=some (⟨op,0,0⟩,true):=by
 unfold asm_instr_j1
 rw [h,Option.bind_some,if_neg (by decide)]
 unfold asm_instr_j2
 rw [if_neg (by decide)]
 unfold asm_instr_j3
 rw [if_neg h0]
 unfold asm_instr_j4
 rw [if_neg (by simp),if_pos rfl]
theorem j1_true {x:List UInt8} {ws:List (List UInt8)} {op:Int} {n a:Bool} {i:TInstr} (h:asm_has op=some (n,a)) (hj:asm_instr_j1 (x::ws) op=some (i,true)):op≠0∧if (n || a)=true then ∃ y,ws=[y] else ws=[]:=by
 unfold asm_instr_j1 at hj
 rw [h,Option.bind_some] at hj
 have key:∀ q:Int,asm_instr_j3 (x::ws) op (n,a) q=some (i,true)→op≠0∧((x::ws).length:Int)=q:=fun q hq=>by
  unfold asm_instr_j3 at hq
  by_cases h0:op=0
  ·rw [if_pos h0] at hq
   unfold asm_instr_j4 at hq
   rw [if_pos rfl] at hq
   cases hq
  ·rw [if_neg h0] at hq
   unfold asm_instr_j4 at hq
   by_cases hl:((x::ws).length:Int)=q
   ·exact ⟨h0,hl⟩
   ·rw [if_pos (by simpa using hl)] at hq
    cases hq
 have two:((x::ws).length:Int)=2→∃ y,ws=[y]:=fun hl=>by
  match ws with
  | []=>simp at hl
  | [y]=>exact ⟨y,rfl⟩
  | y::z::r=>simp at hl; omega
 have one:((x::ws).length:Int)=1→ws=[]:=fun hl=>by
  match ws with
  | []=>rfl
  | y::r=>simp at hl; omega
 cases n with
 | true=>exact ⟨(key 2 hj).1,by rw [if_pos (by simp)]; exact two (key 2 hj).2⟩
 | false=>cases a with
  | true=>exact ⟨(key 2 hj).1,by rw [if_pos (by simp)]; exact two (key 2 hj).2⟩
  | false=>exact ⟨(key 1 hj).1,by rw [if_neg (by decide)]; exact one (key 1 hj).2⟩
theorem instr_go {t x:List UInt8} {ws:List (List UInt8)} {k:Int} (ht:t.length≤60000) (hw:wds t=x::ws) (hx:s_idx MN x=some k) (hk:-1≤k∧k≤32):asm_instr t=asm_instr_j1 (x::ws) (k+1):=by
 unfold asm_instr
 rw [ssplit_e ht,hw,Option.bind_some,show at_ (x::ws) 0=some x by simp [at_],Option.bind_some,mn_e,Option.bind_some,hx,Option.bind_some,i64_ok (by omega),Option.bind_some]
theorem instr_f {i:TInstr} (hi:MzC i) (h0:1≤i.Op) (h1:i.Op≤32):∃ t,insX i=9::t++[10]∧10 ∉ t∧t.length≤60∧asm_instr t=some (bareI i,true):=by
 obtain ⟨w,h,n,a,l,e1,e2,e3,e4,e5,e6,⟨e7,e8⟩,e9⟩:=word_e h0 h1
 rw [mn_e] at e3
 obtain rfl:=Option.some.inj e3
 obtain ⟨k,hk⟩:∃ k:Nat,i.Op=(k:Int)+1:=⟨(i.Op - 1).toNat,by omega⟩
 have hkl:k<MN.length:=by rw [mn_len]; omega
 have hMN:MN[k]?=some w:=by
  rw [hk,show ((k:Int)+1 - 1)=(k:Int) by omega,at_ok hkl] at e4
  rw [List.getElem?_eq_getElem hkl,e4]
 have hx:=mn_idx (by omega) hMN
 have hA:=itoa_len hi.2.1
 have hN:=itoa_len hi.2.2
 have hX:insX i=insT w h i:=by unfold insX; rw [e1]
 have hB:bareI i=⟨i.Op,if h=1 then i.A else 0,if h=2 then i.N else 0⟩:=by unfold bareI; rw [e1]
 rw [hX,hB]
 rcases e9 with ⟨rfl,rfl,rfl⟩ | ⟨rfl,rfl,rfl⟩ | ⟨rfl,rfl,rfl⟩
 ·refine ⟨w++nums [i.N],by simp [insT,nums],fun hm=>?_,by simp [nums]; omega,?_⟩
  ·rcases List.mem_append.1 hm with hm | hm
   ·exact e8 hm
   ·exact nums_no _ hm
  ·rw [instr_go (by simp [nums]; omega) (wds_nums [i.N] w e7) hx (by omega),← hk]
   show asm_instr_j1 [w,Lib.itoa i.N] i.Op=_
   rw [j1_two e2 (by omega) (.inl rfl),anum_itoa hi.2.2]
   rfl
 ·refine ⟨w++nums [i.A],by simp [insT,nums],fun hm=>?_,by simp [nums]; omega,?_⟩
  ·rcases List.mem_append.1 hm with hm | hm
   ·exact e8 hm
   ·exact nums_no _ hm
  ·rw [instr_go (by simp [nums]; omega) (wds_nums [i.A] w e7) hx (by omega),← hk]
   show asm_instr_j1 [w,Lib.itoa i.A] i.Op=_
   rw [j1_two e2 (by omega) (.inr rfl),anum_itoa hi.2.1]
   rfl
 ·refine ⟨w++nums [],by simp [insT,nums],fun hm=>?_,by simp [nums]; omega,?_⟩
  ·rcases List.mem_append.1 hm with hm | hm
   ·exact e8 hm
   ·exact nums_no _ hm
  ·rw [instr_go (by simp [nums]; omega) (wds_nums [] w e7) hx (by omega),← hk]
   show asm_instr_j1 [w] i.Op=_
   rw [j1_one e2 (by omega)]
   rfl
theorem instr_b {t:List UInt8} (ht:t.length≤60000) {i:TInstr} (h:asm_instr t=some (i,true)):(1≤i.Op∧i.Op≤32)∧MzC i∧insX i=9::t++[10]:=by
 obtain ⟨x,ws,hw⟩:=wds_ne t
 have hj:=wds_join _ _ _ hw
 have z64:R64 0:=by unfold R64; omega
 rcases sidx_e MN x with ⟨e,hx⟩ | ⟨k,hk,e,hx,hn0⟩
 ·rw [instr_go ht hw e (by omega)] at h
  exact absurd rfl (j1_true (n:=false) (a:=false) (by rfl) h).1
 ·rw [mn_len] at hk
  rw [instr_go ht hw e (by omega)] at h
  obtain ⟨w,hh,n,a,e1,e2,e3,e5⟩:=word_k hk
  rw [hx] at e3
  obtain rfl:=Option.some.inj e3
  obtain ⟨h0,hws⟩:=j1_true e2 h
  rcases e5 with ⟨rfl,rfl,rfl⟩ | ⟨rfl,rfl,rfl⟩ | ⟨rfl,rfl,rfl⟩
  ·rw [if_pos (by decide)] at hws
   obtain ⟨y,rfl⟩:=hws
   rw [j1_two e2 h0 (.inl rfl)] at h
   obtain ⟨⟨v,b⟩,n1,h⟩:=bI h
   rw [if_pos rfl] at h
   simp only [Option.some.injEq,Prod.mk.injEq] at h
   obtain ⟨rfl,rfl⟩:=h
   obtain ⟨hv,rfl⟩:=anum_true n1
   refine ⟨by simp only; omega,⟨by simp only [R64]; omega,z64,hv⟩,?_⟩
   unfold insX
   simp only [e1]
   rw [hj]
   simp [insT]
  ·rw [if_pos (by decide)] at hws
   obtain ⟨y,rfl⟩:=hws
   rw [j1_two e2 h0 (.inr rfl)] at h
   obtain ⟨⟨v,b⟩,n1,h⟩:=bI h
   rw [if_neg (by decide)] at h
   simp only [Option.some.injEq,Prod.mk.injEq] at h
   obtain ⟨rfl,rfl⟩:=h
   obtain ⟨hv,rfl⟩:=anum_true n1
   refine ⟨by simp only; omega,⟨by simp only [R64]; omega,hv,z64⟩,?_⟩
   unfold insX
   simp only [e1]
   rw [hj]
   simp [insT]
  ·rw [if_neg (by decide)] at hws
   subst hws
   rw [j1_one e2 h0] at h
   simp only [Option.some.injEq,Prod.mk.injEq] at h
   obtain ⟨rfl,-⟩:=h
   refine ⟨by simp only; omega,⟨by simp only [R64]; omega,z64,z64⟩,?_⟩
   unfold insX
   simp only [e1]
   rw [hj]
   simp [insT]
def headT (u:TUnit):List UInt8:=kindW u.Kind++nums ([u.Params,u.Result,u.Takes]++u.Locals)
theorem kind_idx {k:Int} (h:2≤k∧k≤4):s_idx UN (kindW k)=some (k - 2)∧kindW k≠[98,111,120]∧32 ∉ kindW k∧10 ∉ kindW k∧(kindW k).length≤4∧Lib.hasPrefix (kindW k) [9]=false∧kindW k≠[]:=by
 have:k=2∨k=3∨k=4:=by omega
 rcases this with rfl | rfl | rfl <;> decide +kernel
theorem head_go {bs:List TBi} {us:List TUnit} {t x:List UInt8} {ws:List (List UInt8)} (ht:t.length≤60000) (hw:wds t=x::ws):asm_head bs us t=(asm_numbers ws).bind fun r32 =>
  if r32.2=true then
   if x=[98,111,120] then
    if (r32.1.length:Int)≠2 then asm_head_j1 bs us r32 true else asm_head_j1 bs us r32 (decide ((0:Int)<(us.length:Int)))
   else (s_idx UN x).bind fun r96=>asm_head_j3 bs us r32 r96
  else some (false,bs,us):=by
 have hln:=wds_len t
 rw [hw] at hln
 simp only [List.length_cons] at hln
 unfold asm_head
 rw [ssplit_e ht,hw,Option.bind_some]
 have hcut:cut (x::ws) 1 ((x::ws).length:Int)=some ws:=by
  unfold cut
  rw [if_pos ⟨by omega,by simp; omega,by simp⟩]
  simp
 have hat:at_ (x::ws) 0=some x:=by simp [at_]
 rw [hcut,Option.bind_some]
 simp only [hat,Option.bind_some,show asm_units=some UN by rfl]
theorem box_f {bs:List TBi} {b:TBi} (hb:MzB b) (hl:bs.length≤1048576):asm_head bs [] ([98,111,120]++nums [b.Typ,b.Cap])=some (true,bs++[b],[]):=by
 have hR:∀ n ∈ [b.Typ,b.Cap],R64 n:=by simp [hb.1,hb.2]
 have hn:=nums_len hR
 rw [head_go (by simp at hn ⊢; omega) (wds_nums _ _ (by decide))]
 unfold asm_numbers
 have:=numbers_f hR (by simp) (([b.Typ,b.Cap].map Lib.itoa).length+1) 0 [] (by simp) (by simp) rfl rfl
 rw [show ((0:Nat):Int)=0 by rfl] at this
 rw [this,Option.bind_some,if_pos rfl,if_pos rfl,if_neg (by simp),decide_eq_false (by simp)]
 unfold asm_head_j1
 rw [if_neg (by decide)]
 show (app bs [b]).bind _=_
 rw [app_t (by simp; omega)]
 rfl
theorem unit_f {bs:List TBi} {us:List TUnit} {u:TUnit} (hu:MzU u) (hk:2≤u.Kind∧u.Kind≤4) (hl:us.length≤1048576) (ht:(headT u).length≤60000):asm_head bs us (headT u)=some (true,bs,us++[{ u with Code:=[] }]):=by
 obtain ⟨r0,r1,r2,r3,⟨hll,hlr⟩,-⟩:=hu
 obtain ⟨k1,k2,k3,k4,k5,-⟩:=kind_idx hk
 have hns:∀ y ∈ ([u.Params,u.Result,u.Takes]:List Int)++u.Locals,R64 y:=fun y hy=>by
  rcases List.mem_append.1 hy with h | h
  ·simp only [List.mem_cons,List.not_mem_nil,or_false] at h
   rcases h with rfl | rfl | rfl
   ·exact r1
   ·exact r2
   ·exact r3
  ·exact hlr y h
 have hge:∀ l:List Int,(∀ y ∈ l,R64 y)→l.length≤(nums l).length:=by
  intro l
  induction l with
  | nil=>intro _; simp
  | cons a l ih =>
   intro h
   have:=ih fun y hy=>h y (by simp [hy])
   rw [nums_cons]
   simp; omega
 have hg:=hge _ hns
 have hlen:(([u.Params,u.Result,u.Takes]:List Int)++u.Locals).length≤60000:=by
  unfold headT at ht
  rw [List.length_append] at ht
  omega
 unfold headT at ht ⊢
 rw [head_go ht (wds_nums _ _ k3)]
 unfold asm_numbers
 have:=numbers_f hns (by omega) (((([u.Params,u.Result,u.Takes]:List Int)++u.Locals).map Lib.itoa).length+1) 0 [] (by simp) (by simp) rfl rfl
 rw [show ((0:Nat):Int)=0 by rfl] at this
 rw [this,Option.bind_some,if_pos rfl,if_neg k2,k1,Option.bind_some]
 unfold asm_head_j3
 rw [if_neg (by omega),decide_eq_false (by simp; omega)]
 unfold asm_head_j4
 rw [if_neg (by decide),i64_ok (by omega),Option.bind_some]
 have hc:cut (([u.Params,u.Result,u.Takes]:List Int)++u.Locals) 3 ((([u.Params,u.Result,u.Takes]:List Int)++u.Locals).length:Int)=some u.Locals:=by
  unfold cut
  rw [if_pos ⟨by omega,by simp; omega,by simp⟩]
  congr 1
  rw [List.take_of_length_le (by simp; omega)]
  rfl
 have a0:at_ (([u.Params,u.Result,u.Takes]:List Int)++u.Locals) 0=some u.Params:=at_t (k:=0) rfl
 have a1:at_ (([u.Params,u.Result,u.Takes]:List Int)++u.Locals) 1=some u.Result:=at_t (k:=1) rfl
 have a2:at_ (([u.Params,u.Result,u.Takes]:List Int)++u.Locals) 2=some u.Takes:=at_t (k:=2) rfl
 simp only [a0,a1,a2,hc,Option.bind_some]
 rw [app_t (by simp; omega),Option.bind_some,show 2+(u.Kind - 2)=u.Kind by omega]
 rfl
def GU (u:TUnit):Prop:=(2≤u.Kind∧u.Kind≤4)∧R64 u.Params∧R64 u.Result∧R64 u.Takes∧(∀ y ∈ u.Locals,R64 y)∧∀ i ∈ u.Code,(1≤i.Op∧i.Op≤32)∧MzC i
def GM (bs:List TBi) (us:List TUnit):Prop:=(∀ y ∈ bs,MzB y)∧∀ u ∈ us,GU u
theorem head_b {bs bs':List TBi} {us us':List TUnit} {t:List UInt8} (ht:t.length≤60000) (h:asm_head bs us t=some (true,bs',us')) (hg:GM bs us):GM bs' us'∧modT ⟨bs',us'⟩=modT ⟨bs,us⟩++t++[10]:=by
 obtain ⟨x,ws,hw⟩:=wds_ne t
 have hj:=wds_join _ _ _ hw
 have hln:=wds_len t
 rw [hw] at hln
 simp only [List.length_cons] at hln
 rw [head_go ht hw] at h
 obtain ⟨⟨ns,b⟩,e1,hh⟩:=bI h
 clear h
 have h:=hh
 clear hh
 cases b with
 | false=>rw [if_neg (by simp)] at h; cases h
 | true =>
  rw [if_pos rfl] at h
  unfold asm_numbers at e1
  have:=numbers_b (ws:=ws) (by omega) (ws.length+1) 0 [] ns (by simpa using e1)
  obtain ⟨tl,h1,h2,h3⟩:=this
  have h1:ns=tl:=h1
  rw [h1] at h
  clear e1 h1
  rw [List.drop_zero] at h2
  subst h2
  rw [join_nums] at hj
  split at h
  ·rename_i hx
   subst hx
   have key:∀ q,asm_head_j1 bs us (tl,true) q=some (true,bs',us')→q=false:=fun q hq=>by
    cases q with
    | false=>rfl
    | true=>unfold asm_head_j1 at hq; rw [if_pos rfl] at hq; cases hq
   split at h
   ·exact absurd (key _ h) (by decide)
   ·rename_i h2
    have hu0:=key _ h
    have hu:us=[]:=List.eq_nil_of_length_eq_zero (by have:=of_decide_eq_false hu0; omega)
    subst hu
    match tl,h2,h3,h,hj with
    | [],h2,_,_,_=>simp at h2
    | [_],h2,_,_,_=>simp at h2
    | [a,c],_,h3,h,hj =>
     rw [hu0] at h
     unfold asm_head_j1 at h
     rw [if_neg (by decide)] at h
     have a0:at_ [a,c] 0=some a:=rfl
     have a1:at_ [a,c] 1=some c:=rfl
     simp only [a0,a1,Option.bind_some] at h
     obtain ⟨l,e2,h⟩:=bI h
     obtain ⟨rfl,-⟩:=app_eq e2
     unfold asm_head_j2 at h
     simp only [Option.some.injEq,Prod.mk.injEq,true_and] at h
     obtain ⟨rfl,rfl⟩:=h
     refine ⟨⟨fun y hy=>?_,hg.2⟩,?_⟩
     ·rcases List.mem_append.1 hy with hy | hy
      ·exact hg.1 y hy
      ·simp at hy; subst hy; exact ⟨h3 a (by simp),h3 c (by simp)⟩
     ·rw [hj]
      simp [modT,boxT]
    | _::_::_::r,h2,_,_,_=>simp at h2; omega
  ·rename_i hx
   rcases sidx_e UN x with ⟨e,hn⟩ | ⟨k,hk,e,hk2,-⟩
   ·rw [e,Option.bind_some] at h
    unfold asm_head_j3 at h
    rw [if_pos (by decide)] at h
    unfold asm_head_j4 at h
    rw [if_pos rfl] at h
    cases h
   ·rw [e,Option.bind_some] at h
    unfold asm_head_j3 at h
    rw [if_neg (by omega)] at h
    unfold asm_head_j4 at h
    by_cases h3':(tl.length:Int)<3
    ·rw [if_pos (by simpa using h3')] at h; cases h
    ·rw [if_neg (by simpa using h3')] at h
     have hk3:k=0∨k=1∨k=2:=by simp [UN] at hk; omega
     match tl,h3',h3,h,hj with
     | [],h3',_,_,_=>simp at h3'
     | [_],h3',_,_,_=>simp at h3'
     | [_,_],h3',_,_,_=>simp at h3'
     | p::r::s::lo,_,h3,h,hj =>
      have hc:cut (p::r::s::lo) 3 ((p::r::s::lo).length:Int)=some lo:=by
       unfold cut
       rw [if_pos ⟨by omega,by simp; omega,by simp⟩]
       congr 1
       rw [List.take_of_length_le (by simp; omega)]
       rfl
      have a0:at_ (p::r::s::lo) 0=some p:=at_t (k:=0) rfl
      have a1:at_ (p::r::s::lo) 1=some r:=at_t (k:=1) rfl
      have a2:at_ (p::r::s::lo) 2=some s:=at_t (k:=2) rfl
      rw [i64_ok (by omega),Option.bind_some] at h
      simp only [a0,a1,a2,hc,Option.bind_some] at h
      obtain ⟨l,e2,h⟩:=bI h
      obtain ⟨rfl,-⟩:=app_eq e2
      unfold asm_head_j5 at h
      simp only [Option.some.injEq,Prod.mk.injEq,true_and] at h
      obtain ⟨rfl,rfl⟩:=h
      have hkw:kindW (2+(k:Int))=x:=by
       rcases hk3 with rfl | rfl | rfl
       ·simp [UN] at hk2; rw [← hk2]; rfl
       ·simp [UN] at hk2; rw [← hk2]; rfl
       ·simp [UN] at hk2; rw [← hk2]; rfl
      refine ⟨⟨hg.1,fun u hu=>?_⟩,?_⟩
      ·rcases List.mem_append.1 hu with hu | hu
       ·exact hg.2 u hu
       ·simp at hu; subst hu
        exact ⟨by simp only; omega,h3 p (by simp),h3 r (by simp),h3 s (by simp),fun y hy=>h3 y (by simp [hy]),by simp⟩
      ·rw [hj]
       simp [modT,unitT,hkw,codeT]
theorem line_ins {bs:List TBi} {us:List TUnit} {t:List UInt8}:line bs us (9::t)=(asm_instr t).bind (putI bs us):=by
 unfold line s_pre
 rw [Option.bind_some,if_pos (by simp [Lib.hasPrefix])]
 have htr:Lib.trimPrefix (9::t) [9]=t:=by simp [Lib.trimPrefix,Lib.hasPrefix]
 rw [htr]; rfl
theorem line_head {bs:List TBi} {us:List TUnit} {t:List UInt8} (h:Lib.hasPrefix t [9]=false):line bs us t=asm_head bs us t:=by
 unfold line s_pre
 rw [Option.bind_some,if_neg (by simp [h])]
theorem putI_app {bs:List TBi} {init:List TUnit} {x:TUnit} {i:TInstr} (hl:x.Code.length≤100000000):putI bs (init++[x]) (i,true)=some (true,bs,init++[{ x with Code:=x.Code++[i] }]):=by
 unfold putI
 rw [if_pos ⟨rfl,by simp⟩]
 have e1:at_ (init++[x]) (((init++[x]).length:Int) - 1)=some x:=by
  rw [show (((init++[x]).length:Int) - 1)=(init.length:Int) by simp,at_ok (by simp)]
  simp
 rw [e1,Option.bind_some,app_t (by simp; omega),Option.bind_some,uset_app]
 rfl
theorem line_b {bs bs':List TBi} {us us':List TUnit} {t:List UInt8} (ht:t.length≤60000) (hc:∀ x ∈ us,x.Code.length≤100000000) (h:line bs us t=some (true,bs',us')) (hg:GM bs us):GM bs' us'∧modT ⟨bs',us'⟩=modT ⟨bs,us⟩++t++[10]:=by
 cases hp:Lib.hasPrefix t [9] with
 | false=>rw [line_head hp] at h; exact head_b ht h hg
 | true =>
  obtain ⟨r,rfl⟩:∃ r,t=9::r:=by
   cases t with
   | nil=>simp [Lib.hasPrefix] at hp
   | cons c r=>simp [Lib.hasPrefix] at hp; exact ⟨r,by rw [hp]⟩
  rw [line_ins] at h
  obtain ⟨⟨i,b⟩,e1,h⟩:=bI h
  cases b with
  | false=>rw [putI_no] at h; cases h
  | true =>
   by_cases hu:us=[]
   ·subst hu
    unfold putI at h
    rw [if_neg (by simp)] at h
    cases h
   ·obtain ⟨init,x,rfl⟩:∃ init x,us=init++[x]:=⟨us.dropLast,us.getLast hu,(List.dropLast_concat_getLast hu).symm⟩
    rw [putI_app (hc x (by simp))] at h
    simp only [Option.some.injEq,Prod.mk.injEq,true_and] at h
    obtain ⟨rfl,rfl⟩:=h
    obtain ⟨h1,h2,h3⟩:=instr_b (by simp at ht; omega) e1
    obtain ⟨g1,g2⟩:=hg
    refine ⟨⟨g1,fun u hm=>?_⟩,?_⟩
    ·rcases List.mem_append.1 hm with hm | hm
     ·exact g2 u (by simp [hm])
     ·simp at hm; subst hm
      obtain ⟨q1,q2,q3,q4,q5,q6⟩:=g2 x (by simp)
      refine ⟨q1,q2,q3,q4,q5,fun j hj=>?_⟩
      rcases List.mem_append.1 hj with hj | hj
      ·exact q6 j hj
      ·simp at hj; subst hj; exact ⟨h1,h2⟩
    ·have:9::r++[10]=insX i:=h3.symm
     rw [List.append_assoc,this]
     simp [modT,unitT,codeT]
end Go.Y
namespace Go.Y
open Go.Wk Go.Xt
theorem word_any (op:Int):∃ w h,r13_word op=some (w,h):=by
 by_cases h:1≤op∧op≤32
 ·obtain ⟨w,h,-,-,-,e,-⟩:=word_e h.1 h.2
  exact ⟨w,h,e⟩
 ·exact ⟨_,_,word_no h⟩
theorem bare_l2 {u0:Int} {l0:List TUnit} {x:TUnit} {K:Int→List TUnit→Option TModule} (hl0:l0.length≤100000000) (hu0:0≤u0∧u0≤100000000) (hc:x.Code.length≤1048576):∀ (n i:Nat) (acc:List TInstr),i≤x.Code.length→x.Code.length - i<n→acc.length=i→acc++(x.Code.drop i).map bareI=x.Code.map bareI→r13_bare_l2 u0 l0 x K n (i:Int) acc=K (u0+1) (l0++[bareU x]):=by
 intro n
 induction n with
 | zero=>intro i acc _ h; omega
 | succ n ih =>
  intro i acc hi hn ha he
  unfold r13_bare_l2
  by_cases c:i<x.Code.length
  ·rw [drop_e c] at he
   generalize hq:x.Code[i]=q at he
   obtain ⟨w,h,e⟩:=word_any q.Op
   have hB:bareI q=⟨q.Op,if h=1 then q.A else 0,if h=2 then q.N else 0⟩:=by unfold bareI; rw [e]
   have go:∀ a b:Int,a=(if h=1 then q.A else 0)→b=(if h=2 then q.N else 0)→r13_bare_j2 (i:Int) acc q a (r13_bare_l2 u0 l0 x K n) b=K (u0+1) (l0++[bareU x]):=fun a b h1 h2=>by
    unfold r13_bare_j2
    rw [app_t (by simp; omega),Option.bind_some,i64_ok (by omega),Option.bind_some]
    refine ih (i+1) (acc++[⟨q.Op,a,b⟩]) c (by omega) (by simp [ha]) ?_
    rw [h1,h2,← hB]
    simpa using he
   rw [if_pos (by omega),at_ok c,hq,Option.bind_some,e,Option.bind_some]
   unfold r13_bare_j1
   by_cases h1:h=1
   ·rw [if_pos h1,if_neg (by show ¬ h=2; omega)]; exact go _ _ (by rw [if_pos h1]) (by rw [if_neg (by omega)])
   ·rw [if_neg h1]
    by_cases h2:h=2
    ·rw [if_pos h2]; exact go _ _ (by rw [if_neg h1]) (by rw [if_pos h2])
    ·rw [if_neg h2]; exact go _ _ (by rw [if_neg h1]) (by rw [if_neg h2])
  ·rw [if_neg (by omega),app_t (by simp; omega),Option.bind_some,i64_ok (by omega),Option.bind_some]
   rw [List.drop_of_length_le (by omega)] at he
   simp only [List.map_nil,List.append_nil] at he
   rw [he]; rfl
theorem bare_e {m:TModule} (hm:MzM m):r13_bare m=some ⟨m.Boxes,m.Units.map bareU⟩:=by
 obtain ⟨-,hul,hur⟩:=hm
 have key:∀ (n i:Nat) (acc:List TUnit),i≤m.Units.length→m.Units.length - i<n→acc.length=i→acc++(m.Units.drop i).map bareU=m.Units.map bareU→r13_bare_l1 m n (i:Int) acc=some ⟨m.Boxes,m.Units.map bareU⟩:=by
  intro n
  induction n with
  | zero=>intro i acc _ h; omega
  | succ n ih =>
   intro i acc hi hn ha he
   unfold r13_bare_l1
   by_cases c:i<m.Units.length
   ·rw [drop_e c] at he
    have hr:=hur _ (List.getElem_mem c)
    generalize hq:m.Units[i]=q at he hr
    rw [if_pos (by omega),at_ok c,hq,Option.bind_some]
    have:=bare_l2 (u0:=(i:Int)) (l0:=acc) (x:=q) (K:=r13_bare_l1 m n) (by omega) (by omega) hr.2.2.2.2.2.1 (q.Code.length+1) 0 [] (by omega) (by omega) rfl rfl
    rw [show ((0:Nat):Int)=0 by rfl] at this
    rw [this,show ((i:Int)+1)=((i+1:Nat):Int) by omega]
    refine ih (i+1) _ c (by omega) (by simp [ha]) ?_
    simpa using he
   ·rw [if_neg (by omega)]
    rw [List.drop_of_length_le (by omega)] at he
    simp only [List.map_nil,List.append_nil] at he
    rw [he]
 exact key (m.Units.length+1) 0 [] (by omega) (by omega) rfl rfl
theorem step_f {a b:List UInt8} {bs bs':List TBi} {us us':List TUnit} {n k:Nat} (h10:10 ∉ a) (hl:(a++10::b).length≤60000) (hk:k≤100000000) (hu:us.length≤100000000) (h:line bs us a=some (true,bs',us')):asm_read_l1 (n+1) (a++10::b) (k:Int) us bs=asm_read_l1 n b ((k+1:Nat):Int) us' bs':=by
 rw [read_step _ _ _ _ _ (by omega),if_pos (by simp),cut_some hl,cut_yes h10,Option.bind_some,if_pos rfl]
 show (line bs us a).bind _=_
 rw [h,Option.bind_some,if_pos rfl,i64_ok (by omega),Option.bind_some]
 rfl
theorem code_f {bs:List TBi} {init:List TUnit} {R:List UInt8} (hi:init.length≤1048576):∀ (c:List TInstr) (x:TUnit) (n k:Nat),OpsOk c→(∀ i ∈ c,MzC i)→(codeT c++R).length≤60000→(codeT c++R).length<n→k+(codeT c++R).length≤60000→x.Code.length+c.length≤1048576 →
  ∃ n' k',R.length<n'∧k'+R.length≤60000∧asm_read_l1 n (codeT c++R) (k:Int) (init++[x]) bs=asm_read_l1 n' R ((k':Nat):Int) (init++[{ x with Code:=x.Code++c.map bareI }]) bs:=by
 intro c
 induction c with
 | nil=>intro x n k _ _ h1 h2 h3 h4; exact ⟨n,k,by simpa [codeT] using h2,by simpa [codeT] using h3,by simp [codeT]⟩
 | cons i c ih =>
  intro x n k ho hr h1 h2 h3 h4
  obtain ⟨hi0,hi1⟩:=ho i (by simp)
  obtain ⟨t,e1,e2,e3,e4⟩:=instr_f (hr i (by simp)) hi0 hi1
  have eq:codeT (i::c)++R=(9::t)++10::(codeT c++R):=by
   show ((i::c).map insX).flatten++R=_
   rw [List.map_cons,List.flatten_cons,e1]
   simp [codeT]
  rw [eq] at h1 h2 h3 ⊢
  simp only [List.length_cons] at h4
  obtain ⟨n,rfl⟩:∃ q,n=q+1:=⟨n - 1,by omega⟩
  have hline:line bs (init++[x]) (9::t)=some (true,bs,init++[{ x with Code:=x.Code++[bareI i] }]):=by
   rw [line_ins,e4,Option.bind_some,putI_app (by omega)]
  have h10:(10:UInt8) ∉ 9::t:=fun h=>by
   rcases List.mem_cons.1 h with h | h
   ·exact absurd h (by decide)
   ·exact e2 h
  rw [step_f h10 h1 (by omega) (by simp; omega) hline]
  simp only [List.length_append,List.length_cons] at h1 h2 h3
  obtain ⟨n',k',g1,g2,g3⟩:=ih { x with Code:=x.Code++[bareI i] } n (k+1) (fun y hy=>ho y (by simp [hy])) (fun y hy=>hr y (by simp [hy])) (by simp; omega) (by simp; omega) (by simp; omega) (by simp; omega)
  refine ⟨n',k',g1,g2,g3.trans ?_⟩
  simp
theorem units_f {bs:List TBi}:∀ (us dn:List TUnit) (n k:Nat),UnitsOk us→(∀ u ∈ us,MzU u)→dn.length+us.length≤1048576→((us.map unitT).flatten).length≤60000→((us.map unitT).flatten).length<n→k+((us.map unitT).flatten).length≤60000 →
  asm_read_l1 n ((us.map unitT).flatten) (k:Int) dn bs=some (⟨bs,dn++us.map bareU⟩,⟨0,0⟩):=by
 intro us
 induction us with
 | nil =>
  intro dn n k _ _ h0 h1 h2 h3
  obtain ⟨n,rfl⟩:∃ q,n=q+1:=⟨n - 1,by omega⟩
  simp only [List.length_nil] at h0
  rw [read_step _ _ _ _ _ (by omega),if_neg (by simp)]
  simp
 | cons u us ih =>
  intro dn n k ho hr h0 h1 h2 h3
  obtain ⟨hk,hops⟩:=ho u (by simp)
  have hu:=hr u (by simp)
  obtain ⟨k1,k2,k3,k4,k5,k6,k7⟩:=kind_idx hk
  have eq:((u::us).map unitT).flatten=headT u++10::(codeT u.Code++(us.map unitT).flatten):=by
   rw [List.map_cons,List.flatten_cons,unitT,headT]
   simp
  rw [eq] at h1 h2 h3 ⊢
  simp only [List.length_cons] at h0
  obtain ⟨n,rfl⟩:∃ q,n=q+1:=⟨n - 1,by omega⟩
  have hp:Lib.hasPrefix (headT u) [9]=false:=by
   unfold headT
   cases hw:kindW u.Kind with
   | nil=>exact absurd hw k7
   | cons a r =>
    rw [hw] at k6
    simp [Lib.hasPrefix] at k6 ⊢
    exact k6
  have h10:(10:UInt8) ∉ headT u:=fun h=>by
   rcases List.mem_append.1 h with h | h
   ·exact k4 h
   ·exact nums_no _ h
  have hhl:(headT u).length≤60000:=by rw [List.length_append] at h1; omega
  have hline:line bs dn (headT u)=some (true,bs,dn++[{ u with Code:=[] }]):=by
   rw [line_head hp,unit_f hu hk (by omega) hhl]
  rw [step_f h10 h1 (by omega) (by omega) hline]
  simp only [List.length_append,List.length_cons] at h1 h2 h3
  obtain ⟨n',k',g1,g2,g3⟩:=code_f (bs:=bs) (init:=dn) (R:=(us.map unitT).flatten) (by omega) u.Code { u with Code:=[] } n (k+1) hops hu.2.2.2.2.2.2 (by simp only [List.length_append]; omega) (by simp only [List.length_append]; omega) (by simp only [List.length_append]; omega) (by simpa using hu.2.2.2.2.2.1)
  rw [g3,ih _ n' k' (fun y hy=>ho y (by simp [hy])) (fun y hy=>hr y (by simp [hy])) (by simp; omega) (by omega) g1 g2]
  simp [bareU]
theorem boxes_f {us:List TUnit} (ho:UnitsOk us) (hr:∀ u ∈ us,MzU u) (hl:us.length≤1048576):∀ (bs dn:List TBi) (n k:Nat),(∀ b ∈ bs,MzB b)→dn.length+bs.length≤1048576→((bs.map boxT).flatten++(us.map unitT).flatten).length≤60000→((bs.map boxT).flatten++(us.map unitT).flatten).length<n→k+((bs.map boxT).flatten++(us.map unitT).flatten).length≤60000 →
  asm_read_l1 n ((bs.map boxT).flatten++(us.map unitT).flatten) (k:Int) [] dn=some (⟨dn++bs,us.map bareU⟩,⟨0,0⟩):=by
 intro bs
 induction bs with
 | nil =>
  intro dn n k _ h0 h1 h2 h3
  simp only [List.map_nil,List.flatten_nil,List.nil_append,List.append_nil] at h1 h2 h3 ⊢
  rw [units_f us [] n k ho hr (by simpa using hl) h1 h2 h3]
  simp
 | cons b bs ih =>
  intro dn n k hb h0 h1 h2 h3
  have eq:((b::bs).map boxT).flatten++(us.map unitT).flatten=([98,111,120]++nums [b.Typ,b.Cap])++10::((bs.map boxT).flatten++(us.map unitT).flatten):=by
   rw [List.map_cons,List.flatten_cons,boxT]
   simp
  rw [eq] at h1 h2 h3 ⊢
  simp only [List.length_cons] at h0
  obtain ⟨n,rfl⟩:∃ q,n=q+1:=⟨n - 1,by omega⟩
  have h10:(10:UInt8) ∉ [98,111,120]++nums [b.Typ,b.Cap]:=fun h=>by
   rcases List.mem_append.1 h with h | h
   ·exact absurd h (by decide)
   ·exact nums_no _ h
  have hline:line dn [] ([98,111,120]++nums [b.Typ,b.Cap])=some (true,dn++[b],[]):=by
   rw [line_head (by simp [Lib.hasPrefix,List.isPrefixOf]),box_f (hb b (by simp)) (by omega)]
  rw [step_f h10 h1 (by omega) (by simp) hline]
  simp only [List.length_append,List.length_cons] at h1 h2 h3
  rw [ih (dn++[b]) n (k+1) (fun y hy=>hb y (by simp [hy])) (by simp; omega) (by simp only [List.length_append]; omega) (by simp only [List.length_append]; omega) (by simp only [List.length_append]; omega)]
  simp
theorem read_print {fu:Nat} (hf:60001≤fu) {m:TModule} (hm:MzM m) (ho:UnitsOk m.Units) (hl:(modT m).length≤60000):asm_read fu (modT m)=some (⟨m.Boxes,m.Units.map bareU⟩,⟨0,0⟩):=by
 unfold asm_read
 rw [if_neg (by omega)]
 have:=boxes_f ho hm.2.2 hm.2.1 m.Boxes [] fu 0 hm.1.2 (by simpa using hm.1.1) hl (by unfold modT at hl; omega) (by unfold modT at hl; omega)
 simpa [modT] using this
theorem read_b:∀ (n:Nat) (s:List UInt8) (k:Nat) (us:List TUnit) (bs:List TBi) (m:TModule) (f:TFault),s.length<n→Inv k bs us→k+s.length≤60000→GM bs us→asm_read_l1 n s (k:Int) us bs=some (m,f)→f.Err=0→GM m.Boxes m.Units∧modT m=modT ⟨bs,us⟩++s:=by
 intro n
 induction n with
 | zero=>intro s k us bs m f h; omega
 | succ n ih =>
  intro s k us bs m f h1 hI h2 hg h h0
  have hu:=hI.u
  rw [read_step _ _ _ _ _ (by omega)] at h
  by_cases hs:s=[]
  ·rw [if_neg (by simpa using hs)] at h
   simp only [Option.some.injEq,Prod.mk.injEq] at h
   obtain ⟨rfl,-⟩:=h
   exact ⟨hg,by rw [hs]; simp⟩
  ·rw [if_pos hs,cut_some (by omega),Option.bind_some] at h
   by_cases c:(10:UInt8) ∈ s
   ·obtain ⟨a,b,rfl,hn10⟩:=first c
    simp only [List.length_append,List.length_cons] at h1 h2
    rw [cut_yes hn10,if_pos rfl] at h
    obtain ⟨ok,bs',us',e,hI'⟩:=line_some (ln:=a) hI (by omega) (by omega)
    simp only [e,Option.bind_some] at h
    cases ok with
    | false =>
     rw [if_neg (by decide)] at h
     simp only [Option.some.injEq,Prod.mk.injEq] at h
     obtain ⟨-,rfl⟩:=h
     exact absurd h0 (by simp)
    | true =>
     rw [if_pos rfl,i64_ok (by omega),Option.bind_some] at h
     obtain ⟨g1,g2⟩:=line_b (by omega) (fun x hx=>by have:=hI.e x hx; omega) e hg
     obtain ⟨q1,q2⟩:=ih b (k+1) us' bs' m f (by omega) hI' (by omega) g1 h h0
     refine ⟨q1,?_⟩
     rw [q2,g2]
     simp
   ·rw [cut_no c,if_neg (by simp)] at h
    simp only [Option.some.injEq,Prod.mk.injEq] at h
    obtain ⟨-,rfl⟩:=h
    exact absurd h0 (by simp)
theorem print_read {fu:Nat} (hf:60001≤fu) {s:List UInt8} {m:TModule} {f:TFault} (h:asm_read fu s=some (m,f)) (h0:f.Err=0):∃ r,asm_print m=some r∧r.2.Err=0∧r.1=s:=by
 obtain ⟨m',f',e1,e2,e3⟩:=read_any fu hf s
 rw [h] at e1
 obtain ⟨rfl,rfl⟩:=Prod.mk.inj (Option.some.inj e1)
 obtain ⟨hl,hr⟩:=e3 h0
 obtain ⟨⟨g1,g2⟩,g3⟩:=read_b fu s 0 [] [] m f (by omega) inv0 (by omega) ⟨by simp,by simp⟩ hr h0
 have hmod:modT m=s:=by rw [g3]; simp [modT]
 have hm:MzM m:=by
  refine ⟨⟨by have:=e2.b; omega,g1⟩,by have:=e2.u; omega,fun u hu=>?_⟩
  obtain ⟨q1,q2,q3,q4,q5,q6⟩:=g2 u hu
  have:=e2.e u hu
  exact ⟨by unfold R64; omega,q2,q3,q4,⟨by omega,q5⟩,by omega,fun y hy=>(q6 y hy).2⟩
 have hU:UnitsOk m.Units:=fun u hu=>⟨(g2 u hu).1,fun i hi=>((g2 u hu).2.2.2.2.2 i hi).1⟩
 obtain ⟨r,p1,p2,p3⟩:=print_t hm
 have hz:=p3 hU (by rw [hmod]; exact hl)
 exact ⟨r,p1,hz,by rw [(p2 hz).2.1,hmod]⟩
theorem alive_40:asm_alive 40=some true:=by decide +kernel
theorem alive_true (fu:Nat) (hfu:60001≤fu):asm_alive fu=some true:=by
 have h40:=alive_40
 unfold asm_alive at h40 ⊢
 rw [← h40]
 congr 1
 unfold asm_read
 rw [if_neg (by decide),if_neg (by decide)]
 obtain ⟨m,f,e1,e2,e3,e4⟩:=read_some 40 tx_0 0 [] [] (by decide) inv0 (by decide)
 have e1':=e1
 have:=e4 fu (by omega)
 rw [show ((0:Nat):Int)=0 from rfl] at this e1'
 rw [this,e1']
theorem law_asmu_ok {m:TModule} {s:List UInt8} (hm:MzM m):law_asmu 60001 m s=some true:=by
 have key:law_asmu_j1 60001 s=some true:=by
  unfold law_asmu_j1
  obtain ⟨n,f,e,-,-⟩:=read_any 60001 (by decide) s
  rw [e,Option.bind_some]
  by_cases h0:f.Err=0
  ·obtain ⟨r,p1,p2,p3⟩:=print_read (by decide) e h0
   rw [if_neg (fun g=>g h0),p1,Option.bind_some,if_pos p2,p3]
   simp
  ·rw [if_pos h0]
 unfold law_asmu
 rw [alive_true 60001 (by decide),Option.bind_some,if_pos rfl]
 obtain ⟨r,p1,p2,-⟩:=print_t hm
 rw [p1,Option.bind_some]
 by_cases h0:r.2.Err=0
 ·obtain ⟨hU,ht,hl⟩:=p2 h0
  rw [ht] at hl
  have hrd:=read_print (fu:=60001) (by decide) hm hU hl
  rw [if_pos h0,ht,hrd,Option.bind_some,if_neg (by simp),bare_e hm,Option.bind_some,same_r (by decide) hrd,Option.bind_some]
  unfold law_asmu_j2
  rw [if_neg (by decide)]
  exact key
 ·rw [if_neg h0]; exact key
end Go.Y
