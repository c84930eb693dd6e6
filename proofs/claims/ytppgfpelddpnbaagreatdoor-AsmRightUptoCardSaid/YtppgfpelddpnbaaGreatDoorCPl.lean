/- Texts of AsmRight Pl. -/
import Derived.Test.YtppgfpelddpnbaaGreatDoorCMd
import Derived.Lib.CountLaws
import Derived.Lib.CutLaws
import Derived.Lib.IndexMore
import Derived.Lib.ItoaMem
import Derived.Lib.ParseIntBCases
set_option linter.unusedSimpArgs false
set_option linter.unusedVariables false
set_option linter.unusedSectionVars false
namespace Go.Y
open Go.Wk Go.Xt
theorem i64_ok {n:Int} (h:-9223372036854775808≤n∧n≤9223372036854775807):i64 n=some n:=if_pos h
theorem at_ok {α:Type} {l:List α} {i:Nat} (h:i<l.length):at_ l (i:Int)=some l[i]:=by simp [at_,h]
theorem bS {α β:Type} {x:α} {f:α→Option β}:Option.bind (some x) f=f x:=rfl
def line (bs:List TBi) (us:List TUnit) (ln:List UInt8):Option (Bool×List TBi×List TUnit) :=
 Option.bind (s_pre ln [9]) fun r =>
 if r.2=true then
  Option.bind (asm_instr r.1) fun q =>
  if q.2=true∧0<us.length then
   Option.bind (at_ us ((us.length:Int) - 1)) fun x =>
   Option.bind (app x.Code [q.1]) fun l=>some (true,bs,uset us l)
  else some (false,bs,us)
 else asm_head bs us ln
theorem read_step (n:Nat) (s:List UInt8) (i:Int) (us:List TUnit) (bs:List TBi) (hu:us.length≤4294967296):asm_read_l1 (n+1) s i us bs =
  if s≠[] then Option.bind (s_cut s [10]) fun r =>
   if r.2.2=true then Option.bind (line bs us r.1) fun q=>if q.1=true then Option.bind (i64 (i+1)) fun i'=>asm_read_l1 n r.2.1 i' q.2.2 q.2.1 else some (⟨[],[]⟩,⟨2,i⟩)
   else some (⟨[],[]⟩,⟨2,i⟩)
  else some (⟨bs,us⟩,⟨0,0⟩):=by
 rw [asm_read_l1]
 split
 ·congr 1
  funext r
  split
  ·unfold line
   cases h1:s_pre r.1 [9] with
   | none=>rfl
   | some q =>
    simp only [bS]
    split
    ·cases h2:asm_instr q.1 with
     | none=>rfl
     | some p =>
      simp only [bS]
      by_cases h3:p.2=true
      ·by_cases h4:0<us.length
       ·rw [if_pos h3,if_pos ⟨h3,h4⟩]
        unfold asm_read_j2
        rw [if_pos (by simpa using h4),i64_ok (by omega)]
        simp only [bS]
        cases h5:at_ us ((us.length:Int) - 1) with
        | none=>rfl
        | some x =>
         simp only [bS]
         cases h6:app x.Code [p.1] with
         | none=>rfl
         | some l =>
          simp only [bS]
          unfold asm_read_j3 asm_read_j1
          rw [if_pos h3]
          simp
       ·rw [if_pos h3,if_neg (fun h=>h4 h.2)]
        unfold asm_read_j2 asm_read_j1
        rw [if_neg (by simpa using h4)]
        simp
      ·rw [if_neg h3,if_neg (fun h=>h3 h.1)]
       unfold asm_read_j2 asm_read_j1
       simp
    ·cases h2:asm_head bs us r.1 with
     | none=>rfl
     | some p =>
      simp only [bS]
      unfold asm_read_j1
      split <;> rfl
  ·rename_i h
   unfold asm_read_j1
   rw [if_neg h]
 ·rfl
theorem idx_app (c:UInt8) (t:List UInt8):∀ s:List UInt8,0≤Lib.index s [c]→Lib.index (s++t) [c]=Lib.index s [c]
 | [],h=>by simp [Lib.index] at h
 | b::l,h=>by
  rw [List.cons_append]
  unfold Lib.index at h ⊢
  have e:[c].isPrefixOf (b::(l++t))=[c].isPrefixOf (b::l):=by simp [List.isPrefixOf]
  rw [e]
  split
  ·rfl
  ·rename_i h1
   rw [if_neg h1] at h
   split at h
   ·omega
   ·rename_i h2
    have h3:=Lib.index_ge l [c]
    have h4:0≤Lib.index l [c]:=by simp at h2; omega
    rw [idx_app c t l h4]
theorem cut_app (c:UInt8) (s t a b:List UInt8) (h:Lib.cut s [c]=(a,b,true)):Lib.cut (s++t) [c]=(a,b++t,true)∧b.length<s.length∧s≠[]:=by
 unfold Lib.cut at h ⊢
 split at h
 ·rename_i h0
  have hr:=Lib.index_room s [c] h0
  simp only [Prod.mk.injEq,and_true] at h
  obtain ⟨rfl,rfl⟩:=h
  rw [idx_app c t s h0,if_pos h0]
  simp only [List.length_singleton] at hr ⊢
  refine ⟨?_,by simp; omega,by rintro rfl; simp [Lib.index] at h0⟩
  rw [List.take_append_of_le_length (by omega),List.drop_append_of_le_length (by omega)]
 ·simp at h
theorem app_ok {α:Type} {l xs:List α} (h:l.length+xs.length≤4294967296):app l xs=some (l++xs):=if_pos h
theorem pieces_le (sep:List UInt8):∀ (k:Nat) (s:List UInt8),∀ x ∈ Lib.splitK sep 0 k s,x.length≤s.length
 | 0,s,x,h=>by simp [Lib.splitK] at h; subst h; exact Nat.le_refl _
 | k+1,s,x,h=>by
  rw [Lib.splitK] at h
  split at h
  ·simp at h; subst h; exact Nat.le_refl _
  ·rcases List.mem_cons.1 h with rfl | h
   ·simp; omega
   ·exact Nat.le_trans (pieces_le sep k _ x h) (by simp)
theorem pieces_ne (sep:List UInt8) (k:Nat) (s:List UInt8):Lib.splitK sep 0 k s≠[]:=by
 cases k with
 | zero=>simp [Lib.splitK]
 | succ k=>rw [Lib.splitK]; split <;> simp
theorem pieces_len (sep:List UInt8):∀ (k:Nat) (s:List UInt8),(Lib.splitK sep 0 k s).length≤k+1
 | 0,s=>by simp [Lib.splitK]
 | k+1,s=>by
  rw [Lib.splitK]
  split
  ·simp
  ·have:=pieces_len sep k (s.drop ((Lib.index s sep).toNat+sep.length))
   simp; omega
theorem split_some {a:List UInt8} {c:UInt8} (h:a.length≤60000):∃ l,s_split a [c]=some l∧l≠[]∧l.length≤60002∧∀ x ∈ l,x.length≤60000:=by
 refine ⟨Lib.splitK [c] 0 (Lib.count a [c]) a,?_,pieces_ne _ _ _,?_,fun x hx=>Nat.le_trans (pieces_le _ _ _ x hx) h⟩
 ·unfold s_split
  rw [if_pos ⟨by omega,by simp⟩,Lib.splitB_data]
 ·have:=pieces_len [c] (Lib.count a [c]) a
  have:=Lib.count_le a [c]
  omega
theorem number_some {a:List UInt8} (h:a.length≤60000):∃ r,asm_number a=some r:=by
 unfold asm_number
 rw [if_pos (by omega)]
 exact ⟨_,rfl⟩
theorem numbers_l_some (l:List (List UInt8)) (hl:l.length≤60002) (hx:∀ x ∈ l,x.length≤60000):∀ (n i:Nat) (out:List Int),i≤l.length→l.length<n+i→out.length=i→∃ r,asm_numbers_l1 l n i out=some r∧r.1.length≤60002:=by
 intro n
 induction n with
 | zero=>intro i out h1 h2; omega
 | succ n ih =>
  intro i out h1 h2 h3
  unfold asm_numbers_l1
  split
  ·rename_i h
   have h:i<l.length:=by omega
   obtain ⟨r,hr⟩:=number_some (hx _ (List.getElem_mem h))
   rw [at_ok h,bS,hr,bS]
   split
   ·rw [app_ok (by simp; omega),bS,i64_ok (by omega),bS]
    exact ih (i+1) _ (by omega) (by omega) (by simp; omega)
   ·exact ⟨_,rfl,by simp⟩
  ·exact ⟨_,rfl,by simp; omega⟩
theorem numbers_some {l:List (List UInt8)} (hl:l.length≤60002) (hx:∀ x ∈ l,x.length≤60000):∃ r,asm_numbers l=some r∧r.1.length≤60002 :=
 numbers_l_some l hl hx (l.length+1) 0 [] (by omega) (by omega) rfl
theorem idx_range (x:ByteArray):∀ (zs:List ByteArray) (i:Nat),-1≤Lib.idxFromS zs x i∧Lib.idxFromS zs x i<i+zs.length
 | [],i=>by simp [Lib.idxFromS]; omega
 | z::zs,i=>by
  rw [Lib.idxFromS]
  split
  ·simp; omega
  ·have:=idx_range x zs (i+1)
   simp; omega
theorem sidx_some (l:List (List UInt8)) (x:List UInt8):∃ r,s_idx l x=some r∧-1≤r∧r<l.length:=by
 refine ⟨_,rfl,?_⟩
 have:=idx_range ⟨⟨x⟩⟩ (l.map fun y=>⟨⟨y⟩⟩) 0
 simpa [Lib.idxOfS] using this
theorem has_j1_some (i:Int) (b:Bool):∃ r,asm_has_j1 i b=some r:=by
 unfold asm_has_j1
 split <;> exact ⟨_,rfl⟩
theorem has_some (i:Int):∃ r,asm_has i=some r:=by
 unfold asm_has
 repeat' split
 all_goals exact has_j1_some _ _
theorem instr_some {a:List UInt8} (h:a.length≤60000):∃ r,asm_instr a=some r:=by
 obtain ⟨l,e1,hne,hl,hx⟩:=split_some (c:=32) h
 have hpos:0<l.length:=List.length_pos_iff.2 hne
 unfold asm_instr
 have e2:at_ l 0=some l[0]:=at_ok (i:=0) hpos
 rw [e1,bS,e2,bS]
 unfold asm_mnem
 rw [bS]
 obtain ⟨r,e3,h1,h2⟩:=sidx_some [[112,117,115,104],[116,114,117,116,104],[108,111,97,100],[115,116,111,114,101],[100,114,111,112],[110,101,103],[110,111,116],[97,100,100],[115,117,98],[109,117,108],[100,105,118],[109,111,100],[101,113],[110,101],[108,116],[108,101],[103,116],[103,101],[97,110,100],[111,114],[106,117,109,112],[101,108,115,101],[99,97,108,108],[114,101,116],[101,110,100],[115,101,110,100],[114,101,99,118],[111,117,116],[115,116,97,114,116],[114,101,115,117,109,101],[121,105,101,108,100],[97,108,105,118,101]] l[0]
 simp only [List.length_cons,List.length_nil] at h2
 rw [e3,bS,i64_ok (by omega),bS]
 unfold asm_instr_j1
 obtain ⟨q,hq⟩:=has_some (r+1)
 rw [hq,bS]
 have j5:∀ a b c d,∃ r,asm_instr_j5 a b c d=some r:=fun a b c d=>⟨_,rfl⟩
 have j4:∀ w b,(b=true∨w=1∨2≤l.length)→∃ r',asm_instr_j4 l (r+1) q w b=some r':=by
  intro w b hw
  unfold asm_instr_j4
  split
  ·exact ⟨_,rfl⟩
  ·split
   ·exact ⟨_,rfl⟩
   ·rename_i c1 c2
    have h2:1<l.length:=by
     rcases hw with h | h | h
     ·exact absurd h c1
     ·exact absurd h c2
     ·omega
    obtain ⟨v,hv⟩:=number_some (hx _ (List.getElem_mem h2))
    have e4:at_ l 1=some l[1]:=at_ok (i:=1) h2
    rw [e4,bS,hv,bS]
    split <;> exact j5 _ _ _ _
 have j3:∀ w,(w=1∨w=2)→∃ r',asm_instr_j3 l (r+1) q w=some r':=by
  intro w hw
  unfold asm_instr_j3
  split
  ·exact j4 _ _ (.inl rfl)
  ·refine j4 _ _ ?_
   rcases hw with rfl | rfl
   ·exact .inr (.inl rfl)
   ·by_cases hl2:(l.length:Int)=2
    ·exact .inr (.inr (by omega))
    ·exact .inl (by simpa using hl2)
 have j2:∀ b,∃ r',asm_instr_j2 l (r+1) q b=some r':=by
  intro b
  unfold asm_instr_j2
  split
  ·exact j3 _ (.inr rfl)
  ·exact j3 _ (.inl rfl)
 split <;> exact j2 _
structure Inv (k:Nat) (bs:List TBi) (us:List TUnit):Prop where
 b:bs.length≤k
 u:us.length≤k
 e:∀ x ∈ us,x.Code.length≤k∧x.Locals.length≤60002
theorem Inv.mono {k k':Nat} {bs:List TBi} {us:List TUnit} (h:Inv k bs us) (hk:k≤k'):Inv k' bs us :=
 ⟨by have:=h.b; omega,by have:=h.u; omega,fun x hx=>by have:=h.e x hx; omega⟩
theorem cut_ok {α:Type} {l:List α} {i j:Int} (h:0≤i∧i≤j∧j≤l.length):cut l i j=some ((l.take j.toNat).drop i.toNat):=if_pos h
theorem head_some {k:Nat} {bs:List TBi} {us:List TUnit} {ln:List UInt8} (hI:Inv k bs us) (hk:k≤60000) (h:ln.length≤60000):∃ b bs' us',asm_head bs us ln=some (b,bs',us')∧Inv (k+1) bs' us':=by
 obtain ⟨l,e1,hne,hl,hx⟩:=split_some (c:=32) h
 have hpos:0<l.length:=List.length_pos_iff.2 hne
 have hb:=hI.b
 have hu:=hI.u
 have stay:Inv (k+1) bs us:=hI.mono (by omega)
 unfold asm_head
 rw [e1,bS,cut_ok (by omega),bS]
 obtain ⟨r,e2,hr⟩:=numbers_some (l:=(l.take (l.length:Int).toNat).drop (1:Int).toNat) (by simp; omega) (fun x hx'=>hx x (List.mem_of_mem_take (List.mem_of_mem_drop hx')))
 rw [e2,bS]
 split
 ·have e3:at_ l 0=some l[0]:=at_ok (i:=0) hpos
  rw [e3,bS]
  split
  ·have j1:∀ b,(b=true∨(r.1.length:Int)=2)→∃ b' bs' us',asm_head_j1 bs us r b=some (b',bs',us')∧Inv (k+1) bs' us':=by
    intro b hb'
    unfold asm_head_j1
    split
    ·exact ⟨_,_,_,rfl,stay⟩
    ·rename_i c
     have h2:r.1.length=2:=by rcases hb' with h | h; exact absurd h c; omega
     have f1:at_ r.1 0=some r.1[0]:=at_ok (i:=0) (by omega)
     have f2:at_ r.1 1=some r.1[1]:=at_ok (i:=1) (by omega)
     rw [f1,bS,f2,bS,app_ok (by simp; omega),bS]
     exact ⟨_,_,_,rfl,⟨by simp; omega,by omega,stay.e⟩⟩
   split
   ·exact j1 _ (.inl rfl)
   ·rename_i c; exact j1 _ (.inr (by omega))
  ·rw [bS]
   unfold asm_units
   rw [bS]
   obtain ⟨q,e4,h1,h2⟩:=sidx_some [[102,110],[103,101,110],[116,97,115,107]] l[0]
   simp only [List.length_cons,List.length_nil] at h2
   rw [e4,bS]
   have j4:∀ b,(b=true∨3≤r.1.length)→∃ b' bs' us',asm_head_j4 bs us r q b=some (b',bs',us')∧Inv (k+1) bs' us':=by
    intro b hb'
    unfold asm_head_j4
    split
    ·exact ⟨_,_,_,rfl,stay⟩
    ·rename_i c
     have h2:3≤r.1.length:=by rcases hb' with h | h; exact absurd h c; exact h
     have f1:at_ r.1 0=some r.1[0]:=at_ok (i:=0) (by omega)
     have f2:at_ r.1 1=some r.1[1]:=at_ok (i:=1) (by omega)
     have f3:at_ r.1 2=some r.1[2]:=at_ok (i:=2) (by omega)
     rw [i64_ok (by omega),bS,f1,bS,f2,bS,f3,bS,cut_ok (by omega),bS,app_ok (by simp; omega),bS]
     refine ⟨_,_,_,rfl,⟨by omega,by simp; omega,fun x hx=>?_⟩⟩
     rcases List.mem_append.1 hx with hx | hx
     ·exact stay.e x hx
     ·simp at hx; subst hx; simp; omega
   unfold asm_head_j3
   split
   ·exact j4 _ (.inl rfl)
   ·by_cases h3:3≤r.1.length
    ·exact j4 _ (.inr h3)
    ·exact j4 _ (.inl (by simp; omega))
 ·exact ⟨_,_,_,rfl,stay⟩
theorem line_some {k:Nat} {bs:List TBi} {us:List TUnit} {ln:List UInt8} (hI:Inv k bs us) (hk:k≤60000) (h:ln.length≤60000):∃ b bs' us',line bs us ln=some (b,bs',us')∧Inv (k+1) bs' us':=by
 have stay:Inv (k+1) bs us:=hI.mono (by omega)
 unfold line
 unfold s_pre
 rw [bS]
 split
 ·have hp:(Lib.trimPrefix ln [9]).length≤60000:=by
   unfold Lib.trimPrefix; split <;> first | exact h | (simp; omega)
  obtain ⟨q,hq⟩:=instr_some hp
  rw [hq,bS]
  split
  ·rename_i c
   have hu:=hI.u
   have hne:us≠[]:=fun e=>by rw [e] at c; simp at c
   obtain ⟨init,x,rfl⟩:∃ init x,us=init++[x]:=⟨us.dropLast,us.getLast hne,(List.dropLast_concat_getLast hne).symm⟩
   have hx:=hI.e x (by simp)
   have e1:at_ (init++[x]) (((init++[x]).length:Int) - 1)=some x:=by
    rw [show (((init++[x]).length:Int) - 1)=(init.length:Int) by simp,at_ok (by simp)]
    simp
   rw [e1,bS,app_ok (by simp; omega),bS,uset_app]
   refine ⟨_,_,_,rfl,⟨stay.b,by simpa using stay.u,fun y hy=>?_⟩⟩
   rcases List.mem_append.1 hy with hy | hy
   ·exact stay.e y (by simp [hy])
   ·simp at hy; subst hy
    show (x.Code++[q.1]).length≤k+1∧x.Locals.length≤60002
    simp; omega
  ·exact ⟨_,_,_,rfl,stay⟩
 ·exact head_some hI hk h
theorem cut_some {s:List UInt8} (h:s.length≤60000):s_cut s [10]=some (Lib.cut s [10]):=if_pos (by omega)
theorem cut_small {s:List UInt8}:(Lib.cut s [10]).1.length≤s.length:=by
 unfold Lib.cut
 split
 ·simp; omega
 ·exact Nat.le_refl _
theorem read_some:∀ (n:Nat) (s:List UInt8) (k:Nat) (us:List TUnit) (bs:List TBi),s.length<n→Inv k bs us→k+s.length≤60000 →
  ∃ m f,asm_read_l1 n s k us bs=some (m,f)∧Inv 60000 m.Boxes m.Units∧(f.Err=0∨f.Err=2)∧(∀ n',n≤n'→asm_read_l1 n' s k us bs=some (m,f)):=by
 intro n
 induction n with
 | zero=>intro s k us bs h; omega
 | succ n ih =>
  intro s k us bs h1 hI h2
  have hu:=hI.u
  by_cases hs:s=[]
  ·refine ⟨⟨bs,us⟩,⟨0,0⟩,?_,hI.mono (by omega),.inl rfl,?_⟩
   ·rw [read_step _ _ _ _ _ (by omega),if_neg (by simpa using hs)]
   ·intro n' hn
    obtain ⟨n',rfl⟩:∃ q,n'=q+1:=⟨n' - 1,by omega⟩
    rw [read_step _ _ _ _ _ (by omega),if_neg (by simpa using hs)]
  ·rcases hcut:Lib.cut s [10] with ⟨a,b,c⟩
   have ha:a.length≤s.length:=by have:=cut_small (s:=s); rw [hcut] at this; exact this
   have nil:Inv 60000 [] []:=⟨by simp,by simp,by simp⟩
   cases c with
   | false =>
    refine ⟨⟨[],[]⟩,⟨2,k⟩,?_,nil,.inr rfl,?_⟩
    ·rw [read_step _ _ _ _ _ (by omega),if_pos hs,cut_some (by omega),bS,hcut]; rfl
    ·intro n' hn
     obtain ⟨n',rfl⟩:∃ q,n'=q+1:=⟨n' - 1,by omega⟩
     rw [read_step _ _ _ _ _ (by omega),if_pos hs,cut_some (by omega),bS,hcut]; rfl
   | true =>
    obtain ⟨-,hb,-⟩:=cut_app 10 s [] a b hcut
    obtain ⟨ok,bs',us',e,hI'⟩:=line_some (ln:=a) hI (by omega) (by omega)
    cases ok with
    | false =>
     refine ⟨⟨[],[]⟩,⟨2,k⟩,?_,nil,.inr rfl,?_⟩
     ·rw [read_step _ _ _ _ _ (by omega),if_pos hs,cut_some (by omega),bS,hcut,if_pos rfl,e,bS]; rfl
     ·intro n' hn
      obtain ⟨n',rfl⟩:∃ q,n'=q+1:=⟨n' - 1,by omega⟩
      rw [read_step _ _ _ _ _ (by omega),if_pos hs,cut_some (by omega),bS,hcut,if_pos rfl,e,bS]; rfl
    | true =>
     obtain ⟨m,f,e1,e2,e3,e4⟩:=ih b (k+1) us' bs' (by omega) hI' (by omega)
     have st:∀ q,asm_read_l1 (q+1) s k us bs=asm_read_l1 q b (k+1:Nat) us' bs':=fun q=>by
      rw [read_step _ _ _ _ _ (by omega),if_pos hs,cut_some (by omega),bS,hcut,if_pos rfl,e,bS,if_pos rfl,i64_ok (by omega),bS]
      rfl
     refine ⟨m,f,by rw [st]; exact e1,e2,e3,?_⟩
     intro n' hn
     obtain ⟨n',rfl⟩:∃ q,n'=q+1:=⟨n' - 1,by omega⟩
     rw [st]
     exact e4 n' (by omega)
end Go.Y
namespace Go.Y
open Go.Wk Go.Xt
theorem dec_small {u:Nat} (h:u<10):Lib.decDigits u=[UInt8.ofNat (48+u)]:=by rw [Lib.decDigits,dif_pos h]
theorem dec_big {u:Nat} (h:¬ u<10):Lib.decDigits u=Lib.decDigits (u / 10)++[UInt8.ofNat (48+u % 10)]:=by rw [Lib.decDigits,dif_neg h]
theorem dec_len:∀ (n u:Nat),u<10 ^ (n+1)→(Lib.decDigits u).length≤n+1:=by
 intro n
 induction n with
 | zero=>intro u h; rw [dec_small (by simpa using h)]; simp
 | succ n ih =>
  intro u h
  by_cases c:u<10
  ·rw [dec_small c]; simp
  ·rw [dec_big c]
   have:=ih (u / 10) (by rw [Nat.pow_succ] at h; omega)
   simp; omega
theorem p19:(10:Nat) ^ (18+1)=10000000000000000000:=by decide
theorem itoa_len {x:Int} (h:R64 x):1≤(Lib.itoa x).length∧(Lib.itoa x).length≤20:=by
 obtain ⟨h0,h1⟩:=h
 unfold Lib.itoa
 by_cases c:x<0
 ·rw [if_pos c]
  have:=dec_len 18 x.natAbs (by rw [p19]; omega)
  simp; omega
 ·rw [if_neg c]
  have:=dec_len 18 x.toNat (by rw [p19]; omega)
  refine ⟨?_,by omega⟩
  by_cases d:x.toNat<10
  ·rw [dec_small d]; simp
  ·rw [dec_big d]; simp
end Go.Y
namespace Go.Y
open Go.Wk Go.Xt
def nums (ns:List Int):List UInt8:=(ns.map fun n=>32::Lib.itoa n).flatten
theorem nums_cons (a:Int) (l:List Int):nums (a::l)=32::Lib.itoa a++nums l:=by simp [nums]
theorem nums_nil:nums []=[]:=rfl
theorem nums_len {ns:List Int} (h:∀ n ∈ ns,R64 n):(nums ns).length≤21*ns.length:=by
 induction ns with
 | nil=>simp [nums]
 | cons a l ih =>
  have h1:=itoa_len (h a (by simp))
  have h2:=ih fun n hn=>h n (by simp [hn])
  unfold nums at h2 ⊢
  simp only [List.map_cons,List.flatten_cons,List.length_append,List.length_cons]
  omega
theorem cat_t {a b:List UInt8} (h:a.length+b.length≤4294967296):cat a b=some (a++b):=by unfold cat; rw [if_pos (by omega)]
theorem app_t {α:Type} {a b:List α} (h:a.length+b.length≤4294967296):app a b=some (a++b):=by unfold app; rw [if_pos h]
theorem str_t {a b:List UInt8} (h:a.length+b.length≤4294967296):bd_str a b=some ((b.length:Int),(),a++b):=by unfold bd_str; rw [app_t h]; rfl
theorem byte_t {a:List UInt8} {c:UInt8} (h:a.length+1≤4294967296):bd_byte a c=some ((),a++[c]):=by unfold bd_byte; rw [app_t (by simpa using h)]; rfl
theorem fmt_t {n:Int} (h:R64 n):fmt10 n=some (Lib.itoa n):=by unfold fmt10; rw [if_pos ⟨h.1,h.2⟩]
theorem drop_e {α:Type} {l:List α} {i:Nat} (h:i<l.length):l.drop i=l[i]::l.drop (i+1):=List.drop_eq_getElem_cons h
theorem line_l1 {ns:List Int} (h:∀ n ∈ ns,R64 n) (hl:ns.length≤10000000):∀ (n i:Nat) (b:List UInt8),i≤ns.length→ns.length - i<n→b.length+21*(ns.length - i)+1≤4294967296→pr_line_l1 ns n (i:Int) b=some (b++nums (ns.drop i)++[10]):=by
 intro n
 induction n with
 | zero=>intro i b _ h; omega
 | succ n ih =>
  intro i b hi hn hb
  unfold pr_line_l1
  by_cases c:i<ns.length
  ·have hr:=h _ (List.getElem_mem c)
   have h1:=itoa_len hr
   rw [if_pos (by omega),at_ok c,Option.bind_some,fmt_t hr,Option.bind_some,cat_t (by simp; omega),Option.bind_some,str_t (by simp; omega),Option.bind_some,i64_ok (by omega),Option.bind_some]
   have:=ih (i+1) (b++32::Lib.itoa ns[i]) c (by omega) (by simp; omega)
   rw [show ((i:Int)+1)=((i+1:Nat):Int) by omega]
   refine this.trans ?_
   rw [drop_e c,nums_cons]
   simp only [List.append_assoc,List.cons_append,List.nil_append]
  ·rw [if_neg (by omega),byte_t (by omega),Option.bind_some,List.drop_of_length_le (by omega)]
   simp [nums]
theorem line_t {ns:List Int} {w b:List UInt8} (h:∀ n ∈ ns,R64 n) (hl:ns.length≤10000000) (hb:b.length+w.length+21*ns.length+1≤4294967296):pr_line w ns b=some (b++w++nums ns++[10]):=by
 unfold pr_line
 rw [str_t (by omega),Option.bind_some]
 have:=line_l1 h hl (ns.length+1) 0 (b++w) (by omega) (by omega) (by simp; omega)
 simpa using this
def wordOk (k:Nat):Bool:=match r13_word ((k:Int)+1),asm_has ((k:Int)+1),asm_mnem.bind fun l=>at_ l (k:Int) with
 | some (w,h),some (n,a),some x=>decide (w=x) && decide (w≠[]) && decide (w.length≤6) && decide (32 ∉ w∧10 ∉ w) && (decide (h=2∧n=true∧a=false) || decide (h=1∧n=false∧a=true) || decide (h=0∧n=false∧a=false))
 | _,_,_=>false
theorem word_all:∀ k:Nat,k<32→wordOk k=true:=by decide +kernel
theorem word_e {op:Int} (h0:1≤op) (h1:op≤32):∃ w h n a l,r13_word op=some (w,h)∧asm_has op=some (n,a)∧asm_mnem=some l∧at_ l (op - 1)=some w∧w≠[]∧w.length≤6∧(32 ∉ w∧10 ∉ w)∧((h=2∧n=true∧a=false)∨(h=1∧n=false∧a=true)∨(h=0∧n=false∧a=false)):=by
 obtain ⟨k,rfl⟩:∃ k:Nat,op=(k:Int)+1:=⟨(op - 1).toNat,by omega⟩
 have:=word_all k (by omega)
 unfold wordOk at this
 rw [show ((k:Int)+1 - 1)=(k:Int) by omega]
 cases e1:r13_word ((k:Int)+1) with
 | none=>rw [e1] at this; simp at this
 | some q =>
  obtain ⟨w,h⟩:=q
  cases e2:asm_has ((k:Int)+1) with
  | none=>rw [e1,e2] at this; simp at this
  | some q =>
   obtain ⟨n,a⟩:=q
   obtain ⟨l,hl⟩:∃ l,asm_mnem=some l:=⟨_,rfl⟩
   cases e3:at_ l (k:Int) with
   | none=>rw [e1,e2,hl,Option.bind_some,e3] at this; simp at this
   | some x =>
    rw [e1,e2,hl,Option.bind_some,e3] at this
    simp only [Bool.and_eq_true,Bool.or_eq_true,decide_eq_true_eq] at this
    obtain ⟨⟨⟨⟨rfl,t2⟩,t3⟩,t4⟩,t5⟩:=this
    exact ⟨w,h,n,a,l,rfl,rfl,hl,e3,t2,t3,t4,by rcases t5 with (t | t) | t <;> simp [t]⟩
theorem word_no {op:Int} (h:¬ (1≤op∧op≤32)):r13_word op=some ([],0):=by
 unfold r13_word
 by_cases c:op<1
 ·rw [if_pos c]; rfl
 ·rw [if_neg c,decide_eq_true (by omega)]; rfl
def insT (w:List UInt8) (h:Int) (i:TInstr):List UInt8:=9::w++(if h=1 then 32::Lib.itoa i.A else [])++(if h=2 then 32::Lib.itoa i.N else [])++[10]
theorem insT_len {w:List UInt8} {h:Int} {i:TInstr} (hi:MzC i) (hw:w.length≤6):(insT w h i).length≤60:=by
 have h1:=itoa_len hi.2.1
 have h2:=itoa_len hi.2.2
 unfold insT
 split <;> split <;> simp <;> omega
section
variable {fu:Nat} {k:Int} {x:TUnit} {s:List UInt8} {K:Int→List UInt8→Option (List UInt8×TWhere)} {K':List UInt8→Int→Option (List UInt8×TWhere)}
end
end Go.Y
namespace Go.Y
open Go.Wk Go.Xt
theorem dec_dig:∀ (u:Nat),∀ c ∈ Lib.decDigits u,48≤c.toNat∧c.toNat≤57:=by
 intro u
 induction u using Nat.strongRecOn with
 | ind u ih =>
  intro c hc
  by_cases h:u<10
  ·rw [dec_small h,List.mem_singleton] at hc
   subst hc
   rw [UInt8.toNat_ofNat']; omega
  ·rw [dec_big h,List.mem_append,List.mem_singleton] at hc
   rcases hc with hc | rfl
   ·exact ih (u / 10) (by omega) c hc
   ·rw [UInt8.toNat_ofNat']; omega
theorem dec_ne (u:Nat):Lib.decDigits u≠[]:=by
 by_cases h:u<10
 ·rw [dec_small h]; simp
 ·rw [dec_big h]; simp
theorem parse_dec (M:Nat):∀ (u:Nat) (r:List UInt8),u≤M→u≤9223372036854775808→Lib.parseUintM M 0 (Lib.decDigits u++r)=Lib.parseUintM M u r:=by
 intro u
 induction u using Nat.strongRecOn with
 | ind u ih =>
  intro r hM hu
  by_cases h:u<10
  ·have e:(UInt8.ofNat (48+u)).toNat=48+u:=by rw [UInt8.toNat_ofNat']; omega
   rw [dec_small h,List.singleton_append,Lib.parseUintM,if_pos (by omega),if_neg (by omega),if_neg (by omega)]
   congr 1
   omega
  ·have e:(UInt8.ofNat (48+u % 10)).toNat=48+u % 10:=by rw [UInt8.toNat_ofNat']; omega
   rw [dec_big h,List.append_assoc,ih (u / 10) (by omega) _ (by omega) (by omega),List.singleton_append,Lib.parseUintM,if_pos (by omega),if_neg (by omega),if_neg (by omega)]
   congr 1
   omega
theorem parse_itoa {v:Int} (h:R64 v):Lib.parseIntB 64 (Lib.itoa v)=.ok v:=by
 obtain ⟨h0,h1⟩:=h
 unfold Lib.itoa
 by_cases c:v<0
 ·rw [if_pos c,Lib.parseIntB_minus]
  unfold Lib.parseUintB
  have:=parse_dec (2 ^ 64 - 1) v.natAbs [] (by omega) (by omega)
  rw [List.append_nil] at this
  rw [if_neg (dec_ne _),this]
  unfold Lib.parseUintM Lib.signedC
  simp only
  rw [if_neg (by omega)]
  congr 1
  omega
 ·rw [if_neg c]
  have hd:=dec_dig v.toNat
  have hp:=parse_dec (2 ^ 64 - 1) v.toNat [] (by omega) (by omega)
  rw [List.append_nil] at hp
  have hne:=dec_ne v.toNat
  generalize hq:Lib.decDigits v.toNat=q at *
  cases q with
  | nil=>exact absurd rfl hne
  | cons a q =>
   have ha:=hd a (by simp)
   rw [Lib.parseIntB_plain _ _ _ (by omega) (by omega)]
   unfold Lib.parseUintB
   rw [if_neg hne,hp]
   unfold Lib.parseUintM Lib.signlessC
   simp only
   rw [if_neg (by omega)]
   congr 1
   omega
theorem anum_itoa {v:Int} (h:R64 v):asm_number (Lib.itoa v)=some (v,true):=by
 have:=itoa_len h
 unfold asm_number
 rw [if_pos (by omega),parse_itoa h]
 simp
section
variable {fu:Nat} {s:List UInt8} {u5:UInt8}
end
end Go.Y
namespace Go.Y
open Go.Wk Go.Xt
theorem idx_no {c:UInt8}:∀ {s:List UInt8},c ∉ s→Lib.index s [c]=-1
 | [],h=>rfl
 | b::s,h=>by
  simp only [List.mem_cons,not_or] at h
  rw [Lib.index,idx_no h.2]
  have:(List.isPrefixOf [c] (b::s))=false:=by simp [List.isPrefixOf,h.1]
  rw [this]; rfl
theorem idx_yes {c:UInt8}:∀ {a:List UInt8} (b:List UInt8),c ∉ a→Lib.index (a++c::b) [c]=a.length
 | [],b,h=>by
  rw [List.nil_append,Lib.index]
  have:(List.isPrefixOf [c] (c::b))=true:=by simp [List.isPrefixOf]
  rw [this]; rfl
 | d::a,b,h=>by
  simp only [List.mem_cons,not_or] at h
  rw [List.cons_append,Lib.index,idx_yes b h.2]
  have:(List.isPrefixOf [c] (d::(a++c::b)))=false:=by simp [List.isPrefixOf,h.1]
  rw [this]
  have h2:((a.length:Int) == -1)=false:=by rw [beq_eq_false_iff_ne]; omega
  simp only [Bool.false_eq_true,if_false,h2]
  simp
theorem first {c:UInt8}:∀ {s:List UInt8},c ∈ s→∃ a b,s=a++c::b∧c ∉ a
 | [],h=>by simp at h
 | d::s,h=>by
  by_cases e:d=c
  ·subst e; exact ⟨[],s,rfl,by simp⟩
  ·have:c ∈ s:=by
    rcases List.mem_cons.1 h with h | h
    ·exact absurd h.symm e
    ·exact h
   obtain ⟨a,b,rfl,hn⟩:=first this
   exact ⟨d::a,b,rfl,by simp [hn]; exact fun g=>e g.symm⟩
def wds:List UInt8→List (List UInt8)
 | []=>[[]]
 | c::r=>if c=32 then []::wds r else match wds r with
  | []=>[[c]]
  | w::ws=>(c::w)::ws
theorem wds_ne:∀ s,∃ w ws,wds s=w::ws
 | []=>⟨[],[],rfl⟩
 | c::r=>by
  obtain ⟨w,ws,h⟩:=wds_ne r
  unfold wds
  split
  ·exact ⟨_,_,rfl⟩
  ·rw [h]; exact ⟨_,_,rfl⟩
theorem wds_no:∀ {s:List UInt8},32 ∉ s→wds s=[s]
 | [],h=>rfl
 | c::r,h=>by
  simp only [List.mem_cons,not_or] at h
  rw [wds,if_neg (fun e=>h.1 e.symm),wds_no h.2]
theorem wds_yes:∀ {a:List UInt8} (b:List UInt8),32 ∉ a→wds (a++32::b)=a::wds b
 | [],b,h=>by rw [List.nil_append,wds,if_pos rfl]
 | c::r,b,h=>by
  simp only [List.mem_cons,not_or] at h
  rw [List.cons_append,wds,if_neg (fun e=>h.1 e.symm),wds_yes b h.2]
theorem cnt_e:∀ (n:Nat) (s:List UInt8),s.length<n→Lib.countFrom [32] n s=s.count 32:=by
 intro n
 induction n with
 | zero=>intro s h; omega
 | succ n ih =>
  intro s h
  unfold Lib.countFrom
  by_cases c:32 ∈ s
  ·obtain ⟨a,b,rfl,hn⟩:=first c
   rw [idx_yes b hn]
   have h2:((a.length:Int) == -1)=false:=by rw [beq_eq_false_iff_ne]; omega
   rw [h2]
   simp only [Bool.false_eq_true,if_false]
   have e:(a++32::b).drop ((a.length:Int).toNat+[(32:UInt8)].length)=b:=by simp
   rw [e,ih b (by simp at h; omega),List.count_append,List.count_eq_zero_of_not_mem hn,List.count_cons]
   simp; omega
  ·rw [idx_no c]
   simp [List.count_eq_zero_of_not_mem c]
theorem split_w:∀ (k:Nat) (s:List UInt8),s.count 32≤k→Lib.splitK [32] 0 k s=wds s:=by
 intro k
 induction k with
 | zero =>
  intro s h
  have:32 ∉ s:=fun c=>by have:=List.count_pos_iff.2 c; omega
  rw [wds_no this]; rfl
 | succ k ih =>
  intro s h
  unfold Lib.splitK
  by_cases c:32 ∈ s
  ·obtain ⟨a,b,rfl,hn⟩:=first c
   rw [idx_yes b hn]
   have h2:((a.length:Int) == -1)=false:=by rw [beq_eq_false_iff_ne]; omega
   rw [h2]
   simp only [Bool.false_eq_true,if_false]
   rw [List.count_append,List.count_cons] at h
   simp only [beq_self_eq_true,if_true] at h
   have e:(a++32::b).drop ((a.length:Int).toNat+[(32:UInt8)].length)=b:=by simp
   rw [e,ih b (by omega),wds_yes b hn]
   congr 1
   simp
  ·rw [idx_no c,wds_no c]; rfl
theorem ssplit_e {s:List UInt8} (h:s.length≤60000):s_split s [32]=some (wds s):=by
 unfold s_split
 rw [if_pos ⟨by omega,by simp⟩,Lib.splitB_data]
 congr 1
 exact split_w _ _ (by
  show _≤Lib.countFrom [32] (s.length+1) s
  rw [cnt_e _ _ (by omega)]; exact Nat.le_refl _)
theorem wds_len:∀ s:List UInt8,(wds s).length≤s.length+1
 | []=>by simp [wds]
 | c::r=>by
  have:=wds_len r
  obtain ⟨w,ws,h⟩:=wds_ne r
  rw [h] at this
  unfold wds
  split
  ·rw [h]; simp at this ⊢; omega
  ·rw [h]; simp at this ⊢; omega
end Go.Y
namespace Go.Y
open Go.Wk Go.Xt
def MN:List (List UInt8):=asm_mnem.getD []
theorem mn_e:asm_mnem=some MN:=rfl
theorem mn_len:MN.length=32:=rfl
theorem at_t {α:Type} {l:List α} {k:Nat} {x:α} (h:l[k]?=some x):at_ l (k:Int)=some x:=by simp [at_,h]
section
variable {fu:Nat} {bs:List TBi} {us:List TUnit}
def putI (bs:List TBi) (us:List TUnit) (q:TInstr×Bool):Option (Bool×List TBi×List TUnit) :=
 if q.2=true∧0<us.length then (at_ us ((us.length:Int) - 1)).bind fun x=>(app x.Code [q.1]).bind fun l=>some (true,bs,uset us l) else some (false,bs,us)
def UN:List (List UInt8):=[[102,110],[103,101,110],[116,97,115,107]]
end
theorem cut_yes {a b:List UInt8} (h:(10:UInt8) ∉ a):Lib.cut (a++10::b) [10]=(a,b,true):=by
 unfold Lib.cut
 rw [idx_yes b h,if_pos (by omega)]
 simp
end Go.Y
namespace Go.Y
open Go.Wk Go.Xt
def boxT (b:TBi):List UInt8:=[98,111,120]++nums [b.Typ,b.Cap]++[10]
def insX (i:TInstr):List UInt8:=match r13_word i.Op with
 | some (w,h)=>insT w h i
 | none=>[]
def codeT (c:List TInstr):List UInt8:=(c.map insX).flatten
def kindW (k:Int):List UInt8:=if k=2 then [102,110] else if k=3 then [103,101,110] else [116,97,115,107]
def unitT (u:TUnit):List UInt8:=kindW u.Kind++nums ([u.Params,u.Result,u.Takes]++u.Locals)++[10]++codeT u.Code
def modT (m:TModule):List UInt8:=(m.Boxes.map boxT).flatten++(m.Units.map unitT).flatten
def OpsOk (c:List TInstr):Prop:=∀ i ∈ c,1≤i.Op∧i.Op≤32
def UnitsOk (l:List TUnit):Prop:=∀ u ∈ l,(2≤u.Kind∧u.Kind≤4)∧OpsOk u.Code
def Pq (o:Option (List UInt8×TWhere)) (C:Prop) (t:List UInt8):Prop:=∃ r,o=some r∧(r.2.Err=0→C∧r.1=t∧r.1.length≤60000)∧(C→t.length≤60000→r.2.Err=0)
theorem code_t {k:Int} {x:TUnit} {K:Int→List UInt8→Option (List UInt8×TWhere)} {C:Prop} {R:List UInt8} (hx:MzU x) (hk:-1≤k∧k≤10000000) (hK:∀ b:List UInt8,b.length≤60000→Pq (K (k+1) b) C (b++R)):∀ (n i:Nat) (b:List UInt8),b.length≤1000000000+60*i→i≤x.Code.length→x.Code.length - i<n→Pq (asm_print_l3 k x K n (i:Int) b) (OpsOk (x.Code.drop i)∧C) (b++codeT (x.Code.drop i)++R):=by
 obtain ⟨-,-,-,-,-,hc,hcr⟩:=hx
 intro n
 induction n with
 | zero=>intro i b _ _ h; omega
 | succ n ih =>
  intro i b hb hi hn
  unfold asm_print_l3
  by_cases c:i<x.Code.length
  ·have hr:=hcr _ (List.getElem_mem c)
   rw [drop_e c]
   generalize hq:x.Code[i]=q at hr
   rw [if_pos (by omega),at_ok c,hq,Option.bind_some]
   by_cases ho:1≤q.Op∧q.Op≤32
   ·obtain ⟨w,h,nn,aa,l,e1,e2,e3,e4,e5,e6,-,e7⟩:=word_e ho.1 ho.2
    have hA:=itoa_len hr.2.1
    have hN:=itoa_len hr.2.2
    rw [if_neg (by omega),decide_eq_false (by omega)]
    have hX:insX q=insT w h q:=by unfold insX; rw [e1]
    have key:asm_print_j3 k (i:Int) b q (asm_print_l3 k x K n) false=asm_print_l3 k x K n ((i+1:Nat):Int) (b++insT w h q):=by
     unfold asm_print_j3
     rw [if_neg (by decide),i64_ok (by omega),Option.bind_some,e3,Option.bind_some,e4,Option.bind_some,cat_t (by simp; omega),Option.bind_some]
     unfold asm_print_j4
     rw [e2,Option.bind_some]
     rcases e7 with ⟨rfl,rfl,rfl⟩ | ⟨rfl,rfl,rfl⟩ | ⟨rfl,rfl,rfl⟩
     ·rw [if_pos rfl,cat_t (by simp; omega),Option.bind_some,fmt_t hr.2.2,Option.bind_some,cat_t (by simp; omega),Option.bind_some,cat_t (by simp; omega),Option.bind_some,str_t (by simp; omega),Option.bind_some,i64_ok (by omega),Option.bind_some,show ((i:Int)+1)=((i+1:Nat):Int) by omega]
      congr 1
      simp [insT]
     ·rw [if_neg (by decide),if_pos rfl,line_t (by simpa using hr.2.1) (by simp) (by simp; omega),Option.bind_some,i64_ok (by omega),Option.bind_some,show ((i:Int)+1)=((i+1:Nat):Int) by omega]
      congr 1
      simp [insT,nums]
     ·rw [if_neg (by decide),if_neg (by decide),line_t (by simp) (by simp) (by simp; omega),Option.bind_some,i64_ok (by omega),Option.bind_some,show ((i:Int)+1)=((i+1:Nat):Int) by omega]
      congr 1
      simp [insT,nums]
    have hl:=insT_len (h:=h) hr e6
    rw [key]
    obtain ⟨r,h1,h2,h3⟩:=ih (i+1) (b++insT w h q) (by simp; omega) c (by omega)
    refine ⟨r,h1,fun h0=>?_,fun ⟨g1,g2⟩ hl=>h3 ⟨fun y hy=>g1 y (List.mem_cons_of_mem _ hy),g2⟩ (by simp [codeT,hX] at hl ⊢; omega)⟩
    obtain ⟨⟨g1,g2⟩,g3,g4⟩:=h2 h0
    refine ⟨⟨fun y hy=>?_,g2⟩,?_,g4⟩
    ·rcases List.mem_cons.1 hy with rfl | hy
     ·exact ho
     ·exact g1 y hy
    ·rw [g3]
     simp [codeT,hX]
   ·have bad:Pq (asm_print_j3 k (i:Int) b q (asm_print_l3 k x K n) true) (OpsOk (q::x.Code.drop (i+1))∧C) (b++codeT (q::x.Code.drop (i+1))++R):=⟨_,rfl,fun h=>absurd h (by simp),fun ⟨g,_⟩ _=>absurd (g q (List.mem_cons_self ..)) ho⟩
    by_cases c1:q.Op<1
    ·rw [if_pos c1]; exact bad
    ·rw [if_neg c1,decide_eq_true (by omega)]; exact bad
  ·rw [if_neg (by omega),List.drop_of_length_le (by omega)]
   unfold bd_len
   rw [Option.bind_some]
   by_cases c6:(60000:Int)<(b.length:Int)
   ·rw [if_pos c6]; exact ⟨_,rfl,fun h=>absurd h (by simp),fun _ hl=>by simp at hl; omega⟩
   ·rw [if_neg c6,i64_ok (by omega),Option.bind_some]
    obtain ⟨r,h1,h2,h3⟩:=hK b (by omega)
    refine ⟨r,h1,fun h0=>?_,fun ⟨_,g⟩ hl=>h3 g (by simp [codeT] at hl ⊢; omega)⟩
    obtain ⟨g1,g2,g3⟩:=h2 h0
    exact ⟨⟨fun y hy=>(List.not_mem_nil hy).elim,g1⟩,by rw [g2]; simp [codeT],g3⟩
theorem units_t {m:TModule} (hm:MzM m):∀ (n i:Nat) (b:List UInt8),b.length≤100000000→i≤m.Units.length→m.Units.length - i<n→Pq (asm_print_l2 m n (i:Int) b) (UnitsOk (m.Units.drop i)) (b++((m.Units.drop i).map unitT).flatten):=by
 obtain ⟨-,hul,hur⟩:=hm
 intro n
 induction n with
 | zero=>intro i b _ _ h; omega
 | succ n ih =>
  intro i b hb hi hn
  unfold asm_print_l2
  by_cases c:i<m.Units.length
  ·have hr:=hur _ (List.getElem_mem c)
   rw [drop_e c]
   generalize hq:m.Units[i]=q at hr
   rw [if_pos (by omega),at_ok c,hq,Option.bind_some]
   have hr':=hr
   obtain ⟨r0,r1,r2,r3,⟨hll,hlr⟩,hcl,hcr⟩:=hr'
   have hns:∀ y ∈ ([q.Params,q.Result,q.Takes]:List Int)++q.Locals,R64 y:=fun y hy=>by
    rcases List.mem_append.1 hy with h | h
    ·simp only [List.mem_cons,List.not_mem_nil,or_false] at h
     rcases h with rfl | rfl | rfl
     ·exact r1
     ·exact r2
     ·exact r3
    ·exact hlr y h
   have hnl:=nums_len hns
   simp only [List.length_append,List.length_cons,List.length_nil] at hnl
   have main:∀ w:List UInt8,w=kindW q.Kind→w.length≤4→(2≤q.Kind∧q.Kind≤4)→Pq ((app ([q.Params,q.Result,q.Takes]:List Int) q.Locals).bind (fun l755=>(pr_line w l755 b).bind fun r765=>asm_print_j2 (i:Int) q (asm_print_l2 m n) r765)) (UnitsOk (q::m.Units.drop (i+1))) (b++((q::m.Units.drop (i+1)).map unitT).flatten):=fun w hw hwl hk=>by
    rw [app_t (by simp; omega),Option.bind_some,line_t hns (by simp; omega) (by simp; omega),Option.bind_some]
    unfold asm_print_j2
    obtain ⟨r,h1,h2,h3⟩:=code_t (K:=asm_print_l2 m n) (k:=(i:Int)) (C:=UnitsOk (m.Units.drop (i+1))) (R:=((m.Units.drop (i+1)).map unitT).flatten) hr (by omega) (fun b hb=>by
     have:=ih (i+1) b (by omega) c (by omega)
     rw [show ((i:Int)+1)=((i+1:Nat):Int) by omega]
     exact this) (q.Code.length+1) 0 (b++w++nums ([q.Params,q.Result,q.Takes]++q.Locals)++[10]) (by simp at hnl ⊢; omega) (by omega) (by omega)
    refine ⟨r,h1,fun h0=>?_,fun g hl=>h3 ⟨fun y hy=>(g q (List.mem_cons_self ..)).2 y (by simpa using hy),fun u hu=>g u (List.mem_cons_of_mem _ hu)⟩ (by simp [unitT,← hw] at hl ⊢; omega)⟩
    obtain ⟨⟨g1,g2⟩,g3,g4⟩:=h2 h0
    rw [List.drop_zero] at g1 g3
    refine ⟨fun u hu=>?_,?_,g4⟩
    ·rcases List.mem_cons.1 hu with rfl | hu
     ·exact ⟨hk,g1⟩
     ·exact g2 u hu
    ·rw [g3,List.map_cons,List.flatten_cons,unitT,← hw]
     simp
   by_cases hk:2≤q.Kind∧q.Kind≤4
   ·rw [if_neg (by omega),decide_eq_false (by omega)]
    unfold asm_print_j1
    rw [if_neg (by decide),i64_ok (by omega),Option.bind_some]
    have h3:q.Kind=2∨q.Kind=3∨q.Kind=4:=by omega
    have hk':=hk
    rcases h3 with h | h | h
    ·rw [h]; exact main [102,110] (by rw [h]; rfl) (by decide) hk
    ·rw [h]; exact main [103,101,110] (by rw [h]; rfl) (by decide) hk
    ·rw [h]; exact main [116,97,115,107] (by rw [h]; rfl) (by decide) hk
   ·have bad:Pq (asm_print_j1 (i:Int) b q (asm_print_l2 m n) true) (UnitsOk (q::m.Units.drop (i+1))) (b++((q::m.Units.drop (i+1)).map unitT).flatten):=⟨_,rfl,fun h=>absurd h (by simp),fun g _=>absurd (g q (List.mem_cons_self ..)).1 hk⟩
    by_cases c2:q.Kind<2
    ·rw [if_pos c2]; exact bad
    ·rw [if_neg c2,decide_eq_true (by omega)]; exact bad
  ·rw [if_neg (by omega),List.drop_of_length_le (by omega)]
   unfold bd_len
   rw [Option.bind_some]
   by_cases c6:(60000:Int)<(b.length:Int)
   ·rw [if_pos c6]; exact ⟨_,rfl,fun h=>absurd h (by simp),fun _ hl=>by simp at hl; omega⟩
   ·rw [if_neg c6]
    exact ⟨_,rfl,fun _=>⟨fun u hu=>(List.not_mem_nil hu).elim,by simp,by show b.length≤_; omega⟩,fun _ _=>rfl⟩
theorem print_t {m:TModule} (hm:MzM m):Pq (asm_print m) (UnitsOk m.Units) (modT m):=by
 have key:∀ (n i:Nat) (b:List UInt8),b.length≤50*i→i≤m.Boxes.length→m.Boxes.length - i<n→Pq (asm_print_l1 m n (i:Int) b) (UnitsOk m.Units) (b++((m.Boxes.drop i).map boxT).flatten++(m.Units.map unitT).flatten):=by
  intro n
  induction n with
  | zero=>intro i b _ _ h; omega
  | succ n ih =>
   intro i b hb hi hn
   unfold asm_print_l1
   have hbl:=hm.1.1
   by_cases c:i<m.Boxes.length
   ·obtain ⟨h1,h2⟩:=hm.1.2 _ (List.getElem_mem c)
    have l1:=itoa_len h1
    have l2:=itoa_len h2
    rw [if_pos (by omega),at_ok c,Option.bind_some,line_t (by simp [h1,h2]) (by simp) (by simp; omega),Option.bind_some,i64_ok (by omega),Option.bind_some,show ((i:Int)+1)=((i+1:Nat):Int) by omega]
    have:=ih (i+1) (b++[98,111,120]++nums [m.Boxes[i].Typ,m.Boxes[i].Cap]++[10]) (by simp [nums]; omega) c (by omega)
    rw [drop_e c,List.map_cons,List.flatten_cons,boxT]
    simpa using this
   ·rw [if_neg (by omega),List.drop_of_length_le (by omega)]
    have:=units_t hm (m.Units.length+1) 0 b (by omega) (by omega) (by omega)
    simpa using this
 have:=key (m.Boxes.length+1) 0 [] (by simp) (by omega) (by omega)
 simpa [modT,asm_print] using this
theorem inv0:Inv 0 [] []:=⟨by simp,by simp,by simp⟩
end Go.Y
namespace Go.Y
open Go.Wk Go.Xt
theorem it_ge {v:Int}:∀ c ∈ Lib.itoa v,45≤c.toNat:=by
 intro c hc
 unfold Lib.itoa at hc
 split at hc
 ·rcases List.mem_cons.1 hc with rfl | hc
  ·decide
  ·have:=dec_dig _ c hc; omega
 ·have:=dec_dig _ c hc; omega
theorem it_no {v:Int}:(32:UInt8) ∉ Lib.itoa v∧(10:UInt8) ∉ Lib.itoa v :=
 ⟨fun h=>absurd (it_ge _ h) (by decide),fun h=>absurd (it_ge _ h) (by decide)⟩
theorem nums_no:∀ (ns:List Int),(10:UInt8) ∉ nums ns
 | [],h=>by simp [nums] at h
 | n::ns,h=>by
  rw [nums_cons,List.cons_append] at h
  rcases List.mem_cons.1 h with h | h
  ·exact absurd h (by decide)
  ·rcases List.mem_append.1 h with h | h
   ·exact it_no.2 h
   ·exact nums_no ns h
theorem wds_nums:∀ (ns:List Int) (w:List UInt8),32 ∉ w→wds (w++nums ns)=w::ns.map Lib.itoa
 | [],w,h=>by rw [nums_nil,List.append_nil,wds_no h]; rfl
 | n::ns,w,h=>by rw [nums_cons,List.cons_append,wds_yes _ h,wds_nums ns _ it_no.1]; rfl
theorem numbers_f {ns:List Int} (h:∀ n ∈ ns,R64 n) (hl:ns.length≤60001):∀ (n i:Nat) (acc:List Int),i≤ns.length→ns.length - i<n→acc.length=i→acc++ns.drop i=ns→asm_numbers_l1 (ns.map Lib.itoa) n (i:Int) acc=some (ns,true):=by
 intro n
 induction n with
 | zero=>intro i acc _ h; omega
 | succ n ih =>
  intro i acc hi hn ha he
  unfold asm_numbers_l1
  by_cases c:i<ns.length
  ·rw [if_pos (by simpa using c),at_t (x:=Lib.itoa ns[i]) (by simp [c]),Option.bind_some,anum_itoa (h _ (List.getElem_mem c)),Option.bind_some,if_pos rfl,app_t (by simp; omega),Option.bind_some,i64_ok (by omega),Option.bind_some]
   refine ih (i+1) (acc++[ns[i]]) c (by omega) (by simp [ha]) ?_
   rw [drop_e c] at he
   simpa using he
  ·rw [if_neg (by simp; omega)]
   rw [List.drop_of_length_le (by omega),List.append_nil] at he
   rw [he]
theorem idx_all:∀ k:Nat,k<32→s_idx MN ((MN[k]?).getD [])=some (k:Int):=by decide +kernel
theorem mn_idx {k:Nat} {w:List UInt8} (hk:k<32) (h:MN[k]?=some w):s_idx MN w=some (k:Int):=by
 have:=idx_all k hk
 rw [h] at this; exact this
def bareI (i:TInstr):TInstr:=match r13_word i.Op with
 | some (_,h)=>⟨i.Op,if h=1 then i.A else 0,if h=2 then i.N else 0⟩
 | none=>i
def bareU (u:TUnit):TUnit:={ u with Code:=u.Code.map bareI }
theorem j1_two {x y:List UInt8} {op:Int} {n a:Bool} (h:asm_has op=some (n,a)) (h0:op≠0) (ho:n=true∨a=true):asm_instr_j1 [x,y] op=(asm_number y).bind fun r=>some (if n=true then ⟨op,0,r.1⟩ else ⟨op,r.1,0⟩,r.2):=by
 unfold asm_instr_j1
 rw [h,Option.bind_some]
 have key:asm_instr_j3 [x,y] op (n,a) 2=(asm_number y).bind fun r=>some (if n=true then ⟨op,0,r.1⟩ else ⟨op,r.1,0⟩,r.2):=by
  unfold asm_instr_j3
  rw [if_neg h0]
  unfold asm_instr_j4
  rw [if_neg (by simp),if_neg (by decide),show at_ [x,y] 1=some y by rfl,Option.bind_some]
  congr 1
  funext r
  cases n <;> rfl
 cases n with
 | true=>exact key
 | false =>
  rcases ho with ho | ho
  ·cases ho
  ·subst ho; exact key
theorem j1_one {x:List UInt8} {op:Int} (h:asm_has op=some (false,false)) (h0:op≠0):asm_instr_j1 [x] op=some (⟨op,0,0⟩,true):=by
 unfold asm_instr_j1
 rw [h,Option.bind_some,if_neg (by decide)]
 unfold asm_instr_j2
 rw [if_neg (by decide)]
 unfold asm_instr_j3
 rw [if_neg h0]
 unfold asm_instr_j4
 rw [if_neg (by simp),if_pos rfl]
theorem instr_go {t x:List UInt8} {ws:List (List UInt8)} {k:Int} (ht:t.length≤60000) (hw:wds t=x::ws) (hx:s_idx MN x=some k) (hk:-1≤k∧k≤32):asm_instr t=asm_instr_j1 (x::ws) (k+1):=by
 unfold asm_instr
 rw [ssplit_e ht,hw,Option.bind_some,show at_ (x::ws) 0=some x by simp [at_],Option.bind_some,mn_e,Option.bind_some,hx,Option.bind_some,i64_ok (by omega),Option.bind_some]
theorem instr_f {i:TInstr} (hi:MzC i) (h0:1≤i.Op) (h1:i.Op≤32):∃ t,insX i=9::t++[10]∧10 ∉ t∧t.length≤60∧asm_instr t=some (bareI i,true):=by
 obtain ⟨w,h,n,a,l,e1,e2,e3,e4,e5,e6,⟨e7,e8⟩,e9⟩:=word_e h0 h1
 rw [mn_e] at e3
 obtain rfl:=Option.some.inj e3
 obtain ⟨k,hk⟩:∃ k:Nat,i.Op=(k:Int)+1:=⟨(i.Op - 1).toNat,by omega⟩
 have hkl:k<MN.length:=by rw [mn_len]; omega
 have hMN:MN[k]?=some w:=by
  rw [hk,show ((k:Int)+1 - 1)=(k:Int) by omega,at_ok hkl] at e4
  rw [List.getElem?_eq_getElem hkl,e4]
 have hx:=mn_idx (by omega) hMN
 have hA:=itoa_len hi.2.1
 have hN:=itoa_len hi.2.2
 have hX:insX i=insT w h i:=by unfold insX; rw [e1]
 have hB:bareI i=⟨i.Op,if h=1 then i.A else 0,if h=2 then i.N else 0⟩:=by unfold bareI; rw [e1]
 rw [hX,hB]
 rcases e9 with ⟨rfl,rfl,rfl⟩ | ⟨rfl,rfl,rfl⟩ | ⟨rfl,rfl,rfl⟩
 ·refine ⟨w++nums [i.N],by simp [insT,nums],fun hm=>?_,by simp [nums]; omega,?_⟩
  ·rcases List.mem_append.1 hm with hm | hm
   ·exact e8 hm
   ·exact nums_no _ hm
  ·rw [instr_go (by simp [nums]; omega) (wds_nums [i.N] w e7) hx (by omega),← hk]
   show asm_instr_j1 [w,Lib.itoa i.N] i.Op=_
   rw [j1_two e2 (by omega) (.inl rfl),anum_itoa hi.2.2]
   rfl
 ·refine ⟨w++nums [i.A],by simp [insT,nums],fun hm=>?_,by simp [nums]; omega,?_⟩
  ·rcases List.mem_append.1 hm with hm | hm
   ·exact e8 hm
   ·exact nums_no _ hm
  ·rw [instr_go (by simp [nums]; omega) (wds_nums [i.A] w e7) hx (by omega),← hk]
   show asm_instr_j1 [w,Lib.itoa i.A] i.Op=_
   rw [j1_two e2 (by omega) (.inr rfl),anum_itoa hi.2.1]
   rfl
 ·refine ⟨w++nums [],by simp [insT,nums],fun hm=>?_,by simp [nums]; omega,?_⟩
  ·rcases List.mem_append.1 hm with hm | hm
   ·exact e8 hm
   ·exact nums_no _ hm
  ·rw [instr_go (by simp [nums]; omega) (wds_nums [] w e7) hx (by omega),← hk]
   show asm_instr_j1 [w] i.Op=_
   rw [j1_one e2 (by omega)]
   rfl
def headT (u:TUnit):List UInt8:=kindW u.Kind++nums ([u.Params,u.Result,u.Takes]++u.Locals)
theorem kind_idx {k:Int} (h:2≤k∧k≤4):s_idx UN (kindW k)=some (k - 2)∧kindW k≠[98,111,120]∧32 ∉ kindW k∧10 ∉ kindW k∧(kindW k).length≤4∧Lib.hasPrefix (kindW k) [9]=false∧kindW k≠[]:=by
 have:k=2∨k=3∨k=4:=by omega
 rcases this with rfl | rfl | rfl <;> decide +kernel
theorem head_go {bs:List TBi} {us:List TUnit} {t x:List UInt8} {ws:List (List UInt8)} (ht:t.length≤60000) (hw:wds t=x::ws):asm_head bs us t=(asm_numbers ws).bind fun r32 =>
  if r32.2=true then
   if x=[98,111,120] then
    if (r32.1.length:Int)≠2 then asm_head_j1 bs us r32 true else asm_head_j1 bs us r32 (decide ((0:Int)<(us.length:Int)))
   else (s_idx UN x).bind fun r96=>asm_head_j3 bs us r32 r96
  else some (false,bs,us):=by
 have hln:=wds_len t
 rw [hw] at hln
 simp only [List.length_cons] at hln
 unfold asm_head
 rw [ssplit_e ht,hw,Option.bind_some]
 have hcut:cut (x::ws) 1 ((x::ws).length:Int)=some ws:=by
  unfold cut
  rw [if_pos ⟨by omega,by simp; omega,by simp⟩]
  simp
 have hat:at_ (x::ws) 0=some x:=by simp [at_]
 rw [hcut,Option.bind_some]
 simp only [hat,Option.bind_some,show asm_units=some UN by rfl]
theorem box_f {bs:List TBi} {b:TBi} (hb:MzB b) (hl:bs.length≤1048576):asm_head bs [] ([98,111,120]++nums [b.Typ,b.Cap])=some (true,bs++[b],[]):=by
 have hR:∀ n ∈ [b.Typ,b.Cap],R64 n:=by simp [hb.1,hb.2]
 have hn:=nums_len hR
 rw [head_go (by simp at hn ⊢; omega) (wds_nums _ _ (by decide))]
 unfold asm_numbers
 have:=numbers_f hR (by simp) (([b.Typ,b.Cap].map Lib.itoa).length+1) 0 [] (by simp) (by simp) rfl rfl
 rw [show ((0:Nat):Int)=0 by rfl] at this
 rw [this,Option.bind_some,if_pos rfl,if_pos rfl,if_neg (by simp),decide_eq_false (by simp)]
 unfold asm_head_j1
 rw [if_neg (by decide)]
 show (app bs [b]).bind _=_
 rw [app_t (by simp; omega)]
 rfl
theorem unit_f {bs:List TBi} {us:List TUnit} {u:TUnit} (hu:MzU u) (hk:2≤u.Kind∧u.Kind≤4) (hl:us.length≤1048576) (ht:(headT u).length≤60000):asm_head bs us (headT u)=some (true,bs,us++[{ u with Code:=[] }]):=by
 obtain ⟨r0,r1,r2,r3,⟨hll,hlr⟩,-⟩:=hu
 obtain ⟨k1,k2,k3,k4,k5,-⟩:=kind_idx hk
 have hns:∀ y ∈ ([u.Params,u.Result,u.Takes]:List Int)++u.Locals,R64 y:=fun y hy=>by
  rcases List.mem_append.1 hy with h | h
  ·simp only [List.mem_cons,List.not_mem_nil,or_false] at h
   rcases h with rfl | rfl | rfl
   ·exact r1
   ·exact r2
   ·exact r3
  ·exact hlr y h
 have hge:∀ l:List Int,(∀ y ∈ l,R64 y)→l.length≤(nums l).length:=by
  intro l
  induction l with
  | nil=>intro _; simp
  | cons a l ih =>
   intro h
   have:=ih fun y hy=>h y (by simp [hy])
   rw [nums_cons]
   simp; omega
 have hg:=hge _ hns
 have hlen:(([u.Params,u.Result,u.Takes]:List Int)++u.Locals).length≤60000:=by
  unfold headT at ht
  rw [List.length_append] at ht
  omega
 unfold headT at ht ⊢
 rw [head_go ht (wds_nums _ _ k3)]
 unfold asm_numbers
 have:=numbers_f hns (by omega) (((([u.Params,u.Result,u.Takes]:List Int)++u.Locals).map Lib.itoa).length+1) 0 [] (by simp) (by simp) rfl rfl
 rw [show ((0:Nat):Int)=0 by rfl] at this
 rw [this,Option.bind_some,if_pos rfl,if_neg k2,k1,Option.bind_some]
 unfold asm_head_j3
 rw [if_neg (by omega),decide_eq_false (by simp; omega)]
 unfold asm_head_j4
 rw [if_neg (by decide),i64_ok (by omega),Option.bind_some]
 have hc:cut (([u.Params,u.Result,u.Takes]:List Int)++u.Locals) 3 ((([u.Params,u.Result,u.Takes]:List Int)++u.Locals).length:Int)=some u.Locals:=by
  unfold cut
  rw [if_pos ⟨by omega,by simp; omega,by simp⟩]
  congr 1
  rw [List.take_of_length_le (by simp; omega)]
  rfl
 have a0:at_ (([u.Params,u.Result,u.Takes]:List Int)++u.Locals) 0=some u.Params:=at_t (k:=0) rfl
 have a1:at_ (([u.Params,u.Result,u.Takes]:List Int)++u.Locals) 1=some u.Result:=at_t (k:=1) rfl
 have a2:at_ (([u.Params,u.Result,u.Takes]:List Int)++u.Locals) 2=some u.Takes:=at_t (k:=2) rfl
 simp only [a0,a1,a2,hc,Option.bind_some]
 rw [app_t (by simp; omega),Option.bind_some,show 2+(u.Kind - 2)=u.Kind by omega]
 rfl
theorem line_ins {bs:List TBi} {us:List TUnit} {t:List UInt8}:line bs us (9::t)=(asm_instr t).bind (putI bs us):=by
 unfold line s_pre
 rw [Option.bind_some,if_pos (by simp [Lib.hasPrefix])]
 have htr:Lib.trimPrefix (9::t) [9]=t:=by simp [Lib.trimPrefix,Lib.hasPrefix]
 rw [htr]; rfl
theorem line_head {bs:List TBi} {us:List TUnit} {t:List UInt8} (h:Lib.hasPrefix t [9]=false):line bs us t=asm_head bs us t:=by
 unfold line s_pre
 rw [Option.bind_some,if_neg (by simp [h])]
theorem putI_app {bs:List TBi} {init:List TUnit} {x:TUnit} {i:TInstr} (hl:x.Code.length≤100000000):putI bs (init++[x]) (i,true)=some (true,bs,init++[{ x with Code:=x.Code++[i] }]):=by
 unfold putI
 rw [if_pos ⟨rfl,by simp⟩]
 have e1:at_ (init++[x]) (((init++[x]).length:Int) - 1)=some x:=by
  rw [show (((init++[x]).length:Int) - 1)=(init.length:Int) by simp,at_ok (by simp)]
  simp
 rw [e1,Option.bind_some,app_t (by simp; omega),Option.bind_some,uset_app]
 rfl
end Go.Y
namespace Go.Y
open Go.Wk Go.Xt
theorem word_any (op:Int):∃ w h,r13_word op=some (w,h):=by
 by_cases h:1≤op∧op≤32
 ·obtain ⟨w,h,-,-,-,e,-⟩:=word_e h.1 h.2
  exact ⟨w,h,e⟩
 ·exact ⟨_,_,word_no h⟩
theorem step_f {a b:List UInt8} {bs bs':List TBi} {us us':List TUnit} {n k:Nat} (h10:10 ∉ a) (hl:(a++10::b).length≤60000) (hk:k≤100000000) (hu:us.length≤100000000) (h:line bs us a=some (true,bs',us')):asm_read_l1 (n+1) (a++10::b) (k:Int) us bs=asm_read_l1 n b ((k+1:Nat):Int) us' bs':=by
 rw [read_step _ _ _ _ _ (by omega),if_pos (by simp),cut_some hl,cut_yes h10,Option.bind_some,if_pos rfl]
 show (line bs us a).bind _=_
 rw [h,Option.bind_some,if_pos rfl,i64_ok (by omega),Option.bind_some]
 rfl
theorem code_f {bs:List TBi} {init:List TUnit} {R:List UInt8} (hi:init.length≤1048576):∀ (c:List TInstr) (x:TUnit) (n k:Nat),OpsOk c→(∀ i ∈ c,MzC i)→(codeT c++R).length≤60000→(codeT c++R).length<n→k+(codeT c++R).length≤60000→x.Code.length+c.length≤1048576 →
  ∃ n' k',R.length<n'∧k'+R.length≤60000∧asm_read_l1 n (codeT c++R) (k:Int) (init++[x]) bs=asm_read_l1 n' R ((k':Nat):Int) (init++[{ x with Code:=x.Code++c.map bareI }]) bs:=by
 intro c
 induction c with
 | nil=>intro x n k _ _ h1 h2 h3 h4; exact ⟨n,k,by simpa [codeT] using h2,by simpa [codeT] using h3,by simp [codeT]⟩
 | cons i c ih =>
  intro x n k ho hr h1 h2 h3 h4
  obtain ⟨hi0,hi1⟩:=ho i (by simp)
  obtain ⟨t,e1,e2,e3,e4⟩:=instr_f (hr i (by simp)) hi0 hi1
  have eq:codeT (i::c)++R=(9::t)++10::(codeT c++R):=by
   show ((i::c).map insX).flatten++R=_
   rw [List.map_cons,List.flatten_cons,e1]
   simp [codeT]
  rw [eq] at h1 h2 h3 ⊢
  simp only [List.length_cons] at h4
  obtain ⟨n,rfl⟩:∃ q,n=q+1:=⟨n - 1,by omega⟩
  have hline:line bs (init++[x]) (9::t)=some (true,bs,init++[{ x with Code:=x.Code++[bareI i] }]):=by
   rw [line_ins,e4,Option.bind_some,putI_app (by omega)]
  have h10:(10:UInt8) ∉ 9::t:=fun h=>by
   rcases List.mem_cons.1 h with h | h
   ·exact absurd h (by decide)
   ·exact e2 h
  rw [step_f h10 h1 (by omega) (by simp; omega) hline]
  simp only [List.length_append,List.length_cons] at h1 h2 h3
  obtain ⟨n',k',g1,g2,g3⟩:=ih { x with Code:=x.Code++[bareI i] } n (k+1) (fun y hy=>ho y (by simp [hy])) (fun y hy=>hr y (by simp [hy])) (by simp; omega) (by simp; omega) (by simp; omega) (by simp; omega)
  refine ⟨n',k',g1,g2,g3.trans ?_⟩
  simp
theorem units_f {bs:List TBi}:∀ (us dn:List TUnit) (n k:Nat),UnitsOk us→(∀ u ∈ us,MzU u)→dn.length+us.length≤1048576→((us.map unitT).flatten).length≤60000→((us.map unitT).flatten).length<n→k+((us.map unitT).flatten).length≤60000 →
  asm_read_l1 n ((us.map unitT).flatten) (k:Int) dn bs=some (⟨bs,dn++us.map bareU⟩,⟨0,0⟩):=by
 intro us
 induction us with
 | nil =>
  intro dn n k _ _ h0 h1 h2 h3
  obtain ⟨n,rfl⟩:∃ q,n=q+1:=⟨n - 1,by omega⟩
  simp only [List.length_nil] at h0
  rw [read_step _ _ _ _ _ (by omega),if_neg (by simp)]
  simp
 | cons u us ih =>
  intro dn n k ho hr h0 h1 h2 h3
  obtain ⟨hk,hops⟩:=ho u (by simp)
  have hu:=hr u (by simp)
  obtain ⟨k1,k2,k3,k4,k5,k6,k7⟩:=kind_idx hk
  have eq:((u::us).map unitT).flatten=headT u++10::(codeT u.Code++(us.map unitT).flatten):=by
   rw [List.map_cons,List.flatten_cons,unitT,headT]
   simp
  rw [eq] at h1 h2 h3 ⊢
  simp only [List.length_cons] at h0
  obtain ⟨n,rfl⟩:∃ q,n=q+1:=⟨n - 1,by omega⟩
  have hp:Lib.hasPrefix (headT u) [9]=false:=by
   unfold headT
   cases hw:kindW u.Kind with
   | nil=>exact absurd hw k7
   | cons a r =>
    rw [hw] at k6
    simp [Lib.hasPrefix] at k6 ⊢
    exact k6
  have h10:(10:UInt8) ∉ headT u:=fun h=>by
   rcases List.mem_append.1 h with h | h
   ·exact k4 h
   ·exact nums_no _ h
  have hhl:(headT u).length≤60000:=by rw [List.length_append] at h1; omega
  have hline:line bs dn (headT u)=some (true,bs,dn++[{ u with Code:=[] }]):=by
   rw [line_head hp,unit_f hu hk (by omega) hhl]
  rw [step_f h10 h1 (by omega) (by omega) hline]
  simp only [List.length_append,List.length_cons] at h1 h2 h3
  obtain ⟨n',k',g1,g2,g3⟩:=code_f (bs:=bs) (init:=dn) (R:=(us.map unitT).flatten) (by omega) u.Code { u with Code:=[] } n (k+1) hops hu.2.2.2.2.2.2 (by simp only [List.length_append]; omega) (by simp only [List.length_append]; omega) (by simp only [List.length_append]; omega) (by simpa using hu.2.2.2.2.2.1)
  rw [g3,ih _ n' k' (fun y hy=>ho y (by simp [hy])) (fun y hy=>hr y (by simp [hy])) (by simp; omega) (by omega) g1 g2]
  simp [bareU]
theorem boxes_f {us:List TUnit} (ho:UnitsOk us) (hr:∀ u ∈ us,MzU u) (hl:us.length≤1048576):∀ (bs dn:List TBi) (n k:Nat),(∀ b ∈ bs,MzB b)→dn.length+bs.length≤1048576→((bs.map boxT).flatten++(us.map unitT).flatten).length≤60000→((bs.map boxT).flatten++(us.map unitT).flatten).length<n→k+((bs.map boxT).flatten++(us.map unitT).flatten).length≤60000 →
  asm_read_l1 n ((bs.map boxT).flatten++(us.map unitT).flatten) (k:Int) [] dn=some (⟨dn++bs,us.map bareU⟩,⟨0,0⟩):=by
 intro bs
 induction bs with
 | nil =>
  intro dn n k _ h0 h1 h2 h3
  simp only [List.map_nil,List.flatten_nil,List.nil_append,List.append_nil] at h1 h2 h3 ⊢
  rw [units_f us [] n k ho hr (by simpa using hl) h1 h2 h3]
  simp
 | cons b bs ih =>
  intro dn n k hb h0 h1 h2 h3
  have eq:((b::bs).map boxT).flatten++(us.map unitT).flatten=([98,111,120]++nums [b.Typ,b.Cap])++10::((bs.map boxT).flatten++(us.map unitT).flatten):=by
   rw [List.map_cons,List.flatten_cons,boxT]
   simp
  rw [eq] at h1 h2 h3 ⊢
  simp only [List.length_cons] at h0
  obtain ⟨n,rfl⟩:∃ q,n=q+1:=⟨n - 1,by omega⟩
  have h10:(10:UInt8) ∉ [98,111,120]++nums [b.Typ,b.Cap]:=fun h=>by
   rcases List.mem_append.1 h with h | h
   ·exact absurd h (by decide)
   ·exact nums_no _ h
  have hline:line dn [] ([98,111,120]++nums [b.Typ,b.Cap])=some (true,dn++[b],[]):=by
   rw [line_head (by simp [Lib.hasPrefix,List.isPrefixOf]),box_f (hb b (by simp)) (by omega)]
  rw [step_f h10 h1 (by omega) (by simp) hline]
  simp only [List.length_append,List.length_cons] at h1 h2 h3
  rw [ih (dn++[b]) n (k+1) (fun y hy=>hb y (by simp [hy])) (by simp; omega) (by simp only [List.length_append]; omega) (by simp only [List.length_append]; omega) (by simp only [List.length_append]; omega)]
  simp
theorem read_print {fu:Nat} (hf:60001≤fu) {m:TModule} (hm:MzM m) (ho:UnitsOk m.Units) (hl:(modT m).length≤60000):asm_read fu (modT m)=some (⟨m.Boxes,m.Units.map bareU⟩,⟨0,0⟩):=by
 unfold asm_read
 rw [if_neg (by omega)]
 have:=boxes_f ho hm.2.2 hm.2.1 m.Boxes [] fu 0 hm.1.2 (by simpa using hm.1.1) hl (by unfold modT at hl; omega) (by unfold modT at hl; omega)
 simpa [modT] using this
theorem alive_40:asm_alive 40=some true:=by decide +kernel
theorem alive_true (fu:Nat) (hfu:60001≤fu):asm_alive fu=some true:=by
 have h40:=alive_40
 unfold asm_alive at h40 ⊢
 rw [← h40]
 congr 1
 unfold asm_read
 rw [if_neg (by decide),if_neg (by decide)]
 obtain ⟨m,f,e1,e2,e3,e4⟩:=read_some 40 tx_0 0 [] [] (by decide) inv0 (by decide)
 have e1':=e1
 have:=e4 fu (by omega)
 rw [show ((0:Nat):Int)=0 from rfl] at this e1'
 rw [this,e1']
end Go.Y
namespace Go.Y
open Go.Wk Go.Xt
def hasA (op:Int):Prop:=op=2∨op=3∨op=4∨op=21∨op=22∨op=23∨op=26∨op=27∨op=29
instance (op:Int):Decidable (hasA op):=by unfold hasA; infer_instance
structure Less (b:TInstr→TInstr):Prop where
 op:∀ i,(b i).Op=i.Op
 a:∀ i,hasA i.Op→(b i).A=i.A
def lsU (b:TInstr→TInstr) (u:TUnit):TUnit:={ u with Code:=u.Code.map b }
def lsM (b:TInstr→TInstr) (m:TModule):TModule:=⟨m.Boxes,m.Units.map (lsU b)⟩
abbrev ck (m:TModule):TVc:=⟨some m⟩
theorem at_map {α β:Type} (f:α→β) (l:List α) (k:Int):at_ (l.map f) k=(at_ l k).map f:=by
 unfold at_; split <;> simp
section
variable {b:TInstr→TInstr}
theorem vf_unit_b (m:TModule) (p k:Int):vf_unit (ck (lsM b m)) p k=vf_unit (ck m) p k:=by
 unfold vf_unit
 simp only [Option.bind_some,lsM,List.length_map,at_map,Option.bind_map]
 rfl
theorem vf_handle_b (m:TModule) (p:Int):vf_handle (ck (lsM b m)) p=vf_handle (ck m) p:=by
 unfold vf_handle; simp only [vf_unit_b]
theorem vf_instr_b (hb:Less b) (m:TModule) (u:TUnit) (i:TInstr):vf_instr (ck (lsM b m)) (lsU b u) (b i)=vf_instr (ck m) u i:=by
 by_cases hA:hasA i.Op
 ·unfold vf_instr vf_instr_j2 vf_instr_j3 vf_instr_j4
  rw [hb.op,hb.a i hA]
  have e1:(lsU b u).Locals=u.Locals:=rfl
  have e2:(lsU b u).Code.length=u.Code.length:=by simp [lsU]
  have e3:(lsM b m).Boxes=m.Boxes:=rfl
  simp only [vf_unit_b,e1,e2,e3,Option.bind_some]
 ·unfold hasA at hA
  simp only [not_or] at hA
  obtain ⟨h1,h2,h3,h4,h5,h6,h7,h8,h9⟩:=hA
  unfold vf_instr vf_instr_j2 vf_instr_j3 vf_instr_j4
  rw [hb.op]
  simp only [h1,h2,h3,h4,h5,h6,h7,h8,h9,if_false,decide_false,Bool.false_eq_true]
theorem vf_head1_b (m:TModule) (t:Int):vf_head1 t (some (ck (lsM b m)))=vf_head1 t (some (ck m)):=by
 unfold vf_head1; simp only [Option.bind_some,vf_handle_b]
theorem vf_head_b (m:TModule) (u:TUnit):vf_head (ck (lsM b m)) (lsU b u)=vf_head (ck m) u:=by
 have e:(fun x_=>vf_head1 x_ (some (ck (lsM b m))))=fun x_=>vf_head1 x_ (some (ck m)):=funext fun t=>vf_head1_b m t
 have e1:(lsU b u).Locals=u.Locals:=rfl
 have e2:(lsU b u).Code.length=u.Code.length:=by simp [lsU]
 have e3:(lsU b u).Kind=u.Kind:=rfl
 have e4:(lsU b u).Params=u.Params:=rfl
 have e5:(lsU b u).Result=u.Result:=rfl
 have e6:(lsU b u).Takes=u.Takes:=rfl
 have h4:∀ c,vf_head_j4 (ck (lsM b m)) (lsU b u) c=vf_head_j4 (ck m) u c:=fun c=>by unfold vf_head_j4; rw [e1,e]
 have h3:∀ c,vf_head_j3 (ck (lsM b m)) (lsU b u) c=vf_head_j3 (ck m) u c:=fun c=>by unfold vf_head_j3; rw [e3,e5,e6]; simp only [h4]
 have h2:∀ c,vf_head_j2 (ck (lsM b m)) (lsU b u) c=vf_head_j2 (ck m) u c:=fun c=>by unfold vf_head_j2; rw [e2]; simp only [h3]
 have h1:∀ c,vf_head_j1 (ck (lsM b m)) (lsU b u) c=vf_head_j1 (ck m) u c:=fun c=>by unfold vf_head_j1; rw [e1,e3,e4]; simp only [h2]
 unfold vf_head
 rw [e3]
 simp only [h1]
theorem form_l3_b (hb:Less b) (m:TModule) (c a:Int) (u:TUnit) {K K':Int→Int→Option TWhere} (hK:∀ x y,K x y=K' x y):∀ (n:Nat) (i:Int),vf_form_l3 (ck (lsM b m)) c a (lsU b u) K n i=vf_form_l3 (ck m) c a u K' n i:=by
 intro n
 induction n with
 | zero=>intro i; rfl
 | succ n ih =>
  intro i
  unfold vf_form_l3
  have e:(lsU b u).Code=u.Code.map b:=rfl
  have e2:(lsU b u).Kind=u.Kind:=rfl
  simp only [e,e2,List.length_map,at_map,Option.bind_map,Function.comp_def,vf_instr_b hb,ih,hK]
theorem form_l2_b (hb:Less b) (m:TModule):∀ (n:Nat) (c i:Int),vf_form_l2 (ck (lsM b m)) (lsM b m) n c i=vf_form_l2 (ck m) m n c i:=by
 intro n
 induction n with
 | zero=>intro c i; rfl
 | succ n ih =>
  intro c i
  unfold vf_form_l2
  have e:(lsM b m).Units=m.Units.map (lsU b):=rfl
  have e3:∀ u,(lsU b u).Code.length=u.Code.length:=fun u=>by simp [lsU]
  have e4:∀ (u:TUnit) (c i:Int),vf_form_l3 (ck (lsM b m)) c i (lsU b u) (vf_form_l2 (ck (lsM b m)) (lsM b m) n) (u.Code.length+1) 0=vf_form_l3 (ck m) c i u (vf_form_l2 (ck m) m n) (u.Code.length+1) 0:=fun u c i=>form_l3_b hb m c i u ih _ _
  simp only [e,List.length_map,at_map,Option.bind_map,Function.comp_def,vf_head_b,e3,e4]
theorem form_l1_b (hb:Less b) (m:TModule):∀ (n:Nat) (i:Int),vf_form_l1 (ck (lsM b m)) (lsM b m) n i=vf_form_l1 (ck m) m n i:=by
 intro n
 induction n with
 | zero=>intro i; rfl
 | succ n ih =>
  intro i
  unfold vf_form_l1 vf_form_j2
  have e:(lsM b m).Boxes=m.Boxes:=rfl
  have e2:(lsM b m).Units.length=m.Units.length:=by simp [lsM]
  simp only [e,e2,ih,form_l2_b hb]
theorem vf_form_b (hb:Less b) (m:TModule):vf_form (ck (lsM b m))=vf_form (ck m):=by
 have e:(lsM b m).Boxes=m.Boxes:=rfl
 have e2:(lsM b m).Units.length=m.Units.length:=by simp [lsM]
 unfold vf_form vf_form_j1
 simp only [Option.bind_some,e,e2,form_l1_b hb]
theorem vf_to_b (m:TModule) (u:TUnit) (a:List (Int×TVs)) (td st:List Int) (hs:List Bool) (er p:Int):vf_to (ck (lsM b m)) (lsU b u) a td st hs er p=vf_to (ck m) u a td st hs er p:=by
 have e:(lsU b u).Code.length=u.Code.length:=by simp [lsU]
 unfold vf_to; simp only [e]
theorem vf_args_b (fu:Nat) (m:TModule) (st:List Int) (er p:Int):vf_args fu (ck (lsM b m)) st er p=(vf_args fu (ck m) st er p).map fun r=>(lsU b r.1,r.2):=by
 unfold vf_args
 have e:(lsM b m).Units=m.Units.map (lsU b):=rfl
 simp only [Option.bind_some,e,at_map,Option.bind_map,Function.comp_def,Option.map_bind]
 rfl
theorem vf_gen_b (m:TModule) (st:List Int) (er:Int):vf_gen (ck (lsM b m)) st er=(vf_gen (ck m) st er).map fun r=>(r.1.map (lsU b),r.2):=by
 unfold vf_gen
 have e:(lsM b m).Units=m.Units.map (lsU b):=rfl
 simp only [Option.bind_some,e,at_map,Option.bind_map,Function.comp_def,Option.map_bind,vf_handle_b]
 congr 1; funext r
 split
 ·rfl
 ·cases vf_handle (ck m) r.1 with
  | none=>rfl
  | some h =>
   simp only [Option.bind_some]
   split
   ·cases i64 (r.1 - 10) with
    | none=>rfl
    | some k=>simp only [Option.bind_some]; cases at_ m.Units k <;> rfl
   ·cases vf_fail r.2.2 9 <;> rfl
theorem vf_special_b (hb:Less b) (fu:Nat) (m:TModule) (u:TUnit) (a:List (Int×TVs)) (td st:List Int) (hs:List Bool) (er:Int) (i:TInstr):vf_special fu (ck (lsM b m)) (lsU b u) a td st hs er (b i)=vf_special fu (ck m) u a td st hs er i:=by
 have ek:(lsU b u).Kind=u.Kind:=rfl
 have er':(lsU b u).Result=u.Result:=rfl
 have et:(lsU b u).Takes=u.Takes:=rfl
 have eR:∀ u,(lsU b u).Result=u.Result:=fun _=>rfl
 have eT:∀ u,(lsU b u).Takes=u.Takes:=fun _=>rfl
 have eb:(lsM b m).Boxes=m.Boxes:=rfl
 have e2:∀ u,vf_special_j2 fu (lsU b u)=vf_special_j2 fu u:=fun _=>rfl
 have e6:∀ u,vf_special_j6 fu (lsU b u)=vf_special_j6 fu u:=fun _=>rfl
 by_cases hA:hasA i.Op
 ·unfold vf_special
  rw [hb.op,hb.a i hA]
  simp only [vf_args_b,vf_gen_b,Option.bind_map,Function.comp_def,Option.bind_some,ek,eR,eb,e2,e6,Option.isSome_map]
  unfold vf_special_j5
  simp only [eR,eT]
 ·unfold hasA at hA
  simp only [not_or] at hA
  obtain ⟨h1,h2,h3,h4,h5,h6,h7,h8,h9⟩:=hA
  unfold vf_special
  rw [hb.op]
  simp only [h1,h2,h3,h4,h5,h6,h7,h8,h9,if_false,vf_gen_b,Option.bind_map,Function.comp_def,ek,e2,e6,Option.isSome_map]
  unfold vf_special_j5
  simp only [eR,eT]
theorem vf_step_b (hb:Less b) (fu:Nat) (m:TModule) (u:TUnit) (a:List (Int×TVs)) (td st:List Int) (hs:List Bool) (er:Int) (i:TInstr):vf_step fu (ck (lsM b m)) (lsU b u) a td st hs er (b i)=vf_step fu (ck m) u a td st hs er i:=by
 have el:(lsU b u).Locals=u.Locals:=rfl
 by_cases hA:hasA i.Op
 ·unfold vf_step vf_step_j3 vf_step_j4 vf_step_j7 vf_step_j8 vf_step_j2
  rw [hb.op,hb.a i hA]
  simp only [el,vf_to_b,vf_special_b hb]
 ·unfold hasA at hA
  simp only [not_or] at hA
  obtain ⟨h1,h2,h3,h4,h5,h6,h7,h8,h9⟩:=hA
  unfold vf_step vf_step_j3 vf_step_j4 vf_step_j7 vf_step_j8 vf_step_j2
  rw [hb.op]
  simp only [h1,h2,h3,h4,h5,h6,h7,h8,h9,if_false,vf_special_b hb]
theorem code_l2_b (hb:Less b) (fu:Nat) (m:TModule) (k:Int) (u:TUnit):∀ (n:Nat) (er:Int) (hs:List Bool) (td st:List Int) (a:List (Int×TVs)),vf_code_l2 fu (ck (lsM b m)) k (lsU b u) n er hs td st a=vf_code_l2 fu (ck m) k u n er hs td st a:=by
 intro n
 induction n with
 | zero=>intros; rfl
 | succ n ih =>
  intro er hs td st a
  unfold vf_code_l2 vf_code_j1
  have e:(lsU b u).Code=u.Code.map b:=rfl
  simp only [e,at_map,Option.bind_map,Function.comp_def,vf_step_b hb,vf_to_b,ih]
theorem code_l1_b (hb:Less b) (fu:Nat) (m:TModule) (k:Int) (u:TUnit):∀ (n:Nat) (i:Int) (hs:List Bool),vf_code_l1 fu (ck (lsM b m)) k (lsU b u) n i hs=vf_code_l1 fu (ck m) k u n i hs:=by
 intro n
 induction n with
 | zero=>intros; rfl
 | succ n ih =>
  intro i hs
  unfold vf_code_l1
  have e:(lsU b u).Params=u.Params:=rfl
  simp only [e,ih,vf_to_b,code_l2_b hb]
theorem vf_code_b (hb:Less b) (fu:Nat) (m:TModule) (k:Int):vf_code fu (ck (lsM b m)) k=vf_code fu (ck m) k:=by
 unfold vf_code
 have e:(lsM b m).Units=m.Units.map (lsU b):=rfl
 have e1:∀ u,(lsU b u).Params=u.Params:=fun _=>rfl
 have e2:∀ u,(lsU b u).Locals=u.Locals:=fun _=>rfl
 simp only [Option.bind_some,e,at_map,Option.bind_map,Function.comp_def,code_l1_b hb,e1,e2]
theorem reach_l2_b (hb:Less b) (k:Int) (u:TUnit) {K K':Int→List Int→Option (List Int)} (hK:∀ x y,K x y=K' x y):∀ (n:Nat) (i:Int) (l:List Int),vf_reach_l2 k (lsU b u) K n i l=vf_reach_l2 k u K' n i l:=by
 intro n
 induction n with
 | zero=>intros; rfl
 | succ n ih =>
  intro i l
  unfold vf_reach_l2 vf_reach_j1
  have e:(lsU b u).Code=u.Code.map b:=rfl
  simp only [e,List.length_map,at_map,Option.bind_map,Function.comp_def,hb.op,ih,hK]
  split
  ·congr 1; funext x
   by_cases h1:x.Op=23
   ·rw [hb.a x (by unfold hasA; omega)]
   ·by_cases h2:x.Op=29
    ·rw [hb.a x (by unfold hasA; omega)]
    ·simp only [h1,h2,if_false,Bool.false_eq_true]
  ·rfl
theorem reach_l1_b (hb:Less b) (m:TModule):∀ (n:Nat) (i:Int) (l:List Int),vf_reach_l1 (ck (lsM b m)) n i l=vf_reach_l1 (ck m) n i l:=by
 intro n
 induction n with
 | zero=>intros; rfl
 | succ n ih =>
  intro i l
  unfold vf_reach_l1
  have e:(lsM b m).Units=m.Units.map (lsU b):=rfl
  have e3:∀ u,(lsU b u).Code.length=u.Code.length:=fun u=>by simp [lsU]
  have e4:∀ (u:TUnit) (i:Int) (l:List Int),vf_reach_l2 i (lsU b u) (vf_reach_l1 (ck (lsM b m)) n) (u.Code.length+1) 0 l=vf_reach_l2 i u (vf_reach_l1 (ck m) n) (u.Code.length+1) 0 l:=fun u i l=>reach_l2_b hb i u ih _ _ _
  simp only [Option.bind_some,e,at_map,Option.bind_map,Function.comp_def,e3,e4]
theorem idxf_map {f:TInstr→Option Bool} {g:TInstr→Option Bool} (hf:∀ x,f (b x)=g x) (l:List TInstr):∀ (n:Nat) (i:Int),idxf_n_l1 (l.map b) f n i=idxf_n_l1 l g n i:=by
 intro n
 induction n with
 | zero=>intros; rfl
 | succ n ih =>
  intro i
  unfold idxf_n_l1
  simp only [List.length_map,at_map,Option.bind_map,Function.comp_def,hf,ih]
theorem owned1_b (hb:Less b) (m:TModule) (x op k:Int) (hop:op=26∨op=27):vf_owned1 x (some (ck (lsM b m))) op k=vf_owned1 x (some (ck m)) op k:=by
 have hf:∀ i,vf_owned11 (b i) op k=vf_owned11 i op k:=fun i=>by
  unfold vf_owned11
  rw [hb.op]
  by_cases h:i.Op=op
  ·rw [if_pos h,if_pos h,hb.a i (by unfold hasA; omega)]
  ·rw [if_neg h,if_neg h]
 unfold vf_owned1 conf_n idxf_n
 have e:(lsM b m).Units=m.Units.map (lsU b):=rfl
 have e3:∀ u,(lsU b u).Code=u.Code.map b:=fun _=>rfl
 have e4:∀ (l:List TInstr) (n:Nat) (i:Int),idxf_n_l1 (l.map b) (fun x_=>vf_owned11 x_ op k) n i=idxf_n_l1 l (fun x_=>vf_owned11 x_ op k) n i:=idxf_map hf
 simp only [Option.bind_some,e,at_map,Option.bind_map,Function.comp_def,e3,List.length_map,e4]
theorem owned_l3_b (hb:Less b) (fu:Nat) (m:TModule) (k o op:Int) (hop:op=26∨op=27) {K K':Int→Option TWhere} (hK:∀ x,K x=K' x):∀ (n:Nat) (c i:Int),vf_owned_l3 fu (ck (lsM b m)) (lsM b m) k o op K n c i=vf_owned_l3 fu (ck m) m k o op K' n c i:=by
 intro n
 induction n with
 | zero=>intros; rfl
 | succ n ih =>
  intro c i
  unfold vf_owned_l3 vf_owned_j1 vf_reach
  have e:(lsM b m).Units=m.Units.map (lsU b):=rfl
  have e2:∀ u,(lsU b u).Kind=u.Kind:=fun _=>rfl
  have e3:(fun x_=>vf_owned1 x_ (some (ck (lsM b m))) op k)=fun x_=>vf_owned1 x_ (some (ck m)) op k:=funext fun x=>owned1_b hb m x op k hop
  simp only [e,List.length_map,at_map,Option.bind_map,Function.comp_def,e2,reach_l1_b hb,e3,ih,hK]
theorem owned_l2_b (hb:Less b) (fu:Nat) (m:TModule) (k:Int) {K K':Int→Option TWhere} (hK:∀ x,K x=K' x):∀ (n:Nat) (i:Int),vf_owned_l2 fu (ck (lsM b m)) (lsM b m) k K n i=vf_owned_l2 fu (ck m) m k K' n i:=by
 intro n
 induction n with
 | zero=>intros; rfl
 | succ n ih =>
  intro i
  unfold vf_owned_l2
  have e:(lsM b m).Units.length=m.Units.length:=by simp [lsM]
  simp only [e,hK]
  split
  ·cases hx:at_ [(26:Int),27] i with
   | none=>rfl
   | some x =>
    rw [Option.bind_some,Option.bind_some]
    refine owned_l3_b hb fu m k i x ?_ ih _ _ _
    unfold at_ at hx
    split at hx
    ·have:=List.mem_of_getElem? hx; simpa using this
    ·cases hx
  ·rfl
theorem owned_l1_b (hb:Less b) (fu:Nat) (m:TModule):∀ (n:Nat) (i:Int),vf_owned_l1 fu (ck (lsM b m)) (lsM b m) n i=vf_owned_l1 fu (ck m) m n i:=by
 intro n
 induction n with
 | zero=>intros; rfl
 | succ n ih =>
  intro i
  unfold vf_owned_l1
  have e:(lsM b m).Boxes=m.Boxes:=rfl
  rw [e,owned_l2_b hb fu m i ih]
theorem verify_l1_b (hb:Less b) (fu:Nat) (m:TModule):∀ (n:Nat) (i:Int),vf_verify_l1 fu (lsM b m) n i=vf_verify_l1 fu m n i:=by
 intro n
 induction n with
 | zero=>intros; rfl
 | succ n ih =>
  intro i
  unfold vf_verify_l1 vf_owned
  have e:(lsM b m).Boxes.length=m.Boxes.length:=rfl
  have e2:(lsM b m).Units.length=m.Units.length:=by simp [lsM]
  simp only [e,e2,vf_code_b hb,ih,Option.bind_some,owned_l1_b hb]
theorem vf_verify_b (hb:Less b) (fu:Nat) (m:TModule):vf_verify fu (lsM b m)=vf_verify fu m:=by
 unfold vf_verify
 have e2:(lsM b m).Units.length=m.Units.length:=by simp [lsM]
 simp only [vf_form_b hb,verify_l1_b hb,e2]
end
end Go.Y
namespace Go.Y
open Go.Wk Go.Xt
theorem i64_v {n:Int} (h:-9223372036854775808≤n∧n≤9223372036854775807):i64 n=some n:=if_pos h
theorem at_v {α:Type} {l:List α} {i:Nat} (h:i<l.length):at_ l (i:Int)=some l[i]:=by simp [at_,h]
theorem at_r {α:Type} {l:List α} {i:Int} (h0:0≤i) (h1:i<l.length):∃ x,at_ l i=some x∧x ∈ l:=by
 obtain ⟨k,rfl⟩:=Int.eq_ofNat_of_zero_le h0
 have:k<l.length:=by omega
 exact ⟨l[k],at_v this,List.getElem_mem this⟩
theorem at_n {α:Type} {l:List α} {i:Int} (h:¬ (0≤i∧i<l.length)):at_ l i=none:=by
 unfold at_
 split
 ·rw [List.getElem?_eq_none]; omega
 ·rfl
theorem at_mem {α:Type} {l:List α} {i:Int} {x:α} (h:at_ l i=some x):x ∈ l∧0≤i∧i<l.length:=by
 unfold at_ at h
 split at h
 ·obtain ⟨h1,h2⟩:=List.getElem?_eq_some_iff.1 h
  exact ⟨h2 ▸ List.getElem_mem h1,by omega,by omega⟩
 ·cases h
def plainT (t:Int):Prop:=t=1∨t=2
instance (t:Int):Decidable (plainT t):=by unfold plainT; infer_instance
theorem plain_e (t:Int):vf_plain t=some (decide (plainT t)):=by
 unfold vf_plain plainT
 by_cases h:t=1 <;> simp [h]
def unitB (m:TModule) (p k:Int):Bool:=match at_ m.Units p with
 | some u=>decide (u.Kind=k)
 | none=>false
theorem unit_e (m:TModule) (p k:Int):vf_unit (ck m) p k=some (unitB m p k):=by
 unfold vf_unit unitB
 rw [Option.bind_some]
 by_cases h0:0≤p
 ·by_cases h1:p<m.Units.length
  ·obtain ⟨x,hx,-⟩:=at_r h0 h1
   rw [if_pos h0,if_pos h1,hx]; rfl
  ·rw [if_pos h0,if_neg h1,at_n (by omega)]
 ·rw [if_neg h0,at_n (by omega)]
def handleB (m:TModule) (t:Int):Bool:=decide (10≤t) && unitB m (t - 10) 3
theorem handle_e (m:TModule) {t:Int} (h:R64 t):vf_handle (ck m) t=some (handleB m t):=by
 unfold vf_handle handleB
 unfold R64 at h
 by_cases h1:10≤t
 ·rw [if_pos h1,i64_v (by omega),Option.bind_some,unit_e,Option.bind_some]; simp [h1]
 ·rw [if_neg h1]; simp [h1]
def VInstr (m:TModule) (u:TUnit) (i:TInstr):Prop :=
 (1≤i.Op∧i.Op≤32)∧(i.Op=2→i.A=0∨i.A=1)∧(i.Op=3∨i.Op=4→0≤i.A∧i.A<u.Locals.length)∧(i.Op=21∨i.Op=22→0≤i.A∧i.A<u.Code.length) ∧
 (i.Op=23→unitB m i.A 2=true)∧(i.Op=29→unitB m i.A 3=true)∧(i.Op=26∨i.Op=27→0≤i.A∧i.A<m.Boxes.length)
theorem vinstr_e (m:TModule) (u:TUnit) (i:TInstr):∃ e,vf_instr (ck m) u i=some e∧(e=0 ↔ VInstr m u i):=by
 have fin:∀ b:Bool,vf_instr_j1 b=some (if b then 0 else 3):=fun b=>by cases b <;> rfl
 have fin5:∀ b:Bool,vf_instr_j5 b=some (if b then 1 else 0):=fun b=>by cases b <;> rfl
 unfold vf_instr vf_instr_j2 vf_instr_j3 vf_instr_j4 VInstr
 simp only [unit_e,Option.bind_some,fin,fin5]
 by_cases h2:i.Op=2
 ·by_cases hA:i.A=0 <;> by_cases hA1:i.A=1 <;> simp [h2,hA,hA1]
 by_cases h3:i.Op=3
 ·by_cases hA:0≤i.A <;> by_cases hA1:i.A<u.Locals.length <;> simp [h3,hA,hA1]
 by_cases h4:i.Op=4
 ·by_cases hA:0≤i.A <;> by_cases hA1:i.A<u.Locals.length <;> simp [h4,hA,hA1]
 by_cases h21:i.Op=21
 ·by_cases hA:0≤i.A <;> by_cases hA1:i.A<u.Code.length <;> simp [h21,hA,hA1]
 by_cases h22:i.Op=22
 ·by_cases hA:0≤i.A <;> by_cases hA1:i.A<u.Code.length <;> simp [h22,hA,hA1]
 by_cases h23:i.Op=23
 ·cases hA:unitB m i.A 2 <;> simp [h23,hA]
 by_cases h29:i.Op=29
 ·cases hA:unitB m i.A 3 <;> simp [h29,hA]
 by_cases h26:i.Op=26
 ·by_cases hA:0≤i.A <;> by_cases hA1:i.A<m.Boxes.length <;> simp [h26,hA,hA1]
 by_cases h27:i.Op=27
 ·by_cases hA:0≤i.A <;> by_cases hA1:i.A<m.Boxes.length <;> simp [h27,hA,hA1]
 by_cases hA:i.Op<1 <;> by_cases hA1:32<i.Op <;> simp [h2,h3,h4,h21,h22,h23,h29,h26,h27,hA,hA1] <;> omega
theorem idxf_e {f:Int→Option Bool} {g:Int→Bool} (l:List Int) (hl:l.length≤4000000000) (hf:∀ x ∈ l,f x=some (g x)):∀ (n i:Nat),i≤l.length→l.length - i<n→∃ r,idxf_i_l1 l f n (i:Int)=some r∧(0≤r ↔ (l.drop i).any g=true):=by
 intro n
 induction n with
 | zero=>intro i _ h; omega
 | succ n ih =>
  intro i hi hn
  unfold idxf_i_l1
  by_cases c:i<l.length
  ·rw [if_pos (by omega),at_v c,Option.bind_some,hf _ (List.getElem_mem c),Option.bind_some,List.drop_eq_getElem_cons c,List.any_cons]
   cases hg:g l[i] with
   | true=>exact ⟨_,if_pos rfl,by simp⟩
   | false =>
    rw [if_neg (by decide),i64_v (by omega),Option.bind_some,Bool.false_or]
    exact ih (i+1) c (by omega)
  ·rw [if_neg (by omega),List.drop_of_length_le (by omega)]
   exact ⟨_,rfl,by simp⟩
theorem conf_e {f:Int→Option Bool} {g:Int→Bool} (l:List Int) (hl:l.length≤4000000000) (hf:∀ x ∈ l,f x=some (g x)):conf_i l f=some (l.any g):=by
 unfold conf_i idxf_i
 obtain ⟨r,e,h⟩:=idxf_e l hl hf (l.length+1) 0 (by omega) (by omega)
 rw [show ((0:Nat):Int)=0 from rfl] at e
 rw [e,Option.bind_some]
 rw [List.drop_zero] at h
 congr 1
 cases ha:l.any g with
 | true=>rw [ha] at h; simp [h.2 rfl]
 | false=>rw [ha] at h; simp only [decide_eq_false_iff_not]; exact fun hr=>absurd (h.1 hr) (by decide)
def VHead (m:TModule) (u:TUnit):Prop :=
 (u.Kind=2∨u.Kind=3∨u.Kind=4)∧(u.Locals.length≤200∧0≤u.Params∧u.Params≤6∧u.Params≤u.Locals.length∧(u.Kind=4→u.Params≤0))∧(1≤u.Code.length∧u.Code.length≤4000) ∧
 (u.Kind≠4→plainT u.Result)∧(u.Kind=3→plainT u.Takes)∧∀ t ∈ u.Locals,plainT t∨handleB m t=true
theorem vhead_e (m:TModule) {u:TUnit} (hu:MzU u):∃ e,vf_head (ck m) u=some e∧(e=0 ↔ VHead m u):=by
 obtain ⟨-,-,-,-,⟨hl,hr⟩,-,-⟩:=hu
 have hc:conf_i u.Locals (fun x_=>vf_head1 x_ (some (ck m)))=some (u.Locals.any fun t=>!decide (plainT t) && !handleB m t):=by
  refine conf_e _ (by omega) fun t ht=>?_
  unfold vf_head1
  rw [plain_e,Option.bind_some]
  by_cases h:plainT t
  ·simp [h]
  ·rw [if_neg (by simp [h]),Option.bind_some,handle_e m (hr t ht),Option.bind_some]; simp [h]
 have hall:(u.Locals.any fun t=>!decide (plainT t) && !handleB m t)=true ↔ ¬ ∀ t ∈ u.Locals,plainT t∨handleB m t=true:=by
  rw [List.any_eq_true]
  constructor
  ·rintro ⟨t,ht,h⟩ hh
   rcases hh t ht with h1 | h1 <;> simp [h1] at h
  ·intro h
   obtain ⟨t,h⟩:=Classical.not_forall.1 h
   obtain ⟨ht,h⟩:=Classical.not_imp.1 h
   rw [not_or] at h
   exact ⟨t,ht,by simp [h.1,h.2]⟩
 have h4:∀ b:Bool,∃ e,vf_head_j4 (ck m) u b=some e∧(e=0 ↔ b=false∧∀ t ∈ u.Locals,plainT t∨handleB m t=true):=by
  intro b
  unfold vf_head_j4
  cases b with
  | true=>exact ⟨9,rfl,by simp⟩
  | false =>
   rw [if_neg (by decide),hc,Option.bind_some]
   by_cases h:(u.Locals.any fun t=>!decide (plainT t) && !handleB m t)=true
   ·rw [if_pos h]; exact ⟨9,rfl,by simpa using hall.1 h⟩
   ·rw [if_neg h]; exact ⟨0,rfl,by simpa using Classical.not_not.1 fun g=>h (hall.2 g)⟩
 have h3:∀ b:Bool,∃ e,vf_head_j3 (ck m) u b=some e∧(e=0 ↔ b=false∧(u.Kind≠4→plainT u.Result)∧(u.Kind=3→plainT u.Takes)∧∀ t ∈ u.Locals,plainT t∨handleB m t=true):=by
  intro b
  unfold vf_head_j3
  cases b with
  | true=>exact ⟨5,rfl,by simp⟩
  | false =>
   rw [if_neg (by decide)]
   simp only [plain_e,Option.bind_some]
   by_cases k4:u.Kind=4
   ·rw [if_neg (by omega),if_neg (by omega)]
    obtain ⟨e,h1,h2⟩:=h4 false
    exact ⟨e,h1,by rw [h2]; simp [k4]⟩
   ·rw [if_pos k4]
    by_cases hp:plainT u.Result
    ·rw [if_pos (by simp [hp])]
     by_cases k3:u.Kind=3
     ·rw [if_pos k3]
      obtain ⟨e,h1,h2⟩:=h4 (!decide (plainT u.Takes))
      exact ⟨e,h1,by rw [h2]; simp [k3,hp]⟩
     ·rw [if_neg k3]
      obtain ⟨e,h1,h2⟩:=h4 false
      exact ⟨e,h1,by rw [h2]; simp [k3,hp]⟩
    ·rw [if_neg (by simp [hp])]
     obtain ⟨e,h1,h2⟩:=h4 true
     exact ⟨e,h1,by rw [h2]; simp [k4,hp]⟩
 have h2:∀ b:Bool,∃ e,vf_head_j2 (ck m) u b=some e∧(e=0 ↔ b=false∧(1≤u.Code.length∧u.Code.length≤4000)∧(u.Kind≠4→plainT u.Result)∧(u.Kind=3→plainT u.Takes)∧∀ t ∈ u.Locals,plainT t∨handleB m t=true):=by
  intro b
  unfold vf_head_j2
  cases b with
  | true=>exact ⟨5,rfl,by simp⟩
  | false =>
   rw [if_neg (by decide)]
   by_cases c:(u.Code.length:Int)<1
   ·rw [if_pos c]
    obtain ⟨e,q1,q2⟩:=h3 true
    exact ⟨e,q1,by rw [q2]; simp; omega⟩
   ·rw [if_neg c]
    obtain ⟨e,q1,q2⟩:=h3 (decide ((4000:Int)<(u.Code.length:Int)))
    refine ⟨e,q1,q2.trans ⟨fun ⟨x,y⟩=>⟨rfl,⟨by omega,?_⟩,y⟩,fun ⟨_,x,y⟩=>⟨?_,y⟩⟩⟩
    ·simp at x; omega
    ·simp; omega
 have h1:∀ b:Bool,∃ e,vf_head_j1 (ck m) u b=some e∧(e=0 ↔ b=false∧(u.Locals.length≤200∧0≤u.Params∧u.Params≤6∧u.Params≤u.Locals.length∧(u.Kind=4→u.Params≤0))∧(1≤u.Code.length∧u.Code.length≤4000)∧(u.Kind≠4→plainT u.Result)∧(u.Kind=3→plainT u.Takes)∧∀ t ∈ u.Locals,plainT t∨handleB m t=true):=by
  intro b
  unfold vf_head_j1
  obtain ⟨et,t1,t2⟩:=h2 true
  obtain ⟨ef,f1,f2⟩:=h2 false
  obtain ⟨ek,k1,k2⟩:=h2 (decide ((0:Int)<u.Params))
  have bad:et≠0:=fun h=>by have:=t2.1 h; simp at this
  cases b with
  | true=>exact ⟨1,rfl,by simp⟩
  | false =>
   rw [if_neg (by decide)]
   by_cases c1:(200:Int)<(u.Locals.length:Int)
   ·rw [if_pos c1]; exact ⟨et,t1,⟨fun h=>absurd h bad,fun h=>by omega⟩⟩
   rw [if_neg c1]
   by_cases c2:u.Params<0
   ·rw [if_pos c2]; exact ⟨et,t1,⟨fun h=>absurd h bad,fun h=>by omega⟩⟩
   rw [if_neg c2]
   by_cases c3:(6:Int)<u.Params
   ·rw [if_pos c3]; exact ⟨et,t1,⟨fun h=>absurd h bad,fun h=>by omega⟩⟩
   rw [if_neg c3]
   by_cases c4:(u.Locals.length:Int)<u.Params
   ·rw [if_pos c4]; exact ⟨et,t1,⟨fun h=>absurd h bad,fun h=>by omega⟩⟩
   rw [if_neg c4]
   by_cases c5:u.Kind=4
   ·rw [if_pos c5]
    refine ⟨ek,k1,k2.trans ⟨fun ⟨x,y⟩=>⟨rfl,⟨by omega,by omega,by omega,by omega,fun _=>?_⟩,y⟩,fun ⟨_,x,y⟩=>⟨?_,y⟩⟩⟩
    ·simp at x; omega
    ·simp; exact x.2.2.2.2 c5
   ·rw [if_neg c5]
    exact ⟨ef,f1,f2.trans ⟨fun ⟨x,y⟩=>⟨rfl,⟨by omega,by omega,by omega,by omega,fun h=>absurd h c5⟩,y⟩,fun ⟨_,x,y⟩=>⟨rfl,y⟩⟩⟩
 obtain ⟨ef,f1,f2⟩:=h1 false
 obtain ⟨ek,k1,k2⟩:=h1 (decide (u.Kind≠4))
 unfold vf_head VHead
 by_cases c2:u.Kind=2
 ·rw [if_neg (by omega)]
  exact ⟨ef,f1,f2.trans ⟨fun ⟨x,y⟩=>⟨.inl c2,y⟩,fun ⟨x,y⟩=>⟨rfl,y⟩⟩⟩
 ·rw [if_pos c2]
  by_cases c3:u.Kind=3
  ·rw [if_neg (by omega)]
   exact ⟨ef,f1,f2.trans ⟨fun ⟨x,y⟩=>⟨.inr (.inl c3),y⟩,fun ⟨x,y⟩=>⟨rfl,y⟩⟩⟩
  ·rw [if_pos c3]
   refine ⟨ek,k1,k2.trans ⟨fun ⟨x,y⟩=>⟨?_,y⟩,fun ⟨x,y⟩=>⟨?_,y⟩⟩⟩
   ·simp at x; omega
   ·simp; omega
def VForm (m:TModule):Prop:=(m.Boxes.length≤30∧m.Units.length≤30)∧(∀ b ∈ m.Boxes,plainT b.Typ∧1≤b.Cap∧b.Cap≤20)∧(∀ u ∈ m.Units,VHead m u∧∀ i ∈ u.Code,VInstr m u i)∧∃ u ∈ m.Units,u.Kind=4
def Vd (o:Option TWhere) (C:Prop):Prop:=∃ w,o=some w∧(w.Err=0 ↔ C)∧(w.Err=0→w=⟨0,0,0⟩)
theorem Vd.iff {o:Option TWhere} {C D:Prop} (h:Vd o C) (e:C ↔ D):Vd o D:=by
 obtain ⟨w,h1,h2,h3⟩:=h
 exact ⟨w,h1,h2.trans e,h3⟩
theorem Vd.no {e a b:Int} {C:Prop} (he:e≠0) (h:¬ C):Vd (some ⟨e,a,b⟩) C:=⟨_,rfl,⟨fun h'=>absurd h' he,fun h'=>absurd h' h⟩,fun h'=>absurd h' he⟩
theorem form_l3_e {m:TModule} {c a:Int} {u:TUnit} {K:Int→Int→Option TWhere} {C:Prop} (ha:0≤a∧a≤100000000) (hc:0≤c∧c≤a) (hl:u.Code.length≤1048576) (hK:Vd (K (if u.Kind=4 then c+1 else c) (a+1)) C):∀ (n i:Nat),i≤u.Code.length→u.Code.length - i<n→Vd (vf_form_l3 (ck m) c a u K n (i:Int)) ((∀ x ∈ u.Code.drop i,VInstr m u x)∧C):=by
 intro n
 induction n with
 | zero=>intro i _ h; omega
 | succ n ih =>
  intro i hi hn
  unfold vf_form_l3
  by_cases q:i<u.Code.length
  ·obtain ⟨e,e1,e2⟩:=vinstr_e m u u.Code[i]
   rw [if_pos (by omega),at_v q,Option.bind_some,e1,Option.bind_some,List.drop_eq_getElem_cons q]
   by_cases h0:e=0
   ·rw [if_neg (by omega),i64_v (by omega),Option.bind_some]
    refine (ih (i+1) q (by omega)).iff ⟨fun ⟨x,y⟩=>⟨fun z hz=>?_,y⟩,fun ⟨x,y⟩=>⟨fun z hz=>x z (List.mem_cons_of_mem _ hz),y⟩⟩
    rcases List.mem_cons.1 hz with rfl | hz
    ·exact e2.1 h0
    ·exact x z hz
   ·rw [if_pos h0]
    exact .no h0 fun ⟨x,_⟩=>h0 (e2.2 (x _ (List.mem_cons_self ..)))
  ·rw [if_neg (by omega),List.drop_of_length_le (by omega)]
   by_cases k4:u.Kind=4
   ·rw [if_pos k4] at hK
    rw [if_pos k4,i64_v (by omega),Option.bind_some,i64_v (by omega),Option.bind_some]
    exact hK.iff (by simp)
   ·rw [if_neg k4] at hK
    rw [if_neg k4,i64_v (by omega),Option.bind_some]
    exact hK.iff (by simp)
theorem form_l2_e {m:TModule} (hm:MzM m):∀ (n i:Nat) (c:Int),i≤m.Units.length→m.Units.length - i<n→0≤c∧c≤i→Vd (vf_form_l2 (ck m) m n c (i:Int)) ((∀ u ∈ m.Units.drop i,VHead m u∧∀ x ∈ u.Code,VInstr m u x)∧(c≠0∨∃ u ∈ m.Units.drop i,u.Kind=4)):=by
 obtain ⟨-,hul,hur⟩:=hm
 intro n
 induction n with
 | zero=>intro i c _ h; omega
 | succ n ih =>
  intro i c hi hn hc
  unfold vf_form_l2
  by_cases q:i<m.Units.length
  ·obtain ⟨e,e1,e2⟩:=vhead_e m (hur _ (List.getElem_mem q))
   have hcl:=(hur _ (List.getElem_mem q)).2.2.2.2.2.1
   rw [if_pos (by omega),at_v q,Option.bind_some,e1,Option.bind_some,List.drop_eq_getElem_cons q]
   by_cases h0:e=0
   ·rw [if_neg (by omega)]
    refine (form_l3_e (K:=vf_form_l2 (ck m) m n) (by omega) hc hcl (ih (i+1) _ q (by omega) (by split <;> omega)) _ 0 (by omega) (by omega)).iff ?_
    rw [List.drop_zero]
    constructor
    ·rintro ⟨x,y,z⟩
     refine ⟨fun u hu=>?_,?_⟩
     ·rcases List.mem_cons.1 hu with rfl | hu
      ·exact ⟨e2.1 h0,x⟩
      ·exact y u hu
     ·by_cases k4:m.Units[i].Kind=4
      ·exact .inr ⟨_,List.mem_cons_self ..,k4⟩
      ·rw [if_neg k4] at z
       rcases z with z | ⟨u,hu,k⟩
       ·exact .inl z
       ·exact .inr ⟨u,List.mem_cons_of_mem _ hu,k⟩
    ·rintro ⟨x,y⟩
     refine ⟨(x _ (List.mem_cons_self ..)).2,fun u hu=>x u (List.mem_cons_of_mem _ hu),?_⟩
     by_cases k4:m.Units[i].Kind=4
     ·rw [if_pos k4]; exact .inl (by omega)
     ·rw [if_neg k4]
      rcases y with y | ⟨u,hu,k⟩
      ·exact .inl y
      ·rcases List.mem_cons.1 hu with rfl | hu
       ·exact absurd k k4
       ·exact .inr ⟨u,hu,k⟩
   ·rw [if_pos h0]
    exact .no h0 fun ⟨x,_⟩=>h0 (e2.2 (x _ (List.mem_cons_self ..)).1)
  ·rw [if_neg (by omega),List.drop_of_length_le (by omega)]
   by_cases c0:c=0
   ·rw [if_pos c0]; exact .no (by decide) (by simp [c0])
   ·rw [if_neg c0]; exact ⟨_,rfl,by simp [c0],fun _=>rfl⟩
theorem form_l1_e {m:TModule} (hm:MzM m):∀ (n i:Nat),i≤m.Boxes.length→m.Boxes.length - i<n→Vd (vf_form_l1 (ck m) m n (i:Int)) ((∀ b ∈ m.Boxes.drop i,plainT b.Typ∧1≤b.Cap∧b.Cap≤20)∧(∀ u ∈ m.Units,VHead m u∧∀ i ∈ u.Code,VInstr m u i)∧∃ u ∈ m.Units,u.Kind=4):=by
 have hbl:=hm.1.1
 intro n
 induction n with
 | zero=>intro i _ h; omega
 | succ n ih =>
  intro i hi hn
  unfold vf_form_l1
  by_cases q:i<m.Boxes.length
  ·rw [if_pos (by omega),at_v q,Option.bind_some,plain_e,Option.bind_some,List.drop_eq_getElem_cons q]
   have bad:¬ (plainT m.Boxes[i].Typ∧1≤m.Boxes[i].Cap∧m.Boxes[i].Cap≤20)→¬ ((∀ b ∈ m.Boxes[i]::m.Boxes.drop (i+1),plainT b.Typ∧1≤b.Cap∧b.Cap≤20)∧(∀ u ∈ m.Units,VHead m u∧∀ i ∈ u.Code,VInstr m u i)∧∃ u ∈ m.Units,u.Kind=4):=fun h ⟨g,_⟩=>h (g _ (List.mem_cons_self ..))
   by_cases hp:plainT m.Boxes[i].Typ
   ·rw [if_pos (by simp [hp])]
    by_cases c1:m.Boxes[i].Cap<1
    ·rw [if_pos c1]; exact .no (by decide) (bad (by omega))
    ·rw [if_neg c1]
     unfold vf_form_j2
     by_cases c2:(20:Int)<m.Boxes[i].Cap
     ·rw [if_pos (by simpa using c2)]; exact .no (by decide) (bad (by omega))
     ·rw [if_neg (by simpa using c2),i64_v (by omega),Option.bind_some]
      refine (ih (i+1) q (by omega)).iff ⟨fun ⟨x,y⟩=>⟨fun z hz=>?_,y⟩,fun ⟨x,y⟩=>⟨fun z hz=>x z (List.mem_cons_of_mem _ hz),y⟩⟩
      rcases List.mem_cons.1 hz with rfl | hz
      ·exact ⟨hp,by omega,by omega⟩
      ·exact x z hz
   ·rw [if_neg (by simp [hp])]; exact .no (by decide) (bad fun h=>hp h.1)
  ·rw [if_neg (by omega),List.drop_of_length_le (by omega)]
   refine (form_l2_e hm _ 0 0 (by omega) (by omega) (by omega)).iff ?_
   rw [List.drop_zero]
   simp
theorem form_e {m:TModule} (hm:MzM m):Vd (vf_form (ck m)) (VForm m):=by
 unfold vf_form vf_form_j1 VForm
 rw [Option.bind_some]
 by_cases c1:(30:Int)<(m.Boxes.length:Int)
 ·rw [if_pos c1,if_pos rfl]; exact .no (by decide) fun ⟨h,_⟩=>by omega
 ·rw [if_neg c1]
  by_cases c2:(30:Int)<(m.Units.length:Int)
  ·rw [if_pos (by simpa using c2)]; exact .no (by decide) fun ⟨h,_⟩=>by omega
  ·rw [if_neg (by simpa using c2),Option.bind_some]
   refine (form_l1_e hm _ 0 (by omega) (by omega)).iff ?_
   rw [List.drop_zero]
   exact ⟨fun h=>⟨by omega,h⟩,fun h=>h.2⟩
end Go.Y
namespace Go.Y
open Go.Wk Go.Xt
def fv (e x:Int):Int:=if e=0 then x else e
theorem fail_e (e x:Int):vf_fail e x=some (fv e x):=by unfold vf_fail fv; split <;> rfl
theorem fv_ne {e x:Int} (h:x≠0):fv e x≠0:=by unfold fv; split <;> assumption
abbrev SE:=List Int×Int
def pushF (s:SE) (t:Int):SE:=(s.1++[t],if 300<s.1.length+1 then fv s.2 4 else s.2)
def popF (s:SE):Int×SE:=match s.1.getLast? with
 | none=>(0,s.1,fv s.2 12)
 | some t=>(t,s.1.dropLast,s.2)
def wantR:List Int→SE→SE
 | [],s=>s
 | t::ts,s=>wantR ts ((popF s).2.1,if (popF s).1≠t then fv (popF s).2.2 9 else (popF s).2.2)
theorem popF_nil (e:Int):popF ([],e)=(0,[],fv e 12):=rfl
theorem popF_con (l:List Int) (t e:Int):popF (l++[t],e)=(t,l,e):=by unfold popF; simp
theorem push_e {st:List Int} {er t:Int} (h:st.length≤100000):vf_push st er t=some (pushF (st,er) t):=by
 unfold vf_push pushF app
 rw [if_pos (by simp; omega),Option.bind_some]
 simp only [List.length_append,List.length_cons,List.length_nil]
 by_cases c:300<st.length+1
 ·rw [if_pos (by omega),fail_e,Option.bind_some,if_pos (by omega)]
 ·rw [if_neg (by omega),if_neg (by omega)]
theorem pop_e {st:List Int} {er:Int} (h:st.length≤100000):vf_pop st er=some (popF (st,er)):=by
 rcases List.eq_nil_or_concat st with rfl | ⟨l,t,rfl⟩
 ·unfold vf_pop
  rw [if_pos (by simp),fail_e,Option.bind_some,popF_nil]
 ·rw [List.concat_eq_append] at h ⊢
  simp only [List.length_append,List.length_cons,List.length_nil] at h
  have e1:at_ (l++[t]) ((l.length:Int))=some t:=by rw [at_v (by simp)]; simp
  have e2:cut (l++[t]) 0 (l.length:Int)=some l:=by
   unfold cut; rw [if_pos (by simp; omega)]; simp
  unfold vf_pop
  rw [if_neg (by simp; omega),i64_v (by simp; omega),Option.bind_some]
  have e3:((l++[t]).length:Int) - 1=(l.length:Int):=by simp
  rw [e3,e1,Option.bind_some,Option.bind_some,e2,Option.bind_some,popF_con]
theorem popF_len (s:SE):(popF s).2.1.length≤s.1.length:=by
 unfold popF; split
 ·exact Nat.le_refl _
 ·simp
theorem wantR_len:∀ (l:List Int) (s:SE),(wantR l s).1.length≤s.1.length
 | [],s=>Nat.le_refl _
 | t::ts,s=>Nat.le_trans (wantR_len ts _) (popF_len s)
theorem want_e {fu:Nat} {l:List Int}:∀ (n k:Nat) (st:List Int) (er:Int),l.length≤100000→st.length≤100000→k≤l.length→k<n→vf_want_l1 l n ((k:Int) - 1) er st=some (wantR (l.take k).reverse (st,er)):=by
 intro n
 induction n with
 | zero=>intro k st er _ _ _ h; omega
 | succ n ih =>
  intro k st er hl hs hk hn
  unfold vf_want_l1
  cases k with
  | zero=>rw [if_neg (by omega)]; rfl
  | succ k =>
   have hp:=popF_len (st,er)
   have e:(((k+1:Nat):Int) - 1)=(k:Int):=by omega
   rw [if_pos (by omega),pop_e hs,Option.bind_some,e,at_v (by omega),Option.bind_some,← List.take_append_getElem (by omega),List.reverse_append]
   show _=some (wantR (l[k]::(l.take k).reverse) (st,er))
   rw [wantR]
   by_cases c:(popF (st,er)).1≠l[k]
   ·rw [if_pos c,fail_e,Option.bind_some,i64_v (by omega),Option.bind_some,if_pos c]
    exact ih k _ _ hl (Nat.le_trans hp hs) (by omega) (by omega)
   ·rw [if_neg c,i64_v (by omega),Option.bind_some,if_neg c]
    exact ih k _ _ hl (Nat.le_trans hp hs) (by omega) (by omega)
theorem wantA {fu:Nat} {l:List Int} {st:List Int} {er:Int} (hl:l.length≤100000) (hf:l.length<fu) (hs:st.length≤100000):vf_want fu st er l=some (wantR l.reverse (st,er)):=by
 unfold vf_want
 rw [i64_v (by omega),Option.bind_some,want_e (fu:=fu) fu l.length st er hl hs (Nat.le_refl _) hf,List.take_length]
structure SOk (s:SE):Prop where
 le:s.2=0→s.1.length≤300
 r:∀ t ∈ s.1,R64 t
theorem SOk.push {s:SE} {t:Int} (h:SOk s) (ht:R64 t):SOk (pushF s t):=by
 refine ⟨fun h0=>?_,fun x hx=>?_⟩
 ·unfold pushF at h0 ⊢
  simp only [List.length_append,List.length_cons,List.length_nil] at h0 ⊢
  by_cases c:300<s.1.length+1
  ·rw [if_pos c] at h0; exact absurd h0 (fv_ne (by decide))
  ·omega
 ·rcases List.mem_append.1 hx with hx | hx
  ·exact h.r x hx
  ·rw [List.mem_singleton.1 hx]; exact ht
theorem SOk.mono {s:SE} {l:List Int} {e:Int} (h:SOk s) (hl:l.length≤s.1.length) (hm:∀ t ∈ l,t ∈ s.1) (he:e=0→s.2=0):SOk (l,e):=⟨fun h0=>Nat.le_trans hl (h.le (he h0)),fun t ht=>h.r t (hm t ht)⟩
theorem popF_mem (s:SE):∀ t ∈ (popF s).2.1,t ∈ s.1:=by
 unfold popF; split
 ·exact fun t h=>h
 ·exact fun t h=>(List.dropLast_sublist _).subset h
theorem popF_er (s:SE):(popF s).2.2=0→s.2=0:=by
 unfold popF; split
 ·exact fun h=>absurd h (fv_ne (by decide))
 ·exact id
theorem popF_v {s:SE} (h:SOk s):R64 (popF s).1:=by
 unfold popF; split
 ·show R64 0; unfold R64; omega
 ·rename_i t e; exact h.r t (List.mem_of_getLast? e)
theorem SOk.pop {s:SE} (h:SOk s):SOk (popF s).2:=h.mono (popF_len s) (popF_mem s) (popF_er s)
theorem SOk.er {s:SE} {x:Int} (h:SOk s) (hx:x≠0):SOk (s.1,fv s.2 x):=⟨fun h0=>absurd h0 (fv_ne hx),h.r⟩
theorem SOk.want:∀ (l:List Int) {s:SE},SOk s→SOk (wantR l s)
 | [],s,h=>h
 | t::ts,s,h=>by
  rw [wantR]
  refine SOk.want ts ?_
  split
  ·exact h.pop.er (by decide)
  ·exact h.pop
def lg (l:List Int) (i:Int):Int:=(at_ l i).getD 0
def bg (l:List Bool) (i:Int):Bool:=(at_ l i).getD false
def ug (m:TModule) (i:Int):TUnit:=(at_ m.Units i).getD default
def xg (m:TModule) (i:Int):TBi:=(at_ m.Boxes i).getD default
def genF (m:TModule) (s:SE):Option TUnit×SE :=
 if (popF s).2.2≠0 then (none,(popF s).2) else if handleB m (popF s).1=true then (some (ug m ((popF s).1 - 10)),(popF s).2) else (none,((popF s).2.1,fv (popF s).2.2 9))
def doneF (s:SE):SE:=(s.1,if 0<s.1.length then fv s.2 12 else s.2)
def argsF (v:TUnit) (s:SE):SE:=wantR (v.Locals.take v.Params.toNat).reverse s
def stackF (m:TModule) (u:TUnit) (i:TInstr) (s:SE) (hs:List Bool):SE :=
 if i.Op=1 then pushF s 1
 else if i.Op=2 then pushF s 2
 else if i.Op=3 then pushF (s.1,if bg hs i.A=true then s.2 else fv s.2 11) (lg u.Locals i.A)
 else if i.Op=4 then wantR [lg u.Locals i.A] s
 else if i.Op=5 then (popF s).2
 else if i.Op=6 then pushF (wantR [1] s) 1
 else if i.Op=7 then pushF (wantR [2] s) 2
 else if 8≤i.Op∧i.Op≤12 then pushF (wantR [1,1] s) 1
 else if i.Op=13∨i.Op=14 then pushF (wantR [(popF s).1] ((popF s).2.1,if (popF s).1≠1∧(popF s).1≠2 then fv (popF s).2.2 9 else (popF s).2.2)) 2
 else if 15≤i.Op∧i.Op≤18 then pushF (wantR [1,1] s) 2
 else if i.Op=19∨i.Op=20 then pushF (wantR [2,2] s) 2
 else if i.Op=21 then s
 else if i.Op=22 then wantR [2] s
 else if i.Op=23 then pushF (argsF (ug m i.A) s) (ug m i.A).Result
 else if i.Op=24 then doneF (wantR [u.Result] (s.1,if u.Kind≠2 then fv s.2 8 else s.2))
 else if i.Op=25 then doneF (s.1,if u.Kind=2 then fv s.2 8 else s.2)
 else if i.Op=26 then wantR [(xg m i.A).Typ] s
 else if i.Op=27 then pushF s (xg m i.A).Typ
 else if i.Op=28 then ((popF s).2.1,if (popF s).2.2=0∧¬ plainT (popF s).1 then fv (popF s).2.2 9 else (popF s).2.2)
 else if i.Op=29 then pushF (argsF (ug m i.A) s) (10+i.A)
 else if i.Op=30 then match genF m (popF s).2 with
  | (some x,s')=>pushF (s'.1,if (popF s).1≠x.Takes then fv s'.2 9 else s'.2) x.Result
  | (none,s')=>s'
 else if i.Op=31 then pushF (wantR [u.Result] (s.1,if u.Kind≠3 then fv s.2 8 else s.2)) u.Takes
 else if i.Op=32 then pushF (genF m s).2 2
 else s
def hasF (i:TInstr) (hs:List Bool):List Bool:=if i.Op=4 then hs.set i.A.toNat true else hs
def follows (i:TInstr):Prop:=i.Op≠21∧i.Op≠24∧i.Op≠25
instance (i:TInstr):Decidable (follows i):=by unfold follows; infer_instance
theorem unitB_e {m:TModule} {p k:Int} (h:unitB m p k=true):at_ m.Units p=some (ug m p)∧ug m p ∈ m.Units∧(ug m p).Kind=k∧0≤p∧p<m.Units.length:=by
 unfold unitB at h
 cases hx:at_ m.Units p with
 | none=>rw [hx] at h; cases h
 | some x =>
  rw [hx] at h
  have:ug m p=x:=by unfold ug; rw [hx]; rfl
  obtain ⟨h1,h2,h3⟩:=at_mem hx
  rw [this]
  exact ⟨rfl,h1,by simpa using h,h2,h3⟩
theorem handleB_e {m:TModule} {t:Int} (h:handleB m t=true):10≤t∧unitB m (t - 10) 3=true:=by
 unfold handleB at h; simpa using h
theorem args_e {fu:Nat} {m:TModule} {p k:Int} {st:List Int} {er:Int} (hf:VForm m) (h:unitB m p k=true) (hfu:1000≤fu) (hs:st.length≤100000):vf_args fu (ck m) st er p=some (ug m p,argsF (ug m p) (st,er)):=by
 obtain ⟨h1,h2,-⟩:=unitB_e h
 obtain ⟨-,⟨g1,g2,g3,g4,-⟩,-⟩:=(hf.2.2.1 _ h2).1
 unfold vf_args argsF
 have e:cut (ug m p).Locals 0 (ug m p).Params=some ((ug m p).Locals.take (ug m p).Params.toNat):=by
  unfold cut; rw [if_pos (by omega)]; simp
 rw [Option.bind_some,h1,Option.bind_some,e,Option.bind_some,wantA (by simp; omega) (by simp; omega) hs,Option.bind_some]
theorem gen_e {m:TModule} {st:List Int} {er:Int} (hs:st.length≤100000) (hr:SOk (st,er)):vf_gen (ck m) st er=some (genF m (st,er)):=by
 unfold vf_gen genF
 rw [pop_e hs,Option.bind_some]
 by_cases c:(popF (st,er)).2.2≠0
 ·rw [if_pos c,if_pos c]
 ·rw [if_neg c,if_neg c,handle_e m (popF_v hr),Option.bind_some]
  by_cases hh:handleB m (popF (st,er)).1=true
  ·obtain ⟨h1,h2⟩:=handleB_e hh
   have:=(popF_v hr).2
   rw [if_pos hh,if_pos hh,Option.bind_some,i64_v (by omega),Option.bind_some,(unitB_e h2).1,Option.bind_some]
  ·rw [if_neg hh,if_neg hh,fail_e,Option.bind_some]
theorem done_e (st:List Int) (er:Int):vf_done st er=some (false,doneF (st,er)):=by
 unfold vf_done vf_done_j1 doneF
 by_cases c:0<st.length
 ·rw [if_pos (by omega),fail_e,Option.bind_some,if_pos c]
 ·rw [if_neg (by omega),if_neg c]
section
variable {fu:Nat} {m:TModule} {u:TUnit} {i:TInstr} {a:List (Int×TVs)} {td st:List Int} {hs:List Bool} {er:Int}
theorem special_e (hf:VForm m) (hi:VInstr m u i) (hst:st.length≤1000) (hr:SOk (st,er)) (hm:MzM m) (hmi:MzC i) (hfu:1000≤fu) (h22:22<i.Op) :
  vf_special fu (ck m) u a td st hs er i=some (decide (follows i),a,td,(stackF m u i (st,er) hs).1,hs,(stackF m u i (st,er) hs).2):=by
 obtain ⟨⟨-,i32⟩,-,-,-,ica,isa,ibx⟩:=hi
 have big:∀ l:List Int,l.length≤st.length→l.length≤100000:=fun l h=>by omega
 have hop:i.Op=23∨i.Op=24∨i.Op=25∨i.Op=26∨i.Op=27∨i.Op=28∨i.Op=29∨i.Op=30∨i.Op=31∨i.Op=32:=by omega
 unfold vf_special vf_special_j1 stackF
 rcases hop with h | h | h | h | h | h | h | h | h | h
 ·rw [if_pos h,args_e hf (ica h) hfu (by omega),Option.bind_some,push_e (big _ (wantR_len _ _)),Option.bind_some]
  simp [h,follows]
 ·have e:∀ e1,vf_special_j2 fu u a td st hs e1=some (false,a,td,(doneF (wantR [u.Result] (st,e1))).1,hs,(doneF (wantR [u.Result] (st,e1))).2):=fun e1=>by
   unfold vf_special_j2
   rw [wantA (by simp) (by simp; omega) (by omega),Option.bind_some,done_e,Option.bind_some]; rfl
  rw [if_neg (by omega),if_neg (by omega),if_pos h]
  simp only [e,fail_e,Option.bind_some]
  by_cases k:u.Kind=2 <;> simp [h,k,follows]
 ·have e:∀ e1,vf_special_j3 a td st hs e1=some (false,a,td,(doneF (st,e1)).1,hs,(doneF (st,e1)).2):=fun e1=>by
   unfold vf_special_j3
   rw [done_e,Option.bind_some]
  rw [if_neg (by omega),if_neg (by omega),if_neg (by omega),if_pos h]
  simp only [e,fail_e,Option.bind_some]
  by_cases k:u.Kind=2 <;> simp [h,k,follows]
 ·obtain ⟨x,hx,-⟩:=at_r (l:=m.Boxes) (ibx (.inl h)).1 (ibx (.inl h)).2
  have e:(xg m i.A)=x:=by unfold xg; rw [hx]; rfl
  rw [if_neg (by omega),if_neg (by omega),if_neg (by omega),if_neg (by omega),if_pos h,Option.bind_some,hx,Option.bind_some,wantA (by simp) (by simp; omega) (by omega),Option.bind_some]
  simp [h,e,follows]
 ·obtain ⟨x,hx,-⟩:=at_r (l:=m.Boxes) (ibx (.inr h)).1 (ibx (.inr h)).2
  have e:(xg m i.A)=x:=by unfold xg; rw [hx]; rfl
  rw [if_neg (by omega),if_neg (by omega),if_neg (by omega),if_neg (by omega),if_neg (by omega),if_pos h,Option.bind_some,hx,Option.bind_some,push_e (by omega),Option.bind_some]
  simp [h,e,follows]
 ·have e:∀ b1,vf_special_j4 a td hs (popF (st,er)) b1=some (true,a,td,(popF (st,er)).2.1,hs,if b1=true then fv (popF (st,er)).2.2 9 else (popF (st,er)).2.2):=fun b1=>by
   unfold vf_special_j4 vf_special_j1
   cases b1 with
   | true=>rw [if_pos rfl,fail_e,Option.bind_some,if_pos rfl]
   | false=>rw [if_neg (by decide),if_neg (by decide)]
  rw [if_neg (by omega),if_neg (by omega),if_neg (by omega),if_neg (by omega),if_neg (by omega),if_neg (by omega),if_pos h,pop_e (by omega),Option.bind_some]
  simp only [e,plain_e,Option.bind_some]
  by_cases k:(popF (st,er)).2.2=0
  ·by_cases k1:plainT (popF (st,er)).1 <;> simp [h,k,k1,follows]
  ·simp [h,k,follows]
 ·have hA:=hmi.2.1
  obtain ⟨-,-,-,g4,g5⟩:=unitB_e (isa h)
  have hU:=hf.1.2
  rw [if_neg (by omega),if_pos h,args_e hf (isa h) hfu (by omega),Option.bind_some,i64_v (by omega),Option.bind_some,push_e (big _ (wantR_len _ _)),Option.bind_some]
  simp [h,follows]
 ·have hl:=popF_len (st,er)
  rw [if_neg (by omega),if_neg (by omega),if_neg (by omega),if_neg (by omega),if_neg (by omega),if_neg (by omega),if_neg (by omega),if_pos h,pop_e (by omega),Option.bind_some,gen_e (big _ hl) hr.pop,Option.bind_some]
  simp only [h]
  have hg:(genF m (popF (st,er)).2).2.1.length≤st.length:=by
   have:=popF_len (popF (st,er)).2
   unfold genF
   split
   ·exact Nat.le_trans this hl
   ·split
    ·exact Nat.le_trans this hl
    ·exact Nat.le_trans this hl
  generalize hq:genF m (popF (st,er)).2=q at hg
  obtain ⟨o,s'⟩:=q
  cases o with
  | none=>simp [follows,h]
  | some x =>
   have e:∀ e1,vf_special_j5 a td hs (some x,s') x e1=some (true,a,td,(pushF (s'.1,e1) x.Result).1,hs,(pushF (s'.1,e1) x.Result).2):=fun e1=>by
    unfold vf_special_j5 vf_special_j1
    rw [push_e (big _ hg),Option.bind_some]
   simp only [Option.isSome_some,if_true,Option.bind_some,fail_e,e]
   by_cases k:(popF (st,er)).1=x.Takes <;> simp [k,h,follows]
 ·have e:∀ e1,vf_special_j6 fu u a td st hs e1=some (true,a,td,(pushF (wantR [u.Result] (st,e1)) u.Takes).1,hs,(pushF (wantR [u.Result] (st,e1)) u.Takes).2):=fun e1=>by
   unfold vf_special_j6 vf_special_j1
   rw [wantA (by simp) (by simp; omega) (by omega),Option.bind_some]
   show (vf_push (wantR [u.Result] (st,e1)).1 (wantR [u.Result] (st,e1)).2 u.Takes).bind _=_
   rw [push_e (big _ (wantR_len _ _)),Option.bind_some]
  rw [if_neg (by omega),if_neg (by omega),if_neg (by omega),if_neg (by omega),if_neg (by omega),if_neg (by omega),if_neg (by omega),if_neg (by omega),if_pos h]
  simp only [e,fail_e,Option.bind_some]
  by_cases k:u.Kind=3 <;> simp [h,k,follows]
 ·have hg:(genF m (st,er)).2.1.length≤st.length:=by
   have:=popF_len (st,er)
   unfold genF
   split
   ·exact this
   ·split
    ·exact this
    ·exact this
  rw [if_neg (by omega),if_neg (by omega),if_neg (by omega),if_neg (by omega),if_neg (by omega),if_neg (by omega),if_neg (by omega),if_neg (by omega),if_neg (by omega),if_pos h,gen_e (by omega) hr,Option.bind_some,push_e (big _ hg),Option.bind_some]
  simp [h,follows]
theorem step_e (hf:VForm m) (hi:VInstr m u i) (hst:st.length≤1000) (hr:SOk (st,er)) (hm:MzM m) (hmi:MzC i) (hfu:1000≤fu) (hl:hs.length=u.Locals.length) (n1:i.Op≠21) (n2:i.Op≠22) :
  vf_step fu (ck m) u a td st hs er i=some (decide (follows i),a,td,(stackF m u i (st,er) hs).1,hasF i hs,(stackF m u i (st,er) hs).2):=by
 by_cases h22:22<i.Op
 ·have e:=special_e (fu:=fu) (a:=a) (td:=td) (hs:=hs) hf hi hst hr hm hmi hfu h22
  unfold vf_step vf_step_j3 vf_step_j4 vf_step_j7 vf_step_j8
  have k:∀ b:Bool,(if (b=true) then (true:Bool) else true)=true:=by decide
  rw [if_neg (by omega),if_neg (by omega),if_neg (by omega),if_neg (by omega),if_neg (by omega),if_neg (by omega),if_neg (by omega),if_pos (by omega),if_neg (by simp; omega),if_neg (by omega),if_neg (by simp; omega),if_pos (by omega),if_neg (by simp; omega),if_neg (by omega),if_neg (by simp; omega),if_neg (by omega),if_neg (by omega),e,Option.bind_some]
  have:hasF i hs=hs:=if_neg (by omega)
  rw [this]
 ·obtain ⟨⟨i1,-⟩,-,ilo,-⟩:=hi
  have big:∀ l:List Int,l.length≤st.length→l.length≤100000:=fun l h=>by omega
  have hop:i.Op=1∨i.Op=2∨i.Op=3∨i.Op=4∨i.Op=5∨i.Op=6∨i.Op=7∨(8≤i.Op∧i.Op≤12)∨(i.Op=13∨i.Op=14)∨(15≤i.Op∧i.Op≤18)∨(i.Op=19∨i.Op=20):=by omega
  unfold vf_step vf_step_j1 stackF hasF
  rcases hop with h | h | h | h | h | h | h | h | h | h | h
  ·rw [if_pos h,push_e (by omega),Option.bind_some]; simp [h,follows]
  ·rw [if_neg (by omega),if_pos h,push_e (by omega),Option.bind_some]; simp [h,follows]
  ·obtain ⟨x,hx,-⟩:=at_r (l:=u.Locals) (ilo (.inl h)).1 (ilo (.inl h)).2
   obtain ⟨y,hy,-⟩:=at_r (l:=hs) (ilo (.inl h)).1 (by rw [hl]; exact (ilo (.inl h)).2)
   have e:∀ e1,vf_step_j2 i u a td st hs e1=some (true,a,td,(pushF (st,e1) x).1,hs,(pushF (st,e1) x).2):=fun e1=>by
    unfold vf_step_j2 vf_step_j1
    rw [hx,Option.bind_some,push_e (by omega),Option.bind_some]
   have e2:lg u.Locals i.A=x:=by unfold lg; rw [hx]; rfl
   have e3:bg hs i.A=y:=by unfold bg; rw [hy]; rfl
   rw [if_neg (by omega),if_neg (by omega),if_pos h,hy,Option.bind_some]
   simp only [e,fail_e,Option.bind_some,e2,e3]
   cases y <;> simp [h,follows]
  ·obtain ⟨x,hx,-⟩:=at_r (l:=u.Locals) (ilo (.inr h)).1 (ilo (.inr h)).2
   obtain ⟨y,hy,-⟩:=at_r (l:=hs) (ilo (.inr h)).1 (by rw [hl]; exact (ilo (.inr h)).2)
   have e2:lg u.Locals i.A=x:=by unfold lg; rw [hx]; rfl
   rw [if_neg (by omega),if_neg (by omega),if_neg (by omega),if_pos h,hx,Option.bind_some,wantA (by simp) (by simp; omega) (by omega),Option.bind_some,hy,Option.bind_some]
   simp [h,e2,follows]
  ·rw [if_neg (by omega),if_neg (by omega),if_neg (by omega),if_neg (by omega),if_pos h,pop_e (by omega),Option.bind_some]; simp [h,follows]
  ·rw [if_neg (by omega),if_neg (by omega),if_neg (by omega),if_neg (by omega),if_neg (by omega),if_pos h,wantA (by simp) (by simp; omega) (by omega),Option.bind_some,push_e (big _ (wantR_len _ _)),Option.bind_some]; simp [h,follows]
  ·rw [if_neg (by omega),if_neg (by omega),if_neg (by omega),if_neg (by omega),if_neg (by omega),if_neg (by omega),if_pos h,wantA (by simp) (by simp; omega) (by omega),Option.bind_some,push_e (big _ (wantR_len _ _)),Option.bind_some]; simp [h,follows]
  ·unfold vf_step_j3 vf_step_j1
   rw [if_neg (by omega),if_neg (by omega),if_neg (by omega),if_neg (by omega),if_neg (by omega),if_neg (by omega),if_neg (by omega),if_pos (by omega),if_pos (by simp; omega),wantA (by simp) (by simp; omega) (by omega),Option.bind_some,push_e (big _ (wantR_len _ _)),Option.bind_some]
   rw [if_neg (by omega),if_neg (by omega),if_neg (by omega),if_neg (by omega),if_neg (by omega),if_neg (by omega),if_neg (by omega),if_pos h,if_neg (by omega),decide_eq_true (show follows i by unfold follows; omega)]
   rfl
  ·have e6:∀ e1,vf_step_j6 fu a td hs (popF (st,er)) e1=some (true,a,td,(pushF (wantR [(popF (st,er)).1] ((popF (st,er)).2.1,e1)) 2).1,hs,(pushF (wantR [(popF (st,er)).1] ((popF (st,er)).2.1,e1)) 2).2):=fun e1=>by
    unfold vf_step_j6 vf_step_j1
    have h1:=popF_len (st,er)
    rw [wantA (by simp) (by simp; omega) (big _ h1),Option.bind_some]
    show (vf_push (wantR [(popF (st,er)).1] ((popF (st,er)).2.1,e1)).1 (wantR [(popF (st,er)).1] ((popF (st,er)).2.1,e1)).2 2).bind _=_
    rw [push_e (big _ (Nat.le_trans (wantR_len [(popF (st,er)).1] ((popF (st,er)).2.1,e1)) h1)),Option.bind_some]
   have e5:∀ b1,vf_step_j5 fu a td hs (popF (st,er)) b1=vf_step_j6 fu a td hs (popF (st,er)) (if b1=true then fv (popF (st,er)).2.2 9 else (popF (st,er)).2.2):=fun b1=>by
    unfold vf_step_j5
    cases b1 with
    | true=>rw [if_pos rfl,fail_e,Option.bind_some,if_pos rfl]
    | false=>rw [if_neg (by decide),if_neg (by decide)]
   have e4:vf_step_j4 fu (ck m) i u a td st hs er true=some (true,a,td,(pushF (wantR [(popF (st,er)).1] ((popF (st,er)).2.1,if (popF (st,er)).1≠1∧(popF (st,er)).1≠2 then fv (popF (st,er)).2.2 9 else (popF (st,er)).2.2)) 2).1,hs,(pushF (wantR [(popF (st,er)).1] ((popF (st,er)).2.1,if (popF (st,er)).1≠1∧(popF (st,er)).1≠2 then fv (popF (st,er)).2.2 9 else (popF (st,er)).2.2)) 2).2):=by
    unfold vf_step_j4
    rw [if_pos rfl,pop_e (by omega),Option.bind_some]
    simp only [e5,e6]
    by_cases k1:(popF (st,er)).1=1 <;> by_cases k2:(popF (st,er)).1=2 <;> simp [k1,k2]
   unfold vf_step_j3
   rw [if_neg (by omega),if_neg (by omega),if_neg (by omega),if_neg (by omega),if_neg (by omega),if_neg (by omega),if_neg (by omega),if_pos (by omega),if_neg (by simp; omega)]
   have ed:(if i.Op=13 then vf_step_j4 fu (ck m) i u a td st hs er true else vf_step_j4 fu (ck m) i u a td st hs er (decide (i.Op=14)))=vf_step_j4 fu (ck m) i u a td st hs er true:=by
    rcases h with h | h
    ·rw [if_pos h]
    ·rw [if_neg (by omega),decide_eq_true h]
   rw [ed,e4,if_neg (show ¬ i.Op=1 by omega),if_neg (show ¬ i.Op=2 by omega),if_neg (show ¬ i.Op=3 by omega),if_neg (show ¬ i.Op=4 by omega),if_neg (show ¬ i.Op=5 by omega),if_neg (show ¬ i.Op=6 by omega),if_neg (show ¬ i.Op=7 by omega),if_neg (show ¬ (8≤i.Op∧i.Op≤12) by omega),if_pos h,if_neg (show ¬ i.Op=4 by omega),decide_eq_true (show follows i by unfold follows; omega)]
  ·unfold vf_step_j3 vf_step_j4 vf_step_j7 vf_step_j1
   rw [if_neg (by omega),if_neg (by omega),if_neg (by omega),if_neg (by omega),if_neg (by omega),if_neg (by omega),if_neg (by omega),if_pos (by omega),if_neg (by simp; omega),if_neg (by omega),if_neg (by simp; omega),if_pos (by omega),if_pos (by simp; omega),wantA (by simp) (by simp; omega) (by omega),Option.bind_some,push_e (big _ (wantR_len _ _)),Option.bind_some]
   rw [if_neg (by omega),if_neg (by omega),if_neg (by omega),if_neg (by omega),if_neg (by omega),if_neg (by omega),if_neg (by omega),if_neg (by omega),if_neg (by omega),if_pos h,if_neg (by omega),decide_eq_true (show follows i by unfold follows; omega)]
   rfl
  ·have e8:vf_step_j8 fu (ck m) i u a td st hs er true=some (true,a,td,(pushF (wantR [2,2] (st,er)) 2).1,hs,(pushF (wantR [2,2] (st,er)) 2).2):=by
    unfold vf_step_j8 vf_step_j1
    rw [if_pos rfl,wantA (by simp) (by simp; omega) (by omega),Option.bind_some,push_e (big _ (wantR_len _ _)),Option.bind_some]
    rfl
   unfold vf_step_j3 vf_step_j4 vf_step_j7
   rw [if_neg (by omega),if_neg (by omega),if_neg (by omega),if_neg (by omega),if_neg (by omega),if_neg (by omega),if_neg (by omega),if_pos (by omega),if_neg (by simp; omega),if_neg (by omega),if_neg (by simp; omega),if_pos (by omega),if_neg (by simp; omega)]
   have ed:(if i.Op=19 then vf_step_j8 fu (ck m) i u a td st hs er true else vf_step_j8 fu (ck m) i u a td st hs er (decide (i.Op=20)))=vf_step_j8 fu (ck m) i u a td st hs er true:=by
    rcases h with h | h
    ·rw [if_pos h]
    ·rw [if_neg (by omega),decide_eq_true h]
   rw [ed,e8]
   rw [if_neg (by omega),if_neg (by omega),if_neg (by omega),if_neg (by omega),if_neg (by omega),if_neg (by omega),if_neg (by omega),if_neg (by omega),if_neg (by omega),if_neg (by omega),if_pos h,if_neg (by omega),decide_eq_true (show follows i by unfold follows; omega)]
theorem step_21 (h:i.Op=21):vf_step fu (ck m) u a td st hs er i=(vf_to (ck m) u a td st hs er i.A).bind fun r=>some (false,r):=by
 unfold vf_step vf_step_j3 vf_step_j4 vf_step_j7 vf_step_j8
 rw [if_neg (by omega),if_neg (by omega),if_neg (by omega),if_neg (by omega),if_neg (by omega),if_neg (by omega),if_neg (by omega),if_pos (by omega),if_neg (by simp; omega),if_neg (by omega),if_neg (by simp; omega),if_pos (by omega),if_neg (by simp; omega),if_neg (by omega),if_neg (by simp; omega),if_pos (by omega)]
theorem step_22 (hst:st.length≤1000) (hfu:1000≤fu) (h:i.Op=22):vf_step fu (ck m) u a td st hs er i=(vf_to (ck m) u a td (wantR [2] (st,er)).1 hs (wantR [2] (st,er)).2 i.A).bind fun r=>some (true,r):=by
 unfold vf_step vf_step_j3 vf_step_j4 vf_step_j7 vf_step_j8 vf_step_j1
 rw [if_neg (by omega),if_neg (by omega),if_neg (by omega),if_neg (by omega),if_neg (by omega),if_neg (by omega),if_neg (by omega),if_pos (by omega),if_neg (by simp; omega),if_neg (by omega),if_neg (by simp; omega),if_pos (by omega),if_neg (by simp; omega),if_neg (by omega),if_neg (by simp; omega),if_neg (by omega),if_pos h,wantA (by simp) (by simp; omega) (by omega),Option.bind_some]
 rfl
end
end Go.Y
namespace Go.Y
open Go.Wk Go.Xt
theorem mget_put {β:Type}:∀ (m:List (Int×β)) (k q:Int) (x:β),mget (mput m k x) q=if q=k then some x else mget m q
 | [],k,q,x=>by
  unfold mput mget mget
  by_cases h:q=k
  ·rw [if_pos h.symm,if_pos h]
  ·rw [if_neg (fun e=>h e.symm),if_neg h]
 | (a,b)::m,k,q,x=>by
  unfold mput
  by_cases h:a=k
  ·rw [if_pos h]
   unfold mget
   by_cases h1:q=k
   ·rw [if_pos h1.symm,if_pos h1]
   ·rw [if_neg (fun e=>h1 e.symm),if_neg h1,if_neg (by omega)]
  ·rw [if_neg h]
   unfold mget
   by_cases h1:q=k
   ·rw [if_neg (by omega),mget_put m k q x,if_pos h1,if_pos h1]
   ·by_cases h2:a=q
    ·rw [if_pos h2,if_neg h1,if_pos h2]
    ·rw [if_neg h2,if_neg h1,if_neg h2,mget_put m k q x,if_neg h1]
abbrev Ats:=List (Int×TVs)
def Blo (a b:List Bool):Prop:=a.length=b.length∧∀ j:Nat,a[j]?=some true→b[j]?=some true
theorem Blo.rf (a:List Bool):Blo a a:=⟨rfl,fun _ h=>h⟩
theorem Blo.tr {a b c:List Bool} (h:Blo a b) (g:Blo b c):Blo a c:=⟨h.1.trans g.1,fun j e=>g.2 j (h.2 j e)⟩
def meet (a b:List Bool):List Bool:=List.zipWith (· && ·) a b
theorem meet_len {a b:List Bool} (h:a.length=b.length):(meet a b).length=a.length:=by unfold meet; simp [h]
theorem meet_get (a b:List Bool) (j:Nat):(meet a b)[j]?=some true ↔ a[j]?=some true∧b[j]?=some true:=by
 unfold meet
 rw [List.getElem?_zipWith]
 cases a[j]? with
 | none=>simp
 | some x=>cases b[j]? with
  | none=>simp
  | some y=>simp
theorem meet_l {a b:List Bool} (h:a.length=b.length):Blo (meet a b) a:=⟨meet_len h,fun j e=>((meet_get a b j).1 e).1⟩
theorem meet_r {a b:List Bool} (h:a.length=b.length):Blo (meet a b) b:=⟨(meet_len h).trans h,fun j e=>((meet_get a b j).1 e).2⟩
theorem meet_g {a b c:List Bool} (h:Blo c a) (g:Blo c b):Blo c (meet a b):=⟨by rw [meet_len (h.1.symm.trans g.1)]; exact h.1,fun j e=>(meet_get a b j).2 ⟨h.2 j e,g.2 j e⟩⟩
def trues (h:List Bool):Nat:=h.count true
theorem trues_le (h:List Bool):trues h≤h.length:=List.count_le_length
theorem meet_tr:∀ (a b:List Bool),a.length=b.length→trues (meet a b)≤trues a∧(meet a b≠a→trues (meet a b)<trues a)
 | [],b,h=>⟨Nat.le_refl _,fun g=>absurd rfl g⟩
 | x::a,[],h=>by simp at h
 | x::a,y::b,h=>by
  obtain ⟨h1,h2⟩:=meet_tr a b (by simpa using h)
  have e:meet (x::a) (y::b)=(x && y)::meet a b:=rfl
  rw [e]
  unfold trues at *
  simp only [List.count_cons]
  cases x <;> cases y <;> simp at h2 ⊢ <;> refine ⟨by omega,?_⟩
  ·exact h2
  ·exact h2
  ·omega
  ·intro g; exact h2 g
def valW (a:Ats) (q:Int):Nat:=match mget a q with
 | none=>201
 | some x=>trues x.has
def Wt (C:Nat) (a:Ats) (td:List Int):Nat:=td.length+((List.range C).map fun q:Nat=>valW a (q:Int)).sum
theorem sum_change {f g:Nat→Nat}:∀ (C:Nat),(∀ q,q<C→f q=g q)→((List.range C).map f).sum=((List.range C).map g).sum
 | 0,h=>rfl
 | C+1,h=>by
  rw [List.range_succ,List.map_append,List.map_append,List.sum_append,List.sum_append,sum_change C fun q hq=>h q (by omega)]
  simp [h C (by omega)]
theorem sum_one {f g:Nat→Nat} {p:Nat}:∀ (C:Nat),p<C→(∀ q,q≠p→f q=g q)→((List.range C).map f).sum+g p=((List.range C).map g).sum+f p
 | 0,h,_=>by omega
 | C+1,h,e=>by
  rw [List.range_succ,List.map_append,List.map_append,List.sum_append,List.sum_append]
  simp only [List.map_cons,List.map_nil,List.sum_cons,List.sum_nil]
  by_cases hp:p=C
  ·subst hp
   rw [sum_change p fun q hq=>e q (by omega)]
   omega
  ·have:=sum_one C (by omega) e
   have:=e C (fun h=>hp h.symm)
   omega
def AtOk (C L:Nat) (a:Ats):Prop:=∀ p x,mget a p=some x→(0≤p∧p<C)∧x.has.length=L∧SOk (x.stack,0)
def Fits (a:Ats) (p:Int) (st:List Int) (hs:List Bool):Prop:=∃ y,mget a p=some y∧y.stack=st∧Blo y.has hs
structure ToR (C L:Nat) (st:List Int) (hs:List Bool) (p:Int) (a:Ats) (td:List Int) (er:Int) (a':Ats) (td':List Int) (er':Int):Prop where
 ok:AtOk C L a'
 w:Wt C a' td'≤Wt C a td
 keep:er≠0→er'=er
 good:er=0→p<C→(∀ x,mget a p=some x→x.stack=st)→er'=0
 fits:er'=0→er=0∧Fits a' p st hs
 mono:er'=0→∀ q x,mget a q=some x→∃ x',mget a' q=some x'∧x'.stack=x.stack∧Blo x'.has x.has∧(x'=x∨q ∈ td')
 new:er'=0→∀ q x',mget a' q=some x'→q ∈ td'∨mget a q=some x'
 todo:er'=0→(∀ q ∈ td',q ∈ td∨q=p)∧∀ q ∈ td,q ∈ td'
 org:er'=0→∀ h,Blo h hs→(∀ x,mget a p=some x→Blo h x.has)→∀ x',mget a' p=some x'→Blo h x'.has
 oth:er'=0→∀ q,q≠p→mget a' q=mget a q
theorem ToR.same {C L:Nat} {st:List Int} {hs:List Bool} {p:Int} {a:Ats} {td:List Int} {er er':Int} (ok:AtOk C L a) (h:er'≠0) (k:er≠0→er'=er) (g:er=0→¬ (p<C∧∀ x,mget a p=some x→x.stack=st)):ToR C L st hs p a td er a td er' :=
 ⟨ok,Nat.le_refl _,k,fun h0 h1 h2=>absurd ⟨h1,h2⟩ (g h0),fun h0=>absurd h0 h,fun h0=>absurd h0 h,fun h0=>absurd h0 h,fun h0=>absurd h0 h,fun h0=>absurd h0 h,fun h0=>absurd h0 h⟩
theorem equal_e (a b:List Int) (ha:a.length≤100000):sl_equal a b=some (decide (a=b)):=by
 have key:∀ (n i:Nat),a.length=b.length→i≤a.length→a.length - i<n→sl_equal_l1 a b n (i:Int)=some (decide (a.drop i=b.drop i)):=by
  intro n
  induction n with
  | zero=>intro i _ _ h; omega
  | succ n ih =>
   intro i hl hi hn
   unfold sl_equal_l1
   by_cases c:i<a.length
   ·rw [if_pos (by omega),at_v c,Option.bind_some,at_v (by omega),Option.bind_some,List.drop_eq_getElem_cons c,List.drop_eq_getElem_cons (by omega:i<b.length)]
    by_cases e:a[i]=b[i]
    ·rw [if_neg (fun g=>g e),i64_v (by omega),Option.bind_some]
     have:=ih (i+1) hl c (by omega)
     rw [show ((i:Int)+1)=((i+1:Nat):Int) by omega,this]
     simp only [e,List.cons.injEq,true_and]
    ·rw [if_pos e]
     congr 1
     exact (decide_eq_false fun g=>e (List.cons.inj g).1).symm
   ·rw [if_neg (by omega),List.drop_of_length_le (by omega),List.drop_of_length_le (by omega)]; simp
 unfold sl_equal
 by_cases h:a.length=b.length
 ·rw [if_neg (by omega)]
  have:=key (a.length+1) 0 h (by omega) (by omega)
  simpa using this
 ·rw [if_pos (by omega)]
  congr 1
  exact (decide_eq_false fun e=>h (by rw [e])).symm
theorem to_l1_e {p:Int} {a:Ats} {td st:List Int} {hs:List Bool} {er:Int} {x:TVs} (htd:td.length≤3000000000):∀ (n i:Nat) (b:Bool) (l:List Bool),l.length=x.has.length→hs.length=x.has.length→x.has.length≤1000000→i≤l.length→l.length - i<n →
  vf_to_l1 p a td st hs er x n b (i:Int) l=some (mput a p ⟨x.stack,l.take i++meet (l.drop i) (hs.drop i)⟩,if b=true∨meet (l.drop i) (hs.drop i)≠l.drop i then td++[p] else td,st,hs,er):=by
 intro n
 induction n with
 | zero=>intro i b l _ _ _ _ h; omega
 | succ n ih =>
  intro i b l h1 h2 h0 h3 h4
  unfold vf_to_l1
  by_cases c:i<l.length
  ·have cx:i<hs.length:=by omega
   rw [if_pos (by omega),at_v c,Option.bind_some,List.drop_eq_getElem_cons c,List.drop_eq_getElem_cons cx]
   have em:∀ x y (u v:List Bool),meet (x::u) (y::v)=(x && y)::meet u v:=fun _ _ _ _=>rfl
   have ei:((i:Int)+1)=((i+1:Nat):Int):=by omega
   have stay:∀ (hb:(l[i] && hs[i])=l[i]),vf_to_j1 b (i:Int) l (vf_to_l1 p a td st hs er x n) false=some (mput a p ⟨x.stack,l.take i++meet (l[i]::l.drop (i+1)) (hs[i]::hs.drop (i+1))⟩,if b=true∨meet (l[i]::l.drop (i+1)) (hs[i]::hs.drop (i+1))≠l[i]::l.drop (i+1) then td++[p] else td,st,hs,er):=fun hb=>by
    unfold vf_to_j1
    rw [if_neg (by decide),i64_v (by omega),Option.bind_some,ei,ih (i+1) b l h1 h2 h0 c (by omega),em,hb]
    have e1:l.take (i+1)++meet (l.drop (i+1)) (hs.drop (i+1))=l.take i++l[i]::meet (l.drop (i+1)) (hs.drop (i+1)):=by
     rw [← List.take_append_getElem c,List.append_assoc]; rfl
    rw [e1]
    simp only [ne_eq,List.cons.injEq,true_and]
   cases hli:l[i] with
   | false =>
    rw [if_neg (by decide)]
    have:=stay (by rw [hli]; rfl)
    rw [hli] at this
    exact this
   | true =>
    rw [if_pos rfl,at_v cx,Option.bind_some]
    cases hsi:hs[i] with
    | true =>
     have:=stay (by rw [hli,hsi]; rfl)
     rw [hli,hsi] at this
     exact this
    | false =>
     unfold vf_to_j1
     rw [if_pos (by decide),at_v c,Option.bind_some,i64_v (by omega),Option.bind_some,ei,Int.toNat_natCast,ih (i+1) true (l.set i false) (by simpa using h1) h2 h0 (by simp; omega) (by simp; omega)]
     have e1:(l.set i false).take (i+1)++meet ((l.set i false).drop (i+1)) (hs.drop (i+1))=l.take i++meet (true::l.drop (i+1)) (false::hs.drop (i+1)):=by
      rw [em,← List.take_append_getElem (by simpa using c),List.append_assoc,List.take_set_of_le (by omega)]
      simp [List.drop_set]
     rw [e1]
     simp [em]
  ·rw [if_neg (by omega),List.drop_of_length_le (by omega),List.drop_of_length_le (by omega),List.take_of_length_le (by omega)]
   have e1:meet ([]:List Bool) []=[]:=rfl
   rw [e1,List.append_nil]
   cases b with
   | true =>
    unfold app
    rw [if_pos rfl,if_pos (by simp; omega),Option.bind_some]
    simp
   | false=>simp
section
variable {m:TModule} {u:TUnit} {a:Ats} {td st:List Int} {hs:List Bool} {er p:Int} {L:Nat}
theorem to_e (hC:u.Code.length≤4000) (hL:hs.length=L) (hL2:L≤200) (hA:AtOk u.Code.length L a) (hp:0≤p∧p≤u.Code.length) (hs1:SOk (st,er)) (hst:st.length≤1000) (hW:Wt u.Code.length a td≤3000000000) :
  ∃ a' td' er',vf_to (ck m) u a td st hs er p=some (a',td',st,hs,er')∧ToR u.Code.length L st hs p a td er a' td' er':=by
 have htd:td.length≤3000000000:=by unfold Wt at hW; omega
 unfold vf_to
 by_cases c0:er≠0
 ·rw [if_pos c0]
  exact ⟨_,_,_,rfl,.same hA c0 (fun _=>rfl) fun h=>absurd h c0⟩
 rw [if_neg c0]
 have c0:er=0:=by omega
 subst c0
 by_cases c1:p=(u.Code.length:Int)
 ·rw [if_pos c1,fail_e,Option.bind_some]
  exact ⟨_,_,_,rfl,.same hA (fv_ne (by decide)) (fun h=>absurd rfl h) fun _ ⟨h,_⟩=>by omega⟩
 rw [if_neg c1]
 obtain ⟨pn,rfl⟩:=Int.eq_ofNat_of_zero_le hp.1
 have hpn:pn<u.Code.length:=by omega
 have hsum:∀ (x:TVs),((List.range u.Code.length).map fun q:Nat=>valW (mput a (pn:Int) x) (q:Int)).sum+valW a (pn:Int)=((List.range u.Code.length).map fun q:Nat=>valW a (q:Int)).sum+trues x.has:=fun x=>by
  have:=sum_one (f:=fun q:Nat=>valW (mput a (pn:Int) x) (q:Int)) (g:=fun q:Nat=>valW a (q:Int)) (p:=pn) u.Code.length hpn (fun q hq=>by unfold valW; rw [mget_put,if_neg (by omega)])
  have e:valW (mput a (pn:Int) x) (pn:Int)=trues x.has:=by unfold valW; rw [mget_put,if_pos rfl]
  simp only [e] at this
  exact this
 cases hg:mget a (pn:Int) with
 | none =>
  rw [if_neg (by decide)]
  have hh:vf_copiedr ⟨st,hs⟩=some ⟨st,hs⟩:=by
   unfold vf_copiedr vf_copiedr_j1 small
   rw [if_pos (show st.length≤65536 by omega),Option.bind_some,if_pos (show hs.length≤65536 by omega),Option.bind_some]
  rw [hh,Option.bind_some]
  unfold vf_to_j2 app
  rw [if_pos (by simp; omega),Option.bind_some]
  refine ⟨_,_,_,rfl,?_⟩
  have hmg:∀ q,mget (mput a (pn:Int) ⟨st,hs⟩) q=if q=(pn:Int) then some ⟨st,hs⟩ else mget a q:=fun q=>mget_put _ _ _ _
  refine ⟨?_,?_,fun h=>absurd rfl h,fun _ _ _=>rfl,fun _=>⟨rfl,_,by rw [hmg,if_pos rfl],rfl,.rf _⟩,?_,?_,fun _=>⟨fun q hq=>by simpa using hq,fun q hq=>by simp [hq]⟩,?_,fun _ q hq=>by rw [hmg,if_neg hq]⟩
  ·intro q x hx
   rw [hmg] at hx
   by_cases e:q=(pn:Int)
   ·rw [if_pos e] at hx
    obtain rfl:=Option.some.inj hx
    exact ⟨by omega,hL,hs1⟩
   ·rw [if_neg e] at hx; exact hA q x hx
  ·have:=hsum ⟨st,hs⟩
   have e:valW a (pn:Int)=201:=by unfold valW; rw [hg]
   have:=trues_le hs
   unfold Wt
   simp only [List.length_append,List.length_cons,List.length_nil] at *
   omega
  ·intro _ q x hx
   by_cases e:q=(pn:Int)
   ·rw [e,hg] at hx; cases hx
   ·exact ⟨x,by rw [hmg,if_neg e,hx],rfl,.rf _,.inl rfl⟩
  ·intro _ q x' hx
   by_cases e:q=(pn:Int)
   ·exact .inl (by simp [e])
   ·rw [hmg,if_neg e] at hx; exact .inr hx
  ·intro _ h h1 h2 x' hx
   rw [hmg,if_pos rfl] at hx
   obtain rfl:=Option.some.inj hx
   exact h1
 | some x =>
  obtain ⟨-,hxl,hxs⟩:=hA _ _ hg
  have hxs':=hxs.le rfl
  simp only at hxs'
  rw [if_pos (by rfl),Option.bind_some,equal_e _ _ (by omega),Option.bind_some]
  by_cases e:x.stack=st
  ·rw [if_pos (by simpa using e)]
   have:=to_l1_e (p:=(pn:Int)) (a:=a) (td:=td) (st:=st) (hs:=hs) (er:=0) (x:=x) htd (x.has.length+1) 0 false x.has rfl (by omega) (by omega) (by omega) (by omega)
   rw [show ((0:Nat):Int)=0 from rfl] at this
   rw [this]
   refine ⟨_,_,_,rfl,?_⟩
   simp only [List.take_zero,List.drop_zero,List.nil_append,Bool.false_eq_true,false_or]
   have hl:x.has.length=hs.length:=by omega
   have hmg:∀ q,mget (mput a (pn:Int) ⟨x.stack,meet x.has hs⟩) q=if q=(pn:Int) then some ⟨x.stack,meet x.has hs⟩ else mget a q:=fun q=>mget_put _ _ _ _
   have hin:∀ q ∈ td,q ∈ (if meet x.has hs≠x.has then td++[(pn:Int)] else td):=fun q hq=>by split <;> simp [hq]
   refine ⟨?_,?_,fun h=>absurd rfl h,fun _ _ _=>rfl,fun _=>⟨rfl,⟨x.stack,meet x.has hs⟩,by rw [hmg,if_pos rfl],e,meet_r hl⟩,?_,?_,fun _=>⟨fun q hq=>?_,hin⟩,?_,fun _ q hq=>by rw [hmg,if_neg hq]⟩
   ·intro q y hy
    rw [hmg] at hy
    by_cases e1:q=(pn:Int)
    ·rw [if_pos e1] at hy
     obtain rfl:=Option.some.inj hy
     exact ⟨by omega,(meet_len hl).trans hxl,hxs⟩
    ·rw [if_neg e1] at hy; exact hA q y hy
   ·have h1:=hsum ⟨x.stack,meet x.has hs⟩
    have h2:valW a (pn:Int)=trues x.has:=by unfold valW; rw [hg]
    obtain ⟨h3,h4⟩:=meet_tr x.has hs hl
    unfold Wt
    simp only at h1
    split
    ·rename_i h5
     have:=h4 h5
     simp only [List.length_append,List.length_cons,List.length_nil]
     omega
    ·omega
   ·intro _ q y hy
    by_cases e1:q=(pn:Int)
    ·subst e1
     rw [hg] at hy
     obtain rfl:=Option.some.inj hy
     refine ⟨⟨x.stack,meet x.has hs⟩,by rw [hmg,if_pos rfl],rfl,meet_l hl,?_⟩
     by_cases h5:meet x.has hs=x.has
     ·exact .inl (by rw [h5])
     ·exact .inr (by rw [if_pos h5]; simp)
    ·exact ⟨y,by rw [hmg,if_neg e1,hy],rfl,.rf _,.inl rfl⟩
   ·intro _ q y hy
    by_cases e1:q=(pn:Int)
    ·subst e1
     by_cases h5:meet x.has hs=x.has
     ·rw [hmg,if_pos rfl,h5] at hy
      exact .inr (by rw [hg,← hy])
     ·exact .inl (by rw [if_pos h5]; simp)
    ·rw [hmg,if_neg e1] at hy; exact .inr hy
   ·split at hq
    ·simpa using hq
    ·exact .inl hq
   ·intro _ h h1 h2 y hy
    rw [hmg,if_pos rfl] at hy
    obtain rfl:=Option.some.inj hy
    exact meet_g (h2 x hg) h1
  ·rw [if_neg (by simpa using e),fail_e,Option.bind_some]
   exact ⟨_,_,_,rfl,.same hA (fv_ne (by decide)) (fun h=>absurd rfl h) fun _ ⟨_,h⟩=>e (h x hg)⟩
end
end Go.Y
namespace Go.Y
open Go.Wk Go.Xt
theorem pushF_len (s:SE) (t:Int):(pushF s t).1.length=s.1.length+1:=by simp [pushF]
theorem genF_len (m:TModule) (s:SE):(genF m s).2.1.length≤s.1.length:=by
 have:=popF_len s
 unfold genF
 split
 ·exact this
 ·split
  ·exact this
  ·exact this
theorem genF_ok {m:TModule} {s:SE} (h:SOk s):SOk (genF m s).2:=by
 unfold genF
 split
 ·exact h.pop
 ·split
  ·exact h.pop
  ·exact h.pop.er (by decide)
theorem iteP {α:Type} {P:α→Prop} {c:Prop} [Decidable c] {a b:α} (h1:c→P a) (h2:¬ c→P b):P (if c then a else b):=by
 by_cases c:c
 ·rw [if_pos c]; exact h1 c
 ·rw [if_neg c]; exact h2 c
theorem stackF_len (m:TModule) (u:TUnit) (i:TInstr) (s:SE) (hs:List Bool):(stackF m u i s hs).1.length≤s.1.length+1:=by
 have w:∀ l (s':SE),s'.1.length≤s.1.length→(wantR l s').1.length≤s.1.length+1:=fun l s' h=>Nat.le_trans (wantR_len l s') (by omega)
 have pl:∀ (s':SE) t,s'.1.length≤s.1.length→(pushF s' t).1.length≤s.1.length+1:=fun s' t h=>by rw [pushF_len]; omega
 have pw:∀ l (s':SE) t,s'.1.length≤s.1.length→(pushF (wantR l s') t).1.length≤s.1.length+1:=fun l s' t h=>pl _ _ (Nat.le_trans (wantR_len l s') h)
 have hp:=popF_len s
 have r:=Nat.le_refl s.1.length
 have P:=@iteP SE (fun z=>z.1.length≤s.1.length+1)
 unfold stackF
 refine P (fun _=>pl _ _ r) fun _=>P (fun _=>pl _ _ r) fun _=>P (fun _=>pl _ _ r) fun _=>P (fun _=>w _ _ r) fun _=>P (fun _=>Nat.le_trans hp (Nat.le_succ _)) fun _ =>
  P (fun _=>pw _ _ _ r) fun _=>P (fun _=>pw _ _ _ r) fun _=>P (fun _=>pw _ _ _ r) fun _=>P (fun _=>pw _ _ _ hp) fun _=>P (fun _=>pw _ _ _ r) fun _=>P (fun _=>pw _ _ _ r) fun _ =>
  P (fun _=>Nat.le_succ _) fun _=>P (fun _=>w _ _ r) fun _=>P (fun _=>pw _ _ _ r) fun _=>P (fun _=>w _ _ r) fun _=>P (fun _=>Nat.le_succ _) fun _=>P (fun _=>w _ _ r) fun _=>P (fun _=>pl _ _ r) fun _ =>
  P (fun _=>Nat.le_trans hp (Nat.le_succ _)) fun _=>P (fun _=>pw _ _ _ r) fun _=>P (fun _=>?_) fun _=>P (fun _=>pw _ _ _ r) fun _=>P (fun _=>pl _ _ (genF_len m s)) fun _=>Nat.le_succ _
 have hg:=Nat.le_trans (genF_len m (popF s).2) hp
 generalize genF m (popF s).2=q at hg
 obtain ⟨o,s'⟩:=q
 cases o with
 | none=>exact Nat.le_trans hg (Nat.le_succ _)
 | some x=>exact pl _ _ hg
theorem lg_r {l:List Int} (h:∀ y ∈ l,R64 y) (i:Int):R64 (lg l i):=by
 unfold lg
 cases hx:at_ l i with
 | none=>show R64 0; unfold R64; omega
 | some x=>exact h x (at_mem hx).1
theorem ug_z {m:TModule} (hm:MzM m) (i:Int):MzU (ug m i):=by
 unfold ug
 cases hx:at_ m.Units i with
 | none=>refine ⟨?_,?_,?_,?_,⟨by decide,fun y hy=>by cases hy⟩,by decide,fun y hy=>by cases hy⟩ <;> (show R64 0; unfold R64; omega)
 | some x=>exact hm.2.2 x (at_mem hx).1
theorem xg_z {m:TModule} (hm:MzM m) (i:Int):MzB (xg m i):=by
 unfold xg
 cases hx:at_ m.Boxes i with
 | none=>constructor <;> (show R64 0; unfold R64; omega)
 | some x=>exact hm.1.2 x (at_mem hx).1
theorem stackF_ok {m:TModule} {u:TUnit} {i:TInstr} {s:SE} {hs:List Bool} (hm:MzM m) (hf:VForm m) (hu:MzU u) (hi:VInstr m u i) (h:SOk s):SOk (stackF m u i s hs):=by
 have r1:R64 1:=by unfold R64; omega
 have r2:R64 2:=by unfold R64; omega
 have rl:=lg_r hu.2.2.2.2.1.2 i.A
 have rg:=ug_z hm i.A
 have rx:=xg_z hm i.A
 have rh:i.Op=29→R64 (10+i.A):=fun h29=>by
  obtain ⟨-,-,-,g4,g5⟩:=unitB_e (hi.2.2.2.2.2.1 h29)
  have:=hf.1.2
  unfold R64; omega
 have se:∀ {s:SE} {x e:Int},SOk s→x≠0→(e=s.2∨e=fv s.2 x)→SOk (s.1,e):=fun {s x e} h hx he=>by
  rcases he with he | he
  ·rw [he]; exact h
  ·rw [he]; exact h.er hx
 have ite:∀ {c:Prop} [Decidable c] {a b:Int},(if c then a else b)=b∨(if c then a else b)=a:=fun {c} _ {a b}=>by
  by_cases c:c
  ·rw [if_pos c]; exact .inr rfl
  ·rw [if_neg c]; exact .inl rfl
 have ite':∀ {c:Prop} [Decidable c] {a b:Int},(if c then a else b)=a∨(if c then a else b)=b:=fun {c} _ {a b}=>ite.symm
 have P:=@iteP SE SOk
 unfold stackF
 refine P (fun _=>h.push r1) fun _=>P (fun _=>h.push r2) fun _=>P (fun _=>SOk.push (se h (by decide) ite') rl) fun _=>P (fun _=>h.want _) fun _=>P (fun _=>h.pop) fun _ =>
  P (fun _=>(h.want _).push r1) fun _=>P (fun _=>(h.want _).push r2) fun _=>P (fun _=>(h.want _).push r1) fun _=>P (fun _=>SOk.push (SOk.want _ (se h.pop (by decide) ite)) r2) fun _=>P (fun _=>(h.want _).push r2) fun _=>P (fun _=>(h.want _).push r2) fun _ =>
  P (fun _=>h) fun _=>P (fun _=>h.want _) fun _=>P (fun _=>(h.want _).push rg.2.2.1) fun _=>P (fun _=>se (SOk.want _ (se h (by decide) ite)) (by decide) ite) fun _=>P (fun _=>se (se h (by decide) ite:SOk (s.1,_)) (by decide) ite) fun _ =>
  P (fun _=>h.want _) fun _=>P (fun _=>h.push rx.1) fun _=>P (fun _=>se h.pop (by decide) ite) fun _=>P (fun h29=>(h.want _).push (rh h29)) fun _=>P (fun _=>?_) fun _=>P (fun _=>SOk.push (SOk.want _ (se h (by decide) ite)) hu.2.2.2.1) fun _=>P (fun _=>(genF_ok h).push r2) fun _=>h
 have hg:=genF_ok (m:=m) h.pop
 have hx:∀ x,(genF m (popF s).2).1=some x→MzU x:=fun x e=>by
  unfold genF at e
  split at e
  ·cases e
  ·split at e
   ·obtain rfl:=Option.some.inj e
    exact ug_z hm _
   ·cases e
 generalize genF m (popF s).2=q at hg hx
 obtain ⟨o,s'⟩:=q
 cases o with
 | none=>exact hg
 | some x=>exact SOk.push (se hg (by decide) ite) (hx x rfl).2.2.1
theorem hasF_len (i:TInstr) (hs:List Bool):(hasF i hs).length=hs.length:=by unfold hasF; split <;> simp
theorem hasF_mono {i:TInstr} {a b:List Bool} (h:Blo a b):Blo (hasF i a) (hasF i b):=by
 unfold hasF
 split
 ·refine ⟨by simpa using h.1,fun j e=>?_⟩
  have hl:=h.1
  rw [List.getElem?_set] at e ⊢
  by_cases c:i.A.toNat=j
  ·rw [if_pos c] at e ⊢
   split at e
   ·rw [if_pos (by omega)]
   ·cases e
  ·rw [if_neg c] at e ⊢
   exact h.2 j e
 ·exact h
theorem bg_mono {a b:List Bool} {i:Int} (h:Blo a b) (g:bg a i=true):bg b i=true:=by
 unfold bg at_ at *
 split
 ·rename_i h0
  rw [if_pos h0] at g
  cases e:a[i.toNat]? with
  | none=>rw [e] at g; cases g
  | some x =>
   rw [e] at g
   have:x=true:=g
   rw [h.2 _ (by rw [e,this])]; rfl
 ·rename_i h0
  rw [if_neg h0] at g; cases g
theorem pushF_er {s:SE} {t:Int} (h:(pushF s t).2=0):s.2=0:=by
 unfold pushF at h
 simp only at h
 split at h
 ·exact absurd h (fv_ne (by decide))
 ·exact h
theorem stackF_mono {m:TModule} {u:TUnit} {i:TInstr} {s:SE} {a b:List Bool} (h:Blo a b) (h0:(stackF m u i s a).2=0):stackF m u i s b=stackF m u i s a:=by
 by_cases c:i.Op=3
 ·have e:∀ hs,stackF m u i s hs=pushF (s.1,if bg hs i.A=true then s.2 else fv s.2 11) (lg u.Locals i.A):=fun hs=>by
   unfold stackF
   rw [if_neg (show ¬ i.Op=1 by omega),if_neg (show ¬ i.Op=2 by omega),if_pos c]
  rw [e] at h0 ⊢
  rw [e]
  have h1:=pushF_er h0
  simp only at h1
  by_cases g:bg a i.A=true
  ·rw [if_pos g,if_pos (bg_mono h g)]
  ·rw [if_neg g] at h1; exact absurd h1 (fv_ne (by decide))
 ·unfold stackF
  simp only [if_neg c]
theorem Fits.mono {a a':Ats} {p:Int} {st:List Int} {hs:List Bool} (h:Fits a p st hs) (g:∀ q x,mget a q=some x→∃ x',mget a' q=some x'∧x'.stack=x.stack∧Blo x'.has x.has):Fits a' p st hs:=by
 obtain ⟨y,h1,h2,h3⟩:=h
 obtain ⟨y',g1,g2,g3⟩:=g p y h1
 exact ⟨y',g1,g2.trans h2,g3.tr h3⟩
def DoneX (m:TModule) (u:TUnit) (a:Ats) (p:Int) (x:TVs):Prop:=∃ i,at_ u.Code p=some i∧(stackF m u i (x.stack,0) x.has).2=0 ∧
 ((i.Op=21∨i.Op=22)→Fits a i.A (stackF m u i (x.stack,0) x.has).1 (hasF i x.has))∧(follows i→Fits a (p+1) (stackF m u i (x.stack,0) x.has).1 (hasF i x.has))
theorem DoneX.mono {m:TModule} {u:TUnit} {a a':Ats} {p:Int} {x:TVs} (h:DoneX m u a p x) (g:∀ q x,mget a q=some x→∃ x',mget a' q=some x'∧x'.stack=x.stack∧Blo x'.has x.has):DoneX m u a' p x:=by
 obtain ⟨i,h1,h2,h3,h4⟩:=h
 exact ⟨i,h1,h2,fun k=>(h3 k).mono g,fun k=>(h4 k).mono g⟩
abbrev Tys:=Int→Option (List Int×List Bool)
structure Typing (m:TModule) (u:TUnit) (T:Tys):Prop where
 step:∀ p st h,T p=some (st,h)→∃ i,at_ u.Code p=some i∧(stackF m u i (st,0) h).2=0 ∧
  ((i.Op=21∨i.Op=22)→i.A<u.Code.length∧∃ h',T i.A=some ((stackF m u i (st,0) h).1,h')∧Blo h' (hasF i h)) ∧
  (follows i→p+1<u.Code.length∧∃ h',T (p+1)=some ((stackF m u i (st,0) h).1,h')∧Blo h' (hasF i h))
def AtS (a:Ats) (T:Tys):Prop:=∀ p x,mget a p=some x→∃ h,T p=some (x.stack,h)∧Blo h x.has
theorem ToR.typed {C L:Nat} {st:List Int} {hs:List Bool} {p:Int} {a a':Ats} {td td':List Int} {er':Int} {T:Tys} (h:ToR C L st hs p a td 0 a' td' er') (hA:AtS a T) (hp:p<C) {h':List Bool} (hT:T p=some (st,h')) (hb:Blo h' hs):er'=0∧AtS a' T:=by
 have e0:er'=0:=h.good rfl hp fun x hx=>by
  obtain ⟨h1,e1,-⟩:=hA p x hx
  rw [hT] at e1
  exact (Prod.mk.inj (Option.some.inj e1)).1.symm
 refine ⟨e0,fun q y hy=>?_⟩
 by_cases c:q=p
 ·subst c
  obtain ⟨-,z,z1,z2,-⟩:=h.fits e0
  rw [hy] at z1
  obtain rfl:=Option.some.inj z1
  refine ⟨h',by rw [hT,z2],h.org e0 h' hb (fun x hx=>?_) y hy⟩
  obtain ⟨h1,e1,b1⟩:=hA q x hx
  rw [hT] at e1
  rw [(Prod.mk.inj (Option.some.inj e1)).2]; exact b1
 ·rw [h.oth e0 q c] at hy; exact hA q y hy
section
variable {fu:Nat} {m:TModule} {u:TUnit} {k:Int}
structure Went (m:TModule) (u:TUnit) (q:Int) (x:TVs) (a:Ats) (td:List Int) (a':Ats) (td':List Int):Prop where
 mono:∀ p y,mget a p=some y→∃ y',mget a' p=some y'∧y'.stack=y.stack∧Blo y'.has y.has∧(y'=y∨p ∈ td')
 new:∀ p y',mget a' p=some y'→p ∈ td'∨mget a p=some y'
 todo:(∀ p ∈ td',p ∈ td∨∃ y,mget a' p=some y)∧∀ p ∈ td,p ∈ td'
 done:DoneX m u a' q x
theorem ToR.w3 {C L:Nat} {st:List Int} {hs:List Bool} {p:Int} {a:Ats} {td:List Int} {er:Int} {a':Ats} {td':List Int} {er':Int} (h:ToR C L st hs p a td er a' td' er') (e:er'=0):(∀ p y,mget a p=some y→∃ y',mget a' p=some y'∧y'.stack=y.stack∧Blo y'.has y.has∧(y'=y∨p ∈ td'))∧(∀ p y',mget a' p=some y'→p ∈ td'∨mget a p=some y')∧(∀ p ∈ td',p ∈ td∨∃ y,mget a' p=some y)∧∀ p ∈ td,p ∈ td':=by
 refine ⟨h.mono e,h.new e,fun q hq=>?_,(h.todo e).2⟩
 rcases (h.todo e).1 q hq with h1 | h1
 ·exact .inl h1
 ·obtain ⟨-,y,hy,-⟩:=h.fits e
  exact .inr ⟨y,by rw [h1,hy]⟩
theorem iter (hm:MzM m) (hf:VForm m) (hu:u ∈ m.Units) (hfu:1000≤fu) {q:Int} {x:TVs} {a:Ats} {td:List Int} (hq:mget a q=some x) (hA:AtOk u.Code.length u.Locals.length a) (hW:Wt u.Code.length a td≤2000000000) :
  ∃ a' td' er' hs' st',(∀ n hs0 st0,vf_code_l2 fu (ck m) k u (n+1) 0 hs0 (q::td) st0 a=if er'≠0 then some ⟨er',k,q⟩ else vf_code_l2 fu (ck m) k u n er' hs' td' st' a')∧AtOk u.Code.length u.Locals.length a'∧Wt u.Code.length a' td'≤Wt u.Code.length a td∧(er'=0→Went m u q x a td a' td') ∧
   ∀ T,Typing m u T→AtS a T→er'=0∧AtS a' T:=by
 obtain ⟨⟨-,⟨hL,-⟩,⟨-,hC⟩,-⟩,hins⟩:=hf.2.2.1 u hu
 have hz:=hm.2.2 u hu
 obtain ⟨hq0,hxl,hxs⟩:=hA q x hq
 have hxs3:=hxs.le rfl
 simp only at hxs3
 obtain ⟨i,hi,him⟩:=at_r (l:=u.Code) hq0.1 hq0.2
 have hmi:=hz.2.2.2.2.2.2 i him
 have hvi:=hins i him
 have hcut:cut (q::td) 1 (q::td).length=some td:=by unfold cut; rw [if_pos (by simp only [List.length_cons]; omega)]; simp
 have hcp:vf_copied1 x=some x:=by
  unfold vf_copied1 vf_copied1_j1 small
  rw [if_pos (by omega),Option.bind_some,if_pos (by omega),Option.bind_some]
 have start:∀ n hs0 st0,vf_code_l2 fu (ck m) k u (n+1) 0 hs0 (q::td) st0 a=(vf_step fu (ck m) u a td x.stack x.has 0 i).bind fun r401 =>
   if r401.1=true then
    (i64 (q+1)).bind fun i436 =>
    (vf_to (ck m) u r401.2.1 r401.2.2.1 r401.2.2.2.1 r401.2.2.2.2.1 r401.2.2.2.2.2 i436).bind fun r438 =>
    vf_code_j1 k q (vf_code_l2 fu (ck m) k u n) r438.2.2.2.2 r438.2.2.2.1 r438.2.1 r438.2.2.1 r438.1
   else
    vf_code_j1 k q (vf_code_l2 fu (ck m) k u n) r401.2.2.2.2.2 r401.2.2.2.2.1 r401.2.2.1 r401.2.2.2.1 r401.2.1:=fun n hs0 st0=>by
  rw [vf_code_l2,if_pos (by simp only [List.length_cons]; omega),show at_ (q::td) 0=some q from rfl,Option.bind_some,hcut,Option.bind_some,hq,Option.bind_some,hcp,Option.bind_some,hi,Option.bind_some]
 have j1:∀ n er hs td st a,vf_code_j1 k q (vf_code_l2 fu (ck m) k u n) er hs td st a=if er≠0 then some ⟨er,k,q⟩ else vf_code_l2 fu (ck m) k u n er hs td st a:=fun _ _ _ _ _ _=>rfl
 have hq1:i64 (q+1)=some (q+1):=i64_v (by omega)
 have hjA:(i.Op=21∨i.Op=22)→0≤i.A∧i.A<u.Code.length:=hvi.2.2.2.1
 by_cases h21:i.Op=21
 ·have eS:stackF m u i (x.stack,0) x.has=(x.stack,0):=by unfold stackF; simp [h21]
  have eH:hasF i x.has=x.has:=if_neg (by omega)
  obtain ⟨a',td',er',e,R⟩:=to_e (m:=m) (u:=u) (a:=a) (td:=td) (st:=x.stack) (hs:=x.has) (er:=0) (p:=i.A) (L:=u.Locals.length) hC hxl (by omega) hA (by have:=hjA (.inl h21); omega) hxs (by omega) (by omega)
  refine ⟨a',td',er',x.has,x.stack,fun n hs0 st0=>?_,R.ok,R.w,fun e0=>?_,fun T hT hAS=>?_⟩
  ·rw [start,step_21 h21,e,Option.bind_some,Option.bind_some,if_neg (by simp),j1]
  ·obtain ⟨w1,w2,w3,w4⟩:=R.w3 e0
   refine ⟨w1,w2,⟨w3,w4⟩,i,hi,by rw [eS],fun _=>by rw [eS,eH]; exact (R.fits e0).2,fun h=>absurd h21 h.1⟩
  ·obtain ⟨h,hT1,hb⟩:=hAS q x hq
   obtain ⟨i',hi',s1,s2,-⟩:=hT.step q x.stack h hT1
   rw [hi] at hi'
   obtain rfl:=Option.some.inj hi'
   obtain ⟨s3,h',s4,s5⟩:=s2 (.inl h21)
   rw [← stackF_mono hb s1,eS] at s4
   exact R.typed hAS s3 s4 (s5.tr (by have:=hasF_mono (i:=i) hb; rwa [eH] at this))
 by_cases h22:i.Op=22
 ·have eS:stackF m u i (x.stack,0) x.has=wantR [2] (x.stack,0):=by unfold stackF; simp [h22]
  have eH:hasF i x.has=x.has:=if_neg (by omega)
  have hwl:=wantR_len [2] (x.stack,0)
  obtain ⟨a1,td1,er1,e1,R1⟩:=to_e (m:=m) (u:=u) (a:=a) (td:=td) (st:=(wantR [2] (x.stack,0)).1) (hs:=x.has) (er:=(wantR [2] (x.stack,0)).2) (p:=i.A) (L:=u.Locals.length) hC hxl (by omega) hA (by have:=hjA (.inr h22); omega) (hxs.want _) (by simp only at hwl; omega) (by omega)
  obtain ⟨a2,td2,er2,e2,R2⟩:=to_e (m:=m) (u:=u) (a:=a1) (td:=td1) (st:=(wantR [2] (x.stack,0)).1) (hs:=x.has) (er:=er1) (p:=q+1) (L:=u.Locals.length) hC hxl (by omega) R1.ok (by omega) (by
   have hw:=hxs.want [2]
   refine ⟨fun h0=>?_,hw.r⟩
   by_cases c:(wantR [2] (x.stack,0)).2=0
   ·exact hw.le c
   ·rw [R1.keep c] at h0; exact absurd h0 c) (by simp only at hwl; omega) (by have:=R1.w; omega)
  refine ⟨a2,td2,er2,x.has,(wantR [2] (x.stack,0)).1,fun n hs0 st0=>?_,R2.ok,Nat.le_trans R2.w R1.w,fun e0=>?_,fun T hT hAS=>?_⟩
  ·rw [start,step_22 (by omega) hfu h22,e1,Option.bind_some,Option.bind_some,if_pos rfl,hq1,Option.bind_some,e2,Option.bind_some,j1]
  ·obtain ⟨g0,g1⟩:=R2.fits e0
   obtain ⟨v1,v2,v3,v4⟩:=R1.w3 g0
   obtain ⟨w1,w2,w3,w4⟩:=R2.w3 e0
   refine ⟨fun p y hy=>?_,fun p y' hy=>?_,⟨fun p hp=>?_,fun p hp=>w4 p (v4 p hp)⟩,i,hi,by rw [eS]; exact (R1.fits g0).1,fun _=>?_,fun _=>by rw [eS,eH]; exact g1⟩
   ·obtain ⟨y1,p1,p2,p3,p4⟩:=v1 p y hy
    obtain ⟨y2,q1,q2,q3,q4⟩:=w1 p y1 p1
    refine ⟨y2,q1,q2.trans p2,q3.tr p3,?_⟩
    rcases q4 with q4 | q4
    ·rcases p4 with p4 | p4
     ·exact .inl (q4.trans p4)
     ·exact .inr (w4 p p4)
    ·exact .inr q4
   ·rcases w2 p y' hy with h | h
    ·exact .inl h
    ·rcases v2 p y' h with h | h
     ·exact .inl (w4 p h)
     ·exact .inr h
   ·rcases w3 p hp with h | h
    ·rcases v3 p h with h | ⟨y,hy⟩
     ·exact .inl h
     ·obtain ⟨y',hy',-⟩:=w1 p y hy
      exact .inr ⟨y',hy'⟩
    ·exact .inr h
   ·rw [eS,eH]
    exact (R1.fits g0).2.mono fun p y hy=>by
     obtain ⟨y',q1,q2,q3,-⟩:=w1 p y hy
     exact ⟨y',q1,q2,q3⟩
  ·obtain ⟨h,hT1,hb⟩:=hAS q x hq
   obtain ⟨i',hi',s1,s2,s6⟩:=hT.step q x.stack h hT1
   rw [hi] at hi'
   obtain rfl:=Option.some.inj hi'
   obtain ⟨s3,h',s4,s5⟩:=s2 (.inr h22)
   obtain ⟨s7,h2,s8,s9⟩:=s6 ⟨by omega,by omega,by omega⟩
   have eM:=stackF_mono hb s1
   rw [← eM,eS] at s4 s8 s1
   have hhb:Blo (hasF i h) x.has:=by have:=hasF_mono (i:=i) hb; rwa [eH] at this
   rw [s1] at R1
   obtain ⟨t1,t2⟩:=R1.typed hAS s3 s4 (s5.tr hhb)
   rw [t1] at R2
   exact R2.typed t2 s7 s8 (s9.tr hhb)
 have hS:=stackF_ok (hs:=x.has) hm hf hz hvi hxs
 have hSl:=stackF_len m u i (x.stack,0) x.has
 simp only at hSl
 have es:=step_e (fu:=fu) (a:=a) (td:=td) (hs:=x.has) (er:=0) hf hvi (by omega) hxs hm hmi hfu hxl h21 h22
 by_cases hfo:follows i
 ·obtain ⟨a',td',er',e,R⟩:=to_e (m:=m) (u:=u) (a:=a) (td:=td) (st:=(stackF m u i (x.stack,0) x.has).1) (hs:=hasF i x.has) (er:=(stackF m u i (x.stack,0) x.has).2) (p:=q+1) (L:=u.Locals.length) hC (by rw [hasF_len,hxl]) (by omega) hA (by omega) hS (by omega) (by omega)
  refine ⟨a',td',er',hasF i x.has,(stackF m u i (x.stack,0) x.has).1,fun n hs0 st0=>?_,R.ok,R.w,fun e0=>?_,fun T hT hAS=>?_⟩
  ·rw [start,es,Option.bind_some,if_pos (by simpa using hfo),hq1,Option.bind_some,e,Option.bind_some,j1]
  ·obtain ⟨w1,w2,w3,w4⟩:=R.w3 e0
   obtain ⟨g0,g1⟩:=R.fits e0
   exact ⟨w1,w2,⟨w3,w4⟩,i,hi,g0,fun h=>by omega,fun _=>g1⟩
  ·obtain ⟨h,hT1,hb⟩:=hAS q x hq
   obtain ⟨i',hi',s1,-,s6⟩:=hT.step q x.stack h hT1
   rw [hi] at hi'
   obtain rfl:=Option.some.inj hi'
   obtain ⟨s7,h2,s8,s9⟩:=s6 hfo
   rw [← stackF_mono hb s1] at s8 s1
   rw [s1] at R
   exact R.typed hAS s7 s8 (s9.tr (hasF_mono hb))
 ·refine ⟨a,td,(stackF m u i (x.stack,0) x.has).2,hasF i x.has,(stackF m u i (x.stack,0) x.has).1,fun n hs0 st0=>?_,hA,Nat.le_refl _,fun e0=>?_,fun T hT hAS=>?_⟩
  ·rw [start,es,Option.bind_some,if_neg (by simpa using hfo),j1]
  ·exact ⟨fun p y hy=>⟨y,hy,rfl,.rf _,.inl rfl⟩,fun p y' hy=>.inr hy,⟨fun p hp=>.inl hp,fun p hp=>hp⟩,i,hi,e0,fun h=>by omega,fun h=>absurd h hfo⟩
  ·obtain ⟨h,hT1,hb⟩:=hAS q x hq
   obtain ⟨i',hi',s1,-⟩:=hT.step q x.stack h hT1
   rw [hi] at hi'
   obtain rfl:=Option.some.inj hi'
   rw [← stackF_mono hb s1] at s1
   exact ⟨s1,hAS⟩
def Looked (m:TModule) (u:TUnit) (a:Ats):Prop:=AtOk u.Code.length u.Locals.length a∧∀ p x,mget a p=some x→DoneX m u a p x
theorem loop_e (hm:MzM m) (hf:VForm m) (hu:u ∈ m.Units) (hfu:1000≤fu):∀ (n:Nat) (a:Ats) (td:List Int) (hs0:List Bool) (st0:List Int),AtOk u.Code.length u.Locals.length a→Wt u.Code.length a td<n→Wt u.Code.length a td≤2000000000→(∀ q ∈ td,∃ x,mget a q=some x)→(∀ p x,mget a p=some x→p ∈ td∨DoneX m u a p x) →
  ∃ w,vf_code_l2 fu (ck m) k u n 0 hs0 td st0 a=some w∧(w.Err=0→w=⟨0,0,0⟩∧∃ a',Looked m u a'∧∀ p y,mget a p=some y→∃ y',mget a' p=some y'∧y'.stack=y.stack∧Blo y'.has y.has)∧∀ T,Typing m u T→AtS a T→w.Err=0:=by
 intro n
 induction n with
 | zero=>intro a td hs0 st0 _ h; omega
 | succ n ih =>
  intro a td hs0 st0 hA hW hW2 htd hd
  cases td with
  | nil =>
   rw [vf_code_l2,if_neg (by simp)]
   refine ⟨_,rfl,fun _=>⟨rfl,a,⟨hA,fun p x hx=>?_⟩,fun p y hy=>⟨y,hy,rfl,.rf _⟩⟩,fun _ _ _=>rfl⟩
   rcases hd p x hx with h | h
   ·cases h
   ·exact h
  | cons q td =>
   obtain ⟨x,hx⟩:=htd q (List.mem_cons_self ..)
   have hWc:Wt u.Code.length a (q::td)=Wt u.Code.length a td+1:=by unfold Wt; simp; omega
   obtain ⟨a',td',er',hs',st',e,o1,o2,o3,o4⟩:=iter (k:=k) (td:=td) hm hf hu hfu hx hA (by omega)
   rw [e]
   by_cases c:er'=0
   ·subst c
    rw [if_neg (by simp)]
    obtain ⟨w1,w2,⟨w3,w4⟩,w5⟩:=o3 rfl
    have g1:∀ p y,mget a p=some y→∃ y',mget a' p=some y'∧y'.stack=y.stack∧Blo y'.has y.has:=fun p y hy=>by
     obtain ⟨y',q1,q2,q3,-⟩:=w1 p y hy
     exact ⟨y',q1,q2,q3⟩
    obtain ⟨w,r1,r2,r3⟩:=ih a' td' hs' st' o1 (by omega) (by omega) (fun p hp=>by
     rcases w3 p hp with h | h
     ·obtain ⟨y,hy⟩:=htd p (List.mem_cons_of_mem _ h)
      obtain ⟨y',hy',-⟩:=g1 p y hy
      exact ⟨y',hy'⟩
     ·exact h) (fun p y' hy=>by
     rcases w2 p y' hy with h | h
     ·exact .inl h
     ·by_cases cq:p=q
      ·subst cq
       rw [hx] at h
       obtain rfl:=Option.some.inj h
       exact .inr w5
      ·rcases hd p y' h with h | h
       ·rcases List.mem_cons.1 h with h | h
        ·exact absurd h cq
        ·exact .inl (w4 p h)
       ·exact .inr (h.mono g1))
    refine ⟨w,r1,fun h=>?_,fun T hT hAS=>r3 T hT (o4 T hT hAS).2⟩
    obtain ⟨r4,b,r5,r6⟩:=r2 h
    refine ⟨r4,b,r5,fun p y hy=>?_⟩
    obtain ⟨y1,p1,p2,p3⟩:=g1 p y hy
    obtain ⟨y2,q1,q2,q3⟩:=r6 p y1 p1
    exact ⟨y2,q1,q2.trans p2,q3.tr p3⟩
   ·rw [if_pos c]
    exact ⟨_,rfl,fun h=>absurd h c,fun T hT hAS=>absurd (o4 T hT hAS).1 c⟩
theorem rep_set:∀ (i r:Nat),(List.replicate i true++List.replicate (r+1) false).set i true=List.replicate (i+1) true++List.replicate r false
 | 0,r=>rfl
 | i+1,r=>by
  have:=rep_set i r
  rw [List.replicate_succ,List.cons_append,List.set_cons_succ,this,List.replicate_succ (n:=i+1)]; rfl
def hs0 (u:TUnit):List Bool:=List.replicate u.Params.toNat true++List.replicate (u.Locals.length - u.Params.toNat) false
def Right1 (m:TModule) (u:TUnit):Prop:=∃ a,Looked m u a∧∃ x,mget a 0=some x∧x.stack=[]∧Blo x.has (hs0 u)
theorem vcode_e (hm:MzM m) (hf:VForm m) (hk:at_ m.Units k=some u) (hfu:1000000≤fu) :
  ∃ w,vf_code fu (ck m) k=some w∧(w.Err=0→w=⟨0,0,0⟩∧Right1 m u)∧∀ T,Typing m u T→(∃ h,T 0=some ([],h)∧Blo h (hs0 u))→w.Err=0:=by
 obtain ⟨hu,-⟩:=at_mem hk
 obtain ⟨⟨-,⟨hL,hP0,hP6,hPL,-⟩,⟨hC1,hC⟩,-⟩,hins⟩:=hf.2.2.1 u hu
 have hsl:(hs0 u).length=u.Locals.length:=by unfold hs0; simp; omega
 have fin:∃ w,((vf_to (ck m) u ([]:List (Int×TVs)) ([]:List Int) ([]:List Int) (hs0 u) 0 0).bind fun r104=>vf_code_l2 fu (ck m) k u fu r104.2.2.2.2 r104.2.2.2.1 r104.2.1 r104.2.2.1 r104.1)=some w∧(w.Err=0→w=⟨0,0,0⟩∧Right1 m u)∧∀ T,Typing m u T→(∃ h,T 0=some ([],h)∧Blo h (hs0 u))→w.Err=0:=by
  have hA0:AtOk u.Code.length u.Locals.length []:=fun p x hx=>by cases hx
  have w0:Wt u.Code.length [] []≤201*4000:=by
   have:∀ C:Nat,((List.range C).map fun q:Nat=>valW [] (q:Int)).sum=201*C:=fun C=>by
    induction C with
    | zero=>rfl
    | succ C ih =>
     rw [List.range_succ,List.map_append,List.sum_append,ih]
     simp [valW,mget]; omega
   unfold Wt
   rw [this]; simp; omega
  obtain ⟨a,td,er,e,R⟩:=to_e (m:=m) (u:=u) (a:=[]) (td:=[]) (st:=[]) (hs:=hs0 u) (er:=0) (p:=0) (L:=u.Locals.length) hC hsl (by omega) hA0 (by omega) ⟨fun _=>by simp,fun t ht=>by cases ht⟩ (by simp) (by omega)
  have e0:er=0:=R.good rfl (by omega) fun x hx=>by cases hx
  subst e0
  rw [e,Option.bind_some]
  obtain ⟨-,y,y1,y2,y3⟩:=R.fits rfl
  obtain ⟨w1,w2,w3,w4⟩:=R.w3 rfl
  have rw_:=R.w
  obtain ⟨w,r1,r2,r3⟩:=loop_e (fu:=fu) (k:=k) hm hf hu (by omega) fu a td (hs0 u) [] R.ok (by omega) (by omega) (fun q hq=>by
   rcases w3 q hq with h | h
   ·cases h
   ·exact h) (fun p x hx=>by
   rcases w2 p x hx with h | h
   ·exact .inl h
   ·cases h)
  refine ⟨w,r1,fun h=>?_,fun T hT ⟨h,t1,t2⟩=>r3 T hT (R.typed (fun p x hx=>by cases hx) (by omega) t1 t2).2⟩
  obtain ⟨r4,b,r5,r6⟩:=r2 h
  obtain ⟨y',q1,q2,q3⟩:=r6 0 y y1
  exact ⟨r4,b,r5,y',q1,q2.trans y2,q3.tr y3⟩
 have l1:∀ (n i:Nat),i≤u.Params.toNat→u.Params.toNat - i<n→vf_code_l1 fu (ck m) k u n (i:Int) (List.replicate i true++List.replicate (u.Locals.length - i) false)=(vf_to (ck m) u ([]:List (Int×TVs)) ([]:List Int) ([]:List Int) (hs0 u) 0 0).bind fun r104=>vf_code_l2 fu (ck m) k u fu r104.2.2.2.2 r104.2.2.2.1 r104.2.1 r104.2.2.1 r104.1:=by
  intro n
  induction n with
  | zero=>intro i _ h; omega
  | succ n ih =>
   intro i hi hn
   unfold vf_code_l1
   by_cases c:(i:Int)<u.Params
   ·have hlt:i<(List.replicate i true++List.replicate (u.Locals.length - i) false).length:=by simp; omega
    rw [if_pos c,at_v hlt,Option.bind_some,i64_v (by omega),Option.bind_some]
    have e1:(List.replicate i true++List.replicate (u.Locals.length - i) false).set (i:Int).toNat true=List.replicate (i+1) true++List.replicate (u.Locals.length - (i+1)) false:=by
     rw [Int.toNat_natCast,show u.Locals.length - i=(u.Locals.length - (i+1))+1 by omega]
     exact rep_set _ _
    rw [e1,show ((i:Int)+1)=((i+1:Nat):Int) by omega]
    exact ih (i+1) (by omega) (by omega)
   ·have:i=u.Params.toNat:=by omega
    rw [if_neg c,this]; rfl
 unfold vf_code
 rw [Option.bind_some,hk,Option.bind_some]
 unfold mks
 rw [if_pos (by omega),Option.bind_some,Int.toNat_natCast]
 have:=l1 ((u.Params - 0).toNat+1) 0 (by omega) (by simp)
 simp only [List.replicate_zero,List.nil_append,Nat.sub_zero] at this
 rw [show ((0:Nat):Int)=0 from rfl] at this
 rw [this]
 exact fin
end
end Go.Y
namespace Go.Y
open Go.Wk Go.Xt
def callsU (u:TUnit) (k:Int):Prop:=∃ i ∈ u.Code,(i.Op=23∨i.Op=29)∧i.A=k
inductive Rch (m:TModule):Int→Int→Prop
 | refl (k:Int):Rch m k k
 | step {k a b:Int} {u:TUnit}:Rch m k a→at_ m.Units a=some u→callsU u b→Rch m k b
def notin (U:Nat) (l:List Int):Nat:=((List.range U).map fun q:Nat=>if (q:Int) ∈ l then 0 else 1).sum
theorem notin_app {U:Nat} {l:List Int} {k:Int} (h0:0≤k) (h1:k<U) (hk:k ∉ l):notin U (l++[k])+1=notin U l:=by
 obtain ⟨n,rfl⟩:=Int.eq_ofNat_of_zero_le h0
 have:=sum_one (f:=fun q:Nat=>if (q:Int) ∈ l++[(n:Int)] then 0 else 1) (g:=fun q:Nat=>if (q:Int) ∈ l then 0 else 1) (p:=n) U (by omega) (fun q hq=>by
  have:(q:Int)≠(n:Int):=by omega
  simp [this])
 simp [hk] at this
 unfold notin
 simp
 omega
theorem notin_le (U:Nat) (l:List Int):notin U l≤U:=by
 unfold notin
 induction U with
 | zero=>simp
 | succ U ih =>
  rw [List.range_succ,List.map_append,List.sum_append]
  simp only [List.map_cons,List.map_nil,List.sum_cons,List.sum_nil]
  split <;> omega
section
variable {m:TModule} {k0:Int}
structure RInv (m:TModule) (k0:Int) (l:List Int):Prop where
 rg:∀ x ∈ l,0≤x∧x<m.Units.length
 rc:∀ x ∈ l,Rch m k0 x
 ln:l.length+notin m.Units.length l≤m.Units.length+1
def Cl (m:TModule) (x:Int) (l:List Int):Prop:=∀ v,at_ m.Units x=some v→∀ b,callsU v b→b ∈ l
theorem reach_l2_ok {a:Int} {u:TUnit} {K:Int→List Int→Option (List Int)} (hf:VForm m) (hu:at_ m.Units a=some u) (ha:0≤a∧Rch m k0 a) (i0:Nat) (hi0:i0≤1000) {R:List Int→Prop}
  (hK:∀ l',RInv m k0 l'→(∀ b,callsU u b→b ∈ l')→R l'→∃ r,K ((i0:Int)+1) l'=some r∧(∀ x ∈ l',x ∈ r)∧RInv m k0 r∧∀ x ∈ r,Cl m x r) (hR:∀ l b,notin m.Units.length (l++[b])+1=notin m.Units.length l→R l→R (l++[b])):∀ (n j:Nat) (l:List Int),RInv m k0 l→i0<l.length→R l→j≤u.Code.length→u.Code.length - j<n→(∀ i ∈ u.Code.take j,(i.Op=23∨i.Op=29)→i.A ∈ l) →
  ∃ r,vf_reach_l2 (i0:Int) u K n (j:Int) l=some r∧(∀ x ∈ l,x ∈ r)∧RInv m k0 r∧∀ x ∈ r,Cl m x r:=by
 obtain ⟨hm1,-⟩:=at_mem hu
 obtain ⟨⟨-,-,⟨-,hC⟩,-⟩,hins⟩:=hf.2.2.1 u hm1
 have hU:=hf.1.2
 intro n
 induction n with
 | zero=>intro j l _ _ _ _ h; omega
 | succ n ih =>
  intro j l hI hil hRl hj hn hd
  unfold vf_reach_l2
  by_cases c:j<u.Code.length
  ·have hmem:=List.getElem_mem c
   have hv:=hins _ hmem
   rw [if_pos (by omega),at_v c,Option.bind_some]
   have ej:((j:Int)+1)=((j+1:Nat):Int):=by omega
   have tk:u.Code.take (j+1)=u.Code.take j++[u.Code[j]]:=(List.take_append_getElem c).symm
   have stay:((u.Code[j].Op=23∨u.Code[j].Op=29)→u.Code[j].A ∈ l)→∃ r,vf_reach_j1 (j:Int) l u.Code[j] (vf_reach_l2 (i0:Int) u K n) false=some r∧(∀ x ∈ l,x ∈ r)∧RInv m k0 r∧∀ x ∈ r,Cl m x r:=fun hA=>by
    unfold vf_reach_j1
    rw [if_neg (by decide),i64_v (by omega),Option.bind_some,ej]
    refine ih (j+1) l hI hil hRl c (by omega) fun i hi=>?_
    rw [tk] at hi
    rcases List.mem_append.1 hi with hi | hi
    ·exact hd i hi
    ·rw [List.mem_singleton.1 hi]; exact hA
   have go:(u.Code[j].Op=23∨u.Code[j].Op=29)→∃ r,vf_reach_j1 (j:Int) l u.Code[j] (vf_reach_l2 (i0:Int) u K n) (!(l.contains u.Code[j].A))=some r∧(∀ x ∈ l,x ∈ r)∧RInv m k0 r∧∀ x ∈ r,Cl m x r:=fun ho=>by
    by_cases hc:u.Code[j].A ∈ l
    ·have:(!(l.contains u.Code[j].A))=false:=by simp [hc]
     rw [this]; exact stay fun _=>hc
    ·have:(!(l.contains u.Code[j].A))=true:=by simp [hc]
     rw [this]
     have hrg:0≤u.Code[j].A∧u.Code[j].A<m.Units.length:=by
      rcases ho with ho | ho
      ·obtain ⟨-,-,-,g1,g2⟩:=unitB_e (hv.2.2.2.2.1 ho); exact ⟨g1,g2⟩
      ·obtain ⟨-,-,-,g1,g2⟩:=unitB_e (hv.2.2.2.2.2.1 ho); exact ⟨g1,g2⟩
     have hI':RInv m k0 (l++[u.Code[j].A]):=by
      refine ⟨fun x hx=>?_,fun x hx=>?_,?_⟩
      ·rcases List.mem_append.1 hx with hx | hx
       ·exact hI.rg x hx
       ·rw [List.mem_singleton.1 hx]; exact hrg
      ·rcases List.mem_append.1 hx with hx | hx
       ·exact hI.rc x hx
       ·rw [List.mem_singleton.1 hx]; exact .step ha.2 hu ⟨_,hmem,ho,rfl⟩
      ·have:=notin_app (U:=m.Units.length) hrg.1 hrg.2 hc
       have:=hI.ln
       simp; omega
     have hln:=hI'.ln
     unfold vf_reach_j1 app
     rw [if_pos rfl,if_pos (by simp at hln ⊢; omega),Option.bind_some,i64_v (by omega),Option.bind_some,ej]
     obtain ⟨r,r1,r2,r3,r4⟩:=ih (j+1) (l++[u.Code[j].A]) hI' (by simp; omega) (hR _ _ (notin_app hrg.1 hrg.2 hc) hRl) c (by omega) (fun i hi=>by
      rw [tk] at hi
      rcases List.mem_append.1 hi with hi | hi
      ·exact fun h=>List.mem_append_left _ (hd i hi h)
      ·rw [List.mem_singleton.1 hi]; exact fun _=>by simp)
     exact ⟨r,r1,fun x hx=>r2 x (List.mem_append_left _ hx),r3,r4⟩
   by_cases h1:u.Code[j].Op=23
   ·rw [if_pos h1]; exact go (.inl h1)
   ·rw [if_neg h1]
    by_cases h2:u.Code[j].Op=29
    ·rw [if_pos h2]; exact go (.inr h2)
    ·rw [if_neg h2]; exact stay fun h=>by omega
  ·rw [if_neg (by omega),i64_v (by omega),Option.bind_some]
   refine hK l hI (fun b ⟨i,hi,ho,hb⟩=>?_) hRl
   rw [List.take_of_length_le (by omega)] at hd
   rw [← hb]; exact hd i hi ho
theorem reach_l1_ok (hf:VForm m):∀ (n i:Nat) (l:List Int),RInv m k0 l→i≤l.length→(l.length - i)+notin m.Units.length l<n→(∀ x ∈ l.take i,Cl m x l) →
  ∃ r,vf_reach_l1 (ck m) n (i:Int) l=some r∧(∀ x ∈ l,x ∈ r)∧RInv m k0 r∧∀ x ∈ r,Cl m x r:=by
 have hU:=hf.1.2
 intro n
 induction n with
 | zero=>intro i l _ _ h; omega
 | succ n ih =>
  intro i l hI hi hn hd
  have hln:=hI.ln
  unfold vf_reach_l1
  by_cases c:i<l.length
  ·have hmem:=List.getElem_mem c
   obtain ⟨u,hu,-⟩:=at_r (l:=m.Units) (hI.rg _ hmem).1 (hI.rg _ hmem).2
   rw [if_pos (by omega),Option.bind_some,at_v c,Option.bind_some,hu,Option.bind_some]
   obtain ⟨r,r1,r2,r3,r4⟩:=reach_l2_ok (k0:=k0) (K:=vf_reach_l1 (ck m) n) hf hu ⟨(hI.rg _ hmem).1,hI.rc _ hmem⟩ i (by omega) (R:=fun l'=>(l'.length - i)+notin m.Units.length l'≤n∧i<l'.length∧l'[i]?=some l[i]∧(∀ x ∈ l,x ∈ l')∧l'.take i=l.take i) (fun l' hI' hcl hR=>by
    have:=ih (i+1) l' hI' (by omega) (by omega) (fun x hx v hv b hb=>by
     have tk:l'.take (i+1)=l'.take i++[l'[i]]:=(List.take_append_getElem hR.2.1).symm
     rw [tk] at hx
     rcases List.mem_append.1 hx with hx | hx
     ·rw [hR.2.2.2.2] at hx
      exact hR.2.2.2.1 _ (hd x hx v hv b hb)
     ·have e:l'[i]=l[i]:=by
       have:=hR.2.2.1
       rw [List.getElem?_eq_getElem hR.2.1] at this
       exact Option.some.inj this
      rw [List.mem_singleton.1 hx,e,hu] at hv
      rw [← Option.some.inj hv] at hb
      exact hcl b hb)
    rw [show ((i:Int)+1)=((i+1:Nat):Int) by omega]
    exact this) (fun l' b hnn ⟨q1,q2,q3,q4,q5⟩=>by
    refine ⟨by simp; omega,by simp; omega,?_,fun x hx=>List.mem_append_left _ (q4 x hx),?_⟩
    ·rw [List.getElem?_append_left q2]; exact q3
    ·rw [List.take_append_of_le_length (by omega)]; exact q5) (u.Code.length+1) 0 l hI c ⟨by omega,c,List.getElem?_eq_getElem c,fun x hx=>hx,rfl⟩ (by omega) (by omega) (fun i hi=>by simp at hi)
   exact ⟨r,r1,r2,r3,r4⟩
  ·rw [if_neg (by omega)]
   rw [List.take_of_length_le (by omega)] at hd
   exact ⟨l,rfl,fun x hx=>hx,hI,hd⟩
theorem vreach_e {fu:Nat} (hf:VForm m) (hk:0≤k0∧k0<m.Units.length) (hfu:1000≤fu):∃ r,vf_reach fu (ck m) k0=some r∧RInv m k0 r∧∀ x,x ∈ r ↔ Rch m k0 x:=by
 have hU:=hf.1.2
 have hn:=notin_app (U:=m.Units.length) (l:=[]) hk.1 hk.2 (by simp)
 have hn1:=notin_le m.Units.length []
 have hI:RInv m k0 [k0]:=⟨fun x hx=>by rw [List.mem_singleton.1 hx]; exact hk,fun x hx=>by rw [List.mem_singleton.1 hx]; exact .refl _,by simp at hn ⊢; omega⟩
 obtain ⟨r,r1,r2,r3,r4⟩:=reach_l1_ok hf fu 0 [k0] hI (by omega) (by simp at hn ⊢; omega) (fun x hx=>by simp at hx)
 refine ⟨r,r1,r3,fun x=>⟨r3.rc x,fun h=>?_⟩⟩
 induction h with
 | refl=>exact r2 _ (by simp)
 | step h1 h2 h3 ih=>exact r4 _ ih _ h2 _ h3
def doesB (m:TModule) (op b x:Int):Bool:=match at_ m.Units x with
 | some u=>u.Code.any fun i=>decide (i.Op=op) && decide (i.A=b)
 | none=>false
theorem idxn_e {f:TInstr→Option Bool} {g:TInstr→Bool} (l:List TInstr) (hl:l.length≤4000000000) (hf:∀ x ∈ l,f x=some (g x)):∀ (n i:Nat),i≤l.length→l.length - i<n→∃ r,idxf_n_l1 l f n (i:Int)=some r∧(0≤r ↔ (l.drop i).any g=true):=by
 intro n
 induction n with
 | zero=>intro i _ h; omega
 | succ n ih =>
  intro i hi hn
  unfold idxf_n_l1
  by_cases c:i<l.length
  ·rw [if_pos (by omega),at_v c,Option.bind_some,hf _ (List.getElem_mem c),Option.bind_some,List.drop_eq_getElem_cons c,List.any_cons]
   cases hg:g l[i] with
   | true=>exact ⟨_,if_pos rfl,by simp⟩
   | false =>
    rw [if_neg (by decide),i64_v (by omega),Option.bind_some,Bool.false_or]
    exact ih (i+1) c (by omega)
  ·rw [if_neg (by omega),List.drop_of_length_le (by omega)]
   exact ⟨_,rfl,by simp⟩
theorem does_e {x op b:Int} (hf:VForm m) (hx:0≤x∧x<m.Units.length):vf_owned1 x (some (ck m)) op b=some (doesB m op b x):=by
 obtain ⟨u,hu,hm1⟩:=at_r (l:=m.Units) hx.1 hx.2
 obtain ⟨⟨-,-,⟨-,hC⟩,-⟩,-⟩:=hf.2.2.1 u hm1
 unfold vf_owned1 doesB conf_n idxf_n
 rw [Option.bind_some,Option.bind_some,hu,Option.bind_some]
 obtain ⟨r,e,h⟩:=idxn_e (f:=fun x_=>vf_owned11 x_ op b) (g:=fun i=>decide (i.Op=op) && decide (i.A=b)) u.Code (by omega) (fun i _=>by
  unfold vf_owned11
  by_cases h:i.Op=op <;> simp [h]) (u.Code.length+1) 0 (by omega) (by omega)
 rw [show ((0:Nat):Int)=0 from rfl] at e
 rw [e,Option.bind_some,Option.bind_some]
 rw [List.drop_zero] at h
 congr 1
 show _=u.Code.any _
 cases ha:u.Code.any fun i=>decide (i.Op=op) && decide (i.A=b) with
 | true=>rw [ha] at h; simp [h.2 rfl]
 | false=>rw [ha] at h; simp only [decide_eq_false_iff_not]; exact fun hr=>absurd (h.1 hr) (by decide)
def comesB (fu:Nat) (m:TModule) (op b:Int) (k:Nat):Bool:=match m.Units[k]? with
 | some u=>decide (u.Kind=4) && ((vf_reach fu (ck m) (k:Int)).getD []).any (doesB m op b)
 | none=>false
def cntB (fu:Nat) (m:TModule) (op b:Int) (i:Nat):Nat:=(((List.range m.Units.length).drop i).filter (comesB fu m op b)).length
theorem owned_l3_e {fu:Nat} {b o op:Int} {K:Int→Option TWhere} {C:Prop} (hf:VForm m) (hfu:1000≤fu) (ho:0≤o∧o≤100) (hK:Vd (K (o+1)) C):∀ (n i:Nat) (c:Int),i≤m.Units.length→m.Units.length - i<n→0≤c∧c≤i →
  Vd (vf_owned_l3 fu (ck m) m b o op K n c (i:Int)) (c+cntB fu m op b i≤1∧C):=by
 have hU:=hf.1.2
 intro n
 induction n with
 | zero=>intro i c _ h; omega
 | succ n ih =>
  intro i c hi hn hc
  unfold vf_owned_l3
  by_cases q:i<m.Units.length
  ·have er:(List.range m.Units.length).drop i=i::(List.range m.Units.length).drop (i+1):=by
    rw [List.drop_eq_getElem_cons (by simpa using q),List.getElem_range]
   have ec:cntB fu m op b i=(if comesB fu m op b i=true then 1 else 0)+cntB fu m op b (i+1):=by
    unfold cntB
    rw [er,List.filter_cons]
    split
    ·simp; omega
    ·omega
   have j1:∀ x:Bool,x=comesB fu m op b i→Vd (vf_owned_j1 c (i:Int) (vf_owned_l3 fu (ck m) m b o op K n) x) (c+cntB fu m op b i≤1∧C):=fun x hx=>by
    unfold vf_owned_j1
    rw [ec,← hx]
    cases x with
    | true =>
     rw [if_pos rfl,i64_v (by omega),Option.bind_some,i64_v (by omega),Option.bind_some,if_pos rfl]
     refine (ih (i+1) (c+1) q (by omega) (by omega)).iff ?_
     constructor
     ·rintro ⟨h1,h2⟩; exact ⟨by omega,h2⟩
     ·rintro ⟨h1,h2⟩; exact ⟨by omega,h2⟩
    | false =>
     rw [if_neg (by decide),i64_v (by omega),Option.bind_some,if_neg (by decide)]
     refine (ih (i+1) c q (by omega) (by omega)).iff ?_
     constructor
     ·rintro ⟨h1,h2⟩; exact ⟨by omega,h2⟩
     ·rintro ⟨h1,h2⟩; exact ⟨by omega,h2⟩
   rw [if_pos (by omega),at_v q,Option.bind_some]
   have e0:m.Units[i]?=some m.Units[i]:=List.getElem?_eq_getElem q
   by_cases k4:m.Units[i].Kind=4
   ·obtain ⟨r,r1,r2,r3⟩:=vreach_e (m:=m) (k0:=(i:Int)) (fu:=fu) hf (by omega) hfu
    have hrl:=r2.ln
    rw [if_pos k4,r1,Option.bind_some,conf_e (g:=doesB m op b) r (by omega) (fun x hx=>does_e hf (r2.rg x hx)),Option.bind_some]
    refine j1 _ ?_
    unfold comesB
    rw [e0,r1]
    simp [k4]
   ·rw [if_neg k4]
    refine j1 _ ?_
    unfold comesB
    rw [e0]
    simp [k4]
  ·have e0:cntB fu m op b i=0:=by unfold cntB; rw [List.drop_of_length_le (by simp; omega)]; rfl
   rw [if_neg (by omega),e0]
   by_cases c1:(1:Int)<c
   ·rw [if_pos c1]; exact .no (by decide) (by omega)
   ·rw [if_neg c1,i64_v (by omega),Option.bind_some]
    refine hK.iff ⟨fun h=>⟨by omega,h⟩,fun h=>h.2⟩
def VOwn (fu:Nat) (m:TModule):Prop:=∀ b:Nat,b<m.Boxes.length→cntB fu m 26 (b:Int) 0≤1∧cntB fu m 27 (b:Int) 0≤1
theorem owned_e {fu:Nat} (hf:VForm m) (hfu:1000≤fu):Vd (vf_owned fu (ck m)) (VOwn fu m):=by
 have hB:=hf.1.1
 have l1:∀ (n i:Nat),i≤m.Boxes.length→m.Boxes.length - i<n→Vd (vf_owned_l1 fu (ck m) m n (i:Int)) (∀ b:Nat,i≤b→b<m.Boxes.length→cntB fu m 26 (b:Int) 0≤1∧cntB fu m 27 (b:Int) 0≤1):=by
  intro n
  induction n with
  | zero=>intro i _ h; omega
  | succ n ih =>
   intro i hi hn
   unfold vf_owned_l1
   by_cases c:i<m.Boxes.length
   ·rw [if_pos (by omega)]
    have k2:Vd (vf_owned_l2 fu (ck m) m (i:Int) (vf_owned_l1 fu (ck m) m n) 1 (1+1)) (∀ b:Nat,i+1≤b→b<m.Boxes.length→cntB fu m 26 (b:Int) 0≤1∧cntB fu m 27 (b:Int) 0≤1):=by
     unfold vf_owned_l2
     rw [if_neg (by decide),i64_v (by omega),Option.bind_some]
     exact ih (i+1) c (by omega)
    have k1:Vd (vf_owned_l2 fu (ck m) m (i:Int) (vf_owned_l1 fu (ck m) m n) 2 (0+1)) ((0:Int)+cntB fu m 27 (i:Int) 0≤1∧∀ b:Nat,i+1≤b→b<m.Boxes.length→cntB fu m 26 (b:Int) 0≤1∧cntB fu m 27 (b:Int) 0≤1):=by
     rw [vf_owned_l2,if_pos (by decide),show at_ [(26:Int),27] (0+1)=some 27 from rfl,Option.bind_some]
     exact owned_l3_e (K:=vf_owned_l2 fu (ck m) m (i:Int) (vf_owned_l1 fu (ck m) m n) 1) hf hfu (by decide) k2 _ 0 0 (by omega) (by omega) (by omega)
    have k0:Vd (vf_owned_l2 fu (ck m) m (i:Int) (vf_owned_l1 fu (ck m) m n) 3 0) ((0:Int)+cntB fu m 26 (i:Int) 0≤1∧(0:Int)+cntB fu m 27 (i:Int) 0≤1∧∀ b:Nat,i+1≤b→b<m.Boxes.length→cntB fu m 26 (b:Int) 0≤1∧cntB fu m 27 (b:Int) 0≤1):=by
     rw [vf_owned_l2,if_pos (by decide),show at_ [(26:Int),27] 0=some 26 from rfl,Option.bind_some]
     exact owned_l3_e (K:=vf_owned_l2 fu (ck m) m (i:Int) (vf_owned_l1 fu (ck m) m n) 2) hf hfu (by decide) k1 _ 0 0 (by omega) (by omega) (by omega)
    refine k0.iff ⟨fun ⟨h1,h2,h3⟩ b hb1 hb2=>?_,fun h=>⟨by have:=h i (by omega) c; omega,by have:=h i (by omega) c; omega,fun b hb=>h b (by omega)⟩⟩
    by_cases e:b=i
    ·subst e; exact ⟨by omega,by omega⟩
    ·exact h3 b (by omega) hb2
   ·rw [if_neg (by omega)]
    exact ⟨_,rfl,⟨fun _ b h1 h2=>by omega,fun _=>rfl⟩,fun _=>rfl⟩
 unfold vf_owned
 rw [Option.bind_some]
 exact (l1 _ 0 (by omega) (by omega)).iff ⟨fun h b hb=>h b (by omega) hb,fun h b _ hb=>h b hb⟩
def VRight (fu:Nat) (m:TModule):Prop:=VForm m∧(∀ u ∈ m.Units,Right1 m u)∧VOwn fu m
def VTyped (m:TModule):Prop:=∀ u ∈ m.Units,∃ T,Typing m u T∧∃ h,T 0=some ([],h)∧Blo h (hs0 u)
theorem verify_e {fu:Nat} (hm:MzM m) (hfu:1000000≤fu):∃ w,vf_verify fu m=some w∧(w.Err=0→w=⟨0,0,0⟩∧VRight fu m)∧(VForm m→VTyped m→VOwn fu m→w=⟨0,0,0⟩):=by
 obtain ⟨w,f1,f2,f3⟩:=form_e hm
 unfold vf_verify
 rw [f1,Option.bind_some]
 by_cases h0:w.Err=0
 ·have hf:=f2.1 h0
  have hU:=hf.1.2
  obtain ⟨wo,o1,o2,o3⟩:=owned_e (fu:=fu) hf (by omega)
  rw [if_neg (fun g=>g h0)]
  have l1:∀ (n i:Nat),i≤m.Units.length→m.Units.length - i<n→∃ w,vf_verify_l1 fu m n (i:Int)=some w∧(w.Err=0→w=⟨0,0,0⟩∧(∀ u ∈ m.Units.drop i,Right1 m u)∧VOwn fu m)∧(VTyped m→VOwn fu m→w=⟨0,0,0⟩):=by
   intro n
   induction n with
   | zero=>intro i _ h; omega
   | succ n ih =>
    intro i hi hn
    unfold vf_verify_l1
    by_cases c:i<m.Units.length
    ·obtain ⟨w,w1,w2,w3⟩:=vcode_e (k:=(i:Int)) (u:=m.Units[i]) (fu:=fu) hm hf (at_v c) hfu
     rw [if_pos (by omega),w1,Option.bind_some]
     by_cases e:w.Err=0
     ·obtain ⟨w',r1,r2,r3⟩:=ih (i+1) c (by omega)
      rw [if_neg (fun g=>g e),i64_v (by omega),Option.bind_some]
      refine ⟨w',r1,fun h=>?_,r3⟩
      obtain ⟨q1,q2,q3⟩:=r2 h
      refine ⟨q1,fun u hu=>?_,q3⟩
      rw [List.drop_eq_getElem_cons c] at hu
      rcases List.mem_cons.1 hu with rfl | hu
      ·exact (w2 e).2
      ·exact q2 u hu
     ·rw [if_pos e]
      refine ⟨w,rfl,fun h=>absurd h e,fun hT _=>?_⟩
      obtain ⟨T,t1,t2⟩:=hT _ (List.getElem_mem c)
      exact absurd (w3 T t1 t2) e
    ·rw [if_neg (by omega),o1,Option.bind_some,List.drop_of_length_le (by omega)]
     exact ⟨wo,rfl,fun h=>⟨o3 h,fun u hu=>(List.not_mem_nil hu).elim,o2.1 h⟩,fun _ h=>o3 (o2.2 h)⟩
  obtain ⟨w',r1,r2,r3⟩:=l1 (m.Units.length+1) 0 (by omega) (by omega)
  refine ⟨w',r1,fun h=>?_,fun _=>r3⟩
  obtain ⟨q1,q2,q3⟩:=r2 h
  rw [List.drop_zero] at q2
  exact ⟨q1,hf,q2,q3⟩
 ·rw [if_pos h0]
  exact ⟨w,rfl,fun h=>absurd h h0,fun h=>absurd (f2.2 h) h0⟩
end
end Go.Y
namespace Go.Y
open Go.Wk Go.Xt
theorem less_bare:Less bareI:=by
 refine ⟨fun i=>?_,fun i h=>?_⟩
 ·obtain ⟨w,k,e⟩:=word_any i.Op
  unfold bareI; rw [e]
 ·obtain ⟨w,k,e⟩:=word_any i.Op
  have hk:k=1:=by
   have e':(r13_word i.Op).map (·.2)=some k:=by rw [e]; rfl
   unfold hasA at h
   rcases h with h | h | h | h | h | h | h | h | h <;> rw [h] at e' <;> exact Option.some.inj (e'.symm.trans (by decide +kernel))
  unfold bareI; rw [e]; exact if_pos hk
theorem law_asmr_ok {m:TModule} (hm:MzM m):law_asmr 1000000 m=some true:=by
 unfold law_asmr
 rw [alive_true 1000000 (by decide),Option.bind_some,if_pos rfl]
 obtain ⟨r,p1,p2,-⟩:=print_t hm
 rw [p1,Option.bind_some]
 by_cases h0:r.2.Err=0
 ·obtain ⟨hU,ht,hl⟩:=p2 h0
  rw [ht] at hl
  have hrd:=read_print (fu:=1000000) (by decide) hm hU hl
  obtain ⟨w,w1,-⟩:=verify_e (fu:=1000000) hm (by decide)
  have hb:vf_verify 1000000 ⟨m.Boxes,m.Units.map bareU⟩=some w:=(vf_verify_b less_bare 1000000 m).trans w1
  rw [if_neg (fun g=>g h0),ht,hrd,Option.bind_some,if_pos rfl,hb,Option.bind_some,w1,Option.bind_some]
  simp [andL]
 ·rw [if_pos h0]
end Go.Y
