/- The shelf: texts of ShelfGate Wl. -/
import Derived.Test.YtegmgfljdeabeaaGreatDoorCXu
import Derived.Test.YtegmgfljdeabeaaGreatDoorCPl
import Derived.Test.YtegmgfljdeabeaaGreatDoorCWd
set_option linter.unusedSimpArgs false
set_option linter.unusedVariables false
set_option linter.unusedSectionVars false
set_option maxRecDepth 100000
set_option maxHeartbeats 20000000
namespace Go.Proofs.YtegmgfljdeabeaaGreatDoor
open Go.Wk Go.Xt Go.Y Tryz
variable {c2 c5 fu:Nat} {a1 a4:Option Addr} {μ0:M} {w0 w:World} {rsF:List Res}
theorem r9_same_w (hg:Le Gm μ0) {p_1 p_2:List Int} {r:Bool} (m3:Sl μ0 a1 c2 p_1) (m6:Sl μ0 a4 c5 p_2) (h:r9_same p_1 p_2=some r) (hS:Sq μ0 w0 w (rsF)):CallsV prog 18 [.slice a1 p_1.length c2,.slice a4 p_2.length c5] w (fun v w'=>∃ (μ':M) ,v=.bool r∧Le μ0 μ'∧Sq μ' w0 w' (rsF)):=by
 unfold r9_same at h
 refine enter func18 rfl (frm:=_::_::u2 (u2 (u20 []))) rfl (nz (st (ny (nz (st (wl (s_lensl underlying22 (et d6) (dt p7) (st (wl (s_lensl underlying22 (et d8) (dt p9) (st (nw ?_))))))))))))
 refine cifd (et (k10 d0)) (fun h7=>?_) (fun h7=>?_)
 ·replace h:=iT h7 h
  refine nz (st (nw (cret (xr ?_))))
  obtain rfl:=Option.some.inj h
  refine ret1 rfl d4 ?_
  exact ⟨_,rfl,Le.r,hS⟩
 ·replace h:=iF h7 h
  refine cskip (xn (cseq (nz (st (wl (s_lensl underlying22 (et (k10 d1)) (dt (q10 p2)) (st (nw (cblock ?_)))))))))
  refine cloopE (List.range' 4 2++List.range' 14 12) (by decide) (fun n m w=>∃ μx i26,m=(yK4 (yO2 4 (yK7 (.i (.int .i64 i26)::(yO10 14 (yO2 24 []))))))∧r9_same_l1 p_1 p_2 n i26=some r∧Le μ0 μx∧Sq μx w0 w (rsF)) (by rintro _ _ _ ⟨_,_,rfl,_⟩; rfl) _ _ (aK4 (aO2 (aK7 (aI (aO10 (aO2 aZ)))))) ⟨_,0,rfl,h,Le.r,hS⟩ ?_
  rintro n_1 _ t w1 ⟨μ1,i26,rfl,h,le45,hS⟩
  cases n_1 with
  | zero=>cases h
  | succ n_1 =>
  unfold r9_same_l1 at h
  refine cnrm (mK4 (mO2 (mK7 (mi (mO10 (mO2 mz)))))) (nz (st (ny ?_)))
  refine cifd (et (k10 d4)) (fun h46=>?_) (fun h46=>?_)
  ·replace h:=iT h46 h
   refine cskip (xn (cseq (cblock (nz ?_))))
   iterate 2 refine st ?_
   refine ny ?_
   refine cdraw (by kernel_rfl) rfl fun w2 hh_ ho_ ht_ hu_=>?_
   replace hS:=hS.drew hh_ ho_ ht_ hu_
   refine cpi 0 rfl (cpi 1 rfl ?_)
   replace h:=bI h; obtain ⟨x47,g48,h⟩:=h
   obtain ⟨b49,o50,cs51,e52,f53,m54⟩:=SlR.elem (m3.up le45) g48
   obtain rfl:=m54
   refine cp 2 rfl (u_iax underlying22 ti2 (et (k10 d6)) (et (k10 d7)) e52) (q10 p8) (cpi 4 rfl (cpi 5 rfl ?_))
   replace h:=bI h; obtain ⟨x55,g56,h⟩:=h
   obtain ⟨b57,o58,cs59,e60,f61,m62⟩:=SlR.elem (m6.up le45) g56
   obtain rfl:=m62
   refine cp 6 rfl (u_iax underlying22 ti2 (et (k20 d0)) (et (k20 d1)) e60) (q20 p2) (cr 3 [3,8] rfl (u_load ti2 (et (k10 d8)) ((f53 _ hS.a).one d0)) (q10 p9) (cr 7 [7,8] rfl (u_load ti2 (et (k20 d2)) ((f61 _ hS.a).one d0)) (q20 p3) (cpi 8 rfl (nu ?_))))
   refine cifd (et (k20 d4)) (fun h63=>?_) (fun h63=>?_)
   ·replace h:=iT h63 h
    refine nz (st (nw (cret ?_)))
    refine (fun h=>br (xr (xr (br (xr h))))) ?_
    obtain rfl:=Option.some.inj h
    refine ret1 rfl d4 ?_
    exact ⟨_,rfl,le45,hS⟩
   ·replace h:=iF h63 h
    refine cskip ?_
    refine (fun h=>bn (xn h)) ?_
    refine creg ?_
    replace h:=bI h; obtain ⟨i65,g66,h⟩:=h
    refine wl (s_addc (et (k10 d3)) ec g66 (dt (q20 p5)) (st (wnil (xl ?_))))
    exact ⟨n_1,_,_,rfl,(aK4 (aO2 (aK7 (aI (aO10 (aO2 aZ)))))),⟨_,i65,rfl,h,le45,hS⟩,Nat.lt_succ_self _⟩
  ·replace h:=iF h46 h
   refine cexit ?_
   refine (fun h=>xe (xe (bh h))) ?_
   refine xn (nz (st (nw (cret ?_))))
   obtain rfl:=Option.some.inj h
   refine ret1 rfl d4 ?_
   exact ⟨_,rfl,le45,hS⟩
theorem l12_says_w (hg:Le Gm μ0) {p_1:List UInt8} {p_2:List Int} {p_3:List (List Int)} {r:Bool} (m3:Sl μ0 a1 c2 p_2) (m6:Sl μ0 a4 c5 p_3) (h:l12_says fu p_1 p_2 p_3=some r) (hS:Sq μ0 w0 w (rsF)):CallsV prog 15 [S p_1,.slice a1 p_2.length c2,.slice a4 p_3.length c5] w (fun v w'=>∃ (μ':M) ,v=.bool r∧Le μ0 μ'∧Sq μ' w0 w' (rsF)):=by
 unfold l12_says at h
 refine enter func15 rfl (frm:=_::_::_::u5 (u20 [])) rfl (nz (st (nx ?_)))
 iterate 2 refine st ?_
 replace h:=bI h; obtain ⟨r7,g8,h⟩:=h
 refine ca (sh_ask_w hg m6 g8 hS) ?_
 rintro _ w1 ⟨μ1,a10,c11,a13,c14,a16,c17,rfl,le9,hS,m12,m15,m18⟩
 refine po ?_
 iterate 3 refine st ?_
 refine wl (s_alloc ti32 hS ?_); clear hS; intro b19 w2 hb20 hS; refine po ?_
 refine wl (s_storeA ti32 (et d7) (et (k10 d3)) rfl rfl hS d0 rfl p0 dn ?_)
 clear hS; intro w3 hS
 refine st (nx ?_)
 iterate 3 refine st ?_
 refine wspd (k10 d7) (q10 p7) (q10 p7) (fun h21=>?_) (fun h21=>?_)
 ·replace h:=iT h21 h
  refine sy rfl (wy rfl (k10 d7) (s_load ti3 (et (k10 d8)) ((hS.blk d0).cell d0) (dt (q10 p9)) (sy rfl ?_)))
  iterate 2 refine st ?_
  refine wspd (k20 d2) (q20 p2) (q20 p2) (fun h22=>?_) (fun h22=>?_)
  ·replace h:=iT h22 h
   refine sy rfl (wy rfl (k20 d2) (s_load ti22 (et (k20 d3)) ((hS.blk d0).cell d3) (dt (q20 p4)) (sy rfl ?_)))
   replace h:=bI h; obtain ⟨r23,g24,h⟩:=h
   refine wy rfl (k20 d2) (s_callv isfn18 ef (e1 (et (k20 d4)) (e1 (et (k20 d5)) e0)) (r9_same_w (hg.t le9) m12 (m3.up le9) g24 hS) ?_)
   rintro _ w4 ⟨μ2,rfl,le25,hS⟩
   refine po ?_
   iterate 2 refine st ?_
   refine nw (cret ?_)
   obtain rfl:=Option.some.inj h
   refine ret1 rfl d6 ?_
   replace hS:=hS.drop Rm.z
   exact ⟨_,rfl,(le9.t le25),hS⟩
  ·replace h:=iF h22 h
   refine sn rfl rfl (sn rfl rfl (sn rfl rfl (sn rfl rfl ?_)))
   iterate 2 refine st ?_
   refine nw (cret ?_)
   obtain rfl:=Option.some.inj h
   refine ret1 rfl d6 ?_
   replace hS:=hS.drop Rm.z
   exact ⟨_,rfl,le9,hS⟩
 ·replace h:=iF h21 h
  refine sn rfl rfl (sn rfl rfl (sn rfl rfl ?_))
  iterate 2 refine st ?_
  refine sn rfl rfl (sn rfl rfl (sn rfl rfl (sn rfl rfl ?_)))
  iterate 2 refine st ?_
  refine nw (cret ?_)
  obtain rfl:=Option.some.inj h
  refine ret1 rfl d6 ?_
  replace hS:=hS.drop Rm.z
  exact ⟨_,rfl,le9,hS⟩
theorem law_gate_w (hg:Le Gm μ0) {p_1:List Int} {p_2:List Bool} {r:Bool} (m3:Sl μ0 a1 c2 p_1) (m6:Sl μ0 a4 c5 p_2) (h:law_gate fu p_1 p_2=some r) (hS:Sq μ0 w0 w (rsF)):CallsV prog 9 [.slice a1 p_1.length c2,.slice a4 p_2.length c5] w (fun v w'=>∃ (μ':M) ,v=.bool r∧Le μ0 μ'∧Sq μ' w0 w' (rsF)):=by
 unfold law_gate at h
 refine enter func9 rfl (frm:=_::_::u1 (u2 (u5 (u20 (u20 []))))) rfl (nz (st (ny (cseq ?_))))
 refine ccutE (List.range' 10 7) (by decide) (fun m w=>∃ μx b7,m=(yK10 (yO7 10 (.i (.bool b7)::[])))∧law_gate_j1 fu p_1 p_2 b7=some r∧Le μ0 μx∧Sq μx w0 w (rsF)) (by rintro _ _ ⟨_,_,rfl,_⟩; rfl) ?_ ?_
 ·refine creg (st (wl (s_lensl underlying22 (et (k10 d0)) (dt (q10 p1)) ?_)))
  iterate 2 refine st ?_
  refine wspd (k10 d3) (q10 p3) (q10 p3) (fun h8=>?_) (fun h8=>?_)
  ·replace h:=iT h8 h
   refine sn rfl rfl (sn rfl rfl (sn rfl rfl (st (wnil (xl ?_)))))
   exact ⟨_,_,rfl,(aK10 (aO7 (aI aZ))),_,true,rfl,h,Le.r,hS⟩
  ·replace h:=iF h8 h
   refine sy rfl (wy rfl (k10 d3) (s_lensl underlying26 (et (k10 d4)) (dt (q10 p5)) (sy rfl (st (wnil (xl ?_))))))
   exact ⟨_,_,rfl,(aK10 (aO7 (aI aZ))),_,(decide ((100:Int)<(p_2.length:Int))),rfl,h,Le.r,hS⟩
 ·rintro _ t w1 ⟨μ1,b7,rfl,h,le9,hS⟩
  unfold law_gate_j1 at h
  refine nrm (mK10 (mO7 (mi mz))) (xn ?_)
  refine cifb (et (k10 d7)) (fun h10=>?_) (fun h10=>?_)
  ·replace h:=iT h10 h
   refine nz (st (nw (cret (xr ?_))))
   obtain rfl:=Option.some.inj h
   refine ret1 rfl d4 ?_
   exact ⟨_,rfl,le9,hS⟩
  ·replace h:=iF h10 h
   refine cskip (xn (nz ?_))
   iterate 2 refine st ?_
   refine ny (nz (st (wl (s_lensl underlying26 (et (k10 d8)) (dt (q10 p9)) (st (nw (cblock ?_)))))))
   replace hS:=hS.nilRow 2 (Mo.sz Int)
   replace hS:=hS.nilRow 2 (Mo.sz Int)
   replace hS:=hS.bg Y1
   refine cloopE (List.range' 7 3++List.range' 21 24) (by decide +kernel) (fun n m w=>∃ μx i52 l55 v53 cs54 l59 v57 cs58,m=(yK5 (.i (v53)::(.i (v57)::(yO3 7 (yK10 (.i (.int .i64 i52)::(yO20 21 (yO4 41 []))))))))∧law_gate_l1 fu p_1 p_2 n i52 l55 l59=some r∧Le μ1 μx∧Sq μx w0 w (.row v53 2 1 l55.length cs54::.row v57 2 1 l59.length cs58::rsF)∧Rw μx cs54 l55∧Rw μx cs58 l59) (by rintro _ _ _ ⟨_,_,_,_,_,_,_,_,rfl,_⟩; rfl) _ _ (aK5 (aI (aI (aO3 (aK10 (aI (aO20 (aO4 aZ)))))))) ⟨_,0,[],(.slice none 0 0),[],[],(.slice none 0 0),[],rfl,h,Le.r,hS,Rw.nil,Rw.nil⟩ ?_
   rintro n_1 _ t w2 ⟨μ2,i52,l55,v53,cs54,l59,v57,cs58,rfl,h,le100,hS,m101,m102⟩
   cases n_1 with
   | zero=>cases h
   | succ n_1 =>
   unfold law_gate_l1 at h
   refine cnrm (mK5 (mi (mi (mO3 (mK10 (mi (mO20 (mO4 mz)))))))) (nz (st (ny ?_)))
   refine cifd (et (k20 d1)) (fun h103=>?_) (fun h103=>?_)
   ·replace h:=iT h103 h
    refine cskip (xn (cseq (cblock (nz (st ?_)))))
    replace h:=bI h; obtain ⟨x104,g105,h⟩:=h
    obtain ⟨b106,o107,cs108,e109,f110,m111⟩:=SlR.elem (m6.up (le9.t le100)) g105
    obtain rfl:=m111
    refine wl (s_iax underlying26 ti4 (et (k10 d8)) (et (k20 d0)) e109 (dt (q20 p3)) (ld ((f110 _ hS.a).one d0) ?_))
    iterate 2 refine st ?_
    refine nx (st (ny (nz (st (nw ?_)))))
    refine ccutE ([]) (by decide) (fun m w=>∃ μx i112,m=(yK9 (.i (.int .i64 i112)::[]))∧law_gate_j2 p_1 i52 l55 l59 x104 (law_gate_l1 fu p_1 p_2 n_1) i112=some r∧Le μ2 μx∧Sq μx w0 w (.row v53 2 1 l55.length cs54::.row v57 2 1 l59.length cs58::rsF)) (by rintro _ _ ⟨_,_,rfl,_⟩; rfl) ?_ ?_
    ·refine cifb (et (k20 d5)) (fun h113=>?_) (fun h113=>?_)
     ·replace h:=iT h113 h
      refine creg (st (wnil (xl ?_)))
      exact ⟨_,_,rfl,(aK9 (aI aZ)),_,1,rfl,h,Le.r,hS⟩
     ·replace h:=iF h113 h
      refine cskip (xl ?_)
      exact ⟨_,_,rfl,(aK9 (aI aZ)),_,0,rfl,h,Le.r,hS⟩
    ·rintro _ t w3 ⟨μ3,i112,rfl,h,le114,hS⟩
     unfold law_gate_j2 at h
     refine nrm (mK9 (mi mz)) (xn (nz ?_))
     iterate 2 refine st ?_
     refine wl (s_bsl underlying22 ti2 (Parts.s (et (k20 d7)) rfl Parts.z) rfl rfl hS ?_); clear hS; intro b115 w4 hb116 hS; refine po ?_
     replace h:=bI h; obtain ⟨l119,g120,h⟩:=h
     have m121:Rw μ3 [.int .i64 i112] [i112]:=(Rw.one (α:=Int) rfl)
     have m118:=Rw.app (m101.up le114) m121 g120
     refine wl (s_app1 underlying22 ti2 rfl (et (k20 d6)) (et (k20 d8)) hS d1 (hS.blk d0).cells m121 rfl g120 (by decide) ?_); clear hS; intro v117 w5 rs_ hp_ hS; cases (show _=rs_ from hp_)
     replace hS:=Sep.reput hS p1; refine po ?_
     replace hS:=hS.drop Rm.z
     refine st (ny ?_)
     refine ccutE (List.range' 30 6) (by decide) (fun m w=>∃ μx b122,m=(yK20 (yK10 (yO6 30 (.i (.bool b122)::[]))))∧law_gate_j3 p_1 i52 l59 l119 (law_gate_l1 fu p_1 p_2 n_1) b122=some r∧Le μ3 μx∧Sq μx w0 w (.row v117 2 1 l119.length (cs54++[.int .i64 i112])::.row v57 2 1 l59.length cs58::rsF)) (by rintro _ _ ⟨_,_,rfl,_⟩; rfl) ?_ ?_
     ·refine creg ?_
      iterate 2 refine st ?_
      refine wspb (k30 d1) (q30 p1) (q30 p1) (fun h123=>?_) (fun h123=>?_)
      ·replace h:=iT h123 h
       refine sy rfl (sy rfl (wy rfl (k30 d1) (s_lensl underlying22 (et (k30 d3)) (dt (q30 p4)) (sy rfl (st (wnil (xl ?_)))))))
       exact ⟨_,_,rfl,(aK20 (aK10 (aO6 (aI aZ)))),_,(decide (i52<(p_1.length:Int))),rfl,h,Le.r,hS⟩
      ·replace h:=iF h123 h
       refine sn rfl rfl (sn rfl rfl (sn rfl rfl (sn rfl rfl (st (wnil (xl ?_))))))
       exact ⟨_,_,rfl,(aK20 (aK10 (aO6 (aI aZ)))),_,false,rfl,h,Le.r,hS⟩
     ·rintro _ t w6 ⟨μ4,b122,rfl,h,le124,hS⟩
      unfold law_gate_j3 at h
      refine nrm (mK20 (mK10 (mO6 (mi mz)))) (xn ?_)
      refine cifb (et (k30 d6)) (fun h125=>?_) (fun h125=>?_)
      ·replace h:=iT h125 h
       refine creg ?_
       iterate 3 refine st ?_
       replace h:=bI h; obtain ⟨x126,g127,h⟩:=h
       obtain ⟨b128,o129,cs130,e131,f132,m133⟩:=SlR.elem (m3.up (le9.t (le100.t (le114.t le124)))) g127
       obtain rfl:=m133
       refine wl (s_iax underlying22 ti2 (et (k30 d8)) (et (k30 d9)) e131 (dt (q40 p0)) (ld ((f132 _ hS.a).one d0) ?_))
       refine wl (s_bsl underlying22 ti2 (Parts.s (et (k40 d1)) rfl Parts.z) rfl rfl hS ?_); clear hS; intro b134 w7 hb135 hS; refine po ?_
       replace h:=bI h; obtain ⟨l138,g139,h⟩:=h
       have m140:Rw μ4 [.int .i64 x126] [x126]:=(Rw.one (α:=Int) rfl)
       have m137:=Rw.app (m102.up (le114.t le124)) m140 g139
       refine wl (s_app1 underlying22 ti2 rfl (et (k30 d7)) (et (k40 d2)) hS d2 (hS.blk d0).cells m140 rfl g139 (by decide) ?_); clear hS; intro v136 w8 rs_ hp_ hS; cases (show _=rs_ from hp_)
       replace hS:=Sep.reput hS p2; refine po ?_
       replace hS:=hS.drop Rm.z
       refine st (wnil ?_)
       refine (fun h=>bn (xn h)) ?_
       refine creg ?_
       replace h:=bI h; obtain ⟨i141,g142,h⟩:=h
       refine wl (s_addc (et (k20 d0)) ec g142 (dt (q40 p4)) (st (wnil (xl ?_))))
       exact ⟨n_1,_,_,rfl,(aK5 (aI (aI (aO3 (aK10 (aI (aO20 (aO4 aZ)))))))),⟨_,i141,l119,v117,(cs54++[.int .i64 i112]),l138,v136,(cs58++[.int .i64 x126]),rfl,h,(le100.t (le114.t le124)),hS,(m118.up le124),m137⟩,Nat.lt_succ_self _⟩
      ·replace h:=iF h125 h
       refine cskip ?_
       refine (fun h=>bn (xn h)) ?_
       refine creg ?_
       replace h:=bI h; obtain ⟨i143,g144,h⟩:=h
       refine wl (s_addc (et (k20 d0)) ec g144 (dt (q40 p4)) (st (wnil (xl ?_))))
       exact ⟨n_1,_,_,rfl,(aK5 (aI (aI (aO3 (aK10 (aI (aO20 (aO4 aZ)))))))),⟨_,i143,l119,v117,(cs54++[.int .i64 i112]),l59,v57,cs58,rfl,h,(le100.t (le114.t le124)),hS,(m118.up le124),(m102.up (le114.t le124))⟩,Nat.lt_succ_self _⟩
   ·replace h:=iF h103 h
    refine cexit ?_
    refine (fun h=>xe (xe (bh h))) ?_
    refine xn (nz ?_)
    iterate 3 refine st ?_
    obtain ⟨μ5,a145,c146,e149,le148,m147,hq_⟩:=Sep.frzRow hS m101 rfl; clear hS
    subst e149; have hS:=hq_; clear hq_
    refine wl (s_bsl underlying29 ti22 (Parts.s (et (k40 d6)) rfl (Parts.s (et (k40 d7)) rfl Parts.z)) rfl rfl hS ?_); clear hS; intro b150 w9 hb151 hS; refine po ?_
    replace hS:=hS.bg Y1
    obtain ⟨μ6,a152,c153,e156,le155,m154,hq_⟩:=Sep.frzRow hS (m102.up le148) rfl; clear hS
    subst e156; have hS:=hq_; clear hq_
    obtain ⟨μ7,le158,m157,hS⟩:=Sep.frzBlk (l:=([p_1,l55]:List (List Int))) hS (Rw.cons (α:=List Int) (cs:=[.slice a1 p_1.length c2]) ⟨a1,c2,rfl,(m3.up (le9.t (le100.t (le148.t le155))))⟩ (Rw.cons (α:=List Int) (cs:=[.slice a145 l55.length c146]) ⟨a145,c146,rfl,(m147.up le155)⟩ Rw.nil)) (Nat.le_of_ble_eq_true rfl)
    replace h:=bI h; obtain ⟨r159,g160,h⟩:=h
    refine ca (l12_says_w (hg.t (le9.t (le100.t (le148.t (le155.t le158))))) (m154.up le158) m157 g160 hS) ?_
    rintro _ w10 ⟨μ8,rfl,le161,hS⟩
    refine po (st (nw (cret ?_)))
    obtain rfl:=Option.some.inj h
    refine ret1 rfl d4 ?_
    exact ⟨_,rfl,(le9.t (le100.t (le148.t (le155.t (le158.t le161))))),hS⟩
end Go.Proofs.YtegmgfljdeabeaaGreatDoor
