/- Texts of SemaBare Wl. -/
import Derived.Test.YtjbiabapnphheaaGreatDoorCXu
import Derived.Test.YtjbiabapnphheaaGreatDoorCPl
import Derived.Test.YtjbiabapnphheaaGreatDoorCWc
set_option linter.unusedSimpArgs false
set_option linter.unusedVariables false
set_option linter.unusedSectionVars false
set_option maxRecDepth 100000
set_option maxHeartbeats 20000000
namespace Go.Proofs.YtjbiabapnphheaaGreatDoor
open Go.Wk Go.Xt Go.Y Tryz
variable {c2 fu:Nat} {a1:Option Addr} {μ0:M} {w0 w:World} {rsF:List Res}
theorem l3_alive_w (hg:Le Gm μ0)  {r:Bool}  (h:l3_alive fu =some r) (hS:Sq μ0 w0 w (rsF)):CallsV prog 8 [] w (fun v w'=>∃ (μ':M) ,v=.bool r∧Le μ0 μ'∧Sq μ' w0 w' (rsF)):=by
 unfold l3_alive at h
 refine enter func8 rfl (frm:=u2 (u2 (u10 (u20 [])))) rfl (nz (st (nx ?_)))
 obtain ⟨r1,g2,h⟩:=bI h
 refine ca (syn_read_w hg g2 hS) ?_
 rintro _ w1 ⟨μ1,a4,c5,rfl,le3,hS,m6⟩
 refine po ?_
 iterate 3 refine st ?_
 refine wl (s_alloc ti27 hS ?_); clear hS; intro b7 w2 hb8 hS; refine po ?_
 refine st (wl (s_storeA ti27 (et d2) (et d8) rfl rfl hS d0 rfl p0 dn ?_))
 clear hS; intro w3 hS
 refine nx (st ?_)
 obtain ⟨r9,g10,h⟩:=bI h
 refine ca (sema_owners_w (hg.t le3) m6 g10 hS) ?_
 rintro _ w4 ⟨μ2,a12,c13,rfl,le11,hS,m14⟩
 refine po ?_
 iterate 3 refine st ?_
 refine wl (s_alloc ti27 hS ?_); clear hS; intro b15 w5 hb16 hS; refine po ?_
 refine st (wl (s_storeA ti27 (et d4) (et (k10 d3)) rfl rfl hS d0 rfl p0 dn ?_))
 clear hS; intro w6 hS
 refine nx (st (ld ((hS.blk d1).cell d0) ?_))
 iterate 2 refine st ?_
 refine wspd (k10 d7) (q10 p7) (q10 p7) (fun h17=>?_) (fun h17=>?_)
 ·replace h:=iT h17 h
  refine sy rfl (wy rfl (k10 d7) (s_load ti25 (et (k10 d8)) ((hS.blk d0).cell d0) (dt (q10 p9)) (sy rfl ?_)))
  iterate 2 refine st ?_
  refine wspd (k20 d2) (q20 p2) (q20 p2) (fun h18=>?_) (fun h18=>?_)
  ·replace h:=iT h18 h
   refine sy rfl (wy rfl (k20 d2) (su (u_lensl underlying24 (et (k20 d3))) (dt (q20 p4)) (sy rfl ?_)))
   iterate 2 refine st ?_
   refine wspd (k20 d7) (q20 p7) (q20 p7) (fun h19=>?_) (fun h19=>?_)
   ·replace h:=iT h19 h
    refine sy rfl ?_
    obtain ⟨x20,g21,h⟩:=bI h
    obtain ⟨b22,o23,cs24,e25,f26,m27⟩:=SlR.elem m14 g21
    obtain rfl:=m27
    refine wy rfl (k20 d7) (su (u_iax underlying24 ti37 (et (k20 d8)) ec e25) (dt (q20 p9)) (wy rfl (k20 d7) (s_loads ti37 (et (k20 d9)) (f26 _ hS.a) rfl (dt (q30 p0)) (wy rfl (k20 d7) (s_build ti37 pl37 (Fl.o rfl ec rfl rfl p0 (Fl.o rfl ec rfl rfl p1 (Fl.o rfl ec rfl rfl p2 Fl.z))) (dt (q30 p1)) (wy rfl (k20 d7) (s_eqa (ES.mk underlying37 eh37 eg37) (et (k30 d0)) (et (k30 d1)) (EqFs.o rfl rfl rfl ti9 d0 d0 (eq_str underlying9) (EqFs.o rfl rfl rfl ti9 d1 d1 (eq_str underlying9) (EqFs.o rfl rfl rfl ti9 d2 d2 (eq_str underlying9) EqFs.z))) rfl (dt (q30 p2)) ?_)))))))
    iterate 2 refine st ?_
    refine nw (cret ?_)
    obtain rfl:=oI h
    refine ret1 rfl d0 ?_
    replace hS:=(hS.drop Rm.z).drop Rm.z
    exact ⟨_,rfl,(le3.t le11),hS⟩
   ·replace h:=iF h19 h
    refine sn rfl rfl (sn rfl rfl (sn rfl rfl (sn rfl rfl (sn rfl rfl ?_))))
    iterate 2 refine st ?_
    refine nw (cret ?_)
    obtain rfl:=oI h
    refine ret1 rfl d0 ?_
    replace hS:=(hS.drop Rm.z).drop Rm.z
    exact ⟨_,rfl,(le3.t le11),hS⟩
  ·replace h:=iF h18 h
   refine sn rfl rfl (sn rfl rfl (sn rfl rfl ?_))
   iterate 2 refine st ?_
   refine sn rfl rfl (sn rfl rfl (sn rfl rfl (sn rfl rfl (sn rfl rfl ?_))))
   iterate 2 refine st ?_
   refine nw (cret ?_)
   obtain rfl:=oI h
   refine ret1 rfl d0 ?_
   replace hS:=(hS.drop Rm.z).drop Rm.z
   exact ⟨_,rfl,(le3.t le11),hS⟩
 ·replace h:=iF h17 h
  refine sn rfl rfl (sn rfl rfl (sn rfl rfl ?_))
  iterate 2 refine st ?_
  refine sn rfl rfl (sn rfl rfl (sn rfl rfl ?_))
  iterate 2 refine st ?_
  refine sn rfl rfl (sn rfl rfl (sn rfl rfl (sn rfl rfl (sn rfl rfl ?_))))
  iterate 2 refine st ?_
  refine nw (cret ?_)
  obtain rfl:=oI h
  refine ret1 rfl d0 ?_
  replace hS:=(hS.drop Rm.z).drop Rm.z
  exact ⟨_,rfl,(le3.t le11),hS⟩
end Go.Proofs.YtjbiabapnphheaaGreatDoor
set_option maxRecDepth 100000
set_option maxHeartbeats 20000000
namespace Go.Proofs.YtjbiabapnphheaaGreatDoor
open Go.Wk Go.Xt Go.Y Tryz
variable {c2 fu:Nat} {a1:Option Addr} {μ0:M} {w0 w:World} {rsF:List Res}
theorem r2_btype_w (hg:Le Gm μ0) {p_1 r:TType}  (h:r2_btype p_1=some r) (hS:Sq μ0 w0 w (rsF)):CallsV prog 22 [.agg ⟨[.int .i64 p_1.Kind,S p_1.Gen]⟩] w (fun v w'=>∃ (μ':M) ,v=.agg ⟨[.int .i64 r.Kind,S r.Gen]⟩∧Le μ0 μ'∧Sq μ' w0 w' (rsF)):=by
 unfold r2_btype at h
 refine enter func22 rfl (frm:=_::u2 (u5 [])) rfl (nz ?_)
 refine wl (s_box (et d0) rfl hS ?_); clear hS; intro b1 w1 hb2 hS; refine po ?_
 refine wl (s_alloc ti31 hS ?_); clear hS; intro b3 w2 hb4 hS; refine po ?_
 refine ny (nz (st (ld ((hS.blk d1).cell d0) (st (nw ?_)))))
 refine ccutE ([6]) (by decide) (fun m w=>∃ μx s5,m=(yK6 (yO1 6 []))∧r2_btype_j1 p_1 s5=some r∧Le μ0 μx∧Sq μx w0 w (.blk b1 31 [.int .i64 p_1.Kind,S s5]::.blk b3 31 [.int .i64 0,S []]::rsF)) (by rintro _ _ ⟨_,_,rfl,_⟩; rfl) ?_ ?_
 ·refine cifd (et d5) (fun h6=>?_) (fun h6=>?_)
  ·replace h:=iT h6 h
   refine creg (st (wl (s_store1 ti9 (et d6) ec rfl hS d1 p1 rfl p1 dn ?_)))
   clear hS; intro w3 hS
   refine wnil (xl ?_)
   replace hS:=hS.bg Y1
   exact ⟨_,_,rfl,(aK6 (aO1 aZ)),_,[],rfl,h,Le.r,hS⟩
  ·replace h:=iF h6 h
   refine cskip (xl ?_)
   replace hS:=hS.bg Y1
   exact ⟨_,_,rfl,(aK6 (aO1 aZ)),_,p_1.Gen,rfl,h,Le.r,hS⟩
 ·rintro _ t w4 ⟨μ1,s5,rfl,h,le7,hS⟩
  unfold r2_btype_j1 at h
  refine nrm (mK6 (mO1 mz)) (xn (nz (lds (hS.blk d0).cells rfl (wl (s_storeA ti31 (et d2) (et d7) rfl rfl hS d1 rfl p1 dn ?_)))))
  clear hS; intro w5 hS
  refine nw (cret ?_)
  obtain rfl:=oI h
  refine retN rfl (RVs.s (.a d2 ti31 (hS.blk d1).cells rfl) RVs.z) ?_
  replace hS:=(hS.drop Rm.z).drop Rm.z
  exact ⟨_,rfl,le7,hS⟩
structure BareESound (sf:BareE):Prop where
  r2_bexpr:∀ {μ0:M} {w0 w:World} {rsF:List Res} (hg:Le Gm μ0) {p_1:TExpr} {a1:Option Addr} {c2:Nat} {r:TExpr} (m3:Sl μ0 a1 c2 p_1.Kids) (h:sf.r2_bexpr p_1=some r) (hS:Sq μ0 w0 w (rsF)),CallsV prog 42 [.agg ⟨[.int .i64 p_1.Kind,.int .i64 p_1.N,S p_1.Name,.slice a1 p_1.Kids.length c2]⟩] w (fun v w'=>∃ (μ':M) (a4:Option Addr) (c5:Nat),v=.agg ⟨[.int .i64 r.Kind,.int .i64 r.N,S r.Name,.slice a4 r.Kids.length c5]⟩∧Le μ0 μ'∧Sq μ' w0 w' (rsF)∧Sl μ' a4 c5 r.Kids)
theorem r2_bexpr_w {self:BareE} (IH:BareESound self) {μ0:M} {w0 w:World} {rsF:List Res} (hg:Le Gm μ0) {p_1:TExpr} {a1:Option Addr} {c2:Nat} {r:TExpr} (m3:Sl μ0 a1 c2 p_1.Kids) (h:r2_bexpr self p_1=some r) (hS:Sq μ0 w0 w (rsF)):CallsV prog 42 [.agg ⟨[.int .i64 p_1.Kind,.int .i64 p_1.N,S p_1.Name,.slice a1 p_1.Kids.length c2]⟩] w (fun v w'=>∃ (μ':M) (a4:Option Addr) (c5:Nat),v=.agg ⟨[.int .i64 r.Kind,.int .i64 r.N,S r.Name,.slice a4 r.Kids.length c5]⟩∧Le μ0 μ'∧Sq μ' w0 w' (rsF)∧Sl μ' a4 c5 r.Kids):=by
 unfold r2_bexpr at h
 refine enter func42 rfl (frm:=_::u1 (u5 (u50 []))) rfl (nz ?_)
 refine wl (s_box (et d0) rfl hS ?_); clear hS; intro b7 w1 hb8 hS; refine po ?_
 refine wl (s_alloc ti118 hS ?_); clear hS; intro b9 w2 hb10 hS; refine po ?_
 refine nx (st (ld ((hS.blk d1).cell d0) (wl (s_build ti118 pl118 (Fl.o rfl (et d7) rfl rfl p0 Fl.z) (dt p8) ?_))))
 refine wl (s_alloc ti118 hS ?_); clear hS; intro b11 w3 hb12 hS; refine po ?_
 refine wl (s_storeA ti118 (et d3) (et d8) rfl rfl hS d0 rfl p0 dn ?_)
 clear hS; intro w4 hS
 refine ny (cseq ?_)
 refine ccutE (rg 9 7) (by decide) (fun m w=>∃ μx b13,m=(yK9 (yO7 9 (.i (.bool b13)::[])))∧r2_bexpr_j1 self p_1 b13=some r∧Le μ0 μx∧Sq μx w0 w (.blk b7 118 [.int .i64 p_1.Kind,.int .i64 p_1.N,S p_1.Name,.slice a1 p_1.Kids.length c2]::.blk b9 118 [.int .i64 0,.int .i64 0,S [],.slice none 0 0]::.blk b11 118 [.int .i64 p_1.Kind,.int .i64 0,S [],.slice none 0 0]::rsF)) (by rintro _ _ ⟨_,_,rfl,_⟩; rfl) ?_ ?_
 ·refine creg (st (ld ((hS.blk d2).cell d0) ?_))
  iterate 2 refine st ?_
  refine wspd (k10 d2) (q10 p2) (q10 p2) (fun h14=>?_) (fun h14=>?_)
  ·replace h:=iT h14 h
   refine sn rfl rfl (sn rfl rfl (sn rfl rfl (st (wnil (xl ?_)))))
   replace hS:=(hS.bg Y1).bg Y2
   exact ⟨_,_,rfl,(aK9 (aO7 (aI aZ))),_,true,rfl,h,Le.r,hS⟩
  ·replace h:=iF h14 h
   refine sy rfl (wy rfl (k10 d2) (s_load ti3 (et (k10 d3)) ((hS.blk d2).cell d0) (dt (q10 p4)) (sy rfl (st (wnil (xl ?_))))))
   replace hS:=(hS.bg Y1).bg Y2
   exact ⟨_,_,rfl,(aK9 (aO7 (aI aZ))),_,(decide (p_1.Kind=2)),rfl,h,Le.r,hS⟩
 ·rintro _ t w5 ⟨μ1,b13,rfl,h,le15,hS⟩
  unfold r2_bexpr_j1 at h
  refine nrm (mK9 (mO7 (mi mz))) (xn ?_)
  refine ccutE (rg 17 3) (by decide) (fun m w=>∃ μx i16,m=(yK10 (yK7 (yO3 17 [])))∧r2_bexpr_j2 self p_1 i16=some r∧Le μ1 μx∧Sq μx w0 w (.blk b7 118 [.int .i64 p_1.Kind,.int .i64 p_1.N,S p_1.Name,.slice a1 p_1.Kids.length c2]::.blk b9 118 [.int .i64 0,.int .i64 0,S [],.slice none 0 0]::.blk b11 118 [.int .i64 p_1.Kind,.int .i64 i16,S [],.slice none 0 0]::rsF)) (by rintro _ _ ⟨_,_,rfl,_⟩; rfl) ?_ ?_
  ·refine cifb (et (k10 d6)) (fun h17=>?_) (fun h17=>?_)
   ·replace h:=iT h17 h
    refine creg (st (ld ((hS.blk d0).cell d1) (st (wl (s_store1 ti2 (et (k10 d9)) (et (k10 d8)) rfl hS d2 p1 rfl p2 dn ?_)))))
    clear hS; intro w6 hS
    refine wnil (xl ?_)
    exact ⟨_,_,rfl,(aK10 (aK7 (aO3 aZ))),_,p_1.N,rfl,h,Le.r,hS⟩
   ·replace h:=iF h17 h
    refine cskip (xl ?_)
    exact ⟨_,_,rfl,(aK10 (aK7 (aO3 aZ))),_,0,rfl,h,Le.r,hS⟩
  ·rintro _ t w7 ⟨μ2,i16,rfl,h,le18,hS⟩
   unfold r2_bexpr_j2 at h
   refine nrm (mK10 (mK7 (mO3 mz))) (xn (cseq (cseq ?_)))
   refine ccutE (rg 20 17) (by decide) (fun m w=>∃ μx b19,m=(yK20 (yO10 20 (yO7 30 (.i (.bool b19)::[]))))∧r2_bexpr_j3 self p_1 i16 b19=some r∧Le μ2 μx∧Sq μx w0 w (.blk b7 118 [.int .i64 p_1.Kind,.int .i64 p_1.N,S p_1.Name,.slice a1 p_1.Kids.length c2]::.blk b9 118 [.int .i64 0,.int .i64 0,S [],.slice none 0 0]::.blk b11 118 [.int .i64 p_1.Kind,.int .i64 i16,S [],.slice none 0 0]::rsF)) (by rintro _ _ ⟨_,_,rfl,_⟩; rfl) ?_ ?_
   ·refine creg (st (ld ((hS.blk d0).cell d0) ?_))
    iterate 2 refine st ?_
    refine wspd (k20 d3) (q20 p3) (q20 p3) (fun h20=>?_) (fun h20=>?_)
    ·replace h:=iT h20 h
     refine sn rfl rfl (sn rfl rfl (sn rfl rfl ?_))
     iterate 2 refine st ?_
     refine sn rfl rfl (sn rfl rfl (sn rfl rfl ?_))
     iterate 2 refine st ?_
     refine sn rfl rfl (sn rfl rfl (sn rfl rfl (st (wnil (xl ?_)))))
     exact ⟨_,_,rfl,(aK20 (aO10 (aO7 (aI aZ)))),_,true,rfl,h,Le.r,hS⟩
    ·replace h:=iF h20 h
     refine sy rfl (wy rfl (k20 d3) (s_load ti3 (et (k20 d4)) ((hS.blk d0).cell d0) (dt (q20 p5)) (sy rfl ?_)))
     iterate 2 refine st ?_
     refine wspd (k20 d8) (q20 p8) (q20 p8) (fun h21=>?_) (fun h21=>?_)
     ·replace h:=iT h21 h
      refine sn rfl rfl (sn rfl rfl (sn rfl rfl ?_))
      iterate 2 refine st ?_
      refine sn rfl rfl (sn rfl rfl (sn rfl rfl (st (wnil (xl ?_)))))
      exact ⟨_,_,rfl,(aK20 (aO10 (aO7 (aI aZ)))),_,true,rfl,h,Le.r,hS⟩
     ·replace h:=iF h21 h
      refine sy rfl (wy rfl (k20 d8) (s_load ti3 (et (k20 d9)) ((hS.blk d0).cell d0) (dt (q30 p0)) (sy rfl ?_)))
      iterate 2 refine st ?_
      refine wspd (k30 d3) (q30 p3) (q30 p3) (fun h22=>?_) (fun h22=>?_)
      ·replace h:=iT h22 h
       refine sn rfl rfl (sn rfl rfl (sn rfl rfl (st (wnil (xl ?_)))))
       exact ⟨_,_,rfl,(aK20 (aO10 (aO7 (aI aZ)))),_,true,rfl,h,Le.r,hS⟩
      ·replace h:=iF h22 h
       refine sy rfl (wy rfl (k30 d3) (s_load ti3 (et (k30 d4)) ((hS.blk d0).cell d0) (dt (q30 p5)) (sy rfl (st (wnil (xl ?_))))))
       exact ⟨_,_,rfl,(aK20 (aO10 (aO7 (aI aZ)))),_,(decide (p_1.Kind=22)),rfl,h,Le.r,hS⟩
   ·rintro _ t w8 ⟨μ3,b19,rfl,h,le23,hS⟩
    unfold r2_bexpr_j3 at h
    refine nrm (mK20 (mO10 (mO7 (mi mz)))) (xn ?_)
    refine ccutE (rg 38 3) (by decide) (fun m w=>∃ μx s24,m=(yK20 (yK10 (yK8 (yO3 38 []))))∧r2_bexpr_j4 self p_1 i16 s24=some r∧Le μ3 μx∧Sq μx w0 w (.blk b7 118 [.int .i64 p_1.Kind,.int .i64 p_1.N,S p_1.Name,.slice a1 p_1.Kids.length c2]::.blk b9 118 [.int .i64 0,.int .i64 0,S [],.slice none 0 0]::.blk b11 118 [.int .i64 p_1.Kind,.int .i64 i16,S s24,.slice none 0 0]::rsF)) (by rintro _ _ ⟨_,_,rfl,_⟩; rfl) ?_ ?_
    ·refine cifb (et (k30 d7)) (fun h25=>?_) (fun h25=>?_)
     ·replace h:=iT h25 h
      refine creg (st (ld ((hS.blk d0).cell d2) (st (wl (s_store1 ti9 (et (k40 d0)) (et (k30 d9)) rfl hS d2 p2 rfl p2 dn ?_)))))
      clear hS; intro w9 hS
      refine wnil (xl ?_)
      exact ⟨_,_,rfl,(aK20 (aK10 (aK8 (aO3 aZ)))),_,p_1.Name,rfl,h,Le.r,hS⟩
     ·replace h:=iF h25 h
      refine cskip (xl ?_)
      exact ⟨_,_,rfl,(aK20 (aK10 (aK8 (aO3 aZ)))),_,[],rfl,h,Le.r,hS⟩
    ·rintro _ t w10 ⟨μ4,s24,rfl,h,le26,hS⟩
     unfold r2_bexpr_j4 at h
     refine nrm (mK20 (mK10 (mK8 (mO3 mz)))) (xn (cseq (nz (st (ld ((hS.blk d0).cell d3) (wl (su (u_lensl underlying116 (et (k40 d2))) (dt (q40 p3)) (st (nw (cblock ?_))))))))))
     replace hS:=hS.nilRow 118 (Mo.sz TExpr)
     replace hS:=((hS.drop (Rm.s Rm.z)).bg Y2).bg Y2
     refine cloopE ([5]++rg 45 11) (by decide) (fun n m w=>∃ μx i56 l59 v57 cs58,m=(yK5 (yO1 5 (yK20 (yK10 (yK8 (.i (.int .i64 i56)::(yO10 45 (yO1 55 []))))))))∧r2_bexpr_l1 self p_1 i16 s24 n i56 l59=some r∧Le μ4 μx∧Sq μx w0 w (.blk b9 118 [.int .i64 0,.int .i64 0,S [],.slice none 0 0]::.blk b11 118 [.int .i64 p_1.Kind,.int .i64 i16,S s24,v57]::.row v57 118 4 l59.length cs58::rsF)∧Rw μx cs58 l59) (by rintro _ _ _ ⟨_,_,_,_,_,rfl,_⟩; rfl) _ _ (aK5 (aO1 (aK20 (aK10 (aK8 (aI (aO10 (aO1 aZ)))))))) ⟨_,0,[],(.slice none 0 0),[],rfl,h,Le.r,hS,Rw.nil⟩ ?_
     rintro n_1 _ t w11 ⟨μ5,i56,l59,v57,cs58,rfl,h,le89,hS,m90⟩
     cases n_1 with
     | zero=>cases h
     | succ n_1 =>
     unfold r2_bexpr_l1 at h
     refine cnrm (mK5 (mO1 (mK20 (mK10 (mK8 (mi (mO10 (mO1 mz)))))))) (nz (st (ny ?_)))
     refine cifd (et (k40 d5)) (fun h91=>?_) (fun h91=>?_)
     ·replace h:=iT h91 h
      refine cskip (xn (cseq (cblock (nz ?_))))
      obtain ⟨x92,g93,h⟩:=bI h
      obtain ⟨b94,o95,cs96,e97,f98,m99⟩:=SlR.elem (m3.up (le15.t (le18.t (le23.t (le26.t le89))))) g93
      obtain ⟨a100,c101,rfl,m102⟩:=TExpr.o m99
      refine wl (su (u_iax underlying116 ti118 (et (k40 d2)) (et (k40 d4)) e97) (dt (q40 p6)) (lds (f98 _ hS.a) rfl ?_))
      refine wl (s_alloc ti118 hS ?_); clear hS; intro b103 w12 hb104 hS; refine po ?_
      refine wl (s_storeA ti118 (et d5) (et (k40 d7)) rfl rfl hS d0 rfl p0 dn ?_)
      clear hS; intro w13 hS
      refine nw ?_
      refine ccutE (rg 48 7) (by decide) (fun m w=>∃ μx l107 v105 cs106,m=(yK20 (yK20 (yK8 (yO7 48 []))))∧r2_bexpr_j5 i56 (r2_bexpr_l1 self p_1 i16 s24 n_1) l107=some r∧Le μ5 μx∧Sq μx w0 w (.blk b9 118 [.int .i64 0,.int .i64 0,S [],.slice none 0 0]::.blk b11 118 [.int .i64 p_1.Kind,.int .i64 i16,S s24,v105]::.row v105 118 4 l107.length cs106::rsF)∧Rw μx cs106 l107) (by rintro _ _ ⟨_,_,_,_,rfl,_⟩; rfl) ?_ ?_
      ·refine cdw hS ?_; clear hS; intro w14 hS
       refine cpi 0 rfl (cr 2 [2,3,4,5,6,7] rfl (u_loads ti118 (et d5) (hS.blk d0).cells rfl) (q50 p0) ?_)
       refine sc2G (i:=1) (j:=3) rfl rfl rfl rfl rfl (wn0 rfl) (wn0 rfl) ?_ ?_
       ·refine id (s_load ti116 (et (k40 d8)) ((hS.blk d2).cell d3) (dt (q40 p9)) ?_)
        obtain ⟨r109,g110,h⟩:=bI h
        refine sc1 rfl rfl rfl (s_callv isfn42 ef (e1 (et (k50 d0)) e0) (IH.r2_bexpr (hg.t (le15.t (le18.t (le23.t (le26.t le89))))) m102 g110 hS) ?_)
        rintro _ w15 ⟨μ6,a112,c113,rfl,le111,hS,m114⟩
        refine po ?_
        refine sc1 rfl rfl rfl (s_bsl1 underlying116 ti118 rfl (et (k50 d1)) rfl hS ?_); clear hS; intro b115 w16 hb116 hS; refine po ?_
        obtain ⟨l119,g120,h⟩:=bI h
        have m121:Rw μ6 [.int .i64 r109.Kind,.int .i64 r109.N,S r109.Name,.slice a112 r109.Kids.length c113] [r109]:=(Rw.one (α:=TExpr) (TExpr.i ⟨a112,c113,rfl,m114⟩))
        have m118:=Rw.appN (m90.up le111) m121 g120
        refine sc1 rfl rfl rfl (s_app1N underlying116 ti118 rfl (et (k40 d9)) (et (k50 d2)) hS d4 (hS.blk d0).cells m121 rfl g120 (by decide) ?_); clear hS; intro v117 w17 rs_ hp_ hS; cases (show _=rs_ from hp_)
        replace hS:=Sep.reput hS p4; refine po ?_
        replace hS:=hS.drop Rm.z
        refine cpi 6 rfl (sc1 rfl rfl rfl (s_store1 ti116 (et (k50 d4)) (et (k50 d3)) (hS.get d3).cellV hS d2 p3 rfl p2 dn ?_))
        clear hS; intro w18 hS
        refine sc_nil (xl ?_)
        replace hS:=hS.drop Rm.z
        exact ⟨_,_,rfl,(aK20 (aK20 (aK8 (aO7 aZ)))),_,_,_,(cs58++[.int .i64 r109.Kind,.int .i64 r109.N,S r109.Name,.slice a112 r109.Kids.length c113]),rfl,h,le111,hS,m118⟩
       ·obtain ⟨r109,g110,h⟩:=bI h
        obtain ⟨l119,g120,h⟩:=bI h
        refine id (s_callv isfn42 ef (e1 (et (k50 d0)) e0) (IH.r2_bexpr (hg.t (le15.t (le18.t (le23.t (le26.t le89))))) m102 g110 hS) ?_)
        rintro _ w19 ⟨μ7,a123,c124,rfl,le122,hS,m125⟩
        refine po ?_
        refine sc2G (i:=1) (j:=4) rfl rfl rfl rfl rfl (wn0 rfl) (wn0 rfl) ?_ ?_
        ·refine id (s_load ti116 (et (k40 d8)) ((hS.blk d2).cell d3) (dt (q40 p9)) ?_)
         refine sc1 rfl rfl rfl (s_bsl1 underlying116 ti118 rfl (et (k50 d1)) rfl hS ?_); clear hS; intro b126 w20 hb127 hS; refine po ?_
         have m130:Rw μ7 [.int .i64 r109.Kind,.int .i64 r109.N,S r109.Name,.slice a123 r109.Kids.length c124] [r109]:=(Rw.one (α:=TExpr) (TExpr.i ⟨a123,c124,rfl,m125⟩))
         have m129:=Rw.appN (m90.up le122) m130 g120
         refine sc1 rfl rfl rfl (s_app1N underlying116 ti118 rfl (et (k40 d9)) (et (k50 d2)) hS d4 (hS.blk d0).cells m130 rfl g120 (by decide) ?_); clear hS; intro v128 w21 rs_ hp_ hS; cases (show _=rs_ from hp_)
         replace hS:=Sep.reput hS p4; refine po ?_
         replace hS:=hS.drop Rm.z
         refine cpi 6 rfl (sc1 rfl rfl rfl (s_store1 ti116 (et (k50 d4)) (et (k50 d3)) (hS.get d3).cellV hS d2 p3 rfl p2 dn ?_))
         clear hS; intro w22 hS
         refine sc_nil (xl ?_)
         replace hS:=hS.drop Rm.z
         exact ⟨_,_,rfl,(aK20 (aK20 (aK8 (aO7 aZ)))),_,_,_,(cs58++[.int .i64 r109.Kind,.int .i64 r109.N,S r109.Name,.slice a123 r109.Kids.length c124]),rfl,h,le122,hS,m129⟩
        ·refine id (s_bsl1 underlying116 ti118 rfl (et (k50 d1)) rfl hS ?_); clear hS; intro b131 w23 hb132 hS; refine po ?_
         refine cr 1 [1,5,6,7] rfl (u_load ti116 (et (k40 d8)) ((hS.blk d3).cell d3)) (q40 p9) ?_
         have m135:Rw μ7 [.int .i64 r109.Kind,.int .i64 r109.N,S r109.Name,.slice a123 r109.Kids.length c124] [r109]:=(Rw.one (α:=TExpr) (TExpr.i ⟨a123,c124,rfl,m125⟩))
         have m134:=Rw.appN (m90.up le122) m135 g120
         refine sc1 rfl rfl rfl (s_app1N underlying116 ti118 rfl (et (k40 d9)) (et (k50 d2)) hS d4 (hS.blk d0).cells m135 rfl g120 (by decide) ?_); clear hS; intro v133 w24 rs_ hp_ hS; cases (show _=rs_ from hp_)
         replace hS:=Sep.reput hS p4; refine po ?_
         replace hS:=hS.drop Rm.z
         refine cpi 6 rfl (sc1 rfl rfl rfl (s_store1 ti116 (et (k50 d4)) (et (k50 d3)) (hS.get d3).cellV hS d2 p3 rfl p2 dn ?_))
         clear hS; intro w25 hS
         refine sc_nil (xl ?_)
         replace hS:=hS.drop Rm.z
         exact ⟨_,_,rfl,(aK20 (aK20 (aK8 (aO7 aZ)))),_,_,_,(cs58++[.int .i64 r109.Kind,.int .i64 r109.N,S r109.Name,.slice a123 r109.Kids.length c124]),rfl,h,le122,hS,m134⟩
      ·rintro _ t w26 ⟨μ8,l107,v105,cs106,rfl,h,le136,hS,m137⟩
       unfold r2_bexpr_j5 at h
       refine nrm (mK20 (mK20 (mK8 (mO7 mz)))) ?_
       refine (fun h=>bn (xn h)) ?_
       refine creg ?_
       obtain ⟨i138,g139,h⟩:=bI h
       refine wl (su (u_addc (et (k40 d4)) ec g139) (dt (q50 p5)) (st (wnil (xl ?_))))
       exact ⟨n_1,_,_,rfl,(aK5 (aO1 (aK20 (aK10 (aK8 (aI (aO10 (aO1 aZ)))))))),⟨_,i138,l107,v105,cs106,rfl,h,(le89.t le136),hS,m137⟩,Nat.lt_succ_self _⟩
     ·replace h:=iF h91 h
      refine cexit ?_
      refine (fun h=>xe (xe (bh h))) ?_
      refine xn (nz (lds (hS.blk d1).cells rfl (wl (s_storeA ti118 (et d2) (et (k50 d6)) rfl (cv_s rfl (cv_s rfl (cv_s rfl (cv_s ((hS.get d2).cellV) cv_z)))) hS d0 rfl p0 dn ?_))))
      clear hS; intro w27 hS
      refine nw (cret ?_)
      replace hS:=hS.bg Y2
      obtain ⟨μ9,a140,c141,e144,le143,m142,hq_⟩:=Sep.frzRow hS m90 rfl; clear hS
      subst e144; have hS:=hq_; clear hq_
      obtain rfl:=oI h
      refine retN rfl (RVs.s (.a d2 ti118 (hS.blk d0).cells rfl) RVs.z) ?_
      replace hS:=(hS.drop Rm.z).drop Rm.z
      exact ⟨_,_,_,rfl,(le15.t (le18.t (le23.t (le26.t (le89.t le143))))),hS,m142⟩
theorem BareE_sound:∀ n,BareESound (BareE_run n)
  | 0=>⟨(by intros; rename_i h _; cases h)⟩
  | n+1=>⟨r2_bexpr_w (BareE_sound n)⟩
structure BareSSound (sf:BareS):Prop where
  r2_bstats:∀ {μ0:M} {w0 w:World} {rsF:List Res} (hg:Le Gm μ0) {p_1:List TStat} {a1:Option Addr} {c2:Nat} {r:List TStat} (m3:Sl μ0 a1 c2 p_1) (h:sf.r2_bstats p_1=some r) (hS:Sq μ0 w0 w (rsF)),CallsV prog 23 [.slice a1 p_1.length c2] w (fun v w'=>∃ (μ':M) (a4:Option Addr) (c5:Nat),v=.slice a4 r.length c5∧Le μ0 μ'∧Sq μ' w0 w' (rsF)∧Sl μ' a4 c5 r)
theorem r2_bstats_w {self:BareS} (IH:BareSSound self) {fu:Nat} {μ0:M} {w0 w:World} {rsF:List Res} (hg:Le Gm μ0) {p_1:List TStat} {a1:Option Addr} {c2:Nat} {r:List TStat} (m3:Sl μ0 a1 c2 p_1) (h:r2_bstats fu self p_1=some r) (hS:Sq μ0 w0 w (rsF)):CallsV prog 23 [.slice a1 p_1.length c2] w (fun v w'=>∃ (μ':M) (a4:Option Addr) (c5:Nat),v=.slice a4 r.length c5∧Le μ0 μ'∧Sq μ' w0 w' (rsF)∧Sl μ' a4 c5 r):=by
 unfold r2_bstats at h
 refine enter func23 rfl (frm:=_::u1 (u2 (u10 (u50 [])))) rfl (nz (st (nx (st (ny (nz (st (wl (su (u_lensl underlying33 (et d7)) (dt p8) (st (nw (cblock ?_))))))))))))
 replace hS:=hS.nilRow 120 (Mo.sz TStat)
 refine cloopE (rg 5 2++rg 10 53) (by decide +kernel) (fun n m w=>∃ μx i77 l80 v78 cs79,m=(yK3 (.i (v78)::(yK1 (yO2 5 (yK2 (.i (.int .i64 i77)::(yO50 10 (yO3 60 []))))))))∧r2_bstats_l1 fu self p_1 n i77 l80=some r∧Le μ0 μx∧Sq μx w0 w (.row v78 120 8 l80.length cs79::rsF)∧Rw μx cs79 l80) (by rintro _ _ _ ⟨_,_,_,_,_,rfl,_⟩; rfl) _ _ (aK3 (aI (aK1 (aO2 (aK2 (aI (aO50 (aO3 aZ)))))))) ⟨_,0,[],(.slice none 0 0),[],rfl,h,Le.r,hS,Rw.nil⟩ ?_
 rintro n_1 _ t w1 ⟨μ1,i77,l80,v78,cs79,rfl,h,le151,hS,m152⟩
 cases n_1 with
 | zero=>cases h
 | succ n_1 =>
 unfold r2_bstats_l1 at h
 refine cnrm (mK3 (mi (mK1 (mO2 (mK2 (mi (mO50 (mO3 mz)))))))) (nz (st (ny ?_)))
 refine cifd (et (k10 d0)) (fun h153=>?_) (fun h153=>?_)
 ·replace h:=iT h153 h
  refine cskip (xn (cseq (cblock (nz ?_))))
  obtain ⟨x154,g155,h⟩:=bI h
  obtain ⟨b156,o157,cs158,e159,f160,m161⟩:=SlR.elem (m3.up le151) g155
  obtain ⟨a162,c163,a165,c166,a168,c169,rfl,m164,m167,m170⟩:=TStat.o m161
  refine wl (su (u_iax underlying33 ti120 (et d7) (et d9) e159) (dt (q10 p1)) (lds (f160 _ hS.a) rfl ?_))
  refine wl (s_alloc ti120 hS ?_); clear hS; intro b171 w2 hb172 hS; refine po ?_
  refine wl (s_storeA ti120 (et d5) (et (k10 d2)) rfl rfl hS d0 rfl p0 dn ?_)
  clear hS; intro w3 hS
  refine nx (st (ld ((hS.blk d0).cell d0) (wl (s_build ti120 pl120 (Fl.o rfl (et (k10 d4)) rfl rfl p0 Fl.z) (dt (q10 p5)) ?_))))
  refine wl (s_alloc ti120 hS ?_); clear hS; intro b173 w4 hb174 hS; refine po ?_
  refine wl (s_storeA ti120 (et d6) (et (k10 d5)) rfl rfl hS d0 rfl p0 dn ?_)
  clear hS; intro w5 hS
  refine ny (cseq ?_)
  refine ccutE (rg 16 12) (by decide) (fun m w=>∃ μx b175,m=(yK10 (yK6 (yO10 16 (yO2 26 (.i (.bool b175)::[])))))∧r2_bstats_j1 fu self i77 l80 x154 (r2_bstats_l1 fu self p_1 n_1) b175=some r∧Le μ1 μx∧Sq μx w0 w (.row v78 120 8 l80.length cs79::.blk b171 120 [.int .i64 x154.Kind,S x154.Name,.int .i64 x154.X.Kind,.int .i64 x154.X.N,S x154.X.Name,.slice a162 x154.X.Kids.length c163,.slice a165 x154.Body.length c166,.slice a168 x154.Else.length c169]::.blk b173 120 [.int .i64 x154.Kind,S [],.int .i64 0,.int .i64 0,S [],.slice none 0 0,.slice none 0 0,.slice none 0 0]::rsF)) (by rintro _ _ ⟨_,_,rfl,_⟩; rfl) ?_ ?_
  ·refine creg (st (ld ((hS.blk d1).cell d0) ?_))
   iterate 2 refine st ?_
   refine wspd (k10 d9) (q10 p9) (q10 p9) (fun h176=>?_) (fun h176=>?_)
   ·replace h:=iT h176 h
    refine sn rfl rfl (sn rfl rfl (sn rfl rfl ?_))
    iterate 2 refine st ?_
    refine sn rfl rfl (sn rfl rfl (sn rfl rfl (st (wnil (xl ?_)))))
    replace hS:=(hS.bg Y1).bg Y2
    exact ⟨_,_,rfl,(aK10 (aK6 (aO10 (aO2 (aI aZ))))),_,true,rfl,h,Le.r,hS⟩
   ·replace h:=iF h176 h
    refine sy rfl (wy rfl (k10 d9) (s_load ti3 (et (k20 d0)) ((hS.blk d1).cell d0) (dt (q20 p1)) (sy rfl ?_)))
    iterate 2 refine st ?_
    refine wspd (k20 d4) (q20 p4) (q20 p4) (fun h177=>?_) (fun h177=>?_)
    ·replace h:=iT h177 h
     refine sn rfl rfl (sn rfl rfl (sn rfl rfl (st (wnil (xl ?_)))))
     replace hS:=(hS.bg Y1).bg Y2
     exact ⟨_,_,rfl,(aK10 (aK6 (aO10 (aO2 (aI aZ))))),_,true,rfl,h,Le.r,hS⟩
    ·replace h:=iF h177 h
     refine sy rfl (wy rfl (k20 d4) (s_load ti3 (et (k20 d5)) ((hS.blk d1).cell d0) (dt (q20 p6)) (sy rfl (st (wnil (xl ?_))))))
     replace hS:=(hS.bg Y1).bg Y2
     exact ⟨_,_,rfl,(aK10 (aK6 (aO10 (aO2 (aI aZ))))),_,(decide (x154.Kind=7)),rfl,h,Le.r,hS⟩
  ·rintro _ t w6 ⟨μ2,b175,rfl,h,le178,hS⟩
   unfold r2_bstats_j1 at h
   refine nrm (mK10 (mK6 (mO10 (mO2 (mi mz))))) (xn ?_)
   refine ccutE (rg 29 3) (by decide) (fun m w=>∃ μx s179,m=(yK20 (yK9 (yO3 29 [])))∧r2_bstats_j2 fu self i77 l80 x154 (r2_bstats_l1 fu self p_1 n_1) s179=some r∧Le μ2 μx∧Sq μx w0 w (.row v78 120 8 l80.length cs79::.blk b171 120 [.int .i64 x154.Kind,S x154.Name,.int .i64 x154.X.Kind,.int .i64 x154.X.N,S x154.X.Name,.slice a162 x154.X.Kids.length c163,.slice a165 x154.Body.length c166,.slice a168 x154.Else.length c169]::.blk b173 120 [.int .i64 x154.Kind,S s179,.int .i64 0,.int .i64 0,S [],.slice none 0 0,.slice none 0 0,.slice none 0 0]::rsF)) (by rintro _ _ ⟨_,_,rfl,_⟩; rfl) ?_ ?_
   ·refine cifb (et (k20 d8)) (fun h180=>?_) (fun h180=>?_)
    ·replace h:=iT h180 h
     refine creg (st (ld ((hS.blk d1).cell d1) (st (wl (s_store1 ti9 (et (k30 d1)) (et (k30 d0)) rfl hS d2 p1 rfl p2 dn ?_)))))
     clear hS; intro w7 hS
     refine wnil (xl ?_)
     exact ⟨_,_,rfl,(aK20 (aK9 (aO3 aZ))),_,x154.Name,rfl,h,Le.r,hS⟩
    ·replace h:=iF h180 h
     refine cskip (xl ?_)
     exact ⟨_,_,rfl,(aK20 (aK9 (aO3 aZ))),_,[],rfl,h,Le.r,hS⟩
   ·rintro _ t w8 ⟨μ3,s179,rfl,h,le181,hS⟩
    unfold r2_bstats_j2 at h
    refine nrm (mK20 (mK9 (mO3 mz))) (xn (cseq (nz (st (ld ((hS.blk d1).cell d0) (st (nw ?_)))))))
    refine ccutE (rg 35 4) (by decide) (fun m w=>∃ μx i182 i183 s184 l187 a185 c186,m=(yK20 (yK10 (yK5 (yO4 35 []))))∧r2_bstats_j3 self i77 l80 x154 s179 (r2_bstats_l1 fu self p_1 n_1) i182 i183 s184 l187=some r∧Le μ3 μx∧Sq μx w0 w (.row v78 120 8 l80.length cs79::.blk b171 120 [.int .i64 x154.Kind,S x154.Name,.int .i64 x154.X.Kind,.int .i64 x154.X.N,S x154.X.Name,.slice a162 x154.X.Kids.length c163,.slice a165 x154.Body.length c166,.slice a168 x154.Else.length c169]::.blk b173 120 [.int .i64 x154.Kind,S s179,.int .i64 i182,.int .i64 i183,S s184,.slice a185 l187.length c186,.slice none 0 0,.slice none 0 0]::rsF)∧Sl μx a185 c186 l187) (by rintro _ _ ⟨_,_,_,_,_,_,_,rfl,_⟩; rfl) ?_ ?_
    ·refine cifd (et (k30 d4)) (fun h189=>?_) (fun h189=>?_)
     ·replace h:=iT h189 h
      refine creg (st (lds ((hS.blk d1).cellsAt (Sb.s d2 (Sb.s d3 (Sb.s d4 (Sb.s d5 Sb.z))))) rfl ?_))
      obtain ⟨r190,g191,h⟩:=bI h
      refine ca ((BareE_sound fu).r2_bexpr (hg.t (le151.t (le178.t le181))) (m164.up (le178.t le181)) g191 hS) ?_
      rintro _ w9 ⟨μ4,a193,c194,rfl,le192,hS,m195⟩
      refine po (st (wl (s_store ti118 (et (k30 d8)) (et (k30 d7)) rfl rfl rfl hS d2 (Spl.s p2 (of_decide_eq_true rfl) (Spl.s p3 (of_decide_eq_true rfl) (Spl.s p4 (of_decide_eq_true rfl) (Spl.s p5 (of_decide_eq_true rfl) Spl.z)))) rfl p2 dn ?_)))
      clear hS; intro w10 hS
      refine wnil (xl ?_)
      exact ⟨_,_,rfl,(aK20 (aK10 (aK5 (aO4 aZ)))),_,r190.Kind,r190.N,r190.Name,r190.Kids,_,_,rfl,h,le192,hS,m195⟩
     ·replace h:=iF h189 h
      refine cskip (xl ?_)
      exact ⟨_,_,rfl,(aK20 (aK10 (aK5 (aO4 aZ)))),_,0,0,[],[],none,0,rfl,h,Le.r,hS,Sl.nil⟩
    ·rintro _ t w11 ⟨μ5,i182,i183,s184,l187,a185,c186,rfl,h,le196,hS,m197⟩
     unfold r2_bstats_j3 at h
     refine nrm (mK20 (mK10 (mK5 (mO4 mz)))) (xn (cseq (cseq ?_)))
     refine ccutE (rg 39 7) (by decide) (fun m w=>∃ μx b198,m=(yK20 (yK10 (yK9 (yO7 39 (.i (.bool b198)::[])))))∧r2_bstats_j4 self i77 l80 x154 s179 i182 i183 s184 l187 (r2_bstats_l1 fu self p_1 n_1) b198=some r∧Le μ5 μx∧Sq μx w0 w (.row v78 120 8 l80.length cs79::.blk b171 120 [.int .i64 x154.Kind,S x154.Name,.int .i64 x154.X.Kind,.int .i64 x154.X.N,S x154.X.Name,.slice a162 x154.X.Kids.length c163,.slice a165 x154.Body.length c166,.slice a168 x154.Else.length c169]::.blk b173 120 [.int .i64 x154.Kind,S s179,.int .i64 i182,.int .i64 i183,S s184,.slice a185 l187.length c186,.slice none 0 0,.slice none 0 0]::rsF)) (by rintro _ _ ⟨_,_,rfl,_⟩; rfl) ?_ ?_
     ·refine creg (st (ld ((hS.blk d1).cell d0) ?_))
      iterate 2 refine st ?_
      refine wspd (k40 d2) (q40 p2) (q40 p2) (fun h199=>?_) (fun h199=>?_)
      ·replace h:=iT h199 h
       refine sn rfl rfl (sn rfl rfl (sn rfl rfl (st (wnil (xl ?_)))))
       exact ⟨_,_,rfl,(aK20 (aK10 (aK9 (aO7 (aI aZ))))),_,true,rfl,h,Le.r,hS⟩
      ·replace h:=iF h199 h
       refine sy rfl (wy rfl (k40 d2) (s_load ti3 (et (k40 d3)) ((hS.blk d1).cell d0) (dt (q40 p4)) (sy rfl (st (wnil (xl ?_))))))
       exact ⟨_,_,rfl,(aK20 (aK10 (aK9 (aO7 (aI aZ))))),_,(decide (x154.Kind=4)),rfl,h,Le.r,hS⟩
     ·rintro _ t w12 ⟨μ6,b198,rfl,h,le200,hS⟩
      unfold r2_bstats_j4 at h
      refine nrm (mK20 (mK10 (mK9 (mO7 (mi mz))))) (xn ?_)
      refine ccutE (rg 47 4) (by decide) (fun m w=>∃ μx l203 a201 c202,m=(yK20 (yK20 (yK7 (yO4 47 []))))∧r2_bstats_j5 self i77 l80 x154 s179 i182 i183 s184 l187 (r2_bstats_l1 fu self p_1 n_1) l203=some r∧Le μ6 μx∧Sq μx w0 w (.row v78 120 8 l80.length cs79::.blk b171 120 [.int .i64 x154.Kind,S x154.Name,.int .i64 x154.X.Kind,.int .i64 x154.X.N,S x154.X.Name,.slice a162 x154.X.Kids.length c163,.slice a165 x154.Body.length c166,.slice a168 x154.Else.length c169]::.blk b173 120 [.int .i64 x154.Kind,S s179,.int .i64 i182,.int .i64 i183,S s184,.slice a185 l187.length c186,.slice a201 l203.length c202,.slice none 0 0]::rsF)∧Sl μx a201 c202 l203) (by rintro _ _ ⟨_,_,_,_,rfl,_⟩; rfl) ?_ ?_
      ·refine cifb (et (k40 d6)) (fun h205=>?_) (fun h205=>?_)
       ·replace h:=iT h205 h
        refine creg (st (ld ((hS.blk d1).cell d6) ?_))
        obtain ⟨r206,g207,h⟩:=bI h
        refine ca (IH.r2_bstats (hg.t (le151.t (le178.t (le181.t (le196.t le200))))) (m167.up (le178.t (le181.t (le196.t le200)))) g207 hS) ?_
        rintro _ w13 ⟨μ7,a209,c210,rfl,le208,hS,m211⟩
        refine po (st (wl (s_store1 ti33 (et (k50 d0)) (et (k40 d9)) rfl hS d2 p6 rfl p2 dn ?_)))
        clear hS; intro w14 hS
        refine wnil (xl ?_)
        exact ⟨_,_,rfl,(aK20 (aK20 (aK7 (aO4 aZ)))),_,_,_,_,rfl,h,le208,hS,m211⟩
       ·replace h:=iF h205 h
        refine cskip (xl ?_)
        exact ⟨_,_,rfl,(aK20 (aK20 (aK7 (aO4 aZ)))),_,[],none,0,rfl,h,Le.r,hS,Sl.nil⟩
      ·rintro _ t w15 ⟨μ8,l203,a201,c202,rfl,h,le212,hS,m213⟩
       unfold r2_bstats_j5 at h
       refine nrm (mK20 (mK20 (mK7 (mO4 mz)))) (xn (cseq (nz (st (ld ((hS.blk d1).cell d0) (st (nw ?_)))))))
       refine ccutE (rg 54 4) (by decide) (fun m w=>∃ μx l216 a214 c215,m=(yK50 (yK4 (yO4 54 [])))∧r2_bstats_j6 i77 l80 x154 s179 i182 i183 s184 l187 l203 (r2_bstats_l1 fu self p_1 n_1) l216=some r∧Le μ8 μx∧Sq μx w0 w (.row v78 120 8 l80.length cs79::.blk b173 120 [.int .i64 x154.Kind,S s179,.int .i64 i182,.int .i64 i183,S s184,.slice a185 l187.length c186,.slice a201 l203.length c202,.slice a214 l216.length c215]::rsF)∧Sl μx a214 c215 l216) (by rintro _ _ ⟨_,_,_,_,rfl,_⟩; rfl) ?_ ?_
       ·refine cifd (et (k50 d3)) (fun h218=>?_) (fun h218=>?_)
        ·replace h:=iT h218 h
         refine creg (st (ld ((hS.blk d1).cell d7) ?_))
         obtain ⟨r219,g220,h⟩:=bI h
         refine ca (IH.r2_bstats (hg.t (le151.t (le178.t (le181.t (le196.t (le200.t le212)))))) (m170.up (le178.t (le181.t (le196.t (le200.t le212))))) g220 hS) ?_
         rintro _ w16 ⟨μ9,a222,c223,rfl,le221,hS,m224⟩
         refine po (st (wl (s_store1 ti33 (et (k50 d7)) (et (k50 d6)) rfl hS d2 p7 rfl p2 dn ?_)))
         clear hS; intro w17 hS
         refine wnil (xl ?_)
         replace hS:=hS.drop (Rm.s Rm.z)
         exact ⟨_,_,rfl,(aK50 (aK4 (aO4 aZ))),_,_,_,_,rfl,h,le221,hS,m224⟩
        ·replace h:=iF h218 h
         refine cskip (xl ?_)
         replace hS:=hS.drop (Rm.s Rm.z)
         exact ⟨_,_,rfl,(aK50 (aK4 (aO4 aZ))),_,[],none,0,rfl,h,Le.r,hS,Sl.nil⟩
       ·rintro _ t w18 ⟨μ10,l216,a214,c215,rfl,h,le225,hS,m226⟩
        unfold r2_bstats_j6 at h
        refine nrm (mK50 (mK4 (mO4 mz))) (xn (creg (st (lds (hS.blk d1).cells rfl ?_))))
        refine wl (s_bsl1 underlying33 ti120 rfl (et (k50 d9)) rfl hS ?_); clear hS; intro b227 w19 hb228 hS; refine po ?_
        obtain ⟨l231,g232,h⟩:=bI h
        have m233:Rw μ10 [.int .i64 x154.Kind,S s179,.int .i64 i182,.int .i64 i183,S s184,.slice a185 l187.length c186,.slice a201 l203.length c202,.slice a214 l216.length c215] [(TStat.mk x154.Kind s179 (TExpr.mk i182 i183 s184 l187) l203 l216)]:=(Rw.one (α:=TStat) (TStat.i ⟨a185,c186,a201,c202,a214,c215,rfl,(m197.up (le200.t (le212.t le225))),(m213.up le225),m226⟩))
        have m230:=Rw.appN (m152.up (le178.t (le181.t (le196.t (le200.t (le212.t le225)))))) m233 g232
        refine wl (s_app1N underlying33 ti120 rfl (et (k50 d8)) (et (k60 d0)) hS d1 (hS.blk d0).cells m233 rfl g232 (by decide) ?_); clear hS; intro v229 w20 rs_ hp_ hS; cases (show _=rs_ from hp_)
        replace hS:=Sep.reput hS p1; refine po ?_
        replace hS:=hS.drop Rm.z
        refine st (wnil ?_)
        refine (fun h=>bn (xn h)) ?_
        refine creg ?_
        obtain ⟨i234,g235,h⟩:=bI h
        refine wl (su (u_addc (et d9) ec g235) (dt (q60 p2)) (st (wnil (xl ?_))))
        replace hS:=hS.drop (Rm.s Rm.z)
        exact ⟨n_1,_,_,rfl,(aK3 (aI (aK1 (aO2 (aK2 (aI (aO50 (aO3 aZ)))))))),⟨_,i234,l231,v229,(cs79++[.int .i64 x154.Kind,S s179,.int .i64 i182,.int .i64 i183,S s184,.slice a185 l187.length c186,.slice a201 l203.length c202,.slice a214 l216.length c215]),rfl,h,(le151.t (le178.t (le181.t (le196.t (le200.t (le212.t le225)))))),hS,m230⟩,Nat.lt_succ_self _⟩
 ·replace h:=iF h153 h
  refine cexit ?_
  refine (fun h=>xe (xe (bh h))) ?_
  refine xn (nz ?_)
  iterate 2 refine st ?_
  refine nw (cret ?_)
  obtain ⟨μ11,a236,c237,e240,le239,m238,hq_⟩:=Sep.frzRow hS m152 rfl; clear hS
  subst e240; have hS:=hq_; clear hq_
  obtain rfl:=oI h
  refine ret1 rfl d2 ?_
  exact ⟨_,_,_,rfl,(le151.t le239),hS,m238⟩
theorem BareS_sound:∀ n,BareSSound (BareS_run n)
  | 0=>⟨(by intros; rename_i h _; cases h)⟩
  | n+1=>⟨r2_bstats_w (BareS_sound n)⟩
theorem r2_bare_w (hg:Le Gm μ0) {p_1 r:List TDef} (m3:Sl μ0 a1 c2 p_1) (h:r2_bare fu p_1=some r) (hS:Sq μ0 w0 w (rsF)):CallsV prog 12 [.slice a1 p_1.length c2] w (fun v w'=>∃ (μ':M) (a4:Option Addr) (c5:Nat),v=.slice a4 r.length c5∧Le μ0 μ'∧Sq μ' w0 w' (rsF)∧Sl μ' a4 c5 r):=by
 unfold r2_bare at h
 refine enter func12 rfl (frm:=_::u1 (u5 (u20 (u50 [])))) rfl (nz (st (nx (st (ny (nz (st (wl (su (u_lensl underlying22 (et d9)) (dt (q10 p0)) (st (nw (cblock ?_))))))))))))
 replace hS:=hS.nilRow 35 (Mo.sz TDef)
 refine cloopE (rg 5 2++[8]++rg 12 64) (by decide +kernel) (fun n m w=>∃ μx i139 l142 v140 cs141,m=(yK3 (.i (v140)::(yK1 (yO2 5 (yK1 (yO1 8 (yK2 (.i (.int .i64 i139)::(yO50 12 (yO10 62 (yO4 72 [])))))))))))∧r2_bare_l1 fu p_1 n i139 l142=some r∧Le μ0 μx∧Sq μx w0 w (.row v140 35 9 l142.length cs141::rsF)∧Rw μx cs141 l142) (by rintro _ _ _ ⟨_,_,_,_,_,rfl,_⟩; rfl) _ _ (aK3 (aI (aK1 (aO2 (aK1 (aO1 (aK2 (aI (aO50 (aO10 (aO4 aZ))))))))))) ⟨_,0,[],(.slice none 0 0),[],rfl,h,Le.r,hS,Rw.nil⟩ ?_
 rintro n_1 _ t w1 ⟨μ1,i139,l142,v140,cs141,rfl,h,le275,hS,m276⟩
 cases n_1 with
 | zero=>cases h
 | succ n_1 =>
 unfold r2_bare_l1 at h
 refine cnrm (mK3 (mi (mK1 (mO2 (mK1 (mO1 (mK2 (mi (mO50 (mO10 (mO4 mz))))))))))) (nz (st (ny ?_)))
 refine cifd (et (k10 d2)) (fun h277=>?_) (fun h277=>?_)
 ·replace h:=iT h277 h
  refine cskip (xn (cseq (cblock (nz ?_))))
  obtain ⟨x278,g279,h⟩:=bI h
  obtain ⟨b280,o281,cs282,e283,f284,m285⟩:=SlR.elem (m3.up le275) g279
  obtain ⟨a286,c287,a289,c290,rfl,m288,m291⟩:=m285
  refine wl (su (u_iax underlying22 ti35 (et d9) (et (k10 d1)) e283) (dt (q10 p3)) (lds (f284 _ hS.a) rfl ?_))
  refine wl (s_alloc ti35 hS ?_); clear hS; intro b292 w2 hb293 hS; refine po ?_
  refine wl (s_storeA ti35 (et d5) (et (k10 d4)) rfl rfl hS d0 rfl p0 dn ?_)
  clear hS; intro w3 hS
  refine nx (st (ld ((hS.blk d0).cell d0) (st (ld ((hS.blk d0).cell d1) (wl (s_build ti35 pl35 (Fl.o rfl (et (k10 d6)) rfl rfl p0 (Fl.o rfl (et (k10 d8)) rfl rfl p1 Fl.z)) (dt (q10 p9)) ?_))))))
  refine wl (s_alloc ti35 hS ?_); clear hS; intro b294 w4 hb295 hS; refine po ?_
  refine wl (s_storeA ti35 (et d6) (et (k10 d9)) rfl rfl hS d0 rfl p0 dn ?_)
  clear hS; intro w5 hS
  refine ny (nz (st (ld ((hS.blk d1).cell d0) (st (nw ?_)))))
  refine ccutE (rg 23 4) (by decide) (fun m w=>∃ μx i296 s297,m=(yK20 (yK3 (yO4 23 [])))∧r2_bare_j1 fu i139 l142 x278 (r2_bare_l1 fu p_1 n_1) i296 s297=some r∧Le μ1 μx∧Sq μx w0 w (.row v140 35 9 l142.length cs141::.blk b292 35 [.int .i64 x278.Kind,S x278.Name,.int .i64 x278.Typ.Kind,S x278.Typ.Gen,.int .i64 x278.Takes.Kind,S x278.Takes.Gen,.int .i64 x278.Cap,.slice a286 x278.Params.length c287,.slice a289 x278.Body.length c290]::.blk b294 35 [.int .i64 x278.Kind,S x278.Name,.int .i64 i296,S s297,.int .i64 0,S [],.int .i64 0,.slice none 0 0,.slice none 0 0]::rsF)) (by rintro _ _ ⟨_,_,_,rfl,_⟩; rfl) ?_ ?_
  ·refine cifd (et (k20 d2)) (fun h298=>?_) (fun h298=>?_)
   ·replace h:=iT h298 h
    refine creg (st (lds ((hS.blk d1).cellsAt (Sb.s d2 (Sb.s d3 Sb.z))) rfl ?_))
    obtain ⟨r299,g300,h⟩:=bI h
    refine ca (r2_btype_w (hg.t le275) g300 hS) ?_
    rintro _ w6 ⟨μ2,rfl,le301,hS⟩
    refine po (st (wl (s_store ti31 (et (k20 d6)) (et (k20 d5)) rfl rfl rfl hS d0 (Spl.s p2 (of_decide_eq_true rfl) (Spl.s p3 (of_decide_eq_true rfl) Spl.z)) rfl p0 dn ?_)))
    clear hS; intro w7 hS
    refine wnil (xl ?_)
    replace hS:=(hS.bg Y1).bg Y2
    exact ⟨_,_,rfl,(aK20 (aK3 (aO4 aZ))),_,r299.Kind,r299.Gen,rfl,h,le301,hS⟩
   ·replace h:=iF h298 h
    refine cskip (xl ?_)
    replace hS:=(hS.bg Y1).bg Y2
    exact ⟨_,_,rfl,(aK20 (aK3 (aO4 aZ))),_,0,[],rfl,h,Le.r,hS⟩
  ·rintro _ t w8 ⟨μ3,i296,s297,rfl,h,le302,hS⟩
   unfold r2_bare_j1 at h
   refine nrm (mK20 (mK3 (mO4 mz))) (xn (cseq (nz (st (ld ((hS.blk d1).cell d0) (st (nw ?_)))))))
   refine ccutE (rg 30 7) (by decide) (fun m w=>∃ μx i303 l306 a304 c305,m=(yK20 (yK10 (yO7 30 [])))∧r2_bare_j2 i139 l142 x278 i296 s297 (r2_bare_l1 fu p_1 n_1) i303 l306=some r∧Le μ3 μx∧Sq μx w0 w (.row v140 35 9 l142.length cs141::.blk b292 35 [.int .i64 x278.Kind,S x278.Name,.int .i64 x278.Typ.Kind,S x278.Typ.Gen,.int .i64 x278.Takes.Kind,S x278.Takes.Gen,.int .i64 x278.Cap,.slice a286 x278.Params.length c287,.slice a289 x278.Body.length c290]::.blk b294 35 [.int .i64 x278.Kind,S x278.Name,.int .i64 i296,S s297,.int .i64 0,S [],.int .i64 i303,.slice none 0 0,.slice a304 l306.length c305]::rsF)∧Sl μx a304 c305 l306) (by rintro _ _ ⟨_,_,_,_,_,rfl,_⟩; rfl) ?_ ?_
   ·refine cifd (et (k20 d9)) (fun h308=>?_) (fun h308=>?_)
    ·replace h:=iT h308 h
     refine creg (st (ld ((hS.blk d1).cell d6) (st (wl (s_store1 ti3 (et (k30 d2)) (et (k30 d1)) rfl hS d2 p6 rfl p2 dn ?_)))))
     clear hS; intro w9 hS
     refine wnil (xl ?_)
     exact ⟨_,_,rfl,(aK20 (aK10 (aO7 aZ))),_,x278.Cap,[],none,0,rfl,h,Le.r,hS,Sl.nil⟩
    ·replace h:=iF h308 h
     refine creg (st (ld ((hS.blk d1).cell d8) ?_))
     obtain ⟨r309,g310,h⟩:=bI h
     refine ca ((BareS_sound fu).r2_bstats (hg.t (le275.t le302)) (m291.up le302) g310 hS) ?_
     rintro _ w10 ⟨μ4,a312,c313,rfl,le311,hS,m314⟩
     refine po (st (wl (s_store1 ti33 (et (k30 d6)) (et (k30 d5)) rfl hS d2 p8 rfl p2 dn ?_)))
     clear hS; intro w11 hS
     refine wnil (xl ?_)
     exact ⟨_,_,rfl,(aK20 (aK10 (aO7 aZ))),_,0,_,_,_,rfl,h,le311,hS,m314⟩
   ·rintro _ t w12 ⟨μ5,i303,l306,a304,c305,rfl,h,le315,hS,m316⟩
    unfold r2_bare_j2 at h
    refine nrm (mK20 (mK10 (mO7 mz))) (xn (cseq (nz (st (ld ((hS.blk d1).cell d0) (st (nw ?_)))))))
    refine ccutE (rg 40 4) (by decide) (fun m w=>∃ μx i317 s318,m=(yK20 (yK20 (yO4 40 [])))∧r2_bare_j3 i139 l142 x278 i296 s297 i303 l306 (r2_bare_l1 fu p_1 n_1) i317 s318=some r∧Le μ5 μx∧Sq μx w0 w (.row v140 35 9 l142.length cs141::.blk b292 35 [.int .i64 x278.Kind,S x278.Name,.int .i64 x278.Typ.Kind,S x278.Typ.Gen,.int .i64 x278.Takes.Kind,S x278.Takes.Gen,.int .i64 x278.Cap,.slice a286 x278.Params.length c287,.slice a289 x278.Body.length c290]::.blk b294 35 [.int .i64 x278.Kind,S x278.Name,.int .i64 i296,S s297,.int .i64 i317,S s318,.int .i64 i303,.slice none 0 0,.slice a304 l306.length c305]::rsF)) (by rintro _ _ ⟨_,_,_,rfl,_⟩; rfl) ?_ ?_
    ·refine cifd (et (k30 d9)) (fun h319=>?_) (fun h319=>?_)
     ·replace h:=iT h319 h
      refine creg (st (lds ((hS.blk d1).cellsAt (Sb.s d4 (Sb.s d5 Sb.z))) rfl ?_))
      obtain ⟨r320,g321,h⟩:=bI h
      refine ca (r2_btype_w (hg.t (le275.t (le302.t le315))) g321 hS) ?_
      rintro _ w13 ⟨μ6,rfl,le322,hS⟩
      refine po (st (wl (s_store ti31 (et (k40 d3)) (et (k40 d2)) rfl rfl rfl hS d2 (Spl.s p4 (of_decide_eq_true rfl) (Spl.s p5 (of_decide_eq_true rfl) Spl.z)) rfl p2 dn ?_)))
      clear hS; intro w14 hS
      refine wnil (xl ?_)
      exact ⟨_,_,rfl,(aK20 (aK20 (aO4 aZ))),_,r320.Kind,r320.Gen,rfl,h,le322,hS⟩
     ·replace h:=iF h319 h
      refine cskip (xl ?_)
      exact ⟨_,_,rfl,(aK20 (aK20 (aO4 aZ))),_,0,[],rfl,h,Le.r,hS⟩
    ·rintro _ t w15 ⟨μ7,i317,s318,rfl,h,le323,hS⟩
     unfold r2_bare_j3 at h
     refine nrm (mK20 (mK20 (mO4 mz))) (xn (cseq (cseq ?_)))
     refine ccutE (rg 44 7) (by decide) (fun m w=>∃ μx b324,m=(yK20 (yK20 (yK4 (yO7 44 (.i (.bool b324)::[])))))∧r2_bare_j4 i139 l142 x278 i296 s297 i303 l306 i317 s318 (r2_bare_l1 fu p_1 n_1) b324=some r∧Le μ7 μx∧Sq μx w0 w (.row v140 35 9 l142.length cs141::.blk b292 35 [.int .i64 x278.Kind,S x278.Name,.int .i64 x278.Typ.Kind,S x278.Typ.Gen,.int .i64 x278.Takes.Kind,S x278.Takes.Gen,.int .i64 x278.Cap,.slice a286 x278.Params.length c287,.slice a289 x278.Body.length c290]::.blk b294 35 [.int .i64 x278.Kind,S x278.Name,.int .i64 i296,S s297,.int .i64 i317,S s318,.int .i64 i303,.slice none 0 0,.slice a304 l306.length c305]::rsF)) (by rintro _ _ ⟨_,_,rfl,_⟩; rfl) ?_ ?_
     ·refine creg (st (ld ((hS.blk d1).cell d0) ?_))
      iterate 2 refine st ?_
      refine wspd (k40 d7) (q40 p7) (q40 p7) (fun h325=>?_) (fun h325=>?_)
      ·replace h:=iT h325 h
       refine sn rfl rfl (sn rfl rfl (sn rfl rfl (st (wnil (xl ?_)))))
       exact ⟨_,_,rfl,(aK20 (aK20 (aK4 (aO7 (aI aZ))))),_,true,rfl,h,Le.r,hS⟩
      ·replace h:=iF h325 h
       refine sy rfl (wy rfl (k40 d7) (s_load ti3 (et (k40 d8)) ((hS.blk d1).cell d0) (dt (q40 p9)) (sy rfl (st (wnil (xl ?_))))))
       exact ⟨_,_,rfl,(aK20 (aK20 (aK4 (aO7 (aI aZ))))),_,(decide (x278.Kind=3)),rfl,h,Le.r,hS⟩
     ·rintro _ t w16 ⟨μ8,b324,rfl,h,le326,hS⟩
      unfold r2_bare_j4 at h
      refine nrm (mK20 (mK20 (mK4 (mO7 (mi mz))))) (xn ?_)
      refine ccutE ([8]++rg 52 19) (by decide) (fun m w=>∃ μx l329 v327 cs328,m=(yK8 (yO1 8 (yK20 (yK20 (yK3 (yO10 52 (yO9 62 [])))))))∧r2_bare_j5 i139 l142 x278 i296 s297 i303 l306 i317 s318 (r2_bare_l1 fu p_1 n_1) l329=some r∧Le μ8 μx∧Sq μx w0 w (.row v140 35 9 l142.length cs141::.blk b294 35 [.int .i64 x278.Kind,S x278.Name,.int .i64 i296,S s297,.int .i64 i317,S s318,.int .i64 i303,v327,.slice a304 l306.length c305]::.row v327 82 3 l329.length cs328::rsF)∧Rw μx cs328 l329) (by rintro _ _ ⟨_,_,_,_,rfl,_⟩; rfl) ?_ ?_
      ·refine cifb (et (k50 d1)) (fun h331=>?_) (fun h331=>?_)
       ·replace h:=iT h331 h
        refine nz (st (ld ((hS.blk d1).cell d7) (wl (su (u_lensl underlying32 (et (k50 d3))) (dt (q50 p4)) (st (nw (cblock ?_)))))))
        replace hS:=hS.nilRow 82 (Mo.sz TParam)
        replace hS:=((hS.drop (Rm.s (Rm.s Rm.z))).bg Y2).bg Y2
        refine cloopE ([8]++rg 56 15) (by decide) (fun n m w=>∃ μx i355 l358 v356 cs357,m=(yK8 (yO1 8 (yK20 (yK20 (yK6 (.i (.int .i64 i355)::(yO10 56 (yO5 66 []))))))))∧r2_bare_l2 i139 l142 x278 i296 s297 i303 l306 i317 s318 (r2_bare_l1 fu p_1 n_1) n i355 l358=some r∧Le μ8 μx∧Sq μx w0 w (.row v140 35 9 l142.length cs141::.blk b294 35 [.int .i64 x278.Kind,S x278.Name,.int .i64 i296,S s297,.int .i64 i317,S s318,.int .i64 i303,v356,.slice a304 l306.length c305]::.row v356 82 3 l358.length cs357::rsF)∧Rw μx cs357 l358) (by rintro _ _ _ ⟨_,_,_,_,_,rfl,_⟩; rfl) _ _ (aK8 (aO1 (aK20 (aK20 (aK6 (aI (aO10 (aO5 aZ)))))))) ⟨_,0,[],(.slice none 0 0),[],rfl,h,Le.r,hS,Rw.nil⟩ ?_
        rintro n_2 _ t w17 ⟨μ9,i355,l358,v356,cs357,rfl,h,le382,hS,m383⟩
        cases n_2 with
        | zero=>cases h
        | succ n_2 =>
        unfold r2_bare_l2 at h
        refine cnrm (mK8 (mO1 (mK20 (mK20 (mK6 (mi (mO10 (mO5 mz)))))))) (nz (st (ny ?_)))
        refine cifd (et (k50 d6)) (fun h384=>?_) (fun h384=>?_)
        ·replace h:=iT h384 h
         refine cskip (xn (cseq (cblock (nz ?_))))
         obtain ⟨x385,g386,h⟩:=bI h
         obtain ⟨b387,o388,cs389,e390,f391,m392⟩:=SlR.elem (m288.up (le302.t (le315.t (le323.t (le326.t le382))))) g386
         obtain rfl:=m392
         refine wl (su (u_iax underlying32 ti82 (et (k50 d3)) (et (k50 d5)) e390) (dt (q50 p7)) (lds (f391 _ hS.a) rfl ?_))
         refine wl (s_alloc ti82 hS ?_); clear hS; intro b393 w18 hb394 hS; refine po ?_
         refine wl (s_storeA ti82 (et d8) (et (k50 d8)) rfl rfl hS d0 rfl p0 dn ?_)
         clear hS; intro w19 hS
         refine nw ?_
         refine ccutE (rg 59 11) (by decide) (fun m w=>∃ μx l397 v395 cs396,m=(yK50 (yK9 (yO10 59 (yO1 69 []))))∧r2_bare_j6 i355 (r2_bare_l2 i139 l142 x278 i296 s297 i303 l306 i317 s318 (r2_bare_l1 fu p_1 n_1) n_2) l397=some r∧Le μ9 μx∧Sq μx w0 w (.row v140 35 9 l142.length cs141::.blk b294 35 [.int .i64 x278.Kind,S x278.Name,.int .i64 i296,S s297,.int .i64 i317,S s318,.int .i64 i303,v395,.slice a304 l306.length c305]::.row v395 82 3 l397.length cs396::rsF)∧Rw μx cs396 l397) (by rintro _ _ ⟨_,_,_,_,rfl,_⟩; rfl) ?_ ?_
         ·refine cdw hS ?_; clear hS; intro w20 hS
          refine cpi 0 rfl (cpi 2 rfl (cpi 4 rfl (cr 5 [5,6,7,8,9,10,11] rfl (u_loads ti31 (et (k60 d3)) ((hS.blk d0).cellsAt (Sb.s d1 (Sb.s d2 Sb.z))) rfl) (q60 p4) ?_)))
          refine sc3G (i:=1) (j:=3) (k:=6) rfl rfl rfl rfl rfl rfl rfl (wn0 rfl) (wn0 rfl) (wn0 rfl) ?_ ?_ ?_
          ·refine id (s_load ti32 (et (k50 d9)) ((hS.blk d2).cell d7) (dt (q60 p0)) ?_)
           refine sc2G (i:=3) (j:=6) rfl rfl rfl rfl rfl (wn0 rfl) (wn0 rfl) ?_ ?_
           ·refine id (s_load ti9 (et (k60 d1)) ((hS.blk d0).cell d0) (dt (q60 p2)) ?_)
            obtain ⟨r399,g400,h⟩:=bI h
            refine sc1 rfl rfl rfl (s_callv isfn22 ef (e1 (et (k60 d4)) e0) (r2_btype_w (hg.t (le275.t (le302.t (le315.t (le323.t (le326.t le382)))))) g400 hS) ?_)
            rintro _ w21 ⟨μ10,rfl,le401,hS⟩
            refine po (cp 7 rfl (u_build ti82 pl82 (Fl.o rfl (et (k60 d2)) rfl rfl p0 (Fl.n rfl (et (k60 d5)) rfl rfl (Spl.s p1 (of_decide_eq_true rfl) (Spl.s p2 (of_decide_eq_true rfl) Spl.z)) Fl.z))) (q60 p6) ?_)
            refine sc1 rfl rfl rfl (s_bsl1 underlying32 ti82 rfl (et (k60 d6)) rfl hS ?_); clear hS; intro b402 w22 hb403 hS; refine po ?_
            obtain ⟨l406,g407,h⟩:=bI h
            have m408:Rw μ10 [S x385.Name,.int .i64 r399.Kind,S r399.Gen] [(TParam.mk x385.Name (TType.mk r399.Kind r399.Gen))]:=(Rw.one (α:=TParam) rfl)
            have m405:=Rw.appN (m383.up le401) m408 g407
            refine sc1 rfl rfl rfl (s_app1N underlying32 ti82 rfl (et (k60 d0)) (et (k60 d7)) hS d4 (hS.blk d0).cells m408 rfl g407 (by decide) ?_); clear hS; intro v404 w23 rs_ hp_ hS; cases (show _=rs_ from hp_)
            replace hS:=Sep.reput hS p4; refine po ?_
            replace hS:=hS.drop Rm.z
            refine cpi 10 rfl (sc1 rfl rfl rfl (s_store1 ti32 (et (k60 d9)) (et (k60 d8)) (hS.get d3).cellV hS d2 p7 rfl p2 dn ?_))
            clear hS; intro w24 hS
            refine sc_nil (xl ?_)
            replace hS:=hS.drop Rm.z
            exact ⟨_,_,rfl,(aK50 (aK9 (aO10 (aO1 aZ)))),_,_,_,(cs357++[S x385.Name,.int .i64 r399.Kind,S r399.Gen]),rfl,h,le401,hS,m405⟩
           ·obtain ⟨r399,g400,h⟩:=bI h
            obtain ⟨l406,g407,h⟩:=bI h
            refine id (s_callv isfn22 ef (e1 (et (k60 d4)) e0) (r2_btype_w (hg.t (le275.t (le302.t (le315.t (le323.t (le326.t le382)))))) g400 hS) ?_)
            rintro _ w25 ⟨μ11,rfl,le409,hS⟩
            refine po (cr 3 [3,7,8,9,10,11] rfl (u_load ti9 (et (k60 d1)) ((hS.blk d0).cell d0)) (q60 p2) (cp 7 rfl (u_build ti82 pl82 (Fl.o rfl (et (k60 d2)) rfl rfl p0 (Fl.n rfl (et (k60 d5)) rfl rfl (Spl.s p1 (of_decide_eq_true rfl) (Spl.s p2 (of_decide_eq_true rfl) Spl.z)) Fl.z))) (q60 p6) ?_))
            refine sc1 rfl rfl rfl (s_bsl1 underlying32 ti82 rfl (et (k60 d6)) rfl hS ?_); clear hS; intro b410 w26 hb411 hS; refine po ?_
            have m414:Rw μ11 [S x385.Name,.int .i64 r399.Kind,S r399.Gen] [(TParam.mk x385.Name (TType.mk r399.Kind r399.Gen))]:=(Rw.one (α:=TParam) rfl)
            have m413:=Rw.appN (m383.up le409) m414 g407
            refine sc1 rfl rfl rfl (s_app1N underlying32 ti82 rfl (et (k60 d0)) (et (k60 d7)) hS d4 (hS.blk d0).cells m414 rfl g407 (by decide) ?_); clear hS; intro v412 w27 rs_ hp_ hS; cases (show _=rs_ from hp_)
            replace hS:=Sep.reput hS p4; refine po ?_
            replace hS:=hS.drop Rm.z
            refine cpi 10 rfl (sc1 rfl rfl rfl (s_store1 ti32 (et (k60 d9)) (et (k60 d8)) (hS.get d3).cellV hS d2 p7 rfl p2 dn ?_))
            clear hS; intro w28 hS
            refine sc_nil (xl ?_)
            replace hS:=hS.drop Rm.z
            exact ⟨_,_,rfl,(aK50 (aK9 (aO10 (aO1 aZ)))),_,_,_,(cs357++[S x385.Name,.int .i64 r399.Kind,S r399.Gen]),rfl,h,le409,hS,m413⟩
          ·obtain ⟨r399,g400,h⟩:=bI h
           obtain ⟨l406,g407,h⟩:=bI h
           refine id (s_load ti9 (et (k60 d1)) ((hS.blk d0).cell d0) (dt (q60 p2)) ?_)
           refine sc2G (i:=1) (j:=6) rfl rfl rfl rfl rfl (wn0 rfl) (wn0 rfl) ?_ ?_
           ·refine id (s_load ti32 (et (k50 d9)) ((hS.blk d2).cell d7) (dt (q60 p0)) (sc1 rfl rfl rfl (s_callv isfn22 ef (e1 (et (k60 d4)) e0) (r2_btype_w (hg.t (le275.t (le302.t (le315.t (le323.t (le326.t le382)))))) g400 hS) ?_)))
            rintro _ w29 ⟨μ12,rfl,le415,hS⟩
            refine po (cp 7 rfl (u_build ti82 pl82 (Fl.o rfl (et (k60 d2)) rfl rfl p0 (Fl.n rfl (et (k60 d5)) rfl rfl (Spl.s p1 (of_decide_eq_true rfl) (Spl.s p2 (of_decide_eq_true rfl) Spl.z)) Fl.z))) (q60 p6) ?_)
            refine sc1 rfl rfl rfl (s_bsl1 underlying32 ti82 rfl (et (k60 d6)) rfl hS ?_); clear hS; intro b416 w30 hb417 hS; refine po ?_
            have m420:Rw μ12 [S x385.Name,.int .i64 r399.Kind,S r399.Gen] [(TParam.mk x385.Name (TType.mk r399.Kind r399.Gen))]:=(Rw.one (α:=TParam) rfl)
            have m419:=Rw.appN (m383.up le415) m420 g407
            refine sc1 rfl rfl rfl (s_app1N underlying32 ti82 rfl (et (k60 d0)) (et (k60 d7)) hS d4 (hS.blk d0).cells m420 rfl g407 (by decide) ?_); clear hS; intro v418 w31 rs_ hp_ hS; cases (show _=rs_ from hp_)
            replace hS:=Sep.reput hS p4; refine po ?_
            replace hS:=hS.drop Rm.z
            refine cpi 10 rfl (sc1 rfl rfl rfl (s_store1 ti32 (et (k60 d9)) (et (k60 d8)) (hS.get d3).cellV hS d2 p7 rfl p2 dn ?_))
            clear hS; intro w32 hS
            refine sc_nil (xl ?_)
            replace hS:=hS.drop Rm.z
            exact ⟨_,_,rfl,(aK50 (aK9 (aO10 (aO1 aZ)))),_,_,_,(cs357++[S x385.Name,.int .i64 r399.Kind,S r399.Gen]),rfl,h,le415,hS,m419⟩
           ·refine id (s_callv isfn22 ef (e1 (et (k60 d4)) e0) (r2_btype_w (hg.t (le275.t (le302.t (le315.t (le323.t (le326.t le382)))))) g400 hS) ?_)
            rintro _ w33 ⟨μ13,rfl,le421,hS⟩
            refine po (cp 7 rfl (u_build ti82 pl82 (Fl.o rfl (et (k60 d2)) rfl rfl p0 (Fl.n rfl (et (k60 d5)) rfl rfl (Spl.s p1 (of_decide_eq_true rfl) (Spl.s p2 (of_decide_eq_true rfl) Spl.z)) Fl.z))) (q60 p6) ?_)
            refine sc2G (i:=1) (j:=8) rfl rfl rfl rfl rfl (wn0 rfl) (wn0 rfl) ?_ ?_
            ·refine id (s_load ti32 (et (k50 d9)) ((hS.blk d2).cell d7) (dt (q60 p0)) ?_)
             refine sc1 rfl rfl rfl (s_bsl1 underlying32 ti82 rfl (et (k60 d6)) rfl hS ?_); clear hS; intro b422 w34 hb423 hS; refine po ?_
             have m426:Rw μ13 [S x385.Name,.int .i64 r399.Kind,S r399.Gen] [(TParam.mk x385.Name (TType.mk r399.Kind r399.Gen))]:=(Rw.one (α:=TParam) rfl)
             have m425:=Rw.appN (m383.up le421) m426 g407
             refine sc1 rfl rfl rfl (s_app1N underlying32 ti82 rfl (et (k60 d0)) (et (k60 d7)) hS d4 (hS.blk d0).cells m426 rfl g407 (by decide) ?_); clear hS; intro v424 w35 rs_ hp_ hS; cases (show _=rs_ from hp_)
             replace hS:=Sep.reput hS p4; refine po ?_
             replace hS:=hS.drop Rm.z
             refine cpi 10 rfl (sc1 rfl rfl rfl (s_store1 ti32 (et (k60 d9)) (et (k60 d8)) (hS.get d3).cellV hS d2 p7 rfl p2 dn ?_))
             clear hS; intro w36 hS
             refine sc_nil (xl ?_)
             replace hS:=hS.drop Rm.z
             exact ⟨_,_,rfl,(aK50 (aK9 (aO10 (aO1 aZ)))),_,_,_,(cs357++[S x385.Name,.int .i64 r399.Kind,S r399.Gen]),rfl,h,le421,hS,m425⟩
            ·refine id (s_bsl1 underlying32 ti82 rfl (et (k60 d6)) rfl hS ?_); clear hS; intro b427 w37 hb428 hS; refine po ?_
             refine cr 1 [1,9,10,11] rfl (u_load ti32 (et (k50 d9)) ((hS.blk d3).cell d7)) (q60 p0) ?_
             have m431:Rw μ13 [S x385.Name,.int .i64 r399.Kind,S r399.Gen] [(TParam.mk x385.Name (TType.mk r399.Kind r399.Gen))]:=(Rw.one (α:=TParam) rfl)
             have m430:=Rw.appN (m383.up le421) m431 g407
             refine sc1 rfl rfl rfl (s_app1N underlying32 ti82 rfl (et (k60 d0)) (et (k60 d7)) hS d4 (hS.blk d0).cells m431 rfl g407 (by decide) ?_); clear hS; intro v429 w38 rs_ hp_ hS; cases (show _=rs_ from hp_)
             replace hS:=Sep.reput hS p4; refine po ?_
             replace hS:=hS.drop Rm.z
             refine cpi 10 rfl (sc1 rfl rfl rfl (s_store1 ti32 (et (k60 d9)) (et (k60 d8)) (hS.get d3).cellV hS d2 p7 rfl p2 dn ?_))
             clear hS; intro w39 hS
             refine sc_nil (xl ?_)
             replace hS:=hS.drop Rm.z
             exact ⟨_,_,rfl,(aK50 (aK9 (aO10 (aO1 aZ)))),_,_,_,(cs357++[S x385.Name,.int .i64 r399.Kind,S r399.Gen]),rfl,h,le421,hS,m430⟩
          ·obtain ⟨r399,g400,h⟩:=bI h
           obtain ⟨l406,g407,h⟩:=bI h
           refine id (s_callv isfn22 ef (e1 (et (k60 d4)) e0) (r2_btype_w (hg.t (le275.t (le302.t (le315.t (le323.t (le326.t le382)))))) g400 hS) ?_)
           rintro _ w40 ⟨μ14,rfl,le432,hS⟩
           refine po (cr 3 [3,7,8,9,10,11] rfl (u_load ti9 (et (k60 d1)) ((hS.blk d0).cell d0)) (q60 p2) (cp 7 rfl (u_build ti82 pl82 (Fl.o rfl (et (k60 d2)) rfl rfl p0 (Fl.n rfl (et (k60 d5)) rfl rfl (Spl.s p1 (of_decide_eq_true rfl) (Spl.s p2 (of_decide_eq_true rfl) Spl.z)) Fl.z))) (q60 p6) ?_))
           refine sc2G (i:=1) (j:=8) rfl rfl rfl rfl rfl (wn0 rfl) (wn0 rfl) ?_ ?_
           ·refine id (s_load ti32 (et (k50 d9)) ((hS.blk d2).cell d7) (dt (q60 p0)) ?_)
            refine sc1 rfl rfl rfl (s_bsl1 underlying32 ti82 rfl (et (k60 d6)) rfl hS ?_); clear hS; intro b433 w41 hb434 hS; refine po ?_
            have m437:Rw μ14 [S x385.Name,.int .i64 r399.Kind,S r399.Gen] [(TParam.mk x385.Name (TType.mk r399.Kind r399.Gen))]:=(Rw.one (α:=TParam) rfl)
            have m436:=Rw.appN (m383.up le432) m437 g407
            refine sc1 rfl rfl rfl (s_app1N underlying32 ti82 rfl (et (k60 d0)) (et (k60 d7)) hS d4 (hS.blk d0).cells m437 rfl g407 (by decide) ?_); clear hS; intro v435 w42 rs_ hp_ hS; cases (show _=rs_ from hp_)
            replace hS:=Sep.reput hS p4; refine po ?_
            replace hS:=hS.drop Rm.z
            refine cpi 10 rfl (sc1 rfl rfl rfl (s_store1 ti32 (et (k60 d9)) (et (k60 d8)) (hS.get d3).cellV hS d2 p7 rfl p2 dn ?_))
            clear hS; intro w43 hS
            refine sc_nil (xl ?_)
            replace hS:=hS.drop Rm.z
            exact ⟨_,_,rfl,(aK50 (aK9 (aO10 (aO1 aZ)))),_,_,_,(cs357++[S x385.Name,.int .i64 r399.Kind,S r399.Gen]),rfl,h,le432,hS,m436⟩
           ·refine id (s_bsl1 underlying32 ti82 rfl (et (k60 d6)) rfl hS ?_); clear hS; intro b438 w44 hb439 hS; refine po ?_
            refine cr 1 [1,9,10,11] rfl (u_load ti32 (et (k50 d9)) ((hS.blk d3).cell d7)) (q60 p0) ?_
            have m442:Rw μ14 [S x385.Name,.int .i64 r399.Kind,S r399.Gen] [(TParam.mk x385.Name (TType.mk r399.Kind r399.Gen))]:=(Rw.one (α:=TParam) rfl)
            have m441:=Rw.appN (m383.up le432) m442 g407
            refine sc1 rfl rfl rfl (s_app1N underlying32 ti82 rfl (et (k60 d0)) (et (k60 d7)) hS d4 (hS.blk d0).cells m442 rfl g407 (by decide) ?_); clear hS; intro v440 w45 rs_ hp_ hS; cases (show _=rs_ from hp_)
            replace hS:=Sep.reput hS p4; refine po ?_
            replace hS:=hS.drop Rm.z
            refine cpi 10 rfl (sc1 rfl rfl rfl (s_store1 ti32 (et (k60 d9)) (et (k60 d8)) (hS.get d3).cellV hS d2 p7 rfl p2 dn ?_))
            clear hS; intro w46 hS
            refine sc_nil (xl ?_)
            replace hS:=hS.drop Rm.z
            exact ⟨_,_,rfl,(aK50 (aK9 (aO10 (aO1 aZ)))),_,_,_,(cs357++[S x385.Name,.int .i64 r399.Kind,S r399.Gen]),rfl,h,le432,hS,m441⟩
         ·rintro _ t w47 ⟨μ15,l397,v395,cs396,rfl,h,le443,hS,m444⟩
          unfold r2_bare_j6 at h
          refine nrm (mK50 (mK9 (mO10 (mO1 mz)))) ?_
          refine (fun h=>bn (xn h)) ?_
          refine creg ?_
          obtain ⟨i445,g446,h⟩:=bI h
          refine wl (su (u_addc (et (k50 d5)) ec g446) (dt (q70 p0)) (st (wnil (xl ?_))))
          exact ⟨n_2,_,_,rfl,(aK8 (aO1 (aK20 (aK20 (aK6 (aI (aO10 (aO5 aZ)))))))),⟨_,i445,l397,v395,cs396,rfl,h,(le382.t le443),hS,m444⟩,Nat.lt_succ_self _⟩
        ·replace h:=iF h384 h
         refine cexit ?_
         refine (fun h=>xe (xe (bh h))) ?_
         refine xl ?_
         exact ⟨_,_,rfl,(aK8 (aO1 (aK20 (aK20 (aK3 (aO10 (aO9 aZ))))))),_,_,_,_,rfl,h,le382,hS,m383⟩
       ·replace h:=iF h331 h
        refine cskip (xl ?_)
        replace hS:=hS.nilRow 82 (Mo.sz TParam)
        replace hS:=((hS.drop (Rm.s (Rm.s Rm.z))).bg Y2).bg Y2
        exact ⟨_,_,rfl,(aK8 (aO1 (aK20 (aK20 (aK3 (aO10 (aO9 aZ))))))),_,[],(.slice none 0 0),[],rfl,h,Le.r,hS,Rw.nil⟩
      ·rintro _ t w48 ⟨μ16,l329,v327,cs328,rfl,h,le447,hS,m448⟩
       unfold r2_bare_j5 at h
       refine nrm (mK8 (mO1 (mK20 (mK20 (mK3 (mO10 (mO9 mz))))))) (xn (creg (st (lds (hS.blk d1).cells rfl ?_))))
       replace hS:=hS.bg Y2
       obtain ⟨μ17,a449,c450,e453,le452,m451,hq_⟩:=Sep.frzRow hS m448 rfl; clear hS
       subst e453; have hS:=hq_; clear hq_
       refine wl (s_bsl1 underlying22 ti35 rfl (et (k70 d2)) rfl hS ?_); clear hS; intro b454 w49 hb455 hS; refine po ?_
       obtain ⟨l458,g459,h⟩:=bI h
       have m460:Rw μ17 [.int .i64 x278.Kind,S x278.Name,.int .i64 i296,S s297,.int .i64 i317,S s318,.int .i64 i303,.slice a449 l329.length c450,.slice a304 l306.length c305] [(TDef.mk x278.Kind x278.Name (TType.mk i296 s297) (TType.mk i317 s318) i303 l329 l306)]:=(Rw.one (α:=TDef) (TDef.i ⟨a449,c450,a304,c305,rfl,m451,(m316.up (le323.t (le326.t (le447.t le452))))⟩))
       have m457:=Rw.appN (m276.up (le302.t (le315.t (le323.t (le326.t (le447.t le452)))))) m460 g459
       refine wl (s_app1N underlying22 ti35 rfl (et (k70 d1)) (et (k70 d3)) hS d1 (hS.blk d0).cells m460 rfl g459 (by decide) ?_); clear hS; intro v456 w50 rs_ hp_ hS; cases (show _=rs_ from hp_)
       replace hS:=Sep.reput hS p1; refine po ?_
       replace hS:=hS.drop Rm.z
       refine st (wnil ?_)
       refine (fun h=>bn (xn h)) ?_
       refine creg ?_
       obtain ⟨i461,g462,h⟩:=bI h
       refine wl (su (u_addc (et (k10 d1)) ec g462) (dt (q70 p5)) (st (wnil (xl ?_))))
       replace hS:=hS.drop (Rm.s Rm.z)
       exact ⟨n_1,_,_,rfl,(aK3 (aI (aK1 (aO2 (aK1 (aO1 (aK2 (aI (aO50 (aO10 (aO4 aZ))))))))))),⟨_,i461,l458,v456,(cs141++[.int .i64 x278.Kind,S x278.Name,.int .i64 i296,S s297,.int .i64 i317,S s318,.int .i64 i303,.slice a449 l329.length c450,.slice a304 l306.length c305]),rfl,h,(le275.t (le302.t (le315.t (le323.t (le326.t (le447.t le452)))))),hS,m457⟩,Nat.lt_succ_self _⟩
 ·replace h:=iF h277 h
  refine cexit ?_
  refine (fun h=>xe (xe (bh h))) ?_
  refine xn (nz ?_)
  iterate 2 refine st ?_
  refine nw (cret ?_)
  obtain ⟨μ18,a463,c464,e467,le466,m465,hq_⟩:=Sep.frzRow hS m276 rfl; clear hS
  subst e467; have hS:=hq_; clear hq_
  obtain rfl:=oI h
  refine ret1 rfl d2 ?_
  exact ⟨_,_,_,rfl,(le275.t le466),hS,m465⟩
theorem law_bare_w (hg:Le Gm μ0) {p_1:List TDef} {r:Bool} (m3:Sl μ0 a1 c2 p_1) (h:law_bare fu p_1=some r) (hS:Sq μ0 w0 w (rsF)):CallsV prog 5 [.slice a1 p_1.length c2] w (fun v w'=>∃ (μ':M) ,v=.bool r∧Le μ0 μ'∧Sq μ' w0 w' (rsF)):=by
 unfold law_bare at h
 refine enter func5 rfl (frm:=_::u10 []) rfl (nz (st (ny (nz ?_))))
 obtain ⟨r4,g5,h⟩:=bI h
 refine ca (l3_alive_w hg g5 hS) ?_
 rintro _ w1 ⟨μ1,rfl,le6,hS⟩
 refine po (st (nw ?_))
 refine cifnb (et d4) (fun h7=>?_) (fun h7=>?_)
 ·replace h:=iF h7 h
  refine nz (st (nw (cret (xr ?_))))
  obtain rfl:=oI h
  refine ret1 rfl d2 ?_
  exact ⟨_,rfl,le6,hS⟩
 ·replace h:=iT h7 h
  refine cskip (xn (nz (st ?_)))
  obtain ⟨r8,g9,h⟩:=bI h
  refine ca (sema_check_w (hg.t le6) (m3.up le6) g9 hS) ?_
  rintro _ w2 ⟨μ2,rfl,le10,hS⟩
  refine po (st ?_)
  obtain ⟨r11,g12,h⟩:=bI h
  refine ca (r2_bare_w (hg.t (le6.t le10)) (m3.up (le6.t le10)) g12 hS) ?_
  rintro _ w3 ⟨μ3,a14,c15,rfl,le13,hS,m16⟩
  refine po ?_
  obtain ⟨r17,g18,h⟩:=bI h
  refine ca (sema_check_w (hg.t (le6.t (le10.t le13))) m16 g18 hS) ?_
  rintro _ w4 ⟨μ4,rfl,le19,hS⟩
  refine po (wl (s_eqa (ES.mk underlying27 eh27 eg27) (et d6) (et d9) (EqFs.o rfl rfl rfl ti25 d0 d0 (eq_int underlying25) (EqFs.o rfl rfl rfl ti3 d1 d1 (eq_int underlying3) EqFs.z)) rfl (dt (q10 p0)) (st (nw (cret ?_)))))
  obtain rfl:=oI h
  refine ret1 rfl d2 ?_
  exact ⟨_,rfl,(le6.t (le10.t (le13.t le19))),hS⟩
end Go.Proofs.YtjbiabapnphheaaGreatDoor
