/- Texts of GraphOrder Wl. -/
import Derived.Test.YtjbiabapnphheaaGreatDoorCXu
import Derived.Test.YtjbiabapnphheaaGreatDoorCPl
import Derived.Test.YtjbiabapnphheaaGreatDoorCFl
import Derived.Test.YtjbiabapnphheaaGreatDoorCWc
set_option linter.unusedSimpArgs false
set_option linter.unusedVariables false
set_option linter.unusedSectionVars false
set_option maxRecDepth 100000
set_option maxHeartbeats 20000000
namespace Go.Proofs.YtjbiabapnphheaaGreatDoor
open Go.Wk Go.Xt Go.Y Tryz
variable {b1 b4 b7 c2 c5 c8 c11 fu o2 o5 o8:Nat} {a1 a4 a7 a10:Option Addr} {μ0:M} {w0 w:World} {rsF:List Res}
theorem gr_names_w (hg:Le Gm μ0) {p_1:List TDef} {r:List (List UInt8)} (m3:Sl μ0 a1 c2 p_1) (h:gr_names p_1=some r) (hS:Sq μ0 w0 w (rsF)):CallsV prog 24 [.slice a1 p_1.length c2] w (fun v w'=>∃ (μ':M) (v4:Value) (cs5:List Value),v=v4∧Le μ0 μ'∧Sq μ' w0 w' (.row v4 9 1 r.length cs5::rsF)∧Rw μ' cs5 r):=by
 unfold gr_names at h
 refine enter func24 rfl (frm:=_::u1 (u20 [])) rfl (nz (st (nx (st (ny (nz (st (wl (su (u_lensl underlying22 (et d6)) (dt p7) (st (nw (cblock ?_))))))))))))
 replace hS:=hS.nilRow 9 (Mo.sz (List UInt8))
 refine cloopE ([5]++rg 9 12) (by decide) (fun n m w=>∃ μx i37 l40 v38 cs39,m=(yK3 (.i (v38)::(yK1 (yO1 5 (yK2 (.i (.int .i64 i37)::(yO10 9 (yO2 19 []))))))))∧gr_names_l1 p_1 n i37 l40=some r∧Le μ0 μx∧Sq μx w0 w (.row v38 9 1 l40.length cs39::rsF)∧Rw μx cs39 l40) (by rintro _ _ _ ⟨_,_,_,_,_,rfl,_⟩; rfl) _ _ (aK3 (aI (aK1 (aO1 (aK2 (aI (aO10 (aO2 aZ)))))))) ⟨_,0,[],(.slice none 0 0),[],rfl,h,Le.r,hS,Rw.nil⟩ ?_
 rintro n_1 _ t w1 ⟨μ1,i37,l40,v38,cs39,rfl,h,le71,hS,m72⟩
 cases n_1 with
 | zero=>cases h
 | succ n_1 =>
 unfold gr_names_l1 at h
 refine cnrm (mK3 (mi (mK1 (mO1 (mK2 (mi (mO10 (mO2 mz)))))))) (nz (st (ny ?_)))
 refine cifd (et d9) (fun h73=>?_) (fun h73=>?_)
 ·replace h:=iT h73 h
  refine cskip (xn (cseq (cblock (nz ?_))))
  obtain ⟨x74,g75,h⟩:=bI h
  obtain ⟨b76,o77,cs78,e79,f80,m81⟩:=SlR.elem (m3.up le71) g75
  obtain ⟨a82,c83,a85,c86,rfl,m84,m87⟩:=m81
  refine wl (su (u_iax underlying22 ti35 (et d6) (et d8) e79) (dt (q10 p0)) (lds (f80 _ hS.a) rfl ?_))
  refine wl (s_alloc ti35 hS ?_); clear hS; intro b88 w2 hb89 hS; refine po ?_
  refine wl (s_storeA ti35 (et d5) (et (k10 d1)) rfl rfl hS d0 rfl p0 dn ?_)
  clear hS; intro w3 hS
  refine nx (st (ld ((hS.blk d0).cell d0) (st (nw ?_))))
  refine cifd (et (k10 d4)) (fun h90=>?_) (fun h90=>?_)
  ·replace h:=iT h90 h
   refine creg ?_
   iterate 2 refine st ?_
   refine ld ((hS.blk d0).cell d1) ?_
   refine wl (s_bsl underlying38 ti9 (Parts.s (et (k10 d7)) rfl Parts.z) rfl rfl hS ?_); clear hS; intro b91 w4 hb92 hS; refine po ?_
   obtain ⟨l95,g96,h⟩:=bI h
   have m97:Rw μ1 [S x74.Name] [x74.Name]:=(Rw.one (α:=List UInt8) rfl)
   have m94:=Rw.app m72 m97 g96
   refine wl (s_app1 underlying38 ti9 rfl (et (k10 d5)) (et (k10 d8)) hS d2 (hS.blk d0).cells m97 rfl g96 (by decide) ?_); clear hS; intro v93 w5 rs_ hp_ hS; cases (show _=rs_ from hp_)
   replace hS:=Sep.reput hS p2; refine po ?_
   replace hS:=hS.drop Rm.z
   refine st (wnil ?_)
   refine (fun h=>bn (xn h)) ?_
   refine creg ?_
   obtain ⟨i98,g99,h⟩:=bI h
   refine wl (su (u_addc (et d8) ec g99) (dt (q20 p0)) (st (wnil (xl ?_))))
   replace hS:=hS.drop Rm.z
   exact ⟨n_1,_,_,rfl,(aK3 (aI (aK1 (aO1 (aK2 (aI (aO10 (aO2 aZ)))))))),⟨_,i98,l95,v93,(cs39++[S x74.Name]),rfl,h,le71,hS,m94⟩,Nat.lt_succ_self _⟩
  ·replace h:=iF h90 h
   refine cskip ?_
   refine (fun h=>bn (xn h)) ?_
   refine creg ?_
   obtain ⟨i100,g101,h⟩:=bI h
   refine wl (su (u_addc (et d8) ec g101) (dt (q20 p0)) (st (wnil (xl ?_))))
   replace hS:=hS.drop Rm.z
   exact ⟨n_1,_,_,rfl,(aK3 (aI (aK1 (aO1 (aK2 (aI (aO10 (aO2 aZ)))))))),⟨_,i100,l40,v38,cs39,rfl,h,le71,hS,m72⟩,Nat.lt_succ_self _⟩
 ·replace h:=iF h73 h
  refine cexit ?_
  refine (fun h=>xe (xe (bh h))) ?_
  refine xn (nz ?_)
  iterate 2 refine st ?_
  refine nw (cret ?_)
  obtain rfl:=oI h
  refine ret1 rfl d2 ?_
  exact ⟨_,_,_,rfl,le71,hS,m72⟩
theorem gr_edges_w (hg:Le Gm μ0) {p_1:List TDef} {r:List TEdge×TFault} (m3:Sl μ0 a1 c2 p_1) (h:gr_edges fu p_1=some r) (hS:Sq μ0 w0 w (rsF)):CallsV prog 15 [.slice a1 p_1.length c2] w (fun v w'=>∃ (μ':M) (a4:Option Addr) (c5:Nat),v=.tuple ⟨[.slice a4 r.1.length c5,.agg ⟨[.int .i64 r.2.Err,.int .i64 r.2.At]⟩]⟩∧Le μ0 μ'∧Sq μ' w0 w' (rsF)∧Sl μ' a4 c5 r.1):=by
 unfold gr_edges at h
 refine enter func15 rfl (frm:=_::u2 (u2 (u20 (u20 [])))) rfl (nz (st ?_))
 refine wl (s_alloc ti27 hS ?_); clear hS; intro b7 w1 hb8 hS; refine po ?_
 refine nx (st ?_)
 obtain ⟨r9,g10,h⟩:=bI h
 refine ca (sema_owners_w hg m3 g10 hS) ?_
 rintro _ w2 ⟨μ1,a12,c13,rfl,le11,hS,m14⟩
 refine po ?_
 iterate 3 refine st ?_
 refine wl (s_alloc ti27 hS ?_); clear hS; intro b15 w3 hb16 hS; refine po ?_
 refine st (wl (s_storeA ti27 (et d5) (et (k10 d3)) rfl rfl hS d0 rfl p0 dn ?_))
 clear hS; intro w4 hS
 refine ny (nz (st (ld ((hS.blk d0).cell d0) (st (nw ?_)))))
 refine cifd (et (k10 d6)) (fun h17=>?_) (fun h17=>?_)
 ·replace h:=iT h17 h
  refine cseq ?_
  refine cdw hS ?_; clear hS; intro w5 hS
  refine cpi 1 rfl (cr 0 [0,2] rfl (u_loads ti27 (et d5) (hS.blk d0).cells rfl) (q10 p7) (sc1 rfl rfl rfl (s_storeA ti27 (et d3) (et (k10 d7)) rfl rfl hS d1 rfl p1 dn ?_)))
  clear hS; intro w6 hS
  refine nu (cret (xr ?_))
  obtain rfl:=oI h
  refine retN rfl (RVs.s (.t d2) (RVs.s (.a d3 ti27 (hS.blk d1).cells rfl) RVs.z)) ?_
  replace hS:=(hS.drop Rm.z).drop Rm.z
  exact ⟨_,none,0,rfl,le11,hS,Sl.nil⟩
 ·replace h:=iF h17 h
  refine cskip (xn (nz (st (ny (nz (st (wl (su (u_lensl underlying24 (et (k10 d8))) (dt (q10 p9)) (st (nw (cblock ?_)))))))))))
  replace hS:=hS.nilRow 52 (Mo.sz TEdge)
  replace hS:=(hS.bg Y1).bg Y2
  refine cloopE ([8]++rg 21 22) (by decide +kernel) (fun n m w=>∃ μx i44 l47 v45 cs46,m=(yK6 (.i (v45)::(yK1 (yO1 8 (yK10 (yK1 (.i (.int .i64 i44)::(yO20 21 (yO2 41 [])))))))))∧gr_edges_l1 r9 n i44 l47=some r∧Le μ1 μx∧Sq μx w0 w (.blk b7 27 [.int .i64 0,.int .i64 0]::.blk b15 27 [.int .i64 r9.2.Err,.int .i64 r9.2.At]::.row v45 52 3 l47.length cs46::rsF)∧Rw μx cs46 l47) (by rintro _ _ _ ⟨_,_,_,_,_,rfl,_⟩; rfl) _ _ (aK6 (aI (aK1 (aO1 (aK10 (aK1 (aI (aO20 (aO2 aZ))))))))) ⟨_,0,[],(.slice none 0 0),[],rfl,h,Le.r,hS,Rw.nil⟩ ?_
  rintro n_1 _ t w7 ⟨μ2,i44,l47,v45,cs46,rfl,h,le74,hS,m75⟩
  cases n_1 with
  | zero=>cases h
  | succ n_1 =>
  unfold gr_edges_l1 at h
  refine cnrm (mK6 (mi (mK1 (mO1 (mK10 (mK1 (mi (mO20 (mO2 mz))))))))) (nz (st (ny ?_)))
  refine cifd (et (k20 d1)) (fun h76=>?_) (fun h76=>?_)
  ·replace h:=iT h76 h
   refine cskip (xn (cseq (cblock (nz ?_))))
   obtain ⟨x77,g78,h⟩:=bI h
   obtain ⟨b79,o80,cs81,e82,f83,m84⟩:=SlR.elem (m14.up le74) g78
   obtain rfl:=m84
   refine wl (su (u_iax underlying24 ti37 (et (k10 d8)) (et (k20 d0)) e82) (dt (q20 p2)) (lds (f83 _ hS.a) rfl ?_))
   refine wl (s_alloc ti37 hS ?_); clear hS; intro b85 w8 hb86 hS; refine po ?_
   refine wl (s_storeA ti37 (et d8) (et (k20 d3)) rfl rfl hS d0 rfl p0 dn ?_)
   clear hS; intro w9 hS
   refine ny ?_
   refine ccutE (rg 24 7) (by decide) (fun m w=>∃ μx b87,m=(yK20 (yK4 (yO7 24 (.i (.bool b87)::[]))))∧gr_edges_j1 i44 l47 x77 (gr_edges_l1 r9 n_1) b87=some r∧Le μ2 μx∧Sq μx w0 w (.blk b7 27 [.int .i64 0,.int .i64 0]::.blk b15 27 [.int .i64 r9.2.Err,.int .i64 r9.2.At]::.row v45 52 3 l47.length cs46::.blk b85 37 [S x77.Box,S x77.Writer,S x77.Reader]::rsF)) (by rintro _ _ ⟨_,_,rfl,_⟩; rfl) ?_ ?_
   ·refine creg (st (ld ((hS.blk d0).cell d1) (wl (su (u_nes (et (k20 d5)) ec) (dt (q20 p6)) (st ?_)))))
    refine wspd (k20 d7) (q20 p7) (q20 p7) (fun h88=>?_) (fun h88=>?_)
    ·replace h:=iT h88 h
     refine sy rfl (wy rfl (k20 d7) (s_load ti9 (et (k20 d8)) ((hS.blk d0).cell d2) (dt (q20 p9)) (wy rfl (k20 d7) (su (u_nes (et (k20 d9)) ec) (dt (q30 p0)) (st (wnil (xl ?_)))))))
     replace hS:=((hS.bg Y3).bg Y3).bg Y3
     exact ⟨_,_,rfl,(aK20 (aK4 (aO7 (aI aZ)))),_,(decide (x77.Reader≠[])),rfl,h,Le.r,hS⟩
    ·replace h:=iF h88 h
     refine sn rfl rfl (sn rfl rfl (sn rfl rfl (st (wnil (xl ?_)))))
     replace hS:=((hS.bg Y3).bg Y3).bg Y3
     exact ⟨_,_,rfl,(aK20 (aK4 (aO7 (aI aZ)))),_,false,rfl,h,Le.r,hS⟩
   ·rintro _ t w10 ⟨μ3,b87,rfl,h,le89,hS⟩
    unfold gr_edges_j1 at h
    refine nrm (mK20 (mK4 (mO7 (mi mz)))) (xn ?_)
    refine cifb (et (k30 d1)) (fun h90=>?_) (fun h90=>?_)
    ·replace h:=iT h90 h
     refine creg ?_
     iterate 2 refine st ?_
     refine ld ((hS.blk d3).cell d0) (st (ld ((hS.blk d3).cell d1) (st (ld ((hS.blk d3).cell d2) (wl (s_build ti52 pl52 (Fl.o rfl (et (k30 d4)) rfl rfl p0 (Fl.o rfl (et (k30 d6)) rfl rfl p1 (Fl.o rfl (et (k30 d8)) rfl rfl p2 Fl.z))) (dt (q30 p9)) ?_))))))
     refine wl (s_bsl1 underlying47 ti52 rfl (et (k30 d9)) rfl hS ?_); clear hS; intro b91 w11 hb92 hS; refine po ?_
     obtain ⟨l95,g96,h⟩:=bI h
     have m97:Rw μ3 [S x77.Box,S x77.Writer,S x77.Reader] [(TEdge.mk x77.Box x77.Writer x77.Reader)]:=(Rw.one (α:=TEdge) rfl)
     have m94:=Rw.app (m75.up le89) m97 g96
     refine wl (s_app1 underlying47 ti52 rfl (et (k30 d2)) (et (k40 d0)) hS d3 (hS.blk d0).cells m97 rfl g96 (by decide) ?_); clear hS; intro v93 w12 rs_ hp_ hS; cases (show _=rs_ from hp_)
     replace hS:=Sep.reput hS p3; refine po ?_
     replace hS:=hS.drop Rm.z
     refine st (wnil ?_)
     refine (fun h=>bn (xn h)) ?_
     refine creg ?_
     obtain ⟨i98,g99,h⟩:=bI h
     refine wl (su (u_addc (et (k20 d0)) ec g99) (dt (q40 p2)) (st (wnil (xl ?_))))
     replace hS:=hS.drop (Rm.s (Rm.s (Rm.s Rm.z)))
     exact ⟨n_1,_,_,rfl,(aK6 (aI (aK1 (aO1 (aK10 (aK1 (aI (aO20 (aO2 aZ))))))))),⟨_,i98,l95,v93,(cs46++[S x77.Box,S x77.Writer,S x77.Reader]),rfl,h,(le74.t le89),hS,m94⟩,Nat.lt_succ_self _⟩
    ·replace h:=iF h90 h
     refine cskip ?_
     refine (fun h=>bn (xn h)) ?_
     refine creg ?_
     obtain ⟨i100,g101,h⟩:=bI h
     refine wl (su (u_addc (et (k20 d0)) ec g101) (dt (q40 p2)) (st (wnil (xl ?_))))
     replace hS:=hS.drop (Rm.s (Rm.s (Rm.s Rm.z)))
     exact ⟨n_1,_,_,rfl,(aK6 (aI (aK1 (aO1 (aK10 (aK1 (aI (aO20 (aO2 aZ))))))))),⟨_,i100,l47,v45,cs46,rfl,h,(le74.t le89),hS,(m75.up le89)⟩,Nat.lt_succ_self _⟩
  ·replace h:=iF h76 h
   refine cexit ?_
   refine (fun h=>xe (xe (bh h))) ?_
   refine xn (cseq ?_)
   refine cdw hS ?_; clear hS; intro w13 hS
   refine cpi 0 rfl (cpi 2 rfl (cr 1 [1,3] rfl (u_loads ti27 (et d5) (hS.blk d1).cells rfl) (q40 p4) (sc1 rfl rfl rfl (s_storeA ti27 (et d3) (et (k40 d4)) rfl rfl hS d0 rfl p0 dn ?_))))
   clear hS; intro w14 hS
   refine nu (cret ?_)
   replace hS:=hS.bg Y2
   obtain ⟨μ4,a102,c103,e106,le105,m104,hq_⟩:=Sep.frzRow hS m75 rfl; clear hS
   subst e106; have hS:=hq_; clear hq_
   obtain rfl:=oI h
   refine retN rfl (RVs.s (.t d2) (RVs.s (.a d3 ti27 (hS.blk d0).cells rfl) RVs.z)) ?_
   replace hS:=(hS.drop Rm.z).drop Rm.z
   exact ⟨_,_,_,rfl,(le11.t (le74.t le105)),hS,m104⟩
theorem idxf_e_w (hg:Le Gm μ0) {p_1:List TEdge} {K4:Nat} {caps5:List Value} {p_2:TEdge→Option Bool} {r:Int} (m3:Sl μ0 a1 c2 p_1) (m6:FnOk prog μ0 K4 caps5 true p_2) (h:idxf_e p_1 p_2=some r) (hS:Sq μ0 w0 w (rsF)):CallsV prog 43 [.slice a1 p_1.length c2,.func (.func K4) ⟨[]⟩ ⟨caps5⟩] w (fun v w'=>∃ (μ':M) ,v=.int .i64 r∧Le μ0 μ'∧Sq μ' w0 w' (rsF)):=by
 unfold idxf_e at h
 refine enter func43 rfl (frm:=_::_::u2 (u5 (u10 []))) rfl (nz (st (ny (nz (st (wl (su (u_lensl underlying47 (et d6)) (dt p7) (st (nw (cblock ?_))))))))))
 refine cloopE (rg 4 2++rg 9 10) (by decide) (fun n m w=>∃ μx i20,m=(yK4 (yO2 4 (yK2 (.i (.int .i64 i20)::(yO10 9 [])))))∧idxf_e_l1 p_1 p_2 n i20=some r∧Le μ0 μx∧Sq μx w0 w (rsF)) (by rintro _ _ _ ⟨_,_,rfl,_⟩; rfl) _ _ (aK4 (aO2 (aK2 (aI (aO10 aZ))))) ⟨_,0,rfl,h,Le.r,hS⟩ ?_
 rintro n_1 _ t w1 ⟨μ1,i20,rfl,h,le35,hS⟩
 cases n_1 with
 | zero=>cases h
 | succ n_1 =>
 unfold idxf_e_l1 at h
 refine cnrm (mK4 (mO2 (mK2 (mi (mO10 mz))))) (nz (st (ny ?_)))
 refine cifd (et d9) (fun h36=>?_) (fun h36=>?_)
 ·replace h:=iT h36 h
  refine cskip (xn (cseq (cblock (nz ?_))))
  iterate 2 refine st ?_
  refine nx ?_
  iterate 3 refine st ?_
  obtain ⟨x37,g38,h⟩:=bI h
  obtain ⟨b39,o40,cs41,e42,f43,m44⟩:=SlR.elem (m3.up le35) g38
  obtain rfl:=m44
  refine wl (su (u_iax underlying47 ti52 (et (k10 d2)) (et (k10 d3)) e42) (dt (q10 p4)) (lds (f43 _ hS.a) rfl ?_))
  obtain ⟨b45,g46,h⟩:=bI h
  refine wl (s_callc m6.isfn (et (k10 d1)) (e1 (et (k10 d5)) e0) ((m6.up le35).call (cs:=[S x37.Box,S x37.From,S x37.To]) Le.r rfl g46 hS) ?_)
  rintro _ w2 ⟨μ2,rfl,le47,hS⟩; refine po ?_
  refine nw ?_
  refine cifb (et (k10 d6)) (fun h48=>?_) (fun h48=>?_)
  ·replace h:=iT h48 h
   refine nz ?_
   iterate 2 refine st ?_
   refine nw (cret ?_)
   refine (fun h=>br (xr (xr (br (xr h))))) ?_
   obtain rfl:=oI h
   refine ret1 rfl d4 ?_
   exact ⟨_,rfl,(le35.t le47),hS⟩
  ·replace h:=iF h48 h
   refine cskip ?_
   refine (fun h=>bn (xn h)) ?_
   refine creg ?_
   obtain ⟨i49,g50,h⟩:=bI h
   refine wl (su (u_addc (et d8) ec g50) (dt (q10 p8)) (st (wnil (xl ?_))))
   exact ⟨n_1,_,_,rfl,(aK4 (aO2 (aK2 (aI (aO10 aZ))))),⟨_,i49,rfl,h,(le35.t le47),hS⟩,Nat.lt_succ_self _⟩
 ·replace h:=iF h36 h
  refine cexit ?_
  refine (fun h=>xe (xe (bh h))) ?_
  refine xn (nz (st (nw (cret ?_))))
  obtain rfl:=oI h
  refine ret1 rfl d4 ?_
  exact ⟨_,rfl,le35,hS⟩
theorem conf_e_w (hg:Le Gm μ0) {p_1:List TEdge} {K4:Nat} {caps5:List Value} {p_2:TEdge→Option Bool} {r:Bool} (m3:Sl μ0 a1 c2 p_1) (m6:FnOk prog μ0 K4 caps5 true p_2) (h:conf_e p_1 p_2=some r) (hS:Sq μ0 w0 w (rsF)):CallsV prog 27 [.slice a1 p_1.length c2,.func (.func K4) ⟨[]⟩ ⟨caps5⟩] w (fun v w'=>∃ (μ':M) ,v=.bool r∧Le μ0 μ'∧Sq μ' w0 w' (rsF)):=by
 unfold conf_e at h
 refine enter func27 rfl (frm:=_::_::u2 (u5 [])) rfl (nz (st (nx ?_)))
 iterate 2 refine st ?_
 obtain ⟨r7,g8,h⟩:=bI h
 refine ca (idxf_e_w hg m3 m6 g8 hS) ?_
 rintro _ w1 ⟨μ1,rfl,le9,hS⟩
 refine po ?_
 iterate 2 refine st ?_
 refine nw (cret ?_)
 obtain rfl:=oI h
 refine ret1 rfl d4 ?_
 exact ⟨_,rfl,le9,hS⟩
theorem idxf_s_w (hg:Le Gm μ0) {p_1:List (List UInt8)} {K4:Nat} {caps5:List Value} {p_2:(List UInt8)→Option Bool} {r:Int} (m3:Sl μ0 a1 c2 p_1) (m6:FnOk prog μ0 K4 caps5 false p_2) (h:idxf_s p_1 p_2=some r) (hS:Sq μ0 w0 w (rsF)):CallsV prog 25 [.slice a1 p_1.length c2,.func (.func K4) ⟨[]⟩ ⟨caps5⟩] w (fun v w'=>∃ (μ':M) ,v=.int .i64 r∧Le μ0 μ'∧Sq μ' w0 w' (rsF)):=by
 unfold idxf_s at h
 refine enter func25 rfl (frm:=_::_::u2 (u5 (u10 []))) rfl (nz (st (ny (nz (st (wl (su (u_lensl underlying38 (et d6)) (dt p7) (st (nw (cblock ?_))))))))))
 refine cloopE (rg 4 2++rg 9 10) (by decide) (fun n m w=>∃ μx i20,m=(yK4 (yO2 4 (yK2 (.i (.int .i64 i20)::(yO10 9 [])))))∧idxf_s_l1 p_1 p_2 n i20=some r∧Le μ0 μx∧Sq μx w0 w (rsF)) (by rintro _ _ _ ⟨_,_,rfl,_⟩; rfl) _ _ (aK4 (aO2 (aK2 (aI (aO10 aZ))))) ⟨_,0,rfl,h,Le.r,hS⟩ ?_
 rintro n_1 _ t w1 ⟨μ1,i20,rfl,h,le35,hS⟩
 cases n_1 with
 | zero=>cases h
 | succ n_1 =>
 unfold idxf_s_l1 at h
 refine cnrm (mK4 (mO2 (mK2 (mi (mO10 mz))))) (nz (st (ny ?_)))
 refine cifd (et d9) (fun h36=>?_) (fun h36=>?_)
 ·replace h:=iT h36 h
  refine cskip (xn (cseq (cblock (nz ?_))))
  iterate 2 refine st ?_
  refine nx ?_
  iterate 3 refine st ?_
  obtain ⟨x37,g38,h⟩:=bI h
  obtain ⟨b39,o40,cs41,e42,f43,m44⟩:=SlR.elem (m3.up le35) g38
  obtain rfl:=m44
  refine wl (su (u_iax underlying38 ti9 (et (k10 d2)) (et (k10 d3)) e42) (dt (q10 p4)) (ld ((f43 _ hS.a).one d0) ?_))
  obtain ⟨b45,g46,h⟩:=bI h
  refine wl (s_callc m6.isfn (et (k10 d1)) (e1 (et (k10 d5)) e0) ((m6.up le35).call (cs:=[S x37]) Le.r rfl g46 hS) ?_)
  rintro _ w2 ⟨μ2,rfl,le47,hS⟩; refine po ?_
  refine nw ?_
  refine cifb (et (k10 d6)) (fun h48=>?_) (fun h48=>?_)
  ·replace h:=iT h48 h
   refine nz ?_
   iterate 2 refine st ?_
   refine nw (cret ?_)
   refine (fun h=>br (xr (xr (br (xr h))))) ?_
   obtain rfl:=oI h
   refine ret1 rfl d4 ?_
   exact ⟨_,rfl,(le35.t le47),hS⟩
  ·replace h:=iF h48 h
   refine cskip ?_
   refine (fun h=>bn (xn h)) ?_
   refine creg ?_
   obtain ⟨i49,g50,h⟩:=bI h
   refine wl (su (u_addc (et d8) ec g50) (dt (q10 p8)) (st (wnil (xl ?_))))
   exact ⟨n_1,_,_,rfl,(aK4 (aO2 (aK2 (aI (aO10 aZ))))),⟨_,i49,rfl,h,(le35.t le47),hS⟩,Nat.lt_succ_self _⟩
 ·replace h:=iF h36 h
  refine cexit ?_
  refine (fun h=>xe (xe (bh h))) ?_
  refine xn (nz (st (nw (cret ?_))))
  obtain rfl:=oI h
  refine ret1 rfl d4 ?_
  exact ⟨_,rfl,le35,hS⟩
theorem gr_o11_w (hg:Le Gm μ0) {p_1:TEdge} {p_2:List UInt8} {p_3:List (List UInt8)} {r:Bool} (m3:At μ0 b1 o2 [S p_2]) (m9:Sl μ0 a7 c8 p_3) (m6:At μ0 b4 o5 [.slice a7 p_3.length c8]) (h:gr_o11 p_1 p_2 p_3=some r) (hS:Sq μ0 w0 w (rsF)):CallsV prog 28 [.agg ⟨[S p_1.Box,S p_1.From,S p_1.To]⟩,.pointer (some ⟨b1,o2,none⟩),.pointer (some ⟨b4,o5,none⟩)] w (fun v w'=>∃ (μ':M) ,v=.bool r∧Le μ0 μ'∧Sq μ' w0 w' (rsF)):=by
 unfold gr_o11 at h
 refine enter func28 rfl (frm:=_::_::_::u2 (u10 [])) rfl (nz ?_)
 refine wl (s_box (et d0) rfl hS ?_); clear hS; intro b10 w1 hb11 hS; refine po ?_
 refine st (nx (st (ld ((hS.blk d0).cell d2) (ld ((m3 _ hS.a).one d0) (wl (su (u_eqs (et d6) (et d7)) (dt p8) (st ?_)))))))
 refine wspd d9 p9 p9 (fun h12=>?_) (fun h12=>?_)
 ·replace h:=iT h12 h
  refine wy rfl d9 (s_load ti38 (et d2) ((m6 _ hS.a).one d0) (dt (q10 p0)) (sy rfl (wy rfl d9 (s_load ti9 (et (k10 d1)) ((hS.blk d0).cell d1) (dt (q10 p2)) ?_))))
  refine wy rfl d9 (s_callv isfn21 ef (e1 (et (k10 d0)) (e1 (et (k10 d2)) e0)) (contains_s_c (l:=p_3) (cells_sl str1 rfl m9 hS.a)) ?_); rintro _ w2 ⟨rfl,hw_⟩; replace hS:=hw_ ▸ hS; clear hw_; refine po ?_
  iterate 2 refine st ?_
  refine nw (cret ?_)
  obtain rfl:=oI h
  refine ret1 rfl d4 ?_
  replace hS:=hS.drop Rm.z
  exact ⟨_,rfl,Le.r,hS⟩
 ·replace h:=iF h12 h
  refine sn rfl rfl (sn rfl rfl (sn rfl rfl (sn rfl rfl ?_)))
  iterate 2 refine st ?_
  refine nw (cret ?_)
  obtain rfl:=oI h
  refine ret1 rfl d4 ?_
  replace hS:=hS.drop Rm.z
  exact ⟨_,rfl,Le.r,hS⟩
theorem gr_o1_w (hg:Le Gm μ0) {p_1:List UInt8} {p_2:List TEdge} {p_3:List (List UInt8)} {r:Bool} (m6:Sl μ0 a4 c5 p_2) (m3:At μ0 b1 o2 [.slice a4 p_2.length c5]) (m12:Sl μ0 a10 c11 p_3) (m9:At μ0 b7 o8 [.slice a10 p_3.length c11]) (h:gr_o1 p_1 p_2 p_3=some r) (hS:Sq μ0 w0 w (rsF)):CallsV prog 26 [S p_1,.pointer (some ⟨b1,o2,none⟩),.pointer (some ⟨b7,o8,none⟩)] w (fun v w'=>∃ (μ':M) ,v=.bool r∧Le μ0 μ'∧Sq μ' w0 w' (rsF)):=by
 unfold gr_o1 at h
 refine enter func26 rfl (frm:=_::_::_::u1 (u5 [])) rfl (nz ?_)
 refine wl (s_box (et d0) rfl hS ?_); clear hS; intro b13 w1 hb14 hS; refine po ?_
 refine st (nx (ld ((m3 _ hS.a).one d0) ?_))
 obtain ⟨μ1,le16,m15,hS⟩:=Sep.frzAt hS
 refine wl (su (u_mkfn e0 (e1 (et d3) (e1 (et d2) e0))) (dt p6) ?_)
 obtain ⟨r17,g18,h⟩:=bI h
 refine wl (s_callv isfn27 ef (e1 (et d5) (e1 (et d6) e0)) (conf_e_w (hg.t le16) (m6.up le16) (⟨isfn28,fun hle_ hm_ g_ hS_=>by obtain rfl:=hm_; exact gr_o11_w ((hg.t le16).t hle_) (m15.up hle_) ((m12.up le16).up hle_) ((m9.up le16).up hle_) g_ hS_⟩) g18 hS) ?_)
 rintro _ w2 ⟨μ2,rfl,le19,hS⟩
 refine po ?_
 iterate 2 refine st ?_
 refine nw (cret ?_)
 obtain rfl:=oI h
 refine ret1 rfl d4 ?_
 exact ⟨_,rfl,(le16.t le19),hS⟩
theorem gr_order_w (hg:Le Gm μ0) {p_1:List TDef} {r:List (List UInt8)×List (List UInt8)×TFault} (m3:Sl μ0 a1 c2 p_1) (h:gr_order fu p_1=some r) (hS:Sq μ0 w0 w (rsF)):CallsV prog 14 [.slice a1 p_1.length c2] w (fun v w'=>∃ (μ':M) (a4:Option Addr) (c5:Nat) (a7:Option Addr) (c8:Nat),v=.tuple ⟨[.slice a4 r.1.length c5,.slice a7 r.2.1.length c8,.agg ⟨[.int .i64 r.2.2.Err,.int .i64 r.2.2.At]⟩]⟩∧Le μ0 μ'∧Sq μ' w0 w' (rsF)∧Sl μ' a4 c5 r.1∧Sl μ' a7 c8 r.2.1):=by
 unfold gr_order at h
 refine enter func14 rfl (frm:=_::u2 (u5 (u10 (u20 [])))) rfl (nz (st ?_))
 refine wl (s_alloc ti38 hS ?_); clear hS; intro b10 w1 hb11 hS; refine po ?_
 refine wl (s_alloc ti27 hS ?_); clear hS; intro b12 w2 hb13 hS; refine po ?_
 refine nx (st ?_)
 obtain ⟨r14,g15,h⟩:=bI h
 refine ca (gr_edges_w hg m3 g15 hS) ?_
 rintro _ w3 ⟨μ1,a17,c18,rfl,le16,hS,m19⟩
 refine po ?_
 iterate 3 refine st ?_
 refine wl (s_alloc ti47 hS ?_); clear hS; intro b20 w4 hb21 hS; refine po ?_
 refine wl (s_store1 ti47 (et d5) (et (k10 d0)) rfl hS d0 p0 rfl p0 dn ?_)
 clear hS; intro w5 hS
 refine wl (s_storeA ti27 (et d4) (et (k10 d1)) rfl rfl hS d1 rfl p1 dn ?_)
 clear hS; intro w6 hS
 refine ny (nz (st (ld ((hS.blk d1).cell d0) (st (nw ?_)))))
 refine cifd (et (k10 d4)) (fun h22=>?_) (fun h22=>?_)
 ·replace h:=iT h22 h
  refine cseq ?_
  refine ccutE ([15]) (by decide) (fun m w=>∃ (μx:M) ,m=(yK2 (.i (.slice none 0 0)::(yK10 (yK2 (yO1 15 [])))))∧gr_order_j1 r14 =some r∧Le μ1 μx∧Sq μx w0 w (.blk b10 38 [.slice none 0 0]::.blk b12 27 [.int .i64 r14.2.Err,.int .i64 r14.2.At]::rsF)) (by rintro _ _ ⟨_,rfl,_⟩; rfl) ?_ ?_
  ·refine cdw hS ?_; clear hS; intro w7 hS
   refine sf_start (fr_ 0 [0,3] rfl (u_loads ti27 (et d4) (hS.blk d1).cells rfl) (q10 p5) (fpi 1 [1,2,3] rfl (sf1 rfl rfl rfl rfl (wn0 rfl) (s_store1 ti38 (et d3) ec rfl hS d2 p0 rfl p2 dn ?_))))
   clear hS; intro w8 hS
   refine ⟨(Mons.s (u_loads ti27 (et d4) (hS.blk d1).cells rfl) Mons.z),?_⟩
   refine sf1 rfl rfl rfl rfl (wn0 rfl) (s_storeA ti27 (et d4) (et (k10 d5)) rfl rfl hS d1 rfl p1 dn ?_)
   clear hS; intro w9 hS
   refine ⟨Mons.z,?_⟩
   refine sf_nil (xl ?_)
   replace hS:=(hS.drop Rm.z).bg Y1
   exact ⟨_,_,rfl,(aK2 (aI (aK10 (aK2 (aO1 aZ))))),_,rfl,h,Le.r,hS⟩
  ·rintro _ t w10 ⟨μ2,rfl,h,le23,hS⟩
   unfold gr_order_j1 at h
   refine nrm (mK2 (mi (mK10 (mK2 (mO1 mz))))) (xn (cret (xr ?_)))
   obtain rfl:=oI h
   refine retN rfl (RVs.s (.t d2) (RVs.s (.c d3 ti38 ((hS.blk d0).cell d0)) (RVs.s (.a d4 ti27 (hS.blk d1).cells rfl) RVs.z))) ?_
   replace hS:=(hS.drop Rm.z).drop Rm.z
   exact ⟨_,none,0,none,0,rfl,(le16.t le23),hS,Sl.nil,Sl.nil⟩
 ·replace h:=iF h22 h
  refine cskip (xn (nz (st ?_)))
  obtain ⟨r24,g25,h⟩:=bI h
  refine ca (gr_names_w (hg.t le16) (m3.up le16) g25 hS) ?_
  rintro rv_ w11 ⟨μ3,v27,cs28,hrv_,le26,hS,m29⟩; obtain rfl:=hrv_.symm
  refine po (wl (s_store1 ti38 (et d3) (et (k10 d7)) (hS.get d0).cellV hS d3 p0 rfl p3 dn ?_))
  clear hS; intro w12 hS
  refine nw (cblock ?_)
  replace hS:=hS.nilRow 9 (Mo.sz (List UInt8))
  replace hS:=(((hS.bg Y1).bg Y2).bg Y3).bg Y4
  refine cloopE ([6]++rg 18 20) (by decide +kernel) (fun n m w=>∃ μx l74 v72 cs73 l78 v76 cs77,m=(yK2 (.i (v76)::(yK3 (yO1 6 (yK10 (yK1 (yO20 18 [])))))))∧gr_order_l1 r14 n l74 l78=some r∧Le μ3 μx∧Sq μx w0 w (.blk b10 38 [v72]::.blk b12 27 [.int .i64 r14.2.Err,.int .i64 r14.2.At]::.blk b20 47 [.slice a17 r14.1.length c18]::.row v72 9 1 l74.length cs73::.row v76 9 1 l78.length cs77::rsF)∧Rw μx cs73 l74∧Rw μx cs77 l78) (by rintro _ _ _ ⟨_,_,_,_,_,_,_,rfl,_⟩; rfl) _ _ (aK2 (aI (aK3 (aO1 (aK10 (aK1 (aO20 aZ))))))) ⟨_,r24,v27,cs28,[],(.slice none 0 0),[],rfl,h,Le.r,hS,m29,Rw.nil⟩ ?_
  rintro n_1 _ t w13 ⟨μ4,l74,v72,cs73,l78,v76,cs77,rfl,h,le120,hS,m121,m122⟩
  cases n_1 with
  | zero=>cases h
  | succ n_1 =>
  unfold gr_order_l1 at h
  refine cnrm (mK2 (mi (mK3 (mO1 (mK10 (mK1 (mO20 mz))))))) (cblock (nz (ld ((hS.blk d0).cell d0) (wl (su (u_mkfn e0 (e1 (et d5) (e1 (et d3) e0))) (dt (q10 p9)) ?_)))))
  obtain ⟨r133,g134,h⟩:=bI h
  obtain ⟨a123,c124,rfl⟩:=Row.shape (hS.get d3)
  obtain ⟨μ5,le125,hB126,hO127⟩:=Sep.borrow hS
  have m130:=Row.rd (α:=List UInt8) hO127 le125 (hS.get d3) m121
  have f131:=Blk.rd hO127 (hS.blk d2)
  have f132:=Blk.rd hO127 (hS.blk d0)
  refine wl (s_callv isfn25 ef (e1 (et (k10 d8)) (e1 (et (k10 d9)) e0)) (idxf_s_w (hg.t (le16.t (le26.t (le120.t le125)))) m130 (⟨isfn26,fun hle_ hm_ g_ hS_=>by obtain rfl:=hm_; exact gr_o1_w ((hg.t (le16.t (le26.t (le120.t le125)))).t hle_) ((m19.up (le26.t (le120.t le125))).up hle_) (f131.up hle_) (m130.up hle_) (f132.up hle_) g_ hS_⟩) g134 hB126) ?_)
  rintro _ w14 ⟨_,rfl,le128,hB129⟩; replace hS:=Sep.back hS hO127 le128 hB129; refine po ?_
  refine st (ny (nz ?_))
  iterate 2 refine st ?_
  refine nw ?_
  refine cifd (et (k20 d2)) (fun h135=>?_) (fun h135=>?_)
  ·replace h:=iT h135 h
   refine cseq ?_
   refine ccutE (rg 23 3) (by decide) (fun m w=>∃ (μx:M) ,m=(yK2 (.i (v76)::(yK20 (yO3 23 []))))∧gr_order_j2 r14 l74 l78 =some r∧Le μ4 μx∧Sq μx w0 w (.blk b10 38 [(.slice a123 l74.length c124)]::.blk b12 27 [.int .i64 r14.2.Err,.int .i64 r14.2.At]::.row (.slice a123 l74.length c124) 9 1 l74.length cs73::.row v76 9 1 l78.length cs77::rsF)) (by rintro _ _ ⟨_,rfl,_⟩; rfl) ?_ ?_
   ·refine cdw hS ?_; clear hS; intro w15 hS
    refine sf_start (fpi 0 [0,3,4,5] rfl (fr_ 1 [1,4,5] rfl (u_load ti38 (et d3) ((hS.blk d0).cell d0)) (q20 p4) (fr_ 2 [2,5] rfl (u_loads ti27 (et d4) (hS.blk d1).cells rfl) (q20 p5) (fpi 3 [3,4,5] rfl (sf1 rfl rfl rfl rfl (wn0 rfl) (s_store1 ti38 (et d3) (et (k20 d4)) rfl hS d0 p0 rfl p0 dn ?_))))))
    clear hS; intro w16 hS
    refine ⟨(Mons.s (u_loads ti27 (et d4) (hS.blk d1).cells rfl) Mons.z),?_⟩
    refine sf1 rfl rfl rfl rfl (wn0 rfl) (s_storeA ti27 (et d4) (et (k20 d5)) rfl rfl hS d1 rfl p1 dn ?_)
    clear hS; intro w17 hS
    refine ⟨Mons.z,?_⟩
    refine sf_nil (xl ?_)
    replace hS:=hS.drop (Rm.s (Rm.s Rm.z))
    exact ⟨_,_,rfl,(aK2 (aI (aK20 (aO3 aZ)))),_,rfl,h,Le.r,hS⟩
   ·rintro _ t w18 ⟨μ6,rfl,h,le136,hS⟩
    unfold gr_order_j2 at h
    refine nrm (mK2 (mi (mK20 (mO3 mz)))) (xn (cret ?_))
    refine (fun h=>xr (br (xr (br h)))) ?_
    replace hS:=hS.bg Y3
    obtain ⟨μ7,a137,c138,e141,le140,m139,hq_⟩:=Sep.frzRow hS (m122.up le136) rfl; clear hS
    subst e141; have hS:=hq_; clear hq_
    replace hS:=hS.bg Y2
    obtain ⟨μ8,a142,c143,e146,le145,m144,hq_⟩:=Sep.frzRow hS (m121.up (le136.t le140)) rfl; clear hS
    obtain ⟨rfl,-,rfl⟩:=Value.slice.inj e146; have hS:=hq_; clear hq_
    obtain rfl:=oI h
    refine retN rfl (RVs.s (.t d2) (RVs.s (.c d3 ti38 ((hS.blk d0).cell d0)) (RVs.s (.a d4 ti27 (hS.blk d1).cells rfl) RVs.z))) ?_
    replace hS:=(hS.drop Rm.z).drop Rm.z
    exact ⟨_,_,_,_,_,rfl,(le16.t (le26.t (le120.t (le136.t (le140.t le145))))),hS,(m139.up le145),m144⟩
  ·replace h:=iF h135 h
   refine cskip (xn (nz (st (ld ((hS.blk d0).cell d0) (st ?_)))))
   obtain ⟨x147,g148,h⟩:=bI h
   obtain ⟨b149,o150,pc151,cs152,sc153,ec154,e155,f156,m157,pn158,st159,m160⟩:=Row.elemS (α:=List UInt8) (hS.get d3) m121 rfl g148
   rw [ec154] at hS
   obtain rfl:=m157
   refine wl (su (u_iax underlying38 ti9 (et (k20 d7)) (et (k20 d8)) e155) (dt (q20 p9)) (ld ((f156 _ _ _ (hS.get d3) rfl).one d0) ?_))
   refine wl (s_bsl underlying38 ti9 (Parts.s (et (k30 d0)) rfl Parts.z) rfl rfl hS ?_); clear hS; intro b161 w19 hb162 hS; refine po ?_
   obtain ⟨l165,g166,h⟩:=bI h
   have m167:Rw μ4 [S x147] [x147]:=(Rw.one (α:=List UInt8) rfl)
   have m164:=Rw.app m122 m167 g166
   refine wl (s_app1 underlying38 ti9 rfl (et (k20 d6)) (et (k30 d1)) hS d5 (hS.blk d0).cells m167 rfl g166 (by decide) ?_); clear hS; intro v163 w20 rs_ hp_ hS; cases (show _=rs_ from hp_)
   replace hS:=Sep.reput hS p5; refine po ?_
   replace hS:=hS.drop Rm.z
   refine st (nw (creg (ld ((hS.blk d0).cell d0) ?_)))
   iterate 2 refine st ?_
   obtain ⟨i168,g169,h⟩:=bI h
   refine wl (su (u_addc (et (k30 d5)) ec g169) (dt (q30 p6)) ?_)
   obtain ⟨l170,g171,h⟩:=bI h
   replace hS:=hS.bg Y3
   refine wl (s_callv isfn29 ef (e1 (et (k30 d3)) (e1 (et (k30 d4)) (e1 (et (k30 d6)) e0))) (del_s_w m160 g171 hS) ?_); clear hS; rintro v172 w21 ⟨cs173,m174,hS⟩; refine po ?_
   refine wl (s_store1 ti38 (et d3) (et (k30 d7)) (hS.get d0).cellV hS d1 p0 rfl p1 dn ?_)
   clear hS; intro w22 hS
   refine wnil ?_
   refine (fun h=>bn (xl h)) ?_
   replace hS:=((((hS.bg Y4).bg Y1).bg Y4).bg Y4).bg Y4
   exact ⟨n_1,_,_,rfl,(aK2 (aI (aK3 (aO1 (aK10 (aK1 (aO20 aZ))))))),⟨_,l170,v172,cs173,l165,v163,(cs77++[S x147]),rfl,h,le120,hS,m174,m164⟩,Nat.lt_succ_self _⟩
theorem l15_alive_w (hg:Le Gm μ0)  {r:Bool}  (h:l15_alive fu =some r) (hS:Sq μ0 w0 w (rsF)):CallsV prog 13 [] w (fun v w'=>∃ (μ':M) ,v=.bool r∧Le μ0 μ'∧Sq μ' w0 w' (rsF)):=by
 unfold l15_alive at h
 refine enter func13 rfl (frm:=u1 (u5 (u20 (u20 [])))) rfl (nz (st (nx ?_)))
 obtain ⟨r1,g2,h⟩:=bI h
 refine ca (syn_read_w hg g2 hS) ?_
 rintro _ w1 ⟨μ1,a4,c5,rfl,le3,hS,m6⟩
 refine po ?_
 iterate 3 refine st ?_
 refine wl (s_alloc ti27 hS ?_); clear hS; intro b7 w2 hb8 hS; refine po ?_
 refine st (wl (s_storeA ti27 (et d2) (et d9) rfl rfl hS d0 rfl p0 dn ?_))
 clear hS; intro w3 hS
 refine nx (st ?_)
 obtain ⟨r9,g10,h⟩:=bI h
 refine ca (gr_order_w (hg.t le3) m6 g10 hS) ?_
 rintro _ w4 ⟨μ2,a12,c13,a15,c16,rfl,le11,hS,m14,m17⟩
 refine po ?_
 iterate 4 refine st ?_
 refine wl (s_alloc ti27 hS ?_); clear hS; intro b18 w5 hb19 hS; refine po ?_
 iterate 2 refine st ?_
 refine wl (s_storeA ti27 (et d5) (et (k10 d5)) rfl rfl hS d0 rfl p0 dn ?_)
 clear hS; intro w6 hS
 refine nx (st (ld ((hS.blk d1).cell d0) ?_))
 iterate 2 refine st ?_
 refine wspd (k10 d9) (q10 p9) (q10 p9) (fun h20=>?_) (fun h20=>?_)
 ·replace h:=iT h20 h
  refine sy rfl (wy rfl (k10 d9) (s_load ti25 (et (k20 d0)) ((hS.blk d0).cell d0) (dt (q20 p1)) (sy rfl ?_)))
  iterate 2 refine st ?_
  refine wspd (k20 d4) (q20 p4) (q20 p4) (fun h21=>?_) (fun h21=>?_)
  ·replace h:=iT h21 h
   refine sy rfl (wy rfl (k20 d4) (su (u_lensl underlying38 (et (k20 d5))) (dt (q20 p6)) (sy rfl ?_)))
   iterate 2 refine st ?_
   refine wspd (k20 d9) (q20 p9) (q20 p9) (fun h22=>?_) (fun h22=>?_)
   ·replace h:=iT h22 h
    refine sy rfl ?_
    obtain ⟨x23,g24,h⟩:=bI h
    obtain ⟨b25,o26,cs27,e28,f29,m30⟩:=SlR.elem m14 g24
    obtain rfl:=m30
    refine wy rfl (k20 d9) (su (u_iax underlying38 ti9 (et (k30 d0)) ec e28) (dt (q30 p1)) (wy rfl (k20 d9) (s_load ti9 (et (k30 d1)) ((f29 _ hS.a).one d0) (dt (q30 p2)) (wy rfl (k20 d9) (su (u_eqs (et (k30 d2)) ec) (dt (q30 p3)) ?_)))))
    iterate 2 refine st ?_
    refine wspd (k30 d5) (q30 p5) (q30 p5) (fun h31=>?_) (fun h31=>?_)
    ·replace h:=iT h31 h
     refine sy rfl ?_
     obtain ⟨x32,g33,h⟩:=bI h
     obtain ⟨b34,o35,cs36,e37,f38,m39⟩:=SlR.elem m14 g33
     obtain rfl:=m39
     refine wy rfl (k30 d5) (su (u_iax underlying38 ti9 (et (k30 d6)) ec e37) (dt (q30 p7)) (wy rfl (k30 d5) (s_load ti9 (et (k30 d7)) ((f38 _ hS.a).one d0) (dt (q30 p8)) (wy rfl (k30 d5) (su (u_eqs (et (k30 d8)) ec) (dt (q30 p9)) ?_)))))
     iterate 2 refine st ?_
     refine wspd (k40 d1) (q40 p1) (q40 p1) (fun h40=>?_) (fun h40=>?_)
     ·replace h:=iT h40 h
      refine sy rfl (wy rfl (k40 d1) (su (u_lensl underlying38 (et (k40 d2))) (dt (q40 p3)) (sy rfl ?_)))
      iterate 2 refine st ?_
      refine nw (cret ?_)
      obtain rfl:=oI h
      refine ret1 rfl d0 ?_
      replace hS:=(hS.drop Rm.z).drop Rm.z
      exact ⟨_,rfl,(le3.t le11),hS⟩
     ·replace h:=iF h40 h
      refine sn rfl rfl (sn rfl rfl (sn rfl rfl ?_))
      iterate 2 refine st ?_
      refine nw (cret ?_)
      obtain rfl:=oI h
      refine ret1 rfl d0 ?_
      replace hS:=(hS.drop Rm.z).drop Rm.z
      exact ⟨_,rfl,(le3.t le11),hS⟩
    ·replace h:=iF h31 h
     refine sn rfl rfl (sn rfl rfl (sn rfl rfl (sn rfl rfl ?_)))
     iterate 2 refine st ?_
     refine sn rfl rfl (sn rfl rfl (sn rfl rfl ?_))
     iterate 2 refine st ?_
     refine nw (cret ?_)
     obtain rfl:=oI h
     refine ret1 rfl d0 ?_
     replace hS:=(hS.drop Rm.z).drop Rm.z
     exact ⟨_,rfl,(le3.t le11),hS⟩
   ·replace h:=iF h22 h
    refine sn rfl rfl (sn rfl rfl (sn rfl rfl (sn rfl rfl ?_)))
    iterate 2 refine st ?_
    refine sn rfl rfl (sn rfl rfl (sn rfl rfl (sn rfl rfl ?_)))
    iterate 2 refine st ?_
    refine sn rfl rfl (sn rfl rfl (sn rfl rfl ?_))
    iterate 2 refine st ?_
    refine nw (cret ?_)
    obtain rfl:=oI h
    refine ret1 rfl d0 ?_
    replace hS:=(hS.drop Rm.z).drop Rm.z
    exact ⟨_,rfl,(le3.t le11),hS⟩
  ·replace h:=iF h21 h
   refine sn rfl rfl (sn rfl rfl (sn rfl rfl ?_))
   iterate 2 refine st ?_
   refine sn rfl rfl (sn rfl rfl (sn rfl rfl (sn rfl rfl ?_)))
   iterate 2 refine st ?_
   refine sn rfl rfl (sn rfl rfl (sn rfl rfl (sn rfl rfl ?_)))
   iterate 2 refine st ?_
   refine sn rfl rfl (sn rfl rfl (sn rfl rfl ?_))
   iterate 2 refine st ?_
   refine nw (cret ?_)
   obtain rfl:=oI h
   refine ret1 rfl d0 ?_
   replace hS:=(hS.drop Rm.z).drop Rm.z
   exact ⟨_,rfl,(le3.t le11),hS⟩
 ·replace h:=iF h20 h
  refine sn rfl rfl (sn rfl rfl (sn rfl rfl ?_))
  iterate 2 refine st ?_
  refine sn rfl rfl (sn rfl rfl (sn rfl rfl ?_))
  iterate 2 refine st ?_
  refine sn rfl rfl (sn rfl rfl (sn rfl rfl (sn rfl rfl ?_)))
  iterate 2 refine st ?_
  refine sn rfl rfl (sn rfl rfl (sn rfl rfl (sn rfl rfl ?_)))
  iterate 2 refine st ?_
  refine sn rfl rfl (sn rfl rfl (sn rfl rfl ?_))
  iterate 2 refine st ?_
  refine nw (cret ?_)
  obtain rfl:=oI h
  refine ret1 rfl d0 ?_
  replace hS:=(hS.drop Rm.z).drop Rm.z
  exact ⟨_,rfl,(le3.t le11),hS⟩
theorem law_order_w (hg:Le Gm μ0) {p_1:List TDef} {r:Bool} (m3:Sl μ0 a1 c2 p_1) (h:law_order fu p_1=some r) (hS:Sq μ0 w0 w (rsF)):CallsV prog 6 [.slice a1 p_1.length c2] w (fun v w'=>∃ (μ':M) ,v=.bool r∧Le μ0 μ'∧Sq μ' w0 w' (rsF)):=by
 unfold law_order at h
 refine enter func6 rfl (frm:=_::u5 (u50 (u50 (u50 [])))) rfl (nz (st (ny (nz ?_))))
 obtain ⟨r4,g5,h⟩:=bI h
 refine ca (l15_alive_w hg g5 hS) ?_
 rintro _ w1 ⟨μ1,rfl,le6,hS⟩
 refine po (st (nw ?_))
 refine cifnb (et (k20 d2)) (fun h7=>?_) (fun h7=>?_)
 ·replace h:=iF h7 h
  refine nz (st (nw (cret (xr ?_))))
  obtain rfl:=oI h
  refine ret1 rfl d2 ?_
  exact ⟨_,rfl,le6,hS⟩
 ·replace h:=iT h7 h
  refine cskip (xn (nz (st ?_)))
  obtain ⟨r8,g9,h⟩:=bI h
  refine ca (gr_order_w (hg.t le6) (m3.up le6) g9 hS) ?_
  rintro _ w2 ⟨μ2,a11,c12,a14,c15,rfl,le10,hS,m13,m16⟩
  refine po ?_
  iterate 4 refine st ?_
  refine wl (s_alloc ti27 hS ?_); clear hS; intro b17 w3 hb18 hS; refine po ?_
  iterate 2 refine st ?_
  refine wl (s_storeA ti27 (et d5) (et (k20 d8)) rfl rfl hS d0 rfl p0 dn ?_)
  clear hS; intro w4 hS
  refine nx (st ?_)
  obtain ⟨r19,g20,h⟩:=bI h
  refine ca (gr_edges_w (hg.t (le6.t le10)) (m3.up (le6.t le10)) g20 hS) ?_
  rintro _ w5 ⟨μ3,a22,c23,rfl,le21,hS,m24⟩
  refine po ?_
  iterate 3 refine st ?_
  refine wl (s_alloc ti27 hS ?_); clear hS; intro b25 w6 hb26 hS; refine po ?_
  refine st (wl (s_storeA ti27 (et d7) (et (k30 d3)) rfl rfl hS d0 rfl p0 dn ?_))
  clear hS; intro w7 hS
  refine ny (cseq ?_)
  refine ccutE (rg 34 7) (by decide) (fun m w=>∃ μx b27,m=(yK20 (yK10 (yK4 (yO7 34 (.i (.bool b27)::[])))))∧law_order_j1 p_1 r8 r19 b27=some r∧Le μ3 μx∧Sq μx w0 w (.blk b17 27 [.int .i64 r8.2.2.Err,.int .i64 r8.2.2.At]::.blk b25 27 [.int .i64 r19.2.Err,.int .i64 r19.2.At]::rsF)) (by rintro _ _ ⟨_,_,rfl,_⟩; rfl) ?_ ?_
  ·refine creg (st (ld ((hS.blk d1).cell d0) ?_))
   iterate 2 refine st ?_
   refine wspd (k30 d7) (q30 p7) (q30 p7) (fun h28=>?_) (fun h28=>?_)
   ·replace h:=iT h28 h
    refine sn rfl rfl (sn rfl rfl (sn rfl rfl (st (wnil (xl ?_)))))
    replace hS:=hS.bg Y1
    exact ⟨_,_,rfl,(aK20 (aK10 (aK4 (aO7 (aI aZ))))),_,true,rfl,h,Le.r,hS⟩
   ·replace h:=iF h28 h
    refine sy rfl (wy rfl (k30 d7) (s_load ti25 (et (k30 d8)) ((hS.blk d0).cell d0) (dt (q30 p9)) (sy rfl (st (wnil (xl ?_))))))
    replace hS:=hS.bg Y1
    exact ⟨_,_,rfl,(aK20 (aK10 (aK4 (aO7 (aI aZ))))),_,(decide (r19.2.Err≠0)),rfl,h,Le.r,hS⟩
  ·rintro _ t w8 ⟨μ4,b27,rfl,h,le29,hS⟩
   unfold law_order_j1 at h
   refine nrm (mK20 (mK10 (mK4 (mO7 (mi mz))))) (xn ?_)
   refine cifb (et (k40 d1)) (fun h30=>?_) (fun h30=>?_)
   ·replace h:=iT h30 h
    refine nz (lds (hS.blk d0).cells rfl (lds (hS.blk d1).cells rfl (wl (s_eqa (ES.mk underlying27 eh27 eg27) (et (k40 d2)) (et (k40 d3)) (EqFs.o rfl rfl rfl ti25 d0 d0 (eq_int underlying25) (EqFs.o rfl rfl rfl ti3 d1 d1 (eq_int underlying3) EqFs.z)) rfl (dt (q40 p4)) (st ?_)))))
    refine wspb (k40 d5) (q40 p5) (q40 p5) (fun h31=>?_) (fun h31=>?_)
    ·replace h:=iT h31 h
     refine sy rfl (wy rfl (k40 d5) (su (u_lensl underlying38 (et (k40 d6))) (dt (q40 p7)) (sy rfl (wy rfl (k40 d5) (su (u_lensl underlying38 (et (k40 d8))) (dt (q40 p9)) ?_)))))
     obtain ⟨i33,g34,h⟩:=bI h
     refine wy rfl (k40 d5) (su (u_addc (et (k40 d7)) (et (k40 d9)) g34) (dt (q50 p0)) (sy rfl ?_))
     iterate 2 refine st ?_
     refine nw (cret (xr ?_))
     obtain rfl:=oI h
     refine ret1 rfl d2 ?_
     replace hS:=(hS.drop Rm.z).drop Rm.z
     exact ⟨_,rfl,(le6.t (le10.t (le21.t le29))),hS⟩
    ·replace h:=iF h31 h
     refine sn rfl rfl (sn rfl rfl (sn rfl rfl (sn rfl rfl (sn rfl rfl (sn rfl rfl ?_)))))
     iterate 2 refine st ?_
     refine nw (cret (xr ?_))
     obtain rfl:=oI h
     refine ret1 rfl d2 ?_
     replace hS:=(hS.drop Rm.z).drop Rm.z
     exact ⟨_,rfl,(le6.t (le10.t (le21.t le29))),hS⟩
   ·replace h:=iF h30 h
    refine cskip (xn (nz ?_))
    refine wl (s_mkmap hS ?_); clear hS; intro b35 w9 hb36 hS; refine po ?_
    refine st (ny (nz (st (wl (su (u_lensl underlying38 (et (k50 d4))) (dt (q50 p5)) (st (nw (cblock ?_))))))))
    replace hS:=(hS.drop (Rm.s Rm.z)).drop (Rm.s Rm.z)
    refine cloopE (rg 9 2++rg 57 9) (by decide) (fun n m w=>∃ μx i52 l55 es53 c54,m=(yK9 (yO2 9 (yK20 (yK20 (yK5 (.i (.int .i64 i52)::(yO9 57 [])))))))∧law_order_l1 p_1 r8 r19 n i52 l55=some r∧Le μ4 μx∧Sq μx w0 w (.map b35 es53 c54::rsF)∧Mq μx es53 c54 l55) (by rintro _ _ _ ⟨_,_,_,_,_,rfl,_⟩; rfl) _ _ (aK9 (aO2 (aK20 (aK20 (aK5 (aI (aO9 aZ))))))) ⟨_,0,([]:List (List UInt8×Int)),[],0,rfl,h,Le.r,hS,(Mq.nil (κ:=List UInt8) (β:=Int) (μ:=μ4) (c:=0))⟩ ?_
    rintro n_1 _ t w10 ⟨μ5,i52,l55,es53,c54,rfl,h,le72,hS,m73⟩
    cases n_1 with
    | zero=>cases h
    | succ n_1 =>
    unfold law_order_l1 at h
    refine cnrm (mK9 (mO2 (mK20 (mK20 (mK5 (mi (mO9 mz))))))) (nz (st (ny ?_)))
    refine cifd (et (k50 d7)) (fun h74=>?_) (fun h74=>?_)
    ·replace h:=iT h74 h
     refine cskip (xn (cseq (cblock (nz (st ?_)))))
     obtain ⟨x75,g76,h⟩:=bI h
     obtain ⟨b77,o78,cs79,e80,f81,m82⟩:=SlR.elem (m13.up (le21.t (le29.t le72))) g76
     obtain rfl:=m82
     refine wl (su (u_iax underlying38 ti9 (et (k50 d4)) (et (k50 d6)) e80) (dt (q50 p9)) (ld ((f81 _ hS.a).one d0) ?_))
     iterate 2 refine st ?_
     refine nw (creg ?_)
     iterate 3 refine st ?_
     obtain ⟨i83,g84,h⟩:=bI h
     refine wl (su (u_addc (et (k60 d3)) ec g84) (dt (q60 p4)) ?_)
     refine wl (s_mputM (κ:=List UInt8) (β:=Int) (kk:=x75) (xx:=i83) underlying50 underlying9 (et (k60 d1)) (et (k60 d2)) (et (k60 d4)) rfl hS d0 m73 dn ?_); clear hS; intro es85 c86 w11 rs_ m87 hp_ hS; cases (show _=rs_ from hp_)
     replace hS:=Sep.reput hS p0
     refine wnil ?_
     refine (fun h=>bn (xn h)) ?_
     refine creg ?_
     obtain ⟨i88,g89,h⟩:=bI h
     refine wl (su (u_addc (et (k50 d6)) ec g89) (dt (q60 p5)) (st (wnil (xl ?_))))
     exact ⟨n_1,_,_,rfl,(aK9 (aO2 (aK20 (aK20 (aK5 (aI (aO9 aZ))))))),⟨_,i88,(mput l55 x75 i83),es85,c86,rfl,h,le72,hS,m87⟩,Nat.lt_succ_self _⟩
    ·replace h:=iF h74 h
     refine cexit ?_
     refine (fun h=>xe (xe (bh h))) ?_
     refine xn (nz (st (ny (nz (st (wl (su (u_lensl underlying22 (et (k60 d6))) (dt (q60 p7)) (st (nw (cblock ?_))))))))))
     refine cloopE ([13]++rg 69 9) (by decide) (fun n m w=>∃ μx i111 i112,m=(yK10 (yK1 (.i (.int .i64 i111)::(yK1 (yO1 13 (yK50 (yK4 (.i (.int .i64 i112)::(yO9 69 [])))))))))∧law_order_l2 p_1 r8 r19 l55 n i111 i112=some r∧Le μ5 μx∧Sq μx w0 w (.map b35 es53 c54::rsF)) (by rintro _ _ _ ⟨_,_,_,rfl,_⟩; rfl) _ _ (aK10 (aK1 (aI (aK1 (aO1 (aK50 (aK4 (aI (aO9 aZ))))))))) ⟨_,0,0,rfl,h,Le.r,hS⟩ ?_
     rintro n_2 _ t w12 ⟨μ6,i111,i112,rfl,h,le134,hS⟩
     cases n_2 with
     | zero=>cases h
     | succ n_2 =>
     unfold law_order_l2 at h
     refine cnrm (mK10 (mK1 (mi (mK1 (mO1 (mK50 (mK4 (mi (mO9 mz))))))))) (nz (st (ny ?_)))
     refine cifd (et (k60 d9)) (fun h135=>?_) (fun h135=>?_)
     ·replace h:=iT h135 h
      refine cskip (xn (cseq (cblock (nz ?_))))
      obtain ⟨x136,g137,h⟩:=bI h
      obtain ⟨b138,o139,cs140,e141,f142,m143⟩:=SlR.elem (m3.up (le6.t (le10.t (le21.t (le29.t (le72.t le134)))))) g137
      obtain ⟨a144,c145,a147,c148,rfl,m146,m149⟩:=m143
      refine wl (su (u_iax underlying22 ti35 (et (k60 d6)) (et (k60 d8)) e141) (dt (q70 p0)) (lds (f142 _ hS.a) rfl ?_))
      refine wl (s_alloc ti35 hS ?_); clear hS; intro b150 w13 hb151 hS; refine po ?_
      refine wl (s_storeA ti35 (et (k10 d3)) (et (k70 d1)) rfl rfl hS d0 rfl p0 dn ?_)
      clear hS; intro w14 hS
      refine nx (st (ld ((hS.blk d0).cell d0) (st (nw ?_))))
      refine cifd (et (k70 d4)) (fun h152=>?_) (fun h152=>?_)
      ·replace h:=iT h152 h
       refine creg (st ?_)
       obtain ⟨i153,g154,h⟩:=bI h
       refine wl (su (u_addc (et (k70 d5)) ec g154) (dt (q70 p6)) (st (wnil ?_)))
       refine (fun h=>bn (xn h)) ?_
       refine creg ?_
       obtain ⟨i155,g156,h⟩:=bI h
       refine wl (su (u_addc (et (k60 d8)) ec g156) (dt (q70 p7)) (st (wnil (xl ?_))))
       replace hS:=hS.drop Rm.z
       exact ⟨n_2,_,_,rfl,(aK10 (aK1 (aI (aK1 (aO1 (aK50 (aK4 (aI (aO9 aZ))))))))),⟨_,i153,i155,rfl,h,le134,hS⟩,Nat.lt_succ_self _⟩
      ·replace h:=iF h152 h
       refine cskip ?_
       refine (fun h=>bn (xn h)) ?_
       refine creg ?_
       obtain ⟨i157,g158,h⟩:=bI h
       refine wl (su (u_addc (et (k60 d8)) ec g158) (dt (q70 p7)) (st (wnil (xl ?_))))
       replace hS:=hS.drop Rm.z
       exact ⟨n_2,_,_,rfl,(aK10 (aK1 (aI (aK1 (aO1 (aK50 (aK4 (aI (aO9 aZ))))))))),⟨_,i111,i157,rfl,h,le134,hS⟩,Nat.lt_succ_self _⟩
     ·replace h:=iF h135 h
      refine cexit ?_
      refine (fun h=>xe (xe (bh h))) ?_
      refine xn (cseq (cseq ?_))
      refine ccutE (rg 78 13) (by decide) (fun m w=>∃ μx b159,m=(yK50 (yK20 (yK8 (yO10 78 (yO3 88 (.i (.bool b159)::[]))))))∧law_order_j2 r8 r19 l55 b159=some r∧Le μ6 μx∧Sq μx w0 w (.map b35 es53 c54::rsF)) (by rintro _ _ ⟨_,_,rfl,_⟩; rfl) ?_ ?_
      ·refine creg (st (wl (s_lenm underlying50 (et (k70 d8)) (hS.get d0) (m73.up le134) (dt (q70 p9)) (st (wl (su (u_lensl underlying38 (et (k80 d0))) (dt (q80 p1)) ?_))))))
       iterate 2 refine st ?_
       refine wspd (k80 d3) (q80 p3) (q80 p3) (fun h160=>?_) (fun h160=>?_)
       ·replace h:=iT h160 h
        refine sn rfl rfl (sn rfl rfl (sn rfl rfl (sn rfl rfl (sn rfl rfl (sn rfl rfl (sn rfl rfl (st (wnil (xl ?_)))))))))
        exact ⟨_,_,rfl,(aK50 (aK20 (aK8 (aO10 (aO3 (aI aZ)))))),_,true,rfl,h,Le.r,hS⟩
       ·replace h:=iF h160 h
        refine sy rfl (wy rfl (k80 d3) (su (u_lensl underlying38 (et (k80 d4))) (dt (q80 p5)) (sy rfl (wy rfl (k80 d3) (su (u_lensl underlying38 (et (k80 d6))) (dt (q80 p7)) ?_)))))
        obtain ⟨i161,g162,h⟩:=bI h
        refine wy rfl (k80 d3) (su (u_addc (et (k80 d5)) (et (k80 d7)) g162) (dt (q80 p8)) (sy rfl (sy rfl (st (wnil (xl ?_))))))
        exact ⟨_,_,rfl,(aK50 (aK20 (aK8 (aO10 (aO3 (aI aZ)))))),_,(decide (i161≠i111)),rfl,h,Le.r,hS⟩
      ·rintro _ t w15 ⟨μ7,b159,rfl,h,le163,hS⟩
       unfold law_order_j2 at h
       refine nrm (mK50 (mK20 (mK8 (mO10 (mO3 (mi mz)))))) (xn ?_)
       refine cifb (et (k90 d1)) (fun h164=>?_) (fun h164=>?_)
       ·replace h:=iT h164 h
        refine nz (st (nw (cret (xr ?_))))
        obtain rfl:=oI h
        refine ret1 rfl d2 ?_
        replace hS:=hS.drop Rm.z
        exact ⟨_,rfl,(le6.t (le10.t (le21.t (le29.t (le72.t (le134.t le163)))))),hS⟩
       ·replace h:=iF h164 h
        refine cskip (xn (cseq (nz (st (wl (su (u_lensl underlying38 (et (k90 d2))) (dt (q90 p3)) (st (nw (cblock ?_)))))))))
        refine cloopE ([2]++rg 15 2++[18]++rg 95 31) (by decide +kernel) (fun n m w=>∃ μx i231,m=(yK2 (yO1 2 (yK10 (yK2 (yO2 15 (yK1 (yO1 18 (yK50 (yK20 (yK5 (.i (.int .i64 i231)::(yO20 95 (yO10 115 (yO1 125 []))))))))))))))∧law_order_l3 r8 r19 l55 n i231=some r∧Le μ7 μx∧Sq μx w0 w (.map b35 es53 c54::rsF)) (by rintro _ _ _ ⟨_,_,rfl,_⟩; rfl) _ _ (aK2 (aO1 (aK10 (aK2 (aO2 (aK1 (aO1 (aK50 (aK20 (aK5 (aI (aO20 (aO10 (aO1 aZ)))))))))))))) ⟨_,0,rfl,h,Le.r,hS⟩ ?_
        rintro n_3 _ t w16 ⟨μ8,i231,rfl,h,le298,hS⟩
        cases n_3 with
        | zero=>cases h
        | succ n_3 =>
        unfold law_order_l3 at h
        refine cnrm (mK2 (mO1 (mK10 (mK2 (mO2 (mK1 (mO1 (mK50 (mK20 (mK5 (mi (mO20 (mO10 (mO1 mz)))))))))))))) (nz (st (ny ?_)))
        refine cifd (et (k90 d5)) (fun h299=>?_) (fun h299=>?_)
        ·replace h:=iT h299 h
         refine cskip (xn (cseq (cblock (nz ?_))))
         obtain ⟨x300,g301,h⟩:=bI h
         obtain ⟨b302,o303,cs304,e305,f306,m307⟩:=SlR.elem (m16.up (le21.t (le29.t (le72.t (le134.t (le163.t le298)))))) g301
         obtain rfl:=m307
         refine wl (su (u_iax underlying38 ti9 (et (k90 d2)) (et (k90 d4)) e305) (dt (q90 p6)) (ld ((f306 _ hS.a).one d0) (st (ny (nz ?_)))))
         iterate 2 refine st ?_
         refine wl (s_mget1 (κ:=List UInt8) (k:=x300) (β:=Int) (zx:=0) underlying50 underlying9 (et (k90 d8)) (et (k90 d9)) zv3 rfl (hS.get d0) (m73.up (le134.t (le163.t le298))) ?_); rintro _ rfl; refine po ?_
         refine st (nw ?_)
         refine cifd (et (k100 d1)) (fun h310=>?_) (fun h310=>?_)
         ·replace h:=iT h310 h
          refine nz (st (nw (cret ?_)))
          refine (fun h=>xr (br (xr (xr (br (xr h)))))) ?_
          obtain rfl:=oI h
          refine ret1 rfl d2 ?_
          replace hS:=hS.drop Rm.z
          exact ⟨_,rfl,(le6.t (le10.t (le21.t (le29.t (le72.t (le134.t (le163.t le298))))))),hS⟩
         ·replace h:=iF h310 h
          refine cskip (xn (nz (st (ny (nz (st (wl (su (u_lensl underlying47 (et (k100 d2))) (dt (q100 p3)) (st (nw (cblock ?_)))))))))))
          refine cloopE ([18]++rg 105 18) (by decide) (fun n m w=>∃ μx b329 i330,m=(yK10 (yK6 (.i (.bool b329)::(yK1 (yO1 18 (yK50 (yK20 (yK10 (yK5 (.i (.int .i64 i330)::(yO10 105 (yO8 115 []))))))))))))∧law_order_l4 r19 l55 i231 x300 (law_order_l3 r8 r19 l55 n_3) n b329 i330=some r∧Le μ8 μx∧Sq μx w0 w (.map b35 es53 c54::rsF)) (by rintro _ _ _ ⟨_,_,_,rfl,_⟩; rfl) _ _ (aK10 (aK6 (aI (aK1 (aO1 (aK50 (aK20 (aK10 (aK5 (aI (aO10 (aO8 aZ)))))))))))) ⟨_,false,0,rfl,h,Le.r,hS⟩ ?_
          rintro n_4 _ t w17 ⟨μ9,b329,i330,rfl,h,le348,hS⟩
          cases n_4 with
          | zero=>cases h
          | succ n_4 =>
          unfold law_order_l4 at h
          refine cnrm (mK10 (mK6 (mi (mK1 (mO1 (mK50 (mK20 (mK10 (mK5 (mi (mO10 (mO8 mz)))))))))))) (nz (st (ny ?_)))
          refine cifd (et (k100 d5)) (fun h349=>?_) (fun h349=>?_)
          ·replace h:=iT h349 h
           refine cskip (xn (cseq (cblock (nz ?_))))
           obtain ⟨x350,g351,h⟩:=bI h
           obtain ⟨b352,o353,cs354,e355,f356,m357⟩:=SlR.elem (m24.up (le29.t (le72.t (le134.t (le163.t (le298.t le348)))))) g351
           obtain rfl:=m357
           refine wl (su (u_iax underlying47 ti52 (et (k100 d2)) (et (k100 d4)) e355) (dt (q100 p6)) (lds (f356 _ hS.a) rfl ?_))
           refine wl (s_alloc ti52 hS ?_); clear hS; intro b358 w18 hb359 hS; refine po ?_
           refine wl (s_storeA ti52 (et (k10 d8)) (et (k100 d7)) rfl rfl hS d0 rfl p0 dn ?_)
           clear hS; intro w19 hS
           refine nw (creg ?_)
           iterate 2 refine st ?_
           refine wspb (k100 d9) (q100 p9) (q100 p9) (fun h360=>?_) (fun h360=>?_)
           ·replace h:=iT h360 h
            refine sn rfl rfl (sn rfl rfl (sn rfl rfl (sn rfl rfl (sn rfl rfl (wu rfl (k100 (k10 d4)) (dt (q100 (q10 p5))) (wu rfl (k100 (k10 d4)) (dt (q100 (q10 p6))) (wu rfl (k100 (k10 d4)) (dt (q100 (q10 p7))) (wu rfl (k100 (k10 d4)) (dt (q100 (q10 p8))) (wu rfl (k100 (k10 d4)) (dt (q100 (q10 p9))) (sn rfl rfl ?_))))))))))
            iterate 2 refine st ?_
            refine wnil ?_
            refine (fun h=>bn (xn h)) ?_
            refine creg ?_
            obtain ⟨i361,g362,h⟩:=bI h
            refine wl (su (u_addc (et (k100 d4)) ec g362) (dt (q100 (q20 p2))) (st (wnil (xl ?_))))
            replace hS:=hS.drop Rm.z
            exact ⟨n_4,_,_,rfl,(aK10 (aK6 (aI (aK1 (aO1 (aK50 (aK20 (aK10 (aK5 (aI (aO10 (aO8 aZ)))))))))))),⟨_,true,i361,rfl,h,le348,hS⟩,Nat.lt_succ_self _⟩
           ·replace h:=iF h360 h
            refine sy rfl (wy rfl (k100 d9) (s_load ti9 (et (k100 (k10 d0))) ((hS.blk d0).cell d2) (dt (q100 (q10 p1))) (sy rfl (wy rfl (k100 d9) (su (u_eqs (et (k100 (k10 d1))) (et (k100 (k10 d2)))) (dt (q100 (q10 p3))) (sy rfl ?_))))))
            refine wspd (k100 (k10 d4)) (q100 (q10 p4)) (q100 (q10 p4)) (fun h363=>?_) (fun h363=>?_)
            ·replace h:=iT h363 h
             refine sy rfl (sy rfl (wy rfl (k100 (k10 d4)) (s_load ti9 (et (k100 (k10 d6))) ((hS.blk d0).cell d1) (dt (q100 (q10 p7))) ?_)))
             refine wy rfl (k100 (k10 d4)) (s_mget1 (κ:=List UInt8) (k:=x350.From) (β:=Int) (zx:=0) underlying50 underlying9 (et (k100 (k10 d5))) (et (k100 (k10 d7))) zv3 rfl (hS.get d1) (m73.up (le134.t (le163.t (le298.t le348)))) ?_); rintro _ rfl; refine po ?_
             refine sy rfl (sy rfl ?_)
             iterate 2 refine st ?_
             refine wnil ?_
             refine (fun h=>bn (xn h)) ?_
             refine creg ?_
             obtain ⟨i366,g367,h⟩:=bI h
             refine wl (su (u_addc (et (k100 d4)) ec g367) (dt (q100 (q20 p2))) (st (wnil (xl ?_))))
             replace hS:=hS.drop Rm.z
             exact ⟨n_4,_,_,rfl,(aK10 (aK6 (aI (aK1 (aO1 (aK50 (aK20 (aK10 (aK5 (aI (aO10 (aO8 aZ)))))))))))),⟨_,(decide (((mget l55 x350.From).getD 0)=0)),i366,rfl,h,le348,hS⟩,Nat.lt_succ_self _⟩
            ·replace h:=iF h363 h
             refine sn rfl rfl (sn rfl rfl (sn rfl rfl (sn rfl rfl (sn rfl rfl (sy rfl ?_)))))
             iterate 2 refine st ?_
             refine wnil ?_
             refine (fun h=>bn (xn h)) ?_
             refine creg ?_
             obtain ⟨i368,g369,h⟩:=bI h
             refine wl (su (u_addc (et (k100 d4)) ec g369) (dt (q100 (q20 p2))) (st (wnil (xl ?_))))
             replace hS:=hS.drop Rm.z
             exact ⟨n_4,_,_,rfl,(aK10 (aK6 (aI (aK1 (aO1 (aK50 (aK20 (aK10 (aK5 (aI (aO10 (aO8 aZ)))))))))))),⟨_,false,i368,rfl,h,le348,hS⟩,Nat.lt_succ_self _⟩
          ·replace h:=iF h349 h
           refine cexit ?_
           refine (fun h=>xe (xe (bh h))) ?_
           refine xn (nz ?_)
           iterate 2 refine st ?_
           refine nw ?_
           refine cifnb (et (k100 (k20 d4))) (fun h370=>?_) (fun h370=>?_)
           ·replace h:=iF h370 h
            refine nz (st (nw (cret ?_)))
            refine (fun h=>br (xr (xr (br (xr h))))) ?_
            obtain rfl:=oI h
            refine ret1 rfl d2 ?_
            replace hS:=hS.drop Rm.z
            exact ⟨_,rfl,(le6.t (le10.t (le21.t (le29.t (le72.t (le134.t (le163.t (le298.t le348)))))))),hS⟩
           ·replace h:=iT h370 h
            refine cskip ?_
            refine (fun h=>bn (xn h)) ?_
            refine creg ?_
            obtain ⟨i371,g372,h⟩:=bI h
            refine wl (su (u_addc (et (k90 d4)) ec g372) (dt (q100 (q20 p5))) (st (wnil (xl ?_))))
            exact ⟨n_3,_,_,rfl,(aK2 (aO1 (aK10 (aK2 (aO2 (aK1 (aO1 (aK50 (aK20 (aK5 (aI (aO20 (aO10 (aO1 aZ)))))))))))))),⟨_,i371,rfl,h,(le298.t le348),hS⟩,Nat.lt_succ_self _⟩
        ·replace h:=iF h299 h
         refine cexit ?_
         refine (fun h=>xe (xe (bh h))) ?_
         refine xn (cseq (nz (st (wl (su (u_lensl underlying47 (et (k100 (k20 d6)))) (dt (q100 (q20 p7))) (st (nw (cblock ?_))))))))
         refine cloopE ([2]++[20]++rg 129 27) (by decide +kernel) (fun n m w=>∃ μx i396,m=(yK2 (yO1 2 (yK10 (yK7 (yO1 20 (yK50 (yK50 (yK7 (.i (.int .i64 i396)::(yO20 129 (yO7 149 [])))))))))))∧law_order_l5 r19 l55 n i396=some r∧Le μ8 μx∧Sq μx w0 w (.map b35 es53 c54::rsF)) (by rintro _ _ _ ⟨_,_,rfl,_⟩; rfl) _ _ (aK2 (aO1 (aK10 (aK7 (aO1 (aK50 (aK50 (aK7 (aI (aO20 (aO7 aZ))))))))))) ⟨_,0,rfl,h,Le.r,hS⟩ ?_
         rintro n_5 _ t w20 ⟨μ10,i396,rfl,h,le420,hS⟩
         cases n_5 with
         | zero=>cases h
         | succ n_5 =>
         unfold law_order_l5 at h
         refine cnrm (mK2 (mO1 (mK10 (mK7 (mO1 (mK50 (mK50 (mK7 (mi (mO20 (mO7 mz))))))))))) (nz (st (ny ?_)))
         refine cifd (et (k100 (k20 d9))) (fun h421=>?_) (fun h421=>?_)
         ·replace h:=iT h421 h
          refine cskip (xn (cseq (cblock (nz ?_))))
          obtain ⟨x422,g423,h⟩:=bI h
          obtain ⟨b424,o425,cs426,e427,f428,m429⟩:=SlR.elem (m24.up (le29.t (le72.t (le134.t (le163.t (le298.t le420)))))) g423
          obtain rfl:=m429
          refine wl (su (u_iax underlying47 ti52 (et (k100 (k20 d6))) (et (k100 (k20 d8))) e427) (dt (q100 (q30 p0))) (lds (f428 _ hS.a) rfl ?_))
          refine wl (s_alloc ti52 hS ?_); clear hS; intro b430 w21 hb431 hS; refine po ?_
          refine wl (s_storeA ti52 (et (k20 d0)) (et (k100 (k30 d1))) rfl rfl hS d0 rfl p0 dn ?_)
          clear hS; intro w22 hS
          refine ny ?_
          refine ccutE (rg 132 22) (by decide +kernel) (fun m w=>∃ μx b432,m=(yK50 (yK50 (yK20 (yK10 (yK2 (yO20 132 (yO2 152 (.i (.bool b432)::[]))))))))∧law_order_j3 i396 (law_order_l5 r19 l55 n_5) b432=some r∧Le μ10 μx∧Sq μx w0 w (.map b35 es53 c54::rsF)) (by rintro _ _ ⟨_,_,rfl,_⟩; rfl) ?_ ?_
          ·refine creg ?_
           iterate 2 refine st ?_
           refine ld ((hS.blk d0).cell d2) ?_
           refine wl (s_mget1 (κ:=List UInt8) (k:=x422.To) (β:=Int) (zx:=0) underlying50 underlying9 (et (k100 (k30 d2))) (et (k100 (k30 d4))) zv3 rfl (hS.get d1) (m73.up (le134.t (le163.t (le298.t le420)))) ?_); rintro _ rfl; refine po ?_
           iterate 2 refine st ?_
           refine wspd (k100 (k30 d7)) (q100 (q30 p7)) (q100 (q30 p7)) (fun h435=>?_) (fun h435=>?_)
           ·replace h:=iT h435 h
            refine sy rfl (sy rfl (wy rfl (k100 (k30 d7)) (s_load ti9 (et (k100 (k30 d9))) ((hS.blk d0).cell d1) (dt (q100 (q40 p0))) ?_)))
            refine wy rfl (k100 (k30 d7)) (s_mget1 (κ:=List UInt8) (k:=x422.From) (β:=Int) (zx:=0) underlying50 underlying9 (et (k100 (k30 d8))) (et (k100 (k40 d0))) zv3 rfl (hS.get d1) (m73.up (le134.t (le163.t (le298.t le420)))) ?_); rintro _ rfl; refine po ?_
            refine sy rfl (sy rfl ?_)
            refine wspd (k100 (k40 d3)) (q100 (q40 p3)) (q100 (q40 p3)) (fun h438=>?_) (fun h438=>?_)
            ·replace h:=iT h438 h
             refine sn rfl rfl (sn rfl rfl (sn rfl rfl (sn rfl rfl (sn rfl rfl (sn rfl rfl (sn rfl rfl (sn rfl rfl (sn rfl rfl (sy rfl (st (wnil (xl ?_))))))))))))
             replace hS:=hS.drop Rm.z
             exact ⟨_,_,rfl,(aK50 (aK50 (aK20 (aK10 (aK2 (aO20 (aO2 (aI aZ)))))))),_,true,rfl,h,Le.r,hS⟩
            ·replace h:=iF h438 h
             refine sy rfl (sy rfl (wy rfl (k100 (k40 d3)) (s_load ti9 (et (k100 (k40 d5))) ((hS.blk d0).cell d1) (dt (q100 (q40 p6))) ?_)))
             refine wy rfl (k100 (k40 d3)) (s_mget1 (κ:=List UInt8) (k:=x422.From) (β:=Int) (zx:=0) underlying50 underlying9 (et (k100 (k40 d4))) (et (k100 (k40 d6))) zv3 rfl (hS.get d1) (m73.up (le134.t (le163.t (le298.t le420)))) ?_); rintro _ rfl; refine po ?_
             refine sy rfl (sy rfl (wy rfl (k100 (k40 d3)) (s_load ti9 (et (k100 (k40 d9))) ((hS.blk d0).cell d2) (dt (q100 (q50 p0))) ?_)))
             refine wy rfl (k100 (k40 d3)) (s_mget1 (κ:=List UInt8) (k:=x422.To) (β:=Int) (zx:=0) underlying50 underlying9 (et (k100 (k40 d8))) (et (k100 (k50 d0))) zv3 rfl (hS.get d1) (m73.up (le134.t (le163.t (le298.t le420)))) ?_); rintro _ rfl; refine po ?_
             refine sy rfl (sy rfl (st (wnil (xl ?_))))
             replace hS:=hS.drop Rm.z
             exact ⟨_,_,rfl,(aK50 (aK50 (aK20 (aK10 (aK2 (aO20 (aO2 (aI aZ)))))))),_,(decide (((mget l55 x422.To).getD 0)≤((mget l55 x422.From).getD 0))),rfl,h,Le.r,hS⟩
           ·replace h:=iF h435 h
            refine sn rfl rfl (sn rfl rfl (sn rfl rfl (sn rfl rfl (sn rfl rfl (sn rfl rfl (wu rfl (k100 (k40 d3)) (dt (q100 (q40 p4))) (wu rfl (k100 (k40 d3)) (dt (q100 (q40 p5))) (wu rfl (k100 (k40 d3)) (dt (q100 (q40 p6))) (wu rfl (k100 (k40 d3)) (dt (q100 (q40 p7))) (wu rfl (k100 (k40 d3)) (dt (q100 (q40 p8))) (wu rfl (k100 (k40 d3)) (dt (q100 (q40 p9))) (wu rfl (k100 (k40 d3)) (dt (q100 (q50 p0))) (wu rfl (k100 (k40 d3)) (dt (q100 (q50 p1))) (wu rfl (k100 (k40 d3)) (dt (q100 (q50 p2))) (sn rfl rfl (st (wnil (xl ?_))))))))))))))))))
            replace hS:=hS.drop Rm.z
            exact ⟨_,_,rfl,(aK50 (aK50 (aK20 (aK10 (aK2 (aO20 (aO2 (aI aZ)))))))),_,false,rfl,h,Le.r,hS⟩
          ·rintro _ t w23 ⟨μ11,b432,rfl,h,le443,hS⟩
           unfold law_order_j3 at h
           refine nrm (mK50 (mK50 (mK20 (mK10 (mK2 (mO20 (mO2 (mi mz)))))))) (xn ?_)
           refine cifb (et (k100 (k50 d4))) (fun h444=>?_) (fun h444=>?_)
           ·replace h:=iT h444 h
            refine nz (st (nw (cret ?_)))
            refine (fun h=>br (xr (xr (br (xr h))))) ?_
            obtain rfl:=oI h
            refine ret1 rfl d2 ?_
            replace hS:=hS.drop Rm.z
            exact ⟨_,rfl,(le6.t (le10.t (le21.t (le29.t (le72.t (le134.t (le163.t (le298.t (le420.t le443))))))))),hS⟩
           ·replace h:=iF h444 h
            refine cskip ?_
            refine (fun h=>bn (xn h)) ?_
            refine creg ?_
            obtain ⟨i445,g446,h⟩:=bI h
            refine wl (su (u_addc (et (k100 (k20 d8))) ec g446) (dt (q100 (q50 p5))) (st (wnil (xl ?_))))
            exact ⟨n_5,_,_,rfl,(aK2 (aO1 (aK10 (aK7 (aO1 (aK50 (aK50 (aK7 (aI (aO20 (aO7 aZ))))))))))),⟨_,i445,rfl,h,(le420.t le443),hS⟩,Nat.lt_succ_self _⟩
         ·replace h:=iF h421 h
          refine cexit ?_
          refine (fun h=>xe (xe (bh h))) ?_
          refine xn (nz (st (nw (cret ?_))))
          obtain rfl:=oI h
          refine ret1 rfl d2 ?_
          replace hS:=hS.drop Rm.z
          exact ⟨_,rfl,(le6.t (le10.t (le21.t (le29.t (le72.t (le134.t (le163.t (le298.t le420)))))))),hS⟩
end Go.Proofs.YtjbiabapnphheaaGreatDoor
