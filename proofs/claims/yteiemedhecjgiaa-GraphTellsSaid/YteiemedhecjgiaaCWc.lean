/- Texts of Wc. -/
import Derived.Test.YteiemedhecjgiaaCXu
import Derived.Test.YteiemedhecjgiaaCMd
import Derived.Test.YteiemedhecjgiaaCWb
import Derived.Test.YteiemedhecjgiaaCFl
set_option linter.unusedSimpArgs false
set_option linter.unusedVariables false
set_option linter.unusedSectionVars false
set_option maxRecDepth 100000
set_option maxHeartbeats 20000000
namespace Go.Proofs.Yteiemedhecjgiaa
open Go.Wk Go.Xt Go.Y Try
variable {b1 b6 b9 c2 c4 c12 c15 fu o2 o10:Nat} {a1 a3 a11 a14:Option Addr} {μ0:M} {w0 w:World} {rsF:List Res}
theorem sema_pop_w {μ0:M} {w0 w:World} {rsF:List Res} (hg:Le Gm μ0) {b1 b2:Nat} {prog_3:TSp} {b4 o5:Nat} {a6:Option Addr} {c7 b9:Nat} {def_12:TDef} {b13 o14:Nat} {a15:Option Addr} {c16:Nat} {a18:Option Addr} {c19:Nat} {bloc_22:List (List (List UInt8×TType))} {v23:Value} {ms24:List (Nat×List MapEntry×Nat)} {r:List (List (List UInt8×TType))} (m8:Sl μ0 a6 c7 prog_3.defs) (m10:Mr μ0 b9 prog_3.named) (m11:At μ0 b4 o5 [.slice a6 prog_3.defs.length c7,.map (some b9)]) (m17:Sl μ0 a15 c16 def_12.Params) (m20:Sl μ0 a18 c19 def_12.Body) (m21:At μ0 b13 o14 [.int .i64 def_12.Kind,S def_12.Name,.int .i64 def_12.Typ.Kind,S def_12.Typ.Gen,.int .i64 def_12.Takes.Kind,S def_12.Takes.Gen,.int .i64 def_12.Cap,.slice a15 def_12.Params.length c16,.slice a18 def_12.Body.length c19]) (m25:Ms μ0 ms24 bloc_22) (h:sema_pop prog_3 def_12 bloc_22=some r) (hS:Sq μ0 w0 w (.blk b1 140 [.pointer (some ⟨b2,0,none⟩)]::.blk b2 144 [.pointer (some ⟨b4,o5,none⟩),.pointer (some ⟨b13,o14,none⟩),v23]::.row v23 141 1 bloc_22.length (cOf ms24)::(mRs ms24++rsF))):CallsDV prog 78 [.pointer (some ⟨b1,0,none⟩)] w (fun v w'=>∃ (μ':M) (v26:Value) (ms27:List (Nat×List MapEntry×Nat)),v=.tuple ⟨[]⟩∧Le μ0 μ'∧Sq μ' w0 w' (.blk b1 140 [.pointer (some ⟨b2,0,none⟩)]::.blk b2 144 [.pointer (some ⟨b4,o5,none⟩),.pointer (some ⟨b13,o14,none⟩),v26]::.row v26 141 1 r.length (cOf ms27)::(mRs ms27++rsF))∧Ms μ' ms27 r):=by
 unfold sema_pop at h
 refine enterDD func78 rfl (frm:=[_,_,_,_,_,_,_,_,_,_,_,_,_,_,_]) rfl ?_
 refine ccutE (rg 1 14) (by decide) (fun m w=>∃ μx l31 v29 ms30,m=(yK1 (yO10 1 (yO4 11 [])))∧sema_pop_j1 l31=some r∧Le μ0 μx∧Sq μx w0 w (.blk b1 140 [.pointer (some ⟨b2,0,none⟩)]::.blk b2 144 [.pointer (some ⟨b4,o5,none⟩),.pointer (some ⟨b13,o14,none⟩),v29]::.row v29 141 1 l31.length (cOf ms30)::(mRs ms30++rsF))∧Ms μx ms30 l31) (by rintro _ _ ⟨_,_,_,_,rfl,_⟩; rfl) ?_ ?_
 refine cdw hS ?_; clear hS; intro w1 hS
 refine sf_start (fr_ 0 [0,12,13,14] rfl (u_load ti140 (et d0) ((hS.blk d0).cell d0)) p1 (fr_ 1 [1,2,3,4,11,12,13,14] rfl (u_load ti140 (et d0) ((hS.blk d0).cell d0)) p2 (fpi 2 [2,3,4,11,12,13,14] rfl (fpi 3 [3,4,11,12,13,14] rfl (fr_ 4 [4,11,12,13,14] rfl (u_load ti142 (et d4) ((hS.blk d1).cell d2)) p5 (fr_ 5 [5,6,7,8,9,10,11,12,13,14] rfl (u_load ti140 (et d0) ((hS.blk d0).cell d0)) p6 (fpi 6 [6,7,8,9,10,11,12,13,14] rfl (fpi 7 [7,8,9,10,11,12,13,14] rfl (fr_ 8 [8,9,10,11,12,13,14] rfl (u_load ti142 (et d8) ((hS.blk d1).cell d2)) p9 (fp 9 [9,10,11,12,13,14] rfl (u_lenv underlying142 (et d9) (hS.get d2).isSl) (q10 p0) ?_))))))))))
 obtain ⟨i33,g34,h⟩:=bI h
 refine fp 10 [10,11,12,13,14] rfl (u_subc (et (k10 d0)) ec g34) (q10 p1) ?_
 obtain ⟨l35,g36,h⟩:=bI h
 obtain ⟨v37,ms38,e39,hb40,hr41,m42,e43⟩:=Row.cutM (hS.get d2) m25 g36
 replace hS:=hS.reRow d2 hb40 hr41 p2
 replace hS:=hS.popM (pre:=[_,_,_]) (j:=i33.toNat); rw [e43] at hS
 refine fp 11 [11,12,13,14] rfl (u_slc underlying142 ti141 (et d5) .n (.s (et (k10 d1))) e39) (q10 p2) (fpi 12 [12,13,14] rfl (fpi 13 [13,14] rfl (sf1 rfl rfl rfl rfl (wn0 rfl) (s_store1 ti142 (et (k10 d4)) (et (k10 d2)) (hS.get d2).cellV hS d1 p2 rfl p1 dn ?_))))
 clear hS; intro w2 hS
 refine ⟨Mons.z,?_⟩
 refine sf_nil (xl ?_)
 exact ⟨_,_,rfl,(aK1 (aO10 (aO4 aZ))),_,_,_,_,rfl,h,Le.r,hS,m42⟩
 rintro _ t w3 ⟨μ1,l31,v29,ms30,rfl,h,le44,hS,m45⟩
 unfold sema_pop_j1 at h
 refine nrm (mK1 (mO10 (mO4 mz))) ?_
 obtain rfl:=oI h
 refine end0 rfl ?_
 replace hS:Sq μ1 w0 _ (.blk b1 140 [.pointer (some ⟨b2,0,none⟩)]::.blk b2 144 [.pointer (some ⟨b4,o5,none⟩),.pointer (some ⟨b13,o14,none⟩),v29]::.row v29 141 1 l31.length (cOf ms30)::(mRs ms30++rsF)):=hS
 exact ⟨_,_,_,rfl,le44,hS,m45⟩
def sema_stats_S (q:TSp→TDef→(List (List (List UInt8×TType)))→(List TStat)→Option (Int×List (List (List UInt8×TType)))):Prop:=∀ {μ0:M} {w0 w:World} {rsF:List Res} (hg:Le Gm μ0) {b1:Nat} {prog_2:TSp} {b3 o4:Nat} {a5:Option Addr} {c6 b8:Nat} {def_11:TDef} {b12 o13:Nat} {a14:Option Addr} {c15:Nat} {a17:Option Addr} {c18:Nat} {bloc_21:List (List (List UInt8×TType))} {v22:Value} {ms23:List (Nat×List MapEntry×Nat)} {p_2:List TStat} {a25:Option Addr} {c26:Nat} {r:Int×List (List (List UInt8×TType))} (m7:Sl μ0 a5 c6 prog_2.defs) (m9:Mr μ0 b8 prog_2.named) (m10:At μ0 b3 o4 [.slice a5 prog_2.defs.length c6,.map (some b8)]) (m16:Sl μ0 a14 c15 def_11.Params) (m19:Sl μ0 a17 c18 def_11.Body) (m20:At μ0 b12 o13 [.int .i64 def_11.Kind,S def_11.Name,.int .i64 def_11.Typ.Kind,S def_11.Typ.Gen,.int .i64 def_11.Takes.Kind,S def_11.Takes.Gen,.int .i64 def_11.Cap,.slice a14 def_11.Params.length c15,.slice a17 def_11.Body.length c18]) (m24:Ms μ0 ms23 bloc_21) (m27:Sl μ0 a25 c26 p_2) (h:q prog_2 def_11 bloc_21 p_2=some r) (hS:Sq μ0 w0 w (.blk b1 144 [.pointer (some ⟨b3,o4,none⟩),.pointer (some ⟨b12,o13,none⟩),v22]::.row v22 141 1 bloc_21.length (cOf ms23)::(mRs ms23++rsF))),CallsV prog 59 [.pointer (some ⟨b1,0,none⟩),.slice a25 p_2.length c26] w (fun v w'=>∃ (μ':M) (v28:Value) (ms29:List (Nat×List MapEntry×Nat)),v=.int .i64 r.1∧Le μ0 μ'∧Sq μ' w0 w' (.blk b1 144 [.pointer (some ⟨b3,o4,none⟩),.pointer (some ⟨b12,o13,none⟩),v28]::.row v28 141 1 r.2.length (cOf ms29)::(mRs ms29++rsF))∧Ms μ' ms29 r.2)
def sema_stat_S (q:TSp→TDef→(List (List (List UInt8×TType)))→TStat→Option (Int×List (List (List UInt8×TType)))):Prop:=∀ {μ0:M} {w0 w:World} {rsF:List Res} (hg:Le Gm μ0) {b1:Nat} {prog_2:TSp} {b3 o4:Nat} {a5:Option Addr} {c6 b8:Nat} {def_11:TDef} {b12 o13:Nat} {a14:Option Addr} {c15:Nat} {a17:Option Addr} {c18:Nat} {bloc_21:List (List (List UInt8×TType))} {v22:Value} {ms23:List (Nat×List MapEntry×Nat)} {p_2:TStat} {b25 o26:Nat} {a27:Option Addr} {c28:Nat} {a30:Option Addr} {c31:Nat} {a33:Option Addr} {c34:Nat} {r:Int×List (List (List UInt8×TType))} (m7:Sl μ0 a5 c6 prog_2.defs) (m9:Mr μ0 b8 prog_2.named) (m10:At μ0 b3 o4 [.slice a5 prog_2.defs.length c6,.map (some b8)]) (m16:Sl μ0 a14 c15 def_11.Params) (m19:Sl μ0 a17 c18 def_11.Body) (m20:At μ0 b12 o13 [.int .i64 def_11.Kind,S def_11.Name,.int .i64 def_11.Typ.Kind,S def_11.Typ.Gen,.int .i64 def_11.Takes.Kind,S def_11.Takes.Gen,.int .i64 def_11.Cap,.slice a14 def_11.Params.length c15,.slice a17 def_11.Body.length c18]) (m24:Ms μ0 ms23 bloc_21) (m29:Sl μ0 a27 c28 p_2.X.Kids) (m32:Sl μ0 a30 c31 p_2.Body) (m35:Sl μ0 a33 c34 p_2.Else) (m36:At μ0 b25 o26 [.int .i64 p_2.Kind,S p_2.Name,.int .i64 p_2.X.Kind,.int .i64 p_2.X.N,S p_2.X.Name,.slice a27 p_2.X.Kids.length c28,.slice a30 p_2.Body.length c31,.slice a33 p_2.Else.length c34]) (h:q prog_2 def_11 bloc_21 p_2=some r) (hS:Sq μ0 w0 w (.blk b1 144 [.pointer (some ⟨b3,o4,none⟩),.pointer (some ⟨b12,o13,none⟩),v22]::.row v22 141 1 bloc_21.length (cOf ms23)::(mRs ms23++rsF))),CallsV prog 79 [.pointer (some ⟨b1,0,none⟩),.pointer (some ⟨b25,o26,none⟩)] w (fun v w'=>∃ (μ':M) (v37:Value) (ms38:List (Nat×List MapEntry×Nat)),v=.int .i64 r.1∧Le μ0 μ'∧Sq μ' w0 w' (.blk b1 144 [.pointer (some ⟨b3,o4,none⟩),.pointer (some ⟨b12,o13,none⟩),v37]::.row v37 141 1 r.2.length (cOf ms38)::(mRs ms38++rsF))∧Ms μ' ms38 r.2)
structure SemaSSound (sf:SemaS):Prop where
  sema_stats:sema_stats_S sf.sema_stats
  sema_stat:sema_stat_S sf.sema_stat
theorem sema_stats_w {self:SemaS} (IH:SemaSSound self):sema_stats_S (sema_stats self):=by
 intro μ0 w0 w rsF hg b1 prog_2 b3 o4 a5 c6 b8 def_11 b12 o13 a14 c15 a17 c18 bloc_21 v22 ms23 p_2 a25 c26 r m7 m9 m10 m16 m19 m20 m24 m27 h hS
 unfold sema_stats at h
 refine enterF func59 rfl (frm:=_::_::u10 (u20 [])) rfl (nz ?_)
 refine wl (s_box (et d0) rfl hS ?_); clear hS; intro b31 w1 hb32 hS; refine po ?_
 refine st (ny ?_)
 refine ccutE (rg 7 10) (by decide) (fun m w=>∃ μx l35 v33 ms34,m=(yK7 (yO10 7 []))∧sema_stats_j1 self p_2 prog_2 def_11 l35=some r∧Le μ0 μx∧Sq μx w0 w (.blk b1 144 [.pointer (some ⟨b3,o4,none⟩),.pointer (some ⟨b12,o13,none⟩),v33]::.row v33 141 1 l35.length (cOf ms34)::.blk b31 140 [.pointer (some ⟨b1,0,none⟩)]::(mRs ms34++rsF))∧Ms μx ms34 l35) (by rintro _ _ ⟨_,_,_,_,rfl,_⟩; rfl) ?_ ?_
 refine cdw hS ?_; clear hS; intro w2 hS
 refine sf_start (fr_ 0 [0,8,9,10] rfl (u_load ti140 (et d2) ((hS.blk d0).cell d0)) p7 (fr_ 1 [1,2,3,4,7,8,9,10] rfl (u_load ti140 (et d2) ((hS.blk d0).cell d0)) p8 (fpi 2 [2,3,4,7,8,9,10] rfl (fpi 3 [3,4,7,8,9,10] rfl (fr_ 4 [4,7,8,9,10] rfl (u_load ti142 (et (k10 d0)) ((hS.blk d1).cell d2)) (q10 p1) ?_)))))
 refine sf1 rfl rfl rfl rfl (wn0 rfl) (s_mkmap hS ?_); clear hS; intro b37 w3 hb38 hS; refine po ?_
 refine ⟨(Mons.s (u_load ti142 (et (k10 d0)) ((hS.blk d2).cell d2)) (Mons.s (u_load ti140 (et d2) ((hS.blk d1).cell d0)) (Mons.s (u_load ti140 (et d2) ((hS.blk d1).cell d0)) Mons.z))),?_⟩
 refine sf1 rfl rfl rfl rfl (wn0 rfl) (s_bsl underlying142 ti141 (Parts.s (et (k10 d2)) rfl Parts.z) rfl rfl hS ?_); clear hS; intro b39 w4 hb40 hS; refine po ?_
 refine ⟨(Mons.s (u_load ti142 (et (k10 d0)) ((hS.blk d3).cell d2)) (Mons.s (u_load ti140 (et d2) ((hS.blk d2).cell d0)) (Mons.s (u_load ti140 (et d2) ((hS.blk d2).cell d0)) Mons.z))),?_⟩
 obtain ⟨l41,g42,h⟩:=bI h
 have hms45a:=app_eq g42
 refine sf1 rfl rfl rfl rfl (wn0 rfl) (s_appM (κ:=List UInt8) (β:=TType) underlying142 ti141 rfl (et (k10 d1)) (et (k10 d3)) hS d4 (hS.blk d0).cells g42 (by decide) ?_); clear hS; intro v43 w5 rs_ hp_ hS; cases (show _=rs_ from hp_)
 replace hS:=Sep.reput hS p4; refine po ?_
 replace hS:=(((hS.drop Rm.z).bg Y3).bg Y3).bg Y3
 rw [cellsOf_push ms23 b37 0 []] at hS; replace hS:=hS.pushM (pre:=[_,_,_])
 have m46:=Ms.push (e:=(b37,[],0)) m24 (Mq.nil (κ:=List UInt8) (β:=TType) (μ:=μ0) (c:=0)); rw [← hms45a.1] at m46
 generalize hms45:(ms23++[(b37,[],0)])=ms44 at hS m46
 refine ⟨(Mons.s (u_load ti140 (et d2) ((hS.blk d0).cell d0)) Mons.z),?_⟩
 refine fpi 8 [8,9,10] rfl (fpi 9 [9,10] rfl (sf1 rfl rfl rfl rfl (wn0 rfl) (s_store1 ti142 (et (k10 d6)) (et (k10 d4)) (hS.get d2).cellV hS d1 p2 rfl p1 dn ?_)))
 clear hS; intro w6 hS
 refine ⟨Mons.z,?_⟩
 refine sf_nil (xl ?_)
 replace hS:=(hS.bg Y2).bg Y2
 exact ⟨_,_,rfl,(aK7 (aO10 aZ)),_,_,_,_,rfl,h,Le.r,hS,m46⟩
 rintro _ t w7 ⟨μ1,l35,v33,ms34,rfl,h,le47,hS,m48⟩
 unfold sema_stats_j1 at h
 refine nrm (mK7 (mO10 mz)) (xn (nz (wl (su (u_mkfn e0 (e1 (et d2) e0)) (dt (q10 p7)) (wl (s_defer (et (k10 d7)) e0 dn (ny (nz (st (wl (su (u_lensl underlying57 (et (k10 d8))) (dt (q10 p9)) (st (nw (cblock ?_))))))))))))))
 refine cloopE (rg 4 3++rg 21 11) (by decide) (fun n m w=>∃ μx i74 l77 v75 ms76,m=(yK4 (yO3 4 (yK10 (yK3 (.i (.int .i64 i74)::(yO10 21 (yO1 31 [])))))))∧sema_stats_l1 self p_2 prog_2 def_11 n i74 l77=some r∧Le μ1 μx∧Sq μx w0 w (.blk b1 144 [.pointer (some ⟨b3,o4,none⟩),.pointer (some ⟨b12,o13,none⟩),v75]::.row v75 141 1 l77.length (cOf ms76)::.blk b31 140 [.pointer (some ⟨b1,0,none⟩)]::(mRs ms76++rsF))∧Ms μx ms76 l77) (by rintro _ _ _ ⟨_,_,_,_,_,rfl,_⟩; rfl) _ _ (aK4 (aO3 (aK10 (aK3 (aI (aO10 (aO1 aZ))))))) ⟨_,0,l35,v33,ms34,rfl,h,Le.r,hS,m48⟩ ?_
 rintro n_1 _ t w8 ⟨μ2,i74,l77,v75,ms76,rfl,h,le104,hS,m105⟩
 rcases n_1 with _|n_1
 cases h
 unfold sema_stats_l1 at h
 refine cnrm (mK4 (mO3 (mK10 (mK3 (mi (mO10 (mO1 mz))))))) (nz (st (ny ?_)))
 refine zCd h ?_ ?_
 intro h106 h
 refine cskip (xn (cseq (cblock (nz ?_))))
 iterate 2 refine st ?_
 refine ny ?_
 refine cdw hS ?_; clear hS; intro w9 hS
 refine sf_start (fr_ 0 [0,4,5] rfl (u_load ti140 (et d2) ((hS.blk d2).cell d0)) (q20 p3) (fpi 1 [1,3,4,5] rfl (fpi 2 [2,3,4,5] rfl ?_)))
 obtain ⟨x107,g108,h⟩:=bI h
 obtain ⟨b109,o110,cs111,e112,f113,m114⟩:=SlR.elem (m27.up (le47.t le104)) g108
 obtain ⟨a115,c116,a118,c119,a121,c122,rfl,m117,m120,m123⟩:=TStat.o m114
 refine fp 3 [3,4,5] rfl (u_iax underlying57 ti121 (et (k20 d4)) (et (k20 d5)) e112) (q20 p6) ?_
 obtain ⟨r124,g125,h⟩:=bI h
 replace hS:=(hS.bg Y1).bg Y1
 replace hS:=Sep.mOut (a:=[_,_]) (p:=[_]) (M:=mRs ms76) (R:=rsF) hS
 refine sf1 rfl rfl rfl rfl (wn0 rfl) (s_callv isfn79 ef (e1 (et (k20 d3)) (e1 (et (k20 d6)) e0)) (IH.sema_stat (hg.t (le47.t le104)) (m7.up (le47.t le104)) (m9.up (le47.t le104)) (m10.up (le47.t le104)) (m16.up (le47.t le104)) (m19.up (le47.t le104)) (m20.up (le47.t le104)) m105 m117 m120 m123 f113 g125 hS) ?_)
 rintro _ w10 ⟨μ3,v127,ms128,rfl,le126,hS,m129⟩
 replace hS:=Sep.mOut (a:=[_,_]) (p:=mRs ms128) (M:=[_]) (R:=rsF) hS
 refine po ?_
 refine ⟨Mons.z,?_⟩
 refine fpi 5 [5] rfl (sf_nil (xn (nz ?_)))
 iterate 2 refine st ?_
 refine nw ?_
 refine zCd h ?_ ?_
 intro h130 h
 refine nz ?_
 iterate 2 refine st ?_
 refine nw (cret ?_)
 refine (fun h=>br (xr (xr (br (xr h))))) ?_
 obtain ⟨r131,g132,h⟩:=bI h
 replace hS:=((hS.bg Y1).bg Y1).bg Y2
 refine retD isfn78 (sema_pop_w (hg.t (le47.t (le104.t le126))) (m7.up (le47.t (le104.t le126))) (m9.up (le47.t (le104.t le126))) (m10.up (le47.t (le104.t le126))) (m16.up (le47.t (le104.t le126))) (m19.up (le47.t (le104.t le126))) (m20.up (le47.t (le104.t le126))) m129 g132 hS) ?_
 rintro _ w11 ⟨μ4,v134,ms135,rfl,le133,hS,m136⟩
 obtain rfl:=oI h
 refine retDN rfl (RVs.s (.t d4) RVs.z) ?_
 replace hS:=hS.drop Rm.z
 exact ⟨_,_,_,rfl,(le47.t (le104.t (le126.t le133))),hS,m136⟩
 intro h130 h
 refine cskip ?_
 refine (fun h=>bn (xn h)) ?_
 refine creg ?_
 obtain ⟨i137,g138,h⟩:=bI h
 refine wl (su (u_addc (et (k20 d0)) ec g138) (dt (q30 p1)) (st (wnil (xl ?_))))
 exact ⟨n_1,_,_,rfl,(aK4 (aO3 (aK10 (aK3 (aI (aO10 (aO1 aZ))))))),⟨_,i137,r124.2,v127,ms128,rfl,h,(le104.t le126),hS,m129⟩,Nat.lt_succ_self _⟩
 intro h106 h
 refine cexit ?_
 refine (fun h=>xe (xe (bh h))) ?_
 refine xn (nz (st (nw (cret ?_))))
 obtain ⟨r139,g140,h⟩:=bI h
 replace hS:=((hS.bg Y1).bg Y1).bg Y2
 refine retD isfn78 (sema_pop_w (hg.t (le47.t le104)) (m7.up (le47.t le104)) (m9.up (le47.t le104)) (m10.up (le47.t le104)) (m16.up (le47.t le104)) (m19.up (le47.t le104)) (m20.up (le47.t le104)) m105 g140 hS) ?_
 rintro _ w12 ⟨μ5,v142,ms143,rfl,le141,hS,m144⟩
 obtain rfl:=oI h
 refine retDN rfl (RVs.s (.t d4) RVs.z) ?_
 replace hS:=hS.drop Rm.z
 exact ⟨_,_,_,rfl,(le47.t (le104.t le141)),hS,m144⟩
theorem sema_stat_w {fu:Nat} {self:SemaS} (IH:SemaSSound self):sema_stat_S (sema_stat fu self):=by
 intro μ0 w0 w rsF hg b1 prog_2 b3 o4 a5 c6 b8 def_11 b12 o13 a14 c15 a17 c18 bloc_21 v22 ms23 p_2 b25 o26 a27 c28 a30 c31 a33 c34 r m7 m9 m10 m16 m19 m20 m24 m29 m32 m35 m36 h hS
 unfold sema_stat at h
 refine enter func79 rfl (frm:=_::_::u50 (u50 (u50 (u50 [])))) rfl (nz (st (ny (nz ?_))))
 iterate 3 refine st ?_
 refine ld ((m36 _ hS.a).one d0) (nw ?_)
 refine ccutE (rg 4 15++rg 23 179) (by decide +kernel) (fun m w=>∃ μx l42 v40 ms41,m=(yK4 (yO10 4 (yO5 14 (yK4 (yO50 23 (yO50 73 (yO50 123 (yO20 173 (yO9 193 [])))))))))∧sema_stat_j1 l42=some r∧Le μ0 μx∧Sq μx w0 w (.blk b1 144 [.pointer (some ⟨b3,o4,none⟩),.pointer (some ⟨b12,o13,none⟩),v40]::.row v40 141 1 l42.length (cOf ms41)::(mRs ms41++rsF))∧Ms μx ms41 l42) (by rintro _ _ ⟨_,_,_,_,rfl,_⟩; rfl) ?_ ?_
 refine cblock (nz ?_)
 iterate 2 refine st ?_
 refine nw ?_
 refine zCd h ?_ ?_
 intro h44 h
 refine nz ?_
 iterate 4 refine st ?_
 obtain ⟨r45,g46,h⟩:=bI h
 replace hS:=(hS.bg Y1).bg Y1
 refine ca ((SemaE_sound fu).sema_expr hg m7 m9 m10 m16 m19 m20 m24 m29 (m36.sb 2 4) g46 hS) ?_
 rintro _ w1 ⟨μ1,rfl,le47,hS⟩
 refine po ?_
 iterate 3 refine st ?_
 refine wl (s_alloc ti55 hS ?_); clear hS; intro b48 w2 hb49 hS; refine po ?_
 refine wl (s_storeA ti55 (et d5) (et (k30 d1)) rfl rfl hS d0 rfl p0 dn ?_)
 clear hS; intro w3 hS
 refine st (ny (nz ?_))
 iterate 2 refine st ?_
 refine nw ?_
 refine zCd h ?_ ?_
 intro h50 h
 refine nz ?_
 iterate 2 refine st ?_
 refine nw (cret ?_)
 refine (fun h=>xr (br (xr (xr h)))) ?_
 obtain rfl:=oI h
 refine ret1 rfl d4 ?_
 replace hS:=hS.drop Rm.z
 exact ⟨_,_,_,rfl,le47,hS,(m24.up le47)⟩
 intro h50 h
 refine cskip (xn (cseq (nz ?_)))
 iterate 4 refine st ?_
 refine ld ((m36 _ (le47 _ hS.a)).one d1) ?_
 obtain ⟨r51,g52,h⟩:=bI h
 replace hS:=(hS.bg Y2).bg Y2
 replace hS:=Sep.mOut (a:=[_,_]) (p:=[_]) (M:=mRs ms23) (R:=rsF) hS
 refine ca (sema_look_w (hg.t le47) (m7.up le47) (m9.up le47) (m10.up le47) (m16.up le47) (m19.up le47) (m20.up le47) (m24.up le47) g52 hS) ?_
 rintro _ w4 ⟨μ2,rfl,le53,hS⟩
 replace hS:=Sep.mOut (a:=[_,_]) (p:=mRs ms23) (M:=[_]) (R:=rsF) hS
 refine po ?_
 iterate 3 refine st ?_
 refine wl (s_alloc ti55 hS ?_); clear hS; intro b54 w5 hb55 hS; refine po ?_
 refine wl (s_storeA ti55 (et d7) (et (k40 d3)) rfl rfl hS d0 rfl p0 dn ?_)
 clear hS; intro w6 hS
 refine st (nx (st (nw ?_)))
 refine zCb h ?_ ?_
 intro h56 h
 refine nz (st (nw (cret ?_)))
 refine (fun h=>xr (br (xr (xr h)))) ?_
 obtain rfl:=oI h
 refine ret1 rfl d4 ?_
 replace hS:=(hS.drop Rm.z).drop (Rm.s (Rm.s Rm.z))
 exact ⟨_,_,_,rfl,(le47.t le53),hS,(m24.up (le47.t le53))⟩
 intro h56 h
 refine cskip (xn ?_)
 refine cdw hS ?_; clear hS; intro w7 hS
 refine sf_start (fpi 0 [0,1,2,3,10,11,17] rfl (fpi 1 [1,2,3,10,11,17] rfl (fpi 2 [2,3,10,11,17] rfl (fr_ 3 [3,10,11,17] rfl (u_load ti142 (et (k40 d8)) ((hS.blk d1).cell d2)) (q40 p9) (fpi 4 [4,5,6,7,8,9,10,11,17] rfl (fpi 5 [5,6,7,8,9,10,11,17] rfl (fpi 6 [6,7,8,9,10,11,17] rfl (fr_ 7 [7,8,9,10,11,17] rfl (u_load ti142 (et (k50 d2)) ((hS.blk d1).cell d2)) (q50 p3) (fp 8 [8,9,10,11,17] rfl (u_lenv underlying142 (et (k50 d3)) (hS.get d2).isSl) (q50 p4) ?_)))))))))
 obtain ⟨i57,g58,h⟩:=bI h
 refine fp 9 [9,10,11,17] rfl (u_subc (et (k50 d4)) ec g58) (q50 p5) ?_
 obtain ⟨x59,g60,h⟩:=bI h
 obtain ⟨b61,o62,b63,es64,c65,e66,f67,hms68,mq69⟩:=Row.mapElem (hS.get d2) (m24.up (le47.t le53)) g60
 refine fp 10 [10,11,17] rfl (u_iax underlying142 ti141 (et (k40 d9)) (et (k50 d5)) e66) (q50 p6) (fr_ 11 [11,17] rfl (u_load ti141 (et (k50 d6)) ((f67 _ _ (hS.get d2)).one d0)) (q50 p7) (fpi 12 [12,13,14,15,17] rfl (fpi 13 [13,14,15,17] rfl (fpi 14 [14,15,17] rfl (fr_ 15 [15,17] rfl (u_load ti9 (et (k60 d0)) ((m36 _ ((le47.t le53) _ hS.a)).one d1)) (q60 p1) (fr_ 16 [16,17] rfl (u_loads ti55 (et d5) (hS.blk d3).cells rfl) (q60 p2) ?_))))))
 refine sf1 rfl rfl rfl rfl (wn0 rfl) (s_mputS (pre:=[_,_,_,_]) (κ:=List UInt8) (β:=TType) (kk:=p_2.Name) (xx:=r45.1) underlying141 underlying9 (et (k50 d7)) (et (k60 d1)) (et (k60 d2)) ⟨_,rfl,rfl⟩ hS hms68 mq69 (m24.up (le47.t le53)) dn ?_); clear hS; intro ms70 w8 m71 e72 e73 hS; rw [e72,e73] at hS
 refine ⟨Mons.z,?_⟩
 refine sf_nil ?_
 refine (fun h=>bn (xl h)) ?_
 replace hS:=(hS.drop Rm.z).drop (Rm.s (Rm.s Rm.z))
 exact ⟨_,_,rfl,(aK4 (aO10 (aO5 (aK4 (aO50 (aO50 (aO50 (aO20 (aO9 aZ))))))))),_,(bloc_21.set i57.toNat (mput x59 p_2.Name r45.1)),_,_,rfl,h,(le47.t le53),hS,m71⟩
 intro h44 h
 refine nz ?_
 iterate 2 refine st ?_
 refine nw ?_
 refine zCd h ?_ ?_
 intro h74 h
 refine nz ?_
 iterate 4 refine st ?_
 refine ld ((m36 _ hS.a).one d1) ?_
 obtain ⟨r75,g76,h⟩:=bI h
 replace hS:=(hS.bg Y1).bg Y1
 refine ca (sema_look_w hg m7 m9 m10 m16 m19 m20 m24 g76 hS) ?_
 rintro _ w9 ⟨μ3,rfl,le77,hS⟩
 refine po ?_
 iterate 3 refine st ?_
 refine wl (s_alloc ti55 hS ?_); clear hS; intro b78 w10 hb79 hS; refine po ?_
 refine wl (s_storeA ti55 (et d9) (et (k70 d2)) rfl rfl hS d0 rfl p0 dn ?_)
 clear hS; intro w11 hS
 refine st (ny (nz ?_))
 iterate 2 refine st ?_
 refine nw ?_
 refine zCe h ?_ ?_
 intro h80 h
 refine nz (st (nw (cret ?_)))
 refine (fun h=>xr (br (xr (xr h)))) ?_
 obtain rfl:=oI h
 refine ret1 rfl d4 ?_
 replace hS:=hS.drop Rm.z
 exact ⟨_,_,_,rfl,le77,hS,(m24.up le77)⟩
 intro h80 h
 refine cskip (xn (cseq ?_))
 refine cdw hS ?_; clear hS; intro w12 hS
 refine sf_start (fpi 0 [0,5,6] rfl (fpi 1 [1,2,3,5,6] rfl (fpi 2 [2,3,5,6] rfl (fpi 3 [3,5,6] rfl (fr_ 4 [4,5,6] rfl (u_loads ti55 (et d9) (hS.blk d0).cells rfl) (q80 p0) ?_)))))
 obtain ⟨r81,g82,h⟩:=bI h
 replace hS:=(hS.bg Y2).bg Y2
 replace hS:=Sep.mOut (a:=[_,_]) (p:=[_]) (M:=mRs ms23) (R:=rsF) hS
 refine sf1 rfl rfl rfl rfl (wn0 rfl) (s_callv isfn100 ef (e1 (et (k70 d6)) (e1 (et (k70 d9)) (e1 (et (k80 d0)) e0))) ((SemaE_sound fu).sema_typed (hg.t le77) (m7.up le77) (m9.up le77) (m10.up le77) (m16.up le77) (m19.up le77) (m20.up le77) (m24.up le77) (m29.up le77) ((m36.up le77).sb 2 4) g82 hS) ?_)
 rintro _ w13 ⟨μ4,rfl,le83,hS⟩
 replace hS:=Sep.mOut (a:=[_,_]) (p:=mRs ms23) (M:=[_]) (R:=rsF) hS
 refine po ?_
 refine ⟨Mons.z,?_⟩
 refine fpi 6 [6] rfl (sf_nil (xn (cret ?_)))
 refine (fun h=>br (xr (xr h))) ?_
 obtain rfl:=oI h
 refine ret1 rfl d4 ?_
 replace hS:=hS.drop (Rm.s (Rm.s Rm.z))
 exact ⟨_,_,_,rfl,(le77.t le83),hS,(m24.up (le77.t le83))⟩
 intro h74 h
 refine cseq (nz ?_)
 iterate 2 refine st ?_
 refine nw ?_
 refine ccutE ([84]) (by decide) (fun m w=>∃ μx b84,m=(yK50 (yK20 (yK10 (yK2 (.i (.bool b84)::(yK1 (yO1 84 [])))))))∧sema_stat_j2 fu self p_2 prog_2 def_11 bloc_21 b84=some r∧Le μ0 μx∧Sq μx w0 w (.blk b1 144 [.pointer (some ⟨b3,o4,none⟩),.pointer (some ⟨b12,o13,none⟩),v22]::.row v22 141 1 bloc_21.length (cOf ms23)::(mRs ms23++rsF))) (by rintro _ _ ⟨_,_,rfl,_⟩; rfl) ?_ ?_
 refine zCd h ?_ ?_
 intro h85 h
 refine cskip (xl ?_)
 exact ⟨_,_,rfl,(aK50 (aK20 (aK10 (aK2 (aI (aK1 (aO1 aZ))))))),_,(decide (p_2.Kind=3)),rfl,h,Le.r,hS⟩
 intro h85 h
 refine creg ?_
 iterate 2 refine st ?_
 refine wnil (xl ?_)
 exact ⟨_,_,rfl,(aK50 (aK20 (aK10 (aK2 (aI (aK1 (aO1 aZ))))))),_,(decide (p_2.Kind=4)),rfl,h,Le.r,hS⟩
 rintro _ t w14 ⟨μ5,b84,rfl,h,le86,hS⟩
 unfold sema_stat_j2 at h
 refine nrm (mK50 (mK20 (mK10 (mK2 (mi (mK1 (mO1 mz))))))) (xn ?_)
 refine zCb h ?_ ?_
 intro h87 h
 refine cseq (cseq ?_)
 refine cdw hS ?_; clear hS; intro w15 hS
 refine sf_start (fpi 0 [0,5,6] rfl (fpi 1 [1,2,3,5,6] rfl (fpi 2 [2,3,5,6] rfl (fpi 3 [3,5,6] rfl ?_))))
 obtain ⟨r88,g89,h⟩:=bI h
 refine sf1 rfl rfl rfl rfl (wn0 rfl) (s_callv isfn101 ef e0 (sema_boolean_w (hg.t le86) g89 hS) ?_)
 rintro _ w16 ⟨μ6,rfl,le90,hS⟩
 refine po ?_
 refine ⟨Mons.z,?_⟩
 obtain ⟨r91,g92,h⟩:=bI h
 replace hS:=(hS.bg Y1).bg Y1
 refine sf1 rfl rfl rfl rfl (wn0 rfl) (s_callv isfn100 ef (e1 (et (k80 d5)) (e1 (et (k80 d8)) (e1 (et (k80 d9)) e0))) ((SemaE_sound fu).sema_typed (hg.t (le86.t le90)) (m7.up (le86.t le90)) (m9.up (le86.t le90)) (m10.up (le86.t le90)) (m16.up (le86.t le90)) (m19.up (le86.t le90)) (m20.up (le86.t le90)) (m24.up (le86.t le90)) (m29.up (le86.t le90)) ((m36.up (le86.t le90)).sb 2 4) g92 hS) ?_)
 rintro _ w17 ⟨μ7,rfl,le93,hS⟩
 refine po ?_
 refine ⟨Mons.z,?_⟩
 refine fpi 6 [6] rfl (sf_nil (xn (nz ?_)))
 iterate 2 refine st ?_
 refine nw ?_
 refine zCd h ?_ ?_
 intro h94 h
 refine nz ?_
 iterate 2 refine st ?_
 refine nw (cret ?_)
 refine (fun h=>xr (br (xr (xr h)))) ?_
 obtain rfl:=oI h
 refine ret1 rfl d4 ?_
 replace hS:Sq μ7 w0 _ (.blk b1 144 [.pointer (some ⟨b3,o4,none⟩),.pointer (some ⟨b12,o13,none⟩),v22]::.row v22 141 1 bloc_21.length (cOf ms23)::(mRs ms23++rsF)):=hS
 exact ⟨_,_,_,rfl,(le86.t (le90.t le93)),hS,(m24.up (le86.t (le90.t le93)))⟩
 intro h94 h
 refine cskip (xn (cseq (nz ?_)))
 iterate 4 refine st ?_
 refine ld ((m36 _ ((le86.t (le90.t le93)) _ hS.a)).one d6) ?_
 obtain ⟨r95,g96,h⟩:=bI h
 replace hS:=(hS.bg Y1).bg Y1
 refine ca (IH.sema_stats (hg.t (le86.t (le90.t le93))) (m7.up (le86.t (le90.t le93))) (m9.up (le86.t (le90.t le93))) (m10.up (le86.t (le90.t le93))) (m16.up (le86.t (le90.t le93))) (m19.up (le86.t (le90.t le93))) (m20.up (le86.t (le90.t le93))) (m24.up (le86.t (le90.t le93))) (m32.up (le86.t (le90.t le93))) g96 hS) ?_
 rintro _ w18 ⟨μ8,v98,ms99,rfl,le97,hS,m100⟩
 refine po (st (ny ?_))
 refine ccutE (rg 100 8) (by decide) (fun m w=>∃ μx b101,m=(yK50 (yK50 (yO8 100 (.i (.bool b101)::[]))))∧sema_stat_j3 self p_2 prog_2 def_11 r95 b101=some r∧Le μ8 μx∧Sq μx w0 w (.blk b1 144 [.pointer (some ⟨b3,o4,none⟩),.pointer (some ⟨b12,o13,none⟩),v98]::.row v98 141 1 r95.2.length (cOf ms99)::(mRs ms99++rsF))) (by rintro _ _ ⟨_,_,rfl,_⟩; rfl) ?_ ?_
 refine creg ?_
 iterate 3 refine st ?_
 refine zWd 102 h ?_ ?_
 intro h102 h
 refine sn rfl rfl (sn rfl rfl (sn rfl rfl (sn rfl rfl (sn rfl rfl (st (wnil (xl ?_)))))))
 exact ⟨_,_,rfl,(aK50 (aK50 (aO8 (aI aZ)))),_,true,rfl,h,Le.r,hS⟩
 intro h102 h
 refine sy rfl (sy rfl (sy rfl (wy rfl (k100 d2) (s_load ti3 (et (k100 d5)) ((m36 _ ((le86.t (le90.t (le93.t le97))) _ hS.a)).one d0) (dt (q100 p6)) (sy rfl (st (wnil (xl ?_))))))))
 exact ⟨_,_,rfl,(aK50 (aK50 (aO8 (aI aZ)))),_,(decide (p_2.Kind=4)),rfl,h,Le.r,hS⟩
 rintro _ t w19 ⟨μ9,b101,rfl,h,le103,hS⟩
 unfold sema_stat_j3 at h
 refine nrm (mK50 (mK50 (mO8 (mi mz)))) (xn ?_)
 refine zCb h ?_ ?_
 intro h104 h
 refine nz ?_
 iterate 2 refine st ?_
 refine nw (cret ?_)
 refine (fun h=>xr (br (xr (xr h)))) ?_
 obtain rfl:=oI h
 refine ret1 rfl d4 ?_
 replace hS:Sq μ9 w0 _ (.blk b1 144 [.pointer (some ⟨b3,o4,none⟩),.pointer (some ⟨b12,o13,none⟩),v98]::.row v98 141 1 r95.2.length (cOf ms99)::(mRs ms99++rsF)):=hS
 exact ⟨_,_,_,rfl,(le86.t (le90.t (le93.t (le97.t le103)))),hS,(m100.up le103)⟩
 intro h104 h
 refine cskip (xn (nz ?_))
 iterate 4 refine st ?_
 refine ld ((m36 _ ((le86.t (le90.t (le93.t (le97.t le103)))) _ hS.a)).one d7) ?_
 obtain ⟨r105,g106,h⟩:=bI h
 replace hS:=(hS.bg Y1).bg Y1
 refine ca (IH.sema_stats (hg.t (le86.t (le90.t (le93.t (le97.t le103))))) (m7.up (le86.t (le90.t (le93.t (le97.t le103))))) (m9.up (le86.t (le90.t (le93.t (le97.t le103))))) (m10.up (le86.t (le90.t (le93.t (le97.t le103))))) (m16.up (le86.t (le90.t (le93.t (le97.t le103))))) (m19.up (le86.t (le90.t (le93.t (le97.t le103))))) (m20.up (le86.t (le90.t (le93.t (le97.t le103))))) (m100.up le103) (m35.up (le86.t (le90.t (le93.t (le97.t le103))))) g106 hS) ?_
 rintro _ w20 ⟨μ10,v108,ms109,rfl,le107,hS,m110⟩
 refine po (st (nw (cret ?_)))
 refine (fun h=>br (xr (xr h))) ?_
 obtain rfl:=oI h
 refine ret1 rfl d4 ?_
 replace hS:Sq μ10 w0 _ (.blk b1 144 [.pointer (some ⟨b3,o4,none⟩),.pointer (some ⟨b12,o13,none⟩),v108]::.row v108 141 1 r105.2.length (cOf ms109)::(mRs ms109++rsF)):=hS
 exact ⟨_,_,_,rfl,(le86.t (le90.t (le93.t (le97.t (le103.t le107))))),hS,m110⟩
 intro h87 h
 refine nz ?_
 iterate 2 refine st ?_
 refine nw ?_
 refine zCd h ?_ ?_
 intro h111 h
 refine cseq (nz ?_)
 iterate 3 refine st ?_
 refine ld ((hS.blk d0).cell d1) ?_
 iterate 2 refine st ?_
 refine ld ((m20 _ (le86 _ hS.a)).one d0) (st (nw ?_))
 refine zCd h ?_ ?_
 intro h112 h
 refine nz (st (nw (cret ?_)))
 refine (fun h=>xr (br (xr (xr h)))) ?_
 obtain rfl:=oI h
 refine ret1 rfl d4 ?_
 replace hS:Sq μ5 w0 _ (.blk b1 144 [.pointer (some ⟨b3,o4,none⟩),.pointer (some ⟨b12,o13,none⟩),v22]::.row v22 141 1 bloc_21.length (cOf ms23)::(mRs ms23++rsF)):=hS
 exact ⟨_,_,_,rfl,le86,hS,(m24.up le86)⟩
 intro h112 h
 refine cskip (xn (cseq ?_))
 refine cdw hS ?_; clear hS; intro w21 hS
 refine sf_start (fpi 0 [0,11,12] rfl (fpi 1 [1,2,3,11,12] rfl (fpi 2 [2,3,11,12] rfl (fpi 3 [3,11,12] rfl (fpi 4 [4,5,6,7,8,9,10,11,12] rfl (fpi 5 [5,6,7,8,9,10,11,12] rfl (fpi 6 [6,7,8,9,10,11,12] rfl (fr_ 7 [7,8,9,10,11,12] rfl (u_load ti63 (et (k100 (k30 d2))) ((hS.blk d0).cell d1)) (q100 (q30 p3)) (fpi 8 [8,9,10,11,12] rfl (fpi 9 [9,10,11,12] rfl (fr_ 10 [10,11,12] rfl (u_loads ti55 (et (k100 (k30 d5))) ((m20 _ (le86 _ hS.a)).sb 2 2) rfl) (q100 (q30 p6)) ?_)))))))))))
 obtain ⟨r113,g114,h⟩:=bI h
 replace hS:=(hS.bg Y1).bg Y1
 refine sf1 rfl rfl rfl rfl (wn0 rfl) (s_callv isfn100 ef (e1 (et (k100 (k20 d6))) (e1 (et (k100 (k20 d9))) (e1 (et (k100 (k30 d6))) e0))) ((SemaE_sound fu).sema_typed (hg.t le86) (m7.up le86) (m9.up le86) (m10.up le86) (m16.up le86) (m19.up le86) (m20.up le86) (m24.up le86) (m29.up le86) ((m36.up le86).sb 2 4) g114 hS) ?_)
 rintro _ w22 ⟨μ11,rfl,le115,hS⟩
 refine po ?_
 refine ⟨Mons.z,?_⟩
 refine fpi 12 [12] rfl (sf_nil (xn (cret ?_)))
 refine (fun h=>br (xr (xr h))) ?_
 obtain rfl:=oI h
 refine ret1 rfl d4 ?_
 replace hS:Sq μ11 w0 _ (.blk b1 144 [.pointer (some ⟨b3,o4,none⟩),.pointer (some ⟨b12,o13,none⟩),v22]::.row v22 141 1 bloc_21.length (cOf ms23)::(mRs ms23++rsF)):=hS
 exact ⟨_,_,_,rfl,(le86.t le115),hS,(m24.up (le86.t le115))⟩
 intro h111 h
 refine nz ?_
 iterate 2 refine st ?_
 refine nw ?_
 refine zCd h ?_ ?_
 intro h116 h
 refine nz ?_
 iterate 3 refine st ?_
 refine ld ((hS.blk d0).cell d1) ?_
 iterate 2 refine st ?_
 refine ld ((m20 _ (le86 _ hS.a)).one d0) (st (nw ?_))
 refine zCd h ?_ ?_
 intro h117 h
 refine nz (st (nw (cret ?_)))
 refine (fun h=>br (xr (xr h))) ?_
 obtain rfl:=oI h
 refine ret1 rfl d4 ?_
 replace hS:Sq μ5 w0 _ (.blk b1 144 [.pointer (some ⟨b3,o4,none⟩),.pointer (some ⟨b12,o13,none⟩),v22]::.row v22 141 1 bloc_21.length (cOf ms23)::(mRs ms23++rsF)):=hS
 exact ⟨_,_,_,rfl,le86,hS,(m24.up le86)⟩
 intro h117 h
 refine cskip ?_
 refine (fun h=>bn (xl h)) ?_
 exact ⟨_,_,rfl,(aK4 (aO10 (aO5 (aK4 (aO50 (aO50 (aO50 (aO20 (aO9 aZ))))))))),_,bloc_21,_,_,rfl,h,le86,hS,(m24.up le86)⟩
 intro h116 h
 refine nz ?_
 iterate 2 refine st ?_
 refine nw ?_
 refine zCd h ?_ ?_
 intro h118 h
 refine cseq ?_
 refine cdw hS ?_; clear hS; intro w23 hS
 refine sf_start (fpi 0 [0,1,2,3,8,9,10,11,12,13] rfl (fpi 1 [1,2,3,8,9,10,11,12,13] rfl (fpi 2 [2,3,8,9,10,11,12,13] rfl (fr_ 3 [3,8,9,10,11,12,13] rfl (u_load ti50 (et (k100 (k50 d3))) ((hS.blk d0).cell d0)) (q100 (q50 p4)) (fpi 4 [4,5,6,7,8,9,10,11,12,13] rfl (fpi 5 [5,6,7,8,9,10,11,12,13] rfl (fpi 6 [6,7,8,9,10,11,12,13] rfl (fr_ 7 [7,8,9,10,11,12,13] rfl (u_load ti9 (et (k100 (k50 d7))) ((m36 _ (le86 _ hS.a)).one d1)) (q100 (q50 p8)) ?_))))))))
 obtain ⟨r119,g120,h⟩:=bI h
 refine sf1 rfl rfl rfl rfl (wn0 rfl) (s_callv isfn77 ef (e1 (et (k100 (k50 d4))) (e1 ec (e1 (et (k100 (k50 d8))) e0))) (sema_find_w (hg.t le86) (m7.up le86) (m9.up le86) (m10.up le86) g120 hS) ?_)
 rintro _ w24 ⟨μ12,v122,rfl,le121,hS,m123⟩
 refine po ?_
 refine ⟨Mons.z,?_⟩
 refine fpi 9 [9,10,11,12,13] rfl (fpi 10 [10,12,13] rfl (fpi 11 [11,13] rfl (fpi 12 [12,13] rfl (fpi 13 [13] rfl (sf_nil (xn (cseq (nz ?_))))))))
 iterate 2 refine st ?_
 refine nw ?_
 refine zCe h ?_ ?_
 intro h124 h
 refine nz (st (nw (cret ?_)))
 refine (fun h=>xr (br (xr (xr h)))) ?_
 obtain rfl:=oI h
 refine ret1 rfl d4 ?_
 replace hS:Sq μ12 w0 _ (.blk b1 144 [.pointer (some ⟨b3,o4,none⟩),.pointer (some ⟨b12,o13,none⟩),v22]::.row v22 141 1 bloc_21.length (cOf ms23)::(mRs ms23++rsF)):=hS
 exact ⟨_,_,_,rfl,(le86.t le121),hS,(m24.up (le86.t le121))⟩
 intro h124 h
 refine cskip (xn (cseq ?_))
 refine cdw hS ?_; clear hS; intro w25 hS
 refine sf_start (fpi 0 [0,8,9] rfl (fpi 1 [1,2,3,8,9] rfl (fpi 2 [2,3,8,9] rfl (fpi 3 [3,8,9] rfl (fpi 4 [4,5,6,7,8,9] rfl ?_)))))
 obtain ⟨x125,g126,h⟩:=bI h
 obtain ⟨b127,o128,cs129,rfl,f130,m131⟩:=Np.get m123 g126
 obtain ⟨a132,c133,a135,c136,rfl,m134,m137⟩:=m131
 refine fpi 5 [5,6,7,8,9] rfl (fpi 6 [6,7,8,9] rfl (fr_ 7 [7,8,9] rfl (u_loads ti55 (et (k100 (k70 d0))) ((f130 _ hS.a).sb 2 2) rfl) (q100 (q70 p1)) ?_))
 obtain ⟨r138,g139,h⟩:=bI h
 replace hS:=(hS.bg Y1).bg Y1
 refine sf1 rfl rfl rfl rfl (wn0 rfl) (s_callv isfn100 ef (e1 (et (k100 (k60 d4))) (e1 (et (k100 (k60 d7))) (e1 (et (k100 (k70 d1))) e0))) ((SemaE_sound fu).sema_typed (hg.t (le86.t le121)) (m7.up (le86.t le121)) (m9.up (le86.t le121)) (m10.up (le86.t le121)) (m16.up (le86.t le121)) (m19.up (le86.t le121)) (m20.up (le86.t le121)) (m24.up (le86.t le121)) (m29.up (le86.t le121)) ((m36.up (le86.t le121)).sb 2 4) g139 hS) ?_)
 rintro _ w26 ⟨μ13,rfl,le140,hS⟩
 refine po ?_
 refine ⟨Mons.z,?_⟩
 refine fpi 9 [9] rfl (sf_nil (xn (cret ?_)))
 refine (fun h=>br (xr (xr h))) ?_
 obtain rfl:=oI h
 refine ret1 rfl d4 ?_
 replace hS:Sq μ13 w0 _ (.blk b1 144 [.pointer (some ⟨b3,o4,none⟩),.pointer (some ⟨b12,o13,none⟩),v22]::.row v22 141 1 bloc_21.length (cOf ms23)::(mRs ms23++rsF)):=hS
 exact ⟨_,_,_,rfl,(le86.t (le121.t le140)),hS,(m24.up (le86.t (le121.t le140)))⟩
 intro h118 h
 refine nz ?_
 iterate 2 refine st ?_
 refine nw ?_
 refine zCd h ?_ ?_
 intro h141 h
 refine nz ?_
 iterate 4 refine st ?_
 obtain ⟨r142,g143,h⟩:=bI h
 replace hS:=(hS.bg Y1).bg Y1
 refine ca ((SemaE_sound fu).sema_expr (hg.t le86) (m7.up le86) (m9.up le86) (m10.up le86) (m16.up le86) (m19.up le86) (m20.up le86) (m24.up le86) (m29.up le86) ((m36.up le86).sb 2 4) g143 hS) ?_
 rintro _ w27 ⟨μ14,rfl,le144,hS⟩
 refine po ?_
 iterate 3 refine st ?_
 refine wl (s_alloc ti55 hS ?_); clear hS; intro b145 w28 hb146 hS; refine po ?_
 refine wl (s_storeA ti55 (et (k10 d5)) (et (k100 (k80 d1))) rfl rfl hS d0 rfl p0 dn ?_)
 clear hS; intro w29 hS
 refine st (ny (cseq ?_))
 refine ccutE (rg 183 6) (by decide) (fun m w=>∃ μx b147,m=(yK50 (yK50 (yK50 (yK20 (yK10 (yK3 (yO6 183 (.i (.bool b147)::[]))))))))∧sema_stat_j4 bloc_21 r142 b147=some r∧Le μ14 μx∧Sq μx w0 w (.blk b1 144 [.pointer (some ⟨b3,o4,none⟩),.pointer (some ⟨b12,o13,none⟩),v22]::.row v22 141 1 bloc_21.length (cOf ms23)::(mRs ms23++rsF))) (by rintro _ _ ⟨_,_,rfl,_⟩; rfl) ?_ ?_
 refine creg ?_
 iterate 3 refine st ?_
 refine zWd 185 h ?_ ?_
 intro h148 h
 refine wy rfl (k100 (k80 d5)) (s_loads ti55 (et (k10 d5)) (hS.blk d0).cells rfl (dt (q100 (q80 p6))) ?_)
 obtain ⟨r149,g150,h⟩:=bI h
 refine wy rfl (k100 (k80 d5)) (s_callv isfn57 ef (e1 (et (k100 (k80 d6))) e0) (sema_plain_w (hg.t (le86.t le144)) g150 hS) ?_)
 rintro _ w30 ⟨μ15,rfl,le151,hS⟩
 refine po (sy rfl (st (wnil (xl ?_))))
 replace hS:=hS.drop Rm.z
 exact ⟨_,_,rfl,(aK50 (aK50 (aK50 (aK20 (aK10 (aK3 (aO6 (aI aZ)))))))),_,(!r149),rfl,h,le151,hS⟩
 intro h148 h
 refine sn rfl rfl (sn rfl rfl (sn rfl rfl (st (wnil (xl ?_)))))
 replace hS:=hS.drop Rm.z
 exact ⟨_,_,rfl,(aK50 (aK50 (aK50 (aK20 (aK10 (aK3 (aO6 (aI aZ)))))))),_,false,rfl,h,Le.r,hS⟩
 rintro _ t w31 ⟨μ16,b147,rfl,h,le152,hS⟩
 unfold sema_stat_j4 at h
 refine nrm (mK50 (mK50 (mK50 (mK20 (mK10 (mK3 (mO6 (mi mz)))))))) (xn ?_)
 refine ccutE ([]) (by decide) (fun m w=>∃ μx i153,m=(yK10 (yK6 (.i (.int .i64 i153)::[])))∧sema_stat_j5 bloc_21 i153=some r∧Le μ16 μx∧Sq μx w0 w (.blk b1 144 [.pointer (some ⟨b3,o4,none⟩),.pointer (some ⟨b12,o13,none⟩),v22]::.row v22 141 1 bloc_21.length (cOf ms23)::(mRs ms23++rsF))) (by rintro _ _ ⟨_,_,rfl,_⟩; rfl) ?_ ?_
 refine zCb h ?_ ?_
 intro h154 h
 refine creg (st (wnil (xl ?_)))
 exact ⟨_,_,rfl,(aK10 (aK6 (aI aZ))),_,9,rfl,h,Le.r,hS⟩
 intro h154 h
 refine cskip (xl ?_)
 exact ⟨_,_,rfl,(aK10 (aK6 (aI aZ))),_,r142.2,rfl,h,Le.r,hS⟩
 rintro _ t w32 ⟨μ17,i153,rfl,h,le155,hS⟩
 unfold sema_stat_j5 at h
 refine nrm (mK10 (mK6 (mi mz))) (xn (nz ?_))
 iterate 2 refine st ?_
 refine nw (cret ?_)
 refine (fun h=>br (xr (xr h))) ?_
 obtain rfl:=oI h
 refine ret1 rfl d4 ?_
 replace hS:Sq μ17 w0 _ (.blk b1 144 [.pointer (some ⟨b3,o4,none⟩),.pointer (some ⟨b12,o13,none⟩),v22]::.row v22 141 1 bloc_21.length (cOf ms23)::(mRs ms23++rsF)):=hS
 exact ⟨_,_,_,rfl,(le86.t (le144.t (le152.t le155))),hS,(m24.up (le86.t (le144.t (le152.t le155))))⟩
 intro h141 h
 refine nz ?_
 iterate 2 refine st ?_
 refine nw ?_
 refine zCd h ?_ ?_
 intro h156 h
 refine nz ?_
 iterate 4 refine st ?_
 obtain ⟨r157,g158,h⟩:=bI h
 replace hS:=(hS.bg Y1).bg Y1
 refine ca ((SemaE_sound fu).sema_expr (hg.t le86) (m7.up le86) (m9.up le86) (m10.up le86) (m16.up le86) (m19.up le86) (m20.up le86) (m24.up le86) (m29.up le86) ((m36.up le86).sb 2 4) g158 hS) ?_
 rintro _ w33 ⟨μ18,rfl,le159,hS⟩
 refine po ?_
 iterate 3 refine st ?_
 refine wl (s_alloc ti55 hS ?_); clear hS; intro b160 w34 hb161 hS; refine po ?_
 refine wl (s_storeA ti55 (et (k10 d7)) (et (k100 (k90 d9))) rfl rfl hS d0 rfl p0 dn ?_)
 clear hS; intro w35 hS
 refine st (nx ?_)
 iterate 2 refine st ?_
 refine nw (cret ?_)
 refine (fun h=>br (xr (xr h))) ?_
 obtain rfl:=oI h
 refine ret1 rfl d4 ?_
 replace hS:=hS.drop Rm.z
 exact ⟨_,_,_,rfl,(le86.t le159),hS,(m24.up (le86.t le159))⟩
 intro h156 h
 refine cskip ?_
 refine (fun h=>bn (xl h)) ?_
 exact ⟨_,_,rfl,(aK4 (aO10 (aO5 (aK4 (aO50 (aO50 (aO50 (aO20 (aO9 aZ))))))))),_,bloc_21,_,_,rfl,h,le86,hS,(m24.up le86)⟩
 rintro _ t w36 ⟨μ19,l42,v40,ms41,rfl,h,le162,hS,m163⟩
 unfold sema_stat_j1 at h
 refine nrm (mK4 (mO10 (mO5 (mK4 (mO50 (mO50 (mO50 (mO20 (mO9 mz))))))))) (xn (nz (st (nw (cret ?_)))))
 obtain rfl:=oI h
 refine ret1 rfl d4 ?_
 replace hS:Sq μ19 w0 _ (.blk b1 144 [.pointer (some ⟨b3,o4,none⟩),.pointer (some ⟨b12,o13,none⟩),v40]::.row v40 141 1 l42.length (cOf ms41)::(mRs ms41++rsF)):=hS
 exact ⟨_,_,_,rfl,le162,hS,m163⟩
theorem SemaS_sound:∀ n,SemaSSound (SemaS_run n)
  | 0=>⟨(by intro; intros; rename_i h _; cases h),(by intro; intros; rename_i h _; cases h)⟩
  | n+1=>⟨sema_stats_w (SemaS_sound n),sema_stat_w (SemaS_sound n)⟩
theorem sema_head_w (hg:Le Gm μ0) {p_1:TSp} {p_2:TDef} {r:Int} (m5:Sl μ0 a3 c4 p_1.defs) (m7:Mr μ0 b6 p_1.named) (m8:At μ0 b1 o2 [.slice a3 p_1.defs.length c4,.map (some b6)]) (m13:Sl μ0 a11 c12 p_2.Params) (m16:Sl μ0 a14 c15 p_2.Body) (m17:At μ0 b9 o10 [.int .i64 p_2.Kind,S p_2.Name,.int .i64 p_2.Typ.Kind,S p_2.Typ.Gen,.int .i64 p_2.Takes.Kind,S p_2.Takes.Gen,.int .i64 p_2.Cap,.slice a11 p_2.Params.length c12,.slice a14 p_2.Body.length c15]) (h:sema_head p_1 p_2=some r) (hS:Sq μ0 w0 w (rsF)):CallsV prog 37 [.pointer (some ⟨b1,o2,none⟩),.pointer (some ⟨b9,o10,none⟩)] w (fun v w'=>∃ (μ':M) ,v=.int .i64 r∧Le μ0 μ'∧Sq μ' w0 w' (rsF)):=by
 unfold sema_head at h
 refine enter func37 rfl (frm:=_::_::u5 (u20 (u50 []))) rfl (nz (st (nx ?_)))
 refine wl (s_mkmap hS ?_); clear hS; intro b18 w1 hb19 hS; refine po ?_
 refine st (ny (cseq ?_))
 refine ccutE (rg 10 11) (by decide) (fun m w=>∃ μx b20,m=(yK10 (yO10 10 (yO1 20 (.i (.bool b20)::[]))))∧sema_head_j1 p_1 p_2 b20=some r∧Le μ0 μx∧Sq μx w0 w (.map b18 [] 0::rsF)) (by rintro _ _ ⟨_,_,rfl,_⟩; rfl) ?_ ?_
 refine creg ?_
 iterate 3 refine st ?_
 refine ld ((m17 _ hS.a).one d0) ?_
 iterate 2 refine st ?_
 refine zWd 15 h ?_ ?_
 intro h21 h
 refine sn rfl rfl (sn rfl rfl (sn rfl rfl (sn rfl rfl (sn rfl rfl (st (wnil (xl ?_)))))))
 exact ⟨_,_,rfl,(aK10 (aO10 (aO1 (aI aZ)))),_,true,rfl,h,Le.r,hS⟩
 intro h21 h
 refine sy rfl (sy rfl (sy rfl (wy rfl (k10 d5) (s_load ti3 (et (k10 d8)) ((m17 _ hS.a).one d0) (dt (q10 p9)) (sy rfl (st (wnil (xl ?_))))))))
 exact ⟨_,_,rfl,(aK10 (aO10 (aO1 (aI aZ)))),_,(decide (p_2.Kind=3)),rfl,h,Le.r,hS⟩
 rintro _ t w2 ⟨μ1,b20,rfl,h,le22,hS⟩
 unfold sema_head_j1 at h
 refine nrm (mK10 (mO10 (mO1 (mi mz)))) (xn ?_)
 refine ccutE ([4]++rg 7 2++rg 22 27) (by decide +kernel) (fun m w=>∃ (μx:M) ,m=(yK4 (yO1 4 (yK2 (yO2 7 (yK10 (yK3 (yO20 22 (yO7 42 []))))))))∧sema_head_j2 p_2 =some r∧Le μ1 μx∧Sq μx w0 w (rsF)) (by rintro _ _ ⟨_,rfl,_⟩; rfl) ?_ ?_
 refine zCb h ?_ ?_
 intro h23 h
 refine nz ?_
 iterate 3 refine st ?_
 refine ld ((m17 _ (le22 _ hS.a)).one d7) (wl (su (u_lensl underlying56 (et (k20 d5))) (dt (q20 p6)) (st (nw (cblock ?_)))))
 refine cloopE ([4]++rg 7 2++rg 28 21) (by decide +kernel) (fun n m w=>∃ μx i48 l51 es49 c50,m=(yK4 (yO1 4 (yK2 (yO2 7 (yK10 (yK8 (.i (.int .i64 i48)::(yO20 28 (yO1 48 [])))))))))∧sema_head_l1 p_1 p_2 n i48 l51=some r∧Le μ1 μx∧Sq μx w0 w (.map b18 es49 c50::rsF)∧Mq μx es49 c50 l51) (by rintro _ _ _ ⟨_,_,_,_,_,rfl,_⟩; rfl) _ _ (aK4 (aO1 (aK2 (aO2 (aK10 (aK8 (aI (aO20 (aO1 aZ))))))))) ⟨_,0,([]:List (List UInt8×Int)),[],0,rfl,h,Le.r,hS,((Mq.nil (κ:=List UInt8) (β:=Int) (μ:=μ0) (c:=0)).up le22)⟩ ?_
 rintro n_1 _ t w3 ⟨μ2,i48,l51,es49,c50,rfl,h,le77,hS,m78⟩
 rcases n_1 with _|n_1
 cases h
 unfold sema_head_l1 at h
 refine cnrm (mK4 (mO1 (mK2 (mO2 (mK10 (mK8 (mi (mO20 (mO1 mz))))))))) (nz (st (ny ?_)))
 refine zCd h ?_ ?_
 intro h79 h
 refine cskip (xn (cseq (cblock (nz ?_))))
 obtain ⟨x80,g81,h⟩:=bI h
 obtain ⟨b82,o83,cs84,e85,f86,m87⟩:=SlR.elem (m13.up (le22.t le77)) g81
 obtain rfl:=m87
 refine wl (su (u_iax underlying56 ti107 (et (k20 d5)) (et (k20 d7)) e85) (dt (q20 p9)) (lds (f86 _ hS.a) rfl ?_))
 refine wl (s_alloc ti107 hS ?_); clear hS; intro b88 w4 hb89 hS; refine po ?_
 refine wl (s_storeA ti107 (et d7) (et (k30 d0)) rfl rfl hS d0 rfl p0 dn ?_)
 clear hS; intro w5 hS
 refine ny (nz ?_)
 iterate 2 refine st ?_
 refine ld ((hS.blk d0).cell d0) ?_
 refine wl (s_mget1 (κ:=List UInt8) (k:=x80.Name) (β:=Int) (zx:=0) underlying78 underlying9 (et (k30 d1)) (et (k30 d3)) zv3 rfl (hS.get d1) m78 ?_); rintro _ rfl; refine po ?_
 obtain ⟨i92,g93,h⟩:=bI h
 refine wl (su (u_addc (et (k30 d4)) ec g93) (dt (q30 p5)) ?_)
 refine wl (s_mputM (κ:=List UInt8) (β:=Int) (kk:=x80.Name) (xx:=i92) underlying78 underlying9 (et (k30 d1)) (et (k30 d3)) (et (k30 d5)) rfl hS d1 m78 dn ?_); clear hS; intro es94 c95 w6 rs_ m96 hp_ hS; cases (show _=rs_ from hp_)
 replace hS:=Sep.reput hS p1
 refine nx ?_
 iterate 2 refine st ?_
 refine ld ((hS.blk d0).cell d0) ?_
 refine wl (s_mget1 (κ:=List UInt8) (k:=x80.Name) (β:=Int) (zx:=0) underlying78 underlying9 (et (k30 d6)) (et (k30 d8)) zv3 rfl (hS.get d1) m96 ?_); rintro _ rfl; refine po ?_
 refine st (nw ?_)
 refine zCd h ?_ ?_
 intro h99 h
 refine nz (st (nw (cret ((fun h=>xr (br (xr (xr (br (xr (xr h))))))) ?_))))
 obtain rfl:=oI h
 refine ret1 rfl d4 ?_
 replace hS:=(hS.drop Rm.z).drop Rm.z
 exact ⟨_,rfl,(le22.t le77),hS⟩
 intro h99 h
 refine cskip (xn (nz ?_))
 iterate 2 refine st ?_
 refine lds ((hS.blk d0).cellsAt (Sb.s d1 (Sb.s d2 Sb.z))) rfl ?_
 obtain ⟨r100,g101,h⟩:=bI h
 refine ca (sema_typ_w (hg.t (le22.t le77)) (m5.up (le22.t le77)) (m7.up (le22.t le77)) (m8.up (le22.t le77)) g101 hS) ?_
 rintro _ w7 ⟨μ3,rfl,le102,hS⟩
 refine po (st (nx ?_))
 iterate 2 refine st ?_
 refine nw ?_
 refine zCd h ?_ ?_
 intro h103 h
 refine nz ?_
 iterate 2 refine st ?_
 refine nw (cret ?_)
 refine (fun h=>br (xr (xr (br (xr (xr h)))))) ?_
 obtain rfl:=oI h
 refine ret1 rfl d4 ?_
 replace hS:=(hS.drop Rm.z).drop Rm.z
 exact ⟨_,rfl,(le22.t (le77.t le102)),hS⟩
 intro h103 h
 refine cskip ?_
 refine (fun h=>bn (xn h)) ?_
 refine creg ?_
 obtain ⟨i104,g105,h⟩:=bI h
 refine wl (su (u_addc (et (k20 d7)) ec g105) (dt (q40 p8)) (st (wnil (xl ?_))))
 replace hS:=hS.drop Rm.z
 exact ⟨n_1,_,_,rfl,(aK4 (aO1 (aK2 (aO2 (aK10 (aK8 (aI (aO20 (aO1 aZ))))))))),⟨_,i104,(mput l51 x80.Name i92),es94,c95,rfl,h,(le77.t le102),hS,(m96.up le102)⟩,Nat.lt_succ_self _⟩
 intro h79 h
 refine cexit ?_
 refine (fun h=>xe (xe (bh h))) ?_
 refine xl ?_
 replace hS:=hS.drop Rm.z
 exact ⟨_,_,rfl,(aK4 (aO1 (aK2 (aO2 (aK10 (aK3 (aO20 (aO7 aZ)))))))),_,rfl,h,le77,hS⟩
 intro h23 h
 refine cskip (xl ?_)
 replace hS:=hS.drop Rm.z
 exact ⟨_,_,rfl,(aK4 (aO1 (aK2 (aO2 (aK10 (aK3 (aO20 (aO7 aZ)))))))),_,rfl,h,Le.r,hS⟩
 rintro _ t w8 ⟨μ4,rfl,h,le106,hS⟩
 unfold sema_head_j2 at h
 refine nrm (mK4 (mO1 (mK2 (mO2 (mK10 (mK3 (mO20 (mO7 mz)))))))) (xn (cseq (cseq ?_)))
 refine ccutE (rg 49 27) (by decide +kernel) (fun m w=>∃ μx b107,m=(yK20 (yK20 (yK9 (yO20 49 (yO7 69 (.i (.bool b107)::[]))))))∧sema_head_j3 b107=some r∧Le μ4 μx∧Sq μx w0 w (rsF)) (by rintro _ _ ⟨_,_,rfl,_⟩; rfl) ?_ ?_
 refine creg ?_
 iterate 3 refine st ?_
 refine ld ((m17 _ ((le22.t le106) _ hS.a)).one d0) ?_
 iterate 2 refine st ?_
 refine zWd 54 h ?_ ?_
 intro h108 h
 refine sy rfl (sy rfl (sy rfl (wy rfl (k50 d4) (s_loads ti55 (et (k50 d7)) ((m17 _ ((le22.t le106) _ hS.a)).sb 4 2) rfl (dt (q50 p8)) ?_))))
 obtain ⟨r109,g110,h⟩:=bI h
 refine wy rfl (k50 d4) (s_callv isfn57 ef (e1 (et (k50 d8)) e0) (sema_plain_w (hg.t (le22.t le106)) g110 hS) ?_)
 rintro _ w9 ⟨μ5,rfl,le111,hS⟩
 refine po (sy rfl ?_)
 iterate 2 refine st ?_
 refine zWe 62 h ?_ ?_
 intro h112 h
 refine sn rfl rfl (sn rfl rfl (sn rfl rfl (sn rfl rfl (sn rfl rfl (sn rfl rfl (wu rfl (k60 d8) (dt (q60 p9)) (wu rfl (k60 d8) (dt (q70 p0)) (wu rfl (k60 d8) (dt (q70 p1)) (wu rfl (k60 d8) (dt (q70 p2)) (wu rfl (k60 d8) (dt (q70 p3)) (wu rfl (k60 d8) (dt (q70 p4)) (sn rfl rfl (st (wnil (xl ?_)))))))))))))))
 exact ⟨_,_,rfl,(aK20 (aK20 (aK9 (aO20 (aO7 (aI aZ)))))),_,true,rfl,h,le111,hS⟩
 intro h112 h
 refine sy rfl (sy rfl (sy rfl (wy rfl (k60 d2) (s_load ti3 (et (k60 d5)) ((m17 _ ((le22.t (le106.t le111)) _ hS.a)).one d0) (dt (q60 p6)) (sy rfl (sy rfl ?_))))))
 refine zWd 68 h ?_ ?_
 intro h113 h
 refine sy rfl (sy rfl (sy rfl (wy rfl (k60 d8) (s_loads ti55 (et (k70 d1)) ((m17 _ ((le22.t (le106.t le111)) _ hS.a)).sb 2 2) rfl (dt (q70 p2)) ?_))))
 obtain ⟨r114,g115,h⟩:=bI h
 refine wy rfl (k60 d8) (s_callv isfn57 ef (e1 (et (k70 d2)) e0) (sema_plain_w (hg.t (le22.t (le106.t le111))) g115 hS) ?_)
 rintro _ w10 ⟨μ6,rfl,le116,hS⟩
 refine po (sy rfl (sy rfl (st (wnil (xl ?_)))))
 exact ⟨_,_,rfl,(aK20 (aK20 (aK9 (aO20 (aO7 (aI aZ)))))),_,(!r114),rfl,h,(le111.t le116),hS⟩
 intro h113 h
 refine sn rfl rfl (sn rfl rfl (sn rfl rfl (sn rfl rfl (sn rfl rfl (sn rfl rfl (sy rfl (st (wnil (xl ?_)))))))))
 exact ⟨_,_,rfl,(aK20 (aK20 (aK9 (aO20 (aO7 (aI aZ)))))),_,false,rfl,h,le111,hS⟩
 intro h108 h
 refine sn rfl rfl (sn rfl rfl (sn rfl rfl (sn rfl rfl (sn rfl rfl (sn rfl rfl ?_)))))
 iterate 2 refine st ?_
 refine sy rfl (sy rfl (sy rfl (wy rfl (k60 d2) (s_load ti3 (et (k60 d5)) ((m17 _ ((le22.t le106) _ hS.a)).one d0) (dt (q60 p6)) (sy rfl (sy rfl ?_))))))
 refine zWd 68 h ?_ ?_
 intro h117 h
 refine sy rfl (sy rfl (sy rfl (wy rfl (k60 d8) (s_loads ti55 (et (k70 d1)) ((m17 _ ((le22.t le106) _ hS.a)).sb 2 2) rfl (dt (q70 p2)) ?_))))
 obtain ⟨r118,g119,h⟩:=bI h
 refine wy rfl (k60 d8) (s_callv isfn57 ef (e1 (et (k70 d2)) e0) (sema_plain_w (hg.t (le22.t le106)) g119 hS) ?_)
 rintro _ w11 ⟨μ7,rfl,le120,hS⟩
 refine po (sy rfl (sy rfl (st (wnil (xl ?_)))))
 exact ⟨_,_,rfl,(aK20 (aK20 (aK9 (aO20 (aO7 (aI aZ)))))),_,(!r118),rfl,h,le120,hS⟩
 intro h117 h
 refine sn rfl rfl (sn rfl rfl (sn rfl rfl (sn rfl rfl (sn rfl rfl (sn rfl rfl (sy rfl (st (wnil (xl ?_)))))))))
 exact ⟨_,_,rfl,(aK20 (aK20 (aK9 (aO20 (aO7 (aI aZ)))))),_,false,rfl,h,Le.r,hS⟩
 rintro _ t w12 ⟨μ8,b107,rfl,h,le121,hS⟩
 unfold sema_head_j3 at h
 refine nrm (mK20 (mK20 (mK9 (mO20 (mO7 (mi mz)))))) (xn ?_)
 refine zCb h ?_ ?_
 intro h122 h
 refine nz (st (nw (cret (xr ?_))))
 obtain rfl:=oI h
 refine ret1 rfl d4 ?_
 exact ⟨_,rfl,(le22.t (le106.t le121)),hS⟩
 intro h122 h
 refine cskip (xn (nz (st (nw (cret ?_)))))
 obtain rfl:=oI h
 refine ret1 rfl d4 ?_
 exact ⟨_,rfl,(le22.t (le106.t le121)),hS⟩
theorem sema_body_w (hg:Le Gm μ0) {p_1:TSp} {p_2:TDef} {r:Int} (m5:Sl μ0 a3 c4 p_1.defs) (m7:Mr μ0 b6 p_1.named) (m8:At μ0 b1 o2 [.slice a3 p_1.defs.length c4,.map (some b6)]) (m13:Sl μ0 a11 c12 p_2.Params) (m16:Sl μ0 a14 c15 p_2.Body) (m17:At μ0 b9 o10 [.int .i64 p_2.Kind,S p_2.Name,.int .i64 p_2.Typ.Kind,S p_2.Typ.Gen,.int .i64 p_2.Takes.Kind,S p_2.Takes.Gen,.int .i64 p_2.Cap,.slice a11 p_2.Params.length c12,.slice a14 p_2.Body.length c15]) (h:sema_body fu p_1 p_2=some r) (hS:Sq μ0 w0 w (rsF)):CallsV prog 38 [.pointer (some ⟨b1,o2,none⟩),.pointer (some ⟨b9,o10,none⟩)] w (fun v w'=>∃ (μ':M) ,v=.int .i64 r∧Le μ0 μ'∧Sq μ' w0 w' (rsF)):=by
 unfold sema_body at h
 refine enter func38 rfl (frm:=_::_::u2 (u2 (u5 (u20 (u20 []))))) rfl (nz (st (ny (nz ?_))))
 iterate 3 refine st ?_
 refine ld ((m17 _ hS.a).one d0) (st (nw ?_))
 refine zCd h ?_ ?_
 intro h18 h
 refine nz (st (nw (cret (xr ?_))))
 obtain rfl:=oI h
 refine ret1 rfl d4 ?_
 exact ⟨_,rfl,Le.r,hS⟩
 intro h18 h
 refine cskip (xn (nz ?_))
 iterate 2 refine st ?_
 refine wl (s_mkmap hS ?_); clear hS; intro b19 w1 hb20 hS; refine po ?_
 refine wl (s_bsl underlying142 ti141 (Parts.s (et (k10 d5)) rfl Parts.z) rfl rfl hS ?_); clear hS; intro b21 w2 hb22 hS; refine po ?_
 refine wl (s_build ti144 pl144 (Fl.o rfl (et (k10 d3)) rfl rfl p0 (Fl.o rfl (et (k10 d4)) rfl rfl p1 (Fl.o rfl (et (k10 d6)) rfl rfl p2 Fl.z))) (dt (q10 p7)) ?_)
 refine wl (s_box (et (k10 d7)) rfl hS ?_); clear hS; intro b23 w3 hb24 hS; refine po ?_
 replace hS:=hS.blkRow (n:=1) (sz:=1) d1 rfl (by decide) p1
 replace hS:=(hS.bg Y1).bg Y1
 obtain ⟨ms25,hms26⟩:∃ x,x=([(b19,[],0)]:List (Nat×List MapEntry×Nat)):=⟨_,rfl⟩
 change Sq μ0 w0 _ (.blk b23 144 [.pointer (some ⟨b1,o2,none⟩),.pointer (some ⟨b9,o10,none⟩),.slice (some ⟨b21,0,none⟩) 1 1]::.row (.slice (some ⟨b21,0,none⟩) 1 1) 141 1 [([]:List (List UInt8×TType))].length (cOf [(b19,[],0)])::(mRs [(b19,[],0)]++rsF)) at hS; rw [← hms26] at hS
 have m27:Ms μ0 ms25 [([]:List (List UInt8×TType))]:=by rw [hms26]; exact ⟨_,_,rfl,(Mq.nil (κ:=List UInt8) (β:=TType) (μ:=μ0) (c:=0)),rfl⟩
 refine st (ny (nz ?_))
 iterate 3 refine st ?_
 refine ld ((m17 _ hS.a).one d0) (st (nw ?_))
 refine ccutE ([7]++rg 24 21) (by decide +kernel) (fun m w=>∃ μx l30 v28 ms29,m=(yK7 (yO1 7 (yK10 (yK6 (yO20 24 (yO1 44 []))))))∧sema_body_j1 fu p_1 p_2 l30=some r∧Le μ0 μx∧Sq μx w0 w (.row v28 141 1 l30.length (cOf ms29)::.blk b23 144 [.pointer (some ⟨b1,o2,none⟩),.pointer (some ⟨b9,o10,none⟩),v28]::(mRs ms29++rsF))∧Ms μx ms29 l30) (by rintro _ _ ⟨_,_,_,_,rfl,_⟩; rfl) ?_ ?_
 refine zCd h ?_ ?_
 intro h32 h
 refine nz ?_
 iterate 3 refine st ?_
 refine ld ((m17 _ hS.a).one d7) (wl (su (u_lensl underlying56 (et (k20 d7))) (dt (q20 p8)) (st (nw (cblock ?_)))))
 replace hS:=hS.bg Y1
 refine cloopE ([7]++rg 30 15) (by decide) (fun n m w=>∃ μx i63 l66 v64 ms65,m=(yK7 (yO1 7 (yK20 (yK1 (.i (.int .i64 i63)::(yO10 30 (yO5 40 [])))))))∧sema_body_l1 fu p_1 p_2 n i63 l66=some r∧Le μ0 μx∧Sq μx w0 w (.row v64 141 1 l66.length (cOf ms65)::.blk b23 144 [.pointer (some ⟨b1,o2,none⟩),.pointer (some ⟨b9,o10,none⟩),v64]::(mRs ms65++rsF))∧Ms μx ms65 l66) (by rintro _ _ _ ⟨_,_,_,_,_,rfl,_⟩; rfl) _ _ (aK7 (aO1 (aK20 (aK1 (aI (aO10 (aO5 aZ))))))) ⟨_,0,[([]:List (List UInt8×TType))],(.slice (some ⟨b21,0,none⟩) 1 1),ms25,rfl,h,Le.r,hS,m27⟩ ?_
 rintro n_1 _ t w4 ⟨μ1,i63,l66,v64,ms65,rfl,h,le98,hS,m99⟩
 rcases n_1 with _|n_1
 cases h
 unfold sema_body_l1 at h
 refine cnrm (mK7 (mO1 (mK20 (mK1 (mi (mO10 (mO5 mz))))))) (nz (st (ny ?_)))
 refine zCd h ?_ ?_
 intro h100 h
 refine cskip (xn (cseq (cblock (nz ?_))))
 obtain ⟨x101,g102,h⟩:=bI h
 obtain ⟨b103,o104,cs105,e106,f107,m108⟩:=SlR.elem (m13.up le98) g102
 obtain rfl:=m108
 refine wl (su (u_iax underlying56 ti107 (et (k20 d7)) (et (k20 d9)) e106) (dt (q30 p1)) (lds (f107 _ hS.a) rfl ?_))
 refine wl (s_alloc ti107 hS ?_); clear hS; intro b109 w5 hb110 hS; refine po ?_
 refine wl (s_storeA ti107 (et d7) (et (k30 d2)) rfl rfl hS d0 rfl p0 dn ?_)
 clear hS; intro w6 hS
 refine nw ?_
 refine ccutE (rg 33 11) (by decide) (fun m w=>∃ μx l113 v111 ms112,m=(yK20 (yK10 (yK3 (yO10 33 (yO1 43 [])))))∧sema_body_j2 i63 (sema_body_l1 fu p_1 p_2 n_1) l113=some r∧Le μ1 μx∧Sq μx w0 w (.row v111 141 1 l113.length (cOf ms112)::.blk b23 144 [.pointer (some ⟨b1,o2,none⟩),.pointer (some ⟨b9,o10,none⟩),v111]::(mRs ms112++rsF))∧Ms μx ms112 l113) (by rintro _ _ ⟨_,_,_,_,rfl,_⟩; rfl) ?_ ?_
 refine cdw hS ?_; clear hS; intro w7 hS
 refine sf_start (fpi 0 [0,1,2,3,4,5,11] rfl (fpi 1 [1,2,3,4,5,11] rfl (fpi 2 [2,3,4,5,11] rfl (fr_ 3 [3,4,5,11] rfl (u_load ti142 (et (k30 d5)) ((hS.blk d2).cell d2)) (q30 p6) ?_))))
 obtain ⟨x115,g116,h⟩:=bI h
 obtain ⟨b117,o118,b119,es120,c121,e122,f123,hms124,mq125⟩:=Row.mapElem (hS.get d1) m99 g116
 refine fp 4 [4,5,11] rfl (u_iax underlying142 ti141 (et (k30 d6)) ec e122) (q30 p7) (fr_ 5 [5,11] rfl (u_load ti141 (et (k30 d7)) ((f123 _ _ (hS.get d1)).one d0)) (q30 p8) (fpi 6 [6,7,11] rfl (fr_ 7 [7,11] rfl (u_load ti9 (et (k30 d9)) ((hS.blk d0).cell d0)) (q40 p0) (fpi 8 [8,9,10,11] rfl (fr_ 9 [9,10,11] rfl (u_loads ti55 (et (k40 d1)) ((hS.blk d0).cellsAt (Sb.s d1 (Sb.s d2 Sb.z))) rfl) (q40 p2) ?_)))))
 obtain ⟨r126,g127,h⟩:=bI h
 refine sf1 rfl rfl rfl rfl (wn0 rfl) (s_callv isfn58 ef (e1 (et (k40 d2)) e0) (sema_bare_w (hg.t le98) g127 hS) ?_)
 rintro _ w8 ⟨μ2,rfl,le128,hS⟩
 refine po ?_
 refine ⟨(Mons.s (u_load ti9 (et (k30 d9)) ((hS.blk d0).cell d0)) (Mons.s (u_load ti141 (et (k30 d7)) ((f123 _ _ (hS.get d1)).one d0)) (Mons.s (u_load ti142 (et (k30 d5)) ((hS.blk d2).cell d2)) Mons.z))),?_⟩
 refine sf1 rfl rfl rfl rfl (wn0 rfl) (s_mputS (pre:=[_,_,_]) (κ:=List UInt8) (β:=TType) (kk:=x101.Name) (xx:=r126) underlying141 underlying9 (et (k30 d8)) (et (k40 d0)) (et (k40 d3)) ⟨_,rfl,rfl⟩ hS hms124 (mq125.up le128) (m99.up le128) dn ?_); clear hS; intro ms129 w9 m130 e131 e132 hS; rw [e131,e132] at hS
 refine ⟨Mons.z,?_⟩
 refine sf_nil (xl ?_)
 replace hS:=hS.drop Rm.z
 exact ⟨_,_,rfl,(aK20 (aK10 (aK3 (aO10 (aO1 aZ))))),_,(l66.set (0:Int).toNat (mput x115 x101.Name r126)),_,_,rfl,h,le128,hS,m130⟩
 rintro _ t w10 ⟨μ3,l113,v111,ms112,rfl,h,le133,hS,m134⟩
 unfold sema_body_j2 at h
 refine nrm (mK20 (mK10 (mK3 (mO10 (mO1 mz))))) ?_
 refine (fun h=>bn (xn h)) ?_
 refine creg ?_
 obtain ⟨i135,g136,h⟩:=bI h
 refine wl (su (u_addc (et (k20 d9)) ec g136) (dt (q40 p4)) (st (wnil (xl ?_))))
 exact ⟨n_1,_,_,rfl,(aK7 (aO1 (aK20 (aK1 (aI (aO10 (aO5 aZ))))))),⟨_,i135,l113,v111,ms112,rfl,h,(le98.t le133),hS,m134⟩,Nat.lt_succ_self _⟩
 intro h100 h
 refine cexit ?_
 refine (fun h=>xe (xe (bh h))) ?_
 refine xl ?_
 exact ⟨_,_,rfl,(aK7 (aO1 (aK10 (aK6 (aO20 (aO1 aZ)))))),_,_,_,_,rfl,h,le98,hS,m99⟩
 intro h32 h
 refine cskip (xl ?_)
 replace hS:=hS.bg Y1
 exact ⟨_,_,rfl,(aK7 (aO1 (aK10 (aK6 (aO20 (aO1 aZ)))))),_,[([]:List (List UInt8×TType))],(.slice (some ⟨b21,0,none⟩) 1 1),_,rfl,h,Le.r,hS,m27⟩
 rintro _ t w11 ⟨μ4,l30,v28,ms29,rfl,h,le137,hS,m138⟩
 unfold sema_body_j1 at h
 refine nrm (mK7 (mO1 (mK10 (mK6 (mO20 (mO1 mz)))))) (xn (nz ?_))
 iterate 4 refine st ?_
 refine ld ((m17 _ (le137 _ hS.a)).one d8) ?_
 obtain ⟨r139,g140,h⟩:=bI h
 replace hS:=hS.bg Y1
 refine ca ((SemaS_sound fu).sema_stats (hg.t le137) (m5.up le137) (m7.up le137) (m8.up le137) (m13.up le137) (m16.up le137) (m17.up le137) m138 (m16.up le137) g140 hS) ?_
 rintro _ w12 ⟨μ5,v142,ms143,rfl,le141,hS,m144⟩
 refine po (st (nw (cret ?_)))
 obtain rfl:=oI h
 refine ret1 rfl d4 ?_
 replace hS:=(hS.drop Rm.z).drop Rm.z
 replace hS:=hS.popM (pre:=[]) (j:=0)
 exact ⟨_,rfl,(le137.t le141),hS⟩
theorem sema_named_w (hg:Le Gm μ0) {p_1:List TDef} {r:TSp×TFault} (m3:Sl μ0 a1 c2 p_1) (h:sema_named fu p_1=some r) (hS:Sq μ0 w0 w (rsF)):CallsV prog 17 [.slice a1 p_1.length c2] w (fun v w'=>∃ (μ':M) (b4:Nat) (o5:Nat) (a6:Option Addr) (c7:Nat) (b9:Nat),v=.tuple ⟨[.pointer (some ⟨b4,o5,none⟩),.agg ⟨[.int .i64 r.2.Err,.int .i64 r.2.At]⟩]⟩∧Le μ0 μ'∧Sq μ' w0 w' (rsF)∧Sl μ' a6 c7 r.1.defs∧Mr μ' b9 r.1.named∧At μ' b4 o5 [.slice a6 r.1.defs.length c7,.map (some b9)]):=by
 unfold sema_named at h
 refine enter func17 rfl (frm:=_::u1 (u2 (u50 (u50 [])))) rfl (nz (st ?_))
 refine wl (s_alloc ti26 hS ?_); clear hS; intro b12 w1 hb13 hS; refine po ?_
 refine nx (st ?_)
 refine wl (s_mkmap hS ?_); clear hS; intro b14 w2 hb15 hS; refine po ?_
 refine wl (s_build ti95 pl95 (Fl.o rfl (et (k10 d4)) rfl rfl p0 (Fl.o rfl (et (k10 d5)) rfl rfl p1 Fl.z)) (dt (q10 p6)) ?_)
 refine wl (s_box (et (k10 d6)) rfl hS ?_); clear hS; intro b16 w3 hb17 hS; refine po ?_
 refine st (ny (nz (st ?_)))
 obtain ⟨r18,g19,h⟩:=bI h
 refine ca (syn_wrong_w hg m3 g19 hS) ?_
 rintro _ w4 ⟨μ1,rfl,le20,hS⟩
 refine po ?_
 refine wl (s_alloc ti26 hS ?_); clear hS; intro b21 w5 hb22 hS; refine po ?_
 refine wl (s_storeA ti26 (et d5) (et (k10 d9)) rfl rfl hS d0 rfl p0 dn ?_)
 clear hS; intro w6 hS
 refine nx (st (ld ((hS.blk d0).cell d0) (st (nw ?_))))
 refine zCd h ?_ ?_
 intro h23 h
 refine cseq ?_
 refine cdw hS ?_; clear hS; intro w7 hS
 refine sf_start (fpi 0 [0,2,3] rfl (fr_ 1 [1,3] rfl (u_loads ti26 (et d5) (hS.blk d0).cells rfl) (q20 p4) (fpi 2 [2,3] rfl (sf1 rfl rfl rfl rfl (wn0 rfl) (s_storeA ti26 (et d3) (et (k20 d4)) rfl rfl hS d3 rfl p3 dn ?_)))))
 clear hS; intro w8 hS
 refine ⟨Mons.z,?_⟩
 refine sf_nil (xn (cret (xr ?_)))
 replace hS:=hS.bg Y2
 obtain ⟨μ2,le25,m24,hS⟩:=Sep.frzMap hS ((Mq.nil (κ:=List UInt8) (β:=TDef) (μ:=μ0) (c:=0)).up le20)
 replace hS:=hS.bg Y1
 obtain ⟨μ3,le27,m26,hS⟩:=Sep.frzAt hS
 obtain rfl:=oI h
 refine retN rfl (RVs.s (.t d2) (RVs.s (.a d3 ti26 (hS.blk d1).cells rfl) RVs.z)) ?_
 replace hS:=(hS.drop Rm.z).drop Rm.z
 exact ⟨_,_,0,_,_,_,rfl,(le20.t (le25.t le27)),hS,(m3.up (le20.t (le25.t le27))),(m24.up le27),m26⟩
 intro h23 h
 refine cskip (xn (nz (st (ny (nz (st (wl (su (u_lensl underlying22 (et (k20 d5))) (dt (q20 p6)) (st (nw (cblock ?_)))))))))))
 replace hS:=((hS.drop Rm.z).bg Y1).bg Y2
 refine cloopE ([2]++rg 7 3++rg 28 40) (by decide +kernel) (fun n m w=>∃ μx i94 i95 l98 es96 c97,m=(yK2 (yO1 2 (yK3 (.i (.int .i64 i94)::(yO3 7 (yK10 (yK7 (.i (.int .i64 i95)::(yO20 28 (yO20 48 []))))))))))∧sema_named_l1 fu p_1 n i94 i95 l98=some r∧Le μ1 μx∧Sq μx w0 w (.blk b12 26 [.int .i64 0,.int .i64 0]::.map b14 es96 c97::.blk b16 95 [.slice a1 p_1.length c2,.map (some b14)]::rsF)∧Mq μx es96 c97 l98) (by rintro _ _ _ ⟨_,_,_,_,_,_,rfl,_⟩; rfl) _ _ (aK2 (aO1 (aK3 (aI (aO3 (aK10 (aK7 (aI (aO20 (aO20 aZ)))))))))) ⟨_,0,0,([]:List (List UInt8×TDef)),[],0,rfl,h,Le.r,hS,((Mq.nil (κ:=List UInt8) (β:=TDef) (μ:=μ0) (c:=0)).up le20)⟩ ?_
 rintro n_1 _ t w9 ⟨μ4,i94,i95,l98,es96,c97,rfl,h,le166,hS,m167⟩
 rcases n_1 with _|n_1
 cases h
 unfold sema_named_l1 at h
 refine cnrm (mK2 (mO1 (mK3 (mi (mO3 (mK10 (mK7 (mi (mO20 (mO20 mz)))))))))) (nz (st (ny ?_)))
 refine zCd h ?_ ?_
 intro h168 h
 refine cskip (xn (cseq (cblock (nz ?_))))
 iterate 2 refine st ?_
 refine ny (cseq ?_)
 refine cdw hS ?_; clear hS; intro w10 hS
 refine sf_start (fpi 0 [0,1,2,3,9,10,11,12,13,14] rfl (fpi 1 [1,2,3,9,10,11,12,13,14] rfl (fpi 2 [2,3,9,10,11,12,13,14] rfl (fr_ 3 [3,9,10,11,12,13,14] rfl (u_load ti79 (et (k30 d3)) ((hS.blk d2).cell d1)) (q30 p4) (fpi 4 [4,6,7,8,9,10,11,12,13,14] rfl (fpi 5 [5,6,7,8,9,10,11,12,13,14] rfl ?_))))))
 obtain ⟨x169,g170,h⟩:=bI h
 obtain ⟨b171,o172,cs173,e174,f175,m176⟩:=SlR.elem (m3.up (le20.t le166)) g170
 obtain ⟨a177,c178,a180,c181,rfl,m179,m182⟩:=m176
 refine fp 6 [6,7,8,9,10,11,12,13,14] rfl (u_iax underlying22 ti59 (et (k30 d5)) (et (k30 d6)) e174) (q30 p7) (fpi 7 [7,8,9,10,11,12,13,14] rfl (fr_ 8 [8,9,10,11,12,13,14] rfl (u_load ti9 (et (k30 d8)) ((f175 _ hS.a).one d1)) (q30 p9) ?_))
 refine sf1 rfl rfl rfl rfl (wn0 rfl) (s_mgetP2 (κ:=List UInt8) (k:=x169.Name) (hrv:=fun _ _ h=>h) underlying79 underlying9 (et (k30 d4)) (et (k30 d9)) zv63 (hS.get d1) m167 ?_); intro v183 hv184; refine po ?_
 refine ⟨Mons.z,?_⟩
 refine fpi 10 [10,11,12,13,14] rfl (fpi 11 [11,13,14] rfl (fpi 12 [12,14] rfl (fpi 13 [13,14] rfl (fpi 14 [14] rfl (sf_nil (xn (nz (st (nw ?_)))))))))
 refine zCb h ?_ ?_
 intro h185 h
 refine nz ?_
 iterate 2 refine st ?_
 refine wl (s_build ti26 pl26 (Fl.o rfl ec rfl rfl p0 (Fl.o rfl (et (k40 d5)) rfl rfl p1 Fl.z)) (dt (q40 p6)) (st (wl (s_storeA ti26 (et d3) (et (k40 d6)) rfl rfl hS d0 rfl p0 dn ?_))))
 clear hS; intro w11 hS
 refine nw (cret ?_)
 refine (fun h=>xr (br (xr (xr (br (xr h)))))) ?_
 replace hS:=hS.bg Y1
 obtain ⟨μ5,le187,m186,hS⟩:=Sep.frzMap hS m167
 replace hS:=hS.bg Y1
 obtain ⟨μ6,le189,m188,hS⟩:=Sep.frzAt hS
 obtain rfl:=oI h
 refine retN rfl (RVs.s (.t d2) (RVs.s (.a d3 ti26 (hS.blk d0).cells rfl) RVs.z)) ?_
 replace hS:=hS.drop Rm.z
 exact ⟨_,_,0,_,_,_,rfl,(le20.t (le166.t (le187.t le189))),hS,(m3.up (le20.t (le166.t (le187.t le189)))),(m186.up le189),m188⟩
 intro h185 h
 refine cskip (xn (cseq ?_))
 refine cdw hS ?_; clear hS; intro w12 hS
 refine sf_start (fpi 0 [0,1,2,3,12] rfl (fpi 1 [1,2,3,12] rfl (fpi 2 [2,3,12] rfl (fr_ 3 [3,12] rfl (u_load ti79 (et (k40 d9)) ((hS.blk d2).cell d1)) (q50 p0) (fpi 4 [4,6,7,8,12] rfl (fpi 5 [5,6,7,8,12] rfl ?_))))))
 obtain ⟨x190,g191,h⟩:=bI h
 obtain ⟨b192,o193,cs194,e195,f196,m197⟩:=SlR.elem (m3.up (le20.t le166)) g191
 obtain ⟨a198,c199,a201,c202,rfl,m200,m203⟩:=m197
 refine fp 6 [6,7,8,12] rfl (u_iax underlying22 ti59 (et (k50 d1)) (et (k50 d2)) e195) (q50 p3) (fpi 7 [7,8,12] rfl (fr_ 8 [8,12] rfl (u_load ti9 (et (k50 d4)) ((f196 _ hS.a).one d1)) (q50 p5) (fpi 9 [9,11,12] rfl (fpi 10 [10,11,12] rfl ?_))))
 obtain ⟨x204,g205,h⟩:=bI h
 obtain ⟨b206,o207,cs208,e209,f210,m211⟩:=SlR.elem (m3.up (le20.t le166)) g205
 obtain ⟨a212,c213,a215,c216,rfl,m214,m217⟩:=m211
 refine fp 11 [11,12] rfl (u_iax underlying22 ti59 (et (k50 d6)) (et (k50 d7)) e209) (q50 p8) ?_
 refine sf1 rfl rfl rfl rfl (wn0 rfl) (s_mputM (κ:=List UInt8) (β:=TDef) (kk:=x190.Name) (xx:=x204) underlying79 underlying9 (et (k50 d0)) (et (k50 d5)) (et (k50 d8)) ⟨_,_,_,rfl,f210,⟨a212,c213,a215,c216,rfl,m214,m217⟩⟩ hS d1 m167 dn ?_); clear hS; intro es218 c219 w13 rs_ m220 hp_ hS; cases (show _=rs_ from hp_)
 replace hS:=Sep.reput hS p1
 refine ⟨Mons.z,?_⟩
 refine sf_nil (xn (nz ?_))
 iterate 2 refine st ?_
 obtain ⟨x221,g222,h⟩:=bI h
 obtain ⟨b223,o224,cs225,e226,f227,m228⟩:=SlR.elem (m3.up (le20.t le166)) g222
 obtain ⟨a229,c230,a232,c233,rfl,m231,m234⟩:=m228
 refine wl (su (u_iax underlying22 ti59 (et (k50 d9)) (et (k60 d0)) e226) (dt (q60 p1)) (st (ld ((f227 _ hS.a).one d0) (st (nw ?_)))))
 refine zCd h ?_ ?_
 intro h235 h
 refine creg (st ?_)
 obtain ⟨i236,g237,h⟩:=bI h
 refine wl (su (u_addc (et (k60 d5)) ec g237) (dt (q60 p6)) (st (wnil ?_)))
 refine (fun h=>bn (xn h)) ?_
 refine creg ?_
 obtain ⟨i238,g239,h⟩:=bI h
 refine wl (su (u_addc (et (k20 d7)) ec g239) (dt (q60 p7)) (st (wnil (xl ?_))))
 exact ⟨n_1,_,_,rfl,(aK2 (aO1 (aK3 (aI (aO3 (aK10 (aK7 (aI (aO20 (aO20 aZ)))))))))),⟨_,i236,i238,(mput l98 x190.Name x204),es218,c219,rfl,h,le166,hS,m220⟩,Nat.lt_succ_self _⟩
 intro h235 h
 refine cskip ?_
 refine (fun h=>bn (xn h)) ?_
 refine creg ?_
 obtain ⟨i240,g241,h⟩:=bI h
 refine wl (su (u_addc (et (k20 d7)) ec g241) (dt (q60 p7)) (st (wnil (xl ?_))))
 exact ⟨n_1,_,_,rfl,(aK2 (aO1 (aK3 (aI (aO3 (aK10 (aK7 (aI (aO20 (aO20 aZ)))))))))),⟨_,i94,i240,(mput l98 x190.Name x204),es218,c219,rfl,h,le166,hS,m220⟩,Nat.lt_succ_self _⟩
 intro h168 h
 refine cexit ?_
 refine (fun h=>xe (xe (bh h))) ?_
 refine xn (cseq (nz ?_))
 iterate 2 refine st ?_
 refine nw ?_
 refine zCd h ?_ ?_
 intro h242 h
 refine nz ?_
 iterate 2 refine st ?_
 refine wl (su (u_lensl underlying22 (et (k70 d1))) (dt (q70 p2)) (wl (s_build ti26 pl26 (Fl.o rfl ec rfl rfl p0 (Fl.o rfl (et (k70 d2)) rfl rfl p1 Fl.z)) (dt (q70 p3)) (st (wl (s_storeA ti26 (et d3) (et (k70 d3)) rfl rfl hS d0 rfl p0 dn ?_))))))
 clear hS; intro w14 hS
 refine nw (cret (xr ?_))
 replace hS:=hS.bg Y1
 obtain ⟨μ7,le244,m243,hS⟩:=Sep.frzMap hS m167
 replace hS:=hS.bg Y1
 obtain ⟨μ8,le246,m245,hS⟩:=Sep.frzAt hS
 obtain rfl:=oI h
 refine retN rfl (RVs.s (.t d2) (RVs.s (.a d3 ti26 (hS.blk d0).cells rfl) RVs.z)) ?_
 replace hS:=hS.drop Rm.z
 exact ⟨_,_,0,_,_,_,rfl,(le20.t (le166.t (le244.t le246))),hS,(m3.up (le20.t (le166.t (le244.t le246)))),(m243.up le246),m245⟩
 intro h242 h
 refine cskip (xn (cseq (nz (st ?_))))
 replace hS:=hS.bg Y1
 obtain ⟨μ9,le248,m247,hS⟩:=Sep.frzMap hS m167
 replace hS:=hS.bg Y1
 obtain ⟨μ10,le250,m249,hS⟩:=Sep.frzAt hS
 refine wl (su (u_mkfn (e1 (et (k70 d4)) e0) e0) (dt (q70 p5)) (st (wl (su (u_mkfn (e1 (et (k70 d6)) e0) e0) (dt (q70 p7)) ?_))))
 refine wl (s_bsl underlying98 ti97 (Parts.s (et (k70 d5)) rfl (Parts.s (et (k70 d7)) rfl Parts.z)) rfl rfl hS ?_); clear hS; intro b251 w15 hb252 hS; refine po ?_
 refine wl (su (u_lensl underlying98 (et (k70 d8))) (dt (q70 p9)) (st (nw (cblock (cunroll 3 (crnd (nz (st (ny (cift (et (k80 d1)) (cskip (xn (cseq (cblock (nz (wl (su (u_ia underlying98 ti97 (et (k70 d8)) (et (k80 d0)) (by decide) rfl) (dt (q80 p2)) (ld ((hS.blk d0).cell d0) (st (nx (st (wl (su (u_lensl underlying22 (et (k80 d4))) (dt (q80 p5)) (st (nw (cblock ?_))))))))))))))))))))))))))
 replace hS:=hS.bg Y1
 refine cloopE ([2]++rg 12 2++rg 87 14) (by decide) (fun n m w=>∃ μx i270,m=(yK2 (yO1 2 (yK9 (yO2 12 (yK50 (yK20 (yK2 (.i (.int .i64 i270)::(yO10 87 (yO4 97 []))))))))))∧sema_named_l2 fu p_1 l98 n i270=some r∧Le μ10 μx∧Sq μx w0 w (.blk b12 26 [.int .i64 0,.int .i64 0]::.blk b251 97 [.func (.func 37) ⟨[.pointer (some ⟨b16,0,none⟩)]⟩ ⟨[]⟩,.func (.func 38) ⟨[.pointer (some ⟨b16,0,none⟩)]⟩ ⟨[]⟩]::rsF)) (by rintro _ _ _ ⟨_,_,rfl,_⟩; rfl) _ _ (aK2 (aO1 (aK9 (aO2 (aK50 (aK20 (aK2 (aI (aO10 (aO4 aZ)))))))))) ⟨_,0,rfl,h,Le.r,hS⟩ ?_
 rintro n_2 _ t w16 ⟨μ11,i270,rfl,h,le290,hS⟩
 rcases n_2 with _|n_2
 cases h
 unfold sema_named_l2 at h
 refine cnrm (mK2 (mO1 (mK9 (mO2 (mK50 (mK20 (mK2 (mi (mO10 (mO4 mz)))))))))) (nz (st (ny ?_)))
 refine zCd h ?_ ?_
 intro h291 h
 refine cskip (xn (cseq (cblock (nz ?_))))
 iterate 2 refine st ?_
 refine nx ?_
 iterate 3 refine st ?_
 obtain ⟨x292,g293,h⟩:=bI h
 obtain ⟨b294,o295,cs296,e297,f298,m299⟩:=SlR.elem (m3.up (le20.t (le166.t (le248.t (le250.t le290))))) g293
 obtain ⟨a300,c301,a303,c304,rfl,m302,m305⟩:=m299
 refine wl (su (u_iax underlying22 ti59 (et (k90 d0)) (et (k90 d1)) e297) (dt (q90 p2)) ?_)
 obtain ⟨r306,g307,h⟩:=bI h
 refine wl (s_callB isfn37 (et (k80 d9)) (e1 (et (k90 d2)) e0) (sema_head_w (p_1:=(TSp.mk p_1 l98)) (hg.t (le20.t (le166.t (le248.t (le250.t le290))))) (m3.up (le20.t (le166.t (le248.t (le250.t le290))))) (m247.up (le250.t le290)) (m249.up le290) m302 m305 f298 g307 hS) ?_)
 rintro _ w17 ⟨μ12,rfl,le308,hS⟩
 refine po (st (nx ?_))
 iterate 2 refine st ?_
 refine nw ?_
 refine zCd h ?_ ?_
 intro h309 h
 refine nz ?_
 iterate 3 refine st ?_
 refine wl (s_build ti26 pl26 (Fl.o rfl (et (k90 d7)) rfl rfl p0 (Fl.o rfl (et (k90 d8)) rfl rfl p1 Fl.z)) (dt (q90 p9)) (st (wl (s_storeA ti26 (et d3) (et (k90 d9)) rfl rfl hS d0 rfl p0 dn ?_))))
 clear hS; intro w18 hS
 refine nw (cret ((fun h=>br (xr (xr (br (br (xr (xr (br (xr h))))))))) ?_))
 obtain rfl:=oI h
 refine retN rfl (RVs.s (.t d2) (RVs.s (.a d3 ti26 (hS.blk d0).cells rfl) RVs.z)) ?_
 replace hS:=(hS.drop Rm.z).drop Rm.z
 exact ⟨_,_,0,_,_,_,rfl,(le20.t (le166.t (le248.t (le250.t (le290.t le308))))),hS,(m3.up (le20.t (le166.t (le248.t (le250.t (le290.t le308)))))),(m247.up (le250.t (le290.t le308))),(m249.up (le290.t le308))⟩
 intro h309 h
 refine cskip ?_
 refine (fun h=>bn (xn h)) ?_
 refine creg ?_
 obtain ⟨i310,g311,h⟩:=bI h
 refine wl (su (u_addc (et (k80 d6)) ec g311) (dt (q100 p0)) (st (wnil (xl ?_))))
 exact ⟨n_2,_,_,rfl,(aK2 (aO1 (aK9 (aO2 (aK50 (aK20 (aK2 (aI (aO10 (aO4 aZ)))))))))),⟨_,i310,rfl,h,(le290.t le308),hS⟩,Nat.lt_succ_self _⟩
 intro h291 h
 refine cexit ?_
 refine (fun h=>xe (xe (bh h))) ?_
 refine (fun h=>bn (xn h)) ?_
 refine creg (wl (su (u_addc (et (k80 d0)) ec (c:=1) (by decide)) (dt (q100 p1)) (st (wnil (xl (xrnd (crnd (nz (st (ny (cift (et (k80 d1)) (cskip (xn (cseq (cblock (nz (wl (su (u_ia underlying98 ti97 (et (k70 d8)) (et (k80 d0)) (by decide) rfl) (dt (q80 p2)) (ld ((hS.blk d1).cell d1) (st (nx (st (wl (su (u_lensl underlying22 (et (k80 d4))) (dt (q80 p5)) (st (nw (cblock ?_)))))))))))))))))))))))))))
 refine cloopE ([2]++rg 12 2++rg 87 14) (by decide) (fun n m w=>∃ μx i329,m=(yK2 (yO1 2 (yK9 (yO2 12 (yK50 (yK20 (yK2 (.i (.int .i64 i329)::(yO10 87 (yO4 97 []))))))))))∧sema_named_l3 fu p_1 l98 n i329=some r∧Le μ11 μx∧Sq μx w0 w (.blk b12 26 [.int .i64 0,.int .i64 0]::.blk b251 97 [.func (.func 37) ⟨[.pointer (some ⟨b16,0,none⟩)]⟩ ⟨[]⟩,.func (.func 38) ⟨[.pointer (some ⟨b16,0,none⟩)]⟩ ⟨[]⟩]::rsF)) (by rintro _ _ _ ⟨_,_,rfl,_⟩; rfl) _ _ (aK2 (aO1 (aK9 (aO2 (aK50 (aK20 (aK2 (aI (aO10 (aO4 aZ)))))))))) ⟨_,0,rfl,h,Le.r,hS⟩ ?_
 rintro n_3 _ t w19 ⟨μ13,i329,rfl,h,le349,hS⟩
 rcases n_3 with _|n_3
 cases h
 unfold sema_named_l3 at h
 refine cnrm (mK2 (mO1 (mK9 (mO2 (mK50 (mK20 (mK2 (mi (mO10 (mO4 mz)))))))))) (nz (st (ny ?_)))
 refine zCd h ?_ ?_
 intro h350 h
 refine cskip (xn (cseq (cblock (nz ?_))))
 iterate 2 refine st ?_
 refine nx ?_
 iterate 3 refine st ?_
 obtain ⟨x351,g352,h⟩:=bI h
 obtain ⟨b353,o354,cs355,e356,f357,m358⟩:=SlR.elem (m3.up (le20.t (le166.t (le248.t (le250.t (le290.t le349)))))) g352
 obtain ⟨a359,c360,a362,c363,rfl,m361,m364⟩:=m358
 refine wl (su (u_iax underlying22 ti59 (et (k90 d0)) (et (k90 d1)) e356) (dt (q90 p2)) ?_)
 obtain ⟨r365,g366,h⟩:=bI h
 refine wl (s_callB isfn38 (et (k80 d9)) (e1 (et (k90 d2)) e0) (sema_body_w (p_1:=(TSp.mk p_1 l98)) (hg.t (le20.t (le166.t (le248.t (le250.t (le290.t le349)))))) (m3.up (le20.t (le166.t (le248.t (le250.t (le290.t le349)))))) (m247.up (le250.t (le290.t le349))) (m249.up (le290.t le349)) m361 m364 f357 g366 hS) ?_)
 rintro _ w20 ⟨μ14,rfl,le367,hS⟩
 refine po (st (nx ?_))
 iterate 2 refine st ?_
 refine nw ?_
 refine zCd h ?_ ?_
 intro h368 h
 refine nz ?_
 iterate 3 refine st ?_
 refine wl (s_build ti26 pl26 (Fl.o rfl (et (k90 d7)) rfl rfl p0 (Fl.o rfl (et (k90 d8)) rfl rfl p1 Fl.z)) (dt (q90 p9)) (st (wl (s_storeA ti26 (et d3) (et (k90 d9)) rfl rfl hS d0 rfl p0 dn ?_))))
 clear hS; intro w21 hS
 refine nw (cret ((fun h=>br (xr (xr (br (br (xr (xr (br (xr h))))))))) ?_))
 obtain rfl:=oI h
 refine retN rfl (RVs.s (.t d2) (RVs.s (.a d3 ti26 (hS.blk d0).cells rfl) RVs.z)) ?_
 replace hS:=(hS.drop Rm.z).drop Rm.z
 exact ⟨_,_,0,_,_,_,rfl,(le20.t (le166.t (le248.t (le250.t (le290.t (le349.t le367)))))),hS,(m3.up (le20.t (le166.t (le248.t (le250.t (le290.t (le349.t le367))))))),(m247.up (le250.t (le290.t (le349.t le367)))),(m249.up (le290.t (le349.t le367)))⟩
 intro h368 h
 refine cskip ?_
 refine (fun h=>bn (xn h)) ?_
 refine creg ?_
 obtain ⟨i369,g370,h⟩:=bI h
 refine wl (su (u_addc (et (k80 d6)) ec g370) (dt (q100 p0)) (st (wnil (xl ?_))))
 exact ⟨n_3,_,_,rfl,(aK2 (aO1 (aK9 (aO2 (aK50 (aK20 (aK2 (aI (aO10 (aO4 aZ)))))))))),⟨_,i369,rfl,h,(le349.t le367),hS⟩,Nat.lt_succ_self _⟩
 intro h350 h
 refine cexit ?_
 refine (fun h=>xe (xe (bh h))) ?_
 refine (fun h=>bn (xn h)) ?_
 refine creg (wl (su (u_addc (et (k80 d0)) ec (c:=2) (by decide)) (dt (q100 p1)) (st (wnil (xl (xrnd (crnd (nz (st (ny (ciff (et (k80 d1)) (cexit ?_))))))))))))
 refine (fun h=>xe (xe (bh h))) ?_
 refine xn (nz (st (wl (s_build ti26 pl26 Fl.z (dt (q100 p3)) (st (wl (s_storeA ti26 (et d3) (et (k100 d3)) rfl rfl hS d0 rfl p0 dn ?_)))))))
 clear hS; intro w22 hS
 refine nw (cret ?_)
 obtain rfl:=oI h
 refine retN rfl (RVs.s (.t d2) (RVs.s (.a d3 ti26 (hS.blk d0).cells rfl) RVs.z)) ?_
 replace hS:=(hS.drop Rm.z).drop Rm.z
 exact ⟨_,_,0,_,_,_,rfl,(le20.t (le166.t (le248.t (le250.t (le290.t le349))))),hS,(m3.up (le20.t (le166.t (le248.t (le250.t (le290.t le349)))))),(m247.up (le250.t (le290.t le349))),(m249.up (le290.t le349))⟩
end Go.Proofs.Yteiemedhecjgiaa
set_option maxRecDepth 100000
set_option maxHeartbeats 20000000
namespace Go.Proofs.Yteiemedhecjgiaa
open Go.Wk Go.Xt Go.Y Try
variable {b1 b6 b9 c2 c4 c12 c15 fu o2 o10:Nat} {a1 a3 a11 a14:Option Addr} {μ0:M} {w0 w:World} {rsF:List Res}
def uses_expr_S (q:(List (List UInt8))→(List (List UInt8))→(List (List UInt8))→TExpr→Option (List (List UInt8)×List (List UInt8)×List (List UInt8))):Prop:=∀ {μ0:M} {w0 w:World} {rsF:List Res} (hg:Le Gm μ0) {b1:Nat} {call_2:List (List UInt8)} {v3:Value} {cs4:List Value} {send_6:List (List UInt8)} {v7:Value} {cs8:List Value} {recv_10:List (List UInt8)} {v11:Value} {cs12:List Value} {p_2:TExpr} {b14 o15:Nat} {a16:Option Addr} {c17:Nat} {r:List (List UInt8)×List (List UInt8)×List (List UInt8)} (m5:Rw μ0 cs4 call_2) (m9:Rw μ0 cs8 send_6) (m13:Rw μ0 cs12 recv_10) (m18:Sl μ0 a16 c17 p_2.Kids) (m19:At μ0 b14 o15 [.int .i64 p_2.Kind,.int .i64 p_2.N,S p_2.Name,.slice a16 p_2.Kids.length c17]) (h:q call_2 send_6 recv_10 p_2=some r) (hS:Sq μ0 w0 w (.blk b1 61 [v3,v7,v11]::.row v3 9 1 call_2.length cs4::.row v7 9 1 send_6.length cs8::.row v11 9 1 recv_10.length cs12::rsF)),CallsV prog 60 [.pointer (some ⟨b1,0,none⟩),.pointer (some ⟨b14,o15,none⟩)] w (fun v w'=>∃ (μ':M) (v20:Value) (cs21:List Value) (v23:Value) (cs24:List Value) (v26:Value) (cs27:List Value),v=.tuple ⟨[]⟩∧Le μ0 μ'∧Sq μ' w0 w' (.blk b1 61 [v20,v23,v26]::.row v20 9 1 r.1.length cs21::.row v23 9 1 r.2.1.length cs24::.row v26 9 1 r.2.2.length cs27::rsF)∧Rw μ' cs21 r.1∧Rw μ' cs24 r.2.1∧Rw μ' cs27 r.2.2)
structure SemaUSound (sf:SemaU):Prop where
  uses_expr:uses_expr_S sf.uses_expr
theorem uses_expr_w {self:SemaU} (IH:SemaUSound self):uses_expr_S (uses_expr self):=by
 intro μ0 w0 w rsF hg b1 call_2 v3 cs4 send_6 v7 cs8 recv_10 v11 cs12 p_2 b14 o15 a16 c17 r m5 m9 m13 m18 m19 h hS
 unfold uses_expr at h
 refine enter func60 rfl (frm:=_::_::u5 (u50 [])) rfl (cseq (nz ?_))
 iterate 3 refine st ?_
 refine ld ((m19 _ hS.a).one d0) (nw ?_)
 refine ccutE (rg 9 31) (by decide +kernel) (fun m w=>∃ μx l31 v29 cs30 l35 v33 cs34,m=(yK9 (yO20 9 (yO10 29 (yO1 39 []))))∧uses_expr_j1 self p_2 send_6 l31 l35=some r∧Le μ0 μx∧Sq μx w0 w (.blk b1 61 [v29,v7,v33]::.row v29 9 1 l31.length cs30::.row v7 9 1 send_6.length cs8::.row v33 9 1 l35.length cs34::rsF)∧Rw μx cs30 l31∧Rw μx cs34 l35) (by rintro _ _ ⟨_,_,_,_,_,_,_,rfl,_⟩; rfl) ?_ ?_
 refine cblock (cseq (nz ?_))
 iterate 2 refine st ?_
 refine nw ?_
 refine ccutE ([11]) (by decide) (fun m w=>∃ μx b37,m=(yK9 (.i (.bool b37)::(yK1 (yO1 11 []))))∧uses_expr_j2 self call_2 p_2 send_6 recv_10 b37=some r∧Le μ0 μx∧Sq μx w0 w (.blk b1 61 [v3,v7,v11]::.row v3 9 1 call_2.length cs4::.row v7 9 1 send_6.length cs8::.row v11 9 1 recv_10.length cs12::rsF)) (by rintro _ _ ⟨_,_,rfl,_⟩; rfl) ?_ ?_
 refine zCd h ?_ ?_
 intro h38 h
 refine cskip (xl ?_)
 exact ⟨_,_,rfl,(aK9 (aI (aK1 (aO1 aZ)))),_,(decide (p_2.Kind=19)),rfl,h,Le.r,hS⟩
 intro h38 h
 refine creg ?_
 iterate 2 refine st ?_
 refine wnil (xl ?_)
 exact ⟨_,_,rfl,(aK9 (aI (aK1 (aO1 aZ)))),_,(decide (p_2.Kind=22)),rfl,h,Le.r,hS⟩
 rintro _ t w1 ⟨μ1,b37,rfl,h,le39,hS⟩
 unfold uses_expr_j2 at h
 refine nrm (mK9 (mi (mK1 (mO1 mz)))) (xn ?_)
 refine zCb h ?_ ?_
 intro h40 h
 refine ccutE (rg 12 13) (by decide) (fun m w=>∃ μx l43 v41 cs42,m=(yK10 (yK2 (yO10 12 (yO3 22 []))))∧uses_expr_j3 self p_2 send_6 recv_10 l43=some r∧Le μ1 μx∧Sq μx w0 w (.blk b1 61 [v41,v7,v11]::.row v41 9 1 l43.length cs42::.row v7 9 1 send_6.length cs8::.row v11 9 1 recv_10.length cs12::rsF)∧Rw μx cs42 l43) (by rintro _ _ ⟨_,_,_,_,rfl,_⟩; rfl) ?_ ?_
 refine cdw hS ?_; clear hS; intro w2 hS
 refine sf_start (fpi 0 [0,11,12,13] rfl (fpi 1 [1,2,3,4,10,11,12,13] rfl (fpi 2 [2,3,4,10,11,12,13] rfl (fpi 3 [3,4,10,11,12,13] rfl (fr_ 4 [4,10,11,12,13] rfl (u_load ti38 (et (k10 d5)) ((hS.blk d0).cell d0)) (q10 p6) (fpi 5 [5,6,7,8,9,10,11,12,13] rfl (fpi 6 [6,7,8,9,10,11,12,13] rfl (fpi 7 [7,8,9,10,11,12,13] rfl (fr_ 8 [8,9,10,11,12,13] rfl (u_load ti9 (et (k10 d9)) ((m19 _ (le39 _ hS.a)).one d2)) (q20 p0) ?_)))))))))
 refine sf1 rfl rfl rfl rfl (wn0 rfl) (s_bsl underlying38 ti9 (Parts.s (et (k20 d0)) rfl Parts.z) rfl rfl hS ?_); clear hS; intro b45 w3 hb46 hS; refine po ?_
 refine ⟨(Mons.s (u_load ti38 (et (k10 d5)) ((hS.blk d1).cell d0)) Mons.z),?_⟩
 obtain ⟨l49,g50,h⟩:=bI h
 have m51:Rw μ1 [S p_2.Name] [p_2.Name]:=(Rw.one (α:=List UInt8) rfl)
 have m48:=Rw.app (m5.up le39) m51 g50
 refine sf1 rfl rfl rfl rfl (wn0 rfl) (s_app1 underlying38 ti9 rfl (et (k10 d6)) (et (k20 d1)) hS d2 (hS.blk d0).cells m51 rfl g50 (by decide) ?_); clear hS; intro v47 w4 rs_ hp_ hS; cases (show _=rs_ from hp_)
 replace hS:=Sep.reput hS p2; refine po ?_
 replace hS:=hS.drop Rm.z
 refine ⟨Mons.z,?_⟩
 refine fpi 11 [11,12,13] rfl (fpi 12 [12,13] rfl (sf1 rfl rfl rfl rfl (wn0 rfl) (s_store1 ti38 (et (k20 d4)) (et (k20 d2)) (hS.get d1).cellV hS d0 p0 rfl p0 dn ?_)))
 clear hS; intro w5 hS
 refine ⟨Mons.z,?_⟩
 refine sf_nil (xl ?_)
 exact ⟨_,_,rfl,(aK10 (aK2 (aO10 (aO3 aZ)))),_,_,_,(cs4++[S p_2.Name]),rfl,h,Le.r,hS,m48⟩
 rintro _ t w6 ⟨μ2,l43,v41,cs42,rfl,h,le52,hS,m53⟩
 unfold uses_expr_j3 at h
 refine nrm (mK10 (mK2 (mO10 (mO3 mz)))) ?_
 refine (fun h=>bn (xl h)) ?_
 exact ⟨_,_,rfl,(aK9 (aO20 (aO10 (aO1 aZ)))),_,_,_,_,recv_10,_,_,rfl,h,(le39.t le52),hS,m53,(m13.up (le39.t le52))⟩
 intro h40 h
 refine nz ?_
 iterate 2 refine st ?_
 refine nw ?_
 refine zCd h ?_ ?_
 intro h54 h
 refine ccutE (rg 27 13) (by decide) (fun m w=>∃ μx l57 v55 cs56,m=(yK20 (yK7 (yO10 27 (yO3 37 []))))∧uses_expr_j4 self call_2 p_2 send_6 l57=some r∧Le μ1 μx∧Sq μx w0 w (.blk b1 61 [v3,v7,v55]::.row v3 9 1 call_2.length cs4::.row v7 9 1 send_6.length cs8::.row v55 9 1 l57.length cs56::rsF)∧Rw μx cs56 l57) (by rintro _ _ ⟨_,_,_,_,rfl,_⟩; rfl) ?_ ?_
 refine cdw hS ?_; clear hS; intro w7 hS
 refine sf_start (fpi 0 [0,11,12,13] rfl (fpi 1 [1,2,3,4,10,11,12,13] rfl (fpi 2 [2,3,4,10,11,12,13] rfl (fpi 3 [3,4,10,11,12,13] rfl (fr_ 4 [4,10,11,12,13] rfl (u_load ti38 (et (k30 d0)) ((hS.blk d0).cell d2)) (q30 p1) (fpi 5 [5,6,7,8,9,10,11,12,13] rfl (fpi 6 [6,7,8,9,10,11,12,13] rfl (fpi 7 [7,8,9,10,11,12,13] rfl (fr_ 8 [8,9,10,11,12,13] rfl (u_load ti9 (et (k30 d4)) ((m19 _ (le39 _ hS.a)).one d2)) (q30 p5) ?_)))))))))
 refine sf1 rfl rfl rfl rfl (wn0 rfl) (s_bsl underlying38 ti9 (Parts.s (et (k30 d5)) rfl Parts.z) rfl rfl hS ?_); clear hS; intro b59 w8 hb60 hS; refine po ?_
 refine ⟨(Mons.s (u_load ti38 (et (k30 d0)) ((hS.blk d1).cell d2)) Mons.z),?_⟩
 obtain ⟨l63,g64,h⟩:=bI h
 have m65:Rw μ1 [S p_2.Name] [p_2.Name]:=(Rw.one (α:=List UInt8) rfl)
 have m62:=Rw.app (m13.up le39) m65 g64
 refine sf1 rfl rfl rfl rfl (wn0 rfl) (s_app1 underlying38 ti9 rfl (et (k30 d1)) (et (k30 d6)) hS d4 (hS.blk d0).cells m65 rfl g64 (by decide) ?_); clear hS; intro v61 w9 rs_ hp_ hS; cases (show _=rs_ from hp_)
 replace hS:=Sep.reput hS p4; refine po ?_
 replace hS:=hS.drop Rm.z
 refine ⟨Mons.z,?_⟩
 refine fpi 11 [11,12,13] rfl (fpi 12 [12,13] rfl (sf1 rfl rfl rfl rfl (wn0 rfl) (s_store1 ti38 (et (k30 d9)) (et (k30 d7)) (hS.get d3).cellV hS d0 p2 rfl p0 dn ?_)))
 clear hS; intro w10 hS
 refine ⟨Mons.z,?_⟩
 refine sf_nil (xl ?_)
 exact ⟨_,_,rfl,(aK20 (aK7 (aO10 (aO3 aZ)))),_,_,_,(cs12++[S p_2.Name]),rfl,h,Le.r,hS,m62⟩
 rintro _ t w11 ⟨μ3,l57,v55,cs56,rfl,h,le66,hS,m67⟩
 unfold uses_expr_j4 at h
 refine nrm (mK20 (mK7 (mO10 (mO3 mz)))) ?_
 refine (fun h=>bn (xl h)) ?_
 exact ⟨_,_,rfl,(aK9 (aO20 (aO10 (aO1 aZ)))),_,call_2,_,_,_,_,_,rfl,h,(le39.t le66),hS,(m5.up (le39.t le66)),m67⟩
 intro h54 h
 refine cskip ?_
 refine (fun h=>bn (xl h)) ?_
 exact ⟨_,_,rfl,(aK9 (aO20 (aO10 (aO1 aZ)))),_,call_2,_,_,recv_10,_,_,rfl,h,le39,hS,(m5.up le39),(m13.up le39)⟩
 rintro _ t w12 ⟨μ4,l31,v29,cs30,l35,v33,cs34,rfl,h,le68,hS,m69,m70⟩
 unfold uses_expr_j1 at h
 refine nrm (mK9 (mO20 (mO10 (mO1 mz)))) (xn (nz ?_))
 iterate 3 refine st ?_
 refine ld ((m19 _ (le68 _ hS.a)).one d3) (wl (su (u_lensl underlying117 (et (k40 d3))) (dt (q40 p4)) (st (nw (cblock ?_)))))
 refine cloopE ([4]++rg 46 11) (by decide) (fun n m w=>∃ μx i96 l99 v97 cs98 l103 v101 cs102 l107 v105 cs106,m=(yK4 (yO1 4 (yK20 (yK20 (.i (.int .i64 i96)::(yO10 46 (yO1 56 [])))))))∧uses_expr_l1 self p_2 n i96 l99 l103 l107=some r∧Le μ4 μx∧Sq μx w0 w (.blk b1 61 [v97,v101,v105]::.row v97 9 1 l99.length cs98::.row v101 9 1 l103.length cs102::.row v105 9 1 l107.length cs106::rsF)∧Rw μx cs98 l99∧Rw μx cs102 l103∧Rw μx cs106 l107) (by rintro _ _ _ ⟨_,_,_,_,_,_,_,_,_,_,_,rfl,_⟩; rfl) _ _ (aK4 (aO1 (aK20 (aK20 (aI (aO10 (aO1 aZ))))))) ⟨_,0,l31,v29,cs30,send_6,v7,cs8,l35,v33,cs34,rfl,h,Le.r,hS,m69,(m9.up le68),m70⟩ ?_
 rintro n_1 _ t w13 ⟨μ5,i96,l99,v97,cs98,l103,v101,cs102,l107,v105,cs106,rfl,h,le134,hS,m135,m136,m137⟩
 rcases n_1 with _|n_1
 cases h
 unfold uses_expr_l1 at h
 refine cnrm (mK4 (mO1 (mK20 (mK20 (mi (mO10 (mO1 mz))))))) (nz (st (ny ?_)))
 refine zCd h ?_ ?_
 intro h138 h
 refine cskip (xn (cseq (cblock (nz ?_))))
 iterate 2 refine st ?_
 refine nw (creg ?_)
 iterate 4 refine st ?_
 refine ld ((m19 _ ((le68.t le134) _ hS.a)).one d3) (st ?_)
 obtain ⟨x139,g140,h⟩:=bI h
 obtain ⟨b141,o142,cs143,e144,f145,m146⟩:=SlR.elem (m18.up (le68.t le134)) g140
 obtain ⟨a147,c148,rfl,m149⟩:=TExpr.o m146
 refine wl (su (u_iax underlying117 ti119 (et (k50 d2)) (et (k50 d3)) e144) (dt (q50 p4)) ?_)
 obtain ⟨r150,g151,h⟩:=bI h
 replace hS:=(((hS.bg Y3).bg Y3).bg Y3).bg Y3
 refine ca (IH.uses_expr (hg.t (le68.t le134)) m135 m136 m137 m149 f145 g151 hS) ?_
 rintro _ w14 ⟨μ6,v153,cs154,v156,cs157,v159,cs160,rfl,le152,hS,m155,m158,m161⟩
 refine po (wnil ?_)
 refine (fun h=>bn (xn h)) ?_
 refine creg ?_
 obtain ⟨i162,g163,h⟩:=bI h
 refine wl (su (u_addc (et (k40 d5)) ec g163) (dt (q50 p6)) (st (wnil (xl ?_))))
 exact ⟨n_1,_,_,rfl,(aK4 (aO1 (aK20 (aK20 (aI (aO10 (aO1 aZ))))))),⟨_,i162,r150.1,v153,cs154,r150.2.1,v156,cs157,r150.2.2,v159,cs160,rfl,h,(le134.t le152),hS,m155,m158,m161⟩,Nat.lt_succ_self _⟩
 intro h138 h
 refine cexit ?_
 refine (fun h=>xe (xe (bh h))) ?_
 obtain rfl:=oI h
 refine end0 rfl ?_
 exact ⟨_,_,_,_,_,_,_,rfl,(le68.t le134),hS,m135,m136,m137⟩
theorem SemaU_sound:∀ n,SemaUSound (SemaU_run n)
  | 0=>⟨(by intro; intros; rename_i h _; cases h)⟩
  | n+1=>⟨uses_expr_w (SemaU_sound n)⟩
def uses_stats_S (q:(List (List UInt8))→(List (List UInt8))→(List (List UInt8))→(List TStat)→Option (List (List UInt8)×List (List UInt8)×List (List UInt8))):Prop:=∀ {μ0:M} {w0 w:World} {rsF:List Res} (hg:Le Gm μ0) {b1:Nat} {call_2:List (List UInt8)} {v3:Value} {cs4:List Value} {send_6:List (List UInt8)} {v7:Value} {cs8:List Value} {recv_10:List (List UInt8)} {v11:Value} {cs12:List Value} {p_2:List TStat} {a14:Option Addr} {c15:Nat} {r:List (List UInt8)×List (List UInt8)×List (List UInt8)} (m5:Rw μ0 cs4 call_2) (m9:Rw μ0 cs8 send_6) (m13:Rw μ0 cs12 recv_10) (m16:Sl μ0 a14 c15 p_2) (h:q call_2 send_6 recv_10 p_2=some r) (hS:Sq μ0 w0 w (.blk b1 61 [v3,v7,v11]::.row v3 9 1 call_2.length cs4::.row v7 9 1 send_6.length cs8::.row v11 9 1 recv_10.length cs12::rsF)),CallsV prog 39 [.pointer (some ⟨b1,0,none⟩),.slice a14 p_2.length c15] w (fun v w'=>∃ (μ':M) (v17:Value) (cs18:List Value) (v20:Value) (cs21:List Value) (v23:Value) (cs24:List Value),v=.tuple ⟨[]⟩∧Le μ0 μ'∧Sq μ' w0 w' (.blk b1 61 [v17,v20,v23]::.row v17 9 1 r.1.length cs18::.row v20 9 1 r.2.1.length cs21::.row v23 9 1 r.2.2.length cs24::rsF)∧Rw μ' cs18 r.1∧Rw μ' cs21 r.2.1∧Rw μ' cs24 r.2.2)
structure SemaVSound (sf:SemaV):Prop where
  uses_stats:uses_stats_S sf.uses_stats
theorem uses_stats_w {fu:Nat} {self:SemaV} (IH:SemaVSound self):uses_stats_S (uses_stats fu self):=by
 intro μ0 w0 w rsF hg b1 call_2 v3 cs4 send_6 v7 cs8 recv_10 v11 cs12 p_2 a14 c15 r m5 m9 m13 m16 h hS
 unfold uses_stats at h
 refine enter func39 rfl (frm:=_::_::u20 (u50 [])) rfl (nz (st (wl (su (u_lensl underlying57 (et d6)) (dt p7) (st (nw (cblock ?_)))))))
 refine cloopE (rg 4 2++rg 9 63) (by decide +kernel) (fun n m w=>∃ μx i130 l133 v131 cs132 l137 v135 cs136 l141 v139 cs140,m=(yK4 (yO2 4 (yK2 (.i (.int .i64 i130)::(yO50 9 (yO10 59 (yO3 69 [])))))))∧uses_stats_l1 fu self p_2 n i130 l133 l137 l141=some r∧Le μ0 μx∧Sq μx w0 w (.blk b1 61 [v131,v135,v139]::.row v131 9 1 l133.length cs132::.row v135 9 1 l137.length cs136::.row v139 9 1 l141.length cs140::rsF)∧Rw μx cs132 l133∧Rw μx cs136 l137∧Rw μx cs140 l141) (by rintro _ _ _ ⟨_,_,_,_,_,_,_,_,_,_,_,rfl,_⟩; rfl) _ _ (aK4 (aO2 (aK2 (aI (aO50 (aO10 (aO3 aZ))))))) ⟨_,0,call_2,v3,cs4,send_6,v7,cs8,recv_10,v11,cs12,rfl,h,Le.r,hS,m5,m9,m13⟩ ?_
 rintro n_1 _ t w1 ⟨μ1,i130,l133,v131,cs132,l137,v135,cs136,l141,v139,cs140,rfl,h,le247,hS,m248,m249,m250⟩
 rcases n_1 with _|n_1
 cases h
 unfold uses_stats_l1 at h
 refine cnrm (mK4 (mO2 (mK2 (mi (mO50 (mO10 (mO3 mz))))))) (nz (st (ny ?_)))
 refine zCd h ?_ ?_
 intro h251 h
 refine cskip (xn (cseq (cblock (nz ?_))))
 iterate 2 refine st ?_
 refine nx ?_
 iterate 2 refine st ?_
 obtain ⟨x252,g253,h⟩:=bI h
 obtain ⟨b254,o255,cs256,e257,f258,m259⟩:=SlR.elem (m16.up le247) g253
 obtain ⟨a260,c261,a263,c264,a266,c267,rfl,m262,m265,m268⟩:=TStat.o m259
 refine wl (su (u_iax underlying57 ti121 (et (k10 d1)) (et (k10 d2)) e257) (dt (q10 p3)) (st (ny (nz ?_))))
 iterate 3 refine st ?_
 refine ld ((f258 _ hS.a).one d0) (st (nw ?_))
 refine ccutE (rg 19 13) (by decide) (fun m w=>∃ μx l271 v269 cs270,m=(yK10 (yK9 (yO10 19 (yO3 29 []))))∧uses_stats_j1 fu self i130 l133 l141 x252 (uses_stats_l1 fu self p_2 n_1) l271=some r∧Le μ1 μx∧Sq μx w0 w (.blk b1 61 [v131,v269,v139]::.row v131 9 1 l133.length cs132::.row v269 9 1 l271.length cs270::.row v139 9 1 l141.length cs140::rsF)∧Rw μx cs270 l271) (by rintro _ _ ⟨_,_,_,_,rfl,_⟩; rfl) ?_ ?_
 refine zCd h ?_ ?_
 intro h273 h
 refine ccutE (rg 19 13) (by decide) (fun m w=>∃ μx l276 v274 cs275,m=(yK10 (yK9 (yO10 19 (yO3 29 []))))∧uses_stats_j2 fu self i130 l133 l141 x252 (uses_stats_l1 fu self p_2 n_1) l276=some r∧Le μ1 μx∧Sq μx w0 w (.blk b1 61 [v131,v274,v139]::.row v131 9 1 l133.length cs132::.row v274 9 1 l276.length cs275::.row v139 9 1 l141.length cs140::rsF)∧Rw μx cs275 l276) (by rintro _ _ ⟨_,_,_,_,rfl,_⟩; rfl) ?_ ?_
 refine cdw hS ?_; clear hS; intro w2 hS
 refine sf_start (fpi 0 [0,11,12,13] rfl (fpi 1 [1,2,3,4,10,11,12,13] rfl (fpi 2 [2,3,4,10,11,12,13] rfl (fpi 3 [3,4,10,11,12,13] rfl (fr_ 4 [4,10,11,12,13] rfl (u_load ti38 (et (k20 d2)) ((hS.blk d0).cell d1)) (q20 p3) (fpi 5 [5,6,7,8,9,10,11,12,13] rfl (fpi 6 [6,7,8,9,10,11,12,13] rfl (fpi 7 [7,8,9,10,11,12,13] rfl (fr_ 8 [8,9,10,11,12,13] rfl (u_load ti9 (et (k20 d6)) ((f258 _ hS.a).one d1)) (q20 p7) ?_)))))))))
 refine sf1 rfl rfl rfl rfl (wn0 rfl) (s_bsl underlying38 ti9 (Parts.s (et (k20 d7)) rfl Parts.z) rfl rfl hS ?_); clear hS; intro b278 w3 hb279 hS; refine po ?_
 refine ⟨(Mons.s (u_load ti38 (et (k20 d2)) ((hS.blk d1).cell d1)) Mons.z),?_⟩
 obtain ⟨l282,g283,h⟩:=bI h
 have m284:Rw μ1 [S x252.Name] [x252.Name]:=(Rw.one (α:=List UInt8) rfl)
 have m281:=Rw.app m249 m284 g283
 refine sf1 rfl rfl rfl rfl (wn0 rfl) (s_app1 underlying38 ti9 rfl (et (k20 d3)) (et (k20 d8)) hS d3 (hS.blk d0).cells m284 rfl g283 (by decide) ?_); clear hS; intro v280 w4 rs_ hp_ hS; cases (show _=rs_ from hp_)
 replace hS:=Sep.reput hS p3; refine po ?_
 replace hS:=hS.drop Rm.z
 refine ⟨Mons.z,?_⟩
 refine fpi 11 [11,12,13] rfl (fpi 12 [12,13] rfl (sf1 rfl rfl rfl rfl (wn0 rfl) (s_store1 ti38 (et (k30 d1)) (et (k20 d9)) (hS.get d2).cellV hS d0 p1 rfl p0 dn ?_)))
 clear hS; intro w5 hS
 refine ⟨Mons.z,?_⟩
 refine sf_nil (xl ?_)
 exact ⟨_,_,rfl,(aK10 (aK9 (aO10 (aO3 aZ)))),_,_,_,(cs136++[S x252.Name]),rfl,h,Le.r,hS,m281⟩
 rintro _ t w6 ⟨μ2,l276,v274,cs275,rfl,h,le285,hS,m286⟩
 unfold uses_stats_j2 at h
 refine nrm (mK10 (mK9 (mO10 (mO3 mz)))) (xl ?_)
 exact ⟨_,_,rfl,(aK10 (aK9 (aO10 (aO3 aZ)))),_,_,_,_,rfl,h,le285,hS,m286⟩
 intro h273 h
 refine cskip (xl ?_)
 exact ⟨_,_,rfl,(aK10 (aK9 (aO10 (aO3 aZ)))),_,_,_,_,rfl,h,Le.r,hS,m249⟩
 rintro _ t w7 ⟨μ3,l271,v269,cs270,rfl,h,le287,hS,m288⟩
 unfold uses_stats_j1 at h
 refine nrm (mK10 (mK9 (mO10 (mO3 mz)))) (xn (cseq (nz ?_)))
 iterate 3 refine st ?_
 refine ld ((f258 _ (le287 _ hS.a)).one d0) (st (nw ?_))
 refine ccutE (rg 37 5) (by decide) (fun m w=>∃ μx l291 v289 cs290 l295 v293 cs294 l299 v297 cs298,m=(yK20 (yK10 (yK7 (yO5 37 []))))∧uses_stats_j3 self i130 x252 (uses_stats_l1 fu self p_2 n_1) l291 l295 l299=some r∧Le μ3 μx∧Sq μx w0 w (.blk b1 61 [v289,v293,v297]::.row v289 9 1 l291.length cs290::.row v293 9 1 l295.length cs294::.row v297 9 1 l299.length cs298::rsF)∧Rw μx cs290 l291∧Rw μx cs294 l295∧Rw μx cs298 l299) (by rintro _ _ ⟨_,_,_,_,_,_,_,_,_,_,rfl,_⟩; rfl) ?_ ?_
 refine zCd h ?_ ?_
 intro h301 h
 refine creg ?_
 iterate 4 refine st ?_
 obtain ⟨r302,g303,h⟩:=bI h
 replace hS:=(((hS.bg Y3).bg Y3).bg Y3).bg Y3
 refine ca ((SemaU_sound fu).uses_expr (hg.t (le247.t le287)) (m248.up le287) m288 (m250.up le287) (m262.up le287) ((f258.up le287).sb 2 4) g303 hS) ?_
 rintro _ w8 ⟨μ4,v305,cs306,v308,cs309,v311,cs312,rfl,le304,hS,m307,m310,m313⟩
 refine po (wnil (xl ?_))
 exact ⟨_,_,rfl,(aK20 (aK10 (aK7 (aO5 aZ)))),_,r302.1,_,_,r302.2.1,_,_,r302.2.2,_,_,rfl,h,le304,hS,m307,m310,m313⟩
 intro h301 h
 refine cskip (xl ?_)
 exact ⟨_,_,rfl,(aK20 (aK10 (aK7 (aO5 aZ)))),_,_,_,_,_,_,_,_,_,_,rfl,h,Le.r,hS,(m248.up le287),m288,(m250.up le287)⟩
 rintro _ t w9 ⟨μ5,l291,v289,cs290,l295,v293,cs294,l299,v297,cs298,rfl,h,le314,hS,m315,m316,m317⟩
 unfold uses_stats_j3 at h
 refine nrm (mK20 (mK10 (mK7 (mO5 mz)))) (xn (cseq (cseq ?_)))
 refine ccutE (rg 42 11) (by decide) (fun m w=>∃ μx b318,m=(yK20 (yK20 (yK2 (yO10 42 (yO1 52 (.i (.bool b318)::[]))))))∧uses_stats_j4 self i130 x252 l291 l295 l299 (uses_stats_l1 fu self p_2 n_1) b318=some r∧Le μ5 μx∧Sq μx w0 w (.blk b1 61 [v289,v293,v297]::.row v289 9 1 l291.length cs290::.row v293 9 1 l295.length cs294::.row v297 9 1 l299.length cs298::rsF)) (by rintro _ _ ⟨_,_,rfl,_⟩; rfl) ?_ ?_
 refine creg ?_
 iterate 3 refine st ?_
 refine ld ((f258 _ ((le287.t le314) _ hS.a)).one d0) ?_
 iterate 2 refine st ?_
 refine zWd 47 h ?_ ?_
 intro h319 h
 refine sn rfl rfl (sn rfl rfl (sn rfl rfl (sn rfl rfl (sn rfl rfl (st (wnil (xl ?_)))))))
 exact ⟨_,_,rfl,(aK20 (aK20 (aK2 (aO10 (aO1 (aI aZ)))))),_,true,rfl,h,Le.r,hS⟩
 intro h319 h
 refine sy rfl (sy rfl (sy rfl (wy rfl (k40 d7) (s_load ti3 (et (k50 d0)) ((f258 _ ((le287.t le314) _ hS.a)).one d0) (dt (q50 p1)) (sy rfl (st (wnil (xl ?_))))))))
 exact ⟨_,_,rfl,(aK20 (aK20 (aK2 (aO10 (aO1 (aI aZ)))))),_,(decide (x252.Kind=4)),rfl,h,Le.r,hS⟩
 rintro _ t w10 ⟨μ6,b318,rfl,h,le320,hS⟩
 unfold uses_stats_j4 at h
 refine nrm (mK20 (mK20 (mK2 (mO10 (mO1 (mi mz)))))) (xn ?_)
 refine ccutE (rg 54 6) (by decide) (fun m w=>∃ μx l323 v321 cs322 l327 v325 cs326 l331 v329 cs330,m=(yK50 (yK4 (yO6 54 [])))∧uses_stats_j5 self i130 x252 (uses_stats_l1 fu self p_2 n_1) l323 l327 l331=some r∧Le μ6 μx∧Sq μx w0 w (.blk b1 61 [v321,v325,v329]::.row v321 9 1 l323.length cs322::.row v325 9 1 l327.length cs326::.row v329 9 1 l331.length cs330::rsF)∧Rw μx cs322 l323∧Rw μx cs326 l327∧Rw μx cs330 l331) (by rintro _ _ ⟨_,_,_,_,_,_,_,_,_,_,rfl,_⟩; rfl) ?_ ?_
 refine zCb h ?_ ?_
 intro h333 h
 refine creg ?_
 iterate 4 refine st ?_
 refine ld ((f258 _ ((le287.t (le314.t le320)) _ hS.a)).one d6) ?_
 obtain ⟨r334,g335,h⟩:=bI h
 replace hS:=(((hS.bg Y3).bg Y3).bg Y3).bg Y3
 refine ca (IH.uses_stats (hg.t (le247.t (le287.t (le314.t le320)))) (m315.up le320) (m316.up le320) (m317.up le320) (m265.up (le287.t (le314.t le320))) g335 hS) ?_
 rintro _ w11 ⟨μ7,v337,cs338,v340,cs341,v343,cs344,rfl,le336,hS,m339,m342,m345⟩
 refine po (wnil (xl ?_))
 exact ⟨_,_,rfl,(aK50 (aK4 (aO6 aZ))),_,r334.1,_,_,r334.2.1,_,_,r334.2.2,_,_,rfl,h,le336,hS,m339,m342,m345⟩
 intro h333 h
 refine cskip (xl ?_)
 exact ⟨_,_,rfl,(aK50 (aK4 (aO6 aZ))),_,_,_,_,_,_,_,_,_,_,rfl,h,Le.r,hS,(m315.up le320),(m316.up le320),(m317.up le320)⟩
 rintro _ t w12 ⟨μ8,l323,v321,cs322,l327,v325,cs326,l331,v329,cs330,rfl,h,le346,hS,m347,m348,m349⟩
 unfold uses_stats_j5 at h
 refine nrm (mK50 (mK4 (mO6 mz))) (xn (nz ?_))
 iterate 3 refine st ?_
 refine ld ((f258 _ ((le287.t (le314.t (le320.t le346))) _ hS.a)).one d0) (st (nw ?_))
 refine zCd h ?_ ?_
 intro h350 h
 refine creg ?_
 iterate 4 refine st ?_
 refine ld ((f258 _ ((le287.t (le314.t (le320.t le346))) _ hS.a)).one d7) ?_
 obtain ⟨r351,g352,h⟩:=bI h
 replace hS:=(((hS.bg Y3).bg Y3).bg Y3).bg Y3
 refine ca (IH.uses_stats (hg.t (le247.t (le287.t (le314.t (le320.t le346))))) m347 m348 m349 (m268.up (le287.t (le314.t (le320.t le346)))) g352 hS) ?_
 rintro _ w13 ⟨μ9,v354,cs355,v357,cs358,v360,cs361,rfl,le353,hS,m356,m359,m362⟩
 refine po (wnil ?_)
 refine (fun h=>bn (xn h)) ?_
 refine creg ?_
 obtain ⟨i363,g364,h⟩:=bI h
 refine wl (su (u_addc (et d8) ec g364) (dt (q70 p1)) (st (wnil (xl ?_))))
 exact ⟨n_1,_,_,rfl,(aK4 (aO2 (aK2 (aI (aO50 (aO10 (aO3 aZ))))))),⟨_,i363,r351.1,v354,cs355,r351.2.1,v357,cs358,r351.2.2,v360,cs361,rfl,h,(le247.t (le287.t (le314.t (le320.t (le346.t le353))))),hS,m356,m359,m362⟩,Nat.lt_succ_self _⟩
 intro h350 h
 refine cskip ?_
 refine (fun h=>bn (xn h)) ?_
 refine creg ?_
 obtain ⟨i365,g366,h⟩:=bI h
 refine wl (su (u_addc (et d8) ec g366) (dt (q70 p1)) (st (wnil (xl ?_))))
 exact ⟨n_1,_,_,rfl,(aK4 (aO2 (aK2 (aI (aO50 (aO10 (aO3 aZ))))))),⟨_,i365,l323,v321,cs322,l327,v325,cs326,l331,v329,cs330,rfl,h,(le247.t (le287.t (le314.t (le320.t le346)))),hS,m347,m348,m349⟩,Nat.lt_succ_self _⟩
 intro h251 h
 refine cexit ?_
 refine (fun h=>xe (xe (bh h))) ?_
 obtain rfl:=oI h
 refine end0 rfl ?_
 exact ⟨_,_,_,_,_,_,_,rfl,le247,hS,m248,m249,m250⟩
theorem SemaV_sound:∀ n,SemaVSound (SemaV_run n)
  | 0=>⟨(by intro; intros; rename_i h _; cases h)⟩
  | n+1=>⟨uses_stats_w (SemaV_sound n)⟩
theorem sema_reach_w (hg:Le Gm μ0) {p_1:TSp} {p_2:TDef} {r:TSemaUses} (m5:Sl μ0 a3 c4 p_1.defs) (m7:Mr μ0 b6 p_1.named) (m8:At μ0 b1 o2 [.slice a3 p_1.defs.length c4,.map (some b6)]) (m13:Sl μ0 a11 c12 p_2.Params) (m16:Sl μ0 a14 c15 p_2.Body) (m17:At μ0 b9 o10 [.int .i64 p_2.Kind,S p_2.Name,.int .i64 p_2.Typ.Kind,S p_2.Typ.Gen,.int .i64 p_2.Takes.Kind,S p_2.Takes.Gen,.int .i64 p_2.Cap,.slice a11 p_2.Params.length c12,.slice a14 p_2.Body.length c15]) (h:sema_reach fu p_1 p_2=some r) (hS:Sq μ0 w0 w (rsF)):CallsV prog 18 [.pointer (some ⟨b1,o2,none⟩),.pointer (some ⟨b9,o10,none⟩)] w (fun v w'=>∃ (μ':M) (a18:Option Addr) (c19:Nat) (a21:Option Addr) (c22:Nat) (a24:Option Addr) (c25:Nat),v=.agg ⟨[.slice a18 r.calls.length c19,.slice a21 r.sends.length c22,.slice a24 r.recvs.length c25]⟩∧Le μ0 μ'∧Sq μ' w0 w' (rsF)∧Sl μ' a18 c19 r.calls∧Sl μ' a21 c22 r.sends∧Sl μ' a24 c25 r.recvs):=by
 unfold sema_reach at h
 refine enter func18 rfl (frm:=_::_::u2 (u2 (u10 (u50 [])))) rfl (nz ?_)
 refine wl (s_alloc ti61 hS ?_); clear hS; intro b27 w1 hb28 hS; refine po ?_
 refine nx ?_
 refine wl (s_alloc ti61 hS ?_); clear hS; intro b29 w2 hb30 hS; refine po ?_
 refine nx ?_
 refine wl (s_bsl underlying38 ti9 Parts.z rfl rfl hS ?_); clear hS; intro b31 w3 hb32 hS; refine po ?_
 refine st (nx (st ?_))
 refine wl (s_bsl underlying99 ti63 (Parts.s (et (k10 d3)) rfl Parts.z) rfl rfl hS ?_); clear hS; intro b33 w4 hb34 hS; refine po ?_
 refine st (ny (cblock ?_))
 replace hS:=hS.blkRow (n:=0) (sz:=Mo.sz (List UInt8)) d1 rfl (by decide) p1
 have m35:Rw μ0 [] ([]:List (List UInt8)):=Rw.nil
 replace hS:=hS.blkRow (n:=1) (sz:=Mo.sz (Option TDef)) d0 rfl (by decide) p0
 have m36:Rw μ0 [.pointer (some ⟨b9,o10,none⟩)] ([(some p_2)]:List (Option TDef)):=(Rw.one (α:=Option TDef) (⟨(.pointer (some ⟨b9,o10,none⟩)),rfl,(Np.of (α:=TDef) m17 ⟨a11,c12,a14,c15,rfl,m13,m16⟩)⟩))
 replace hS:=hS.nilRow 9 (Mo.sz (List UInt8))
 replace hS:=hS.nilRow 9 (Mo.sz (List UInt8))
 replace hS:=((((hS.bg Y1).bg Y2).bg Y3).bg Y4).bg Y5
 refine cloopE (rg 8 2++[11]++rg 15 50) (by decide +kernel) (fun n m w=>∃ μx l264 v262 cs263 l268 v266 cs267 l272 v270 cs271 l276 v274 cs275,m=(yK6 (.i (v262)::(.i (v266)::(yO2 8 (yK1 (yO1 11 (yK3 (yO50 15 []))))))))∧sema_reach_l1 fu p_1 n l264 l268 l272 l276=some r∧Le μ0 μx∧Sq μx w0 w (.blk b27 61 [.slice none 0 0,.slice none 0 0,.slice none 0 0]::.blk b29 61 [.slice none 0 0,v270,v274]::.row v262 9 1 l264.length cs263::.row v266 63 1 l268.length cs267::.row v270 9 1 l272.length cs271::.row v274 9 1 l276.length cs275::rsF)∧Rw μx cs263 l264∧Rw μx cs267 l268∧Rw μx cs271 l272∧Rw μx cs275 l276) (by rintro _ _ _ ⟨_,_,_,_,_,_,_,_,_,_,_,_,_,rfl,_⟩; rfl) _ _ (aK6 (aI (aI (aO2 (aK1 (aO1 (aK3 (aO50 aZ)))))))) ⟨_,([]:List (List UInt8)),(.slice (some ⟨b31,0,none⟩) 0 0),[],([(some p_2)]:List (Option TDef)),(.slice (some ⟨b33,0,none⟩) 1 1),[.pointer (some ⟨b9,o10,none⟩)],[],(.slice none 0 0),[],[],(.slice none 0 0),[],rfl,h,Le.r,hS,m35,m36,Rw.nil,Rw.nil⟩ ?_
 rintro n_1 _ t w5 ⟨μ1,l264,v262,cs263,l268,v266,cs267,l272,v270,cs271,l276,v274,cs275,rfl,h,le501,hS,m502,m503,m504,m505⟩
 rcases n_1 with _|n_1
 cases h
 unfold sema_reach_l1 at h
 refine cnrm (mK6 (mi (mi (mO2 (mK1 (mO1 (mK3 (mO50 mz)))))))) (cseq (nz (st (wl (su (u_lenv underlying99 (et (k10 d5)) (hS.get d3).isSl) (dt (q10 p6)) (st (nw ?_)))))))
 refine zCd h ?_ ?_
 intro h506 h
 refine cskip (xn (cblock (nz (st ?_))))
 obtain ⟨x507,g508,h⟩:=bI h
 obtain ⟨b509,o510,pc511,cs512,sc513,ec514,e515,f516,m517,pn518,st519,m520⟩:=Row.elemS (α:=Option TDef) (hS.get d3) m503 rfl g508
 rw [ec514] at hS
 obtain ⟨v521,rfl,m522⟩:=m517
 refine wl (su (u_iax underlying99 ti63 (et (k10 d8)) ec e515) (dt (q10 p9)) (ld ((f516 _ _ _ (hS.get d3) rfl).one d0) (st (nx (st ?_)))))
 obtain ⟨l523,g524,h⟩:=bI h
 obtain ⟨v525,cs530,e526,hb527,hr528,m529⟩:=Row.cutQ (hS.get d3) m520 g524
 replace hS:=hS.reRow d3 hb527 hr528 p3
 refine wl (su (u_slc underlying99 ti63 (et (k20 d1)) (.s ec) .n e526) (dt (q20 p2)) (st (nx ?_)))
 refine wl (s_alloc ti61 hS ?_); clear hS; intro b532 w6 hb533 hS; refine po ?_
 refine nx (st ?_)
 obtain ⟨x534,g535,h⟩:=bI h
 obtain ⟨b536,o537,cs538,rfl,f539,m540⟩:=Np.get m522 g535
 obtain ⟨a541,c542,a544,c545,rfl,m543,m546⟩:=m540
 iterate 2 refine st ?_
 refine ld ((f539 _ hS.a).one d8) ?_
 replace hS:=hS.nilRow 9 (Mo.sz (List UInt8))
 replace hS:=hS.nilRow 9 (Mo.sz (List UInt8))
 replace hS:=hS.nilRow 9 (Mo.sz (List UInt8))
 obtain ⟨r550,g551,h⟩:=bI h
 replace hS:=((hS.bg Y1).bg Y2).bg Y3
 refine ca ((SemaV_sound fu).uses_stats (hg.t le501) (Rw.nil (α:=List UInt8) (μ:=μ1)) (Rw.nil (α:=List UInt8) (μ:=μ1)) (Rw.nil (α:=List UInt8) (μ:=μ1)) m546 g551 hS) ?_
 rintro _ w7 ⟨μ2,v553,cs554,v556,cs557,v559,cs560,rfl,le552,hS,m555,m558,m561⟩
 refine po (ny ?_)
 refine ccutE (rg 28 12) (by decide) (fun m w=>∃ μx l564 a562 c563 l568 a566 c567 l572 v570 cs571 l576 v574 cs575,m=(yK20 (yK8 (yO10 28 (yO2 38 []))))∧sema_reach_j1 p_1 l264 l523 r550 (sema_reach_l1 fu p_1 n_1) l564 l568 l572 l576=some r∧Le μ2 μx∧Sq μx w0 w (.blk b27 61 [.slice none 0 0,.slice none 0 0,.slice none 0 0]::.blk b29 61 [.slice none 0 0,v570,v574]::.row v262 9 1 l264.length cs263::.row v525 63 1 l523.length cs530::.blk b532 61 [v553,.slice a562 l564.length c563,.slice a566 l568.length c567]::.row v553 9 1 r550.1.length cs554::.row v570 9 1 l572.length cs571::.row v574 9 1 l576.length cs575::rsF)∧Sl μx a562 c563 l564∧Sl μx a566 c567 l568∧Rw μx cs571 l572∧Rw μx cs575 l576) (by rintro _ _ ⟨_,_,_,_,_,_,_,_,_,_,_,_,_,rfl,_⟩; rfl) ?_ ?_
 refine cdw hS ?_; clear hS; intro w8 hS
 refine sf_start (fpi 0 [0,1,4,9,10,11,12,13] rfl (fr_ 1 [1,4,9,10,11,12,13] rfl (u_load ti38 (et (k20 d8)) ((hS.blk d5).cell d1)) (q20 p9) (fpi 2 [2,3,4,9,10,11,12,13] rfl (fr_ 3 [3,4,9,10,11,12,13] rfl (u_load ti38 (et (k30 d0)) ((hS.blk d0).cell d1)) (q30 p1) (fpi 5 [5,6,9,10,11,12,13] rfl (fr_ 6 [6,9,10,11,12,13] rfl (u_load ti38 (et (k30 d3)) ((hS.blk d5).cell d2)) (q30 p4) (fpi 7 [7,8,9,11,12,13] rfl (fr_ 8 [8,9,11,12,13] rfl (u_load ti38 (et (k30 d5)) ((hS.blk d0).cell d2)) (q30 p6) ?_))))))))
 replace hS:=hS.bg Y2
 obtain ⟨μ3,a578,c579,e582,le581,m580,hq_⟩:=Sep.frzRow hS m558 rfl; clear hS
 subst e582; have hS:=hq_; clear hq_
 obtain ⟨l585,g586,h⟩:=bI h
 obtain ⟨cs587,m588,m589⟩:=Sl.cells m580
 have m584:=Rw.app (m504.up (le552.t le581)) m588 g586
 refine sf1 rfl rfl rfl rfl (wn0 rfl) (s_appS underlying38 ti9 rfl (et (k20 d9)) (et (k30 d1)) hS d7 (fun e=>(m589 e)) m588 g586 (by decide) ?_); clear hS; intro v583 w9 rs_ hp_ hS; cases (show _=rs_ from hp_)
 replace hS:=Sep.reput hS p7; refine po ?_
 refine ⟨(Mons.s (u_load ti38 (et (k30 d5)) ((hS.blk d0).cell d2)) (Mons.s (u_load ti38 (et (k30 d3)) ((hS.blk d4).cell d2)) Mons.z)),?_⟩
 refine fpi 10 [10,11,12,13] rfl ?_
 replace hS:=hS.bg Y2
 obtain ⟨μ4,a590,c591,e594,le593,m592,hq_⟩:=Sep.frzRow hS (m561.up le581) rfl; clear hS
 subst e594; have hS:=hq_; clear hq_
 obtain ⟨l597,g598,h⟩:=bI h
 obtain ⟨cs599,m600,m601⟩:=Sl.cells m592
 have m596:=Rw.app (m505.up (le552.t (le581.t le593))) m600 g598
 refine sf1 rfl rfl rfl rfl (wn0 rfl) (s_appS underlying38 ti9 rfl (et (k30 d4)) (et (k30 d6)) hS d7 (fun e=>(m601 e)) m600 g598 (by decide) ?_); clear hS; intro v595 w10 rs_ hp_ hS; cases (show _=rs_ from hp_)
 replace hS:=Sep.reput hS p7; refine po ?_
 refine ⟨Mons.z,?_⟩
 refine sf1 rfl rfl rfl rfl (wn0 rfl) (s_store1 ti38 (et (k30 d8)) (et (k30 d2)) (hS.get d6).cellV hS d3 p1 rfl p3 dn ?_)
 clear hS; intro w11 hS
 refine ⟨Mons.z,?_⟩
 refine fpi 12 [12,13] rfl (sf1 rfl rfl rfl rfl (wn0 rfl) (s_store1 ti38 (et (k30 d9)) (et (k30 d7)) (hS.get d7).cellV hS d3 p2 rfl p3 dn ?_))
 clear hS; intro w12 hS
 refine ⟨Mons.z,?_⟩
 refine sf_nil (xl ?_)
 replace hS:=(((((((hS.bg Y7).bg Y7).bg Y3).bg Y3).bg Y7).bg Y7).bg Y7).bg Y7
 exact ⟨_,_,rfl,(aK20 (aK8 (aO10 (aO2 aZ)))),_,r550.2.1,_,_,r550.2.2,_,_,_,_,(cs271++cs587),_,_,(cs275++cs599),rfl,h,(le581.t le593),hS,(m580.up le593),m592,(m584.up le593),m596⟩
 rintro _ t w13 ⟨μ5,l564,a562,c563,l568,a566,c567,l572,v570,cs571,l576,v574,cs575,rfl,h,le602,hS,m603,m604,m605,m606⟩
 unfold sema_reach_j1 at h
 refine nrm (mK20 (mK8 (mO10 (mO2 mz)))) (xn (nz (st (ld ((hS.blk d4).cell d0) (wl (su (u_lenv underlying38 (et (k40 d1)) (hS.get d5).isSl) (dt (q40 p2)) (st (nw (cblock ?_)))))))))
 replace hS:=hS.drop (Rm.s (Rm.s (Rm.s (Rm.s Rm.z))))
 refine cloopE ([11]++rg 44 21) (by decide +kernel) (fun n m w=>∃ μx i652 l655 v653 cs654 l659 v657 cs658,m=(yK6 (.i (v653)::(.i (v657)::(yK3 (yO1 11 (yK20 (yK10 (yK1 (.i (.int .i64 i652)::(yO20 44 (yO1 64 [])))))))))))∧sema_reach_l2 p_1 r550 l572 l576 (sema_reach_l1 fu p_1 n_1) n i652 l655 l659=some r∧Le μ5 μx∧Sq μx w0 w (.blk b27 61 [.slice none 0 0,.slice none 0 0,.slice none 0 0]::.blk b29 61 [.slice none 0 0,v570,v574]::.row v653 9 1 l655.length cs654::.row v657 63 1 l659.length cs658::.row v553 9 1 r550.1.length cs554::.row v570 9 1 l572.length cs571::.row v574 9 1 l576.length cs575::rsF)∧Rw μx cs654 l655∧Rw μx cs658 l659) (by rintro _ _ _ ⟨_,_,_,_,_,_,_,_,rfl,_⟩; rfl) _ _ (aK6 (aI (aI (aK3 (aO1 (aK20 (aK10 (aK1 (aI (aO20 (aO1 aZ))))))))))) ⟨_,0,l264,v262,cs263,l523,v525,cs530,rfl,h,Le.r,hS,(m502.up (le552.t le602)),(m529.up (le552.t le602))⟩ ?_
 rintro n_2 _ t w14 ⟨μ6,i652,l655,v653,cs654,l659,v657,cs658,rfl,h,le706,hS,m707,m708⟩
 rcases n_2 with _|n_2
 cases h
 unfold sema_reach_l2 at h
 refine cnrm (mK6 (mi (mi (mK3 (mO1 (mK20 (mK10 (mK1 (mi (mO20 (mO1 mz))))))))))) (nz (st (ny ?_)))
 refine zCd h ?_ ?_
 intro h709 h
 refine cskip (xn (cseq (cblock (nz ?_))))
 obtain ⟨x710,g711,h⟩:=bI h
 obtain ⟨b712,o713,pc714,cs715,sc716,ec717,e718,f719,m720,pn721,st722,m723⟩:=Row.elemS (α:=List UInt8) (hS.get d4) (m555.up (le602.t le706)) rfl g711
 rw [ec717] at hS
 obtain rfl:=m720
 refine wl (su (u_iax underlying38 ti9 (et (k40 d1)) (et (k40 d3)) e718) (dt (q40 p5)) (ld ((f719 _ _ _ (hS.get d4) rfl).one d0) (st (nx ?_))))
 iterate 2 refine st ?_
 refine wl (s_callv isfn19 ef (e1 (et (k40 d7)) (e1 (et (k40 d8)) e0)) (contains_s_c (l:=l655) (cells_row str1 (hS.get d2) m707)) ?_); rintro _ w15 ⟨rfl,hw_⟩; replace hS:=hw_ ▸ hS; clear hw_; refine po ?_
 refine st (nw ?_)
 refine zCe h ?_ ?_
 intro h725 h
 refine nz ?_
 iterate 2 refine st ?_
 refine wl (s_bsl underlying38 ti9 (Parts.s (et (k50 d2)) rfl Parts.z) rfl rfl hS ?_); clear hS; intro b726 w16 hb727 hS; refine po ?_
 obtain ⟨l730,g731,h⟩:=bI h
 have m732:Rw μ6 [S x710] [x710]:=(Rw.one (α:=List UInt8) rfl)
 have m729:=Rw.app m707 m732 g731
 refine wl (s_app1 underlying38 ti9 rfl (et (k50 d1)) (et (k50 d3)) hS d3 (hS.blk d0).cells m732 rfl g731 (by decide) ?_); clear hS; intro v728 w17 rs_ hp_ hS; cases (show _=rs_ from hp_)
 replace hS:=Sep.reput hS p3; refine po ?_
 replace hS:=hS.drop Rm.z
 refine st (nw (creg ?_))
 iterate 4 refine st ?_
 refine ld ((m8 _ ((le501.t (le552.t (le602.t le706))) _ hS.a)).one d1) (st ?_)
 obtain ⟨es733,c734,hb735,hq736⟩:=(m7.up (le501.t (le552.t (le602.t le706))))
 refine wl (s_mgetP1 (κ:=List UInt8) (k:=x710) (hrv:=fun _ _ h=>h) underlying79 underlying9 (et (k50 d9)) (et (k60 d0)) zv63 (hb735 _ hS.a) hq736 ?_); intro v737 hv738; refine po ?_
 refine wl (s_bsl underlying99 ti63 (Parts.s (et (k60 d1)) (hv738.cellV) Parts.z) rfl rfl hS ?_); clear hS; intro b739 w18 hb740 hS; refine po ?_
 obtain ⟨l743,g744,h⟩:=bI h
 have m745:Rw μ6 [v737] [(mget p_1.named x710)]:=(Rw.one (α:=Option TDef) (⟨v737,rfl,hv738⟩))
 have m742:=Rw.app m708 m745 g744
 refine wl (s_app1 underlying99 ti63 rfl (et (k50 d5)) (et (k60 d2)) hS d4 (hS.blk d0).cells m745 rfl g744 (by decide) ?_); clear hS; intro v741 w19 rs_ hp_ hS; cases (show _=rs_ from hp_)
 replace hS:=Sep.reput hS p4; refine po ?_
 replace hS:=hS.drop Rm.z
 refine st (wnil ?_)
 refine (fun h=>bn (xn h)) ?_
 refine creg ?_
 obtain ⟨i746,g747,h⟩:=bI h
 refine wl (su (u_addc (et (k40 d3)) ec g747) (dt (q60 p4)) (st (wnil (xl ?_))))
 rw [← ec717] at hS
 exact ⟨n_2,_,_,rfl,(aK6 (aI (aI (aK3 (aO1 (aK20 (aK10 (aK1 (aI (aO20 (aO1 aZ))))))))))),⟨_,i746,l730,v728,(cs654++[S x710]),l743,v741,(cs658++[v737]),rfl,h,le706,hS,m729,m742⟩,Nat.lt_succ_self _⟩
 intro h725 h
 refine cskip ?_
 refine (fun h=>bn (xn h)) ?_
 refine creg ?_
 obtain ⟨i748,g749,h⟩:=bI h
 refine wl (su (u_addc (et (k40 d3)) ec g749) (dt (q60 p4)) (st (wnil (xl ?_))))
 rw [← ec717] at hS
 exact ⟨n_2,_,_,rfl,(aK6 (aI (aI (aK3 (aO1 (aK20 (aK10 (aK1 (aI (aO20 (aO1 aZ))))))))))),⟨_,i748,l655,v653,cs654,l659,v657,cs658,rfl,h,le706,hS,m707,m708⟩,Nat.lt_succ_self _⟩
 intro h709 h
 refine cexit ?_
 refine (fun h=>xe (xe (bh h))) ?_
 refine (fun h=>bn (xl h)) ?_
 replace hS:=hS.drop (Rm.s (Rm.s (Rm.s (Rm.s Rm.z))))
 exact ⟨n_1,_,_,rfl,(aK6 (aI (aI (aO2 (aK1 (aO1 (aK3 (aO50 aZ)))))))),⟨_,l655,v653,cs654,l659,v657,cs658,l572,v570,cs571,l576,v574,cs575,rfl,h,(le501.t (le552.t (le602.t le706))),hS,m707,m708,(m605.up le706),(m606.up le706)⟩,Nat.lt_succ_self _⟩
 intro h506 h
 refine cexit ?_
 refine (fun h=>xe (xe (bh h))) ?_
 refine xn (nz (lds (hS.blk d1).cells rfl (wl (s_storeA ti61 (et d4) (et (k60 d5)) rfl (cv_s rfl (cv_s ((hS.get d4).cellV) (cv_s ((hS.get d5).cellV) cv_z))) hS d0 rfl p0 dn ?_))))
 clear hS; intro w20 hS
 refine nw (cret ?_)
 replace hS:=hS.bg Y4
 obtain ⟨μ7,a750,c751,e754,le753,m752,hq_⟩:=Sep.frzRow hS m504 rfl; clear hS
 subst e754; have hS:=hq_; clear hq_
 replace hS:=hS.bg Y4
 obtain ⟨μ8,a755,c756,e759,le758,m757,hq_⟩:=Sep.frzRow hS (m505.up le753) rfl; clear hS
 subst e759; have hS:=hq_; clear hq_
 obtain rfl:=oI h
 refine retN rfl (RVs.s (.a d4 ti61 (hS.blk d0).cells rfl) RVs.z) ?_
 replace hS:=(((hS.drop Rm.z).drop Rm.z).drop Rm.z).drop Rm.z
 exact ⟨_,none,0,_,_,_,_,rfl,(le501.t (le753.t le758)),hS,Sl.nil,(m752.up le758),m757⟩
theorem sema_owners_w (hg:Le Gm μ0) {p_1:List TDef} {r:List TOwner×TFault} (m3:Sl μ0 a1 c2 p_1) (h:sema_owners fu p_1=some r) (hS:Sq μ0 w0 w (rsF)):CallsV prog 6 [.slice a1 p_1.length c2] w (fun v w'=>∃ (μ':M) (a4:Option Addr) (c5:Nat),v=.tuple ⟨[.slice a4 r.1.length c5,.agg ⟨[.int .i64 r.2.Err,.int .i64 r.2.At]⟩]⟩∧Le μ0 μ'∧Sq μ' w0 w' (rsF)∧Sl μ' a4 c5 r.1):=by
 unfold sema_owners at h
 refine enter func6 rfl (frm:=_::u2 (u5 (u10 (u50 (u50 []))))) rfl (nz (st ?_))
 refine wl (s_alloc ti26 hS ?_); clear hS; intro b7 w1 hb8 hS; refine po ?_
 refine nx (st ?_)
 obtain ⟨r9,g10,h⟩:=bI h
 refine ca (sema_named_w hg m3 g10 hS) ?_
 rintro _ w2 ⟨μ1,b12,o13,a14,c15,b17,rfl,le11,hS,m16,m18,m19⟩
 refine po ?_
 iterate 3 refine st ?_
 refine wl (s_alloc ti26 hS ?_); clear hS; intro b20 w3 hb21 hS; refine po ?_
 refine st (wl (s_storeA ti26 (et d5) (et (k20 d0)) rfl rfl hS d0 rfl p0 dn ?_))
 clear hS; intro w4 hS
 refine ny (nz (st (ld ((hS.blk d0).cell d0) (st (nw ?_)))))
 refine zCd h ?_ ?_
 intro h22 h
 refine cseq ?_
 refine cdw hS ?_; clear hS; intro w5 hS
 refine sf_start (fr_ 0 [0,2] rfl (u_loads ti26 (et d5) (hS.blk d0).cells rfl) (q20 p4) (fpi 1 [1,2] rfl (sf1 rfl rfl rfl rfl (wn0 rfl) (s_storeA ti26 (et d3) (et (k20 d4)) rfl rfl hS d1 rfl p1 dn ?_))))
 clear hS; intro w6 hS
 refine ⟨Mons.z,?_⟩
 refine sf_nil (xn (cret (xr ?_)))
 obtain rfl:=oI h
 refine retN rfl (RVs.s (.t d2) (RVs.s (.a d3 ti26 (hS.blk d1).cells rfl) RVs.z)) ?_
 replace hS:=(hS.drop Rm.z).drop Rm.z
 exact ⟨_,none,0,rfl,le11,hS,Sl.nil⟩
 intro h22 h
 refine cskip (xn (nz ?_))
 refine wl (s_mkmap hS ?_); clear hS; intro b23 w7 hb24 hS; refine po ?_
 refine st (ny (nz (st (wl (su (u_lensl underlying22 (et (k20 d6))) (dt (q20 p7)) (st (nw (cblock ?_))))))))
 replace hS:=(hS.drop (Rm.s Rm.z)).bg Y1
 refine cloopE ([7]++rg 29 20) (by decide +kernel) (fun n m w=>∃ μx i88 l91 es89 c90,m=(yK7 (yO1 7 (yK20 (.i (.int .i64 i88)::(yO20 29 [])))))∧sema_owners_l1 fu p_1 r9 n i88 l91=some r∧Le μ1 μx∧Sq μx w0 w (.blk b7 26 [.int .i64 0,.int .i64 0]::.map b23 es89 c90::rsF)∧Mq μx es89 c90 l91) (by rintro _ _ _ ⟨_,_,_,_,_,rfl,_⟩; rfl) _ _ (aK7 (aO1 (aK20 (aI (aO20 aZ))))) ⟨_,0,([]:List (List UInt8×TSemaUses)),[],0,rfl,h,Le.r,hS,(Mq.nil (κ:=List UInt8) (β:=TSemaUses) (μ:=μ1) (c:=0))⟩ ?_
 rintro n_1 _ t w8 ⟨μ2,i88,l91,es89,c90,rfl,h,le156,hS,m157⟩
 rcases n_1 with _|n_1
 cases h
 unfold sema_owners_l1 at h
 refine cnrm (mK7 (mO1 (mK20 (mi (mO20 mz))))) (nz (st (ny ?_)))
 refine zCd h ?_ ?_
 intro h158 h
 refine cskip (xn (cseq (cblock (nz ?_))))
 iterate 2 refine st ?_
 refine nx ?_
 iterate 2 refine st ?_
 obtain ⟨x159,g160,h⟩:=bI h
 obtain ⟨b161,o162,cs163,e164,f165,m166⟩:=SlR.elem (m3.up (le11.t le156)) g160
 obtain ⟨a167,c168,a170,c171,rfl,m169,m172⟩:=m166
 refine wl (su (u_iax underlying22 ti59 (et (k30 d1)) (et (k30 d2)) e164) (dt (q30 p3)) (st (ld ((f165 _ hS.a).one d0) (st (nw ?_)))))
 refine zCd h ?_ ?_
 intro h173 h
 refine ccutE (rg 37 11) (by decide) (fun m w=>∃ μx l176 es174 c175,m=(yK20 (yK10 (yK7 (yO10 37 (yO1 47 [])))))∧sema_owners_j1 i88 (sema_owners_l1 fu p_1 r9 n_1) l176=some r∧Le μ2 μx∧Sq μx w0 w (.blk b7 26 [.int .i64 0,.int .i64 0]::.map b23 es174 c175::rsF)∧Mq μx es174 c175 l176) (by rintro _ _ ⟨_,_,_,_,rfl,_⟩; rfl) ?_ ?_
 refine cdw hS ?_; clear hS; intro w9 hS
 refine sf_start (fpi 0 [0,11] rfl (fpi 1 [1,3,4,5,11] rfl (fpi 2 [2,3,4,5,11] rfl ?_)))
 obtain ⟨x178,g179,h⟩:=bI h
 obtain ⟨b180,o181,cs182,e183,f184,m185⟩:=SlR.elem (m3.up (le11.t le156)) g179
 obtain ⟨a186,c187,a189,c190,rfl,m188,m191⟩:=m185
 refine fp 3 [3,4,5,11] rfl (u_iax underlying22 ti59 (et (k30 d8)) (et (k30 d9)) e183) (q40 p0) (fpi 4 [4,5,11] rfl (fr_ 5 [5,11] rfl (u_load ti9 (et (k40 d1)) ((f184 _ hS.a).one d1)) (q40 p2) (fpi 6 [6,10,11] rfl (fpi 7 [7,9,10,11] rfl (fpi 8 [8,9,10,11] rfl ?_)))))
 obtain ⟨x192,g193,h⟩:=bI h
 obtain ⟨b194,o195,cs196,e197,f198,m199⟩:=SlR.elem (m3.up (le11.t le156)) g193
 obtain ⟨a200,c201,a203,c204,rfl,m202,m205⟩:=m199
 refine fp 9 [9,10,11] rfl (u_iax underlying22 ti59 (et (k40 d4)) (et (k40 d5)) e197) (q40 p6) ?_
 obtain ⟨r206,g207,h⟩:=bI h
 refine sf1 rfl rfl rfl rfl (wn0 rfl) (s_callv isfn18 ef (e1 (et (k40 d3)) (e1 (et (k40 d6)) e0)) (sema_reach_w (hg.t (le11.t le156)) (m16.up le156) (m18.up le156) (m19.up le156) m202 m205 f198 g207 hS) ?_)
 rintro _ w10 ⟨μ3,a209,c210,a212,c213,a215,c216,rfl,le208,hS,m211,m214,m217⟩
 refine po ?_
 refine ⟨(Mons.s (u_load ti9 (et (k40 d1)) ((f184 _ (le208 _ hS.a)).one d1)) Mons.z),?_⟩
 refine sf1 rfl rfl rfl rfl (wn0 rfl) (s_mputM (κ:=List UInt8) (β:=TSemaUses) (kk:=x178.Name) (xx:=r206) underlying53 underlying9 (et (k30 d7)) (et (k40 d2)) (et (k40 d7)) ⟨_,rfl,⟨a209,c210,a212,c213,a215,c216,rfl,m211,m214,m217⟩⟩ hS d1 (m157.up le208) dn ?_); clear hS; intro es218 c219 w11 rs_ m220 hp_ hS; cases (show _=rs_ from hp_)
 replace hS:=Sep.reput hS p1
 refine ⟨Mons.z,?_⟩
 refine sf_nil (xl ?_)
 exact ⟨_,_,rfl,(aK20 (aK10 (aK7 (aO10 (aO1 aZ))))),_,(mput l91 x178.Name r206),es218,_,rfl,h,le208,hS,m220⟩
 rintro _ t w12 ⟨μ4,l176,es174,c175,rfl,h,le221,hS,m222⟩
 unfold sema_owners_j1 at h
 refine nrm (mK20 (mK10 (mK7 (mO10 (mO1 mz))))) ?_
 refine (fun h=>bn (xn h)) ?_
 refine creg ?_
 obtain ⟨i223,g224,h⟩:=bI h
 refine wl (su (u_addc (et (k20 d8)) ec g224) (dt (q40 p8)) (st (wnil (xl ?_))))
 exact ⟨n_1,_,_,rfl,(aK7 (aO1 (aK20 (aI (aO20 aZ))))),⟨_,i223,l176,es174,c175,rfl,h,(le156.t le221),hS,m222⟩,Nat.lt_succ_self _⟩
 intro h173 h
 refine cskip ?_
 refine (fun h=>bn (xn h)) ?_
 refine creg ?_
 obtain ⟨i225,g226,h⟩:=bI h
 refine wl (su (u_addc (et (k20 d8)) ec g226) (dt (q40 p8)) (st (wnil (xl ?_))))
 exact ⟨n_1,_,_,rfl,(aK7 (aO1 (aK20 (aI (aO20 aZ))))),⟨_,i225,l91,es89,c90,rfl,h,le156,hS,m157⟩,Nat.lt_succ_self _⟩
 intro h158 h
 refine cexit ?_
 refine (fun h=>xe (xe (bh h))) ?_
 refine xn (nz (st (ny (nz (st (wl (su (u_lensl underlying22 (et (k40 d9))) (dt (q50 p0)) (st (nw (cblock ?_))))))))))
 replace hS:=hS.nilRow 31 (Mo.sz TOwner)
 replace hS:=(hS.bg Y2).bg Y2
 refine cloopE ([2]++rg 9 3++[13]++[15]++rg 52 64) (by decide +kernel) (fun n m w=>∃ μx i430 l433 v431 cs432,m=(yK2 (yO1 2 (yK5 (.i (v431)::(yO3 9 (yK1 (yO1 13 (yK1 (yO1 15 (yK20 (yK10 (yK5 (.i (.int .i64 i430)::(yO50 52 (yO10 102 (yO4 112 []))))))))))))))))∧sema_owners_l2 p_1 l91 n i430 l433=some r∧Le μ2 μx∧Sq μx w0 w (.blk b7 26 [.int .i64 0,.int .i64 0]::.map b23 es89 c90::.row v431 31 3 l433.length cs432::rsF)∧Rw μx cs432 l433) (by rintro _ _ _ ⟨_,_,_,_,_,rfl,_⟩; rfl) _ _ (aK2 (aO1 (aK5 (aI (aO3 (aK1 (aO1 (aK1 (aO1 (aK20 (aK10 (aK5 (aI (aO50 (aO10 (aO4 aZ)))))))))))))))) ⟨_,0,[],(.slice none 0 0),[],rfl,h,Le.r,hS,Rw.nil⟩ ?_
 rintro n_2 _ t w13 ⟨μ5,i430,l433,v431,cs432,rfl,h,le637,hS,m638⟩
 rcases n_2 with _|n_2
 cases h
 unfold sema_owners_l2 at h
 refine cnrm (mK2 (mO1 (mK5 (mi (mO3 (mK1 (mO1 (mK1 (mO1 (mK20 (mK10 (mK5 (mi (mO50 (mO10 (mO4 mz)))))))))))))))) (nz (st (ny ?_)))
 refine zCd h ?_ ?_
 intro h639 h
 refine cskip (xn (cseq (cblock (nz (st ?_)))))
 obtain ⟨x640,g641,h⟩:=bI h
 obtain ⟨b642,o643,cs644,e645,f646,m647⟩:=SlR.elem (m3.up (le11.t (le156.t le637))) g641
 obtain ⟨a648,c649,a651,c652,rfl,m650,m653⟩:=m647
 refine wl (su (u_iax underlying22 ti59 (et (k40 d9)) (et (k50 d1)) e645) (dt (q50 p4)) (lds (f646 _ hS.a) rfl ?_))
 refine wl (s_alloc ti59 hS ?_); clear hS; intro b654 w14 hb655 hS; refine po ?_
 refine st (wl (s_storeA ti59 (et (k10 d0)) (et (k50 d5)) rfl rfl hS d0 rfl p0 dn ?_))
 clear hS; intro w15 hS
 refine ny (nz (st (ld ((hS.blk d0).cell d0) (st (nw ?_)))))
 refine zCd h ?_ ?_
 intro h656 h
 refine cexit ?_
 refine (fun h=>xe (bh h)) ?_
 refine xn (creg ?_)
 obtain ⟨i657,g658,h⟩:=bI h
 refine wl (su (u_addc (et (k50 d1)) ec g658) (dt (q100 (q10 p5))) (st (wnil (xl ?_))))
 replace hS:=hS.drop Rm.z
 exact ⟨n_2,_,_,rfl,(aK2 (aO1 (aK5 (aI (aO3 (aK1 (aO1 (aK1 (aO1 (aK20 (aK10 (aK5 (aI (aO50 (aO10 (aO4 aZ)))))))))))))))),⟨_,i657,l433,v431,cs432,rfl,h,le637,hS,m638⟩,Nat.lt_succ_self _⟩
 intro h656 h
 refine cskip (xn (nz (st (ld ((hS.blk d0).cell d1) (wl (s_build ti31 pl31 (Fl.o rfl (et (k60 d0)) rfl rfl p0 Fl.z) (dt (q60 p1)) ?_))))))
 refine wl (s_alloc ti31 hS ?_); clear hS; intro b659 w16 hb660 hS; refine po ?_
 refine wl (s_storeA ti31 (et (k10 d1)) (et (k60 d1)) rfl rfl hS d0 rfl p0 dn ?_)
 clear hS; intro w17 hS
 refine ny (nz (st (wl (su (u_lensl underlying22 (et (k60 d2))) (dt (q60 p3)) (st (nw (cblock ?_)))))))
 replace hS:=(((hS.bg Y1).bg Y4).bg Y4).bg Y4
 refine cloopE ([2]++[13]++[15]++rg 65 46) (by decide +kernel) (fun n m w=>∃ μx i717 s718 s719,m=(yK2 (yO1 2 (yK10 (yO1 13 (yK1 (yO1 15 (yK20 (yK20 (yK8 (.i (.int .i64 i717)::(yO20 65 (yO20 85 (yO6 105 [])))))))))))))∧sema_owners_l3 p_1 l91 i430 l433 x640 (sema_owners_l2 p_1 l91 n_2) n i717 s718 s719=some r∧Le μ5 μx∧Sq μx w0 w (.blk b7 26 [.int .i64 0,.int .i64 0]::.map b23 es89 c90::.row v431 31 3 l433.length cs432::.blk b654 59 [.int .i64 x640.Kind,S x640.Name,.int .i64 x640.Typ.Kind,S x640.Typ.Gen,.int .i64 x640.Takes.Kind,S x640.Takes.Gen,.int .i64 x640.Cap,.slice a648 x640.Params.length c649,.slice a651 x640.Body.length c652]::.blk b659 31 [S x640.Name,S s718,S s719]::rsF)) (by rintro _ _ _ ⟨_,_,_,_,rfl,_⟩; rfl) _ _ (aK2 (aO1 (aK10 (aO1 (aK1 (aO1 (aK20 (aK20 (aK8 (aI (aO20 (aO20 (aO6 aZ))))))))))))) ⟨_,0,[],[],rfl,h,Le.r,hS⟩ ?_
 rintro n_3 _ t w18 ⟨μ6,i717,s718,s719,rfl,h,le776,hS⟩
 rcases n_3 with _|n_3
 cases h
 unfold sema_owners_l3 at h
 refine cnrm (mK2 (mO1 (mK10 (mO1 (mK1 (mO1 (mK20 (mK20 (mK8 (mi (mO20 (mO20 (mO6 mz))))))))))))) (nz (st (ny ?_)))
 refine zCd h ?_ ?_
 intro h777 h
 refine cskip (xn (cseq (cblock (nz ?_))))
 obtain ⟨x778,g779,h⟩:=bI h
 obtain ⟨b780,o781,cs782,e783,f784,m785⟩:=SlR.elem (m3.up (le11.t (le156.t (le637.t le776)))) g779
 obtain ⟨a786,c787,a789,c790,rfl,m788,m791⟩:=m785
 refine wl (su (u_iax underlying22 ti59 (et (k60 d2)) (et (k60 d4)) e783) (dt (q60 p6)) (lds (f784 _ hS.a) rfl ?_))
 refine wl (s_alloc ti59 hS ?_); clear hS; intro b792 w19 hb793 hS; refine po ?_
 refine wl (s_storeA ti59 (et (k10 d3)) (et (k60 d7)) rfl rfl hS d0 rfl p0 dn ?_)
 clear hS; intro w20 hS
 refine ny (nz (st (ld ((hS.blk d0).cell d0) (st (nw ?_)))))
 refine zCd h ?_ ?_
 intro h794 h
 refine cexit ?_
 refine (fun h=>xe (bh h)) ?_
 refine xn (creg ?_)
 obtain ⟨i795,g796,h⟩:=bI h
 refine wl (su (u_addc (et (k60 d4)) ec g796) (dt (q100 (q10 p0))) (st (wnil (xl ?_))))
 replace hS:=hS.drop Rm.z
 exact ⟨n_3,_,_,rfl,(aK2 (aO1 (aK10 (aO1 (aK1 (aO1 (aK20 (aK20 (aK8 (aI (aO20 (aO20 (aO6 aZ))))))))))))),⟨_,i795,s718,s719,rfl,h,le776,hS⟩,Nat.lt_succ_self _⟩
 intro h794 h
 refine cskip (xn (nz ?_))
 iterate 2 refine st ?_
 refine ld ((hS.blk d0).cell d1) ?_
 refine wl (s_mget1 (κ:=List UInt8) (k:=x778.Name) (β:=TSemaUses) (zx:=(TSemaUses.mk ([]:List (List UInt8)) ([]:List (List UInt8)) ([]:List (List UInt8)))) underlying53 underlying9 (et (k70 d1)) (et (k70 d3)) zv61 ⟨_,rfl,⟨none,0,none,0,none,0,rfl,Sl.nil,Sl.nil,Sl.nil⟩⟩ (hS.get d2) (m157.up (le637.t le776)) ?_); rintro _ ⟨_,rfl,⟨a801,c802,a804,c805,a807,c808,rfl,m803,m806,m809⟩⟩; refine po ?_
 refine wl (s_field underlying61 rfl rfl rfl ti38 (et (k70 d4)) d1 (dt (q70 p5)) (st (wl (s_build ti65 pl65 (Fl.o rfl (et (k70 d5)) rfl rfl p0 (Fl.o rfl (et (k70 d6)) rfl rfl p1 Fl.z)) (dt (q70 p7)) ?_))))
 iterate 2 refine st ?_
 refine ld ((hS.blk d0).cell d1) ?_
 refine wl (s_mget1 (κ:=List UInt8) (k:=x778.Name) (β:=TSemaUses) (zx:=(TSemaUses.mk ([]:List (List UInt8)) ([]:List (List UInt8)) ([]:List (List UInt8)))) underlying53 underlying9 (et (k70 d8)) (et (k80 d0)) zv61 ⟨_,rfl,⟨none,0,none,0,none,0,rfl,Sl.nil,Sl.nil,Sl.nil⟩⟩ (hS.get d2) (m157.up (le637.t le776)) ?_); rintro _ ⟨_,rfl,⟨a814,c815,a817,c818,a820,c821,rfl,m816,m819,m822⟩⟩; refine po ?_
 refine wl (s_field underlying61 rfl rfl rfl ti38 (et (k80 d1)) d2 (dt (q80 p2)) (st (wl (s_build ti65 pl65 (Fl.o rfl (et (k80 d2)) rfl rfl p0 (Fl.o rfl (et (k80 d3)) rfl rfl p1 Fl.z)) (dt (q80 p4)) ?_))))
 refine wl (s_bslA underlying66 ti65 (by decide) (.s (et (k70 d7)) rfl rfl (.s (et (k80 d4)) rfl rfl .z)) rfl hS ?_); clear hS; intro b823 w21 hb824 hS; refine po ?_
 refine wl (su (u_lensl underlying66 (et (k80 d5))) (dt (q80 p6)) (st (nw (cblock (cunroll 3 (crnd (nz (st (ny (cift (et (k80 d8)) (cskip (xn (cseq ?_)))))))))))))
 refine ccutE ([2]++[15]++rg 89 20) (by decide +kernel) (fun m w=>∃ μx s825,m=(yK2 (yO1 2 (yK10 (yK2 (yO1 15 (yK50 (yK20 (yK3 (yO20 89 [])))))))))∧sema_owners_j2 l91 i430 x640 i717 s719 x778 (sema_owners_l3 p_1 l91 i430 l433 x640 (sema_owners_l2 p_1 l91 n_2) n_3) s825=some r∧Le μ6 μx∧Sq μx w0 w (.blk b7 26 [.int .i64 0,.int .i64 0]::.map b23 es89 c90::.row v431 31 3 l433.length cs432::.blk b654 59 [.int .i64 x640.Kind,S x640.Name,.int .i64 x640.Typ.Kind,S x640.Typ.Gen,.int .i64 x640.Takes.Kind,S x640.Takes.Gen,.int .i64 x640.Cap,.slice a648 x640.Params.length c649,.slice a651 x640.Body.length c652]::.blk b659 31 [S x640.Name,S s825,S s719]::.blk b792 59 [.int .i64 x778.Kind,S x778.Name,.int .i64 x778.Typ.Kind,S x778.Typ.Gen,.int .i64 x778.Takes.Kind,S x778.Takes.Gen,.int .i64 x778.Cap,.slice a786 x778.Params.length c787,.slice a789 x778.Body.length c790]::.blk b823 65 [.slice a804 (((mget l91 x778.Name).getD (TSemaUses.mk ([]:List (List UInt8)) ([]:List (List UInt8)) ([]:List (List UInt8)))).sends).length c805,.pointer (some ⟨b659,1,none⟩),.slice a820 (((mget l91 x778.Name).getD (TSemaUses.mk ([]:List (List UInt8)) ([]:List (List UInt8)) ([]:List (List UInt8)))).recvs).length c821,.pointer (some ⟨b659,2,none⟩)]::rsF)) (by rintro _ _ ⟨_,_,rfl,_⟩; rfl) ?_ ?_
 refine cblock (nz (wl (su (u_ia underlying66 ti65 (et (k80 d5)) (et (k80 d7)) (by decide) rfl) (dt (q80 p9)) (lds ((hS.blk d0).cellsAt (Sb.s d0 (Sb.s d1 Sb.z))) rfl ?_))))
 refine wl (s_alloc ti65 hS ?_); clear hS; intro b826 w22 hb827 hS; refine po ?_
 refine wl (s_storeA ti65 (et (k10 d5)) (et (k90 d0)) rfl rfl hS d0 rfl p0 dn ?_)
 clear hS; intro w23 hS
 refine ny (nz (st (ld ((hS.blk d0).cell d0) (st (ld ((hS.blk d6).cell d1) ?_)))))
 refine wl (s_callv isfn19 ef (e1 (et (k90 d2)) (e1 (et (k90 d4)) e0)) (contains_s_c (l:=(((mget l91 x778.Name).getD (TSemaUses.mk ([]:List (List UInt8)) ([]:List (List UInt8)) ([]:List (List UInt8)))).sends)) (cells_sl str1 rfl m806 hS.a)) ?_); rintro _ w24 ⟨rfl,hw_⟩; replace hS:=hw_ ▸ hS; clear hw_; refine po ?_
 refine st (nw ?_)
 refine zCe h ?_ ?_
 intro h829 h
 refine cexit ?_
 refine (fun h=>xe (bh h)) ?_
 refine xl ?_
 replace hS:=((((((hS.drop Rm.z).bg Y1).bg Y6).bg Y6).bg Y6).bg Y6).bg Y6
 exact ⟨_,_,rfl,(aK2 (aO1 (aK10 (aK2 (aO1 (aK50 (aK20 (aK3 (aO20 aZ))))))))),_,_,rfl,h,Le.r,hS⟩
 intro h829 h
 refine cskip (xn (cseq (nz (st (ld ((hS.blk d0).cell d1) (st (ld ((hS.blk d7).cell d1) (wl (su (u_nes (et (k100 d0)) ec) (dt (q100 p1)) (nw ?_))))))))))
 refine zCd h ?_ ?_
 intro h830 h
 refine nz (st (wl (s_build ti26 pl26 (Fl.o rfl ec rfl rfl p0 (Fl.o rfl (et (k100 d2)) rfl rfl p1 Fl.z)) (dt (q100 p3)) (st (wl (s_storeA ti26 (et d3) (et (k100 d3)) rfl rfl hS d3 rfl p3 dn ?_))))))
 clear hS; intro w25 hS
 refine nw (cret ((fun h=>xr (br (xr (xr (xr (br (br (xr (xr (br (xr (br (xr (xr (br (xr h)))))))))))))))) ?_))
 obtain rfl:=oI h
 refine retN rfl (RVs.s (.t d2) (RVs.s (.a d3 ti26 (hS.blk d3).cells rfl) RVs.z)) ?_
 replace hS:=(((((((hS.drop Rm.z).drop Rm.z).drop Rm.z).drop Rm.z).drop Rm.z).drop Rm.z).drop Rm.z).drop Rm.z
 exact ⟨_,none,0,rfl,(le11.t (le156.t (le637.t le776))),hS,Sl.nil⟩
 intro h830 h
 refine cskip (xn (creg (st (ld ((hS.blk d0).cell d1) (st (ld ((hS.blk d2).cell d1) (st (wl (s_store1 ti9 (et (k100 d8)) (et (k100 d7)) rfl hS d7 p1 rfl p7 dn ?_)))))))))
 clear hS; intro w26 hS
 refine wnil ?_
 refine (fun h=>bn (xl h)) ?_
 replace hS:=((((((hS.drop Rm.z).bg Y1).bg Y6).bg Y6).bg Y6).bg Y6).bg Y6
 exact ⟨_,_,rfl,(aK2 (aO1 (aK10 (aK2 (aO1 (aK50 (aK20 (aK3 (aO20 aZ))))))))),_,x778.Name,rfl,h,Le.r,hS⟩
 rintro _ t w27 ⟨μ7,s825,rfl,h,le831,hS⟩
 unfold sema_owners_j2 at h
 refine nrm (mK2 (mO1 (mK10 (mK2 (mO1 (mK50 (mK20 (mK3 (mO20 mz))))))))) (xn (creg (wl (su (u_addc (et (k80 d7)) ec (c:=1) (by decide)) (dt (q100 p9)) (st (wnil (xl (xrnd (crnd (nz (st (ny (cift (et (k80 d8)) (cskip (xn (cseq ?_))))))))))))))))
 refine ccutE ([2]++[15]++rg 89 20) (by decide +kernel) (fun m w=>∃ μx s832,m=(yK2 (yO1 2 (yK10 (yK2 (yO1 15 (yK50 (yK20 (yK3 (yO20 89 [])))))))))∧sema_owners_j3 i717 s825 (sema_owners_l3 p_1 l91 i430 l433 x640 (sema_owners_l2 p_1 l91 n_2) n_3) s832=some r∧Le μ7 μx∧Sq μx w0 w (.blk b7 26 [.int .i64 0,.int .i64 0]::.map b23 es89 c90::.row v431 31 3 l433.length cs432::.blk b654 59 [.int .i64 x640.Kind,S x640.Name,.int .i64 x640.Typ.Kind,S x640.Typ.Gen,.int .i64 x640.Takes.Kind,S x640.Takes.Gen,.int .i64 x640.Cap,.slice a648 x640.Params.length c649,.slice a651 x640.Body.length c652]::.blk b659 31 [S x640.Name,S s825,S s832]::.blk b792 59 [.int .i64 x778.Kind,S x778.Name,.int .i64 x778.Typ.Kind,S x778.Typ.Gen,.int .i64 x778.Takes.Kind,S x778.Takes.Gen,.int .i64 x778.Cap,.slice a786 x778.Params.length c787,.slice a789 x778.Body.length c790]::.blk b823 65 [.slice a804 (((mget l91 x778.Name).getD (TSemaUses.mk ([]:List (List UInt8)) ([]:List (List UInt8)) ([]:List (List UInt8)))).sends).length c805,.pointer (some ⟨b659,1,none⟩),.slice a820 (((mget l91 x778.Name).getD (TSemaUses.mk ([]:List (List UInt8)) ([]:List (List UInt8)) ([]:List (List UInt8)))).recvs).length c821,.pointer (some ⟨b659,2,none⟩)]::rsF)) (by rintro _ _ ⟨_,_,rfl,_⟩; rfl) ?_ ?_
 refine cblock (nz (wl (su (u_ia underlying66 ti65 (et (k80 d5)) (et (k80 d7)) (by decide) rfl) (dt (q80 p9)) (lds ((hS.blk d6).cellsAt (Sb.s d2 (Sb.s d3 Sb.z))) rfl ?_))))
 refine wl (s_alloc ti65 hS ?_); clear hS; intro b833 w28 hb834 hS; refine po ?_
 refine wl (s_storeA ti65 (et (k10 d5)) (et (k90 d0)) rfl rfl hS d0 rfl p0 dn ?_)
 clear hS; intro w29 hS
 refine ny (nz (st (ld ((hS.blk d0).cell d0) (st (ld ((hS.blk d4).cell d1) ?_)))))
 refine wl (s_callv isfn19 ef (e1 (et (k90 d2)) (e1 (et (k90 d4)) e0)) (contains_s_c (l:=(((mget l91 x778.Name).getD (TSemaUses.mk ([]:List (List UInt8)) ([]:List (List UInt8)) ([]:List (List UInt8)))).recvs)) (cells_sl str1 rfl (m822.up le831) hS.a)) ?_); rintro _ w30 ⟨rfl,hw_⟩; replace hS:=hw_ ▸ hS; clear hw_; refine po ?_
 refine st (nw ?_)
 refine zCe h ?_ ?_
 intro h836 h
 refine cexit ?_
 refine (fun h=>xe (bh h)) ?_
 refine xl ?_
 replace hS:=hS.drop Rm.z
 exact ⟨_,_,rfl,(aK2 (aO1 (aK10 (aK2 (aO1 (aK50 (aK20 (aK3 (aO20 aZ))))))))),_,_,rfl,h,Le.r,hS⟩
 intro h836 h
 refine cskip (xn (cseq (nz (st (ld ((hS.blk d0).cell d1) (st (ld ((hS.blk d5).cell d2) (wl (su (u_nes (et (k100 d0)) ec) (dt (q100 p1)) (nw ?_))))))))))
 refine zCd h ?_ ?_
 intro h837 h
 refine nz (st (wl (s_build ti26 pl26 (Fl.o rfl ec rfl rfl p0 (Fl.o rfl (et (k100 d2)) rfl rfl p1 Fl.z)) (dt (q100 p3)) (st (wl (s_storeA ti26 (et d3) (et (k100 d3)) rfl rfl hS d1 rfl p1 dn ?_))))))
 clear hS; intro w31 hS
 refine nw (cret ((fun h=>xr (br (xr (xr (xr (br (br (xr (xr (br (xr (br (xr (xr (br (xr h)))))))))))))))) ?_))
 obtain rfl:=oI h
 refine retN rfl (RVs.s (.t d2) (RVs.s (.a d3 ti26 (hS.blk d1).cells rfl) RVs.z)) ?_
 replace hS:=(((((((hS.drop Rm.z).drop Rm.z).drop Rm.z).drop Rm.z).drop Rm.z).drop Rm.z).drop Rm.z).drop Rm.z
 exact ⟨_,none,0,rfl,(le11.t (le156.t (le637.t (le776.t le831)))),hS,Sl.nil⟩
 intro h837 h
 refine cskip (xn (creg (st (ld ((hS.blk d0).cell d1) (st (ld ((hS.blk d6).cell d1) (st (wl (s_store1 ti9 (et (k100 d8)) (et (k100 d7)) rfl hS d5 p2 rfl p5 dn ?_)))))))))
 clear hS; intro w32 hS
 refine wnil ?_
 refine (fun h=>bn (xl h)) ?_
 replace hS:=hS.drop Rm.z
 exact ⟨_,_,rfl,(aK2 (aO1 (aK10 (aK2 (aO1 (aK50 (aK20 (aK3 (aO20 aZ))))))))),_,x778.Name,rfl,h,Le.r,hS⟩
 rintro _ t w33 ⟨μ8,s832,rfl,h,le838,hS⟩
 unfold sema_owners_j3 at h
 refine nrm (mK2 (mO1 (mK10 (mK2 (mO1 (mK50 (mK20 (mK3 (mO20 mz))))))))) (xn (creg (wl (su (u_addc (et (k80 d7)) ec (c:=2) (by decide)) (dt (q100 p9)) (st (wnil (xl (xrnd (crnd (nz (st (ny (ciff (et (k80 d8)) (cexit ?_))))))))))))))
 refine (fun h=>xe (xe (bh h))) ?_
 refine (fun h=>bn (xn h)) ?_
 refine creg ?_
 obtain ⟨i839,g840,h⟩:=bI h
 refine wl (su (u_addc (et (k60 d4)) ec g840) (dt (q100 (q10 p0))) (st (wnil (xl ?_))))
 replace hS:=(hS.drop (Rm.s (Rm.s (Rm.s (Rm.s (Rm.s Rm.z)))))).drop (Rm.s (Rm.s (Rm.s (Rm.s (Rm.s Rm.z)))))
 exact ⟨n_3,_,_,rfl,(aK2 (aO1 (aK10 (aO1 (aK1 (aO1 (aK20 (aK20 (aK8 (aI (aO20 (aO20 (aO6 aZ))))))))))))),⟨_,i839,s825,s832,rfl,h,(le776.t (le831.t le838)),hS⟩,Nat.lt_succ_self _⟩
 intro h777 h
 refine cexit ?_
 refine (fun h=>xe (xe (bh h))) ?_
 refine xn (creg (st (lds (hS.blk d4).cells rfl ?_)))
 refine wl (s_bsl1 underlying23 ti31 rfl (et (k100 (k10 d2))) rfl hS ?_); clear hS; intro b841 w34 hb842 hS; refine po ?_
 obtain ⟨l845,g846,h⟩:=bI h
 have m847:Rw μ6 [S x640.Name,S s718,S s719] [(TOwner.mk x640.Name s718 s719)]:=(Rw.one (α:=TOwner) rfl)
 have m844:=Rw.app (m638.up le776) m847 g846
 refine wl (s_app1 underlying23 ti31 rfl (et (k100 (k10 d1))) (et (k100 (k10 d3))) hS d3 (hS.blk d0).cells m847 rfl g846 (by decide) ?_); clear hS; intro v843 w35 rs_ hp_ hS; cases (show _=rs_ from hp_)
 replace hS:=Sep.reput hS p3; refine po ?_
 replace hS:=hS.drop Rm.z
 refine st (wnil ?_)
 refine (fun h=>bn (xn h)) ?_
 refine creg ?_
 obtain ⟨i848,g849,h⟩:=bI h
 refine wl (su (u_addc (et (k50 d1)) ec g849) (dt (q100 (q10 p5))) (st (wnil (xl ?_))))
 replace hS:=(hS.drop (Rm.s (Rm.s (Rm.s Rm.z)))).drop (Rm.s (Rm.s (Rm.s Rm.z)))
 exact ⟨n_2,_,_,rfl,(aK2 (aO1 (aK5 (aI (aO3 (aK1 (aO1 (aK1 (aO1 (aK20 (aK10 (aK5 (aI (aO50 (aO10 (aO4 aZ)))))))))))))))),⟨_,i848,l845,v843,(cs432++[S x640.Name,S s718,S s719]),rfl,h,(le637.t le776),hS,m844⟩,Nat.lt_succ_self _⟩
 intro h639 h
 refine cexit ?_
 refine (fun h=>xe (xe (bh h))) ?_
 refine xn (nz (st (wl (s_build ti26 pl26 Fl.z (dt (q100 (q10 p7))) (st (wl (s_storeA ti26 (et d3) (et (k100 (k10 d7))) rfl rfl hS d0 rfl p0 dn ?_)))))))
 clear hS; intro w36 hS
 refine nw (cret ?_)
 replace hS:=hS.bg Y2
 obtain ⟨μ9,a850,c851,e854,le853,m852,hq_⟩:=Sep.frzRow hS m638 rfl; clear hS
 subst e854; have hS:=hq_; clear hq_
 obtain rfl:=oI h
 refine retN rfl (RVs.s (.t d2) (RVs.s (.a d3 ti26 (hS.blk d0).cells rfl) RVs.z)) ?_
 replace hS:=(hS.drop Rm.z).drop Rm.z
 exact ⟨_,_,_,rfl,(le11.t (le156.t (le637.t le853))),hS,m852⟩
end Go.Proofs.Yteiemedhecjgiaa
