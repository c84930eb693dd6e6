/- The shelf: texts of Wb. -/
import Derived.Test.YtaenlbapejigbaaGreatDoorCXu
import Derived.Test.YtaenlbapejigbaaGreatDoorCMd
import Derived.Test.YtaenlbapejigbaaGreatDoorCWa
import Derived.Test.YtaenlbapejigbaaGreatDoorCFl
set_option linter.unusedSimpArgs false
set_option linter.unusedVariables false
set_option linter.unusedSectionVars false
set_option maxRecDepth 100000
set_option maxHeartbeats 20000000
namespace Go.Proofs.YtaenlbapejigbaaGreatDoor
open Go.Wk Go.Xt Go.Y Tryz
variable {b1 b6 b9 c2 c4 c12 c15 fu o2 o10:Nat} {a1 a3 a11 a14:Option Addr} {μ0:M} {w0 w:World} {rsF:List Res}
theorem sema_pop_w {μ0:M} {w0 w:World} {rsF:List Res} (hg:Le Gm μ0) {b1 b2:Nat} {prog_3:TSp} {b4 o5:Nat} {a6:Option Addr} {c7 b9:Nat} {def_12:TDef} {b13 o14:Nat} {a15:Option Addr} {c16:Nat} {a18:Option Addr} {c19:Nat} {bloc_22:List (List (List UInt8×TType))} {v23:Value} {ms24:List (Nat×List MapEntry×Nat)} {r:List (List (List UInt8×TType))} (m8:Sl μ0 a6 c7 prog_3.defs) (m10:Mr μ0 b9 prog_3.named) (m11:At μ0 b4 o5 [.slice a6 prog_3.defs.length c7,.map (some b9)]) (m17:Sl μ0 a15 c16 def_12.Params) (m20:Sl μ0 a18 c19 def_12.Body) (m21:At μ0 b13 o14 [.int .i64 def_12.Kind,S def_12.Name,.int .i64 def_12.Typ.Kind,S def_12.Typ.Gen,.int .i64 def_12.Takes.Kind,S def_12.Takes.Gen,.int .i64 def_12.Cap,.slice a15 def_12.Params.length c16,.slice a18 def_12.Body.length c19]) (m25:Ms μ0 ms24 bloc_22) (h:sema_pop prog_3 def_12 bloc_22=some r) (hS:Sq μ0 w0 w (.blk b1 257 [.pointer (some ⟨b2,0,none⟩)]::.blk b2 261 [.pointer (some ⟨b4,o5,none⟩),.pointer (some ⟨b13,o14,none⟩),v23]::.row v23 258 1 bloc_22.length (cOf ms24)::(mRs ms24++rsF))):CallsDV prog 168 [.pointer (some ⟨b1,0,none⟩)] w (fun v w'=>∃ (μ':M) (v26:Value) (ms27:List (Nat×List MapEntry×Nat)),v=.tuple ⟨[]⟩∧Le μ0 μ'∧Sq μ' w0 w' (.blk b1 257 [.pointer (some ⟨b2,0,none⟩)]::.blk b2 261 [.pointer (some ⟨b4,o5,none⟩),.pointer (some ⟨b13,o14,none⟩),v26]::.row v26 258 1 r.length (cOf ms27)::(mRs ms27++rsF))∧Ms μ' ms27 r):=by
 unfold sema_pop at h
 refine enterDD func168 rfl (frm:=[_,_,_,_,_,_,_,_,_,_,_,_,_,_,_]) rfl ?_
 refine ccutE (rg 1 14) (by decide) (fun m w=>∃ μx l31 v29 ms30,m=(yK1 (yO10 1 (yO4 11 [])))∧sema_pop_j1 l31=some r∧Le μ0 μx∧Sq μx w0 w (.blk b1 257 [.pointer (some ⟨b2,0,none⟩)]::.blk b2 261 [.pointer (some ⟨b4,o5,none⟩),.pointer (some ⟨b13,o14,none⟩),v29]::.row v29 258 1 l31.length (cOf ms30)::(mRs ms30++rsF))∧Ms μx ms30 l31) (by rintro _ _ ⟨_,_,_,_,rfl,_⟩; rfl) ?_ ?_
 ·refine cdw hS ?_; clear hS; intro w1 hS
  refine sf_start (fr_ 0 [0,12,13,14] rfl (u_load ti257 (et d0) ((hS.blk d0).cell d0)) p1 (fr_ 1 [1,2,3,4,11,12,13,14] rfl (u_load ti257 (et d0) ((hS.blk d0).cell d0)) p2 (fpi 2 [2,3,4,11,12,13,14] rfl (fpi 3 [3,4,11,12,13,14] rfl (fr_ 4 [4,11,12,13,14] rfl (u_load ti259 (et d4) ((hS.blk d1).cell d2)) p5 (fr_ 5 [5,6,7,8,9,10,11,12,13,14] rfl (u_load ti257 (et d0) ((hS.blk d0).cell d0)) p6 (fpi 6 [6,7,8,9,10,11,12,13,14] rfl (fpi 7 [7,8,9,10,11,12,13,14] rfl (fr_ 8 [8,9,10,11,12,13,14] rfl (u_load ti259 (et d8) ((hS.blk d1).cell d2)) p9 (fp 9 [9,10,11,12,13,14] rfl (u_lenv underlying259 (et d9) (hS.get d2).isSl) (q10 p0) ?_))))))))))
  obtain ⟨i33,g34,h⟩:=bI h
  refine fp 10 [10,11,12,13,14] rfl (u_subc (et (k10 d0)) ec g34) (q10 p1) ?_
  obtain ⟨l35,g36,h⟩:=bI h
  obtain ⟨v37,ms38,e39,hb40,hr41,m42,e43⟩:=Row.cutM (hS.get d2) m25 g36
  replace hS:=hS.reRow d2 hb40 hr41 p2
  replace hS:=hS.popM (pre:=[_,_,_]) (j:=i33.toNat); rw [e43] at hS
  refine fp 11 [11,12,13,14] rfl (u_slc underlying259 ti258 (et d5) .n (.s (et (k10 d1))) e39) (q10 p2) (fpi 12 [12,13,14] rfl (fpi 13 [13,14] rfl (sf1 rfl rfl rfl rfl (wn0 rfl) (s_store1 ti259 (et (k10 d4)) (et (k10 d2)) (hS.get d2).cellV hS d1 p2 rfl p1 dn ?_))))
  clear hS; intro w2 hS
  refine ⟨Mons.z,?_⟩
  refine sf_nil (xl ?_)
  exact ⟨_,_,rfl,(aK1 (aO10 (aO4 aZ))),_,_,_,_,rfl,h,Le.r,hS,m42⟩
 ·rintro _ t w3 ⟨μ1,l31,v29,ms30,rfl,h,le44,hS,m45⟩
  unfold sema_pop_j1 at h
  refine nrm (mK1 (mO10 (mO4 mz))) ?_
  obtain rfl:=oI h
  refine end0 rfl ?_
  replace hS:Sq μ1 w0 _ (.blk b1 257 [.pointer (some ⟨b2,0,none⟩)]::.blk b2 261 [.pointer (some ⟨b4,o5,none⟩),.pointer (some ⟨b13,o14,none⟩),v29]::.row v29 258 1 l31.length (cOf ms30)::(mRs ms30++rsF)):=hS
  exact ⟨_,_,_,rfl,le44,hS,m45⟩
structure SemaSSound (sf:SemaS):Prop where
  sema_stats:∀ {μ0:M} {w0 w:World} {rsF:List Res} (hg:Le Gm μ0) {b1:Nat} {prog_2:TSp} {b3 o4:Nat} {a5:Option Addr} {c6 b8:Nat} {def_11:TDef} {b12 o13:Nat} {a14:Option Addr} {c15:Nat} {a17:Option Addr} {c18:Nat} {bloc_21:List (List (List UInt8×TType))} {v22:Value} {ms23:List (Nat×List MapEntry×Nat)} {p_2:List TStat} {a25:Option Addr} {c26:Nat} {r:Int×List (List (List UInt8×TType))} (m7:Sl μ0 a5 c6 prog_2.defs) (m9:Mr μ0 b8 prog_2.named) (m10:At μ0 b3 o4 [.slice a5 prog_2.defs.length c6,.map (some b8)]) (m16:Sl μ0 a14 c15 def_11.Params) (m19:Sl μ0 a17 c18 def_11.Body) (m20:At μ0 b12 o13 [.int .i64 def_11.Kind,S def_11.Name,.int .i64 def_11.Typ.Kind,S def_11.Typ.Gen,.int .i64 def_11.Takes.Kind,S def_11.Takes.Gen,.int .i64 def_11.Cap,.slice a14 def_11.Params.length c15,.slice a17 def_11.Body.length c18]) (m24:Ms μ0 ms23 bloc_21) (m27:Sl μ0 a25 c26 p_2) (h:sf.sema_stats prog_2 def_11 bloc_21 p_2=some r) (hS:Sq μ0 w0 w (.blk b1 261 [.pointer (some ⟨b3,o4,none⟩),.pointer (some ⟨b12,o13,none⟩),v22]::.row v22 258 1 bloc_21.length (cOf ms23)::(mRs ms23++rsF))),CallsV prog 160 [.pointer (some ⟨b1,0,none⟩),.slice a25 p_2.length c26] w (fun v w'=>∃ (μ':M) (v28:Value) (ms29:List (Nat×List MapEntry×Nat)),v=.int .i64 r.1∧Le μ0 μ'∧Sq μ' w0 w' (.blk b1 261 [.pointer (some ⟨b3,o4,none⟩),.pointer (some ⟨b12,o13,none⟩),v28]::.row v28 258 1 r.2.length (cOf ms29)::(mRs ms29++rsF))∧Ms μ' ms29 r.2)
  sema_stat:∀ {μ0:M} {w0 w:World} {rsF:List Res} (hg:Le Gm μ0) {b1:Nat} {prog_2:TSp} {b3 o4:Nat} {a5:Option Addr} {c6 b8:Nat} {def_11:TDef} {b12 o13:Nat} {a14:Option Addr} {c15:Nat} {a17:Option Addr} {c18:Nat} {bloc_21:List (List (List UInt8×TType))} {v22:Value} {ms23:List (Nat×List MapEntry×Nat)} {p_2:TStat} {b25 o26:Nat} {a27:Option Addr} {c28:Nat} {a30:Option Addr} {c31:Nat} {a33:Option Addr} {c34:Nat} {r:Int×List (List (List UInt8×TType))} (m7:Sl μ0 a5 c6 prog_2.defs) (m9:Mr μ0 b8 prog_2.named) (m10:At μ0 b3 o4 [.slice a5 prog_2.defs.length c6,.map (some b8)]) (m16:Sl μ0 a14 c15 def_11.Params) (m19:Sl μ0 a17 c18 def_11.Body) (m20:At μ0 b12 o13 [.int .i64 def_11.Kind,S def_11.Name,.int .i64 def_11.Typ.Kind,S def_11.Typ.Gen,.int .i64 def_11.Takes.Kind,S def_11.Takes.Gen,.int .i64 def_11.Cap,.slice a14 def_11.Params.length c15,.slice a17 def_11.Body.length c18]) (m24:Ms μ0 ms23 bloc_21) (m29:Sl μ0 a27 c28 p_2.X.Kids) (m32:Sl μ0 a30 c31 p_2.Body) (m35:Sl μ0 a33 c34 p_2.Else) (m36:At μ0 b25 o26 [.int .i64 p_2.Kind,S p_2.Name,.int .i64 p_2.X.Kind,.int .i64 p_2.X.N,S p_2.X.Name,.slice a27 p_2.X.Kids.length c28,.slice a30 p_2.Body.length c31,.slice a33 p_2.Else.length c34]) (h:sf.sema_stat prog_2 def_11 bloc_21 p_2=some r) (hS:Sq μ0 w0 w (.blk b1 261 [.pointer (some ⟨b3,o4,none⟩),.pointer (some ⟨b12,o13,none⟩),v22]::.row v22 258 1 bloc_21.length (cOf ms23)::(mRs ms23++rsF))),CallsV prog 169 [.pointer (some ⟨b1,0,none⟩),.pointer (some ⟨b25,o26,none⟩)] w (fun v w'=>∃ (μ':M) (v37:Value) (ms38:List (Nat×List MapEntry×Nat)),v=.int .i64 r.1∧Le μ0 μ'∧Sq μ' w0 w' (.blk b1 261 [.pointer (some ⟨b3,o4,none⟩),.pointer (some ⟨b12,o13,none⟩),v37]::.row v37 258 1 r.2.length (cOf ms38)::(mRs ms38++rsF))∧Ms μ' ms38 r.2)
theorem sema_stats_w {self:SemaS} (IH:SemaSSound self) {μ0:M} {w0 w:World} {rsF:List Res} (hg:Le Gm μ0) {b1:Nat} {prog_2:TSp} {b3 o4:Nat} {a5:Option Addr} {c6 b8:Nat} {def_11:TDef} {b12 o13:Nat} {a14:Option Addr} {c15:Nat} {a17:Option Addr} {c18:Nat} {bloc_21:List (List (List UInt8×TType))} {v22:Value} {ms23:List (Nat×List MapEntry×Nat)} {p_2:List TStat} {a25:Option Addr} {c26:Nat} {r:Int×List (List (List UInt8×TType))} (m7:Sl μ0 a5 c6 prog_2.defs) (m9:Mr μ0 b8 prog_2.named) (m10:At μ0 b3 o4 [.slice a5 prog_2.defs.length c6,.map (some b8)]) (m16:Sl μ0 a14 c15 def_11.Params) (m19:Sl μ0 a17 c18 def_11.Body) (m20:At μ0 b12 o13 [.int .i64 def_11.Kind,S def_11.Name,.int .i64 def_11.Typ.Kind,S def_11.Typ.Gen,.int .i64 def_11.Takes.Kind,S def_11.Takes.Gen,.int .i64 def_11.Cap,.slice a14 def_11.Params.length c15,.slice a17 def_11.Body.length c18]) (m24:Ms μ0 ms23 bloc_21) (m27:Sl μ0 a25 c26 p_2) (h:sema_stats self prog_2 def_11 bloc_21 p_2=some r) (hS:Sq μ0 w0 w (.blk b1 261 [.pointer (some ⟨b3,o4,none⟩),.pointer (some ⟨b12,o13,none⟩),v22]::.row v22 258 1 bloc_21.length (cOf ms23)::(mRs ms23++rsF))):CallsV prog 160 [.pointer (some ⟨b1,0,none⟩),.slice a25 p_2.length c26] w (fun v w'=>∃ (μ':M) (v28:Value) (ms29:List (Nat×List MapEntry×Nat)),v=.int .i64 r.1∧Le μ0 μ'∧Sq μ' w0 w' (.blk b1 261 [.pointer (some ⟨b3,o4,none⟩),.pointer (some ⟨b12,o13,none⟩),v28]::.row v28 258 1 r.2.length (cOf ms29)::(mRs ms29++rsF))∧Ms μ' ms29 r.2):=by
 unfold sema_stats at h
 refine enterF func160 rfl (frm:=_::_::u10 (u20 [])) rfl (nz ?_)
 refine wl (s_box (et d0) rfl hS ?_); clear hS; intro b31 w1 hb32 hS; refine po ?_
 refine st (ny ?_)
 refine ccutE (rg 7 10) (by decide) (fun m w=>∃ μx l35 v33 ms34,m=(yK7 (yO10 7 []))∧sema_stats_j1 self p_2 prog_2 def_11 l35=some r∧Le μ0 μx∧Sq μx w0 w (.blk b1 261 [.pointer (some ⟨b3,o4,none⟩),.pointer (some ⟨b12,o13,none⟩),v33]::.row v33 258 1 l35.length (cOf ms34)::.blk b31 257 [.pointer (some ⟨b1,0,none⟩)]::(mRs ms34++rsF))∧Ms μx ms34 l35) (by rintro _ _ ⟨_,_,_,_,rfl,_⟩; rfl) ?_ ?_
 ·refine cdw hS ?_; clear hS; intro w2 hS
  refine sf_start (fr_ 0 [0,8,9,10] rfl (u_load ti257 (et d2) ((hS.blk d0).cell d0)) p7 (fr_ 1 [1,2,3,4,7,8,9,10] rfl (u_load ti257 (et d2) ((hS.blk d0).cell d0)) p8 (fpi 2 [2,3,4,7,8,9,10] rfl (fpi 3 [3,4,7,8,9,10] rfl (fr_ 4 [4,7,8,9,10] rfl (u_load ti259 (et (k10 d0)) ((hS.blk d1).cell d2)) (q10 p1) ?_)))))
  refine sf1 rfl rfl rfl rfl (wn0 rfl) (s_mkmap hS ?_); clear hS; intro b37 w3 hb38 hS; refine po ?_
  refine ⟨(Mons.s (u_load ti259 (et (k10 d0)) ((hS.blk d2).cell d2)) (Mons.s (u_load ti257 (et d2) ((hS.blk d1).cell d0)) (Mons.s (u_load ti257 (et d2) ((hS.blk d1).cell d0)) Mons.z))),?_⟩
  refine sf1 rfl rfl rfl rfl (wn0 rfl) (s_bsl underlying259 ti258 (Parts.s (et (k10 d2)) rfl Parts.z) rfl rfl hS ?_); clear hS; intro b39 w4 hb40 hS; refine po ?_
  refine ⟨(Mons.s (u_load ti259 (et (k10 d0)) ((hS.blk d3).cell d2)) (Mons.s (u_load ti257 (et d2) ((hS.blk d2).cell d0)) (Mons.s (u_load ti257 (et d2) ((hS.blk d2).cell d0)) Mons.z))),?_⟩
  obtain ⟨l41,g42,h⟩:=bI h
  have hms45a:=app_eq g42
  refine sf1 rfl rfl rfl rfl (wn0 rfl) (s_appM (κ:=List UInt8) (β:=TType) underlying259 ti258 rfl (et (k10 d1)) (et (k10 d3)) hS d4 (hS.blk d0).cells g42 (by decide) ?_); clear hS; intro v43 w5 rs_ hp_ hS; cases (show _=rs_ from hp_)
  replace hS:=Sep.reput hS p4; refine po ?_
  replace hS:=(((hS.drop Rm.z).bg Y3).bg Y3).bg Y3
  rw [cellsOf_push ms23 b37 0 []] at hS; replace hS:=hS.pushM (pre:=[_,_,_])
  have m46:=Ms.push (e:=(b37,[],0)) m24 (Mq.nil (κ:=List UInt8) (β:=TType) (μ:=μ0) (c:=0)); rw [← hms45a.1] at m46
  generalize hms45:(ms23++[(b37,[],0)])=ms44 at hS m46
  refine ⟨(Mons.s (u_load ti257 (et d2) ((hS.blk d0).cell d0)) Mons.z),?_⟩
  refine fpi 8 [8,9,10] rfl (fpi 9 [9,10] rfl (sf1 rfl rfl rfl rfl (wn0 rfl) (s_store1 ti259 (et (k10 d6)) (et (k10 d4)) (hS.get d2).cellV hS d1 p2 rfl p1 dn ?_)))
  clear hS; intro w6 hS
  refine ⟨Mons.z,?_⟩
  refine sf_nil (xl ?_)
  replace hS:=(hS.bg Y2).bg Y2
  exact ⟨_,_,rfl,(aK7 (aO10 aZ)),_,_,_,_,rfl,h,Le.r,hS,m46⟩
 ·rintro _ t w7 ⟨μ1,l35,v33,ms34,rfl,h,le47,hS,m48⟩
  unfold sema_stats_j1 at h
  refine nrm (mK7 (mO10 mz)) (xn (nz (wl (su (u_mkfn e0 (e1 (et d2) e0)) (dt (q10 p7)) (wl (s_defer (et (k10 d7)) e0 dn (ny (nz (st (wl (su (u_lensl underlying89 (et (k10 d8))) (dt (q10 p9)) (st (nw (cblock ?_))))))))))))))
  refine cloopE (rg 4 3++rg 21 11) (by decide) (fun n m w=>∃ μx i74 l77 v75 ms76,m=(yK4 (yO3 4 (yK10 (yK3 (.i (.int .i64 i74)::(yO10 21 (yO1 31 [])))))))∧sema_stats_l1 self p_2 prog_2 def_11 n i74 l77=some r∧Le μ1 μx∧Sq μx w0 w (.blk b1 261 [.pointer (some ⟨b3,o4,none⟩),.pointer (some ⟨b12,o13,none⟩),v75]::.row v75 258 1 l77.length (cOf ms76)::.blk b31 257 [.pointer (some ⟨b1,0,none⟩)]::(mRs ms76++rsF))∧Ms μx ms76 l77) (by rintro _ _ _ ⟨_,_,_,_,_,rfl,_⟩; rfl) _ _ (aK4 (aO3 (aK10 (aK3 (aI (aO10 (aO1 aZ))))))) ⟨_,0,l35,v33,ms34,rfl,h,Le.r,hS,m48⟩ ?_
  rintro n_1 _ t w8 ⟨μ2,i74,l77,v75,ms76,rfl,h,le104,hS,m105⟩
  cases n_1 with
  | zero=>cases h
  | succ n_1 =>
  unfold sema_stats_l1 at h
  refine cnrm (mK4 (mO3 (mK10 (mK3 (mi (mO10 (mO1 mz))))))) (nz (st (ny ?_)))
  refine cifd (et (k20 d1)) (fun h106=>?_) (fun h106=>?_)
  ·replace h:=iT h106 h
   refine cskip (xn (cseq (cblock (nz ?_))))
   iterate 2 refine st ?_
   refine ny ?_
   refine cdw hS ?_; clear hS; intro w9 hS
   refine sf_start (fr_ 0 [0,4,5] rfl (u_load ti257 (et d2) ((hS.blk d2).cell d0)) (q20 p3) (fpi 1 [1,3,4,5] rfl (fpi 2 [2,3,4,5] rfl ?_)))
   obtain ⟨x107,g108,h⟩:=bI h
   obtain ⟨b109,o110,cs111,e112,f113,m114⟩:=SlR.elem (m27.up (le47.t le104)) g108
   obtain ⟨a115,c116,a118,c119,a121,c122,rfl,m117,m120,m123⟩:=TStat.o m114
   refine fp 3 [3,4,5] rfl (u_iax underlying89 ti195 (et (k20 d4)) (et (k20 d5)) e112) (q20 p6) ?_
   obtain ⟨r124,g125,h⟩:=bI h
   replace hS:=(hS.bg Y1).bg Y1
   replace hS:=Sep.mOut (a:=[_,_]) (p:=[_]) (M:=mRs ms76) (R:=rsF) hS
   refine sf1 rfl rfl rfl rfl (wn0 rfl) (s_callv isfn169 ef (e1 (et (k20 d3)) (e1 (et (k20 d6)) e0)) (IH.sema_stat (hg.t (le47.t le104)) (m7.up (le47.t le104)) (m9.up (le47.t le104)) (m10.up (le47.t le104)) (m16.up (le47.t le104)) (m19.up (le47.t le104)) (m20.up (le47.t le104)) m105 m117 m120 m123 f113 g125 hS) ?_)
   rintro _ w10 ⟨μ3,v127,ms128,rfl,le126,hS,m129⟩
   replace hS:=Sep.mOut (a:=[_,_]) (p:=mRs ms128) (M:=[_]) (R:=rsF) hS
   refine po ?_
   refine ⟨Mons.z,?_⟩
   refine fpi 5 [5] rfl (sf_nil (xn (nz ?_)))
   iterate 2 refine st ?_
   refine nw ?_
   refine cifd (et (k20 d9)) (xT h) fun h130=>?_
   replace h:=iF h130 h
   refine cskip ?_
   refine (fun h=>bn (xn h)) ?_
   refine creg ?_
   obtain ⟨i131,g132,h⟩:=bI h
   refine wl (su (u_addc (et (k20 d0)) ec g132) (dt (q30 p1)) (st (wnil (xl ?_))))
   exact ⟨n_1,_,_,rfl,(aK4 (aO3 (aK10 (aK3 (aI (aO10 (aO1 aZ))))))),⟨_,i131,r124.2,v127,ms128,rfl,h,(le104.t le126),hS,m129⟩,Nat.lt_succ_self _⟩
  ·replace h:=iF h106 h
   refine cexit ?_
   refine (fun h=>xe (xe (bh h))) ?_
   refine xn (nz (st (nw (cret ?_))))
   obtain ⟨r133,g134,h⟩:=bI h
   replace hS:=((hS.bg Y1).bg Y1).bg Y2
   refine retD isfn168 (sema_pop_w (hg.t (le47.t le104)) (m7.up (le47.t le104)) (m9.up (le47.t le104)) (m10.up (le47.t le104)) (m16.up (le47.t le104)) (m19.up (le47.t le104)) (m20.up (le47.t le104)) m105 g134 hS) ?_
   rintro _ w11 ⟨μ4,v136,ms137,rfl,le135,hS,m138⟩
   obtain rfl:=oI h
   refine retDN rfl (RVs.s (.t d4) RVs.z) ?_
   replace hS:=hS.drop Rm.z
   replace hS:Sq μ4 w0 _ (.blk b1 261 [.pointer (some ⟨b3,o4,none⟩),.pointer (some ⟨b12,o13,none⟩),v136]::.row v136 258 1 r133.length (cOf ms137)::(mRs ms137++rsF)):=hS
   exact ⟨_,_,_,rfl,(le47.t (le104.t le135)),hS,m138⟩
theorem sema_stat_w {self:SemaS} (IH:SemaSSound self) {fu:Nat} {μ0:M} {w0 w:World} {rsF:List Res} (hg:Le Gm μ0) {b1:Nat} {prog_2:TSp} {b3 o4:Nat} {a5:Option Addr} {c6 b8:Nat} {def_11:TDef} {b12 o13:Nat} {a14:Option Addr} {c15:Nat} {a17:Option Addr} {c18:Nat} {bloc_21:List (List (List UInt8×TType))} {v22:Value} {ms23:List (Nat×List MapEntry×Nat)} {p_2:TStat} {b25 o26:Nat} {a27:Option Addr} {c28:Nat} {a30:Option Addr} {c31:Nat} {a33:Option Addr} {c34:Nat} {r:Int×List (List (List UInt8×TType))} (m7:Sl μ0 a5 c6 prog_2.defs) (m9:Mr μ0 b8 prog_2.named) (m10:At μ0 b3 o4 [.slice a5 prog_2.defs.length c6,.map (some b8)]) (m16:Sl μ0 a14 c15 def_11.Params) (m19:Sl μ0 a17 c18 def_11.Body) (m20:At μ0 b12 o13 [.int .i64 def_11.Kind,S def_11.Name,.int .i64 def_11.Typ.Kind,S def_11.Typ.Gen,.int .i64 def_11.Takes.Kind,S def_11.Takes.Gen,.int .i64 def_11.Cap,.slice a14 def_11.Params.length c15,.slice a17 def_11.Body.length c18]) (m24:Ms μ0 ms23 bloc_21) (m29:Sl μ0 a27 c28 p_2.X.Kids) (m32:Sl μ0 a30 c31 p_2.Body) (m35:Sl μ0 a33 c34 p_2.Else) (m36:At μ0 b25 o26 [.int .i64 p_2.Kind,S p_2.Name,.int .i64 p_2.X.Kind,.int .i64 p_2.X.N,S p_2.X.Name,.slice a27 p_2.X.Kids.length c28,.slice a30 p_2.Body.length c31,.slice a33 p_2.Else.length c34]) (h:sema_stat fu self prog_2 def_11 bloc_21 p_2=some r) (hS:Sq μ0 w0 w (.blk b1 261 [.pointer (some ⟨b3,o4,none⟩),.pointer (some ⟨b12,o13,none⟩),v22]::.row v22 258 1 bloc_21.length (cOf ms23)::(mRs ms23++rsF))):CallsV prog 169 [.pointer (some ⟨b1,0,none⟩),.pointer (some ⟨b25,o26,none⟩)] w (fun v w'=>∃ (μ':M) (v37:Value) (ms38:List (Nat×List MapEntry×Nat)),v=.int .i64 r.1∧Le μ0 μ'∧Sq μ' w0 w' (.blk b1 261 [.pointer (some ⟨b3,o4,none⟩),.pointer (some ⟨b12,o13,none⟩),v37]::.row v37 258 1 r.2.length (cOf ms38)::(mRs ms38++rsF))∧Ms μ' ms38 r.2):=by
 unfold sema_stat at h
 refine enter func169 rfl (frm:=_::_::u50 (u50 (u50 (u50 [])))) rfl (nz (st (ny (nz ?_))))
 iterate 3 refine st ?_
 refine ld ((m36 _ hS.a).one d0) (nw (cblock (nz ?_)))
 iterate 2 refine st ?_
 refine nw ?_
 refine cifd (et (k20 d3)) (fun h40=>?_) (fun h40=>?_)
 ·replace h:=iT h40 h
  refine nz ?_
  iterate 4 refine st ?_
  obtain ⟨r41,g42,h⟩:=bI h
  replace hS:=(hS.bg Y1).bg Y1
  refine ca ((SemaE_sound fu).sema_expr hg m7 m9 m10 m16 m19 m20 m24 m29 (m36.sb 2 4) g42 hS) ?_
  rintro _ w1 ⟨μ1,rfl,le43,hS⟩
  refine po ?_
  iterate 3 refine st ?_
  refine wl (s_alloc ti87 hS ?_); clear hS; intro b44 w2 hb45 hS; refine po ?_
  refine wl (s_storeA ti87 (et d5) (et (k30 d1)) rfl rfl hS d0 rfl p0 dn ?_)
  clear hS; intro w3 hS
  refine st (ny (nz ?_))
  iterate 2 refine st ?_
  refine nw ?_
  refine cifd (et (k30 d4)) (xT h) fun h46=>?_
  replace h:=iF h46 h
  refine cskip (xn (cseq (nz ?_)))
  iterate 4 refine st ?_
  refine ld ((m36 _ (le43 _ hS.a)).one d1) ?_
  obtain ⟨r47,g48,h⟩:=bI h
  replace hS:=(hS.bg Y2).bg Y2
  replace hS:=Sep.mOut (a:=[_,_]) (p:=[_]) (M:=mRs ms23) (R:=rsF) hS
  refine ca (sema_look_w (hg.t le43) (m7.up le43) (m9.up le43) (m10.up le43) (m16.up le43) (m19.up le43) (m20.up le43) (m24.up le43) g48 hS) ?_
  rintro _ w4 ⟨μ2,rfl,le49,hS⟩
  replace hS:=Sep.mOut (a:=[_,_]) (p:=mRs ms23) (M:=[_]) (R:=rsF) hS
  refine po ?_
  iterate 3 refine st ?_
  refine wl (s_alloc ti87 hS ?_); clear hS; intro b50 w5 hb51 hS; refine po ?_
  refine wl (s_storeA ti87 (et d7) (et (k40 d3)) rfl rfl hS d0 rfl p0 dn ?_)
  clear hS; intro w6 hS
  refine st (nx (st (nw ?_)))
  refine cifb (et (k40 d5)) (xT h) fun h52=>?_
  replace h:=iF h52 h
  refine cskip (xn ?_)
  refine cdw hS ?_; clear hS; intro w7 hS
  refine cpi 0 rfl (cpi 1 rfl (cpi 2 rfl (cpi 4 rfl (cpi 5 rfl (cpi 6 rfl (cpi 12 rfl (cpi 13 rfl (cpi 14 rfl (cr 7 [7,8,9,10,11,17] rfl (u_load ti259 (et (k50 d2)) ((hS.blk d1).cell d2)) (q50 p3) (cp 8 rfl (u_lenv underlying259 (et (k50 d3)) (hS.get d2).isSl) (q50 p4) ?_))))))))))
  obtain ⟨i53,g54,h⟩:=bI h
  refine cp 9 rfl (u_subc (et (k50 d4)) ec g54) (q50 p5) (cr 3 [3,10,11,17] rfl (u_load ti259 (et (k40 d8)) ((hS.blk d1).cell d2)) (q40 p9) ?_)
  obtain ⟨x55,g56,h⟩:=bI h
  obtain ⟨b57,o58,b59,es60,c61,e62,f63,hms64,mq65⟩:=Row.mapElem (hS.get d2) (m24.up (le43.t le49)) g56
  refine cp 10 rfl (u_iax underlying259 ti258 (et (k40 d9)) (et (k50 d5)) e62) (q50 p6) (cr 11 [11,17] rfl (u_load ti258 (et (k50 d6)) ((f63 _ _ (hS.get d2)).one d0)) (q50 p7) (cr 15 [15,17] rfl (u_load ti9 (et (k60 d0)) ((m36 _ ((le43.t le49) _ hS.a)).one d1)) (q60 p1) (cr 16 [16,17] rfl (u_loads ti87 (et d5) (hS.blk d3).cells rfl) (q60 p2) ?_)))
  refine sc1 rfl rfl rfl (s_mputS (pre:=[_,_,_,_]) (κ:=List UInt8) (β:=TType) (kk:=p_2.Name) (xx:=r41.1) underlying258 underlying9 (et (k50 d7)) (et (k60 d1)) (et (k60 d2)) ⟨_,rfl,rfl⟩ hS hms64 mq65 (m24.up (le43.t le49)) dn ?_); clear hS; intro ms66 w8 m67 e68 e69 hS; rw [e68,e69] at hS
  refine sc_nil ?_
  refine (fun h=>bn (xn h)) ?_
  refine nz (st (nw (cret ?_)))
  obtain rfl:=oI h
  refine ret1 rfl d4 ?_
  replace hS:=(hS.drop Rm.z).drop (Rm.s (Rm.s Rm.z))
  replace hS:Sq μ2 w0 _ (.blk b1 261 [.pointer (some ⟨b3,o4,none⟩),.pointer (some ⟨b12,o13,none⟩),v22]::.row v22 258 1 (bloc_21.set i53.toNat (mput x55 p_2.Name r41.1)).length (cOf ms66)::(mRs ms66++rsF)):=hS
  exact ⟨_,_,_,rfl,(le43.t le49),hS,m67⟩
 ·replace h:=iF h40 h
  refine nz ?_
  iterate 2 refine st ?_
  refine nw ?_
  refine cifd (et (k60 d3)) (fun h70=>?_) (fun h70=>?_)
  ·replace h:=iT h70 h
   refine nz ?_
   iterate 4 refine st ?_
   refine ld ((m36 _ hS.a).one d1) ?_
   obtain ⟨r71,g72,h⟩:=bI h
   replace hS:=(hS.bg Y1).bg Y1
   refine ca (sema_look_w hg m7 m9 m10 m16 m19 m20 m24 g72 hS) ?_
   rintro _ w9 ⟨μ3,rfl,le73,hS⟩
   refine po ?_
   iterate 3 refine st ?_
   refine wl (s_alloc ti87 hS ?_); clear hS; intro b74 w10 hb75 hS; refine po ?_
   refine wl (s_storeA ti87 (et d9) (et (k70 d2)) rfl rfl hS d0 rfl p0 dn ?_)
   clear hS; intro w11 hS
   refine st (ny (nz ?_))
   iterate 2 refine st ?_
   refine nw ?_
   refine cifnb (et (k70 d5)) (xF h) fun h76=>?_
   replace h:=iT h76 h
   refine cskip (xn (cseq ?_))
   refine cdw hS ?_; clear hS; intro w12 hS
   refine cpi 0 rfl (cpi 1 rfl (cpi 2 rfl (cpi 3 rfl (cr 4 [4,5,6] rfl (u_loads ti87 (et d9) (hS.blk d0).cells rfl) (q80 p0) ?_))))
   obtain ⟨r77,g78,h⟩:=bI h
   replace hS:=(hS.bg Y2).bg Y2
   replace hS:=Sep.mOut (a:=[_,_]) (p:=[_]) (M:=mRs ms23) (R:=rsF) hS
   refine sc1 rfl rfl rfl (s_callv isfn178 ef (e1 (et (k70 d6)) (e1 (et (k70 d9)) (e1 (et (k80 d0)) e0))) ((SemaE_sound fu).sema_typed (hg.t le73) (m7.up le73) (m9.up le73) (m10.up le73) (m16.up le73) (m19.up le73) (m20.up le73) (m24.up le73) (m29.up le73) ((m36.up le73).sb 2 4) g78 hS) ?_)
   rintro _ w13 ⟨μ4,rfl,le79,hS⟩
   replace hS:=Sep.mOut (a:=[_,_]) (p:=mRs ms23) (M:=[_]) (R:=rsF) hS
   refine po (cpi 6 rfl (nu (cret ?_)))
   refine (fun h=>br (xr h)) ?_
   obtain rfl:=oI h
   refine ret1 rfl d4 ?_
   replace hS:=hS.drop (Rm.s (Rm.s Rm.z))
   replace hS:Sq μ4 w0 _ (.blk b1 261 [.pointer (some ⟨b3,o4,none⟩),.pointer (some ⟨b12,o13,none⟩),v22]::.row v22 258 1 bloc_21.length (cOf ms23)::(mRs ms23++rsF)):=hS
   exact ⟨_,_,_,rfl,(le73.t le79),hS,(m24.up (le73.t le79))⟩
  ·replace h:=iF h70 h
   refine cseq (nz ?_)
   iterate 2 refine st ?_
   refine nw ?_
   refine ccutE ([84]) (by decide) (fun m w=>∃ μx b80,m=(yK50 (yK20 (yK10 (yK2 (.i (.bool b80)::(yK1 (yO1 84 [])))))))∧sema_stat_j1 fu self p_2 prog_2 def_11 bloc_21 b80=some r∧Le μ0 μx∧Sq μx w0 w (.blk b1 261 [.pointer (some ⟨b3,o4,none⟩),.pointer (some ⟨b12,o13,none⟩),v22]::.row v22 258 1 bloc_21.length (cOf ms23)::(mRs ms23++rsF))) (by rintro _ _ ⟨_,_,rfl,_⟩; rfl) ?_ ?_
   ·refine cifd (et (k80 d2)) (fun h81=>?_) (fun h81=>?_)
    ·replace h:=iT h81 h
     refine cskip (xl ?_)
     exact ⟨_,_,rfl,(aK50 (aK20 (aK10 (aK2 (aI (aK1 (aO1 aZ))))))),_,(decide (p_2.Kind=3)),rfl,h,Le.r,hS⟩
    ·replace h:=iF h81 h
     refine creg ?_
     iterate 2 refine st ?_
     refine wnil (xl ?_)
     exact ⟨_,_,rfl,(aK50 (aK20 (aK10 (aK2 (aI (aK1 (aO1 aZ))))))),_,(decide (p_2.Kind=4)),rfl,h,Le.r,hS⟩
   ·rintro _ t w14 ⟨μ5,b80,rfl,h,le82,hS⟩
    unfold sema_stat_j1 at h
    refine nrm (mK50 (mK20 (mK10 (mK2 (mi (mK1 (mO1 mz))))))) (xn ?_)
    refine cifb (et (k80 d2)) (fun h83=>?_) (fun h83=>?_)
    ·replace h:=iT h83 h
     refine cseq (cseq ?_)
     refine cdw hS ?_; clear hS; intro w15 hS
     refine cpi 0 rfl (cpi 1 rfl (cpi 2 rfl (cpi 3 rfl ?_)))
     obtain ⟨r84,g85,h⟩:=bI h
     refine sc1 rfl rfl rfl (s_callv isfn179 ef e0 (sema_boolean_w (hg.t le82) g85 hS) ?_)
     rintro _ w16 ⟨μ6,rfl,le86,hS⟩
     refine po ?_
     obtain ⟨r87,g88,h⟩:=bI h
     replace hS:=(hS.bg Y1).bg Y1
     refine sc1 rfl rfl rfl (s_callv isfn178 ef (e1 (et (k80 d5)) (e1 (et (k80 d8)) (e1 (et (k80 d9)) e0))) ((SemaE_sound fu).sema_typed (hg.t (le82.t le86)) (m7.up (le82.t le86)) (m9.up (le82.t le86)) (m10.up (le82.t le86)) (m16.up (le82.t le86)) (m19.up (le82.t le86)) (m20.up (le82.t le86)) (m24.up (le82.t le86)) (m29.up (le82.t le86)) ((m36.up (le82.t le86)).sb 2 4) g88 hS) ?_)
     rintro _ w17 ⟨μ7,rfl,le89,hS⟩
     refine po (cpi 6 rfl (nu (nz ?_)))
     iterate 2 refine st ?_
     refine nw ?_
     refine cifd (et (k90 d2)) (xT h) fun h90=>?_
     replace h:=iF h90 h
     refine cskip (xn (cseq (nz ?_)))
     iterate 4 refine st ?_
     refine ld ((m36 _ ((le82.t (le86.t le89)) _ hS.a)).one d6) ?_
     obtain ⟨r91,g92,h⟩:=bI h
     replace hS:=(hS.bg Y1).bg Y1
     refine ca (IH.sema_stats (hg.t (le82.t (le86.t le89))) (m7.up (le82.t (le86.t le89))) (m9.up (le82.t (le86.t le89))) (m10.up (le82.t (le86.t le89))) (m16.up (le82.t (le86.t le89))) (m19.up (le82.t (le86.t le89))) (m20.up (le82.t (le86.t le89))) (m24.up (le82.t (le86.t le89))) (m32.up (le82.t (le86.t le89))) g92 hS) ?_
     rintro _ w18 ⟨μ8,v94,ms95,rfl,le93,hS,m96⟩
     refine po (st (nx ?_))
     iterate 3 refine st ?_
     refine wspd (k100 d2) (q100 p2) (q100 p2) (xT h) fun h97=>?_
     replace h:=iF h97 h
     refine sy rfl (sy rfl (sy rfl (wy rfl (k100 d2) (s_load ti3 (et (k100 d5)) ((m36 _ ((le82.t (le86.t (le89.t le93))) _ hS.a)).one d0) (dt (q100 p6)) (sy rfl (st (nw ?_)))))))
     refine cifd (et (k100 d8)) (fun h98=>?_) (fun h98=>?_)
     ·replace h:=iT h98 h
      refine nz ?_
      iterate 2 refine st ?_
      refine nw (cret ?_)
      refine (fun h=>xr (br (xr h))) ?_
      obtain rfl:=oI h
      refine ret1 rfl d4 ?_
      replace hS:Sq μ8 w0 _ (.blk b1 261 [.pointer (some ⟨b3,o4,none⟩),.pointer (some ⟨b12,o13,none⟩),v94]::.row v94 258 1 r91.2.length (cOf ms95)::(mRs ms95++rsF)):=hS
      exact ⟨_,_,_,rfl,(le82.t (le86.t (le89.t le93))),hS,m96⟩
     ·replace h:=iF h98 h
      refine cskip (xn (nz ?_))
      iterate 4 refine st ?_
      refine ld ((m36 _ ((le82.t (le86.t (le89.t le93))) _ hS.a)).one d7) ?_
      obtain ⟨r99,g100,h⟩:=bI h
      replace hS:=(hS.bg Y1).bg Y1
      refine ca (IH.sema_stats (hg.t (le82.t (le86.t (le89.t le93)))) (m7.up (le82.t (le86.t (le89.t le93)))) (m9.up (le82.t (le86.t (le89.t le93)))) (m10.up (le82.t (le86.t (le89.t le93)))) (m16.up (le82.t (le86.t (le89.t le93)))) (m19.up (le82.t (le86.t (le89.t le93)))) (m20.up (le82.t (le86.t (le89.t le93)))) m96 (m35.up (le82.t (le86.t (le89.t le93)))) g100 hS) ?_
      rintro _ w19 ⟨μ9,v102,ms103,rfl,le101,hS,m104⟩
      refine po (st (nw (cret ?_)))
      refine (fun h=>br (xr h)) ?_
      obtain rfl:=oI h
      refine ret1 rfl d4 ?_
      replace hS:Sq μ9 w0 _ (.blk b1 261 [.pointer (some ⟨b3,o4,none⟩),.pointer (some ⟨b12,o13,none⟩),v102]::.row v102 258 1 r99.2.length (cOf ms103)::(mRs ms103++rsF)):=hS
      exact ⟨_,_,_,rfl,(le82.t (le86.t (le89.t (le93.t le101)))),hS,m104⟩
    ·replace h:=iF h83 h
     refine nz ?_
     iterate 2 refine st ?_
     refine nw ?_
     refine cifd (et (k100 (k10 d6))) (fun h105=>?_) (fun h105=>?_)
     ·replace h:=iT h105 h
      refine cseq (nz ?_)
      iterate 3 refine st ?_
      refine ld ((hS.blk d0).cell d1) ?_
      iterate 2 refine st ?_
      refine ld ((m20 _ (le82 _ hS.a)).one d0) (st (nw ?_))
      refine cifd (et (k100 (k20 d5))) (xT h) fun h106=>?_
      replace h:=iF h106 h
      refine cskip (xn (cseq ?_))
      refine cdw hS ?_; clear hS; intro w20 hS
      refine cpi 0 rfl (cpi 1 rfl (cpi 2 rfl (cpi 3 rfl (cpi 4 rfl (cpi 5 rfl (cpi 6 rfl (cr 7 [7,8,9,10,11,12] rfl (u_load ti99 (et (k100 (k30 d2))) ((hS.blk d0).cell d1)) (q100 (q30 p3)) (cpi 8 rfl (cpi 9 rfl (cr 10 [10,11,12] rfl (u_loads ti87 (et (k100 (k30 d5))) ((m20 _ (le82 _ hS.a)).sb 2 2) rfl) (q100 (q30 p6)) ?_))))))))))
      obtain ⟨r107,g108,h⟩:=bI h
      replace hS:=(hS.bg Y1).bg Y1
      refine sc1 rfl rfl rfl (s_callv isfn178 ef (e1 (et (k100 (k20 d6))) (e1 (et (k100 (k20 d9))) (e1 (et (k100 (k30 d6))) e0))) ((SemaE_sound fu).sema_typed (hg.t le82) (m7.up le82) (m9.up le82) (m10.up le82) (m16.up le82) (m19.up le82) (m20.up le82) (m24.up le82) (m29.up le82) ((m36.up le82).sb 2 4) g108 hS) ?_)
      rintro _ w21 ⟨μ10,rfl,le109,hS⟩
      refine po (cpi 12 rfl (nu (cret ?_)))
      refine (fun h=>br (xr h)) ?_
      obtain rfl:=oI h
      refine ret1 rfl d4 ?_
      replace hS:Sq μ10 w0 _ (.blk b1 261 [.pointer (some ⟨b3,o4,none⟩),.pointer (some ⟨b12,o13,none⟩),v22]::.row v22 258 1 bloc_21.length (cOf ms23)::(mRs ms23++rsF)):=hS
      exact ⟨_,_,_,rfl,(le82.t le109),hS,(m24.up (le82.t le109))⟩
     ·replace h:=iF h105 h
      refine nz ?_
      iterate 2 refine st ?_
      refine nw ?_
      refine cifd (et (k100 (k30 d8))) (xT h) fun h110=>?_
      replace h:=iF h110 h
      refine nz ?_
      iterate 2 refine st ?_
      refine nw ?_
      refine cifd (et (k100 (k40 d8))) (xT h) fun h111=>?_
      replace h:=iF h111 h
      refine nz ?_
      iterate 2 refine st ?_
      refine nw ?_
      refine cifd (et (k100 (k70 d3))) (fun h112=>?_) (xF h)
      replace h:=iT h112 h
      refine nz ?_
      iterate 4 refine st ?_
      obtain ⟨r113,g114,h⟩:=bI h
      replace hS:=(hS.bg Y1).bg Y1
      refine ca ((SemaE_sound fu).sema_expr (hg.t le82) (m7.up le82) (m9.up le82) (m10.up le82) (m16.up le82) (m19.up le82) (m20.up le82) (m24.up le82) (m29.up le82) ((m36.up le82).sb 2 4) g114 hS) ?_
      rintro _ w22 ⟨μ11,rfl,le115,hS⟩
      refine po ?_
      iterate 3 refine st ?_
      refine wl (s_alloc ti87 hS ?_); clear hS; intro b116 w23 hb117 hS; refine po ?_
      refine wl (s_storeA ti87 (et (k10 d5)) (et (k100 (k80 d1))) rfl rfl hS d0 rfl p0 dn ?_)
      clear hS; intro w24 hS
      refine st (ny (nz ?_))
      iterate 3 refine st ?_
      refine wspd (k100 (k80 d5)) (q100 (q80 p5)) (q100 (q80 p5)) (fun h118=>?_) (xF h)
      replace h:=iT h118 h
      refine wy rfl (k100 (k80 d5)) (s_loads ti87 (et (k10 d5)) (hS.blk d0).cells rfl (dt (q100 (q80 p6))) ?_)
      obtain ⟨r119,g120,h⟩:=bI h
      refine wy rfl (k100 (k80 d5)) (s_callv isfn158 ef (e1 (et (k100 (k80 d6))) e0) (sema_plain_w (hg.t (le82.t le115)) g120 hS) ?_)
      rintro _ w25 ⟨μ12,rfl,le121,hS⟩
      refine po (sy rfl (st (nw ?_)))
      refine cifnb (et (k100 (k80 d9))) (xF h) fun h122=>?_
      replace h:=iT h122 h
      refine cskip (xn (nz ?_))
      iterate 2 refine st ?_
      refine nw (cret ?_)
      refine (fun h=>br (xr h)) ?_
      obtain rfl:=oI h
      refine ret1 rfl d4 ?_
      replace hS:=hS.drop Rm.z
      replace hS:Sq μ12 w0 _ (.blk b1 261 [.pointer (some ⟨b3,o4,none⟩),.pointer (some ⟨b12,o13,none⟩),v22]::.row v22 258 1 bloc_21.length (cOf ms23)::(mRs ms23++rsF)):=hS
      exact ⟨_,_,_,rfl,(le82.t (le115.t le121)),hS,(m24.up (le82.t (le115.t le121)))⟩
theorem SemaS_sound:∀ n,SemaSSound (SemaS_run n)
  | 0=>⟨(by intros; rename_i h _; cases h),(by intros; rename_i h _; cases h)⟩
  | n+1=>⟨sema_stats_w (SemaS_sound n),sema_stat_w (SemaS_sound n)⟩
theorem sema_head_w (hg:Le Gm μ0) {p_1:TSp} {p_2:TDef} {r:Int} (m5:Sl μ0 a3 c4 p_1.defs) (m7:Mr μ0 b6 p_1.named) (m8:At μ0 b1 o2 [.slice a3 p_1.defs.length c4,.map (some b6)]) (m13:Sl μ0 a11 c12 p_2.Params) (m16:Sl μ0 a14 c15 p_2.Body) (m17:At μ0 b9 o10 [.int .i64 p_2.Kind,S p_2.Name,.int .i64 p_2.Typ.Kind,S p_2.Typ.Gen,.int .i64 p_2.Takes.Kind,S p_2.Takes.Gen,.int .i64 p_2.Cap,.slice a11 p_2.Params.length c12,.slice a14 p_2.Body.length c15]) (h:sema_head p_1 p_2=some r) (hS:Sq μ0 w0 w (rsF)):CallsV prog 138 [.pointer (some ⟨b1,o2,none⟩),.pointer (some ⟨b9,o10,none⟩)] w (fun v w'=>∃ (μ':M) ,v=.int .i64 r∧Le μ0 μ'∧Sq μ' w0 w' (rsF)):=by
 unfold sema_head at h
 refine enter func138 rfl (frm:=_::_::u5 (u20 (u50 []))) rfl (nz (st (nx ?_)))
 refine wl (s_mkmap hS ?_); clear hS; intro b18 w1 hb19 hS; refine po ?_
 refine st (ny (cseq ?_))
 refine ccutE (rg 10 11) (by decide) (fun m w=>∃ μx b20,m=(yK10 (yO10 10 (yO1 20 (.i (.bool b20)::[]))))∧sema_head_j1 p_1 p_2 b20=some r∧Le μ0 μx∧Sq μx w0 w (.map b18 [] 0::rsF)) (by rintro _ _ ⟨_,_,rfl,_⟩; rfl) ?_ ?_
 ·refine creg ?_
  iterate 3 refine st ?_
  refine ld ((m17 _ hS.a).one d0) ?_
  iterate 2 refine st ?_
  refine wspd (k10 d5) (q10 p5) (q10 p5) (fun h21=>?_) (fun h21=>?_)
  ·replace h:=iT h21 h
   refine sn rfl rfl (sn rfl rfl (sn rfl rfl (sn rfl rfl (sn rfl rfl (st (wnil (xl ?_)))))))
   exact ⟨_,_,rfl,(aK10 (aO10 (aO1 (aI aZ)))),_,true,rfl,h,Le.r,hS⟩
  ·replace h:=iF h21 h
   refine sy rfl (sy rfl (sy rfl (wy rfl (k10 d5) (s_load ti3 (et (k10 d8)) ((m17 _ hS.a).one d0) (dt (q10 p9)) (sy rfl (st (wnil (xl ?_))))))))
   exact ⟨_,_,rfl,(aK10 (aO10 (aO1 (aI aZ)))),_,(decide (p_2.Kind=3)),rfl,h,Le.r,hS⟩
 ·rintro _ t w2 ⟨μ1,b20,rfl,h,le22,hS⟩
  unfold sema_head_j1 at h
  refine nrm (mK10 (mO10 (mO1 (mi mz)))) (xn ?_)
  refine ccutE ([4]++rg 7 2++rg 22 27) (by decide +kernel) (fun m w=>∃ (μx:M) ,m=(yK4 (yO1 4 (yK2 (yO2 7 (yK10 (yK3 (yO20 22 (yO7 42 []))))))))∧sema_head_j2 p_2 =some r∧Le μ1 μx∧Sq μx w0 w (rsF)) (by rintro _ _ ⟨_,rfl,_⟩; rfl) ?_ ?_
  ·refine cifb (et (k20 d1)) (fun h23=>?_) (fun h23=>?_)
   ·replace h:=iT h23 h
    refine nz ?_
    iterate 3 refine st ?_
    refine ld ((m17 _ (le22 _ hS.a)).one d7) (wl (su (u_lensl underlying88 (et (k20 d5))) (dt (q20 p6)) (st (nw (cblock ?_)))))
    refine cloopE ([4]++rg 7 2++rg 28 21) (by decide +kernel) (fun n m w=>∃ μx i48 l51 es49 c50,m=(yK4 (yO1 4 (yK2 (yO2 7 (yK10 (yK8 (.i (.int .i64 i48)::(yO20 28 (yO1 48 [])))))))))∧sema_head_l1 p_1 p_2 n i48 l51=some r∧Le μ1 μx∧Sq μx w0 w (.map b18 es49 c50::rsF)∧Mq μx es49 c50 l51) (by rintro _ _ _ ⟨_,_,_,_,_,rfl,_⟩; rfl) _ _ (aK4 (aO1 (aK2 (aO2 (aK10 (aK8 (aI (aO20 (aO1 aZ))))))))) ⟨_,0,([]:List (List UInt8×Int)),[],0,rfl,h,Le.r,hS,((Mq.nil (κ:=List UInt8) (β:=Int) (μ:=μ0) (c:=0)).up le22)⟩ ?_
    rintro n_1 _ t w3 ⟨μ2,i48,l51,es49,c50,rfl,h,le77,hS,m78⟩
    cases n_1 with
    | zero=>cases h
    | succ n_1 =>
    unfold sema_head_l1 at h
    refine cnrm (mK4 (mO1 (mK2 (mO2 (mK10 (mK8 (mi (mO20 (mO1 mz))))))))) (nz (st (ny ?_)))
    refine cifd (et (k20 d8)) (fun h79=>?_) (fun h79=>?_)
    ·replace h:=iT h79 h
     refine cskip (xn (cseq (cblock (nz ?_))))
     obtain ⟨x80,g81,h⟩:=bI h
     obtain ⟨b82,o83,cs84,e85,f86,m87⟩:=SlR.elem (m13.up (le22.t le77)) g81
     obtain rfl:=m87
     refine wl (su (u_iax underlying88 ti159 (et (k20 d5)) (et (k20 d7)) e85) (dt (q20 p9)) (lds (f86 _ hS.a) rfl ?_))
     refine wl (s_alloc ti159 hS ?_); clear hS; intro b88 w4 hb89 hS; refine po ?_
     refine wl (s_storeA ti159 (et d7) (et (k30 d0)) rfl rfl hS d0 rfl p0 dn ?_)
     clear hS; intro w5 hS
     refine ny (nz ?_)
     iterate 2 refine st ?_
     refine ld ((hS.blk d0).cell d0) ?_
     refine wl (s_mget1 (κ:=List UInt8) (k:=x80.Name) (β:=Int) (zx:=0) underlying95 underlying9 (et (k30 d1)) (et (k30 d3)) zv3 rfl (hS.get d1) m78 ?_); rintro _ rfl; refine po ?_
     obtain ⟨i92,g93,h⟩:=bI h
     refine wl (su (u_addc (et (k30 d4)) ec g93) (dt (q30 p5)) ?_)
     refine wl (s_mputM (κ:=List UInt8) (β:=Int) (kk:=x80.Name) (xx:=i92) underlying95 underlying9 (et (k30 d1)) (et (k30 d3)) (et (k30 d5)) rfl hS d1 m78 dn ?_); clear hS; intro es94 c95 w6 rs_ m96 hp_ hS; cases (show _=rs_ from hp_)
     replace hS:=Sep.reput hS p1
     refine nx ?_
     iterate 2 refine st ?_
     refine ld ((hS.blk d0).cell d0) ?_
     refine wl (s_mget1 (κ:=List UInt8) (k:=x80.Name) (β:=Int) (zx:=0) underlying95 underlying9 (et (k30 d6)) (et (k30 d8)) zv3 rfl (hS.get d1) m96 ?_); rintro _ rfl; refine po ?_
     refine st (nw ?_)
     refine cifd (et (k40 d0)) (xT h) fun h99=>?_
     replace h:=iF h99 h
     refine cskip (xn (nz ?_))
     iterate 2 refine st ?_
     refine lds ((hS.blk d0).cellsAt (Sb.s d1 (Sb.s d2 Sb.z))) rfl ?_
     obtain ⟨r100,g101,h⟩:=bI h
     refine ca (sema_typ_w (hg.t (le22.t le77)) (m5.up (le22.t le77)) (m7.up (le22.t le77)) (m8.up (le22.t le77)) g101 hS) ?_
     rintro _ w7 ⟨μ3,rfl,le102,hS⟩
     refine po (st (nx ?_))
     iterate 2 refine st ?_
     refine nw ?_
     refine cifd (et (k40 d6)) (xT h) fun h103=>?_
     replace h:=iF h103 h
     refine cskip ?_
     refine (fun h=>bn (xn h)) ?_
     refine creg ?_
     obtain ⟨i104,g105,h⟩:=bI h
     refine wl (su (u_addc (et (k20 d7)) ec g105) (dt (q40 p8)) (st (wnil (xl ?_))))
     replace hS:=hS.drop Rm.z
     exact ⟨n_1,_,_,rfl,(aK4 (aO1 (aK2 (aO2 (aK10 (aK8 (aI (aO20 (aO1 aZ))))))))),⟨_,i104,(mput l51 x80.Name i92),es94,c95,rfl,h,(le77.t le102),hS,(m96.up le102)⟩,Nat.lt_succ_self _⟩
    ·replace h:=iF h79 h
     refine cexit ?_
     refine (fun h=>xe (xe (bh h))) ?_
     refine xl ?_
     replace hS:=hS.drop Rm.z
     exact ⟨_,_,rfl,(aK4 (aO1 (aK2 (aO2 (aK10 (aK3 (aO20 (aO7 aZ)))))))),_,rfl,h,le77,hS⟩
   ·replace h:=iF h23 h
    refine cskip (xl ?_)
    replace hS:=hS.drop Rm.z
    exact ⟨_,_,rfl,(aK4 (aO1 (aK2 (aO2 (aK10 (aK3 (aO20 (aO7 aZ)))))))),_,rfl,h,Le.r,hS⟩
  ·rintro _ t w8 ⟨μ4,rfl,h,le106,hS⟩
   unfold sema_head_j2 at h
   refine nrm (mK4 (mO1 (mK2 (mO2 (mK10 (mK3 (mO20 (mO7 mz)))))))) (xn (cseq (cseq ?_)))
   refine ccutE (rg 49 27) (by decide +kernel) (fun m w=>∃ μx b107,m=(yK20 (yK20 (yK9 (yO20 49 (yO7 69 (.i (.bool b107)::[]))))))∧sema_head_j3 b107=some r∧Le μ4 μx∧Sq μx w0 w (rsF)) (by rintro _ _ ⟨_,_,rfl,_⟩; rfl) ?_ ?_
   ·refine creg ?_
    iterate 3 refine st ?_
    refine ld ((m17 _ ((le22.t le106) _ hS.a)).one d0) ?_
    iterate 2 refine st ?_
    refine wspd (k50 d4) (q50 p4) (q50 p4) (xT h) fun h108=>?_
    replace h:=iF h108 h
    refine sn rfl rfl (sn rfl rfl (sn rfl rfl (sn rfl rfl (sn rfl rfl (sn rfl rfl ?_)))))
    iterate 2 refine st ?_
    refine sy rfl (sy rfl (sy rfl (wy rfl (k60 d2) (s_load ti3 (et (k60 d5)) ((m17 _ ((le22.t le106) _ hS.a)).one d0) (dt (q60 p6)) (sy rfl (sy rfl ?_))))))
    refine wspd (k60 d8) (q60 p8) (q60 p8) (fun h109=>?_) (fun h109=>?_)
    ·replace h:=iT h109 h
     refine sy rfl (sy rfl (sy rfl (wy rfl (k60 d8) (s_loads ti87 (et (k70 d1)) ((m17 _ ((le22.t le106) _ hS.a)).sb 2 2) rfl (dt (q70 p2)) ?_))))
     obtain ⟨r110,g111,h⟩:=bI h
     refine wy rfl (k60 d8) (s_callv isfn158 ef (e1 (et (k70 d2)) e0) (sema_plain_w (hg.t (le22.t le106)) g111 hS) ?_)
     rintro _ w9 ⟨μ5,rfl,le112,hS⟩
     refine po (sy rfl (sy rfl (st (wnil (xl ?_)))))
     exact ⟨_,_,rfl,(aK20 (aK20 (aK9 (aO20 (aO7 (aI aZ)))))),_,(!r110),rfl,h,le112,hS⟩
    ·replace h:=iF h109 h
     refine sn rfl rfl (sn rfl rfl (sn rfl rfl (sn rfl rfl (sn rfl rfl (sn rfl rfl (sy rfl (st (wnil (xl ?_)))))))))
     exact ⟨_,_,rfl,(aK20 (aK20 (aK9 (aO20 (aO7 (aI aZ)))))),_,false,rfl,h,Le.r,hS⟩
   ·rintro _ t w10 ⟨μ6,b107,rfl,h,le113,hS⟩
    unfold sema_head_j3 at h
    refine nrm (mK20 (mK20 (mK9 (mO20 (mO7 (mi mz)))))) (xn ?_)
    refine cifb (et (k70 d6)) (xT h) fun h114=>?_
    replace h:=iF h114 h
    refine cskip (xn (nz (st (nw (cret ?_)))))
    obtain rfl:=oI h
    refine ret1 rfl d4 ?_
    exact ⟨_,rfl,(le22.t (le106.t le113)),hS⟩
theorem sema_body_w (hg:Le Gm μ0) {p_1:TSp} {p_2:TDef} {r:Int} (m5:Sl μ0 a3 c4 p_1.defs) (m7:Mr μ0 b6 p_1.named) (m8:At μ0 b1 o2 [.slice a3 p_1.defs.length c4,.map (some b6)]) (m13:Sl μ0 a11 c12 p_2.Params) (m16:Sl μ0 a14 c15 p_2.Body) (m17:At μ0 b9 o10 [.int .i64 p_2.Kind,S p_2.Name,.int .i64 p_2.Typ.Kind,S p_2.Typ.Gen,.int .i64 p_2.Takes.Kind,S p_2.Takes.Gen,.int .i64 p_2.Cap,.slice a11 p_2.Params.length c12,.slice a14 p_2.Body.length c15]) (h:sema_body fu p_1 p_2=some r) (hS:Sq μ0 w0 w (rsF)):CallsV prog 139 [.pointer (some ⟨b1,o2,none⟩),.pointer (some ⟨b9,o10,none⟩)] w (fun v w'=>∃ (μ':M) ,v=.int .i64 r∧Le μ0 μ'∧Sq μ' w0 w' (rsF)):=by
 unfold sema_body at h
 refine enter func139 rfl (frm:=_::_::u2 (u2 (u5 (u20 (u20 []))))) rfl (nz (st (ny (nz ?_))))
 iterate 3 refine st ?_
 refine ld ((m17 _ hS.a).one d0) (st (nw ?_))
 refine cifd (et (k10 d2)) (fun h18=>?_) (fun h18=>?_)
 ·replace h:=iT h18 h
  refine nz (st (nw (cret (xr ?_))))
  obtain rfl:=oI h
  refine ret1 rfl d4 ?_
  exact ⟨_,rfl,Le.r,hS⟩
 ·replace h:=iF h18 h
  refine cskip (xn (nz ?_))
  iterate 2 refine st ?_
  refine wl (s_mkmap hS ?_); clear hS; intro b19 w1 hb20 hS; refine po ?_
  refine wl (s_bsl underlying259 ti258 (Parts.s (et (k10 d5)) rfl Parts.z) rfl rfl hS ?_); clear hS; intro b21 w2 hb22 hS; refine po ?_
  refine wl (s_build ti261 pl261 (Fl.o rfl (et (k10 d3)) rfl rfl p0 (Fl.o rfl (et (k10 d4)) rfl rfl p1 (Fl.o rfl (et (k10 d6)) rfl rfl p2 Fl.z))) (dt (q10 p7)) ?_)
  refine wl (s_box (et (k10 d7)) rfl hS ?_); clear hS; intro b23 w3 hb24 hS; refine po ?_
  replace hS:=hS.blkRow (n:=1) (sz:=1) d1 rfl (by decide) p1
  replace hS:=(hS.bg Y1).bg Y1
  obtain ⟨ms25,hms26⟩:∃ x,x=([(b19,[],0)]:List (Nat×List MapEntry×Nat)):=⟨_,rfl⟩
  change Sq μ0 w0 _ (.blk b23 261 [.pointer (some ⟨b1,o2,none⟩),.pointer (some ⟨b9,o10,none⟩),.slice (some ⟨b21,0,none⟩) 1 1]::.row (.slice (some ⟨b21,0,none⟩) 1 1) 258 1 [([]:List (List UInt8×TType))].length (cOf [(b19,[],0)])::(mRs [(b19,[],0)]++rsF)) at hS; rw [← hms26] at hS
  have m27:Ms μ0 ms25 [([]:List (List UInt8×TType))]:=by rw [hms26]; exact ⟨_,_,rfl,(Mq.nil (κ:=List UInt8) (β:=TType) (μ:=μ0) (c:=0)),rfl⟩
  refine st (ny (nz ?_))
  iterate 3 refine st ?_
  refine ld ((m17 _ hS.a).one d0) (st (nw ?_))
  refine ccutE ([7]++rg 24 21) (by decide +kernel) (fun m w=>∃ μx l30 v28 ms29,m=(yK7 (yO1 7 (yK10 (yK6 (yO20 24 (yO1 44 []))))))∧sema_body_j1 fu p_1 p_2 l30=some r∧Le μ0 μx∧Sq μx w0 w (.row v28 258 1 l30.length (cOf ms29)::.blk b23 261 [.pointer (some ⟨b1,o2,none⟩),.pointer (some ⟨b9,o10,none⟩),v28]::(mRs ms29++rsF))∧Ms μx ms29 l30) (by rintro _ _ ⟨_,_,_,_,rfl,_⟩; rfl) ?_ ?_
  ·refine cifd (et (k20 d3)) (fun h32=>?_) (fun h32=>?_)
   ·replace h:=iT h32 h
    refine nz ?_
    iterate 3 refine st ?_
    refine ld ((m17 _ hS.a).one d7) (wl (su (u_lensl underlying88 (et (k20 d7))) (dt (q20 p8)) (st (nw (cblock ?_)))))
    replace hS:=hS.bg Y1
    refine cloopE ([7]++rg 30 15) (by decide) (fun n m w=>∃ μx i63 l66 v64 ms65,m=(yK7 (yO1 7 (yK20 (yK1 (.i (.int .i64 i63)::(yO10 30 (yO5 40 [])))))))∧sema_body_l1 fu p_1 p_2 n i63 l66=some r∧Le μ0 μx∧Sq μx w0 w (.row v64 258 1 l66.length (cOf ms65)::.blk b23 261 [.pointer (some ⟨b1,o2,none⟩),.pointer (some ⟨b9,o10,none⟩),v64]::(mRs ms65++rsF))∧Ms μx ms65 l66) (by rintro _ _ _ ⟨_,_,_,_,_,rfl,_⟩; rfl) _ _ (aK7 (aO1 (aK20 (aK1 (aI (aO10 (aO5 aZ))))))) ⟨_,0,[([]:List (List UInt8×TType))],(.slice (some ⟨b21,0,none⟩) 1 1),ms25,rfl,h,Le.r,hS,m27⟩ ?_
    rintro n_1 _ t w4 ⟨μ1,i63,l66,v64,ms65,rfl,h,le98,hS,m99⟩
    cases n_1 with
    | zero=>cases h
    | succ n_1 =>
    unfold sema_body_l1 at h
    refine cnrm (mK7 (mO1 (mK20 (mK1 (mi (mO10 (mO5 mz))))))) (nz (st (ny ?_)))
    refine cifd (et (k30 d0)) (fun h100=>?_) (fun h100=>?_)
    ·replace h:=iT h100 h
     refine cskip (xn (cseq (cblock (nz ?_))))
     obtain ⟨x101,g102,h⟩:=bI h
     obtain ⟨b103,o104,cs105,e106,f107,m108⟩:=SlR.elem (m13.up le98) g102
     obtain rfl:=m108
     refine wl (su (u_iax underlying88 ti159 (et (k20 d7)) (et (k20 d9)) e106) (dt (q30 p1)) (lds (f107 _ hS.a) rfl ?_))
     refine wl (s_alloc ti159 hS ?_); clear hS; intro b109 w5 hb110 hS; refine po ?_
     refine wl (s_storeA ti159 (et d7) (et (k30 d2)) rfl rfl hS d0 rfl p0 dn ?_)
     clear hS; intro w6 hS
     refine nw ?_
     refine ccutE (rg 33 11) (by decide) (fun m w=>∃ μx l113 v111 ms112,m=(yK20 (yK10 (yK3 (yO10 33 (yO1 43 [])))))∧sema_body_j2 i63 (sema_body_l1 fu p_1 p_2 n_1) l113=some r∧Le μ1 μx∧Sq μx w0 w (.row v111 258 1 l113.length (cOf ms112)::.blk b23 261 [.pointer (some ⟨b1,o2,none⟩),.pointer (some ⟨b9,o10,none⟩),v111]::(mRs ms112++rsF))∧Ms μx ms112 l113) (by rintro _ _ ⟨_,_,_,_,rfl,_⟩; rfl) ?_ ?_
     ·refine cdw hS ?_; clear hS; intro w7 hS
      refine cpi 0 rfl (cpi 1 rfl (cpi 2 rfl (cpi 6 rfl (cpi 8 rfl (cr 9 [9,10,11] rfl (u_loads ti87 (et (k40 d1)) ((hS.blk d0).cellsAt (Sb.s d1 (Sb.s d2 Sb.z))) rfl) (q40 p2) ?_)))))
      refine sc3G (i:=3) (j:=7) (k:=10) rfl rfl rfl rfl rfl rfl rfl (wn0 rfl) (wn0 rfl) (wn0 rfl) ?_ ?_ ?_
      ·refine id (s_load ti259 (et (k30 d5)) ((hS.blk d2).cell d2) (dt (q30 p6)) ?_)
       obtain ⟨x115,g116,h⟩:=bI h
       obtain ⟨b117,o118,b119,es120,c121,e122,f123,hms124,mq125⟩:=Row.mapElem (hS.get d1) m99 g116
       refine cp 4 rfl (u_iax underlying259 ti258 (et (k30 d6)) ec e122) (q30 p7) ?_
       refine sc3G (i:=5) (j:=7) (k:=10) rfl rfl rfl rfl rfl rfl rfl (wn0 rfl) (wn0 rfl) (wn0 rfl) ?_ ?_ ?_
       ·refine id (s_load ti258 (et (k30 d7)) ((f123 _ _ (hS.get d1)).one d0) (dt (q30 p8)) ?_)
        refine sc2G (i:=7) (j:=10) rfl rfl rfl rfl rfl (wn0 rfl) (wn0 rfl) ?_ ?_
        ·refine id (s_load ti9 (et (k30 d9)) ((hS.blk d0).cell d0) (dt (q40 p0)) ?_)
         obtain ⟨r126,g127,h⟩:=bI h
         refine sc1 rfl rfl rfl (s_callv isfn159 ef (e1 (et (k40 d2)) e0) (sema_bare_w (hg.t le98) g127 hS) ?_)
         rintro _ w8 ⟨μ2,rfl,le128,hS⟩
         refine po ?_
         refine sc1 rfl rfl rfl (s_mputS (pre:=[_,_,_]) (κ:=List UInt8) (β:=TType) (kk:=x101.Name) (xx:=r126) underlying258 underlying9 (et (k30 d8)) (et (k40 d0)) (et (k40 d3)) ⟨_,rfl,rfl⟩ hS hms124 (mq125.up le128) (m99.up le128) dn ?_); clear hS; intro ms129 w9 m130 e131 e132 hS; rw [e131,e132] at hS
         refine sc_nil (xl ?_)
         replace hS:=hS.drop Rm.z
         exact ⟨_,_,rfl,(aK20 (aK10 (aK3 (aO10 (aO1 aZ))))),_,(l66.set (0:Int).toNat (mput x115 x101.Name r126)),_,_,rfl,h,le128,hS,m130⟩
        ·obtain ⟨r126,g127,h⟩:=bI h
         refine id (s_callv isfn159 ef (e1 (et (k40 d2)) e0) (sema_bare_w (hg.t le98) g127 hS) ?_)
         rintro _ w10 ⟨μ3,rfl,le133,hS⟩
         refine po (cr 7 [7,11] rfl (u_load ti9 (et (k30 d9)) ((hS.blk d0).cell d0)) (q40 p0) ?_)
         refine sc1 rfl rfl rfl (s_mputS (pre:=[_,_,_]) (κ:=List UInt8) (β:=TType) (kk:=x101.Name) (xx:=r126) underlying258 underlying9 (et (k30 d8)) (et (k40 d0)) (et (k40 d3)) ⟨_,rfl,rfl⟩ hS hms124 (mq125.up le133) (m99.up le133) dn ?_); clear hS; intro ms134 w11 m135 e136 e137 hS; rw [e136,e137] at hS
         refine sc_nil (xl ?_)
         replace hS:=hS.drop Rm.z
         exact ⟨_,_,rfl,(aK20 (aK10 (aK3 (aO10 (aO1 aZ))))),_,(l66.set (0:Int).toNat (mput x115 x101.Name r126)),_,_,rfl,h,le133,hS,m135⟩
       ·obtain ⟨r126,g127,h⟩:=bI h
        refine id (s_load ti9 (et (k30 d9)) ((hS.blk d0).cell d0) (dt (q40 p0)) ?_)
        refine sc2G (i:=5) (j:=10) rfl rfl rfl rfl rfl (wn0 rfl) (wn0 rfl) ?_ ?_
        ·refine id (s_load ti258 (et (k30 d7)) ((f123 _ _ (hS.get d1)).one d0) (dt (q30 p8)) (sc1 rfl rfl rfl (s_callv isfn159 ef (e1 (et (k40 d2)) e0) (sema_bare_w (hg.t le98) g127 hS) ?_)))
         rintro _ w12 ⟨μ4,rfl,le138,hS⟩
         refine po ?_
         refine sc1 rfl rfl rfl (s_mputS (pre:=[_,_,_]) (κ:=List UInt8) (β:=TType) (kk:=x101.Name) (xx:=r126) underlying258 underlying9 (et (k30 d8)) (et (k40 d0)) (et (k40 d3)) ⟨_,rfl,rfl⟩ hS hms124 (mq125.up le138) (m99.up le138) dn ?_); clear hS; intro ms139 w13 m140 e141 e142 hS; rw [e141,e142] at hS
         refine sc_nil (xl ?_)
         replace hS:=hS.drop Rm.z
         exact ⟨_,_,rfl,(aK20 (aK10 (aK3 (aO10 (aO1 aZ))))),_,(l66.set (0:Int).toNat (mput x115 x101.Name r126)),_,_,rfl,h,le138,hS,m140⟩
        ·refine id (s_callv isfn159 ef (e1 (et (k40 d2)) e0) (sema_bare_w (hg.t le98) g127 hS) ?_)
         rintro _ w14 ⟨μ5,rfl,le143,hS⟩
         refine po (cr 5 [5,11] rfl (u_load ti258 (et (k30 d7)) ((f123 _ _ (hS.get d1)).one d0)) (q30 p8) ?_)
         refine sc1 rfl rfl rfl (s_mputS (pre:=[_,_,_]) (κ:=List UInt8) (β:=TType) (kk:=x101.Name) (xx:=r126) underlying258 underlying9 (et (k30 d8)) (et (k40 d0)) (et (k40 d3)) ⟨_,rfl,rfl⟩ hS hms124 (mq125.up le143) (m99.up le143) dn ?_); clear hS; intro ms144 w15 m145 e146 e147 hS; rw [e146,e147] at hS
         refine sc_nil (xl ?_)
         replace hS:=hS.drop Rm.z
         exact ⟨_,_,rfl,(aK20 (aK10 (aK3 (aO10 (aO1 aZ))))),_,(l66.set (0:Int).toNat (mput x115 x101.Name r126)),_,_,rfl,h,le143,hS,m145⟩
       ·obtain ⟨r126,g127,h⟩:=bI h
        refine id (s_callv isfn159 ef (e1 (et (k40 d2)) e0) (sema_bare_w (hg.t le98) g127 hS) ?_)
        rintro _ w16 ⟨μ6,rfl,le148,hS⟩
        refine po (cr 5 [5,11] rfl (u_load ti258 (et (k30 d7)) ((f123 _ _ (hS.get d1)).one d0)) (q30 p8) (cr 7 [7,11] rfl (u_load ti9 (et (k30 d9)) ((hS.blk d0).cell d0)) (q40 p0) ?_))
        refine sc1 rfl rfl rfl (s_mputS (pre:=[_,_,_]) (κ:=List UInt8) (β:=TType) (kk:=x101.Name) (xx:=r126) underlying258 underlying9 (et (k30 d8)) (et (k40 d0)) (et (k40 d3)) ⟨_,rfl,rfl⟩ hS hms124 (mq125.up le148) (m99.up le148) dn ?_); clear hS; intro ms149 w17 m150 e151 e152 hS; rw [e151,e152] at hS
        refine sc_nil (xl ?_)
        replace hS:=hS.drop Rm.z
        exact ⟨_,_,rfl,(aK20 (aK10 (aK3 (aO10 (aO1 aZ))))),_,(l66.set (0:Int).toNat (mput x115 x101.Name r126)),_,_,rfl,h,le148,hS,m150⟩
      ·obtain ⟨x115,g116,h⟩:=bI h
       obtain ⟨r126,g127,h⟩:=bI h
       refine id (s_load ti9 (et (k30 d9)) ((hS.blk d0).cell d0) (dt (q40 p0)) ?_)
       refine sc2G (i:=3) (j:=10) rfl rfl rfl rfl rfl (wn0 rfl) (wn0 rfl) ?_ ?_
       ·refine id (s_load ti259 (et (k30 d5)) ((hS.blk d2).cell d2) (dt (q30 p6)) ?_)
        obtain ⟨b153,o154,b155,es156,c157,e158,f159,hms160,mq161⟩:=Row.mapElem (hS.get d1) m99 g116
        refine cp 4 rfl (u_iax underlying259 ti258 (et (k30 d6)) ec e158) (q30 p7) ?_
        refine sc2G (i:=5) (j:=10) rfl rfl rfl rfl rfl (wn0 rfl) (wn0 rfl) ?_ ?_
        ·refine id (s_load ti258 (et (k30 d7)) ((f159 _ _ (hS.get d1)).one d0) (dt (q30 p8)) (sc1 rfl rfl rfl (s_callv isfn159 ef (e1 (et (k40 d2)) e0) (sema_bare_w (hg.t le98) g127 hS) ?_)))
         rintro _ w18 ⟨μ7,rfl,le162,hS⟩
         refine po ?_
         refine sc1 rfl rfl rfl (s_mputS (pre:=[_,_,_]) (κ:=List UInt8) (β:=TType) (kk:=x101.Name) (xx:=r126) underlying258 underlying9 (et (k30 d8)) (et (k40 d0)) (et (k40 d3)) ⟨_,rfl,rfl⟩ hS hms160 (mq161.up le162) (m99.up le162) dn ?_); clear hS; intro ms163 w19 m164 e165 e166 hS; rw [e165,e166] at hS
         refine sc_nil (xl ?_)
         replace hS:=hS.drop Rm.z
         exact ⟨_,_,rfl,(aK20 (aK10 (aK3 (aO10 (aO1 aZ))))),_,(l66.set (0:Int).toNat (mput x115 x101.Name r126)),_,_,rfl,h,le162,hS,m164⟩
        ·refine id (s_callv isfn159 ef (e1 (et (k40 d2)) e0) (sema_bare_w (hg.t le98) g127 hS) ?_)
         rintro _ w20 ⟨μ8,rfl,le167,hS⟩
         refine po (cr 5 [5,11] rfl (u_load ti258 (et (k30 d7)) ((f159 _ _ (hS.get d1)).one d0)) (q30 p8) ?_)
         refine sc1 rfl rfl rfl (s_mputS (pre:=[_,_,_]) (κ:=List UInt8) (β:=TType) (kk:=x101.Name) (xx:=r126) underlying258 underlying9 (et (k30 d8)) (et (k40 d0)) (et (k40 d3)) ⟨_,rfl,rfl⟩ hS hms160 (mq161.up le167) (m99.up le167) dn ?_); clear hS; intro ms168 w21 m169 e170 e171 hS; rw [e170,e171] at hS
         refine sc_nil (xl ?_)
         replace hS:=hS.drop Rm.z
         exact ⟨_,_,rfl,(aK20 (aK10 (aK3 (aO10 (aO1 aZ))))),_,(l66.set (0:Int).toNat (mput x115 x101.Name r126)),_,_,rfl,h,le167,hS,m169⟩
       ·refine id (s_callv isfn159 ef (e1 (et (k40 d2)) e0) (sema_bare_w (hg.t le98) g127 hS) ?_)
        rintro _ w22 ⟨μ9,rfl,le172,hS⟩
        refine po (cr 3 [3,4,5,11] rfl (u_load ti259 (et (k30 d5)) ((hS.blk d2).cell d2)) (q30 p6) ?_)
        obtain ⟨b173,o174,b175,es176,c177,e178,f179,hms180,mq181⟩:=Row.mapElem (hS.get d1) (m99.up le172) g116
        refine cp 4 rfl (u_iax underlying259 ti258 (et (k30 d6)) ec e178) (q30 p7) (cr 5 [5,11] rfl (u_load ti258 (et (k30 d7)) ((f179 _ _ (hS.get d1)).one d0)) (q30 p8) ?_)
        refine sc1 rfl rfl rfl (s_mputS (pre:=[_,_,_]) (κ:=List UInt8) (β:=TType) (kk:=x101.Name) (xx:=r126) underlying258 underlying9 (et (k30 d8)) (et (k40 d0)) (et (k40 d3)) ⟨_,rfl,rfl⟩ hS hms180 mq181 (m99.up le172) dn ?_); clear hS; intro ms182 w23 m183 e184 e185 hS; rw [e184,e185] at hS
        refine sc_nil (xl ?_)
        replace hS:=hS.drop Rm.z
        exact ⟨_,_,rfl,(aK20 (aK10 (aK3 (aO10 (aO1 aZ))))),_,(l66.set (0:Int).toNat (mput x115 x101.Name r126)),_,_,rfl,h,le172,hS,m183⟩
      ·obtain ⟨x115,g116,h⟩:=bI h
       obtain ⟨r126,g127,h⟩:=bI h
       refine id (s_callv isfn159 ef (e1 (et (k40 d2)) e0) (sema_bare_w (hg.t le98) g127 hS) ?_)
       rintro _ w24 ⟨μ10,rfl,le186,hS⟩
       refine po (cr 3 [3,4,5,11] rfl (u_load ti259 (et (k30 d5)) ((hS.blk d2).cell d2)) (q30 p6) ?_)
       obtain ⟨b187,o188,b189,es190,c191,e192,f193,hms194,mq195⟩:=Row.mapElem (hS.get d1) (m99.up le186) g116
       refine cp 4 rfl (u_iax underlying259 ti258 (et (k30 d6)) ec e192) (q30 p7) (cr 5 [5,11] rfl (u_load ti258 (et (k30 d7)) ((f193 _ _ (hS.get d1)).one d0)) (q30 p8) (cr 7 [7,11] rfl (u_load ti9 (et (k30 d9)) ((hS.blk d0).cell d0)) (q40 p0) ?_))
       refine sc1 rfl rfl rfl (s_mputS (pre:=[_,_,_]) (κ:=List UInt8) (β:=TType) (kk:=x101.Name) (xx:=r126) underlying258 underlying9 (et (k30 d8)) (et (k40 d0)) (et (k40 d3)) ⟨_,rfl,rfl⟩ hS hms194 mq195 (m99.up le186) dn ?_); clear hS; intro ms196 w25 m197 e198 e199 hS; rw [e198,e199] at hS
       refine sc_nil (xl ?_)
       replace hS:=hS.drop Rm.z
       exact ⟨_,_,rfl,(aK20 (aK10 (aK3 (aO10 (aO1 aZ))))),_,(l66.set (0:Int).toNat (mput x115 x101.Name r126)),_,_,rfl,h,le186,hS,m197⟩
     ·rintro _ t w26 ⟨μ11,l113,v111,ms112,rfl,h,le200,hS,m201⟩
      unfold sema_body_j2 at h
      refine nrm (mK20 (mK10 (mK3 (mO10 (mO1 mz))))) ?_
      refine (fun h=>bn (xn h)) ?_
      refine creg ?_
      obtain ⟨i202,g203,h⟩:=bI h
      refine wl (su (u_addc (et (k20 d9)) ec g203) (dt (q40 p4)) (st (wnil (xl ?_))))
      exact ⟨n_1,_,_,rfl,(aK7 (aO1 (aK20 (aK1 (aI (aO10 (aO5 aZ))))))),⟨_,i202,l113,v111,ms112,rfl,h,(le98.t le200),hS,m201⟩,Nat.lt_succ_self _⟩
    ·replace h:=iF h100 h
     refine cexit ?_
     refine (fun h=>xe (xe (bh h))) ?_
     refine xl ?_
     exact ⟨_,_,rfl,(aK7 (aO1 (aK10 (aK6 (aO20 (aO1 aZ)))))),_,_,_,_,rfl,h,le98,hS,m99⟩
   ·replace h:=iF h32 h
    refine cskip (xl ?_)
    replace hS:=hS.bg Y1
    exact ⟨_,_,rfl,(aK7 (aO1 (aK10 (aK6 (aO20 (aO1 aZ)))))),_,[([]:List (List UInt8×TType))],(.slice (some ⟨b21,0,none⟩) 1 1),_,rfl,h,Le.r,hS,m27⟩
  ·rintro _ t w27 ⟨μ12,l30,v28,ms29,rfl,h,le204,hS,m205⟩
   unfold sema_body_j1 at h
   refine nrm (mK7 (mO1 (mK10 (mK6 (mO20 (mO1 mz)))))) (xn (nz ?_))
   iterate 4 refine st ?_
   refine ld ((m17 _ (le204 _ hS.a)).one d8) ?_
   obtain ⟨r206,g207,h⟩:=bI h
   replace hS:=hS.bg Y1
   refine ca ((SemaS_sound fu).sema_stats (hg.t le204) (m5.up le204) (m7.up le204) (m8.up le204) (m13.up le204) (m16.up le204) (m17.up le204) m205 (m16.up le204) g207 hS) ?_
   rintro _ w28 ⟨μ13,v209,ms210,rfl,le208,hS,m211⟩
   refine po (st (nw (cret ?_)))
   obtain rfl:=oI h
   refine ret1 rfl d4 ?_
   replace hS:=(hS.drop Rm.z).drop Rm.z
   replace hS:=hS.popM (pre:=[]) (j:=0)
   exact ⟨_,rfl,(le204.t le208),hS⟩
theorem sema_named_w (hg:Le Gm μ0) {p_1:List TDef} {r:TSp×TFault} (m3:Sl μ0 a1 c2 p_1) (h:sema_named fu p_1=some r) (hS:Sq μ0 w0 w (rsF)):CallsV prog 107 [.slice a1 p_1.length c2] w (fun v w'=>∃ (μ':M) (b4:Nat) (o5:Nat) (a6:Option Addr) (c7:Nat) (b9:Nat),v=.tuple ⟨[.pointer (some ⟨b4,o5,none⟩),.agg ⟨[.int .i64 r.2.Err,.int .i64 r.2.At]⟩]⟩∧Le μ0 μ'∧Sq μ' w0 w' (rsF)∧Sl μ' a6 c7 r.1.defs∧Mr μ' b9 r.1.named∧At μ' b4 o5 [.slice a6 r.1.defs.length c7,.map (some b9)]):=by
 unfold sema_named at h
 refine enter func107 rfl (frm:=_::u1 (u2 (u50 (u50 [])))) rfl (nz (st ?_))
 refine wl (s_alloc ti45 hS ?_); clear hS; intro b12 w1 hb13 hS; refine po ?_
 refine nx (st ?_)
 refine wl (s_mkmap hS ?_); clear hS; intro b14 w2 hb15 hS; refine po ?_
 refine wl (s_build ti237 pl237 (Fl.o rfl (et (k10 d4)) rfl rfl p0 (Fl.o rfl (et (k10 d5)) rfl rfl p1 Fl.z)) (dt (q10 p6)) ?_)
 refine wl (s_box (et (k10 d6)) rfl hS ?_); clear hS; intro b16 w3 hb17 hS; refine po ?_
 refine st (ny (nz (st ?_)))
 obtain ⟨r18,g19,h⟩:=bI h
 refine ca (syn_wrong_w hg m3 g19 hS) ?_
 rintro _ w4 ⟨μ1,rfl,le20,hS⟩
 refine po ?_
 refine wl (s_alloc ti45 hS ?_); clear hS; intro b21 w5 hb22 hS; refine po ?_
 refine wl (s_storeA ti45 (et d5) (et (k10 d9)) rfl rfl hS d0 rfl p0 dn ?_)
 clear hS; intro w6 hS
 refine nx (st (ld ((hS.blk d0).cell d0) (st (nw ?_))))
 refine cifd (et (k20 d2)) (xT h) fun h23=>?_
 replace h:=iF h23 h
 refine cskip (xn (nz (st (ny (nz (st (wl (su (u_lensl underlying43 (et (k20 d5))) (dt (q20 p6)) (st (nw (cblock ?_)))))))))))
 replace hS:=((hS.drop Rm.z).bg Y1).bg Y2
 refine cloopE ([2]++rg 7 3++rg 28 40) (by decide +kernel) (fun n m w=>∃ μx i90 i91 l94 es92 c93,m=(yK2 (yO1 2 (yK3 (.i (.int .i64 i90)::(yO3 7 (yK10 (yK7 (.i (.int .i64 i91)::(yO20 28 (yO20 48 []))))))))))∧sema_named_l1 fu p_1 n i90 i91 l94=some r∧Le μ1 μx∧Sq μx w0 w (.blk b12 45 [.int .i64 0,.int .i64 0]::.map b14 es92 c93::.blk b16 237 [.slice a1 p_1.length c2,.map (some b14)]::rsF)∧Mq μx es92 c93 l94) (by rintro _ _ _ ⟨_,_,_,_,_,_,rfl,_⟩; rfl) _ _ (aK2 (aO1 (aK3 (aI (aO3 (aK10 (aK7 (aI (aO20 (aO20 aZ)))))))))) ⟨_,0,0,([]:List (List UInt8×TDef)),[],0,rfl,h,Le.r,hS,((Mq.nil (κ:=List UInt8) (β:=TDef) (μ:=μ0) (c:=0)).up le20)⟩ ?_
 rintro n_1 _ t w7 ⟨μ2,i90,i91,l94,es92,c93,rfl,h,le162,hS,m163⟩
 cases n_1 with
 | zero=>cases h
 | succ n_1 =>
 unfold sema_named_l1 at h
 refine cnrm (mK2 (mO1 (mK3 (mi (mO3 (mK10 (mK7 (mi (mO20 (mO20 mz)))))))))) (nz (st (ny ?_)))
 refine cifd (et (k20 d8)) (fun h164=>?_) (fun h164=>?_)
 ·replace h:=iT h164 h
  refine cskip (xn (cseq (cblock (nz ?_))))
  iterate 2 refine st ?_
  refine ny (cseq ?_)
  refine cdw hS ?_; clear hS; intro w8 hS
  refine cpi 0 rfl (cpi 1 rfl (cpi 2 rfl (cpi 4 rfl (cpi 5 rfl ?_))))
  obtain ⟨x165,g166,h⟩:=bI h
  obtain ⟨b167,o168,cs169,e170,f171,m172⟩:=SlR.elem (m3.up (le20.t le162)) g166
  obtain ⟨a173,c174,a176,c177,rfl,m175,m178⟩:=m172
  refine cp 6 rfl (u_iax underlying43 ti91 (et (k30 d5)) (et (k30 d6)) e170) (q30 p7) (cpi 7 rfl (cr 3 [3,9,10,11,12,13,14] rfl (u_load ti96 (et (k30 d3)) ((hS.blk d2).cell d1)) (q30 p4) (cr 8 [8,9,10,11,12,13,14] rfl (u_load ti9 (et (k30 d8)) ((f171 _ hS.a).one d1)) (q30 p9) ?_)))
  refine sc1 rfl rfl rfl (s_mgetP2 (κ:=List UInt8) (k:=x165.Name) (hrv:=fun _ _ h=>h) underlying96 underlying9 (et (k30 d4)) (et (k30 d9)) zv99 (hS.get d1) m163 ?_); intro v179 hv180; refine po ?_
  refine cpi 10 rfl (cpi 11 rfl (cpi 12 rfl (cpi 13 rfl (cpi 14 rfl (nu (nz (st (nw ?_))))))))
  refine cifb (et (k40 d3)) (xT h) fun h181=>?_
  replace h:=iF h181 h
  refine cskip (xn (cseq ?_))
  refine cdw hS ?_; clear hS; intro w9 hS
  refine cpi 0 rfl (cpi 1 rfl (cpi 2 rfl (cpi 4 rfl (cpi 5 rfl ?_))))
  obtain ⟨x182,g183,h⟩:=bI h
  obtain ⟨b184,o185,cs186,e187,f188,m189⟩:=SlR.elem (m3.up (le20.t le162)) g183
  obtain ⟨a190,c191,a193,c194,rfl,m192,m195⟩:=m189
  refine cp 6 rfl (u_iax underlying43 ti91 (et (k50 d1)) (et (k50 d2)) e187) (q50 p3) (cpi 7 rfl (cpi 9 rfl (cpi 10 rfl ?_)))
  obtain ⟨x196,g197,h⟩:=bI h
  obtain ⟨b198,o199,cs200,e201,f202,m203⟩:=SlR.elem (m3.up (le20.t le162)) g197
  obtain ⟨a204,c205,a207,c208,rfl,m206,m209⟩:=m203
  refine cp 11 rfl (u_iax underlying43 ti91 (et (k50 d6)) (et (k50 d7)) e201) (q50 p8) (cr 3 [3,12] rfl (u_load ti96 (et (k40 d9)) ((hS.blk d2).cell d1)) (q50 p0) (cr 8 [8,12] rfl (u_load ti9 (et (k50 d4)) ((f188 _ hS.a).one d1)) (q50 p5) ?_))
  refine sc1 rfl rfl rfl (s_mputM (κ:=List UInt8) (β:=TDef) (kk:=x182.Name) (xx:=x196) underlying96 underlying9 (et (k50 d0)) (et (k50 d5)) (et (k50 d8)) ⟨_,_,_,rfl,f202,(TDef.i ⟨a204,c205,a207,c208,rfl,m206,m209⟩)⟩ hS d1 m163 dn ?_); clear hS; intro es210 c211 w10 rs_ m212 hp_ hS; cases (show _=rs_ from hp_)
  replace hS:=Sep.reput hS p1
  refine nu (nz ?_)
  iterate 2 refine st ?_
  obtain ⟨x213,g214,h⟩:=bI h
  obtain ⟨b215,o216,cs217,e218,f219,m220⟩:=SlR.elem (m3.up (le20.t le162)) g214
  obtain ⟨a221,c222,a224,c225,rfl,m223,m226⟩:=m220
  refine wl (su (u_iax underlying43 ti91 (et (k50 d9)) (et (k60 d0)) e218) (dt (q60 p1)) (st (ld ((f219 _ hS.a).one d0) (st (nw ?_)))))
  refine cifd (et (k60 d4)) (fun h227=>?_) (fun h227=>?_)
  ·replace h:=iT h227 h
   refine creg (st ?_)
   obtain ⟨i228,g229,h⟩:=bI h
   refine wl (su (u_addc (et (k60 d5)) ec g229) (dt (q60 p6)) (st (wnil ?_)))
   refine (fun h=>bn (xn h)) ?_
   refine creg ?_
   obtain ⟨i230,g231,h⟩:=bI h
   refine wl (su (u_addc (et (k20 d7)) ec g231) (dt (q60 p7)) (st (wnil (xl ?_))))
   exact ⟨n_1,_,_,rfl,(aK2 (aO1 (aK3 (aI (aO3 (aK10 (aK7 (aI (aO20 (aO20 aZ)))))))))),⟨_,i228,i230,(mput l94 x182.Name x196),es210,c211,rfl,h,le162,hS,m212⟩,Nat.lt_succ_self _⟩
  ·replace h:=iF h227 h
   refine cskip ?_
   refine (fun h=>bn (xn h)) ?_
   refine creg ?_
   obtain ⟨i232,g233,h⟩:=bI h
   refine wl (su (u_addc (et (k20 d7)) ec g233) (dt (q60 p7)) (st (wnil (xl ?_))))
   exact ⟨n_1,_,_,rfl,(aK2 (aO1 (aK3 (aI (aO3 (aK10 (aK7 (aI (aO20 (aO20 aZ)))))))))),⟨_,i90,i232,(mput l94 x182.Name x196),es210,c211,rfl,h,le162,hS,m212⟩,Nat.lt_succ_self _⟩
 ·replace h:=iF h164 h
  refine cexit ?_
  refine (fun h=>xe (xe (bh h))) ?_
  refine xn (cseq (nz ?_))
  iterate 2 refine st ?_
  refine nw ?_
  refine cifd (et (k60 d9)) (xT h) fun h234=>?_
  replace h:=iF h234 h
  refine cskip (xn (cseq (nz (st ?_))))
  replace hS:=hS.bg Y1
  obtain ⟨μ3,le236,m235,hS⟩:=Sep.frzMap hS m163
  replace hS:=hS.bg Y1
  obtain ⟨μ4,le238,m237,hS⟩:=Sep.frzAt hS
  refine wl (su (u_mkfn (e1 (et (k70 d4)) e0) e0) (dt (q70 p5)) (st (wl (su (u_mkfn (e1 (et (k70 d6)) e0) e0) (dt (q70 p7)) ?_))))
  refine wl (s_bsl underlying239 ti150 (Parts.s (et (k70 d5)) rfl (Parts.s (et (k70 d7)) rfl Parts.z)) rfl rfl hS ?_); clear hS; intro b239 w11 hb240 hS; refine po ?_
  refine wl (su (u_lensl underlying239 (et (k70 d8))) (dt (q70 p9)) (st (nw (cblock (cunroll 3 (crnd (nz (st (ny (cift (et (k80 d1)) (cskip (xn (cseq (cblock (nz (wl (su (u_ia underlying239 ti150 (et (k70 d8)) (et (k80 d0)) (by decide) rfl) (dt (q80 p2)) (ld ((hS.blk d0).cell d0) (st (nx (st (wl (su (u_lensl underlying43 (et (k80 d4))) (dt (q80 p5)) (st (nw (cblock ?_))))))))))))))))))))))))))
  replace hS:=hS.bg Y1
  refine cloopE ([2]++rg 12 2++rg 87 14) (by decide) (fun n m w=>∃ μx i258,m=(yK2 (yO1 2 (yK9 (yO2 12 (yK50 (yK20 (yK2 (.i (.int .i64 i258)::(yO10 87 (yO4 97 []))))))))))∧sema_named_l2 fu p_1 l94 n i258=some r∧Le μ4 μx∧Sq μx w0 w (.blk b12 45 [.int .i64 0,.int .i64 0]::.blk b239 150 [.func (.func 138) ⟨[.pointer (some ⟨b16,0,none⟩)]⟩ ⟨[]⟩,.func (.func 139) ⟨[.pointer (some ⟨b16,0,none⟩)]⟩ ⟨[]⟩]::rsF)) (by rintro _ _ _ ⟨_,_,rfl,_⟩; rfl) _ _ (aK2 (aO1 (aK9 (aO2 (aK50 (aK20 (aK2 (aI (aO10 (aO4 aZ)))))))))) ⟨_,0,rfl,h,Le.r,hS⟩ ?_
  rintro n_2 _ t w12 ⟨μ5,i258,rfl,h,le278,hS⟩
  cases n_2 with
  | zero=>cases h
  | succ n_2 =>
  unfold sema_named_l2 at h
  refine cnrm (mK2 (mO1 (mK9 (mO2 (mK50 (mK20 (mK2 (mi (mO10 (mO4 mz)))))))))) (nz (st (ny ?_)))
  refine cifd (et (k80 d7)) (fun h279=>?_) (fun h279=>?_)
  ·replace h:=iT h279 h
   refine cskip (xn (cseq (cblock (nz ?_))))
   iterate 2 refine st ?_
   refine nx ?_
   iterate 3 refine st ?_
   obtain ⟨x280,g281,h⟩:=bI h
   obtain ⟨b282,o283,cs284,e285,f286,m287⟩:=SlR.elem (m3.up (le20.t (le162.t (le236.t (le238.t le278))))) g281
   obtain ⟨a288,c289,a291,c292,rfl,m290,m293⟩:=m287
   refine wl (su (u_iax underlying43 ti91 (et (k90 d0)) (et (k90 d1)) e285) (dt (q90 p2)) ?_)
   obtain ⟨r294,g295,h⟩:=bI h
   refine wl (s_callB isfn138 (et (k80 d9)) (e1 (et (k90 d2)) e0) (sema_head_w (p_1:=(TSp.mk p_1 l94)) (hg.t (le20.t (le162.t (le236.t (le238.t le278))))) (m3.up (le20.t (le162.t (le236.t (le238.t le278))))) (m235.up (le238.t le278)) (m237.up le278) m290 m293 f286 g295 hS) ?_)
   rintro _ w13 ⟨μ6,rfl,le296,hS⟩
   refine po (st (nx ?_))
   iterate 2 refine st ?_
   refine nw ?_
   refine cifd (et (k90 d5)) (xT h) fun h297=>?_
   replace h:=iF h297 h
   refine cskip ?_
   refine (fun h=>bn (xn h)) ?_
   refine creg ?_
   obtain ⟨i298,g299,h⟩:=bI h
   refine wl (su (u_addc (et (k80 d6)) ec g299) (dt (q100 p0)) (st (wnil (xl ?_))))
   exact ⟨n_2,_,_,rfl,(aK2 (aO1 (aK9 (aO2 (aK50 (aK20 (aK2 (aI (aO10 (aO4 aZ)))))))))),⟨_,i298,rfl,h,(le278.t le296),hS⟩,Nat.lt_succ_self _⟩
  ·replace h:=iF h279 h
   refine cexit ?_
   refine (fun h=>xe (xe (bh h))) ?_
   refine (fun h=>bn (xn h)) ?_
   refine creg (wl (su (u_addc (et (k80 d0)) ec (c:=1) (by decide)) (dt (q100 p1)) (st (wnil (xl (xrnd (crnd (nz (st (ny (cift (et (k80 d1)) (cskip (xn (cseq (cblock (nz (wl (su (u_ia underlying239 ti150 (et (k70 d8)) (et (k80 d0)) (by decide) rfl) (dt (q80 p2)) (ld ((hS.blk d1).cell d1) (st (nx (st (wl (su (u_lensl underlying43 (et (k80 d4))) (dt (q80 p5)) (st (nw (cblock ?_)))))))))))))))))))))))))))
   refine cloopE ([2]++rg 12 2++rg 87 14) (by decide) (fun n m w=>∃ μx i317,m=(yK2 (yO1 2 (yK9 (yO2 12 (yK50 (yK20 (yK2 (.i (.int .i64 i317)::(yO10 87 (yO4 97 []))))))))))∧sema_named_l3 fu p_1 l94 n i317=some r∧Le μ5 μx∧Sq μx w0 w (.blk b12 45 [.int .i64 0,.int .i64 0]::.blk b239 150 [.func (.func 138) ⟨[.pointer (some ⟨b16,0,none⟩)]⟩ ⟨[]⟩,.func (.func 139) ⟨[.pointer (some ⟨b16,0,none⟩)]⟩ ⟨[]⟩]::rsF)) (by rintro _ _ _ ⟨_,_,rfl,_⟩; rfl) _ _ (aK2 (aO1 (aK9 (aO2 (aK50 (aK20 (aK2 (aI (aO10 (aO4 aZ)))))))))) ⟨_,0,rfl,h,Le.r,hS⟩ ?_
   rintro n_3 _ t w14 ⟨μ7,i317,rfl,h,le337,hS⟩
   cases n_3 with
   | zero=>cases h
   | succ n_3 =>
   unfold sema_named_l3 at h
   refine cnrm (mK2 (mO1 (mK9 (mO2 (mK50 (mK20 (mK2 (mi (mO10 (mO4 mz)))))))))) (nz (st (ny ?_)))
   refine cifd (et (k80 d7)) (fun h338=>?_) (fun h338=>?_)
   ·replace h:=iT h338 h
    refine cskip (xn (cseq (cblock (nz ?_))))
    iterate 2 refine st ?_
    refine nx ?_
    iterate 3 refine st ?_
    obtain ⟨x339,g340,h⟩:=bI h
    obtain ⟨b341,o342,cs343,e344,f345,m346⟩:=SlR.elem (m3.up (le20.t (le162.t (le236.t (le238.t (le278.t le337)))))) g340
    obtain ⟨a347,c348,a350,c351,rfl,m349,m352⟩:=m346
    refine wl (su (u_iax underlying43 ti91 (et (k90 d0)) (et (k90 d1)) e344) (dt (q90 p2)) ?_)
    obtain ⟨r353,g354,h⟩:=bI h
    refine wl (s_callB isfn139 (et (k80 d9)) (e1 (et (k90 d2)) e0) (sema_body_w (p_1:=(TSp.mk p_1 l94)) (hg.t (le20.t (le162.t (le236.t (le238.t (le278.t le337)))))) (m3.up (le20.t (le162.t (le236.t (le238.t (le278.t le337)))))) (m235.up (le238.t (le278.t le337))) (m237.up (le278.t le337)) m349 m352 f345 g354 hS) ?_)
    rintro _ w15 ⟨μ8,rfl,le355,hS⟩
    refine po (st (nx ?_))
    iterate 2 refine st ?_
    refine nw ?_
    refine cifd (et (k90 d5)) (xT h) fun h356=>?_
    replace h:=iF h356 h
    refine cskip ?_
    refine (fun h=>bn (xn h)) ?_
    refine creg ?_
    obtain ⟨i357,g358,h⟩:=bI h
    refine wl (su (u_addc (et (k80 d6)) ec g358) (dt (q100 p0)) (st (wnil (xl ?_))))
    exact ⟨n_3,_,_,rfl,(aK2 (aO1 (aK9 (aO2 (aK50 (aK20 (aK2 (aI (aO10 (aO4 aZ)))))))))),⟨_,i357,rfl,h,(le337.t le355),hS⟩,Nat.lt_succ_self _⟩
   ·replace h:=iF h338 h
    refine cexit ?_
    refine (fun h=>xe (xe (bh h))) ?_
    refine (fun h=>bn (xn h)) ?_
    refine creg (wl (su (u_addc (et (k80 d0)) ec (c:=2) (by decide)) (dt (q100 p1)) (st (wnil (xl (xrnd (crnd (nz (st (ny (ciff (et (k80 d1)) (cexit ?_))))))))))))
    refine (fun h=>xe (xe (bh h))) ?_
    refine xn (nz (st (wl (s_build ti45 pl45 Fl.z (dt (q100 p3)) (st (wl (s_storeA ti45 (et d3) (et (k100 d3)) rfl rfl hS d0 rfl p0 dn ?_)))))))
    clear hS; intro w16 hS
    refine nw (cret ?_)
    obtain rfl:=oI h
    refine retN rfl (RVs.s (.t d2) (RVs.s (.a d3 ti45 (hS.blk d0).cells rfl) RVs.z)) ?_
    replace hS:=(hS.drop Rm.z).drop Rm.z
    exact ⟨_,_,0,_,_,_,rfl,(le20.t (le162.t (le236.t (le238.t (le278.t le337))))),hS,(m3.up (le20.t (le162.t (le236.t (le238.t (le278.t le337)))))),(m235.up (le238.t (le278.t le337))),(m237.up (le278.t le337))⟩
end Go.Proofs.YtaenlbapejigbaaGreatDoor
set_option maxRecDepth 100000
set_option maxHeartbeats 20000000
namespace Go.Proofs.YtaenlbapejigbaaGreatDoor
open Go.Wk Go.Xt Go.Y Tryz
variable {b1 b6 b9 c2 c4 c12 c15 fu o2 o10:Nat} {a1 a3 a11 a14:Option Addr} {μ0:M} {w0 w:World} {rsF:List Res}
structure SemaUSound (sf:SemaU):Prop where
  uses_expr:∀ {μ0:M} {w0 w:World} {rsF:List Res} (hg:Le Gm μ0) {b1:Nat} {call_2:List (List UInt8)} {v3:Value} {cs4:List Value} {send_6:List (List UInt8)} {v7:Value} {cs8:List Value} {recv_10:List (List UInt8)} {v11:Value} {cs12:List Value} {p_2:TExpr} {b14 o15:Nat} {a16:Option Addr} {c17:Nat} {r:List (List UInt8)×List (List UInt8)×List (List UInt8)} (m5:Rw μ0 cs4 call_2) (m9:Rw μ0 cs8 send_6) (m13:Rw μ0 cs12 recv_10) (m18:Sl μ0 a16 c17 p_2.Kids) (m19:At μ0 b14 o15 [.int .i64 p_2.Kind,.int .i64 p_2.N,S p_2.Name,.slice a16 p_2.Kids.length c17]) (h:sf.uses_expr call_2 send_6 recv_10 p_2=some r) (hS:Sq μ0 w0 w (.blk b1 205 [v3,v7,v11]::.row v3 9 1 call_2.length cs4::.row v7 9 1 send_6.length cs8::.row v11 9 1 recv_10.length cs12::rsF)),CallsV prog 161 [.pointer (some ⟨b1,0,none⟩),.pointer (some ⟨b14,o15,none⟩)] w (fun v w'=>∃ (μ':M) (v20:Value) (cs21:List Value) (v23:Value) (cs24:List Value) (v26:Value) (cs27:List Value),v=.tuple ⟨[]⟩∧Le μ0 μ'∧Sq μ' w0 w' (.blk b1 205 [v20,v23,v26]::.row v20 9 1 r.1.length cs21::.row v23 9 1 r.2.1.length cs24::.row v26 9 1 r.2.2.length cs27::rsF)∧Rw μ' cs21 r.1∧Rw μ' cs24 r.2.1∧Rw μ' cs27 r.2.2)
theorem uses_expr_w {self:SemaU} (IH:SemaUSound self) {μ0:M} {w0 w:World} {rsF:List Res} (hg:Le Gm μ0) {b1:Nat} {call_2:List (List UInt8)} {v3:Value} {cs4:List Value} {send_6:List (List UInt8)} {v7:Value} {cs8:List Value} {recv_10:List (List UInt8)} {v11:Value} {cs12:List Value} {p_2:TExpr} {b14 o15:Nat} {a16:Option Addr} {c17:Nat} {r:List (List UInt8)×List (List UInt8)×List (List UInt8)} (m5:Rw μ0 cs4 call_2) (m9:Rw μ0 cs8 send_6) (m13:Rw μ0 cs12 recv_10) (m18:Sl μ0 a16 c17 p_2.Kids) (m19:At μ0 b14 o15 [.int .i64 p_2.Kind,.int .i64 p_2.N,S p_2.Name,.slice a16 p_2.Kids.length c17]) (h:uses_expr self call_2 send_6 recv_10 p_2=some r) (hS:Sq μ0 w0 w (.blk b1 205 [v3,v7,v11]::.row v3 9 1 call_2.length cs4::.row v7 9 1 send_6.length cs8::.row v11 9 1 recv_10.length cs12::rsF)):CallsV prog 161 [.pointer (some ⟨b1,0,none⟩),.pointer (some ⟨b14,o15,none⟩)] w (fun v w'=>∃ (μ':M) (v20:Value) (cs21:List Value) (v23:Value) (cs24:List Value) (v26:Value) (cs27:List Value),v=.tuple ⟨[]⟩∧Le μ0 μ'∧Sq μ' w0 w' (.blk b1 205 [v20,v23,v26]::.row v20 9 1 r.1.length cs21::.row v23 9 1 r.2.1.length cs24::.row v26 9 1 r.2.2.length cs27::rsF)∧Rw μ' cs21 r.1∧Rw μ' cs24 r.2.1∧Rw μ' cs27 r.2.2):=by
 unfold uses_expr at h
 refine enter func161 rfl (frm:=_::_::u5 (u50 [])) rfl (cseq (nz ?_))
 iterate 3 refine st ?_
 refine ld ((m19 _ hS.a).one d0) (nw ?_)
 refine ccutE (rg 9 31) (by decide +kernel) (fun m w=>∃ μx l31 v29 cs30 l35 v33 cs34,m=(yK9 (yO20 9 (yO10 29 (yO1 39 []))))∧uses_expr_j1 self p_2 send_6 l31 l35=some r∧Le μ0 μx∧Sq μx w0 w (.blk b1 205 [v29,v7,v33]::.row v29 9 1 l31.length cs30::.row v7 9 1 send_6.length cs8::.row v33 9 1 l35.length cs34::rsF)∧Rw μx cs30 l31∧Rw μx cs34 l35) (by rintro _ _ ⟨_,_,_,_,_,_,_,rfl,_⟩; rfl) ?_ ?_
 ·refine cblock (cseq (nz ?_))
  iterate 2 refine st ?_
  refine nw ?_
  refine ccutE ([11]) (by decide) (fun m w=>∃ μx b37,m=(yK9 (.i (.bool b37)::(yK1 (yO1 11 []))))∧uses_expr_j2 self call_2 p_2 send_6 recv_10 b37=some r∧Le μ0 μx∧Sq μx w0 w (.blk b1 205 [v3,v7,v11]::.row v3 9 1 call_2.length cs4::.row v7 9 1 send_6.length cs8::.row v11 9 1 recv_10.length cs12::rsF)) (by rintro _ _ ⟨_,_,rfl,_⟩; rfl) ?_ ?_
  ·refine cifd (et d9) (fun h38=>?_) (fun h38=>?_)
   ·replace h:=iT h38 h
    refine cskip (xl ?_)
    exact ⟨_,_,rfl,(aK9 (aI (aK1 (aO1 aZ)))),_,(decide (p_2.Kind=19)),rfl,h,Le.r,hS⟩
   ·replace h:=iF h38 h
    refine creg ?_
    iterate 2 refine st ?_
    refine wnil (xl ?_)
    exact ⟨_,_,rfl,(aK9 (aI (aK1 (aO1 aZ)))),_,(decide (p_2.Kind=22)),rfl,h,Le.r,hS⟩
  ·rintro _ t w1 ⟨μ1,b37,rfl,h,le39,hS⟩
   unfold uses_expr_j2 at h
   refine nrm (mK9 (mi (mK1 (mO1 mz)))) (xn ?_)
   refine cifb (et d9) (fun h40=>?_) (fun h40=>?_)
   ·replace h:=iT h40 h
    refine ccutE (rg 12 13) (by decide) (fun m w=>∃ μx l43 v41 cs42,m=(yK10 (yK2 (yO10 12 (yO3 22 []))))∧uses_expr_j3 self p_2 send_6 recv_10 l43=some r∧Le μ1 μx∧Sq μx w0 w (.blk b1 205 [v41,v7,v11]::.row v41 9 1 l43.length cs42::.row v7 9 1 send_6.length cs8::.row v11 9 1 recv_10.length cs12::rsF)∧Rw μx cs42 l43) (by rintro _ _ ⟨_,_,_,_,rfl,_⟩; rfl) ?_ ?_
    ·refine cdw hS ?_; clear hS; intro w2 hS
     refine cpi 0 rfl (cpi 1 rfl (cpi 2 rfl (cpi 3 rfl (cpi 5 rfl (cpi 6 rfl (cpi 7 rfl (cr 8 [8,9,10,11,12,13] rfl (u_load ti9 (et (k10 d9)) ((m19 _ (le39 _ hS.a)).one d2)) (q20 p0) ?_)))))))
     refine sc2G (i:=4) (j:=9) rfl rfl rfl rfl rfl (wn0 rfl) (wn0 rfl) ?_ ?_
     ·refine id (s_load ti188 (et (k10 d5)) ((hS.blk d0).cell d0) (dt (q10 p6)) ?_)
      refine sc1 rfl rfl rfl (s_bsl underlying188 ti9 (Parts.s (et (k20 d0)) rfl Parts.z) rfl rfl hS ?_); clear hS; intro b45 w3 hb46 hS; refine po ?_
      obtain ⟨l49,g50,h⟩:=bI h
      have m51:Rw μ1 [S p_2.Name] [p_2.Name]:=(Rw.one (α:=List UInt8) rfl)
      have m48:=Rw.app (m5.up le39) m51 g50
      refine sc1 rfl rfl rfl (s_app1 underlying188 ti9 rfl (et (k10 d6)) (et (k20 d1)) hS d2 (hS.blk d0).cells m51 rfl g50 (by decide) ?_); clear hS; intro v47 w4 rs_ hp_ hS; cases (show _=rs_ from hp_)
      replace hS:=Sep.reput hS p2; refine po ?_
      replace hS:=hS.drop Rm.z
      refine cpi 11 rfl (cpi 12 rfl (sc1 rfl rfl rfl (s_store1 ti188 (et (k20 d4)) (et (k20 d2)) (hS.get d1).cellV hS d0 p0 rfl p0 dn ?_)))
      clear hS; intro w5 hS
      refine sc_nil (xl ?_)
      exact ⟨_,_,rfl,(aK10 (aK2 (aO10 (aO3 aZ)))),_,_,_,(cs4++[S p_2.Name]),rfl,h,Le.r,hS,m48⟩
     ·obtain ⟨l49,g50,h⟩:=bI h
      refine id (s_bsl underlying188 ti9 (Parts.s (et (k20 d0)) rfl Parts.z) rfl rfl hS ?_); clear hS; intro b52 w6 hb53 hS; refine po ?_
      refine cr 4 [4,10,11,12,13] rfl (u_load ti188 (et (k10 d5)) ((hS.blk d1).cell d0)) (q10 p6) ?_
      have m56:Rw μ1 [S p_2.Name] [p_2.Name]:=(Rw.one (α:=List UInt8) rfl)
      have m55:=Rw.app (m5.up le39) m56 g50
      refine sc1 rfl rfl rfl (s_app1 underlying188 ti9 rfl (et (k10 d6)) (et (k20 d1)) hS d2 (hS.blk d0).cells m56 rfl g50 (by decide) ?_); clear hS; intro v54 w7 rs_ hp_ hS; cases (show _=rs_ from hp_)
      replace hS:=Sep.reput hS p2; refine po ?_
      replace hS:=hS.drop Rm.z
      refine cpi 11 rfl (cpi 12 rfl (sc1 rfl rfl rfl (s_store1 ti188 (et (k20 d4)) (et (k20 d2)) (hS.get d1).cellV hS d0 p0 rfl p0 dn ?_)))
      clear hS; intro w8 hS
      refine sc_nil (xl ?_)
      exact ⟨_,_,rfl,(aK10 (aK2 (aO10 (aO3 aZ)))),_,_,_,(cs4++[S p_2.Name]),rfl,h,Le.r,hS,m55⟩
    ·rintro _ t w9 ⟨μ2,l43,v41,cs42,rfl,h,le57,hS,m58⟩
     unfold uses_expr_j3 at h
     refine nrm (mK10 (mK2 (mO10 (mO3 mz)))) ?_
     refine (fun h=>bn (xl h)) ?_
     exact ⟨_,_,rfl,(aK9 (aO20 (aO10 (aO1 aZ)))),_,_,_,_,recv_10,_,_,rfl,h,(le39.t le57),hS,m58,(m13.up (le39.t le57))⟩
   ·replace h:=iF h40 h
    refine nz ?_
    iterate 2 refine st ?_
    refine nw ?_
    refine cifd (et (k20 d5)) (fun h59=>?_) (fun h59=>?_)
    ·replace h:=iT h59 h
     refine ccutE (rg 27 13) (by decide) (fun m w=>∃ μx l62 v60 cs61,m=(yK20 (yK7 (yO10 27 (yO3 37 []))))∧uses_expr_j4 self call_2 p_2 send_6 l62=some r∧Le μ1 μx∧Sq μx w0 w (.blk b1 205 [v3,v7,v60]::.row v3 9 1 call_2.length cs4::.row v7 9 1 send_6.length cs8::.row v60 9 1 l62.length cs61::rsF)∧Rw μx cs61 l62) (by rintro _ _ ⟨_,_,_,_,rfl,_⟩; rfl) ?_ ?_
     ·refine cdw hS ?_; clear hS; intro w10 hS
      refine cpi 0 rfl (cpi 1 rfl (cpi 2 rfl (cpi 3 rfl (cpi 5 rfl (cpi 6 rfl (cpi 7 rfl (cr 8 [8,9,10,11,12,13] rfl (u_load ti9 (et (k30 d4)) ((m19 _ (le39 _ hS.a)).one d2)) (q30 p5) ?_)))))))
      refine sc2G (i:=4) (j:=9) rfl rfl rfl rfl rfl (wn0 rfl) (wn0 rfl) ?_ ?_
      ·refine id (s_load ti188 (et (k30 d0)) ((hS.blk d0).cell d2) (dt (q30 p1)) ?_)
       refine sc1 rfl rfl rfl (s_bsl underlying188 ti9 (Parts.s (et (k30 d5)) rfl Parts.z) rfl rfl hS ?_); clear hS; intro b64 w11 hb65 hS; refine po ?_
       obtain ⟨l68,g69,h⟩:=bI h
       have m70:Rw μ1 [S p_2.Name] [p_2.Name]:=(Rw.one (α:=List UInt8) rfl)
       have m67:=Rw.app (m13.up le39) m70 g69
       refine sc1 rfl rfl rfl (s_app1 underlying188 ti9 rfl (et (k30 d1)) (et (k30 d6)) hS d4 (hS.blk d0).cells m70 rfl g69 (by decide) ?_); clear hS; intro v66 w12 rs_ hp_ hS; cases (show _=rs_ from hp_)
       replace hS:=Sep.reput hS p4; refine po ?_
       replace hS:=hS.drop Rm.z
       refine cpi 11 rfl (cpi 12 rfl (sc1 rfl rfl rfl (s_store1 ti188 (et (k30 d9)) (et (k30 d7)) (hS.get d3).cellV hS d0 p2 rfl p0 dn ?_)))
       clear hS; intro w13 hS
       refine sc_nil (xl ?_)
       exact ⟨_,_,rfl,(aK20 (aK7 (aO10 (aO3 aZ)))),_,_,_,(cs12++[S p_2.Name]),rfl,h,Le.r,hS,m67⟩
      ·obtain ⟨l68,g69,h⟩:=bI h
       refine id (s_bsl underlying188 ti9 (Parts.s (et (k30 d5)) rfl Parts.z) rfl rfl hS ?_); clear hS; intro b71 w14 hb72 hS; refine po ?_
       refine cr 4 [4,10,11,12,13] rfl (u_load ti188 (et (k30 d0)) ((hS.blk d1).cell d2)) (q30 p1) ?_
       have m75:Rw μ1 [S p_2.Name] [p_2.Name]:=(Rw.one (α:=List UInt8) rfl)
       have m74:=Rw.app (m13.up le39) m75 g69
       refine sc1 rfl rfl rfl (s_app1 underlying188 ti9 rfl (et (k30 d1)) (et (k30 d6)) hS d4 (hS.blk d0).cells m75 rfl g69 (by decide) ?_); clear hS; intro v73 w15 rs_ hp_ hS; cases (show _=rs_ from hp_)
       replace hS:=Sep.reput hS p4; refine po ?_
       replace hS:=hS.drop Rm.z
       refine cpi 11 rfl (cpi 12 rfl (sc1 rfl rfl rfl (s_store1 ti188 (et (k30 d9)) (et (k30 d7)) (hS.get d3).cellV hS d0 p2 rfl p0 dn ?_)))
       clear hS; intro w16 hS
       refine sc_nil (xl ?_)
       exact ⟨_,_,rfl,(aK20 (aK7 (aO10 (aO3 aZ)))),_,_,_,(cs12++[S p_2.Name]),rfl,h,Le.r,hS,m74⟩
     ·rintro _ t w17 ⟨μ3,l62,v60,cs61,rfl,h,le76,hS,m77⟩
      unfold uses_expr_j4 at h
      refine nrm (mK20 (mK7 (mO10 (mO3 mz)))) ?_
      refine (fun h=>bn (xl h)) ?_
      exact ⟨_,_,rfl,(aK9 (aO20 (aO10 (aO1 aZ)))),_,call_2,_,_,_,_,_,rfl,h,(le39.t le76),hS,(m5.up (le39.t le76)),m77⟩
    ·replace h:=iF h59 h
     refine cskip ?_
     refine (fun h=>bn (xl h)) ?_
     exact ⟨_,_,rfl,(aK9 (aO20 (aO10 (aO1 aZ)))),_,call_2,_,_,recv_10,_,_,rfl,h,le39,hS,(m5.up le39),(m13.up le39)⟩
 ·rintro _ t w18 ⟨μ4,l31,v29,cs30,l35,v33,cs34,rfl,h,le78,hS,m79,m80⟩
  unfold uses_expr_j1 at h
  refine nrm (mK9 (mO20 (mO10 (mO1 mz)))) (xn (nz ?_))
  iterate 3 refine st ?_
  refine ld ((m19 _ (le78 _ hS.a)).one d3) (wl (su (u_lensl underlying191 (et (k40 d3))) (dt (q40 p4)) (st (nw (cblock ?_)))))
  refine cloopE ([4]++rg 46 11) (by decide) (fun n m w=>∃ μx i106 l109 v107 cs108 l113 v111 cs112 l117 v115 cs116,m=(yK4 (yO1 4 (yK20 (yK20 (.i (.int .i64 i106)::(yO10 46 (yO1 56 [])))))))∧uses_expr_l1 self p_2 n i106 l109 l113 l117=some r∧Le μ4 μx∧Sq μx w0 w (.blk b1 205 [v107,v111,v115]::.row v107 9 1 l109.length cs108::.row v111 9 1 l113.length cs112::.row v115 9 1 l117.length cs116::rsF)∧Rw μx cs108 l109∧Rw μx cs112 l113∧Rw μx cs116 l117) (by rintro _ _ _ ⟨_,_,_,_,_,_,_,_,_,_,_,rfl,_⟩; rfl) _ _ (aK4 (aO1 (aK20 (aK20 (aI (aO10 (aO1 aZ))))))) ⟨_,0,l31,v29,cs30,send_6,v7,cs8,l35,v33,cs34,rfl,h,Le.r,hS,m79,(m9.up le78),m80⟩ ?_
  rintro n_1 _ t w19 ⟨μ5,i106,l109,v107,cs108,l113,v111,cs112,l117,v115,cs116,rfl,h,le144,hS,m145,m146,m147⟩
  cases n_1 with
  | zero=>cases h
  | succ n_1 =>
  unfold uses_expr_l1 at h
  refine cnrm (mK4 (mO1 (mK20 (mK20 (mi (mO10 (mO1 mz))))))) (nz (st (ny ?_)))
  refine cifd (et (k40 d6)) (fun h148=>?_) (fun h148=>?_)
  ·replace h:=iT h148 h
   refine cskip (xn (cseq (cblock (nz ?_))))
   iterate 2 refine st ?_
   refine nw (creg ?_)
   iterate 4 refine st ?_
   refine ld ((m19 _ ((le78.t le144) _ hS.a)).one d3) (st ?_)
   obtain ⟨x149,g150,h⟩:=bI h
   obtain ⟨b151,o152,cs153,e154,f155,m156⟩:=SlR.elem (m18.up (le78.t le144)) g150
   obtain ⟨a157,c158,rfl,m159⟩:=TExpr.o m156
   refine wl (su (u_iax underlying191 ti193 (et (k50 d2)) (et (k50 d3)) e154) (dt (q50 p4)) ?_)
   obtain ⟨r160,g161,h⟩:=bI h
   replace hS:=(((hS.bg Y3).bg Y3).bg Y3).bg Y3
   refine ca (IH.uses_expr (hg.t (le78.t le144)) m145 m146 m147 m159 f155 g161 hS) ?_
   rintro _ w20 ⟨μ6,v163,cs164,v166,cs167,v169,cs170,rfl,le162,hS,m165,m168,m171⟩
   refine po (wnil ?_)
   refine (fun h=>bn (xn h)) ?_
   refine creg ?_
   obtain ⟨i172,g173,h⟩:=bI h
   refine wl (su (u_addc (et (k40 d5)) ec g173) (dt (q50 p6)) (st (wnil (xl ?_))))
   exact ⟨n_1,_,_,rfl,(aK4 (aO1 (aK20 (aK20 (aI (aO10 (aO1 aZ))))))),⟨_,i172,r160.1,v163,cs164,r160.2.1,v166,cs167,r160.2.2,v169,cs170,rfl,h,(le144.t le162),hS,m165,m168,m171⟩,Nat.lt_succ_self _⟩
  ·replace h:=iF h148 h
   refine cexit ?_
   refine (fun h=>xe (xe (bh h))) ?_
   obtain rfl:=oI h
   refine end0 rfl ?_
   exact ⟨_,_,_,_,_,_,_,rfl,(le78.t le144),hS,m145,m146,m147⟩
theorem SemaU_sound:∀ n,SemaUSound (SemaU_run n)
  | 0=>⟨(by intros; rename_i h _; cases h)⟩
  | n+1=>⟨uses_expr_w (SemaU_sound n)⟩
structure SemaVSound (sf:SemaV):Prop where
  uses_stats:∀ {μ0:M} {w0 w:World} {rsF:List Res} (hg:Le Gm μ0) {b1:Nat} {call_2:List (List UInt8)} {v3:Value} {cs4:List Value} {send_6:List (List UInt8)} {v7:Value} {cs8:List Value} {recv_10:List (List UInt8)} {v11:Value} {cs12:List Value} {p_2:List TStat} {a14:Option Addr} {c15:Nat} {r:List (List UInt8)×List (List UInt8)×List (List UInt8)} (m5:Rw μ0 cs4 call_2) (m9:Rw μ0 cs8 send_6) (m13:Rw μ0 cs12 recv_10) (m16:Sl μ0 a14 c15 p_2) (h:sf.uses_stats call_2 send_6 recv_10 p_2=some r) (hS:Sq μ0 w0 w (.blk b1 205 [v3,v7,v11]::.row v3 9 1 call_2.length cs4::.row v7 9 1 send_6.length cs8::.row v11 9 1 recv_10.length cs12::rsF)),CallsV prog 140 [.pointer (some ⟨b1,0,none⟩),.slice a14 p_2.length c15] w (fun v w'=>∃ (μ':M) (v17:Value) (cs18:List Value) (v20:Value) (cs21:List Value) (v23:Value) (cs24:List Value),v=.tuple ⟨[]⟩∧Le μ0 μ'∧Sq μ' w0 w' (.blk b1 205 [v17,v20,v23]::.row v17 9 1 r.1.length cs18::.row v20 9 1 r.2.1.length cs21::.row v23 9 1 r.2.2.length cs24::rsF)∧Rw μ' cs18 r.1∧Rw μ' cs21 r.2.1∧Rw μ' cs24 r.2.2)
theorem uses_stats_w {self:SemaV} (IH:SemaVSound self) {fu:Nat} {μ0:M} {w0 w:World} {rsF:List Res} (hg:Le Gm μ0) {b1:Nat} {call_2:List (List UInt8)} {v3:Value} {cs4:List Value} {send_6:List (List UInt8)} {v7:Value} {cs8:List Value} {recv_10:List (List UInt8)} {v11:Value} {cs12:List Value} {p_2:List TStat} {a14:Option Addr} {c15:Nat} {r:List (List UInt8)×List (List UInt8)×List (List UInt8)} (m5:Rw μ0 cs4 call_2) (m9:Rw μ0 cs8 send_6) (m13:Rw μ0 cs12 recv_10) (m16:Sl μ0 a14 c15 p_2) (h:uses_stats fu self call_2 send_6 recv_10 p_2=some r) (hS:Sq μ0 w0 w (.blk b1 205 [v3,v7,v11]::.row v3 9 1 call_2.length cs4::.row v7 9 1 send_6.length cs8::.row v11 9 1 recv_10.length cs12::rsF)):CallsV prog 140 [.pointer (some ⟨b1,0,none⟩),.slice a14 p_2.length c15] w (fun v w'=>∃ (μ':M) (v17:Value) (cs18:List Value) (v20:Value) (cs21:List Value) (v23:Value) (cs24:List Value),v=.tuple ⟨[]⟩∧Le μ0 μ'∧Sq μ' w0 w' (.blk b1 205 [v17,v20,v23]::.row v17 9 1 r.1.length cs18::.row v20 9 1 r.2.1.length cs21::.row v23 9 1 r.2.2.length cs24::rsF)∧Rw μ' cs18 r.1∧Rw μ' cs21 r.2.1∧Rw μ' cs24 r.2.2):=by
 unfold uses_stats at h
 refine enter func140 rfl (frm:=_::_::u20 (u50 [])) rfl (nz (st (wl (su (u_lensl underlying89 (et d6)) (dt p7) (st (nw (cblock ?_)))))))
 refine cloopE (rg 4 2++rg 9 63) (by decide +kernel) (fun n m w=>∃ μx i107 l110 v108 cs109 l114 v112 cs113 l118 v116 cs117,m=(yK4 (yO2 4 (yK2 (.i (.int .i64 i107)::(yO50 9 (yO10 59 (yO3 69 [])))))))∧uses_stats_l1 fu self p_2 n i107 l110 l114 l118=some r∧Le μ0 μx∧Sq μx w0 w (.blk b1 205 [v108,v112,v116]::.row v108 9 1 l110.length cs109::.row v112 9 1 l114.length cs113::.row v116 9 1 l118.length cs117::rsF)∧Rw μx cs109 l110∧Rw μx cs113 l114∧Rw μx cs117 l118) (by rintro _ _ _ ⟨_,_,_,_,_,_,_,_,_,_,_,rfl,_⟩; rfl) _ _ (aK4 (aO2 (aK2 (aI (aO50 (aO10 (aO3 aZ))))))) ⟨_,0,call_2,v3,cs4,send_6,v7,cs8,recv_10,v11,cs12,rfl,h,Le.r,hS,m5,m9,m13⟩ ?_
 rintro n_1 _ t w1 ⟨μ1,i107,l110,v108,cs109,l114,v112,cs113,l118,v116,cs117,rfl,h,le201,hS,m202,m203,m204⟩
 cases n_1 with
 | zero=>cases h
 | succ n_1 =>
 unfold uses_stats_l1 at h
 refine cnrm (mK4 (mO2 (mK2 (mi (mO50 (mO10 (mO3 mz))))))) (nz (st (ny ?_)))
 refine cifd (et d9) (fun h205=>?_) (fun h205=>?_)
 ·replace h:=iT h205 h
  refine cskip (xn (cseq (cblock (nz ?_))))
  iterate 2 refine st ?_
  refine nx ?_
  iterate 2 refine st ?_
  obtain ⟨x206,g207,h⟩:=bI h
  obtain ⟨b208,o209,cs210,e211,f212,m213⟩:=SlR.elem (m16.up le201) g207
  obtain ⟨a214,c215,a217,c218,a220,c221,rfl,m216,m219,m222⟩:=TStat.o m213
  refine wl (su (u_iax underlying89 ti195 (et (k10 d1)) (et (k10 d2)) e211) (dt (q10 p3)) (st (ny (nz ?_))))
  iterate 3 refine st ?_
  refine ld ((f212 _ hS.a).one d0) (st (nw ?_))
  refine cifd (et (k10 d8)) (xT h) fun h223=>?_
  replace h:=iF h223 h
  refine cskip (xn (cseq (nz ?_)))
  iterate 3 refine st ?_
  refine ld ((f212 _ hS.a).one d0) (st (nw ?_))
  refine cifd (et (k30 d6)) (fun h224=>?_) (xF h)
  replace h:=iT h224 h
  refine creg ?_
  iterate 4 refine st ?_
  obtain ⟨r225,g226,h⟩:=bI h
  replace hS:=(((hS.bg Y3).bg Y3).bg Y3).bg Y3
  refine ca ((SemaU_sound fu).uses_expr (hg.t le201) m202 m203 m204 m216 (f212.sb 2 4) g226 hS) ?_
  rintro _ w2 ⟨μ2,v228,cs229,v231,cs232,v234,cs235,rfl,le227,hS,m230,m233,m236⟩
  refine po (ny (cseq ?_))
  refine ccutE (rg 42 11) (by decide) (fun m w=>∃ μx b237,m=(yK20 (yK20 (yK2 (yO10 42 (yO1 52 (.i (.bool b237)::[]))))))∧uses_stats_j1 self i107 x206 r225 (uses_stats_l1 fu self p_2 n_1) b237=some r∧Le μ2 μx∧Sq μx w0 w (.blk b1 205 [v228,v231,v234]::.row v228 9 1 r225.1.length cs229::.row v231 9 1 r225.2.1.length cs232::.row v234 9 1 r225.2.2.length cs235::rsF)) (by rintro _ _ ⟨_,_,rfl,_⟩; rfl) ?_ ?_
  ·refine creg ?_
   iterate 3 refine st ?_
   refine ld ((f212 _ (le227 _ hS.a)).one d0) ?_
   iterate 2 refine st ?_
   refine wspd (k40 d7) (q40 p7) (q40 p7) (fun h238=>?_) (fun h238=>?_)
   ·replace h:=iT h238 h
    refine sn rfl rfl (sn rfl rfl (sn rfl rfl (sn rfl rfl (sn rfl rfl (st (wnil (xl ?_)))))))
    exact ⟨_,_,rfl,(aK20 (aK20 (aK2 (aO10 (aO1 (aI aZ)))))),_,true,rfl,h,Le.r,hS⟩
   ·replace h:=iF h238 h
    refine sy rfl (sy rfl (sy rfl (wy rfl (k40 d7) (s_load ti3 (et (k50 d0)) ((f212 _ (le227 _ hS.a)).one d0) (dt (q50 p1)) (sy rfl (st (wnil (xl ?_))))))))
    exact ⟨_,_,rfl,(aK20 (aK20 (aK2 (aO10 (aO1 (aI aZ)))))),_,(decide (x206.Kind=4)),rfl,h,Le.r,hS⟩
  ·rintro _ t w3 ⟨μ3,b237,rfl,h,le239,hS⟩
   unfold uses_stats_j1 at h
   refine nrm (mK20 (mK20 (mK2 (mO10 (mO1 (mi mz)))))) (xn ?_)
   refine ccutE (rg 54 6) (by decide) (fun m w=>∃ μx l242 v240 cs241 l246 v244 cs245 l250 v248 cs249,m=(yK50 (yK4 (yO6 54 [])))∧uses_stats_j2 self i107 x206 (uses_stats_l1 fu self p_2 n_1) l242 l246 l250=some r∧Le μ3 μx∧Sq μx w0 w (.blk b1 205 [v240,v244,v248]::.row v240 9 1 l242.length cs241::.row v244 9 1 l246.length cs245::.row v248 9 1 l250.length cs249::rsF)∧Rw μx cs241 l242∧Rw μx cs245 l246∧Rw μx cs249 l250) (by rintro _ _ ⟨_,_,_,_,_,_,_,_,_,_,rfl,_⟩; rfl) ?_ ?_
   ·refine cifb (et (k50 d3)) (fun h252=>?_) (fun h252=>?_)
    ·replace h:=iT h252 h
     refine creg ?_
     iterate 4 refine st ?_
     refine ld ((f212 _ ((le227.t le239) _ hS.a)).one d6) ?_
     obtain ⟨r253,g254,h⟩:=bI h
     replace hS:=(((hS.bg Y3).bg Y3).bg Y3).bg Y3
     refine ca (IH.uses_stats (hg.t (le201.t (le227.t le239))) (m230.up le239) (m233.up le239) (m236.up le239) (m219.up (le227.t le239)) g254 hS) ?_
     rintro _ w4 ⟨μ4,v256,cs257,v259,cs260,v262,cs263,rfl,le255,hS,m258,m261,m264⟩
     refine po (wnil (xl ?_))
     exact ⟨_,_,rfl,(aK50 (aK4 (aO6 aZ))),_,r253.1,_,_,r253.2.1,_,_,r253.2.2,_,_,rfl,h,le255,hS,m258,m261,m264⟩
    ·replace h:=iF h252 h
     refine cskip (xl ?_)
     exact ⟨_,_,rfl,(aK50 (aK4 (aO6 aZ))),_,r225.1,_,_,r225.2.1,_,_,r225.2.2,_,_,rfl,h,Le.r,hS,(m230.up le239),(m233.up le239),(m236.up le239)⟩
   ·rintro _ t w5 ⟨μ5,l242,v240,cs241,l246,v244,cs245,l250,v248,cs249,rfl,h,le265,hS,m266,m267,m268⟩
    unfold uses_stats_j2 at h
    refine nrm (mK50 (mK4 (mO6 mz))) (xn (nz ?_))
    iterate 3 refine st ?_
    refine ld ((f212 _ ((le227.t (le239.t le265)) _ hS.a)).one d0) (st (nw ?_))
    refine cifd (et (k60 d4)) (fun h269=>?_) (fun h269=>?_)
    ·replace h:=iT h269 h
     refine creg ?_
     iterate 4 refine st ?_
     refine ld ((f212 _ ((le227.t (le239.t le265)) _ hS.a)).one d7) ?_
     obtain ⟨r270,g271,h⟩:=bI h
     replace hS:=(((hS.bg Y3).bg Y3).bg Y3).bg Y3
     refine ca (IH.uses_stats (hg.t (le201.t (le227.t (le239.t le265)))) m266 m267 m268 (m222.up (le227.t (le239.t le265))) g271 hS) ?_
     rintro _ w6 ⟨μ6,v273,cs274,v276,cs277,v279,cs280,rfl,le272,hS,m275,m278,m281⟩
     refine po (wnil ?_)
     refine (fun h=>bn (xn h)) ?_
     refine creg ?_
     obtain ⟨i282,g283,h⟩:=bI h
     refine wl (su (u_addc (et d8) ec g283) (dt (q70 p1)) (st (wnil (xl ?_))))
     exact ⟨n_1,_,_,rfl,(aK4 (aO2 (aK2 (aI (aO50 (aO10 (aO3 aZ))))))),⟨_,i282,r270.1,v273,cs274,r270.2.1,v276,cs277,r270.2.2,v279,cs280,rfl,h,(le201.t (le227.t (le239.t (le265.t le272)))),hS,m275,m278,m281⟩,Nat.lt_succ_self _⟩
    ·replace h:=iF h269 h
     refine cskip ?_
     refine (fun h=>bn (xn h)) ?_
     refine creg ?_
     obtain ⟨i284,g285,h⟩:=bI h
     refine wl (su (u_addc (et d8) ec g285) (dt (q70 p1)) (st (wnil (xl ?_))))
     exact ⟨n_1,_,_,rfl,(aK4 (aO2 (aK2 (aI (aO50 (aO10 (aO3 aZ))))))),⟨_,i284,l242,v240,cs241,l246,v244,cs245,l250,v248,cs249,rfl,h,(le201.t (le227.t (le239.t le265))),hS,m266,m267,m268⟩,Nat.lt_succ_self _⟩
 ·replace h:=iF h205 h
  refine cexit ?_
  refine (fun h=>xe (xe (bh h))) ?_
  obtain rfl:=oI h
  refine end0 rfl ?_
  exact ⟨_,_,_,_,_,_,_,rfl,le201,hS,m202,m203,m204⟩
theorem SemaV_sound:∀ n,SemaVSound (SemaV_run n)
  | 0=>⟨(by intros; rename_i h _; cases h)⟩
  | n+1=>⟨uses_stats_w (SemaV_sound n)⟩
theorem sema_reach_w (hg:Le Gm μ0) {p_1:TSp} {p_2:TDef} {r:TSemaUses} (m5:Sl μ0 a3 c4 p_1.defs) (m7:Mr μ0 b6 p_1.named) (m8:At μ0 b1 o2 [.slice a3 p_1.defs.length c4,.map (some b6)]) (m13:Sl μ0 a11 c12 p_2.Params) (m16:Sl μ0 a14 c15 p_2.Body) (m17:At μ0 b9 o10 [.int .i64 p_2.Kind,S p_2.Name,.int .i64 p_2.Typ.Kind,S p_2.Typ.Gen,.int .i64 p_2.Takes.Kind,S p_2.Takes.Gen,.int .i64 p_2.Cap,.slice a11 p_2.Params.length c12,.slice a14 p_2.Body.length c15]) (h:sema_reach fu p_1 p_2=some r) (hS:Sq μ0 w0 w (rsF)):CallsV prog 108 [.pointer (some ⟨b1,o2,none⟩),.pointer (some ⟨b9,o10,none⟩)] w (fun v w'=>∃ (μ':M) (a18:Option Addr) (c19:Nat) (a21:Option Addr) (c22:Nat) (a24:Option Addr) (c25:Nat),v=.agg ⟨[.slice a18 r.calls.length c19,.slice a21 r.sends.length c22,.slice a24 r.recvs.length c25]⟩∧Le μ0 μ'∧Sq μ' w0 w' (rsF)∧Sl μ' a18 c19 r.calls∧Sl μ' a21 c22 r.sends∧Sl μ' a24 c25 r.recvs):=by
 unfold sema_reach at h
 refine enter func108 rfl (frm:=_::_::u2 (u2 (u10 (u50 [])))) rfl (nz ?_)
 refine wl (s_alloc ti205 hS ?_); clear hS; intro b27 w1 hb28 hS; refine po ?_
 refine nx ?_
 refine wl (s_alloc ti205 hS ?_); clear hS; intro b29 w2 hb30 hS; refine po ?_
 refine nx ?_
 refine wl (s_bsl underlying188 ti9 Parts.z rfl rfl hS ?_); clear hS; intro b31 w3 hb32 hS; refine po ?_
 refine st (nx (st ?_))
 refine wl (s_bsl underlying240 ti99 (Parts.s (et (k10 d3)) rfl Parts.z) rfl rfl hS ?_); clear hS; intro b33 w4 hb34 hS; refine po ?_
 refine st (ny (cblock ?_))
 replace hS:=hS.blkRow (n:=0) (sz:=Mo.sz (List UInt8)) d1 rfl (by decide) p1
 have m35:Rw μ0 [] ([]:List (List UInt8)):=Rw.nil
 replace hS:=hS.blkRow (n:=1) (sz:=Mo.sz (Option TDef)) d0 rfl (by decide) p0
 have m36:Rw μ0 [.pointer (some ⟨b9,o10,none⟩)] ([(some p_2)]:List (Option TDef)):=(Rw.one (α:=Option TDef) (⟨(.pointer (some ⟨b9,o10,none⟩)),rfl,(Np.of (α:=TDef) m17 (TDef.i ⟨a11,c12,a14,c15,rfl,m13,m16⟩))⟩))
 replace hS:=hS.nilRow 9 (Mo.sz (List UInt8))
 replace hS:=hS.nilRow 9 (Mo.sz (List UInt8))
 replace hS:=((((hS.bg Y1).bg Y2).bg Y3).bg Y4).bg Y5
 refine cloopE (rg 8 2++[11]++rg 15 50) (by decide +kernel) (fun n m w=>∃ μx l264 v262 cs263 l268 v266 cs267 l272 v270 cs271 l276 v274 cs275,m=(yK6 (.i (v262)::(.i (v266)::(yO2 8 (yK1 (yO1 11 (yK3 (yO50 15 []))))))))∧sema_reach_l1 fu p_1 n l264 l268 l272 l276=some r∧Le μ0 μx∧Sq μx w0 w (.blk b27 205 [.slice none 0 0,.slice none 0 0,.slice none 0 0]::.blk b29 205 [.slice none 0 0,v270,v274]::.row v262 9 1 l264.length cs263::.row v266 99 1 l268.length cs267::.row v270 9 1 l272.length cs271::.row v274 9 1 l276.length cs275::rsF)∧Rw μx cs263 l264∧Rw μx cs267 l268∧Rw μx cs271 l272∧Rw μx cs275 l276) (by rintro _ _ _ ⟨_,_,_,_,_,_,_,_,_,_,_,_,_,rfl,_⟩; rfl) _ _ (aK6 (aI (aI (aO2 (aK1 (aO1 (aK3 (aO50 aZ)))))))) ⟨_,([]:List (List UInt8)),(.slice (some ⟨b31,0,none⟩) 0 0),[],([(some p_2)]:List (Option TDef)),(.slice (some ⟨b33,0,none⟩) 1 1),[.pointer (some ⟨b9,o10,none⟩)],[],(.slice none 0 0),[],[],(.slice none 0 0),[],rfl,h,Le.r,hS,m35,m36,Rw.nil,Rw.nil⟩ ?_
 rintro n_1 _ t w5 ⟨μ1,l264,v262,cs263,l268,v266,cs267,l272,v270,cs271,l276,v274,cs275,rfl,h,le501,hS,m502,m503,m504,m505⟩
 cases n_1 with
 | zero=>cases h
 | succ n_1 =>
 unfold sema_reach_l1 at h
 refine cnrm (mK6 (mi (mi (mO2 (mK1 (mO1 (mK3 (mO50 mz)))))))) (cseq (nz (st (wl (su (u_lenv underlying240 (et (k10 d5)) (hS.get d3).isSl) (dt (q10 p6)) (st (nw ?_)))))))
 refine cifd (et (k10 d7)) (fun h506=>?_) (fun h506=>?_)
 ·replace h:=iT h506 h
  refine cskip (xn (cblock (nz (st ?_))))
  obtain ⟨x507,g508,h⟩:=bI h
  obtain ⟨b509,o510,pc511,cs512,sc513,ec514,e515,f516,m517,pn518,st519,m520⟩:=Row.elemS (α:=Option TDef) (hS.get d3) m503 rfl g508
  rw [ec514] at hS
  obtain ⟨v521,rfl,m522⟩:=m517
  refine wl (su (u_iax underlying240 ti99 (et (k10 d8)) ec e515) (dt (q10 p9)) (ld ((f516 _ _ _ (hS.get d3) rfl).one d0) (st (nx (st ?_)))))
  obtain ⟨l523,g524,h⟩:=bI h
  obtain ⟨v525,cs530,e526,hb527,hr528,m529⟩:=Row.cutQ (hS.get d3) m520 g524
  replace hS:=hS.reRow d3 hb527 hr528 p3
  refine wl (su (u_slc underlying240 ti99 (et (k20 d1)) (.s ec) .n e526) (dt (q20 p2)) (st (nx ?_)))
  refine wl (s_alloc ti205 hS ?_); clear hS; intro b532 w6 hb533 hS; refine po ?_
  refine nx (st ?_)
  obtain ⟨x534,g535,h⟩:=bI h
  obtain ⟨b536,o537,cs538,rfl,f539,m540⟩:=Np.get m522 g535
  obtain ⟨a541,c542,a544,c545,rfl,m543,m546⟩:=m540
  iterate 2 refine st ?_
  refine ld ((f539 _ hS.a).one d8) ?_
  replace hS:=hS.nilRow 9 (Mo.sz (List UInt8))
  replace hS:=hS.nilRow 9 (Mo.sz (List UInt8))
  replace hS:=hS.nilRow 9 (Mo.sz (List UInt8))
  obtain ⟨r550,g551,h⟩:=bI h
  replace hS:=((hS.bg Y1).bg Y2).bg Y3
  refine ca ((SemaV_sound fu).uses_stats (hg.t le501) (Rw.nil (α:=List UInt8) (μ:=μ1)) (Rw.nil (α:=List UInt8) (μ:=μ1)) (Rw.nil (α:=List UInt8) (μ:=μ1)) m546 g551 hS) ?_
  rintro _ w7 ⟨μ2,v553,cs554,v556,cs557,v559,cs560,rfl,le552,hS,m555,m558,m561⟩
  refine po (ny ?_)
  refine ccutE (rg 28 12) (by decide) (fun m w=>∃ μx l564 a562 c563 l568 a566 c567 l572 v570 cs571 l576 v574 cs575,m=(yK20 (yK8 (yO10 28 (yO2 38 []))))∧sema_reach_j1 p_1 l264 l523 r550 (sema_reach_l1 fu p_1 n_1) l564 l568 l572 l576=some r∧Le μ2 μx∧Sq μx w0 w (.blk b27 205 [.slice none 0 0,.slice none 0 0,.slice none 0 0]::.blk b29 205 [.slice none 0 0,v570,v574]::.row v262 9 1 l264.length cs263::.row v525 99 1 l523.length cs530::.blk b532 205 [v553,.slice a562 l564.length c563,.slice a566 l568.length c567]::.row v553 9 1 r550.1.length cs554::.row v570 9 1 l572.length cs571::.row v574 9 1 l576.length cs575::rsF)∧Sl μx a562 c563 l564∧Sl μx a566 c567 l568∧Rw μx cs571 l572∧Rw μx cs575 l576) (by rintro _ _ ⟨_,_,_,_,_,_,_,_,_,_,_,_,_,rfl,_⟩; rfl) ?_ ?_
  ·refine cdw hS ?_; clear hS; intro w8 hS
   refine sf_start (fpi 0 [0,1,4,9,10,11,12,13] rfl (fr_ 1 [1,4,9,10,11,12,13] rfl (u_load ti188 (et (k20 d8)) ((hS.blk d5).cell d1)) (q20 p9) (fpi 2 [2,3,4,9,10,11,12,13] rfl (fr_ 3 [3,4,9,10,11,12,13] rfl (u_load ti188 (et (k30 d0)) ((hS.blk d0).cell d1)) (q30 p1) (fpi 5 [5,6,9,10,11,12,13] rfl (fr_ 6 [6,9,10,11,12,13] rfl (u_load ti188 (et (k30 d3)) ((hS.blk d5).cell d2)) (q30 p4) (fpi 7 [7,8,9,11,12,13] rfl (fr_ 8 [8,9,11,12,13] rfl (u_load ti188 (et (k30 d5)) ((hS.blk d0).cell d2)) (q30 p6) ?_))))))))
   replace hS:=hS.bg Y2
   obtain ⟨μ3,a578,c579,e582,le581,m580,hq_⟩:=Sep.frzRow hS m558 rfl; clear hS
   subst e582; have hS:=hq_; clear hq_
   obtain ⟨l585,g586,h⟩:=bI h
   obtain ⟨cs587,m588,m589⟩:=Sl.cells m580
   have m584:=Rw.app (m504.up (le552.t le581)) m588 g586
   refine sf1 rfl rfl rfl rfl (wn0 rfl) (s_appS underlying188 ti9 rfl (et (k20 d9)) (et (k30 d1)) hS d7 (fun e=>(m589 e)) m588 g586 (by decide) ?_); clear hS; intro v583 w9 rs_ hp_ hS; cases (show _=rs_ from hp_)
   replace hS:=Sep.reput hS p7; refine po ?_
   refine ⟨(Mons.s (u_load ti188 (et (k30 d5)) ((hS.blk d0).cell d2)) (Mons.s (u_load ti188 (et (k30 d3)) ((hS.blk d4).cell d2)) Mons.z)),?_⟩
   refine fpi 10 [10,11,12,13] rfl ?_
   replace hS:=hS.bg Y2
   obtain ⟨μ4,a590,c591,e594,le593,m592,hq_⟩:=Sep.frzRow hS (m561.up le581) rfl; clear hS
   subst e594; have hS:=hq_; clear hq_
   obtain ⟨l597,g598,h⟩:=bI h
   obtain ⟨cs599,m600,m601⟩:=Sl.cells m592
   have m596:=Rw.app (m505.up (le552.t (le581.t le593))) m600 g598
   refine sf1 rfl rfl rfl rfl (wn0 rfl) (s_appS underlying188 ti9 rfl (et (k30 d4)) (et (k30 d6)) hS d7 (fun e=>(m601 e)) m600 g598 (by decide) ?_); clear hS; intro v595 w10 rs_ hp_ hS; cases (show _=rs_ from hp_)
   replace hS:=Sep.reput hS p7; refine po ?_
   refine ⟨Mons.z,?_⟩
   refine sf1 rfl rfl rfl rfl (wn0 rfl) (s_store1 ti188 (et (k30 d8)) (et (k30 d2)) (hS.get d6).cellV hS d3 p1 rfl p3 dn ?_)
   clear hS; intro w11 hS
   refine ⟨Mons.z,?_⟩
   refine fpi 12 [12,13] rfl (sf1 rfl rfl rfl rfl (wn0 rfl) (s_store1 ti188 (et (k30 d9)) (et (k30 d7)) (hS.get d7).cellV hS d3 p2 rfl p3 dn ?_))
   clear hS; intro w12 hS
   refine ⟨Mons.z,?_⟩
   refine sf_nil (xl ?_)
   replace hS:=(((((((hS.bg Y7).bg Y7).bg Y3).bg Y3).bg Y7).bg Y7).bg Y7).bg Y7
   exact ⟨_,_,rfl,(aK20 (aK8 (aO10 (aO2 aZ)))),_,r550.2.1,_,_,r550.2.2,_,_,_,_,(cs271++cs587),_,_,(cs275++cs599),rfl,h,(le581.t le593),hS,(m580.up le593),m592,(m584.up le593),m596⟩
  ·rintro _ t w13 ⟨μ5,l564,a562,c563,l568,a566,c567,l572,v570,cs571,l576,v574,cs575,rfl,h,le602,hS,m603,m604,m605,m606⟩
   unfold sema_reach_j1 at h
   refine nrm (mK20 (mK8 (mO10 (mO2 mz)))) (xn (nz (st (ld ((hS.blk d4).cell d0) (wl (su (u_lenv underlying188 (et (k40 d1)) (hS.get d5).isSl) (dt (q40 p2)) (st (nw (cblock ?_)))))))))
   replace hS:=hS.drop (Rm.s (Rm.s (Rm.s (Rm.s Rm.z))))
   refine cloopE ([11]++rg 44 21) (by decide +kernel) (fun n m w=>∃ μx i652 l655 v653 cs654 l659 v657 cs658,m=(yK6 (.i (v653)::(.i (v657)::(yK3 (yO1 11 (yK20 (yK10 (yK1 (.i (.int .i64 i652)::(yO20 44 (yO1 64 [])))))))))))∧sema_reach_l2 p_1 r550 l572 l576 (sema_reach_l1 fu p_1 n_1) n i652 l655 l659=some r∧Le μ5 μx∧Sq μx w0 w (.blk b27 205 [.slice none 0 0,.slice none 0 0,.slice none 0 0]::.blk b29 205 [.slice none 0 0,v570,v574]::.row v653 9 1 l655.length cs654::.row v657 99 1 l659.length cs658::.row v553 9 1 r550.1.length cs554::.row v570 9 1 l572.length cs571::.row v574 9 1 l576.length cs575::rsF)∧Rw μx cs654 l655∧Rw μx cs658 l659) (by rintro _ _ _ ⟨_,_,_,_,_,_,_,_,rfl,_⟩; rfl) _ _ (aK6 (aI (aI (aK3 (aO1 (aK20 (aK10 (aK1 (aI (aO20 (aO1 aZ))))))))))) ⟨_,0,l264,v262,cs263,l523,v525,cs530,rfl,h,Le.r,hS,(m502.up (le552.t le602)),(m529.up (le552.t le602))⟩ ?_
   rintro n_2 _ t w14 ⟨μ6,i652,l655,v653,cs654,l659,v657,cs658,rfl,h,le706,hS,m707,m708⟩
   cases n_2 with
   | zero=>cases h
   | succ n_2 =>
   unfold sema_reach_l2 at h
   refine cnrm (mK6 (mi (mi (mK3 (mO1 (mK20 (mK10 (mK1 (mi (mO20 (mO1 mz))))))))))) (nz (st (ny ?_)))
   refine cifd (et (k40 d4)) (fun h709=>?_) (fun h709=>?_)
   ·replace h:=iT h709 h
    refine cskip (xn (cseq (cblock (nz ?_))))
    obtain ⟨x710,g711,h⟩:=bI h
    obtain ⟨b712,o713,pc714,cs715,sc716,ec717,e718,f719,m720,pn721,st722,m723⟩:=Row.elemS (α:=List UInt8) (hS.get d4) (m555.up (le602.t le706)) rfl g711
    rw [ec717] at hS
    obtain rfl:=m720
    refine wl (su (u_iax underlying188 ti9 (et (k40 d1)) (et (k40 d3)) e718) (dt (q40 p5)) (ld ((f719 _ _ _ (hS.get d4) rfl).one d0) (st (nx ?_))))
    iterate 2 refine st ?_
    refine wl (s_callv isfn109 ef (e1 (et (k40 d7)) (e1 (et (k40 d8)) e0)) (contains_s_c (l:=l655) (cells_row str1 (hS.get d2) m707)) ?_); rintro _ w15 ⟨rfl,hw_⟩; replace hS:=hw_ ▸ hS; clear hw_; refine po ?_
    refine st (nw ?_)
    refine cifnb (et (k50 d0)) (fun h725=>?_) (fun h725=>?_)
    ·replace h:=iF h725 h
     refine nz ?_
     iterate 2 refine st ?_
     refine wl (s_bsl underlying188 ti9 (Parts.s (et (k50 d2)) rfl Parts.z) rfl rfl hS ?_); clear hS; intro b726 w16 hb727 hS; refine po ?_
     obtain ⟨l730,g731,h⟩:=bI h
     have m732:Rw μ6 [S x710] [x710]:=(Rw.one (α:=List UInt8) rfl)
     have m729:=Rw.app m707 m732 g731
     refine wl (s_app1 underlying188 ti9 rfl (et (k50 d1)) (et (k50 d3)) hS d3 (hS.blk d0).cells m732 rfl g731 (by decide) ?_); clear hS; intro v728 w17 rs_ hp_ hS; cases (show _=rs_ from hp_)
     replace hS:=Sep.reput hS p3; refine po ?_
     replace hS:=hS.drop Rm.z
     refine st (nw (creg ?_))
     iterate 4 refine st ?_
     refine ld ((m8 _ ((le501.t (le552.t (le602.t le706))) _ hS.a)).one d1) (st ?_)
     obtain ⟨es733,c734,hb735,hq736⟩:=(m7.up (le501.t (le552.t (le602.t le706))))
     refine wl (s_mgetP1 (κ:=List UInt8) (k:=x710) (hrv:=fun _ _ h=>h) underlying96 underlying9 (et (k50 d9)) (et (k60 d0)) zv99 (hb735 _ hS.a) hq736 ?_); intro v737 hv738; refine po ?_
     refine wl (s_bsl underlying240 ti99 (Parts.s (et (k60 d1)) (hv738.cellV) Parts.z) rfl rfl hS ?_); clear hS; intro b739 w18 hb740 hS; refine po ?_
     obtain ⟨l743,g744,h⟩:=bI h
     have m745:Rw μ6 [v737] [(mget p_1.named x710)]:=(Rw.one (α:=Option TDef) (⟨v737,rfl,hv738⟩))
     have m742:=Rw.app m708 m745 g744
     refine wl (s_app1 underlying240 ti99 rfl (et (k50 d5)) (et (k60 d2)) hS d4 (hS.blk d0).cells m745 rfl g744 (by decide) ?_); clear hS; intro v741 w19 rs_ hp_ hS; cases (show _=rs_ from hp_)
     replace hS:=Sep.reput hS p4; refine po ?_
     replace hS:=hS.drop Rm.z
     refine st (wnil ?_)
     refine (fun h=>bn (xn h)) ?_
     refine creg ?_
     obtain ⟨i746,g747,h⟩:=bI h
     refine wl (su (u_addc (et (k40 d3)) ec g747) (dt (q60 p4)) (st (wnil (xl ?_))))
     rw [← ec717] at hS
     exact ⟨n_2,_,_,rfl,(aK6 (aI (aI (aK3 (aO1 (aK20 (aK10 (aK1 (aI (aO20 (aO1 aZ))))))))))),⟨_,i746,l730,v728,(cs654++[S x710]),l743,v741,(cs658++[v737]),rfl,h,le706,hS,m729,m742⟩,Nat.lt_succ_self _⟩
    ·replace h:=iT h725 h
     refine cskip ?_
     refine (fun h=>bn (xn h)) ?_
     refine creg ?_
     obtain ⟨i748,g749,h⟩:=bI h
     refine wl (su (u_addc (et (k40 d3)) ec g749) (dt (q60 p4)) (st (wnil (xl ?_))))
     rw [← ec717] at hS
     exact ⟨n_2,_,_,rfl,(aK6 (aI (aI (aK3 (aO1 (aK20 (aK10 (aK1 (aI (aO20 (aO1 aZ))))))))))),⟨_,i748,l655,v653,cs654,l659,v657,cs658,rfl,h,le706,hS,m707,m708⟩,Nat.lt_succ_self _⟩
   ·replace h:=iF h709 h
    refine cexit ?_
    refine (fun h=>xe (xe (bh h))) ?_
    refine (fun h=>bn (xl h)) ?_
    replace hS:=hS.drop (Rm.s (Rm.s (Rm.s (Rm.s Rm.z))))
    exact ⟨n_1,_,_,rfl,(aK6 (aI (aI (aO2 (aK1 (aO1 (aK3 (aO50 aZ)))))))),⟨_,l655,v653,cs654,l659,v657,cs658,l572,v570,cs571,l576,v574,cs575,rfl,h,(le501.t (le552.t (le602.t le706))),hS,m707,m708,(m605.up le706),(m606.up le706)⟩,Nat.lt_succ_self _⟩
 ·replace h:=iF h506 h
  refine cexit ?_
  refine (fun h=>xe (xe (bh h))) ?_
  refine xn (nz (lds (hS.blk d1).cells rfl (wl (s_storeA ti205 (et d4) (et (k60 d5)) rfl (cv_s rfl (cv_s ((hS.get d4).cellV) (cv_s ((hS.get d5).cellV) cv_z))) hS d0 rfl p0 dn ?_))))
  clear hS; intro w20 hS
  refine nw (cret ?_)
  replace hS:=hS.bg Y4
  obtain ⟨μ7,a750,c751,e754,le753,m752,hq_⟩:=Sep.frzRow hS m504 rfl; clear hS
  subst e754; have hS:=hq_; clear hq_
  replace hS:=hS.bg Y4
  obtain ⟨μ8,a755,c756,e759,le758,m757,hq_⟩:=Sep.frzRow hS (m505.up le753) rfl; clear hS
  subst e759; have hS:=hq_; clear hq_
  obtain rfl:=oI h
  refine retN rfl (RVs.s (.a d4 ti205 (hS.blk d0).cells rfl) RVs.z) ?_
  replace hS:=(((hS.drop Rm.z).drop Rm.z).drop Rm.z).drop Rm.z
  exact ⟨_,none,0,_,_,_,_,rfl,(le501.t (le753.t le758)),hS,Sl.nil,(m752.up le758),m757⟩
theorem sema_owners_w (hg:Le Gm μ0) {p_1:List TDef} {r:List TOwner×TFault} (m3:Sl μ0 a1 c2 p_1) (h:sema_owners fu p_1=some r) (hS:Sq μ0 w0 w (rsF)):CallsV prog 71 [.slice a1 p_1.length c2] w (fun v w'=>∃ (μ':M) (a4:Option Addr) (c5:Nat),v=.tuple ⟨[.slice a4 r.1.length c5,.agg ⟨[.int .i64 r.2.Err,.int .i64 r.2.At]⟩]⟩∧Le μ0 μ'∧Sq μ' w0 w' (rsF)∧Sl μ' a4 c5 r.1):=by
 unfold sema_owners at h
 refine enter func71 rfl (frm:=_::u2 (u5 (u10 (u50 (u50 []))))) rfl (nz (st ?_))
 refine wl (s_alloc ti45 hS ?_); clear hS; intro b7 w1 hb8 hS; refine po ?_
 refine nx (st ?_)
 obtain ⟨r9,g10,h⟩:=bI h
 refine ca (sema_named_w hg m3 g10 hS) ?_
 rintro _ w2 ⟨μ1,b12,o13,a14,c15,b17,rfl,le11,hS,m16,m18,m19⟩
 refine po ?_
 iterate 3 refine st ?_
 refine wl (s_alloc ti45 hS ?_); clear hS; intro b20 w3 hb21 hS; refine po ?_
 refine st (wl (s_storeA ti45 (et d5) (et (k20 d0)) rfl rfl hS d0 rfl p0 dn ?_))
 clear hS; intro w4 hS
 refine ny (nz (st (ld ((hS.blk d0).cell d0) (st (nw ?_)))))
 refine cifd (et (k20 d3)) (xT h) fun h22=>?_
 replace h:=iF h22 h
 refine cskip (xn (nz ?_))
 refine wl (s_mkmap hS ?_); clear hS; intro b23 w5 hb24 hS; refine po ?_
 refine st (ny (nz (st (wl (su (u_lensl underlying43 (et (k20 d6))) (dt (q20 p7)) (st (nw (cblock ?_))))))))
 replace hS:=(hS.drop (Rm.s Rm.z)).bg Y1
 refine cloopE ([7]++rg 29 20) (by decide +kernel) (fun n m w=>∃ μx i88 l91 es89 c90,m=(yK7 (yO1 7 (yK20 (.i (.int .i64 i88)::(yO20 29 [])))))∧sema_owners_l1 fu p_1 r9 n i88 l91=some r∧Le μ1 μx∧Sq μx w0 w (.blk b7 45 [.int .i64 0,.int .i64 0]::.map b23 es89 c90::rsF)∧Mq μx es89 c90 l91) (by rintro _ _ _ ⟨_,_,_,_,_,rfl,_⟩; rfl) _ _ (aK7 (aO1 (aK20 (aI (aO20 aZ))))) ⟨_,0,([]:List (List UInt8×TSemaUses)),[],0,rfl,h,Le.r,hS,(Mq.nil (κ:=List UInt8) (β:=TSemaUses) (μ:=μ1) (c:=0))⟩ ?_
 rintro n_1 _ t w6 ⟨μ2,i88,l91,es89,c90,rfl,h,le156,hS,m157⟩
 cases n_1 with
 | zero=>cases h
 | succ n_1 =>
 unfold sema_owners_l1 at h
 refine cnrm (mK7 (mO1 (mK20 (mi (mO20 mz))))) (nz (st (ny ?_)))
 refine cifd (et (k20 d9)) (fun h158=>?_) (fun h158=>?_)
 ·replace h:=iT h158 h
  refine cskip (xn (cseq (cblock (nz ?_))))
  iterate 2 refine st ?_
  refine nx ?_
  iterate 2 refine st ?_
  obtain ⟨x159,g160,h⟩:=bI h
  obtain ⟨b161,o162,cs163,e164,f165,m166⟩:=SlR.elem (m3.up (le11.t le156)) g160
  obtain ⟨a167,c168,a170,c171,rfl,m169,m172⟩:=m166
  refine wl (su (u_iax underlying43 ti91 (et (k30 d1)) (et (k30 d2)) e164) (dt (q30 p3)) (st (ld ((f165 _ hS.a).one d0) (st (nw ?_)))))
  refine cifd (et (k30 d6)) (fun h173=>?_) (fun h173=>?_)
  ·replace h:=iT h173 h
   refine ccutE (rg 37 11) (by decide) (fun m w=>∃ μx l176 es174 c175,m=(yK20 (yK10 (yK7 (yO10 37 (yO1 47 [])))))∧sema_owners_j1 i88 (sema_owners_l1 fu p_1 r9 n_1) l176=some r∧Le μ2 μx∧Sq μx w0 w (.blk b7 45 [.int .i64 0,.int .i64 0]::.map b23 es174 c175::rsF)∧Mq μx es174 c175 l176) (by rintro _ _ ⟨_,_,_,_,rfl,_⟩; rfl) ?_ ?_
   ·refine cdw hS ?_; clear hS; intro w7 hS
    refine sf_start (fpi 0 [0,11] rfl (fpi 1 [1,3,4,5,11] rfl (fpi 2 [2,3,4,5,11] rfl ?_)))
    obtain ⟨x178,g179,h⟩:=bI h
    obtain ⟨b180,o181,cs182,e183,f184,m185⟩:=SlR.elem (m3.up (le11.t le156)) g179
    obtain ⟨a186,c187,a189,c190,rfl,m188,m191⟩:=m185
    refine fp 3 [3,4,5,11] rfl (u_iax underlying43 ti91 (et (k30 d8)) (et (k30 d9)) e183) (q40 p0) (fpi 4 [4,5,11] rfl (fr_ 5 [5,11] rfl (u_load ti9 (et (k40 d1)) ((f184 _ hS.a).one d1)) (q40 p2) (fpi 6 [6,10,11] rfl (fpi 7 [7,9,10,11] rfl (fpi 8 [8,9,10,11] rfl ?_)))))
    obtain ⟨x192,g193,h⟩:=bI h
    obtain ⟨b194,o195,cs196,e197,f198,m199⟩:=SlR.elem (m3.up (le11.t le156)) g193
    obtain ⟨a200,c201,a203,c204,rfl,m202,m205⟩:=m199
    refine fp 9 [9,10,11] rfl (u_iax underlying43 ti91 (et (k40 d4)) (et (k40 d5)) e197) (q40 p6) ?_
    obtain ⟨r206,g207,h⟩:=bI h
    refine sf1 rfl rfl rfl rfl (wn0 rfl) (s_callv isfn108 ef (e1 (et (k40 d3)) (e1 (et (k40 d6)) e0)) (sema_reach_w (hg.t (le11.t le156)) (m16.up le156) (m18.up le156) (m19.up le156) m202 m205 f198 g207 hS) ?_)
    rintro _ w8 ⟨μ3,a209,c210,a212,c213,a215,c216,rfl,le208,hS,m211,m214,m217⟩
    refine po ?_
    refine ⟨(Mons.s (u_load ti9 (et (k40 d1)) ((f184 _ (le208 _ hS.a)).one d1)) Mons.z),?_⟩
    refine sf1 rfl rfl rfl rfl (wn0 rfl) (s_mputM (κ:=List UInt8) (β:=TSemaUses) (kk:=x178.Name) (xx:=r206) underlying203 underlying9 (et (k30 d7)) (et (k40 d2)) (et (k40 d7)) ⟨_,rfl,(TSemaUses.i ⟨a209,c210,a212,c213,a215,c216,rfl,m211,m214,m217⟩)⟩ hS d1 (m157.up le208) dn ?_); clear hS; intro es218 c219 w9 rs_ m220 hp_ hS; cases (show _=rs_ from hp_)
    replace hS:=Sep.reput hS p1
    refine ⟨Mons.z,?_⟩
    refine sf_nil (xl ?_)
    exact ⟨_,_,rfl,(aK20 (aK10 (aK7 (aO10 (aO1 aZ))))),_,(mput l91 x178.Name r206),es218,_,rfl,h,le208,hS,m220⟩
   ·rintro _ t w10 ⟨μ4,l176,es174,c175,rfl,h,le221,hS,m222⟩
    unfold sema_owners_j1 at h
    refine nrm (mK20 (mK10 (mK7 (mO10 (mO1 mz))))) ?_
    refine (fun h=>bn (xn h)) ?_
    refine creg ?_
    obtain ⟨i223,g224,h⟩:=bI h
    refine wl (su (u_addc (et (k20 d8)) ec g224) (dt (q40 p8)) (st (wnil (xl ?_))))
    exact ⟨n_1,_,_,rfl,(aK7 (aO1 (aK20 (aI (aO20 aZ))))),⟨_,i223,l176,es174,c175,rfl,h,(le156.t le221),hS,m222⟩,Nat.lt_succ_self _⟩
  ·replace h:=iF h173 h
   refine cskip ?_
   refine (fun h=>bn (xn h)) ?_
   refine creg ?_
   obtain ⟨i225,g226,h⟩:=bI h
   refine wl (su (u_addc (et (k20 d8)) ec g226) (dt (q40 p8)) (st (wnil (xl ?_))))
   exact ⟨n_1,_,_,rfl,(aK7 (aO1 (aK20 (aI (aO20 aZ))))),⟨_,i225,l91,es89,c90,rfl,h,le156,hS,m157⟩,Nat.lt_succ_self _⟩
 ·replace h:=iF h158 h
  refine cexit ?_
  refine (fun h=>xe (xe (bh h))) ?_
  refine xn (nz (st (ny (nz (st (wl (su (u_lensl underlying43 (et (k40 d9))) (dt (q50 p0)) (st (nw (cblock ?_))))))))))
  replace hS:=hS.nilRow 208 (Mo.sz TOwner)
  replace hS:=(hS.bg Y2).bg Y2
  refine cloopE ([2]++rg 9 3++[13]++[15]++rg 52 64) (by decide +kernel) (fun n m w=>∃ μx i430 l433 v431 cs432,m=(yK2 (yO1 2 (yK5 (.i (v431)::(yO3 9 (yK1 (yO1 13 (yK1 (yO1 15 (yK20 (yK10 (yK5 (.i (.int .i64 i430)::(yO50 52 (yO10 102 (yO4 112 []))))))))))))))))∧sema_owners_l2 p_1 l91 n i430 l433=some r∧Le μ2 μx∧Sq μx w0 w (.blk b7 45 [.int .i64 0,.int .i64 0]::.map b23 es89 c90::.row v431 208 3 l433.length cs432::rsF)∧Rw μx cs432 l433) (by rintro _ _ _ ⟨_,_,_,_,_,rfl,_⟩; rfl) _ _ (aK2 (aO1 (aK5 (aI (aO3 (aK1 (aO1 (aK1 (aO1 (aK20 (aK10 (aK5 (aI (aO50 (aO10 (aO4 aZ)))))))))))))))) ⟨_,0,[],(.slice none 0 0),[],rfl,h,Le.r,hS,Rw.nil⟩ ?_
  rintro n_2 _ t w11 ⟨μ5,i430,l433,v431,cs432,rfl,h,le637,hS,m638⟩
  cases n_2 with
  | zero=>cases h
  | succ n_2 =>
  unfold sema_owners_l2 at h
  refine cnrm (mK2 (mO1 (mK5 (mi (mO3 (mK1 (mO1 (mK1 (mO1 (mK20 (mK10 (mK5 (mi (mO50 (mO10 (mO4 mz)))))))))))))))) (nz (st (ny ?_)))
  refine cifd (et (k50 d2)) (fun h639=>?_) (fun h639=>?_)
  ·replace h:=iT h639 h
   refine cskip (xn (cseq (cblock (nz (st ?_)))))
   obtain ⟨x640,g641,h⟩:=bI h
   obtain ⟨b642,o643,cs644,e645,f646,m647⟩:=SlR.elem (m3.up (le11.t (le156.t le637))) g641
   obtain ⟨a648,c649,a651,c652,rfl,m650,m653⟩:=m647
   refine wl (su (u_iax underlying43 ti91 (et (k40 d9)) (et (k50 d1)) e645) (dt (q50 p4)) (lds (f646 _ hS.a) rfl ?_))
   refine wl (s_alloc ti91 hS ?_); clear hS; intro b654 w12 hb655 hS; refine po ?_
   refine st (wl (s_storeA ti91 (et (k10 d0)) (et (k50 d5)) rfl rfl hS d0 rfl p0 dn ?_))
   clear hS; intro w13 hS
   refine ny (nz (st (ld ((hS.blk d0).cell d0) (st (nw ?_)))))
   refine cifd (et (k50 d8)) (fun h656=>?_) (fun h656=>?_)
   ·replace h:=iT h656 h
    refine cexit ?_
    refine (fun h=>xe (bh h)) ?_
    refine xn (creg ?_)
    obtain ⟨i657,g658,h⟩:=bI h
    refine wl (su (u_addc (et (k50 d1)) ec g658) (dt (q100 (q10 p5))) (st (wnil (xl ?_))))
    replace hS:=hS.drop Rm.z
    exact ⟨n_2,_,_,rfl,(aK2 (aO1 (aK5 (aI (aO3 (aK1 (aO1 (aK1 (aO1 (aK20 (aK10 (aK5 (aI (aO50 (aO10 (aO4 aZ)))))))))))))))),⟨_,i657,l433,v431,cs432,rfl,h,le637,hS,m638⟩,Nat.lt_succ_self _⟩
   ·replace h:=iF h656 h
    refine cskip (xn (nz (st (ld ((hS.blk d0).cell d1) (wl (s_build ti208 pl208 (Fl.o rfl (et (k60 d0)) rfl rfl p0 Fl.z) (dt (q60 p1)) ?_))))))
    refine wl (s_alloc ti208 hS ?_); clear hS; intro b659 w14 hb660 hS; refine po ?_
    refine wl (s_storeA ti208 (et (k10 d1)) (et (k60 d1)) rfl rfl hS d0 rfl p0 dn ?_)
    clear hS; intro w15 hS
    refine ny (nz (st (wl (su (u_lensl underlying43 (et (k60 d2))) (dt (q60 p3)) (st (nw (cblock ?_)))))))
    replace hS:=(((hS.bg Y1).bg Y4).bg Y4).bg Y4
    refine cloopE ([2]++[13]++[15]++rg 65 46) (by decide +kernel) (fun n m w=>∃ μx i717 s718 s719,m=(yK2 (yO1 2 (yK10 (yO1 13 (yK1 (yO1 15 (yK20 (yK20 (yK8 (.i (.int .i64 i717)::(yO20 65 (yO20 85 (yO6 105 [])))))))))))))∧sema_owners_l3 p_1 l91 i430 l433 x640 (sema_owners_l2 p_1 l91 n_2) n i717 s718 s719=some r∧Le μ5 μx∧Sq μx w0 w (.blk b7 45 [.int .i64 0,.int .i64 0]::.map b23 es89 c90::.row v431 208 3 l433.length cs432::.blk b654 91 [.int .i64 x640.Kind,S x640.Name,.int .i64 x640.Typ.Kind,S x640.Typ.Gen,.int .i64 x640.Takes.Kind,S x640.Takes.Gen,.int .i64 x640.Cap,.slice a648 x640.Params.length c649,.slice a651 x640.Body.length c652]::.blk b659 208 [S x640.Name,S s718,S s719]::rsF)) (by rintro _ _ _ ⟨_,_,_,_,rfl,_⟩; rfl) _ _ (aK2 (aO1 (aK10 (aO1 (aK1 (aO1 (aK20 (aK20 (aK8 (aI (aO20 (aO20 (aO6 aZ))))))))))))) ⟨_,0,[],[],rfl,h,Le.r,hS⟩ ?_
    rintro n_3 _ t w16 ⟨μ6,i717,s718,s719,rfl,h,le776,hS⟩
    cases n_3 with
    | zero=>cases h
    | succ n_3 =>
    unfold sema_owners_l3 at h
    refine cnrm (mK2 (mO1 (mK10 (mO1 (mK1 (mO1 (mK20 (mK20 (mK8 (mi (mO20 (mO20 (mO6 mz))))))))))))) (nz (st (ny ?_)))
    refine cifd (et (k60 d5)) (fun h777=>?_) (fun h777=>?_)
    ·replace h:=iT h777 h
     refine cskip (xn (cseq (cblock (nz ?_))))
     obtain ⟨x778,g779,h⟩:=bI h
     obtain ⟨b780,o781,cs782,e783,f784,m785⟩:=SlR.elem (m3.up (le11.t (le156.t (le637.t le776)))) g779
     obtain ⟨a786,c787,a789,c790,rfl,m788,m791⟩:=m785
     refine wl (su (u_iax underlying43 ti91 (et (k60 d2)) (et (k60 d4)) e783) (dt (q60 p6)) (lds (f784 _ hS.a) rfl ?_))
     refine wl (s_alloc ti91 hS ?_); clear hS; intro b792 w17 hb793 hS; refine po ?_
     refine wl (s_storeA ti91 (et (k10 d3)) (et (k60 d7)) rfl rfl hS d0 rfl p0 dn ?_)
     clear hS; intro w18 hS
     refine ny (nz (st (ld ((hS.blk d0).cell d0) (st (nw ?_)))))
     refine cifd (et (k70 d0)) (fun h794=>?_) (fun h794=>?_)
     ·replace h:=iT h794 h
      refine cexit ?_
      refine (fun h=>xe (bh h)) ?_
      refine xn (creg ?_)
      obtain ⟨i795,g796,h⟩:=bI h
      refine wl (su (u_addc (et (k60 d4)) ec g796) (dt (q100 (q10 p0))) (st (wnil (xl ?_))))
      replace hS:=hS.drop Rm.z
      exact ⟨n_3,_,_,rfl,(aK2 (aO1 (aK10 (aO1 (aK1 (aO1 (aK20 (aK20 (aK8 (aI (aO20 (aO20 (aO6 aZ))))))))))))),⟨_,i795,s718,s719,rfl,h,le776,hS⟩,Nat.lt_succ_self _⟩
     ·replace h:=iF h794 h
      refine cskip (xn (nz ?_))
      iterate 2 refine st ?_
      refine ld ((hS.blk d0).cell d1) ?_
      refine wl (s_mget1 (κ:=List UInt8) (k:=x778.Name) (β:=TSemaUses) (zx:=(TSemaUses.mk ([]:List (List UInt8)) ([]:List (List UInt8)) ([]:List (List UInt8)))) underlying203 underlying9 (et (k70 d1)) (et (k70 d3)) zv205 ⟨_,rfl,(TSemaUses.i ⟨none,0,none,0,none,0,rfl,Sl.nil,Sl.nil,Sl.nil⟩)⟩ (hS.get d2) (m157.up (le637.t le776)) ?_); rintro _ ⟨_,rfl,⟨a801,c802,a804,c805,a807,c808,rfl,m803,m806,m809⟩⟩; refine po ?_
      refine wl (s_field underlying205 rfl rfl rfl ti188 (et (k70 d4)) d1 (dt (q70 p5)) (st (wl (s_build ti210 pl210 (Fl.o rfl (et (k70 d5)) rfl rfl p0 (Fl.o rfl (et (k70 d6)) rfl rfl p1 Fl.z)) (dt (q70 p7)) ?_))))
      iterate 2 refine st ?_
      refine ld ((hS.blk d0).cell d1) ?_
      refine wl (s_mget1 (κ:=List UInt8) (k:=x778.Name) (β:=TSemaUses) (zx:=(TSemaUses.mk ([]:List (List UInt8)) ([]:List (List UInt8)) ([]:List (List UInt8)))) underlying203 underlying9 (et (k70 d8)) (et (k80 d0)) zv205 ⟨_,rfl,(TSemaUses.i ⟨none,0,none,0,none,0,rfl,Sl.nil,Sl.nil,Sl.nil⟩)⟩ (hS.get d2) (m157.up (le637.t le776)) ?_); rintro _ ⟨_,rfl,⟨a814,c815,a817,c818,a820,c821,rfl,m816,m819,m822⟩⟩; refine po ?_
      refine wl (s_field underlying205 rfl rfl rfl ti188 (et (k80 d1)) d2 (dt (q80 p2)) (st (wl (s_build ti210 pl210 (Fl.o rfl (et (k80 d2)) rfl rfl p0 (Fl.o rfl (et (k80 d3)) rfl rfl p1 Fl.z)) (dt (q80 p4)) ?_))))
      refine wl (s_bslA underlying211 ti210 (by decide) (.s (et (k70 d7)) rfl rfl (.s (et (k80 d4)) rfl rfl .z)) rfl hS ?_); clear hS; intro b823 w19 hb824 hS; refine po ?_
      refine wl (su (u_lensl underlying211 (et (k80 d5))) (dt (q80 p6)) (st (nw (cblock (cunroll 3 (crnd (nz (st (ny (cift (et (k80 d8)) (cskip (xn (cseq ?_)))))))))))))
      refine ccutE ([2]++[15]++rg 89 20) (by decide +kernel) (fun m w=>∃ μx s825,m=(yK2 (yO1 2 (yK10 (yK2 (yO1 15 (yK50 (yK20 (yK3 (yO20 89 [])))))))))∧sema_owners_j2 l91 x640 i717 s719 x778 (sema_owners_l3 p_1 l91 i430 l433 x640 (sema_owners_l2 p_1 l91 n_2) n_3) s825=some r∧Le μ6 μx∧Sq μx w0 w (.blk b7 45 [.int .i64 0,.int .i64 0]::.map b23 es89 c90::.row v431 208 3 l433.length cs432::.blk b654 91 [.int .i64 x640.Kind,S x640.Name,.int .i64 x640.Typ.Kind,S x640.Typ.Gen,.int .i64 x640.Takes.Kind,S x640.Takes.Gen,.int .i64 x640.Cap,.slice a648 x640.Params.length c649,.slice a651 x640.Body.length c652]::.blk b659 208 [S x640.Name,S s825,S s719]::.blk b792 91 [.int .i64 x778.Kind,S x778.Name,.int .i64 x778.Typ.Kind,S x778.Typ.Gen,.int .i64 x778.Takes.Kind,S x778.Takes.Gen,.int .i64 x778.Cap,.slice a786 x778.Params.length c787,.slice a789 x778.Body.length c790]::.blk b823 210 [.slice a804 (((mget l91 x778.Name).getD (TSemaUses.mk ([]:List (List UInt8)) ([]:List (List UInt8)) ([]:List (List UInt8)))).sends).length c805,.pointer (some ⟨b659,1,none⟩),.slice a820 (((mget l91 x778.Name).getD (TSemaUses.mk ([]:List (List UInt8)) ([]:List (List UInt8)) ([]:List (List UInt8)))).recvs).length c821,.pointer (some ⟨b659,2,none⟩)]::rsF)) (by rintro _ _ ⟨_,_,rfl,_⟩; rfl) ?_ ?_
      ·refine cblock (nz (wl (su (u_ia underlying211 ti210 (et (k80 d5)) (et (k80 d7)) (by decide) rfl) (dt (q80 p9)) (lds ((hS.blk d0).cellsAt (Sb.s d0 (Sb.s d1 Sb.z))) rfl ?_))))
       refine wl (s_alloc ti210 hS ?_); clear hS; intro b826 w20 hb827 hS; refine po ?_
       refine wl (s_storeA ti210 (et (k10 d5)) (et (k90 d0)) rfl rfl hS d0 rfl p0 dn ?_)
       clear hS; intro w21 hS
       refine ny (nz (st (ld ((hS.blk d0).cell d0) (st (ld ((hS.blk d6).cell d1) ?_)))))
       refine wl (s_callv isfn109 ef (e1 (et (k90 d2)) (e1 (et (k90 d4)) e0)) (contains_s_c (l:=(((mget l91 x778.Name).getD (TSemaUses.mk ([]:List (List UInt8)) ([]:List (List UInt8)) ([]:List (List UInt8)))).sends)) (cells_sl str1 rfl m806 hS.a)) ?_); rintro _ w22 ⟨rfl,hw_⟩; replace hS:=hw_ ▸ hS; clear hw_; refine po ?_
       refine st (nw ?_)
       refine cifnb (et (k90 d6)) (fun h829=>?_) (fun h829=>?_)
       ·replace h:=iF h829 h
        refine cexit ?_
        refine (fun h=>xe (bh h)) ?_
        refine xl ?_
        replace hS:=((((((hS.drop Rm.z).bg Y1).bg Y6).bg Y6).bg Y6).bg Y6).bg Y6
        exact ⟨_,_,rfl,(aK2 (aO1 (aK10 (aK2 (aO1 (aK50 (aK20 (aK3 (aO20 aZ))))))))),_,_,rfl,h,Le.r,hS⟩
       ·replace h:=iT h829 h
        refine cskip (xn (cseq (nz (st (ld ((hS.blk d0).cell d1) (st (ld ((hS.blk d7).cell d1) (wl (su (u_nes (et (k100 d0)) ec) (dt (q100 p1)) (nw ?_))))))))))
        refine cifd (et (k100 d1)) (xT h) fun h830=>?_
        replace h:=iF h830 h
        refine cskip (xn (creg (st (ld ((hS.blk d0).cell d1) (st (ld ((hS.blk d2).cell d1) (st (wl (s_store1 ti9 (et (k100 d8)) (et (k100 d7)) rfl hS d7 p1 rfl p7 dn ?_)))))))))
        clear hS; intro w23 hS
        refine wnil ?_
        refine (fun h=>bn (xl h)) ?_
        replace hS:=((((((hS.drop Rm.z).bg Y1).bg Y6).bg Y6).bg Y6).bg Y6).bg Y6
        exact ⟨_,_,rfl,(aK2 (aO1 (aK10 (aK2 (aO1 (aK50 (aK20 (aK3 (aO20 aZ))))))))),_,x778.Name,rfl,h,Le.r,hS⟩
      ·rintro _ t w24 ⟨μ7,s825,rfl,h,le831,hS⟩
       unfold sema_owners_j2 at h
       refine nrm (mK2 (mO1 (mK10 (mK2 (mO1 (mK50 (mK20 (mK3 (mO20 mz))))))))) (xn (creg (wl (su (u_addc (et (k80 d7)) ec (c:=1) (by decide)) (dt (q100 p9)) (st (wnil (xl (xrnd (crnd (nz (st (ny (cift (et (k80 d8)) (cskip (xn (cseq ?_))))))))))))))))
       refine ccutE ([2]++[15]++rg 89 20) (by decide +kernel) (fun m w=>∃ μx s832,m=(yK2 (yO1 2 (yK10 (yK2 (yO1 15 (yK50 (yK20 (yK3 (yO20 89 [])))))))))∧sema_owners_j3 i717 s825 (sema_owners_l3 p_1 l91 i430 l433 x640 (sema_owners_l2 p_1 l91 n_2) n_3) s832=some r∧Le μ7 μx∧Sq μx w0 w (.blk b7 45 [.int .i64 0,.int .i64 0]::.map b23 es89 c90::.row v431 208 3 l433.length cs432::.blk b654 91 [.int .i64 x640.Kind,S x640.Name,.int .i64 x640.Typ.Kind,S x640.Typ.Gen,.int .i64 x640.Takes.Kind,S x640.Takes.Gen,.int .i64 x640.Cap,.slice a648 x640.Params.length c649,.slice a651 x640.Body.length c652]::.blk b659 208 [S x640.Name,S s825,S s832]::.blk b792 91 [.int .i64 x778.Kind,S x778.Name,.int .i64 x778.Typ.Kind,S x778.Typ.Gen,.int .i64 x778.Takes.Kind,S x778.Takes.Gen,.int .i64 x778.Cap,.slice a786 x778.Params.length c787,.slice a789 x778.Body.length c790]::.blk b823 210 [.slice a804 (((mget l91 x778.Name).getD (TSemaUses.mk ([]:List (List UInt8)) ([]:List (List UInt8)) ([]:List (List UInt8)))).sends).length c805,.pointer (some ⟨b659,1,none⟩),.slice a820 (((mget l91 x778.Name).getD (TSemaUses.mk ([]:List (List UInt8)) ([]:List (List UInt8)) ([]:List (List UInt8)))).recvs).length c821,.pointer (some ⟨b659,2,none⟩)]::rsF)) (by rintro _ _ ⟨_,_,rfl,_⟩; rfl) ?_ ?_
       ·refine cblock (nz (wl (su (u_ia underlying211 ti210 (et (k80 d5)) (et (k80 d7)) (by decide) rfl) (dt (q80 p9)) (lds ((hS.blk d6).cellsAt (Sb.s d2 (Sb.s d3 Sb.z))) rfl ?_))))
        refine wl (s_alloc ti210 hS ?_); clear hS; intro b833 w25 hb834 hS; refine po ?_
        refine wl (s_storeA ti210 (et (k10 d5)) (et (k90 d0)) rfl rfl hS d0 rfl p0 dn ?_)
        clear hS; intro w26 hS
        refine ny (nz (st (ld ((hS.blk d0).cell d0) (st (ld ((hS.blk d4).cell d1) ?_)))))
        refine wl (s_callv isfn109 ef (e1 (et (k90 d2)) (e1 (et (k90 d4)) e0)) (contains_s_c (l:=(((mget l91 x778.Name).getD (TSemaUses.mk ([]:List (List UInt8)) ([]:List (List UInt8)) ([]:List (List UInt8)))).recvs)) (cells_sl str1 rfl (m822.up le831) hS.a)) ?_); rintro _ w27 ⟨rfl,hw_⟩; replace hS:=hw_ ▸ hS; clear hw_; refine po ?_
        refine st (nw ?_)
        refine cifnb (et (k90 d6)) (fun h836=>?_) (fun h836=>?_)
        ·replace h:=iF h836 h
         refine cexit ?_
         refine (fun h=>xe (bh h)) ?_
         refine xl ?_
         replace hS:=hS.drop Rm.z
         exact ⟨_,_,rfl,(aK2 (aO1 (aK10 (aK2 (aO1 (aK50 (aK20 (aK3 (aO20 aZ))))))))),_,_,rfl,h,Le.r,hS⟩
        ·replace h:=iT h836 h
         refine cskip (xn (cseq (nz (st (ld ((hS.blk d0).cell d1) (st (ld ((hS.blk d5).cell d2) (wl (su (u_nes (et (k100 d0)) ec) (dt (q100 p1)) (nw ?_))))))))))
         refine cifd (et (k100 d1)) (xT h) fun h837=>?_
         replace h:=iF h837 h
         refine cskip (xn (creg (st (ld ((hS.blk d0).cell d1) (st (ld ((hS.blk d6).cell d1) (st (wl (s_store1 ti9 (et (k100 d8)) (et (k100 d7)) rfl hS d5 p2 rfl p5 dn ?_)))))))))
         clear hS; intro w28 hS
         refine wnil ?_
         refine (fun h=>bn (xl h)) ?_
         replace hS:=hS.drop Rm.z
         exact ⟨_,_,rfl,(aK2 (aO1 (aK10 (aK2 (aO1 (aK50 (aK20 (aK3 (aO20 aZ))))))))),_,x778.Name,rfl,h,Le.r,hS⟩
       ·rintro _ t w29 ⟨μ8,s832,rfl,h,le838,hS⟩
        unfold sema_owners_j3 at h
        refine nrm (mK2 (mO1 (mK10 (mK2 (mO1 (mK50 (mK20 (mK3 (mO20 mz))))))))) (xn (creg (wl (su (u_addc (et (k80 d7)) ec (c:=2) (by decide)) (dt (q100 p9)) (st (wnil (xl (xrnd (crnd (nz (st (ny (ciff (et (k80 d8)) (cexit ?_))))))))))))))
        refine (fun h=>xe (xe (bh h))) ?_
        refine (fun h=>bn (xn h)) ?_
        refine creg ?_
        obtain ⟨i839,g840,h⟩:=bI h
        refine wl (su (u_addc (et (k60 d4)) ec g840) (dt (q100 (q10 p0))) (st (wnil (xl ?_))))
        replace hS:=(hS.drop (Rm.s (Rm.s (Rm.s (Rm.s (Rm.s Rm.z)))))).drop (Rm.s (Rm.s (Rm.s (Rm.s (Rm.s Rm.z)))))
        exact ⟨n_3,_,_,rfl,(aK2 (aO1 (aK10 (aO1 (aK1 (aO1 (aK20 (aK20 (aK8 (aI (aO20 (aO20 (aO6 aZ))))))))))))),⟨_,i839,s825,s832,rfl,h,(le776.t (le831.t le838)),hS⟩,Nat.lt_succ_self _⟩
    ·replace h:=iF h777 h
     refine cexit ?_
     refine (fun h=>xe (xe (bh h))) ?_
     refine xn (creg (st (lds (hS.blk d4).cells rfl ?_)))
     refine wl (s_bsl1 underlying151 ti208 rfl (et (k100 (k10 d2))) rfl hS ?_); clear hS; intro b841 w30 hb842 hS; refine po ?_
     obtain ⟨l845,g846,h⟩:=bI h
     have m847:Rw μ6 [S x640.Name,S s718,S s719] [(TOwner.mk x640.Name s718 s719)]:=(Rw.one (α:=TOwner) rfl)
     have m844:=Rw.app (m638.up le776) m847 g846
     refine wl (s_app1 underlying151 ti208 rfl (et (k100 (k10 d1))) (et (k100 (k10 d3))) hS d3 (hS.blk d0).cells m847 rfl g846 (by decide) ?_); clear hS; intro v843 w31 rs_ hp_ hS; cases (show _=rs_ from hp_)
     replace hS:=Sep.reput hS p3; refine po ?_
     replace hS:=hS.drop Rm.z
     refine st (wnil ?_)
     refine (fun h=>bn (xn h)) ?_
     refine creg ?_
     obtain ⟨i848,g849,h⟩:=bI h
     refine wl (su (u_addc (et (k50 d1)) ec g849) (dt (q100 (q10 p5))) (st (wnil (xl ?_))))
     replace hS:=(hS.drop (Rm.s (Rm.s (Rm.s Rm.z)))).drop (Rm.s (Rm.s (Rm.s Rm.z)))
     exact ⟨n_2,_,_,rfl,(aK2 (aO1 (aK5 (aI (aO3 (aK1 (aO1 (aK1 (aO1 (aK20 (aK10 (aK5 (aI (aO50 (aO10 (aO4 aZ)))))))))))))))),⟨_,i848,l845,v843,(cs432++[S x640.Name,S s718,S s719]),rfl,h,(le637.t le776),hS,m844⟩,Nat.lt_succ_self _⟩
  ·replace h:=iF h639 h
   refine cexit ?_
   refine (fun h=>xe (xe (bh h))) ?_
   refine xn (nz (st (wl (s_build ti45 pl45 Fl.z (dt (q100 (q10 p7))) (st (wl (s_storeA ti45 (et d3) (et (k100 (k10 d7))) rfl rfl hS d0 rfl p0 dn ?_)))))))
   clear hS; intro w32 hS
   refine nw (cret ?_)
   replace hS:=hS.bg Y2
   obtain ⟨μ9,a850,c851,e854,le853,m852,hq_⟩:=Sep.frzRow hS m638 rfl; clear hS
   subst e854; have hS:=hq_; clear hq_
   obtain rfl:=oI h
   refine retN rfl (RVs.s (.t d2) (RVs.s (.a d3 ti45 (hS.blk d0).cells rfl) RVs.z)) ?_
   replace hS:=(hS.drop Rm.z).drop Rm.z
   exact ⟨_,_,_,rfl,(le11.t (le156.t (le637.t le853))),hS,m852⟩
theorem sema_check_w (hg:Le Gm μ0) {p_1:List TDef} {r:TFault} (m3:Sl μ0 a1 c2 p_1) (h:sema_check fu p_1=some r) (hS:Sq μ0 w0 w (rsF)):CallsV prog 37 [.slice a1 p_1.length c2] w (fun v w'=>∃ (μ':M) ,v=.agg ⟨[.int .i64 r.Err,.int .i64 r.At]⟩∧Le μ0 μ'∧Sq μ' w0 w' (rsF)):=by
 unfold sema_check at h
 refine enter func37 rfl (frm:=_::u10 []) rfl (nz ?_)
 refine wl (s_alloc ti45 hS ?_); clear hS; intro b4 w1 hb5 hS; refine po ?_
 refine nx (st ?_)
 obtain ⟨r6,g7,h⟩:=bI h
 refine ca (sema_owners_w hg m3 g7 hS) ?_
 rintro _ w2 ⟨μ1,a9,c10,rfl,le8,hS,m11⟩
 refine po ?_
 iterate 3 refine st ?_
 refine wl (s_alloc ti45 hS ?_); clear hS; intro b12 w3 hb13 hS; refine po ?_
 refine st (wl (s_storeA ti45 (et d4) (et d9) rfl rfl hS d0 rfl p0 dn ?_))
 clear hS; intro w4 hS
 refine nx (lds (hS.blk d0).cells rfl (wl (s_storeA ti45 (et d2) (et (k10 d0)) rfl rfl hS d1 rfl p1 dn ?_)))
 clear hS; intro w5 hS
 refine nw (cret ?_)
 obtain rfl:=oI h
 refine retN rfl (RVs.s (.a d2 ti45 (hS.blk d1).cells rfl) RVs.z) ?_
 replace hS:=(hS.drop Rm.z).drop Rm.z
 exact ⟨_,rfl,le8,hS⟩
end Go.Proofs.YtaenlbapejigbaaGreatDoor
set_option maxRecDepth 100000
set_option maxHeartbeats 20000000
namespace Go.Proofs.YtaenlbapejigbaaGreatDoor
open Go.Wk Go.Xt Go.Y Tryz
variable {b1 b3 b5 b7 b8 b9 b10 b13 c2 c5 c10 c13 c15 c16 fu o2 o4 o11:Nat} {a1 a12 a15:Option Addr} {v15 v21 v25:Value} {cs16 cs22:List Value} {es4 es9 es14:List MapEntry} {ms26:List (Nat×List MapEntry×Nat)} {μ0:M} {w0 w:World} {rsF:List Res}
theorem gen_typ_w (hg:Le Gm μ0) {p_1:TGt} {p_2:TType} {r:Int} (m4:Mr μ0 b3 p_1.boxes) (m6:Mr μ0 b5 p_1.units) (m8:Mr μ0 b7 p_1.defs) (m9:At μ0 b1 o2 [.map (some b3),.map (some b5),.map (some b7)]) (h:gen_typ p_1 p_2=some r) (hS:Sq μ0 w0 w (rsF)):CallsV prog 38 [.pointer (some ⟨b1,o2,none⟩),.agg ⟨[.int .i64 p_2.Kind,S p_2.Gen]⟩] w (fun v w'=>∃ (μ':M) ,v=.int .i64 r∧Le μ0 μ'∧Sq μ' w0 w' (rsF)):=by
 unfold gen_typ at h
 refine enter func38 rfl (frm:=_::_::u1 (u5 (u10 []))) rfl (nz ?_)
 refine wl (s_box (et d1) rfl hS ?_); clear hS; intro b10 w1 hb11 hS; refine po ?_
 refine st (ny (nz (st (ld ((hS.blk d0).cell d0) (st (nw ?_))))))
 refine cifd (et d7) (xT h) fun h12=>?_
 replace h:=iF h12 h
 refine cskip (xn (nz (st (ld ((hS.blk d0).cell d0) (st (nw (cret ?_)))))))
 obtain rfl:=oI h
 refine ret1 rfl d4 ?_
 replace hS:=hS.drop Rm.z
 exact ⟨_,rfl,Le.r,hS⟩
theorem gen_typo_w (hg:Le Gm μ0) {boxe_2 unit_7:List (List UInt8×Int)} {defs_12:List (List UInt8×TDef)} {p_2:TType} {r:Int} (m6:Mq μ0 es4 c5 boxe_2) (m11:Mq μ0 es9 c10 unit_7) (m16:Mq μ0 es14 c15 defs_12) (h:gen_typo boxe_2 unit_7 defs_12 p_2=some r) (hS:Sq μ0 w0 w (.blk b1 98 [.map (some b3),.map (some b8),.map (some b13)]::.map b3 es4 c5::.map b8 es9 c10::.map b13 es14 c15::rsF)):CallsV prog 38 [.pointer (some ⟨b1,0,none⟩),.agg ⟨[.int .i64 p_2.Kind,S p_2.Gen]⟩] w (fun v w'=>∃ (μ':M) ,v=.int .i64 r∧Le μ0 μ'∧Sq μ' w0 w' (.blk b1 98 [.map (some b3),.map (some b8),.map (some b13)]::.map b3 es4 c5::.map b8 es9 c10::.map b13 es14 c15::rsF)):=by
 unfold gen_typo at h
 refine enter func38 rfl (frm:=_::_::u1 (u5 (u10 []))) rfl (nz ?_)
 refine wl (s_box (et d1) rfl hS ?_); clear hS; intro b17 w1 hb18 hS; refine po ?_
 refine st (ny (nz (st (ld ((hS.blk d0).cell d0) (st (nw ?_))))))
 refine cifd (et d7) (xT h) fun h19=>?_
 replace h:=iF h19 h
 refine cskip (xn (nz (st (ld ((hS.blk d0).cell d0) (st (nw (cret ?_)))))))
 obtain rfl:=oI h
 refine ret1 rfl d4 ?_
 replace hS:=hS.drop Rm.z
 exact ⟨_,rfl,Le.r,hS⟩
theorem gen_put_w (hg:Le Gm μ0) {tabl_2:TGt} {kind_12 para_13:Int} {loca_14:List Int} {resu_18 take_19:Int} {code_20:List TInstr} {bloc_24:List (List (List UInt8×Int))} {p_2 p_3 p_4:Int} {r:Int×Int×Int×List Int×Int×Int×List TInstr×List (List (List UInt8×Int))} (m6:Mr μ0 b5 tabl_2.boxes) (m8:Mr μ0 b7 tabl_2.units) (m10:Mr μ0 b9 tabl_2.defs) (m11:At μ0 b3 o4 [.map (some b5),.map (some b7),.map (some b9)]) (m17:Rw μ0 cs16 loca_14) (m23:Rw μ0 cs22 code_20) (m27:Ms μ0 ms26 bloc_24) (h:gen_put tabl_2 kind_12 para_13 loca_14 resu_18 take_19 code_20 bloc_24 p_2 p_3 p_4=some r) (hS:Sq μ0 w0 w (.blk b1 157 [.pointer (some ⟨b3,o4,none⟩),.int .i64 kind_12,.int .i64 para_13,v15,.int .i64 resu_18,.int .i64 take_19,v21,v25]::.row v15 3 1 loca_14.length cs16::.row v21 120 3 code_20.length cs22::.row v25 95 1 bloc_24.length (cOf ms26)::(mRs ms26++rsF))):CallsV prog 74 [.pointer (some ⟨b1,0,none⟩),.int .i64 p_2,.int .i64 p_3,.int .i64 p_4] w (fun v w'=>∃ (μ':M) (v28:Value) (cs29:List Value) (v31:Value) (cs32:List Value) (v34:Value) (ms35:List (Nat×List MapEntry×Nat)),v=.int .i64 r.1∧Le μ0 μ'∧Sq μ' w0 w' (.blk b1 157 [.pointer (some ⟨b3,o4,none⟩),.int .i64 r.2.1,.int .i64 r.2.2.1,v28,.int .i64 r.2.2.2.2.1,.int .i64 r.2.2.2.2.2.1,v31,v34]::.row v28 3 1 r.2.2.2.1.length cs29::.row v31 120 3 r.2.2.2.2.2.2.1.length cs32::.row v34 95 1 r.2.2.2.2.2.2.2.length (cOf ms35)::(mRs ms35++rsF))∧Rw μ' cs29 r.2.2.2.1∧Rw μ' cs32 r.2.2.2.2.2.2.1∧Ms μ' ms35 r.2.2.2.2.2.2.2):=by
 unfold gen_put at h
 refine enter func74 rfl (frm:=_::_::_::_::u2 (u5 (u20 []))) rfl (nz (st (nx ?_)))
 iterate 5 refine st ?_
 refine ld ((hS.blk d0).cell d6) ?_
 iterate 3 refine st ?_
 refine wl (s_build ti120 pl120 (Fl.o rfl (et (k10 d5)) rfl rfl p0 (Fl.o rfl (et (k10 d6)) rfl rfl p1 (Fl.o rfl (et (k10 d7)) rfl rfl p2 Fl.z))) (dt (q10 p8)) ?_)
 refine wl (s_bsl1 underlying101 ti120 rfl (et (k10 d8)) rfl hS ?_); clear hS; intro b37 w1 hb38 hS; refine po ?_
 obtain ⟨l41,g42,h⟩:=bI h
 have m43:Rw μ0 [.int .i64 p_2,.int .i64 p_3,.int .i64 p_4] [(TInstr.mk p_2 p_3 p_4)]:=(Rw.one (α:=TInstr) rfl)
 have m40:=Rw.app m23 m43 g42
 refine wl (s_app1 underlying101 ti120 rfl (et (k10 d4)) (et (k10 d9)) hS d3 (hS.blk d0).cells m43 rfl g42 (by decide) ?_); clear hS; intro v39 w2 rs_ hp_ hS; cases (show _=rs_ from hp_)
 replace hS:=Sep.reput hS p3; refine po ?_
 replace hS:=hS.drop Rm.z
 iterate 3 refine st ?_
 refine wl (s_store1 ti101 (et (k20 d3)) (et (k20 d0)) (hS.get d2).cellV hS d0 p6 rfl p0 dn ?_)
 clear hS; intro w3 hS
 refine nx ?_
 iterate 4 refine st ?_
 refine ld ((hS.blk d0).cell d6) (wl (su (u_lenv underlying101 (et (k20 d8)) (hS.get d2).isSl) (dt (q20 p9)) ?_))
 obtain ⟨i44,g45,h⟩:=bI h
 refine wl (su (u_subc (et (k20 d9)) ec g45) (dt (q30 p0)) (st (nw (cret ?_))))
 obtain rfl:=oI h
 refine ret1 rfl d8 ?_
 replace hS:Sq μ0 w0 _ (.blk b1 157 [.pointer (some ⟨b3,o4,none⟩),.int .i64 kind_12,.int .i64 para_13,v15,.int .i64 resu_18,.int .i64 take_19,v39,v25]::.row v15 3 1 loca_14.length cs16::.row v39 120 3 l41.length (cs22++[.int .i64 p_2,.int .i64 p_3,.int .i64 p_4])::.row v25 95 1 bloc_24.length (cOf ms26)::(mRs ms26++rsF)):=hS
 exact ⟨_,_,_,_,((cs22++[.int .i64 p_2,.int .i64 p_3,.int .i64 p_4]):List Value),_,_,rfl,Le.r,hS,m17,m40,m27⟩
theorem gen_here_w (hg:Le Gm μ0) {tabl_2:TGt} {kind_12 para_13:Int} {loca_14:List Int} {resu_18 take_19:Int} {code_20:List TInstr} {bloc_24:List (List (List UInt8×Int))} {r:Int} (m6:Mr μ0 b5 tabl_2.boxes) (m8:Mr μ0 b7 tabl_2.units) (m10:Mr μ0 b9 tabl_2.defs) (m11:At μ0 b3 o4 [.map (some b5),.map (some b7),.map (some b9)]) (m17:Rw μ0 cs16 loca_14) (m23:Rw μ0 cs22 code_20) (m27:Ms μ0 ms26 bloc_24) (h:gen_here tabl_2 kind_12 para_13 loca_14 resu_18 take_19 code_20 bloc_24=some r) (hS:Sq μ0 w0 w (.blk b1 157 [.pointer (some ⟨b3,o4,none⟩),.int .i64 kind_12,.int .i64 para_13,v15,.int .i64 resu_18,.int .i64 take_19,v21,v25]::.row v15 3 1 loca_14.length cs16::.row v21 120 3 code_20.length cs22::.row v25 95 1 bloc_24.length (cOf ms26)::(mRs ms26++rsF))):CallsV prog 143 [.pointer (some ⟨b1,0,none⟩)] w (fun v w'=>∃ (μ':M) ,v=.int .i64 r∧Le μ0 μ'∧Sq μ' w0 w' (.blk b1 157 [.pointer (some ⟨b3,o4,none⟩),.int .i64 kind_12,.int .i64 para_13,v15,.int .i64 resu_18,.int .i64 take_19,v21,v25]::.row v15 3 1 loca_14.length cs16::.row v21 120 3 code_20.length cs22::.row v25 95 1 bloc_24.length (cOf ms26)::(mRs ms26++rsF))):=by
 unfold gen_here at h
 refine enter func143 rfl (frm:=_::u1 (u2 (u5 []))) rfl (nz (st (nx ?_)))
 iterate 4 refine st ?_
 refine ld ((hS.blk d0).cell d6) (wl (su (u_lenv underlying101 (et d7) (hS.get d2).isSl) (dt p8) (st (nw (cret ?_)))))
 obtain rfl:=oI h
 refine ret1 rfl d2 ?_
 replace hS:Sq μ0 w0 _ (.blk b1 157 [.pointer (some ⟨b3,o4,none⟩),.int .i64 kind_12,.int .i64 para_13,v15,.int .i64 resu_18,.int .i64 take_19,v21,v25]::.row v15 3 1 loca_14.length cs16::.row v21 120 3 code_20.length cs22::.row v25 95 1 bloc_24.length (cOf ms26)::(mRs ms26++rsF)):=hS
 exact ⟨_,rfl,Le.r,hS⟩
theorem gen_local_w (hg:Le Gm μ0) {tabl_2:TGt} {kind_12 para_13:Int} {loca_14:List Int} {resu_18 take_19:Int} {code_20:List TInstr} {bloc_24:List (List (List UInt8×Int))} {p_2:List UInt8} {p_3:Int} {r:Int×Int×Int×List Int×Int×Int×List TInstr×List (List (List UInt8×Int))} (m6:Mr μ0 b5 tabl_2.boxes) (m8:Mr μ0 b7 tabl_2.units) (m10:Mr μ0 b9 tabl_2.defs) (m11:At μ0 b3 o4 [.map (some b5),.map (some b7),.map (some b9)]) (m17:Rw μ0 cs16 loca_14) (m23:Rw μ0 cs22 code_20) (m27:Ms μ0 ms26 bloc_24) (h:gen_local tabl_2 kind_12 para_13 loca_14 resu_18 take_19 code_20 bloc_24 p_2 p_3=some r) (hS:Sq μ0 w0 w (.blk b1 157 [.pointer (some ⟨b3,o4,none⟩),.int .i64 kind_12,.int .i64 para_13,v15,.int .i64 resu_18,.int .i64 take_19,v21,v25]::.row v15 3 1 loca_14.length cs16::.row v21 120 3 code_20.length cs22::.row v25 95 1 bloc_24.length (cOf ms26)::(mRs ms26++rsF))):CallsV prog 72 [.pointer (some ⟨b1,0,none⟩),S p_2,.int .i64 p_3] w (fun v w'=>∃ (μ':M) (v28:Value) (cs29:List Value) (v31:Value) (cs32:List Value) (v34:Value) (ms35:List (Nat×List MapEntry×Nat)),v=.int .i64 r.1∧Le μ0 μ'∧Sq μ' w0 w' (.blk b1 157 [.pointer (some ⟨b3,o4,none⟩),.int .i64 r.2.1,.int .i64 r.2.2.1,v28,.int .i64 r.2.2.2.2.1,.int .i64 r.2.2.2.2.2.1,v31,v34]::.row v28 3 1 r.2.2.2.1.length cs29::.row v31 120 3 r.2.2.2.2.2.2.1.length cs32::.row v34 95 1 r.2.2.2.2.2.2.2.length (cOf ms35)::(mRs ms35++rsF))∧Rw μ' cs29 r.2.2.2.1∧Rw μ' cs32 r.2.2.2.2.2.2.1∧Ms μ' ms35 r.2.2.2.2.2.2.2):=by
 unfold gen_local at h
 refine enter func72 rfl (frm:=_::_::_::u2 (u2 (u5 (u10 (u20 []))))) rfl (nz (st (nx ?_)))
 iterate 5 refine st ?_
 refine ld ((hS.blk d0).cell d3) (st ?_)
 refine wl (s_bsl underlying27 ti3 (Parts.s (et (k10 d4)) rfl Parts.z) rfl rfl hS ?_); clear hS; intro b37 w1 hb38 hS; refine po ?_
 obtain ⟨l41,g42,h⟩:=bI h
 have m43:Rw μ0 [.int .i64 p_3] [p_3]:=(Rw.one (α:=Int) rfl)
 have m40:=Rw.app m17 m43 g42
 refine wl (s_app1 underlying27 ti3 rfl (et (k10 d3)) (et (k10 d5)) hS d2 (hS.blk d0).cells m43 rfl g42 (by decide) ?_); clear hS; intro v39 w2 rs_ hp_ hS; cases (show _=rs_ from hp_)
 replace hS:=Sep.reput hS p2; refine po ?_
 replace hS:=hS.drop Rm.z
 iterate 3 refine st ?_
 refine wl (s_store1 ti27 (et (k10 d9)) (et (k10 d6)) (hS.get d1).cellV hS d0 p3 rfl p0 dn ?_)
 clear hS; intro w3 hS
 refine nx ?_
 iterate 4 refine st ?_
 refine ld ((hS.blk d0).cell d3) (wl (su (u_lenv underlying27 (et (k20 d4)) (hS.get d1).isSl) (dt (q20 p5)) ?_))
 obtain ⟨i44,g45,h⟩:=bI h
 refine wl (su (u_subc (et (k20 d5)) ec g45) (dt (q20 p6)) (st (ny ?_)))
 refine cdw hS ?_; clear hS; intro w4 hS
 refine cpi 0 rfl (cpi 1 rfl (cpi 2 rfl (cpi 4 rfl (cpi 5 rfl (cpi 6 rfl (cpi 12 rfl (cpi 13 rfl (cr 7 [7,8,9,10,11,14] rfl (u_load ti155 (et (k30 d3)) ((hS.blk d0).cell d7)) (q30 p4) (cp 8 rfl (u_lenv underlying155 (et (k30 d4)) (hS.get d3).isSl) (q30 p5) ?_)))))))))
 obtain ⟨i46,g47,h⟩:=bI h
 refine cp 9 rfl (u_subc (et (k30 d5)) ec g47) (q30 p6) (cr 3 [3,10,11,14] rfl (u_load ti155 (et (k20 d9)) ((hS.blk d0).cell d7)) (q30 p0) ?_)
 obtain ⟨x48,g49,h⟩:=bI h
 obtain ⟨b50,o51,b52,es53,c54,e55,f56,hms57,mq58⟩:=Row.mapElem (hS.get d3) m27 g49
 refine cp 10 rfl (u_iax underlying155 ti95 (et (k30 d0)) (et (k30 d6)) e55) (q30 p7) (cr 11 [11,14] rfl (u_load ti95 (et (k30 d7)) ((f56 _ _ (hS.get d3)).one d0)) (q30 p8) ?_)
 refine sc1 rfl rfl rfl (s_mputS (pre:=[_,_,_,_]) (κ:=List UInt8) (β:=Int) (kk:=p_2) (xx:=i44) underlying95 underlying9 (et (k30 d8)) (et (k30 d9)) (et (k40 d0)) rfl hS hms57 mq58 m27 dn ?_); clear hS; intro ms59 w5 m60 e61 e62 hS; rw [e61,e62] at hS
 refine nu (nz ?_)
 iterate 2 refine st ?_
 refine nw (cret ?_)
 obtain rfl:=oI h
 refine ret1 rfl d6 ?_
 replace hS:Sq μ0 w0 _ (.blk b1 157 [.pointer (some ⟨b3,o4,none⟩),.int .i64 kind_12,.int .i64 para_13,v39,.int .i64 resu_18,.int .i64 take_19,v21,v25]::.row v39 3 1 l41.length (cs16++[.int .i64 p_3])::.row v21 120 3 code_20.length cs22::.row v25 95 1 (bloc_24.set i46.toNat (mput x48 p_2 i44)).length (cOf ms59)::(mRs ms59++rsF)):=hS
 exact ⟨_,_,((cs16++[.int .i64 p_3]):List Value),_,_,_,_,rfl,Le.r,hS,m40,m23,m60⟩
theorem gen_look_w (hg:Le Gm μ0) {tabl_2:TGt} {kind_12 para_13:Int} {loca_14:List Int} {resu_18 take_19:Int} {code_20:List TInstr} {bloc_24:List (List (List UInt8×Int))} {p_2:List UInt8} {r:Int} (m6:Mr μ0 b5 tabl_2.boxes) (m8:Mr μ0 b7 tabl_2.units) (m10:Mr μ0 b9 tabl_2.defs) (m11:At μ0 b3 o4 [.map (some b5),.map (some b7),.map (some b9)]) (m17:Rw μ0 cs16 loca_14) (m23:Rw μ0 cs22 code_20) (m27:Ms μ0 ms26 bloc_24) (h:gen_look fu tabl_2 kind_12 para_13 loca_14 resu_18 take_19 code_20 bloc_24 p_2=some r) (hS:Sq μ0 w0 w (.blk b1 157 [.pointer (some ⟨b3,o4,none⟩),.int .i64 kind_12,.int .i64 para_13,v15,.int .i64 resu_18,.int .i64 take_19,v21,v25]::.row v15 3 1 loca_14.length cs16::.row v21 120 3 code_20.length cs22::.row v25 95 1 bloc_24.length (cOf ms26)::(mRs ms26++rsF))):CallsV prog 144 [.pointer (some ⟨b1,0,none⟩),S p_2] w (fun v w'=>∃ (μ':M) ,v=.int .i64 r∧Le μ0 μ'∧Sq μ' w0 w' (.blk b1 157 [.pointer (some ⟨b3,o4,none⟩),.int .i64 kind_12,.int .i64 para_13,v15,.int .i64 resu_18,.int .i64 take_19,v21,v25]::.row v15 3 1 loca_14.length cs16::.row v21 120 3 code_20.length cs22::.row v25 95 1 bloc_24.length (cOf ms26)::(mRs ms26++rsF))):=by
 unfold gen_look at h
 refine enter func144 rfl (frm:=_::_::u10 (u20 [])) rfl (nz (st (ny (nz ?_))))
 iterate 3 refine st ?_
 refine ld ((hS.blk d0).cell d7) (wl (su (u_lenv underlying155 (et (k10 d1)) (hS.get d3).isSl) (dt (q10 p2)) ?_))
 obtain ⟨i28,g29,h⟩:=bI h
 refine wl (su (u_subc (et (k10 d2)) ec g29) (dt (q10 p3)) (st (nw (cblock ?_))))
 refine cloopE ([4]++rg 6 2++rg 14 18) (by decide +kernel) (fun n m w=>∃ μx i45,m=(yK4 (yO1 4 (.i (.int .i64 i45)::(yO2 6 (yK6 (yO10 14 (yO8 24 [])))))))∧gen_look_l1 p_2 bloc_24 n i45=some r∧Le μ0 μx∧Sq μx w0 w (.blk b1 157 [.pointer (some ⟨b3,o4,none⟩),.int .i64 kind_12,.int .i64 para_13,v15,.int .i64 resu_18,.int .i64 take_19,v21,v25]::.row v15 3 1 loca_14.length cs16::.row v21 120 3 code_20.length cs22::.row v25 95 1 bloc_24.length (cOf ms26)::(mRs ms26++rsF))) (by rintro _ _ _ ⟨_,_,rfl,_⟩; rfl) _ _ (aK4 (aO1 (aI (aO2 (aK6 (aO10 (aO8 aZ))))))) ⟨_,i28,rfl,h,Le.r,hS⟩ ?_
 rintro n_1 _ t w1 ⟨μ1,i45,rfl,h,le61,hS⟩
 cases n_1 with
 | zero=>cases h
 | succ n_1 =>
 unfold gen_look_l1 at h
 refine cnrm (mK4 (mO1 (mi (mO2 (mK6 (mO10 (mO8 mz))))))) (cseq (nz ?_))
 iterate 2 refine st ?_
 refine nw ?_
 refine cifd (et (k10 d5)) (fun h62=>?_) (xF h)
 replace h:=iT h62 h
 refine cskip (xn (cseq (cblock (nz ?_))))
 iterate 3 refine st ?_
 refine ld ((hS.blk d0).cell d7) (st ?_)
 obtain ⟨x63,g64,h⟩:=bI h
 obtain ⟨b65,o66,b67,es68,c69,e70,f71,hms72,mq73⟩:=Row.mapElem (hS.get d3) (m27.up le61) g64
 refine wl (su (u_iax underlying155 ti95 (et (k20 d2)) (et (k20 d3)) e70) (dt (q20 p4)) (ld ((f71 _ _ (hS.get d3)).one d0) (st ?_)))
 refine wl (s_mget2 (κ:=List UInt8) (k:=p_2) (β:=Int) (zx:=0) underlying95 underlying9 (et (k20 d5)) (et (k20 d6)) zv3 rfl (hS.mapAt (pre:=[_,_,_,_]) hms72) mq73 ?_); rintro _ rfl; refine po ?_
 iterate 5 refine st ?_
 refine nx (st (nw ?_))
 refine cifb (et (k30 d0)) (fun h76=>?_) (fun h76=>?_)
 ·replace h:=iT h76 h
  refine nz ?_
  iterate 2 refine st ?_
  refine nw (cret ?_)
  refine (fun h=>br (xr (xr (br (xr h))))) ?_
  obtain rfl:=oI h
  refine ret1 rfl d4 ?_
  replace hS:Sq μ1 w0 _ (.blk b1 157 [.pointer (some ⟨b3,o4,none⟩),.int .i64 kind_12,.int .i64 para_13,v15,.int .i64 resu_18,.int .i64 take_19,v21,v25]::.row v15 3 1 loca_14.length cs16::.row v21 120 3 code_20.length cs22::.row v25 95 1 bloc_24.length (cOf ms26)::(mRs ms26++rsF)):=hS
  exact ⟨_,rfl,le61,hS⟩
 ·replace h:=iF h76 h
  refine cskip ?_
  refine (fun h=>bn (xn h)) ?_
  refine creg (st ?_)
  obtain ⟨i77,g78,h⟩:=bI h
  refine wl (su (u_subc (et (k10 d6)) ec g78) (dt (q10 p7)) (st (wnil (xl ?_))))
  exact ⟨n_1,_,_,rfl,(aK4 (aO1 (aI (aO2 (aK6 (aO10 (aO8 aZ))))))),⟨_,i77,rfl,h,le61,hS⟩,Nat.lt_succ_self _⟩
structure GenESound (sf:GenE):Prop where
  gen_expr:∀ {μ0:M} {w0 w:World} {rsF:List Res} (hg:Le Gm μ0) {b1:Nat} {tabl_2:TGt} {b3 o4 b5 b7 b9:Nat} {kind_12 para_13:Int} {loca_14:List Int} {v15:Value} {cs16:List Value} {resu_18 take_19:Int} {code_20:List TInstr} {v21:Value} {cs22:List Value} {bloc_24:List (List (List UInt8×Int))} {v25:Value} {ms26:List (Nat×List MapEntry×Nat)} {p_2:TExpr} {b28 o29:Nat} {a30:Option Addr} {c31:Nat} {r:Int×Int×Int×List Int×Int×Int×List TInstr×List (List (List UInt8×Int))} (m6:Mr μ0 b5 tabl_2.boxes) (m8:Mr μ0 b7 tabl_2.units) (m10:Mr μ0 b9 tabl_2.defs) (m11:At μ0 b3 o4 [.map (some b5),.map (some b7),.map (some b9)]) (m17:Rw μ0 cs16 loca_14) (m23:Rw μ0 cs22 code_20) (m27:Ms μ0 ms26 bloc_24) (m32:Sl μ0 a30 c31 p_2.Kids) (m33:At μ0 b28 o29 [.int .i64 p_2.Kind,.int .i64 p_2.N,S p_2.Name,.slice a30 p_2.Kids.length c31]) (h:sf.gen_expr tabl_2 kind_12 para_13 loca_14 resu_18 take_19 code_20 bloc_24 p_2=some r) (hS:Sq μ0 w0 w (.blk b1 157 [.pointer (some ⟨b3,o4,none⟩),.int .i64 kind_12,.int .i64 para_13,v15,.int .i64 resu_18,.int .i64 take_19,v21,v25]::.row v15 3 1 loca_14.length cs16::.row v21 120 3 code_20.length cs22::.row v25 95 1 bloc_24.length (cOf ms26)::(mRs ms26++rsF))),CallsV prog 142 [.pointer (some ⟨b1,0,none⟩),.pointer (some ⟨b28,o29,none⟩)] w (fun v w'=>∃ (μ':M) (v34:Value) (cs35:List Value) (v37:Value) (cs38:List Value) (v40:Value) (ms41:List (Nat×List MapEntry×Nat)),v=.int .i64 r.1∧Le μ0 μ'∧Sq μ' w0 w' (.blk b1 157 [.pointer (some ⟨b3,o4,none⟩),.int .i64 r.2.1,.int .i64 r.2.2.1,v34,.int .i64 r.2.2.2.2.1,.int .i64 r.2.2.2.2.2.1,v37,v40]::.row v34 3 1 r.2.2.2.1.length cs35::.row v37 120 3 r.2.2.2.2.2.2.1.length cs38::.row v40 95 1 r.2.2.2.2.2.2.2.length (cOf ms41)::(mRs ms41++rsF))∧Rw μ' cs35 r.2.2.2.1∧Rw μ' cs38 r.2.2.2.2.2.2.1∧Ms μ' ms41 r.2.2.2.2.2.2.2)
theorem gen_expr_w {self:GenE} (IH:GenESound self) {fu:Nat} {μ0:M} {w0 w:World} {rsF:List Res} (hg:Le Gm μ0) {b1:Nat} {tabl_2:TGt} {b3 o4 b5 b7 b9:Nat} {kind_12 para_13:Int} {loca_14:List Int} {v15:Value} {cs16:List Value} {resu_18 take_19:Int} {code_20:List TInstr} {v21:Value} {cs22:List Value} {bloc_24:List (List (List UInt8×Int))} {v25:Value} {ms26:List (Nat×List MapEntry×Nat)} {p_2:TExpr} {b28 o29:Nat} {a30:Option Addr} {c31:Nat} {r:Int×Int×Int×List Int×Int×Int×List TInstr×List (List (List UInt8×Int))} (m6:Mr μ0 b5 tabl_2.boxes) (m8:Mr μ0 b7 tabl_2.units) (m10:Mr μ0 b9 tabl_2.defs) (m11:At μ0 b3 o4 [.map (some b5),.map (some b7),.map (some b9)]) (m17:Rw μ0 cs16 loca_14) (m23:Rw μ0 cs22 code_20) (m27:Ms μ0 ms26 bloc_24) (m32:Sl μ0 a30 c31 p_2.Kids) (m33:At μ0 b28 o29 [.int .i64 p_2.Kind,.int .i64 p_2.N,S p_2.Name,.slice a30 p_2.Kids.length c31]) (h:gen_expr fu self tabl_2 kind_12 para_13 loca_14 resu_18 take_19 code_20 bloc_24 p_2=some r) (hS:Sq μ0 w0 w (.blk b1 157 [.pointer (some ⟨b3,o4,none⟩),.int .i64 kind_12,.int .i64 para_13,v15,.int .i64 resu_18,.int .i64 take_19,v21,v25]::.row v15 3 1 loca_14.length cs16::.row v21 120 3 code_20.length cs22::.row v25 95 1 bloc_24.length (cOf ms26)::(mRs ms26++rsF))):CallsV prog 142 [.pointer (some ⟨b1,0,none⟩),.pointer (some ⟨b28,o29,none⟩)] w (fun v w'=>∃ (μ':M) (v34:Value) (cs35:List Value) (v37:Value) (cs38:List Value) (v40:Value) (ms41:List (Nat×List MapEntry×Nat)),v=.int .i64 r.1∧Le μ0 μ'∧Sq μ' w0 w' (.blk b1 157 [.pointer (some ⟨b3,o4,none⟩),.int .i64 r.2.1,.int .i64 r.2.2.1,v34,.int .i64 r.2.2.2.2.1,.int .i64 r.2.2.2.2.2.1,v37,v40]::.row v34 3 1 r.2.2.2.1.length cs35::.row v37 120 3 r.2.2.2.2.2.2.1.length cs38::.row v40 95 1 r.2.2.2.2.2.2.2.length (cOf ms41)::(mRs ms41++rsF))∧Rw μ' cs35 r.2.2.2.1∧Rw μ' cs38 r.2.2.2.2.2.2.1∧Ms μ' ms41 r.2.2.2.2.2.2.2):=by
 unfold gen_expr at h
 refine enter func142 rfl (frm:=_::_::u2 (u2 (u5 (u10 (u20 (u50 (u50 (u50 (u50 (u50 [])))))))))) rfl (nz (st (nx (st (ny (nz ?_))))))
 iterate 3 refine st ?_
 refine ld ((m33 _ hS.a).one d3) (wl (su (u_lensl underlying191 (et (k10 d3))) (dt (q10 p4)) (st (nw (cblock ?_)))))
 replace hS:=hS.nilRow 3 (Mo.sz Int)
 replace hS:=(((hS.bg Y4).bg Y4).bg Y4).bg Y4
 refine cloopE ([6]++rg 16 14) (by decide) (fun n m w=>∃ μx i76 i77 i78 i79 i80 l83 v81 cs82 l87 v85 cs86 l91 v89 ms90 l95 v93 cs94,m=(yK5 (.i (v93)::(yO1 6 (yK8 (.i (.int .i64 i76)::(yO10 16 (yO4 26 [])))))))∧gen_expr_l1 fu self p_2 tabl_2 n i76 i77 i78 i79 i80 l83 l87 l91 l95=some r∧Le μ0 μx∧Sq μx w0 w (.blk b1 157 [.pointer (some ⟨b3,o4,none⟩),.int .i64 i77,.int .i64 i78,v81,.int .i64 i79,.int .i64 i80,v85,v89]::.row v81 3 1 l83.length cs82::.row v85 120 3 l87.length cs86::.row v89 95 1 l91.length (cOf ms90)::.row v93 3 1 l95.length cs94::(mRs ms90++rsF))∧Rw μx cs82 l83∧Rw μx cs86 l87∧Ms μx ms90 l91∧Rw μx cs94 l95) (by rintro _ _ _ ⟨_,_,_,_,_,_,_,_,_,_,_,_,_,_,_,_,_,_,rfl,_⟩; rfl) _ _ (aK5 (aI (aO1 (aK8 (aI (aO10 (aO4 aZ))))))) ⟨_,0,kind_12,para_13,resu_18,take_19,loca_14,v15,cs16,code_20,v21,cs22,bloc_24,v25,ms26,[],(.slice none 0 0),[],rfl,h,Le.r,hS,m17,m23,m27,Rw.nil⟩ ?_
 rintro n_1 _ t w1 ⟨μ1,i76,i77,i78,i79,i80,l83,v81,cs82,l87,v85,cs86,l91,v89,ms90,l95,v93,cs94,rfl,h,le129,hS,m130,m131,m132,m133⟩
 cases n_1 with
 | zero=>cases h
 | succ n_1 =>
 unfold gen_expr_l1 at h
 refine cnrm (mK5 (mi (mO1 (mK8 (mi (mO10 (mO4 mz))))))) (nz (st (ny ?_)))
 refine cifd (et (k10 d6)) (fun h134=>?_) (fun h134=>?_)
 ·replace h:=iT h134 h
  refine cskip (xn (cseq (cblock (nz ?_))))
  iterate 2 refine st ?_
  refine nw (creg ?_)
  iterate 5 refine st ?_
  refine ld ((m33 _ (le129 _ hS.a)).one d3) (st ?_)
  obtain ⟨x135,g136,h⟩:=bI h
  obtain ⟨b137,o138,cs139,e140,f141,m142⟩:=SlR.elem (m32.up le129) g136
  obtain ⟨a143,c144,rfl,m145⟩:=TExpr.o m142
  refine wl (su (u_iax underlying191 ti193 (et (k20 d3)) (et (k20 d4)) e140) (dt (q20 p5)) ?_)
  obtain ⟨r146,g147,h⟩:=bI h
  replace hS:=(((hS.bg Y3).bg Y3).bg Y3).bg Y3
  replace hS:=Sep.mOut (a:=[_,_,_,_]) (p:=[_]) (M:=mRs ms90) (R:=rsF) hS
  refine ca (IH.gen_expr (hg.t le129) (m6.up le129) (m8.up le129) (m10.up le129) (m11.up le129) m130 m131 m132 m145 f141 g147 hS) ?_
  rintro _ w2 ⟨μ2,v149,cs150,v152,cs153,v155,ms156,rfl,le148,hS,m151,m154,m157⟩
  replace hS:=Sep.mOut (a:=[_,_,_,_]) (p:=mRs ms156) (M:=[_]) (R:=rsF) hS
  refine po ?_
  refine wl (s_bsl underlying27 ti3 (Parts.s (et (k20 d6)) rfl Parts.z) rfl rfl hS ?_); clear hS; intro b158 w3 hb159 hS; refine po ?_
  obtain ⟨l162,g163,h⟩:=bI h
  have m164:Rw μ2 [.int .i64 r146.1] [r146.1]:=(Rw.one (α:=Int) rfl)
  have m161:=Rw.app (m133.up le148) m164 g163
  refine wl (s_app1 underlying27 ti3 rfl (et (k10 d8)) (et (k20 d7)) hS d5 (hS.blk d0).cells m164 rfl g163 (by decide) ?_); clear hS; intro v160 w4 rs_ hp_ hS; cases (show _=rs_ from hp_)
  replace hS:=Sep.reput hS p5; refine po ?_
  replace hS:=hS.drop Rm.z
  refine st (wnil ?_)
  refine (fun h=>bn (xn h)) ?_
  refine creg ?_
  obtain ⟨i165,g166,h⟩:=bI h
  refine wl (su (u_addc (et (k10 d5)) ec g166) (dt (q20 p9)) (st (wnil (xl ?_))))
  exact ⟨n_1,_,_,rfl,(aK5 (aI (aO1 (aK8 (aI (aO10 (aO4 aZ))))))),⟨_,i165,r146.2.1,r146.2.2.1,r146.2.2.2.2.1,r146.2.2.2.2.2.1,r146.2.2.2.1,v149,cs150,r146.2.2.2.2.2.2.1,v152,cs153,r146.2.2.2.2.2.2.2,v155,ms156,l162,v160,(cs94++[.int .i64 r146.1]),rfl,h,(le129.t le148),hS,m151,m154,m157,m161⟩,Nat.lt_succ_self _⟩
 ·replace h:=iF h134 h
  refine cexit ?_
  refine (fun h=>xe (xe (bh h))) ?_
  refine xn (cseq (cblock (nz ?_)))
  iterate 3 refine st ?_
  refine ld ((m33 _ (le129 _ hS.a)).one d0) ?_
  iterate 2 refine st ?_
  refine nw ?_
  refine cifd (et (k30 d0)) (fun h167=>?_) (fun h167=>?_)
  ·replace h:=iT h167 h
   refine nz ?_
   iterate 4 refine st ?_
   refine ld ((m33 _ (le129 _ hS.a)).one d1) ?_
   obtain ⟨r168,g169,h⟩:=bI h
   replace hS:=(((hS.bg Y3).bg Y3).bg Y3).bg Y3
   replace hS:=Sep.mOut (a:=[_,_,_,_]) (p:=[_]) (M:=mRs ms90) (R:=rsF) hS
   refine ca (gen_put_w (hg.t le129) (m6.up le129) (m8.up le129) (m10.up le129) (m11.up le129) m130 m131 m132 g169 hS) ?_
   rintro _ w5 ⟨μ3,v171,cs172,v174,cs175,v177,ms178,rfl,le170,hS,m173,m176,m179⟩
   replace hS:=Sep.mOut (a:=[_,_,_,_]) (p:=mRs ms178) (M:=[_]) (R:=rsF) hS
   refine po (nx (st (nw (cret ?_))))
   refine (fun h=>br (xr h)) ?_
   obtain rfl:=oI h
   refine ret1 rfl d4 ?_
   replace hS:=hS.drop (Rm.s (Rm.s (Rm.s (Rm.s Rm.z))))
   replace hS:Sq μ3 w0 _ (.blk b1 157 [.pointer (some ⟨b3,o4,none⟩),.int .i64 r168.2.1,.int .i64 r168.2.2.1,v171,.int .i64 r168.2.2.2.2.1,.int .i64 r168.2.2.2.2.2.1,v174,v177]::.row v171 3 1 r168.2.2.2.1.length cs172::.row v174 120 3 r168.2.2.2.2.2.2.1.length cs175::.row v177 95 1 r168.2.2.2.2.2.2.2.length (cOf ms178)::(mRs ms178++rsF)):=hS
   exact ⟨_,_,_,_,_,_,_,rfl,(le129.t le170),hS,m173,m176,m179⟩
  ·replace h:=iF h167 h
   refine nz ?_
   iterate 3 refine st ?_
   refine ld ((m33 _ (le129 _ hS.a)).one d0) ?_
   iterate 2 refine st ?_
   refine nw ?_
   refine cifd (et (k40 d2)) (fun h180=>?_) (fun h180=>?_)
   ·replace h:=iT h180 h
    refine nz ?_
    iterate 4 refine st ?_
    refine ld ((m33 _ (le129 _ hS.a)).one d1) ?_
    obtain ⟨r181,g182,h⟩:=bI h
    replace hS:=(((hS.bg Y3).bg Y3).bg Y3).bg Y3
    replace hS:=Sep.mOut (a:=[_,_,_,_]) (p:=[_]) (M:=mRs ms90) (R:=rsF) hS
    refine ca (gen_put_w (hg.t le129) (m6.up le129) (m8.up le129) (m10.up le129) (m11.up le129) m130 m131 m132 g182 hS) ?_
    rintro _ w6 ⟨μ4,v184,cs185,v187,cs188,v190,ms191,rfl,le183,hS,m186,m189,m192⟩
    replace hS:=Sep.mOut (a:=[_,_,_,_]) (p:=mRs ms191) (M:=[_]) (R:=rsF) hS
    refine po (nx (st (nw (cret ?_))))
    refine (fun h=>br (xr h)) ?_
    obtain rfl:=oI h
    refine ret1 rfl d4 ?_
    replace hS:=hS.drop (Rm.s (Rm.s (Rm.s (Rm.s Rm.z))))
    replace hS:Sq μ4 w0 _ (.blk b1 157 [.pointer (some ⟨b3,o4,none⟩),.int .i64 r181.2.1,.int .i64 r181.2.2.1,v184,.int .i64 r181.2.2.2.2.1,.int .i64 r181.2.2.2.2.2.1,v187,v190]::.row v184 3 1 r181.2.2.2.1.length cs185::.row v187 120 3 r181.2.2.2.2.2.2.1.length cs188::.row v190 95 1 r181.2.2.2.2.2.2.2.length (cOf ms191)::(mRs ms191++rsF)):=hS
    exact ⟨_,_,_,_,_,_,_,rfl,(le129.t le183),hS,m186,m189,m192⟩
   ·replace h:=iF h180 h
    refine nz ?_
    iterate 3 refine st ?_
    refine ld ((m33 _ (le129 _ hS.a)).one d0) ?_
    iterate 2 refine st ?_
    refine nw ?_
    refine cifd (et (k50 d4)) (fun h193=>?_) (fun h193=>?_)
    ·replace h:=iT h193 h
     refine nz ?_
     iterate 4 refine st ?_
     refine ld ((m33 _ (le129 _ hS.a)).one d2) ?_
     obtain ⟨r194,g195,h⟩:=bI h
     replace hS:=(((hS.bg Y3).bg Y3).bg Y3).bg Y3
     replace hS:=Sep.mOut (a:=[_,_,_,_]) (p:=[_]) (M:=mRs ms90) (R:=rsF) hS
     refine ca (gen_look_w (hg.t le129) (m6.up le129) (m8.up le129) (m10.up le129) (m11.up le129) m130 m131 m132 g195 hS) ?_
     rintro _ w7 ⟨μ5,rfl,le196,hS⟩
     replace hS:=Sep.mOut (a:=[_,_,_,_]) (p:=mRs ms90) (M:=[_]) (R:=rsF) hS
     refine po (st (nx ?_))
     iterate 2 refine st ?_
     obtain ⟨r197,g198,h⟩:=bI h
     replace hS:=(((hS.bg Y3).bg Y3).bg Y3).bg Y3
     replace hS:=Sep.mOut (a:=[_,_,_,_]) (p:=[_]) (M:=mRs ms90) (R:=rsF) hS
     refine ca (gen_put_w (hg.t (le129.t le196)) (m6.up (le129.t le196)) (m8.up (le129.t le196)) (m10.up (le129.t le196)) (m11.up (le129.t le196)) (m130.up le196) (m131.up le196) (m132.up le196) g198 hS) ?_
     rintro _ w8 ⟨μ6,v200,cs201,v203,cs204,v206,ms207,rfl,le199,hS,m202,m205,m208⟩
     replace hS:=Sep.mOut (a:=[_,_,_,_]) (p:=mRs ms207) (M:=[_]) (R:=rsF) hS
     refine po (nx ?_)
     iterate 4 refine st ?_
     refine ld ((hS.blk d0).cell d3) (st ?_)
     obtain ⟨x209,g210,h⟩:=bI h
     obtain ⟨b211,o212,pc213,cs214,sc215,ec216,e217,f218,m219,pn220,st221,m222⟩:=Row.elemS (α:=Int) (hS.get d1) m202 rfl g210
     rw [ec216] at hS
     obtain rfl:=m219
     refine wl (su (u_iax underlying27 ti3 (et (k70 d3)) (et (k70 d4)) e217) (dt (q70 p5)) (ld ((f218 _ _ _ (hS.get d1) rfl).one d0) (st (nw (cret ?_)))))
     refine (fun h=>br (xr h)) ?_
     obtain rfl:=oI h
     refine ret1 rfl d4 ?_
     replace hS:=hS.drop (Rm.s (Rm.s (Rm.s (Rm.s Rm.z))))
     replace hS:Sq μ6 w0 _ (.blk b1 157 [.pointer (some ⟨b3,o4,none⟩),.int .i64 r197.2.1,.int .i64 r197.2.2.1,v200,.int .i64 r197.2.2.2.2.1,.int .i64 r197.2.2.2.2.2.1,v203,v206]::.row v200 3 1 r197.2.2.2.1.length (pc213++([.int .i64 x209]++sc215))::.row v203 120 3 r197.2.2.2.2.2.2.1.length cs204::.row v206 95 1 r197.2.2.2.2.2.2.2.length (cOf ms207)::(mRs ms207++rsF)):=hS
     exact ⟨_,_,((pc213++([.int .i64 x209]++sc215)):List Value),_,_,_,_,rfl,(le129.t (le196.t le199)),hS,m222,m205,m208⟩
    ·replace h:=iF h193 h
     refine nz ?_
     iterate 3 refine st ?_
     refine ld ((m33 _ (le129 _ hS.a)).one d0) ?_
     iterate 2 refine st ?_
     refine nw ?_
     refine cifd (et (k70 d7)) (xT h) fun h223=>?_
     replace h:=iF h223 h
     refine nz ?_
     iterate 3 refine st ?_
     refine ld ((m33 _ (le129 _ hS.a)).one d0) ?_
     iterate 2 refine st ?_
     refine nw ?_
     refine cifd (et (k80 d5)) (xT h) fun h224=>?_
     replace h:=iF h224 h
     refine nz ?_
     iterate 3 refine st ?_
     refine ld ((m33 _ (le129 _ hS.a)).one d0) ?_
     iterate 2 refine st ?_
     refine wspd (k90 d9) (q90 p9) (q90 p9) (fun h225=>?_) (xF h)
     replace h:=iT h225 h
     refine sy rfl (sy rfl (sy rfl (wy rfl (k90 d9) (s_load ti3 (et (k100 d2)) ((m33 _ (le129 _ hS.a)).one d0) (dt (q100 p3)) (sy rfl ?_)))))
     iterate 2 refine st ?_
     refine nw ?_
     refine cifd (et (k90 d3)) (fun h226=>?_) (fun h226=>?_)
     ·replace h:=iT h226 h
      refine nz ?_
      iterate 4 refine st ?_
      refine ld ((m33 _ (le129 _ hS.a)).one d0) ?_
      obtain ⟨i227,g228,h⟩:=bI h
      refine wl (su (u_addc ec (et (k100 (k10 d0))) g228) (dt (q100 (q10 p1))) ?_)
      obtain ⟨i229,g230,h⟩:=bI h
      refine wl (su (u_subc (et (k100 (k10 d1))) ec g230) (dt (q100 (q10 p2))) ?_)
      obtain ⟨r231,g232,h⟩:=bI h
      replace hS:=(((hS.bg Y3).bg Y3).bg Y3).bg Y3
      replace hS:=Sep.mOut (a:=[_,_,_,_]) (p:=[_]) (M:=mRs ms90) (R:=rsF) hS
      refine ca (gen_put_w (hg.t le129) (m6.up le129) (m8.up le129) (m10.up le129) (m11.up le129) m130 m131 m132 g232 hS) ?_
      rintro _ w9 ⟨μ7,v234,cs235,v237,cs238,v240,ms241,rfl,le233,hS,m236,m239,m242⟩
      replace hS:=Sep.mOut (a:=[_,_,_,_]) (p:=mRs ms241) (M:=[_]) (R:=rsF) hS
      refine po (ny (nz ?_))
      iterate 3 refine st ?_
      refine ld ((m33 _ ((le129.t le233) _ hS.a)).one d0) (st (nw ?_))
      refine cifd (et (k100 (k10 d8))) (fun h243=>?_) (fun h243=>?_)
      ·replace h:=iT h243 h
       refine nz (st (nw (cret ?_)))
       refine (fun h=>xr (br (xr h))) ?_
       obtain rfl:=oI h
       refine ret1 rfl d4 ?_
       replace hS:=hS.drop (Rm.s (Rm.s (Rm.s (Rm.s Rm.z))))
       replace hS:Sq μ7 w0 _ (.blk b1 157 [.pointer (some ⟨b3,o4,none⟩),.int .i64 r231.2.1,.int .i64 r231.2.2.1,v234,.int .i64 r231.2.2.2.2.1,.int .i64 r231.2.2.2.2.2.1,v237,v240]::.row v234 3 1 r231.2.2.2.1.length cs235::.row v237 120 3 r231.2.2.2.2.2.2.1.length cs238::.row v240 95 1 r231.2.2.2.2.2.2.2.length (cOf ms241)::(mRs ms241++rsF)):=hS
       exact ⟨_,_,_,_,_,_,_,rfl,(le129.t le233),hS,m236,m239,m242⟩
      ·replace h:=iF h243 h
       refine cskip (xn (nz (st (nw (cret ?_)))))
       refine (fun h=>br (xr h)) ?_
       obtain rfl:=oI h
       refine ret1 rfl d4 ?_
       replace hS:=hS.drop (Rm.s (Rm.s (Rm.s (Rm.s Rm.z))))
       replace hS:Sq μ7 w0 _ (.blk b1 157 [.pointer (some ⟨b3,o4,none⟩),.int .i64 r231.2.1,.int .i64 r231.2.2.1,v234,.int .i64 r231.2.2.2.2.1,.int .i64 r231.2.2.2.2.2.1,v237,v240]::.row v234 3 1 r231.2.2.2.1.length cs235::.row v237 120 3 r231.2.2.2.2.2.2.1.length cs238::.row v240 95 1 r231.2.2.2.2.2.2.2.length (cOf ms241)::(mRs ms241++rsF)):=hS
       exact ⟨_,_,_,_,_,_,_,rfl,(le129.t le233),hS,m236,m239,m242⟩
     ·replace h:=iF h226 h
      refine nz ?_
      iterate 3 refine st ?_
      refine ld ((m33 _ (le129 _ hS.a)).one d0) ?_
      iterate 2 refine st ?_
      refine nw ?_
      refine cifd (et (k100 (k10 d9))) (fun h244=>?_) (fun h244=>?_)
      ·replace h:=iT h244 h
       refine cseq ?_
       refine cdw hS ?_; clear hS; intro w10 hS
       refine cpi 0 rfl (cpi 1 rfl (cpi 2 rfl (cpi 3 rfl (cpi 8 rfl (cpi 9 rfl (cpi 10 rfl (cr 4 [4,5,6,7,12,13] rfl (u_load ti94 (et (k100 (k20 d8))) ((hS.blk d0).cell d0)) (q100 (q20 p9)) (cpi 5 rfl (cpi 6 rfl (cr 7 [7,12,13] rfl (u_load ti95 (et (k100 (k30 d1))) ((m11 _ (le129 _ hS.a)).one d1)) (q100 (q30 p2)) (cr 11 [11,12,13] rfl (u_load ti9 (et (k100 (k30 d5))) ((m33 _ (le129 _ hS.a)).one d2)) (q100 (q30 p6)) ?_)))))))))))
       obtain ⟨es245,c246,hb247,hq248⟩:=(m8.up le129)
       refine sc1 rfl rfl rfl (s_mget1 (κ:=List UInt8) (k:=p_2.Name) (β:=Int) (zx:=0) underlying95 underlying9 (et (k100 (k30 d2))) (et (k100 (k30 d6))) zv3 rfl (hb247 _ hS.a) hq248 ?_); rintro _ rfl; refine po ?_
       obtain ⟨r251,g252,h⟩:=bI h
       replace hS:=(((hS.bg Y3).bg Y3).bg Y3).bg Y3
       replace hS:=Sep.mOut (a:=[_,_,_,_]) (p:=[_]) (M:=mRs ms90) (R:=rsF) hS
       refine sc1 rfl rfl rfl (s_callv isfn74 ef (e1 (et (k100 (k20 d5))) (e1 ec (e1 (et (k100 (k30 d7))) (e1 ec e0)))) (gen_put_w (hg.t le129) (m6.up le129) (m8.up le129) (m10.up le129) (m11.up le129) m130 m131 m132 g252 hS) ?_)
       rintro _ w11 ⟨μ8,v254,cs255,v257,cs258,v260,ms261,rfl,le253,hS,m256,m259,m262⟩
       replace hS:=Sep.mOut (a:=[_,_,_,_]) (p:=mRs ms261) (M:=[_]) (R:=rsF) hS
       refine po (nu (cseq ?_))
       refine ccutE (rg 139 20) (by decide) (fun m w=>∃ μx i263,m=(yK4 (.i (.int .i64 i263)::(yK50 (yK50 (yK20 (yK10 (yK4 (yO20 139 []))))))))∧gen_expr_j1 r251 i263=some r∧Le μ8 μx∧Sq μx w0 w (.blk b1 157 [.pointer (some ⟨b3,o4,none⟩),.int .i64 r251.2.1,.int .i64 r251.2.2.1,v254,.int .i64 r251.2.2.2.2.1,.int .i64 r251.2.2.2.2.2.1,v257,v260]::.row v254 3 1 r251.2.2.2.1.length cs255::.row v257 120 3 r251.2.2.2.2.2.2.1.length cs258::.row v260 95 1 r251.2.2.2.2.2.2.2.length (cOf ms261)::(mRs ms261++rsF))) (by rintro _ _ ⟨_,_,rfl,_⟩; rfl) ?_ ?_
       ·refine cdw hS ?_; clear hS; intro w12 hS
        refine cpi 0 rfl (cpi 1 rfl (cpi 2 rfl (cpi 4 rfl (cpi 5 rfl (cpi 6 rfl (cpi 11 rfl (cpi 12 rfl (cpi 13 rfl (cr 7 [7,8,9,10,15,16,17,18,19,20] rfl (u_load ti94 (et (k100 (k40 d5))) ((hS.blk d0).cell d0)) (q100 (q40 p6)) (cpi 8 rfl (cpi 9 rfl (cr 10 [10,15,16,17,18,19,20] rfl (u_load ti96 (et (k100 (k40 d8))) ((m11 _ ((le129.t le253) _ hS.a)).one d2)) (q100 (q40 p9)) (cr 14 [14,15,16,17,18,19,20] rfl (u_load ti9 (et (k100 (k50 d2))) ((m33 _ ((le129.t le253) _ hS.a)).one d2)) (q100 (q50 p3)) ?_)))))))))))))
        refine sc2G (i:=3) (j:=15) rfl rfl rfl rfl rfl (wn0 rfl) (wn0 rfl) ?_ ?_
        ·refine id (s_load ti94 (et (k100 (k40 d1))) ((hS.blk d0).cell d0) (dt (q100 (q40 p2))) ?_)
         obtain ⟨es264,c265,hb266,hq267⟩:=(m10.up (le129.t le253))
         refine sc1 rfl rfl rfl (s_mgetP1 (κ:=List UInt8) (k:=p_2.Name) (hrv:=fun _ _ h=>h) underlying96 underlying9 (et (k100 (k40 d9))) (et (k100 (k50 d3))) zv99 (hb266 _ hS.a) hq267 ?_); intro v268 hv269; refine po ?_
         obtain ⟨x270,g271,h⟩:=bI h
         obtain ⟨b272,o273,cs274,rfl,f275,m276⟩:=Np.get hv269 g271
         obtain ⟨a277,c278,a280,c281,rfl,m279,m282⟩:=m276
         refine cpi 16 rfl (cpi 17 rfl (cr 18 [18,19,20] rfl (u_loads ti87 (et (k100 (k50 d6))) ((f275 _ hS.a).sb 2 2) rfl) (q100 (q50 p7)) ?_))
         obtain ⟨r283,g284,h⟩:=bI h
         refine sc1 rfl rfl rfl (s_callv isfn38 ef (e1 (et (k100 (k40 d2))) (e1 (et (k100 (k50 d7))) e0)) (gen_typ_w (hg.t (le129.t le253)) (m6.up (le129.t le253)) (m8.up (le129.t le253)) (m10.up (le129.t le253)) (m11.up (le129.t le253)) g284 hS) ?_)
         rintro _ w13 ⟨μ9,rfl,le285,hS⟩
         refine po (cpi 20 rfl (sc_nil (xl ?_)))
         replace hS:=hS.drop (Rm.s (Rm.s (Rm.s (Rm.s Rm.z))))
         exact ⟨_,_,rfl,(aK4 (aI (aK50 (aK50 (aK20 (aK10 (aK4 (aO20 aZ)))))))),_,_,rfl,h,le285,hS⟩
        ·obtain ⟨x270,g271,h⟩:=bI h
         obtain ⟨r283,g284,h⟩:=bI h
         obtain ⟨es286,c287,hb288,hq289⟩:=(m10.up (le129.t le253))
         refine id (s_mgetP1 (κ:=List UInt8) (k:=p_2.Name) (hrv:=fun _ _ h=>h) underlying96 underlying9 (et (k100 (k40 d9))) (et (k100 (k50 d3))) zv99 (hb288 _ hS.a) hq289 ?_); intro v290 hv291; refine po ?_
         obtain ⟨b292,o293,cs294,rfl,f295,m296⟩:=Np.get hv291 g271
         obtain ⟨a297,c298,a300,c301,rfl,m299,m302⟩:=m296
         refine cpi 16 rfl (cpi 17 rfl (cr 3 [3,19,20] rfl (u_load ti94 (et (k100 (k40 d1))) ((hS.blk d0).cell d0)) (q100 (q40 p2)) (cr 18 [18,19,20] rfl (u_loads ti87 (et (k100 (k50 d6))) ((f295 _ hS.a).sb 2 2) rfl) (q100 (q50 p7)) (sc1 rfl rfl rfl (s_callv isfn38 ef (e1 (et (k100 (k40 d2))) (e1 (et (k100 (k50 d7))) e0)) (gen_typ_w (hg.t (le129.t le253)) (m6.up (le129.t le253)) (m8.up (le129.t le253)) (m10.up (le129.t le253)) (m11.up (le129.t le253)) g284 hS) ?_)))))
         rintro _ w14 ⟨μ10,rfl,le303,hS⟩
         refine po (cpi 20 rfl (sc_nil (xl ?_)))
         replace hS:=hS.drop (Rm.s (Rm.s (Rm.s (Rm.s Rm.z))))
         exact ⟨_,_,rfl,(aK4 (aI (aK50 (aK50 (aK20 (aK10 (aK4 (aO20 aZ)))))))),_,_,rfl,h,le303,hS⟩
       ·rintro _ t w15 ⟨μ11,i263,rfl,h,le304,hS⟩
        unfold gen_expr_j1 at h
        refine nrm (mK4 (mi (mK50 (mK50 (mK20 (mK10 (mK4 (mO20 mz)))))))) (xn (cret ?_))
        refine (fun h=>br (xr h)) ?_
        obtain rfl:=oI h
        refine ret1 rfl d4 ?_
        replace hS:Sq μ11 w0 _ (.blk b1 157 [.pointer (some ⟨b3,o4,none⟩),.int .i64 r251.2.1,.int .i64 r251.2.2.1,v254,.int .i64 r251.2.2.2.2.1,.int .i64 r251.2.2.2.2.2.1,v257,v260]::.row v254 3 1 r251.2.2.2.1.length cs255::.row v257 120 3 r251.2.2.2.2.2.2.1.length cs258::.row v260 95 1 r251.2.2.2.2.2.2.2.length (cOf ms261)::(mRs ms261++rsF)):=hS
        exact ⟨_,_,_,_,_,_,_,rfl,(le129.t (le253.t le304)),hS,(m256.up le304),(m259.up le304),(m262.up le304)⟩
      ·replace h:=iF h244 h
       refine nz ?_
       iterate 3 refine st ?_
       refine ld ((m33 _ (le129 _ hS.a)).one d0) ?_
       iterate 2 refine st ?_
       refine nw ?_
       refine cifd (et (k100 (k50 d9))) (fun h305=>?_) (xF h)
       replace h:=iT h305 h
       refine cseq ?_
       refine cdw hS ?_; clear hS; intro w16 hS
       refine cpi 0 rfl (cpi 1 rfl (cpi 2 rfl (cpi 3 rfl (cpi 8 rfl (cpi 9 rfl (cpi 10 rfl (cr 4 [4,5,6,7,12,13] rfl (u_load ti94 (et (k100 (k60 d8))) ((hS.blk d0).cell d0)) (q100 (q60 p9)) (cpi 5 rfl (cpi 6 rfl (cr 7 [7,12,13] rfl (u_load ti95 (et (k100 (k70 d1))) ((m11 _ (le129 _ hS.a)).one d0)) (q100 (q70 p2)) (cr 11 [11,12,13] rfl (u_load ti9 (et (k100 (k70 d5))) ((m33 _ (le129 _ hS.a)).one d2)) (q100 (q70 p6)) ?_)))))))))))
       obtain ⟨es306,c307,hb308,hq309⟩:=(m6.up le129)
       refine sc1 rfl rfl rfl (s_mget1 (κ:=List UInt8) (k:=p_2.Name) (β:=Int) (zx:=0) underlying95 underlying9 (et (k100 (k70 d2))) (et (k100 (k70 d6))) zv3 rfl (hb308 _ hS.a) hq309 ?_); rintro _ rfl; refine po ?_
       obtain ⟨r312,g313,h⟩:=bI h
       replace hS:=(((hS.bg Y3).bg Y3).bg Y3).bg Y3
       replace hS:=Sep.mOut (a:=[_,_,_,_]) (p:=[_]) (M:=mRs ms90) (R:=rsF) hS
       refine sc1 rfl rfl rfl (s_callv isfn74 ef (e1 (et (k100 (k60 d5))) (e1 ec (e1 (et (k100 (k70 d7))) (e1 ec e0)))) (gen_put_w (hg.t le129) (m6.up le129) (m8.up le129) (m10.up le129) (m11.up le129) m130 m131 m132 g313 hS) ?_)
       rintro _ w17 ⟨μ12,v315,cs316,v318,cs319,v321,ms322,rfl,le314,hS,m317,m320,m323⟩
       replace hS:=Sep.mOut (a:=[_,_,_,_]) (p:=mRs ms322) (M:=[_]) (R:=rsF) hS
       refine po (nu (cseq ?_))
       refine ccutE (rg 179 20) (by decide) (fun m w=>∃ μx i324,m=(yK4 (.i (.int .i64 i324)::(yK50 (yK50 (yK50 (yK20 (yK4 (yO20 179 []))))))))∧gen_expr_j2 r312 i324=some r∧Le μ12 μx∧Sq μx w0 w (.blk b1 157 [.pointer (some ⟨b3,o4,none⟩),.int .i64 r312.2.1,.int .i64 r312.2.2.1,v315,.int .i64 r312.2.2.2.2.1,.int .i64 r312.2.2.2.2.2.1,v318,v321]::.row v315 3 1 r312.2.2.2.1.length cs316::.row v318 120 3 r312.2.2.2.2.2.2.1.length cs319::.row v321 95 1 r312.2.2.2.2.2.2.2.length (cOf ms322)::(mRs ms322++rsF))) (by rintro _ _ ⟨_,_,rfl,_⟩; rfl) ?_ ?_
       ·refine cdw hS ?_; clear hS; intro w18 hS
        refine cpi 0 rfl (cpi 1 rfl (cpi 2 rfl (cpi 4 rfl (cpi 5 rfl (cpi 6 rfl (cpi 11 rfl (cpi 12 rfl (cpi 13 rfl (cr 7 [7,8,9,10,15,16,17,18,19,20] rfl (u_load ti94 (et (k100 (k80 d5))) ((hS.blk d0).cell d0)) (q100 (q80 p6)) (cpi 8 rfl (cpi 9 rfl (cr 10 [10,15,16,17,18,19,20] rfl (u_load ti96 (et (k100 (k80 d8))) ((m11 _ ((le129.t le314) _ hS.a)).one d2)) (q100 (q80 p9)) (cr 14 [14,15,16,17,18,19,20] rfl (u_load ti9 (et (k100 (k90 d2))) ((m33 _ ((le129.t le314) _ hS.a)).one d2)) (q100 (q90 p3)) ?_)))))))))))))
        refine sc2G (i:=3) (j:=15) rfl rfl rfl rfl rfl (wn0 rfl) (wn0 rfl) ?_ ?_
        ·refine id (s_load ti94 (et (k100 (k80 d1))) ((hS.blk d0).cell d0) (dt (q100 (q80 p2))) ?_)
         obtain ⟨es325,c326,hb327,hq328⟩:=(m10.up (le129.t le314))
         refine sc1 rfl rfl rfl (s_mgetP1 (κ:=List UInt8) (k:=p_2.Name) (hrv:=fun _ _ h=>h) underlying96 underlying9 (et (k100 (k80 d9))) (et (k100 (k90 d3))) zv99 (hb327 _ hS.a) hq328 ?_); intro v329 hv330; refine po ?_
         obtain ⟨x331,g332,h⟩:=bI h
         obtain ⟨b333,o334,cs335,rfl,f336,m337⟩:=Np.get hv330 g332
         obtain ⟨a338,c339,a341,c342,rfl,m340,m343⟩:=m337
         refine cpi 16 rfl (cpi 17 rfl (cr 18 [18,19,20] rfl (u_loads ti87 (et (k100 (k90 d6))) ((f336 _ hS.a).sb 2 2) rfl) (q100 (q90 p7)) ?_))
         obtain ⟨r344,g345,h⟩:=bI h
         refine sc1 rfl rfl rfl (s_callv isfn38 ef (e1 (et (k100 (k80 d2))) (e1 (et (k100 (k90 d7))) e0)) (gen_typ_w (hg.t (le129.t le314)) (m6.up (le129.t le314)) (m8.up (le129.t le314)) (m10.up (le129.t le314)) (m11.up (le129.t le314)) g345 hS) ?_)
         rintro _ w19 ⟨μ13,rfl,le346,hS⟩
         refine po (cpi 20 rfl (sc_nil (xl ?_)))
         replace hS:=hS.drop (Rm.s (Rm.s (Rm.s (Rm.s Rm.z))))
         exact ⟨_,_,rfl,(aK4 (aI (aK50 (aK50 (aK50 (aK20 (aK4 (aO20 aZ)))))))),_,_,rfl,h,le346,hS⟩
        ·obtain ⟨x331,g332,h⟩:=bI h
         obtain ⟨r344,g345,h⟩:=bI h
         obtain ⟨es347,c348,hb349,hq350⟩:=(m10.up (le129.t le314))
         refine id (s_mgetP1 (κ:=List UInt8) (k:=p_2.Name) (hrv:=fun _ _ h=>h) underlying96 underlying9 (et (k100 (k80 d9))) (et (k100 (k90 d3))) zv99 (hb349 _ hS.a) hq350 ?_); intro v351 hv352; refine po ?_
         obtain ⟨b353,o354,cs355,rfl,f356,m357⟩:=Np.get hv352 g332
         obtain ⟨a358,c359,a361,c362,rfl,m360,m363⟩:=m357
         refine cpi 16 rfl (cpi 17 rfl (cr 3 [3,19,20] rfl (u_load ti94 (et (k100 (k80 d1))) ((hS.blk d0).cell d0)) (q100 (q80 p2)) (cr 18 [18,19,20] rfl (u_loads ti87 (et (k100 (k90 d6))) ((f356 _ hS.a).sb 2 2) rfl) (q100 (q90 p7)) (sc1 rfl rfl rfl (s_callv isfn38 ef (e1 (et (k100 (k80 d2))) (e1 (et (k100 (k90 d7))) e0)) (gen_typ_w (hg.t (le129.t le314)) (m6.up (le129.t le314)) (m8.up (le129.t le314)) (m10.up (le129.t le314)) (m11.up (le129.t le314)) g345 hS) ?_)))))
         rintro _ w20 ⟨μ14,rfl,le364,hS⟩
         refine po (cpi 20 rfl (sc_nil (xl ?_)))
         replace hS:=hS.drop (Rm.s (Rm.s (Rm.s (Rm.s Rm.z))))
         exact ⟨_,_,rfl,(aK4 (aI (aK50 (aK50 (aK50 (aK20 (aK4 (aO20 aZ)))))))),_,_,rfl,h,le364,hS⟩
       ·rintro _ t w21 ⟨μ15,i324,rfl,h,le365,hS⟩
        unfold gen_expr_j2 at h
        refine nrm (mK4 (mi (mK50 (mK50 (mK50 (mK20 (mK4 (mO20 mz)))))))) (xn (cret ?_))
        refine (fun h=>br (xr h)) ?_
        obtain rfl:=oI h
        refine ret1 rfl d4 ?_
        replace hS:Sq μ15 w0 _ (.blk b1 157 [.pointer (some ⟨b3,o4,none⟩),.int .i64 r312.2.1,.int .i64 r312.2.2.1,v315,.int .i64 r312.2.2.2.2.1,.int .i64 r312.2.2.2.2.2.1,v318,v321]::.row v315 3 1 r312.2.2.2.1.length cs316::.row v318 120 3 r312.2.2.2.2.2.2.1.length cs319::.row v321 95 1 r312.2.2.2.2.2.2.2.length (cOf ms322)::(mRs ms322++rsF)):=hS
        exact ⟨_,_,_,_,_,_,_,rfl,(le129.t (le314.t le365)),hS,(m317.up le365),(m320.up le365),(m323.up le365)⟩
theorem GenE_sound:∀ n,GenESound (GenE_run n)
  | 0=>⟨(by intros; rename_i h _; cases h)⟩
  | n+1=>⟨gen_expr_w (GenE_sound n)⟩
structure GenSSound (sf:GenS):Prop where
  gen_body:∀ {μ0:M} {w0 w:World} {rsF:List Res} (hg:Le Gm μ0) {b1:Nat} {tabl_2:TGt} {b3 o4 b5 b7 b9:Nat} {kind_12 para_13:Int} {loca_14:List Int} {v15:Value} {cs16:List Value} {resu_18 take_19:Int} {code_20:List TInstr} {v21:Value} {cs22:List Value} {bloc_24:List (List (List UInt8×Int))} {v25:Value} {ms26:List (Nat×List MapEntry×Nat)} {p_2:List TStat} {a28:Option Addr} {c29:Nat} {r:Int×Int×List Int×Int×Int×List TInstr×List (List (List UInt8×Int))} (m6:Mr μ0 b5 tabl_2.boxes) (m8:Mr μ0 b7 tabl_2.units) (m10:Mr μ0 b9 tabl_2.defs) (m11:At μ0 b3 o4 [.map (some b5),.map (some b7),.map (some b9)]) (m17:Rw μ0 cs16 loca_14) (m23:Rw μ0 cs22 code_20) (m27:Ms μ0 ms26 bloc_24) (m30:Sl μ0 a28 c29 p_2) (h:sf.gen_body tabl_2 kind_12 para_13 loca_14 resu_18 take_19 code_20 bloc_24 p_2=some r) (hS:Sq μ0 w0 w (.blk b1 157 [.pointer (some ⟨b3,o4,none⟩),.int .i64 kind_12,.int .i64 para_13,v15,.int .i64 resu_18,.int .i64 take_19,v21,v25]::.row v15 3 1 loca_14.length cs16::.row v21 120 3 code_20.length cs22::.row v25 95 1 bloc_24.length (cOf ms26)::(mRs ms26++rsF))),CallsV prog 73 [.pointer (some ⟨b1,0,none⟩),.slice a28 p_2.length c29] w (fun v w'=>∃ (μ':M) (v31:Value) (cs32:List Value) (v34:Value) (cs35:List Value) (v37:Value) (ms38:List (Nat×List MapEntry×Nat)),v=.tuple ⟨[]⟩∧Le μ0 μ'∧Sq μ' w0 w' (.blk b1 157 [.pointer (some ⟨b3,o4,none⟩),.int .i64 r.1,.int .i64 r.2.1,v31,.int .i64 r.2.2.2.1,.int .i64 r.2.2.2.2.1,v34,v37]::.row v31 3 1 r.2.2.1.length cs32::.row v34 120 3 r.2.2.2.2.2.1.length cs35::.row v37 95 1 r.2.2.2.2.2.2.length (cOf ms38)::(mRs ms38++rsF))∧Rw μ' cs32 r.2.2.1∧Rw μ' cs35 r.2.2.2.2.2.1∧Ms μ' ms38 r.2.2.2.2.2.2)
  gen_stat:∀ {μ0:M} {w0 w:World} {rsF:List Res} (hg:Le Gm μ0) {b1:Nat} {tabl_2:TGt} {b3 o4 b5 b7 b9:Nat} {kind_12 para_13:Int} {loca_14:List Int} {v15:Value} {cs16:List Value} {resu_18 take_19:Int} {code_20:List TInstr} {v21:Value} {cs22:List Value} {bloc_24:List (List (List UInt8×Int))} {v25:Value} {ms26:List (Nat×List MapEntry×Nat)} {p_2:TStat} {b28 o29:Nat} {a30:Option Addr} {c31:Nat} {a33:Option Addr} {c34:Nat} {a36:Option Addr} {c37:Nat} {r:Int×Int×List Int×Int×Int×List TInstr×List (List (List UInt8×Int))} (m6:Mr μ0 b5 tabl_2.boxes) (m8:Mr μ0 b7 tabl_2.units) (m10:Mr μ0 b9 tabl_2.defs) (m11:At μ0 b3 o4 [.map (some b5),.map (some b7),.map (some b9)]) (m17:Rw μ0 cs16 loca_14) (m23:Rw μ0 cs22 code_20) (m27:Ms μ0 ms26 bloc_24) (m32:Sl μ0 a30 c31 p_2.X.Kids) (m35:Sl μ0 a33 c34 p_2.Body) (m38:Sl μ0 a36 c37 p_2.Else) (m39:At μ0 b28 o29 [.int .i64 p_2.Kind,S p_2.Name,.int .i64 p_2.X.Kind,.int .i64 p_2.X.N,S p_2.X.Name,.slice a30 p_2.X.Kids.length c31,.slice a33 p_2.Body.length c34,.slice a36 p_2.Else.length c37]) (h:sf.gen_stat tabl_2 kind_12 para_13 loca_14 resu_18 take_19 code_20 bloc_24 p_2=some r) (hS:Sq μ0 w0 w (.blk b1 157 [.pointer (some ⟨b3,o4,none⟩),.int .i64 kind_12,.int .i64 para_13,v15,.int .i64 resu_18,.int .i64 take_19,v21,v25]::.row v15 3 1 loca_14.length cs16::.row v21 120 3 code_20.length cs22::.row v25 95 1 bloc_24.length (cOf ms26)::(mRs ms26++rsF))),CallsV prog 110 [.pointer (some ⟨b1,0,none⟩),.pointer (some ⟨b28,o29,none⟩)] w (fun v w'=>∃ (μ':M) (v40:Value) (cs41:List Value) (v43:Value) (cs44:List Value) (v46:Value) (ms47:List (Nat×List MapEntry×Nat)),v=.tuple ⟨[]⟩∧Le μ0 μ'∧Sq μ' w0 w' (.blk b1 157 [.pointer (some ⟨b3,o4,none⟩),.int .i64 r.1,.int .i64 r.2.1,v40,.int .i64 r.2.2.2.1,.int .i64 r.2.2.2.2.1,v43,v46]::.row v40 3 1 r.2.2.1.length cs41::.row v43 120 3 r.2.2.2.2.2.1.length cs44::.row v46 95 1 r.2.2.2.2.2.2.length (cOf ms47)::(mRs ms47++rsF))∧Rw μ' cs41 r.2.2.1∧Rw μ' cs44 r.2.2.2.2.2.1∧Ms μ' ms47 r.2.2.2.2.2.2)
theorem gen_body_w {self:GenS} (IH:GenSSound self) {μ0:M} {w0 w:World} {rsF:List Res} (hg:Le Gm μ0) {b1:Nat} {tabl_2:TGt} {b3 o4 b5 b7 b9:Nat} {kind_12 para_13:Int} {loca_14:List Int} {v15:Value} {cs16:List Value} {resu_18 take_19:Int} {code_20:List TInstr} {v21:Value} {cs22:List Value} {bloc_24:List (List (List UInt8×Int))} {v25:Value} {ms26:List (Nat×List MapEntry×Nat)} {p_2:List TStat} {a28:Option Addr} {c29:Nat} {r:Int×Int×List Int×Int×Int×List TInstr×List (List (List UInt8×Int))} (m6:Mr μ0 b5 tabl_2.boxes) (m8:Mr μ0 b7 tabl_2.units) (m10:Mr μ0 b9 tabl_2.defs) (m11:At μ0 b3 o4 [.map (some b5),.map (some b7),.map (some b9)]) (m17:Rw μ0 cs16 loca_14) (m23:Rw μ0 cs22 code_20) (m27:Ms μ0 ms26 bloc_24) (m30:Sl μ0 a28 c29 p_2) (h:gen_body self tabl_2 kind_12 para_13 loca_14 resu_18 take_19 code_20 bloc_24 p_2=some r) (hS:Sq μ0 w0 w (.blk b1 157 [.pointer (some ⟨b3,o4,none⟩),.int .i64 kind_12,.int .i64 para_13,v15,.int .i64 resu_18,.int .i64 take_19,v21,v25]::.row v15 3 1 loca_14.length cs16::.row v21 120 3 code_20.length cs22::.row v25 95 1 bloc_24.length (cOf ms26)::(mRs ms26++rsF))):CallsV prog 73 [.pointer (some ⟨b1,0,none⟩),.slice a28 p_2.length c29] w (fun v w'=>∃ (μ':M) (v31:Value) (cs32:List Value) (v34:Value) (cs35:List Value) (v37:Value) (ms38:List (Nat×List MapEntry×Nat)),v=.tuple ⟨[]⟩∧Le μ0 μ'∧Sq μ' w0 w' (.blk b1 157 [.pointer (some ⟨b3,o4,none⟩),.int .i64 r.1,.int .i64 r.2.1,v31,.int .i64 r.2.2.2.1,.int .i64 r.2.2.2.2.1,v34,v37]::.row v31 3 1 r.2.2.1.length cs32::.row v34 120 3 r.2.2.2.2.2.1.length cs35::.row v37 95 1 r.2.2.2.2.2.2.length (cOf ms38)::(mRs ms38++rsF))∧Rw μ' cs32 r.2.2.1∧Rw μ' cs35 r.2.2.2.2.2.1∧Ms μ' ms38 r.2.2.2.2.2.2):=by
 unfold gen_body at h
 refine enter func73 rfl (frm:=_::_::u1 (u2 (u5 (u10 (u20 []))))) rfl (nz ?_)
 iterate 4 refine st ?_
 refine ld ((hS.blk d0).cell d7) ?_
 refine wl (s_mkmap hS ?_); clear hS; intro b40 w1 hb41 hS; refine po ?_
 refine wl (s_bsl underlying155 ti95 (Parts.s (et (k10 d0)) rfl Parts.z) rfl rfl hS ?_); clear hS; intro b42 w2 hb43 hS; refine po ?_
 obtain ⟨l44,g45,h⟩:=bI h
 have hms48a:=app_eq g45
 refine wl (s_appM (κ:=List UInt8) (β:=Int) underlying155 ti95 rfl (et d9) (et (k10 d1)) hS d5 (hS.blk d0).cells g45 (by decide) ?_); clear hS; intro v46 w3 rs_ hp_ hS; cases (show _=rs_ from hp_)
 replace hS:=Sep.reput hS p5; refine po ?_
 replace hS:=((((hS.drop Rm.z).bg Y4).bg Y4).bg Y4).bg Y4
 rw [cellsOf_push ms26 b40 0 []] at hS; replace hS:=hS.pushM (pre:=[_,_,_,_])
 have m49:=Ms.push (e:=(b40,[],0)) m27 (Mq.nil (κ:=List UInt8) (β:=Int) (μ:=μ0) (c:=0)); rw [← hms48a.1] at m49
 generalize hms48:(ms26++[(b40,[],0)])=ms47 at hS m49
 iterate 2 refine st ?_
 refine wl (s_store1 ti155 (et (k10 d4)) (et (k10 d2)) (hS.get d3).cellV hS d0 p7 rfl p0 dn ?_)
 clear hS; intro w4 hS
 refine ny (nz (st (wl (su (u_lensl underlying89 (et (k10 d5))) (dt (q10 p6)) (st (nw (cblock ?_)))))))
 refine cloopE ([4]++rg 18 8) (by decide) (fun n m w=>∃ μx i81 i82 i83 i84 i85 l88 v86 cs87 l92 v90 cs91 l96 v94 ms95,m=(yK4 (yO1 4 (yK10 (yK2 (.i (.int .i64 i81)::(yO8 18 []))))))∧gen_body_l1 self p_2 tabl_2 n i81 i82 i83 i84 i85 l88 l92 l96=some r∧Le μ0 μx∧Sq μx w0 w (.blk b1 157 [.pointer (some ⟨b3,o4,none⟩),.int .i64 i82,.int .i64 i83,v86,.int .i64 i84,.int .i64 i85,v90,v94]::.row v86 3 1 l88.length cs87::.row v90 120 3 l92.length cs91::.row v94 95 1 l96.length (cOf ms95)::(mRs ms95++rsF))∧Rw μx cs87 l88∧Rw μx cs91 l92∧Ms μx ms95 l96) (by rintro _ _ _ ⟨_,_,_,_,_,_,_,_,_,_,_,_,_,_,_,rfl,_⟩; rfl) _ _ (aK4 (aO1 (aK10 (aK2 (aI (aO8 aZ)))))) ⟨_,0,kind_12,para_13,resu_18,take_19,loca_14,v15,cs16,code_20,v21,cs22,l44,v46,ms47,rfl,h,Le.r,hS,m17,m23,m49⟩ ?_
 rintro n_1 _ t w5 ⟨μ1,i81,i82,i83,i84,i85,l88,v86,cs87,l92,v90,cs91,l96,v94,ms95,rfl,h,le129,hS,m130,m131,m132⟩
 cases n_1 with
 | zero=>cases h
 | succ n_1 =>
 unfold gen_body_l1 at h
 refine cnrm (mK4 (mO1 (mK10 (mK2 (mi (mO8 mz)))))) (nz (st (ny ?_)))
 refine cifd (et (k10 d8)) (fun h133=>?_) (fun h133=>?_)
 ·replace h:=iT h133 h
  refine cskip (xn (cseq (cblock (nz ?_))))
  iterate 2 refine st ?_
  refine nw (creg ?_)
  iterate 3 refine st ?_
  obtain ⟨x134,g135,h⟩:=bI h
  obtain ⟨b136,o137,cs138,e139,f140,m141⟩:=SlR.elem (m30.up le129) g135
  obtain ⟨a142,c143,a145,c146,a148,c149,rfl,m144,m147,m150⟩:=TStat.o m141
  refine wl (su (u_iax underlying89 ti195 (et (k20 d1)) (et (k20 d2)) e139) (dt (q20 p3)) ?_)
  obtain ⟨r151,g152,h⟩:=bI h
  replace hS:=(((hS.bg Y3).bg Y3).bg Y3).bg Y3
  refine ca (IH.gen_stat (hg.t le129) (m6.up le129) (m8.up le129) (m10.up le129) (m11.up le129) m130 m131 m132 m144 m147 m150 f140 g152 hS) ?_
  rintro _ w6 ⟨μ2,v154,cs155,v157,cs158,v160,ms161,rfl,le153,hS,m156,m159,m162⟩
  refine po (wnil ?_)
  refine (fun h=>bn (xn h)) ?_
  refine creg ?_
  obtain ⟨i163,g164,h⟩:=bI h
  refine wl (su (u_addc (et (k10 d7)) ec g164) (dt (q20 p5)) (st (wnil (xl ?_))))
  exact ⟨n_1,_,_,rfl,(aK4 (aO1 (aK10 (aK2 (aI (aO8 aZ)))))),⟨_,i163,r151.1,r151.2.1,r151.2.2.2.1,r151.2.2.2.2.1,r151.2.2.1,v154,cs155,r151.2.2.2.2.2.1,v157,cs158,r151.2.2.2.2.2.2,v160,ms161,rfl,h,(le129.t le153),hS,m156,m159,m162⟩,Nat.lt_succ_self _⟩
 ·replace h:=iF h133 h
  refine cexit ?_
  refine (fun h=>xe (xe (bh h))) ?_
  refine xn ?_
  refine cdw hS ?_; clear hS; intro w7 hS
  refine cpi 0 rfl (cpi 1 rfl (cpi 2 rfl (cpi 3 rfl (cpi 5 rfl (cpi 6 rfl (cpi 7 rfl (cr 8 [8,9,10,11,12,13,14] rfl (u_load ti155 (et (k30 d3)) ((hS.blk d0).cell d7)) (q30 p4) (cp 9 rfl (u_lenv underlying155 (et (k30 d4)) (hS.get d3).isSl) (q30 p5) ?_))))))))
  obtain ⟨i165,g166,h⟩:=bI h
  refine cp 10 rfl (u_subc (et (k30 d5)) ec g166) (q30 p6) (cr 4 [4,11,12,13,14] rfl (u_load ti155 (et (k20 d9)) ((hS.blk d0).cell d7)) (q30 p0) ?_)
  obtain ⟨l167,g168,h⟩:=bI h
  obtain ⟨v169,ms170,e171,hb172,hr173,m174,e175⟩:=Row.cutM (hS.get d3) m132 g168
  replace hS:=hS.reRow d3 hb172 hr173 p3
  replace hS:=hS.popM (pre:=[_,_,_,_]) (j:=i165.toNat); rw [e175] at hS
  refine cp 11 rfl (u_slc underlying155 ti95 (et (k30 d0)) .n (.s (et (k30 d6))) e171) (q30 p7) (cpi 12 rfl (cpi 13 rfl (sc1 rfl rfl rfl (s_store1 ti155 (et (k30 d9)) (et (k30 d7)) (hS.get d3).cellV hS d0 p7 rfl p0 dn ?_))))
  clear hS; intro w8 hS
  refine sc_nil ?_
  obtain rfl:=oI h
  refine end0 rfl ?_
  replace hS:Sq μ1 w0 _ (.blk b1 157 [.pointer (some ⟨b3,o4,none⟩),.int .i64 i82,.int .i64 i83,v86,.int .i64 i84,.int .i64 i85,v90,v169]::.row v86 3 1 l88.length cs87::.row v90 120 3 l92.length cs91::.row v169 95 1 l167.length (cOf ms170)::(mRs ms170++rsF)):=hS
  exact ⟨_,_,_,_,_,_,_,rfl,le129,hS,m130,m131,m174⟩
theorem gen_stat_w {self:GenS} (IH:GenSSound self) {fu:Nat} {μ0:M} {w0 w:World} {rsF:List Res} (hg:Le Gm μ0) {b1:Nat} {tabl_2:TGt} {b3 o4 b5 b7 b9:Nat} {kind_12 para_13:Int} {loca_14:List Int} {v15:Value} {cs16:List Value} {resu_18 take_19:Int} {code_20:List TInstr} {v21:Value} {cs22:List Value} {bloc_24:List (List (List UInt8×Int))} {v25:Value} {ms26:List (Nat×List MapEntry×Nat)} {p_2:TStat} {b28 o29:Nat} {a30:Option Addr} {c31:Nat} {a33:Option Addr} {c34:Nat} {a36:Option Addr} {c37:Nat} {r:Int×Int×List Int×Int×Int×List TInstr×List (List (List UInt8×Int))} (m6:Mr μ0 b5 tabl_2.boxes) (m8:Mr μ0 b7 tabl_2.units) (m10:Mr μ0 b9 tabl_2.defs) (m11:At μ0 b3 o4 [.map (some b5),.map (some b7),.map (some b9)]) (m17:Rw μ0 cs16 loca_14) (m23:Rw μ0 cs22 code_20) (m27:Ms μ0 ms26 bloc_24) (m32:Sl μ0 a30 c31 p_2.X.Kids) (m35:Sl μ0 a33 c34 p_2.Body) (m38:Sl μ0 a36 c37 p_2.Else) (m39:At μ0 b28 o29 [.int .i64 p_2.Kind,S p_2.Name,.int .i64 p_2.X.Kind,.int .i64 p_2.X.N,S p_2.X.Name,.slice a30 p_2.X.Kids.length c31,.slice a33 p_2.Body.length c34,.slice a36 p_2.Else.length c37]) (h:gen_stat fu self tabl_2 kind_12 para_13 loca_14 resu_18 take_19 code_20 bloc_24 p_2=some r) (hS:Sq μ0 w0 w (.blk b1 157 [.pointer (some ⟨b3,o4,none⟩),.int .i64 kind_12,.int .i64 para_13,v15,.int .i64 resu_18,.int .i64 take_19,v21,v25]::.row v15 3 1 loca_14.length cs16::.row v21 120 3 code_20.length cs22::.row v25 95 1 bloc_24.length (cOf ms26)::(mRs ms26++rsF))):CallsV prog 110 [.pointer (some ⟨b1,0,none⟩),.pointer (some ⟨b28,o29,none⟩)] w (fun v w'=>∃ (μ':M) (v40:Value) (cs41:List Value) (v43:Value) (cs44:List Value) (v46:Value) (ms47:List (Nat×List MapEntry×Nat)),v=.tuple ⟨[]⟩∧Le μ0 μ'∧Sq μ' w0 w' (.blk b1 157 [.pointer (some ⟨b3,o4,none⟩),.int .i64 r.1,.int .i64 r.2.1,v40,.int .i64 r.2.2.2.1,.int .i64 r.2.2.2.2.1,v43,v46]::.row v40 3 1 r.2.2.1.length cs41::.row v43 120 3 r.2.2.2.2.2.1.length cs44::.row v46 95 1 r.2.2.2.2.2.2.length (cOf ms47)::(mRs ms47++rsF))∧Rw μ' cs41 r.2.2.1∧Rw μ' cs44 r.2.2.2.2.2.1∧Ms μ' ms47 r.2.2.2.2.2.2):=by
 unfold gen_stat at h
 refine enter func110 rfl (frm:=_::_::u1 (u5 (u20 (u20 (u50 (u50 [])))))) rfl (cseq (nz ?_))
 iterate 3 refine st ?_
 refine ld ((m39 _ hS.a).one d0) (nw (cblock (nz ?_)))
 iterate 2 refine st ?_
 refine nw ?_
 refine cifd (et (k10 d3)) (fun h49=>?_) (fun h49=>?_)
 ·replace h:=iT h49 h
  refine nz ?_
  iterate 4 refine st ?_
  obtain ⟨r50,g51,h⟩:=bI h
  replace hS:=(((hS.bg Y3).bg Y3).bg Y3).bg Y3
  refine ca ((GenE_sound fu).gen_expr hg m6 m8 m10 m11 m17 m23 m27 m32 (m39.sb 2 4) g51 hS) ?_
  rintro _ w1 ⟨μ1,v53,cs54,v56,cs57,v59,ms60,rfl,le52,hS,m55,m58,m61⟩
  refine po (nx (st ?_))
  obtain ⟨r62,g63,h⟩:=bI h
  replace hS:=(((hS.bg Y3).bg Y3).bg Y3).bg Y3
  refine ca (gen_put_w (hg.t le52) (m6.up le52) (m8.up le52) (m10.up le52) (m11.up le52) m55 m58 m61 g63 hS) ?_
  rintro _ w2 ⟨μ2,v65,cs66,v68,cs69,v71,ms72,rfl,le64,hS,m67,m70,m73⟩
  refine po (st (nx ?_))
  iterate 4 refine st ?_
  refine ld ((m39 _ ((le52.t le64) _ hS.a)).one d6) ?_
  obtain ⟨r74,g75,h⟩:=bI h
  replace hS:=(((hS.bg Y3).bg Y3).bg Y3).bg Y3
  refine ca (IH.gen_body (hg.t (le52.t le64)) (m6.up (le52.t le64)) (m8.up (le52.t le64)) (m10.up (le52.t le64)) (m11.up (le52.t le64)) m67 m70 m73 (m35.up (le52.t le64)) g75 hS) ?_
  rintro _ w3 ⟨μ3,v77,cs78,v80,cs81,v83,ms84,rfl,le76,hS,m79,m82,m85⟩
  refine po (nx (st ?_))
  obtain ⟨r86,g87,h⟩:=bI h
  replace hS:=(((hS.bg Y3).bg Y3).bg Y3).bg Y3
  refine ca (gen_put_w (hg.t (le52.t (le64.t le76))) (m6.up (le52.t (le64.t le76))) (m8.up (le52.t (le64.t le76))) (m10.up (le52.t (le64.t le76))) (m11.up (le52.t (le64.t le76))) m79 m82 m85 g87 hS) ?_
  rintro _ w4 ⟨μ4,v89,cs90,v92,cs93,v95,ms96,rfl,le88,hS,m91,m94,m97⟩
  refine po (st (ny ?_))
  refine ccutE (rg 30 10) (by decide) (fun m w=>∃ μx l100 v98 cs99,m=(yK20 (yK10 (yO10 30 [])))∧gen_stat_j1 self p_2 tabl_2 r86 l100=some r∧Le μ4 μx∧Sq μx w0 w (.blk b1 157 [.pointer (some ⟨b3,o4,none⟩),.int .i64 r86.2.1,.int .i64 r86.2.2.1,v89,.int .i64 r86.2.2.2.2.1,.int .i64 r86.2.2.2.2.2.1,v98,v95]::.row v89 3 1 r86.2.2.2.1.length cs90::.row v98 120 3 l100.length cs99::.row v95 95 1 r86.2.2.2.2.2.2.2.length (cOf ms96)::(mRs ms96++rsF))∧Rw μx cs99 l100) (by rintro _ _ ⟨_,_,_,_,rfl,_⟩; rfl) ?_ ?_
  ·refine cdw hS ?_; clear hS; intro w5 hS
   refine sf_start (fpi 0 [0,1,2,3,4,8,9,10] rfl (fpi 1 [1,2,3,4,8,9,10] rfl (fpi 2 [2,3,4,8,9,10] rfl (fpi 3 [3,4,8,9,10] rfl (fr_ 4 [4,8,9,10] rfl (u_load ti101 (et (k30 d3)) ((hS.blk d0).cell d6)) (q30 p4) (fpi 5 [5,8,9,10] rfl (fpi 6 [6,7,8,9,10] rfl ?_)))))))
   obtain ⟨r102,g103,h⟩:=bI h
   replace hS:=(((hS.bg Y3).bg Y3).bg Y3).bg Y3
   refine sf1 rfl rfl rfl rfl (wn0 rfl) (s_callv isfn143 ef (e1 (et (k30 d6)) e0) (gen_here_w (hg.t (le52.t (le64.t (le76.t le88)))) (m6.up (le52.t (le64.t (le76.t le88)))) (m8.up (le52.t (le64.t (le76.t le88)))) (m10.up (le52.t (le64.t (le76.t le88)))) (m11.up (le52.t (le64.t (le76.t le88)))) m91 m94 m97 g103 hS) ?_)
   rintro _ w6 ⟨μ5,rfl,le104,hS⟩
   refine po ?_
   refine ⟨(Mons.s (u_load ti101 (et (k30 d3)) ((hS.blk d0).cell d6)) Mons.z),?_⟩
   obtain ⟨x105,g106,h⟩:=bI h
   obtain ⟨b107,o108,pc109,cs110,sc111,ec112,e113,f114,m115,pn116,st117,m118⟩:=Row.elemS (α:=TInstr) (hS.get d2) (m94.up le104) rfl g106
   rw [ec112] at hS
   obtain rfl:=m115
   refine fp 8 [8,9,10] rfl (u_iax underlying101 ti120 (et (k30 d4)) (et (k30 d5)) e113) (q30 p8) (fpi 9 [9,10] rfl ?_)
   have m119:=st117 _ [.int .i64 x105.Op,.int .i64 r102,.int .i64 x105.N] (TInstr.mk x105.Op r102 x105.N) Le.r rfl
   refine sf1 rfl rfl rfl rfl (wn0 rfl) (s_storeR (off:=1) ti3 (et (k30 d9)) (et (k30 d7)) rfl rfl rfl hS d2 e113 (Nat.le_of_ble_eq_true rfl) (open_store pn116 rfl (Nat.le_of_ble_eq_true rfl)) p2 dn ?_); clear hS; intro w7 hS
   replace hS:Sq μ5 w0 w7 (.blk b1 157 [.pointer (some ⟨b3,o4,none⟩),.int .i64 r86.2.1,.int .i64 r86.2.2.1,v89,.int .i64 r86.2.2.2.2.1,.int .i64 r86.2.2.2.2.2.1,v92,v95]::.row v89 3 1 r86.2.2.2.1.length cs90::.row v92 120 3 (r86.2.2.2.2.2.2.1.set r62.1.toNat (TInstr.mk x105.Op r102 x105.N)).length (pc109++([.int .i64 x105.Op,.int .i64 r102,.int .i64 x105.N]++sc111))::.row v95 95 1 r86.2.2.2.2.2.2.2.length (cOf ms96)::(mRs ms96++rsF)):=by rw [List.length_set]; exact hS
   refine ⟨Mons.z,?_⟩
   refine sf_nil (xl ?_)
   exact ⟨_,_,rfl,(aK20 (aK10 (aO10 aZ))),_,(r86.2.2.2.2.2.2.1.set r62.1.toNat (TInstr.mk x105.Op r102 x105.N)),_,(pc109++([.int .i64 x105.Op,.int .i64 r102,.int .i64 x105.N]++sc111)),rfl,h,le104,hS,m119⟩
  ·rintro _ t w8 ⟨μ6,l100,v98,cs99,rfl,h,le120,hS,m121⟩
   unfold gen_stat_j1 at h
   refine nrm (mK20 (mK10 (mO10 mz))) (xn (nz ?_))
   iterate 4 refine st ?_
   refine ld ((m39 _ ((le52.t (le64.t (le76.t (le88.t le120)))) _ hS.a)).one d7) ?_
   obtain ⟨r122,g123,h⟩:=bI h
   replace hS:=(((hS.bg Y3).bg Y3).bg Y3).bg Y3
   refine ca (IH.gen_body (hg.t (le52.t (le64.t (le76.t (le88.t le120))))) (m6.up (le52.t (le64.t (le76.t (le88.t le120))))) (m8.up (le52.t (le64.t (le76.t (le88.t le120))))) (m10.up (le52.t (le64.t (le76.t (le88.t le120))))) (m11.up (le52.t (le64.t (le76.t (le88.t le120))))) (m91.up le120) m121 (m97.up le120) (m38.up (le52.t (le64.t (le76.t (le88.t le120))))) g123 hS) ?_
   rintro _ w9 ⟨μ7,v125,cs126,v128,cs129,v131,ms132,rfl,le124,hS,m127,m130,m133⟩
   refine po (ny ?_)
   refine ccutE (rg 46 10) (by decide) (fun m w=>∃ μx l136 v134 cs135,m=(yK20 (yK20 (yK6 (yO10 46 []))))∧gen_stat_j2 r122 l136=some r∧Le μ7 μx∧Sq μx w0 w (.blk b1 157 [.pointer (some ⟨b3,o4,none⟩),.int .i64 r122.1,.int .i64 r122.2.1,v125,.int .i64 r122.2.2.2.1,.int .i64 r122.2.2.2.2.1,v134,v131]::.row v125 3 1 r122.2.2.1.length cs126::.row v134 120 3 l136.length cs135::.row v131 95 1 r122.2.2.2.2.2.2.length (cOf ms132)::(mRs ms132++rsF))∧Rw μx cs135 l136) (by rintro _ _ ⟨_,_,_,_,rfl,_⟩; rfl) ?_ ?_
   ·refine cdw hS ?_; clear hS; intro w10 hS
    refine sf_start (fpi 0 [0,1,2,3,4,8,9,10] rfl (fpi 1 [1,2,3,4,8,9,10] rfl (fpi 2 [2,3,4,8,9,10] rfl (fpi 3 [3,4,8,9,10] rfl (fr_ 4 [4,8,9,10] rfl (u_load ti101 (et (k40 d9)) ((hS.blk d0).cell d6)) (q50 p0) (fpi 5 [5,8,9,10] rfl (fpi 6 [6,7,8,9,10] rfl ?_)))))))
    obtain ⟨r138,g139,h⟩:=bI h
    replace hS:=(((hS.bg Y3).bg Y3).bg Y3).bg Y3
    refine sf1 rfl rfl rfl rfl (wn0 rfl) (s_callv isfn143 ef (e1 (et (k50 d2)) e0) (gen_here_w (hg.t (le52.t (le64.t (le76.t (le88.t (le120.t le124)))))) (m6.up (le52.t (le64.t (le76.t (le88.t (le120.t le124)))))) (m8.up (le52.t (le64.t (le76.t (le88.t (le120.t le124)))))) (m10.up (le52.t (le64.t (le76.t (le88.t (le120.t le124)))))) (m11.up (le52.t (le64.t (le76.t (le88.t (le120.t le124)))))) m127 m130 m133 g139 hS) ?_)
    rintro _ w11 ⟨μ8,rfl,le140,hS⟩
    refine po ?_
    refine ⟨(Mons.s (u_load ti101 (et (k40 d9)) ((hS.blk d0).cell d6)) Mons.z),?_⟩
    obtain ⟨x141,g142,h⟩:=bI h
    obtain ⟨b143,o144,pc145,cs146,sc147,ec148,e149,f150,m151,pn152,st153,m154⟩:=Row.elemS (α:=TInstr) (hS.get d2) (m130.up le140) rfl g142
    rw [ec148] at hS
    obtain rfl:=m151
    refine fp 8 [8,9,10] rfl (u_iax underlying101 ti120 (et (k50 d0)) (et (k50 d1)) e149) (q50 p4) (fpi 9 [9,10] rfl ?_)
    have m155:=st153 _ [.int .i64 x141.Op,.int .i64 r138,.int .i64 x141.N] (TInstr.mk x141.Op r138 x141.N) Le.r rfl
    refine sf1 rfl rfl rfl rfl (wn0 rfl) (s_storeR (off:=1) ti3 (et (k50 d5)) (et (k50 d3)) rfl rfl rfl hS d2 e149 (Nat.le_of_ble_eq_true rfl) (open_store pn152 rfl (Nat.le_of_ble_eq_true rfl)) p2 dn ?_); clear hS; intro w12 hS
    replace hS:Sq μ8 w0 w12 (.blk b1 157 [.pointer (some ⟨b3,o4,none⟩),.int .i64 r122.1,.int .i64 r122.2.1,v125,.int .i64 r122.2.2.2.1,.int .i64 r122.2.2.2.2.1,v128,v131]::.row v125 3 1 r122.2.2.1.length cs126::.row v128 120 3 (r122.2.2.2.2.2.1.set r86.1.toNat (TInstr.mk x141.Op r138 x141.N)).length (pc145++([.int .i64 x141.Op,.int .i64 r138,.int .i64 x141.N]++sc147))::.row v131 95 1 r122.2.2.2.2.2.2.length (cOf ms132)::(mRs ms132++rsF)):=by rw [List.length_set]; exact hS
    refine ⟨Mons.z,?_⟩
    refine sf_nil (xl ?_)
    exact ⟨_,_,rfl,(aK20 (aK20 (aK6 (aO10 aZ)))),_,(r122.2.2.2.2.2.1.set r86.1.toNat (TInstr.mk x141.Op r138 x141.N)),_,(pc145++([.int .i64 x141.Op,.int .i64 r138,.int .i64 x141.N]++sc147)),rfl,h,le140,hS,m155⟩
   ·rintro _ t w13 ⟨μ9,l136,v134,cs135,rfl,h,le156,hS,m157⟩
    unfold gen_stat_j2 at h
    refine nrm (mK20 (mK20 (mK6 (mO10 mz)))) (xn (cret ?_))
    refine (fun h=>br (xr h)) ?_
    obtain rfl:=oI h
    refine ret0 rfl ?_
    replace hS:Sq μ9 w0 _ (.blk b1 157 [.pointer (some ⟨b3,o4,none⟩),.int .i64 r122.1,.int .i64 r122.2.1,v125,.int .i64 r122.2.2.2.1,.int .i64 r122.2.2.2.2.1,v134,v131]::.row v125 3 1 r122.2.2.1.length cs126::.row v134 120 3 l136.length cs135::.row v131 95 1 r122.2.2.2.2.2.2.length (cOf ms132)::(mRs ms132++rsF)):=hS
    exact ⟨_,_,_,_,_,_,_,rfl,(le52.t (le64.t (le76.t (le88.t (le120.t (le124.t le156)))))),hS,(m127.up le156),m157,(m133.up le156)⟩
 ·replace h:=iF h49 h
  refine nz ?_
  iterate 2 refine st ?_
  refine nw ?_
  refine cifd (et (k50 d6)) (fun h158=>?_) (fun h158=>?_)
  ·replace h:=iT h158 h
   refine nz (st ?_)
   obtain ⟨r159,g160,h⟩:=bI h
   replace hS:=(((hS.bg Y3).bg Y3).bg Y3).bg Y3
   refine ca (gen_here_w hg m6 m8 m10 m11 m17 m23 m27 g160 hS) ?_
   rintro _ w14 ⟨μ10,rfl,le161,hS⟩
   refine po (st (nx ?_))
   iterate 4 refine st ?_
   obtain ⟨r162,g163,h⟩:=bI h
   replace hS:=(((hS.bg Y3).bg Y3).bg Y3).bg Y3
   refine ca ((GenE_sound fu).gen_expr (hg.t le161) (m6.up le161) (m8.up le161) (m10.up le161) (m11.up le161) (m17.up le161) (m23.up le161) (m27.up le161) (m32.up le161) ((m39.up le161).sb 2 4) g163 hS) ?_
   rintro _ w15 ⟨μ11,v165,cs166,v168,cs169,v171,ms172,rfl,le164,hS,m167,m170,m173⟩
   refine po (nx (st ?_))
   obtain ⟨r174,g175,h⟩:=bI h
   replace hS:=(((hS.bg Y3).bg Y3).bg Y3).bg Y3
   refine ca (gen_put_w (hg.t (le161.t le164)) (m6.up (le161.t le164)) (m8.up (le161.t le164)) (m10.up (le161.t le164)) (m11.up (le161.t le164)) m167 m170 m173 g175 hS) ?_
   rintro _ w16 ⟨μ12,v177,cs178,v180,cs181,v183,ms184,rfl,le176,hS,m179,m182,m185⟩
   refine po (st (nx ?_))
   iterate 4 refine st ?_
   refine ld ((m39 _ ((le161.t (le164.t le176)) _ hS.a)).one d6) ?_
   obtain ⟨r186,g187,h⟩:=bI h
   replace hS:=(((hS.bg Y3).bg Y3).bg Y3).bg Y3
   refine ca (IH.gen_body (hg.t (le161.t (le164.t le176))) (m6.up (le161.t (le164.t le176))) (m8.up (le161.t (le164.t le176))) (m10.up (le161.t (le164.t le176))) (m11.up (le161.t (le164.t le176))) m179 m182 m185 (m35.up (le161.t (le164.t le176))) g187 hS) ?_
   rintro _ w17 ⟨μ13,v189,cs190,v192,cs193,v195,ms196,rfl,le188,hS,m191,m194,m197⟩
   refine po (nx ?_)
   iterate 2 refine st ?_
   obtain ⟨r198,g199,h⟩:=bI h
   replace hS:=(((hS.bg Y3).bg Y3).bg Y3).bg Y3
   refine ca (gen_put_w (hg.t (le161.t (le164.t (le176.t le188)))) (m6.up (le161.t (le164.t (le176.t le188)))) (m8.up (le161.t (le164.t (le176.t le188)))) (m10.up (le161.t (le164.t (le176.t le188)))) (m11.up (le161.t (le164.t (le176.t le188)))) m191 m194 m197 g199 hS) ?_
   rintro _ w18 ⟨μ14,v201,cs202,v204,cs205,v207,ms208,rfl,le200,hS,m203,m206,m209⟩
   refine po (ny ?_)
   refine ccutE (rg 76 10) (by decide) (fun m w=>∃ μx l212 v210 cs211,m=(yK50 (yK20 (yK6 (yO10 76 []))))∧gen_stat_j3 r198 l212=some r∧Le μ14 μx∧Sq μx w0 w (.blk b1 157 [.pointer (some ⟨b3,o4,none⟩),.int .i64 r198.2.1,.int .i64 r198.2.2.1,v201,.int .i64 r198.2.2.2.2.1,.int .i64 r198.2.2.2.2.2.1,v210,v207]::.row v201 3 1 r198.2.2.2.1.length cs202::.row v210 120 3 l212.length cs211::.row v207 95 1 r198.2.2.2.2.2.2.2.length (cOf ms208)::(mRs ms208++rsF))∧Rw μx cs211 l212) (by rintro _ _ ⟨_,_,_,_,rfl,_⟩; rfl) ?_ ?_
   ·refine cdw hS ?_; clear hS; intro w19 hS
    refine sf_start (fpi 0 [0,1,2,3,4,8,9,10] rfl (fpi 1 [1,2,3,4,8,9,10] rfl (fpi 2 [2,3,4,8,9,10] rfl (fpi 3 [3,4,8,9,10] rfl (fr_ 4 [4,8,9,10] rfl (u_load ti101 (et (k70 d9)) ((hS.blk d0).cell d6)) (q80 p0) (fpi 5 [5,8,9,10] rfl (fpi 6 [6,7,8,9,10] rfl ?_)))))))
    obtain ⟨r214,g215,h⟩:=bI h
    replace hS:=(((hS.bg Y3).bg Y3).bg Y3).bg Y3
    refine sf1 rfl rfl rfl rfl (wn0 rfl) (s_callv isfn143 ef (e1 (et (k80 d2)) e0) (gen_here_w (hg.t (le161.t (le164.t (le176.t (le188.t le200))))) (m6.up (le161.t (le164.t (le176.t (le188.t le200))))) (m8.up (le161.t (le164.t (le176.t (le188.t le200))))) (m10.up (le161.t (le164.t (le176.t (le188.t le200))))) (m11.up (le161.t (le164.t (le176.t (le188.t le200))))) m203 m206 m209 g215 hS) ?_)
    rintro _ w20 ⟨μ15,rfl,le216,hS⟩
    refine po ?_
    refine ⟨(Mons.s (u_load ti101 (et (k70 d9)) ((hS.blk d0).cell d6)) Mons.z),?_⟩
    obtain ⟨x217,g218,h⟩:=bI h
    obtain ⟨b219,o220,pc221,cs222,sc223,ec224,e225,f226,m227,pn228,st229,m230⟩:=Row.elemS (α:=TInstr) (hS.get d2) (m206.up le216) rfl g218
    rw [ec224] at hS
    obtain rfl:=m227
    refine fp 8 [8,9,10] rfl (u_iax underlying101 ti120 (et (k80 d0)) (et (k80 d1)) e225) (q80 p4) (fpi 9 [9,10] rfl ?_)
    have m231:=st229 _ [.int .i64 x217.Op,.int .i64 r214,.int .i64 x217.N] (TInstr.mk x217.Op r214 x217.N) Le.r rfl
    refine sf1 rfl rfl rfl rfl (wn0 rfl) (s_storeR (off:=1) ti3 (et (k80 d5)) (et (k80 d3)) rfl rfl rfl hS d2 e225 (Nat.le_of_ble_eq_true rfl) (open_store pn228 rfl (Nat.le_of_ble_eq_true rfl)) p2 dn ?_); clear hS; intro w21 hS
    replace hS:Sq μ15 w0 w21 (.blk b1 157 [.pointer (some ⟨b3,o4,none⟩),.int .i64 r198.2.1,.int .i64 r198.2.2.1,v201,.int .i64 r198.2.2.2.2.1,.int .i64 r198.2.2.2.2.2.1,v204,v207]::.row v201 3 1 r198.2.2.2.1.length cs202::.row v204 120 3 (r198.2.2.2.2.2.2.1.set r174.1.toNat (TInstr.mk x217.Op r214 x217.N)).length (pc221++([.int .i64 x217.Op,.int .i64 r214,.int .i64 x217.N]++sc223))::.row v207 95 1 r198.2.2.2.2.2.2.2.length (cOf ms208)::(mRs ms208++rsF)):=by rw [List.length_set]; exact hS
    refine ⟨Mons.z,?_⟩
    refine sf_nil (xl ?_)
    exact ⟨_,_,rfl,(aK50 (aK20 (aK6 (aO10 aZ)))),_,(r198.2.2.2.2.2.2.1.set r174.1.toNat (TInstr.mk x217.Op r214 x217.N)),_,(pc221++([.int .i64 x217.Op,.int .i64 r214,.int .i64 x217.N]++sc223)),rfl,h,le216,hS,m231⟩
   ·rintro _ t w22 ⟨μ16,l212,v210,cs211,rfl,h,le232,hS,m233⟩
    unfold gen_stat_j3 at h
    refine nrm (mK50 (mK20 (mK6 (mO10 mz)))) (xn (cret ?_))
    refine (fun h=>br (xr h)) ?_
    obtain rfl:=oI h
    refine ret0 rfl ?_
    replace hS:Sq μ16 w0 _ (.blk b1 157 [.pointer (some ⟨b3,o4,none⟩),.int .i64 r198.2.1,.int .i64 r198.2.2.1,v201,.int .i64 r198.2.2.2.2.1,.int .i64 r198.2.2.2.2.2.1,v210,v207]::.row v201 3 1 r198.2.2.2.1.length cs202::.row v210 120 3 l212.length cs211::.row v207 95 1 r198.2.2.2.2.2.2.2.length (cOf ms208)::(mRs ms208++rsF)):=hS
    exact ⟨_,_,_,_,_,_,_,rfl,(le161.t (le164.t (le176.t (le188.t (le200.t le232))))),hS,(m203.up le232),m233,(m209.up le232)⟩
  ·replace h:=iF h158 h
   refine nz ?_
   iterate 2 refine st ?_
   refine nw ?_
   refine cifd (et (k80 d6)) (xT h) fun h234=>?_
   replace h:=iF h234 h
   refine cskip ?_
   refine (fun h=>bn (xn h)) ?_
   refine nz ?_
   iterate 4 refine st ?_
   obtain ⟨r235,g236,h⟩:=bI h
   replace hS:=(((hS.bg Y3).bg Y3).bg Y3).bg Y3
   refine ca ((GenE_sound fu).gen_expr hg m6 m8 m10 m11 m17 m23 m27 m32 (m39.sb 2 4) g236 hS) ?_
   rintro _ w23 ⟨μ17,v238,cs239,v241,cs242,v244,ms245,rfl,le237,hS,m240,m243,m246⟩
   refine po (st (nx ?_))
   iterate 3 refine st ?_
   refine ld ((m39 _ (le237 _ hS.a)).one d0) (nw (cblock (nz ?_)))
   iterate 2 refine st ?_
   refine nw ?_
   refine cifd (et (k90 d9)) (fun h247=>?_) (fun h247=>?_)
   ·replace h:=iT h247 h
    refine creg ?_
    iterate 5 refine st ?_
    refine ld ((m39 _ (le237 _ hS.a)).one d1) (st ?_)
    obtain ⟨r248,g249,h⟩:=bI h
    replace hS:=(((hS.bg Y3).bg Y3).bg Y3).bg Y3
    refine ca (gen_local_w (hg.t le237) (m6.up le237) (m8.up le237) (m10.up le237) (m11.up le237) m240 m243 m246 g249 hS) ?_
    rintro _ w24 ⟨μ18,v251,cs252,v254,cs255,v257,ms258,rfl,le250,hS,m253,m256,m259⟩
    refine po ?_
    obtain ⟨r260,g261,h⟩:=bI h
    replace hS:=(((hS.bg Y3).bg Y3).bg Y3).bg Y3
    refine ca (gen_put_w (hg.t (le237.t le250)) (m6.up (le237.t le250)) (m8.up (le237.t le250)) (m10.up (le237.t le250)) (m11.up (le237.t le250)) m253 m256 m259 g261 hS) ?_
    rintro _ w25 ⟨μ19,v263,cs264,v266,cs267,v269,ms270,rfl,le262,hS,m265,m268,m271⟩
    refine po (wnil (bn ?_))
    obtain rfl:=oI h
    refine end0 rfl ?_
    replace hS:Sq μ19 w0 _ (.blk b1 157 [.pointer (some ⟨b3,o4,none⟩),.int .i64 r260.2.1,.int .i64 r260.2.2.1,v263,.int .i64 r260.2.2.2.2.1,.int .i64 r260.2.2.2.2.2.1,v266,v269]::.row v263 3 1 r260.2.2.2.1.length cs264::.row v266 120 3 r260.2.2.2.2.2.2.1.length cs267::.row v269 95 1 r260.2.2.2.2.2.2.2.length (cOf ms270)::(mRs ms270++rsF)):=hS
    exact ⟨_,_,_,_,_,_,_,rfl,(le237.t (le250.t le262)),hS,m265,m268,m271⟩
   ·replace h:=iF h247 h
    refine nz ?_
    iterate 2 refine st ?_
    refine nw ?_
    refine cifd (et (k100 (k10 d0))) (fun h272=>?_) (fun h272=>?_)
    ·replace h:=iT h272 h
     refine creg ?_
     iterate 5 refine st ?_
     refine ld ((m39 _ (le237 _ hS.a)).one d1) ?_
     obtain ⟨r273,g274,h⟩:=bI h
     replace hS:=(((hS.bg Y3).bg Y3).bg Y3).bg Y3
     refine ca (gen_look_w (hg.t le237) (m6.up le237) (m8.up le237) (m10.up le237) (m11.up le237) m240 m243 m246 g274 hS) ?_
     rintro _ w26 ⟨μ20,rfl,le275,hS⟩
     refine po ?_
     obtain ⟨r276,g277,h⟩:=bI h
     replace hS:=(((hS.bg Y3).bg Y3).bg Y3).bg Y3
     refine ca (gen_put_w (hg.t (le237.t le275)) (m6.up (le237.t le275)) (m8.up (le237.t le275)) (m10.up (le237.t le275)) (m11.up (le237.t le275)) (m240.up le275) (m243.up le275) (m246.up le275) g277 hS) ?_
     rintro _ w27 ⟨μ21,v279,cs280,v282,cs283,v285,ms286,rfl,le278,hS,m281,m284,m287⟩
     refine po (wnil (bn ?_))
     obtain rfl:=oI h
     refine end0 rfl ?_
     replace hS:Sq μ21 w0 _ (.blk b1 157 [.pointer (some ⟨b3,o4,none⟩),.int .i64 r276.2.1,.int .i64 r276.2.2.1,v279,.int .i64 r276.2.2.2.2.1,.int .i64 r276.2.2.2.2.2.1,v282,v285]::.row v279 3 1 r276.2.2.2.1.length cs280::.row v282 120 3 r276.2.2.2.2.2.2.1.length cs283::.row v285 95 1 r276.2.2.2.2.2.2.2.length (cOf ms286)::(mRs ms286++rsF)):=hS
     exact ⟨_,_,_,_,_,_,_,rfl,(le237.t (le275.t le278)),hS,m281,m284,m287⟩
    ·replace h:=iF h272 h
     refine nz ?_
     iterate 2 refine st ?_
     refine nw ?_
     refine cifd (et (k100 (k20 d0))) (fun h288=>?_) (fun h288=>?_)
     ·replace h:=iT h288 h
      refine creg (st ?_)
      obtain ⟨r289,g290,h⟩:=bI h
      replace hS:=(((hS.bg Y3).bg Y3).bg Y3).bg Y3
      refine ca (gen_put_w (hg.t le237) (m6.up le237) (m8.up le237) (m10.up le237) (m11.up le237) m240 m243 m246 g290 hS) ?_
      rintro _ w28 ⟨μ22,v292,cs293,v295,cs296,v298,ms299,rfl,le291,hS,m294,m297,m300⟩
      refine po (wnil (bn ?_))
      obtain rfl:=oI h
      refine end0 rfl ?_
      replace hS:Sq μ22 w0 _ (.blk b1 157 [.pointer (some ⟨b3,o4,none⟩),.int .i64 r289.2.1,.int .i64 r289.2.2.1,v292,.int .i64 r289.2.2.2.2.1,.int .i64 r289.2.2.2.2.2.1,v295,v298]::.row v292 3 1 r289.2.2.2.1.length cs293::.row v295 120 3 r289.2.2.2.2.2.2.1.length cs296::.row v298 95 1 r289.2.2.2.2.2.2.2.length (cOf ms299)::(mRs ms299++rsF)):=hS
      exact ⟨_,_,_,_,_,_,_,rfl,(le237.t le291),hS,m294,m297,m300⟩
     ·replace h:=iF h288 h
      refine nz ?_
      iterate 2 refine st ?_
      refine nw ?_
      refine cifd (et (k100 (k20 d4))) (xT h) fun h301=>?_
      replace h:=iF h301 h
      refine nz ?_
      iterate 2 refine st ?_
      refine nw ?_
      refine cifd (et (k100 (k40 d0))) (fun h302=>?_) (xF h)
      replace h:=iT h302 h
      refine creg (st ?_)
      obtain ⟨r303,g304,h⟩:=bI h
      replace hS:=(((hS.bg Y3).bg Y3).bg Y3).bg Y3
      refine ca (gen_put_w (hg.t le237) (m6.up le237) (m8.up le237) (m10.up le237) (m11.up le237) m240 m243 m246 g304 hS) ?_
      rintro _ w29 ⟨μ23,v306,cs307,v309,cs310,v312,ms313,rfl,le305,hS,m308,m311,m314⟩
      refine po (wnil (bn ?_))
      obtain rfl:=oI h
      refine end0 rfl ?_
      replace hS:Sq μ23 w0 _ (.blk b1 157 [.pointer (some ⟨b3,o4,none⟩),.int .i64 r303.2.1,.int .i64 r303.2.2.1,v306,.int .i64 r303.2.2.2.2.1,.int .i64 r303.2.2.2.2.2.1,v309,v312]::.row v306 3 1 r303.2.2.2.1.length cs307::.row v309 120 3 r303.2.2.2.2.2.2.1.length cs310::.row v312 95 1 r303.2.2.2.2.2.2.2.length (cOf ms313)::(mRs ms313++rsF)):=hS
      exact ⟨_,_,_,_,_,_,_,rfl,(le237.t le305),hS,m308,m311,m314⟩
theorem GenS_sound:∀ n,GenSSound (GenS_run n)
  | 0=>⟨(by intros; rename_i h _; cases h),(by intros; rename_i h _; cases h)⟩
  | n+1=>⟨gen_body_w (GenS_sound n),gen_stat_w (GenS_sound n)⟩
theorem gen_unit_w (hg:Le Gm μ0) {p_1:TGt} {p_2:TDef} {r:TUnit} (m4:Mr μ0 b3 p_1.boxes) (m6:Mr μ0 b5 p_1.units) (m8:Mr μ0 b7 p_1.defs) (m9:At μ0 b1 o2 [.map (some b3),.map (some b5),.map (some b7)]) (m14:Sl μ0 a12 c13 p_2.Params) (m17:Sl μ0 a15 c16 p_2.Body) (m18:At μ0 b10 o11 [.int .i64 p_2.Kind,S p_2.Name,.int .i64 p_2.Typ.Kind,S p_2.Typ.Gen,.int .i64 p_2.Takes.Kind,S p_2.Takes.Gen,.int .i64 p_2.Cap,.slice a12 p_2.Params.length c13,.slice a15 p_2.Body.length c16]) (h:gen_unit fu p_1 p_2=some r) (hS:Sq μ0 w0 w (rsF)):CallsV prog 39 [.pointer (some ⟨b1,o2,none⟩),.pointer (some ⟨b10,o11,none⟩)] w (fun v w'=>∃ (μ':M) (a19:Option Addr) (c20:Nat) (a22:Option Addr) (c23:Nat),v=.agg ⟨[.int .i64 r.Kind,.int .i64 r.Params,.slice a19 r.Locals.length c20,.int .i64 r.Result,.int .i64 r.Takes,.slice a22 r.Code.length c23]⟩∧Le μ0 μ'∧Sq μ' w0 w' (rsF)∧Sl μ' a19 c20 r.Locals∧Sl μ' a22 c23 r.Code):=by
 unfold gen_unit at h
 refine enter func39 rfl (frm:=_::_::u1 (u5 (u50 (u50 [])))) rfl (nz ?_)
 refine wl (s_alloc ti103 hS ?_); clear hS; intro b25 w1 hb26 hS; refine po ?_
 refine nx ?_
 iterate 4 refine st ?_
 refine ld ((m18 _ hS.a).one d0) (wl (s_build ti103 pl103 (Fl.o rfl (et (k10 d2)) rfl rfl p0 Fl.z) (dt (q10 p3)) ?_))
 refine wl (s_mkmap hS ?_); clear hS; intro b27 w2 hb28 hS; refine po ?_
 refine wl (s_bsl underlying155 ti95 (Parts.s (et (k10 d4)) rfl Parts.z) rfl rfl hS ?_); clear hS; intro b29 w3 hb30 hS; refine po ?_
 refine wl (s_build ti157 pl157 (Fl.o rfl (et d8) rfl rfl p0 (Fl.n rfl (et (k10 d3)) rfl rfl (Spl.s p1 (of_decide_eq_true rfl) (Spl.s p2 (of_decide_eq_true rfl) (Spl.s p3 (of_decide_eq_true rfl) (Spl.s p4 (of_decide_eq_true rfl) (Spl.s p5 (of_decide_eq_true rfl) (Spl.s p6 (of_decide_eq_true rfl) Spl.z)))))) (Fl.o rfl (et (k10 d5)) rfl rfl p7 Fl.z))) (dt (q10 p6)) ?_)
 refine wl (s_box (et (k10 d6)) rfl hS ?_); clear hS; intro b31 w4 hb32 hS; refine po ?_
 replace hS:=hS.blkRow (n:=1) (sz:=1) d1 rfl (by decide) p1
 replace hS:=((hS.bg Y3).bg Y2).bg Y2
 obtain ⟨ms33,hms34⟩:∃ x,x=([(b27,[],0)]:List (Nat×List MapEntry×Nat)):=⟨_,rfl⟩
 change Sq μ0 w0 _ (.blk b31 157 [.pointer (some ⟨b1,o2,none⟩),.int .i64 p_2.Kind,.int .i64 0,.slice none 0 0,.int .i64 0,.int .i64 0,.slice none 0 0,.slice (some ⟨b29,0,none⟩) 1 1]::.row (.slice (some ⟨b29,0,none⟩) 1 1) 95 1 [([]:List (List UInt8×Int))].length (cOf [(b27,[],0)])::.blk b25 103 [.int .i64 0,.int .i64 0,.slice none 0 0,.int .i64 0,.int .i64 0,.slice none 0 0]::(mRs [(b27,[],0)]++rsF)) at hS; rw [← hms34] at hS
 have m35:Ms μ0 ms33 [([]:List (List UInt8×Int))]:=by rw [hms34]; exact ⟨_,_,rfl,(Mq.nil (κ:=List UInt8) (β:=Int) (μ:=μ0) (c:=0)),rfl⟩
 refine st (ny (nz ?_))
 iterate 3 refine st ?_
 refine ld ((m18 _ hS.a).one d0) (st (nw ?_))
 refine ccutE ([7]++rg 23 37) (by decide +kernel) (fun m w=>∃ μx l38 v36 ms37 i40 i41 i42 i43 l46 v44 cs45 l50 v48 cs49,m=(yK7 (yO1 7 (yK10 (yK5 (yO20 23 (yO10 43 (yO7 53 [])))))))∧gen_unit_j1 fu p_1 p_2 l38 i40 i41 i42 i43 l46 l50=some r∧Le μ0 μx∧Sq μx w0 w (.blk b25 103 [.int .i64 0,.int .i64 0,.slice none 0 0,.int .i64 0,.int .i64 0,.slice none 0 0]::.row v36 95 1 l38.length (cOf ms37)::.blk b31 157 [.pointer (some ⟨b1,o2,none⟩),.int .i64 i40,.int .i64 i41,v44,.int .i64 i42,.int .i64 i43,v48,v36]::.row v44 3 1 l46.length cs45::.row v48 120 3 l50.length cs49::(mRs ms37++rsF))∧Ms μx ms37 l38∧Rw μx cs45 l46∧Rw μx cs49 l50) (by rintro _ _ ⟨_,_,_,_,_,_,_,_,_,_,_,_,_,_,rfl,_⟩; rfl) ?_ ?_
 ·refine cifd (et (k20 d2)) (fun h52=>?_) (fun h52=>?_)
  ·replace h:=iT h52 h
   refine cseq ?_
   refine ccutE (rg 23 19) (by decide) (fun m w=>∃ μx i53,m=(yK20 (yK3 (yO10 23 (yO9 33 []))))∧gen_unit_j2 fu p_1 p_2 i53=some r∧Le μ0 μx∧Sq μx w0 w (.blk b25 103 [.int .i64 0,.int .i64 0,.slice none 0 0,.int .i64 0,.int .i64 0,.slice none 0 0]::.row (.slice (some ⟨b29,0,none⟩) 1 1) 95 1 [([]:List (List UInt8×Int))].length (cOf ms33)::.blk b31 157 [.pointer (some ⟨b1,o2,none⟩),.int .i64 p_2.Kind,.int .i64 (p_2.Params.length:Int),.slice none 0 0,.int .i64 i53,.int .i64 0,.slice none 0 0,(.slice (some ⟨b29,0,none⟩) 1 1)]::(mRs ms33++rsF))) (by rintro _ _ ⟨_,_,rfl,_⟩; rfl) ?_ ?_
   ·refine cdw hS ?_; clear hS; intro w5 hS
    refine sf_start (fpi 0 [0,13,14,15,16,17,18,19,20] rfl (fpi 1 [1,17,18,19,20] rfl (fpi 2 [2,3,4,5,6,13,14,15,16,17,18,19,20] rfl (fpi 3 [3,4,5,6,13,14,15,16,17,18,19,20] rfl (fpi 4 [4,5,6,13,14,15,16,17,18,19,20] rfl (fr_ 5 [5,6,13,14,15,16,17,18,19,20] rfl (u_load ti88 (et (k20 d7)) ((m18 _ hS.a).one d7)) (q20 p8) (fp 6 [6,13,14,15,16,17,18,19,20] rfl (u_lensl underlying88 (et (k20 d8))) (q20 p9) (fpi 7 [7,12,13,14,15,16,17,18,19,20] rfl (fpi 8 [8,9,10,11,12,13,14,15,16,17,18,19,20] rfl (fpi 9 [9,10,11,12,13,14,15,16,17,18,19,20] rfl (fpi 10 [10,11,12,13,14,15,16,17,18,19,20] rfl (fr_ 11 [11,12,13,14,15,16,17,18,19,20] rfl (u_loads ti87 (et (k30 d3)) ((m18 _ hS.a).sb 2 2) rfl) (q30 p4) ?_))))))))))))
    obtain ⟨r54,g55,h⟩:=bI h
    refine sf1 rfl rfl rfl rfl (wn0 rfl) (s_callv isfn38 ef (e1 (et (k30 d0)) (e1 (et (k30 d4)) e0)) (gen_typ_w hg m4 m6 m8 m9 g55 hS) ?_)
    rintro _ w6 ⟨μ1,rfl,le56,hS⟩
    refine po ?_
    refine ⟨(Mons.s (u_load ti88 (et (k20 d7)) ((m18 _ (le56 _ hS.a)).one d7)) Mons.z),?_⟩
    refine fpi 13 [13,14,15,16,17,18,19,20] rfl (fpi 14 [14,15,16,17,18,19,20] rfl (fpi 15 [15,16,17,18,19,20] rfl (sf1 rfl rfl rfl rfl (wn0 rfl) (s_store1 ti3 (et (k30 d8)) (et (k20 d9)) rfl hS d0 p2 rfl p0 dn ?_))))
    clear hS; intro w7 hS
    refine ⟨Mons.z,?_⟩
    refine fpi 17 [17,18,19,20] rfl (fpi 18 [18,19,20] rfl (fpi 19 [19,20] rfl (sf1 rfl rfl rfl rfl (wn0 rfl) (s_store1 ti3 (et (k40 d1)) (et (k30 d5)) rfl hS d0 p4 rfl p0 dn ?_))))
    clear hS; intro w8 hS
    refine ⟨Mons.z,?_⟩
    refine sf_nil (xl ?_)
    replace hS:=(hS.bg Y1).bg Y2
    exact ⟨_,_,rfl,(aK20 (aK3 (aO10 (aO9 aZ)))),_,_,rfl,h,le56,hS⟩
   ·rintro _ t w9 ⟨μ2,i53,rfl,h,le57,hS⟩
    unfold gen_unit_j2 at h
    refine nrm (mK20 (mK3 (mO10 (mO9 mz)))) (xn (nz ?_))
    iterate 3 refine st ?_
    refine ld ((m18 _ (le57 _ hS.a)).one d7) (wl (su (u_lensl underlying88 (et (k40 d5))) (dt (q40 p6)) (st (nw (cblock ?_)))))
    replace hS:=hS.nilRow 3 (Mo.sz Int)
    replace hS:=hS.nilRow 120 (Mo.sz TInstr)
    replace hS:=(((hS.bg Y1).bg Y4).bg Y4).bg Y4
    refine cloopE ([7]++rg 48 12) (by decide) (fun n m w=>∃ μx i87 l90 v88 ms89 i92 i93 i94 i95 l98 v96 cs97 l102 v100 cs101,m=(yK7 (yO1 7 (yK20 (yK10 (yK9 (.i (.int .i64 i87)::(yO10 48 (yO2 58 []))))))))∧gen_unit_l1 fu p_1 p_2 n i87 l90 i92 i93 i94 i95 l98 l102=some r∧Le μ2 μx∧Sq μx w0 w (.blk b25 103 [.int .i64 0,.int .i64 0,.slice none 0 0,.int .i64 0,.int .i64 0,.slice none 0 0]::.row v88 95 1 l90.length (cOf ms89)::.blk b31 157 [.pointer (some ⟨b1,o2,none⟩),.int .i64 i92,.int .i64 i93,v96,.int .i64 i94,.int .i64 i95,v100,v88]::.row v96 3 1 l98.length cs97::.row v100 120 3 l102.length cs101::(mRs ms89++rsF))∧Ms μx ms89 l90∧Rw μx cs97 l98∧Rw μx cs101 l102) (by rintro _ _ _ ⟨_,_,_,_,_,_,_,_,_,_,_,_,_,_,_,rfl,_⟩; rfl) _ _ (aK7 (aO1 (aK20 (aK10 (aK9 (aI (aO10 (aO2 aZ)))))))) ⟨_,0,[([]:List (List UInt8×Int))],(.slice (some ⟨b29,0,none⟩) 1 1),ms33,p_2.Kind,(p_2.Params.length:Int),i53,0,[],(.slice none 0 0),[],[],(.slice none 0 0),[],rfl,h,Le.r,hS,(m35.up le57),Rw.nil,Rw.nil⟩ ?_
    rintro n_1 _ t w10 ⟨μ3,i87,l90,v88,ms89,i92,i93,i94,i95,l98,v96,cs97,l102,v100,cs101,rfl,h,le131,hS,m132,m133,m134⟩
    cases n_1 with
    | zero=>cases h
    | succ n_1 =>
    unfold gen_unit_l1 at h
    refine cnrm (mK7 (mO1 (mK20 (mK10 (mK9 (mi (mO10 (mO2 mz)))))))) (nz (st (ny ?_)))
    refine cifd (et (k40 d8)) (fun h135=>?_) (fun h135=>?_)
    ·replace h:=iT h135 h
     refine cskip (xn (cseq (cblock (nz ?_))))
     obtain ⟨x136,g137,h⟩:=bI h
     obtain ⟨b138,o139,cs140,e141,f142,m143⟩:=SlR.elem (m14.up (le57.t le131)) g137
     obtain rfl:=m143
     refine wl (su (u_iax underlying88 ti159 (et (k40 d5)) (et (k40 d7)) e141) (dt (q40 p9)) (lds (f142 _ hS.a) rfl ?_))
     refine wl (s_alloc ti159 hS ?_); clear hS; intro b144 w11 hb145 hS; refine po ?_
     refine wl (s_storeA ti159 (et d7) (et (k50 d0)) rfl rfl hS d0 rfl p0 dn ?_)
     clear hS; intro w12 hS
     refine nw ?_
     refine ccutE (rg 51 8) (by decide) (fun m w=>∃ μx l148 v146 ms147 i150 i151 i152 i153 l156 v154 cs155 l160 v158 cs159,m=(yK50 (yK1 (yO8 51 [])))∧gen_unit_j3 i87 (gen_unit_l1 fu p_1 p_2 n_1) l148 i150 i151 i152 i153 l156 l160=some r∧Le μ3 μx∧Sq μx w0 w (.blk b25 103 [.int .i64 0,.int .i64 0,.slice none 0 0,.int .i64 0,.int .i64 0,.slice none 0 0]::.row v146 95 1 l148.length (cOf ms147)::.blk b31 157 [.pointer (some ⟨b1,o2,none⟩),.int .i64 i150,.int .i64 i151,v154,.int .i64 i152,.int .i64 i153,v158,v146]::.row v154 3 1 l156.length cs155::.row v158 120 3 l160.length cs159::(mRs ms147++rsF))∧Ms μx ms147 l148∧Rw μx cs155 l156∧Rw μx cs159 l160) (by rintro _ _ ⟨_,_,_,_,_,_,_,_,_,_,_,_,_,_,rfl,_⟩; rfl) ?_ ?_
     ·refine cdw hS ?_; clear hS; intro w13 hS
      refine sf_start (fpi 0 [0,7] rfl (fpi 1 [1,2,7] rfl (fr_ 2 [2,7] rfl (u_load ti9 (et (k50 d2)) ((hS.blk d0).cell d0)) (q50 p3) (fpi 3 [3,6,7] rfl (fpi 4 [4,5,6,7] rfl (fr_ 5 [5,6,7] rfl (u_loads ti87 (et (k50 d5)) ((hS.blk d0).cellsAt (Sb.s d1 (Sb.s d2 Sb.z))) rfl) (q50 p6) ?_))))))
      obtain ⟨r162,g163,h⟩:=bI h
      refine sf1 rfl rfl rfl rfl (wn0 rfl) (s_callv isfn38 ef (e1 (et (k50 d4)) (e1 (et (k50 d6)) e0)) (gen_typ_w (hg.t (le57.t le131)) (m4.up (le57.t le131)) (m6.up (le57.t le131)) (m8.up (le57.t le131)) (m9.up (le57.t le131)) g163 hS) ?_)
      rintro _ w14 ⟨μ4,rfl,le164,hS⟩
      refine po ?_
      refine ⟨(Mons.s (u_load ti9 (et (k50 d2)) ((hS.blk d0).cell d0)) Mons.z),?_⟩
      obtain ⟨r165,g166,h⟩:=bI h
      replace hS:=(((hS.bg Y2).bg Y5).bg Y5).bg Y5
      replace hS:=Sep.mOut (a:=[_,_,_,_]) (p:=[_,_]) (M:=mRs ms89) (R:=rsF) hS
      refine sf1 rfl rfl rfl rfl (wn0 rfl) (s_callv isfn72 ef (e1 (et (k50 d1)) (e1 (et (k50 d3)) (e1 (et (k50 d7)) e0))) (gen_local_w (hg.t (le57.t (le131.t le164))) (m4.up (le57.t (le131.t le164))) (m6.up (le57.t (le131.t le164))) (m8.up (le57.t (le131.t le164))) (m9.up (le57.t (le131.t le164))) (m133.up le164) (m134.up le164) (m132.up le164) g166 hS) ?_)
      rintro _ w15 ⟨μ5,v168,cs169,v171,cs172,v174,ms175,rfl,le167,hS,m170,m173,m176⟩
      replace hS:=Sep.mOut (a:=[_,_,_,_]) (p:=mRs ms175) (M:=[_,_]) (R:=rsF) hS
      refine po ?_
      refine ⟨Mons.z,?_⟩
      refine sf_nil (xl ?_)
      replace hS:=(((((hS.drop (Rm.s (Rm.s (Rm.s (Rm.s Rm.z))))).bg Y2).bg Y2).bg Y2).bg Y3).bg Y4
      exact ⟨_,_,rfl,(aK50 (aK1 (aO8 aZ))),_,r165.2.2.2.2.2.2.2,_,_,r165.2.1,r165.2.2.1,r165.2.2.2.2.1,r165.2.2.2.2.2.1,r165.2.2.2.1,_,_,r165.2.2.2.2.2.2.1,_,_,rfl,h,(le164.t le167),hS,m176,m170,m173⟩
     ·rintro _ t w16 ⟨μ6,l148,v146,ms147,i150,i151,i152,i153,l156,v154,cs155,l160,v158,cs159,rfl,h,le177,hS,m178,m179,m180⟩
      unfold gen_unit_j3 at h
      refine nrm (mK50 (mK1 (mO8 mz))) ?_
      refine (fun h=>bn (xn h)) ?_
      refine creg ?_
      obtain ⟨i181,g182,h⟩:=bI h
      refine wl (su (u_addc (et (k40 d7)) ec g182) (dt (q50 p9)) (st (wnil (xl ?_))))
      exact ⟨n_1,_,_,rfl,(aK7 (aO1 (aK20 (aK10 (aK9 (aI (aO10 (aO2 aZ)))))))),⟨_,i181,l148,v146,ms147,i150,i151,i152,i153,l156,v154,cs155,l160,v158,cs159,rfl,h,(le131.t le177),hS,m178,m179,m180⟩,Nat.lt_succ_self _⟩
    ·replace h:=iF h135 h
     refine cexit ?_
     refine (fun h=>xe (xe (bh h))) ?_
     refine xl ?_
     exact ⟨_,_,rfl,(aK7 (aO1 (aK10 (aK5 (aO20 (aO10 (aO7 aZ))))))),_,_,_,_,_,_,_,_,_,_,_,_,_,_,rfl,h,(le57.t le131),hS,m132,m133,m134⟩
  ·replace h:=iF h52 h
   refine cskip (xl ?_)
   replace hS:=hS.nilRow 3 (Mo.sz Int)
   replace hS:=hS.nilRow 120 (Mo.sz TInstr)
   replace hS:=(((hS.bg Y1).bg Y2).bg Y3).bg Y4
   exact ⟨_,_,rfl,(aK7 (aO1 (aK10 (aK5 (aO20 (aO10 (aO7 aZ))))))),_,[([]:List (List UInt8×Int))],(.slice (some ⟨b29,0,none⟩) 1 1),_,p_2.Kind,0,0,0,[],(.slice none 0 0),[],[],(.slice none 0 0),[],rfl,h,Le.r,hS,m35,Rw.nil,Rw.nil⟩
 ·rintro _ t w17 ⟨μ7,l38,v36,ms37,i40,i41,i42,i43,l46,v44,cs45,l50,v48,cs49,rfl,h,le183,hS,m184,m185,m186⟩
  unfold gen_unit_j1 at h
  refine nrm (mK7 (mO1 (mK10 (mK5 (mO20 (mO10 (mO7 mz))))))) (xn (cseq (nz ?_)))
  iterate 3 refine st ?_
  refine ld ((m18 _ (le183 _ hS.a)).one d0) (st (nw ?_))
  refine cifd (et (k60 d4)) (xT h) fun h187=>?_
  replace h:=iF h187 h
  refine cskip (xn (nz ?_))
  iterate 4 refine st ?_
  refine ld ((m18 _ (le183 _ hS.a)).one d8) ?_
  obtain ⟨r188,g189,h⟩:=bI h
  replace hS:=(((hS.bg Y1).bg Y4).bg Y4).bg Y4
  replace hS:=Sep.mOut (a:=[_,_,_,_]) (p:=[_]) (M:=mRs ms37) (R:=rsF) hS
  refine ca ((GenS_sound fu).gen_body (hg.t le183) (m4.up le183) (m6.up le183) (m8.up le183) (m9.up le183) m185 m186 m184 (m17.up le183) g189 hS) ?_
  rintro _ w18 ⟨μ8,v191,cs192,v194,cs195,v197,ms198,rfl,le190,hS,m193,m196,m199⟩
  replace hS:=Sep.mOut (a:=[_,_,_,_]) (p:=mRs ms198) (M:=[_]) (R:=rsF) hS
  refine po (ny (nz ?_))
  iterate 3 refine st ?_
  refine ld ((m18 _ ((le183.t le190) _ hS.a)).one d0) (st (nw ?_))
  refine cifd (et (k80 d5)) (fun h200=>?_) (fun h200=>?_)
  ·replace h:=iT h200 h
   refine nz (st ?_)
   obtain ⟨r201,g202,h⟩:=bI h
   replace hS:=(((hS.bg Y3).bg Y3).bg Y3).bg Y3
   replace hS:=Sep.mOut (a:=[_,_,_,_]) (p:=[_]) (M:=mRs ms198) (R:=rsF) hS
   refine ca (gen_put_w (hg.t (le183.t le190)) (m4.up (le183.t le190)) (m6.up (le183.t le190)) (m8.up (le183.t le190)) (m9.up (le183.t le190)) m193 m196 m199 g202 hS) ?_
   rintro _ w19 ⟨μ9,v204,cs205,v207,cs208,v210,ms211,rfl,le203,hS,m206,m209,m212⟩
   replace hS:=Sep.mOut (a:=[_,_,_,_]) (p:=mRs ms211) (M:=[_]) (R:=rsF) hS
   refine po (nx ?_)
   iterate 3 refine st ?_
   refine lds ((hS.blk d0).cellsAt (Sb.s d1 (Sb.s d2 (Sb.s d3 (Sb.s d4 (Sb.s d5 (Sb.s d6 Sb.z))))))) rfl (wl (s_storeA ti103 (et d4) (et (k90 d1)) rfl (cv_s rfl (cv_s rfl (cv_s ((hS.get d1).cellV) (cv_s rfl (cv_s rfl (cv_s ((hS.get d2).cellV) cv_z)))))) hS d4 rfl p4 dn ?_))
   clear hS; intro w20 hS
   refine nw (cret (xr ?_))
   replace hS:=hS.bg Y1
   obtain ⟨μ10,a213,c214,e217,le216,m215,hq_⟩:=Sep.frzRow hS m206 rfl; clear hS
   subst e217; have hS:=hq_; clear hq_
   replace hS:=hS.bg Y1
   obtain ⟨μ11,a218,c219,e222,le221,m220,hq_⟩:=Sep.frzRow hS (m209.up le216) rfl; clear hS
   subst e222; have hS:=hq_; clear hq_
   obtain rfl:=oI h
   refine retN rfl (RVs.s (.a d4 ti103 (hS.blk d2).cells rfl) RVs.z) ?_
   replace hS:=((hS.drop Rm.z).drop Rm.z).drop Rm.z
   replace hS:=hS.popM (pre:=[]) (j:=0)
   exact ⟨_,_,_,_,_,rfl,(le183.t (le190.t (le203.t (le216.t le221)))),hS,(m215.up le221),m220⟩
  ·replace h:=iF h200 h
   refine cskip (xn (cseq (nz ?_)))
   iterate 4 refine st ?_
   refine ld ((hS.blk d0).cell d4) (st (nw ?_))
   refine ccutE (rg 98 4) (by decide) (fun m w=>∃ μx l225 v223 ms224 i227 i228 i229 i230 l233 v231 cs232 l237 v235 cs236,m=(yK50 (yK20 (yK20 (yK8 (yO4 98 [])))))∧gen_unit_j4 p_1 l225 i227 i228 i229 i230 l233 l237=some r∧Le μ8 μx∧Sq μx w0 w (.blk b25 103 [.int .i64 0,.int .i64 0,.slice none 0 0,.int .i64 0,.int .i64 0,.slice none 0 0]::.row v223 95 1 l225.length (cOf ms224)::.blk b31 157 [.pointer (some ⟨b1,o2,none⟩),.int .i64 i227,.int .i64 i228,v231,.int .i64 i229,.int .i64 i230,v235,v223]::.row v231 3 1 l233.length cs232::.row v235 120 3 l237.length cs236::(mRs ms224++rsF))∧Ms μx ms224 l225∧Rw μx cs232 l233∧Rw μx cs236 l237) (by rintro _ _ ⟨_,_,_,_,_,_,_,_,_,_,_,_,_,_,rfl,_⟩; rfl) ?_ ?_
   ·refine cifd (et (k90 d7)) (fun h239=>?_) (fun h239=>?_)
    ·replace h:=iT h239 h
     refine creg (st ?_)
     obtain ⟨r240,g241,h⟩:=bI h
     replace hS:=(((hS.bg Y3).bg Y3).bg Y3).bg Y3
     replace hS:=Sep.mOut (a:=[_,_,_,_]) (p:=[_]) (M:=mRs ms198) (R:=rsF) hS
     refine ca (gen_put_w (hg.t (le183.t le190)) (m4.up (le183.t le190)) (m6.up (le183.t le190)) (m8.up (le183.t le190)) (m9.up (le183.t le190)) m193 m196 m199 g241 hS) ?_
     rintro _ w21 ⟨μ12,v243,cs244,v246,cs247,v249,ms250,rfl,le242,hS,m245,m248,m251⟩
     replace hS:=Sep.mOut (a:=[_,_,_,_]) (p:=mRs ms250) (M:=[_]) (R:=rsF) hS
     refine po (wnil (xl ?_))
     replace hS:=((((hS.bg Y2).bg Y2).bg Y2).bg Y3).bg Y4
     exact ⟨_,_,rfl,(aK50 (aK20 (aK20 (aK8 (aO4 aZ))))),_,r240.2.2.2.2.2.2.2,_,_,r240.2.1,r240.2.2.1,r240.2.2.2.2.1,r240.2.2.2.2.2.1,r240.2.2.2.1,_,_,r240.2.2.2.2.2.2.1,_,_,rfl,h,le242,hS,m251,m245,m248⟩
    ·replace h:=iF h239 h
     refine creg (st ?_)
     obtain ⟨r252,g253,h⟩:=bI h
     replace hS:=(((hS.bg Y3).bg Y3).bg Y3).bg Y3
     replace hS:=Sep.mOut (a:=[_,_,_,_]) (p:=[_]) (M:=mRs ms198) (R:=rsF) hS
     refine ca (gen_put_w (hg.t (le183.t le190)) (m4.up (le183.t le190)) (m6.up (le183.t le190)) (m8.up (le183.t le190)) (m9.up (le183.t le190)) m193 m196 m199 g253 hS) ?_
     rintro _ w22 ⟨μ13,v255,cs256,v258,cs259,v261,ms262,rfl,le254,hS,m257,m260,m263⟩
     replace hS:=Sep.mOut (a:=[_,_,_,_]) (p:=mRs ms262) (M:=[_]) (R:=rsF) hS
     refine po (wnil (xl ?_))
     replace hS:=((((hS.bg Y2).bg Y2).bg Y2).bg Y3).bg Y4
     exact ⟨_,_,rfl,(aK50 (aK20 (aK20 (aK8 (aO4 aZ))))),_,r252.2.2.2.2.2.2.2,_,_,r252.2.1,r252.2.2.1,r252.2.2.2.2.1,r252.2.2.2.2.2.1,r252.2.2.2.1,_,_,r252.2.2.2.2.2.2.1,_,_,rfl,h,le254,hS,m263,m257,m260⟩
   ·rintro _ t w23 ⟨μ14,l225,v223,ms224,i227,i228,i229,i230,l233,v231,cs232,l237,v235,cs236,rfl,h,le264,hS,m265,m266,m267⟩
    unfold gen_unit_j4 at h
    refine nrm (mK50 (mK20 (mK20 (mK8 (mO4 mz))))) (xn (nz (st ?_)))
    obtain ⟨r268,g269,h⟩:=bI h
    replace hS:=(((hS.bg Y1).bg Y4).bg Y4).bg Y4
    replace hS:=Sep.mOut (a:=[_,_,_,_]) (p:=[_]) (M:=mRs ms224) (R:=rsF) hS
    refine ca (gen_put_w (hg.t (le183.t (le190.t le264))) (m4.up (le183.t (le190.t le264))) (m6.up (le183.t (le190.t le264))) (m8.up (le183.t (le190.t le264))) (m9.up (le183.t (le190.t le264))) m266 m267 m265 g269 hS) ?_
    rintro _ w24 ⟨μ15,v271,cs272,v274,cs275,v277,ms278,rfl,le270,hS,m273,m276,m279⟩
    replace hS:=Sep.mOut (a:=[_,_,_,_]) (p:=mRs ms278) (M:=[_]) (R:=rsF) hS
    refine po (nx ?_)
    iterate 3 refine st ?_
    refine lds ((hS.blk d0).cellsAt (Sb.s d1 (Sb.s d2 (Sb.s d3 (Sb.s d4 (Sb.s d5 (Sb.s d6 Sb.z))))))) rfl (wl (s_storeA ti103 (et d4) (et (k100 d7)) rfl (cv_s rfl (cv_s rfl (cv_s ((hS.get d1).cellV) (cv_s rfl (cv_s rfl (cv_s ((hS.get d2).cellV) cv_z)))))) hS d4 rfl p4 dn ?_))
    clear hS; intro w25 hS
    refine nw (cret ?_)
    replace hS:=hS.bg Y1
    obtain ⟨μ16,a280,c281,e284,le283,m282,hq_⟩:=Sep.frzRow hS m273 rfl; clear hS
    subst e284; have hS:=hq_; clear hq_
    replace hS:=hS.bg Y1
    obtain ⟨μ17,a285,c286,e289,le288,m287,hq_⟩:=Sep.frzRow hS (m276.up le283) rfl; clear hS
    subst e289; have hS:=hq_; clear hq_
    obtain rfl:=oI h
    refine retN rfl (RVs.s (.a d4 ti103 (hS.blk d2).cells rfl) RVs.z) ?_
    replace hS:=((hS.drop Rm.z).drop Rm.z).drop Rm.z
    replace hS:=hS.popM (pre:=[]) (j:=0)
    exact ⟨_,_,_,_,_,rfl,(le183.t (le190.t (le264.t (le270.t (le283.t le288))))),hS,(m282.up le288),m287⟩
theorem gen_compile_w (hg:Le Gm μ0) {p_1:List TDef} {r:TModule×TFault} (m3:Sl μ0 a1 c2 p_1) (h:gen_compile fu p_1=some r) (hS:Sq μ0 w0 w (rsF)):CallsV prog 22 [.slice a1 p_1.length c2] w (fun v w'=>∃ (μ':M) (a4:Option Addr) (c5:Nat) (a7:Option Addr) (c8:Nat),v=.tuple ⟨[.agg ⟨[.slice a4 r.1.Boxes.length c5,.slice a7 r.1.Units.length c8]⟩,.agg ⟨[.int .i64 r.2.Err,.int .i64 r.2.At]⟩]⟩∧Le μ0 μ'∧Sq μ' w0 w' (rsF)∧Sl μ' a4 c5 r.1.Boxes∧Sl μ' a7 c8 r.1.Units):=by
 unfold gen_compile at h
 refine enter func22 rfl (frm:=_::u2 (u2 (u5 (u20 (u50 (u50 [])))))) rfl (nz ?_)
 refine wl (s_alloc ti37 hS ?_); clear hS; intro b10 w1 hb11 hS; refine po ?_
 refine wl (s_alloc ti45 hS ?_); clear hS; intro b12 w2 hb13 hS; refine po ?_
 refine ny (nz (st ?_))
 obtain ⟨r14,g15,h⟩:=bI h
 refine ca (sema_check_w hg m3 g15 hS) ?_
 rintro _ w3 ⟨μ1,rfl,le16,hS⟩
 refine po ?_
 refine wl (s_alloc ti45 hS ?_); clear hS; intro b17 w4 hb18 hS; refine po ?_
 refine wl (s_storeA ti45 (et d4) (et (k10 d1)) rfl rfl hS d0 rfl p0 dn ?_)
 clear hS; intro w5 hS
 refine nx (st (ld ((hS.blk d0).cell d0) (st (nw ?_))))
 refine cifd (et (k10 d4)) (xT h) fun h19=>?_
 replace h:=iF h19 h
 refine cskip (xn (nz ?_))
 refine wl (s_mkmap hS ?_); clear hS; intro b20 w6 hb21 hS; refine po ?_
 refine wl (s_mkmap hS ?_); clear hS; intro b22 w7 hb23 hS; refine po ?_
 refine wl (s_mkmap hS ?_); clear hS; intro b24 w8 hb25 hS; refine po ?_
 refine wl (s_build ti98 pl98 (Fl.o rfl (et (k10 d7)) rfl rfl p0 (Fl.o rfl (et (k10 d8)) rfl rfl p1 (Fl.o rfl (et (k10 d9)) rfl rfl p2 Fl.z))) (dt (q20 p0)) ?_)
 refine wl (s_box (et (k20 d0)) rfl hS ?_); clear hS; intro b26 w9 hb27 hS; refine po ?_
 refine st (nx ?_)
 refine wl (s_alloc ti37 hS ?_); clear hS; intro b28 w10 hb29 hS; refine po ?_
 refine ny (nz (st (wl (su (u_lensl underlying43 (et (k20 d2))) (dt (q20 p3)) (st (nw (cblock ?_)))))))
 replace hS:=hS.nilRow 56 (Mo.sz TBi)
 replace hS:=(((((((hS.drop (Rm.s (Rm.s (Rm.s (Rm.s (Rm.s (Rm.s Rm.z))))))).bg Y1).bg Y2).bg Y3).bg Y4).bg Y5).bg Y6).bg Y7
 refine cloopE ([7]++rg 25 67) (by decide +kernel) (fun n m w=>∃ μx i162 l165 es163 c164 l169 es167 c168 l173 es171 c172 l177 v175 cs176,m=(yK7 (yO1 7 (yK10 (yK6 (.i (.int .i64 i162)::(yO50 25 (yO10 75 (yO7 85 []))))))))∧gen_compile_l1 fu p_1 n i162 l165 l169 l173 l177=some r∧Le μ1 μx∧Sq μx w0 w (.blk b10 37 [.slice none 0 0,.slice none 0 0]::.blk b12 45 [.int .i64 0,.int .i64 0]::.map b20 es163 c164::.map b22 es167 c168::.map b24 es171 c172::.blk b26 98 [.map (some b20),.map (some b22),.map (some b24)]::.blk b28 37 [v175,.slice none 0 0]::.row v175 56 2 l177.length cs176::rsF)∧Mq μx es163 c164 l165∧Mq μx es167 c168 l169∧Mq μx es171 c172 l173∧Rw μx cs176 l177) (by rintro _ _ _ ⟨_,_,_,_,_,_,_,_,_,_,_,_,_,_,rfl,_⟩; rfl) _ _ (aK7 (aO1 (aK10 (aK6 (aI (aO50 (aO10 (aO7 aZ)))))))) ⟨_,0,([]:List (List UInt8×Int)),[],0,([]:List (List UInt8×Int)),[],0,([]:List (List UInt8×TDef)),[],0,[],(.slice none 0 0),[],rfl,h,Le.r,hS,(Mq.nil (κ:=List UInt8) (β:=Int) (μ:=μ1) (c:=0)),(Mq.nil (κ:=List UInt8) (β:=Int) (μ:=μ1) (c:=0)),(Mq.nil (κ:=List UInt8) (β:=TDef) (μ:=μ1) (c:=0)),Rw.nil⟩ ?_
 rintro n_1 _ t w11 ⟨μ2,i162,l165,es163,c164,l169,es167,c168,l173,es171,c172,l177,v175,cs176,rfl,h,le310,hS,m311,m312,m313,m314⟩
 cases n_1 with
 | zero=>cases h
 | succ n_1 =>
 unfold gen_compile_l1 at h
 refine cnrm (mK7 (mO1 (mK10 (mK6 (mi (mO50 (mO10 (mO7 mz)))))))) (nz (st (ny ?_)))
 refine cifd (et (k20 d5)) (fun h315=>?_) (fun h315=>?_)
 ·replace h:=iT h315 h
  refine cskip (xn (cseq (cblock (nz ?_))))
  iterate 2 refine st ?_
  refine ny ?_
  refine cdw hS ?_; clear hS; intro w12 hS
  refine sf_start (fpi 0 [0,1,2,3,12] rfl (fpi 1 [1,2,3,12] rfl (fpi 2 [2,3,12] rfl (fr_ 3 [3,12] rfl (u_load ti96 (et (k20 d9)) ((hS.blk d5).cell d2)) (q30 p0) (fpi 4 [4,6,7,8,12] rfl (fpi 5 [5,6,7,8,12] rfl ?_))))))
  obtain ⟨x316,g317,h⟩:=bI h
  obtain ⟨b318,o319,cs320,e321,f322,m323⟩:=SlR.elem (m3.up (le16.t le310)) g317
  obtain ⟨a324,c325,a327,c328,rfl,m326,m329⟩:=m323
  refine fp 6 [6,7,8,12] rfl (u_iax underlying43 ti91 (et (k30 d1)) (et (k30 d2)) e321) (q30 p3) (fpi 7 [7,8,12] rfl (fr_ 8 [8,12] rfl (u_load ti9 (et (k30 d4)) ((f322 _ hS.a).one d1)) (q30 p5) (fpi 9 [9,11,12] rfl (fpi 10 [10,11,12] rfl ?_))))
  obtain ⟨x330,g331,h⟩:=bI h
  obtain ⟨b332,o333,cs334,e335,f336,m337⟩:=SlR.elem (m3.up (le16.t le310)) g331
  obtain ⟨a338,c339,a341,c342,rfl,m340,m343⟩:=m337
  refine fp 11 [11,12] rfl (u_iax underlying43 ti91 (et (k30 d6)) (et (k30 d7)) e335) (q30 p8) ?_
  refine sf1 rfl rfl rfl rfl (wn0 rfl) (s_mputM (κ:=List UInt8) (β:=TDef) (kk:=x316.Name) (xx:=x330) underlying96 underlying9 (et (k30 d0)) (et (k30 d5)) (et (k30 d8)) ⟨_,_,_,rfl,f336,(TDef.i ⟨a338,c339,a341,c342,rfl,m340,m343⟩)⟩ hS d4 m313 dn ?_); clear hS; intro es344 c345 w13 rs_ m346 hp_ hS; cases (show _=rs_ from hp_)
  replace hS:=Sep.reput hS p4
  refine ⟨Mons.z,?_⟩
  refine sf_nil (xn (nz ?_))
  iterate 2 refine st ?_
  obtain ⟨x347,g348,h⟩:=bI h
  obtain ⟨b349,o350,cs351,e352,f353,m354⟩:=SlR.elem (m3.up (le16.t le310)) g348
  obtain ⟨a355,c356,a358,c359,rfl,m357,m360⟩:=m354
  refine wl (su (u_iax underlying43 ti91 (et (k30 d9)) (et (k40 d0)) e352) (dt (q40 p1)) (st (ld ((f353 _ hS.a).one d0) (st (nw ?_)))))
  refine cifd (et (k40 d4)) (fun h361=>?_) (fun h361=>?_)
  ·replace h:=iT h361 h
   refine cseq ?_
   refine ccutE (rg 45 14) (by decide) (fun m w=>∃ μx l364 es362 c363,m=(yK20 (yK20 (yK5 (yO10 45 (yO4 55 [])))))∧gen_compile_j1 p_1 i162 l169 l173 l177 x316 x330 (gen_compile_l1 fu p_1 n_1) l364=some r∧Le μ2 μx∧Sq μx w0 w (.blk b10 37 [.slice none 0 0,.slice none 0 0]::.blk b12 45 [.int .i64 0,.int .i64 0]::.map b20 es362 c363::.map b22 es167 c168::.map b24 es344 c345::.blk b26 98 [.map (some b20),.map (some b22),.map (some b24)]::.blk b28 37 [v175,.slice none 0 0]::.row v175 56 2 l177.length cs176::rsF)∧Mq μx es362 c363 l364) (by rintro _ _ ⟨_,_,_,_,rfl,_⟩; rfl) ?_ ?_
   ·refine cdw hS ?_; clear hS; intro w14 hS
    refine sf_start (fpi 0 [0,1,2,3,14] rfl (fpi 1 [1,2,3,14] rfl (fpi 2 [2,3,14] rfl (fr_ 3 [3,14] rfl (u_load ti95 (et (k40 d7)) ((hS.blk d5).cell d0)) (q40 p8) (fpi 4 [4,6,7,8,14] rfl (fpi 5 [5,6,7,8,14] rfl ?_))))))
    obtain ⟨x366,g367,h⟩:=bI h
    obtain ⟨b368,o369,cs370,e371,f372,m373⟩:=SlR.elem (m3.up (le16.t le310)) g367
    obtain ⟨a374,c375,a377,c378,rfl,m376,m379⟩:=m373
    refine fp 6 [6,7,8,14] rfl (u_iax underlying43 ti91 (et (k40 d9)) (et (k50 d0)) e371) (q50 p1) (fpi 7 [7,8,14] rfl (fr_ 8 [8,14] rfl (u_load ti9 (et (k50 d2)) ((f372 _ hS.a).one d1)) (q50 p3) (fpi 9 [9,10,11,12,13,14] rfl (fpi 10 [10,11,12,13,14] rfl (fpi 11 [11,12,13,14] rfl (fr_ 12 [12,13,14] rfl (u_load ti95 (et (k50 d6)) ((hS.blk d5).cell d0)) (q50 p7) (sf1 rfl rfl rfl rfl (wn0 rfl) (s_lenm underlying95 (et (k50 d7)) (hS.get d2) m311 (dt (q50 p8)) ?_))))))))
    refine ⟨(Mons.s (u_load ti9 (et (k50 d2)) ((f372 _ hS.a).one d1)) (Mons.s (u_load ti95 (et (k40 d7)) ((hS.blk d5).cell d0)) Mons.z)),?_⟩
    refine sf1 rfl rfl rfl rfl (wn0 rfl) (s_mputM (κ:=List UInt8) (β:=Int) (kk:=x366.Name) (xx:=(l165.length:Int)) underlying95 underlying9 (et (k40 d8)) (et (k50 d3)) (et (k50 d8)) rfl hS d2 m311 dn ?_); clear hS; intro es380 c381 w15 rs_ m382 hp_ hS; cases (show _=rs_ from hp_)
    replace hS:=Sep.reput hS p2
    refine ⟨Mons.z,?_⟩
    refine sf_nil (xl ?_)
    exact ⟨_,_,rfl,(aK20 (aK20 (aK5 (aO10 (aO4 aZ))))),_,(mput l165 x366.Name (l165.length:Int)),es380,_,rfl,h,Le.r,hS,m382⟩
   ·rintro _ t w16 ⟨μ3,l364,es362,c363,rfl,h,le383,hS,m384⟩
    unfold gen_compile_j1 at h
    refine nrm (mK20 (mK20 (mK5 (mO10 (mO4 mz))))) (xn ?_)
    refine ccutE (rg 59 18) (by decide) (fun m w=>∃ μx l387 v385 cs386,m=(yK50 (yK9 (yO10 59 (yO8 69 []))))∧gen_compile_j2 i162 l169 l173 x316 x330 l364 (gen_compile_l1 fu p_1 n_1) l387=some r∧Le μ3 μx∧Sq μx w0 w (.blk b10 37 [.slice none 0 0,.slice none 0 0]::.blk b12 45 [.int .i64 0,.int .i64 0]::.map b20 es362 c363::.map b22 es167 c168::.map b24 es344 c345::.blk b26 98 [.map (some b20),.map (some b22),.map (some b24)]::.blk b28 37 [v385,.slice none 0 0]::.row v385 56 2 l387.length cs386::rsF)∧Rw μx cs386 l387) (by rintro _ _ ⟨_,_,_,_,rfl,_⟩; rfl) ?_ ?_
    ·refine cdw hS ?_; clear hS; intro w17 hS
     refine sf_start (fpi 0 [0,1,16,17,18] rfl (fr_ 1 [1,16,17,18] rfl (u_load ti34 (et (k50 d9)) ((hS.blk d6).cell d0)) (q60 p0) (fpi 2 [2,8,14,15,16,17,18] rfl (fpi 3 [3,5,6,7,8,14,15,16,17,18] rfl (fpi 4 [4,5,6,7,8,14,15,16,17,18] rfl ?_)))))
     obtain ⟨x389,g390,h⟩:=bI h
     obtain ⟨b391,o392,cs393,e394,f395,m396⟩:=SlR.elem (m3.up (le16.t (le310.t le383))) g390
     obtain ⟨a397,c398,a400,c401,rfl,m399,m402⟩:=m396
     refine fp 5 [5,6,7,8,14,15,16,17,18] rfl (u_iax underlying43 ti91 (et (k60 d2)) (et (k60 d3)) e394) (q60 p4) (fpi 6 [6,7,8,14,15,16,17,18] rfl (fr_ 7 [7,8,14,15,16,17,18] rfl (u_loads ti87 (et (k60 d5)) ((f395 _ hS.a).sb 2 2) rfl) (q60 p6) (fpi 9 [9,11,12,13,14,15,16,17,18] rfl (fpi 10 [10,11,12,13,14,15,16,17,18] rfl ?_))))
     obtain ⟨x403,g404,h⟩:=bI h
     obtain ⟨b405,o406,cs407,e408,f409,m410⟩:=SlR.elem (m3.up (le16.t (le310.t le383))) g404
     obtain ⟨a411,c412,a414,c415,rfl,m413,m416⟩:=m410
     refine fp 11 [11,12,13,14,15,16,17,18] rfl (u_iax underlying43 ti91 (et (k60 d8)) (et (k60 d9)) e408) (q70 p0) (fpi 12 [12,13,14,15,16,17,18] rfl (fr_ 13 [13,14,15,16,17,18] rfl (u_load ti3 (et (k70 d1)) ((f409 _ hS.a).one d6)) (q70 p2) ?_))
     obtain ⟨r417,g418,h⟩:=bI h
     replace hS:=(((hS.bg Y4).bg Y4).bg Y4).bg Y5
     refine sf1 rfl rfl rfl rfl (wn0 rfl) (s_callv isfn38 ef (e1 (et (k60 d1)) (e1 (et (k60 d6)) e0)) (gen_typo_w (hg.t (le16.t (le310.t le383))) m384 (m312.up le383) (m346.up le383) g418 hS) ?_)
     rintro _ w18 ⟨μ4,rfl,le419,hS⟩
     refine po ?_
     refine ⟨(Mons.s (u_load ti3 (et (k70 d1)) ((f409 _ (le419 _ hS.a)).one d6)) (Mons.s (u_load ti34 (et (k50 d9)) ((hS.blk d6).cell d0)) Mons.z)),?_⟩
     refine fp 14 [14,15,16,17,18] rfl (u_build ti56 pl56 (Fl.o rfl (et (k60 d7)) rfl rfl p0 (Fl.o rfl (et (k70 d2)) rfl rfl p1 Fl.z))) (q70 p3) ?_
     refine sf1 rfl rfl rfl rfl (wn0 rfl) (s_bsl1 underlying34 ti56 rfl (et (k70 d3)) rfl hS ?_); clear hS; intro b420 w19 hb421 hS; refine po ?_
     refine ⟨(Mons.s (u_load ti34 (et (k50 d9)) ((hS.blk d7).cell d0)) Mons.z),?_⟩
     obtain ⟨l424,g425,h⟩:=bI h
     have m426:Rw μ4 [.int .i64 r417,.int .i64 x403.Cap] [(TBi.mk r417 x403.Cap)]:=(Rw.one (α:=TBi) rfl)
     have m423:=Rw.app (m314.up (le383.t le419)) m426 g425
     refine sf1 rfl rfl rfl rfl (wn0 rfl) (s_app1 underlying34 ti56 rfl (et (k60 d0)) (et (k70 d4)) hS d8 (hS.blk d0).cells m426 rfl g425 (by decide) ?_); clear hS; intro v422 w20 rs_ hp_ hS; cases (show _=rs_ from hp_)
     replace hS:=Sep.reput hS p8; refine po ?_
     replace hS:=hS.drop Rm.z
     refine ⟨Mons.z,?_⟩
     refine fpi 17 [17,18] rfl (sf1 rfl rfl rfl rfl (wn0 rfl) (s_store1 ti34 (et (k70 d6)) (et (k70 d5)) (hS.get d7).cellV hS d6 p0 rfl p6 dn ?_))
     clear hS; intro w21 hS
     refine ⟨Mons.z,?_⟩
     refine sf_nil (xl ?_)
     replace hS:=(((((((hS.bg Y7).bg Y7).bg Y2).bg Y5).bg Y5).bg Y5).bg Y7).bg Y7
     exact ⟨_,_,rfl,(aK50 (aK9 (aO10 (aO8 aZ)))),_,_,_,(cs176++[.int .i64 r417,.int .i64 x403.Cap]),rfl,h,le419,hS,m423⟩
    ·rintro _ t w22 ⟨μ5,l387,v385,cs386,rfl,h,le427,hS,m428⟩
     unfold gen_compile_j2 at h
     refine nrm (mK50 (mK9 (mO10 (mO8 mz)))) ?_
     refine (fun h=>bn (xn h)) ?_
     refine creg ?_
     obtain ⟨i429,g430,h⟩:=bI h
     refine wl (su (u_addc (et (k20 d4)) ec g430) (dt (q90 p1)) (st (wnil (xl ?_))))
     exact ⟨n_1,_,_,rfl,(aK7 (aO1 (aK10 (aK6 (aI (aO50 (aO10 (aO7 aZ)))))))),⟨_,i429,l364,es362,c363,l169,es167,c168,(mput l173 x316.Name x330),es344,c345,l387,v385,cs386,rfl,h,(le310.t (le383.t le427)),hS,(m384.up le427),(m312.up (le383.t le427)),(m346.up (le383.t le427)),m428⟩,Nat.lt_succ_self _⟩
  ·replace h:=iF h361 h
   refine ccutE (rg 77 14) (by decide) (fun m w=>∃ μx l433 es431 c432,m=(yK50 (yK20 (yK7 (yO10 77 (yO4 87 [])))))∧gen_compile_j3 i162 l165 l173 l177 x316 x330 (gen_compile_l1 fu p_1 n_1) l433=some r∧Le μ2 μx∧Sq μx w0 w (.blk b10 37 [.slice none 0 0,.slice none 0 0]::.blk b12 45 [.int .i64 0,.int .i64 0]::.map b20 es163 c164::.map b22 es431 c432::.map b24 es344 c345::.blk b26 98 [.map (some b20),.map (some b22),.map (some b24)]::.blk b28 37 [v175,.slice none 0 0]::.row v175 56 2 l177.length cs176::rsF)∧Mq μx es431 c432 l433) (by rintro _ _ ⟨_,_,_,_,rfl,_⟩; rfl) ?_ ?_
   ·refine cdw hS ?_; clear hS; intro w23 hS
    refine sf_start (fpi 0 [0,1,2,3,14] rfl (fpi 1 [1,2,3,14] rfl (fpi 2 [2,3,14] rfl (fr_ 3 [3,14] rfl (u_load ti95 (et (k70 d9)) ((hS.blk d5).cell d1)) (q80 p0) (fpi 4 [4,6,7,8,14] rfl (fpi 5 [5,6,7,8,14] rfl ?_))))))
    obtain ⟨x435,g436,h⟩:=bI h
    obtain ⟨b437,o438,cs439,e440,f441,m442⟩:=SlR.elem (m3.up (le16.t le310)) g436
    obtain ⟨a443,c444,a446,c447,rfl,m445,m448⟩:=m442
    refine fp 6 [6,7,8,14] rfl (u_iax underlying43 ti91 (et (k80 d1)) (et (k80 d2)) e440) (q80 p3) (fpi 7 [7,8,14] rfl (fr_ 8 [8,14] rfl (u_load ti9 (et (k80 d4)) ((f441 _ hS.a).one d1)) (q80 p5) (fpi 9 [9,10,11,12,13,14] rfl (fpi 10 [10,11,12,13,14] rfl (fpi 11 [11,12,13,14] rfl (fr_ 12 [12,13,14] rfl (u_load ti95 (et (k80 d8)) ((hS.blk d5).cell d1)) (q80 p9) (sf1 rfl rfl rfl rfl (wn0 rfl) (s_lenm underlying95 (et (k80 d9)) (hS.get d3) m312 (dt (q90 p0)) ?_))))))))
    refine ⟨(Mons.s (u_load ti9 (et (k80 d4)) ((f441 _ hS.a).one d1)) (Mons.s (u_load ti95 (et (k70 d9)) ((hS.blk d5).cell d1)) Mons.z)),?_⟩
    refine sf1 rfl rfl rfl rfl (wn0 rfl) (s_mputM (κ:=List UInt8) (β:=Int) (kk:=x435.Name) (xx:=(l169.length:Int)) underlying95 underlying9 (et (k80 d0)) (et (k80 d5)) (et (k90 d0)) rfl hS d3 m312 dn ?_); clear hS; intro es449 c450 w24 rs_ m451 hp_ hS; cases (show _=rs_ from hp_)
    replace hS:=Sep.reput hS p3
    refine ⟨Mons.z,?_⟩
    refine sf_nil (xl ?_)
    exact ⟨_,_,rfl,(aK50 (aK20 (aK7 (aO10 (aO4 aZ))))),_,(mput l169 x435.Name (l169.length:Int)),es449,_,rfl,h,Le.r,hS,m451⟩
   ·rintro _ t w25 ⟨μ6,l433,es431,c432,rfl,h,le452,hS,m453⟩
    unfold gen_compile_j3 at h
    refine nrm (mK50 (mK20 (mK7 (mO10 (mO4 mz))))) ?_
    refine (fun h=>bn (xn h)) ?_
    refine creg ?_
    obtain ⟨i454,g455,h⟩:=bI h
    refine wl (su (u_addc (et (k20 d4)) ec g455) (dt (q90 p1)) (st (wnil (xl ?_))))
    exact ⟨n_1,_,_,rfl,(aK7 (aO1 (aK10 (aK6 (aI (aO50 (aO10 (aO7 aZ)))))))),⟨_,i454,l165,es163,c164,l433,es431,c432,(mput l173 x316.Name x330),es344,c345,l177,v175,cs176,rfl,h,(le310.t le452),hS,(m311.up le452),m453,(m346.up le452),(m314.up le452)⟩,Nat.lt_succ_self _⟩
 ·replace h:=iF h315 h
  refine cexit ?_
  refine (fun h=>xe (xe (bh h))) ?_
  refine xn (cseq (nz (st (wl (su (u_lensl underlying43 (et (k90 d2))) (dt (q90 p3)) (st (nw (cblock ?_))))))))
  replace hS:=hS.bg Y2
  obtain ⟨μ7,le457,m456,hS⟩:=Sep.frzMap hS m311
  replace hS:=hS.bg Y2
  obtain ⟨μ8,le459,m458,hS⟩:=Sep.frzMap hS (m312.up le457)
  replace hS:=hS.bg Y2
  obtain ⟨μ9,le461,m460,hS⟩:=Sep.frzMap hS (m313.up (le457.t le459))
  replace hS:=hS.bg Y2
  obtain ⟨μ10,le463,m462,hS⟩:=Sep.frzAt hS
  replace hS:=hS.nilRow 103 (Mo.sz TUnit)
  replace hS:=(((hS.bg Y4).bg Y4).bg Y4).bg Y4
  refine cloopE (rg 8 2++rg 95 33) (by decide +kernel) (fun n m w=>∃ μx i518 l521 v519 cs520,m=(yK8 (yO2 8 (yK50 (yK20 (yK10 (yK4 (.i (.int .i64 i518)::(yO20 95 (yO10 115 (yO3 125 []))))))))))∧gen_compile_l2 fu p_1 l165 l169 l173 l177 n i518 l521=some r∧Le μ10 μx∧Sq μx w0 w (.blk b10 37 [.slice none 0 0,.slice none 0 0]::.blk b12 45 [.int .i64 0,.int .i64 0]::.blk b28 37 [v175,v519]::.row v175 56 2 l177.length cs176::.row v519 103 6 l521.length cs520::rsF)∧Rw μx cs520 l521) (by rintro _ _ _ ⟨_,_,_,_,_,rfl,_⟩; rfl) _ _ (aK8 (aO2 (aK50 (aK20 (aK10 (aK4 (aI (aO20 (aO10 (aO3 aZ)))))))))) ⟨_,0,[],(.slice none 0 0),[],rfl,h,Le.r,hS,Rw.nil⟩ ?_
  rintro n_2 _ t w26 ⟨μ11,i518,l521,v519,cs520,rfl,h,le576,hS,m577⟩
  cases n_2 with
  | zero=>cases h
  | succ n_2 =>
  unfold gen_compile_l2 at h
  refine cnrm (mK8 (mO2 (mK50 (mK20 (mK10 (mK4 (mi (mO20 (mO10 (mO3 mz)))))))))) (nz (st (ny ?_)))
  refine cifd (et (k90 d5)) (fun h578=>?_) (fun h578=>?_)
  ·replace h:=iT h578 h
   refine cskip (xn (cseq (cblock (nz ?_))))
   iterate 2 refine st ?_
   refine ny (nz ?_)
   iterate 2 refine st ?_
   obtain ⟨x579,g580,h⟩:=bI h
   obtain ⟨b581,o582,cs583,e584,f585,m586⟩:=SlR.elem (m3.up (le16.t (le310.t (le457.t (le459.t (le461.t (le463.t le576))))))) g580
   obtain ⟨a587,c588,a590,c591,rfl,m589,m592⟩:=m586
   refine wl (su (u_iax underlying43 ti91 (et (k90 d7)) (et (k90 d8)) e584) (dt (q90 p9)) (st (ld ((f585 _ hS.a).one d0) (st (nw ?_)))))
   refine cifd (et (k100 d2)) (fun h593=>?_) (fun h593=>?_)
   ·replace h:=iT h593 h
    refine cexit ?_
    refine (fun h=>xe (bh h)) ?_
    refine xn (creg ?_)
    obtain ⟨i594,g595,h⟩:=bI h
    refine wl (su (u_addc (et (k90 d4)) ec g595) (dt (q100 (q20 p7))) (st (wnil (xl ?_))))
    exact ⟨n_2,_,_,rfl,(aK8 (aO2 (aK50 (aK20 (aK10 (aK4 (aI (aO20 (aO10 (aO3 aZ)))))))))),⟨_,i594,l521,v519,cs520,rfl,h,le576,hS,m577⟩,Nat.lt_succ_self _⟩
   ·replace h:=iF h593 h
    refine cskip (xn (nz ?_))
    iterate 3 refine st ?_
    obtain ⟨x596,g597,h⟩:=bI h
    obtain ⟨b598,o599,cs600,e601,f602,m603⟩:=SlR.elem (m3.up (le16.t (le310.t (le457.t (le459.t (le461.t (le463.t le576))))))) g597
    obtain ⟨a604,c605,a607,c608,rfl,m606,m609⟩:=m603
    refine wl (su (u_iax underlying43 ti91 (et (k100 d4)) (et (k100 d5)) e601) (dt (q100 p6)) ?_)
    obtain ⟨r610,g611,h⟩:=bI h
    refine ca (gen_unit_w (p_1:=(TGt.mk l165 l169 l173)) (hg.t (le16.t (le310.t (le457.t (le459.t (le461.t (le463.t le576))))))) (m456.up (le459.t (le461.t (le463.t le576)))) (m458.up (le461.t (le463.t le576))) (m460.up (le463.t le576)) (m462.up le576) m606 m609 f602 g611 hS) ?_
    rintro _ w27 ⟨μ12,a613,c614,a616,c617,rfl,le612,hS,m615,m618⟩
    refine po ?_
    refine wl (s_alloc ti103 hS ?_); clear hS; intro b619 w28 hb620 hS; refine po ?_
    refine wl (s_storeA ti103 (et d9) (et (k100 d7)) rfl rfl hS d0 rfl p0 dn ?_)
    clear hS; intro w29 hS
    refine ny (nz (st (ld ((hS.blk d0).cell d2) (wl (su (u_lensl underlying27 (et (k100 d9))) (dt (q100 (q10 p0))) ?_)))))
    iterate 2 refine st ?_
    refine wspd (k100 (k10 d2)) (q100 (q10 p2)) (q100 (q10 p2)) (xT h) fun h621=>?_
    replace h:=iF h621 h
    refine sy rfl (wy rfl (k100 (k10 d2)) (s_load ti101 (et (k100 (k10 d3))) ((hS.blk d0).cell d5) (dt (q100 (q10 p4))) (wy rfl (k100 (k10 d2)) (su (u_lensl underlying101 (et (k100 (k10 d4)))) (dt (q100 (q10 p5))) (sy rfl (st (nw ?_)))))))
    refine cifd (et (k100 (k10 d7))) (xT h) fun h622=>?_
    replace h:=iF h622 h
    refine cskip (xn (creg (st (ld ((hS.blk d3).cell d1) (lds (hS.blk d0).cells rfl ?_)))))
    refine wl (s_bsl1 underlying35 ti103 rfl (et (k100 (k20 d3))) rfl hS ?_); clear hS; intro b623 w30 hb624 hS; refine po ?_
    obtain ⟨l627,g628,h⟩:=bI h
    have m629:Rw μ12 [.int .i64 r610.Kind,.int .i64 r610.Params,.slice a613 r610.Locals.length c614,.int .i64 r610.Result,.int .i64 r610.Takes,.slice a616 r610.Code.length c617] [r610]:=(Rw.one (α:=TUnit) (TUnit.i ⟨a613,c614,a616,c617,rfl,m615,m618⟩))
    have m626:=Rw.app (m577.up le612) m629 g628
    refine wl (s_app1 underlying35 ti103 rfl (et (k100 (k20 d2))) (et (k100 (k20 d4))) hS d6 (hS.blk d0).cells m629 rfl g628 (by decide) ?_); clear hS; intro v625 w31 rs_ hp_ hS; cases (show _=rs_ from hp_)
    replace hS:=Sep.reput hS p6; refine po ?_
    replace hS:=hS.drop Rm.z
    refine st (wl (s_store1 ti35 (et (k100 (k20 d6))) (et (k100 (k20 d5))) (hS.get d5).cellV hS d3 p1 rfl p3 dn ?_))
    clear hS; intro w32 hS
    refine wnil ?_
    refine (fun h=>bn (xn h)) ?_
    refine creg ?_
    obtain ⟨i630,g631,h⟩:=bI h
    refine wl (su (u_addc (et (k90 d4)) ec g631) (dt (q100 (q20 p7))) (st (wnil (xl ?_))))
    replace hS:=hS.drop Rm.z
    exact ⟨n_2,_,_,rfl,(aK8 (aO2 (aK50 (aK20 (aK10 (aK4 (aI (aO20 (aO10 (aO3 aZ)))))))))),⟨_,i630,l627,v625,(cs520++[.int .i64 r610.Kind,.int .i64 r610.Params,.slice a613 r610.Locals.length c614,.int .i64 r610.Result,.int .i64 r610.Takes,.slice a616 r610.Code.length c617]),rfl,h,(le576.t le612),hS,m626⟩,Nat.lt_succ_self _⟩
  ·replace h:=iF h578 h
   refine cexit ?_
   refine (fun h=>xe (xe (bh h))) ?_
   refine xn (nz (lds (hS.blk d2).cells rfl (wl (s_build ti45 pl45 Fl.z (dt (q100 (q20 p9))) (wl (s_storeA ti37 (et d2) (et (k100 (k20 d8))) rfl (cv_s ((hS.get d3).cellV) (cv_s ((hS.get d4).cellV) cv_z)) hS d0 rfl p0 dn ?_))))))
   clear hS; intro w33 hS
   refine wl (s_storeA ti45 (et d3) (et (k100 (k20 d9))) rfl rfl hS d1 rfl p1 dn ?_)
   clear hS; intro w34 hS
   refine nw (cret ?_)
   replace hS:=hS.bg Y3
   obtain ⟨μ13,a632,c633,e636,le635,m634,hq_⟩:=Sep.frzRow hS (m314.up (le457.t (le459.t (le461.t (le463.t le576))))) rfl; clear hS
   subst e636; have hS:=hq_; clear hq_
   replace hS:=hS.bg Y3
   obtain ⟨μ14,a637,c638,e641,le640,m639,hq_⟩:=Sep.frzRow hS (m577.up le635) rfl; clear hS
   subst e641; have hS:=hq_; clear hq_
   obtain rfl:=oI h
   refine retN rfl (RVs.s (.a d2 ti37 (hS.blk d0).cells rfl) (RVs.s (.a d3 ti45 (hS.blk d1).cells rfl) RVs.z)) ?_
   replace hS:=((hS.drop Rm.z).drop Rm.z).drop Rm.z
   exact ⟨_,_,_,_,_,rfl,(le16.t (le310.t (le457.t (le459.t (le461.t (le463.t (le576.t (le635.t le640)))))))),hS,(m634.up le640),m639⟩
end Go.Proofs.YtaenlbapejigbaaGreatDoor
set_option maxRecDepth 100000
set_option maxHeartbeats 20000000
namespace Go.Proofs.YtaenlbapejigbaaGreatDoor
open Go.Wk Go.Xt Go.Y Tryz
variable {b1 b6 c2 c9 c12 o2 o7:Nat} {a1 a8 a11:Option Addr} {v3 v4:Value} {μ0:M} {w0 w:World} {rsF:List Res}
theorem vf_plain_w (hg:Le Gm μ0) {p_1:Int} {r:Bool}  (h:vf_plain p_1=some r) (hS:Sq μ0 w0 w (rsF)):CallsV prog 75 [.int .i64 p_1] w (fun v w'=>∃ (μ':M) ,v=.bool r∧Le μ0 μ'∧Sq μ' w0 w' (rsF)):=by
 unfold vf_plain at h
 refine enter func75 rfl (frm:=_::u1 (u2 (u5 []))) rfl (nz (st (nx ?_)))
 iterate 3 refine st ?_
 refine wspd d5 p5 p5 (fun h1=>?_) (fun h1=>?_)
 ·replace h:=iT h1 h
  refine sn rfl rfl (sn rfl rfl ?_)
  iterate 2 refine st ?_
  refine nw (cret ?_)
  obtain rfl:=oI h
  refine ret1 rfl d2 ?_
  exact ⟨_,rfl,Le.r,hS⟩
 ·replace h:=iF h1 h
  refine sy rfl (sy rfl ?_)
  iterate 2 refine st ?_
  refine nw (cret ?_)
  obtain rfl:=oI h
  refine ret1 rfl d2 ?_
  exact ⟨_,rfl,Le.r,hS⟩
theorem vf_unit_w (hg:Le Gm μ0) {p_1:TVc} {p_2 p_3:Int} {r:Bool} (m4:Np μ0 v3 p_1.m) (m5:At μ0 b1 o2 [v3]) (h:vf_unit p_1 p_2 p_3=some r) (hS:Sq μ0 w0 w (rsF)):CallsV prog 113 [.pointer (some ⟨b1,o2,none⟩),.int .i64 p_2,.int .i64 p_3] w (fun v w'=>∃ (μ':M) ,v=.bool r∧Le μ0 μ'∧Sq μ' w0 w' (rsF)):=by
 unfold vf_unit at h
 refine enter func113 rfl (frm:=_::_::_::u1 (u2 (u10 (u20 [])))) rfl (nz (st (nx ?_)))
 iterate 3 refine st ?_
 refine wspd d9 p9 p9 (fun h6=>?_) (xF h)
 replace h:=iT h6 h
 refine sy rfl (sy rfl (sy rfl (sy rfl (wy rfl d9 (s_load ti54 (et (k10 d3)) ((m5 _ hS.a).one d0) (dt (q10 p4)) ?_)))))
 obtain ⟨x7,g8,h⟩:=bI h
 obtain ⟨b9,o10,cs11,rfl,f12,m13⟩:=Np.get m4 g8
 obtain ⟨a14,c15,a17,c18,rfl,m16,m19⟩:=m13
 refine sy rfl (sy rfl (wy rfl d9 (s_load ti35 (et (k10 d6)) ((f12 _ hS.a).one d1) (dt (q10 p7)) (wy rfl d9 (su (u_lensl underlying35 (et (k10 d7))) (dt (q10 p8)) (sy rfl ?_))))))
 iterate 2 refine st ?_
 refine wspd (k20 d1) (q20 p1) (q20 p1) (fun h20=>?_) (xF h)
 replace h:=iT h20 h
 refine sy rfl (sy rfl (sy rfl (wy rfl (k20 d1) (s_load ti54 (et (k20 d4)) ((m5 _ hS.a).one d0) (dt (q20 p5)) (sy rfl (sy rfl (wy rfl (k20 d1) (s_load ti35 (et (k20 d7)) ((f12 _ hS.a).one d1) (dt (q20 p8)) (sy rfl ?_)))))))))
 obtain ⟨x21,g22,h⟩:=bI h
 obtain ⟨b23,o24,cs25,e26,f27,m28⟩:=SlR.elem m19 g22
 obtain ⟨a29,c30,a32,c33,rfl,m31,m34⟩:=m28
 refine wy rfl (k20 d1) (su (u_iax underlying35 ti103 (et (k20 d8)) (et (k20 d9)) e26) (dt (q30 p0)) (sy rfl (wy rfl (k20 d1) (s_load ti3 (et (k30 d1)) ((f27 _ hS.a).one d0) (dt (q30 p2)) (sy rfl (sy rfl ?_))))))
 iterate 2 refine st ?_
 refine nw (cret ?_)
 obtain rfl:=oI h
 refine ret1 rfl d6 ?_
 exact ⟨_,rfl,Le.r,hS⟩
theorem vf_instr_w (hg:Le Gm μ0) {p_1:TVc} {p_2:TUnit} {p_3:TInstr} {r:Int} (m4:Np μ0 v3 p_1.m) (m5:At μ0 b1 o2 [v3]) (m10:Sl μ0 a8 c9 p_2.Locals) (m13:Sl μ0 a11 c12 p_2.Code) (m14:At μ0 b6 o7 [.int .i64 p_2.Kind,.int .i64 p_2.Params,.slice a8 p_2.Locals.length c9,.int .i64 p_2.Result,.int .i64 p_2.Takes,.slice a11 p_2.Code.length c12]) (h:vf_instr p_1 p_2 p_3=some r) (hS:Sq μ0 w0 w (rsF)):CallsV prog 77 [.pointer (some ⟨b1,o2,none⟩),.pointer (some ⟨b6,o7,none⟩),.agg ⟨[.int .i64 p_3.Op,.int .i64 p_3.A,.int .i64 p_3.N]⟩] w (fun v w'=>∃ (μ':M) ,v=.int .i64 r∧Le μ0 μ'∧Sq μ' w0 w' (rsF)):=by
 unfold vf_instr at h
 refine enter func77 rfl (frm:=_::_::_::u20 (u20 (u50 []))) rfl (nz ?_)
 refine wl (s_box (et d2) rfl hS ?_); clear hS; intro b15 w1 hb16 hS; refine po ?_
 refine st (nx (st (ny (nz (st (ld ((hS.blk d0).cell d0) (nw ?_)))))))
 refine ccutE ([6]++rg 10 81) (by decide +kernel) (fun m w=>∃ μx b17,m=(yK6 (yO1 6 (.i (.bool b17)::(yK2 (yO50 10 (yO20 60 (yO10 80 (yO1 90 []))))))))∧vf_instr_j1 b17=some r∧Le μ0 μx∧Sq μx w0 w (rsF)) (by rintro _ _ ⟨_,_,rfl,_⟩; rfl) ?_ ?_
 ·refine cblock (nz ?_)
  iterate 2 refine st ?_
  refine nw ?_
  refine cifd (et (k10 d8)) (fun h18=>?_) (fun h18=>?_)
  ·replace h:=iT h18 h
   refine creg (st (ld ((hS.blk d0).cell d1) ?_))
   iterate 2 refine st ?_
   refine wspd (k20 d3) (q20 p3) (q20 p3) (fun h19=>?_) (fun h19=>?_)
   ·replace h:=iT h19 h
    refine sn rfl rfl (sn rfl rfl (sn rfl rfl ?_))
    iterate 2 refine st ?_
    refine wnil ?_
    refine (fun h=>bn (xl h)) ?_
    replace hS:=hS.drop Rm.z
    exact ⟨_,_,rfl,(aK6 (aO1 (aI (aK2 (aO50 (aO20 (aO10 (aO1 aZ)))))))),_,true,rfl,h,Le.r,hS⟩
   ·replace h:=iF h19 h
    refine sy rfl (wy rfl (k20 d3) (s_load ti3 (et (k20 d4)) ((hS.blk d0).cell d1) (dt (q20 p5)) (sy rfl ?_)))
    iterate 2 refine st ?_
    refine wnil ?_
    refine (fun h=>bn (xl h)) ?_
    replace hS:=hS.drop Rm.z
    exact ⟨_,_,rfl,(aK6 (aO1 (aI (aK2 (aO50 (aO20 (aO10 (aO1 aZ)))))))),_,(decide (p_3.A=1)),rfl,h,Le.r,hS⟩
  ·replace h:=iF h18 h
   refine cseq (nz ?_)
   iterate 2 refine st ?_
   refine nw ?_
   refine ccutE ([30]) (by decide) (fun m w=>∃ μx b20,m=(yK20 (yK8 (.i (.bool b20)::(yK1 (yO1 30 [])))))∧vf_instr_j2 p_1 p_2 p_3 b20=some r∧Le μ0 μx∧Sq μx w0 w (.blk b15 120 [.int .i64 p_3.Op,.int .i64 p_3.A,.int .i64 p_3.N]::rsF)) (by rintro _ _ ⟨_,_,rfl,_⟩; rfl) ?_ ?_
   ·refine cifd (et (k20 d8)) (fun h21=>?_) (fun h21=>?_)
    ·replace h:=iT h21 h
     refine cskip (xl ?_)
     exact ⟨_,_,rfl,(aK20 (aK8 (aI (aK1 (aO1 aZ))))),_,(decide (p_3.Op=3)),rfl,h,Le.r,hS⟩
    ·replace h:=iF h21 h
     refine creg ?_
     iterate 2 refine st ?_
     refine wnil (xl ?_)
     exact ⟨_,_,rfl,(aK20 (aK8 (aI (aK1 (aO1 aZ))))),_,(decide (p_3.Op=4)),rfl,h,Le.r,hS⟩
   ·rintro _ t w2 ⟨μ1,b20,rfl,h,le22,hS⟩
    unfold vf_instr_j2 at h
    refine nrm (mK20 (mK8 (mi (mK1 (mO1 mz))))) (xn ?_)
    refine cifb (et (k20 d8)) (fun h23=>?_) (fun h23=>?_)
    ·replace h:=iT h23 h
     refine cdw hS ?_; clear hS; intro w3 hS
     refine cpi 0 rfl (cr 1 [1,2,3,4,5,6,7,8,9,10,11,12,13] rfl (u_load ti3 (et (k30 d1)) ((hS.blk d0).cell d1)) (q30 p2) (cpi 2 rfl (cpi 3 rfl ?_)))
     refine scsd (k30 d4) (q30 p4) (q30 p4) (fun h24=>?_) (xF h)
     replace h:=iT h24 h
     refine cpY 4 rfl rfl (k30 d4) (u_fa fa120_1 (et d5) rfl) (q30 p5) (cpY 6 rfl rfl (k30 d4) (u_move (et d1)) (q30 p7) (cpY 7 rfl rfl (k30 d4) (u_nilck (et (k30 d7))) (q30 p8) (cpY 8 rfl rfl (k30 d4) (u_fa fa103_2 (et (k30 d8)) rfl) (q30 p9) (crY 9 [9,10,11,12,13] rfl rfl (k30 d4) (u_load ti27 (et (k30 d9)) ((m14 _ (le22 _ hS.a)).one d2)) (q40 p0) (cpY 10 rfl rfl (k30 d4) (u_lensl underlying27 (et (k40 d0))) (q40 p1) (crY 5 [5,11,12,13] rfl rfl (k30 d4) (u_load ti3 (et (k30 d5)) ((hS.blk d0).cell d1)) (q30 p6) (cpY 11 rfl rfl (k30 d4) (u_lss (et (k30 d6)) (et (k40 d1))) (q40 p2) (cpi 12 rfl (cpi 13 rfl (sc_nil ?_))))))))))
     refine (fun h=>bn (xl h)) ?_
     replace hS:=hS.drop Rm.z
     exact ⟨_,_,rfl,(aK6 (aO1 (aI (aK2 (aO50 (aO20 (aO10 (aO1 aZ)))))))),_,(decide (p_3.A<(p_2.Locals.length:Int))),rfl,h,le22,hS⟩
    ·replace h:=iF h23 h
     refine cseq (nz ?_)
     iterate 2 refine st ?_
     refine nw ?_
     refine ccutE ([46]) (by decide) (fun m w=>∃ μx b25,m=(yK20 (yK20 (yK4 (.i (.bool b25)::(yK1 (yO1 46 []))))))∧vf_instr_j3 p_1 p_2 p_3 b25=some r∧Le μ1 μx∧Sq μx w0 w (.blk b15 120 [.int .i64 p_3.Op,.int .i64 p_3.A,.int .i64 p_3.N]::rsF)) (by rintro _ _ ⟨_,_,rfl,_⟩; rfl) ?_ ?_
     ·refine cifd (et (k40 d4)) (fun h26=>?_) (fun h26=>?_)
      ·replace h:=iT h26 h
       refine cskip (xl ?_)
       exact ⟨_,_,rfl,(aK20 (aK20 (aK4 (aI (aK1 (aO1 aZ)))))),_,(decide (p_3.Op=21)),rfl,h,Le.r,hS⟩
      ·replace h:=iF h26 h
       refine creg ?_
       iterate 2 refine st ?_
       refine wnil (xl ?_)
       exact ⟨_,_,rfl,(aK20 (aK20 (aK4 (aI (aK1 (aO1 aZ)))))),_,(decide (p_3.Op=22)),rfl,h,Le.r,hS⟩
     ·rintro _ t w4 ⟨μ2,b25,rfl,h,le27,hS⟩
      unfold vf_instr_j3 at h
      refine nrm (mK20 (mK20 (mK4 (mi (mK1 (mO1 mz)))))) (xn ?_)
      refine cifb (et (k40 d4)) (fun h28=>?_) (fun h28=>?_)
      ·replace h:=iT h28 h
       refine cdw hS ?_; clear hS; intro w5 hS
       refine cpi 0 rfl (cr 1 [1,2,3,4,5,6,7,8,9,10,11,12,13] rfl (u_load ti3 (et (k40 d7)) ((hS.blk d0).cell d1)) (q40 p8) (cpi 2 rfl (cpi 3 rfl ?_)))
       refine scsd (k50 d0) (q50 p0) (q50 p0) (fun h29=>?_) (xF h)
       replace h:=iT h29 h
       refine cpY 4 rfl rfl (k50 d0) (u_fa fa120_1 (et d5) rfl) (q50 p1) (cpY 6 rfl rfl (k50 d0) (u_move (et d1)) (q50 p3) (cpY 7 rfl rfl (k50 d0) (u_nilck (et (k50 d3))) (q50 p4) (cpY 8 rfl rfl (k50 d0) (u_fa fa103_5 (et (k50 d4)) rfl) (q50 p5) (crY 9 [9,10,11,12,13] rfl rfl (k50 d0) (u_load ti101 (et (k50 d5)) ((m14 _ ((le22.t le27) _ hS.a)).one d5)) (q50 p6) (cpY 10 rfl rfl (k50 d0) (u_lensl underlying101 (et (k50 d6))) (q50 p7) (crY 5 [5,11,12,13] rfl rfl (k50 d0) (u_load ti3 (et (k50 d1)) ((hS.blk d0).cell d1)) (q50 p2) (cpY 11 rfl rfl (k50 d0) (u_lss (et (k50 d2)) (et (k50 d7))) (q50 p8) (cpi 12 rfl (cpi 13 rfl (sc_nil ?_))))))))))
       refine (fun h=>bn (xl h)) ?_
       replace hS:=hS.drop Rm.z
       exact ⟨_,_,rfl,(aK6 (aO1 (aI (aK2 (aO50 (aO20 (aO10 (aO1 aZ)))))))),_,(decide (p_3.A<(p_2.Code.length:Int))),rfl,h,(le22.t le27),hS⟩
      ·replace h:=iF h28 h
       refine nz ?_
       iterate 2 refine st ?_
       refine nw ?_
       refine cifd (et (k60 d0)) (fun h30=>?_) (fun h30=>?_)
       ·replace h:=iT h30 h
        refine creg ?_
        iterate 2 refine st ?_
        refine ld ((hS.blk d0).cell d1) ?_
        obtain ⟨r31,g32,h⟩:=bI h
        refine ca (vf_unit_w (hg.t (le22.t le27)) (m4.up (le22.t le27)) (m5.up (le22.t le27)) g32 hS) ?_
        rintro _ w6 ⟨μ3,rfl,le33,hS⟩
        refine po (st (wnil ?_))
        refine (fun h=>bn (xl h)) ?_
        replace hS:=hS.drop Rm.z
        exact ⟨_,_,rfl,(aK6 (aO1 (aI (aK2 (aO50 (aO20 (aO10 (aO1 aZ)))))))),_,_,rfl,h,(le22.t (le27.t le33)),hS⟩
       ·replace h:=iF h30 h
        refine nz ?_
        iterate 2 refine st ?_
        refine nw ?_
        refine cifd (et (k60 d6)) (xT h) fun h34=>?_
        replace h:=iF h34 h
        refine cseq (nz ?_)
        iterate 2 refine st ?_
        refine nw ?_
        refine cifd (et (k70 d2)) (xT h) fun h35=>?_
        replace h:=iF h35 h
        refine creg ?_
        iterate 2 refine st ?_
        refine nw ?_
        refine cifd (et (k70 d2)) (fun h36=>?_) (fun h36=>?_)
        ·replace h:=iT h36 h
         refine cdw hS ?_; clear hS; intro w7 hS
         refine cpi 0 rfl (cr 1 [1,2,3,4,5,6,7,8,9,10,11,12,13,14,15,16] rfl (u_load ti3 (et (k70 d5)) ((hS.blk d0).cell d1)) (q70 p6) (cpi 2 rfl (cpi 3 rfl ?_)))
         refine scsd (k70 d8) (q70 p8) (q70 p8) (fun h37=>?_) (xF h)
         replace h:=iT h37 h
         refine cpY 4 rfl rfl (k70 d8) (u_fa fa120_1 (et d5) rfl) (q70 p9) (cpY 6 rfl rfl (k70 d8) (u_move (et d0)) (q80 p1) (cpY 7 rfl rfl (k70 d8) (u_nilck (et (k80 d1))) (q80 p2) (cpY 8 rfl rfl (k70 d8) (u_fa fa107_0 (et (k80 d2)) rfl) (q80 p3) (crY 9 [9,10,11,12,13,14,15,16] rfl rfl (k70 d8) (u_load ti54 (et (k80 d3)) ((m5 _ ((le22.t le27) _ hS.a)).one d0)) (q80 p4) ?_))))
         obtain ⟨x38,g39,h⟩:=bI h
         obtain ⟨b40,o41,cs42,rfl,f43,m44⟩:=Np.get (m4.up (le22.t le27)) g39
         obtain ⟨a45,c46,a48,c49,rfl,m47,m50⟩:=m44
         refine cpY 10 rfl rfl (k70 d8) (u_nilck (et (k80 d4))) (q80 p5) (cpY 11 rfl rfl (k70 d8) (u_fa fa37_0 (et (k80 d5)) rfl) (q80 p6) (crY 12 [12,13,14,15,16] rfl rfl (k70 d8) (u_load ti34 (et (k80 d6)) ((f43 _ hS.a).one d0)) (q80 p7) (cpY 13 rfl rfl (k70 d8) (u_lensl underlying34 (et (k80 d7))) (q80 p8) (crY 5 [5,14,15,16] rfl rfl (k70 d8) (u_load ti3 (et (k70 d9)) ((hS.blk d0).cell d1)) (q80 p0) (cpY 14 rfl rfl (k70 d8) (u_lss (et (k80 d0)) (et (k80 d8))) (q80 p9) (cpi 15 rfl (cpi 16 rfl (sc_nil ?_))))))))
         refine (fun h=>bn (xl h)) ?_
         replace hS:=hS.drop Rm.z
         exact ⟨_,_,rfl,(aK6 (aO1 (aI (aK2 (aO50 (aO20 (aO10 (aO1 aZ)))))))),_,(decide (p_3.A<(x38.Boxes.length:Int))),rfl,h,(le22.t le27),hS⟩
        ·replace h:=iF h36 h
         refine nz (st (ld ((hS.blk d0).cell d0) ?_))
         iterate 2 refine st ?_
         refine wspd (k10 d3) (q10 p3) (q10 p3) (xT h) fun h51=>?_
         replace h:=iF h51 h
         refine sy rfl (wy rfl (k10 d3) (s_load ti3 (et (k10 d4)) ((hS.blk d0).cell d0) (dt (q10 p5)) (sy rfl (st (nw ?_)))))
         refine cifd (et (k10 d7)) (xT h) fun h52=>?_
         replace h:=iF h52 h
         refine cskip ?_
         refine (fun h=>bn (xl h)) ?_
         replace hS:=hS.drop Rm.z
         exact ⟨_,_,rfl,(aK6 (aO1 (aI (aK2 (aO50 (aO20 (aO10 (aO1 aZ)))))))),_,true,rfl,h,(le22.t le27),hS⟩
 ·rintro _ t w8 ⟨μ4,b17,rfl,h,le53,hS⟩
  unfold vf_instr_j1 at h
  refine nrm (mK6 (mO1 (mi (mK2 (mO50 (mO20 (mO10 (mO1 mz)))))))) (xn (cseq (nz ?_)))
  iterate 2 refine st ?_
  refine nw ?_
  refine cifnb (et (k90 d2)) (xF h) fun h54=>?_
  replace h:=iT h54 h
  refine cskip (xn (nz (st (nw (cret ?_)))))
  obtain rfl:=oI h
  refine ret1 rfl d6 ?_
  exact ⟨_,rfl,le53,hS⟩
theorem idxf_i_w (hg:Le Gm μ0) {p_1:List Int} {K4:Nat} {caps5:List Value} {p_2:Int→Option Bool} {r:Int} (m3:Sl μ0 a1 c2 p_1) (m6:FnOk prog μ0 K4 caps5 false p_2) (h:idxf_i p_1 p_2=some r) (hS:Sq μ0 w0 w (rsF)):CallsV prog 122 [.slice a1 p_1.length c2,.func (.func K4) ⟨[]⟩ ⟨caps5⟩] w (fun v w'=>∃ (μ':M) ,v=.int .i64 r∧Le μ0 μ'∧Sq μ' w0 w' (rsF)):=by
 unfold idxf_i at h
 refine enter func122 rfl (frm:=_::_::u2 (u5 (u10 []))) rfl (nz (st (ny (nz (st (wl (su (u_lensl underlying27 (et d6)) (dt p7) (st (nw (cblock ?_))))))))))
 refine cloopE (rg 4 2++rg 9 10) (by decide) (fun n m w=>∃ μx i20,m=(yK4 (yO2 4 (yK2 (.i (.int .i64 i20)::(yO10 9 [])))))∧idxf_i_l1 p_1 p_2 n i20=some r∧Le μ0 μx∧Sq μx w0 w (rsF)) (by rintro _ _ _ ⟨_,_,rfl,_⟩; rfl) _ _ (aK4 (aO2 (aK2 (aI (aO10 aZ))))) ⟨_,0,rfl,h,Le.r,hS⟩ ?_
 rintro n_1 _ t w1 ⟨μ1,i20,rfl,h,le35,hS⟩
 cases n_1 with
 | zero=>cases h
 | succ n_1 =>
 unfold idxf_i_l1 at h
 refine cnrm (mK4 (mO2 (mK2 (mi (mO10 mz))))) (nz (st (ny ?_)))
 refine cifd (et d9) (fun h36=>?_) (fun h36=>?_)
 ·replace h:=iT h36 h
  refine cskip (xn (cseq (cblock (nz ?_))))
  iterate 2 refine st ?_
  refine nx ?_
  iterate 3 refine st ?_
  obtain ⟨x37,g38,h⟩:=bI h
  obtain ⟨b39,o40,cs41,e42,f43,m44⟩:=SlR.elem (m3.up le35) g38
  obtain rfl:=m44
  refine wl (su (u_iax underlying27 ti3 (et (k10 d2)) (et (k10 d3)) e42) (dt (q10 p4)) (ld ((f43 _ hS.a).one d0) ?_))
  obtain ⟨b45,g46,h⟩:=bI h
  refine wl (s_callc m6.isfn (et (k10 d1)) (e1 (et (k10 d5)) e0) ((m6.up le35).call (cs:=[.int .i64 x37]) Le.r rfl g46 hS) ?_)
  rintro _ w2 ⟨μ2,rfl,le47,hS⟩; refine po ?_
  refine nw ?_
  refine cifb (et (k10 d6)) (fun h48=>?_) (fun h48=>?_)
  ·replace h:=iT h48 h
   refine nz ?_
   iterate 2 refine st ?_
   refine nw (cret ?_)
   refine (fun h=>br (xr (xr (br (xr h))))) ?_
   obtain rfl:=oI h
   refine ret1 rfl d4 ?_
   exact ⟨_,rfl,(le35.t le47),hS⟩
  ·replace h:=iF h48 h
   refine cskip ?_
   refine (fun h=>bn (xn h)) ?_
   refine creg ?_
   obtain ⟨i49,g50,h⟩:=bI h
   refine wl (su (u_addc (et d8) ec g50) (dt (q10 p8)) (st (wnil (xl ?_))))
   exact ⟨n_1,_,_,rfl,(aK4 (aO2 (aK2 (aI (aO10 aZ))))),⟨_,i49,rfl,h,(le35.t le47),hS⟩,Nat.lt_succ_self _⟩
 ·replace h:=iF h36 h
  refine cexit ?_
  refine (fun h=>xe (xe (bh h))) ?_
  refine xn (nz (st (nw (cret ?_))))
  obtain rfl:=oI h
  refine ret1 rfl d4 ?_
  exact ⟨_,rfl,le35,hS⟩
theorem conf_i_w (hg:Le Gm μ0) {p_1:List Int} {K4:Nat} {caps5:List Value} {p_2:Int→Option Bool} {r:Bool} (m3:Sl μ0 a1 c2 p_1) (m6:FnOk prog μ0 K4 caps5 false p_2) (h:conf_i p_1 p_2=some r) (hS:Sq μ0 w0 w (rsF)):CallsV prog 81 [.slice a1 p_1.length c2,.func (.func K4) ⟨[]⟩ ⟨caps5⟩] w (fun v w'=>∃ (μ':M) ,v=.bool r∧Le μ0 μ'∧Sq μ' w0 w' (rsF)):=by
 unfold conf_i at h
 refine enter func81 rfl (frm:=_::_::u2 (u5 [])) rfl (nz (st (nx ?_)))
 iterate 2 refine st ?_
 obtain ⟨r7,g8,h⟩:=bI h
 refine ca (idxf_i_w hg m3 m6 g8 hS) ?_
 rintro _ w1 ⟨μ1,rfl,le9,hS⟩
 refine po ?_
 iterate 2 refine st ?_
 refine nw (cret ?_)
 obtain rfl:=oI h
 refine ret1 rfl d4 ?_
 exact ⟨_,rfl,le9,hS⟩
theorem idxf_n_w (hg:Le Gm μ0) {p_1:List TInstr} {K4:Nat} {caps5:List Value} {p_2:TInstr→Option Bool} {r:Int} (m3:Sl μ0 a1 c2 p_1) (m6:FnOk prog μ0 K4 caps5 true p_2) (h:idxf_n p_1 p_2=some r) (hS:Sq μ0 w0 w (rsF)):CallsV prog 124 [.slice a1 p_1.length c2,.func (.func K4) ⟨[]⟩ ⟨caps5⟩] w (fun v w'=>∃ (μ':M) ,v=.int .i64 r∧Le μ0 μ'∧Sq μ' w0 w' (rsF)):=by
 unfold idxf_n at h
 refine enter func124 rfl (frm:=_::_::u2 (u5 (u10 []))) rfl (nz (st (ny (nz (st (wl (su (u_lensl underlying101 (et d6)) (dt p7) (st (nw (cblock ?_))))))))))
 refine cloopE (rg 4 2++rg 9 10) (by decide) (fun n m w=>∃ μx i20,m=(yK4 (yO2 4 (yK2 (.i (.int .i64 i20)::(yO10 9 [])))))∧idxf_n_l1 p_1 p_2 n i20=some r∧Le μ0 μx∧Sq μx w0 w (rsF)) (by rintro _ _ _ ⟨_,_,rfl,_⟩; rfl) _ _ (aK4 (aO2 (aK2 (aI (aO10 aZ))))) ⟨_,0,rfl,h,Le.r,hS⟩ ?_
 rintro n_1 _ t w1 ⟨μ1,i20,rfl,h,le35,hS⟩
 cases n_1 with
 | zero=>cases h
 | succ n_1 =>
 unfold idxf_n_l1 at h
 refine cnrm (mK4 (mO2 (mK2 (mi (mO10 mz))))) (nz (st (ny ?_)))
 refine cifd (et d9) (fun h36=>?_) (fun h36=>?_)
 ·replace h:=iT h36 h
  refine cskip (xn (cseq (cblock (nz ?_))))
  iterate 2 refine st ?_
  refine nx ?_
  iterate 3 refine st ?_
  obtain ⟨x37,g38,h⟩:=bI h
  obtain ⟨b39,o40,cs41,e42,f43,m44⟩:=SlR.elem (m3.up le35) g38
  obtain rfl:=m44
  refine wl (su (u_iax underlying101 ti120 (et (k10 d2)) (et (k10 d3)) e42) (dt (q10 p4)) (lds (f43 _ hS.a) rfl ?_))
  obtain ⟨b45,g46,h⟩:=bI h
  refine wl (s_callc m6.isfn (et (k10 d1)) (e1 (et (k10 d5)) e0) ((m6.up le35).call (cs:=[.int .i64 x37.Op,.int .i64 x37.A,.int .i64 x37.N]) Le.r rfl g46 hS) ?_)
  rintro _ w2 ⟨μ2,rfl,le47,hS⟩; refine po ?_
  refine nw ?_
  refine cifb (et (k10 d6)) (fun h48=>?_) (fun h48=>?_)
  ·replace h:=iT h48 h
   refine nz ?_
   iterate 2 refine st ?_
   refine nw (cret ?_)
   refine (fun h=>br (xr (xr (br (xr h))))) ?_
   obtain rfl:=oI h
   refine ret1 rfl d4 ?_
   exact ⟨_,rfl,(le35.t le47),hS⟩
  ·replace h:=iF h48 h
   refine cskip ?_
   refine (fun h=>bn (xn h)) ?_
   refine creg ?_
   obtain ⟨i49,g50,h⟩:=bI h
   refine wl (su (u_addc (et d8) ec g50) (dt (q10 p8)) (st (wnil (xl ?_))))
   exact ⟨n_1,_,_,rfl,(aK4 (aO2 (aK2 (aI (aO10 aZ))))),⟨_,i49,rfl,h,(le35.t le47),hS⟩,Nat.lt_succ_self _⟩
 ·replace h:=iF h36 h
  refine cexit ?_
  refine (fun h=>xe (xe (bh h))) ?_
  refine xn (nz (st (nw (cret ?_))))
  obtain rfl:=oI h
  refine ret1 rfl d4 ?_
  exact ⟨_,rfl,le35,hS⟩
theorem conf_n_w (hg:Le Gm μ0) {p_1:List TInstr} {K4:Nat} {caps5:List Value} {p_2:TInstr→Option Bool} {r:Bool} (m3:Sl μ0 a1 c2 p_1) (m6:FnOk prog μ0 K4 caps5 true p_2) (h:conf_n p_1 p_2=some r) (hS:Sq μ0 w0 w (rsF)):CallsV prog 84 [.slice a1 p_1.length c2,.func (.func K4) ⟨[]⟩ ⟨caps5⟩] w (fun v w'=>∃ (μ':M) ,v=.bool r∧Le μ0 μ'∧Sq μ' w0 w' (rsF)):=by
 unfold conf_n at h
 refine enter func84 rfl (frm:=_::_::u2 (u5 [])) rfl (nz (st (nx ?_)))
 iterate 2 refine st ?_
 obtain ⟨r7,g8,h⟩:=bI h
 refine ca (idxf_n_w hg m3 m6 g8 hS) ?_
 rintro _ w1 ⟨μ1,rfl,le9,hS⟩
 refine po ?_
 iterate 2 refine st ?_
 refine nw (cret ?_)
 obtain rfl:=oI h
 refine ret1 rfl d4 ?_
 exact ⟨_,rfl,le9,hS⟩
theorem vf_head1_w (hg:Le Gm μ0) {p_1:Int} {p_2:Option TVc} {r:Bool} (m5:Np μ0 v4 p_2) (m3:At μ0 b1 o2 [v4]) (h:vf_head1 p_1 p_2=some r) (hS:Sq μ0 w0 w (rsF)):CallsV prog 111 [.int .i64 p_1,.pointer (some ⟨b1,o2,none⟩)] w (fun v w'=>∃ (μ':M) ,v=.bool r∧Le μ0 μ'∧Sq μ' w0 w' (rsF)):=by
 unfold vf_head1 at h
 refine enter func111 rfl (frm:=_::_::u1 (u10 [])) rfl (nz (st (nx (st ?_))))
 obtain ⟨r6,g7,h⟩:=bI h
 refine ca (vf_plain_w hg g7 hS) ?_
 rintro _ w1 ⟨μ1,rfl,le8,hS⟩
 refine po ?_
 iterate 2 refine st ?_
 refine wspnb d7 p7 p7 (xF h) fun h9=>?_
 replace h:=iT h9 h
 refine sn rfl rfl (sn rfl rfl (sn rfl rfl (sn rfl rfl ?_)))
 iterate 2 refine st ?_
 refine nw (cret ?_)
 obtain rfl:=oI h
 refine ret1 rfl d3 ?_
 exact ⟨_,rfl,le8,hS⟩
theorem vf_head_w (hg:Le Gm μ0) {p_1:TVc} {p_2:TUnit} {r:Int} (m4:Np μ0 v3 p_1.m) (m5:At μ0 b1 o2 [v3]) (m10:Sl μ0 a8 c9 p_2.Locals) (m13:Sl μ0 a11 c12 p_2.Code) (m14:At μ0 b6 o7 [.int .i64 p_2.Kind,.int .i64 p_2.Params,.slice a8 p_2.Locals.length c9,.int .i64 p_2.Result,.int .i64 p_2.Takes,.slice a11 p_2.Code.length c12]) (h:vf_head p_1 p_2=some r) (hS:Sq μ0 w0 w (rsF)):CallsV prog 76 [.pointer (some ⟨b1,o2,none⟩),.pointer (some ⟨b6,o7,none⟩)] w (fun v w'=>∃ (μ':M) ,v=.int .i64 r∧Le μ0 μ'∧Sq μ' w0 w' (rsF)):=by
 unfold vf_head at h
 refine enter func76 rfl (frm:=_::_::u1 (u20 (u50 (u50 [])))) rfl (nz ?_)
 refine wl (s_box (et d0) rfl hS ?_); clear hS; intro b15 w1 hb16 hS; refine po ?_
 refine st (ny (cblock (cseq ?_)))
 refine ccutE (rg 6 19) (by decide) (fun m w=>∃ μx b17,m=(yK5 (.i (.bool b17)::(yO10 6 (yO9 16 []))))∧vf_head_j1 p_1 p_2 b17=some r∧Le μ0 μx∧Sq μx w0 w (.blk b15 105 [.pointer (some ⟨b1,o2,none⟩)]::rsF)) (by rintro _ _ ⟨_,_,rfl,_⟩; rfl) ?_ ?_
 ·refine creg ?_
  iterate 3 refine st ?_
  refine ld ((m14 _ hS.a).one d0) ?_
  iterate 2 refine st ?_
  refine wspd (k10 d1) (q10 p1) (q10 p1) (fun h18=>?_) (fun h18=>?_)
  ·replace h:=iT h18 h
   refine sy rfl (sy rfl (sy rfl (wy rfl (k10 d1) (s_load ti3 (et (k10 d4)) ((m14 _ hS.a).one d0) (dt (q10 p5)) (sy rfl ?_)))))
   iterate 2 refine st ?_
   refine wspd (k10 d8) (q10 p8) (q10 p8) (fun h19=>?_) (xF h)
   replace h:=iT h19 h
   refine sy rfl (sy rfl (sy rfl (wy rfl (k10 d8) (s_load ti3 (et (k20 d1)) ((m14 _ hS.a).one d0) (dt (q20 p2)) (sy rfl ?_)))))
   iterate 2 refine st ?_
   refine wnil (xl ?_)
   exact ⟨_,_,rfl,(aK5 (aI (aO10 (aO9 aZ)))),_,(decide (p_2.Kind≠4)),rfl,h,Le.r,hS⟩
  ·replace h:=iF h18 h
   refine sn rfl rfl (sn rfl rfl (sn rfl rfl (sn rfl rfl (sn rfl rfl ?_))))
   iterate 2 refine st ?_
   refine sn rfl rfl (sn rfl rfl (sn rfl rfl (sn rfl rfl (sn rfl rfl ?_))))
   iterate 2 refine st ?_
   refine wnil (xl ?_)
   exact ⟨_,_,rfl,(aK5 (aI (aO10 (aO9 aZ)))),_,false,rfl,h,Le.r,hS⟩
 ·rintro _ t w2 ⟨μ1,b17,rfl,h,le20,hS⟩
  unfold vf_head_j1 at h
  refine nrm (mK5 (mi (mO10 (mO9 mz)))) (xn ?_)
  refine cifb (et d5) (xT h) fun h21=>?_
  replace h:=iF h21 h
  refine cseq ?_
  refine ccutE (rg 26 46) (by decide +kernel) (fun m w=>∃ μx b22,m=(yK20 (yK5 (.i (.bool b22)::(yO20 26 (yO20 46 (yO6 66 []))))))∧vf_head_j2 p_1 p_2 b22=some r∧Le μ1 μx∧Sq μx w0 w (.blk b15 105 [.pointer (some ⟨b1,o2,none⟩)]::rsF)) (by rintro _ _ ⟨_,_,rfl,_⟩; rfl) ?_ ?_
  ·refine cdw hS ?_; clear hS; intro w3 hS
   refine cpi 0 rfl (cpi 1 rfl (cpi 2 rfl (cr 3 [3,4,5,6,7,8,9,10,11,12,13,14,15,16,17,18,19,20,21,22,23,24,25,26,27,28,29,30,31,32,33,34,35,36,37,38,39,40,41,42,43,44,45,46] rfl (u_load ti27 (et (k20 d8)) ((m14 _ (le20 _ hS.a)).one d2)) (q20 p9) (cp 4 rfl (u_lensl underlying27 (et (k20 d9))) (q30 p0) (cpi 5 rfl (cpi 6 rfl ?_))))))
   refine scsd (k30 d2) (q30 p2) (q30 p2) (xT h) fun h23=>?_
   replace h:=iF h23 h
   refine cpY 7 rfl rfl (k30 d2) (u_move (et d1)) (q30 p3) (cpY 8 rfl rfl (k30 d2) (u_nilck (et (k30 d3))) (q30 p4) (cpY 9 rfl rfl (k30 d2) (u_fa fa103_1 (et (k30 d4)) rfl) (q30 p5) (crY 10 [10,11,12,13,14,15,16,17,18,19,20,21,22,23,24,25,26,27,28,29,30,31,32,33,34,35,36,37,38,39,40,41,42,43,44,45,46] rfl rfl (k30 d2) (u_load ti3 (et (k30 d5)) ((m14 _ (le20 _ hS.a)).one d1)) (q30 p6) (cpY 11 rfl rfl (k30 d2) (u_lss (et (k30 d6)) ec) (q30 p7) (cpi 12 rfl (cpi 13 rfl ?_))))))
   refine scsd (k30 d9) (q30 p9) (q30 p9) (xT h) fun h24=>?_
   replace h:=iF h24 h
   refine cpY 14 rfl rfl (k30 d9) (u_move (et d1)) (q40 p0) (cpY 15 rfl rfl (k30 d9) (u_nilck (et (k40 d0))) (q40 p1) (cpY 16 rfl rfl (k30 d9) (u_fa fa103_1 (et (k40 d1)) rfl) (q40 p2) (crY 17 [17,18,19,20,21,22,23,24,25,26,27,28,29,30,31,32,33,34,35,36,37,38,39,40,41,42,43,44,45,46] rfl rfl (k30 d9) (u_load ti3 (et (k40 d2)) ((m14 _ (le20 _ hS.a)).one d1)) (q40 p3) (cpY 18 rfl rfl (k30 d9) (u_gtr (et (k40 d3)) ec) (q40 p4) (cpi 19 rfl (cpi 20 rfl ?_))))))
   refine scsd (k40 d6) (q40 p6) (q40 p6) (xT h) fun h25=>?_
   replace h:=iF h25 h
   refine cpY 21 rfl rfl (k40 d6) (u_move (et d1)) (q40 p7) (cpY 22 rfl rfl (k40 d6) (u_nilck (et (k40 d7))) (q40 p8) (cpY 23 rfl rfl (k40 d6) (u_fa fa103_1 (et (k40 d8)) rfl) (q40 p9) (cpY 25 rfl rfl (k40 d6) (u_move (et d1)) (q50 p1) (cpY 26 rfl rfl (k40 d6) (u_nilck (et (k50 d1))) (q50 p2) (cpY 27 rfl rfl (k40 d6) (u_fa fa103_2 (et (k50 d2)) rfl) (q50 p3) (crY 28 [28,29,30,31,32,33,34,35,36,37,38,39,40,41,42,43,44,45,46] rfl rfl (k40 d6) (u_load ti27 (et (k50 d3)) ((m14 _ (le20 _ hS.a)).one d2)) (q50 p4) (cpY 29 rfl rfl (k40 d6) (u_lensl underlying27 (et (k50 d4))) (q50 p5) (crY 24 [24,30,31,32,33,34,35,36,37,38,39,40,41,42,43,44,45,46] rfl rfl (k40 d6) (u_load ti3 (et (k40 d9)) ((m14 _ (le20 _ hS.a)).one d1)) (q50 p0) (cpY 30 rfl rfl (k40 d6) (u_gtr (et (k50 d0)) (et (k50 d5))) (q50 p6) (cpi 31 rfl (cpi 32 rfl ?_)))))))))))
   refine scsd (k50 d8) (q50 p8) (q50 p8) (xT h) fun h26=>?_
   replace h:=iF h26 h
   refine cpY 33 rfl rfl (k50 d8) (u_move (et d1)) (q50 p9) (cpY 34 rfl rfl (k50 d8) (u_nilck (et (k50 d9))) (q60 p0) (cpY 35 rfl rfl (k50 d8) (u_fa fa103_0 (et (k60 d0)) rfl) (q60 p1) (crY 36 [36,37,38,39,40,41,42,43,44,45,46] rfl rfl (k50 d8) (u_load ti3 (et (k60 d1)) ((m14 _ (le20 _ hS.a)).one d0)) (q60 p2) (cpY 37 rfl rfl (k50 d8) (u_eqi (et (k60 d2)) ec) (q60 p3) (cpY 38 rfl rfl (k50 d8) (u_move (et (k60 d3))) (q60 p4) ?_)))))
   refine scsd (k60 d4) (q60 p4) (q60 p4) (fun h27=>?_) (fun h27=>?_)
   ·replace h:=iT h27 h
    refine cpY 39 rfl rfl (k60 d4) (u_move (et d1)) (q60 p5) (cpY 40 rfl rfl (k60 d4) (u_nilck (et (k60 d5))) (q60 p6) (cpY 41 rfl rfl (k60 d4) (u_fa fa103_1 (et (k60 d6)) rfl) (q60 p7) (crY 42 [42,43,44,45,46] rfl rfl (k60 d4) (u_load ti3 (et (k60 d7)) ((m14 _ (le20 _ hS.a)).one d1)) (q60 p8) (cpY 43 rfl rfl (k60 d4) (u_gtr (et (k60 d8)) ec) (q60 p9) (cpY 44 rfl rfl (k50 d8) (u_pickt (et (k60 d4)) (et (k60 d9))) (q70 p0) (cpi 45 rfl (cpi 46 rfl (sc_nil (xl ?_)))))))))
    exact ⟨_,_,rfl,(aK20 (aK5 (aI (aO20 (aO20 (aO6 aZ)))))),_,(decide ((0:Int)<p_2.Params)),rfl,h,Le.r,hS⟩
   ·replace h:=iF h27 h
    refine cpN 39 rfl rfl (k60 d4) rfl (q60 p5) (cpN 40 rfl rfl (k60 d4) rfl (q60 p6) (cpN 41 rfl rfl (k60 d4) rfl (q60 p7) (cpN 42 rfl rfl (k60 d4) rfl (q60 p8) (cpN 43 rfl rfl (k60 d4) rfl (q60 p9) (cpY 44 rfl rfl (k50 d8) (u_pickf (et (k60 d4)) ec) (q70 p0) (cpi 45 rfl (cpi 46 rfl (sc_nil (xl ?_)))))))))
    exact ⟨_,_,rfl,(aK20 (aK5 (aI (aO20 (aO20 (aO6 aZ)))))),_,false,rfl,h,Le.r,hS⟩
  ·rintro _ t w4 ⟨μ2,b22,rfl,h,le28,hS⟩
   unfold vf_head_j2 at h
   refine nrm (mK20 (mK5 (mi (mO20 (mO20 (mO6 mz)))))) (xn ?_)
   refine cifb (et (k20 d5)) (xT h) fun h29=>?_
   replace h:=iF h29 h
   refine nz ?_
   iterate 3 refine st ?_
   refine ld ((m14 _ ((le20.t le28) _ hS.a)).one d5) (wl (su (u_lensl underlying101 (et (k70 d6))) (dt (q70 p7)) ?_))
   iterate 2 refine st ?_
   refine wspd (k70 d9) (q70 p9) (q70 p9) (xT h) fun h30=>?_
   replace h:=iF h30 h
   refine sy rfl (sy rfl (sy rfl (wy rfl (k70 d9) (s_load ti101 (et (k80 d2)) ((m14 _ ((le20.t le28) _ hS.a)).one d5) (dt (q80 p3)) (wy rfl (k70 d9) (su (u_lensl underlying101 (et (k80 d3))) (dt (q80 p4)) (sy rfl ?_)))))))
   iterate 2 refine st ?_
   refine nw ?_
   refine cifd (et (k70 d2)) (xT h) fun h31=>?_
   replace h:=iF h31 h
   refine cseq ?_
   refine ccutE (rg 88 28) (by decide +kernel) (fun m w=>∃ (μx:M) ,m=(yK50 (yK20 (yK10 (yK7 (.i (.bool false)::(yO20 88 (yO8 108 [])))))))∧vf_head_j3 p_1 p_2 =some r∧Le μ2 μx∧Sq μx w0 w (.blk b15 105 [.pointer (some ⟨b1,o2,none⟩)]::rsF)) (by rintro _ _ ⟨_,rfl,_⟩; rfl) ?_ ?_
   ·refine creg ?_
    iterate 3 refine st ?_
    refine ld ((m14 _ ((le20.t le28) _ hS.a)).one d0) ?_
    iterate 2 refine st ?_
    refine wspd (k90 d3) (q90 p3) (q90 p3) (fun h32=>?_) (fun h32=>?_)
    ·replace h:=iT h32 h
     refine sy rfl (sy rfl (sy rfl (wy rfl (k90 d3) (s_load ti3 (et (k90 d6)) ((m14 _ ((le20.t le28) _ hS.a)).one d3) (dt (q90 p7)) ?_))))
     obtain ⟨r33,g34,h⟩:=bI h
     refine wy rfl (k90 d3) (s_callv isfn75 ef (e1 (et (k90 d7)) e0) (vf_plain_w (hg.t (le20.t le28)) g34 hS) ?_)
     rintro _ w5 ⟨μ3,rfl,le35,hS⟩
     refine po (sy rfl ?_)
     iterate 2 refine st ?_
     refine wspnb (k100 d1) (q100 p1) (q100 p1) (xF h) fun h36=>?_
     replace h:=iT h36 h
     refine sy rfl (sy rfl (sy rfl (wy rfl (k100 d1) (s_load ti3 (et (k100 d4)) ((m14 _ ((le20.t (le28.t le35)) _ hS.a)).one d0) (dt (q100 p5)) (sy rfl (sy rfl ?_))))))
     refine wspd (k100 d7) (q100 p7) (q100 p7) (xT h) fun h37=>?_
     replace h:=iF h37 h
     refine sn rfl rfl (sn rfl rfl (sn rfl rfl (sn rfl rfl (sn rfl rfl (sn rfl rfl (sy rfl ?_))))))
     iterate 2 refine st ?_
     refine wnil (xl ?_)
     exact ⟨_,_,rfl,(aK50 (aK20 (aK10 (aK7 (aI (aO20 (aO8 aZ))))))),_,rfl,h,le35,hS⟩
    ·replace h:=iF h32 h
     refine sn rfl rfl (sn rfl rfl (sn rfl rfl (sn rfl rfl (sn rfl rfl (sn rfl rfl ?_)))))
     iterate 2 refine st ?_
     refine sy rfl (sy rfl (sy rfl (wy rfl (k100 d1) (s_load ti3 (et (k100 d4)) ((m14 _ ((le20.t le28) _ hS.a)).one d0) (dt (q100 p5)) (sy rfl (sy rfl ?_))))))
     refine wspd (k100 d7) (q100 p7) (q100 p7) (xT h) fun h38=>?_
     replace h:=iF h38 h
     refine sn rfl rfl (sn rfl rfl (sn rfl rfl (sn rfl rfl (sn rfl rfl (sn rfl rfl (sy rfl ?_))))))
     iterate 2 refine st ?_
     refine wnil (xl ?_)
     exact ⟨_,_,rfl,(aK50 (aK20 (aK10 (aK7 (aI (aO20 (aO8 aZ))))))),_,rfl,h,Le.r,hS⟩
   ·rintro _ t w6 ⟨μ4,rfl,h,le39,hS⟩
    unfold vf_head_j3 at h
    refine nrm (mK50 (mK20 (mK10 (mK7 (mi (mO20 (mO8 mz))))))) (xn (ciff (et (k80 d7)) (nz ?_)))
    iterate 3 refine st ?_
    refine ld ((m14 _ ((le20.t (le28.t le39)) _ hS.a)).one d2) ?_
    obtain ⟨μ5,le41,m40,hS⟩:=Sep.frzAt hS
    refine wl (su (u_mkfn e0 (e1 (et d2) e0)) (dt (q100 (q20 p1))) ?_)
    obtain ⟨r42,g43,h⟩:=bI h
    refine wl (s_callv isfn81 ef (e1 (et (k100 (k20 d0))) (e1 (et (k100 (k20 d1))) e0)) (conf_i_w (hg.t (le20.t (le28.t (le39.t le41)))) (m10.up (le20.t (le28.t (le39.t le41)))) (⟨isfn111,fun hle_ hm_ g_ hS_=>by obtain rfl:=hm_; exact vf_head1_w ((hg.t (le20.t (le28.t (le39.t le41)))).t hle_) ((Np.of (α:=TVc) (m5.up (le20.t (le28.t (le39.t le41)))) (TVc.i ⟨v3,rfl,(m4.up (le20.t (le28.t (le39.t le41))))⟩)).up hle_) (m40.up hle_) g_ hS_⟩) g43 hS) ?_)
    rintro _ w7 ⟨μ6,rfl,le44,hS⟩
    refine po (st (nw ?_))
    refine cifb (et (k100 (k10 d6))) (xT h) fun h45=>?_
    replace h:=iF h45 h
    refine cskip ?_
    refine (fun h=>bn (xn h)) ?_
    refine nz (st (nw (cret ?_)))
    obtain rfl:=oI h
    refine ret1 rfl d4 ?_
    exact ⟨_,rfl,(le20.t (le28.t (le39.t (le41.t le44)))),hS⟩
theorem vf_form_w (hg:Le Gm μ0) {p_1:TVc} {r:TWhere} (m4:Np μ0 v3 p_1.m) (m5:At μ0 b1 o2 [v3]) (h:vf_form p_1=some r) (hS:Sq μ0 w0 w (rsF)):CallsV prog 40 [.pointer (some ⟨b1,o2,none⟩)] w (fun v w'=>∃ (μ':M) ,v=.agg ⟨[.int .i64 r.Err,.int .i64 r.Unit,.int .i64 r.At]⟩∧Le μ0 μ'∧Sq μ' w0 w' (rsF)):=by
 unfold vf_form at h
 refine enter func40 rfl (frm:=_::u1 (u2 (u20 (u50 (u50 []))))) rfl (nz ?_)
 refine wl (s_alloc ti51 hS ?_); clear hS; intro b6 w1 hb7 hS; refine po ?_
 refine ny (nz ?_)
 iterate 3 refine st ?_
 refine ld ((m5 _ hS.a).one d0) ?_
 obtain ⟨x8,g9,h⟩:=bI h
 obtain ⟨b10,o11,cs12,rfl,f13,m14⟩:=Np.get m4 g9
 obtain ⟨a15,c16,a18,c19,rfl,m17,m20⟩:=m14
 iterate 2 refine st ?_
 refine ld ((f13 _ hS.a).one d0) (wl (su (u_lensl underlying34 (et (k10 d8))) (dt (q10 p9)) ?_))
 iterate 2 refine st ?_
 refine wspd (k20 d1) (q20 p1) (q20 p1) (xT h) fun h21=>?_
 replace h:=iF h21 h
 refine sy rfl (sy rfl (sy rfl (wy rfl (k20 d1) (s_load ti54 (et (k20 d4)) ((m5 _ hS.a).one d0) (dt (q20 p5)) (sy rfl (sy rfl (wy rfl (k20 d1) (s_load ti35 (et (k20 d7)) ((f13 _ hS.a).one d1) (dt (q20 p8)) (wy rfl (k20 d1) (su (u_lensl underlying35 (et (k20 d8))) (dt (q20 p9)) (sy rfl (st (nw ?_)))))))))))))
 refine cifd (et (k30 d1)) (xT h) fun h22=>?_
 replace h:=iF h22 h
 refine cskip (xn (cseq (nz ?_)))
 iterate 3 refine st ?_
 refine ld ((m5 _ hS.a).one d0) ?_
 iterate 2 refine st ?_
 refine ld ((f13 _ hS.a).one d0) (wl (su (u_lensl underlying34 (et (k30 d9))) (dt (q40 p0)) (st (nw (cblock ?_)))))
 refine cloopE (rg 3 2++rg 42 21) (by decide +kernel) (fun n m w=>∃ μx i39,m=(yK3 (yO2 3 (yK20 (yK10 (yK6 (.i (.int .i64 i39)::(yO20 42 (yO1 62 []))))))))∧vf_form_l1 p_1 x8 n i39=some r∧Le μ0 μx∧Sq μx w0 w (.blk b6 51 [.int .i64 0,.int .i64 0,.int .i64 0]::rsF)) (by rintro _ _ _ ⟨_,_,rfl,_⟩; rfl) _ _ (aK3 (aO2 (aK20 (aK10 (aK6 (aI (aO20 (aO1 aZ)))))))) ⟨_,0,rfl,h,Le.r,hS⟩ ?_
 rintro n_1 _ t w2 ⟨μ1,i39,rfl,h,le56,hS⟩
 cases n_1 with
 | zero=>cases h
 | succ n_1 =>
 unfold vf_form_l1 at h
 refine cnrm (mK3 (mO2 (mK20 (mK10 (mK6 (mi (mO20 (mO1 mz)))))))) (nz (st (ny ?_)))
 refine cifd (et (k40 d2)) (fun h57=>?_) (fun h57=>?_)
 ·replace h:=iT h57 h
  refine cskip (xn (cseq (cblock (nz (st ?_)))))
  obtain ⟨x58,g59,h⟩:=bI h
  obtain ⟨b60,o61,cs62,e63,f64,m65⟩:=SlR.elem (m17.up le56) g59
  obtain rfl:=m65
  refine wl (su (u_iax underlying34 ti56 (et (k30 d9)) (et (k40 d1)) e63) (dt (q40 p4)) (lds (f64 _ hS.a) rfl ?_))
  refine wl (s_alloc ti56 hS ?_); clear hS; intro b66 w3 hb67 hS; refine po ?_
  refine st (wl (s_storeA ti56 (et d4) (et (k40 d5)) rfl rfl hS d0 rfl p0 dn ?_))
  clear hS; intro w4 hS
  refine ny (nz (st (ld ((hS.blk d0).cell d0) ?_)))
  obtain ⟨r68,g69,h⟩:=bI h
  refine ca (vf_plain_w (hg.t le56) g69 hS) ?_
  rintro _ w5 ⟨μ2,rfl,le70,hS⟩
  refine po (st (nw ?_))
  refine cifnb (et (k40 d9)) (xF h) fun h71=>?_
  replace h:=iT h71 h
  refine cskip (xn (nz (st (ld ((hS.blk d0).cell d1) ?_))))
  iterate 2 refine st ?_
  refine wspd (k50 d5) (q50 p5) (q50 p5) (xT h) fun h72=>?_
  replace h:=iF h72 h
  refine sy rfl (wy rfl (k50 d5) (s_load ti3 (et (k50 d6)) ((hS.blk d0).cell d1) (dt (q50 p7)) (sy rfl (st (nw ?_)))))
  refine cifd (et (k50 d9)) (xT h) fun h73=>?_
  replace h:=iF h73 h
  refine cskip ?_
  refine (fun h=>bn (xn h)) ?_
  refine creg ?_
  obtain ⟨i74,g75,h⟩:=bI h
  refine wl (su (u_addc (et (k40 d1)) ec g75) (dt (q60 p2)) (st (wnil (xl ?_))))
  replace hS:=hS.drop Rm.z
  exact ⟨n_1,_,_,rfl,(aK3 (aO2 (aK20 (aK10 (aK6 (aI (aO20 (aO1 aZ)))))))),⟨_,i74,rfl,h,(le56.t le70),hS⟩,Nat.lt_succ_self _⟩
 ·replace h:=iF h57 h
  refine cexit ?_
  refine (fun h=>xe (xe (bh h))) ?_
  refine xn (nz (st (ny (nz ?_))))
  iterate 3 refine st ?_
  refine ld ((m5 _ (le56 _ hS.a)).one d0) ?_
  iterate 2 refine st ?_
  refine ld ((f13 _ (le56 _ hS.a)).one d1) (wl (su (u_lensl underlying35 (et (k60 d9))) (dt (q70 p0)) (st (nw (cblock ?_)))))
  refine cloopE (rg 6 6++rg 72 48) (by decide +kernel) (fun n m w=>∃ μx i144 i145,m=(yK5 (.i (.int .i64 i144)::(yO6 6 (yK50 (yK9 (.i (.int .i64 i145)::(yO20 72 (yO20 92 (yO8 112 [])))))))))∧vf_form_l2 p_1 x8 n i144 i145=some r∧Le μ1 μx∧Sq μx w0 w (.blk b6 51 [.int .i64 0,.int .i64 0,.int .i64 0]::rsF)) (by rintro _ _ _ ⟨_,_,_,rfl,_⟩; rfl) _ _ (aK5 (aI (aO6 (aK50 (aK9 (aI (aO20 (aO20 (aO8 aZ))))))))) ⟨_,0,0,rfl,h,Le.r,hS⟩ ?_
  rintro n_2 _ t w6 ⟨μ3,i144,i145,rfl,h,le214,hS⟩
  cases n_2 with
  | zero=>cases h
  | succ n_2 =>
  unfold vf_form_l2 at h
  refine cnrm (mK5 (mi (mO6 (mK50 (mK9 (mi (mO20 (mO20 (mO8 mz))))))))) (nz (st (ny ?_)))
  refine cifd (et (k70 d2)) (fun h215=>?_) (fun h215=>?_)
  ·replace h:=iT h215 h
   refine cskip (xn (cseq (cblock (nz ?_))))
   iterate 2 refine st ?_
   refine nx ?_
   iterate 3 refine st ?_
   refine ld ((m5 _ ((le56.t le214) _ hS.a)).one d0) ?_
   iterate 2 refine st ?_
   refine ld ((f13 _ ((le56.t le214) _ hS.a)).one d1) (st ?_)
   obtain ⟨x216,g217,h⟩:=bI h
   obtain ⟨b218,o219,cs220,e221,f222,m223⟩:=SlR.elem (m20.up (le56.t le214)) g217
   obtain ⟨a224,c225,a227,c228,rfl,m226,m229⟩:=m223
   refine wl (su (u_iax underlying35 ti103 (et (k80 d0)) (et (k80 d1)) e221) (dt (q80 p2)) (st (ny (nz ?_))))
   iterate 2 refine st ?_
   obtain ⟨r230,g231,h⟩:=bI h
   refine ca (vf_head_w (hg.t (le56.t le214)) (m4.up (le56.t le214)) (m5.up (le56.t le214)) m226 m229 f222 g231 hS) ?_
   rintro _ w7 ⟨μ4,rfl,le232,hS⟩
   refine po (st (nx ?_))
   iterate 2 refine st ?_
   refine nw ?_
   refine cifd (et (k80 d7)) (xT h) fun h233=>?_
   replace h:=iF h233 h
   refine cskip (xn (cseq (nz ?_)))
   iterate 3 refine st ?_
   refine ld ((f222 _ (le232 _ hS.a)).one d5) (wl (su (u_lensl underlying101 (et (k90 d4))) (dt (q90 p5)) (st (nw (cblock ?_)))))
   refine cloopE (rg 9 3++rg 97 15) (by decide) (fun n m w=>∃ μx i249,m=(yK9 (yO3 9 (yK50 (yK20 (yK10 (yK4 (.i (.int .i64 i249)::(yO10 97 (yO5 107 [])))))))))∧vf_form_l3 p_1 i144 i145 x216 (vf_form_l2 p_1 x8 n_2) n i249=some r∧Le μ4 μx∧Sq μx w0 w (.blk b6 51 [.int .i64 0,.int .i64 0,.int .i64 0]::rsF)) (by rintro _ _ _ ⟨_,_,rfl,_⟩; rfl) _ _ (aK9 (aO3 (aK50 (aK20 (aK10 (aK4 (aI (aO10 (aO5 aZ))))))))) ⟨_,0,rfl,h,Le.r,hS⟩ ?_
   rintro n_3 _ t w8 ⟨μ5,i249,rfl,h,le265,hS⟩
   cases n_3 with
   | zero=>cases h
   | succ n_3 =>
   unfold vf_form_l3 at h
   refine cnrm (mK9 (mO3 (mK50 (mK20 (mK10 (mK4 (mi (mO10 (mO5 mz))))))))) (nz (st (ny ?_)))
   refine cifd (et (k90 d7)) (fun h266=>?_) (fun h266=>?_)
   ·replace h:=iT h266 h
    refine cskip (xn (cseq (cblock (nz (st ?_)))))
    obtain ⟨x267,g268,h⟩:=bI h
    obtain ⟨b269,o270,cs271,e272,f273,m274⟩:=SlR.elem (m229.up (le232.t le265)) g268
    obtain rfl:=m274
    refine wl (su (u_iax underlying101 ti120 (et (k90 d4)) (et (k90 d6)) e272) (dt (q90 p9)) (lds (f273 _ hS.a) rfl ?_))
    refine wl (s_alloc ti120 hS ?_); clear hS; intro b275 w9 hb276 hS; refine po ?_
    refine st (wl (s_storeA ti120 (et (k10 d0)) (et (k100 d0)) rfl rfl hS d0 rfl p0 dn ?_))
    clear hS; intro w10 hS
    refine nx ?_
    iterate 2 refine st ?_
    refine lds (hS.blk d0).cells rfl ?_
    obtain ⟨r277,g278,h⟩:=bI h
    refine ca (vf_instr_w (hg.t (le56.t (le214.t (le232.t le265)))) (m4.up (le56.t (le214.t (le232.t le265)))) (m5.up (le56.t (le214.t (le232.t le265)))) (m226.up (le232.t le265)) (m229.up (le232.t le265)) (f222.up (le232.t le265)) g278 hS) ?_
    rintro _ w11 ⟨μ6,rfl,le279,hS⟩
    refine po (st (nx ?_))
    iterate 2 refine st ?_
    refine nw ?_
    refine cifd (et (k100 d6)) (xT h) fun h280=>?_
    replace h:=iF h280 h
    refine cskip ?_
    refine (fun h=>bn (xn h)) ?_
    refine creg ?_
    obtain ⟨i281,g282,h⟩:=bI h
    refine wl (su (u_addc (et (k90 d6)) ec g282) (dt (q100 (q10 p1))) (st (wnil (xl ?_))))
    replace hS:=hS.drop Rm.z
    exact ⟨n_3,_,_,rfl,(aK9 (aO3 (aK50 (aK20 (aK10 (aK4 (aI (aO10 (aO5 aZ))))))))),⟨_,i281,rfl,h,(le265.t le279),hS⟩,Nat.lt_succ_self _⟩
   ·replace h:=iF h266 h
    refine cexit ?_
    refine (fun h=>xe (xe (bh h))) ?_
    refine xn (nz ?_)
    iterate 3 refine st ?_
    refine ld ((f222 _ ((le232.t le265) _ hS.a)).one d0) (st (nw ?_))
    refine cifd (et (k100 (k10 d6))) (fun h283=>?_) (fun h283=>?_)
    ·replace h:=iT h283 h
     refine creg (st ?_)
     obtain ⟨i284,g285,h⟩:=bI h
     refine wl (su (u_addc (et (k100 (k10 d7))) ec g285) (dt (q100 (q10 p8))) (st (wnil ?_)))
     refine (fun h=>bn (xn h)) ?_
     refine creg ?_
     obtain ⟨i286,g287,h⟩:=bI h
     refine wl (su (u_addc (et (k70 d1)) ec g287) (dt (q100 (q10 p9))) (st (wnil (xl ?_))))
     exact ⟨n_2,_,_,rfl,(aK5 (aI (aO6 (aK50 (aK9 (aI (aO20 (aO20 (aO8 aZ))))))))),⟨_,i284,i286,rfl,h,(le214.t (le232.t le265)),hS⟩,Nat.lt_succ_self _⟩
    ·replace h:=iF h283 h
     refine cskip ?_
     refine (fun h=>bn (xn h)) ?_
     refine creg ?_
     obtain ⟨i288,g289,h⟩:=bI h
     refine wl (su (u_addc (et (k70 d1)) ec g289) (dt (q100 (q10 p9))) (st (wnil (xl ?_))))
     exact ⟨n_2,_,_,rfl,(aK5 (aI (aO6 (aK50 (aK9 (aI (aO20 (aO20 (aO8 aZ))))))))),⟨_,i144,i288,rfl,h,(le214.t (le232.t le265)),hS⟩,Nat.lt_succ_self _⟩
  ·replace h:=iF h215 h
   refine cexit ?_
   refine (fun h=>xe (xe (bh h))) ?_
   refine xn (cseq (nz ?_))
   iterate 2 refine st ?_
   refine nw ?_
   refine cifd (et (k100 (k20 d1))) (xT h) fun h290=>?_
   replace h:=iF h290 h
   refine cskip (xn (nz (wl (s_build ti51 pl51 Fl.z (dt (q100 (q20 p3))) (wl (s_storeA ti51 (et d2) (et (k100 (k20 d3))) rfl rfl hS d0 rfl p0 dn ?_))))))
   clear hS; intro w12 hS
   refine nw (cret ?_)
   obtain rfl:=oI h
   refine retN rfl (RVs.s (.a d2 ti51 (hS.blk d0).cells rfl) RVs.z) ?_
   replace hS:=hS.drop Rm.z
   exact ⟨_,rfl,(le56.t le214),hS⟩
end Go.Proofs.YtaenlbapejigbaaGreatDoor
