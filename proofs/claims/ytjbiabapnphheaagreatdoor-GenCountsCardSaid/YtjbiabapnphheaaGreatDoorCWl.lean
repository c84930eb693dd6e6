/- Texts of GenCounts Wl. -/
import Derived.Test.YtjbiabapnphheaaGreatDoorCXu
import Derived.Test.YtjbiabapnphheaaGreatDoorCPl
import Derived.Test.YtjbiabapnphheaaGreatDoorCWc
set_option linter.unusedSimpArgs false
set_option linter.unusedVariables false
set_option linter.unusedSectionVars false
set_option maxRecDepth 100000
set_option maxHeartbeats 20000000
namespace Go.Proofs.YtjbiabapnphheaaGreatDoor
open Go.Wk Go.Xt Go.Y Tryz
variable {b1 b3 b5 b7 b8 b9 b10 b13 c2 c5 c10 c13 c15 c16 fu o2 o4 o11:Nat} {a1 a12 a15:Option Addr} {v15 v21 v25:Value} {cs16 cs22:List Value} {es4 es9 es14:List MapEntry} {ms26:List (Nat×List MapEntry×Nat)} {μ0:M} {w0 w:World} {rsF:List Res}
theorem gen_typ_w (hg:Le Gm μ0) {p_1:TGt} {p_2:TType} {r:Int} (m4:Mr μ0 b3 p_1.boxes) (m6:Mr μ0 b5 p_1.units) (m8:Mr μ0 b7 p_1.defs) (m9:At μ0 b1 o2 [.map (some b3),.map (some b5),.map (some b7)]) (h:gen_typ p_1 p_2=some r) (hS:Sq μ0 w0 w (rsF)):CallsV prog 30 [.pointer (some ⟨b1,o2,none⟩),.agg ⟨[.int .i64 p_2.Kind,S p_2.Gen]⟩] w (fun v w'=>∃ (μ':M) ,v=.int .i64 r∧Le μ0 μ'∧Sq μ' w0 w' (rsF)):=by
 unfold gen_typ at h
 refine enter func30 rfl (frm:=_::_::u1 (u5 (u10 []))) rfl (nz ?_)
 refine wl (s_box (et d1) rfl hS ?_); clear hS; intro b10 w1 hb11 hS; refine po ?_
 refine st (ny (nz (st (ld ((hS.blk d0).cell d0) (st (nw ?_))))))
 refine cifd (et d7) (fun h12=>?_) (fun h12=>?_)
 ·replace h:=iT h12 h
  refine cseq ?_
  refine cdw hS ?_; clear hS; intro w2 hS
  refine cpi 0 rfl (cpi 1 rfl (cpi 2 rfl (cpi 4 rfl (cr 3 [3,6,7,8] rfl (u_load ti50 (et (k10 d0)) ((m9 _ hS.a).one d1)) (q10 p1) (cr 5 [5,6,7,8] rfl (u_load ti9 (et (k10 d2)) ((hS.blk d0).cell d1)) (q10 p3) ?_)))))
  obtain ⟨es13,c14,hb15,hq16⟩:=m6
  refine sc1 rfl rfl rfl (s_mget1 (κ:=List UInt8) (k:=p_2.Gen) (β:=Int) (zx:=0) underlying50 underlying9 (et (k10 d1)) (et (k10 d3)) zv3 rfl (hb15 _ hS.a) hq16 ?_); rintro _ rfl; refine po ?_
  obtain ⟨i19,g20,h⟩:=bI h
  refine cp 7 rfl (u_addc ec (et (k10 d4)) g20) (q10 p5) (cpi 8 rfl (nu (cret (xr ?_))))
  obtain rfl:=oI h
  refine ret1 rfl d4 ?_
  replace hS:=hS.drop Rm.z
  exact ⟨_,rfl,Le.r,hS⟩
 ·replace h:=iF h12 h
  refine cskip (xn (nz (st (ld ((hS.blk d0).cell d0) (st (nw (cret ?_)))))))
  obtain rfl:=oI h
  refine ret1 rfl d4 ?_
  replace hS:=hS.drop Rm.z
  exact ⟨_,rfl,Le.r,hS⟩
theorem gen_typo_w (hg:Le Gm μ0) {boxe_2 unit_7:List (List UInt8×Int)} {defs_12:List (List UInt8×TDef)} {p_2:TType} {r:Int} (m6:Mq μ0 es4 c5 boxe_2) (m11:Mq μ0 es9 c10 unit_7) (m16:Mq μ0 es14 c15 defs_12) (h:gen_typo boxe_2 unit_7 defs_12 p_2=some r) (hS:Sq μ0 w0 w (.blk b1 94 [.map (some b3),.map (some b8),.map (some b13)]::.map b3 es4 c5::.map b8 es9 c10::.map b13 es14 c15::rsF)):CallsV prog 30 [.pointer (some ⟨b1,0,none⟩),.agg ⟨[.int .i64 p_2.Kind,S p_2.Gen]⟩] w (fun v w'=>∃ (μ':M) ,v=.int .i64 r∧Le μ0 μ'∧Sq μ' w0 w' (.blk b1 94 [.map (some b3),.map (some b8),.map (some b13)]::.map b3 es4 c5::.map b8 es9 c10::.map b13 es14 c15::rsF)):=by
 unfold gen_typo at h
 refine enter func30 rfl (frm:=_::_::u1 (u5 (u10 []))) rfl (nz ?_)
 refine wl (s_box (et d1) rfl hS ?_); clear hS; intro b17 w1 hb18 hS; refine po ?_
 refine st (ny (nz (st (ld ((hS.blk d0).cell d0) (st (nw ?_))))))
 refine cifd (et d7) (fun h19=>?_) (fun h19=>?_)
 ·replace h:=iT h19 h
  refine cseq ?_
  refine cdw hS ?_; clear hS; intro w2 hS
  refine cpi 0 rfl (cpi 1 rfl (cpi 2 rfl (cpi 4 rfl (cr 3 [3,6,7,8] rfl (u_load ti50 (et (k10 d0)) ((hS.blk d1).cell d1)) (q10 p1) (cr 5 [5,6,7,8] rfl (u_load ti9 (et (k10 d2)) ((hS.blk d0).cell d1)) (q10 p3) ?_)))))
  refine sc1 rfl rfl rfl (s_mget1 (κ:=List UInt8) (k:=p_2.Gen) (β:=Int) (zx:=0) underlying50 underlying9 (et (k10 d1)) (et (k10 d3)) zv3 rfl (hS.get d3) m11 ?_); rintro _ rfl; refine po ?_
  obtain ⟨i22,g23,h⟩:=bI h
  refine cp 7 rfl (u_addc ec (et (k10 d4)) g23) (q10 p5) (cpi 8 rfl (nu (cret (xr ?_))))
  obtain rfl:=oI h
  refine ret1 rfl d4 ?_
  replace hS:=hS.drop Rm.z
  exact ⟨_,rfl,Le.r,hS⟩
 ·replace h:=iF h19 h
  refine cskip (xn (nz (st (ld ((hS.blk d0).cell d0) (st (nw (cret ?_)))))))
  obtain rfl:=oI h
  refine ret1 rfl d4 ?_
  replace hS:=hS.drop Rm.z
  exact ⟨_,rfl,Le.r,hS⟩
theorem gen_put_w (hg:Le Gm μ0) {tabl_2:TGt} {kind_12 para_13:Int} {loca_14:List Int} {resu_18 take_19:Int} {code_20:List TInstr} {bloc_24:List (List (List UInt8×Int))} {p_2 p_3 p_4:Int} {r:Int×Int×Int×List Int×Int×Int×List TInstr×List (List (List UInt8×Int))} (m6:Mr μ0 b5 tabl_2.boxes) (m8:Mr μ0 b7 tabl_2.units) (m10:Mr μ0 b9 tabl_2.defs) (m11:At μ0 b3 o4 [.map (some b5),.map (some b7),.map (some b9)]) (m17:Rw μ0 cs16 loca_14) (m23:Rw μ0 cs22 code_20) (m27:Ms μ0 ms26 bloc_24) (h:gen_put tabl_2 kind_12 para_13 loca_14 resu_18 take_19 code_20 bloc_24 p_2 p_3 p_4=some r) (hS:Sq μ0 w0 w (.blk b1 126 [.pointer (some ⟨b3,o4,none⟩),.int .i64 kind_12,.int .i64 para_13,v15,.int .i64 resu_18,.int .i64 take_19,v21,v25]::.row v15 3 1 loca_14.length cs16::.row v21 90 3 code_20.length cs22::.row v25 50 1 bloc_24.length (cOf ms26)::(mRs ms26++rsF))):CallsV prog 46 [.pointer (some ⟨b1,0,none⟩),.int .i64 p_2,.int .i64 p_3,.int .i64 p_4] w (fun v w'=>∃ (μ':M) (v28:Value) (cs29:List Value) (v31:Value) (cs32:List Value) (v34:Value) (ms35:List (Nat×List MapEntry×Nat)),v=.int .i64 r.1∧Le μ0 μ'∧Sq μ' w0 w' (.blk b1 126 [.pointer (some ⟨b3,o4,none⟩),.int .i64 r.2.1,.int .i64 r.2.2.1,v28,.int .i64 r.2.2.2.2.1,.int .i64 r.2.2.2.2.2.1,v31,v34]::.row v28 3 1 r.2.2.2.1.length cs29::.row v31 90 3 r.2.2.2.2.2.2.1.length cs32::.row v34 50 1 r.2.2.2.2.2.2.2.length (cOf ms35)::(mRs ms35++rsF))∧Rw μ' cs29 r.2.2.2.1∧Rw μ' cs32 r.2.2.2.2.2.2.1∧Ms μ' ms35 r.2.2.2.2.2.2.2):=by
 unfold gen_put at h
 refine enter func46 rfl (frm:=_::_::_::_::u2 (u5 (u20 []))) rfl (nz (st (nx ?_)))
 iterate 5 refine st ?_
 refine ld ((hS.blk d0).cell d6) ?_
 iterate 3 refine st ?_
 refine wl (s_build ti90 pl90 (Fl.o rfl (et (k10 d5)) rfl rfl p0 (Fl.o rfl (et (k10 d6)) rfl rfl p1 (Fl.o rfl (et (k10 d7)) rfl rfl p2 Fl.z))) (dt (q10 p8)) ?_)
 refine wl (s_bsl1 underlying62 ti90 rfl (et (k10 d8)) rfl hS ?_); clear hS; intro b37 w1 hb38 hS; refine po ?_
 obtain ⟨l41,g42,h⟩:=bI h
 have m43:Rw μ0 [.int .i64 p_2,.int .i64 p_3,.int .i64 p_4] [(TInstr.mk p_2 p_3 p_4)]:=(Rw.one (α:=TInstr) rfl)
 have m40:=Rw.app m23 m43 g42
 refine wl (s_app1 underlying62 ti90 rfl (et (k10 d4)) (et (k10 d9)) hS d3 (hS.blk d0).cells m43 rfl g42 (by decide) ?_); clear hS; intro v39 w2 rs_ hp_ hS; cases (show _=rs_ from hp_)
 replace hS:=Sep.reput hS p3; refine po ?_
 replace hS:=hS.drop Rm.z
 iterate 3 refine st ?_
 refine wl (s_store1 ti62 (et (k20 d3)) (et (k20 d0)) (hS.get d2).cellV hS d0 p6 rfl p0 dn ?_)
 clear hS; intro w3 hS
 refine nx ?_
 iterate 4 refine st ?_
 refine ld ((hS.blk d0).cell d6) (wl (su (u_lenv underlying62 (et (k20 d8)) (hS.get d2).isSl) (dt (q20 p9)) ?_))
 obtain ⟨i44,g45,h⟩:=bI h
 refine wl (su (u_subc (et (k20 d9)) ec g45) (dt (q30 p0)) (st (nw (cret ?_))))
 obtain rfl:=oI h
 refine ret1 rfl d8 ?_
 replace hS:Sq μ0 w0 _ (.blk b1 126 [.pointer (some ⟨b3,o4,none⟩),.int .i64 kind_12,.int .i64 para_13,v15,.int .i64 resu_18,.int .i64 take_19,v39,v25]::.row v15 3 1 loca_14.length cs16::.row v39 90 3 l41.length (cs22++[.int .i64 p_2,.int .i64 p_3,.int .i64 p_4])::.row v25 50 1 bloc_24.length (cOf ms26)::(mRs ms26++rsF)):=hS
 exact ⟨_,_,_,_,((cs22++[.int .i64 p_2,.int .i64 p_3,.int .i64 p_4]):List Value),_,_,rfl,Le.r,hS,m17,m40,m27⟩
theorem gen_here_w (hg:Le Gm μ0) {tabl_2:TGt} {kind_12 para_13:Int} {loca_14:List Int} {resu_18 take_19:Int} {code_20:List TInstr} {bloc_24:List (List (List UInt8×Int))} {r:Int} (m6:Mr μ0 b5 tabl_2.boxes) (m8:Mr μ0 b7 tabl_2.units) (m10:Mr μ0 b9 tabl_2.defs) (m11:At μ0 b3 o4 [.map (some b5),.map (some b7),.map (some b9)]) (m17:Rw μ0 cs16 loca_14) (m23:Rw μ0 cs22 code_20) (m27:Ms μ0 ms26 bloc_24) (h:gen_here tabl_2 kind_12 para_13 loca_14 resu_18 take_19 code_20 bloc_24=some r) (hS:Sq μ0 w0 w (.blk b1 126 [.pointer (some ⟨b3,o4,none⟩),.int .i64 kind_12,.int .i64 para_13,v15,.int .i64 resu_18,.int .i64 take_19,v21,v25]::.row v15 3 1 loca_14.length cs16::.row v21 90 3 code_20.length cs22::.row v25 50 1 bloc_24.length (cOf ms26)::(mRs ms26++rsF))):CallsV prog 83 [.pointer (some ⟨b1,0,none⟩)] w (fun v w'=>∃ (μ':M) ,v=.int .i64 r∧Le μ0 μ'∧Sq μ' w0 w' (.blk b1 126 [.pointer (some ⟨b3,o4,none⟩),.int .i64 kind_12,.int .i64 para_13,v15,.int .i64 resu_18,.int .i64 take_19,v21,v25]::.row v15 3 1 loca_14.length cs16::.row v21 90 3 code_20.length cs22::.row v25 50 1 bloc_24.length (cOf ms26)::(mRs ms26++rsF))):=by
 unfold gen_here at h
 refine enter func83 rfl (frm:=_::u1 (u2 (u5 []))) rfl (nz (st (nx ?_)))
 iterate 4 refine st ?_
 refine ld ((hS.blk d0).cell d6) (wl (su (u_lenv underlying62 (et d7) (hS.get d2).isSl) (dt p8) (st (nw (cret ?_)))))
 obtain rfl:=oI h
 refine ret1 rfl d2 ?_
 replace hS:Sq μ0 w0 _ (.blk b1 126 [.pointer (some ⟨b3,o4,none⟩),.int .i64 kind_12,.int .i64 para_13,v15,.int .i64 resu_18,.int .i64 take_19,v21,v25]::.row v15 3 1 loca_14.length cs16::.row v21 90 3 code_20.length cs22::.row v25 50 1 bloc_24.length (cOf ms26)::(mRs ms26++rsF)):=hS
 exact ⟨_,rfl,Le.r,hS⟩
theorem gen_local_w (hg:Le Gm μ0) {tabl_2:TGt} {kind_12 para_13:Int} {loca_14:List Int} {resu_18 take_19:Int} {code_20:List TInstr} {bloc_24:List (List (List UInt8×Int))} {p_2:List UInt8} {p_3:Int} {r:Int×Int×Int×List Int×Int×Int×List TInstr×List (List (List UInt8×Int))} (m6:Mr μ0 b5 tabl_2.boxes) (m8:Mr μ0 b7 tabl_2.units) (m10:Mr μ0 b9 tabl_2.defs) (m11:At μ0 b3 o4 [.map (some b5),.map (some b7),.map (some b9)]) (m17:Rw μ0 cs16 loca_14) (m23:Rw μ0 cs22 code_20) (m27:Ms μ0 ms26 bloc_24) (h:gen_local tabl_2 kind_12 para_13 loca_14 resu_18 take_19 code_20 bloc_24 p_2 p_3=some r) (hS:Sq μ0 w0 w (.blk b1 126 [.pointer (some ⟨b3,o4,none⟩),.int .i64 kind_12,.int .i64 para_13,v15,.int .i64 resu_18,.int .i64 take_19,v21,v25]::.row v15 3 1 loca_14.length cs16::.row v21 90 3 code_20.length cs22::.row v25 50 1 bloc_24.length (cOf ms26)::(mRs ms26++rsF))):CallsV prog 44 [.pointer (some ⟨b1,0,none⟩),S p_2,.int .i64 p_3] w (fun v w'=>∃ (μ':M) (v28:Value) (cs29:List Value) (v31:Value) (cs32:List Value) (v34:Value) (ms35:List (Nat×List MapEntry×Nat)),v=.int .i64 r.1∧Le μ0 μ'∧Sq μ' w0 w' (.blk b1 126 [.pointer (some ⟨b3,o4,none⟩),.int .i64 r.2.1,.int .i64 r.2.2.1,v28,.int .i64 r.2.2.2.2.1,.int .i64 r.2.2.2.2.2.1,v31,v34]::.row v28 3 1 r.2.2.2.1.length cs29::.row v31 90 3 r.2.2.2.2.2.2.1.length cs32::.row v34 50 1 r.2.2.2.2.2.2.2.length (cOf ms35)::(mRs ms35++rsF))∧Rw μ' cs29 r.2.2.2.1∧Rw μ' cs32 r.2.2.2.2.2.2.1∧Ms μ' ms35 r.2.2.2.2.2.2.2):=by
 unfold gen_local at h
 refine enter func44 rfl (frm:=_::_::_::u2 (u2 (u5 (u10 (u20 []))))) rfl (nz (st (nx ?_)))
 iterate 5 refine st ?_
 refine ld ((hS.blk d0).cell d3) (st ?_)
 refine wl (s_bsl underlying61 ti3 (Parts.s (et (k10 d4)) rfl Parts.z) rfl rfl hS ?_); clear hS; intro b37 w1 hb38 hS; refine po ?_
 obtain ⟨l41,g42,h⟩:=bI h
 have m43:Rw μ0 [.int .i64 p_3] [p_3]:=(Rw.one (α:=Int) rfl)
 have m40:=Rw.app m17 m43 g42
 refine wl (s_app1 underlying61 ti3 rfl (et (k10 d3)) (et (k10 d5)) hS d2 (hS.blk d0).cells m43 rfl g42 (by decide) ?_); clear hS; intro v39 w2 rs_ hp_ hS; cases (show _=rs_ from hp_)
 replace hS:=Sep.reput hS p2; refine po ?_
 replace hS:=hS.drop Rm.z
 iterate 3 refine st ?_
 refine wl (s_store1 ti61 (et (k10 d9)) (et (k10 d6)) (hS.get d1).cellV hS d0 p3 rfl p0 dn ?_)
 clear hS; intro w3 hS
 refine nx ?_
 iterate 4 refine st ?_
 refine ld ((hS.blk d0).cell d3) (wl (su (u_lenv underlying61 (et (k20 d4)) (hS.get d1).isSl) (dt (q20 p5)) ?_))
 obtain ⟨i44,g45,h⟩:=bI h
 refine wl (su (u_subc (et (k20 d5)) ec g45) (dt (q20 p6)) (st (ny ?_)))
 refine cdw hS ?_; clear hS; intro w4 hS
 refine cpi 0 rfl (cpi 1 rfl (cpi 2 rfl (cpi 4 rfl (cpi 5 rfl (cpi 6 rfl (cpi 12 rfl (cpi 13 rfl (cr 7 [7,8,9,10,11,14] rfl (u_load ti124 (et (k30 d3)) ((hS.blk d0).cell d7)) (q30 p4) (cp 8 rfl (u_lenv underlying124 (et (k30 d4)) (hS.get d3).isSl) (q30 p5) ?_)))))))))
 obtain ⟨i46,g47,h⟩:=bI h
 refine cp 9 rfl (u_subc (et (k30 d5)) ec g47) (q30 p6) (cr 3 [3,10,11,14] rfl (u_load ti124 (et (k20 d9)) ((hS.blk d0).cell d7)) (q30 p0) ?_)
 obtain ⟨x48,g49,h⟩:=bI h
 obtain ⟨b50,o51,b52,es53,c54,e55,f56,hms57,mq58⟩:=Row.mapElem (hS.get d3) m27 g49
 refine cp 10 rfl (u_iax underlying124 ti50 (et (k30 d0)) (et (k30 d6)) e55) (q30 p7) (cr 11 [11,14] rfl (u_load ti50 (et (k30 d7)) ((f56 _ _ (hS.get d3)).one d0)) (q30 p8) ?_)
 refine sc1 rfl rfl rfl (s_mputS (pre:=[_,_,_,_]) (κ:=List UInt8) (β:=Int) (kk:=p_2) (xx:=i44) underlying50 underlying9 (et (k30 d8)) (et (k30 d9)) (et (k40 d0)) rfl hS hms57 mq58 m27 dn ?_); clear hS; intro ms59 w5 m60 e61 e62 hS; rw [e61,e62] at hS
 refine nu (nz ?_)
 iterate 2 refine st ?_
 refine nw (cret ?_)
 obtain rfl:=oI h
 refine ret1 rfl d6 ?_
 replace hS:Sq μ0 w0 _ (.blk b1 126 [.pointer (some ⟨b3,o4,none⟩),.int .i64 kind_12,.int .i64 para_13,v39,.int .i64 resu_18,.int .i64 take_19,v21,v25]::.row v39 3 1 l41.length (cs16++[.int .i64 p_3])::.row v21 90 3 code_20.length cs22::.row v25 50 1 (bloc_24.set i46.toNat (mput x48 p_2 i44)).length (cOf ms59)::(mRs ms59++rsF)):=hS
 exact ⟨_,_,((cs16++[.int .i64 p_3]):List Value),_,_,_,_,rfl,Le.r,hS,m40,m23,m60⟩
theorem gen_look_w (hg:Le Gm μ0) {tabl_2:TGt} {kind_12 para_13:Int} {loca_14:List Int} {resu_18 take_19:Int} {code_20:List TInstr} {bloc_24:List (List (List UInt8×Int))} {p_2:List UInt8} {r:Int} (m6:Mr μ0 b5 tabl_2.boxes) (m8:Mr μ0 b7 tabl_2.units) (m10:Mr μ0 b9 tabl_2.defs) (m11:At μ0 b3 o4 [.map (some b5),.map (some b7),.map (some b9)]) (m17:Rw μ0 cs16 loca_14) (m23:Rw μ0 cs22 code_20) (m27:Ms μ0 ms26 bloc_24) (h:gen_look fu tabl_2 kind_12 para_13 loca_14 resu_18 take_19 code_20 bloc_24 p_2=some r) (hS:Sq μ0 w0 w (.blk b1 126 [.pointer (some ⟨b3,o4,none⟩),.int .i64 kind_12,.int .i64 para_13,v15,.int .i64 resu_18,.int .i64 take_19,v21,v25]::.row v15 3 1 loca_14.length cs16::.row v21 90 3 code_20.length cs22::.row v25 50 1 bloc_24.length (cOf ms26)::(mRs ms26++rsF))):CallsV prog 84 [.pointer (some ⟨b1,0,none⟩),S p_2] w (fun v w'=>∃ (μ':M) ,v=.int .i64 r∧Le μ0 μ'∧Sq μ' w0 w' (.blk b1 126 [.pointer (some ⟨b3,o4,none⟩),.int .i64 kind_12,.int .i64 para_13,v15,.int .i64 resu_18,.int .i64 take_19,v21,v25]::.row v15 3 1 loca_14.length cs16::.row v21 90 3 code_20.length cs22::.row v25 50 1 bloc_24.length (cOf ms26)::(mRs ms26++rsF))):=by
 unfold gen_look at h
 refine enter func84 rfl (frm:=_::_::u10 (u20 [])) rfl (nz (st (ny (nz ?_))))
 iterate 3 refine st ?_
 refine ld ((hS.blk d0).cell d7) (wl (su (u_lenv underlying124 (et (k10 d1)) (hS.get d3).isSl) (dt (q10 p2)) ?_))
 obtain ⟨i28,g29,h⟩:=bI h
 refine wl (su (u_subc (et (k10 d2)) ec g29) (dt (q10 p3)) (st (nw (cblock ?_))))
 refine cloopE ([4]++rg 6 2++rg 14 18) (by decide +kernel) (fun n m w=>∃ μx i45,m=(yK4 (yO1 4 (.i (.int .i64 i45)::(yO2 6 (yK6 (yO10 14 (yO8 24 [])))))))∧gen_look_l1 p_2 bloc_24 n i45=some r∧Le μ0 μx∧Sq μx w0 w (.blk b1 126 [.pointer (some ⟨b3,o4,none⟩),.int .i64 kind_12,.int .i64 para_13,v15,.int .i64 resu_18,.int .i64 take_19,v21,v25]::.row v15 3 1 loca_14.length cs16::.row v21 90 3 code_20.length cs22::.row v25 50 1 bloc_24.length (cOf ms26)::(mRs ms26++rsF))) (by rintro _ _ _ ⟨_,_,rfl,_⟩; rfl) _ _ (aK4 (aO1 (aI (aO2 (aK6 (aO10 (aO8 aZ))))))) ⟨_,i28,rfl,h,Le.r,hS⟩ ?_
 rintro n_1 _ t w1 ⟨μ1,i45,rfl,h,le61,hS⟩
 cases n_1 with
 | zero=>cases h
 | succ n_1 =>
 unfold gen_look_l1 at h
 refine cnrm (mK4 (mO1 (mi (mO2 (mK6 (mO10 (mO8 mz))))))) (cseq (nz ?_))
 iterate 2 refine st ?_
 refine nw ?_
 refine cifd (et (k10 d5)) (fun h62=>?_) (fun h62=>?_)
 ·replace h:=iT h62 h
  refine cskip (xn (cseq (cblock (nz ?_))))
  iterate 3 refine st ?_
  refine ld ((hS.blk d0).cell d7) (st ?_)
  obtain ⟨x63,g64,h⟩:=bI h
  obtain ⟨b65,o66,b67,es68,c69,e70,f71,hms72,mq73⟩:=Row.mapElem (hS.get d3) (m27.up le61) g64
  refine wl (su (u_iax underlying124 ti50 (et (k20 d2)) (et (k20 d3)) e70) (dt (q20 p4)) (ld ((f71 _ _ (hS.get d3)).one d0) (st ?_)))
  refine wl (s_mget2 (κ:=List UInt8) (k:=p_2) (β:=Int) (zx:=0) underlying50 underlying9 (et (k20 d5)) (et (k20 d6)) zv3 rfl (hS.mapAt (pre:=[_,_,_,_]) hms72) mq73 ?_); rintro _ rfl; refine po ?_
  iterate 5 refine st ?_
  refine nx (st (nw ?_))
  refine cifb (et (k30 d0)) (fun h76=>?_) (fun h76=>?_)
  ·replace h:=iT h76 h
   refine nz ?_
   iterate 2 refine st ?_
   refine nw (cret ?_)
   refine (fun h=>br (xr (xr (br (xr h))))) ?_
   obtain rfl:=oI h
   refine ret1 rfl d4 ?_
   replace hS:Sq μ1 w0 _ (.blk b1 126 [.pointer (some ⟨b3,o4,none⟩),.int .i64 kind_12,.int .i64 para_13,v15,.int .i64 resu_18,.int .i64 take_19,v21,v25]::.row v15 3 1 loca_14.length cs16::.row v21 90 3 code_20.length cs22::.row v25 50 1 bloc_24.length (cOf ms26)::(mRs ms26++rsF)):=hS
   exact ⟨_,rfl,le61,hS⟩
  ·replace h:=iF h76 h
   refine cskip ?_
   refine (fun h=>bn (xn h)) ?_
   refine creg (st ?_)
   obtain ⟨i77,g78,h⟩:=bI h
   refine wl (su (u_subc (et (k10 d6)) ec g78) (dt (q10 p7)) (st (wnil (xl ?_))))
   exact ⟨n_1,_,_,rfl,(aK4 (aO1 (aI (aO2 (aK6 (aO10 (aO8 aZ))))))),⟨_,i77,rfl,h,le61,hS⟩,Nat.lt_succ_self _⟩
 ·replace h:=iF h62 h
  refine cexit ?_
  refine (fun h=>xe (xe (bh h))) ?_
  refine xn (nz (st (nw (cret ?_))))
  obtain rfl:=oI h
  refine ret1 rfl d4 ?_
  replace hS:Sq μ1 w0 _ (.blk b1 126 [.pointer (some ⟨b3,o4,none⟩),.int .i64 kind_12,.int .i64 para_13,v15,.int .i64 resu_18,.int .i64 take_19,v21,v25]::.row v15 3 1 loca_14.length cs16::.row v21 90 3 code_20.length cs22::.row v25 50 1 bloc_24.length (cOf ms26)::(mRs ms26++rsF)):=hS
  exact ⟨_,rfl,le61,hS⟩
structure GenESound (sf:GenE):Prop where
  gen_expr:∀ {μ0:M} {w0 w:World} {rsF:List Res} (hg:Le Gm μ0) {b1:Nat} {tabl_2:TGt} {b3 o4 b5 b7 b9:Nat} {kind_12 para_13:Int} {loca_14:List Int} {v15:Value} {cs16:List Value} {resu_18 take_19:Int} {code_20:List TInstr} {v21:Value} {cs22:List Value} {bloc_24:List (List (List UInt8×Int))} {v25:Value} {ms26:List (Nat×List MapEntry×Nat)} {p_2:TExpr} {b28 o29:Nat} {a30:Option Addr} {c31:Nat} {r:Int×Int×Int×List Int×Int×Int×List TInstr×List (List (List UInt8×Int))} (m6:Mr μ0 b5 tabl_2.boxes) (m8:Mr μ0 b7 tabl_2.units) (m10:Mr μ0 b9 tabl_2.defs) (m11:At μ0 b3 o4 [.map (some b5),.map (some b7),.map (some b9)]) (m17:Rw μ0 cs16 loca_14) (m23:Rw μ0 cs22 code_20) (m27:Ms μ0 ms26 bloc_24) (m32:Sl μ0 a30 c31 p_2.Kids) (m33:At μ0 b28 o29 [.int .i64 p_2.Kind,.int .i64 p_2.N,S p_2.Name,.slice a30 p_2.Kids.length c31]) (h:sf.gen_expr tabl_2 kind_12 para_13 loca_14 resu_18 take_19 code_20 bloc_24 p_2=some r) (hS:Sq μ0 w0 w (.blk b1 126 [.pointer (some ⟨b3,o4,none⟩),.int .i64 kind_12,.int .i64 para_13,v15,.int .i64 resu_18,.int .i64 take_19,v21,v25]::.row v15 3 1 loca_14.length cs16::.row v21 90 3 code_20.length cs22::.row v25 50 1 bloc_24.length (cOf ms26)::(mRs ms26++rsF))),CallsV prog 82 [.pointer (some ⟨b1,0,none⟩),.pointer (some ⟨b28,o29,none⟩)] w (fun v w'=>∃ (μ':M) (v34:Value) (cs35:List Value) (v37:Value) (cs38:List Value) (v40:Value) (ms41:List (Nat×List MapEntry×Nat)),v=.int .i64 r.1∧Le μ0 μ'∧Sq μ' w0 w' (.blk b1 126 [.pointer (some ⟨b3,o4,none⟩),.int .i64 r.2.1,.int .i64 r.2.2.1,v34,.int .i64 r.2.2.2.2.1,.int .i64 r.2.2.2.2.2.1,v37,v40]::.row v34 3 1 r.2.2.2.1.length cs35::.row v37 90 3 r.2.2.2.2.2.2.1.length cs38::.row v40 50 1 r.2.2.2.2.2.2.2.length (cOf ms41)::(mRs ms41++rsF))∧Rw μ' cs35 r.2.2.2.1∧Rw μ' cs38 r.2.2.2.2.2.2.1∧Ms μ' ms41 r.2.2.2.2.2.2.2)
theorem gen_expr_w {self:GenE} (IH:GenESound self) {fu:Nat} {μ0:M} {w0 w:World} {rsF:List Res} (hg:Le Gm μ0) {b1:Nat} {tabl_2:TGt} {b3 o4 b5 b7 b9:Nat} {kind_12 para_13:Int} {loca_14:List Int} {v15:Value} {cs16:List Value} {resu_18 take_19:Int} {code_20:List TInstr} {v21:Value} {cs22:List Value} {bloc_24:List (List (List UInt8×Int))} {v25:Value} {ms26:List (Nat×List MapEntry×Nat)} {p_2:TExpr} {b28 o29:Nat} {a30:Option Addr} {c31:Nat} {r:Int×Int×Int×List Int×Int×Int×List TInstr×List (List (List UInt8×Int))} (m6:Mr μ0 b5 tabl_2.boxes) (m8:Mr μ0 b7 tabl_2.units) (m10:Mr μ0 b9 tabl_2.defs) (m11:At μ0 b3 o4 [.map (some b5),.map (some b7),.map (some b9)]) (m17:Rw μ0 cs16 loca_14) (m23:Rw μ0 cs22 code_20) (m27:Ms μ0 ms26 bloc_24) (m32:Sl μ0 a30 c31 p_2.Kids) (m33:At μ0 b28 o29 [.int .i64 p_2.Kind,.int .i64 p_2.N,S p_2.Name,.slice a30 p_2.Kids.length c31]) (h:gen_expr fu self tabl_2 kind_12 para_13 loca_14 resu_18 take_19 code_20 bloc_24 p_2=some r) (hS:Sq μ0 w0 w (.blk b1 126 [.pointer (some ⟨b3,o4,none⟩),.int .i64 kind_12,.int .i64 para_13,v15,.int .i64 resu_18,.int .i64 take_19,v21,v25]::.row v15 3 1 loca_14.length cs16::.row v21 90 3 code_20.length cs22::.row v25 50 1 bloc_24.length (cOf ms26)::(mRs ms26++rsF))):CallsV prog 82 [.pointer (some ⟨b1,0,none⟩),.pointer (some ⟨b28,o29,none⟩)] w (fun v w'=>∃ (μ':M) (v34:Value) (cs35:List Value) (v37:Value) (cs38:List Value) (v40:Value) (ms41:List (Nat×List MapEntry×Nat)),v=.int .i64 r.1∧Le μ0 μ'∧Sq μ' w0 w' (.blk b1 126 [.pointer (some ⟨b3,o4,none⟩),.int .i64 r.2.1,.int .i64 r.2.2.1,v34,.int .i64 r.2.2.2.2.1,.int .i64 r.2.2.2.2.2.1,v37,v40]::.row v34 3 1 r.2.2.2.1.length cs35::.row v37 90 3 r.2.2.2.2.2.2.1.length cs38::.row v40 50 1 r.2.2.2.2.2.2.2.length (cOf ms41)::(mRs ms41++rsF))∧Rw μ' cs35 r.2.2.2.1∧Rw μ' cs38 r.2.2.2.2.2.2.1∧Ms μ' ms41 r.2.2.2.2.2.2.2):=by
 unfold gen_expr at h
 refine enter func82 rfl (frm:=_::_::u2 (u2 (u5 (u10 (u20 (u50 (u50 (u50 (u50 (u50 [])))))))))) rfl (nz (st (nx (st (ny (nz ?_))))))
 iterate 3 refine st ?_
 refine ld ((m33 _ hS.a).one d3) (wl (su (u_lensl underlying116 (et (k10 d3))) (dt (q10 p4)) (st (nw (cblock ?_)))))
 replace hS:=hS.nilRow 3 (Mo.sz Int)
 replace hS:=(((hS.bg Y4).bg Y4).bg Y4).bg Y4
 refine cloopE ([6]++rg 16 14) (by decide) (fun n m w=>∃ μx i76 i77 i78 i79 i80 l83 v81 cs82 l87 v85 cs86 l91 v89 ms90 l95 v93 cs94,m=(yK5 (.i (v93)::(yO1 6 (yK8 (.i (.int .i64 i76)::(yO10 16 (yO4 26 [])))))))∧gen_expr_l1 fu self p_2 tabl_2 n i76 i77 i78 i79 i80 l83 l87 l91 l95=some r∧Le μ0 μx∧Sq μx w0 w (.blk b1 126 [.pointer (some ⟨b3,o4,none⟩),.int .i64 i77,.int .i64 i78,v81,.int .i64 i79,.int .i64 i80,v85,v89]::.row v81 3 1 l83.length cs82::.row v85 90 3 l87.length cs86::.row v89 50 1 l91.length (cOf ms90)::.row v93 3 1 l95.length cs94::(mRs ms90++rsF))∧Rw μx cs82 l83∧Rw μx cs86 l87∧Ms μx ms90 l91∧Rw μx cs94 l95) (by rintro _ _ _ ⟨_,_,_,_,_,_,_,_,_,_,_,_,_,_,_,_,_,_,rfl,_⟩; rfl) _ _ (aK5 (aI (aO1 (aK8 (aI (aO10 (aO4 aZ))))))) ⟨_,0,kind_12,para_13,resu_18,take_19,loca_14,v15,cs16,code_20,v21,cs22,bloc_24,v25,ms26,[],(.slice none 0 0),[],rfl,h,Le.r,hS,m17,m23,m27,Rw.nil⟩ ?_
 rintro n_1 _ t w1 ⟨μ1,i76,i77,i78,i79,i80,l83,v81,cs82,l87,v85,cs86,l91,v89,ms90,l95,v93,cs94,rfl,h,le129,hS,m130,m131,m132,m133⟩
 cases n_1 with
 | zero=>cases h
 | succ n_1 =>
 unfold gen_expr_l1 at h
 refine cnrm (mK5 (mi (mO1 (mK8 (mi (mO10 (mO4 mz))))))) (nz (st (ny ?_)))
 refine cifd (et (k10 d6)) (fun h134=>?_) (fun h134=>?_)
 ·replace h:=iT h134 h
  refine cskip (xn (cseq (cblock (nz ?_))))
  iterate 2 refine st ?_
  refine nw (creg ?_)
  iterate 5 refine st ?_
  refine ld ((m33 _ (le129 _ hS.a)).one d3) (st ?_)
  obtain ⟨x135,g136,h⟩:=bI h
  obtain ⟨b137,o138,cs139,e140,f141,m142⟩:=SlR.elem (m32.up le129) g136
  obtain ⟨a143,c144,rfl,m145⟩:=TExpr.o m142
  refine wl (su (u_iax underlying116 ti118 (et (k20 d3)) (et (k20 d4)) e140) (dt (q20 p5)) ?_)
  obtain ⟨r146,g147,h⟩:=bI h
  replace hS:=(((hS.bg Y3).bg Y3).bg Y3).bg Y3
  replace hS:=Sep.mOut (a:=[_,_,_,_]) (p:=[_]) (M:=mRs ms90) (R:=rsF) hS
  refine ca (IH.gen_expr (hg.t le129) (m6.up le129) (m8.up le129) (m10.up le129) (m11.up le129) m130 m131 m132 m145 f141 g147 hS) ?_
  rintro _ w2 ⟨μ2,v149,cs150,v152,cs153,v155,ms156,rfl,le148,hS,m151,m154,m157⟩
  replace hS:=Sep.mOut (a:=[_,_,_,_]) (p:=mRs ms156) (M:=[_]) (R:=rsF) hS
  refine po ?_
  refine wl (s_bsl underlying61 ti3 (Parts.s (et (k20 d6)) rfl Parts.z) rfl rfl hS ?_); clear hS; intro b158 w3 hb159 hS; refine po ?_
  obtain ⟨l162,g163,h⟩:=bI h
  have m164:Rw μ2 [.int .i64 r146.1] [r146.1]:=(Rw.one (α:=Int) rfl)
  have m161:=Rw.app (m133.up le148) m164 g163
  refine wl (s_app1 underlying61 ti3 rfl (et (k10 d8)) (et (k20 d7)) hS d5 (hS.blk d0).cells m164 rfl g163 (by decide) ?_); clear hS; intro v160 w4 rs_ hp_ hS; cases (show _=rs_ from hp_)
  replace hS:=Sep.reput hS p5; refine po ?_
  replace hS:=hS.drop Rm.z
  refine st (wnil ?_)
  refine (fun h=>bn (xn h)) ?_
  refine creg ?_
  obtain ⟨i165,g166,h⟩:=bI h
  refine wl (su (u_addc (et (k10 d5)) ec g166) (dt (q20 p9)) (st (wnil (xl ?_))))
  exact ⟨n_1,_,_,rfl,(aK5 (aI (aO1 (aK8 (aI (aO10 (aO4 aZ))))))),⟨_,i165,r146.2.1,r146.2.2.1,r146.2.2.2.2.1,r146.2.2.2.2.2.1,r146.2.2.2.1,v149,cs150,r146.2.2.2.2.2.2.1,v152,cs153,r146.2.2.2.2.2.2.2,v155,ms156,l162,v160,(cs94++[.int .i64 r146.1]),rfl,h,(le129.t le148),hS,m151,m154,m157,m161⟩,Nat.lt_succ_self _⟩
 ·replace h:=iF h134 h
  refine cexit ?_
  refine (fun h=>xe (xe (bh h))) ?_
  refine xn (cseq (cblock (nz ?_)))
  iterate 3 refine st ?_
  refine ld ((m33 _ (le129 _ hS.a)).one d0) ?_
  iterate 2 refine st ?_
  refine nw ?_
  refine cifd (et (k30 d0)) (fun h167=>?_) (fun h167=>?_)
  ·replace h:=iT h167 h
   refine nz ?_
   iterate 4 refine st ?_
   refine ld ((m33 _ (le129 _ hS.a)).one d1) ?_
   obtain ⟨r168,g169,h⟩:=bI h
   replace hS:=(((hS.bg Y3).bg Y3).bg Y3).bg Y3
   replace hS:=Sep.mOut (a:=[_,_,_,_]) (p:=[_]) (M:=mRs ms90) (R:=rsF) hS
   refine ca (gen_put_w (hg.t le129) (m6.up le129) (m8.up le129) (m10.up le129) (m11.up le129) m130 m131 m132 g169 hS) ?_
   rintro _ w5 ⟨μ3,v171,cs172,v174,cs175,v177,ms178,rfl,le170,hS,m173,m176,m179⟩
   replace hS:=Sep.mOut (a:=[_,_,_,_]) (p:=mRs ms178) (M:=[_]) (R:=rsF) hS
   refine po (nx (st (nw (cret ?_))))
   refine (fun h=>br (xr h)) ?_
   obtain rfl:=oI h
   refine ret1 rfl d4 ?_
   replace hS:=hS.drop (Rm.s (Rm.s (Rm.s (Rm.s Rm.z))))
   replace hS:Sq μ3 w0 _ (.blk b1 126 [.pointer (some ⟨b3,o4,none⟩),.int .i64 r168.2.1,.int .i64 r168.2.2.1,v171,.int .i64 r168.2.2.2.2.1,.int .i64 r168.2.2.2.2.2.1,v174,v177]::.row v171 3 1 r168.2.2.2.1.length cs172::.row v174 90 3 r168.2.2.2.2.2.2.1.length cs175::.row v177 50 1 r168.2.2.2.2.2.2.2.length (cOf ms178)::(mRs ms178++rsF)):=hS
   exact ⟨_,_,_,_,_,_,_,rfl,(le129.t le170),hS,m173,m176,m179⟩
  ·replace h:=iF h167 h
   refine nz ?_
   iterate 3 refine st ?_
   refine ld ((m33 _ (le129 _ hS.a)).one d0) ?_
   iterate 2 refine st ?_
   refine nw ?_
   refine cifd (et (k40 d2)) (fun h180=>?_) (fun h180=>?_)
   ·replace h:=iT h180 h
    refine nz ?_
    iterate 4 refine st ?_
    refine ld ((m33 _ (le129 _ hS.a)).one d1) ?_
    obtain ⟨r181,g182,h⟩:=bI h
    replace hS:=(((hS.bg Y3).bg Y3).bg Y3).bg Y3
    replace hS:=Sep.mOut (a:=[_,_,_,_]) (p:=[_]) (M:=mRs ms90) (R:=rsF) hS
    refine ca (gen_put_w (hg.t le129) (m6.up le129) (m8.up le129) (m10.up le129) (m11.up le129) m130 m131 m132 g182 hS) ?_
    rintro _ w6 ⟨μ4,v184,cs185,v187,cs188,v190,ms191,rfl,le183,hS,m186,m189,m192⟩
    replace hS:=Sep.mOut (a:=[_,_,_,_]) (p:=mRs ms191) (M:=[_]) (R:=rsF) hS
    refine po (nx (st (nw (cret ?_))))
    refine (fun h=>br (xr h)) ?_
    obtain rfl:=oI h
    refine ret1 rfl d4 ?_
    replace hS:=hS.drop (Rm.s (Rm.s (Rm.s (Rm.s Rm.z))))
    replace hS:Sq μ4 w0 _ (.blk b1 126 [.pointer (some ⟨b3,o4,none⟩),.int .i64 r181.2.1,.int .i64 r181.2.2.1,v184,.int .i64 r181.2.2.2.2.1,.int .i64 r181.2.2.2.2.2.1,v187,v190]::.row v184 3 1 r181.2.2.2.1.length cs185::.row v187 90 3 r181.2.2.2.2.2.2.1.length cs188::.row v190 50 1 r181.2.2.2.2.2.2.2.length (cOf ms191)::(mRs ms191++rsF)):=hS
    exact ⟨_,_,_,_,_,_,_,rfl,(le129.t le183),hS,m186,m189,m192⟩
   ·replace h:=iF h180 h
    refine nz ?_
    iterate 3 refine st ?_
    refine ld ((m33 _ (le129 _ hS.a)).one d0) ?_
    iterate 2 refine st ?_
    refine nw ?_
    refine cifd (et (k50 d4)) (fun h193=>?_) (fun h193=>?_)
    ·replace h:=iT h193 h
     refine nz ?_
     iterate 4 refine st ?_
     refine ld ((m33 _ (le129 _ hS.a)).one d2) ?_
     obtain ⟨r194,g195,h⟩:=bI h
     replace hS:=(((hS.bg Y3).bg Y3).bg Y3).bg Y3
     replace hS:=Sep.mOut (a:=[_,_,_,_]) (p:=[_]) (M:=mRs ms90) (R:=rsF) hS
     refine ca (gen_look_w (hg.t le129) (m6.up le129) (m8.up le129) (m10.up le129) (m11.up le129) m130 m131 m132 g195 hS) ?_
     rintro _ w7 ⟨μ5,rfl,le196,hS⟩
     replace hS:=Sep.mOut (a:=[_,_,_,_]) (p:=mRs ms90) (M:=[_]) (R:=rsF) hS
     refine po (st (nx ?_))
     iterate 2 refine st ?_
     obtain ⟨r197,g198,h⟩:=bI h
     replace hS:=(((hS.bg Y3).bg Y3).bg Y3).bg Y3
     replace hS:=Sep.mOut (a:=[_,_,_,_]) (p:=[_]) (M:=mRs ms90) (R:=rsF) hS
     refine ca (gen_put_w (hg.t (le129.t le196)) (m6.up (le129.t le196)) (m8.up (le129.t le196)) (m10.up (le129.t le196)) (m11.up (le129.t le196)) (m130.up le196) (m131.up le196) (m132.up le196) g198 hS) ?_
     rintro _ w8 ⟨μ6,v200,cs201,v203,cs204,v206,ms207,rfl,le199,hS,m202,m205,m208⟩
     replace hS:=Sep.mOut (a:=[_,_,_,_]) (p:=mRs ms207) (M:=[_]) (R:=rsF) hS
     refine po (nx ?_)
     iterate 4 refine st ?_
     refine ld ((hS.blk d0).cell d3) (st ?_)
     obtain ⟨x209,g210,h⟩:=bI h
     obtain ⟨b211,o212,pc213,cs214,sc215,ec216,e217,f218,m219,pn220,st221,m222⟩:=Row.elemS (α:=Int) (hS.get d1) m202 rfl g210
     rw [ec216] at hS
     obtain rfl:=m219
     refine wl (su (u_iax underlying61 ti3 (et (k70 d3)) (et (k70 d4)) e217) (dt (q70 p5)) (ld ((f218 _ _ _ (hS.get d1) rfl).one d0) (st (nw (cret ?_)))))
     refine (fun h=>br (xr h)) ?_
     obtain rfl:=oI h
     refine ret1 rfl d4 ?_
     replace hS:=hS.drop (Rm.s (Rm.s (Rm.s (Rm.s Rm.z))))
     replace hS:Sq μ6 w0 _ (.blk b1 126 [.pointer (some ⟨b3,o4,none⟩),.int .i64 r197.2.1,.int .i64 r197.2.2.1,v200,.int .i64 r197.2.2.2.2.1,.int .i64 r197.2.2.2.2.2.1,v203,v206]::.row v200 3 1 r197.2.2.2.1.length (pc213++([.int .i64 x209]++sc215))::.row v203 90 3 r197.2.2.2.2.2.2.1.length cs204::.row v206 50 1 r197.2.2.2.2.2.2.2.length (cOf ms207)::(mRs ms207++rsF)):=hS
     exact ⟨_,_,((pc213++([.int .i64 x209]++sc215)):List Value),_,_,_,_,rfl,(le129.t (le196.t le199)),hS,m222,m205,m208⟩
    ·replace h:=iF h193 h
     refine nz ?_
     iterate 3 refine st ?_
     refine ld ((m33 _ (le129 _ hS.a)).one d0) ?_
     iterate 2 refine st ?_
     refine nw ?_
     refine cifd (et (k70 d7)) (fun h223=>?_) (fun h223=>?_)
     ·replace h:=iT h223 h
      refine nz (st ?_)
      obtain ⟨r224,g225,h⟩:=bI h
      replace hS:=(((hS.bg Y3).bg Y3).bg Y3).bg Y3
      replace hS:=Sep.mOut (a:=[_,_,_,_]) (p:=[_]) (M:=mRs ms90) (R:=rsF) hS
      refine ca (gen_put_w (hg.t le129) (m6.up le129) (m8.up le129) (m10.up le129) (m11.up le129) m130 m131 m132 g225 hS) ?_
      rintro _ w9 ⟨μ7,v227,cs228,v230,cs231,v233,ms234,rfl,le226,hS,m229,m232,m235⟩
      replace hS:=Sep.mOut (a:=[_,_,_,_]) (p:=mRs ms234) (M:=[_]) (R:=rsF) hS
      refine po (nx (st (nw (cret ?_))))
      refine (fun h=>br (xr h)) ?_
      obtain rfl:=oI h
      refine ret1 rfl d4 ?_
      replace hS:=hS.drop (Rm.s (Rm.s (Rm.s (Rm.s Rm.z))))
      replace hS:Sq μ7 w0 _ (.blk b1 126 [.pointer (some ⟨b3,o4,none⟩),.int .i64 r224.2.1,.int .i64 r224.2.2.1,v227,.int .i64 r224.2.2.2.2.1,.int .i64 r224.2.2.2.2.2.1,v230,v233]::.row v227 3 1 r224.2.2.2.1.length cs228::.row v230 90 3 r224.2.2.2.2.2.2.1.length cs231::.row v233 50 1 r224.2.2.2.2.2.2.2.length (cOf ms234)::(mRs ms234++rsF)):=hS
      exact ⟨_,_,_,_,_,_,_,rfl,(le129.t le226),hS,m229,m232,m235⟩
     ·replace h:=iF h223 h
      refine nz ?_
      iterate 3 refine st ?_
      refine ld ((m33 _ (le129 _ hS.a)).one d0) ?_
      iterate 2 refine st ?_
      refine nw ?_
      refine cifd (et (k80 d5)) (fun h236=>?_) (fun h236=>?_)
      ·replace h:=iT h236 h
       refine nz (st ?_)
       obtain ⟨r237,g238,h⟩:=bI h
       replace hS:=(((hS.bg Y3).bg Y3).bg Y3).bg Y3
       replace hS:=Sep.mOut (a:=[_,_,_,_]) (p:=[_]) (M:=mRs ms90) (R:=rsF) hS
       refine ca (gen_put_w (hg.t le129) (m6.up le129) (m8.up le129) (m10.up le129) (m11.up le129) m130 m131 m132 g238 hS) ?_
       rintro _ w10 ⟨μ8,v240,cs241,v243,cs244,v246,ms247,rfl,le239,hS,m242,m245,m248⟩
       replace hS:=Sep.mOut (a:=[_,_,_,_]) (p:=mRs ms247) (M:=[_]) (R:=rsF) hS
       refine po (nx (st (nw (cret ?_))))
       refine (fun h=>br (xr h)) ?_
       obtain rfl:=oI h
       refine ret1 rfl d4 ?_
       replace hS:=hS.drop (Rm.s (Rm.s (Rm.s (Rm.s Rm.z))))
       replace hS:Sq μ8 w0 _ (.blk b1 126 [.pointer (some ⟨b3,o4,none⟩),.int .i64 r237.2.1,.int .i64 r237.2.2.1,v240,.int .i64 r237.2.2.2.2.1,.int .i64 r237.2.2.2.2.2.1,v243,v246]::.row v240 3 1 r237.2.2.2.1.length cs241::.row v243 90 3 r237.2.2.2.2.2.2.1.length cs244::.row v246 50 1 r237.2.2.2.2.2.2.2.length (cOf ms247)::(mRs ms247++rsF)):=hS
       exact ⟨_,_,_,_,_,_,_,rfl,(le129.t le239),hS,m242,m245,m248⟩
      ·replace h:=iF h236 h
       refine cseq ?_
       refine ccutE (rg 94 12) (by decide) (fun m w=>∃ μx b249,m=(yK50 (yK20 (yK20 (yK3 (.i (.bool b249)::(yO10 94 (yO2 104 [])))))))∧gen_expr_j1 p_2 tabl_2 i77 i78 i79 i80 l83 l87 l91 l95 b249=some r∧Le μ1 μx∧Sq μx w0 w (.blk b1 126 [.pointer (some ⟨b3,o4,none⟩),.int .i64 i77,.int .i64 i78,v81,.int .i64 i79,.int .i64 i80,v85,v89]::.row v81 3 1 l83.length cs82::.row v85 90 3 l87.length cs86::.row v89 50 1 l91.length (cOf ms90)::.row v93 3 1 l95.length cs94::(mRs ms90++rsF))) (by rintro _ _ ⟨_,_,rfl,_⟩; rfl) ?_ ?_
       ·refine creg ?_
        iterate 3 refine st ?_
        refine ld ((m33 _ (le129 _ hS.a)).one d0) ?_
        iterate 2 refine st ?_
        refine wspd (k90 d9) (q90 p9) (q90 p9) (fun h250=>?_) (fun h250=>?_)
        ·replace h:=iT h250 h
         refine sy rfl (sy rfl (sy rfl (wy rfl (k90 d9) (s_load ti3 (et (k100 d2)) ((m33 _ (le129 _ hS.a)).one d0) (dt (q100 p3)) (sy rfl ?_)))))
         iterate 2 refine st ?_
         refine wnil (xl ?_)
         exact ⟨_,_,rfl,(aK50 (aK20 (aK20 (aK3 (aI (aO10 (aO2 aZ))))))),_,(decide (p_2.Kind≤18)),rfl,h,Le.r,hS⟩
        ·replace h:=iF h250 h
         refine sn rfl rfl (sn rfl rfl (sn rfl rfl (sn rfl rfl (sn rfl rfl ?_))))
         iterate 2 refine st ?_
         refine wnil (xl ?_)
         exact ⟨_,_,rfl,(aK50 (aK20 (aK20 (aK3 (aI (aO10 (aO2 aZ))))))),_,false,rfl,h,Le.r,hS⟩
       ·rintro _ t w11 ⟨μ9,b249,rfl,h,le251,hS⟩
        unfold gen_expr_j1 at h
        refine nrm (mK50 (mK20 (mK20 (mK3 (mi (mO10 (mO2 mz))))))) (xn ?_)
        refine cifb (et (k90 d3)) (fun h252=>?_) (fun h252=>?_)
        ·replace h:=iT h252 h
         refine nz ?_
         iterate 4 refine st ?_
         refine ld ((m33 _ ((le129.t le251) _ hS.a)).one d0) ?_
         obtain ⟨i253,g254,h⟩:=bI h
         refine wl (su (u_addc ec (et (k100 (k10 d0))) g254) (dt (q100 (q10 p1))) ?_)
         obtain ⟨i255,g256,h⟩:=bI h
         refine wl (su (u_subc (et (k100 (k10 d1))) ec g256) (dt (q100 (q10 p2))) ?_)
         obtain ⟨r257,g258,h⟩:=bI h
         replace hS:=(((hS.bg Y3).bg Y3).bg Y3).bg Y3
         replace hS:=Sep.mOut (a:=[_,_,_,_]) (p:=[_]) (M:=mRs ms90) (R:=rsF) hS
         refine ca (gen_put_w (hg.t (le129.t le251)) (m6.up (le129.t le251)) (m8.up (le129.t le251)) (m10.up (le129.t le251)) (m11.up (le129.t le251)) (m130.up le251) (m131.up le251) (m132.up le251) g258 hS) ?_
         rintro _ w12 ⟨μ10,v260,cs261,v263,cs264,v266,ms267,rfl,le259,hS,m262,m265,m268⟩
         replace hS:=Sep.mOut (a:=[_,_,_,_]) (p:=mRs ms267) (M:=[_]) (R:=rsF) hS
         refine po (ny (nz ?_))
         iterate 3 refine st ?_
         refine ld ((m33 _ ((le129.t (le251.t le259)) _ hS.a)).one d0) (st (nw ?_))
         refine cifd (et (k100 (k10 d8))) (fun h269=>?_) (fun h269=>?_)
         ·replace h:=iT h269 h
          refine nz (st (nw (cret ?_)))
          refine (fun h=>xr (br (xr h))) ?_
          obtain rfl:=oI h
          refine ret1 rfl d4 ?_
          replace hS:=hS.drop (Rm.s (Rm.s (Rm.s (Rm.s Rm.z))))
          replace hS:Sq μ10 w0 _ (.blk b1 126 [.pointer (some ⟨b3,o4,none⟩),.int .i64 r257.2.1,.int .i64 r257.2.2.1,v260,.int .i64 r257.2.2.2.2.1,.int .i64 r257.2.2.2.2.2.1,v263,v266]::.row v260 3 1 r257.2.2.2.1.length cs261::.row v263 90 3 r257.2.2.2.2.2.2.1.length cs264::.row v266 50 1 r257.2.2.2.2.2.2.2.length (cOf ms267)::(mRs ms267++rsF)):=hS
          exact ⟨_,_,_,_,_,_,_,rfl,(le129.t (le251.t le259)),hS,m262,m265,m268⟩
         ·replace h:=iF h269 h
          refine cskip (xn (nz (st (nw (cret ?_)))))
          refine (fun h=>br (xr h)) ?_
          obtain rfl:=oI h
          refine ret1 rfl d4 ?_
          replace hS:=hS.drop (Rm.s (Rm.s (Rm.s (Rm.s Rm.z))))
          replace hS:Sq μ10 w0 _ (.blk b1 126 [.pointer (some ⟨b3,o4,none⟩),.int .i64 r257.2.1,.int .i64 r257.2.2.1,v260,.int .i64 r257.2.2.2.2.1,.int .i64 r257.2.2.2.2.2.1,v263,v266]::.row v260 3 1 r257.2.2.2.1.length cs261::.row v263 90 3 r257.2.2.2.2.2.2.1.length cs264::.row v266 50 1 r257.2.2.2.2.2.2.2.length (cOf ms267)::(mRs ms267++rsF)):=hS
          exact ⟨_,_,_,_,_,_,_,rfl,(le129.t (le251.t le259)),hS,m262,m265,m268⟩
        ·replace h:=iF h252 h
         refine nz ?_
         iterate 3 refine st ?_
         refine ld ((m33 _ ((le129.t le251) _ hS.a)).one d0) ?_
         iterate 2 refine st ?_
         refine nw ?_
         refine cifd (et (k100 (k10 d9))) (fun h270=>?_) (fun h270=>?_)
         ·replace h:=iT h270 h
          refine cseq ?_
          refine cdw hS ?_; clear hS; intro w13 hS
          refine cpi 0 rfl (cpi 1 rfl (cpi 2 rfl (cpi 3 rfl (cpi 8 rfl (cpi 9 rfl (cpi 10 rfl (cr 4 [4,5,6,7,12,13] rfl (u_load ti91 (et (k100 (k20 d8))) ((hS.blk d0).cell d0)) (q100 (q20 p9)) (cpi 5 rfl (cpi 6 rfl (cr 7 [7,12,13] rfl (u_load ti50 (et (k100 (k30 d1))) ((m11 _ ((le129.t le251) _ hS.a)).one d1)) (q100 (q30 p2)) (cr 11 [11,12,13] rfl (u_load ti9 (et (k100 (k30 d5))) ((m33 _ ((le129.t le251) _ hS.a)).one d2)) (q100 (q30 p6)) ?_)))))))))))
          obtain ⟨es271,c272,hb273,hq274⟩:=(m8.up (le129.t le251))
          refine sc1 rfl rfl rfl (s_mget1 (κ:=List UInt8) (k:=p_2.Name) (β:=Int) (zx:=0) underlying50 underlying9 (et (k100 (k30 d2))) (et (k100 (k30 d6))) zv3 rfl (hb273 _ hS.a) hq274 ?_); rintro _ rfl; refine po ?_
          obtain ⟨r277,g278,h⟩:=bI h
          replace hS:=(((hS.bg Y3).bg Y3).bg Y3).bg Y3
          replace hS:=Sep.mOut (a:=[_,_,_,_]) (p:=[_]) (M:=mRs ms90) (R:=rsF) hS
          refine sc1 rfl rfl rfl (s_callv isfn46 ef (e1 (et (k100 (k20 d5))) (e1 ec (e1 (et (k100 (k30 d7))) (e1 ec e0)))) (gen_put_w (hg.t (le129.t le251)) (m6.up (le129.t le251)) (m8.up (le129.t le251)) (m10.up (le129.t le251)) (m11.up (le129.t le251)) (m130.up le251) (m131.up le251) (m132.up le251) g278 hS) ?_)
          rintro _ w14 ⟨μ11,v280,cs281,v283,cs284,v286,ms287,rfl,le279,hS,m282,m285,m288⟩
          replace hS:=Sep.mOut (a:=[_,_,_,_]) (p:=mRs ms287) (M:=[_]) (R:=rsF) hS
          refine po (nu (cseq ?_))
          refine ccutE (rg 139 20) (by decide) (fun m w=>∃ μx i289,m=(yK4 (.i (.int .i64 i289)::(yK50 (yK50 (yK20 (yK10 (yK4 (yO20 139 []))))))))∧gen_expr_j2 r277 i289=some r∧Le μ11 μx∧Sq μx w0 w (.blk b1 126 [.pointer (some ⟨b3,o4,none⟩),.int .i64 r277.2.1,.int .i64 r277.2.2.1,v280,.int .i64 r277.2.2.2.2.1,.int .i64 r277.2.2.2.2.2.1,v283,v286]::.row v280 3 1 r277.2.2.2.1.length cs281::.row v283 90 3 r277.2.2.2.2.2.2.1.length cs284::.row v286 50 1 r277.2.2.2.2.2.2.2.length (cOf ms287)::(mRs ms287++rsF))) (by rintro _ _ ⟨_,_,rfl,_⟩; rfl) ?_ ?_
          ·refine cdw hS ?_; clear hS; intro w15 hS
           refine cpi 0 rfl (cpi 1 rfl (cpi 2 rfl (cpi 4 rfl (cpi 5 rfl (cpi 6 rfl (cpi 11 rfl (cpi 12 rfl (cpi 13 rfl (cr 7 [7,8,9,10,15,16,17,18,19,20] rfl (u_load ti91 (et (k100 (k40 d5))) ((hS.blk d0).cell d0)) (q100 (q40 p6)) (cpi 8 rfl (cpi 9 rfl (cr 10 [10,15,16,17,18,19,20] rfl (u_load ti92 (et (k100 (k40 d8))) ((m11 _ ((le129.t (le251.t le279)) _ hS.a)).one d2)) (q100 (q40 p9)) (cr 14 [14,15,16,17,18,19,20] rfl (u_load ti9 (et (k100 (k50 d2))) ((m33 _ ((le129.t (le251.t le279)) _ hS.a)).one d2)) (q100 (q50 p3)) ?_)))))))))))))
           refine sc2G (i:=3) (j:=15) rfl rfl rfl rfl rfl (wn0 rfl) (wn0 rfl) ?_ ?_
           ·refine id (s_load ti91 (et (k100 (k40 d1))) ((hS.blk d0).cell d0) (dt (q100 (q40 p2))) ?_)
            obtain ⟨es290,c291,hb292,hq293⟩:=(m10.up (le129.t (le251.t le279)))
            refine sc1 rfl rfl rfl (s_mgetP1 (κ:=List UInt8) (k:=p_2.Name) (hrv:=fun _ _ h=>h) underlying92 underlying9 (et (k100 (k40 d9))) (et (k100 (k50 d3))) zv74 (hb292 _ hS.a) hq293 ?_); intro v294 hv295; refine po ?_
            obtain ⟨x296,g297,h⟩:=bI h
            obtain ⟨b298,o299,cs300,rfl,f301,m302⟩:=Np.get hv295 g297
            obtain ⟨a303,c304,a306,c307,rfl,m305,m308⟩:=m302
            refine cpi 16 rfl (cpi 17 rfl (cr 18 [18,19,20] rfl (u_loads ti31 (et (k100 (k50 d6))) ((f301 _ hS.a).sb 2 2) rfl) (q100 (q50 p7)) ?_))
            obtain ⟨r309,g310,h⟩:=bI h
            refine sc1 rfl rfl rfl (s_callv isfn30 ef (e1 (et (k100 (k40 d2))) (e1 (et (k100 (k50 d7))) e0)) (gen_typ_w (hg.t (le129.t (le251.t le279))) (m6.up (le129.t (le251.t le279))) (m8.up (le129.t (le251.t le279))) (m10.up (le129.t (le251.t le279))) (m11.up (le129.t (le251.t le279))) g310 hS) ?_)
            rintro _ w16 ⟨μ12,rfl,le311,hS⟩
            refine po (cpi 20 rfl (sc_nil (xl ?_)))
            replace hS:=hS.drop (Rm.s (Rm.s (Rm.s (Rm.s Rm.z))))
            exact ⟨_,_,rfl,(aK4 (aI (aK50 (aK50 (aK20 (aK10 (aK4 (aO20 aZ)))))))),_,_,rfl,h,le311,hS⟩
           ·obtain ⟨x296,g297,h⟩:=bI h
            obtain ⟨r309,g310,h⟩:=bI h
            obtain ⟨es312,c313,hb314,hq315⟩:=(m10.up (le129.t (le251.t le279)))
            refine id (s_mgetP1 (κ:=List UInt8) (k:=p_2.Name) (hrv:=fun _ _ h=>h) underlying92 underlying9 (et (k100 (k40 d9))) (et (k100 (k50 d3))) zv74 (hb314 _ hS.a) hq315 ?_); intro v316 hv317; refine po ?_
            obtain ⟨b318,o319,cs320,rfl,f321,m322⟩:=Np.get hv317 g297
            obtain ⟨a323,c324,a326,c327,rfl,m325,m328⟩:=m322
            refine cpi 16 rfl (cpi 17 rfl (cr 3 [3,19,20] rfl (u_load ti91 (et (k100 (k40 d1))) ((hS.blk d0).cell d0)) (q100 (q40 p2)) (cr 18 [18,19,20] rfl (u_loads ti31 (et (k100 (k50 d6))) ((f321 _ hS.a).sb 2 2) rfl) (q100 (q50 p7)) (sc1 rfl rfl rfl (s_callv isfn30 ef (e1 (et (k100 (k40 d2))) (e1 (et (k100 (k50 d7))) e0)) (gen_typ_w (hg.t (le129.t (le251.t le279))) (m6.up (le129.t (le251.t le279))) (m8.up (le129.t (le251.t le279))) (m10.up (le129.t (le251.t le279))) (m11.up (le129.t (le251.t le279))) g310 hS) ?_)))))
            rintro _ w17 ⟨μ13,rfl,le329,hS⟩
            refine po (cpi 20 rfl (sc_nil (xl ?_)))
            replace hS:=hS.drop (Rm.s (Rm.s (Rm.s (Rm.s Rm.z))))
            exact ⟨_,_,rfl,(aK4 (aI (aK50 (aK50 (aK20 (aK10 (aK4 (aO20 aZ)))))))),_,_,rfl,h,le329,hS⟩
          ·rintro _ t w18 ⟨μ14,i289,rfl,h,le330,hS⟩
           unfold gen_expr_j2 at h
           refine nrm (mK4 (mi (mK50 (mK50 (mK20 (mK10 (mK4 (mO20 mz)))))))) (xn (cret ?_))
           refine (fun h=>br (xr h)) ?_
           obtain rfl:=oI h
           refine ret1 rfl d4 ?_
           replace hS:Sq μ14 w0 _ (.blk b1 126 [.pointer (some ⟨b3,o4,none⟩),.int .i64 r277.2.1,.int .i64 r277.2.2.1,v280,.int .i64 r277.2.2.2.2.1,.int .i64 r277.2.2.2.2.2.1,v283,v286]::.row v280 3 1 r277.2.2.2.1.length cs281::.row v283 90 3 r277.2.2.2.2.2.2.1.length cs284::.row v286 50 1 r277.2.2.2.2.2.2.2.length (cOf ms287)::(mRs ms287++rsF)):=hS
           exact ⟨_,_,_,_,_,_,_,rfl,(le129.t (le251.t (le279.t le330))),hS,(m282.up le330),(m285.up le330),(m288.up le330)⟩
         ·replace h:=iF h270 h
          refine nz ?_
          iterate 3 refine st ?_
          refine ld ((m33 _ ((le129.t le251) _ hS.a)).one d0) ?_
          iterate 2 refine st ?_
          refine nw ?_
          refine cifd (et (k100 (k50 d9))) (fun h331=>?_) (fun h331=>?_)
          ·replace h:=iT h331 h
           refine cseq ?_
           refine cdw hS ?_; clear hS; intro w19 hS
           refine cpi 0 rfl (cpi 1 rfl (cpi 2 rfl (cpi 3 rfl (cpi 8 rfl (cpi 9 rfl (cpi 10 rfl (cr 4 [4,5,6,7,12,13] rfl (u_load ti91 (et (k100 (k60 d8))) ((hS.blk d0).cell d0)) (q100 (q60 p9)) (cpi 5 rfl (cpi 6 rfl (cr 7 [7,12,13] rfl (u_load ti50 (et (k100 (k70 d1))) ((m11 _ ((le129.t le251) _ hS.a)).one d0)) (q100 (q70 p2)) (cr 11 [11,12,13] rfl (u_load ti9 (et (k100 (k70 d5))) ((m33 _ ((le129.t le251) _ hS.a)).one d2)) (q100 (q70 p6)) ?_)))))))))))
           obtain ⟨es332,c333,hb334,hq335⟩:=(m6.up (le129.t le251))
           refine sc1 rfl rfl rfl (s_mget1 (κ:=List UInt8) (k:=p_2.Name) (β:=Int) (zx:=0) underlying50 underlying9 (et (k100 (k70 d2))) (et (k100 (k70 d6))) zv3 rfl (hb334 _ hS.a) hq335 ?_); rintro _ rfl; refine po ?_
           obtain ⟨r338,g339,h⟩:=bI h
           replace hS:=(((hS.bg Y3).bg Y3).bg Y3).bg Y3
           replace hS:=Sep.mOut (a:=[_,_,_,_]) (p:=[_]) (M:=mRs ms90) (R:=rsF) hS
           refine sc1 rfl rfl rfl (s_callv isfn46 ef (e1 (et (k100 (k60 d5))) (e1 ec (e1 (et (k100 (k70 d7))) (e1 ec e0)))) (gen_put_w (hg.t (le129.t le251)) (m6.up (le129.t le251)) (m8.up (le129.t le251)) (m10.up (le129.t le251)) (m11.up (le129.t le251)) (m130.up le251) (m131.up le251) (m132.up le251) g339 hS) ?_)
           rintro _ w20 ⟨μ15,v341,cs342,v344,cs345,v347,ms348,rfl,le340,hS,m343,m346,m349⟩
           replace hS:=Sep.mOut (a:=[_,_,_,_]) (p:=mRs ms348) (M:=[_]) (R:=rsF) hS
           refine po (nu (cseq ?_))
           refine ccutE (rg 179 20) (by decide) (fun m w=>∃ μx i350,m=(yK4 (.i (.int .i64 i350)::(yK50 (yK50 (yK50 (yK20 (yK4 (yO20 179 []))))))))∧gen_expr_j3 r338 i350=some r∧Le μ15 μx∧Sq μx w0 w (.blk b1 126 [.pointer (some ⟨b3,o4,none⟩),.int .i64 r338.2.1,.int .i64 r338.2.2.1,v341,.int .i64 r338.2.2.2.2.1,.int .i64 r338.2.2.2.2.2.1,v344,v347]::.row v341 3 1 r338.2.2.2.1.length cs342::.row v344 90 3 r338.2.2.2.2.2.2.1.length cs345::.row v347 50 1 r338.2.2.2.2.2.2.2.length (cOf ms348)::(mRs ms348++rsF))) (by rintro _ _ ⟨_,_,rfl,_⟩; rfl) ?_ ?_
           ·refine cdw hS ?_; clear hS; intro w21 hS
            refine cpi 0 rfl (cpi 1 rfl (cpi 2 rfl (cpi 4 rfl (cpi 5 rfl (cpi 6 rfl (cpi 11 rfl (cpi 12 rfl (cpi 13 rfl (cr 7 [7,8,9,10,15,16,17,18,19,20] rfl (u_load ti91 (et (k100 (k80 d5))) ((hS.blk d0).cell d0)) (q100 (q80 p6)) (cpi 8 rfl (cpi 9 rfl (cr 10 [10,15,16,17,18,19,20] rfl (u_load ti92 (et (k100 (k80 d8))) ((m11 _ ((le129.t (le251.t le340)) _ hS.a)).one d2)) (q100 (q80 p9)) (cr 14 [14,15,16,17,18,19,20] rfl (u_load ti9 (et (k100 (k90 d2))) ((m33 _ ((le129.t (le251.t le340)) _ hS.a)).one d2)) (q100 (q90 p3)) ?_)))))))))))))
            refine sc2G (i:=3) (j:=15) rfl rfl rfl rfl rfl (wn0 rfl) (wn0 rfl) ?_ ?_
            ·refine id (s_load ti91 (et (k100 (k80 d1))) ((hS.blk d0).cell d0) (dt (q100 (q80 p2))) ?_)
             obtain ⟨es351,c352,hb353,hq354⟩:=(m10.up (le129.t (le251.t le340)))
             refine sc1 rfl rfl rfl (s_mgetP1 (κ:=List UInt8) (k:=p_2.Name) (hrv:=fun _ _ h=>h) underlying92 underlying9 (et (k100 (k80 d9))) (et (k100 (k90 d3))) zv74 (hb353 _ hS.a) hq354 ?_); intro v355 hv356; refine po ?_
             obtain ⟨x357,g358,h⟩:=bI h
             obtain ⟨b359,o360,cs361,rfl,f362,m363⟩:=Np.get hv356 g358
             obtain ⟨a364,c365,a367,c368,rfl,m366,m369⟩:=m363
             refine cpi 16 rfl (cpi 17 rfl (cr 18 [18,19,20] rfl (u_loads ti31 (et (k100 (k90 d6))) ((f362 _ hS.a).sb 2 2) rfl) (q100 (q90 p7)) ?_))
             obtain ⟨r370,g371,h⟩:=bI h
             refine sc1 rfl rfl rfl (s_callv isfn30 ef (e1 (et (k100 (k80 d2))) (e1 (et (k100 (k90 d7))) e0)) (gen_typ_w (hg.t (le129.t (le251.t le340))) (m6.up (le129.t (le251.t le340))) (m8.up (le129.t (le251.t le340))) (m10.up (le129.t (le251.t le340))) (m11.up (le129.t (le251.t le340))) g371 hS) ?_)
             rintro _ w22 ⟨μ16,rfl,le372,hS⟩
             refine po (cpi 20 rfl (sc_nil (xl ?_)))
             replace hS:=hS.drop (Rm.s (Rm.s (Rm.s (Rm.s Rm.z))))
             exact ⟨_,_,rfl,(aK4 (aI (aK50 (aK50 (aK50 (aK20 (aK4 (aO20 aZ)))))))),_,_,rfl,h,le372,hS⟩
            ·obtain ⟨x357,g358,h⟩:=bI h
             obtain ⟨r370,g371,h⟩:=bI h
             obtain ⟨es373,c374,hb375,hq376⟩:=(m10.up (le129.t (le251.t le340)))
             refine id (s_mgetP1 (κ:=List UInt8) (k:=p_2.Name) (hrv:=fun _ _ h=>h) underlying92 underlying9 (et (k100 (k80 d9))) (et (k100 (k90 d3))) zv74 (hb375 _ hS.a) hq376 ?_); intro v377 hv378; refine po ?_
             obtain ⟨b379,o380,cs381,rfl,f382,m383⟩:=Np.get hv378 g358
             obtain ⟨a384,c385,a387,c388,rfl,m386,m389⟩:=m383
             refine cpi 16 rfl (cpi 17 rfl (cr 3 [3,19,20] rfl (u_load ti91 (et (k100 (k80 d1))) ((hS.blk d0).cell d0)) (q100 (q80 p2)) (cr 18 [18,19,20] rfl (u_loads ti31 (et (k100 (k90 d6))) ((f382 _ hS.a).sb 2 2) rfl) (q100 (q90 p7)) (sc1 rfl rfl rfl (s_callv isfn30 ef (e1 (et (k100 (k80 d2))) (e1 (et (k100 (k90 d7))) e0)) (gen_typ_w (hg.t (le129.t (le251.t le340))) (m6.up (le129.t (le251.t le340))) (m8.up (le129.t (le251.t le340))) (m10.up (le129.t (le251.t le340))) (m11.up (le129.t (le251.t le340))) g371 hS) ?_)))))
             rintro _ w23 ⟨μ17,rfl,le390,hS⟩
             refine po (cpi 20 rfl (sc_nil (xl ?_)))
             replace hS:=hS.drop (Rm.s (Rm.s (Rm.s (Rm.s Rm.z))))
             exact ⟨_,_,rfl,(aK4 (aI (aK50 (aK50 (aK50 (aK20 (aK4 (aO20 aZ)))))))),_,_,rfl,h,le390,hS⟩
           ·rintro _ t w24 ⟨μ18,i350,rfl,h,le391,hS⟩
            unfold gen_expr_j3 at h
            refine nrm (mK4 (mi (mK50 (mK50 (mK50 (mK20 (mK4 (mO20 mz)))))))) (xn (cret ?_))
            refine (fun h=>br (xr h)) ?_
            obtain rfl:=oI h
            refine ret1 rfl d4 ?_
            replace hS:Sq μ18 w0 _ (.blk b1 126 [.pointer (some ⟨b3,o4,none⟩),.int .i64 r338.2.1,.int .i64 r338.2.2.1,v341,.int .i64 r338.2.2.2.2.1,.int .i64 r338.2.2.2.2.2.1,v344,v347]::.row v341 3 1 r338.2.2.2.1.length cs342::.row v344 90 3 r338.2.2.2.2.2.2.1.length cs345::.row v347 50 1 r338.2.2.2.2.2.2.2.length (cOf ms348)::(mRs ms348++rsF)):=hS
            exact ⟨_,_,_,_,_,_,_,rfl,(le129.t (le251.t (le340.t le391))),hS,(m343.up le391),(m346.up le391),(m349.up le391)⟩
          ·replace h:=iF h331 h
           refine nz ?_
           iterate 3 refine st ?_
           refine ld ((m33 _ ((le129.t le251) _ hS.a)).one d0) ?_
           iterate 2 refine st ?_
           refine nw ?_
           refine cifd (et (k100 (k90 d9))) (fun h392=>?_) (fun h392=>?_)
           ·replace h:=iT h392 h
            refine cseq ?_
            refine cdw hS ?_; clear hS; intro w25 hS
            refine cpi 0 rfl (cpi 1 rfl (cpi 2 rfl (cpi 3 rfl (cpi 8 rfl (cpi 9 rfl (cpi 10 rfl (cr 4 [4,5,6,7,12,13] rfl (u_load ti91 (et (k100 (k100 d8))) ((hS.blk d0).cell d0)) (q100 (q100 p9)) (cpi 5 rfl (cpi 6 rfl (cr 7 [7,12,13] rfl (u_load ti50 (et (k100 (k100 (k10 d1)))) ((m11 _ ((le129.t le251) _ hS.a)).one d1)) (q100 (q100 (q10 p2))) (cr 11 [11,12,13] rfl (u_load ti9 (et (k100 (k100 (k10 d5)))) ((m33 _ ((le129.t le251) _ hS.a)).one d2)) (q100 (q100 (q10 p6))) ?_)))))))))))
            obtain ⟨es393,c394,hb395,hq396⟩:=(m8.up (le129.t le251))
            refine sc1 rfl rfl rfl (s_mget1 (κ:=List UInt8) (k:=p_2.Name) (β:=Int) (zx:=0) underlying50 underlying9 (et (k100 (k100 (k10 d2)))) (et (k100 (k100 (k10 d6)))) zv3 rfl (hb395 _ hS.a) hq396 ?_); rintro _ rfl; refine po ?_
            obtain ⟨r399,g400,h⟩:=bI h
            replace hS:=(((hS.bg Y3).bg Y3).bg Y3).bg Y3
            replace hS:=Sep.mOut (a:=[_,_,_,_]) (p:=[_]) (M:=mRs ms90) (R:=rsF) hS
            refine sc1 rfl rfl rfl (s_callv isfn46 ef (e1 (et (k100 (k100 d5))) (e1 ec (e1 (et (k100 (k100 (k10 d7)))) (e1 ec e0)))) (gen_put_w (hg.t (le129.t le251)) (m6.up (le129.t le251)) (m8.up (le129.t le251)) (m10.up (le129.t le251)) (m11.up (le129.t le251)) (m130.up le251) (m131.up le251) (m132.up le251) g400 hS) ?_)
            rintro _ w26 ⟨μ19,v402,cs403,v405,cs406,v408,ms409,rfl,le401,hS,m404,m407,m410⟩
            replace hS:=Sep.mOut (a:=[_,_,_,_]) (p:=mRs ms409) (M:=[_]) (R:=rsF) hS
            refine po (nu (cseq ?_))
            refine cdw hS ?_; clear hS; intro w27 hS
            refine cpi 0 rfl (cpi 1 rfl (cpi 2 rfl (cpi 7 rfl (cpi 8 rfl (cpi 9 rfl (cr 3 [3,4,5,6,11,12,13] rfl (u_load ti91 (et (k100 (k100 (k20 d1)))) ((hS.blk d0).cell d0)) (q100 (q100 (q20 p2))) (cpi 4 rfl (cpi 5 rfl (cr 6 [6,11,12,13] rfl (u_load ti50 (et (k100 (k100 (k20 d4)))) ((m11 _ ((le129.t (le251.t le401)) _ hS.a)).one d1)) (q100 (q100 (q20 p5))) (cr 10 [10,11,12,13] rfl (u_load ti9 (et (k100 (k100 (k20 d8)))) ((m33 _ ((le129.t (le251.t le401)) _ hS.a)).one d2)) (q100 (q100 (q20 p9))) ?_))))))))))
            obtain ⟨es411,c412,hb413,hq414⟩:=(m8.up (le129.t (le251.t le401)))
            refine sc1 rfl rfl rfl (s_mget1 (κ:=List UInt8) (k:=p_2.Name) (β:=Int) (zx:=0) underlying50 underlying9 (et (k100 (k100 (k20 d5)))) (et (k100 (k100 (k20 d9)))) zv3 rfl (hb413 _ hS.a) hq414 ?_); rintro _ rfl; refine po ?_
            obtain ⟨i417,g418,h⟩:=bI h
            refine cp 12 rfl (u_addc ec (et (k100 (k100 (k30 d0)))) g418) (q100 (q100 (q30 p1))) (cpi 13 rfl (nu (cret ?_)))
            refine (fun h=>br (xr h)) ?_
            obtain rfl:=oI h
            refine ret1 rfl d4 ?_
            replace hS:=hS.drop (Rm.s (Rm.s (Rm.s (Rm.s Rm.z))))
            replace hS:Sq μ19 w0 _ (.blk b1 126 [.pointer (some ⟨b3,o4,none⟩),.int .i64 r399.2.1,.int .i64 r399.2.2.1,v402,.int .i64 r399.2.2.2.2.1,.int .i64 r399.2.2.2.2.2.1,v405,v408]::.row v402 3 1 r399.2.2.2.1.length cs403::.row v405 90 3 r399.2.2.2.2.2.2.1.length cs406::.row v408 50 1 r399.2.2.2.2.2.2.2.length (cOf ms409)::(mRs ms409++rsF)):=hS
            exact ⟨_,_,_,_,_,_,_,rfl,(le129.t (le251.t le401)),hS,m404,m407,m410⟩
           ·replace h:=iF h392 h
            refine nz ?_
            iterate 3 refine st ?_
            refine ld ((m33 _ ((le129.t le251) _ hS.a)).one d0) ?_
            iterate 2 refine st ?_
            refine nw ?_
            refine cifd (et (k100 (k100 (k30 d2)))) (fun h419=>?_) (fun h419=>?_)
            ·replace h:=iT h419 h
             refine nz (st ?_)
             obtain ⟨r420,g421,h⟩:=bI h
             replace hS:=(((hS.bg Y3).bg Y3).bg Y3).bg Y3
             replace hS:=Sep.mOut (a:=[_,_,_,_]) (p:=[_]) (M:=mRs ms90) (R:=rsF) hS
             refine ca (gen_put_w (hg.t (le129.t le251)) (m6.up (le129.t le251)) (m8.up (le129.t le251)) (m10.up (le129.t le251)) (m11.up (le129.t le251)) (m130.up le251) (m131.up le251) (m132.up le251) g421 hS) ?_
             rintro _ w28 ⟨μ20,v423,cs424,v426,cs427,v429,ms430,rfl,le422,hS,m425,m428,m431⟩
             replace hS:=Sep.mOut (a:=[_,_,_,_]) (p:=mRs ms430) (M:=[_]) (R:=rsF) hS
             refine po (nx ?_)
             iterate 4 refine st ?_
             refine ld ((hS.blk d0).cell d5) (st (nw (cret ?_)))
             refine (fun h=>br (xr h)) ?_
             obtain rfl:=oI h
             refine ret1 rfl d4 ?_
             replace hS:=hS.drop (Rm.s (Rm.s (Rm.s (Rm.s Rm.z))))
             replace hS:Sq μ20 w0 _ (.blk b1 126 [.pointer (some ⟨b3,o4,none⟩),.int .i64 r420.2.1,.int .i64 r420.2.2.1,v423,.int .i64 r420.2.2.2.2.1,.int .i64 r420.2.2.2.2.2.1,v426,v429]::.row v423 3 1 r420.2.2.2.1.length cs424::.row v426 90 3 r420.2.2.2.2.2.2.1.length cs427::.row v429 50 1 r420.2.2.2.2.2.2.2.length (cOf ms430)::(mRs ms430++rsF)):=hS
             exact ⟨_,_,_,_,_,_,_,rfl,(le129.t (le251.t le422)),hS,m425,m428,m431⟩
            ·replace h:=iF h419 h
             refine nz ?_
             iterate 3 refine st ?_
             refine ld ((m33 _ ((le129.t le251) _ hS.a)).one d0) ?_
             iterate 2 refine st ?_
             refine nw ?_
             refine cifd (et (k100 (k100 (k40 d5)))) (fun h432=>?_) (fun h432=>?_)
             ·replace h:=iT h432 h
              refine nz (st ?_)
              obtain ⟨r433,g434,h⟩:=bI h
              replace hS:=(((hS.bg Y3).bg Y3).bg Y3).bg Y3
              replace hS:=Sep.mOut (a:=[_,_,_,_]) (p:=[_]) (M:=mRs ms90) (R:=rsF) hS
              refine ca (gen_put_w (hg.t (le129.t le251)) (m6.up (le129.t le251)) (m8.up (le129.t le251)) (m10.up (le129.t le251)) (m11.up (le129.t le251)) (m130.up le251) (m131.up le251) (m132.up le251) g434 hS) ?_
              rintro _ w29 ⟨μ21,v436,cs437,v439,cs440,v442,ms443,rfl,le435,hS,m438,m441,m444⟩
              replace hS:=Sep.mOut (a:=[_,_,_,_]) (p:=mRs ms443) (M:=[_]) (R:=rsF) hS
              refine po (nx (st (nw (cret ?_))))
              refine (fun h=>br (xr h)) ?_
              obtain rfl:=oI h
              refine ret1 rfl d4 ?_
              replace hS:=hS.drop (Rm.s (Rm.s (Rm.s (Rm.s Rm.z))))
              replace hS:Sq μ21 w0 _ (.blk b1 126 [.pointer (some ⟨b3,o4,none⟩),.int .i64 r433.2.1,.int .i64 r433.2.2.1,v436,.int .i64 r433.2.2.2.2.1,.int .i64 r433.2.2.2.2.2.1,v439,v442]::.row v436 3 1 r433.2.2.2.1.length cs437::.row v439 90 3 r433.2.2.2.2.2.2.1.length cs440::.row v442 50 1 r433.2.2.2.2.2.2.2.length (cOf ms443)::(mRs ms443++rsF)):=hS
              exact ⟨_,_,_,_,_,_,_,rfl,(le129.t (le251.t le435)),hS,m438,m441,m444⟩
             ·replace h:=iF h432 h
              refine cskip ?_
              refine (fun h=>bn (xn h)) ?_
              refine nz (st ?_)
              obtain ⟨r445,g446,h⟩:=bI h
              replace hS:=(((hS.bg Y3).bg Y3).bg Y3).bg Y3
              replace hS:=Sep.mOut (a:=[_,_,_,_]) (p:=[_]) (M:=mRs ms90) (R:=rsF) hS
              refine ca (gen_put_w (hg.t (le129.t le251)) (m6.up (le129.t le251)) (m8.up (le129.t le251)) (m10.up (le129.t le251)) (m11.up (le129.t le251)) (m130.up le251) (m131.up le251) (m132.up le251) g446 hS) ?_
              rintro _ w30 ⟨μ22,v448,cs449,v451,cs452,v454,ms455,rfl,le447,hS,m450,m453,m456⟩
              replace hS:=Sep.mOut (a:=[_,_,_,_]) (p:=mRs ms455) (M:=[_]) (R:=rsF) hS
              refine po (ny (nz ?_))
              iterate 3 refine st ?_
              refine ld ((hS.blk d0).cell d0) ?_
              iterate 2 refine st ?_
              refine ld ((m11 _ ((le129.t (le251.t le447)) _ hS.a)).one d1) ?_
              obtain ⟨es457,c458,hc459,hq460⟩:=(m8.up (le129.t (le251.t le447)))
              refine wl (s_rangeR underlying50 (et (k100 (k100 (k60 d1)))) hS (hc459 _ hS.a) ?_); clear hS; intro b461 w31 hb462 hS; refine po ?_
              refine nw (cblock ?_)
              obtain ⟨x463,g464,h⟩:=bI h
              obtain ⟨i477,g478,h⟩:=bI h
              obtain ⟨o479,g480,h⟩:=bI h
              replace hS:=((((hS.bg Y5).bg Y5).bg Y5).bg Y5).bg Y5
              refine cloopE ([4]++rg 8 2++rg 263 28) (by decide +kernel) (fun n m w=>∃ μx sn481,m=(yK4 (yO1 4 (yK3 (yO2 8 (yK50 (yK50 (yK50 (yK50 (yK50 (yK3 (yO20 263 (yO8 283 []))))))))))))∧some r=some r∧Le μ22 μx∧Sq μx w0 w (.blk b1 126 [.pointer (some ⟨b3,o4,none⟩),.int .i64 r445.2.1,.int .i64 r445.2.2.1,v448,.int .i64 r445.2.2.2.2.1,.int .i64 r445.2.2.2.2.2.1,v451,v454]::.row v448 3 1 r445.2.2.2.1.length cs449::.row v451 90 3 r445.2.2.2.2.2.2.1.length cs452::.row v454 50 1 r445.2.2.2.2.2.2.2.length (cOf ms455)::.row v93 3 1 l95.length cs94::.mit b461 b7 c458 sn481 c458::(mRs ms455++rsF))∧MzM μx es457 sn481 i477 n) (by rintro _ _ _ ⟨_,_,rfl,_⟩; rfl) _ _ (aK4 (aO1 (aK3 (aO2 (aK50 (aK50 (aK50 (aK50 (aK50 (aK3 (aO20 (aO8 aZ)))))))))))) ⟨_,[],rfl,rfl,Le.r,hS,Mz.start⟩ ?_
              rintro n484 _ t w32 ⟨μ23,sn481,rfl,_,le482,hS,m483⟩
              refine cnrm (mK4 (mO1 (mK3 (mO2 (mK50 (mK50 (mK50 (mK50 (mK50 (mK3 (mO20 (mO8 mz)))))))))))) (nz ?_)
              refine wl (s_nextR (et (k100 (k100 (k60 d2)))) hS d5 (hc459 _ (le482 _ hS.a)) hq460 ?_ ?_)
              ·clear hS; intro k485 y486 n487 hi488 w33 rs_ hp_ hS; cases (show _=rs_ from hp_)
               replace hS:=Sep.reput hS p5; refine po ?_
               refine st (ny (cift (et (k100 (k100 (k60 d4)))) (cskip (xn (cblock (nz (wl (s_entryR (et (k100 (k100 (k60 d2)))) hS d5 (hc459 _ (le482 _ hS.a)) hq460 hi488 (dt (q100 (q100 (q60 p5)))) ?_))))))))
               iterate 4 refine st ?_
               refine nx ?_
               iterate 2 refine st ?_
               obtain ⟨b490,o491,pc492,cs493,sc494,ec495,e496,f497,m498,pn499,st500,m501⟩:=Row.elemS (α:=Int) (hS.get d4) (m133.up (le251.t (le447.t le482))) rfl g464
               rw [ec495] at hS
               obtain rfl:=m498
               refine wl (su (u_iax underlying61 ti3 (et (k100 (k100 (k60 d9)))) ec e496) (dt (q100 (q100 (q70 p0)))) (ld ((f497 _ _ _ (hS.get d4) rfl).one d0) (wl (su (u_subc (et (k100 (k100 (k70 d1)))) ec g478) (dt (q100 (q100 (q70 p2)))) (st (nw ?_))))))
               refine cifd (et (k100 (k100 (k70 d3)))) (fun h502=>?_) (fun h503=>?_)
               ·obtain ⟨h504,h505⟩:=Mz.hit hq460 hi488 h502 g480; subst h505; replace h:=iT h504 h
                refine cseq ?_
                refine ccutE (rg 274 17) (by decide) (fun m w=>∃ μx i510,m=(yK4 (.i (.int .i64 i510)::(yK50 (yK50 (yK50 (yK50 (yK50 (yK10 (yK9 (yO10 274 (yO7 284 [])))))))))))∧gen_expr_j4 r445 i510=some r∧Le μ23 μx∧Sq μx w0 w (.blk b1 126 [.pointer (some ⟨b3,o4,none⟩),.int .i64 r445.2.1,.int .i64 r445.2.2.1,v448,.int .i64 r445.2.2.2.2.1,.int .i64 r445.2.2.2.2.2.1,v451,v454]::.row v448 3 1 r445.2.2.2.1.length cs449::.row v451 90 3 r445.2.2.2.2.2.2.1.length cs452::.row v454 50 1 r445.2.2.2.2.2.2.2.length (cOf ms455)::(mRs ms455++rsF))) (by rintro _ _ ⟨_,_,rfl,_⟩; rfl) ?_ ?_
                ·refine cdw hS ?_; clear hS; intro w34 hS
                 refine cpi 0 rfl (cpi 1 rfl (cpi 2 rfl (cpi 4 rfl (cpi 5 rfl (cpi 6 rfl (cpi 11 rfl (cr 7 [7,8,9,10,12,13,14,15,16,17] rfl (u_load ti91 (et (k100 (k100 (k80 d0)))) ((hS.blk d0).cell d0)) (q100 (q100 (q80 p1))) (cpi 8 rfl (cpi 9 rfl (cr 10 [10,12,13,14,15,16,17] rfl (u_load ti92 (et (k100 (k100 (k80 d3)))) ((m11 _ ((le129.t (le251.t (le447.t le482))) _ hS.a)).one d2)) (q100 (q100 (q80 p4))) ?_))))))))))
                 refine sc2G (i:=3) (j:=12) rfl rfl rfl rfl rfl (wn0 rfl) (wn0 rfl) ?_ ?_
                 ·refine id (s_load ti91 (et (k100 (k100 (k70 d6)))) ((hS.blk d0).cell d0) (dt (q100 (q100 (q70 p7)))) ?_)
                  obtain ⟨es511,c512,hb513,hq514⟩:=(m10.up (le129.t (le251.t (le447.t le482))))
                  refine sc1 rfl rfl rfl (s_mgetP1 (κ:=List UInt8) (k:=((o479.getD ([],0)).1)) (hrv:=fun _ _ h=>h) underlying92 underlying9 (et (k100 (k100 (k80 d4)))) (et (k100 (k100 (k80 d5)))) zv74 (hb513 _ hS.a) hq514 ?_); intro v515 hv516; refine po ?_
                  obtain ⟨x517,g518,h⟩:=bI h
                  obtain ⟨b519,o520,cs521,rfl,f522,m523⟩:=Np.get hv516 g518
                  obtain ⟨a524,c525,a527,c528,rfl,m526,m529⟩:=m523
                  refine cpi 13 rfl (cpi 14 rfl (cr 15 [15,16,17] rfl (u_loads ti31 (et (k100 (k100 (k80 d8)))) ((f522 _ hS.a).sb 2 2) rfl) (q100 (q100 (q80 p9))) ?_))
                  obtain ⟨r530,g531,h⟩:=bI h
                  refine sc1 rfl rfl rfl (s_callv isfn30 ef (e1 (et (k100 (k100 (k70 d7)))) (e1 (et (k100 (k100 (k80 d9)))) e0)) (gen_typ_w (hg.t (le129.t (le251.t (le447.t le482)))) (m6.up (le129.t (le251.t (le447.t le482)))) (m8.up (le129.t (le251.t (le447.t le482)))) (m10.up (le129.t (le251.t (le447.t le482)))) (m11.up (le129.t (le251.t (le447.t le482)))) g531 hS) ?_)
                  rintro _ w35 ⟨μ24,rfl,le532,hS⟩
                  refine po (cpi 17 rfl (sc_nil (xl ?_)))
                  replace hS:=(hS.drop (Rm.s (Rm.s (Rm.s (Rm.s Rm.z))))).drop (Rm.s (Rm.s (Rm.s (Rm.s Rm.z))))
                  exact ⟨_,_,rfl,(aK4 (aI (aK50 (aK50 (aK50 (aK50 (aK50 (aK10 (aK9 (aO10 (aO7 aZ))))))))))),_,_,rfl,h,le532,hS⟩
                 ·obtain ⟨x517,g518,h⟩:=bI h
                  obtain ⟨r530,g531,h⟩:=bI h
                  obtain ⟨es533,c534,hb535,hq536⟩:=(m10.up (le129.t (le251.t (le447.t le482))))
                  refine id (s_mgetP1 (κ:=List UInt8) (k:=((o479.getD ([],0)).1)) (hrv:=fun _ _ h=>h) underlying92 underlying9 (et (k100 (k100 (k80 d4)))) (et (k100 (k100 (k80 d5)))) zv74 (hb535 _ hS.a) hq536 ?_); intro v537 hv538; refine po ?_
                  obtain ⟨b539,o540,cs541,rfl,f542,m543⟩:=Np.get hv538 g518
                  obtain ⟨a544,c545,a547,c548,rfl,m546,m549⟩:=m543
                  refine cpi 13 rfl (cpi 14 rfl (cr 3 [3,16,17] rfl (u_load ti91 (et (k100 (k100 (k70 d6)))) ((hS.blk d0).cell d0)) (q100 (q100 (q70 p7))) (cr 15 [15,16,17] rfl (u_loads ti31 (et (k100 (k100 (k80 d8)))) ((f542 _ hS.a).sb 2 2) rfl) (q100 (q100 (q80 p9))) (sc1 rfl rfl rfl (s_callv isfn30 ef (e1 (et (k100 (k100 (k70 d7)))) (e1 (et (k100 (k100 (k80 d9)))) e0)) (gen_typ_w (hg.t (le129.t (le251.t (le447.t le482)))) (m6.up (le129.t (le251.t (le447.t le482)))) (m8.up (le129.t (le251.t (le447.t le482)))) (m10.up (le129.t (le251.t (le447.t le482)))) (m11.up (le129.t (le251.t (le447.t le482)))) g531 hS) ?_)))))
                  rintro _ w36 ⟨μ25,rfl,le550,hS⟩
                  refine po (cpi 17 rfl (sc_nil (xl ?_)))
                  replace hS:=(hS.drop (Rm.s (Rm.s (Rm.s (Rm.s Rm.z))))).drop (Rm.s (Rm.s (Rm.s (Rm.s Rm.z))))
                  exact ⟨_,_,rfl,(aK4 (aI (aK50 (aK50 (aK50 (aK50 (aK50 (aK10 (aK9 (aO10 (aO7 aZ))))))))))),_,_,rfl,h,le550,hS⟩
                ·rintro _ t w37 ⟨μ26,i510,rfl,h,le551,hS⟩
                 unfold gen_expr_j4 at h
                 refine nrm (mK4 (mi (mK50 (mK50 (mK50 (mK50 (mK50 (mK10 (mK9 (mO10 (mO7 mz))))))))))) (xn (cret ?_))
                 refine (fun h=>br (xr (br (xr h)))) ?_
                 obtain rfl:=oI h
                 refine ret1 rfl d4 ?_
                 replace hS:Sq μ26 w0 _ (.blk b1 126 [.pointer (some ⟨b3,o4,none⟩),.int .i64 r445.2.1,.int .i64 r445.2.2.1,v448,.int .i64 r445.2.2.2.2.1,.int .i64 r445.2.2.2.2.2.1,v451,v454]::.row v448 3 1 r445.2.2.2.1.length cs449::.row v451 90 3 r445.2.2.2.2.2.2.1.length cs452::.row v454 50 1 r445.2.2.2.2.2.2.2.length (cOf ms455)::(mRs ms455++rsF)):=hS
                 exact ⟨_,_,_,_,_,_,_,rfl,(le129.t (le251.t (le447.t (le482.t le551)))),hS,(m450.up (le482.t le551)),(m453.up (le482.t le551)),(m456.up (le482.t le551))⟩
               ·obtain ⟨n507,h508,m509⟩:=Mz.step m483 hq460 hi488 h503
                refine cskip ?_
                refine (fun h=>bn (xl h)) ?_
                rw [← ec495] at hS
                exact ⟨n507,_,_,rfl,(aK4 (aO1 (aK3 (aO2 (aK50 (aK50 (aK50 (aK50 (aK50 (aK3 (aO20 (aO8 aZ)))))))))))),⟨_,(sn481++[n487]),rfl,rfl,le482,hS,m509⟩,h508⟩
              ·intro hl489; replace h:=iF (Mz.fin m483 hq460 hl489 g480) h; refine po ?_
               refine st (ny (ciff (et (k100 (k100 (k60 d4)))) (cexit ?_)))
               refine (fun h=>xe (xe (bh h))) ?_
               refine xn (nz (st (nw (cret ?_))))
               obtain rfl:=oI h
               refine ret1 rfl d4 ?_
               replace hS:=(hS.drop (Rm.s (Rm.s (Rm.s (Rm.s Rm.z))))).drop (Rm.s (Rm.s (Rm.s (Rm.s Rm.z))))
               replace hS:Sq μ23 w0 _ (.blk b1 126 [.pointer (some ⟨b3,o4,none⟩),.int .i64 r445.2.1,.int .i64 r445.2.2.1,v448,.int .i64 r445.2.2.2.2.1,.int .i64 r445.2.2.2.2.2.1,v451,v454]::.row v448 3 1 r445.2.2.2.1.length cs449::.row v451 90 3 r445.2.2.2.2.2.2.1.length cs452::.row v454 50 1 r445.2.2.2.2.2.2.2.length (cOf ms455)::(mRs ms455++rsF)):=hS
               exact ⟨_,_,_,_,_,_,_,rfl,(le129.t (le251.t (le447.t le482))),hS,(m450.up le482),(m453.up le482),(m456.up le482)⟩
theorem GenE_sound:∀ n,GenESound (GenE_run n)
  | 0=>⟨(by intros; rename_i h _; cases h)⟩
  | n+1=>⟨gen_expr_w (GenE_sound n)⟩
structure GenSSound (sf:GenS):Prop where
  gen_body:∀ {μ0:M} {w0 w:World} {rsF:List Res} (hg:Le Gm μ0) {b1:Nat} {tabl_2:TGt} {b3 o4 b5 b7 b9:Nat} {kind_12 para_13:Int} {loca_14:List Int} {v15:Value} {cs16:List Value} {resu_18 take_19:Int} {code_20:List TInstr} {v21:Value} {cs22:List Value} {bloc_24:List (List (List UInt8×Int))} {v25:Value} {ms26:List (Nat×List MapEntry×Nat)} {p_2:List TStat} {a28:Option Addr} {c29:Nat} {r:Int×Int×List Int×Int×Int×List TInstr×List (List (List UInt8×Int))} (m6:Mr μ0 b5 tabl_2.boxes) (m8:Mr μ0 b7 tabl_2.units) (m10:Mr μ0 b9 tabl_2.defs) (m11:At μ0 b3 o4 [.map (some b5),.map (some b7),.map (some b9)]) (m17:Rw μ0 cs16 loca_14) (m23:Rw μ0 cs22 code_20) (m27:Ms μ0 ms26 bloc_24) (m30:Sl μ0 a28 c29 p_2) (h:sf.gen_body tabl_2 kind_12 para_13 loca_14 resu_18 take_19 code_20 bloc_24 p_2=some r) (hS:Sq μ0 w0 w (.blk b1 126 [.pointer (some ⟨b3,o4,none⟩),.int .i64 kind_12,.int .i64 para_13,v15,.int .i64 resu_18,.int .i64 take_19,v21,v25]::.row v15 3 1 loca_14.length cs16::.row v21 90 3 code_20.length cs22::.row v25 50 1 bloc_24.length (cOf ms26)::(mRs ms26++rsF))),CallsV prog 45 [.pointer (some ⟨b1,0,none⟩),.slice a28 p_2.length c29] w (fun v w'=>∃ (μ':M) (v31:Value) (cs32:List Value) (v34:Value) (cs35:List Value) (v37:Value) (ms38:List (Nat×List MapEntry×Nat)),v=.tuple ⟨[]⟩∧Le μ0 μ'∧Sq μ' w0 w' (.blk b1 126 [.pointer (some ⟨b3,o4,none⟩),.int .i64 r.1,.int .i64 r.2.1,v31,.int .i64 r.2.2.2.1,.int .i64 r.2.2.2.2.1,v34,v37]::.row v31 3 1 r.2.2.1.length cs32::.row v34 90 3 r.2.2.2.2.2.1.length cs35::.row v37 50 1 r.2.2.2.2.2.2.length (cOf ms38)::(mRs ms38++rsF))∧Rw μ' cs32 r.2.2.1∧Rw μ' cs35 r.2.2.2.2.2.1∧Ms μ' ms38 r.2.2.2.2.2.2)
  gen_stat:∀ {μ0:M} {w0 w:World} {rsF:List Res} (hg:Le Gm μ0) {b1:Nat} {tabl_2:TGt} {b3 o4 b5 b7 b9:Nat} {kind_12 para_13:Int} {loca_14:List Int} {v15:Value} {cs16:List Value} {resu_18 take_19:Int} {code_20:List TInstr} {v21:Value} {cs22:List Value} {bloc_24:List (List (List UInt8×Int))} {v25:Value} {ms26:List (Nat×List MapEntry×Nat)} {p_2:TStat} {b28 o29:Nat} {a30:Option Addr} {c31:Nat} {a33:Option Addr} {c34:Nat} {a36:Option Addr} {c37:Nat} {r:Int×Int×List Int×Int×Int×List TInstr×List (List (List UInt8×Int))} (m6:Mr μ0 b5 tabl_2.boxes) (m8:Mr μ0 b7 tabl_2.units) (m10:Mr μ0 b9 tabl_2.defs) (m11:At μ0 b3 o4 [.map (some b5),.map (some b7),.map (some b9)]) (m17:Rw μ0 cs16 loca_14) (m23:Rw μ0 cs22 code_20) (m27:Ms μ0 ms26 bloc_24) (m32:Sl μ0 a30 c31 p_2.X.Kids) (m35:Sl μ0 a33 c34 p_2.Body) (m38:Sl μ0 a36 c37 p_2.Else) (m39:At μ0 b28 o29 [.int .i64 p_2.Kind,S p_2.Name,.int .i64 p_2.X.Kind,.int .i64 p_2.X.N,S p_2.X.Name,.slice a30 p_2.X.Kids.length c31,.slice a33 p_2.Body.length c34,.slice a36 p_2.Else.length c37]) (h:sf.gen_stat tabl_2 kind_12 para_13 loca_14 resu_18 take_19 code_20 bloc_24 p_2=some r) (hS:Sq μ0 w0 w (.blk b1 126 [.pointer (some ⟨b3,o4,none⟩),.int .i64 kind_12,.int .i64 para_13,v15,.int .i64 resu_18,.int .i64 take_19,v21,v25]::.row v15 3 1 loca_14.length cs16::.row v21 90 3 code_20.length cs22::.row v25 50 1 bloc_24.length (cOf ms26)::(mRs ms26++rsF))),CallsV prog 67 [.pointer (some ⟨b1,0,none⟩),.pointer (some ⟨b28,o29,none⟩)] w (fun v w'=>∃ (μ':M) (v40:Value) (cs41:List Value) (v43:Value) (cs44:List Value) (v46:Value) (ms47:List (Nat×List MapEntry×Nat)),v=.tuple ⟨[]⟩∧Le μ0 μ'∧Sq μ' w0 w' (.blk b1 126 [.pointer (some ⟨b3,o4,none⟩),.int .i64 r.1,.int .i64 r.2.1,v40,.int .i64 r.2.2.2.1,.int .i64 r.2.2.2.2.1,v43,v46]::.row v40 3 1 r.2.2.1.length cs41::.row v43 90 3 r.2.2.2.2.2.1.length cs44::.row v46 50 1 r.2.2.2.2.2.2.length (cOf ms47)::(mRs ms47++rsF))∧Rw μ' cs41 r.2.2.1∧Rw μ' cs44 r.2.2.2.2.2.1∧Ms μ' ms47 r.2.2.2.2.2.2)
theorem gen_body_w {self:GenS} (IH:GenSSound self) {μ0:M} {w0 w:World} {rsF:List Res} (hg:Le Gm μ0) {b1:Nat} {tabl_2:TGt} {b3 o4 b5 b7 b9:Nat} {kind_12 para_13:Int} {loca_14:List Int} {v15:Value} {cs16:List Value} {resu_18 take_19:Int} {code_20:List TInstr} {v21:Value} {cs22:List Value} {bloc_24:List (List (List UInt8×Int))} {v25:Value} {ms26:List (Nat×List MapEntry×Nat)} {p_2:List TStat} {a28:Option Addr} {c29:Nat} {r:Int×Int×List Int×Int×Int×List TInstr×List (List (List UInt8×Int))} (m6:Mr μ0 b5 tabl_2.boxes) (m8:Mr μ0 b7 tabl_2.units) (m10:Mr μ0 b9 tabl_2.defs) (m11:At μ0 b3 o4 [.map (some b5),.map (some b7),.map (some b9)]) (m17:Rw μ0 cs16 loca_14) (m23:Rw μ0 cs22 code_20) (m27:Ms μ0 ms26 bloc_24) (m30:Sl μ0 a28 c29 p_2) (h:gen_body self tabl_2 kind_12 para_13 loca_14 resu_18 take_19 code_20 bloc_24 p_2=some r) (hS:Sq μ0 w0 w (.blk b1 126 [.pointer (some ⟨b3,o4,none⟩),.int .i64 kind_12,.int .i64 para_13,v15,.int .i64 resu_18,.int .i64 take_19,v21,v25]::.row v15 3 1 loca_14.length cs16::.row v21 90 3 code_20.length cs22::.row v25 50 1 bloc_24.length (cOf ms26)::(mRs ms26++rsF))):CallsV prog 45 [.pointer (some ⟨b1,0,none⟩),.slice a28 p_2.length c29] w (fun v w'=>∃ (μ':M) (v31:Value) (cs32:List Value) (v34:Value) (cs35:List Value) (v37:Value) (ms38:List (Nat×List MapEntry×Nat)),v=.tuple ⟨[]⟩∧Le μ0 μ'∧Sq μ' w0 w' (.blk b1 126 [.pointer (some ⟨b3,o4,none⟩),.int .i64 r.1,.int .i64 r.2.1,v31,.int .i64 r.2.2.2.1,.int .i64 r.2.2.2.2.1,v34,v37]::.row v31 3 1 r.2.2.1.length cs32::.row v34 90 3 r.2.2.2.2.2.1.length cs35::.row v37 50 1 r.2.2.2.2.2.2.length (cOf ms38)::(mRs ms38++rsF))∧Rw μ' cs32 r.2.2.1∧Rw μ' cs35 r.2.2.2.2.2.1∧Ms μ' ms38 r.2.2.2.2.2.2):=by
 unfold gen_body at h
 refine enter func45 rfl (frm:=_::_::u1 (u2 (u5 (u10 (u20 []))))) rfl (nz ?_)
 iterate 4 refine st ?_
 refine ld ((hS.blk d0).cell d7) ?_
 refine wl (s_mkmap hS ?_); clear hS; intro b40 w1 hb41 hS; refine po ?_
 refine wl (s_bsl underlying124 ti50 (Parts.s (et (k10 d0)) rfl Parts.z) rfl rfl hS ?_); clear hS; intro b42 w2 hb43 hS; refine po ?_
 obtain ⟨l44,g45,h⟩:=bI h
 have hms48a:=app_eq g45
 refine wl (s_appM (κ:=List UInt8) (β:=Int) underlying124 ti50 rfl (et d9) (et (k10 d1)) hS d5 (hS.blk d0).cells g45 (by decide) ?_); clear hS; intro v46 w3 rs_ hp_ hS; cases (show _=rs_ from hp_)
 replace hS:=Sep.reput hS p5; refine po ?_
 replace hS:=((((hS.drop Rm.z).bg Y4).bg Y4).bg Y4).bg Y4
 rw [cellsOf_push ms26 b40 0 []] at hS; replace hS:=hS.pushM (pre:=[_,_,_,_])
 have m49:=Ms.push (e:=(b40,[],0)) m27 (Mq.nil (κ:=List UInt8) (β:=Int) (μ:=μ0) (c:=0)); rw [← hms48a.1] at m49
 generalize hms48:(ms26++[(b40,[],0)])=ms47 at hS m49
 iterate 2 refine st ?_
 refine wl (s_store1 ti124 (et (k10 d4)) (et (k10 d2)) (hS.get d3).cellV hS d0 p7 rfl p0 dn ?_)
 clear hS; intro w4 hS
 refine ny (nz (st (wl (su (u_lensl underlying33 (et (k10 d5))) (dt (q10 p6)) (st (nw (cblock ?_)))))))
 refine cloopE ([4]++rg 18 8) (by decide) (fun n m w=>∃ μx i81 i82 i83 i84 i85 l88 v86 cs87 l92 v90 cs91 l96 v94 ms95,m=(yK4 (yO1 4 (yK10 (yK2 (.i (.int .i64 i81)::(yO8 18 []))))))∧gen_body_l1 self p_2 tabl_2 n i81 i82 i83 i84 i85 l88 l92 l96=some r∧Le μ0 μx∧Sq μx w0 w (.blk b1 126 [.pointer (some ⟨b3,o4,none⟩),.int .i64 i82,.int .i64 i83,v86,.int .i64 i84,.int .i64 i85,v90,v94]::.row v86 3 1 l88.length cs87::.row v90 90 3 l92.length cs91::.row v94 50 1 l96.length (cOf ms95)::(mRs ms95++rsF))∧Rw μx cs87 l88∧Rw μx cs91 l92∧Ms μx ms95 l96) (by rintro _ _ _ ⟨_,_,_,_,_,_,_,_,_,_,_,_,_,_,_,rfl,_⟩; rfl) _ _ (aK4 (aO1 (aK10 (aK2 (aI (aO8 aZ)))))) ⟨_,0,kind_12,para_13,resu_18,take_19,loca_14,v15,cs16,code_20,v21,cs22,l44,v46,ms47,rfl,h,Le.r,hS,m17,m23,m49⟩ ?_
 rintro n_1 _ t w5 ⟨μ1,i81,i82,i83,i84,i85,l88,v86,cs87,l92,v90,cs91,l96,v94,ms95,rfl,h,le129,hS,m130,m131,m132⟩
 cases n_1 with
 | zero=>cases h
 | succ n_1 =>
 unfold gen_body_l1 at h
 refine cnrm (mK4 (mO1 (mK10 (mK2 (mi (mO8 mz)))))) (nz (st (ny ?_)))
 refine cifd (et (k10 d8)) (fun h133=>?_) (fun h133=>?_)
 ·replace h:=iT h133 h
  refine cskip (xn (cseq (cblock (nz ?_))))
  iterate 2 refine st ?_
  refine nw (creg ?_)
  iterate 3 refine st ?_
  obtain ⟨x134,g135,h⟩:=bI h
  obtain ⟨b136,o137,cs138,e139,f140,m141⟩:=SlR.elem (m30.up le129) g135
  obtain ⟨a142,c143,a145,c146,a148,c149,rfl,m144,m147,m150⟩:=TStat.o m141
  refine wl (su (u_iax underlying33 ti120 (et (k20 d1)) (et (k20 d2)) e139) (dt (q20 p3)) ?_)
  obtain ⟨r151,g152,h⟩:=bI h
  replace hS:=(((hS.bg Y3).bg Y3).bg Y3).bg Y3
  refine ca (IH.gen_stat (hg.t le129) (m6.up le129) (m8.up le129) (m10.up le129) (m11.up le129) m130 m131 m132 m144 m147 m150 f140 g152 hS) ?_
  rintro _ w6 ⟨μ2,v154,cs155,v157,cs158,v160,ms161,rfl,le153,hS,m156,m159,m162⟩
  refine po (wnil ?_)
  refine (fun h=>bn (xn h)) ?_
  refine creg ?_
  obtain ⟨i163,g164,h⟩:=bI h
  refine wl (su (u_addc (et (k10 d7)) ec g164) (dt (q20 p5)) (st (wnil (xl ?_))))
  exact ⟨n_1,_,_,rfl,(aK4 (aO1 (aK10 (aK2 (aI (aO8 aZ)))))),⟨_,i163,r151.1,r151.2.1,r151.2.2.2.1,r151.2.2.2.2.1,r151.2.2.1,v154,cs155,r151.2.2.2.2.2.1,v157,cs158,r151.2.2.2.2.2.2,v160,ms161,rfl,h,(le129.t le153),hS,m156,m159,m162⟩,Nat.lt_succ_self _⟩
 ·replace h:=iF h133 h
  refine cexit ?_
  refine (fun h=>xe (xe (bh h))) ?_
  refine xn ?_
  refine cdw hS ?_; clear hS; intro w7 hS
  refine cpi 0 rfl (cpi 1 rfl (cpi 2 rfl (cpi 3 rfl (cpi 5 rfl (cpi 6 rfl (cpi 7 rfl (cr 8 [8,9,10,11,12,13,14] rfl (u_load ti124 (et (k30 d3)) ((hS.blk d0).cell d7)) (q30 p4) (cp 9 rfl (u_lenv underlying124 (et (k30 d4)) (hS.get d3).isSl) (q30 p5) ?_))))))))
  obtain ⟨i165,g166,h⟩:=bI h
  refine cp 10 rfl (u_subc (et (k30 d5)) ec g166) (q30 p6) (cr 4 [4,11,12,13,14] rfl (u_load ti124 (et (k20 d9)) ((hS.blk d0).cell d7)) (q30 p0) ?_)
  obtain ⟨l167,g168,h⟩:=bI h
  obtain ⟨v169,ms170,e171,hb172,hr173,m174,e175⟩:=Row.cutM (hS.get d3) m132 g168
  replace hS:=hS.reRow d3 hb172 hr173 p3
  replace hS:=hS.popM (pre:=[_,_,_,_]) (j:=i165.toNat); rw [e175] at hS
  refine cp 11 rfl (u_slc underlying124 ti50 (et (k30 d0)) .n (.s (et (k30 d6))) e171) (q30 p7) (cpi 12 rfl (cpi 13 rfl (sc1 rfl rfl rfl (s_store1 ti124 (et (k30 d9)) (et (k30 d7)) (hS.get d3).cellV hS d0 p7 rfl p0 dn ?_))))
  clear hS; intro w8 hS
  refine sc_nil ?_
  obtain rfl:=oI h
  refine end0 rfl ?_
  replace hS:Sq μ1 w0 _ (.blk b1 126 [.pointer (some ⟨b3,o4,none⟩),.int .i64 i82,.int .i64 i83,v86,.int .i64 i84,.int .i64 i85,v90,v169]::.row v86 3 1 l88.length cs87::.row v90 90 3 l92.length cs91::.row v169 50 1 l167.length (cOf ms170)::(mRs ms170++rsF)):=hS
  exact ⟨_,_,_,_,_,_,_,rfl,le129,hS,m130,m131,m174⟩
theorem gen_stat_w {self:GenS} (IH:GenSSound self) {fu:Nat} {μ0:M} {w0 w:World} {rsF:List Res} (hg:Le Gm μ0) {b1:Nat} {tabl_2:TGt} {b3 o4 b5 b7 b9:Nat} {kind_12 para_13:Int} {loca_14:List Int} {v15:Value} {cs16:List Value} {resu_18 take_19:Int} {code_20:List TInstr} {v21:Value} {cs22:List Value} {bloc_24:List (List (List UInt8×Int))} {v25:Value} {ms26:List (Nat×List MapEntry×Nat)} {p_2:TStat} {b28 o29:Nat} {a30:Option Addr} {c31:Nat} {a33:Option Addr} {c34:Nat} {a36:Option Addr} {c37:Nat} {r:Int×Int×List Int×Int×Int×List TInstr×List (List (List UInt8×Int))} (m6:Mr μ0 b5 tabl_2.boxes) (m8:Mr μ0 b7 tabl_2.units) (m10:Mr μ0 b9 tabl_2.defs) (m11:At μ0 b3 o4 [.map (some b5),.map (some b7),.map (some b9)]) (m17:Rw μ0 cs16 loca_14) (m23:Rw μ0 cs22 code_20) (m27:Ms μ0 ms26 bloc_24) (m32:Sl μ0 a30 c31 p_2.X.Kids) (m35:Sl μ0 a33 c34 p_2.Body) (m38:Sl μ0 a36 c37 p_2.Else) (m39:At μ0 b28 o29 [.int .i64 p_2.Kind,S p_2.Name,.int .i64 p_2.X.Kind,.int .i64 p_2.X.N,S p_2.X.Name,.slice a30 p_2.X.Kids.length c31,.slice a33 p_2.Body.length c34,.slice a36 p_2.Else.length c37]) (h:gen_stat fu self tabl_2 kind_12 para_13 loca_14 resu_18 take_19 code_20 bloc_24 p_2=some r) (hS:Sq μ0 w0 w (.blk b1 126 [.pointer (some ⟨b3,o4,none⟩),.int .i64 kind_12,.int .i64 para_13,v15,.int .i64 resu_18,.int .i64 take_19,v21,v25]::.row v15 3 1 loca_14.length cs16::.row v21 90 3 code_20.length cs22::.row v25 50 1 bloc_24.length (cOf ms26)::(mRs ms26++rsF))):CallsV prog 67 [.pointer (some ⟨b1,0,none⟩),.pointer (some ⟨b28,o29,none⟩)] w (fun v w'=>∃ (μ':M) (v40:Value) (cs41:List Value) (v43:Value) (cs44:List Value) (v46:Value) (ms47:List (Nat×List MapEntry×Nat)),v=.tuple ⟨[]⟩∧Le μ0 μ'∧Sq μ' w0 w' (.blk b1 126 [.pointer (some ⟨b3,o4,none⟩),.int .i64 r.1,.int .i64 r.2.1,v40,.int .i64 r.2.2.2.1,.int .i64 r.2.2.2.2.1,v43,v46]::.row v40 3 1 r.2.2.1.length cs41::.row v43 90 3 r.2.2.2.2.2.1.length cs44::.row v46 50 1 r.2.2.2.2.2.2.length (cOf ms47)::(mRs ms47++rsF))∧Rw μ' cs41 r.2.2.1∧Rw μ' cs44 r.2.2.2.2.2.1∧Ms μ' ms47 r.2.2.2.2.2.2):=by
 unfold gen_stat at h
 refine enter func67 rfl (frm:=_::_::u1 (u5 (u20 (u20 (u50 (u50 [])))))) rfl (cseq (nz ?_))
 iterate 3 refine st ?_
 refine ld ((m39 _ hS.a).one d0) (nw (cblock (nz ?_)))
 iterate 2 refine st ?_
 refine nw ?_
 refine cifd (et (k10 d3)) (fun h49=>?_) (fun h49=>?_)
 ·replace h:=iT h49 h
  refine nz ?_
  iterate 4 refine st ?_
  obtain ⟨r50,g51,h⟩:=bI h
  replace hS:=(((hS.bg Y3).bg Y3).bg Y3).bg Y3
  refine ca ((GenE_sound fu).gen_expr hg m6 m8 m10 m11 m17 m23 m27 m32 (m39.sb 2 4) g51 hS) ?_
  rintro _ w1 ⟨μ1,v53,cs54,v56,cs57,v59,ms60,rfl,le52,hS,m55,m58,m61⟩
  refine po (nx (st ?_))
  obtain ⟨r62,g63,h⟩:=bI h
  replace hS:=(((hS.bg Y3).bg Y3).bg Y3).bg Y3
  refine ca (gen_put_w (hg.t le52) (m6.up le52) (m8.up le52) (m10.up le52) (m11.up le52) m55 m58 m61 g63 hS) ?_
  rintro _ w2 ⟨μ2,v65,cs66,v68,cs69,v71,ms72,rfl,le64,hS,m67,m70,m73⟩
  refine po (st (nx ?_))
  iterate 4 refine st ?_
  refine ld ((m39 _ ((le52.t le64) _ hS.a)).one d6) ?_
  obtain ⟨r74,g75,h⟩:=bI h
  replace hS:=(((hS.bg Y3).bg Y3).bg Y3).bg Y3
  refine ca (IH.gen_body (hg.t (le52.t le64)) (m6.up (le52.t le64)) (m8.up (le52.t le64)) (m10.up (le52.t le64)) (m11.up (le52.t le64)) m67 m70 m73 (m35.up (le52.t le64)) g75 hS) ?_
  rintro _ w3 ⟨μ3,v77,cs78,v80,cs81,v83,ms84,rfl,le76,hS,m79,m82,m85⟩
  refine po (nx (st ?_))
  obtain ⟨r86,g87,h⟩:=bI h
  replace hS:=(((hS.bg Y3).bg Y3).bg Y3).bg Y3
  refine ca (gen_put_w (hg.t (le52.t (le64.t le76))) (m6.up (le52.t (le64.t le76))) (m8.up (le52.t (le64.t le76))) (m10.up (le52.t (le64.t le76))) (m11.up (le52.t (le64.t le76))) m79 m82 m85 g87 hS) ?_
  rintro _ w4 ⟨μ4,v89,cs90,v92,cs93,v95,ms96,rfl,le88,hS,m91,m94,m97⟩
  refine po (st (ny ?_))
  refine ccutE (rg 30 10) (by decide) (fun m w=>∃ μx l100 v98 cs99,m=(yK20 (yK10 (yO10 30 [])))∧gen_stat_j1 self p_2 tabl_2 r86 l100=some r∧Le μ4 μx∧Sq μx w0 w (.blk b1 126 [.pointer (some ⟨b3,o4,none⟩),.int .i64 r86.2.1,.int .i64 r86.2.2.1,v89,.int .i64 r86.2.2.2.2.1,.int .i64 r86.2.2.2.2.2.1,v98,v95]::.row v89 3 1 r86.2.2.2.1.length cs90::.row v98 90 3 l100.length cs99::.row v95 50 1 r86.2.2.2.2.2.2.2.length (cOf ms96)::(mRs ms96++rsF))∧Rw μx cs99 l100) (by rintro _ _ ⟨_,_,_,_,rfl,_⟩; rfl) ?_ ?_
  ·refine cdw hS ?_; clear hS; intro w5 hS
   refine sf_start (fpi 0 [0,1,2,3,4,8,9,10] rfl (fpi 1 [1,2,3,4,8,9,10] rfl (fpi 2 [2,3,4,8,9,10] rfl (fpi 3 [3,4,8,9,10] rfl (fr_ 4 [4,8,9,10] rfl (u_load ti62 (et (k30 d3)) ((hS.blk d0).cell d6)) (q30 p4) (fpi 5 [5,8,9,10] rfl (fpi 6 [6,7,8,9,10] rfl ?_)))))))
   obtain ⟨r102,g103,h⟩:=bI h
   replace hS:=(((hS.bg Y3).bg Y3).bg Y3).bg Y3
   refine sf1 rfl rfl rfl rfl (wn0 rfl) (s_callv isfn83 ef (e1 (et (k30 d6)) e0) (gen_here_w (hg.t (le52.t (le64.t (le76.t le88)))) (m6.up (le52.t (le64.t (le76.t le88)))) (m8.up (le52.t (le64.t (le76.t le88)))) (m10.up (le52.t (le64.t (le76.t le88)))) (m11.up (le52.t (le64.t (le76.t le88)))) m91 m94 m97 g103 hS) ?_)
   rintro _ w6 ⟨μ5,rfl,le104,hS⟩
   refine po ?_
   refine ⟨(Mons.s (u_load ti62 (et (k30 d3)) ((hS.blk d0).cell d6)) Mons.z),?_⟩
   obtain ⟨x105,g106,h⟩:=bI h
   obtain ⟨b107,o108,pc109,cs110,sc111,ec112,e113,f114,m115,pn116,st117,m118⟩:=Row.elemS (α:=TInstr) (hS.get d2) (m94.up le104) rfl g106
   rw [ec112] at hS
   obtain rfl:=m115
   refine fp 8 [8,9,10] rfl (u_iax underlying62 ti90 (et (k30 d4)) (et (k30 d5)) e113) (q30 p8) (fpi 9 [9,10] rfl ?_)
   have m119:=st117 _ [.int .i64 x105.Op,.int .i64 r102,.int .i64 x105.N] (TInstr.mk x105.Op r102 x105.N) Le.r rfl
   refine sf1 rfl rfl rfl rfl (wn0 rfl) (s_storeR (off:=1) ti3 (et (k30 d9)) (et (k30 d7)) rfl rfl rfl hS d2 e113 (Nat.le_of_ble_eq_true rfl) (open_store pn116 rfl (Nat.le_of_ble_eq_true rfl)) p2 dn ?_); clear hS; intro w7 hS
   replace hS:Sq μ5 w0 w7 (.blk b1 126 [.pointer (some ⟨b3,o4,none⟩),.int .i64 r86.2.1,.int .i64 r86.2.2.1,v89,.int .i64 r86.2.2.2.2.1,.int .i64 r86.2.2.2.2.2.1,v92,v95]::.row v89 3 1 r86.2.2.2.1.length cs90::.row v92 90 3 (r86.2.2.2.2.2.2.1.set r62.1.toNat (TInstr.mk x105.Op r102 x105.N)).length (pc109++([.int .i64 x105.Op,.int .i64 r102,.int .i64 x105.N]++sc111))::.row v95 50 1 r86.2.2.2.2.2.2.2.length (cOf ms96)::(mRs ms96++rsF)):=by rw [List.length_set]; exact hS
   refine ⟨Mons.z,?_⟩
   refine sf_nil (xl ?_)
   exact ⟨_,_,rfl,(aK20 (aK10 (aO10 aZ))),_,(r86.2.2.2.2.2.2.1.set r62.1.toNat (TInstr.mk x105.Op r102 x105.N)),_,(pc109++([.int .i64 x105.Op,.int .i64 r102,.int .i64 x105.N]++sc111)),rfl,h,le104,hS,m119⟩
  ·rintro _ t w8 ⟨μ6,l100,v98,cs99,rfl,h,le120,hS,m121⟩
   unfold gen_stat_j1 at h
   refine nrm (mK20 (mK10 (mO10 mz))) (xn (nz ?_))
   iterate 4 refine st ?_
   refine ld ((m39 _ ((le52.t (le64.t (le76.t (le88.t le120)))) _ hS.a)).one d7) ?_
   obtain ⟨r122,g123,h⟩:=bI h
   replace hS:=(((hS.bg Y3).bg Y3).bg Y3).bg Y3
   refine ca (IH.gen_body (hg.t (le52.t (le64.t (le76.t (le88.t le120))))) (m6.up (le52.t (le64.t (le76.t (le88.t le120))))) (m8.up (le52.t (le64.t (le76.t (le88.t le120))))) (m10.up (le52.t (le64.t (le76.t (le88.t le120))))) (m11.up (le52.t (le64.t (le76.t (le88.t le120))))) (m91.up le120) m121 (m97.up le120) (m38.up (le52.t (le64.t (le76.t (le88.t le120))))) g123 hS) ?_
   rintro _ w9 ⟨μ7,v125,cs126,v128,cs129,v131,ms132,rfl,le124,hS,m127,m130,m133⟩
   refine po (ny ?_)
   refine ccutE (rg 46 10) (by decide) (fun m w=>∃ μx l136 v134 cs135,m=(yK20 (yK20 (yK6 (yO10 46 []))))∧gen_stat_j2 r122 l136=some r∧Le μ7 μx∧Sq μx w0 w (.blk b1 126 [.pointer (some ⟨b3,o4,none⟩),.int .i64 r122.1,.int .i64 r122.2.1,v125,.int .i64 r122.2.2.2.1,.int .i64 r122.2.2.2.2.1,v134,v131]::.row v125 3 1 r122.2.2.1.length cs126::.row v134 90 3 l136.length cs135::.row v131 50 1 r122.2.2.2.2.2.2.length (cOf ms132)::(mRs ms132++rsF))∧Rw μx cs135 l136) (by rintro _ _ ⟨_,_,_,_,rfl,_⟩; rfl) ?_ ?_
   ·refine cdw hS ?_; clear hS; intro w10 hS
    refine sf_start (fpi 0 [0,1,2,3,4,8,9,10] rfl (fpi 1 [1,2,3,4,8,9,10] rfl (fpi 2 [2,3,4,8,9,10] rfl (fpi 3 [3,4,8,9,10] rfl (fr_ 4 [4,8,9,10] rfl (u_load ti62 (et (k40 d9)) ((hS.blk d0).cell d6)) (q50 p0) (fpi 5 [5,8,9,10] rfl (fpi 6 [6,7,8,9,10] rfl ?_)))))))
    obtain ⟨r138,g139,h⟩:=bI h
    replace hS:=(((hS.bg Y3).bg Y3).bg Y3).bg Y3
    refine sf1 rfl rfl rfl rfl (wn0 rfl) (s_callv isfn83 ef (e1 (et (k50 d2)) e0) (gen_here_w (hg.t (le52.t (le64.t (le76.t (le88.t (le120.t le124)))))) (m6.up (le52.t (le64.t (le76.t (le88.t (le120.t le124)))))) (m8.up (le52.t (le64.t (le76.t (le88.t (le120.t le124)))))) (m10.up (le52.t (le64.t (le76.t (le88.t (le120.t le124)))))) (m11.up (le52.t (le64.t (le76.t (le88.t (le120.t le124)))))) m127 m130 m133 g139 hS) ?_)
    rintro _ w11 ⟨μ8,rfl,le140,hS⟩
    refine po ?_
    refine ⟨(Mons.s (u_load ti62 (et (k40 d9)) ((hS.blk d0).cell d6)) Mons.z),?_⟩
    obtain ⟨x141,g142,h⟩:=bI h
    obtain ⟨b143,o144,pc145,cs146,sc147,ec148,e149,f150,m151,pn152,st153,m154⟩:=Row.elemS (α:=TInstr) (hS.get d2) (m130.up le140) rfl g142
    rw [ec148] at hS
    obtain rfl:=m151
    refine fp 8 [8,9,10] rfl (u_iax underlying62 ti90 (et (k50 d0)) (et (k50 d1)) e149) (q50 p4) (fpi 9 [9,10] rfl ?_)
    have m155:=st153 _ [.int .i64 x141.Op,.int .i64 r138,.int .i64 x141.N] (TInstr.mk x141.Op r138 x141.N) Le.r rfl
    refine sf1 rfl rfl rfl rfl (wn0 rfl) (s_storeR (off:=1) ti3 (et (k50 d5)) (et (k50 d3)) rfl rfl rfl hS d2 e149 (Nat.le_of_ble_eq_true rfl) (open_store pn152 rfl (Nat.le_of_ble_eq_true rfl)) p2 dn ?_); clear hS; intro w12 hS
    replace hS:Sq μ8 w0 w12 (.blk b1 126 [.pointer (some ⟨b3,o4,none⟩),.int .i64 r122.1,.int .i64 r122.2.1,v125,.int .i64 r122.2.2.2.1,.int .i64 r122.2.2.2.2.1,v128,v131]::.row v125 3 1 r122.2.2.1.length cs126::.row v128 90 3 (r122.2.2.2.2.2.1.set r86.1.toNat (TInstr.mk x141.Op r138 x141.N)).length (pc145++([.int .i64 x141.Op,.int .i64 r138,.int .i64 x141.N]++sc147))::.row v131 50 1 r122.2.2.2.2.2.2.length (cOf ms132)::(mRs ms132++rsF)):=by rw [List.length_set]; exact hS
    refine ⟨Mons.z,?_⟩
    refine sf_nil (xl ?_)
    exact ⟨_,_,rfl,(aK20 (aK20 (aK6 (aO10 aZ)))),_,(r122.2.2.2.2.2.1.set r86.1.toNat (TInstr.mk x141.Op r138 x141.N)),_,(pc145++([.int .i64 x141.Op,.int .i64 r138,.int .i64 x141.N]++sc147)),rfl,h,le140,hS,m155⟩
   ·rintro _ t w13 ⟨μ9,l136,v134,cs135,rfl,h,le156,hS,m157⟩
    unfold gen_stat_j2 at h
    refine nrm (mK20 (mK20 (mK6 (mO10 mz)))) (xn (cret ?_))
    refine (fun h=>br (xr h)) ?_
    obtain rfl:=oI h
    refine ret0 rfl ?_
    replace hS:Sq μ9 w0 _ (.blk b1 126 [.pointer (some ⟨b3,o4,none⟩),.int .i64 r122.1,.int .i64 r122.2.1,v125,.int .i64 r122.2.2.2.1,.int .i64 r122.2.2.2.2.1,v134,v131]::.row v125 3 1 r122.2.2.1.length cs126::.row v134 90 3 l136.length cs135::.row v131 50 1 r122.2.2.2.2.2.2.length (cOf ms132)::(mRs ms132++rsF)):=hS
    exact ⟨_,_,_,_,_,_,_,rfl,(le52.t (le64.t (le76.t (le88.t (le120.t (le124.t le156)))))),hS,(m127.up le156),m157,(m133.up le156)⟩
 ·replace h:=iF h49 h
  refine nz ?_
  iterate 2 refine st ?_
  refine nw ?_
  refine cifd (et (k50 d6)) (fun h158=>?_) (fun h158=>?_)
  ·replace h:=iT h158 h
   refine nz (st ?_)
   obtain ⟨r159,g160,h⟩:=bI h
   replace hS:=(((hS.bg Y3).bg Y3).bg Y3).bg Y3
   refine ca (gen_here_w hg m6 m8 m10 m11 m17 m23 m27 g160 hS) ?_
   rintro _ w14 ⟨μ10,rfl,le161,hS⟩
   refine po (st (nx ?_))
   iterate 4 refine st ?_
   obtain ⟨r162,g163,h⟩:=bI h
   replace hS:=(((hS.bg Y3).bg Y3).bg Y3).bg Y3
   refine ca ((GenE_sound fu).gen_expr (hg.t le161) (m6.up le161) (m8.up le161) (m10.up le161) (m11.up le161) (m17.up le161) (m23.up le161) (m27.up le161) (m32.up le161) ((m39.up le161).sb 2 4) g163 hS) ?_
   rintro _ w15 ⟨μ11,v165,cs166,v168,cs169,v171,ms172,rfl,le164,hS,m167,m170,m173⟩
   refine po (nx (st ?_))
   obtain ⟨r174,g175,h⟩:=bI h
   replace hS:=(((hS.bg Y3).bg Y3).bg Y3).bg Y3
   refine ca (gen_put_w (hg.t (le161.t le164)) (m6.up (le161.t le164)) (m8.up (le161.t le164)) (m10.up (le161.t le164)) (m11.up (le161.t le164)) m167 m170 m173 g175 hS) ?_
   rintro _ w16 ⟨μ12,v177,cs178,v180,cs181,v183,ms184,rfl,le176,hS,m179,m182,m185⟩
   refine po (st (nx ?_))
   iterate 4 refine st ?_
   refine ld ((m39 _ ((le161.t (le164.t le176)) _ hS.a)).one d6) ?_
   obtain ⟨r186,g187,h⟩:=bI h
   replace hS:=(((hS.bg Y3).bg Y3).bg Y3).bg Y3
   refine ca (IH.gen_body (hg.t (le161.t (le164.t le176))) (m6.up (le161.t (le164.t le176))) (m8.up (le161.t (le164.t le176))) (m10.up (le161.t (le164.t le176))) (m11.up (le161.t (le164.t le176))) m179 m182 m185 (m35.up (le161.t (le164.t le176))) g187 hS) ?_
   rintro _ w17 ⟨μ13,v189,cs190,v192,cs193,v195,ms196,rfl,le188,hS,m191,m194,m197⟩
   refine po (nx ?_)
   iterate 2 refine st ?_
   obtain ⟨r198,g199,h⟩:=bI h
   replace hS:=(((hS.bg Y3).bg Y3).bg Y3).bg Y3
   refine ca (gen_put_w (hg.t (le161.t (le164.t (le176.t le188)))) (m6.up (le161.t (le164.t (le176.t le188)))) (m8.up (le161.t (le164.t (le176.t le188)))) (m10.up (le161.t (le164.t (le176.t le188)))) (m11.up (le161.t (le164.t (le176.t le188)))) m191 m194 m197 g199 hS) ?_
   rintro _ w18 ⟨μ14,v201,cs202,v204,cs205,v207,ms208,rfl,le200,hS,m203,m206,m209⟩
   refine po (ny ?_)
   refine ccutE (rg 76 10) (by decide) (fun m w=>∃ μx l212 v210 cs211,m=(yK50 (yK20 (yK6 (yO10 76 []))))∧gen_stat_j3 r198 l212=some r∧Le μ14 μx∧Sq μx w0 w (.blk b1 126 [.pointer (some ⟨b3,o4,none⟩),.int .i64 r198.2.1,.int .i64 r198.2.2.1,v201,.int .i64 r198.2.2.2.2.1,.int .i64 r198.2.2.2.2.2.1,v210,v207]::.row v201 3 1 r198.2.2.2.1.length cs202::.row v210 90 3 l212.length cs211::.row v207 50 1 r198.2.2.2.2.2.2.2.length (cOf ms208)::(mRs ms208++rsF))∧Rw μx cs211 l212) (by rintro _ _ ⟨_,_,_,_,rfl,_⟩; rfl) ?_ ?_
   ·refine cdw hS ?_; clear hS; intro w19 hS
    refine sf_start (fpi 0 [0,1,2,3,4,8,9,10] rfl (fpi 1 [1,2,3,4,8,9,10] rfl (fpi 2 [2,3,4,8,9,10] rfl (fpi 3 [3,4,8,9,10] rfl (fr_ 4 [4,8,9,10] rfl (u_load ti62 (et (k70 d9)) ((hS.blk d0).cell d6)) (q80 p0) (fpi 5 [5,8,9,10] rfl (fpi 6 [6,7,8,9,10] rfl ?_)))))))
    obtain ⟨r214,g215,h⟩:=bI h
    replace hS:=(((hS.bg Y3).bg Y3).bg Y3).bg Y3
    refine sf1 rfl rfl rfl rfl (wn0 rfl) (s_callv isfn83 ef (e1 (et (k80 d2)) e0) (gen_here_w (hg.t (le161.t (le164.t (le176.t (le188.t le200))))) (m6.up (le161.t (le164.t (le176.t (le188.t le200))))) (m8.up (le161.t (le164.t (le176.t (le188.t le200))))) (m10.up (le161.t (le164.t (le176.t (le188.t le200))))) (m11.up (le161.t (le164.t (le176.t (le188.t le200))))) m203 m206 m209 g215 hS) ?_)
    rintro _ w20 ⟨μ15,rfl,le216,hS⟩
    refine po ?_
    refine ⟨(Mons.s (u_load ti62 (et (k70 d9)) ((hS.blk d0).cell d6)) Mons.z),?_⟩
    obtain ⟨x217,g218,h⟩:=bI h
    obtain ⟨b219,o220,pc221,cs222,sc223,ec224,e225,f226,m227,pn228,st229,m230⟩:=Row.elemS (α:=TInstr) (hS.get d2) (m206.up le216) rfl g218
    rw [ec224] at hS
    obtain rfl:=m227
    refine fp 8 [8,9,10] rfl (u_iax underlying62 ti90 (et (k80 d0)) (et (k80 d1)) e225) (q80 p4) (fpi 9 [9,10] rfl ?_)
    have m231:=st229 _ [.int .i64 x217.Op,.int .i64 r214,.int .i64 x217.N] (TInstr.mk x217.Op r214 x217.N) Le.r rfl
    refine sf1 rfl rfl rfl rfl (wn0 rfl) (s_storeR (off:=1) ti3 (et (k80 d5)) (et (k80 d3)) rfl rfl rfl hS d2 e225 (Nat.le_of_ble_eq_true rfl) (open_store pn228 rfl (Nat.le_of_ble_eq_true rfl)) p2 dn ?_); clear hS; intro w21 hS
    replace hS:Sq μ15 w0 w21 (.blk b1 126 [.pointer (some ⟨b3,o4,none⟩),.int .i64 r198.2.1,.int .i64 r198.2.2.1,v201,.int .i64 r198.2.2.2.2.1,.int .i64 r198.2.2.2.2.2.1,v204,v207]::.row v201 3 1 r198.2.2.2.1.length cs202::.row v204 90 3 (r198.2.2.2.2.2.2.1.set r174.1.toNat (TInstr.mk x217.Op r214 x217.N)).length (pc221++([.int .i64 x217.Op,.int .i64 r214,.int .i64 x217.N]++sc223))::.row v207 50 1 r198.2.2.2.2.2.2.2.length (cOf ms208)::(mRs ms208++rsF)):=by rw [List.length_set]; exact hS
    refine ⟨Mons.z,?_⟩
    refine sf_nil (xl ?_)
    exact ⟨_,_,rfl,(aK50 (aK20 (aK6 (aO10 aZ)))),_,(r198.2.2.2.2.2.2.1.set r174.1.toNat (TInstr.mk x217.Op r214 x217.N)),_,(pc221++([.int .i64 x217.Op,.int .i64 r214,.int .i64 x217.N]++sc223)),rfl,h,le216,hS,m231⟩
   ·rintro _ t w22 ⟨μ16,l212,v210,cs211,rfl,h,le232,hS,m233⟩
    unfold gen_stat_j3 at h
    refine nrm (mK50 (mK20 (mK6 (mO10 mz)))) (xn (cret ?_))
    refine (fun h=>br (xr h)) ?_
    obtain rfl:=oI h
    refine ret0 rfl ?_
    replace hS:Sq μ16 w0 _ (.blk b1 126 [.pointer (some ⟨b3,o4,none⟩),.int .i64 r198.2.1,.int .i64 r198.2.2.1,v201,.int .i64 r198.2.2.2.2.1,.int .i64 r198.2.2.2.2.2.1,v210,v207]::.row v201 3 1 r198.2.2.2.1.length cs202::.row v210 90 3 l212.length cs211::.row v207 50 1 r198.2.2.2.2.2.2.2.length (cOf ms208)::(mRs ms208++rsF)):=hS
    exact ⟨_,_,_,_,_,_,_,rfl,(le161.t (le164.t (le176.t (le188.t (le200.t le232))))),hS,(m203.up le232),m233,(m209.up le232)⟩
  ·replace h:=iF h158 h
   refine nz ?_
   iterate 2 refine st ?_
   refine nw ?_
   refine cifd (et (k80 d6)) (fun h234=>?_) (fun h234=>?_)
   ·replace h:=iT h234 h
    refine nz (st ?_)
    obtain ⟨r235,g236,h⟩:=bI h
    replace hS:=(((hS.bg Y3).bg Y3).bg Y3).bg Y3
    refine ca (gen_put_w hg m6 m8 m10 m11 m17 m23 m27 g236 hS) ?_
    rintro _ w23 ⟨μ17,v238,cs239,v241,cs242,v244,ms245,rfl,le237,hS,m240,m243,m246⟩
    refine po (nw (cret ?_))
    refine (fun h=>br (xr h)) ?_
    obtain rfl:=oI h
    refine ret0 rfl ?_
    replace hS:Sq μ17 w0 _ (.blk b1 126 [.pointer (some ⟨b3,o4,none⟩),.int .i64 r235.2.1,.int .i64 r235.2.2.1,v238,.int .i64 r235.2.2.2.2.1,.int .i64 r235.2.2.2.2.2.1,v241,v244]::.row v238 3 1 r235.2.2.2.1.length cs239::.row v241 90 3 r235.2.2.2.2.2.2.1.length cs242::.row v244 50 1 r235.2.2.2.2.2.2.2.length (cOf ms245)::(mRs ms245++rsF)):=hS
    exact ⟨_,_,_,_,_,_,_,rfl,le237,hS,m240,m243,m246⟩
   ·replace h:=iF h234 h
    refine cskip ?_
    refine (fun h=>bn (xn h)) ?_
    refine nz ?_
    iterate 4 refine st ?_
    obtain ⟨r247,g248,h⟩:=bI h
    replace hS:=(((hS.bg Y3).bg Y3).bg Y3).bg Y3
    refine ca ((GenE_sound fu).gen_expr hg m6 m8 m10 m11 m17 m23 m27 m32 (m39.sb 2 4) g248 hS) ?_
    rintro _ w24 ⟨μ18,v250,cs251,v253,cs254,v256,ms257,rfl,le249,hS,m252,m255,m258⟩
    refine po (st (nx ?_))
    iterate 3 refine st ?_
    refine ld ((m39 _ (le249 _ hS.a)).one d0) (nw (cblock (nz ?_)))
    iterate 2 refine st ?_
    refine nw ?_
    refine cifd (et (k90 d9)) (fun h259=>?_) (fun h259=>?_)
    ·replace h:=iT h259 h
     refine creg ?_
     iterate 5 refine st ?_
     refine ld ((m39 _ (le249 _ hS.a)).one d1) (st ?_)
     obtain ⟨r260,g261,h⟩:=bI h
     replace hS:=(((hS.bg Y3).bg Y3).bg Y3).bg Y3
     refine ca (gen_local_w (hg.t le249) (m6.up le249) (m8.up le249) (m10.up le249) (m11.up le249) m252 m255 m258 g261 hS) ?_
     rintro _ w25 ⟨μ19,v263,cs264,v266,cs267,v269,ms270,rfl,le262,hS,m265,m268,m271⟩
     refine po ?_
     obtain ⟨r272,g273,h⟩:=bI h
     replace hS:=(((hS.bg Y3).bg Y3).bg Y3).bg Y3
     refine ca (gen_put_w (hg.t (le249.t le262)) (m6.up (le249.t le262)) (m8.up (le249.t le262)) (m10.up (le249.t le262)) (m11.up (le249.t le262)) m265 m268 m271 g273 hS) ?_
     rintro _ w26 ⟨μ20,v275,cs276,v278,cs279,v281,ms282,rfl,le274,hS,m277,m280,m283⟩
     refine po (wnil (bn ?_))
     obtain rfl:=oI h
     refine end0 rfl ?_
     replace hS:Sq μ20 w0 _ (.blk b1 126 [.pointer (some ⟨b3,o4,none⟩),.int .i64 r272.2.1,.int .i64 r272.2.2.1,v275,.int .i64 r272.2.2.2.2.1,.int .i64 r272.2.2.2.2.2.1,v278,v281]::.row v275 3 1 r272.2.2.2.1.length cs276::.row v278 90 3 r272.2.2.2.2.2.2.1.length cs279::.row v281 50 1 r272.2.2.2.2.2.2.2.length (cOf ms282)::(mRs ms282++rsF)):=hS
     exact ⟨_,_,_,_,_,_,_,rfl,(le249.t (le262.t le274)),hS,m277,m280,m283⟩
    ·replace h:=iF h259 h
     refine nz ?_
     iterate 2 refine st ?_
     refine nw ?_
     refine cifd (et (k100 (k10 d0))) (fun h284=>?_) (fun h284=>?_)
     ·replace h:=iT h284 h
      refine creg ?_
      iterate 5 refine st ?_
      refine ld ((m39 _ (le249 _ hS.a)).one d1) ?_
      obtain ⟨r285,g286,h⟩:=bI h
      replace hS:=(((hS.bg Y3).bg Y3).bg Y3).bg Y3
      refine ca (gen_look_w (hg.t le249) (m6.up le249) (m8.up le249) (m10.up le249) (m11.up le249) m252 m255 m258 g286 hS) ?_
      rintro _ w27 ⟨μ21,rfl,le287,hS⟩
      refine po ?_
      obtain ⟨r288,g289,h⟩:=bI h
      replace hS:=(((hS.bg Y3).bg Y3).bg Y3).bg Y3
      refine ca (gen_put_w (hg.t (le249.t le287)) (m6.up (le249.t le287)) (m8.up (le249.t le287)) (m10.up (le249.t le287)) (m11.up (le249.t le287)) (m252.up le287) (m255.up le287) (m258.up le287) g289 hS) ?_
      rintro _ w28 ⟨μ22,v291,cs292,v294,cs295,v297,ms298,rfl,le290,hS,m293,m296,m299⟩
      refine po (wnil (bn ?_))
      obtain rfl:=oI h
      refine end0 rfl ?_
      replace hS:Sq μ22 w0 _ (.blk b1 126 [.pointer (some ⟨b3,o4,none⟩),.int .i64 r288.2.1,.int .i64 r288.2.2.1,v291,.int .i64 r288.2.2.2.2.1,.int .i64 r288.2.2.2.2.2.1,v294,v297]::.row v291 3 1 r288.2.2.2.1.length cs292::.row v294 90 3 r288.2.2.2.2.2.2.1.length cs295::.row v297 50 1 r288.2.2.2.2.2.2.2.length (cOf ms298)::(mRs ms298++rsF)):=hS
      exact ⟨_,_,_,_,_,_,_,rfl,(le249.t (le287.t le290)),hS,m293,m296,m299⟩
     ·replace h:=iF h284 h
      refine nz ?_
      iterate 2 refine st ?_
      refine nw ?_
      refine cifd (et (k100 (k20 d0))) (fun h300=>?_) (fun h300=>?_)
      ·replace h:=iT h300 h
       refine creg (st ?_)
       obtain ⟨r301,g302,h⟩:=bI h
       replace hS:=(((hS.bg Y3).bg Y3).bg Y3).bg Y3
       refine ca (gen_put_w (hg.t le249) (m6.up le249) (m8.up le249) (m10.up le249) (m11.up le249) m252 m255 m258 g302 hS) ?_
       rintro _ w29 ⟨μ23,v304,cs305,v307,cs308,v310,ms311,rfl,le303,hS,m306,m309,m312⟩
       refine po (wnil (bn ?_))
       obtain rfl:=oI h
       refine end0 rfl ?_
       replace hS:Sq μ23 w0 _ (.blk b1 126 [.pointer (some ⟨b3,o4,none⟩),.int .i64 r301.2.1,.int .i64 r301.2.2.1,v304,.int .i64 r301.2.2.2.2.1,.int .i64 r301.2.2.2.2.2.1,v307,v310]::.row v304 3 1 r301.2.2.2.1.length cs305::.row v307 90 3 r301.2.2.2.2.2.2.1.length cs308::.row v310 50 1 r301.2.2.2.2.2.2.2.length (cOf ms311)::(mRs ms311++rsF)):=hS
       exact ⟨_,_,_,_,_,_,_,rfl,(le249.t le303),hS,m306,m309,m312⟩
      ·replace h:=iF h300 h
       refine nz ?_
       iterate 2 refine st ?_
       refine nw ?_
       refine cifd (et (k100 (k20 d4))) (fun h313=>?_) (fun h313=>?_)
       ·replace h:=iT h313 h
        refine cdw hS ?_; clear hS; intro w30 hS
        refine sf_start (fpi 0 [0,13] rfl (fpi 1 [1,2,3,4,5,6,7,12,13] rfl (fpi 2 [2,3,4,5,6,7,12,13] rfl (fpi 3 [3,4,5,6,7,12,13] rfl (fr_ 4 [4,5,6,7,12,13] rfl (u_load ti91 (et (k100 (k20 d9))) ((hS.blk d0).cell d0)) (q100 (q30 p0)) (fpi 5 [5,6,7,12,13] rfl (fpi 6 [6,7,12,13] rfl (fr_ 7 [7,12,13] rfl (u_load ti50 (et (k100 (k30 d2))) ((m11 _ (le249 _ hS.a)).one d0)) (q100 (q30 p3)) (fpi 8 [8,9,10,11,12,13] rfl (fpi 9 [9,10,11,12,13] rfl (fpi 10 [10,11,12,13] rfl (fr_ 11 [11,12,13] rfl (u_load ti9 (et (k100 (k30 d6))) ((m39 _ (le249 _ hS.a)).one d1)) (q100 (q30 p7)) ?_))))))))))))
        obtain ⟨es314,c315,hb316,hq317⟩:=(m6.up le249)
        refine sf1 rfl rfl rfl rfl (wn0 rfl) (s_mget1 (κ:=List UInt8) (k:=p_2.Name) (β:=Int) (zx:=0) underlying50 underlying9 (et (k100 (k30 d3))) (et (k100 (k30 d7))) zv3 rfl (hb316 _ hS.a) hq317 ?_); rintro _ rfl; refine po ?_
        refine ⟨Mons.z,?_⟩
        obtain ⟨r320,g321,h⟩:=bI h
        replace hS:=(((hS.bg Y3).bg Y3).bg Y3).bg Y3
        refine sf1 rfl rfl rfl rfl (wn0 rfl) (s_callv isfn46 ef (e1 (et (k100 (k20 d6))) (e1 ec (e1 (et (k100 (k30 d8))) (e1 ec e0)))) (gen_put_w (hg.t le249) (m6.up le249) (m8.up le249) (m10.up le249) (m11.up le249) m252 m255 m258 g321 hS) ?_)
        rintro _ w31 ⟨μ24,v323,cs324,v326,cs327,v329,ms330,rfl,le322,hS,m325,m328,m331⟩
        refine po ?_
        refine ⟨Mons.z,?_⟩
        refine sf_nil (bn ?_)
        obtain rfl:=oI h
        refine end0 rfl ?_
        replace hS:Sq μ24 w0 _ (.blk b1 126 [.pointer (some ⟨b3,o4,none⟩),.int .i64 r320.2.1,.int .i64 r320.2.2.1,v323,.int .i64 r320.2.2.2.2.1,.int .i64 r320.2.2.2.2.2.1,v326,v329]::.row v323 3 1 r320.2.2.2.1.length cs324::.row v326 90 3 r320.2.2.2.2.2.2.1.length cs327::.row v329 50 1 r320.2.2.2.2.2.2.2.length (cOf ms330)::(mRs ms330++rsF)):=hS
        exact ⟨_,_,_,_,_,_,_,rfl,(le249.t le322),hS,m325,m328,m331⟩
       ·replace h:=iF h313 h
        refine nz ?_
        iterate 2 refine st ?_
        refine nw ?_
        refine cifd (et (k100 (k40 d0))) (fun h332=>?_) (fun h332=>?_)
        ·replace h:=iT h332 h
         refine creg (st ?_)
         obtain ⟨r333,g334,h⟩:=bI h
         replace hS:=(((hS.bg Y3).bg Y3).bg Y3).bg Y3
         refine ca (gen_put_w (hg.t le249) (m6.up le249) (m8.up le249) (m10.up le249) (m11.up le249) m252 m255 m258 g334 hS) ?_
         rintro _ w32 ⟨μ25,v336,cs337,v339,cs340,v342,ms343,rfl,le335,hS,m338,m341,m344⟩
         refine po (wnil (bn ?_))
         obtain rfl:=oI h
         refine end0 rfl ?_
         replace hS:Sq μ25 w0 _ (.blk b1 126 [.pointer (some ⟨b3,o4,none⟩),.int .i64 r333.2.1,.int .i64 r333.2.2.1,v336,.int .i64 r333.2.2.2.2.1,.int .i64 r333.2.2.2.2.2.1,v339,v342]::.row v336 3 1 r333.2.2.2.1.length cs337::.row v339 90 3 r333.2.2.2.2.2.2.1.length cs340::.row v342 50 1 r333.2.2.2.2.2.2.2.length (cOf ms343)::(mRs ms343++rsF)):=hS
         exact ⟨_,_,_,_,_,_,_,rfl,(le249.t le335),hS,m338,m341,m344⟩
        ·replace h:=iF h332 h
         refine nz ?_
         iterate 2 refine st ?_
         refine nw ?_
         refine cifd (et (k100 (k40 d4))) (fun h345=>?_) (fun h345=>?_)
         ·replace h:=iT h345 h
          refine creg (st ?_)
          obtain ⟨r346,g347,h⟩:=bI h
          replace hS:=(((hS.bg Y3).bg Y3).bg Y3).bg Y3
          refine ca (gen_put_w (hg.t le249) (m6.up le249) (m8.up le249) (m10.up le249) (m11.up le249) m252 m255 m258 g347 hS) ?_
          rintro _ w33 ⟨μ26,v349,cs350,v352,cs353,v355,ms356,rfl,le348,hS,m351,m354,m357⟩
          refine po (wnil (bn ?_))
          obtain rfl:=oI h
          refine end0 rfl ?_
          replace hS:Sq μ26 w0 _ (.blk b1 126 [.pointer (some ⟨b3,o4,none⟩),.int .i64 r346.2.1,.int .i64 r346.2.2.1,v349,.int .i64 r346.2.2.2.2.1,.int .i64 r346.2.2.2.2.2.1,v352,v355]::.row v349 3 1 r346.2.2.2.1.length cs350::.row v352 90 3 r346.2.2.2.2.2.2.1.length cs353::.row v355 50 1 r346.2.2.2.2.2.2.2.length (cOf ms356)::(mRs ms356++rsF)):=hS
          exact ⟨_,_,_,_,_,_,_,rfl,(le249.t le348),hS,m351,m354,m357⟩
         ·replace h:=iF h345 h
          refine cskip (bn ?_)
          obtain rfl:=oI h
          refine end0 rfl ?_
          replace hS:Sq μ18 w0 _ (.blk b1 126 [.pointer (some ⟨b3,o4,none⟩),.int .i64 r247.2.1,.int .i64 r247.2.2.1,v250,.int .i64 r247.2.2.2.2.1,.int .i64 r247.2.2.2.2.2.1,v253,v256]::.row v250 3 1 r247.2.2.2.1.length cs251::.row v253 90 3 r247.2.2.2.2.2.2.1.length cs254::.row v256 50 1 r247.2.2.2.2.2.2.2.length (cOf ms257)::(mRs ms257++rsF)):=hS
          exact ⟨_,_,_,_,_,_,_,rfl,le249,hS,m252,m255,m258⟩
theorem GenS_sound:∀ n,GenSSound (GenS_run n)
  | 0=>⟨(by intros; rename_i h _; cases h),(by intros; rename_i h _; cases h)⟩
  | n+1=>⟨gen_body_w (GenS_sound n),gen_stat_w (GenS_sound n)⟩
theorem gen_unit_w (hg:Le Gm μ0) {p_1:TGt} {p_2:TDef} {r:TUnit} (m4:Mr μ0 b3 p_1.boxes) (m6:Mr μ0 b5 p_1.units) (m8:Mr μ0 b7 p_1.defs) (m9:At μ0 b1 o2 [.map (some b3),.map (some b5),.map (some b7)]) (m14:Sl μ0 a12 c13 p_2.Params) (m17:Sl μ0 a15 c16 p_2.Body) (m18:At μ0 b10 o11 [.int .i64 p_2.Kind,S p_2.Name,.int .i64 p_2.Typ.Kind,S p_2.Typ.Gen,.int .i64 p_2.Takes.Kind,S p_2.Takes.Gen,.int .i64 p_2.Cap,.slice a12 p_2.Params.length c13,.slice a15 p_2.Body.length c16]) (h:gen_unit fu p_1 p_2=some r) (hS:Sq μ0 w0 w (rsF)):CallsV prog 31 [.pointer (some ⟨b1,o2,none⟩),.pointer (some ⟨b10,o11,none⟩)] w (fun v w'=>∃ (μ':M) (a19:Option Addr) (c20:Nat) (a22:Option Addr) (c23:Nat),v=.agg ⟨[.int .i64 r.Kind,.int .i64 r.Params,.slice a19 r.Locals.length c20,.int .i64 r.Result,.int .i64 r.Takes,.slice a22 r.Code.length c23]⟩∧Le μ0 μ'∧Sq μ' w0 w' (rsF)∧Sl μ' a19 c20 r.Locals∧Sl μ' a22 c23 r.Code):=by
 unfold gen_unit at h
 refine enter func31 rfl (frm:=_::_::u1 (u5 (u50 (u50 [])))) rfl (nz ?_)
 refine wl (s_alloc ti64 hS ?_); clear hS; intro b25 w1 hb26 hS; refine po ?_
 refine nx ?_
 iterate 4 refine st ?_
 refine ld ((m18 _ hS.a).one d0) (wl (s_build ti64 pl64 (Fl.o rfl (et (k10 d2)) rfl rfl p0 Fl.z) (dt (q10 p3)) ?_))
 refine wl (s_mkmap hS ?_); clear hS; intro b27 w2 hb28 hS; refine po ?_
 refine wl (s_bsl underlying124 ti50 (Parts.s (et (k10 d4)) rfl Parts.z) rfl rfl hS ?_); clear hS; intro b29 w3 hb30 hS; refine po ?_
 refine wl (s_build ti126 pl126 (Fl.o rfl (et d8) rfl rfl p0 (Fl.n rfl (et (k10 d3)) rfl rfl (Spl.s p1 (of_decide_eq_true rfl) (Spl.s p2 (of_decide_eq_true rfl) (Spl.s p3 (of_decide_eq_true rfl) (Spl.s p4 (of_decide_eq_true rfl) (Spl.s p5 (of_decide_eq_true rfl) (Spl.s p6 (of_decide_eq_true rfl) Spl.z)))))) (Fl.o rfl (et (k10 d5)) rfl rfl p7 Fl.z))) (dt (q10 p6)) ?_)
 refine wl (s_box (et (k10 d6)) rfl hS ?_); clear hS; intro b31 w4 hb32 hS; refine po ?_
 replace hS:=hS.blkRow (n:=1) (sz:=1) d1 rfl (by decide) p1
 replace hS:=((hS.bg Y3).bg Y2).bg Y2
 obtain ⟨ms33,hms34⟩:∃ x,x=([(b27,[],0)]:List (Nat×List MapEntry×Nat)):=⟨_,rfl⟩
 change Sq μ0 w0 _ (.blk b31 126 [.pointer (some ⟨b1,o2,none⟩),.int .i64 p_2.Kind,.int .i64 0,.slice none 0 0,.int .i64 0,.int .i64 0,.slice none 0 0,.slice (some ⟨b29,0,none⟩) 1 1]::.row (.slice (some ⟨b29,0,none⟩) 1 1) 50 1 [([]:List (List UInt8×Int))].length (cOf [(b27,[],0)])::.blk b25 64 [.int .i64 0,.int .i64 0,.slice none 0 0,.int .i64 0,.int .i64 0,.slice none 0 0]::(mRs [(b27,[],0)]++rsF)) at hS; rw [← hms34] at hS
 have m35:Ms μ0 ms33 [([]:List (List UInt8×Int))]:=by rw [hms34]; exact ⟨_,_,rfl,(Mq.nil (κ:=List UInt8) (β:=Int) (μ:=μ0) (c:=0)),rfl⟩
 refine st (ny (nz ?_))
 iterate 3 refine st ?_
 refine ld ((m18 _ hS.a).one d0) (st (nw ?_))
 refine ccutE ([7]++rg 23 37) (by decide +kernel) (fun m w=>∃ μx l38 v36 ms37 i40 i41 i42 i43 l46 v44 cs45 l50 v48 cs49,m=(yK7 (yO1 7 (yK10 (yK5 (yO20 23 (yO10 43 (yO7 53 [])))))))∧gen_unit_j1 fu p_1 p_2 l38 i40 i41 i42 i43 l46 l50=some r∧Le μ0 μx∧Sq μx w0 w (.blk b25 64 [.int .i64 0,.int .i64 0,.slice none 0 0,.int .i64 0,.int .i64 0,.slice none 0 0]::.row v36 50 1 l38.length (cOf ms37)::.blk b31 126 [.pointer (some ⟨b1,o2,none⟩),.int .i64 i40,.int .i64 i41,v44,.int .i64 i42,.int .i64 i43,v48,v36]::.row v44 3 1 l46.length cs45::.row v48 90 3 l50.length cs49::(mRs ms37++rsF))∧Ms μx ms37 l38∧Rw μx cs45 l46∧Rw μx cs49 l50) (by rintro _ _ ⟨_,_,_,_,_,_,_,_,_,_,_,_,_,_,rfl,_⟩; rfl) ?_ ?_
 ·refine cifd (et (k20 d2)) (fun h52=>?_) (fun h52=>?_)
  ·replace h:=iT h52 h
   refine cseq ?_
   refine ccutE (rg 23 19) (by decide) (fun m w=>∃ μx i53,m=(yK20 (yK3 (yO10 23 (yO9 33 []))))∧gen_unit_j2 fu p_1 p_2 i53=some r∧Le μ0 μx∧Sq μx w0 w (.blk b25 64 [.int .i64 0,.int .i64 0,.slice none 0 0,.int .i64 0,.int .i64 0,.slice none 0 0]::.row (.slice (some ⟨b29,0,none⟩) 1 1) 50 1 [([]:List (List UInt8×Int))].length (cOf ms33)::.blk b31 126 [.pointer (some ⟨b1,o2,none⟩),.int .i64 p_2.Kind,.int .i64 (p_2.Params.length:Int),.slice none 0 0,.int .i64 i53,.int .i64 0,.slice none 0 0,(.slice (some ⟨b29,0,none⟩) 1 1)]::(mRs ms33++rsF))) (by rintro _ _ ⟨_,_,rfl,_⟩; rfl) ?_ ?_
   ·refine cdw hS ?_; clear hS; intro w5 hS
    refine sf_start (fpi 0 [0,13,14,15,16,17,18,19,20] rfl (fpi 1 [1,17,18,19,20] rfl (fpi 2 [2,3,4,5,6,13,14,15,16,17,18,19,20] rfl (fpi 3 [3,4,5,6,13,14,15,16,17,18,19,20] rfl (fpi 4 [4,5,6,13,14,15,16,17,18,19,20] rfl (fr_ 5 [5,6,13,14,15,16,17,18,19,20] rfl (u_load ti32 (et (k20 d7)) ((m18 _ hS.a).one d7)) (q20 p8) (fp 6 [6,13,14,15,16,17,18,19,20] rfl (u_lensl underlying32 (et (k20 d8))) (q20 p9) (fpi 7 [7,12,13,14,15,16,17,18,19,20] rfl (fpi 8 [8,9,10,11,12,13,14,15,16,17,18,19,20] rfl (fpi 9 [9,10,11,12,13,14,15,16,17,18,19,20] rfl (fpi 10 [10,11,12,13,14,15,16,17,18,19,20] rfl (fr_ 11 [11,12,13,14,15,16,17,18,19,20] rfl (u_loads ti31 (et (k30 d3)) ((m18 _ hS.a).sb 2 2) rfl) (q30 p4) ?_))))))))))))
    obtain ⟨r54,g55,h⟩:=bI h
    refine sf1 rfl rfl rfl rfl (wn0 rfl) (s_callv isfn30 ef (e1 (et (k30 d0)) (e1 (et (k30 d4)) e0)) (gen_typ_w hg m4 m6 m8 m9 g55 hS) ?_)
    rintro _ w6 ⟨μ1,rfl,le56,hS⟩
    refine po ?_
    refine ⟨(Mons.s (u_load ti32 (et (k20 d7)) ((m18 _ (le56 _ hS.a)).one d7)) Mons.z),?_⟩
    refine fpi 13 [13,14,15,16,17,18,19,20] rfl (fpi 14 [14,15,16,17,18,19,20] rfl (fpi 15 [15,16,17,18,19,20] rfl (sf1 rfl rfl rfl rfl (wn0 rfl) (s_store1 ti3 (et (k30 d8)) (et (k20 d9)) rfl hS d0 p2 rfl p0 dn ?_))))
    clear hS; intro w7 hS
    refine ⟨Mons.z,?_⟩
    refine fpi 17 [17,18,19,20] rfl (fpi 18 [18,19,20] rfl (fpi 19 [19,20] rfl (sf1 rfl rfl rfl rfl (wn0 rfl) (s_store1 ti3 (et (k40 d1)) (et (k30 d5)) rfl hS d0 p4 rfl p0 dn ?_))))
    clear hS; intro w8 hS
    refine ⟨Mons.z,?_⟩
    refine sf_nil (xl ?_)
    replace hS:=(hS.bg Y1).bg Y2
    exact ⟨_,_,rfl,(aK20 (aK3 (aO10 (aO9 aZ)))),_,_,rfl,h,le56,hS⟩
   ·rintro _ t w9 ⟨μ2,i53,rfl,h,le57,hS⟩
    unfold gen_unit_j2 at h
    refine nrm (mK20 (mK3 (mO10 (mO9 mz)))) (xn (nz ?_))
    iterate 3 refine st ?_
    refine ld ((m18 _ (le57 _ hS.a)).one d7) (wl (su (u_lensl underlying32 (et (k40 d5))) (dt (q40 p6)) (st (nw (cblock ?_)))))
    replace hS:=hS.nilRow 3 (Mo.sz Int)
    replace hS:=hS.nilRow 90 (Mo.sz TInstr)
    replace hS:=(((hS.bg Y1).bg Y4).bg Y4).bg Y4
    refine cloopE ([7]++rg 48 12) (by decide) (fun n m w=>∃ μx i87 l90 v88 ms89 i92 i93 i94 i95 l98 v96 cs97 l102 v100 cs101,m=(yK7 (yO1 7 (yK20 (yK10 (yK9 (.i (.int .i64 i87)::(yO10 48 (yO2 58 []))))))))∧gen_unit_l1 fu p_1 p_2 n i87 l90 i92 i93 i94 i95 l98 l102=some r∧Le μ2 μx∧Sq μx w0 w (.blk b25 64 [.int .i64 0,.int .i64 0,.slice none 0 0,.int .i64 0,.int .i64 0,.slice none 0 0]::.row v88 50 1 l90.length (cOf ms89)::.blk b31 126 [.pointer (some ⟨b1,o2,none⟩),.int .i64 i92,.int .i64 i93,v96,.int .i64 i94,.int .i64 i95,v100,v88]::.row v96 3 1 l98.length cs97::.row v100 90 3 l102.length cs101::(mRs ms89++rsF))∧Ms μx ms89 l90∧Rw μx cs97 l98∧Rw μx cs101 l102) (by rintro _ _ _ ⟨_,_,_,_,_,_,_,_,_,_,_,_,_,_,_,rfl,_⟩; rfl) _ _ (aK7 (aO1 (aK20 (aK10 (aK9 (aI (aO10 (aO2 aZ)))))))) ⟨_,0,[([]:List (List UInt8×Int))],(.slice (some ⟨b29,0,none⟩) 1 1),ms33,p_2.Kind,(p_2.Params.length:Int),i53,0,[],(.slice none 0 0),[],[],(.slice none 0 0),[],rfl,h,Le.r,hS,(m35.up le57),Rw.nil,Rw.nil⟩ ?_
    rintro n_1 _ t w10 ⟨μ3,i87,l90,v88,ms89,i92,i93,i94,i95,l98,v96,cs97,l102,v100,cs101,rfl,h,le131,hS,m132,m133,m134⟩
    cases n_1 with
    | zero=>cases h
    | succ n_1 =>
    unfold gen_unit_l1 at h
    refine cnrm (mK7 (mO1 (mK20 (mK10 (mK9 (mi (mO10 (mO2 mz)))))))) (nz (st (ny ?_)))
    refine cifd (et (k40 d8)) (fun h135=>?_) (fun h135=>?_)
    ·replace h:=iT h135 h
     refine cskip (xn (cseq (cblock (nz ?_))))
     obtain ⟨x136,g137,h⟩:=bI h
     obtain ⟨b138,o139,cs140,e141,f142,m143⟩:=SlR.elem (m14.up (le57.t le131)) g137
     obtain rfl:=m143
     refine wl (su (u_iax underlying32 ti82 (et (k40 d5)) (et (k40 d7)) e141) (dt (q40 p9)) (lds (f142 _ hS.a) rfl ?_))
     refine wl (s_alloc ti82 hS ?_); clear hS; intro b144 w11 hb145 hS; refine po ?_
     refine wl (s_storeA ti82 (et d7) (et (k50 d0)) rfl rfl hS d0 rfl p0 dn ?_)
     clear hS; intro w12 hS
     refine nw ?_
     refine ccutE (rg 51 8) (by decide) (fun m w=>∃ μx l148 v146 ms147 i150 i151 i152 i153 l156 v154 cs155 l160 v158 cs159,m=(yK50 (yK1 (yO8 51 [])))∧gen_unit_j3 i87 (gen_unit_l1 fu p_1 p_2 n_1) l148 i150 i151 i152 i153 l156 l160=some r∧Le μ3 μx∧Sq μx w0 w (.blk b25 64 [.int .i64 0,.int .i64 0,.slice none 0 0,.int .i64 0,.int .i64 0,.slice none 0 0]::.row v146 50 1 l148.length (cOf ms147)::.blk b31 126 [.pointer (some ⟨b1,o2,none⟩),.int .i64 i150,.int .i64 i151,v154,.int .i64 i152,.int .i64 i153,v158,v146]::.row v154 3 1 l156.length cs155::.row v158 90 3 l160.length cs159::(mRs ms147++rsF))∧Ms μx ms147 l148∧Rw μx cs155 l156∧Rw μx cs159 l160) (by rintro _ _ ⟨_,_,_,_,_,_,_,_,_,_,_,_,_,_,rfl,_⟩; rfl) ?_ ?_
     ·refine cdw hS ?_; clear hS; intro w13 hS
      refine sf_start (fpi 0 [0,7] rfl (fpi 1 [1,2,7] rfl (fr_ 2 [2,7] rfl (u_load ti9 (et (k50 d2)) ((hS.blk d0).cell d0)) (q50 p3) (fpi 3 [3,6,7] rfl (fpi 4 [4,5,6,7] rfl (fr_ 5 [5,6,7] rfl (u_loads ti31 (et (k50 d5)) ((hS.blk d0).cellsAt (Sb.s d1 (Sb.s d2 Sb.z))) rfl) (q50 p6) ?_))))))
      obtain ⟨r162,g163,h⟩:=bI h
      refine sf1 rfl rfl rfl rfl (wn0 rfl) (s_callv isfn30 ef (e1 (et (k50 d4)) (e1 (et (k50 d6)) e0)) (gen_typ_w (hg.t (le57.t le131)) (m4.up (le57.t le131)) (m6.up (le57.t le131)) (m8.up (le57.t le131)) (m9.up (le57.t le131)) g163 hS) ?_)
      rintro _ w14 ⟨μ4,rfl,le164,hS⟩
      refine po ?_
      refine ⟨(Mons.s (u_load ti9 (et (k50 d2)) ((hS.blk d0).cell d0)) Mons.z),?_⟩
      obtain ⟨r165,g166,h⟩:=bI h
      replace hS:=(((hS.bg Y2).bg Y5).bg Y5).bg Y5
      replace hS:=Sep.mOut (a:=[_,_,_,_]) (p:=[_,_]) (M:=mRs ms89) (R:=rsF) hS
      refine sf1 rfl rfl rfl rfl (wn0 rfl) (s_callv isfn44 ef (e1 (et (k50 d1)) (e1 (et (k50 d3)) (e1 (et (k50 d7)) e0))) (gen_local_w (hg.t (le57.t (le131.t le164))) (m4.up (le57.t (le131.t le164))) (m6.up (le57.t (le131.t le164))) (m8.up (le57.t (le131.t le164))) (m9.up (le57.t (le131.t le164))) (m133.up le164) (m134.up le164) (m132.up le164) g166 hS) ?_)
      rintro _ w15 ⟨μ5,v168,cs169,v171,cs172,v174,ms175,rfl,le167,hS,m170,m173,m176⟩
      replace hS:=Sep.mOut (a:=[_,_,_,_]) (p:=mRs ms175) (M:=[_,_]) (R:=rsF) hS
      refine po ?_
      refine ⟨Mons.z,?_⟩
      refine sf_nil (xl ?_)
      replace hS:=(((((hS.drop (Rm.s (Rm.s (Rm.s (Rm.s Rm.z))))).bg Y2).bg Y2).bg Y2).bg Y3).bg Y4
      exact ⟨_,_,rfl,(aK50 (aK1 (aO8 aZ))),_,r165.2.2.2.2.2.2.2,_,_,r165.2.1,r165.2.2.1,r165.2.2.2.2.1,r165.2.2.2.2.2.1,r165.2.2.2.1,_,_,r165.2.2.2.2.2.2.1,_,_,rfl,h,(le164.t le167),hS,m176,m170,m173⟩
     ·rintro _ t w16 ⟨μ6,l148,v146,ms147,i150,i151,i152,i153,l156,v154,cs155,l160,v158,cs159,rfl,h,le177,hS,m178,m179,m180⟩
      unfold gen_unit_j3 at h
      refine nrm (mK50 (mK1 (mO8 mz))) ?_
      refine (fun h=>bn (xn h)) ?_
      refine creg ?_
      obtain ⟨i181,g182,h⟩:=bI h
      refine wl (su (u_addc (et (k40 d7)) ec g182) (dt (q50 p9)) (st (wnil (xl ?_))))
      exact ⟨n_1,_,_,rfl,(aK7 (aO1 (aK20 (aK10 (aK9 (aI (aO10 (aO2 aZ)))))))),⟨_,i181,l148,v146,ms147,i150,i151,i152,i153,l156,v154,cs155,l160,v158,cs159,rfl,h,(le131.t le177),hS,m178,m179,m180⟩,Nat.lt_succ_self _⟩
    ·replace h:=iF h135 h
     refine cexit ?_
     refine (fun h=>xe (xe (bh h))) ?_
     refine xl ?_
     exact ⟨_,_,rfl,(aK7 (aO1 (aK10 (aK5 (aO20 (aO10 (aO7 aZ))))))),_,_,_,_,_,_,_,_,_,_,_,_,_,_,rfl,h,(le57.t le131),hS,m132,m133,m134⟩
  ·replace h:=iF h52 h
   refine cskip (xl ?_)
   replace hS:=hS.nilRow 3 (Mo.sz Int)
   replace hS:=hS.nilRow 90 (Mo.sz TInstr)
   replace hS:=(((hS.bg Y1).bg Y2).bg Y3).bg Y4
   exact ⟨_,_,rfl,(aK7 (aO1 (aK10 (aK5 (aO20 (aO10 (aO7 aZ))))))),_,[([]:List (List UInt8×Int))],(.slice (some ⟨b29,0,none⟩) 1 1),_,p_2.Kind,0,0,0,[],(.slice none 0 0),[],[],(.slice none 0 0),[],rfl,h,Le.r,hS,m35,Rw.nil,Rw.nil⟩
 ·rintro _ t w17 ⟨μ7,l38,v36,ms37,i40,i41,i42,i43,l46,v44,cs45,l50,v48,cs49,rfl,h,le183,hS,m184,m185,m186⟩
  unfold gen_unit_j1 at h
  refine nrm (mK7 (mO1 (mK10 (mK5 (mO20 (mO10 (mO7 mz))))))) (xn (cseq (nz ?_)))
  iterate 3 refine st ?_
  refine ld ((m18 _ (le183 _ hS.a)).one d0) (st (nw ?_))
  refine ccutE (rg 65 10) (by decide) (fun m w=>∃ μx i187,m=(yK50 (yK10 (yK5 (yO10 65 []))))∧gen_unit_j4 fu p_1 p_2 l38 i40 i41 i42 l46 l50 i187=some r∧Le μ7 μx∧Sq μx w0 w (.blk b25 64 [.int .i64 0,.int .i64 0,.slice none 0 0,.int .i64 0,.int .i64 0,.slice none 0 0]::.row v36 50 1 l38.length (cOf ms37)::.blk b31 126 [.pointer (some ⟨b1,o2,none⟩),.int .i64 i40,.int .i64 i41,v44,.int .i64 i42,.int .i64 i187,v48,v36]::.row v44 3 1 l46.length cs45::.row v48 90 3 l50.length cs49::(mRs ms37++rsF))) (by rintro _ _ ⟨_,_,rfl,_⟩; rfl) ?_ ?_
  ·refine cifd (et (k60 d4)) (fun h188=>?_) (fun h188=>?_)
   ·replace h:=iT h188 h
    refine creg ?_
    iterate 5 refine st ?_
    refine lds ((m18 _ (le183 _ hS.a)).sb 4 2) rfl ?_
    obtain ⟨r189,g190,h⟩:=bI h
    refine ca (gen_typ_w (hg.t le183) (m4.up le183) (m6.up le183) (m8.up le183) (m9.up le183) g190 hS) ?_
    rintro _ w18 ⟨μ8,rfl,le191,hS⟩
    refine po ?_
    iterate 3 refine st ?_
    refine wl (s_store1 ti3 (et (k70 d4)) (et (k70 d1)) rfl hS d2 p5 rfl p2 dn ?_)
    clear hS; intro w19 hS
    refine wnil (xl ?_)
    exact ⟨_,_,rfl,(aK50 (aK10 (aK5 (aO10 aZ)))),_,_,rfl,h,le191,hS⟩
   ·replace h:=iF h188 h
    refine cskip (xl ?_)
    exact ⟨_,_,rfl,(aK50 (aK10 (aK5 (aO10 aZ)))),_,_,rfl,h,Le.r,hS⟩
  ·rintro _ t w20 ⟨μ9,i187,rfl,h,le192,hS⟩
   unfold gen_unit_j4 at h
   refine nrm (mK50 (mK10 (mK5 (mO10 mz)))) (xn (nz ?_))
   iterate 4 refine st ?_
   refine ld ((m18 _ ((le183.t le192) _ hS.a)).one d8) ?_
   obtain ⟨r193,g194,h⟩:=bI h
   replace hS:=(((hS.bg Y1).bg Y4).bg Y4).bg Y4
   replace hS:=Sep.mOut (a:=[_,_,_,_]) (p:=[_]) (M:=mRs ms37) (R:=rsF) hS
   refine ca ((GenS_sound fu).gen_body (hg.t (le183.t le192)) (m4.up (le183.t le192)) (m6.up (le183.t le192)) (m8.up (le183.t le192)) (m9.up (le183.t le192)) (m185.up le192) (m186.up le192) (m184.up le192) (m17.up (le183.t le192)) g194 hS) ?_
   rintro _ w21 ⟨μ10,v196,cs197,v199,cs200,v202,ms203,rfl,le195,hS,m198,m201,m204⟩
   replace hS:=Sep.mOut (a:=[_,_,_,_]) (p:=mRs ms203) (M:=[_]) (R:=rsF) hS
   refine po (ny (nz ?_))
   iterate 3 refine st ?_
   refine ld ((m18 _ ((le183.t (le192.t le195)) _ hS.a)).one d0) (st (nw ?_))
   refine cifd (et (k80 d5)) (fun h205=>?_) (fun h205=>?_)
   ·replace h:=iT h205 h
    refine nz (st ?_)
    obtain ⟨r206,g207,h⟩:=bI h
    replace hS:=(((hS.bg Y3).bg Y3).bg Y3).bg Y3
    replace hS:=Sep.mOut (a:=[_,_,_,_]) (p:=[_]) (M:=mRs ms203) (R:=rsF) hS
    refine ca (gen_put_w (hg.t (le183.t (le192.t le195))) (m4.up (le183.t (le192.t le195))) (m6.up (le183.t (le192.t le195))) (m8.up (le183.t (le192.t le195))) (m9.up (le183.t (le192.t le195))) m198 m201 m204 g207 hS) ?_
    rintro _ w22 ⟨μ11,v209,cs210,v212,cs213,v215,ms216,rfl,le208,hS,m211,m214,m217⟩
    replace hS:=Sep.mOut (a:=[_,_,_,_]) (p:=mRs ms216) (M:=[_]) (R:=rsF) hS
    refine po (nx ?_)
    iterate 3 refine st ?_
    refine lds ((hS.blk d0).cellsAt (Sb.s d1 (Sb.s d2 (Sb.s d3 (Sb.s d4 (Sb.s d5 (Sb.s d6 Sb.z))))))) rfl (wl (s_storeA ti64 (et d4) (et (k90 d1)) rfl (cv_s rfl (cv_s rfl (cv_s ((hS.get d1).cellV) (cv_s rfl (cv_s rfl (cv_s ((hS.get d2).cellV) cv_z)))))) hS d4 rfl p4 dn ?_))
    clear hS; intro w23 hS
    refine nw (cret (xr ?_))
    replace hS:=hS.bg Y1
    obtain ⟨μ12,a218,c219,e222,le221,m220,hq_⟩:=Sep.frzRow hS m211 rfl; clear hS
    subst e222; have hS:=hq_; clear hq_
    replace hS:=hS.bg Y1
    obtain ⟨μ13,a223,c224,e227,le226,m225,hq_⟩:=Sep.frzRow hS (m214.up le221) rfl; clear hS
    subst e227; have hS:=hq_; clear hq_
    obtain rfl:=oI h
    refine retN rfl (RVs.s (.a d4 ti64 (hS.blk d2).cells rfl) RVs.z) ?_
    replace hS:=((hS.drop Rm.z).drop Rm.z).drop Rm.z
    replace hS:=hS.popM (pre:=[]) (j:=0)
    exact ⟨_,_,_,_,_,rfl,(le183.t (le192.t (le195.t (le208.t (le221.t le226))))),hS,(m220.up le226),m225⟩
   ·replace h:=iF h205 h
    refine cskip (xn (cseq (nz ?_)))
    iterate 4 refine st ?_
    refine ld ((hS.blk d0).cell d4) (st (nw ?_))
    refine ccutE (rg 98 4) (by decide) (fun m w=>∃ μx l230 v228 ms229 i232 i233 i234 i235 l238 v236 cs237 l242 v240 cs241,m=(yK50 (yK20 (yK20 (yK8 (yO4 98 [])))))∧gen_unit_j5 p_1 l230 i232 i233 i234 i235 l238 l242=some r∧Le μ10 μx∧Sq μx w0 w (.blk b25 64 [.int .i64 0,.int .i64 0,.slice none 0 0,.int .i64 0,.int .i64 0,.slice none 0 0]::.row v228 50 1 l230.length (cOf ms229)::.blk b31 126 [.pointer (some ⟨b1,o2,none⟩),.int .i64 i232,.int .i64 i233,v236,.int .i64 i234,.int .i64 i235,v240,v228]::.row v236 3 1 l238.length cs237::.row v240 90 3 l242.length cs241::(mRs ms229++rsF))∧Ms μx ms229 l230∧Rw μx cs237 l238∧Rw μx cs241 l242) (by rintro _ _ ⟨_,_,_,_,_,_,_,_,_,_,_,_,_,_,rfl,_⟩; rfl) ?_ ?_
    ·refine cifd (et (k90 d7)) (fun h244=>?_) (fun h244=>?_)
     ·replace h:=iT h244 h
      refine creg (st ?_)
      obtain ⟨r245,g246,h⟩:=bI h
      replace hS:=(((hS.bg Y3).bg Y3).bg Y3).bg Y3
      replace hS:=Sep.mOut (a:=[_,_,_,_]) (p:=[_]) (M:=mRs ms203) (R:=rsF) hS
      refine ca (gen_put_w (hg.t (le183.t (le192.t le195))) (m4.up (le183.t (le192.t le195))) (m6.up (le183.t (le192.t le195))) (m8.up (le183.t (le192.t le195))) (m9.up (le183.t (le192.t le195))) m198 m201 m204 g246 hS) ?_
      rintro _ w24 ⟨μ14,v248,cs249,v251,cs252,v254,ms255,rfl,le247,hS,m250,m253,m256⟩
      replace hS:=Sep.mOut (a:=[_,_,_,_]) (p:=mRs ms255) (M:=[_]) (R:=rsF) hS
      refine po (wnil (xl ?_))
      replace hS:=((((hS.bg Y2).bg Y2).bg Y2).bg Y3).bg Y4
      exact ⟨_,_,rfl,(aK50 (aK20 (aK20 (aK8 (aO4 aZ))))),_,r245.2.2.2.2.2.2.2,_,_,r245.2.1,r245.2.2.1,r245.2.2.2.2.1,r245.2.2.2.2.2.1,r245.2.2.2.1,_,_,r245.2.2.2.2.2.2.1,_,_,rfl,h,le247,hS,m256,m250,m253⟩
     ·replace h:=iF h244 h
      refine creg (st ?_)
      obtain ⟨r257,g258,h⟩:=bI h
      replace hS:=(((hS.bg Y3).bg Y3).bg Y3).bg Y3
      replace hS:=Sep.mOut (a:=[_,_,_,_]) (p:=[_]) (M:=mRs ms203) (R:=rsF) hS
      refine ca (gen_put_w (hg.t (le183.t (le192.t le195))) (m4.up (le183.t (le192.t le195))) (m6.up (le183.t (le192.t le195))) (m8.up (le183.t (le192.t le195))) (m9.up (le183.t (le192.t le195))) m198 m201 m204 g258 hS) ?_
      rintro _ w25 ⟨μ15,v260,cs261,v263,cs264,v266,ms267,rfl,le259,hS,m262,m265,m268⟩
      replace hS:=Sep.mOut (a:=[_,_,_,_]) (p:=mRs ms267) (M:=[_]) (R:=rsF) hS
      refine po (wnil (xl ?_))
      replace hS:=((((hS.bg Y2).bg Y2).bg Y2).bg Y3).bg Y4
      exact ⟨_,_,rfl,(aK50 (aK20 (aK20 (aK8 (aO4 aZ))))),_,r257.2.2.2.2.2.2.2,_,_,r257.2.1,r257.2.2.1,r257.2.2.2.2.1,r257.2.2.2.2.2.1,r257.2.2.2.1,_,_,r257.2.2.2.2.2.2.1,_,_,rfl,h,le259,hS,m268,m262,m265⟩
    ·rintro _ t w26 ⟨μ16,l230,v228,ms229,i232,i233,i234,i235,l238,v236,cs237,l242,v240,cs241,rfl,h,le269,hS,m270,m271,m272⟩
     unfold gen_unit_j5 at h
     refine nrm (mK50 (mK20 (mK20 (mK8 (mO4 mz))))) (xn (nz (st ?_)))
     obtain ⟨r273,g274,h⟩:=bI h
     replace hS:=(((hS.bg Y1).bg Y4).bg Y4).bg Y4
     replace hS:=Sep.mOut (a:=[_,_,_,_]) (p:=[_]) (M:=mRs ms229) (R:=rsF) hS
     refine ca (gen_put_w (hg.t (le183.t (le192.t (le195.t le269)))) (m4.up (le183.t (le192.t (le195.t le269)))) (m6.up (le183.t (le192.t (le195.t le269)))) (m8.up (le183.t (le192.t (le195.t le269)))) (m9.up (le183.t (le192.t (le195.t le269)))) m271 m272 m270 g274 hS) ?_
     rintro _ w27 ⟨μ17,v276,cs277,v279,cs280,v282,ms283,rfl,le275,hS,m278,m281,m284⟩
     replace hS:=Sep.mOut (a:=[_,_,_,_]) (p:=mRs ms283) (M:=[_]) (R:=rsF) hS
     refine po (nx ?_)
     iterate 3 refine st ?_
     refine lds ((hS.blk d0).cellsAt (Sb.s d1 (Sb.s d2 (Sb.s d3 (Sb.s d4 (Sb.s d5 (Sb.s d6 Sb.z))))))) rfl (wl (s_storeA ti64 (et d4) (et (k100 d7)) rfl (cv_s rfl (cv_s rfl (cv_s ((hS.get d1).cellV) (cv_s rfl (cv_s rfl (cv_s ((hS.get d2).cellV) cv_z)))))) hS d4 rfl p4 dn ?_))
     clear hS; intro w28 hS
     refine nw (cret ?_)
     replace hS:=hS.bg Y1
     obtain ⟨μ18,a285,c286,e289,le288,m287,hq_⟩:=Sep.frzRow hS m278 rfl; clear hS
     subst e289; have hS:=hq_; clear hq_
     replace hS:=hS.bg Y1
     obtain ⟨μ19,a290,c291,e294,le293,m292,hq_⟩:=Sep.frzRow hS (m281.up le288) rfl; clear hS
     subst e294; have hS:=hq_; clear hq_
     obtain rfl:=oI h
     refine retN rfl (RVs.s (.a d4 ti64 (hS.blk d2).cells rfl) RVs.z) ?_
     replace hS:=((hS.drop Rm.z).drop Rm.z).drop Rm.z
     replace hS:=hS.popM (pre:=[]) (j:=0)
     exact ⟨_,_,_,_,_,rfl,(le183.t (le192.t (le195.t (le269.t (le275.t (le288.t le293)))))),hS,(m287.up le293),m292⟩
theorem gen_compile_w (hg:Le Gm μ0) {p_1:List TDef} {r:TModule×TFault} (m3:Sl μ0 a1 c2 p_1) (h:gen_compile fu p_1=some r) (hS:Sq μ0 w0 w (rsF)):CallsV prog 17 [.slice a1 p_1.length c2] w (fun v w'=>∃ (μ':M) (a4:Option Addr) (c5:Nat) (a7:Option Addr) (c8:Nat),v=.tuple ⟨[.agg ⟨[.slice a4 r.1.Boxes.length c5,.slice a7 r.1.Units.length c8]⟩,.agg ⟨[.int .i64 r.2.Err,.int .i64 r.2.At]⟩]⟩∧Le μ0 μ'∧Sq μ' w0 w' (rsF)∧Sl μ' a4 c5 r.1.Boxes∧Sl μ' a7 c8 r.1.Units):=by
 unfold gen_compile at h
 refine enter func17 rfl (frm:=_::u2 (u2 (u5 (u20 (u50 (u50 [])))))) rfl (nz ?_)
 refine wl (s_alloc ti56 hS ?_); clear hS; intro b10 w1 hb11 hS; refine po ?_
 refine wl (s_alloc ti27 hS ?_); clear hS; intro b12 w2 hb13 hS; refine po ?_
 refine ny (nz (st ?_))
 obtain ⟨r14,g15,h⟩:=bI h
 refine ca (sema_check_w hg m3 g15 hS) ?_
 rintro _ w3 ⟨μ1,rfl,le16,hS⟩
 refine po ?_
 refine wl (s_alloc ti27 hS ?_); clear hS; intro b17 w4 hb18 hS; refine po ?_
 refine wl (s_storeA ti27 (et d4) (et (k10 d1)) rfl rfl hS d0 rfl p0 dn ?_)
 clear hS; intro w5 hS
 refine nx (st (ld ((hS.blk d0).cell d0) (st (nw ?_))))
 refine cifd (et (k10 d4)) (fun h19=>?_) (fun h19=>?_)
 ·replace h:=iT h19 h
  refine cseq ?_
  refine ccutE (rg 15 2) (by decide) (fun m w=>∃ (μx:M) ,m=(yK10 (yK5 (yO2 15 [])))∧gen_compile_j1 r14 =some r∧Le μ1 μx∧Sq μx w0 w (.blk b10 56 [.slice none 0 0,.slice none 0 0]::.blk b12 27 [.int .i64 r14.Err,.int .i64 r14.At]::rsF)) (by rintro _ _ ⟨_,rfl,_⟩; rfl) ?_ ?_
  ·refine cdw hS ?_; clear hS; intro w6 hS
   refine sf_start (fp 0 [0,2,3] rfl (u_build ti56 pl56 Fl.z) (q10 p5) (fr_ 1 [1,3] rfl (u_loads ti27 (et d4) (hS.blk d0).cells rfl) (q10 p6) (sf1 rfl rfl rfl rfl (wn0 rfl) (s_storeA ti56 (et d2) (et (k10 d5)) rfl rfl hS d2 rfl p2 dn ?_))))
   clear hS; intro w7 hS
   refine ⟨(Mons.s (u_loads ti27 (et d4) (hS.blk d0).cells rfl) Mons.z),?_⟩
   refine sf1 rfl rfl rfl rfl (wn0 rfl) (s_storeA ti27 (et d3) (et (k10 d6)) rfl rfl hS d1 rfl p1 dn ?_)
   clear hS; intro w8 hS
   refine ⟨Mons.z,?_⟩
   refine sf_nil (xl ?_)
   replace hS:=(hS.drop Rm.z).bg Y1
   exact ⟨_,_,rfl,(aK10 (aK5 (aO2 aZ))),_,rfl,h,Le.r,hS⟩
  ·rintro _ t w9 ⟨μ2,rfl,h,le20,hS⟩
   unfold gen_compile_j1 at h
   refine nrm (mK10 (mK5 (mO2 mz))) (xn (cret (xr ?_)))
   obtain rfl:=oI h
   refine retN rfl (RVs.s (.a d2 ti56 (hS.blk d0).cells rfl) (RVs.s (.a d3 ti27 (hS.blk d1).cells rfl) RVs.z)) ?_
   replace hS:=(hS.drop Rm.z).drop Rm.z
   exact ⟨_,none,0,none,0,rfl,(le16.t le20),hS,Sl.nil,Sl.nil⟩
 ·replace h:=iF h19 h
  refine cskip (xn (nz ?_))
  refine wl (s_mkmap hS ?_); clear hS; intro b21 w10 hb22 hS; refine po ?_
  refine wl (s_mkmap hS ?_); clear hS; intro b23 w11 hb24 hS; refine po ?_
  refine wl (s_mkmap hS ?_); clear hS; intro b25 w12 hb26 hS; refine po ?_
  refine wl (s_build ti94 pl94 (Fl.o rfl (et (k10 d7)) rfl rfl p0 (Fl.o rfl (et (k10 d8)) rfl rfl p1 (Fl.o rfl (et (k10 d9)) rfl rfl p2 Fl.z))) (dt (q20 p0)) ?_)
  refine wl (s_box (et (k20 d0)) rfl hS ?_); clear hS; intro b27 w13 hb28 hS; refine po ?_
  refine st (nx ?_)
  refine wl (s_alloc ti56 hS ?_); clear hS; intro b29 w14 hb30 hS; refine po ?_
  refine ny (nz (st (wl (su (u_lensl underlying22 (et (k20 d2))) (dt (q20 p3)) (st (nw (cblock ?_)))))))
  replace hS:=hS.nilRow 60 (Mo.sz TBi)
  replace hS:=(((((((hS.drop (Rm.s (Rm.s (Rm.s (Rm.s (Rm.s (Rm.s Rm.z))))))).bg Y1).bg Y2).bg Y3).bg Y4).bg Y5).bg Y6).bg Y7
  refine cloopE ([7]++rg 25 67) (by decide +kernel) (fun n m w=>∃ μx i163 l166 es164 c165 l170 es168 c169 l174 es172 c173 l178 v176 cs177,m=(yK7 (yO1 7 (yK10 (yK6 (.i (.int .i64 i163)::(yO50 25 (yO10 75 (yO7 85 []))))))))∧gen_compile_l1 fu p_1 n i163 l166 l170 l174 l178=some r∧Le μ1 μx∧Sq μx w0 w (.blk b10 56 [.slice none 0 0,.slice none 0 0]::.blk b12 27 [.int .i64 0,.int .i64 0]::.map b21 es164 c165::.map b23 es168 c169::.map b25 es172 c173::.blk b27 94 [.map (some b21),.map (some b23),.map (some b25)]::.blk b29 56 [v176,.slice none 0 0]::.row v176 60 2 l178.length cs177::rsF)∧Mq μx es164 c165 l166∧Mq μx es168 c169 l170∧Mq μx es172 c173 l174∧Rw μx cs177 l178) (by rintro _ _ _ ⟨_,_,_,_,_,_,_,_,_,_,_,_,_,_,rfl,_⟩; rfl) _ _ (aK7 (aO1 (aK10 (aK6 (aI (aO50 (aO10 (aO7 aZ)))))))) ⟨_,0,([]:List (List UInt8×Int)),[],0,([]:List (List UInt8×Int)),[],0,([]:List (List UInt8×TDef)),[],0,[],(.slice none 0 0),[],rfl,h,Le.r,hS,(Mq.nil (κ:=List UInt8) (β:=Int) (μ:=μ1) (c:=0)),(Mq.nil (κ:=List UInt8) (β:=Int) (μ:=μ1) (c:=0)),(Mq.nil (κ:=List UInt8) (β:=TDef) (μ:=μ1) (c:=0)),Rw.nil⟩ ?_
  rintro n_1 _ t w15 ⟨μ3,i163,l166,es164,c165,l170,es168,c169,l174,es172,c173,l178,v176,cs177,rfl,h,le311,hS,m312,m313,m314,m315⟩
  cases n_1 with
  | zero=>cases h
  | succ n_1 =>
  unfold gen_compile_l1 at h
  refine cnrm (mK7 (mO1 (mK10 (mK6 (mi (mO50 (mO10 (mO7 mz)))))))) (nz (st (ny ?_)))
  refine cifd (et (k20 d5)) (fun h316=>?_) (fun h316=>?_)
  ·replace h:=iT h316 h
   refine cskip (xn (cseq (cblock (nz ?_))))
   iterate 2 refine st ?_
   refine ny ?_
   refine cdw hS ?_; clear hS; intro w16 hS
   refine sf_start (fpi 0 [0,1,2,3,12] rfl (fpi 1 [1,2,3,12] rfl (fpi 2 [2,3,12] rfl (fr_ 3 [3,12] rfl (u_load ti92 (et (k20 d9)) ((hS.blk d5).cell d2)) (q30 p0) (fpi 4 [4,6,7,8,12] rfl (fpi 5 [5,6,7,8,12] rfl ?_))))))
   obtain ⟨x317,g318,h⟩:=bI h
   obtain ⟨b319,o320,cs321,e322,f323,m324⟩:=SlR.elem (m3.up (le16.t le311)) g318
   obtain ⟨a325,c326,a328,c329,rfl,m327,m330⟩:=m324
   refine fp 6 [6,7,8,12] rfl (u_iax underlying22 ti35 (et (k30 d1)) (et (k30 d2)) e322) (q30 p3) (fpi 7 [7,8,12] rfl (fr_ 8 [8,12] rfl (u_load ti9 (et (k30 d4)) ((f323 _ hS.a).one d1)) (q30 p5) (fpi 9 [9,11,12] rfl (fpi 10 [10,11,12] rfl ?_))))
   obtain ⟨x331,g332,h⟩:=bI h
   obtain ⟨b333,o334,cs335,e336,f337,m338⟩:=SlR.elem (m3.up (le16.t le311)) g332
   obtain ⟨a339,c340,a342,c343,rfl,m341,m344⟩:=m338
   refine fp 11 [11,12] rfl (u_iax underlying22 ti35 (et (k30 d6)) (et (k30 d7)) e336) (q30 p8) ?_
   refine sf1 rfl rfl rfl rfl (wn0 rfl) (s_mputM (κ:=List UInt8) (β:=TDef) (kk:=x317.Name) (xx:=x331) underlying92 underlying9 (et (k30 d0)) (et (k30 d5)) (et (k30 d8)) ⟨_,_,_,rfl,f337,(TDef.i ⟨a339,c340,a342,c343,rfl,m341,m344⟩)⟩ hS d4 m314 dn ?_); clear hS; intro es345 c346 w17 rs_ m347 hp_ hS; cases (show _=rs_ from hp_)
   replace hS:=Sep.reput hS p4
   refine ⟨Mons.z,?_⟩
   refine sf_nil (xn (nz ?_))
   iterate 2 refine st ?_
   obtain ⟨x348,g349,h⟩:=bI h
   obtain ⟨b350,o351,cs352,e353,f354,m355⟩:=SlR.elem (m3.up (le16.t le311)) g349
   obtain ⟨a356,c357,a359,c360,rfl,m358,m361⟩:=m355
   refine wl (su (u_iax underlying22 ti35 (et (k30 d9)) (et (k40 d0)) e353) (dt (q40 p1)) (st (ld ((f354 _ hS.a).one d0) (st (nw ?_)))))
   refine cifd (et (k40 d4)) (fun h362=>?_) (fun h362=>?_)
   ·replace h:=iT h362 h
    refine cseq ?_
    refine ccutE (rg 45 14) (by decide) (fun m w=>∃ μx l365 es363 c364,m=(yK20 (yK20 (yK5 (yO10 45 (yO4 55 [])))))∧gen_compile_j2 p_1 i163 l170 l174 l178 x317 x331 (gen_compile_l1 fu p_1 n_1) l365=some r∧Le μ3 μx∧Sq μx w0 w (.blk b10 56 [.slice none 0 0,.slice none 0 0]::.blk b12 27 [.int .i64 0,.int .i64 0]::.map b21 es363 c364::.map b23 es168 c169::.map b25 es345 c346::.blk b27 94 [.map (some b21),.map (some b23),.map (some b25)]::.blk b29 56 [v176,.slice none 0 0]::.row v176 60 2 l178.length cs177::rsF)∧Mq μx es363 c364 l365) (by rintro _ _ ⟨_,_,_,_,rfl,_⟩; rfl) ?_ ?_
    ·refine cdw hS ?_; clear hS; intro w18 hS
     refine sf_start (fpi 0 [0,1,2,3,14] rfl (fpi 1 [1,2,3,14] rfl (fpi 2 [2,3,14] rfl (fr_ 3 [3,14] rfl (u_load ti50 (et (k40 d7)) ((hS.blk d5).cell d0)) (q40 p8) (fpi 4 [4,6,7,8,14] rfl (fpi 5 [5,6,7,8,14] rfl ?_))))))
     obtain ⟨x367,g368,h⟩:=bI h
     obtain ⟨b369,o370,cs371,e372,f373,m374⟩:=SlR.elem (m3.up (le16.t le311)) g368
     obtain ⟨a375,c376,a378,c379,rfl,m377,m380⟩:=m374
     refine fp 6 [6,7,8,14] rfl (u_iax underlying22 ti35 (et (k40 d9)) (et (k50 d0)) e372) (q50 p1) (fpi 7 [7,8,14] rfl (fr_ 8 [8,14] rfl (u_load ti9 (et (k50 d2)) ((f373 _ hS.a).one d1)) (q50 p3) (fpi 9 [9,10,11,12,13,14] rfl (fpi 10 [10,11,12,13,14] rfl (fpi 11 [11,12,13,14] rfl (fr_ 12 [12,13,14] rfl (u_load ti50 (et (k50 d6)) ((hS.blk d5).cell d0)) (q50 p7) (sf1 rfl rfl rfl rfl (wn0 rfl) (s_lenm underlying50 (et (k50 d7)) (hS.get d2) m312 (dt (q50 p8)) ?_))))))))
     refine ⟨(Mons.s (u_load ti9 (et (k50 d2)) ((f373 _ hS.a).one d1)) (Mons.s (u_load ti50 (et (k40 d7)) ((hS.blk d5).cell d0)) Mons.z)),?_⟩
     refine sf1 rfl rfl rfl rfl (wn0 rfl) (s_mputM (κ:=List UInt8) (β:=Int) (kk:=x367.Name) (xx:=(l166.length:Int)) underlying50 underlying9 (et (k40 d8)) (et (k50 d3)) (et (k50 d8)) rfl hS d2 m312 dn ?_); clear hS; intro es381 c382 w19 rs_ m383 hp_ hS; cases (show _=rs_ from hp_)
     replace hS:=Sep.reput hS p2
     refine ⟨Mons.z,?_⟩
     refine sf_nil (xl ?_)
     exact ⟨_,_,rfl,(aK20 (aK20 (aK5 (aO10 (aO4 aZ))))),_,(mput l166 x367.Name (l166.length:Int)),es381,_,rfl,h,Le.r,hS,m383⟩
    ·rintro _ t w20 ⟨μ4,l365,es363,c364,rfl,h,le384,hS,m385⟩
     unfold gen_compile_j2 at h
     refine nrm (mK20 (mK20 (mK5 (mO10 (mO4 mz))))) (xn ?_)
     refine ccutE (rg 59 18) (by decide) (fun m w=>∃ μx l388 v386 cs387,m=(yK50 (yK9 (yO10 59 (yO8 69 []))))∧gen_compile_j3 i163 l170 l174 x317 x331 l365 (gen_compile_l1 fu p_1 n_1) l388=some r∧Le μ4 μx∧Sq μx w0 w (.blk b10 56 [.slice none 0 0,.slice none 0 0]::.blk b12 27 [.int .i64 0,.int .i64 0]::.map b21 es363 c364::.map b23 es168 c169::.map b25 es345 c346::.blk b27 94 [.map (some b21),.map (some b23),.map (some b25)]::.blk b29 56 [v386,.slice none 0 0]::.row v386 60 2 l388.length cs387::rsF)∧Rw μx cs387 l388) (by rintro _ _ ⟨_,_,_,_,rfl,_⟩; rfl) ?_ ?_
     ·refine cdw hS ?_; clear hS; intro w21 hS
      refine sf_start (fpi 0 [0,1,16,17,18] rfl (fr_ 1 [1,16,17,18] rfl (u_load ti53 (et (k50 d9)) ((hS.blk d6).cell d0)) (q60 p0) (fpi 2 [2,8,14,15,16,17,18] rfl (fpi 3 [3,5,6,7,8,14,15,16,17,18] rfl (fpi 4 [4,5,6,7,8,14,15,16,17,18] rfl ?_)))))
      obtain ⟨x390,g391,h⟩:=bI h
      obtain ⟨b392,o393,cs394,e395,f396,m397⟩:=SlR.elem (m3.up (le16.t (le311.t le384))) g391
      obtain ⟨a398,c399,a401,c402,rfl,m400,m403⟩:=m397
      refine fp 5 [5,6,7,8,14,15,16,17,18] rfl (u_iax underlying22 ti35 (et (k60 d2)) (et (k60 d3)) e395) (q60 p4) (fpi 6 [6,7,8,14,15,16,17,18] rfl (fr_ 7 [7,8,14,15,16,17,18] rfl (u_loads ti31 (et (k60 d5)) ((f396 _ hS.a).sb 2 2) rfl) (q60 p6) (fpi 9 [9,11,12,13,14,15,16,17,18] rfl (fpi 10 [10,11,12,13,14,15,16,17,18] rfl ?_))))
      obtain ⟨x404,g405,h⟩:=bI h
      obtain ⟨b406,o407,cs408,e409,f410,m411⟩:=SlR.elem (m3.up (le16.t (le311.t le384))) g405
      obtain ⟨a412,c413,a415,c416,rfl,m414,m417⟩:=m411
      refine fp 11 [11,12,13,14,15,16,17,18] rfl (u_iax underlying22 ti35 (et (k60 d8)) (et (k60 d9)) e409) (q70 p0) (fpi 12 [12,13,14,15,16,17,18] rfl (fr_ 13 [13,14,15,16,17,18] rfl (u_load ti3 (et (k70 d1)) ((f410 _ hS.a).one d6)) (q70 p2) ?_))
      obtain ⟨r418,g419,h⟩:=bI h
      replace hS:=(((hS.bg Y4).bg Y4).bg Y4).bg Y5
      refine sf1 rfl rfl rfl rfl (wn0 rfl) (s_callv isfn30 ef (e1 (et (k60 d1)) (e1 (et (k60 d6)) e0)) (gen_typo_w (hg.t (le16.t (le311.t le384))) m385 (m313.up le384) (m347.up le384) g419 hS) ?_)
      rintro _ w22 ⟨μ5,rfl,le420,hS⟩
      refine po ?_
      refine ⟨(Mons.s (u_load ti3 (et (k70 d1)) ((f410 _ (le420 _ hS.a)).one d6)) (Mons.s (u_load ti53 (et (k50 d9)) ((hS.blk d6).cell d0)) Mons.z)),?_⟩
      refine fp 14 [14,15,16,17,18] rfl (u_build ti60 pl60 (Fl.o rfl (et (k60 d7)) rfl rfl p0 (Fl.o rfl (et (k70 d2)) rfl rfl p1 Fl.z))) (q70 p3) ?_
      refine sf1 rfl rfl rfl rfl (wn0 rfl) (s_bsl1 underlying53 ti60 rfl (et (k70 d3)) rfl hS ?_); clear hS; intro b421 w23 hb422 hS; refine po ?_
      refine ⟨(Mons.s (u_load ti53 (et (k50 d9)) ((hS.blk d7).cell d0)) Mons.z),?_⟩
      obtain ⟨l425,g426,h⟩:=bI h
      have m427:Rw μ5 [.int .i64 r418,.int .i64 x404.Cap] [(TBi.mk r418 x404.Cap)]:=(Rw.one (α:=TBi) rfl)
      have m424:=Rw.app (m315.up (le384.t le420)) m427 g426
      refine sf1 rfl rfl rfl rfl (wn0 rfl) (s_app1 underlying53 ti60 rfl (et (k60 d0)) (et (k70 d4)) hS d8 (hS.blk d0).cells m427 rfl g426 (by decide) ?_); clear hS; intro v423 w24 rs_ hp_ hS; cases (show _=rs_ from hp_)
      replace hS:=Sep.reput hS p8; refine po ?_
      replace hS:=hS.drop Rm.z
      refine ⟨Mons.z,?_⟩
      refine fpi 17 [17,18] rfl (sf1 rfl rfl rfl rfl (wn0 rfl) (s_store1 ti53 (et (k70 d6)) (et (k70 d5)) (hS.get d7).cellV hS d6 p0 rfl p6 dn ?_))
      clear hS; intro w25 hS
      refine ⟨Mons.z,?_⟩
      refine sf_nil (xl ?_)
      replace hS:=(((((((hS.bg Y7).bg Y7).bg Y2).bg Y5).bg Y5).bg Y5).bg Y7).bg Y7
      exact ⟨_,_,rfl,(aK50 (aK9 (aO10 (aO8 aZ)))),_,_,_,(cs177++[.int .i64 r418,.int .i64 x404.Cap]),rfl,h,le420,hS,m424⟩
     ·rintro _ t w26 ⟨μ6,l388,v386,cs387,rfl,h,le428,hS,m429⟩
      unfold gen_compile_j3 at h
      refine nrm (mK50 (mK9 (mO10 (mO8 mz)))) ?_
      refine (fun h=>bn (xn h)) ?_
      refine creg ?_
      obtain ⟨i430,g431,h⟩:=bI h
      refine wl (su (u_addc (et (k20 d4)) ec g431) (dt (q90 p1)) (st (wnil (xl ?_))))
      exact ⟨n_1,_,_,rfl,(aK7 (aO1 (aK10 (aK6 (aI (aO50 (aO10 (aO7 aZ)))))))),⟨_,i430,l365,es363,c364,l170,es168,c169,(mput l174 x317.Name x331),es345,c346,l388,v386,cs387,rfl,h,(le311.t (le384.t le428)),hS,(m385.up le428),(m313.up (le384.t le428)),(m347.up (le384.t le428)),m429⟩,Nat.lt_succ_self _⟩
   ·replace h:=iF h362 h
    refine ccutE (rg 77 14) (by decide) (fun m w=>∃ μx l434 es432 c433,m=(yK50 (yK20 (yK7 (yO10 77 (yO4 87 [])))))∧gen_compile_j4 i163 l166 l174 l178 x317 x331 (gen_compile_l1 fu p_1 n_1) l434=some r∧Le μ3 μx∧Sq μx w0 w (.blk b10 56 [.slice none 0 0,.slice none 0 0]::.blk b12 27 [.int .i64 0,.int .i64 0]::.map b21 es164 c165::.map b23 es432 c433::.map b25 es345 c346::.blk b27 94 [.map (some b21),.map (some b23),.map (some b25)]::.blk b29 56 [v176,.slice none 0 0]::.row v176 60 2 l178.length cs177::rsF)∧Mq μx es432 c433 l434) (by rintro _ _ ⟨_,_,_,_,rfl,_⟩; rfl) ?_ ?_
    ·refine cdw hS ?_; clear hS; intro w27 hS
     refine sf_start (fpi 0 [0,1,2,3,14] rfl (fpi 1 [1,2,3,14] rfl (fpi 2 [2,3,14] rfl (fr_ 3 [3,14] rfl (u_load ti50 (et (k70 d9)) ((hS.blk d5).cell d1)) (q80 p0) (fpi 4 [4,6,7,8,14] rfl (fpi 5 [5,6,7,8,14] rfl ?_))))))
     obtain ⟨x436,g437,h⟩:=bI h
     obtain ⟨b438,o439,cs440,e441,f442,m443⟩:=SlR.elem (m3.up (le16.t le311)) g437
     obtain ⟨a444,c445,a447,c448,rfl,m446,m449⟩:=m443
     refine fp 6 [6,7,8,14] rfl (u_iax underlying22 ti35 (et (k80 d1)) (et (k80 d2)) e441) (q80 p3) (fpi 7 [7,8,14] rfl (fr_ 8 [8,14] rfl (u_load ti9 (et (k80 d4)) ((f442 _ hS.a).one d1)) (q80 p5) (fpi 9 [9,10,11,12,13,14] rfl (fpi 10 [10,11,12,13,14] rfl (fpi 11 [11,12,13,14] rfl (fr_ 12 [12,13,14] rfl (u_load ti50 (et (k80 d8)) ((hS.blk d5).cell d1)) (q80 p9) (sf1 rfl rfl rfl rfl (wn0 rfl) (s_lenm underlying50 (et (k80 d9)) (hS.get d3) m313 (dt (q90 p0)) ?_))))))))
     refine ⟨(Mons.s (u_load ti9 (et (k80 d4)) ((f442 _ hS.a).one d1)) (Mons.s (u_load ti50 (et (k70 d9)) ((hS.blk d5).cell d1)) Mons.z)),?_⟩
     refine sf1 rfl rfl rfl rfl (wn0 rfl) (s_mputM (κ:=List UInt8) (β:=Int) (kk:=x436.Name) (xx:=(l170.length:Int)) underlying50 underlying9 (et (k80 d0)) (et (k80 d5)) (et (k90 d0)) rfl hS d3 m313 dn ?_); clear hS; intro es450 c451 w28 rs_ m452 hp_ hS; cases (show _=rs_ from hp_)
     replace hS:=Sep.reput hS p3
     refine ⟨Mons.z,?_⟩
     refine sf_nil (xl ?_)
     exact ⟨_,_,rfl,(aK50 (aK20 (aK7 (aO10 (aO4 aZ))))),_,(mput l170 x436.Name (l170.length:Int)),es450,_,rfl,h,Le.r,hS,m452⟩
    ·rintro _ t w29 ⟨μ7,l434,es432,c433,rfl,h,le453,hS,m454⟩
     unfold gen_compile_j4 at h
     refine nrm (mK50 (mK20 (mK7 (mO10 (mO4 mz))))) ?_
     refine (fun h=>bn (xn h)) ?_
     refine creg ?_
     obtain ⟨i455,g456,h⟩:=bI h
     refine wl (su (u_addc (et (k20 d4)) ec g456) (dt (q90 p1)) (st (wnil (xl ?_))))
     exact ⟨n_1,_,_,rfl,(aK7 (aO1 (aK10 (aK6 (aI (aO50 (aO10 (aO7 aZ)))))))),⟨_,i455,l166,es164,c165,l434,es432,c433,(mput l174 x317.Name x331),es345,c346,l178,v176,cs177,rfl,h,(le311.t le453),hS,(m312.up le453),m454,(m347.up le453),(m315.up le453)⟩,Nat.lt_succ_self _⟩
  ·replace h:=iF h316 h
   refine cexit ?_
   refine (fun h=>xe (xe (bh h))) ?_
   refine xn (cseq (nz (st (wl (su (u_lensl underlying22 (et (k90 d2))) (dt (q90 p3)) (st (nw (cblock ?_))))))))
   replace hS:=hS.bg Y2
   obtain ⟨μ8,le458,m457,hS⟩:=Sep.frzMap hS m312
   replace hS:=hS.bg Y2
   obtain ⟨μ9,le460,m459,hS⟩:=Sep.frzMap hS (m313.up le458)
   replace hS:=hS.bg Y2
   obtain ⟨μ10,le462,m461,hS⟩:=Sep.frzMap hS (m314.up (le458.t le460))
   replace hS:=hS.bg Y2
   obtain ⟨μ11,le464,m463,hS⟩:=Sep.frzAt hS
   replace hS:=hS.nilRow 64 (Mo.sz TUnit)
   replace hS:=(((hS.bg Y4).bg Y4).bg Y4).bg Y4
   refine cloopE (rg 8 2++rg 95 33) (by decide +kernel) (fun n m w=>∃ μx i520 l523 v521 cs522,m=(yK8 (yO2 8 (yK50 (yK20 (yK10 (yK4 (.i (.int .i64 i520)::(yO20 95 (yO10 115 (yO3 125 []))))))))))∧gen_compile_l2 fu p_1 l166 l170 l174 l178 n i520 l523=some r∧Le μ11 μx∧Sq μx w0 w (.blk b10 56 [.slice none 0 0,.slice none 0 0]::.blk b12 27 [.int .i64 0,.int .i64 0]::.blk b29 56 [v176,v521]::.row v176 60 2 l178.length cs177::.row v521 64 6 l523.length cs522::rsF)∧Rw μx cs522 l523) (by rintro _ _ _ ⟨_,_,_,_,_,rfl,_⟩; rfl) _ _ (aK8 (aO2 (aK50 (aK20 (aK10 (aK4 (aI (aO20 (aO10 (aO3 aZ)))))))))) ⟨_,0,[],(.slice none 0 0),[],rfl,h,Le.r,hS,Rw.nil⟩ ?_
   rintro n_2 _ t w30 ⟨μ12,i520,l523,v521,cs522,rfl,h,le579,hS,m580⟩
   cases n_2 with
   | zero=>cases h
   | succ n_2 =>
   unfold gen_compile_l2 at h
   refine cnrm (mK8 (mO2 (mK50 (mK20 (mK10 (mK4 (mi (mO20 (mO10 (mO3 mz)))))))))) (nz (st (ny ?_)))
   refine cifd (et (k90 d5)) (fun h581=>?_) (fun h581=>?_)
   ·replace h:=iT h581 h
    refine cskip (xn (cseq (cblock (nz ?_))))
    iterate 2 refine st ?_
    refine ny (nz ?_)
    iterate 2 refine st ?_
    obtain ⟨x582,g583,h⟩:=bI h
    obtain ⟨b584,o585,cs586,e587,f588,m589⟩:=SlR.elem (m3.up (le16.t (le311.t (le458.t (le460.t (le462.t (le464.t le579))))))) g583
    obtain ⟨a590,c591,a593,c594,rfl,m592,m595⟩:=m589
    refine wl (su (u_iax underlying22 ti35 (et (k90 d7)) (et (k90 d8)) e587) (dt (q90 p9)) (st (ld ((f588 _ hS.a).one d0) (st (nw ?_)))))
    refine cifd (et (k100 d2)) (fun h596=>?_) (fun h596=>?_)
    ·replace h:=iT h596 h
     refine cexit ?_
     refine (fun h=>xe (bh h)) ?_
     refine xn (creg ?_)
     obtain ⟨i597,g598,h⟩:=bI h
     refine wl (su (u_addc (et (k90 d4)) ec g598) (dt (q100 (q20 p7))) (st (wnil (xl ?_))))
     exact ⟨n_2,_,_,rfl,(aK8 (aO2 (aK50 (aK20 (aK10 (aK4 (aI (aO20 (aO10 (aO3 aZ)))))))))),⟨_,i597,l523,v521,cs522,rfl,h,le579,hS,m580⟩,Nat.lt_succ_self _⟩
    ·replace h:=iF h596 h
     refine cskip (xn (nz ?_))
     iterate 3 refine st ?_
     obtain ⟨x599,g600,h⟩:=bI h
     obtain ⟨b601,o602,cs603,e604,f605,m606⟩:=SlR.elem (m3.up (le16.t (le311.t (le458.t (le460.t (le462.t (le464.t le579))))))) g600
     obtain ⟨a607,c608,a610,c611,rfl,m609,m612⟩:=m606
     refine wl (su (u_iax underlying22 ti35 (et (k100 d4)) (et (k100 d5)) e604) (dt (q100 p6)) ?_)
     obtain ⟨r613,g614,h⟩:=bI h
     refine ca (gen_unit_w (p_1:=(TGt.mk l166 l170 l174)) (hg.t (le16.t (le311.t (le458.t (le460.t (le462.t (le464.t le579))))))) (m457.up (le460.t (le462.t (le464.t le579)))) (m459.up (le462.t (le464.t le579))) (m461.up (le464.t le579)) (m463.up le579) m609 m612 f605 g614 hS) ?_
     rintro _ w31 ⟨μ13,a616,c617,a619,c620,rfl,le615,hS,m618,m621⟩
     refine po ?_
     refine wl (s_alloc ti64 hS ?_); clear hS; intro b622 w32 hb623 hS; refine po ?_
     refine wl (s_storeA ti64 (et d9) (et (k100 d7)) rfl rfl hS d0 rfl p0 dn ?_)
     clear hS; intro w33 hS
     refine ny (cseq ?_)
     refine ccutE (rg 108 9) (by decide) (fun m w=>∃ μx b624,m=(yK50 (yK50 (yK8 (yO9 108 (.i (.bool b624)::[])))))∧gen_compile_j5 i520 l523 r613 (gen_compile_l2 fu p_1 l166 l170 l174 l178 n_2) b624=some r∧Le μ13 μx∧Sq μx w0 w (.blk b10 56 [.slice none 0 0,.slice none 0 0]::.blk b12 27 [.int .i64 0,.int .i64 0]::.blk b29 56 [v176,v521]::.row v521 64 6 l523.length cs522::.blk b622 64 [.int .i64 r613.Kind,.int .i64 r613.Params,.slice a616 r613.Locals.length c617,.int .i64 r613.Result,.int .i64 r613.Takes,.slice a619 r613.Code.length c620]::.row v176 60 2 l178.length cs177::rsF)) (by rintro _ _ ⟨_,_,rfl,_⟩; rfl) ?_ ?_
     ·refine creg (st (ld ((hS.blk d0).cell d2) (wl (su (u_lensl underlying61 (et (k100 d9))) (dt (q100 (q10 p0))) ?_))))
      iterate 2 refine st ?_
      refine wspd (k100 (k10 d2)) (q100 (q10 p2)) (q100 (q10 p2)) (fun h625=>?_) (fun h625=>?_)
      ·replace h:=iT h625 h
       refine sn rfl rfl (sn rfl rfl (sn rfl rfl (sn rfl rfl (st (wnil (xl ?_))))))
       replace hS:=(((((hS.bg Y4).bg Y1).bg Y5).bg Y5).bg Y5).bg Y5
       exact ⟨_,_,rfl,(aK50 (aK50 (aK8 (aO9 (aI aZ))))),_,true,rfl,h,Le.r,hS⟩
      ·replace h:=iF h625 h
       refine sy rfl (wy rfl (k100 (k10 d2)) (s_load ti62 (et (k100 (k10 d3))) ((hS.blk d0).cell d5) (dt (q100 (q10 p4))) (wy rfl (k100 (k10 d2)) (su (u_lensl underlying62 (et (k100 (k10 d4)))) (dt (q100 (q10 p5))) (sy rfl (st (wnil (xl ?_))))))))
       replace hS:=(((((hS.bg Y4).bg Y1).bg Y5).bg Y5).bg Y5).bg Y5
       exact ⟨_,_,rfl,(aK50 (aK50 (aK8 (aO9 (aI aZ))))),_,(decide ((4000:Int)<(r613.Code.length:Int))),rfl,h,Le.r,hS⟩
     ·rintro _ t w34 ⟨μ14,b624,rfl,h,le626,hS⟩
      unfold gen_compile_j5 at h
      refine nrm (mK50 (mK50 (mK8 (mO9 (mi mz))))) (xn ?_)
      refine cifb (et (k100 (k10 d7))) (fun h627=>?_) (fun h627=>?_)
      ·replace h:=iT h627 h
       refine nz (wl (s_build ti56 pl56 Fl.z (dt (q100 (q10 p8))) (st (wl (s_build ti27 pl27 (Fl.o rfl ec rfl rfl p0 (Fl.o rfl (et (k100 (k10 d9))) rfl rfl p1 Fl.z)) (dt (q100 (q20 p0))) (wl (s_storeA ti56 (et d2) (et (k100 (k10 d8))) rfl rfl hS d0 rfl p0 dn ?_)))))))
       clear hS; intro w35 hS
       refine wl (s_storeA ti27 (et d3) (et (k100 (k20 d0))) rfl rfl hS d1 rfl p1 dn ?_)
       clear hS; intro w36 hS
       refine nw (cret ?_)
       refine (fun h=>xr (br (xr (xr (br (xr h)))))) ?_
       obtain rfl:=oI h
       refine retN rfl (RVs.s (.a d2 ti56 (hS.blk d0).cells rfl) (RVs.s (.a d3 ti27 (hS.blk d1).cells rfl) RVs.z)) ?_
       replace hS:=(((((hS.drop Rm.z).drop Rm.z).drop Rm.z).drop Rm.z).drop Rm.z).drop Rm.z
       exact ⟨_,none,0,none,0,rfl,(le16.t (le311.t (le458.t (le460.t (le462.t (le464.t (le579.t (le615.t le626)))))))),hS,Sl.nil,Sl.nil⟩
      ·replace h:=iF h627 h
       refine cskip (xn (creg (st (ld ((hS.blk d2).cell d1) (lds (hS.blk d4).cells rfl ?_)))))
       refine wl (s_bsl1 underlying54 ti64 rfl (et (k100 (k20 d3))) rfl hS ?_); clear hS; intro b628 w37 hb629 hS; refine po ?_
       obtain ⟨l632,g633,h⟩:=bI h
       have m634:Rw μ14 [.int .i64 r613.Kind,.int .i64 r613.Params,.slice a616 r613.Locals.length c617,.int .i64 r613.Result,.int .i64 r613.Takes,.slice a619 r613.Code.length c620] [r613]:=(Rw.one (α:=TUnit) (TUnit.i ⟨a616,c617,a619,c620,rfl,(m618.up le626),(m621.up le626)⟩))
       have m631:=Rw.app (m580.up (le615.t le626)) m634 g633
       refine wl (s_app1 underlying54 ti64 rfl (et (k100 (k20 d2))) (et (k100 (k20 d4))) hS d4 (hS.blk d0).cells m634 rfl g633 (by decide) ?_); clear hS; intro v630 w38 rs_ hp_ hS; cases (show _=rs_ from hp_)
       replace hS:=Sep.reput hS p4; refine po ?_
       replace hS:=hS.drop Rm.z
       refine st (wl (s_store1 ti54 (et (k100 (k20 d6))) (et (k100 (k20 d5))) (hS.get d3).cellV hS d2 p1 rfl p2 dn ?_))
       clear hS; intro w39 hS
       refine wnil ?_
       refine (fun h=>bn (xn h)) ?_
       refine creg ?_
       obtain ⟨i635,g636,h⟩:=bI h
       refine wl (su (u_addc (et (k90 d4)) ec g636) (dt (q100 (q20 p7))) (st (wnil (xl ?_))))
       replace hS:=(((((hS.drop (Rm.s (Rm.s (Rm.s (Rm.s Rm.z))))).bg Y3).bg Y4).bg Y4).bg Y4).bg Y4
       exact ⟨n_2,_,_,rfl,(aK8 (aO2 (aK50 (aK20 (aK10 (aK4 (aI (aO20 (aO10 (aO3 aZ)))))))))),⟨_,i635,l632,v630,(cs522++[.int .i64 r613.Kind,.int .i64 r613.Params,.slice a616 r613.Locals.length c617,.int .i64 r613.Result,.int .i64 r613.Takes,.slice a619 r613.Code.length c620]),rfl,h,(le579.t (le615.t le626)),hS,m631⟩,Nat.lt_succ_self _⟩
   ·replace h:=iF h581 h
    refine cexit ?_
    refine (fun h=>xe (xe (bh h))) ?_
    refine xn (nz (lds (hS.blk d2).cells rfl (wl (s_build ti27 pl27 Fl.z (dt (q100 (q20 p9))) (wl (s_storeA ti56 (et d2) (et (k100 (k20 d8))) rfl (cv_s ((hS.get d3).cellV) (cv_s ((hS.get d4).cellV) cv_z)) hS d0 rfl p0 dn ?_))))))
    clear hS; intro w40 hS
    refine wl (s_storeA ti27 (et d3) (et (k100 (k20 d9))) rfl rfl hS d1 rfl p1 dn ?_)
    clear hS; intro w41 hS
    refine nw (cret ?_)
    replace hS:=hS.bg Y3
    obtain ⟨μ15,a637,c638,e641,le640,m639,hq_⟩:=Sep.frzRow hS (m315.up (le458.t (le460.t (le462.t (le464.t le579))))) rfl; clear hS
    subst e641; have hS:=hq_; clear hq_
    replace hS:=hS.bg Y3
    obtain ⟨μ16,a642,c643,e646,le645,m644,hq_⟩:=Sep.frzRow hS (m580.up le640) rfl; clear hS
    subst e646; have hS:=hq_; clear hq_
    obtain rfl:=oI h
    refine retN rfl (RVs.s (.a d2 ti56 (hS.blk d0).cells rfl) (RVs.s (.a d3 ti27 (hS.blk d1).cells rfl) RVs.z)) ?_
    replace hS:=((hS.drop Rm.z).drop Rm.z).drop Rm.z
    exact ⟨_,_,_,_,_,rfl,(le16.t (le311.t (le458.t (le460.t (le462.t (le464.t (le579.t (le640.t le645)))))))),hS,(m639.up le645),m644⟩
end Go.Proofs.YtjbiabapnphheaaGreatDoor
set_option maxRecDepth 100000
set_option maxHeartbeats 20000000
namespace Go.Proofs.YtjbiabapnphheaaGreatDoor
open Go.Wk Go.Xt Go.Y Tryz
variable {c2 fu:Nat} {a1:Option Addr} {μ0:M} {w0 w:World} {rsF:List Res}
theorem l8_alive_w (hg:Le Gm μ0)  {r:Bool}  (h:l8_alive fu =some r) (hS:Sq μ0 w0 w (rsF)):CallsV prog 16 [] w (fun v w'=>∃ (μ':M) ,v=.bool r∧Le μ0 μ'∧Sq μ' w0 w' (rsF)):=by
 unfold l8_alive at h
 refine enter func16 rfl (frm:=u1 (u2 (u5 (u20 (u20 []))))) rfl (nz (st (nx ?_)))
 obtain ⟨r1,g2,h⟩:=bI h
 refine ca (syn_read_w hg g2 hS) ?_
 rintro _ w1 ⟨μ1,a4,c5,rfl,le3,hS,m6⟩
 refine po ?_
 iterate 3 refine st ?_
 refine wl (s_alloc ti27 hS ?_); clear hS; intro b7 w2 hb8 hS; refine po ?_
 refine st (wl (s_storeA ti27 (et d2) (et d8) rfl rfl hS d0 rfl p0 dn ?_))
 clear hS; intro w3 hS
 refine nx (st ?_)
 obtain ⟨r9,g10,h⟩:=bI h
 refine ca (gen_compile_w (hg.t le3) m6 g10 hS) ?_
 rintro _ w4 ⟨μ2,a12,c13,a15,c16,rfl,le11,hS,m14,m17⟩
 refine po ?_
 iterate 3 refine st ?_
 refine wl (s_alloc ti56 hS ?_); clear hS; intro b18 w5 hb19 hS; refine po ?_
 refine wl (s_alloc ti27 hS ?_); clear hS; intro b20 w6 hb21 hS; refine po ?_
 refine wl (s_storeA ti56 (et d3) (et (k10 d2)) rfl rfl hS d1 rfl p1 dn ?_)
 clear hS; intro w7 hS
 refine wl (s_storeA ti27 (et d4) (et (k10 d3)) rfl rfl hS d0 rfl p0 dn ?_)
 clear hS; intro w8 hS
 refine nx (st (ld ((hS.blk d2).cell d0) ?_))
 iterate 2 refine st ?_
 refine wspd (k10 d7) (q10 p7) (q10 p7) (fun h22=>?_) (fun h22=>?_)
 ·replace h:=iT h22 h
  refine sy rfl (wy rfl (k10 d7) (s_load ti25 (et (k10 d8)) ((hS.blk d0).cell d0) (dt (q10 p9)) (sy rfl ?_)))
  iterate 2 refine st ?_
  refine wspd (k20 d2) (q20 p2) (q20 p2) (fun h23=>?_) (fun h23=>?_)
  ·replace h:=iT h23 h
   refine sy rfl (wy rfl (k20 d2) (s_load ti54 (et (k20 d3)) ((hS.blk d1).cell d1) (dt (q20 p4)) (wy rfl (k20 d2) (su (u_lensl underlying54 (et (k20 d4))) (dt (q20 p5)) (sy rfl ?_)))))
   iterate 2 refine st ?_
   refine wspd (k20 d8) (q20 p8) (q20 p8) (fun h24=>?_) (fun h24=>?_)
   ·replace h:=iT h24 h
    refine sy rfl (wy rfl (k20 d8) (s_load ti54 (et (k20 d9)) ((hS.blk d1).cell d1) (dt (q30 p0)) ?_))
    obtain ⟨x25,g26,h⟩:=bI h
    obtain ⟨b27,o28,cs29,e30,f31,m32⟩:=SlR.elem m17 g26
    obtain ⟨a33,c34,a36,c37,rfl,m35,m38⟩:=m32
    refine wy rfl (k20 d8) (su (u_iax underlying54 ti64 (et (k30 d0)) ec e30) (dt (q30 p1)) (sy rfl (wy rfl (k20 d8) (s_load ti62 (et (k30 d2)) ((f31 _ hS.a).one d5) (dt (q30 p3)) (wy rfl (k20 d8) (su (u_lensl underlying62 (et (k30 d3))) (dt (q30 p4)) (sy rfl ?_)))))))
    iterate 2 refine st ?_
    refine wspd (k30 d7) (q30 p7) (q30 p7) (fun h39=>?_) (fun h39=>?_)
    ·replace h:=iT h39 h
     refine sy rfl (wy rfl (k30 d7) (s_load ti54 (et (k30 d8)) ((hS.blk d1).cell d1) (dt (q30 p9)) ?_))
     obtain ⟨x40,g41,h⟩:=bI h
     obtain ⟨b42,o43,cs44,e45,f46,m47⟩:=SlR.elem m17 g41
     obtain ⟨a48,c49,a51,c52,rfl,m50,m53⟩:=m47
     refine wy rfl (k30 d7) (su (u_iax underlying54 ti64 (et (k30 d9)) ec e45) (dt (q40 p0)) (sy rfl (wy rfl (k30 d7) (s_load ti62 (et (k40 d1)) ((f46 _ hS.a).one d5) (dt (q40 p2)) ?_))))
     obtain ⟨x54,g55,h⟩:=bI h
     obtain ⟨b56,o57,cs58,e59,f60,m61⟩:=SlR.elem m53 g55
     obtain rfl:=m61
     refine wy rfl (k30 d7) (su (u_iax underlying62 ti90 (et (k40 d2)) ec e59) (dt (q40 p3)) (sy rfl (wy rfl (k30 d7) (s_load ti3 (et (k40 d4)) ((f60 _ hS.a).one d0) (dt (q40 p5)) (sy rfl ?_)))))
     iterate 2 refine st ?_
     refine nw (cret ?_)
     obtain rfl:=oI h
     refine ret1 rfl d0 ?_
     replace hS:=((hS.drop Rm.z).drop Rm.z).drop Rm.z
     exact ⟨_,rfl,(le3.t le11),hS⟩
    ·replace h:=iF h39 h
     refine sn rfl rfl (sn rfl rfl (sn rfl rfl (sn rfl rfl (sn rfl rfl (sn rfl rfl (sn rfl rfl (sn rfl rfl (sn rfl rfl ?_))))))))
     iterate 2 refine st ?_
     refine nw (cret ?_)
     obtain rfl:=oI h
     refine ret1 rfl d0 ?_
     replace hS:=((hS.drop Rm.z).drop Rm.z).drop Rm.z
     exact ⟨_,rfl,(le3.t le11),hS⟩
   ·replace h:=iF h24 h
    refine sn rfl rfl (sn rfl rfl (sn rfl rfl (sn rfl rfl (sn rfl rfl (sn rfl rfl (sn rfl rfl ?_))))))
    iterate 2 refine st ?_
    refine sn rfl rfl (sn rfl rfl (sn rfl rfl (sn rfl rfl (sn rfl rfl (sn rfl rfl (sn rfl rfl (sn rfl rfl (sn rfl rfl ?_))))))))
    iterate 2 refine st ?_
    refine nw (cret ?_)
    obtain rfl:=oI h
    refine ret1 rfl d0 ?_
    replace hS:=((hS.drop Rm.z).drop Rm.z).drop Rm.z
    exact ⟨_,rfl,(le3.t le11),hS⟩
  ·replace h:=iF h23 h
   refine sn rfl rfl (sn rfl rfl (sn rfl rfl (sn rfl rfl ?_)))
   iterate 2 refine st ?_
   refine sn rfl rfl (sn rfl rfl (sn rfl rfl (sn rfl rfl (sn rfl rfl (sn rfl rfl (sn rfl rfl ?_))))))
   iterate 2 refine st ?_
   refine sn rfl rfl (sn rfl rfl (sn rfl rfl (sn rfl rfl (sn rfl rfl (sn rfl rfl (sn rfl rfl (sn rfl rfl (sn rfl rfl ?_))))))))
   iterate 2 refine st ?_
   refine nw (cret ?_)
   obtain rfl:=oI h
   refine ret1 rfl d0 ?_
   replace hS:=((hS.drop Rm.z).drop Rm.z).drop Rm.z
   exact ⟨_,rfl,(le3.t le11),hS⟩
 ·replace h:=iF h22 h
  refine sn rfl rfl (sn rfl rfl (sn rfl rfl ?_))
  iterate 2 refine st ?_
  refine sn rfl rfl (sn rfl rfl (sn rfl rfl (sn rfl rfl ?_)))
  iterate 2 refine st ?_
  refine sn rfl rfl (sn rfl rfl (sn rfl rfl (sn rfl rfl (sn rfl rfl (sn rfl rfl (sn rfl rfl ?_))))))
  iterate 2 refine st ?_
  refine sn rfl rfl (sn rfl rfl (sn rfl rfl (sn rfl rfl (sn rfl rfl (sn rfl rfl (sn rfl rfl (sn rfl rfl (sn rfl rfl ?_))))))))
  iterate 2 refine st ?_
  refine nw (cret ?_)
  obtain rfl:=oI h
  refine ret1 rfl d0 ?_
  replace hS:=((hS.drop Rm.z).drop Rm.z).drop Rm.z
  exact ⟨_,rfl,(le3.t le11),hS⟩
theorem law_counts_w (hg:Le Gm μ0) {p_1:List TDef} {r:Bool} (m3:Sl μ0 a1 c2 p_1) (h:law_counts fu p_1=some r) (hS:Sq μ0 w0 w (rsF)):CallsV prog 7 [.slice a1 p_1.length c2] w (fun v w'=>∃ (μ':M) ,v=.bool r∧Le μ0 μ'∧Sq μ' w0 w' (rsF)):=by
 unfold law_counts at h
 refine enter func7 rfl (frm:=_::u2 (u2 (u5 (u20 (u50 []))))) rfl (nz (st (ny (nz ?_))))
 obtain ⟨r4,g5,h⟩:=bI h
 refine ca (l8_alive_w hg g5 hS) ?_
 rintro _ w1 ⟨μ1,rfl,le6,hS⟩
 refine po (st (nw ?_))
 refine cifnb (et (k10 d0)) (fun h7=>?_) (fun h7=>?_)
 ·replace h:=iF h7 h
  refine nz (st (nw (cret (xr ?_))))
  obtain rfl:=oI h
  refine ret1 rfl d2 ?_
  exact ⟨_,rfl,le6,hS⟩
 ·replace h:=iT h7 h
  refine cskip (xn (nz (st ?_)))
  obtain ⟨r8,g9,h⟩:=bI h
  refine ca (gen_compile_w (hg.t le6) (m3.up le6) g9 hS) ?_
  rintro _ w2 ⟨μ2,a11,c12,a14,c15,rfl,le10,hS,m13,m16⟩
  refine po ?_
  iterate 3 refine st ?_
  refine wl (s_alloc ti56 hS ?_); clear hS; intro b17 w3 hb18 hS; refine po ?_
  refine wl (s_alloc ti27 hS ?_); clear hS; intro b19 w4 hb20 hS; refine po ?_
  refine wl (s_storeA ti56 (et d3) (et (k10 d4)) rfl rfl hS d1 rfl p1 dn ?_)
  clear hS; intro w5 hS
  refine wl (s_storeA ti27 (et d4) (et (k10 d5)) rfl rfl hS d0 rfl p0 dn ?_)
  clear hS; intro w6 hS
  refine ny (nz (st (ld ((hS.blk d0).cell d0) (st (nw ?_)))))
  refine cifd (et (k10 d8)) (fun h21=>?_) (fun h21=>?_)
  ·replace h:=iT h21 h
   refine nz (st (nw (cret (xr ?_))))
   obtain rfl:=oI h
   refine ret1 rfl d2 ?_
   replace hS:=(hS.drop Rm.z).drop Rm.z
   exact ⟨_,rfl,(le6.t le10),hS⟩
  ·replace h:=iF h21 h
   refine cskip (xn (nz ?_))
   iterate 2 refine st ?_
   refine ny (nz (st (wl (su (u_lensl underlying22 (et (k10 d9))) (dt (q20 p0)) (st (nw (cblock ?_)))))))
   replace hS:=hS.drop Rm.z
   refine cloopE ([2]++[8]++rg 22 46) (by decide +kernel) (fun n m w=>∃ μx i72 i73 i74,m=(yK2 (yO1 2 (yK2 (.i (.int .i64 i72)::(.i (.int .i64 i73)::(yK1 (yO1 8 (yK10 (yK2 (.i (.int .i64 i74)::(yO20 22 (yO20 42 (yO6 62 [])))))))))))))∧law_counts_l1 p_1 r8 n i72 i73 i74=some r∧Le μ2 μx∧Sq μx w0 w (.blk b17 56 [.slice a11 r8.1.Boxes.length c12,.slice a14 r8.1.Units.length c15]::rsF)) (by rintro _ _ _ ⟨_,_,_,_,rfl,_⟩; rfl) _ _ (aK2 (aO1 (aK2 (aI (aI (aK1 (aO1 (aK10 (aK2 (aI (aO20 (aO20 (aO6 aZ))))))))))))) ⟨_,0,0,0,rfl,h,Le.r,hS⟩ ?_
   rintro n_1 _ t w7 ⟨μ3,i72,i73,i74,rfl,h,le125,hS⟩
   cases n_1 with
   | zero=>cases h
   | succ n_1 =>
   unfold law_counts_l1 at h
   refine cnrm (mK2 (mO1 (mK2 (mi (mi (mK1 (mO1 (mK10 (mK2 (mi (mO20 (mO20 (mO6 mz))))))))))))) (nz (st (ny ?_)))
   refine cifd (et (k20 d2)) (fun h126=>?_) (fun h126=>?_)
   ·replace h:=iT h126 h
    refine cskip (xn (cseq (cblock (nz ?_))))
    obtain ⟨x127,g128,h⟩:=bI h
    obtain ⟨b129,o130,cs131,e132,f133,m134⟩:=SlR.elem (m3.up (le6.t (le10.t le125))) g128
    obtain ⟨a135,c136,a138,c139,rfl,m137,m140⟩:=m134
    refine wl (su (u_iax underlying22 ti35 (et (k10 d9)) (et (k20 d1)) e132) (dt (q20 p3)) (lds (f133 _ hS.a) rfl ?_))
    refine wl (s_alloc ti35 hS ?_); clear hS; intro b141 w8 hb142 hS; refine po ?_
    refine wl (s_storeA ti35 (et d8) (et (k20 d4)) rfl rfl hS d0 rfl p0 dn ?_)
    clear hS; intro w9 hS
    refine ny (nz (st (ld ((hS.blk d0).cell d0) (st (nw ?_)))))
    refine cifd (et (k20 d7)) (fun h143=>?_) (fun h143=>?_)
    ·replace h:=iT h143 h
     refine cseq (cseq ?_)
     refine ccutE (rg 28 18) (by decide) (fun m w=>∃ μx b144,m=(yK20 (yK8 (yO10 28 (yO8 38 (.i (.bool b144)::[])))))∧law_counts_j1 i72 i73 i74 (law_counts_l1 p_1 r8 n_1) b144=some r∧Le μ3 μx∧Sq μx w0 w (.blk b17 56 [.slice a11 r8.1.Boxes.length c12,.slice a14 r8.1.Units.length c15]::rsF)) (by rintro _ _ ⟨_,_,rfl,_⟩; rfl) ?_ ?_
     ·refine cdw hS ?_; clear hS; intro w10 hS
      refine sf_start (fpi 0 [0,4,5,6,7,8,9,10,11,12,13,14,15,16,17,18] rfl (fpi 1 [1,2,3,4,5,6,7,8,9,10,11,12,13,14,15,16,17,18] rfl (fr_ 2 [2,3,4,5,6,7,8,9,10,11,12,13,14,15,16,17,18] rfl (u_load ti53 (et (k20 d9)) ((hS.blk d1).cell d0)) (q30 p0) (fp 3 [3,4,5,6,7,8,9,10,11,12,13,14,15,16,17,18] rfl (u_lensl underlying53 (et (k30 d0))) (q30 p1) (fpi 4 [4,5,6,7,8,9,10,11,12,13,14,15,16,17,18] rfl (fpi 5 [5,6,7,8,9,10,11,12,13,14,15,16,17,18] rfl ?_))))))
      refine sfsd (k30 d3) (q30 p3) (q30 p3) (fun h145=>?_) (fun h145=>?_)
      ·replace h:=iT h145 h
       refine fpN 6 [6,7,9,10,17,18] rfl rfl (k30 d3) rfl (q30 p4) (fpN 7 [7,9,10,17,18] rfl rfl (k30 d3) rfl (q30 p5) (fpN 8 [8,9,10,17,18] rfl rfl (k30 d3) rfl (q30 p6) (fpN 9 [9,10,17,18] rfl rfl (k30 d3) rfl (q30 p7) (fpN 10 [10,17,18] rfl rfl (k30 d3) rfl (q30 p8) (fpN 11 [11,12,13,16,17,18] rfl rfl (k30 d3) rfl (q30 p9) (fpN 12 [12,13,16,17,18] rfl rfl (k30 d3) rfl (q40 p0) (fpN 13 [13,16,17,18] rfl rfl (k30 d3) rfl (q40 p1) (fpN 14 [14,15,16,17,18] rfl rfl (k30 d3) rfl (q40 p2) (fpN 15 [15,16,17,18] rfl rfl (k30 d3) rfl (q40 p3) (fpN 16 [16,17,18] rfl rfl (k30 d3) rfl (q40 p4) (fpN 17 [17,18] rfl rfl (k30 d3) rfl (q40 p5) (fpi 18 [18] rfl (sf_nil (xl ?_))))))))))))))
       replace hS:=hS.drop Rm.z
       exact ⟨_,_,rfl,(aK20 (aK8 (aO10 (aO8 (aI aZ))))),_,true,rfl,h,Le.r,hS⟩
      ·replace h:=iF h145 h
       refine fpY 6 [6,7,9,10,17,18] rfl rfl (k30 d3) (u_fa fa56_0 (et d3) rfl) (q30 p4) (fr_Y 7 [7,9,10,17,18] rfl rfl (k30 d3) (u_load ti53 (et (k30 d4)) ((hS.blk d1).cell d0)) (q30 p5) (fpY 8 [8,9,10,17,18] rfl rfl (k30 d3) (u_move (et d5)) (q30 p6) ?_))
       obtain ⟨x146,g147,h⟩:=bI h
       obtain ⟨b148,o149,cs150,e151,f152,m153⟩:=SlR.elem (m13.up le125) g147
       obtain rfl:=m153
       refine fpY 9 [9,10,17,18] rfl rfl (k30 d3) (u_iax underlying53 ti60 (et (k30 d5)) (et (k30 d6)) e151) (q30 p7) (fr_Y 10 [10,17,18] rfl rfl (k30 d3) (u_loads ti60 (et (k30 d7)) (f152 _ hS.a) rfl) (q30 p8) (fpY 11 [11,12,13,16,17,18] rfl rfl (k30 d3) (u_fa fa35_2 (et d8) rfl) (q30 p9) (fpY 12 [12,13,16,17,18] rfl rfl (k30 d3) (u_fa fa31_0 (et (k30 d9)) rfl) (q40 p0) (fr_Y 13 [13,16,17,18] rfl rfl (k30 d3) (u_load ti3 (et (k40 d0)) ((hS.blk d0).cell d2)) (q40 p1) (fpY 14 [14,15,16,17,18] rfl rfl (k30 d3) (u_fa fa35_4 (et d8) rfl) (q40 p2) (fr_Y 15 [15,16,17,18] rfl rfl (k30 d3) (u_load ti3 (et (k40 d2)) ((hS.blk d0).cell d6)) (q40 p3) (fpY 16 [16,17,18] rfl rfl (k30 d3) (u_build ti60 pl60 (Fl.o rfl (et (k40 d1)) rfl rfl p0 (Fl.o rfl (et (k40 d3)) rfl rfl p1 Fl.z))) (q40 p4) (fpY 17 [17,18] rfl rfl (k30 d3) (u_nea (ES.mk underlying60 eh60 eg60) (et (k30 d8)) (et (k40 d4)) (EqFs.o rfl rfl rfl ti3 d0 d0 (eq_int underlying3) (EqFs.o rfl rfl rfl ti3 d1 d1 (eq_int underlying3) EqFs.z)) rfl) (q40 p5) (fpi 18 [18] rfl (sf_nil (xl ?_)))))))))))
       replace hS:=hS.drop Rm.z
       exact ⟨_,_,rfl,(aK20 (aK8 (aO10 (aO8 (aI aZ))))),_,(!(andL [(decide (x146.Typ=x127.Typ.Kind)),(decide (x146.Cap=x127.Cap))])),rfl,h,Le.r,hS⟩
     ·rintro _ t w11 ⟨μ4,b144,rfl,h,le154,hS⟩
      unfold law_counts_j1 at h
      refine nrm (mK20 (mK8 (mO10 (mO8 (mi mz))))) (xn ?_)
      refine cifb (et (k40 d6)) (fun h155=>?_) (fun h155=>?_)
      ·replace h:=iT h155 h
       refine nz (st (nw (cret ((fun h=>xr (xr (br (xr (xr (br (xr h))))))) ?_))))
       obtain rfl:=oI h
       refine ret1 rfl d2 ?_
       replace hS:=hS.drop Rm.z
       exact ⟨_,rfl,(le6.t (le10.t (le125.t le154))),hS⟩
      ·replace h:=iF h155 h
       refine cskip (xn (nz (st ?_)))
       obtain ⟨i156,g157,h⟩:=bI h
       refine wl (su (u_addc (et (k40 d7)) ec g157) (dt (q40 p8)) (st (nw (cexit ?_))))
       refine (fun h=>xe (bh h)) ?_
       refine xn (creg ?_)
       obtain ⟨i158,g159,h⟩:=bI h
       refine wl (su (u_addc (et (k20 d1)) ec g159) (dt (q60 p7)) (st (wnil (xl ?_))))
       exact ⟨n_1,_,_,rfl,(aK2 (aO1 (aK2 (aI (aI (aK1 (aO1 (aK10 (aK2 (aI (aO20 (aO20 (aO6 aZ))))))))))))),⟨_,i156,i73,i158,rfl,h,(le125.t le154),hS⟩,Nat.lt_succ_self _⟩
    ·replace h:=iF h143 h
     refine cskip (xn (cseq (cseq ?_)))
     refine ccutE (rg 49 15) (by decide) (fun m w=>∃ μx b160,m=(yK20 (yK20 (yK9 (yO10 49 (yO5 59 (.i (.bool b160)::[]))))))∧law_counts_j2 i72 i73 i74 (law_counts_l1 p_1 r8 n_1) b160=some r∧Le μ3 μx∧Sq μx w0 w (.blk b17 56 [.slice a11 r8.1.Boxes.length c12,.slice a14 r8.1.Units.length c15]::rsF)) (by rintro _ _ ⟨_,_,rfl,_⟩; rfl) ?_ ?_
     ·refine cdw hS ?_; clear hS; intro w12 hS
      refine sf_start (fpi 0 [0,4,5,6,7,8,9,10,11,12,13,14,15] rfl (fpi 1 [1,2,3,4,5,6,7,8,9,10,11,12,13,14,15] rfl (fr_ 2 [2,3,4,5,6,7,8,9,10,11,12,13,14,15] rfl (u_load ti54 (et (k50 d0)) ((hS.blk d1).cell d1)) (q50 p1) (fp 3 [3,4,5,6,7,8,9,10,11,12,13,14,15] rfl (u_lensl underlying54 (et (k50 d1))) (q50 p2) (fpi 4 [4,5,6,7,8,9,10,11,12,13,14,15] rfl (fpi 5 [5,6,7,8,9,10,11,12,13,14,15] rfl ?_))))))
      refine sfsd (k50 d4) (q50 p4) (q50 p4) (fun h161=>?_) (fun h161=>?_)
      ·replace h:=iT h161 h
       refine fpN 6 [6,7,9,10,11,14,15] rfl rfl (k50 d4) rfl (q50 p5) (fpN 7 [7,9,10,11,14,15] rfl rfl (k50 d4) rfl (q50 p6) (fpN 8 [8,9,10,11,14,15] rfl rfl (k50 d4) rfl (q50 p7) (fpN 9 [9,10,11,14,15] rfl rfl (k50 d4) rfl (q50 p8) (fpN 10 [10,11,14,15] rfl rfl (k50 d4) rfl (q50 p9) (fpN 11 [11,14,15] rfl rfl (k50 d4) rfl (q60 p0) (fpN 12 [12,13,14,15] rfl rfl (k50 d4) rfl (q60 p1) (fpN 13 [13,14,15] rfl rfl (k50 d4) rfl (q60 p2) (fpN 14 [14,15] rfl rfl (k50 d4) rfl (q60 p3) (fpi 15 [15] rfl (sf_nil (xl ?_)))))))))))
       replace hS:=hS.drop Rm.z
       exact ⟨_,_,rfl,(aK20 (aK20 (aK9 (aO10 (aO5 (aI aZ)))))),_,true,rfl,h,Le.r,hS⟩
      ·replace h:=iF h161 h
       refine fpY 6 [6,7,9,10,11,14,15] rfl rfl (k50 d4) (u_fa fa56_1 (et d3) rfl) (q50 p5) (fr_Y 7 [7,9,10,11,14,15] rfl rfl (k50 d4) (u_load ti54 (et (k50 d5)) ((hS.blk d1).cell d1)) (q50 p6) (fpY 8 [8,9,10,11,14,15] rfl rfl (k50 d4) (u_move (et d6)) (q50 p7) ?_))
       obtain ⟨x162,g163,h⟩:=bI h
       obtain ⟨b164,o165,cs166,e167,f168,m169⟩:=SlR.elem (m16.up le125) g163
       obtain ⟨a170,c171,a173,c174,rfl,m172,m175⟩:=m169
       refine fpY 9 [9,10,11,14,15] rfl rfl (k50 d4) (u_iax underlying54 ti64 (et (k50 d6)) (et (k50 d7)) e167) (q50 p8) (fpY 10 [10,11,14,15] rfl rfl (k50 d4) (u_fa fa64_0 (et (k50 d8)) rfl) (q50 p9) (fr_Y 11 [11,14,15] rfl rfl (k50 d4) (u_load ti3 (et (k50 d9)) ((f168 _ hS.a).one d0)) (q60 p0) (fpY 12 [12,13,14,15] rfl rfl (k50 d4) (u_fa fa35_0 (et d8) rfl) (q60 p1) (fr_Y 13 [13,14,15] rfl rfl (k50 d4) (u_load ti3 (et (k60 d1)) ((hS.blk d0).cell d0)) (q60 p2) (fpY 14 [14,15] rfl rfl (k50 d4) (u_nei (et (k60 d0)) (et (k60 d2))) (q60 p3) (fpi 15 [15] rfl (sf_nil (xl ?_))))))))
       replace hS:=hS.drop Rm.z
       exact ⟨_,_,rfl,(aK20 (aK20 (aK9 (aO10 (aO5 (aI aZ)))))),_,(decide (x162.Kind≠x127.Kind)),rfl,h,Le.r,hS⟩
     ·rintro _ t w13 ⟨μ5,b160,rfl,h,le176,hS⟩
      unfold law_counts_j2 at h
      refine nrm (mK20 (mK20 (mK9 (mO10 (mO5 (mi mz)))))) (xn ?_)
      refine cifb (et (k60 d4)) (fun h177=>?_) (fun h177=>?_)
      ·replace h:=iT h177 h
       refine nz (st (nw (cret ?_)))
       refine (fun h=>xr (br (xr (xr (br (xr h)))))) ?_
       obtain rfl:=oI h
       refine ret1 rfl d2 ?_
       replace hS:=hS.drop Rm.z
       exact ⟨_,rfl,(le6.t (le10.t (le125.t le176))),hS⟩
      ·replace h:=iF h177 h
       refine cskip (xn (creg (st ?_)))
       obtain ⟨i178,g179,h⟩:=bI h
       refine wl (su (u_addc (et (k60 d5)) ec g179) (dt (q60 p6)) (st (wnil ?_)))
       refine (fun h=>bn (xn h)) ?_
       refine creg ?_
       obtain ⟨i180,g181,h⟩:=bI h
       refine wl (su (u_addc (et (k20 d1)) ec g181) (dt (q60 p7)) (st (wnil (xl ?_))))
       exact ⟨n_1,_,_,rfl,(aK2 (aO1 (aK2 (aI (aI (aK1 (aO1 (aK10 (aK2 (aI (aO20 (aO20 (aO6 aZ))))))))))))),⟨_,i72,i178,i180,rfl,h,(le125.t le176),hS⟩,Nat.lt_succ_self _⟩
   ·replace h:=iF h126 h
    refine cexit ?_
    refine (fun h=>xe (xe (bh h))) ?_
    refine xn (nz ?_)
    iterate 2 refine st ?_
    refine ld ((hS.blk d0).cell d0) (wl (su (u_lensl underlying53 (et (k70 d0))) (dt (q70 p1)) ?_))
    iterate 2 refine st ?_
    refine wspd (k70 d3) (q70 p3) (q70 p3) (fun h182=>?_) (fun h182=>?_)
    ·replace h:=iT h182 h
     refine sy rfl (sy rfl (wy rfl (k70 d3) (s_load ti54 (et (k70 d5)) ((hS.blk d0).cell d1) (dt (q70 p6)) (wy rfl (k70 d3) (su (u_lensl underlying54 (et (k70 d6))) (dt (q70 p7)) (sy rfl ?_))))))
     iterate 2 refine st ?_
     refine nw (cret ?_)
     obtain rfl:=oI h
     refine ret1 rfl d2 ?_
     replace hS:=hS.drop Rm.z
     exact ⟨_,rfl,(le6.t (le10.t le125)),hS⟩
    ·replace h:=iF h182 h
     refine sn rfl rfl (sn rfl rfl (sn rfl rfl (sn rfl rfl (sn rfl rfl ?_))))
     iterate 2 refine st ?_
     refine nw (cret ?_)
     obtain rfl:=oI h
     refine ret1 rfl d2 ?_
     replace hS:=hS.drop Rm.z
     exact ⟨_,rfl,(le6.t (le10.t le125)),hS⟩
end Go.Proofs.YtjbiabapnphheaaGreatDoor
