/- Texts of Wb. -/
import Derived.Test.YtjbiabapnphheaaGreatDoorCXu
import Derived.Test.YtjbiabapnphheaaGreatDoorCMd
import Derived.Test.YtjbiabapnphheaaGreatDoorCWa
set_option linter.unusedSimpArgs false
set_option linter.unusedVariables false
set_option linter.unusedSectionVars false
set_option maxRecDepth 100000
set_option maxHeartbeats 20000000
namespace Go.Proofs.YtjbiabapnphheaaGreatDoor
open Go.Wk Go.Xt Go.Y Tryz
variable {b1 b3 b6 b8 b12 c4 c6 c15 c18 fu o2 o4 o13:Nat} {a3 a5 a14 a17:Option Addr} {v22:Value} {ms23:List (Nat×List MapEntry×Nat)} {μ0:M} {w0 w:World} {rsF:List Res}
theorem sema_plain_w (hg:Le Gm μ0) {p_1:TType} {r:Bool}  (h:sema_plain p_1=some r) (hS:Sq μ0 w0 w (rsF)):CallsV prog 63 [.agg ⟨[.int .i64 p_1.Kind,S p_1.Gen]⟩] w (fun v w'=>∃ (μ':M) ,v=.bool r∧Le μ0 μ'∧Sq μ' w0 w' (rsF)):=by
 unfold sema_plain at h
 refine enter func63 rfl (frm:=_::u5 []) rfl (nz ?_)
 refine wl (s_box (et d0) rfl hS ?_); clear hS; intro b1 w1 hb2 hS; refine po ?_
 refine st (nx (st (ld ((hS.blk d0).cell d0) ?_)))
 iterate 2 refine st ?_
 refine nw (cret ?_)
 obtain rfl:=oI h
 refine ret1 rfl d2 ?_
 replace hS:=hS.drop Rm.z
 exact ⟨_,rfl,Le.r,hS⟩
theorem sema_find_w (hg:Le Gm μ0) {p_1:TSp} {p_2:Int} {p_3:List UInt8} {r:Option TDef×Bool} (m5:Sl μ0 a3 c4 p_1.defs) (m7:Mr μ0 b6 p_1.named) (m8:At μ0 b1 o2 [.slice a3 p_1.defs.length c4,.map (some b6)]) (h:sema_find p_1 p_2 p_3=some r) (hS:Sq μ0 w0 w (rsF)):CallsV prog 79 [.pointer (some ⟨b1,o2,none⟩),.int .i64 p_2,S p_3] w (fun v w'=>∃ (μ':M) (v9:Value),v=.tuple ⟨[v9,.bool r.2]⟩∧Le μ0 μ'∧Sq μ' w0 w' (rsF)∧Np μ' v9 r.1):=by
 unfold sema_find at h
 refine enter func79 rfl (frm:=_::_::_::u1 (u5 (u20 []))) rfl (nz ?_)
 iterate 2 refine st ?_
 refine nx ?_
 iterate 3 refine st ?_
 refine ld ((m8 _ hS.a).one d1) (st ?_)
 obtain ⟨es11,c12,hb13,hq14⟩:=m7
 refine wl (s_mgetP2 (κ:=List UInt8) (k:=p_3) (hrv:=fun _ _ h=>h) underlying92 underlying9 (et (k10 d4)) (et (k10 d5)) zv74 (hb13 _ hS.a) hq14 ?_); intro v15 hv16; refine po ?_
 iterate 5 refine st ?_
 refine ny ?_
 refine cdw hS ?_; clear hS; intro w1 hS
 refine cpi 0 rfl (cpi 1 rfl (cpi 2 rfl (cpi 10 rfl ?_)))
 refine scs (k20 d1) (q20 p1) (q20 p1) (fun h17=>?_) (fun h17=>?_)
 ·replace h:=iT h17 h
  refine cpY 3 rfl rfl (k20 d1) (u_move (et d8)) (q20 p2) ?_
  obtain ⟨x18,g19,h⟩:=bI h
  obtain ⟨b20,o21,cs22,rfl,f23,m24⟩:=Np.get hv16 g19
  obtain ⟨a25,c26,a28,c29,rfl,m27,m30⟩:=m24
  refine cpY 4 rfl rfl (k20 d1) (u_nilck (et (k20 d2))) (q20 p3) (cpY 5 rfl rfl (k20 d1) (u_fa fa35_0 (et (k20 d3)) rfl) (q20 p4) (crY 6 [6,8,9,11] rfl rfl (k20 d1) (u_load ti3 (et (k20 d4)) ((f23 _ hS.a).one d0)) (q20 p5) (cpY 7 rfl rfl (k20 d1) (u_move (et d1)) (q20 p6) (cpY 8 rfl rfl (k20 d1) (u_eqi (et (k20 d5)) (et (k20 d6))) (q20 p7) (cpi 9 rfl (cpi 11 rfl (nu (cret ?_))))))))
  obtain rfl:=oI h
  refine ret2 rfl d6 d7 ?_
  exact ⟨_,(.pointer (some ⟨b20,o21,none⟩)),rfl,Le.r,hS,hv16⟩
 ·replace h:=iF h17 h
  refine cpN 3 rfl rfl (k20 d1) rfl (q20 p2) (cpN 4 rfl rfl (k20 d1) rfl (q20 p3) (cpN 5 rfl rfl (k20 d1) rfl (q20 p4) (cpN 6 rfl rfl (k20 d1) rfl (q20 p5) (cpN 7 rfl rfl (k20 d1) rfl (q20 p6) (cpN 8 rfl rfl (k20 d1) rfl (q20 p7) (cpi 9 rfl (cpi 11 rfl (nu (cret ?_)))))))))
  obtain rfl:=oI h
  refine ret2 rfl d6 d7 ?_
  exact ⟨_,_,rfl,Le.r,hS,hv16⟩
theorem sema_typ_w (hg:Le Gm μ0) {p_1:TSp} {p_2:TType} {r:Int} (m5:Sl μ0 a3 c4 p_1.defs) (m7:Mr μ0 b6 p_1.named) (m8:At μ0 b1 o2 [.slice a3 p_1.defs.length c4,.map (some b6)]) (h:sema_typ p_1 p_2=some r) (hS:Sq μ0 w0 w (rsF)):CallsV prog 62 [.pointer (some ⟨b1,o2,none⟩),.agg ⟨[.int .i64 p_2.Kind,S p_2.Gen]⟩] w (fun v w'=>∃ (μ':M) ,v=.int .i64 r∧Le μ0 μ'∧Sq μ' w0 w' (rsF)):=by
 unfold sema_typ at h
 refine enter func62 rfl (frm:=_::_::u1 (u5 (u10 []))) rfl (nz ?_)
 refine wl (s_box (et d1) rfl hS ?_); clear hS; intro b9 w1 hb10 hS; refine po ?_
 refine st (ny (nz (lds (hS.blk d0).cells rfl ?_)))
 obtain ⟨r11,g12,h⟩:=bI h
 refine ca (sema_plain_w hg g12 hS) ?_
 rintro _ w2 ⟨μ1,rfl,le13,hS⟩
 refine po (nw ?_)
 refine cifb (et d8) (fun h14=>?_) (fun h14=>?_)
 ·replace h:=iT h14 h
  refine nz (st (nw (cret (xr ?_))))
  obtain rfl:=oI h
  refine ret1 rfl d4 ?_
  replace hS:=hS.drop Rm.z
  exact ⟨_,rfl,le13,hS⟩
 ·replace h:=iF h14 h
  refine cskip (xn (cseq (nz ?_)))
  iterate 2 refine st ?_
  refine ld ((hS.blk d0).cell d1) ?_
  obtain ⟨r15,g16,h⟩:=bI h
  refine ca (sema_find_w (hg.t le13) (m5.up le13) (m7.up le13) (m8.up le13) g16 hS) ?_
  rintro _ w3 ⟨μ2,v18,rfl,le17,hS,m19⟩
  refine po ?_
  iterate 5 refine st ?_
  refine nx ?_
  iterate 2 refine st ?_
  refine nw ?_
  refine cifnb (et (k10 d7)) (fun h20=>?_) (fun h20=>?_)
  ·replace h:=iF h20 h
   refine nz (st (nw (cret (xr ?_))))
   obtain rfl:=oI h
   refine ret1 rfl d4 ?_
   replace hS:=hS.drop Rm.z
   exact ⟨_,rfl,(le13.t le17),hS⟩
  ·replace h:=iT h20 h
   refine cskip (xn (nz (st (nw (cret ?_)))))
   obtain rfl:=oI h
   refine ret1 rfl d4 ?_
   replace hS:=hS.drop Rm.z
   exact ⟨_,rfl,(le13.t le17),hS⟩
theorem sema_bare_w (hg:Le Gm μ0) {p_1 r:TType}  (h:sema_bare p_1=some r) (hS:Sq μ0 w0 w (rsF)):CallsV prog 64 [.agg ⟨[.int .i64 p_1.Kind,S p_1.Gen]⟩] w (fun v w'=>∃ (μ':M) ,v=.agg ⟨[.int .i64 r.Kind,S r.Gen]⟩∧Le μ0 μ'∧Sq μ' w0 w' (rsF)):=by
 unfold sema_bare at h
 refine enter func64 rfl (frm:=_::u1 (u5 [])) rfl (nz ?_)
 refine wl (s_box (et d0) rfl hS ?_); clear hS; intro b1 w1 hb2 hS; refine po ?_
 refine wl (s_alloc ti31 hS ?_); clear hS; intro b3 w2 hb4 hS; refine po ?_
 refine ny (nz (lds (hS.blk d1).cells rfl ?_))
 obtain ⟨r5,g6,h⟩:=bI h
 refine ca (sema_plain_w hg g6 hS) ?_
 rintro _ w3 ⟨μ1,rfl,le7,hS⟩
 refine po (nw ?_)
 refine ccutE ([5]) (by decide) (fun m w=>∃ μx s8,m=(yK5 (yO1 5 []))∧sema_bare_j1 p_1 s8=some r∧Le μ1 μx∧Sq μx w0 w (.blk b1 31 [.int .i64 p_1.Kind,S s8]::.blk b3 31 [.int .i64 0,S []]::rsF)) (by rintro _ _ ⟨_,_,rfl,_⟩; rfl) ?_ ?_
 ·refine cifb (et d4) (fun h9=>?_) (fun h9=>?_)
  ·replace h:=iT h9 h
   refine creg (st (wl (s_store1 ti9 (et d5) ec rfl hS d1 p1 rfl p1 dn ?_)))
   clear hS; intro w4 hS
   refine wnil (xl ?_)
   replace hS:=hS.bg Y1
   exact ⟨_,_,rfl,(aK5 (aO1 aZ)),_,[],rfl,h,Le.r,hS⟩
  ·replace h:=iF h9 h
   refine cskip (xl ?_)
   replace hS:=hS.bg Y1
   exact ⟨_,_,rfl,(aK5 (aO1 aZ)),_,p_1.Gen,rfl,h,Le.r,hS⟩
 ·rintro _ t w5 ⟨μ2,s8,rfl,h,le10,hS⟩
  unfold sema_bare_j1 at h
  refine nrm (mK5 (mO1 mz)) (xn (nz (lds (hS.blk d0).cells rfl (wl (s_storeA ti31 (et d2) (et d6) rfl rfl hS d1 rfl p1 dn ?_)))))
  clear hS; intro w6 hS
  refine nw (cret ?_)
  obtain rfl:=oI h
  refine retN rfl (RVs.s (.a d2 ti31 (hS.blk d1).cells rfl) RVs.z) ?_
  replace hS:=(hS.drop Rm.z).drop Rm.z
  exact ⟨_,rfl,(le7.t le10),hS⟩
theorem sema_num_w (hg:Le Gm μ0)  {r:TType}  (h:sema_num =some r) (hS:Sq μ0 w0 w (rsF)):CallsV prog 108 [] w (fun v w'=>∃ (μ':M) ,v=.agg ⟨[.int .i64 r.Kind,S r.Gen]⟩∧Le μ0 μ'∧Sq μ' w0 w' (rsF)):=by
 unfold sema_num at h
 refine enter func108 rfl (frm:=u2 []) rfl (nz ?_)
 refine wl (s_alloc ti31 hS ?_); clear hS; intro b1 w1 hb2 hS; refine po ?_
 refine nx (wl (s_build ti31 pl31 (Fl.o rfl ec rfl rfl p0 Fl.z) (dt p1) (wl (s_storeA ti31 (et d0) (et d1) rfl rfl hS d0 rfl p0 dn ?_))))
 clear hS; intro w2 hS
 refine nw (cret ?_)
 obtain rfl:=oI h
 refine retN rfl (RVs.s (.a d0 ti31 (hS.blk d0).cells rfl) RVs.z) ?_
 replace hS:=hS.drop Rm.z
 exact ⟨_,rfl,Le.r,hS⟩
theorem sema_boolean_w (hg:Le Gm μ0)  {r:TType}  (h:sema_boolean =some r) (hS:Sq μ0 w0 w (rsF)):CallsV prog 99 [] w (fun v w'=>∃ (μ':M) ,v=.agg ⟨[.int .i64 r.Kind,S r.Gen]⟩∧Le μ0 μ'∧Sq μ' w0 w' (rsF)):=by
 unfold sema_boolean at h
 refine enter func99 rfl (frm:=u2 []) rfl (nz ?_)
 refine wl (s_alloc ti31 hS ?_); clear hS; intro b1 w1 hb2 hS; refine po ?_
 refine nx (wl (s_build ti31 pl31 (Fl.o rfl ec rfl rfl p0 Fl.z) (dt p1) (wl (s_storeA ti31 (et d0) (et d1) rfl rfl hS d0 rfl p0 dn ?_))))
 clear hS; intro w2 hS
 refine nw (cret ?_)
 obtain rfl:=oI h
 refine retN rfl (RVs.s (.a d0 ti31 (hS.blk d0).cells rfl) RVs.z) ?_
 replace hS:=hS.drop Rm.z
 exact ⟨_,rfl,Le.r,hS⟩
theorem sema_look_w (hg:Le Gm μ0) {prog_2:TSp} {def_11:TDef} {bloc_21:List (List (List UInt8×TType))} {p_2:List UInt8} {r:TType×Bool} (m7:Sl μ0 a5 c6 prog_2.defs) (m9:Mr μ0 b8 prog_2.named) (m10:At μ0 b3 o4 [.slice a5 prog_2.defs.length c6,.map (some b8)]) (m16:Sl μ0 a14 c15 def_11.Params) (m19:Sl μ0 a17 c18 def_11.Body) (m20:At μ0 b12 o13 [.int .i64 def_11.Kind,S def_11.Name,.int .i64 def_11.Typ.Kind,S def_11.Typ.Gen,.int .i64 def_11.Takes.Kind,S def_11.Takes.Gen,.int .i64 def_11.Cap,.slice a14 def_11.Params.length c15,.slice a17 def_11.Body.length c18]) (m24:Ms μ0 ms23 bloc_21) (h:sema_look fu prog_2 def_11 bloc_21 p_2=some r) (hS:Sq μ0 w0 w (.blk b1 154 [.pointer (some ⟨b3,o4,none⟩),.pointer (some ⟨b12,o13,none⟩),v22]::.row v22 151 1 bloc_21.length (cOf ms23)::(mRs ms23++rsF))):CallsV prog 97 [.pointer (some ⟨b1,0,none⟩),S p_2] w (fun v w'=>∃ (μ':M) ,v=.tuple ⟨[.agg ⟨[.int .i64 r.1.Kind,S r.1.Gen]⟩,.bool r.2]⟩∧Le μ0 μ'∧Sq μ' w0 w' (.blk b1 154 [.pointer (some ⟨b3,o4,none⟩),.pointer (some ⟨b12,o13,none⟩),v22]::.row v22 151 1 bloc_21.length (cOf ms23)::(mRs ms23++rsF))):=by
 unfold sema_look at h
 refine enter func97 rfl (frm:=_::_::u2 (u10 (u20 []))) rfl (nz ?_)
 refine wl (s_alloc ti31 hS ?_); clear hS; intro b25 w1 hb26 hS; refine po ?_
 refine st (ny (nz ?_))
 iterate 3 refine st ?_
 refine ld ((hS.blk d1).cell d2) (wl (su (u_lenv underlying152 (et (k10 d2)) (hS.get d2).isSl) (dt (q10 p3)) ?_))
 obtain ⟨i27,g28,h⟩:=bI h
 refine wl (su (u_subc (et (k10 d3)) ec g28) (dt (q10 p4)) (st (nw (cblock ?_))))
 replace hS:=(hS.bg Y2).bg Y2
 refine cloopE ([5]++rg 7 2++rg 15 18) (by decide +kernel) (fun n m w=>∃ μx i48,m=(yK5 (yO1 5 (.i (.int .i64 i48)::(yO2 7 (yK6 (yO10 15 (yO8 25 [])))))))∧sema_look_l1 p_2 bloc_21 n i48=some r∧Le μ0 μx∧Sq μx w0 w (.blk b1 154 [.pointer (some ⟨b3,o4,none⟩),.pointer (some ⟨b12,o13,none⟩),v22]::.row v22 151 1 bloc_21.length (cOf ms23)::.blk b25 31 [.int .i64 0,S []]::(mRs ms23++rsF))) (by rintro _ _ _ ⟨_,_,rfl,_⟩; rfl) _ _ (aK5 (aO1 (aI (aO2 (aK6 (aO10 (aO8 aZ))))))) ⟨_,i27,rfl,h,Le.r,hS⟩ ?_
 rintro n_1 _ t w2 ⟨μ1,i48,rfl,h,le68,hS⟩
 cases n_1 with
 | zero=>cases h
 | succ n_1 =>
 unfold sema_look_l1 at h
 refine cnrm (mK5 (mO1 (mi (mO2 (mK6 (mO10 (mO8 mz))))))) (cseq (nz ?_))
 iterate 2 refine st ?_
 refine nw ?_
 refine cifd (et (k10 d6)) (fun h69=>?_) (fun h69=>?_)
 ·replace h:=iT h69 h
  refine cskip (xn (cseq (cblock (nz ?_))))
  iterate 3 refine st ?_
  refine ld ((hS.blk d0).cell d2) (st ?_)
  obtain ⟨x70,g71,h⟩:=bI h
  obtain ⟨b72,o73,b74,es75,c76,e77,f78,hms79,mq80⟩:=Row.mapElem (hS.get d1) (m24.up le68) g71
  refine wl (su (u_iax underlying152 ti151 (et (k20 d3)) (et (k20 d4)) e77) (dt (q20 p5)) (ld ((f78 _ _ (hS.get d1)).one d0) (st ?_)))
  refine wl (s_mget2 (κ:=List UInt8) (k:=p_2) (β:=TType) (zx:=(TType.mk 0 [])) underlying151 underlying9 (et (k20 d6)) (et (k20 d7)) zv31 ⟨_,rfl,rfl⟩ (hS.mapAt (pre:=[_,_,_]) hms79) mq80 ?_); rintro _ ⟨_,rfl,rfl⟩; refine po ?_
  iterate 3 refine st ?_
  refine wl (s_alloc ti31 hS ?_); clear hS; intro b85 w3 hb86 hS; refine po ?_
  refine wl (s_storeA ti31 (et d7) (et (k20 d9)) rfl rfl hS d0 rfl p0 dn ?_)
  clear hS; intro w4 hS
  refine st (nx (st (nw ?_)))
  refine cifb (et (k30 d1)) (fun h87=>?_) (fun h87=>?_)
  ·replace h:=iT h87 h
   refine nz (lds (hS.blk d0).cells rfl (wl (s_storeA ti31 (et d4) (et (k30 d2)) rfl rfl hS d3 rfl p3 dn ?_)))
   clear hS; intro w5 hS
   refine st (nw (cret ?_))
   refine (fun h=>br (xr (xr (br (xr h))))) ?_
   obtain rfl:=oI h
   refine retN rfl (RVs.s (.a d4 ti31 (hS.blk d3).cells rfl) (RVs.s (.t d5) RVs.z)) ?_
   replace hS:=(hS.drop Rm.z).drop (Rm.s (Rm.s Rm.z))
   replace hS:Sq μ1 w0 _ (.blk b1 154 [.pointer (some ⟨b3,o4,none⟩),.pointer (some ⟨b12,o13,none⟩),v22]::.row v22 151 1 bloc_21.length (cOf ms23)::(mRs ms23++rsF)):=hS
   exact ⟨_,rfl,le68,hS⟩
  ·replace h:=iF h87 h
   refine cskip ?_
   refine (fun h=>bn (xn h)) ?_
   refine creg (st ?_)
   obtain ⟨i88,g89,h⟩:=bI h
   refine wl (su (u_subc (et (k10 d7)) ec g89) (dt (q10 p8)) (st (wnil (xl ?_))))
   replace hS:=hS.drop Rm.z
   exact ⟨n_1,_,_,rfl,(aK5 (aO1 (aI (aO2 (aK6 (aO10 (aO8 aZ))))))),⟨_,i88,rfl,h,le68,hS⟩,Nat.lt_succ_self _⟩
 ·replace h:=iF h69 h
  refine cexit ?_
  refine (fun h=>xe (xe (bh h))) ?_
  refine xn (nz (wl (s_build ti31 pl31 Fl.z (dt (q30 p3)) (wl (s_storeA ti31 (et d4) (et (k30 d3)) rfl rfl hS d2 rfl p2 dn ?_)))))
  clear hS; intro w6 hS
  refine st (nw (cret ?_))
  obtain rfl:=oI h
  refine retN rfl (RVs.s (.a d4 ti31 (hS.blk d2).cells rfl) (RVs.s (.t d5) RVs.z)) ?_
  replace hS:=hS.drop (Rm.s (Rm.s Rm.z))
  replace hS:Sq μ1 w0 _ (.blk b1 154 [.pointer (some ⟨b3,o4,none⟩),.pointer (some ⟨b12,o13,none⟩),v22]::.row v22 151 1 bloc_21.length (cOf ms23)::(mRs ms23++rsF)):=hS
  exact ⟨_,rfl,le68,hS⟩
structure SemaESound (sf:SemaE):Prop where
  sema_typed:∀ {μ0:M} {w0 w:World} {rsF:List Res} (hg:Le Gm μ0) {b1:Nat} {prog_2:TSp} {b3 o4:Nat} {a5:Option Addr} {c6 b8:Nat} {def_11:TDef} {b12 o13:Nat} {a14:Option Addr} {c15:Nat} {a17:Option Addr} {c18:Nat} {bloc_21:List (List (List UInt8×TType))} {v22:Value} {ms23:List (Nat×List MapEntry×Nat)} {p_2:TExpr} {b25 o26:Nat} {a27:Option Addr} {c28:Nat} {p_3:TType} {r:Int} (m7:Sl μ0 a5 c6 prog_2.defs) (m9:Mr μ0 b8 prog_2.named) (m10:At μ0 b3 o4 [.slice a5 prog_2.defs.length c6,.map (some b8)]) (m16:Sl μ0 a14 c15 def_11.Params) (m19:Sl μ0 a17 c18 def_11.Body) (m20:At μ0 b12 o13 [.int .i64 def_11.Kind,S def_11.Name,.int .i64 def_11.Typ.Kind,S def_11.Typ.Gen,.int .i64 def_11.Takes.Kind,S def_11.Takes.Gen,.int .i64 def_11.Cap,.slice a14 def_11.Params.length c15,.slice a17 def_11.Body.length c18]) (m24:Ms μ0 ms23 bloc_21) (m29:Sl μ0 a27 c28 p_2.Kids) (m30:At μ0 b25 o26 [.int .i64 p_2.Kind,.int .i64 p_2.N,S p_2.Name,.slice a27 p_2.Kids.length c28]) (h:sf.sema_typed prog_2 def_11 bloc_21 p_2 p_3=some r) (hS:Sq μ0 w0 w (.blk b1 154 [.pointer (some ⟨b3,o4,none⟩),.pointer (some ⟨b12,o13,none⟩),v22]::.row v22 151 1 bloc_21.length (cOf ms23)::(mRs ms23++rsF))),CallsV prog 98 [.pointer (some ⟨b1,0,none⟩),.pointer (some ⟨b25,o26,none⟩),.agg ⟨[.int .i64 p_3.Kind,S p_3.Gen]⟩] w (fun v w'=>∃ (μ':M) ,v=.int .i64 r∧Le μ0 μ'∧Sq μ' w0 w' (.blk b1 154 [.pointer (some ⟨b3,o4,none⟩),.pointer (some ⟨b12,o13,none⟩),v22]::.row v22 151 1 bloc_21.length (cOf ms23)::(mRs ms23++rsF)))
  sema_args:∀ {μ0:M} {w0 w:World} {rsF:List Res} (hg:Le Gm μ0) {b1:Nat} {prog_2:TSp} {b3 o4:Nat} {a5:Option Addr} {c6 b8:Nat} {def_11:TDef} {b12 o13:Nat} {a14:Option Addr} {c15:Nat} {a17:Option Addr} {c18:Nat} {bloc_21:List (List (List UInt8×TType))} {v22:Value} {ms23:List (Nat×List MapEntry×Nat)} {p_2:TExpr} {b25 o26:Nat} {a27:Option Addr} {c28:Nat} {p_3:Int} {r:Option TDef×Int} (m7:Sl μ0 a5 c6 prog_2.defs) (m9:Mr μ0 b8 prog_2.named) (m10:At μ0 b3 o4 [.slice a5 prog_2.defs.length c6,.map (some b8)]) (m16:Sl μ0 a14 c15 def_11.Params) (m19:Sl μ0 a17 c18 def_11.Body) (m20:At μ0 b12 o13 [.int .i64 def_11.Kind,S def_11.Name,.int .i64 def_11.Typ.Kind,S def_11.Typ.Gen,.int .i64 def_11.Takes.Kind,S def_11.Takes.Gen,.int .i64 def_11.Cap,.slice a14 def_11.Params.length c15,.slice a17 def_11.Body.length c18]) (m24:Ms μ0 ms23 bloc_21) (m29:Sl μ0 a27 c28 p_2.Kids) (m30:At μ0 b25 o26 [.int .i64 p_2.Kind,.int .i64 p_2.N,S p_2.Name,.slice a27 p_2.Kids.length c28]) (h:sf.sema_args prog_2 def_11 bloc_21 p_2 p_3=some r) (hS:Sq μ0 w0 w (.blk b1 154 [.pointer (some ⟨b3,o4,none⟩),.pointer (some ⟨b12,o13,none⟩),v22]::.row v22 151 1 bloc_21.length (cOf ms23)::(mRs ms23++rsF))),CallsV prog 110 [.pointer (some ⟨b1,0,none⟩),.pointer (some ⟨b25,o26,none⟩),.int .i64 p_3] w (fun v w'=>∃ (μ':M) (v31:Value),v=.tuple ⟨[v31,.int .i64 r.2]⟩∧Le μ0 μ'∧Sq μ' w0 w' (.blk b1 154 [.pointer (some ⟨b3,o4,none⟩),.pointer (some ⟨b12,o13,none⟩),v22]::.row v22 151 1 bloc_21.length (cOf ms23)::(mRs ms23++rsF))∧Np μ' v31 r.1)
  sema_both:∀ {μ0:M} {w0 w:World} {rsF:List Res} (hg:Le Gm μ0) {b1:Nat} {prog_2:TSp} {b3 o4:Nat} {a5:Option Addr} {c6 b8:Nat} {def_11:TDef} {b12 o13:Nat} {a14:Option Addr} {c15:Nat} {a17:Option Addr} {c18:Nat} {bloc_21:List (List (List UInt8×TType))} {v22:Value} {ms23:List (Nat×List MapEntry×Nat)} {p_2:TExpr} {b25 o26:Nat} {a27:Option Addr} {c28:Nat} {r:TType×Int} (m7:Sl μ0 a5 c6 prog_2.defs) (m9:Mr μ0 b8 prog_2.named) (m10:At μ0 b3 o4 [.slice a5 prog_2.defs.length c6,.map (some b8)]) (m16:Sl μ0 a14 c15 def_11.Params) (m19:Sl μ0 a17 c18 def_11.Body) (m20:At μ0 b12 o13 [.int .i64 def_11.Kind,S def_11.Name,.int .i64 def_11.Typ.Kind,S def_11.Typ.Gen,.int .i64 def_11.Takes.Kind,S def_11.Takes.Gen,.int .i64 def_11.Cap,.slice a14 def_11.Params.length c15,.slice a17 def_11.Body.length c18]) (m24:Ms μ0 ms23 bloc_21) (m29:Sl μ0 a27 c28 p_2.Kids) (m30:At μ0 b25 o26 [.int .i64 p_2.Kind,.int .i64 p_2.N,S p_2.Name,.slice a27 p_2.Kids.length c28]) (h:sf.sema_both prog_2 def_11 bloc_21 p_2=some r) (hS:Sq μ0 w0 w (.blk b1 154 [.pointer (some ⟨b3,o4,none⟩),.pointer (some ⟨b12,o13,none⟩),v22]::.row v22 151 1 bloc_21.length (cOf ms23)::(mRs ms23++rsF))),CallsV prog 109 [.pointer (some ⟨b1,0,none⟩),.pointer (some ⟨b25,o26,none⟩)] w (fun v w'=>∃ (μ':M) ,v=.tuple ⟨[.agg ⟨[.int .i64 r.1.Kind,S r.1.Gen]⟩,.int .i64 r.2]⟩∧Le μ0 μ'∧Sq μ' w0 w' (.blk b1 154 [.pointer (some ⟨b3,o4,none⟩),.pointer (some ⟨b12,o13,none⟩),v22]::.row v22 151 1 bloc_21.length (cOf ms23)::(mRs ms23++rsF)))
  sema_handle:∀ {μ0:M} {w0 w:World} {rsF:List Res} (hg:Le Gm μ0) {b1:Nat} {prog_2:TSp} {b3 o4:Nat} {a5:Option Addr} {c6 b8:Nat} {def_11:TDef} {b12 o13:Nat} {a14:Option Addr} {c15:Nat} {a17:Option Addr} {c18:Nat} {bloc_21:List (List (List UInt8×TType))} {v22:Value} {ms23:List (Nat×List MapEntry×Nat)} {p_2:TExpr} {b25 o26:Nat} {a27:Option Addr} {c28:Nat} {r:Option TDef×Int} (m7:Sl μ0 a5 c6 prog_2.defs) (m9:Mr μ0 b8 prog_2.named) (m10:At μ0 b3 o4 [.slice a5 prog_2.defs.length c6,.map (some b8)]) (m16:Sl μ0 a14 c15 def_11.Params) (m19:Sl μ0 a17 c18 def_11.Body) (m20:At μ0 b12 o13 [.int .i64 def_11.Kind,S def_11.Name,.int .i64 def_11.Typ.Kind,S def_11.Typ.Gen,.int .i64 def_11.Takes.Kind,S def_11.Takes.Gen,.int .i64 def_11.Cap,.slice a14 def_11.Params.length c15,.slice a17 def_11.Body.length c18]) (m24:Ms μ0 ms23 bloc_21) (m29:Sl μ0 a27 c28 p_2.Kids) (m30:At μ0 b25 o26 [.int .i64 p_2.Kind,.int .i64 p_2.N,S p_2.Name,.slice a27 p_2.Kids.length c28]) (h:sf.sema_handle prog_2 def_11 bloc_21 p_2=some r) (hS:Sq μ0 w0 w (.blk b1 154 [.pointer (some ⟨b3,o4,none⟩),.pointer (some ⟨b12,o13,none⟩),v22]::.row v22 151 1 bloc_21.length (cOf ms23)::(mRs ms23++rsF))),CallsV prog 111 [.pointer (some ⟨b1,0,none⟩),.pointer (some ⟨b25,o26,none⟩)] w (fun v w'=>∃ (μ':M) (v31:Value),v=.tuple ⟨[v31,.int .i64 r.2]⟩∧Le μ0 μ'∧Sq μ' w0 w' (.blk b1 154 [.pointer (some ⟨b3,o4,none⟩),.pointer (some ⟨b12,o13,none⟩),v22]::.row v22 151 1 bloc_21.length (cOf ms23)::(mRs ms23++rsF))∧Np μ' v31 r.1)
  sema_expr:∀ {μ0:M} {w0 w:World} {rsF:List Res} (hg:Le Gm μ0) {b1:Nat} {prog_2:TSp} {b3 o4:Nat} {a5:Option Addr} {c6 b8:Nat} {def_11:TDef} {b12 o13:Nat} {a14:Option Addr} {c15:Nat} {a17:Option Addr} {c18:Nat} {bloc_21:List (List (List UInt8×TType))} {v22:Value} {ms23:List (Nat×List MapEntry×Nat)} {p_2:TExpr} {b25 o26:Nat} {a27:Option Addr} {c28:Nat} {r:TType×Int} (m7:Sl μ0 a5 c6 prog_2.defs) (m9:Mr μ0 b8 prog_2.named) (m10:At μ0 b3 o4 [.slice a5 prog_2.defs.length c6,.map (some b8)]) (m16:Sl μ0 a14 c15 def_11.Params) (m19:Sl μ0 a17 c18 def_11.Body) (m20:At μ0 b12 o13 [.int .i64 def_11.Kind,S def_11.Name,.int .i64 def_11.Typ.Kind,S def_11.Typ.Gen,.int .i64 def_11.Takes.Kind,S def_11.Takes.Gen,.int .i64 def_11.Cap,.slice a14 def_11.Params.length c15,.slice a17 def_11.Body.length c18]) (m24:Ms μ0 ms23 bloc_21) (m29:Sl μ0 a27 c28 p_2.Kids) (m30:At μ0 b25 o26 [.int .i64 p_2.Kind,.int .i64 p_2.N,S p_2.Name,.slice a27 p_2.Kids.length c28]) (h:sf.sema_expr prog_2 def_11 bloc_21 p_2=some r) (hS:Sq μ0 w0 w (.blk b1 154 [.pointer (some ⟨b3,o4,none⟩),.pointer (some ⟨b12,o13,none⟩),v22]::.row v22 151 1 bloc_21.length (cOf ms23)::(mRs ms23++rsF))),CallsV prog 96 [.pointer (some ⟨b1,0,none⟩),.pointer (some ⟨b25,o26,none⟩)] w (fun v w'=>∃ (μ':M) ,v=.tuple ⟨[.agg ⟨[.int .i64 r.1.Kind,S r.1.Gen]⟩,.int .i64 r.2]⟩∧Le μ0 μ'∧Sq μ' w0 w' (.blk b1 154 [.pointer (some ⟨b3,o4,none⟩),.pointer (some ⟨b12,o13,none⟩),v22]::.row v22 151 1 bloc_21.length (cOf ms23)::(mRs ms23++rsF)))
theorem sema_typed_w {self:SemaE} (IH:SemaESound self) {μ0:M} {w0 w:World} {rsF:List Res} (hg:Le Gm μ0) {b1:Nat} {prog_2:TSp} {b3 o4:Nat} {a5:Option Addr} {c6 b8:Nat} {def_11:TDef} {b12 o13:Nat} {a14:Option Addr} {c15:Nat} {a17:Option Addr} {c18:Nat} {bloc_21:List (List (List UInt8×TType))} {v22:Value} {ms23:List (Nat×List MapEntry×Nat)} {p_2:TExpr} {b25 o26:Nat} {a27:Option Addr} {c28:Nat} {p_3:TType} {r:Int} (m7:Sl μ0 a5 c6 prog_2.defs) (m9:Mr μ0 b8 prog_2.named) (m10:At μ0 b3 o4 [.slice a5 prog_2.defs.length c6,.map (some b8)]) (m16:Sl μ0 a14 c15 def_11.Params) (m19:Sl μ0 a17 c18 def_11.Body) (m20:At μ0 b12 o13 [.int .i64 def_11.Kind,S def_11.Name,.int .i64 def_11.Typ.Kind,S def_11.Typ.Gen,.int .i64 def_11.Takes.Kind,S def_11.Takes.Gen,.int .i64 def_11.Cap,.slice a14 def_11.Params.length c15,.slice a17 def_11.Body.length c18]) (m24:Ms μ0 ms23 bloc_21) (m29:Sl μ0 a27 c28 p_2.Kids) (m30:At μ0 b25 o26 [.int .i64 p_2.Kind,.int .i64 p_2.N,S p_2.Name,.slice a27 p_2.Kids.length c28]) (h:sema_typed self prog_2 def_11 bloc_21 p_2 p_3=some r) (hS:Sq μ0 w0 w (.blk b1 154 [.pointer (some ⟨b3,o4,none⟩),.pointer (some ⟨b12,o13,none⟩),v22]::.row v22 151 1 bloc_21.length (cOf ms23)::(mRs ms23++rsF))):CallsV prog 98 [.pointer (some ⟨b1,0,none⟩),.pointer (some ⟨b25,o26,none⟩),.agg ⟨[.int .i64 p_3.Kind,S p_3.Gen]⟩] w (fun v w'=>∃ (μ':M) ,v=.int .i64 r∧Le μ0 μ'∧Sq μ' w0 w' (.blk b1 154 [.pointer (some ⟨b3,o4,none⟩),.pointer (some ⟨b12,o13,none⟩),v22]::.row v22 151 1 bloc_21.length (cOf ms23)::(mRs ms23++rsF))):=by
 unfold sema_typed at h
 refine enter func98 rfl (frm:=_::_::_::u1 (u20 [])) rfl (nz ?_)
 refine wl (s_box (et d2) rfl hS ?_); clear hS; intro b31 w1 hb32 hS; refine po ?_
 refine st (nx ?_)
 iterate 2 refine st ?_
 obtain ⟨r33,g34,h⟩:=bI h
 replace hS:=(hS.bg Y2).bg Y2
 replace hS:=Sep.mOut (a:=[_,_]) (p:=[_]) (M:=mRs ms23) (R:=rsF) hS
 refine ca (IH.sema_expr hg m7 m9 m10 m16 m19 m20 m24 m29 m30 g34 hS) ?_
 rintro _ w2 ⟨μ1,rfl,le35,hS⟩
 replace hS:=Sep.mOut (a:=[_,_]) (p:=mRs ms23) (M:=[_]) (R:=rsF) hS
 refine po ?_
 iterate 3 refine st ?_
 refine wl (s_alloc ti31 hS ?_); clear hS; intro b36 w3 hb37 hS; refine po ?_
 refine wl (s_storeA ti31 (et d7) (et (k10 d3)) rfl rfl hS d0 rfl p0 dn ?_)
 clear hS; intro w4 hS
 refine st (ny (cseq ?_))
 refine ccutE (rg 15 7) (by decide) (fun m w=>∃ μx b38,m=(yK10 (yK5 (yO7 15 (.i (.bool b38)::[]))))∧sema_typed_j1 r33 b38=some r∧Le μ1 μx∧Sq μx w0 w (.blk b1 154 [.pointer (some ⟨b3,o4,none⟩),.pointer (some ⟨b12,o13,none⟩),v22]::.row v22 151 1 bloc_21.length (cOf ms23)::(mRs ms23++rsF))) (by rintro _ _ ⟨_,_,rfl,_⟩; rfl) ?_ ?_
 ·refine cdw hS ?_; clear hS; intro w5 hS
  refine sf_start (fpi 0 [0,1,2,3,4,5,6,7] rfl (fpi 1 [1,2,3,4,5,6,7] rfl (fpi 2 [2,3,4,5,6,7] rfl ?_)))
  refine sfsd (k10 d7) (q10 p7) (q10 p7) (fun h39=>?_) (fun h39=>?_)
  ·replace h:=iT h39 h
   refine fr_Y 3 [3,6,7] rfl rfl (k10 d7) (u_loads ti31 (et d7) (hS.blk d0).cells rfl) (q10 p8) (fr_Y 4 [4,5,6,7] rfl rfl (k10 d7) (u_loads ti31 (et d5) (hS.blk d3).cells rfl) (q10 p9) ?_)
   obtain ⟨r40,g41,h⟩:=bI h
   refine sf1 rfl rfl rfl rfl (wanted_t rfl rfl (k10 d7)) (s_callv isfn64 ef (e1 (et (k10 d9)) e0) (sema_bare_w (hg.t le35) g41 hS) ?_)
   rintro _ w6 ⟨μ2,rfl,le42,hS⟩
   refine po ?_
   refine ⟨(Mons.s (u_loads ti31 (et d7) (hS.blk d0).cells rfl) Mons.z),?_⟩
   refine fpY 6 [6,7] rfl rfl (k10 d7) (u_nea (ES.mk underlying31 eh31 eg31) (et (k10 d8)) (et (k20 d0)) (EqFs.o rfl rfl rfl ti3 d0 d0 (eq_int underlying3) (EqFs.o rfl rfl rfl ti9 d1 d1 (eq_str underlying9) EqFs.z)) rfl) (q20 p1) (fpi 7 [7] rfl (sf_nil (xl ?_)))
   replace hS:=(hS.drop Rm.z).drop (Rm.s (Rm.s Rm.z))
   exact ⟨_,_,rfl,(aK10 (aK5 (aO7 (aI aZ)))),_,(!(andL [(decide (r33.1.Kind=r40.Kind)),(decide (r33.1.Gen=r40.Gen))])),rfl,h,le42,hS⟩
  ·replace h:=iF h39 h
   refine fpN 3 [3,6,7] rfl rfl (k10 d7) rfl (q10 p8) (fpN 4 [4,5,6,7] rfl rfl (k10 d7) rfl (q10 p9) (fpN 5 [5,6,7] rfl rfl (k10 d7) rfl (q20 p0) (fpN 6 [6,7] rfl rfl (k10 d7) rfl (q20 p1) (fpi 7 [7] rfl (sf_nil (xl ?_))))))
   replace hS:=(hS.drop Rm.z).drop (Rm.s (Rm.s Rm.z))
   exact ⟨_,_,rfl,(aK10 (aK5 (aO7 (aI aZ)))),_,false,rfl,h,Le.r,hS⟩
 ·rintro _ t w7 ⟨μ3,b38,rfl,h,le43,hS⟩
  unfold sema_typed_j1 at h
  refine nrm (mK10 (mK5 (mO7 (mi mz)))) (xn ?_)
  refine ccutE ([]) (by decide) (fun m w=>∃ μx i44,m=(yK8 (.i (.int .i64 i44)::[]))∧sema_typed_j2 i44=some r∧Le μ3 μx∧Sq μx w0 w (.blk b1 154 [.pointer (some ⟨b3,o4,none⟩),.pointer (some ⟨b12,o13,none⟩),v22]::.row v22 151 1 bloc_21.length (cOf ms23)::(mRs ms23++rsF))) (by rintro _ _ ⟨_,_,rfl,_⟩; rfl) ?_ ?_
  ·refine cifb (et (k20 d2)) (fun h45=>?_) (fun h45=>?_)
   ·replace h:=iT h45 h
    refine creg (st (wnil (xl ?_)))
    exact ⟨_,_,rfl,(aK8 (aI aZ)),_,9,rfl,h,Le.r,hS⟩
   ·replace h:=iF h45 h
    refine cskip (xl ?_)
    exact ⟨_,_,rfl,(aK8 (aI aZ)),_,r33.2,rfl,h,Le.r,hS⟩
  ·rintro _ t w8 ⟨μ4,i44,rfl,h,le46,hS⟩
   unfold sema_typed_j2 at h
   refine nrm (mK8 (mi mz)) (xn (nz ?_))
   iterate 2 refine st ?_
   refine nw (cret ?_)
   obtain rfl:=oI h
   refine ret1 rfl d6 ?_
   replace hS:Sq μ4 w0 _ (.blk b1 154 [.pointer (some ⟨b3,o4,none⟩),.pointer (some ⟨b12,o13,none⟩),v22]::.row v22 151 1 bloc_21.length (cOf ms23)::(mRs ms23++rsF)):=hS
   exact ⟨_,rfl,(le35.t (le43.t le46)),hS⟩
theorem sema_args_w {self:SemaE} (IH:SemaESound self) {μ0:M} {w0 w:World} {rsF:List Res} (hg:Le Gm μ0) {b1:Nat} {prog_2:TSp} {b3 o4:Nat} {a5:Option Addr} {c6 b8:Nat} {def_11:TDef} {b12 o13:Nat} {a14:Option Addr} {c15:Nat} {a17:Option Addr} {c18:Nat} {bloc_21:List (List (List UInt8×TType))} {v22:Value} {ms23:List (Nat×List MapEntry×Nat)} {p_2:TExpr} {b25 o26:Nat} {a27:Option Addr} {c28:Nat} {p_3:Int} {r:Option TDef×Int} (m7:Sl μ0 a5 c6 prog_2.defs) (m9:Mr μ0 b8 prog_2.named) (m10:At μ0 b3 o4 [.slice a5 prog_2.defs.length c6,.map (some b8)]) (m16:Sl μ0 a14 c15 def_11.Params) (m19:Sl μ0 a17 c18 def_11.Body) (m20:At μ0 b12 o13 [.int .i64 def_11.Kind,S def_11.Name,.int .i64 def_11.Typ.Kind,S def_11.Typ.Gen,.int .i64 def_11.Takes.Kind,S def_11.Takes.Gen,.int .i64 def_11.Cap,.slice a14 def_11.Params.length c15,.slice a17 def_11.Body.length c18]) (m24:Ms μ0 ms23 bloc_21) (m29:Sl μ0 a27 c28 p_2.Kids) (m30:At μ0 b25 o26 [.int .i64 p_2.Kind,.int .i64 p_2.N,S p_2.Name,.slice a27 p_2.Kids.length c28]) (h:sema_args self prog_2 def_11 bloc_21 p_2 p_3=some r) (hS:Sq μ0 w0 w (.blk b1 154 [.pointer (some ⟨b3,o4,none⟩),.pointer (some ⟨b12,o13,none⟩),v22]::.row v22 151 1 bloc_21.length (cOf ms23)::(mRs ms23++rsF))):CallsV prog 110 [.pointer (some ⟨b1,0,none⟩),.pointer (some ⟨b25,o26,none⟩),.int .i64 p_3] w (fun v w'=>∃ (μ':M) (v31:Value),v=.tuple ⟨[v31,.int .i64 r.2]⟩∧Le μ0 μ'∧Sq μ' w0 w' (.blk b1 154 [.pointer (some ⟨b3,o4,none⟩),.pointer (some ⟨b12,o13,none⟩),v22]::.row v22 151 1 bloc_21.length (cOf ms23)::(mRs ms23++rsF))∧Np μ' v31 r.1):=by
 unfold sema_args at h
 refine enter func110 rfl (frm:=_::_::_::u1 (u2 (u10 (u50 [])))) rfl (nz ?_)
 iterate 2 refine st ?_
 refine ny ?_
 refine cdw hS ?_; clear hS; intro w1 hS
 refine cpi 0 rfl (cpi 1 rfl (cpi 2 rfl (cpi 4 rfl (cpi 5 rfl (cpi 6 rfl (cpi 7 rfl (cr 3 [3,9,10,11,12,13,14] rfl (u_load ti67 (et (k10 d6)) ((hS.blk d0).cell d0)) (q10 p7) (cr 8 [8,9,10,11,12,13,14] rfl (u_load ti9 (et (k20 d1)) ((m30 _ hS.a).one d2)) (q20 p2) ?_))))))))
 obtain ⟨r33,g34,h⟩:=bI h
 refine sc1 rfl rfl rfl (s_callv isfn79 ef (e1 (et (k10 d7)) (e1 (et (k10 d8)) (e1 (et (k20 d2)) e0))) (sema_find_w hg m7 m9 m10 g34 hS) ?_)
 rintro _ w2 ⟨μ1,v36,rfl,le35,hS,m37⟩
 refine po (cpi 10 rfl (cpi 11 rfl (cpi 12 rfl (cpi 13 rfl (cpi 14 rfl (nu (cseq (cblock (nz ?_)))))))))
 iterate 3 refine st ?_
 refine nw ?_
 refine cifnb (et (k20 d6)) (fun h38=>?_) (fun h38=>?_)
 ·replace h:=iF h38 h
  refine nz ?_
  iterate 2 refine st ?_
  refine nw (cret ?_)
  refine (fun h=>br (xr h)) ?_
  obtain rfl:=oI h
  refine ret2 rfl d6 d7 ?_
  replace hS:Sq μ1 w0 _ (.blk b1 154 [.pointer (some ⟨b3,o4,none⟩),.pointer (some ⟨b12,o13,none⟩),v22]::.row v22 151 1 bloc_21.length (cOf ms23)::(mRs ms23++rsF)):=hS
  exact ⟨_,(.pointer none),rfl,le35,hS,rfl⟩
 ·replace h:=iT h38 h
  refine cseq ?_
  refine ccutE (rg 30 11) (by decide) (fun m w=>∃ μx b49,m=(yK20 (yK9 (.i (.bool b49)::(yO10 30 (yO1 40 [])))))∧sema_args_j1 self p_2 prog_2 def_11 bloc_21 r33 b49=some r∧Le μ1 μx∧Sq μx w0 w (.blk b1 154 [.pointer (some ⟨b3,o4,none⟩),.pointer (some ⟨b12,o13,none⟩),v22]::.row v22 151 1 bloc_21.length (cOf ms23)::(mRs ms23++rsF))) (by rintro _ _ ⟨_,_,rfl,_⟩; rfl) ?_ ?_
  ·refine cdw hS ?_; clear hS; intro w3 hS
   refine cpi 0 rfl ?_
   obtain ⟨x50,g51,h⟩:=bI h
   obtain ⟨b52,o53,cs54,rfl,f55,m56⟩:=Np.get m37 g51
   obtain ⟨a57,c58,a60,c61,rfl,m59,m62⟩:=m56
   refine cpi 1 rfl (cpi 2 rfl (cpi 5 rfl (cpi 6 rfl (cpi 7 rfl ?_))))
   refine sc2G (i:=3) (j:=8) rfl rfl rfl rfl rfl (wn0 rfl) (wn0 rfl) ?_ ?_
   ·refine id (s_load ti32 (et (k30 d2)) ((f55 _ hS.a).one d7) (dt (q30 p3)) (cp 4 rfl (u_lensl underlying32 (et (k30 d3))) (q30 p4) (cr 8 [8,9,10,11] rfl (u_load ti116 (et (k30 d7)) ((m30 _ (le35 _ hS.a)).one d3)) (q30 p8) (cp 9 rfl (u_lensl underlying116 (et (k30 d8))) (q30 p9) (cpi 10 rfl (cpi 11 rfl (sc_nil (xl ?_))))))))
    exact ⟨_,_,rfl,(aK20 (aK9 (aI (aO10 (aO1 aZ))))),_,(decide ((x50.Params.length:Int)≠(p_2.Kids.length:Int))),rfl,h,Le.r,hS⟩
   ·refine id (s_load ti116 (et (k30 d7)) ((m30 _ (le35 _ hS.a)).one d3) (dt (q30 p8)) (cp 9 rfl (u_lensl underlying116 (et (k30 d8))) (q30 p9) (cr 3 [3,4,10,11] rfl (u_load ti32 (et (k30 d2)) ((f55 _ hS.a).one d7)) (q30 p3) (cp 4 rfl (u_lensl underlying32 (et (k30 d3))) (q30 p4) (cpi 10 rfl (cpi 11 rfl (sc_nil (xl ?_))))))))
    exact ⟨_,_,rfl,(aK20 (aK9 (aI (aO10 (aO1 aZ))))),_,(decide ((x50.Params.length:Int)≠(p_2.Kids.length:Int))),rfl,h,Le.r,hS⟩
  ·rintro _ t w4 ⟨μ2,b49,rfl,h,le63,hS⟩
   unfold sema_args_j1 at h
   refine nrm (mK20 (mK9 (mi (mO10 (mO1 mz))))) (xn ?_)
   refine cifb (et (k20 d9)) (fun h64=>?_) (fun h64=>?_)
   ·replace h:=iT h64 h
    refine nz ?_
    iterate 2 refine st ?_
    refine nw (cret ?_)
    refine (fun h=>br (xr h)) ?_
    obtain rfl:=oI h
    refine ret2 rfl d6 d7 ?_
    replace hS:Sq μ2 w0 _ (.blk b1 154 [.pointer (some ⟨b3,o4,none⟩),.pointer (some ⟨b12,o13,none⟩),v22]::.row v22 151 1 bloc_21.length (cOf ms23)::(mRs ms23++rsF)):=hS
    exact ⟨_,(.pointer none),rfl,(le35.t le63),hS,rfl⟩
   ·replace h:=iF h64 h
    refine cskip ?_
    refine (fun h=>bn (xn h)) ?_
    refine cseq (nz (st ?_))
    obtain ⟨x65,g66,h⟩:=bI h
    obtain ⟨b67,o68,cs69,rfl,f70,m71⟩:=Np.get (m37.up le63) g66
    obtain ⟨a72,c73,a75,c76,rfl,m74,m77⟩:=m71
    iterate 2 refine st ?_
    refine ld ((f70 _ hS.a).one d7) (wl (su (u_lensl underlying32 (et (k40 d4))) (dt (q40 p5)) (st (nw (cblock ?_)))))
    refine cloopE (rg 6 2++rg 10 3++rg 47 18) (by decide +kernel) (fun n m w=>∃ μx i104,m=(yK6 (yO2 6 (yK2 (yO3 10 (yK20 (yK10 (yK3 (.i (.int .i64 i104)::(yO10 47 (yO8 57 []))))))))))∧sema_args_l1 self p_2 prog_2 def_11 bloc_21 r33 x65 n i104=some r∧Le μ2 μx∧Sq μx w0 w (.blk b1 154 [.pointer (some ⟨b3,o4,none⟩),.pointer (some ⟨b12,o13,none⟩),v22]::.row v22 151 1 bloc_21.length (cOf ms23)::(mRs ms23++rsF))) (by rintro _ _ _ ⟨_,_,rfl,_⟩; rfl) _ _ (aK6 (aO2 (aK2 (aO3 (aK20 (aK10 (aK3 (aI (aO10 (aO8 aZ)))))))))) ⟨_,0,rfl,h,Le.r,hS⟩ ?_
    rintro n_1 _ t w5 ⟨μ3,i104,rfl,h,le131,hS⟩
    cases n_1 with
    | zero=>cases h
    | succ n_1 =>
    unfold sema_args_l1 at h
    refine cnrm (mK6 (mO2 (mK2 (mO3 (mK20 (mK10 (mK3 (mi (mO10 (mO8 mz)))))))))) (nz (st (ny ?_)))
    refine cifd (et (k40 d7)) (fun h132=>?_) (fun h132=>?_)
    ·replace h:=iT h132 h
     refine cskip (xn (cseq (cblock (nz (st ?_)))))
     obtain ⟨x133,g134,h⟩:=bI h
     obtain ⟨b135,o136,cs137,e138,f139,m140⟩:=SlR.elem (m74.up le131) g134
     obtain rfl:=m140
     refine wl (su (u_iax underlying32 ti82 (et (k40 d4)) (et (k40 d6)) e138) (dt (q40 p9)) (lds (f139 _ hS.a) rfl ?_))
     refine wl (s_alloc ti82 hS ?_); clear hS; intro b141 w6 hb142 hS; refine po ?_
     refine st (wl (s_storeA ti82 (et (k10 d1)) (et (k50 d0)) rfl rfl hS d0 rfl p0 dn ?_))
     clear hS; intro w7 hS
     refine ny ?_
     refine cdw hS ?_; clear hS; intro w8 hS
     refine cpi 0 rfl (cpi 1 rfl (cpi 2 rfl (cpi 3 rfl (cpi 5 rfl (cpi 7 rfl (cr 4 [4,6,9,10] rfl (u_load ti116 (et (k50 d4)) ((m30 _ ((le35.t (le63.t le131)) _ hS.a)).one d3)) (q50 p5) ?_))))))
     obtain ⟨x143,g144,h⟩:=bI h
     obtain ⟨b145,o146,cs147,e148,f149,m150⟩:=SlR.elem (m29.up (le35.t (le63.t le131))) g144
     obtain ⟨a151,c152,rfl,m153⟩:=TExpr.o m150
     refine cp 6 rfl (u_iax underlying116 ti118 (et (k50 d5)) (et (k50 d6)) e148) (q50 p7) (cr 8 [8,9,10] rfl (u_loads ti31 (et (k50 d8)) ((hS.blk d0).cellsAt (Sb.s d1 (Sb.s d2 Sb.z))) rfl) (q50 p9) ?_)
     obtain ⟨r154,g155,h⟩:=bI h
     replace hS:=(hS.bg Y2).bg Y2
     replace hS:=Sep.mOut (a:=[_,_]) (p:=[_]) (M:=mRs ms23) (R:=rsF) hS
     refine sc1 rfl rfl rfl (s_callv isfn98 ef (e1 (et (k50 d1)) (e1 (et (k50 d7)) (e1 (et (k50 d9)) e0))) (IH.sema_typed (hg.t (le35.t (le63.t le131))) (m7.up (le35.t (le63.t le131))) (m9.up (le35.t (le63.t le131))) (m10.up (le35.t (le63.t le131))) (m16.up (le35.t (le63.t le131))) (m19.up (le35.t (le63.t le131))) (m20.up (le35.t (le63.t le131))) (m24.up (le35.t (le63.t le131))) m153 f149 g155 hS) ?_)
     rintro _ w9 ⟨μ4,rfl,le156,hS⟩
     replace hS:=Sep.mOut (a:=[_,_]) (p:=mRs ms23) (M:=[_]) (R:=rsF) hS
     refine po (cpi 10 rfl (nu (nz ?_)))
     iterate 2 refine st ?_
     refine nw ?_
     refine cifd (et (k60 d2)) (fun h157=>?_) (fun h157=>?_)
     ·replace h:=iT h157 h
      refine nz ?_
      iterate 3 refine st ?_
      refine nw (cret ?_)
      refine (fun h=>br (xr (xr (br (xr h))))) ?_
      obtain rfl:=oI h
      refine ret2 rfl d6 d7 ?_
      replace hS:=hS.drop (Rm.s (Rm.s Rm.z))
      replace hS:Sq μ4 w0 _ (.blk b1 154 [.pointer (some ⟨b3,o4,none⟩),.pointer (some ⟨b12,o13,none⟩),v22]::.row v22 151 1 bloc_21.length (cOf ms23)::(mRs ms23++rsF)):=hS
      exact ⟨_,(.pointer none),rfl,(le35.t (le63.t (le131.t le156))),hS,rfl⟩
     ·replace h:=iF h157 h
      refine cskip ?_
      refine (fun h=>bn (xn h)) ?_
      refine creg ?_
      obtain ⟨i158,g159,h⟩:=bI h
      refine wl (su (u_addc (et (k40 d6)) ec g159) (dt (q60 p4)) (st (wnil (xl ?_))))
      replace hS:=hS.drop (Rm.s (Rm.s Rm.z))
      exact ⟨n_1,_,_,rfl,(aK6 (aO2 (aK2 (aO3 (aK20 (aK10 (aK3 (aI (aO10 (aO8 aZ)))))))))),⟨_,i158,rfl,h,(le131.t le156),hS⟩,Nat.lt_succ_self _⟩
    ·replace h:=iF h132 h
     refine cexit ?_
     refine (fun h=>xe (xe (bh h))) ?_
     refine xn (nz ?_)
     iterate 3 refine st ?_
     refine nw (cret ?_)
     obtain rfl:=oI h
     refine ret2 rfl d6 d7 ?_
     replace hS:Sq μ3 w0 _ (.blk b1 154 [.pointer (some ⟨b3,o4,none⟩),.pointer (some ⟨b12,o13,none⟩),v22]::.row v22 151 1 bloc_21.length (cOf ms23)::(mRs ms23++rsF)):=hS
     exact ⟨_,(.pointer (some ⟨b67,o68,none⟩)),rfl,(le35.t (le63.t le131)),hS,(m37.up (le63.t le131))⟩
theorem sema_both_w {self:SemaE} (IH:SemaESound self) {μ0:M} {w0 w:World} {rsF:List Res} (hg:Le Gm μ0) {b1:Nat} {prog_2:TSp} {b3 o4:Nat} {a5:Option Addr} {c6 b8:Nat} {def_11:TDef} {b12 o13:Nat} {a14:Option Addr} {c15:Nat} {a17:Option Addr} {c18:Nat} {bloc_21:List (List (List UInt8×TType))} {v22:Value} {ms23:List (Nat×List MapEntry×Nat)} {p_2:TExpr} {b25 o26:Nat} {a27:Option Addr} {c28:Nat} {r:TType×Int} (m7:Sl μ0 a5 c6 prog_2.defs) (m9:Mr μ0 b8 prog_2.named) (m10:At μ0 b3 o4 [.slice a5 prog_2.defs.length c6,.map (some b8)]) (m16:Sl μ0 a14 c15 def_11.Params) (m19:Sl μ0 a17 c18 def_11.Body) (m20:At μ0 b12 o13 [.int .i64 def_11.Kind,S def_11.Name,.int .i64 def_11.Typ.Kind,S def_11.Typ.Gen,.int .i64 def_11.Takes.Kind,S def_11.Takes.Gen,.int .i64 def_11.Cap,.slice a14 def_11.Params.length c15,.slice a17 def_11.Body.length c18]) (m24:Ms μ0 ms23 bloc_21) (m29:Sl μ0 a27 c28 p_2.Kids) (m30:At μ0 b25 o26 [.int .i64 p_2.Kind,.int .i64 p_2.N,S p_2.Name,.slice a27 p_2.Kids.length c28]) (h:sema_both self prog_2 def_11 bloc_21 p_2=some r) (hS:Sq μ0 w0 w (.blk b1 154 [.pointer (some ⟨b3,o4,none⟩),.pointer (some ⟨b12,o13,none⟩),v22]::.row v22 151 1 bloc_21.length (cOf ms23)::(mRs ms23++rsF))):CallsV prog 109 [.pointer (some ⟨b1,0,none⟩),.pointer (some ⟨b25,o26,none⟩)] w (fun v w'=>∃ (μ':M) ,v=.tuple ⟨[.agg ⟨[.int .i64 r.1.Kind,S r.1.Gen]⟩,.int .i64 r.2]⟩∧Le μ0 μ'∧Sq μ' w0 w' (.blk b1 154 [.pointer (some ⟨b3,o4,none⟩),.pointer (some ⟨b12,o13,none⟩),v22]::.row v22 151 1 bloc_21.length (cOf ms23)::(mRs ms23++rsF))):=by
 unfold sema_both at h
 refine enter func109 rfl (frm:=_::_::u5 (u20 (u20 []))) rfl (nz ?_)
 refine wl (s_alloc ti31 hS ?_); clear hS; intro b31 w1 hb32 hS; refine po ?_
 refine st (nx ?_)
 iterate 4 refine st ?_
 refine ld ((m30 _ hS.a).one d3) ?_
 obtain ⟨x33,g34,h⟩:=bI h
 obtain ⟨b35,o36,cs37,e38,f39,m40⟩:=SlR.elem m29 g34
 obtain ⟨a41,c42,rfl,m43⟩:=TExpr.o m40
 refine wl (su (u_iax underlying116 ti118 (et (k10 d4)) ec e38) (dt (q10 p5)) ?_)
 obtain ⟨r44,g45,h⟩:=bI h
 replace hS:=(hS.bg Y2).bg Y2
 replace hS:=Sep.mOut (a:=[_,_]) (p:=[_]) (M:=mRs ms23) (R:=rsF) hS
 refine ca (IH.sema_expr hg m7 m9 m10 m16 m19 m20 m24 m43 f39 g45 hS) ?_
 rintro _ w2 ⟨μ1,rfl,le46,hS⟩
 replace hS:=Sep.mOut (a:=[_,_]) (p:=mRs ms23) (M:=[_]) (R:=rsF) hS
 refine po ?_
 iterate 3 refine st ?_
 refine wl (s_alloc ti31 hS ?_); clear hS; intro b47 w3 hb48 hS; refine po ?_
 refine wl (s_storeA ti31 (et d6) (et (k10 d7)) rfl rfl hS d0 rfl p0 dn ?_)
 clear hS; intro w4 hS
 refine st (ny (nz ?_))
 iterate 2 refine st ?_
 refine nw ?_
 refine cifd (et (k20 d0)) (fun h49=>?_) (fun h49=>?_)
 ·replace h:=iT h49 h
  refine nz (lds (hS.blk d0).cells rfl (st (wl (s_storeA ti31 (et d4) (et (k20 d1)) rfl rfl hS d3 rfl p3 dn ?_))))
  clear hS; intro w5 hS
  refine st (nw (cret (xr ?_)))
  obtain rfl:=oI h
  refine retN rfl (RVs.s (.a d4 ti31 (hS.blk d3).cells rfl) (RVs.s (.t d5) RVs.z)) ?_
  replace hS:=(hS.drop Rm.z).drop (Rm.s (Rm.s Rm.z))
  replace hS:Sq μ1 w0 _ (.blk b1 154 [.pointer (some ⟨b3,o4,none⟩),.pointer (some ⟨b12,o13,none⟩),v22]::.row v22 151 1 bloc_21.length (cOf ms23)::(mRs ms23++rsF)):=hS
  exact ⟨_,rfl,le46,hS⟩
 ·replace h:=iF h49 h
  refine cskip (xn (nz ?_))
  iterate 4 refine st ?_
  refine ld ((m30 _ (le46 _ hS.a)).one d3) ?_
  obtain ⟨x50,g51,h⟩:=bI h
  obtain ⟨b52,o53,cs54,e55,f56,m57⟩:=SlR.elem (m29.up le46) g51
  obtain ⟨a58,c59,rfl,m60⟩:=TExpr.o m57
  refine wl (su (u_iax underlying116 ti118 (et (k20 d8)) ec e55) (dt (q20 p9)) ?_)
  obtain ⟨r61,g62,h⟩:=bI h
  replace hS:=(hS.bg Y2).bg Y2
  replace hS:=Sep.mOut (a:=[_,_]) (p:=[_,_]) (M:=mRs ms23) (R:=rsF) hS
  refine ca (IH.sema_expr (hg.t le46) (m7.up le46) (m9.up le46) (m10.up le46) (m16.up le46) (m19.up le46) (m20.up le46) (m24.up le46) m60 f56 g62 hS) ?_
  rintro _ w6 ⟨μ2,rfl,le63,hS⟩
  replace hS:=Sep.mOut (a:=[_,_]) (p:=mRs ms23) (M:=[_,_]) (R:=rsF) hS
  refine po ?_
  iterate 3 refine st ?_
  refine wl (s_alloc ti31 hS ?_); clear hS; intro b64 w7 hb65 hS; refine po ?_
  refine wl (s_storeA ti31 (et d8) (et (k30 d1)) rfl rfl hS d0 rfl p0 dn ?_)
  clear hS; intro w8 hS
  refine st (ny (cseq ?_))
  refine ccutE (rg 33 11) (by decide) (fun m w=>∃ μx b66,m=(yK20 (yK10 (yK3 (yO10 33 (yO1 43 (.i (.bool b66)::[]))))))∧sema_both_j1 r44 r61 b66=some r∧Le μ2 μx∧Sq μx w0 w (.blk b1 154 [.pointer (some ⟨b3,o4,none⟩),.pointer (some ⟨b12,o13,none⟩),v22]::.row v22 151 1 bloc_21.length (cOf ms23)::.blk b31 31 [.int .i64 0,S []]::.blk b47 31 [.int .i64 r44.1.Kind,S r44.1.Gen]::(mRs ms23++rsF))) (by rintro _ _ ⟨_,_,rfl,_⟩; rfl) ?_ ?_
  ·refine creg ?_
   iterate 3 refine st ?_
   refine wspd (k30 d5) (q30 p5) (q30 p5) (fun h67=>?_) (fun h67=>?_)
   ·replace h:=iT h67 h
    refine wy rfl (k30 d5) (s_loads ti31 (et d6) (hS.blk d3).cells rfl (dt (q30 p6)) (wy rfl (k30 d5) (s_loads ti31 (et d8) (hS.blk d0).cells rfl (dt (q30 p7)) (wy rfl (k30 d5) (s_nea (ES.mk underlying31 eh31 eg31) (et (k30 d6)) (et (k30 d7)) (EqFs.o rfl rfl rfl ti3 d0 d0 (eq_int underlying3) (EqFs.o rfl rfl rfl ti9 d1 d1 (eq_str underlying9) EqFs.z)) rfl (dt (q30 p8)) (sy rfl ?_))))))
    refine wspnb (k30 d9) (q30 p9) (q30 p9) (fun h68=>?_) (fun h68=>?_)
    ·replace h:=iF h68 h
     refine sn rfl rfl (sn rfl rfl (sn rfl rfl (sy rfl (st (wnil (xl ?_))))))
     replace hS:=((((hS.drop Rm.z).bg Y2).bg Y3).bg Y3).bg Y3
     exact ⟨_,_,rfl,(aK20 (aK10 (aK3 (aO10 (aO1 (aI aZ)))))),_,true,rfl,h,Le.r,hS⟩
    ·replace h:=iT h68 h
     refine wy rfl (k30 d9) (s_loads ti31 (et d6) (hS.blk d3).cells rfl (dt (q40 p0)) ?_)
     obtain ⟨r69,g70,h⟩:=bI h
     refine wy rfl (k30 d9) (s_callv isfn63 ef (e1 (et (k40 d0)) e0) (sema_plain_w (hg.t (le46.t le63)) g70 hS) ?_)
     rintro _ w9 ⟨μ3,rfl,le71,hS⟩
     refine po (sy rfl (sy rfl (st (wnil (xl ?_)))))
     replace hS:=((((hS.drop Rm.z).bg Y2).bg Y3).bg Y3).bg Y3
     exact ⟨_,_,rfl,(aK20 (aK10 (aK3 (aO10 (aO1 (aI aZ)))))),_,(!r69),rfl,h,le71,hS⟩
   ·replace h:=iF h67 h
    refine sn rfl rfl (sn rfl rfl (sn rfl rfl (sn rfl rfl (wu rfl (k30 d9) (dt (q40 p0)) (wu rfl (k30 d9) (dt (q40 p1)) (wu rfl (k30 d9) (dt (q40 p2)) (sn rfl rfl (st (wnil (xl ?_))))))))))
    replace hS:=((((hS.drop Rm.z).bg Y2).bg Y3).bg Y3).bg Y3
    exact ⟨_,_,rfl,(aK20 (aK10 (aK3 (aO10 (aO1 (aI aZ)))))),_,false,rfl,h,Le.r,hS⟩
  ·rintro _ t w10 ⟨μ4,b66,rfl,h,le72,hS⟩
   unfold sema_both_j1 at h
   refine nrm (mK20 (mK10 (mK3 (mO10 (mO1 (mi mz)))))) (xn ?_)
   refine ccutE ([]) (by decide) (fun m w=>∃ μx i73,m=(yK7 (.i (.int .i64 i73)::[]))∧sema_both_j2 r44 i73=some r∧Le μ4 μx∧Sq μx w0 w (.blk b1 154 [.pointer (some ⟨b3,o4,none⟩),.pointer (some ⟨b12,o13,none⟩),v22]::.row v22 151 1 bloc_21.length (cOf ms23)::.blk b31 31 [.int .i64 0,S []]::.blk b47 31 [.int .i64 r44.1.Kind,S r44.1.Gen]::(mRs ms23++rsF))) (by rintro _ _ ⟨_,_,rfl,_⟩; rfl) ?_ ?_
   ·refine cifb (et (k40 d4)) (fun h74=>?_) (fun h74=>?_)
    ·replace h:=iT h74 h
     refine creg (st (wnil (xl ?_)))
     exact ⟨_,_,rfl,(aK7 (aI aZ)),_,9,rfl,h,Le.r,hS⟩
    ·replace h:=iF h74 h
     refine cskip (xl ?_)
     exact ⟨_,_,rfl,(aK7 (aI aZ)),_,r61.2,rfl,h,Le.r,hS⟩
   ·rintro _ t w11 ⟨μ5,i73,rfl,h,le75,hS⟩
    unfold sema_both_j2 at h
    refine nrm (mK7 (mi mz)) (xn (nz (lds (hS.blk d3).cells rfl (st (wl (s_storeA ti31 (et d4) (et (k40 d5)) rfl rfl hS d2 rfl p2 dn ?_))))))
    clear hS; intro w12 hS
    refine st (nw (cret ?_))
    obtain rfl:=oI h
    refine retN rfl (RVs.s (.a d4 ti31 (hS.blk d2).cells rfl) (RVs.s (.t d5) RVs.z)) ?_
    replace hS:=(hS.drop (Rm.s (Rm.s Rm.z))).drop (Rm.s (Rm.s Rm.z))
    replace hS:Sq μ5 w0 _ (.blk b1 154 [.pointer (some ⟨b3,o4,none⟩),.pointer (some ⟨b12,o13,none⟩),v22]::.row v22 151 1 bloc_21.length (cOf ms23)::(mRs ms23++rsF)):=hS
    exact ⟨_,rfl,(le46.t (le63.t (le72.t le75))),hS⟩
theorem sema_handle_w {self:SemaE} (IH:SemaESound self) {μ0:M} {w0 w:World} {rsF:List Res} (hg:Le Gm μ0) {b1:Nat} {prog_2:TSp} {b3 o4:Nat} {a5:Option Addr} {c6 b8:Nat} {def_11:TDef} {b12 o13:Nat} {a14:Option Addr} {c15:Nat} {a17:Option Addr} {c18:Nat} {bloc_21:List (List (List UInt8×TType))} {v22:Value} {ms23:List (Nat×List MapEntry×Nat)} {p_2:TExpr} {b25 o26:Nat} {a27:Option Addr} {c28:Nat} {r:Option TDef×Int} (m7:Sl μ0 a5 c6 prog_2.defs) (m9:Mr μ0 b8 prog_2.named) (m10:At μ0 b3 o4 [.slice a5 prog_2.defs.length c6,.map (some b8)]) (m16:Sl μ0 a14 c15 def_11.Params) (m19:Sl μ0 a17 c18 def_11.Body) (m20:At μ0 b12 o13 [.int .i64 def_11.Kind,S def_11.Name,.int .i64 def_11.Typ.Kind,S def_11.Typ.Gen,.int .i64 def_11.Takes.Kind,S def_11.Takes.Gen,.int .i64 def_11.Cap,.slice a14 def_11.Params.length c15,.slice a17 def_11.Body.length c18]) (m24:Ms μ0 ms23 bloc_21) (m29:Sl μ0 a27 c28 p_2.Kids) (m30:At μ0 b25 o26 [.int .i64 p_2.Kind,.int .i64 p_2.N,S p_2.Name,.slice a27 p_2.Kids.length c28]) (h:sema_handle self prog_2 def_11 bloc_21 p_2=some r) (hS:Sq μ0 w0 w (.blk b1 154 [.pointer (some ⟨b3,o4,none⟩),.pointer (some ⟨b12,o13,none⟩),v22]::.row v22 151 1 bloc_21.length (cOf ms23)::(mRs ms23++rsF))):CallsV prog 111 [.pointer (some ⟨b1,0,none⟩),.pointer (some ⟨b25,o26,none⟩)] w (fun v w'=>∃ (μ':M) (v31:Value),v=.tuple ⟨[v31,.int .i64 r.2]⟩∧Le μ0 μ'∧Sq μ' w0 w' (.blk b1 154 [.pointer (some ⟨b3,o4,none⟩),.pointer (some ⟨b12,o13,none⟩),v22]::.row v22 151 1 bloc_21.length (cOf ms23)::(mRs ms23++rsF))∧Np μ' v31 r.1):=by
 unfold sema_handle at h
 refine enter func111 rfl (frm:=_::_::u2 (u5 (u20 []))) rfl (nz ?_)
 iterate 2 refine st ?_
 refine nx ?_
 iterate 2 refine st ?_
 obtain ⟨r33,g34,h⟩:=bI h
 replace hS:=(hS.bg Y1).bg Y1
 refine ca (IH.sema_expr hg m7 m9 m10 m16 m19 m20 m24 m29 m30 g34 hS) ?_
 rintro _ w1 ⟨μ1,rfl,le35,hS⟩
 refine po ?_
 iterate 3 refine st ?_
 refine wl (s_alloc ti31 hS ?_); clear hS; intro b36 w2 hb37 hS; refine po ?_
 refine wl (s_storeA ti31 (et d6) (et (k10 d2)) rfl rfl hS d0 rfl p0 dn ?_)
 clear hS; intro w3 hS
 refine st (ny (nz ?_))
 iterate 2 refine st ?_
 refine nw ?_
 refine cifd (et (k10 d5)) (fun h38=>?_) (fun h38=>?_)
 ·replace h:=iT h38 h
  refine nz ?_
  iterate 3 refine st ?_
  refine nw (cret (xr ?_))
  obtain rfl:=oI h
  refine ret2 rfl d4 d5 ?_
  replace hS:=hS.drop Rm.z
  replace hS:Sq μ1 w0 _ (.blk b1 154 [.pointer (some ⟨b3,o4,none⟩),.pointer (some ⟨b12,o13,none⟩),v22]::.row v22 151 1 bloc_21.length (cOf ms23)::(mRs ms23++rsF)):=hS
  exact ⟨_,(.pointer none),rfl,le35,hS,rfl⟩
 ·replace h:=iF h38 h
  refine cskip (xn (cseq (nz (lds (hS.blk d0).cells rfl ?_))))
  obtain ⟨r39,g40,h⟩:=bI h
  refine ca (sema_plain_w (hg.t le35) g40 hS) ?_
  rintro _ w4 ⟨μ2,rfl,le41,hS⟩
  refine po (nw ?_)
  refine cifb (et (k10 d8)) (fun h42=>?_) (fun h42=>?_)
  ·replace h:=iT h42 h
   refine nz ?_
   iterate 2 refine st ?_
   refine nw (cret (xr ?_))
   obtain rfl:=oI h
   refine ret2 rfl d4 d5 ?_
   replace hS:=hS.drop Rm.z
   replace hS:Sq μ2 w0 _ (.blk b1 154 [.pointer (some ⟨b3,o4,none⟩),.pointer (some ⟨b12,o13,none⟩),v22]::.row v22 151 1 bloc_21.length (cOf ms23)::(mRs ms23++rsF)):=hS
   exact ⟨_,(.pointer none),rfl,(le35.t le41),hS,rfl⟩
  ·replace h:=iF h42 h
   refine cskip (xn (cseq ?_))
   refine cdw hS ?_; clear hS; intro w5 hS
   refine cpi 0 rfl (cpi 1 rfl (cpi 2 rfl (cpi 7 rfl (cr 3 [3,4,5,6,9,10,11] rfl (u_load ti67 (et (k20 d1)) ((hS.blk d1).cell d0)) (q20 p2) (cpi 4 rfl (cpi 5 rfl (cr 6 [6,9,10,11] rfl (u_load ti92 (et (k20 d4)) ((m10 _ ((le35.t le41) _ hS.a)).one d1)) (q20 p5) (cr 8 [8,9,10,11] rfl (u_load ti9 (et (k20 d6)) ((hS.blk d0).cell d1)) (q20 p7) ?_))))))))
   obtain ⟨es43,c44,hb45,hq46⟩:=(m9.up (le35.t le41))
   refine sc1 rfl rfl rfl (s_mgetP1 (κ:=List UInt8) (k:=r33.1.Gen) (hrv:=fun _ _ h=>h) underlying92 underlying9 (et (k20 d5)) (et (k20 d7)) zv74 (hb45 _ hS.a) hq46 ?_); intro v47 hv48; refine po ?_
   refine cpi 10 rfl (cpi 11 rfl (nu (cret ?_)))
   obtain rfl:=oI h
   refine ret2 rfl d4 d5 ?_
   replace hS:=hS.drop Rm.z
   replace hS:Sq μ2 w0 _ (.blk b1 154 [.pointer (some ⟨b3,o4,none⟩),.pointer (some ⟨b12,o13,none⟩),v22]::.row v22 151 1 bloc_21.length (cOf ms23)::(mRs ms23++rsF)):=hS
   exact ⟨_,_,rfl,(le35.t le41),hS,hv48⟩
theorem sema_expr_w {self:SemaE} (IH:SemaESound self) {fu:Nat} {μ0:M} {w0 w:World} {rsF:List Res} (hg:Le Gm μ0) {b1:Nat} {prog_2:TSp} {b3 o4:Nat} {a5:Option Addr} {c6 b8:Nat} {def_11:TDef} {b12 o13:Nat} {a14:Option Addr} {c15:Nat} {a17:Option Addr} {c18:Nat} {bloc_21:List (List (List UInt8×TType))} {v22:Value} {ms23:List (Nat×List MapEntry×Nat)} {p_2:TExpr} {b25 o26:Nat} {a27:Option Addr} {c28:Nat} {r:TType×Int} (m7:Sl μ0 a5 c6 prog_2.defs) (m9:Mr μ0 b8 prog_2.named) (m10:At μ0 b3 o4 [.slice a5 prog_2.defs.length c6,.map (some b8)]) (m16:Sl μ0 a14 c15 def_11.Params) (m19:Sl μ0 a17 c18 def_11.Body) (m20:At μ0 b12 o13 [.int .i64 def_11.Kind,S def_11.Name,.int .i64 def_11.Typ.Kind,S def_11.Typ.Gen,.int .i64 def_11.Takes.Kind,S def_11.Takes.Gen,.int .i64 def_11.Cap,.slice a14 def_11.Params.length c15,.slice a17 def_11.Body.length c18]) (m24:Ms μ0 ms23 bloc_21) (m29:Sl μ0 a27 c28 p_2.Kids) (m30:At μ0 b25 o26 [.int .i64 p_2.Kind,.int .i64 p_2.N,S p_2.Name,.slice a27 p_2.Kids.length c28]) (h:sema_expr fu self prog_2 def_11 bloc_21 p_2=some r) (hS:Sq μ0 w0 w (.blk b1 154 [.pointer (some ⟨b3,o4,none⟩),.pointer (some ⟨b12,o13,none⟩),v22]::.row v22 151 1 bloc_21.length (cOf ms23)::(mRs ms23++rsF))):CallsV prog 96 [.pointer (some ⟨b1,0,none⟩),.pointer (some ⟨b25,o26,none⟩)] w (fun v w'=>∃ (μ':M) ,v=.tuple ⟨[.agg ⟨[.int .i64 r.1.Kind,S r.1.Gen]⟩,.int .i64 r.2]⟩∧Le μ0 μ'∧Sq μ' w0 w' (.blk b1 154 [.pointer (some ⟨b3,o4,none⟩),.pointer (some ⟨b12,o13,none⟩),v22]::.row v22 151 1 bloc_21.length (cOf ms23)::(mRs ms23++rsF))):=by
 unfold sema_expr at h
 refine enter func96 rfl (frm:=_::_::u1 (u50 (u50 (u50 (u50 (u50 [])))))) rfl (nz ?_)
 refine wl (s_alloc ti31 hS ?_); clear hS; intro b31 w1 hb32 hS; refine po ?_
 refine st (ny (nz ?_))
 iterate 3 refine st ?_
 refine ld ((m30 _ hS.a).one d0) (nw (cblock (nz ?_)))
 iterate 2 refine st ?_
 refine nw ?_
 refine cifd (et (k20 d8)) (fun h33=>?_) (fun h33=>?_)
 ·replace h:=iT h33 h
  refine nz ?_
  obtain ⟨r34,g35,h⟩:=bI h
  refine ca (sema_num_w hg g35 hS) ?_
  rintro _ w2 ⟨μ1,rfl,le36,hS⟩
  refine po (wl (s_storeA ti31 (et d4) (et (k30 d0)) rfl rfl hS d0 rfl p0 dn ?_))
  clear hS; intro w3 hS
  refine st (nw (cret ?_))
  refine (fun h=>br (xr h)) ?_
  obtain rfl:=oI h
  refine retN rfl (RVs.s (.a d4 ti31 (hS.blk d0).cells rfl) (RVs.s (.t d5) RVs.z)) ?_
  replace hS:=hS.drop Rm.z
  replace hS:Sq μ1 w0 _ (.blk b1 154 [.pointer (some ⟨b3,o4,none⟩),.pointer (some ⟨b12,o13,none⟩),v22]::.row v22 151 1 bloc_21.length (cOf ms23)::(mRs ms23++rsF)):=hS
  exact ⟨_,rfl,le36,hS⟩
 ·replace h:=iF h33 h
  refine nz ?_
  iterate 2 refine st ?_
  refine nw ?_
  refine cifd (et (k30 d1)) (fun h37=>?_) (fun h37=>?_)
  ·replace h:=iT h37 h
   refine nz ?_
   obtain ⟨r38,g39,h⟩:=bI h
   refine ca (sema_boolean_w hg g39 hS) ?_
   rintro _ w4 ⟨μ2,rfl,le40,hS⟩
   refine po (wl (s_storeA ti31 (et d4) (et (k30 d3)) rfl rfl hS d0 rfl p0 dn ?_))
   clear hS; intro w5 hS
   refine st (nw (cret ?_))
   refine (fun h=>br (xr h)) ?_
   obtain rfl:=oI h
   refine retN rfl (RVs.s (.a d4 ti31 (hS.blk d0).cells rfl) (RVs.s (.t d5) RVs.z)) ?_
   replace hS:=hS.drop Rm.z
   replace hS:Sq μ2 w0 _ (.blk b1 154 [.pointer (some ⟨b3,o4,none⟩),.pointer (some ⟨b12,o13,none⟩),v22]::.row v22 151 1 bloc_21.length (cOf ms23)::(mRs ms23++rsF)):=hS
   exact ⟨_,rfl,le40,hS⟩
  ·replace h:=iF h37 h
   refine nz ?_
   iterate 2 refine st ?_
   refine nw ?_
   refine cifd (et (k30 d4)) (fun h41=>?_) (fun h41=>?_)
   ·replace h:=iT h41 h
    refine cseq (nz ?_)
    iterate 4 refine st ?_
    refine ld ((m30 _ hS.a).one d2) ?_
    obtain ⟨r42,g43,h⟩:=bI h
    replace hS:=(hS.bg Y2).bg Y2
    replace hS:=Sep.mOut (a:=[_,_]) (p:=[_]) (M:=mRs ms23) (R:=rsF) hS
    refine ca (sema_look_w hg m7 m9 m10 m16 m19 m20 m24 g43 hS) ?_
    rintro _ w6 ⟨μ3,rfl,le44,hS⟩
    replace hS:=Sep.mOut (a:=[_,_]) (p:=mRs ms23) (M:=[_]) (R:=rsF) hS
    refine po ?_
    iterate 3 refine st ?_
    refine wl (s_alloc ti31 hS ?_); clear hS; intro b45 w7 hb46 hS; refine po ?_
    refine wl (s_storeA ti31 (et d6) (et (k40 d3)) rfl rfl hS d0 rfl p0 dn ?_)
    clear hS; intro w8 hS
    refine st (nx (st (nw ?_)))
    refine cifb (et (k40 d5)) (fun h47=>?_) (fun h47=>?_)
    ·replace h:=iT h47 h
     refine nz (lds (hS.blk d0).cells rfl (wl (s_storeA ti31 (et d4) (et (k40 d6)) rfl rfl hS d3 rfl p3 dn ?_)))
     clear hS; intro w9 hS
     refine st (nw (cret ?_))
     refine (fun h=>xr (br (xr h))) ?_
     obtain rfl:=oI h
     refine retN rfl (RVs.s (.a d4 ti31 (hS.blk d3).cells rfl) (RVs.s (.t d5) RVs.z)) ?_
     replace hS:=(hS.drop Rm.z).drop (Rm.s (Rm.s Rm.z))
     replace hS:Sq μ3 w0 _ (.blk b1 154 [.pointer (some ⟨b3,o4,none⟩),.pointer (some ⟨b12,o13,none⟩),v22]::.row v22 151 1 bloc_21.length (cOf ms23)::(mRs ms23++rsF)):=hS
     exact ⟨_,rfl,le44,hS⟩
    ·replace h:=iF h47 h
     refine cskip (xn (nz ?_))
     obtain ⟨r48,g49,h⟩:=bI h
     refine ca (sema_num_w (hg.t le44) g49 hS) ?_
     rintro _ w10 ⟨μ4,rfl,le50,hS⟩
     refine po (wl (s_storeA ti31 (et d4) (et (k40 d7)) rfl rfl hS d3 rfl p3 dn ?_))
     clear hS; intro w11 hS
     refine st (nw (cret ?_))
     refine (fun h=>br (xr h)) ?_
     obtain rfl:=oI h
     refine retN rfl (RVs.s (.a d4 ti31 (hS.blk d3).cells rfl) (RVs.s (.t d5) RVs.z)) ?_
     replace hS:=(hS.drop Rm.z).drop (Rm.s (Rm.s Rm.z))
     replace hS:Sq μ4 w0 _ (.blk b1 154 [.pointer (some ⟨b3,o4,none⟩),.pointer (some ⟨b12,o13,none⟩),v22]::.row v22 151 1 bloc_21.length (cOf ms23)::(mRs ms23++rsF)):=hS
     exact ⟨_,rfl,(le44.t le50),hS⟩
   ·replace h:=iF h41 h
    refine nz ?_
    iterate 2 refine st ?_
    refine nw ?_
    refine cifd (et (k40 d8)) (fun h51=>?_) (fun h51=>?_)
    ·replace h:=iT h51 h
     refine cseq ?_
     refine ccutE (rg 50 9) (by decide) (fun m w=>∃ μx i52 i53 s54,m=(yK5 (.i (.int .i64 i52)::(yK20 (yK20 (yK4 (yO9 50 []))))))∧sema_expr_j1 i52 i53 s54=some r∧Le μ0 μx∧Sq μx w0 w (.blk b1 154 [.pointer (some ⟨b3,o4,none⟩),.pointer (some ⟨b12,o13,none⟩),v22]::.row v22 151 1 bloc_21.length (cOf ms23)::.blk b31 31 [.int .i64 i53,S s54]::(mRs ms23++rsF))) (by rintro _ _ ⟨_,_,_,_,rfl,_⟩; rfl) ?_ ?_
     ·refine cdw hS ?_; clear hS; intro w12 hS
      refine cpi 1 rfl (cpi 2 rfl (cpi 3 rfl (cpi 4 rfl ?_)))
      refine sc2G (i:=0) (j:=5) rfl rfl rfl rfl rfl (wn0 rfl) (wn0 rfl) ?_ ?_
      ·obtain ⟨r55,g56,h⟩:=bI h
       refine id (s_callv isfn108 ef e0 (sema_num_w hg g56 hS) ?_)
       rintro _ w13 ⟨μ5,rfl,le57,hS⟩
       refine po ?_
       refine sc2G (i:=5) (j:=7) rfl rfl rfl rfl rfl (wn0 rfl) (wn0 rfl) ?_ ?_
       ·refine id (s_load ti116 (et (k50 d4)) ((m30 _ (le57 _ hS.a)).one d3) (dt (q50 p5)) ?_)
        obtain ⟨x58,g59,h⟩:=bI h
        obtain ⟨b60,o61,cs62,e63,f64,m65⟩:=SlR.elem (m29.up le57) g59
        obtain ⟨a66,c67,rfl,m68⟩:=TExpr.o m65
        refine cp 6 rfl (u_iax underlying116 ti118 (et (k50 d5)) ec e63) (q50 p6) ?_
        obtain ⟨r69,g70,h⟩:=bI h
        refine sc1 rfl rfl rfl (s_callv isfn108 ef e0 (sema_num_w (hg.t le57) g70 hS) ?_)
        rintro _ w14 ⟨μ6,rfl,le71,hS⟩
        refine po ?_
        obtain ⟨r72,g73,h⟩:=bI h
        replace hS:=(hS.bg Y2).bg Y2
        replace hS:=Sep.mOut (a:=[_,_]) (p:=[_]) (M:=mRs ms23) (R:=rsF) hS
        refine sc1 rfl rfl rfl (s_callv isfn98 ef (e1 (et (k50 d1)) (e1 (et (k50 d6)) (e1 (et (k50 d7)) e0))) (IH.sema_typed (hg.t (le57.t le71)) (m7.up (le57.t le71)) (m9.up (le57.t le71)) (m10.up (le57.t le71)) (m16.up (le57.t le71)) (m19.up (le57.t le71)) (m20.up (le57.t le71)) (m24.up (le57.t le71)) (m68.up le71) (f64.up le71) g73 hS) ?_)
        rintro _ w15 ⟨μ7,rfl,le74,hS⟩
        replace hS:=Sep.mOut (a:=[_,_]) (p:=mRs ms23) (M:=[_]) (R:=rsF) hS
        refine po (sc1 rfl rfl rfl (s_storeA ti31 (et d4) (et (k50 d0)) rfl rfl hS d2 rfl p2 dn ?_))
        clear hS; intro w16 hS
        refine cpi 10 rfl (sc_nil (xl ?_))
        exact ⟨_,_,rfl,(aK5 (aI (aK20 (aK20 (aK4 (aO9 aZ)))))),_,_,r55.Kind,r55.Gen,rfl,h,(le57.t (le71.t le74)),hS⟩
       ·obtain ⟨x58,g59,h⟩:=bI h
        obtain ⟨r69,g70,h⟩:=bI h
        obtain ⟨r72,g73,h⟩:=bI h
        refine id (s_callv isfn108 ef e0 (sema_num_w (hg.t le57) g70 hS) ?_)
        rintro _ w17 ⟨μ8,rfl,le75,hS⟩
        refine po (cr 5 [5,6,8,9,10] rfl (u_load ti116 (et (k50 d4)) ((m30 _ ((le57.t le75) _ hS.a)).one d3)) (q50 p5) ?_)
        obtain ⟨b76,o77,cs78,e79,f80,m81⟩:=SlR.elem (m29.up (le57.t le75)) g59
        obtain ⟨a82,c83,rfl,m84⟩:=TExpr.o m81
        refine cp 6 rfl (u_iax underlying116 ti118 (et (k50 d5)) ec e79) (q50 p6) ?_
        replace hS:=(hS.bg Y2).bg Y2
        replace hS:=Sep.mOut (a:=[_,_]) (p:=[_]) (M:=mRs ms23) (R:=rsF) hS
        refine sc1 rfl rfl rfl (s_callv isfn98 ef (e1 (et (k50 d1)) (e1 (et (k50 d6)) (e1 (et (k50 d7)) e0))) (IH.sema_typed (hg.t (le57.t le75)) (m7.up (le57.t le75)) (m9.up (le57.t le75)) (m10.up (le57.t le75)) (m16.up (le57.t le75)) (m19.up (le57.t le75)) (m20.up (le57.t le75)) (m24.up (le57.t le75)) m84 f80 g73 hS) ?_)
        rintro _ w18 ⟨μ9,rfl,le85,hS⟩
        replace hS:=Sep.mOut (a:=[_,_]) (p:=mRs ms23) (M:=[_]) (R:=rsF) hS
        refine po (sc1 rfl rfl rfl (s_storeA ti31 (et d4) (et (k50 d0)) rfl rfl hS d2 rfl p2 dn ?_))
        clear hS; intro w19 hS
        refine cpi 10 rfl (sc_nil (xl ?_))
        exact ⟨_,_,rfl,(aK5 (aI (aK20 (aK20 (aK4 (aO9 aZ)))))),_,_,r55.Kind,r55.Gen,rfl,h,(le57.t (le75.t le85)),hS⟩
      ·obtain ⟨r55,g56,h⟩:=bI h
       obtain ⟨x58,g59,h⟩:=bI h
       obtain ⟨r69,g70,h⟩:=bI h
       obtain ⟨r72,g73,h⟩:=bI h
       refine id (s_load ti116 (et (k50 d4)) ((m30 _ hS.a).one d3) (dt (q50 p5)) ?_)
       obtain ⟨b86,o87,cs88,e89,f90,m91⟩:=SlR.elem m29 g59
       obtain ⟨a92,c93,rfl,m94⟩:=TExpr.o m91
       refine cp 6 rfl (u_iax underlying116 ti118 (et (k50 d5)) ec e89) (q50 p6) (sc1 rfl rfl rfl (s_callv isfn108 ef e0 (sema_num_w hg g56 hS) ?_))
       rintro _ w20 ⟨μ10,rfl,le95,hS⟩
       refine po (sc1 rfl rfl rfl (s_callv isfn108 ef e0 (sema_num_w (hg.t le95) g70 hS) ?_))
       rintro _ w21 ⟨μ11,rfl,le96,hS⟩
       refine po ?_
       replace hS:=(hS.bg Y2).bg Y2
       replace hS:=Sep.mOut (a:=[_,_]) (p:=[_]) (M:=mRs ms23) (R:=rsF) hS
       refine sc1 rfl rfl rfl (s_callv isfn98 ef (e1 (et (k50 d1)) (e1 (et (k50 d6)) (e1 (et (k50 d7)) e0))) (IH.sema_typed (hg.t (le95.t le96)) (m7.up (le95.t le96)) (m9.up (le95.t le96)) (m10.up (le95.t le96)) (m16.up (le95.t le96)) (m19.up (le95.t le96)) (m20.up (le95.t le96)) (m24.up (le95.t le96)) (m94.up (le95.t le96)) (f90.up (le95.t le96)) g73 hS) ?_)
       rintro _ w22 ⟨μ12,rfl,le97,hS⟩
       replace hS:=Sep.mOut (a:=[_,_]) (p:=mRs ms23) (M:=[_]) (R:=rsF) hS
       refine po (sc1 rfl rfl rfl (s_storeA ti31 (et d4) (et (k50 d0)) rfl rfl hS d2 rfl p2 dn ?_))
       clear hS; intro w23 hS
       refine cpi 10 rfl (sc_nil (xl ?_))
       exact ⟨_,_,rfl,(aK5 (aI (aK20 (aK20 (aK4 (aO9 aZ)))))),_,_,r55.Kind,r55.Gen,rfl,h,(le95.t (le96.t le97)),hS⟩
     ·rintro _ t w24 ⟨μ13,i52,i53,s54,rfl,h,le98,hS⟩
      unfold sema_expr_j1 at h
      refine nrm (mK5 (mi (mK20 (mK20 (mK4 (mO9 mz)))))) (xn (cret ?_))
      refine (fun h=>br (xr h)) ?_
      obtain rfl:=oI h
      refine retN rfl (RVs.s (.a d4 ti31 (hS.blk d2).cells rfl) (RVs.s (.t d5) RVs.z)) ?_
      replace hS:=hS.drop (Rm.s (Rm.s Rm.z))
      replace hS:Sq μ13 w0 _ (.blk b1 154 [.pointer (some ⟨b3,o4,none⟩),.pointer (some ⟨b12,o13,none⟩),v22]::.row v22 151 1 bloc_21.length (cOf ms23)::(mRs ms23++rsF)):=hS
      exact ⟨_,rfl,le98,hS⟩
    ·replace h:=iF h51 h
     refine nz ?_
     iterate 2 refine st ?_
     refine nw ?_
     refine cifd (et (k50 d9)) (fun h99=>?_) (fun h99=>?_)
     ·replace h:=iT h99 h
      refine cseq ?_
      refine ccutE (rg 61 9) (by decide) (fun m w=>∃ μx i100 i101 s102,m=(yK5 (.i (.int .i64 i100)::(yK50 (yK5 (yO9 61 [])))))∧sema_expr_j2 i100 i101 s102=some r∧Le μ0 μx∧Sq μx w0 w (.blk b1 154 [.pointer (some ⟨b3,o4,none⟩),.pointer (some ⟨b12,o13,none⟩),v22]::.row v22 151 1 bloc_21.length (cOf ms23)::.blk b31 31 [.int .i64 i101,S s102]::(mRs ms23++rsF))) (by rintro _ _ ⟨_,_,_,_,rfl,_⟩; rfl) ?_ ?_
      ·refine cdw hS ?_; clear hS; intro w25 hS
       refine cpi 1 rfl (cpi 2 rfl (cpi 3 rfl (cpi 4 rfl ?_)))
       refine sc2G (i:=0) (j:=5) rfl rfl rfl rfl rfl (wn0 rfl) (wn0 rfl) ?_ ?_
       ·obtain ⟨r103,g104,h⟩:=bI h
        refine id (s_callv isfn99 ef e0 (sema_boolean_w hg g104 hS) ?_)
        rintro _ w26 ⟨μ14,rfl,le105,hS⟩
        refine po ?_
        refine sc2G (i:=5) (j:=7) rfl rfl rfl rfl rfl (wn0 rfl) (wn0 rfl) ?_ ?_
        ·refine id (s_load ti116 (et (k60 d5)) ((m30 _ (le105 _ hS.a)).one d3) (dt (q60 p6)) ?_)
         obtain ⟨x106,g107,h⟩:=bI h
         obtain ⟨b108,o109,cs110,e111,f112,m113⟩:=SlR.elem (m29.up le105) g107
         obtain ⟨a114,c115,rfl,m116⟩:=TExpr.o m113
         refine cp 6 rfl (u_iax underlying116 ti118 (et (k60 d6)) ec e111) (q60 p7) ?_
         obtain ⟨r117,g118,h⟩:=bI h
         refine sc1 rfl rfl rfl (s_callv isfn99 ef e0 (sema_boolean_w (hg.t le105) g118 hS) ?_)
         rintro _ w27 ⟨μ15,rfl,le119,hS⟩
         refine po ?_
         obtain ⟨r120,g121,h⟩:=bI h
         replace hS:=(hS.bg Y2).bg Y2
         replace hS:=Sep.mOut (a:=[_,_]) (p:=[_]) (M:=mRs ms23) (R:=rsF) hS
         refine sc1 rfl rfl rfl (s_callv isfn98 ef (e1 (et (k60 d2)) (e1 (et (k60 d7)) (e1 (et (k60 d8)) e0))) (IH.sema_typed (hg.t (le105.t le119)) (m7.up (le105.t le119)) (m9.up (le105.t le119)) (m10.up (le105.t le119)) (m16.up (le105.t le119)) (m19.up (le105.t le119)) (m20.up (le105.t le119)) (m24.up (le105.t le119)) (m116.up le119) (f112.up le119) g121 hS) ?_)
         rintro _ w28 ⟨μ16,rfl,le122,hS⟩
         replace hS:=Sep.mOut (a:=[_,_]) (p:=mRs ms23) (M:=[_]) (R:=rsF) hS
         refine po (sc1 rfl rfl rfl (s_storeA ti31 (et d4) (et (k60 d1)) rfl rfl hS d2 rfl p2 dn ?_))
         clear hS; intro w29 hS
         refine cpi 10 rfl (sc_nil (xl ?_))
         exact ⟨_,_,rfl,(aK5 (aI (aK50 (aK5 (aO9 aZ))))),_,_,r103.Kind,r103.Gen,rfl,h,(le105.t (le119.t le122)),hS⟩
        ·obtain ⟨x106,g107,h⟩:=bI h
         obtain ⟨r117,g118,h⟩:=bI h
         obtain ⟨r120,g121,h⟩:=bI h
         refine id (s_callv isfn99 ef e0 (sema_boolean_w (hg.t le105) g118 hS) ?_)
         rintro _ w30 ⟨μ17,rfl,le123,hS⟩
         refine po (cr 5 [5,6,8,9,10] rfl (u_load ti116 (et (k60 d5)) ((m30 _ ((le105.t le123) _ hS.a)).one d3)) (q60 p6) ?_)
         obtain ⟨b124,o125,cs126,e127,f128,m129⟩:=SlR.elem (m29.up (le105.t le123)) g107
         obtain ⟨a130,c131,rfl,m132⟩:=TExpr.o m129
         refine cp 6 rfl (u_iax underlying116 ti118 (et (k60 d6)) ec e127) (q60 p7) ?_
         replace hS:=(hS.bg Y2).bg Y2
         replace hS:=Sep.mOut (a:=[_,_]) (p:=[_]) (M:=mRs ms23) (R:=rsF) hS
         refine sc1 rfl rfl rfl (s_callv isfn98 ef (e1 (et (k60 d2)) (e1 (et (k60 d7)) (e1 (et (k60 d8)) e0))) (IH.sema_typed (hg.t (le105.t le123)) (m7.up (le105.t le123)) (m9.up (le105.t le123)) (m10.up (le105.t le123)) (m16.up (le105.t le123)) (m19.up (le105.t le123)) (m20.up (le105.t le123)) (m24.up (le105.t le123)) m132 f128 g121 hS) ?_)
         rintro _ w31 ⟨μ18,rfl,le133,hS⟩
         replace hS:=Sep.mOut (a:=[_,_]) (p:=mRs ms23) (M:=[_]) (R:=rsF) hS
         refine po (sc1 rfl rfl rfl (s_storeA ti31 (et d4) (et (k60 d1)) rfl rfl hS d2 rfl p2 dn ?_))
         clear hS; intro w32 hS
         refine cpi 10 rfl (sc_nil (xl ?_))
         exact ⟨_,_,rfl,(aK5 (aI (aK50 (aK5 (aO9 aZ))))),_,_,r103.Kind,r103.Gen,rfl,h,(le105.t (le123.t le133)),hS⟩
       ·obtain ⟨r103,g104,h⟩:=bI h
        obtain ⟨x106,g107,h⟩:=bI h
        obtain ⟨r117,g118,h⟩:=bI h
        obtain ⟨r120,g121,h⟩:=bI h
        refine id (s_load ti116 (et (k60 d5)) ((m30 _ hS.a).one d3) (dt (q60 p6)) ?_)
        obtain ⟨b134,o135,cs136,e137,f138,m139⟩:=SlR.elem m29 g107
        obtain ⟨a140,c141,rfl,m142⟩:=TExpr.o m139
        refine cp 6 rfl (u_iax underlying116 ti118 (et (k60 d6)) ec e137) (q60 p7) (sc1 rfl rfl rfl (s_callv isfn99 ef e0 (sema_boolean_w hg g104 hS) ?_))
        rintro _ w33 ⟨μ19,rfl,le143,hS⟩
        refine po (sc1 rfl rfl rfl (s_callv isfn99 ef e0 (sema_boolean_w (hg.t le143) g118 hS) ?_))
        rintro _ w34 ⟨μ20,rfl,le144,hS⟩
        refine po ?_
        replace hS:=(hS.bg Y2).bg Y2
        replace hS:=Sep.mOut (a:=[_,_]) (p:=[_]) (M:=mRs ms23) (R:=rsF) hS
        refine sc1 rfl rfl rfl (s_callv isfn98 ef (e1 (et (k60 d2)) (e1 (et (k60 d7)) (e1 (et (k60 d8)) e0))) (IH.sema_typed (hg.t (le143.t le144)) (m7.up (le143.t le144)) (m9.up (le143.t le144)) (m10.up (le143.t le144)) (m16.up (le143.t le144)) (m19.up (le143.t le144)) (m20.up (le143.t le144)) (m24.up (le143.t le144)) (m142.up (le143.t le144)) (f138.up (le143.t le144)) g121 hS) ?_)
        rintro _ w35 ⟨μ21,rfl,le145,hS⟩
        replace hS:=Sep.mOut (a:=[_,_]) (p:=mRs ms23) (M:=[_]) (R:=rsF) hS
        refine po (sc1 rfl rfl rfl (s_storeA ti31 (et d4) (et (k60 d1)) rfl rfl hS d2 rfl p2 dn ?_))
        clear hS; intro w36 hS
        refine cpi 10 rfl (sc_nil (xl ?_))
        exact ⟨_,_,rfl,(aK5 (aI (aK50 (aK5 (aO9 aZ))))),_,_,r103.Kind,r103.Gen,rfl,h,(le143.t (le144.t le145)),hS⟩
      ·rintro _ t w37 ⟨μ22,i100,i101,s102,rfl,h,le146,hS⟩
       unfold sema_expr_j2 at h
       refine nrm (mK5 (mi (mK50 (mK5 (mO9 mz))))) (xn (cret ?_))
       refine (fun h=>br (xr h)) ?_
       obtain rfl:=oI h
       refine retN rfl (RVs.s (.a d4 ti31 (hS.blk d2).cells rfl) (RVs.s (.t d5) RVs.z)) ?_
       replace hS:=hS.drop (Rm.s (Rm.s Rm.z))
       replace hS:Sq μ22 w0 _ (.blk b1 154 [.pointer (some ⟨b3,o4,none⟩),.pointer (some ⟨b12,o13,none⟩),v22]::.row v22 151 1 bloc_21.length (cOf ms23)::(mRs ms23++rsF)):=hS
       exact ⟨_,rfl,le146,hS⟩
     ·replace h:=iF h99 h
      refine cseq (nz ?_)
      iterate 2 refine st ?_
      refine nw ?_
      refine ccutE ([72]) (by decide) (fun m w=>∃ μx b147,m=(yK50 (yK20 (.i (.bool b147)::(yK1 (yO1 72 [])))))∧sema_expr_j3 self p_2 prog_2 def_11 bloc_21 b147=some r∧Le μ0 μx∧Sq μx w0 w (.blk b1 154 [.pointer (some ⟨b3,o4,none⟩),.pointer (some ⟨b12,o13,none⟩),v22]::.row v22 151 1 bloc_21.length (cOf ms23)::.blk b31 31 [.int .i64 0,S []]::(mRs ms23++rsF))) (by rintro _ _ ⟨_,_,rfl,_⟩; rfl) ?_ ?_
      ·refine cifd (et (k70 d0)) (fun h148=>?_) (fun h148=>?_)
       ·replace h:=iT h148 h
        refine cskip (xl ?_)
        replace hS:=(hS.bg Y2).bg Y2
        exact ⟨_,_,rfl,(aK50 (aK20 (aI (aK1 (aO1 aZ))))),_,(decide (p_2.Kind=11)),rfl,h,Le.r,hS⟩
       ·replace h:=iF h148 h
        refine creg ?_
        iterate 2 refine st ?_
        refine wnil (xl ?_)
        replace hS:=(hS.bg Y2).bg Y2
        exact ⟨_,_,rfl,(aK50 (aK20 (aI (aK1 (aO1 aZ))))),_,(decide (p_2.Kind=12)),rfl,h,Le.r,hS⟩
      ·rintro _ t w38 ⟨μ23,b147,rfl,h,le149,hS⟩
       unfold sema_expr_j3 at h
       refine nrm (mK50 (mK20 (mi (mK1 (mO1 mz))))) (xn ?_)
       refine cifb (et (k70 d0)) (fun h150=>?_) (fun h150=>?_)
       ·replace h:=iT h150 h
        refine nz ?_
        iterate 2 refine st ?_
        obtain ⟨r151,g152,h⟩:=bI h
        replace hS:=(hS.bg Y1).bg Y1
        replace hS:=Sep.mOut (a:=[_,_]) (p:=[_]) (M:=mRs ms23) (R:=rsF) hS
        refine ca (IH.sema_both (hg.t le149) (m7.up le149) (m9.up le149) (m10.up le149) (m16.up le149) (m19.up le149) (m20.up le149) (m24.up le149) (m29.up le149) (m30.up le149) g152 hS) ?_
        rintro _ w39 ⟨μ24,rfl,le153,hS⟩
        replace hS:=Sep.mOut (a:=[_,_]) (p:=mRs ms23) (M:=[_]) (R:=rsF) hS
        refine po ?_
        iterate 3 refine st ?_
        refine wl (s_alloc ti31 hS ?_); clear hS; intro b154 w40 hb155 hS; refine po ?_
        refine wl (s_storeA ti31 (et d8) (et (k70 d7)) rfl rfl hS d0 rfl p0 dn ?_)
        clear hS; intro w41 hS
        refine st (nx ?_)
        obtain ⟨r156,g157,h⟩:=bI h
        refine ca (sema_boolean_w (hg.t (le149.t le153)) g157 hS) ?_
        rintro _ w42 ⟨μ25,rfl,le158,hS⟩
        refine po (st (wl (s_storeA ti31 (et d4) (et (k70 d9)) rfl rfl hS d3 rfl p3 dn ?_)))
        clear hS; intro w43 hS
        refine st (nw (cret ?_))
        refine (fun h=>br (xr h)) ?_
        obtain rfl:=oI h
        refine retN rfl (RVs.s (.a d4 ti31 (hS.blk d3).cells rfl) (RVs.s (.t d5) RVs.z)) ?_
        replace hS:=(hS.drop Rm.z).drop (Rm.s (Rm.s Rm.z))
        replace hS:Sq μ25 w0 _ (.blk b1 154 [.pointer (some ⟨b3,o4,none⟩),.pointer (some ⟨b12,o13,none⟩),v22]::.row v22 151 1 bloc_21.length (cOf ms23)::(mRs ms23++rsF)):=hS
        exact ⟨_,rfl,(le149.t (le153.t le158)),hS⟩
       ·replace h:=iF h150 h
        refine nz ?_
        iterate 2 refine st ?_
        refine nw ?_
        refine cifd (et (k80 d1)) (fun h159=>?_) (fun h159=>?_)
        ·replace h:=iT h159 h
         refine nz ?_
         iterate 2 refine st ?_
         obtain ⟨r160,g161,h⟩:=bI h
         replace hS:=(hS.bg Y1).bg Y1
         replace hS:=Sep.mOut (a:=[_,_]) (p:=[_]) (M:=mRs ms23) (R:=rsF) hS
         refine ca (IH.sema_args (hg.t le149) (m7.up le149) (m9.up le149) (m10.up le149) (m16.up le149) (m19.up le149) (m20.up le149) (m24.up le149) (m29.up le149) (m30.up le149) g161 hS) ?_
         rintro _ w44 ⟨μ26,v163,rfl,le162,hS,m164⟩
         replace hS:=Sep.mOut (a:=[_,_]) (p:=mRs ms23) (M:=[_]) (R:=rsF) hS
         refine po ?_
         iterate 5 refine st ?_
         refine ny (nz ?_)
         iterate 2 refine st ?_
         refine nw ?_
         refine cifd (et (k90 d0)) (fun h165=>?_) (fun h165=>?_)
         ·replace h:=iT h165 h
          refine nz ?_
          obtain ⟨r166,g167,h⟩:=bI h
          refine ca (sema_num_w (hg.t (le149.t le162)) g167 hS) ?_
          rintro _ w45 ⟨μ27,rfl,le168,hS⟩
          refine po (st (wl (s_storeA ti31 (et d4) (et (k90 d1)) rfl rfl hS d2 rfl p2 dn ?_)))
          clear hS; intro w46 hS
          refine st (nw (cret ?_))
          refine (fun h=>xr (br (xr h))) ?_
          obtain rfl:=oI h
          refine retN rfl (RVs.s (.a d4 ti31 (hS.blk d2).cells rfl) (RVs.s (.t d5) RVs.z)) ?_
          replace hS:=hS.drop (Rm.s (Rm.s Rm.z))
          replace hS:Sq μ27 w0 _ (.blk b1 154 [.pointer (some ⟨b3,o4,none⟩),.pointer (some ⟨b12,o13,none⟩),v22]::.row v22 151 1 bloc_21.length (cOf ms23)::(mRs ms23++rsF)):=hS
          exact ⟨_,rfl,(le149.t (le162.t le168)),hS⟩
         ·replace h:=iF h165 h
          refine cskip (xn (nz (st ?_)))
          obtain ⟨x169,g170,h⟩:=bI h
          obtain ⟨b171,o172,cs173,rfl,f174,m175⟩:=Np.get m164 g170
          obtain ⟨a176,c177,a179,c180,rfl,m178,m181⟩:=m175
          iterate 2 refine st ?_
          refine lds ((f174 _ hS.a).sb 2 2) rfl ?_
          obtain ⟨r182,g183,h⟩:=bI h
          refine ca (sema_bare_w (hg.t (le149.t le162)) g183 hS) ?_
          rintro _ w47 ⟨μ28,rfl,le184,hS⟩
          refine po (wl (s_storeA ti31 (et d4) (et (k90 d7)) rfl rfl hS d2 rfl p2 dn ?_))
          clear hS; intro w48 hS
          refine st (nw (cret ?_))
          refine (fun h=>br (xr h)) ?_
          obtain rfl:=oI h
          refine retN rfl (RVs.s (.a d4 ti31 (hS.blk d2).cells rfl) (RVs.s (.t d5) RVs.z)) ?_
          replace hS:=hS.drop (Rm.s (Rm.s Rm.z))
          replace hS:Sq μ28 w0 _ (.blk b1 154 [.pointer (some ⟨b3,o4,none⟩),.pointer (some ⟨b12,o13,none⟩),v22]::.row v22 151 1 bloc_21.length (cOf ms23)::(mRs ms23++rsF)):=hS
          exact ⟨_,rfl,(le149.t (le162.t le184)),hS⟩
        ·replace h:=iF h159 h
         refine nz ?_
         iterate 2 refine st ?_
         refine nw ?_
         refine cifd (et (k90 d8)) (fun h185=>?_) (fun h185=>?_)
         ·replace h:=iT h185 h
          refine cseq ?_
          refine cdw hS ?_; clear hS; intro w49 hS
          refine cpi 0 rfl (cpi 1 rfl (cpi 2 rfl (cpi 4 rfl (cpi 5 rfl (cpi 6 rfl (cr 3 [3,8,9,10,11,12,13] rfl (u_load ti67 (et (k100 d3)) ((hS.blk d0).cell d0)) (q100 p4) (cr 7 [7,8,9,10,11,12,13] rfl (u_load ti9 (et (k100 d7)) ((m30 _ (le149 _ hS.a)).one d2)) (q100 p8) ?_)))))))
          obtain ⟨r186,g187,h⟩:=bI h
          refine sc1 rfl rfl rfl (s_callv isfn79 ef (e1 (et (k100 d4)) (e1 ec (e1 (et (k100 d8)) e0))) (sema_find_w (hg.t le149) (m7.up le149) (m9.up le149) (m10.up le149) g187 hS) ?_)
          rintro _ w50 ⟨μ29,v189,rfl,le188,hS,m190⟩
          refine po (cpi 9 rfl (cpi 10 rfl (cpi 11 rfl (cpi 12 rfl (cpi 13 rfl (nu (cseq (nz ?_))))))))
          iterate 2 refine st ?_
          refine nw ?_
          refine cifnb (et (k100 (k10 d3))) (fun h191=>?_) (fun h191=>?_)
          ·replace h:=iF h191 h
           refine nz ?_
           obtain ⟨r192,g193,h⟩:=bI h
           refine ca (sema_num_w (hg.t (le149.t le188)) g193 hS) ?_
           rintro _ w51 ⟨μ30,rfl,le194,hS⟩
           refine po (wl (s_storeA ti31 (et d4) (et (k100 (k10 d4))) rfl rfl hS d2 rfl p2 dn ?_))
           clear hS; intro w52 hS
           refine st (nw (cret ?_))
           refine (fun h=>xr (br (xr h))) ?_
           obtain rfl:=oI h
           refine retN rfl (RVs.s (.a d4 ti31 (hS.blk d2).cells rfl) (RVs.s (.t d5) RVs.z)) ?_
           replace hS:=hS.drop (Rm.s (Rm.s Rm.z))
           replace hS:Sq μ30 w0 _ (.blk b1 154 [.pointer (some ⟨b3,o4,none⟩),.pointer (some ⟨b12,o13,none⟩),v22]::.row v22 151 1 bloc_21.length (cOf ms23)::(mRs ms23++rsF)):=hS
           exact ⟨_,rfl,(le149.t (le188.t le194)),hS⟩
          ·replace h:=iT h191 h
           refine cskip (xn (nz (st ?_)))
           obtain ⟨x195,g196,h⟩:=bI h
           obtain ⟨b197,o198,cs199,rfl,f200,m201⟩:=Np.get m190 g196
           obtain ⟨a202,c203,a205,c206,rfl,m204,m207⟩:=m201
           iterate 2 refine st ?_
           refine lds ((f200 _ hS.a).sb 2 2) rfl ?_
           obtain ⟨r208,g209,h⟩:=bI h
           refine ca (sema_bare_w (hg.t (le149.t le188)) g209 hS) ?_
           rintro _ w53 ⟨μ31,rfl,le210,hS⟩
           refine po (wl (s_storeA ti31 (et d4) (et (k100 (k10 d9))) rfl rfl hS d2 rfl p2 dn ?_))
           clear hS; intro w54 hS
           refine st (nw (cret ?_))
           refine (fun h=>br (xr h)) ?_
           obtain rfl:=oI h
           refine retN rfl (RVs.s (.a d4 ti31 (hS.blk d2).cells rfl) (RVs.s (.t d5) RVs.z)) ?_
           replace hS:=hS.drop (Rm.s (Rm.s Rm.z))
           replace hS:Sq μ31 w0 _ (.blk b1 154 [.pointer (some ⟨b3,o4,none⟩),.pointer (some ⟨b12,o13,none⟩),v22]::.row v22 151 1 bloc_21.length (cOf ms23)::(mRs ms23++rsF)):=hS
           exact ⟨_,rfl,(le149.t (le188.t le210)),hS⟩
         ·replace h:=iF h185 h
          refine nz ?_
          iterate 2 refine st ?_
          refine nw ?_
          refine cifd (et (k100 (k20 d0))) (fun h211=>?_) (fun h211=>?_)
          ·replace h:=iT h211 h
           refine cseq (nz ?_)
           iterate 3 refine st ?_
           refine ld ((hS.blk d0).cell d1) ?_
           iterate 2 refine st ?_
           refine ld ((m20 _ (le149 _ hS.a)).one d0) (st (nw ?_))
           refine cifd (et (k100 (k20 d9))) (fun h212=>?_) (fun h212=>?_)
           ·replace h:=iT h212 h
            refine nz ?_
            obtain ⟨r213,g214,h⟩:=bI h
            refine ca (sema_num_w (hg.t le149) g214 hS) ?_
            rintro _ w55 ⟨μ32,rfl,le215,hS⟩
            refine po (wl (s_storeA ti31 (et d4) (et (k100 (k30 d0))) rfl rfl hS d2 rfl p2 dn ?_))
            clear hS; intro w56 hS
            refine st (nw (cret ?_))
            refine (fun h=>xr (br (xr h))) ?_
            obtain rfl:=oI h
            refine retN rfl (RVs.s (.a d4 ti31 (hS.blk d2).cells rfl) (RVs.s (.t d5) RVs.z)) ?_
            replace hS:=hS.drop (Rm.s (Rm.s Rm.z))
            replace hS:Sq μ32 w0 _ (.blk b1 154 [.pointer (some ⟨b3,o4,none⟩),.pointer (some ⟨b12,o13,none⟩),v22]::.row v22 151 1 bloc_21.length (cOf ms23)::(mRs ms23++rsF)):=hS
            exact ⟨_,rfl,(le149.t le215),hS⟩
           ·replace h:=iF h212 h
            refine cskip (xn (cseq ?_))
            refine ccutE (rg 131 22) (by decide +kernel) (fun m w=>∃ μx i216 i217 s218,m=(yK5 (.i (.int .i64 i216)::(yK50 (yK50 (yK20 (yK5 (yO20 131 (yO2 151 []))))))))∧sema_expr_j4 i216 i217 s218=some r∧Le μ23 μx∧Sq μx w0 w (.blk b1 154 [.pointer (some ⟨b3,o4,none⟩),.pointer (some ⟨b12,o13,none⟩),v22]::.row v22 151 1 bloc_21.length (cOf ms23)::.blk b31 31 [.int .i64 i217,S s218]::(mRs ms23++rsF))) (by rintro _ _ ⟨_,_,_,_,rfl,_⟩; rfl) ?_ ?_
            ·refine cdw hS ?_; clear hS; intro w57 hS
             refine cpi 0 rfl (cpi 1 rfl (cpi 2 rfl (cpi 8 rfl (cpi 9 rfl (cpi 10 rfl (cpi 11 rfl (cpi 14 rfl (cpi 15 rfl (cpi 16 rfl ?_)))))))))
             refine sc3G (i:=3) (j:=12) (k:=17) rfl rfl rfl rfl rfl rfl rfl (wn0 rfl) (wn0 rfl) (wn0 rfl) ?_ ?_ ?_
             ·refine id (s_load ti74 (et (k100 (k30 d3))) ((hS.blk d0).cell d1) (dt (q100 (q30 p4))) (cpi 4 rfl (cpi 5 rfl ?_)))
              refine sc3G (i:=6) (j:=12) (k:=17) rfl rfl rfl rfl rfl rfl rfl (wn0 rfl) (wn0 rfl) (wn0 rfl) ?_ ?_ ?_
              ·refine id (s_loads ti31 (et (k100 (k30 d6))) ((m20 _ (le149 _ hS.a)).sb 4 2) rfl (dt (q100 (q30 p7))) ?_)
               refine sc3G (i:=7) (j:=12) (k:=17) rfl rfl rfl rfl rfl rfl rfl (wn0 rfl) (wn0 rfl) (wn0 rfl) ?_ ?_ ?_
               ·obtain ⟨r219,g220,h⟩:=bI h
                refine id (s_callv isfn64 ef (e1 (et (k100 (k30 d7))) e0) (sema_bare_w (hg.t le149) g220 hS) ?_)
                rintro _ w58 ⟨μ33,rfl,le221,hS⟩
                refine po (cr 17 [17,18,19,20,21,22,23] rfl (u_load ti74 (et (k100 (k40 d7))) ((hS.blk d0).cell d1)) (q100 (q40 p8)) (cpi 18 rfl (cpi 19 rfl (cr 12 [12,13,21,22,23] rfl (u_load ti116 (et (k100 (k40 d2))) ((m30 _ ((le149.t le221) _ hS.a)).one d3)) (q100 (q40 p3)) ?_))))
                obtain ⟨x222,g223,h⟩:=bI h
                obtain ⟨b224,o225,cs226,e227,f228,m229⟩:=SlR.elem (m29.up (le149.t le221)) g223
                obtain ⟨a230,c231,rfl,m232⟩:=TExpr.o m229
                refine cp 13 rfl (u_iax underlying116 ti118 (et (k100 (k40 d3))) ec e227) (q100 (q40 p4)) (cr 20 [20,21,22,23] rfl (u_loads ti31 (et (k100 (k50 d0))) ((m20 _ ((le149.t le221) _ hS.a)).sb 2 2) rfl) (q100 (q50 p1)) ?_)
                obtain ⟨r233,g234,h⟩:=bI h
                replace hS:=(hS.bg Y1).bg Y1
                replace hS:=Sep.mOut (a:=[_,_]) (p:=[_]) (M:=mRs ms23) (R:=rsF) hS
                refine sc1 rfl rfl rfl (s_callv isfn98 ef (e1 (et (k100 (k30 d9))) (e1 (et (k100 (k40 d4))) (e1 (et (k100 (k50 d1))) e0))) (IH.sema_typed (hg.t (le149.t le221)) (m7.up (le149.t le221)) (m9.up (le149.t le221)) (m10.up (le149.t le221)) (m16.up (le149.t le221)) (m19.up (le149.t le221)) (m20.up (le149.t le221)) (m24.up (le149.t le221)) m232 f228 g234 hS) ?_)
                rintro _ w59 ⟨μ34,rfl,le235,hS⟩
                replace hS:=Sep.mOut (a:=[_,_]) (p:=mRs ms23) (M:=[_]) (R:=rsF) hS
                refine po (sc1 rfl rfl rfl (s_storeA ti31 (et d4) (et (k100 (k30 d8))) rfl rfl hS d2 rfl p2 dn ?_))
                clear hS; intro w60 hS
                refine cpi 23 rfl (sc_nil (xl ?_))
                exact ⟨_,_,rfl,(aK5 (aI (aK50 (aK50 (aK20 (aK5 (aO20 (aO2 aZ)))))))),_,_,r219.Kind,r219.Gen,rfl,h,(le221.t le235),hS⟩
               ·obtain ⟨r219,g220,h⟩:=bI h
                obtain ⟨x222,g223,h⟩:=bI h
                obtain ⟨r233,g234,h⟩:=bI h
                refine id (s_load ti116 (et (k100 (k40 d2))) ((m30 _ (le149 _ hS.a)).one d3) (dt (q100 (q40 p3))) ?_)
                obtain ⟨b236,o237,cs238,e239,f240,m241⟩:=SlR.elem (m29.up le149) g223
                obtain ⟨a242,c243,rfl,m244⟩:=TExpr.o m241
                refine cp 13 rfl (u_iax underlying116 ti118 (et (k100 (k40 d3))) ec e239) (q100 (q40 p4)) ?_
                refine sc2G (i:=7) (j:=17) rfl rfl rfl rfl rfl (wn0 rfl) (wn0 rfl) ?_ ?_
                ·refine id (s_callv isfn64 ef (e1 (et (k100 (k30 d7))) e0) (sema_bare_w (hg.t le149) g220 hS) ?_)
                 rintro _ w61 ⟨μ35,rfl,le245,hS⟩
                 refine po (cr 17 [17,18,19,20,21,22,23] rfl (u_load ti74 (et (k100 (k40 d7))) ((hS.blk d0).cell d1)) (q100 (q40 p8)) (cpi 18 rfl (cpi 19 rfl (cr 20 [20,21,22,23] rfl (u_loads ti31 (et (k100 (k50 d0))) ((m20 _ ((le149.t le245) _ hS.a)).sb 2 2) rfl) (q100 (q50 p1)) ?_))))
                 replace hS:=(hS.bg Y1).bg Y1
                 replace hS:=Sep.mOut (a:=[_,_]) (p:=[_]) (M:=mRs ms23) (R:=rsF) hS
                 refine sc1 rfl rfl rfl (s_callv isfn98 ef (e1 (et (k100 (k30 d9))) (e1 (et (k100 (k40 d4))) (e1 (et (k100 (k50 d1))) e0))) (IH.sema_typed (hg.t (le149.t le245)) (m7.up (le149.t le245)) (m9.up (le149.t le245)) (m10.up (le149.t le245)) (m16.up (le149.t le245)) (m19.up (le149.t le245)) (m20.up (le149.t le245)) (m24.up (le149.t le245)) (m244.up le245) (f240.up le245) g234 hS) ?_)
                 rintro _ w62 ⟨μ36,rfl,le246,hS⟩
                 replace hS:=Sep.mOut (a:=[_,_]) (p:=mRs ms23) (M:=[_]) (R:=rsF) hS
                 refine po (sc1 rfl rfl rfl (s_storeA ti31 (et d4) (et (k100 (k30 d8))) rfl rfl hS d2 rfl p2 dn ?_))
                 clear hS; intro w63 hS
                 refine cpi 23 rfl (sc_nil (xl ?_))
                 exact ⟨_,_,rfl,(aK5 (aI (aK50 (aK50 (aK20 (aK5 (aO20 (aO2 aZ)))))))),_,_,r219.Kind,r219.Gen,rfl,h,(le245.t le246),hS⟩
                ·refine id (s_load ti74 (et (k100 (k40 d7))) ((hS.blk d0).cell d1) (dt (q100 (q40 p8))) (cpi 18 rfl (cpi 19 rfl ?_)))
                 refine sc2G (i:=7) (j:=20) rfl rfl rfl rfl rfl (wn0 rfl) (wn0 rfl) ?_ ?_
                 ·refine id (s_callv isfn64 ef (e1 (et (k100 (k30 d7))) e0) (sema_bare_w (hg.t le149) g220 hS) ?_)
                  rintro _ w64 ⟨μ37,rfl,le247,hS⟩
                  refine po (cr 20 [20,21,22,23] rfl (u_loads ti31 (et (k100 (k50 d0))) ((m20 _ ((le149.t le247) _ hS.a)).sb 2 2) rfl) (q100 (q50 p1)) ?_)
                  replace hS:=(hS.bg Y1).bg Y1
                  replace hS:=Sep.mOut (a:=[_,_]) (p:=[_]) (M:=mRs ms23) (R:=rsF) hS
                  refine sc1 rfl rfl rfl (s_callv isfn98 ef (e1 (et (k100 (k30 d9))) (e1 (et (k100 (k40 d4))) (e1 (et (k100 (k50 d1))) e0))) (IH.sema_typed (hg.t (le149.t le247)) (m7.up (le149.t le247)) (m9.up (le149.t le247)) (m10.up (le149.t le247)) (m16.up (le149.t le247)) (m19.up (le149.t le247)) (m20.up (le149.t le247)) (m24.up (le149.t le247)) (m244.up le247) (f240.up le247) g234 hS) ?_)
                  rintro _ w65 ⟨μ38,rfl,le248,hS⟩
                  replace hS:=Sep.mOut (a:=[_,_]) (p:=mRs ms23) (M:=[_]) (R:=rsF) hS
                  refine po (sc1 rfl rfl rfl (s_storeA ti31 (et d4) (et (k100 (k30 d8))) rfl rfl hS d2 rfl p2 dn ?_))
                  clear hS; intro w66 hS
                  refine cpi 23 rfl (sc_nil (xl ?_))
                  exact ⟨_,_,rfl,(aK5 (aI (aK50 (aK50 (aK20 (aK5 (aO20 (aO2 aZ)))))))),_,_,r219.Kind,r219.Gen,rfl,h,(le247.t le248),hS⟩
                 ·refine id (s_loads ti31 (et (k100 (k50 d0))) ((m20 _ (le149 _ hS.a)).sb 2 2) rfl (dt (q100 (q50 p1))) (sc1 rfl rfl rfl (s_callv isfn64 ef (e1 (et (k100 (k30 d7))) e0) (sema_bare_w (hg.t le149) g220 hS) ?_)))
                  rintro _ w67 ⟨μ39,rfl,le249,hS⟩
                  refine po ?_
                  replace hS:=(hS.bg Y1).bg Y1
                  replace hS:=Sep.mOut (a:=[_,_]) (p:=[_]) (M:=mRs ms23) (R:=rsF) hS
                  refine sc1 rfl rfl rfl (s_callv isfn98 ef (e1 (et (k100 (k30 d9))) (e1 (et (k100 (k40 d4))) (e1 (et (k100 (k50 d1))) e0))) (IH.sema_typed (hg.t (le149.t le249)) (m7.up (le149.t le249)) (m9.up (le149.t le249)) (m10.up (le149.t le249)) (m16.up (le149.t le249)) (m19.up (le149.t le249)) (m20.up (le149.t le249)) (m24.up (le149.t le249)) (m244.up le249) (f240.up le249) g234 hS) ?_)
                  rintro _ w68 ⟨μ40,rfl,le250,hS⟩
                  replace hS:=Sep.mOut (a:=[_,_]) (p:=mRs ms23) (M:=[_]) (R:=rsF) hS
                  refine po (sc1 rfl rfl rfl (s_storeA ti31 (et d4) (et (k100 (k30 d8))) rfl rfl hS d2 rfl p2 dn ?_))
                  clear hS; intro w69 hS
                  refine cpi 23 rfl (sc_nil (xl ?_))
                  exact ⟨_,_,rfl,(aK5 (aI (aK50 (aK50 (aK20 (aK5 (aO20 (aO2 aZ)))))))),_,_,r219.Kind,r219.Gen,rfl,h,(le249.t le250),hS⟩
               ·obtain ⟨r219,g220,h⟩:=bI h
                obtain ⟨x222,g223,h⟩:=bI h
                obtain ⟨r233,g234,h⟩:=bI h
                refine id (s_load ti74 (et (k100 (k40 d7))) ((hS.blk d0).cell d1) (dt (q100 (q40 p8))) (cpi 18 rfl (cpi 19 rfl ?_)))
                refine sc3G (i:=7) (j:=12) (k:=20) rfl rfl rfl rfl rfl rfl rfl (wn0 rfl) (wn0 rfl) (wn0 rfl) ?_ ?_ ?_
                ·refine id (s_callv isfn64 ef (e1 (et (k100 (k30 d7))) e0) (sema_bare_w (hg.t le149) g220 hS) ?_)
                 rintro _ w70 ⟨μ41,rfl,le251,hS⟩
                 refine po (cr 12 [12,13,21,22,23] rfl (u_load ti116 (et (k100 (k40 d2))) ((m30 _ ((le149.t le251) _ hS.a)).one d3)) (q100 (q40 p3)) ?_)
                 obtain ⟨b252,o253,cs254,e255,f256,m257⟩:=SlR.elem (m29.up (le149.t le251)) g223
                 obtain ⟨a258,c259,rfl,m260⟩:=TExpr.o m257
                 refine cp 13 rfl (u_iax underlying116 ti118 (et (k100 (k40 d3))) ec e255) (q100 (q40 p4)) (cr 20 [20,21,22,23] rfl (u_loads ti31 (et (k100 (k50 d0))) ((m20 _ ((le149.t le251) _ hS.a)).sb 2 2) rfl) (q100 (q50 p1)) ?_)
                 replace hS:=(hS.bg Y1).bg Y1
                 replace hS:=Sep.mOut (a:=[_,_]) (p:=[_]) (M:=mRs ms23) (R:=rsF) hS
                 refine sc1 rfl rfl rfl (s_callv isfn98 ef (e1 (et (k100 (k30 d9))) (e1 (et (k100 (k40 d4))) (e1 (et (k100 (k50 d1))) e0))) (IH.sema_typed (hg.t (le149.t le251)) (m7.up (le149.t le251)) (m9.up (le149.t le251)) (m10.up (le149.t le251)) (m16.up (le149.t le251)) (m19.up (le149.t le251)) (m20.up (le149.t le251)) (m24.up (le149.t le251)) m260 f256 g234 hS) ?_)
                 rintro _ w71 ⟨μ42,rfl,le261,hS⟩
                 replace hS:=Sep.mOut (a:=[_,_]) (p:=mRs ms23) (M:=[_]) (R:=rsF) hS
                 refine po (sc1 rfl rfl rfl (s_storeA ti31 (et d4) (et (k100 (k30 d8))) rfl rfl hS d2 rfl p2 dn ?_))
                 clear hS; intro w72 hS
                 refine cpi 23 rfl (sc_nil (xl ?_))
                 exact ⟨_,_,rfl,(aK5 (aI (aK50 (aK50 (aK20 (aK5 (aO20 (aO2 aZ)))))))),_,_,r219.Kind,r219.Gen,rfl,h,(le251.t le261),hS⟩
                ·refine id (s_load ti116 (et (k100 (k40 d2))) ((m30 _ (le149 _ hS.a)).one d3) (dt (q100 (q40 p3))) ?_)
                 obtain ⟨b262,o263,cs264,e265,f266,m267⟩:=SlR.elem (m29.up le149) g223
                 obtain ⟨a268,c269,rfl,m270⟩:=TExpr.o m267
                 refine cp 13 rfl (u_iax underlying116 ti118 (et (k100 (k40 d3))) ec e265) (q100 (q40 p4)) ?_
                 refine sc2G (i:=7) (j:=20) rfl rfl rfl rfl rfl (wn0 rfl) (wn0 rfl) ?_ ?_
                 ·refine id (s_callv isfn64 ef (e1 (et (k100 (k30 d7))) e0) (sema_bare_w (hg.t le149) g220 hS) ?_)
                  rintro _ w73 ⟨μ43,rfl,le271,hS⟩
                  refine po (cr 20 [20,21,22,23] rfl (u_loads ti31 (et (k100 (k50 d0))) ((m20 _ ((le149.t le271) _ hS.a)).sb 2 2) rfl) (q100 (q50 p1)) ?_)
                  replace hS:=(hS.bg Y1).bg Y1
                  replace hS:=Sep.mOut (a:=[_,_]) (p:=[_]) (M:=mRs ms23) (R:=rsF) hS
                  refine sc1 rfl rfl rfl (s_callv isfn98 ef (e1 (et (k100 (k30 d9))) (e1 (et (k100 (k40 d4))) (e1 (et (k100 (k50 d1))) e0))) (IH.sema_typed (hg.t (le149.t le271)) (m7.up (le149.t le271)) (m9.up (le149.t le271)) (m10.up (le149.t le271)) (m16.up (le149.t le271)) (m19.up (le149.t le271)) (m20.up (le149.t le271)) (m24.up (le149.t le271)) (m270.up le271) (f266.up le271) g234 hS) ?_)
                  rintro _ w74 ⟨μ44,rfl,le272,hS⟩
                  replace hS:=Sep.mOut (a:=[_,_]) (p:=mRs ms23) (M:=[_]) (R:=rsF) hS
                  refine po (sc1 rfl rfl rfl (s_storeA ti31 (et d4) (et (k100 (k30 d8))) rfl rfl hS d2 rfl p2 dn ?_))
                  clear hS; intro w75 hS
                  refine cpi 23 rfl (sc_nil (xl ?_))
                  exact ⟨_,_,rfl,(aK5 (aI (aK50 (aK50 (aK20 (aK5 (aO20 (aO2 aZ)))))))),_,_,r219.Kind,r219.Gen,rfl,h,(le271.t le272),hS⟩
                 ·refine id (s_loads ti31 (et (k100 (k50 d0))) ((m20 _ (le149 _ hS.a)).sb 2 2) rfl (dt (q100 (q50 p1))) (sc1 rfl rfl rfl (s_callv isfn64 ef (e1 (et (k100 (k30 d7))) e0) (sema_bare_w (hg.t le149) g220 hS) ?_)))
                  rintro _ w76 ⟨μ45,rfl,le273,hS⟩
                  refine po ?_
                  replace hS:=(hS.bg Y1).bg Y1
                  replace hS:=Sep.mOut (a:=[_,_]) (p:=[_]) (M:=mRs ms23) (R:=rsF) hS
                  refine sc1 rfl rfl rfl (s_callv isfn98 ef (e1 (et (k100 (k30 d9))) (e1 (et (k100 (k40 d4))) (e1 (et (k100 (k50 d1))) e0))) (IH.sema_typed (hg.t (le149.t le273)) (m7.up (le149.t le273)) (m9.up (le149.t le273)) (m10.up (le149.t le273)) (m16.up (le149.t le273)) (m19.up (le149.t le273)) (m20.up (le149.t le273)) (m24.up (le149.t le273)) (m270.up le273) (f266.up le273) g234 hS) ?_)
                  rintro _ w77 ⟨μ46,rfl,le274,hS⟩
                  replace hS:=Sep.mOut (a:=[_,_]) (p:=mRs ms23) (M:=[_]) (R:=rsF) hS
                  refine po (sc1 rfl rfl rfl (s_storeA ti31 (et d4) (et (k100 (k30 d8))) rfl rfl hS d2 rfl p2 dn ?_))
                  clear hS; intro w78 hS
                  refine cpi 23 rfl (sc_nil (xl ?_))
                  exact ⟨_,_,rfl,(aK5 (aI (aK50 (aK50 (aK20 (aK5 (aO20 (aO2 aZ)))))))),_,_,r219.Kind,r219.Gen,rfl,h,(le273.t le274),hS⟩
                ·refine id (s_loads ti31 (et (k100 (k50 d0))) ((m20 _ (le149 _ hS.a)).sb 2 2) rfl (dt (q100 (q50 p1))) ?_)
                 refine sc2G (i:=7) (j:=12) rfl rfl rfl rfl rfl (wn0 rfl) (wn0 rfl) ?_ ?_
                 ·refine id (s_callv isfn64 ef (e1 (et (k100 (k30 d7))) e0) (sema_bare_w (hg.t le149) g220 hS) ?_)
                  rintro _ w79 ⟨μ47,rfl,le275,hS⟩
                  refine po (cr 12 [12,13,21,22,23] rfl (u_load ti116 (et (k100 (k40 d2))) ((m30 _ ((le149.t le275) _ hS.a)).one d3)) (q100 (q40 p3)) ?_)
                  obtain ⟨b276,o277,cs278,e279,f280,m281⟩:=SlR.elem (m29.up (le149.t le275)) g223
                  obtain ⟨a282,c283,rfl,m284⟩:=TExpr.o m281
                  refine cp 13 rfl (u_iax underlying116 ti118 (et (k100 (k40 d3))) ec e279) (q100 (q40 p4)) ?_
                  replace hS:=(hS.bg Y1).bg Y1
                  replace hS:=Sep.mOut (a:=[_,_]) (p:=[_]) (M:=mRs ms23) (R:=rsF) hS
                  refine sc1 rfl rfl rfl (s_callv isfn98 ef (e1 (et (k100 (k30 d9))) (e1 (et (k100 (k40 d4))) (e1 (et (k100 (k50 d1))) e0))) (IH.sema_typed (hg.t (le149.t le275)) (m7.up (le149.t le275)) (m9.up (le149.t le275)) (m10.up (le149.t le275)) (m16.up (le149.t le275)) (m19.up (le149.t le275)) (m20.up (le149.t le275)) (m24.up (le149.t le275)) m284 f280 g234 hS) ?_)
                  rintro _ w80 ⟨μ48,rfl,le285,hS⟩
                  replace hS:=Sep.mOut (a:=[_,_]) (p:=mRs ms23) (M:=[_]) (R:=rsF) hS
                  refine po (sc1 rfl rfl rfl (s_storeA ti31 (et d4) (et (k100 (k30 d8))) rfl rfl hS d2 rfl p2 dn ?_))
                  clear hS; intro w81 hS
                  refine cpi 23 rfl (sc_nil (xl ?_))
                  exact ⟨_,_,rfl,(aK5 (aI (aK50 (aK50 (aK20 (aK5 (aO20 (aO2 aZ)))))))),_,_,r219.Kind,r219.Gen,rfl,h,(le275.t le285),hS⟩
                 ·refine id (s_load ti116 (et (k100 (k40 d2))) ((m30 _ (le149 _ hS.a)).one d3) (dt (q100 (q40 p3))) ?_)
                  obtain ⟨b286,o287,cs288,e289,f290,m291⟩:=SlR.elem (m29.up le149) g223
                  obtain ⟨a292,c293,rfl,m294⟩:=TExpr.o m291
                  refine cp 13 rfl (u_iax underlying116 ti118 (et (k100 (k40 d3))) ec e289) (q100 (q40 p4)) (sc1 rfl rfl rfl (s_callv isfn64 ef (e1 (et (k100 (k30 d7))) e0) (sema_bare_w (hg.t le149) g220 hS) ?_))
                  rintro _ w82 ⟨μ49,rfl,le295,hS⟩
                  refine po ?_
                  replace hS:=(hS.bg Y1).bg Y1
                  replace hS:=Sep.mOut (a:=[_,_]) (p:=[_]) (M:=mRs ms23) (R:=rsF) hS
                  refine sc1 rfl rfl rfl (s_callv isfn98 ef (e1 (et (k100 (k30 d9))) (e1 (et (k100 (k40 d4))) (e1 (et (k100 (k50 d1))) e0))) (IH.sema_typed (hg.t (le149.t le295)) (m7.up (le149.t le295)) (m9.up (le149.t le295)) (m10.up (le149.t le295)) (m16.up (le149.t le295)) (m19.up (le149.t le295)) (m20.up (le149.t le295)) (m24.up (le149.t le295)) (m294.up le295) (f290.up le295) g234 hS) ?_)
                  rintro _ w83 ⟨μ50,rfl,le296,hS⟩
                  replace hS:=Sep.mOut (a:=[_,_]) (p:=mRs ms23) (M:=[_]) (R:=rsF) hS
                  refine po (sc1 rfl rfl rfl (s_storeA ti31 (et d4) (et (k100 (k30 d8))) rfl rfl hS d2 rfl p2 dn ?_))
                  clear hS; intro w84 hS
                  refine cpi 23 rfl (sc_nil (xl ?_))
                  exact ⟨_,_,rfl,(aK5 (aI (aK50 (aK50 (aK20 (aK5 (aO20 (aO2 aZ)))))))),_,_,r219.Kind,r219.Gen,rfl,h,(le295.t le296),hS⟩
              ·obtain ⟨r219,g220,h⟩:=bI h
               obtain ⟨x222,g223,h⟩:=bI h
               obtain ⟨r233,g234,h⟩:=bI h
               refine id (s_load ti116 (et (k100 (k40 d2))) ((m30 _ (le149 _ hS.a)).one d3) (dt (q100 (q40 p3))) ?_)
               obtain ⟨b297,o298,cs299,e300,f301,m302⟩:=SlR.elem (m29.up le149) g223
               obtain ⟨a303,c304,rfl,m305⟩:=TExpr.o m302
               refine cp 13 rfl (u_iax underlying116 ti118 (et (k100 (k40 d3))) ec e300) (q100 (q40 p4)) ?_
               refine sc2G (i:=6) (j:=17) rfl rfl rfl rfl rfl (wn0 rfl) (wn0 rfl) ?_ ?_
               ·refine id (s_loads ti31 (et (k100 (k30 d6))) ((m20 _ (le149 _ hS.a)).sb 4 2) rfl (dt (q100 (q30 p7))) ?_)
                refine sc2G (i:=7) (j:=17) rfl rfl rfl rfl rfl (wn0 rfl) (wn0 rfl) ?_ ?_
                ·refine id (s_callv isfn64 ef (e1 (et (k100 (k30 d7))) e0) (sema_bare_w (hg.t le149) g220 hS) ?_)
                 rintro _ w85 ⟨μ51,rfl,le306,hS⟩
                 refine po (cr 17 [17,18,19,20,21,22,23] rfl (u_load ti74 (et (k100 (k40 d7))) ((hS.blk d0).cell d1)) (q100 (q40 p8)) (cpi 18 rfl (cpi 19 rfl (cr 20 [20,21,22,23] rfl (u_loads ti31 (et (k100 (k50 d0))) ((m20 _ ((le149.t le306) _ hS.a)).sb 2 2) rfl) (q100 (q50 p1)) ?_))))
                 replace hS:=(hS.bg Y1).bg Y1
                 replace hS:=Sep.mOut (a:=[_,_]) (p:=[_]) (M:=mRs ms23) (R:=rsF) hS
                 refine sc1 rfl rfl rfl (s_callv isfn98 ef (e1 (et (k100 (k30 d9))) (e1 (et (k100 (k40 d4))) (e1 (et (k100 (k50 d1))) e0))) (IH.sema_typed (hg.t (le149.t le306)) (m7.up (le149.t le306)) (m9.up (le149.t le306)) (m10.up (le149.t le306)) (m16.up (le149.t le306)) (m19.up (le149.t le306)) (m20.up (le149.t le306)) (m24.up (le149.t le306)) (m305.up le306) (f301.up le306) g234 hS) ?_)
                 rintro _ w86 ⟨μ52,rfl,le307,hS⟩
                 replace hS:=Sep.mOut (a:=[_,_]) (p:=mRs ms23) (M:=[_]) (R:=rsF) hS
                 refine po (sc1 rfl rfl rfl (s_storeA ti31 (et d4) (et (k100 (k30 d8))) rfl rfl hS d2 rfl p2 dn ?_))
                 clear hS; intro w87 hS
                 refine cpi 23 rfl (sc_nil (xl ?_))
                 exact ⟨_,_,rfl,(aK5 (aI (aK50 (aK50 (aK20 (aK5 (aO20 (aO2 aZ)))))))),_,_,r219.Kind,r219.Gen,rfl,h,(le306.t le307),hS⟩
                ·refine id (s_load ti74 (et (k100 (k40 d7))) ((hS.blk d0).cell d1) (dt (q100 (q40 p8))) (cpi 18 rfl (cpi 19 rfl ?_)))
                 refine sc2G (i:=7) (j:=20) rfl rfl rfl rfl rfl (wn0 rfl) (wn0 rfl) ?_ ?_
                 ·refine id (s_callv isfn64 ef (e1 (et (k100 (k30 d7))) e0) (sema_bare_w (hg.t le149) g220 hS) ?_)
                  rintro _ w88 ⟨μ53,rfl,le308,hS⟩
                  refine po (cr 20 [20,21,22,23] rfl (u_loads ti31 (et (k100 (k50 d0))) ((m20 _ ((le149.t le308) _ hS.a)).sb 2 2) rfl) (q100 (q50 p1)) ?_)
                  replace hS:=(hS.bg Y1).bg Y1
                  replace hS:=Sep.mOut (a:=[_,_]) (p:=[_]) (M:=mRs ms23) (R:=rsF) hS
                  refine sc1 rfl rfl rfl (s_callv isfn98 ef (e1 (et (k100 (k30 d9))) (e1 (et (k100 (k40 d4))) (e1 (et (k100 (k50 d1))) e0))) (IH.sema_typed (hg.t (le149.t le308)) (m7.up (le149.t le308)) (m9.up (le149.t le308)) (m10.up (le149.t le308)) (m16.up (le149.t le308)) (m19.up (le149.t le308)) (m20.up (le149.t le308)) (m24.up (le149.t le308)) (m305.up le308) (f301.up le308) g234 hS) ?_)
                  rintro _ w89 ⟨μ54,rfl,le309,hS⟩
                  replace hS:=Sep.mOut (a:=[_,_]) (p:=mRs ms23) (M:=[_]) (R:=rsF) hS
                  refine po (sc1 rfl rfl rfl (s_storeA ti31 (et d4) (et (k100 (k30 d8))) rfl rfl hS d2 rfl p2 dn ?_))
                  clear hS; intro w90 hS
                  refine cpi 23 rfl (sc_nil (xl ?_))
                  exact ⟨_,_,rfl,(aK5 (aI (aK50 (aK50 (aK20 (aK5 (aO20 (aO2 aZ)))))))),_,_,r219.Kind,r219.Gen,rfl,h,(le308.t le309),hS⟩
                 ·refine id (s_loads ti31 (et (k100 (k50 d0))) ((m20 _ (le149 _ hS.a)).sb 2 2) rfl (dt (q100 (q50 p1))) (sc1 rfl rfl rfl (s_callv isfn64 ef (e1 (et (k100 (k30 d7))) e0) (sema_bare_w (hg.t le149) g220 hS) ?_)))
                  rintro _ w91 ⟨μ55,rfl,le310,hS⟩
                  refine po ?_
                  replace hS:=(hS.bg Y1).bg Y1
                  replace hS:=Sep.mOut (a:=[_,_]) (p:=[_]) (M:=mRs ms23) (R:=rsF) hS
                  refine sc1 rfl rfl rfl (s_callv isfn98 ef (e1 (et (k100 (k30 d9))) (e1 (et (k100 (k40 d4))) (e1 (et (k100 (k50 d1))) e0))) (IH.sema_typed (hg.t (le149.t le310)) (m7.up (le149.t le310)) (m9.up (le149.t le310)) (m10.up (le149.t le310)) (m16.up (le149.t le310)) (m19.up (le149.t le310)) (m20.up (le149.t le310)) (m24.up (le149.t le310)) (m305.up le310) (f301.up le310) g234 hS) ?_)
                  rintro _ w92 ⟨μ56,rfl,le311,hS⟩
                  replace hS:=Sep.mOut (a:=[_,_]) (p:=mRs ms23) (M:=[_]) (R:=rsF) hS
                  refine po (sc1 rfl rfl rfl (s_storeA ti31 (et d4) (et (k100 (k30 d8))) rfl rfl hS d2 rfl p2 dn ?_))
                  clear hS; intro w93 hS
                  refine cpi 23 rfl (sc_nil (xl ?_))
                  exact ⟨_,_,rfl,(aK5 (aI (aK50 (aK50 (aK20 (aK5 (aO20 (aO2 aZ)))))))),_,_,r219.Kind,r219.Gen,rfl,h,(le310.t le311),hS⟩
               ·refine id (s_load ti74 (et (k100 (k40 d7))) ((hS.blk d0).cell d1) (dt (q100 (q40 p8))) (cpi 18 rfl (cpi 19 rfl (cr 6 [6,7,21,22,23] rfl (u_loads ti31 (et (k100 (k30 d6))) ((m20 _ (le149 _ hS.a)).sb 4 2) rfl) (q100 (q30 p7)) ?_))))
                refine sc2G (i:=7) (j:=20) rfl rfl rfl rfl rfl (wn0 rfl) (wn0 rfl) ?_ ?_
                ·refine id (s_callv isfn64 ef (e1 (et (k100 (k30 d7))) e0) (sema_bare_w (hg.t le149) g220 hS) ?_)
                 rintro _ w94 ⟨μ57,rfl,le312,hS⟩
                 refine po (cr 20 [20,21,22,23] rfl (u_loads ti31 (et (k100 (k50 d0))) ((m20 _ ((le149.t le312) _ hS.a)).sb 2 2) rfl) (q100 (q50 p1)) ?_)
                 replace hS:=(hS.bg Y1).bg Y1
                 replace hS:=Sep.mOut (a:=[_,_]) (p:=[_]) (M:=mRs ms23) (R:=rsF) hS
                 refine sc1 rfl rfl rfl (s_callv isfn98 ef (e1 (et (k100 (k30 d9))) (e1 (et (k100 (k40 d4))) (e1 (et (k100 (k50 d1))) e0))) (IH.sema_typed (hg.t (le149.t le312)) (m7.up (le149.t le312)) (m9.up (le149.t le312)) (m10.up (le149.t le312)) (m16.up (le149.t le312)) (m19.up (le149.t le312)) (m20.up (le149.t le312)) (m24.up (le149.t le312)) (m305.up le312) (f301.up le312) g234 hS) ?_)
                 rintro _ w95 ⟨μ58,rfl,le313,hS⟩
                 replace hS:=Sep.mOut (a:=[_,_]) (p:=mRs ms23) (M:=[_]) (R:=rsF) hS
                 refine po (sc1 rfl rfl rfl (s_storeA ti31 (et d4) (et (k100 (k30 d8))) rfl rfl hS d2 rfl p2 dn ?_))
                 clear hS; intro w96 hS
                 refine cpi 23 rfl (sc_nil (xl ?_))
                 exact ⟨_,_,rfl,(aK5 (aI (aK50 (aK50 (aK20 (aK5 (aO20 (aO2 aZ)))))))),_,_,r219.Kind,r219.Gen,rfl,h,(le312.t le313),hS⟩
                ·refine id (s_loads ti31 (et (k100 (k50 d0))) ((m20 _ (le149 _ hS.a)).sb 2 2) rfl (dt (q100 (q50 p1))) (sc1 rfl rfl rfl (s_callv isfn64 ef (e1 (et (k100 (k30 d7))) e0) (sema_bare_w (hg.t le149) g220 hS) ?_)))
                 rintro _ w97 ⟨μ59,rfl,le314,hS⟩
                 refine po ?_
                 replace hS:=(hS.bg Y1).bg Y1
                 replace hS:=Sep.mOut (a:=[_,_]) (p:=[_]) (M:=mRs ms23) (R:=rsF) hS
                 refine sc1 rfl rfl rfl (s_callv isfn98 ef (e1 (et (k100 (k30 d9))) (e1 (et (k100 (k40 d4))) (e1 (et (k100 (k50 d1))) e0))) (IH.sema_typed (hg.t (le149.t le314)) (m7.up (le149.t le314)) (m9.up (le149.t le314)) (m10.up (le149.t le314)) (m16.up (le149.t le314)) (m19.up (le149.t le314)) (m20.up (le149.t le314)) (m24.up (le149.t le314)) (m305.up le314) (f301.up le314) g234 hS) ?_)
                 rintro _ w98 ⟨μ60,rfl,le315,hS⟩
                 replace hS:=Sep.mOut (a:=[_,_]) (p:=mRs ms23) (M:=[_]) (R:=rsF) hS
                 refine po (sc1 rfl rfl rfl (s_storeA ti31 (et d4) (et (k100 (k30 d8))) rfl rfl hS d2 rfl p2 dn ?_))
                 clear hS; intro w99 hS
                 refine cpi 23 rfl (sc_nil (xl ?_))
                 exact ⟨_,_,rfl,(aK5 (aI (aK50 (aK50 (aK20 (aK5 (aO20 (aO2 aZ)))))))),_,_,r219.Kind,r219.Gen,rfl,h,(le314.t le315),hS⟩
              ·obtain ⟨r219,g220,h⟩:=bI h
               obtain ⟨x222,g223,h⟩:=bI h
               obtain ⟨r233,g234,h⟩:=bI h
               refine id (s_load ti74 (et (k100 (k40 d7))) ((hS.blk d0).cell d1) (dt (q100 (q40 p8))) (cpi 18 rfl (cpi 19 rfl (cr 6 [6,7,21,22,23] rfl (u_loads ti31 (et (k100 (k30 d6))) ((m20 _ (le149 _ hS.a)).sb 4 2) rfl) (q100 (q30 p7)) ?_))))
               refine sc3G (i:=7) (j:=12) (k:=20) rfl rfl rfl rfl rfl rfl rfl (wn0 rfl) (wn0 rfl) (wn0 rfl) ?_ ?_ ?_
               ·refine id (s_callv isfn64 ef (e1 (et (k100 (k30 d7))) e0) (sema_bare_w (hg.t le149) g220 hS) ?_)
                rintro _ w100 ⟨μ61,rfl,le316,hS⟩
                refine po (cr 12 [12,13,21,22,23] rfl (u_load ti116 (et (k100 (k40 d2))) ((m30 _ ((le149.t le316) _ hS.a)).one d3)) (q100 (q40 p3)) ?_)
                obtain ⟨b317,o318,cs319,e320,f321,m322⟩:=SlR.elem (m29.up (le149.t le316)) g223
                obtain ⟨a323,c324,rfl,m325⟩:=TExpr.o m322
                refine cp 13 rfl (u_iax underlying116 ti118 (et (k100 (k40 d3))) ec e320) (q100 (q40 p4)) (cr 20 [20,21,22,23] rfl (u_loads ti31 (et (k100 (k50 d0))) ((m20 _ ((le149.t le316) _ hS.a)).sb 2 2) rfl) (q100 (q50 p1)) ?_)
                replace hS:=(hS.bg Y1).bg Y1
                replace hS:=Sep.mOut (a:=[_,_]) (p:=[_]) (M:=mRs ms23) (R:=rsF) hS
                refine sc1 rfl rfl rfl (s_callv isfn98 ef (e1 (et (k100 (k30 d9))) (e1 (et (k100 (k40 d4))) (e1 (et (k100 (k50 d1))) e0))) (IH.sema_typed (hg.t (le149.t le316)) (m7.up (le149.t le316)) (m9.up (le149.t le316)) (m10.up (le149.t le316)) (m16.up (le149.t le316)) (m19.up (le149.t le316)) (m20.up (le149.t le316)) (m24.up (le149.t le316)) m325 f321 g234 hS) ?_)
                rintro _ w101 ⟨μ62,rfl,le326,hS⟩
                replace hS:=Sep.mOut (a:=[_,_]) (p:=mRs ms23) (M:=[_]) (R:=rsF) hS
                refine po (sc1 rfl rfl rfl (s_storeA ti31 (et d4) (et (k100 (k30 d8))) rfl rfl hS d2 rfl p2 dn ?_))
                clear hS; intro w102 hS
                refine cpi 23 rfl (sc_nil (xl ?_))
                exact ⟨_,_,rfl,(aK5 (aI (aK50 (aK50 (aK20 (aK5 (aO20 (aO2 aZ)))))))),_,_,r219.Kind,r219.Gen,rfl,h,(le316.t le326),hS⟩
               ·refine id (s_load ti116 (et (k100 (k40 d2))) ((m30 _ (le149 _ hS.a)).one d3) (dt (q100 (q40 p3))) ?_)
                obtain ⟨b327,o328,cs329,e330,f331,m332⟩:=SlR.elem (m29.up le149) g223
                obtain ⟨a333,c334,rfl,m335⟩:=TExpr.o m332
                refine cp 13 rfl (u_iax underlying116 ti118 (et (k100 (k40 d3))) ec e330) (q100 (q40 p4)) ?_
                refine sc2G (i:=7) (j:=20) rfl rfl rfl rfl rfl (wn0 rfl) (wn0 rfl) ?_ ?_
                ·refine id (s_callv isfn64 ef (e1 (et (k100 (k30 d7))) e0) (sema_bare_w (hg.t le149) g220 hS) ?_)
                 rintro _ w103 ⟨μ63,rfl,le336,hS⟩
                 refine po (cr 20 [20,21,22,23] rfl (u_loads ti31 (et (k100 (k50 d0))) ((m20 _ ((le149.t le336) _ hS.a)).sb 2 2) rfl) (q100 (q50 p1)) ?_)
                 replace hS:=(hS.bg Y1).bg Y1
                 replace hS:=Sep.mOut (a:=[_,_]) (p:=[_]) (M:=mRs ms23) (R:=rsF) hS
                 refine sc1 rfl rfl rfl (s_callv isfn98 ef (e1 (et (k100 (k30 d9))) (e1 (et (k100 (k40 d4))) (e1 (et (k100 (k50 d1))) e0))) (IH.sema_typed (hg.t (le149.t le336)) (m7.up (le149.t le336)) (m9.up (le149.t le336)) (m10.up (le149.t le336)) (m16.up (le149.t le336)) (m19.up (le149.t le336)) (m20.up (le149.t le336)) (m24.up (le149.t le336)) (m335.up le336) (f331.up le336) g234 hS) ?_)
                 rintro _ w104 ⟨μ64,rfl,le337,hS⟩
                 replace hS:=Sep.mOut (a:=[_,_]) (p:=mRs ms23) (M:=[_]) (R:=rsF) hS
                 refine po (sc1 rfl rfl rfl (s_storeA ti31 (et d4) (et (k100 (k30 d8))) rfl rfl hS d2 rfl p2 dn ?_))
                 clear hS; intro w105 hS
                 refine cpi 23 rfl (sc_nil (xl ?_))
                 exact ⟨_,_,rfl,(aK5 (aI (aK50 (aK50 (aK20 (aK5 (aO20 (aO2 aZ)))))))),_,_,r219.Kind,r219.Gen,rfl,h,(le336.t le337),hS⟩
                ·refine id (s_loads ti31 (et (k100 (k50 d0))) ((m20 _ (le149 _ hS.a)).sb 2 2) rfl (dt (q100 (q50 p1))) (sc1 rfl rfl rfl (s_callv isfn64 ef (e1 (et (k100 (k30 d7))) e0) (sema_bare_w (hg.t le149) g220 hS) ?_)))
                 rintro _ w106 ⟨μ65,rfl,le338,hS⟩
                 refine po ?_
                 replace hS:=(hS.bg Y1).bg Y1
                 replace hS:=Sep.mOut (a:=[_,_]) (p:=[_]) (M:=mRs ms23) (R:=rsF) hS
                 refine sc1 rfl rfl rfl (s_callv isfn98 ef (e1 (et (k100 (k30 d9))) (e1 (et (k100 (k40 d4))) (e1 (et (k100 (k50 d1))) e0))) (IH.sema_typed (hg.t (le149.t le338)) (m7.up (le149.t le338)) (m9.up (le149.t le338)) (m10.up (le149.t le338)) (m16.up (le149.t le338)) (m19.up (le149.t le338)) (m20.up (le149.t le338)) (m24.up (le149.t le338)) (m335.up le338) (f331.up le338) g234 hS) ?_)
                 rintro _ w107 ⟨μ66,rfl,le339,hS⟩
                 replace hS:=Sep.mOut (a:=[_,_]) (p:=mRs ms23) (M:=[_]) (R:=rsF) hS
                 refine po (sc1 rfl rfl rfl (s_storeA ti31 (et d4) (et (k100 (k30 d8))) rfl rfl hS d2 rfl p2 dn ?_))
                 clear hS; intro w108 hS
                 refine cpi 23 rfl (sc_nil (xl ?_))
                 exact ⟨_,_,rfl,(aK5 (aI (aK50 (aK50 (aK20 (aK5 (aO20 (aO2 aZ)))))))),_,_,r219.Kind,r219.Gen,rfl,h,(le338.t le339),hS⟩
               ·refine id (s_loads ti31 (et (k100 (k50 d0))) ((m20 _ (le149 _ hS.a)).sb 2 2) rfl (dt (q100 (q50 p1))) ?_)
                refine sc2G (i:=7) (j:=12) rfl rfl rfl rfl rfl (wn0 rfl) (wn0 rfl) ?_ ?_
                ·refine id (s_callv isfn64 ef (e1 (et (k100 (k30 d7))) e0) (sema_bare_w (hg.t le149) g220 hS) ?_)
                 rintro _ w109 ⟨μ67,rfl,le340,hS⟩
                 refine po (cr 12 [12,13,21,22,23] rfl (u_load ti116 (et (k100 (k40 d2))) ((m30 _ ((le149.t le340) _ hS.a)).one d3)) (q100 (q40 p3)) ?_)
                 obtain ⟨b341,o342,cs343,e344,f345,m346⟩:=SlR.elem (m29.up (le149.t le340)) g223
                 obtain ⟨a347,c348,rfl,m349⟩:=TExpr.o m346
                 refine cp 13 rfl (u_iax underlying116 ti118 (et (k100 (k40 d3))) ec e344) (q100 (q40 p4)) ?_
                 replace hS:=(hS.bg Y1).bg Y1
                 replace hS:=Sep.mOut (a:=[_,_]) (p:=[_]) (M:=mRs ms23) (R:=rsF) hS
                 refine sc1 rfl rfl rfl (s_callv isfn98 ef (e1 (et (k100 (k30 d9))) (e1 (et (k100 (k40 d4))) (e1 (et (k100 (k50 d1))) e0))) (IH.sema_typed (hg.t (le149.t le340)) (m7.up (le149.t le340)) (m9.up (le149.t le340)) (m10.up (le149.t le340)) (m16.up (le149.t le340)) (m19.up (le149.t le340)) (m20.up (le149.t le340)) (m24.up (le149.t le340)) m349 f345 g234 hS) ?_)
                 rintro _ w110 ⟨μ68,rfl,le350,hS⟩
                 replace hS:=Sep.mOut (a:=[_,_]) (p:=mRs ms23) (M:=[_]) (R:=rsF) hS
                 refine po (sc1 rfl rfl rfl (s_storeA ti31 (et d4) (et (k100 (k30 d8))) rfl rfl hS d2 rfl p2 dn ?_))
                 clear hS; intro w111 hS
                 refine cpi 23 rfl (sc_nil (xl ?_))
                 exact ⟨_,_,rfl,(aK5 (aI (aK50 (aK50 (aK20 (aK5 (aO20 (aO2 aZ)))))))),_,_,r219.Kind,r219.Gen,rfl,h,(le340.t le350),hS⟩
                ·refine id (s_load ti116 (et (k100 (k40 d2))) ((m30 _ (le149 _ hS.a)).one d3) (dt (q100 (q40 p3))) ?_)
                 obtain ⟨b351,o352,cs353,e354,f355,m356⟩:=SlR.elem (m29.up le149) g223
                 obtain ⟨a357,c358,rfl,m359⟩:=TExpr.o m356
                 refine cp 13 rfl (u_iax underlying116 ti118 (et (k100 (k40 d3))) ec e354) (q100 (q40 p4)) (sc1 rfl rfl rfl (s_callv isfn64 ef (e1 (et (k100 (k30 d7))) e0) (sema_bare_w (hg.t le149) g220 hS) ?_))
                 rintro _ w112 ⟨μ69,rfl,le360,hS⟩
                 refine po ?_
                 replace hS:=(hS.bg Y1).bg Y1
                 replace hS:=Sep.mOut (a:=[_,_]) (p:=[_]) (M:=mRs ms23) (R:=rsF) hS
                 refine sc1 rfl rfl rfl (s_callv isfn98 ef (e1 (et (k100 (k30 d9))) (e1 (et (k100 (k40 d4))) (e1 (et (k100 (k50 d1))) e0))) (IH.sema_typed (hg.t (le149.t le360)) (m7.up (le149.t le360)) (m9.up (le149.t le360)) (m10.up (le149.t le360)) (m16.up (le149.t le360)) (m19.up (le149.t le360)) (m20.up (le149.t le360)) (m24.up (le149.t le360)) (m359.up le360) (f355.up le360) g234 hS) ?_)
                 rintro _ w113 ⟨μ70,rfl,le361,hS⟩
                 replace hS:=Sep.mOut (a:=[_,_]) (p:=mRs ms23) (M:=[_]) (R:=rsF) hS
                 refine po (sc1 rfl rfl rfl (s_storeA ti31 (et d4) (et (k100 (k30 d8))) rfl rfl hS d2 rfl p2 dn ?_))
                 clear hS; intro w114 hS
                 refine cpi 23 rfl (sc_nil (xl ?_))
                 exact ⟨_,_,rfl,(aK5 (aI (aK50 (aK50 (aK20 (aK5 (aO20 (aO2 aZ)))))))),_,_,r219.Kind,r219.Gen,rfl,h,(le360.t le361),hS⟩
             ·obtain ⟨r219,g220,h⟩:=bI h
              obtain ⟨x222,g223,h⟩:=bI h
              obtain ⟨r233,g234,h⟩:=bI h
              refine id (s_load ti116 (et (k100 (k40 d2))) ((m30 _ (le149 _ hS.a)).one d3) (dt (q100 (q40 p3))) ?_)
              obtain ⟨b362,o363,cs364,e365,f366,m367⟩:=SlR.elem (m29.up le149) g223
              obtain ⟨a368,c369,rfl,m370⟩:=TExpr.o m367
              refine cp 13 rfl (u_iax underlying116 ti118 (et (k100 (k40 d3))) ec e365) (q100 (q40 p4)) ?_
              refine sc2G (i:=3) (j:=17) rfl rfl rfl rfl rfl (wn0 rfl) (wn0 rfl) ?_ ?_
              ·refine id (s_load ti74 (et (k100 (k30 d3))) ((hS.blk d0).cell d1) (dt (q100 (q30 p4))) (cpi 4 rfl (cpi 5 rfl ?_)))
               refine sc2G (i:=6) (j:=17) rfl rfl rfl rfl rfl (wn0 rfl) (wn0 rfl) ?_ ?_
               ·refine id (s_loads ti31 (et (k100 (k30 d6))) ((m20 _ (le149 _ hS.a)).sb 4 2) rfl (dt (q100 (q30 p7))) ?_)
                refine sc2G (i:=7) (j:=17) rfl rfl rfl rfl rfl (wn0 rfl) (wn0 rfl) ?_ ?_
                ·refine id (s_callv isfn64 ef (e1 (et (k100 (k30 d7))) e0) (sema_bare_w (hg.t le149) g220 hS) ?_)
                 rintro _ w115 ⟨μ71,rfl,le371,hS⟩
                 refine po (cr 17 [17,18,19,20,21,22,23] rfl (u_load ti74 (et (k100 (k40 d7))) ((hS.blk d0).cell d1)) (q100 (q40 p8)) (cpi 18 rfl (cpi 19 rfl (cr 20 [20,21,22,23] rfl (u_loads ti31 (et (k100 (k50 d0))) ((m20 _ ((le149.t le371) _ hS.a)).sb 2 2) rfl) (q100 (q50 p1)) ?_))))
                 replace hS:=(hS.bg Y1).bg Y1
                 replace hS:=Sep.mOut (a:=[_,_]) (p:=[_]) (M:=mRs ms23) (R:=rsF) hS
                 refine sc1 rfl rfl rfl (s_callv isfn98 ef (e1 (et (k100 (k30 d9))) (e1 (et (k100 (k40 d4))) (e1 (et (k100 (k50 d1))) e0))) (IH.sema_typed (hg.t (le149.t le371)) (m7.up (le149.t le371)) (m9.up (le149.t le371)) (m10.up (le149.t le371)) (m16.up (le149.t le371)) (m19.up (le149.t le371)) (m20.up (le149.t le371)) (m24.up (le149.t le371)) (m370.up le371) (f366.up le371) g234 hS) ?_)
                 rintro _ w116 ⟨μ72,rfl,le372,hS⟩
                 replace hS:=Sep.mOut (a:=[_,_]) (p:=mRs ms23) (M:=[_]) (R:=rsF) hS
                 refine po (sc1 rfl rfl rfl (s_storeA ti31 (et d4) (et (k100 (k30 d8))) rfl rfl hS d2 rfl p2 dn ?_))
                 clear hS; intro w117 hS
                 refine cpi 23 rfl (sc_nil (xl ?_))
                 exact ⟨_,_,rfl,(aK5 (aI (aK50 (aK50 (aK20 (aK5 (aO20 (aO2 aZ)))))))),_,_,r219.Kind,r219.Gen,rfl,h,(le371.t le372),hS⟩
                ·refine id (s_load ti74 (et (k100 (k40 d7))) ((hS.blk d0).cell d1) (dt (q100 (q40 p8))) (cpi 18 rfl (cpi 19 rfl ?_)))
                 refine sc2G (i:=7) (j:=20) rfl rfl rfl rfl rfl (wn0 rfl) (wn0 rfl) ?_ ?_
                 ·refine id (s_callv isfn64 ef (e1 (et (k100 (k30 d7))) e0) (sema_bare_w (hg.t le149) g220 hS) ?_)
                  rintro _ w118 ⟨μ73,rfl,le373,hS⟩
                  refine po (cr 20 [20,21,22,23] rfl (u_loads ti31 (et (k100 (k50 d0))) ((m20 _ ((le149.t le373) _ hS.a)).sb 2 2) rfl) (q100 (q50 p1)) ?_)
                  replace hS:=(hS.bg Y1).bg Y1
                  replace hS:=Sep.mOut (a:=[_,_]) (p:=[_]) (M:=mRs ms23) (R:=rsF) hS
                  refine sc1 rfl rfl rfl (s_callv isfn98 ef (e1 (et (k100 (k30 d9))) (e1 (et (k100 (k40 d4))) (e1 (et (k100 (k50 d1))) e0))) (IH.sema_typed (hg.t (le149.t le373)) (m7.up (le149.t le373)) (m9.up (le149.t le373)) (m10.up (le149.t le373)) (m16.up (le149.t le373)) (m19.up (le149.t le373)) (m20.up (le149.t le373)) (m24.up (le149.t le373)) (m370.up le373) (f366.up le373) g234 hS) ?_)
                  rintro _ w119 ⟨μ74,rfl,le374,hS⟩
                  replace hS:=Sep.mOut (a:=[_,_]) (p:=mRs ms23) (M:=[_]) (R:=rsF) hS
                  refine po (sc1 rfl rfl rfl (s_storeA ti31 (et d4) (et (k100 (k30 d8))) rfl rfl hS d2 rfl p2 dn ?_))
                  clear hS; intro w120 hS
                  refine cpi 23 rfl (sc_nil (xl ?_))
                  exact ⟨_,_,rfl,(aK5 (aI (aK50 (aK50 (aK20 (aK5 (aO20 (aO2 aZ)))))))),_,_,r219.Kind,r219.Gen,rfl,h,(le373.t le374),hS⟩
                 ·refine id (s_loads ti31 (et (k100 (k50 d0))) ((m20 _ (le149 _ hS.a)).sb 2 2) rfl (dt (q100 (q50 p1))) (sc1 rfl rfl rfl (s_callv isfn64 ef (e1 (et (k100 (k30 d7))) e0) (sema_bare_w (hg.t le149) g220 hS) ?_)))
                  rintro _ w121 ⟨μ75,rfl,le375,hS⟩
                  refine po ?_
                  replace hS:=(hS.bg Y1).bg Y1
                  replace hS:=Sep.mOut (a:=[_,_]) (p:=[_]) (M:=mRs ms23) (R:=rsF) hS
                  refine sc1 rfl rfl rfl (s_callv isfn98 ef (e1 (et (k100 (k30 d9))) (e1 (et (k100 (k40 d4))) (e1 (et (k100 (k50 d1))) e0))) (IH.sema_typed (hg.t (le149.t le375)) (m7.up (le149.t le375)) (m9.up (le149.t le375)) (m10.up (le149.t le375)) (m16.up (le149.t le375)) (m19.up (le149.t le375)) (m20.up (le149.t le375)) (m24.up (le149.t le375)) (m370.up le375) (f366.up le375) g234 hS) ?_)
                  rintro _ w122 ⟨μ76,rfl,le376,hS⟩
                  replace hS:=Sep.mOut (a:=[_,_]) (p:=mRs ms23) (M:=[_]) (R:=rsF) hS
                  refine po (sc1 rfl rfl rfl (s_storeA ti31 (et d4) (et (k100 (k30 d8))) rfl rfl hS d2 rfl p2 dn ?_))
                  clear hS; intro w123 hS
                  refine cpi 23 rfl (sc_nil (xl ?_))
                  exact ⟨_,_,rfl,(aK5 (aI (aK50 (aK50 (aK20 (aK5 (aO20 (aO2 aZ)))))))),_,_,r219.Kind,r219.Gen,rfl,h,(le375.t le376),hS⟩
               ·refine id (s_load ti74 (et (k100 (k40 d7))) ((hS.blk d0).cell d1) (dt (q100 (q40 p8))) (cpi 18 rfl (cpi 19 rfl (cr 6 [6,7,21,22,23] rfl (u_loads ti31 (et (k100 (k30 d6))) ((m20 _ (le149 _ hS.a)).sb 4 2) rfl) (q100 (q30 p7)) ?_))))
                refine sc2G (i:=7) (j:=20) rfl rfl rfl rfl rfl (wn0 rfl) (wn0 rfl) ?_ ?_
                ·refine id (s_callv isfn64 ef (e1 (et (k100 (k30 d7))) e0) (sema_bare_w (hg.t le149) g220 hS) ?_)
                 rintro _ w124 ⟨μ77,rfl,le377,hS⟩
                 refine po (cr 20 [20,21,22,23] rfl (u_loads ti31 (et (k100 (k50 d0))) ((m20 _ ((le149.t le377) _ hS.a)).sb 2 2) rfl) (q100 (q50 p1)) ?_)
                 replace hS:=(hS.bg Y1).bg Y1
                 replace hS:=Sep.mOut (a:=[_,_]) (p:=[_]) (M:=mRs ms23) (R:=rsF) hS
                 refine sc1 rfl rfl rfl (s_callv isfn98 ef (e1 (et (k100 (k30 d9))) (e1 (et (k100 (k40 d4))) (e1 (et (k100 (k50 d1))) e0))) (IH.sema_typed (hg.t (le149.t le377)) (m7.up (le149.t le377)) (m9.up (le149.t le377)) (m10.up (le149.t le377)) (m16.up (le149.t le377)) (m19.up (le149.t le377)) (m20.up (le149.t le377)) (m24.up (le149.t le377)) (m370.up le377) (f366.up le377) g234 hS) ?_)
                 rintro _ w125 ⟨μ78,rfl,le378,hS⟩
                 replace hS:=Sep.mOut (a:=[_,_]) (p:=mRs ms23) (M:=[_]) (R:=rsF) hS
                 refine po (sc1 rfl rfl rfl (s_storeA ti31 (et d4) (et (k100 (k30 d8))) rfl rfl hS d2 rfl p2 dn ?_))
                 clear hS; intro w126 hS
                 refine cpi 23 rfl (sc_nil (xl ?_))
                 exact ⟨_,_,rfl,(aK5 (aI (aK50 (aK50 (aK20 (aK5 (aO20 (aO2 aZ)))))))),_,_,r219.Kind,r219.Gen,rfl,h,(le377.t le378),hS⟩
                ·refine id (s_loads ti31 (et (k100 (k50 d0))) ((m20 _ (le149 _ hS.a)).sb 2 2) rfl (dt (q100 (q50 p1))) (sc1 rfl rfl rfl (s_callv isfn64 ef (e1 (et (k100 (k30 d7))) e0) (sema_bare_w (hg.t le149) g220 hS) ?_)))
                 rintro _ w127 ⟨μ79,rfl,le379,hS⟩
                 refine po ?_
                 replace hS:=(hS.bg Y1).bg Y1
                 replace hS:=Sep.mOut (a:=[_,_]) (p:=[_]) (M:=mRs ms23) (R:=rsF) hS
                 refine sc1 rfl rfl rfl (s_callv isfn98 ef (e1 (et (k100 (k30 d9))) (e1 (et (k100 (k40 d4))) (e1 (et (k100 (k50 d1))) e0))) (IH.sema_typed (hg.t (le149.t le379)) (m7.up (le149.t le379)) (m9.up (le149.t le379)) (m10.up (le149.t le379)) (m16.up (le149.t le379)) (m19.up (le149.t le379)) (m20.up (le149.t le379)) (m24.up (le149.t le379)) (m370.up le379) (f366.up le379) g234 hS) ?_)
                 rintro _ w128 ⟨μ80,rfl,le380,hS⟩
                 replace hS:=Sep.mOut (a:=[_,_]) (p:=mRs ms23) (M:=[_]) (R:=rsF) hS
                 refine po (sc1 rfl rfl rfl (s_storeA ti31 (et d4) (et (k100 (k30 d8))) rfl rfl hS d2 rfl p2 dn ?_))
                 clear hS; intro w129 hS
                 refine cpi 23 rfl (sc_nil (xl ?_))
                 exact ⟨_,_,rfl,(aK5 (aI (aK50 (aK50 (aK20 (aK5 (aO20 (aO2 aZ)))))))),_,_,r219.Kind,r219.Gen,rfl,h,(le379.t le380),hS⟩
              ·refine id (s_load ti74 (et (k100 (k40 d7))) ((hS.blk d0).cell d1) (dt (q100 (q40 p8))) (cpi 18 rfl (cpi 19 rfl (cr 3 [3,4,5,6,7,21,22,23] rfl (u_load ti74 (et (k100 (k30 d3))) ((hS.blk d0).cell d1)) (q100 (q30 p4)) (cpi 4 rfl (cpi 5 rfl (cr 6 [6,7,21,22,23] rfl (u_loads ti31 (et (k100 (k30 d6))) ((m20 _ (le149 _ hS.a)).sb 4 2) rfl) (q100 (q30 p7)) ?_)))))))
               refine sc2G (i:=7) (j:=20) rfl rfl rfl rfl rfl (wn0 rfl) (wn0 rfl) ?_ ?_
               ·refine id (s_callv isfn64 ef (e1 (et (k100 (k30 d7))) e0) (sema_bare_w (hg.t le149) g220 hS) ?_)
                rintro _ w130 ⟨μ81,rfl,le381,hS⟩
                refine po (cr 20 [20,21,22,23] rfl (u_loads ti31 (et (k100 (k50 d0))) ((m20 _ ((le149.t le381) _ hS.a)).sb 2 2) rfl) (q100 (q50 p1)) ?_)
                replace hS:=(hS.bg Y1).bg Y1
                replace hS:=Sep.mOut (a:=[_,_]) (p:=[_]) (M:=mRs ms23) (R:=rsF) hS
                refine sc1 rfl rfl rfl (s_callv isfn98 ef (e1 (et (k100 (k30 d9))) (e1 (et (k100 (k40 d4))) (e1 (et (k100 (k50 d1))) e0))) (IH.sema_typed (hg.t (le149.t le381)) (m7.up (le149.t le381)) (m9.up (le149.t le381)) (m10.up (le149.t le381)) (m16.up (le149.t le381)) (m19.up (le149.t le381)) (m20.up (le149.t le381)) (m24.up (le149.t le381)) (m370.up le381) (f366.up le381) g234 hS) ?_)
                rintro _ w131 ⟨μ82,rfl,le382,hS⟩
                replace hS:=Sep.mOut (a:=[_,_]) (p:=mRs ms23) (M:=[_]) (R:=rsF) hS
                refine po (sc1 rfl rfl rfl (s_storeA ti31 (et d4) (et (k100 (k30 d8))) rfl rfl hS d2 rfl p2 dn ?_))
                clear hS; intro w132 hS
                refine cpi 23 rfl (sc_nil (xl ?_))
                exact ⟨_,_,rfl,(aK5 (aI (aK50 (aK50 (aK20 (aK5 (aO20 (aO2 aZ)))))))),_,_,r219.Kind,r219.Gen,rfl,h,(le381.t le382),hS⟩
               ·refine id (s_loads ti31 (et (k100 (k50 d0))) ((m20 _ (le149 _ hS.a)).sb 2 2) rfl (dt (q100 (q50 p1))) (sc1 rfl rfl rfl (s_callv isfn64 ef (e1 (et (k100 (k30 d7))) e0) (sema_bare_w (hg.t le149) g220 hS) ?_)))
                rintro _ w133 ⟨μ83,rfl,le383,hS⟩
                refine po ?_
                replace hS:=(hS.bg Y1).bg Y1
                replace hS:=Sep.mOut (a:=[_,_]) (p:=[_]) (M:=mRs ms23) (R:=rsF) hS
                refine sc1 rfl rfl rfl (s_callv isfn98 ef (e1 (et (k100 (k30 d9))) (e1 (et (k100 (k40 d4))) (e1 (et (k100 (k50 d1))) e0))) (IH.sema_typed (hg.t (le149.t le383)) (m7.up (le149.t le383)) (m9.up (le149.t le383)) (m10.up (le149.t le383)) (m16.up (le149.t le383)) (m19.up (le149.t le383)) (m20.up (le149.t le383)) (m24.up (le149.t le383)) (m370.up le383) (f366.up le383) g234 hS) ?_)
                rintro _ w134 ⟨μ84,rfl,le384,hS⟩
                replace hS:=Sep.mOut (a:=[_,_]) (p:=mRs ms23) (M:=[_]) (R:=rsF) hS
                refine po (sc1 rfl rfl rfl (s_storeA ti31 (et d4) (et (k100 (k30 d8))) rfl rfl hS d2 rfl p2 dn ?_))
                clear hS; intro w135 hS
                refine cpi 23 rfl (sc_nil (xl ?_))
                exact ⟨_,_,rfl,(aK5 (aI (aK50 (aK50 (aK20 (aK5 (aO20 (aO2 aZ)))))))),_,_,r219.Kind,r219.Gen,rfl,h,(le383.t le384),hS⟩
             ·obtain ⟨r219,g220,h⟩:=bI h
              obtain ⟨x222,g223,h⟩:=bI h
              obtain ⟨r233,g234,h⟩:=bI h
              refine id (s_load ti74 (et (k100 (k40 d7))) ((hS.blk d0).cell d1) (dt (q100 (q40 p8))) (cpi 18 rfl (cpi 19 rfl (cr 3 [3,4,5,6,7,21,22,23] rfl (u_load ti74 (et (k100 (k30 d3))) ((hS.blk d0).cell d1)) (q100 (q30 p4)) (cpi 4 rfl (cpi 5 rfl (cr 6 [6,7,21,22,23] rfl (u_loads ti31 (et (k100 (k30 d6))) ((m20 _ (le149 _ hS.a)).sb 4 2) rfl) (q100 (q30 p7)) ?_)))))))
              refine sc3G (i:=7) (j:=12) (k:=20) rfl rfl rfl rfl rfl rfl rfl (wn0 rfl) (wn0 rfl) (wn0 rfl) ?_ ?_ ?_
              ·refine id (s_callv isfn64 ef (e1 (et (k100 (k30 d7))) e0) (sema_bare_w (hg.t le149) g220 hS) ?_)
               rintro _ w136 ⟨μ85,rfl,le385,hS⟩
               refine po (cr 12 [12,13,21,22,23] rfl (u_load ti116 (et (k100 (k40 d2))) ((m30 _ ((le149.t le385) _ hS.a)).one d3)) (q100 (q40 p3)) ?_)
               obtain ⟨b386,o387,cs388,e389,f390,m391⟩:=SlR.elem (m29.up (le149.t le385)) g223
               obtain ⟨a392,c393,rfl,m394⟩:=TExpr.o m391
               refine cp 13 rfl (u_iax underlying116 ti118 (et (k100 (k40 d3))) ec e389) (q100 (q40 p4)) (cr 20 [20,21,22,23] rfl (u_loads ti31 (et (k100 (k50 d0))) ((m20 _ ((le149.t le385) _ hS.a)).sb 2 2) rfl) (q100 (q50 p1)) ?_)
               replace hS:=(hS.bg Y1).bg Y1
               replace hS:=Sep.mOut (a:=[_,_]) (p:=[_]) (M:=mRs ms23) (R:=rsF) hS
               refine sc1 rfl rfl rfl (s_callv isfn98 ef (e1 (et (k100 (k30 d9))) (e1 (et (k100 (k40 d4))) (e1 (et (k100 (k50 d1))) e0))) (IH.sema_typed (hg.t (le149.t le385)) (m7.up (le149.t le385)) (m9.up (le149.t le385)) (m10.up (le149.t le385)) (m16.up (le149.t le385)) (m19.up (le149.t le385)) (m20.up (le149.t le385)) (m24.up (le149.t le385)) m394 f390 g234 hS) ?_)
               rintro _ w137 ⟨μ86,rfl,le395,hS⟩
               replace hS:=Sep.mOut (a:=[_,_]) (p:=mRs ms23) (M:=[_]) (R:=rsF) hS
               refine po (sc1 rfl rfl rfl (s_storeA ti31 (et d4) (et (k100 (k30 d8))) rfl rfl hS d2 rfl p2 dn ?_))
               clear hS; intro w138 hS
               refine cpi 23 rfl (sc_nil (xl ?_))
               exact ⟨_,_,rfl,(aK5 (aI (aK50 (aK50 (aK20 (aK5 (aO20 (aO2 aZ)))))))),_,_,r219.Kind,r219.Gen,rfl,h,(le385.t le395),hS⟩
              ·refine id (s_load ti116 (et (k100 (k40 d2))) ((m30 _ (le149 _ hS.a)).one d3) (dt (q100 (q40 p3))) ?_)
               obtain ⟨b396,o397,cs398,e399,f400,m401⟩:=SlR.elem (m29.up le149) g223
               obtain ⟨a402,c403,rfl,m404⟩:=TExpr.o m401
               refine cp 13 rfl (u_iax underlying116 ti118 (et (k100 (k40 d3))) ec e399) (q100 (q40 p4)) ?_
               refine sc2G (i:=7) (j:=20) rfl rfl rfl rfl rfl (wn0 rfl) (wn0 rfl) ?_ ?_
               ·refine id (s_callv isfn64 ef (e1 (et (k100 (k30 d7))) e0) (sema_bare_w (hg.t le149) g220 hS) ?_)
                rintro _ w139 ⟨μ87,rfl,le405,hS⟩
                refine po (cr 20 [20,21,22,23] rfl (u_loads ti31 (et (k100 (k50 d0))) ((m20 _ ((le149.t le405) _ hS.a)).sb 2 2) rfl) (q100 (q50 p1)) ?_)
                replace hS:=(hS.bg Y1).bg Y1
                replace hS:=Sep.mOut (a:=[_,_]) (p:=[_]) (M:=mRs ms23) (R:=rsF) hS
                refine sc1 rfl rfl rfl (s_callv isfn98 ef (e1 (et (k100 (k30 d9))) (e1 (et (k100 (k40 d4))) (e1 (et (k100 (k50 d1))) e0))) (IH.sema_typed (hg.t (le149.t le405)) (m7.up (le149.t le405)) (m9.up (le149.t le405)) (m10.up (le149.t le405)) (m16.up (le149.t le405)) (m19.up (le149.t le405)) (m20.up (le149.t le405)) (m24.up (le149.t le405)) (m404.up le405) (f400.up le405) g234 hS) ?_)
                rintro _ w140 ⟨μ88,rfl,le406,hS⟩
                replace hS:=Sep.mOut (a:=[_,_]) (p:=mRs ms23) (M:=[_]) (R:=rsF) hS
                refine po (sc1 rfl rfl rfl (s_storeA ti31 (et d4) (et (k100 (k30 d8))) rfl rfl hS d2 rfl p2 dn ?_))
                clear hS; intro w141 hS
                refine cpi 23 rfl (sc_nil (xl ?_))
                exact ⟨_,_,rfl,(aK5 (aI (aK50 (aK50 (aK20 (aK5 (aO20 (aO2 aZ)))))))),_,_,r219.Kind,r219.Gen,rfl,h,(le405.t le406),hS⟩
               ·refine id (s_loads ti31 (et (k100 (k50 d0))) ((m20 _ (le149 _ hS.a)).sb 2 2) rfl (dt (q100 (q50 p1))) (sc1 rfl rfl rfl (s_callv isfn64 ef (e1 (et (k100 (k30 d7))) e0) (sema_bare_w (hg.t le149) g220 hS) ?_)))
                rintro _ w142 ⟨μ89,rfl,le407,hS⟩
                refine po ?_
                replace hS:=(hS.bg Y1).bg Y1
                replace hS:=Sep.mOut (a:=[_,_]) (p:=[_]) (M:=mRs ms23) (R:=rsF) hS
                refine sc1 rfl rfl rfl (s_callv isfn98 ef (e1 (et (k100 (k30 d9))) (e1 (et (k100 (k40 d4))) (e1 (et (k100 (k50 d1))) e0))) (IH.sema_typed (hg.t (le149.t le407)) (m7.up (le149.t le407)) (m9.up (le149.t le407)) (m10.up (le149.t le407)) (m16.up (le149.t le407)) (m19.up (le149.t le407)) (m20.up (le149.t le407)) (m24.up (le149.t le407)) (m404.up le407) (f400.up le407) g234 hS) ?_)
                rintro _ w143 ⟨μ90,rfl,le408,hS⟩
                replace hS:=Sep.mOut (a:=[_,_]) (p:=mRs ms23) (M:=[_]) (R:=rsF) hS
                refine po (sc1 rfl rfl rfl (s_storeA ti31 (et d4) (et (k100 (k30 d8))) rfl rfl hS d2 rfl p2 dn ?_))
                clear hS; intro w144 hS
                refine cpi 23 rfl (sc_nil (xl ?_))
                exact ⟨_,_,rfl,(aK5 (aI (aK50 (aK50 (aK20 (aK5 (aO20 (aO2 aZ)))))))),_,_,r219.Kind,r219.Gen,rfl,h,(le407.t le408),hS⟩
              ·refine id (s_loads ti31 (et (k100 (k50 d0))) ((m20 _ (le149 _ hS.a)).sb 2 2) rfl (dt (q100 (q50 p1))) ?_)
               refine sc2G (i:=7) (j:=12) rfl rfl rfl rfl rfl (wn0 rfl) (wn0 rfl) ?_ ?_
               ·refine id (s_callv isfn64 ef (e1 (et (k100 (k30 d7))) e0) (sema_bare_w (hg.t le149) g220 hS) ?_)
                rintro _ w145 ⟨μ91,rfl,le409,hS⟩
                refine po (cr 12 [12,13,21,22,23] rfl (u_load ti116 (et (k100 (k40 d2))) ((m30 _ ((le149.t le409) _ hS.a)).one d3)) (q100 (q40 p3)) ?_)
                obtain ⟨b410,o411,cs412,e413,f414,m415⟩:=SlR.elem (m29.up (le149.t le409)) g223
                obtain ⟨a416,c417,rfl,m418⟩:=TExpr.o m415
                refine cp 13 rfl (u_iax underlying116 ti118 (et (k100 (k40 d3))) ec e413) (q100 (q40 p4)) ?_
                replace hS:=(hS.bg Y1).bg Y1
                replace hS:=Sep.mOut (a:=[_,_]) (p:=[_]) (M:=mRs ms23) (R:=rsF) hS
                refine sc1 rfl rfl rfl (s_callv isfn98 ef (e1 (et (k100 (k30 d9))) (e1 (et (k100 (k40 d4))) (e1 (et (k100 (k50 d1))) e0))) (IH.sema_typed (hg.t (le149.t le409)) (m7.up (le149.t le409)) (m9.up (le149.t le409)) (m10.up (le149.t le409)) (m16.up (le149.t le409)) (m19.up (le149.t le409)) (m20.up (le149.t le409)) (m24.up (le149.t le409)) m418 f414 g234 hS) ?_)
                rintro _ w146 ⟨μ92,rfl,le419,hS⟩
                replace hS:=Sep.mOut (a:=[_,_]) (p:=mRs ms23) (M:=[_]) (R:=rsF) hS
                refine po (sc1 rfl rfl rfl (s_storeA ti31 (et d4) (et (k100 (k30 d8))) rfl rfl hS d2 rfl p2 dn ?_))
                clear hS; intro w147 hS
                refine cpi 23 rfl (sc_nil (xl ?_))
                exact ⟨_,_,rfl,(aK5 (aI (aK50 (aK50 (aK20 (aK5 (aO20 (aO2 aZ)))))))),_,_,r219.Kind,r219.Gen,rfl,h,(le409.t le419),hS⟩
               ·refine id (s_load ti116 (et (k100 (k40 d2))) ((m30 _ (le149 _ hS.a)).one d3) (dt (q100 (q40 p3))) ?_)
                obtain ⟨b420,o421,cs422,e423,f424,m425⟩:=SlR.elem (m29.up le149) g223
                obtain ⟨a426,c427,rfl,m428⟩:=TExpr.o m425
                refine cp 13 rfl (u_iax underlying116 ti118 (et (k100 (k40 d3))) ec e423) (q100 (q40 p4)) (sc1 rfl rfl rfl (s_callv isfn64 ef (e1 (et (k100 (k30 d7))) e0) (sema_bare_w (hg.t le149) g220 hS) ?_))
                rintro _ w148 ⟨μ93,rfl,le429,hS⟩
                refine po ?_
                replace hS:=(hS.bg Y1).bg Y1
                replace hS:=Sep.mOut (a:=[_,_]) (p:=[_]) (M:=mRs ms23) (R:=rsF) hS
                refine sc1 rfl rfl rfl (s_callv isfn98 ef (e1 (et (k100 (k30 d9))) (e1 (et (k100 (k40 d4))) (e1 (et (k100 (k50 d1))) e0))) (IH.sema_typed (hg.t (le149.t le429)) (m7.up (le149.t le429)) (m9.up (le149.t le429)) (m10.up (le149.t le429)) (m16.up (le149.t le429)) (m19.up (le149.t le429)) (m20.up (le149.t le429)) (m24.up (le149.t le429)) (m428.up le429) (f424.up le429) g234 hS) ?_)
                rintro _ w149 ⟨μ94,rfl,le430,hS⟩
                replace hS:=Sep.mOut (a:=[_,_]) (p:=mRs ms23) (M:=[_]) (R:=rsF) hS
                refine po (sc1 rfl rfl rfl (s_storeA ti31 (et d4) (et (k100 (k30 d8))) rfl rfl hS d2 rfl p2 dn ?_))
                clear hS; intro w150 hS
                refine cpi 23 rfl (sc_nil (xl ?_))
                exact ⟨_,_,rfl,(aK5 (aI (aK50 (aK50 (aK20 (aK5 (aO20 (aO2 aZ)))))))),_,_,r219.Kind,r219.Gen,rfl,h,(le429.t le430),hS⟩
            ·rintro _ t w151 ⟨μ95,i216,i217,s218,rfl,h,le431,hS⟩
             unfold sema_expr_j4 at h
             refine nrm (mK5 (mi (mK50 (mK50 (mK20 (mK5 (mO20 (mO2 mz)))))))) (xn (cret ?_))
             refine (fun h=>br (xr h)) ?_
             obtain rfl:=oI h
             refine retN rfl (RVs.s (.a d4 ti31 (hS.blk d2).cells rfl) (RVs.s (.t d5) RVs.z)) ?_
             replace hS:=hS.drop (Rm.s (Rm.s Rm.z))
             replace hS:Sq μ95 w0 _ (.blk b1 154 [.pointer (some ⟨b3,o4,none⟩),.pointer (some ⟨b12,o13,none⟩),v22]::.row v22 151 1 bloc_21.length (cOf ms23)::(mRs ms23++rsF)):=hS
             exact ⟨_,rfl,(le149.t le431),hS⟩
          ·replace h:=iF h211 h
           refine nz ?_
           iterate 2 refine st ?_
           refine nw ?_
           refine cifd (et (k100 (k50 d3))) (fun h432=>?_) (fun h432=>?_)
           ·replace h:=iT h432 h
            refine nz ?_
            iterate 2 refine st ?_
            obtain ⟨r433,g434,h⟩:=bI h
            replace hS:=(hS.bg Y1).bg Y1
            replace hS:=Sep.mOut (a:=[_,_]) (p:=[_]) (M:=mRs ms23) (R:=rsF) hS
            refine ca (IH.sema_args (hg.t le149) (m7.up le149) (m9.up le149) (m10.up le149) (m16.up le149) (m19.up le149) (m20.up le149) (m24.up le149) (m29.up le149) (m30.up le149) g434 hS) ?_
            rintro _ w152 ⟨μ96,v436,rfl,le435,hS,m437⟩
            replace hS:=Sep.mOut (a:=[_,_]) (p:=mRs ms23) (M:=[_]) (R:=rsF) hS
            refine po ?_
            iterate 5 refine st ?_
            refine nx ?_
            iterate 3 refine st ?_
            refine ld ((m30 _ ((le149.t le435) _ hS.a)).one d2) (wl (s_build ti31 pl31 (Fl.o rfl ec rfl rfl p0 (Fl.o rfl (et (k100 (k60 d4))) rfl rfl p1 Fl.z)) (dt (q100 (q60 p5))) (st (wl (s_storeA ti31 (et d4) (et (k100 (k60 d5))) rfl rfl hS d2 rfl p2 dn ?_)))))
            clear hS; intro w153 hS
            refine st (nw (cret ?_))
            refine (fun h=>br (xr h)) ?_
            obtain rfl:=oI h
            refine retN rfl (RVs.s (.a d4 ti31 (hS.blk d2).cells rfl) (RVs.s (.t d5) RVs.z)) ?_
            replace hS:=hS.drop (Rm.s (Rm.s Rm.z))
            replace hS:Sq μ96 w0 _ (.blk b1 154 [.pointer (some ⟨b3,o4,none⟩),.pointer (some ⟨b12,o13,none⟩),v22]::.row v22 151 1 bloc_21.length (cOf ms23)::(mRs ms23++rsF)):=hS
            exact ⟨_,rfl,(le149.t le435),hS⟩
           ·replace h:=iF h432 h
            refine nz ?_
            iterate 2 refine st ?_
            refine nw ?_
            refine cifd (et (k100 (k60 d7))) (fun h438=>?_) (fun h438=>?_)
            ·replace h:=iT h438 h
             refine nz ?_
             iterate 4 refine st ?_
             refine ld ((m30 _ (le149 _ hS.a)).one d3) ?_
             obtain ⟨x439,g440,h⟩:=bI h
             obtain ⟨b441,o442,cs443,e444,f445,m446⟩:=SlR.elem (m29.up le149) g440
             obtain ⟨a447,c448,rfl,m449⟩:=TExpr.o m446
             refine wl (su (u_iax underlying116 ti118 (et (k100 (k70 d4))) ec e444) (dt (q100 (q70 p5))) ?_)
             obtain ⟨r450,g451,h⟩:=bI h
             replace hS:=(hS.bg Y1).bg Y1
             replace hS:=Sep.mOut (a:=[_,_]) (p:=[_]) (M:=mRs ms23) (R:=rsF) hS
             refine ca (IH.sema_handle (hg.t le149) (m7.up le149) (m9.up le149) (m10.up le149) (m16.up le149) (m19.up le149) (m20.up le149) (m24.up le149) m449 f445 g451 hS) ?_
             rintro _ w154 ⟨μ97,v453,rfl,le452,hS,m454⟩
             replace hS:=Sep.mOut (a:=[_,_]) (p:=mRs ms23) (M:=[_]) (R:=rsF) hS
             refine po ?_
             iterate 5 refine st ?_
             refine ny (nz ?_)
             iterate 2 refine st ?_
             refine nw ?_
             refine cifd (et (k100 (k80 d0))) (fun h455=>?_) (fun h455=>?_)
             ·replace h:=iT h455 h
              refine nz ?_
              obtain ⟨r456,g457,h⟩:=bI h
              refine ca (sema_num_w (hg.t (le149.t le452)) g457 hS) ?_
              rintro _ w155 ⟨μ98,rfl,le458,hS⟩
              refine po (st (wl (s_storeA ti31 (et d4) (et (k100 (k80 d1))) rfl rfl hS d2 rfl p2 dn ?_)))
              clear hS; intro w156 hS
              refine st (nw (cret ?_))
              refine (fun h=>xr (br (xr h))) ?_
              obtain rfl:=oI h
              refine retN rfl (RVs.s (.a d4 ti31 (hS.blk d2).cells rfl) (RVs.s (.t d5) RVs.z)) ?_
              replace hS:=hS.drop (Rm.s (Rm.s Rm.z))
              replace hS:Sq μ98 w0 _ (.blk b1 154 [.pointer (some ⟨b3,o4,none⟩),.pointer (some ⟨b12,o13,none⟩),v22]::.row v22 151 1 bloc_21.length (cOf ms23)::(mRs ms23++rsF)):=hS
              exact ⟨_,rfl,(le149.t (le452.t le458)),hS⟩
             ·replace h:=iF h455 h
              refine cskip (xn (cseq ?_))
              refine ccutE (rg 183 16) (by decide) (fun m w=>∃ μx i459 i460 s461,m=(yK5 (.i (.int .i64 i459)::(yK50 (yK50 (yK50 (yK20 (yK7 (yO10 183 (yO6 193 [])))))))))∧sema_expr_j5 i459 i460 s461=some r∧Le μ97 μx∧Sq μx w0 w (.blk b1 154 [.pointer (some ⟨b3,o4,none⟩),.pointer (some ⟨b12,o13,none⟩),v22]::.row v22 151 1 bloc_21.length (cOf ms23)::.blk b31 31 [.int .i64 i460,S s461]::(mRs ms23++rsF))) (by rintro _ _ ⟨_,_,_,_,rfl,_⟩; rfl) ?_ ?_
              ·refine cdw hS ?_; clear hS; intro w157 hS
               refine cpi 0 rfl ?_
               obtain ⟨x462,g463,h⟩:=bI h
               obtain ⟨b464,o465,cs466,rfl,f467,m468⟩:=Np.get m454 g463
               obtain ⟨a469,c470,a472,c473,rfl,m471,m474⟩:=m468
               refine cpi 1 rfl (cpi 2 rfl (cpi 5 rfl (cpi 6 rfl (cpi 7 rfl (cpi 8 rfl (cpi 11 rfl (cpi 12 rfl (cpi 13 rfl (cr 3 [3,4,15,16,17] rfl (u_loads ti31 (et (k100 (k80 d5))) ((f467 _ hS.a).sb 2 2) rfl) (q100 (q80 p6)) ?_)))))))))
               refine sc3G (i:=4) (j:=9) (k:=14) rfl rfl rfl rfl rfl rfl rfl (wn0 rfl) (wn0 rfl) (wn0 rfl) ?_ ?_ ?_
               ·obtain ⟨r475,g476,h⟩:=bI h
                refine id (s_callv isfn64 ef (e1 (et (k100 (k80 d6))) e0) (sema_bare_w (hg.t (le149.t le452)) g476 hS) ?_)
                rintro _ w158 ⟨μ99,rfl,le477,hS⟩
                refine po (cr 9 [9,10,15,16,17] rfl (u_load ti116 (et (k100 (k90 d1))) ((m30 _ ((le149.t (le452.t le477)) _ hS.a)).one d3)) (q100 (q90 p2)) ?_)
                obtain ⟨x478,g479,h⟩:=bI h
                obtain ⟨b480,o481,cs482,e483,f484,m485⟩:=SlR.elem (m29.up (le149.t (le452.t le477))) g479
                obtain ⟨a486,c487,rfl,m488⟩:=TExpr.o m485
                refine cp 10 rfl (u_iax underlying116 ti118 (et (k100 (k90 d2))) ec e483) (q100 (q90 p3)) (cr 14 [14,15,16,17] rfl (u_loads ti31 (et (k100 (k90 d6))) ((f467 _ (le477 _ hS.a)).sb 4 2) rfl) (q100 (q90 p7)) ?_)
                obtain ⟨r489,g490,h⟩:=bI h
                replace hS:=(hS.bg Y1).bg Y1
                replace hS:=Sep.mOut (a:=[_,_]) (p:=[_]) (M:=mRs ms23) (R:=rsF) hS
                refine sc1 rfl rfl rfl (s_callv isfn98 ef (e1 (et (k100 (k80 d8))) (e1 (et (k100 (k90 d3))) (e1 (et (k100 (k90 d7))) e0))) (IH.sema_typed (hg.t (le149.t (le452.t le477))) (m7.up (le149.t (le452.t le477))) (m9.up (le149.t (le452.t le477))) (m10.up (le149.t (le452.t le477))) (m16.up (le149.t (le452.t le477))) (m19.up (le149.t (le452.t le477))) (m20.up (le149.t (le452.t le477))) (m24.up (le149.t (le452.t le477))) m488 f484 g490 hS) ?_)
                rintro _ w159 ⟨μ100,rfl,le491,hS⟩
                replace hS:=Sep.mOut (a:=[_,_]) (p:=mRs ms23) (M:=[_]) (R:=rsF) hS
                refine po (sc1 rfl rfl rfl (s_storeA ti31 (et d4) (et (k100 (k80 d7))) rfl rfl hS d2 rfl p2 dn ?_))
                clear hS; intro w160 hS
                refine cpi 17 rfl (sc_nil (xl ?_))
                exact ⟨_,_,rfl,(aK5 (aI (aK50 (aK50 (aK50 (aK20 (aK7 (aO10 (aO6 aZ))))))))),_,_,r475.Kind,r475.Gen,rfl,h,(le477.t le491),hS⟩
               ·obtain ⟨r475,g476,h⟩:=bI h
                obtain ⟨x478,g479,h⟩:=bI h
                obtain ⟨r489,g490,h⟩:=bI h
                refine id (s_load ti116 (et (k100 (k90 d1))) ((m30 _ ((le149.t le452) _ hS.a)).one d3) (dt (q100 (q90 p2))) ?_)
                obtain ⟨b492,o493,cs494,e495,f496,m497⟩:=SlR.elem (m29.up (le149.t le452)) g479
                obtain ⟨a498,c499,rfl,m500⟩:=TExpr.o m497
                refine cp 10 rfl (u_iax underlying116 ti118 (et (k100 (k90 d2))) ec e495) (q100 (q90 p3)) ?_
                refine sc2G (i:=4) (j:=14) rfl rfl rfl rfl rfl (wn0 rfl) (wn0 rfl) ?_ ?_
                ·refine id (s_callv isfn64 ef (e1 (et (k100 (k80 d6))) e0) (sema_bare_w (hg.t (le149.t le452)) g476 hS) ?_)
                 rintro _ w161 ⟨μ101,rfl,le501,hS⟩
                 refine po (cr 14 [14,15,16,17] rfl (u_loads ti31 (et (k100 (k90 d6))) ((f467 _ (le501 _ hS.a)).sb 4 2) rfl) (q100 (q90 p7)) ?_)
                 replace hS:=(hS.bg Y1).bg Y1
                 replace hS:=Sep.mOut (a:=[_,_]) (p:=[_]) (M:=mRs ms23) (R:=rsF) hS
                 refine sc1 rfl rfl rfl (s_callv isfn98 ef (e1 (et (k100 (k80 d8))) (e1 (et (k100 (k90 d3))) (e1 (et (k100 (k90 d7))) e0))) (IH.sema_typed (hg.t (le149.t (le452.t le501))) (m7.up (le149.t (le452.t le501))) (m9.up (le149.t (le452.t le501))) (m10.up (le149.t (le452.t le501))) (m16.up (le149.t (le452.t le501))) (m19.up (le149.t (le452.t le501))) (m20.up (le149.t (le452.t le501))) (m24.up (le149.t (le452.t le501))) (m500.up le501) (f496.up le501) g490 hS) ?_)
                 rintro _ w162 ⟨μ102,rfl,le502,hS⟩
                 replace hS:=Sep.mOut (a:=[_,_]) (p:=mRs ms23) (M:=[_]) (R:=rsF) hS
                 refine po (sc1 rfl rfl rfl (s_storeA ti31 (et d4) (et (k100 (k80 d7))) rfl rfl hS d2 rfl p2 dn ?_))
                 clear hS; intro w163 hS
                 refine cpi 17 rfl (sc_nil (xl ?_))
                 exact ⟨_,_,rfl,(aK5 (aI (aK50 (aK50 (aK50 (aK20 (aK7 (aO10 (aO6 aZ))))))))),_,_,r475.Kind,r475.Gen,rfl,h,(le501.t le502),hS⟩
                ·refine id (s_loads ti31 (et (k100 (k90 d6))) ((f467 _ hS.a).sb 4 2) rfl (dt (q100 (q90 p7))) (sc1 rfl rfl rfl (s_callv isfn64 ef (e1 (et (k100 (k80 d6))) e0) (sema_bare_w (hg.t (le149.t le452)) g476 hS) ?_)))
                 rintro _ w164 ⟨μ103,rfl,le503,hS⟩
                 refine po ?_
                 replace hS:=(hS.bg Y1).bg Y1
                 replace hS:=Sep.mOut (a:=[_,_]) (p:=[_]) (M:=mRs ms23) (R:=rsF) hS
                 refine sc1 rfl rfl rfl (s_callv isfn98 ef (e1 (et (k100 (k80 d8))) (e1 (et (k100 (k90 d3))) (e1 (et (k100 (k90 d7))) e0))) (IH.sema_typed (hg.t (le149.t (le452.t le503))) (m7.up (le149.t (le452.t le503))) (m9.up (le149.t (le452.t le503))) (m10.up (le149.t (le452.t le503))) (m16.up (le149.t (le452.t le503))) (m19.up (le149.t (le452.t le503))) (m20.up (le149.t (le452.t le503))) (m24.up (le149.t (le452.t le503))) (m500.up le503) (f496.up le503) g490 hS) ?_)
                 rintro _ w165 ⟨μ104,rfl,le504,hS⟩
                 replace hS:=Sep.mOut (a:=[_,_]) (p:=mRs ms23) (M:=[_]) (R:=rsF) hS
                 refine po (sc1 rfl rfl rfl (s_storeA ti31 (et d4) (et (k100 (k80 d7))) rfl rfl hS d2 rfl p2 dn ?_))
                 clear hS; intro w166 hS
                 refine cpi 17 rfl (sc_nil (xl ?_))
                 exact ⟨_,_,rfl,(aK5 (aI (aK50 (aK50 (aK50 (aK20 (aK7 (aO10 (aO6 aZ))))))))),_,_,r475.Kind,r475.Gen,rfl,h,(le503.t le504),hS⟩
               ·obtain ⟨r475,g476,h⟩:=bI h
                obtain ⟨x478,g479,h⟩:=bI h
                obtain ⟨r489,g490,h⟩:=bI h
                refine id (s_loads ti31 (et (k100 (k90 d6))) ((f467 _ hS.a).sb 4 2) rfl (dt (q100 (q90 p7))) ?_)
                refine sc2G (i:=4) (j:=9) rfl rfl rfl rfl rfl (wn0 rfl) (wn0 rfl) ?_ ?_
                ·refine id (s_callv isfn64 ef (e1 (et (k100 (k80 d6))) e0) (sema_bare_w (hg.t (le149.t le452)) g476 hS) ?_)
                 rintro _ w167 ⟨μ105,rfl,le505,hS⟩
                 refine po (cr 9 [9,10,15,16,17] rfl (u_load ti116 (et (k100 (k90 d1))) ((m30 _ ((le149.t (le452.t le505)) _ hS.a)).one d3)) (q100 (q90 p2)) ?_)
                 obtain ⟨b506,o507,cs508,e509,f510,m511⟩:=SlR.elem (m29.up (le149.t (le452.t le505))) g479
                 obtain ⟨a512,c513,rfl,m514⟩:=TExpr.o m511
                 refine cp 10 rfl (u_iax underlying116 ti118 (et (k100 (k90 d2))) ec e509) (q100 (q90 p3)) ?_
                 replace hS:=(hS.bg Y1).bg Y1
                 replace hS:=Sep.mOut (a:=[_,_]) (p:=[_]) (M:=mRs ms23) (R:=rsF) hS
                 refine sc1 rfl rfl rfl (s_callv isfn98 ef (e1 (et (k100 (k80 d8))) (e1 (et (k100 (k90 d3))) (e1 (et (k100 (k90 d7))) e0))) (IH.sema_typed (hg.t (le149.t (le452.t le505))) (m7.up (le149.t (le452.t le505))) (m9.up (le149.t (le452.t le505))) (m10.up (le149.t (le452.t le505))) (m16.up (le149.t (le452.t le505))) (m19.up (le149.t (le452.t le505))) (m20.up (le149.t (le452.t le505))) (m24.up (le149.t (le452.t le505))) m514 f510 g490 hS) ?_)
                 rintro _ w168 ⟨μ106,rfl,le515,hS⟩
                 replace hS:=Sep.mOut (a:=[_,_]) (p:=mRs ms23) (M:=[_]) (R:=rsF) hS
                 refine po (sc1 rfl rfl rfl (s_storeA ti31 (et d4) (et (k100 (k80 d7))) rfl rfl hS d2 rfl p2 dn ?_))
                 clear hS; intro w169 hS
                 refine cpi 17 rfl (sc_nil (xl ?_))
                 exact ⟨_,_,rfl,(aK5 (aI (aK50 (aK50 (aK50 (aK20 (aK7 (aO10 (aO6 aZ))))))))),_,_,r475.Kind,r475.Gen,rfl,h,(le505.t le515),hS⟩
                ·refine id (s_load ti116 (et (k100 (k90 d1))) ((m30 _ ((le149.t le452) _ hS.a)).one d3) (dt (q100 (q90 p2))) ?_)
                 obtain ⟨b516,o517,cs518,e519,f520,m521⟩:=SlR.elem (m29.up (le149.t le452)) g479
                 obtain ⟨a522,c523,rfl,m524⟩:=TExpr.o m521
                 refine cp 10 rfl (u_iax underlying116 ti118 (et (k100 (k90 d2))) ec e519) (q100 (q90 p3)) (sc1 rfl rfl rfl (s_callv isfn64 ef (e1 (et (k100 (k80 d6))) e0) (sema_bare_w (hg.t (le149.t le452)) g476 hS) ?_))
                 rintro _ w170 ⟨μ107,rfl,le525,hS⟩
                 refine po ?_
                 replace hS:=(hS.bg Y1).bg Y1
                 replace hS:=Sep.mOut (a:=[_,_]) (p:=[_]) (M:=mRs ms23) (R:=rsF) hS
                 refine sc1 rfl rfl rfl (s_callv isfn98 ef (e1 (et (k100 (k80 d8))) (e1 (et (k100 (k90 d3))) (e1 (et (k100 (k90 d7))) e0))) (IH.sema_typed (hg.t (le149.t (le452.t le525))) (m7.up (le149.t (le452.t le525))) (m9.up (le149.t (le452.t le525))) (m10.up (le149.t (le452.t le525))) (m16.up (le149.t (le452.t le525))) (m19.up (le149.t (le452.t le525))) (m20.up (le149.t (le452.t le525))) (m24.up (le149.t (le452.t le525))) (m524.up le525) (f520.up le525) g490 hS) ?_)
                 rintro _ w171 ⟨μ108,rfl,le526,hS⟩
                 replace hS:=Sep.mOut (a:=[_,_]) (p:=mRs ms23) (M:=[_]) (R:=rsF) hS
                 refine po (sc1 rfl rfl rfl (s_storeA ti31 (et d4) (et (k100 (k80 d7))) rfl rfl hS d2 rfl p2 dn ?_))
                 clear hS; intro w172 hS
                 refine cpi 17 rfl (sc_nil (xl ?_))
                 exact ⟨_,_,rfl,(aK5 (aI (aK50 (aK50 (aK50 (aK20 (aK7 (aO10 (aO6 aZ))))))))),_,_,r475.Kind,r475.Gen,rfl,h,(le525.t le526),hS⟩
              ·rintro _ t w173 ⟨μ109,i459,i460,s461,rfl,h,le527,hS⟩
               unfold sema_expr_j5 at h
               refine nrm (mK5 (mi (mK50 (mK50 (mK50 (mK20 (mK7 (mO10 (mO6 mz))))))))) (xn (cret ?_))
               refine (fun h=>br (xr h)) ?_
               obtain rfl:=oI h
               refine retN rfl (RVs.s (.a d4 ti31 (hS.blk d2).cells rfl) (RVs.s (.t d5) RVs.z)) ?_
               replace hS:=hS.drop (Rm.s (Rm.s Rm.z))
               replace hS:Sq μ109 w0 _ (.blk b1 154 [.pointer (some ⟨b3,o4,none⟩),.pointer (some ⟨b12,o13,none⟩),v22]::.row v22 151 1 bloc_21.length (cOf ms23)::(mRs ms23++rsF)):=hS
               exact ⟨_,rfl,(le149.t (le452.t le527)),hS⟩
            ·replace h:=iF h438 h
             refine nz ?_
             iterate 2 refine st ?_
             refine nw ?_
             refine cifd (et (k100 (k90 d9))) (fun h528=>?_) (fun h528=>?_)
             ·replace h:=iT h528 h
              refine nz ?_
              iterate 4 refine st ?_
              refine ld ((m30 _ (le149 _ hS.a)).one d3) ?_
              obtain ⟨x529,g530,h⟩:=bI h
              obtain ⟨b531,o532,cs533,e534,f535,m536⟩:=SlR.elem (m29.up le149) g530
              obtain ⟨a537,c538,rfl,m539⟩:=TExpr.o m536
              refine wl (su (u_iax underlying116 ti118 (et (k100 (k100 d6))) ec e534) (dt (q100 (q100 p7))) ?_)
              obtain ⟨r540,g541,h⟩:=bI h
              replace hS:=(hS.bg Y1).bg Y1
              replace hS:=Sep.mOut (a:=[_,_]) (p:=[_]) (M:=mRs ms23) (R:=rsF) hS
              refine ca (IH.sema_handle (hg.t le149) (m7.up le149) (m9.up le149) (m10.up le149) (m16.up le149) (m19.up le149) (m20.up le149) (m24.up le149) m539 f535 g541 hS) ?_
              rintro _ w174 ⟨μ110,v543,rfl,le542,hS,m544⟩
              replace hS:=Sep.mOut (a:=[_,_]) (p:=mRs ms23) (M:=[_]) (R:=rsF) hS
              refine po ?_
              iterate 5 refine st ?_
              refine nx ?_
              obtain ⟨r545,g546,h⟩:=bI h
              refine ca (sema_boolean_w (hg.t (le149.t le542)) g546 hS) ?_
              rintro _ w175 ⟨μ111,rfl,le547,hS⟩
              refine po (st (wl (s_storeA ti31 (et d4) (et (k100 (k100 (k10 d1)))) rfl rfl hS d2 rfl p2 dn ?_)))
              clear hS; intro w176 hS
              refine st (nw (cret ?_))
              refine (fun h=>br (xr h)) ?_
              obtain rfl:=oI h
              refine retN rfl (RVs.s (.a d4 ti31 (hS.blk d2).cells rfl) (RVs.s (.t d5) RVs.z)) ?_
              replace hS:=hS.drop (Rm.s (Rm.s Rm.z))
              replace hS:Sq μ111 w0 _ (.blk b1 154 [.pointer (some ⟨b3,o4,none⟩),.pointer (some ⟨b12,o13,none⟩),v22]::.row v22 151 1 bloc_21.length (cOf ms23)::(mRs ms23++rsF)):=hS
              exact ⟨_,rfl,(le149.t (le542.t le547)),hS⟩
             ·replace h:=iF h528 h
              refine cskip ?_
              refine (fun h=>bn (xn h)) ?_
              refine nz ?_
              obtain ⟨r548,g549,h⟩:=bI h
              refine ca (sema_num_w (hg.t le149) g549 hS) ?_
              rintro _ w177 ⟨μ112,rfl,le550,hS⟩
              refine po ?_
              obtain ⟨r551,g552,h⟩:=bI h
              refine ca (sema_num_w (hg.t (le149.t le550)) g552 hS) ?_
              rintro _ w178 ⟨μ113,rfl,le553,hS⟩
              refine po ?_
              refine wl (s_alloc ti31 hS ?_); clear hS; intro b554 w179 hb555 hS; refine po ?_
              refine wl (s_alloc ti31 hS ?_); clear hS; intro b556 w180 hb557 hS; refine po ?_
              refine wl (s_storeA ti31 (et (k20 d0)) (et (k100 (k100 (k10 d3)))) rfl rfl hS d1 rfl p1 dn ?_)
              clear hS; intro w181 hS
              refine wl (s_storeA ti31 (et (k20 d1)) (et (k100 (k100 (k10 d4)))) rfl rfl hS d0 rfl p0 dn ?_)
              clear hS; intro w182 hS
              refine ny ?_
              refine ccutE (rg 215 15) (by decide) (fun m w=>∃ μx i558 s559 i560 s561,m=(yK50 (yK50 (yK50 (yK50 (yK10 (yK5 (yO10 215 (yO5 225 []))))))))∧sema_expr_j6 self p_2 prog_2 def_11 bloc_21 i558 s559 i560 s561=some r∧Le μ113 μx∧Sq μx w0 w (.blk b1 154 [.pointer (some ⟨b3,o4,none⟩),.pointer (some ⟨b12,o13,none⟩),v22]::.row v22 151 1 bloc_21.length (cOf ms23)::.blk b31 31 [.int .i64 0,S []]::.blk b554 31 [.int .i64 i558,S s559]::.blk b556 31 [.int .i64 i560,S s561]::(mRs ms23++rsF))) (by rintro _ _ ⟨_,_,_,_,_,rfl,_⟩; rfl) ?_ ?_
              ·refine cblock (nz ?_)
               iterate 3 refine st ?_
               refine ld ((m30 _ ((le149.t (le550.t le553)) _ hS.a)).one d0) ?_
               iterate 2 refine st ?_
               refine nw ?_
               refine cifd (et (k100 (k100 (k10 d5)))) (fun h562=>?_) (fun h562=>?_)
               ·replace h:=iT h562 h
                refine creg ?_
                obtain ⟨r563,g564,h⟩:=bI h
                refine ca (sema_boolean_w (hg.t (le149.t (le550.t le553))) g564 hS) ?_
                rintro _ w183 ⟨μ114,rfl,le565,hS⟩
                refine po ?_
                obtain ⟨r566,g567,h⟩:=bI h
                refine ca (sema_boolean_w (hg.t (le149.t (le550.t (le553.t le565)))) g567 hS) ?_
                rintro _ w184 ⟨μ115,rfl,le568,hS⟩
                refine po (wl (s_storeA ti31 (et (k20 d0)) (et (k100 (k100 (k20 d1)))) rfl rfl hS d1 rfl p1 dn ?_))
                clear hS; intro w185 hS
                refine wl (s_storeA ti31 (et (k20 d1)) (et (k100 (k100 (k20 d2)))) rfl rfl hS d0 rfl p0 dn ?_)
                clear hS; intro w186 hS
                refine wnil ?_
                refine (fun h=>bn (xl h)) ?_
                replace hS:=(((hS.bg Y1).bg Y4).bg Y4).bg Y4
                exact ⟨_,_,rfl,(aK50 (aK50 (aK50 (aK50 (aK10 (aK5 (aO10 (aO5 aZ)))))))),_,r563.Kind,r563.Gen,r566.Kind,r566.Gen,rfl,h,(le565.t le568),hS⟩
               ·replace h:=iF h562 h
                refine nz ?_
                iterate 3 refine st ?_
                refine ld ((m30 _ ((le149.t (le550.t le553)) _ hS.a)).one d0) ?_
                iterate 2 refine st ?_
                refine nw ?_
                refine cifd (et (k100 (k100 (k20 d3)))) (fun h569=>?_) (fun h569=>?_)
                ·replace h:=iT h569 h
                 refine creg ?_
                 obtain ⟨r570,g571,h⟩:=bI h
                 refine ca (sema_boolean_w (hg.t (le149.t (le550.t le553))) g571 hS) ?_
                 rintro _ w187 ⟨μ116,rfl,le572,hS⟩
                 refine po (wl (s_storeA ti31 (et (k20 d1)) (et (k100 (k100 (k20 d9)))) rfl rfl hS d0 rfl p0 dn ?_))
                 clear hS; intro w188 hS
                 refine wnil ?_
                 refine (fun h=>bn (xl h)) ?_
                 replace hS:=(((hS.bg Y1).bg Y4).bg Y4).bg Y4
                 exact ⟨_,_,rfl,(aK50 (aK50 (aK50 (aK50 (aK10 (aK5 (aO10 (aO5 aZ)))))))),_,r548.Kind,r548.Gen,r570.Kind,r570.Gen,rfl,h,le572,hS⟩
                ·replace h:=iF h569 h
                 refine cskip ?_
                 refine (fun h=>bn (xl h)) ?_
                 replace hS:=(((hS.bg Y1).bg Y4).bg Y4).bg Y4
                 exact ⟨_,_,rfl,(aK50 (aK50 (aK50 (aK50 (aK10 (aK5 (aO10 (aO5 aZ)))))))),_,r548.Kind,r548.Gen,r551.Kind,r551.Gen,rfl,h,Le.r,hS⟩
              ·rintro _ t w189 ⟨μ117,i558,s559,i560,s561,rfl,h,le573,hS⟩
               unfold sema_expr_j6 at h
               refine nrm (mK50 (mK50 (mK50 (mK50 (mK10 (mK5 (mO10 (mO5 mz)))))))) (xn (cseq (nz ?_)))
               iterate 3 refine st ?_
               refine ld ((m30 _ ((le149.t (le550.t (le553.t le573))) _ hS.a)).one d3) (wl (su (u_lensl underlying116 (et (k100 (k100 (k30 d3))))) (dt (q100 (q100 (q30 p4)))) (st (nw (cblock ?_)))))
               refine cloopE ([5]++rg 22 2++rg 236 16) (by decide) (fun n m w=>∃ μx i590,m=(yK5 (yO1 5 (yK10 (yK6 (yO2 22 (yK50 (yK50 (yK50 (yK50 (yK10 (yK1 (.i (.int .i64 i590)::(yO10 236 (yO6 246 []))))))))))))))∧sema_expr_l1 self p_2 prog_2 def_11 bloc_21 i558 s559 i560 s561 n i590=some r∧Le μ117 μx∧Sq μx w0 w (.blk b1 154 [.pointer (some ⟨b3,o4,none⟩),.pointer (some ⟨b12,o13,none⟩),v22]::.row v22 151 1 bloc_21.length (cOf ms23)::.blk b31 31 [.int .i64 0,S []]::.blk b554 31 [.int .i64 i558,S s559]::.blk b556 31 [.int .i64 i560,S s561]::(mRs ms23++rsF))) (by rintro _ _ _ ⟨_,_,rfl,_⟩; rfl) _ _ (aK5 (aO1 (aK10 (aK6 (aO2 (aK50 (aK50 (aK50 (aK50 (aK10 (aK1 (aI (aO10 (aO6 aZ)))))))))))))) ⟨_,0,rfl,h,Le.r,hS⟩ ?_
               rintro n_1 _ t w190 ⟨μ118,i590,rfl,h,le607,hS⟩
               cases n_1 with
               | zero=>cases h
               | succ n_1 =>
               unfold sema_expr_l1 at h
               refine cnrm (mK5 (mO1 (mK10 (mK6 (mO2 (mK50 (mK50 (mK50 (mK50 (mK10 (mK1 (mi (mO10 (mO6 mz)))))))))))))) (nz (st (ny ?_)))
               refine cifd (et (k100 (k100 (k30 d6)))) (fun h608=>?_) (fun h608=>?_)
               ·replace h:=iT h608 h
                refine cskip (xn (cseq (cblock (nz ?_))))
                iterate 2 refine st ?_
                refine ny ?_
                refine cdw hS ?_; clear hS; intro w191 hS
                refine cpi 0 rfl (cpi 1 rfl (cpi 2 rfl (cpi 3 rfl (cpi 5 rfl (cr 4 [4,6,8,9] rfl (u_load ti116 (et (k100 (k100 (k40 d1)))) ((m30 _ ((le149.t (le550.t (le553.t (le573.t le607)))) _ hS.a)).one d3)) (q100 (q100 (q40 p2))) ?_)))))
                obtain ⟨x609,g610,h⟩:=bI h
                obtain ⟨b611,o612,cs613,e614,f615,m616⟩:=SlR.elem (m29.up (le149.t (le550.t (le553.t (le573.t le607))))) g610
                obtain ⟨a617,c618,rfl,m619⟩:=TExpr.o m616
                refine cp 6 rfl (u_iax underlying116 ti118 (et (k100 (k100 (k40 d2)))) (et (k100 (k100 (k40 d3)))) e614) (q100 (q100 (q40 p4))) (cr 7 [7,8,9] rfl (u_loads ti31 (et (k20 d0)) (hS.blk d3).cells rfl) (q100 (q100 (q40 p5))) ?_)
                obtain ⟨r620,g621,h⟩:=bI h
                replace hS:=(hS.bg Y1).bg Y1
                replace hS:=Sep.mOut (a:=[_,_]) (p:=[_,_,_]) (M:=mRs ms23) (R:=rsF) hS
                refine sc1 rfl rfl rfl (s_callv isfn98 ef (e1 (et (k100 (k100 (k30 d8)))) (e1 (et (k100 (k100 (k40 d4)))) (e1 (et (k100 (k100 (k40 d5)))) e0))) (IH.sema_typed (p_3:=(TType.mk i558 s559)) (hg.t (le149.t (le550.t (le553.t (le573.t le607))))) (m7.up (le149.t (le550.t (le553.t (le573.t le607))))) (m9.up (le149.t (le550.t (le553.t (le573.t le607))))) (m10.up (le149.t (le550.t (le553.t (le573.t le607))))) (m16.up (le149.t (le550.t (le553.t (le573.t le607))))) (m19.up (le149.t (le550.t (le553.t (le573.t le607))))) (m20.up (le149.t (le550.t (le553.t (le573.t le607))))) (m24.up (le149.t (le550.t (le553.t (le573.t le607))))) m619 f615 g621 hS) ?_)
                rintro _ w192 ⟨μ119,rfl,le622,hS⟩
                replace hS:=Sep.mOut (a:=[_,_]) (p:=mRs ms23) (M:=[_,_,_]) (R:=rsF) hS
                refine po (cpi 9 rfl (nu (nz ?_)))
                iterate 2 refine st ?_
                refine nw ?_
                refine cifd (et (k100 (k100 (k40 d8)))) (fun h623=>?_) (fun h623=>?_)
                ·replace h:=iT h623 h
                 refine nz (lds (hS.blk d4).cells rfl (st (wl (s_storeA ti31 (et d4) (et (k100 (k100 (k40 d9)))) rfl rfl hS d2 rfl p2 dn ?_))))
                 clear hS; intro w193 hS
                 refine st (nw (cret ?_))
                 refine (fun h=>br (xr (xr (br (xr h))))) ?_
                 obtain rfl:=oI h
                 refine retN rfl (RVs.s (.a d4 ti31 (hS.blk d2).cells rfl) (RVs.s (.t d5) RVs.z)) ?_
                 replace hS:=((hS.drop (Rm.s (Rm.s Rm.z))).drop (Rm.s (Rm.s Rm.z))).drop (Rm.s (Rm.s Rm.z))
                 replace hS:Sq μ119 w0 _ (.blk b1 154 [.pointer (some ⟨b3,o4,none⟩),.pointer (some ⟨b12,o13,none⟩),v22]::.row v22 151 1 bloc_21.length (cOf ms23)::(mRs ms23++rsF)):=hS
                 exact ⟨_,rfl,(le149.t (le550.t (le553.t (le573.t (le607.t le622))))),hS⟩
                ·replace h:=iF h623 h
                 refine cskip ?_
                 refine (fun h=>bn (xn h)) ?_
                 refine creg ?_
                 obtain ⟨i624,g625,h⟩:=bI h
                 refine wl (su (u_addc (et (k100 (k100 (k30 d5)))) ec g625) (dt (q100 (q100 (q50 p1)))) (st (wnil (xl ?_))))
                 exact ⟨n_1,_,_,rfl,(aK5 (aO1 (aK10 (aK6 (aO2 (aK50 (aK50 (aK50 (aK50 (aK10 (aK1 (aI (aO10 (aO6 aZ)))))))))))))),⟨_,i624,rfl,h,(le607.t le622),hS⟩,Nat.lt_succ_self _⟩
               ·replace h:=iF h608 h
                refine cexit ?_
                refine (fun h=>xe (xe (bh h))) ?_
                refine xn (nz (lds (hS.blk d4).cells rfl (wl (s_storeA ti31 (et d4) (et (k100 (k100 (k50 d2)))) rfl rfl hS d2 rfl p2 dn ?_))))
                clear hS; intro w194 hS
                refine st (nw (cret ?_))
                obtain rfl:=oI h
                refine retN rfl (RVs.s (.a d4 ti31 (hS.blk d2).cells rfl) (RVs.s (.t d5) RVs.z)) ?_
                replace hS:=((hS.drop (Rm.s (Rm.s Rm.z))).drop (Rm.s (Rm.s Rm.z))).drop (Rm.s (Rm.s Rm.z))
                replace hS:Sq μ118 w0 _ (.blk b1 154 [.pointer (some ⟨b3,o4,none⟩),.pointer (some ⟨b12,o13,none⟩),v22]::.row v22 151 1 bloc_21.length (cOf ms23)::(mRs ms23++rsF)):=hS
                exact ⟨_,rfl,(le149.t (le550.t (le553.t (le573.t le607)))),hS⟩
theorem SemaE_sound:∀ n,SemaESound (SemaE_run n)
  | 0=>⟨(by intros; rename_i h _; cases h),(by intros; rename_i h _; cases h),(by intros; rename_i h _; cases h),(by intros; rename_i h _; cases h),(by intros; rename_i h _; cases h)⟩
  | n+1=>⟨sema_typed_w (SemaE_sound n),sema_args_w (SemaE_sound n),sema_both_w (SemaE_sound n),sema_handle_w (SemaE_sound n),sema_expr_w (SemaE_sound n)⟩
end Go.Proofs.YtjbiabapnphheaaGreatDoor
