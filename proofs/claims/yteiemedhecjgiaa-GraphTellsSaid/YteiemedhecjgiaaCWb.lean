/- Texts of Wb. -/
import Derived.Test.YteiemedhecjgiaaCXu
import Derived.Test.YteiemedhecjgiaaCMd
import Derived.Test.YteiemedhecjgiaaCWa
set_option linter.unusedSimpArgs false
set_option linter.unusedVariables false
set_option linter.unusedSectionVars false
set_option maxRecDepth 100000
set_option maxHeartbeats 20000000
namespace Go.Proofs.Yteiemedhecjgiaa
open Go.Wk Go.Xt Go.Y Try
variable {b1 b3 b6 b8 b12 c4 c6 c15 c18 fu o2 o4 o13:Nat} {a3 a5 a14 a17:Option Addr} {v22:Value} {ms23:List (Nat×List MapEntry×Nat)} {μ0:M} {w0 w:World} {rsF:List Res}
theorem sema_plain_w (hg:Le Gm μ0) {p_1:TType} {r:Bool}  (h:sema_plain p_1=some r) (hS:Sq μ0 w0 w (rsF)):CallsV prog 57 [.agg ⟨[.int .i64 p_1.Kind,S p_1.Gen]⟩] w (fun v w'=>∃ (μ':M) ,v=.bool r∧Le μ0 μ'∧Sq μ' w0 w' (rsF)):=by
 unfold sema_plain at h
 refine enter func57 rfl (frm:=_::u5 []) rfl (nz ?_)
 refine wl (s_box (et d0) rfl hS ?_); clear hS; intro b1 w1 hb2 hS; refine po ?_
 refine st (nx (st (ld ((hS.blk d0).cell d0) ?_)))
 iterate 2 refine st ?_
 refine nw (cret ?_)
 obtain rfl:=oI h
 refine ret1 rfl d2 ?_
 replace hS:=hS.drop Rm.z
 exact ⟨_,rfl,Le.r,hS⟩
theorem sema_find_w (hg:Le Gm μ0) {p_1:TSp} {p_2:Int} {p_3:List UInt8} {r:Option TDef×Bool} (m5:Sl μ0 a3 c4 p_1.defs) (m7:Mr μ0 b6 p_1.named) (m8:At μ0 b1 o2 [.slice a3 p_1.defs.length c4,.map (some b6)]) (h:sema_find p_1 p_2 p_3=some r) (hS:Sq μ0 w0 w (rsF)):CallsV prog 77 [.pointer (some ⟨b1,o2,none⟩),.int .i64 p_2,S p_3] w (fun v w'=>∃ (μ':M) (v9:Value),v=.tuple ⟨[v9,.bool r.2]⟩∧Le μ0 μ'∧Sq μ' w0 w' (rsF)∧Np μ' v9 r.1):=by
 unfold sema_find at h
 refine enter func77 rfl (frm:=_::_::_::u1 (u5 (u20 []))) rfl (nz ?_)
 iterate 2 refine st ?_
 refine nx ?_
 iterate 3 refine st ?_
 refine ld ((m8 _ hS.a).one d1) (st ?_)
 obtain ⟨es11,c12,hb13,hq14⟩:=m7
 refine wl (s_mgetP2 (κ:=List UInt8) (k:=p_3) (hrv:=fun _ _ h=>h) underlying79 underlying9 (et (k10 d4)) (et (k10 d5)) zv63 (hb13 _ hS.a) hq14 ?_); intro v15 hv16; refine po ?_
 iterate 5 refine st ?_
 refine ny ?_
 refine cdw hS ?_; clear hS; intro w1 hS
 refine sf_start (fpi 0 [0,10,11] rfl (fpi 1 [1,2,3,4,5,6,7,8,9,10,11] rfl (fpi 2 [2,3,4,5,6,7,8,9,10,11] rfl (fpi 10 [10,11] rfl ?_))))
 refine zFb 21 h ?_ ?_
 intro h17 h
 refine fpY 3 [3,4,5,6,8,9,11] rfl rfl (k20 d1) (u_move (et d8)) (q20 p2) ?_
 obtain ⟨x18,g19,h⟩:=bI h
 obtain ⟨b20,o21,cs22,rfl,f23,m24⟩:=Np.get hv16 g19
 obtain ⟨a25,c26,a28,c29,rfl,m27,m30⟩:=m24
 refine fpY 4 [4,5,6,8,9,11] rfl rfl (k20 d1) (u_nilck (et (k20 d2))) (q20 p3) (fpY 5 [5,6,8,9,11] rfl rfl (k20 d1) (u_fa fa59_0 (et (k20 d3)) rfl) (q20 p4) (fr_Y 6 [6,8,9,11] rfl rfl (k20 d1) (u_load ti3 (et (k20 d4)) ((f23 _ hS.a).one d0)) (q20 p5) (fpY 7 [7,8,9,11] rfl rfl (k20 d1) (u_move (et d1)) (q20 p6) (fpY 8 [8,9,11] rfl rfl (k20 d1) (u_eqi (et (k20 d5)) (et (k20 d6))) (q20 p7) (fpi 9 [9,11] rfl (fpi 11 [11] rfl (sf_nil (xn (cret ?_)))))))))
 obtain rfl:=oI h
 refine ret2 rfl d6 d7 ?_
 exact ⟨_,(.pointer (some ⟨b20,o21,none⟩)),rfl,Le.r,hS,hv16⟩
 intro h17 h
 refine fpN 3 [3,4,5,6,8,9,11] rfl rfl (k20 d1) rfl (q20 p2) (fpN 4 [4,5,6,8,9,11] rfl rfl (k20 d1) rfl (q20 p3) (fpN 5 [5,6,8,9,11] rfl rfl (k20 d1) rfl (q20 p4) (fpN 6 [6,8,9,11] rfl rfl (k20 d1) rfl (q20 p5) (fpN 7 [7,8,9,11] rfl rfl (k20 d1) rfl (q20 p6) (fpN 8 [8,9,11] rfl rfl (k20 d1) rfl (q20 p7) (fpi 9 [9,11] rfl (fpi 11 [11] rfl (sf_nil (xn (cret ?_))))))))))
 obtain rfl:=oI h
 refine ret2 rfl d6 d7 ?_
 exact ⟨_,_,rfl,Le.r,hS,hv16⟩
theorem sema_typ_w (hg:Le Gm μ0) {p_1:TSp} {p_2:TType} {r:Int} (m5:Sl μ0 a3 c4 p_1.defs) (m7:Mr μ0 b6 p_1.named) (m8:At μ0 b1 o2 [.slice a3 p_1.defs.length c4,.map (some b6)]) (h:sema_typ p_1 p_2=some r) (hS:Sq μ0 w0 w (rsF)):CallsV prog 56 [.pointer (some ⟨b1,o2,none⟩),.agg ⟨[.int .i64 p_2.Kind,S p_2.Gen]⟩] w (fun v w'=>∃ (μ':M) ,v=.int .i64 r∧Le μ0 μ'∧Sq μ' w0 w' (rsF)):=by
 unfold sema_typ at h
 refine enter func56 rfl (frm:=_::_::u1 (u5 (u10 []))) rfl (nz ?_)
 refine wl (s_box (et d1) rfl hS ?_); clear hS; intro b9 w1 hb10 hS; refine po ?_
 refine st (ny (nz (lds (hS.blk d0).cells rfl ?_)))
 obtain ⟨r11,g12,h⟩:=bI h
 refine ca (sema_plain_w hg g12 hS) ?_
 rintro _ w2 ⟨μ1,rfl,le13,hS⟩
 refine po (nw ?_)
 refine zCb h ?_ ?_
 intro h14 h
 refine nz (st (nw (cret (xr ?_))))
 obtain rfl:=oI h
 refine ret1 rfl d4 ?_
 replace hS:=hS.drop Rm.z
 exact ⟨_,rfl,le13,hS⟩
 intro h14 h
 refine cskip (xn (cseq (nz ?_)))
 iterate 2 refine st ?_
 refine ld ((hS.blk d0).cell d1) ?_
 obtain ⟨r15,g16,h⟩:=bI h
 refine ca (sema_find_w (hg.t le13) (m5.up le13) (m7.up le13) (m8.up le13) g16 hS) ?_
 rintro _ w3 ⟨μ2,v18,rfl,le17,hS,m19⟩
 refine po ?_
 iterate 5 refine st ?_
 refine nx ?_
 iterate 2 refine st ?_
 refine nw ?_
 refine zCe h ?_ ?_
 intro h20 h
 refine nz (st (nw (cret (xr ?_))))
 obtain rfl:=oI h
 refine ret1 rfl d4 ?_
 replace hS:=hS.drop Rm.z
 exact ⟨_,rfl,(le13.t le17),hS⟩
 intro h20 h
 refine cskip (xn (nz (st (nw (cret ?_)))))
 obtain rfl:=oI h
 refine ret1 rfl d4 ?_
 replace hS:=hS.drop Rm.z
 exact ⟨_,rfl,(le13.t le17),hS⟩
theorem sema_bare_w (hg:Le Gm μ0) {p_1 r:TType}  (h:sema_bare p_1=some r) (hS:Sq μ0 w0 w (rsF)):CallsV prog 58 [.agg ⟨[.int .i64 p_1.Kind,S p_1.Gen]⟩] w (fun v w'=>∃ (μ':M) ,v=.agg ⟨[.int .i64 r.Kind,S r.Gen]⟩∧Le μ0 μ'∧Sq μ' w0 w' (rsF)):=by
 unfold sema_bare at h
 refine enter func58 rfl (frm:=_::u1 (u5 [])) rfl (nz ?_)
 refine wl (s_box (et d0) rfl hS ?_); clear hS; intro b1 w1 hb2 hS; refine po ?_
 refine wl (s_alloc ti55 hS ?_); clear hS; intro b3 w2 hb4 hS; refine po ?_
 refine ny (nz (lds (hS.blk d1).cells rfl ?_))
 obtain ⟨r5,g6,h⟩:=bI h
 refine ca (sema_plain_w hg g6 hS) ?_
 rintro _ w3 ⟨μ1,rfl,le7,hS⟩
 refine po (nw ?_)
 refine ccutE ([5]) (by decide) (fun m w=>∃ μx s8,m=(yK5 (yO1 5 []))∧sema_bare_j1 p_1 s8=some r∧Le μ1 μx∧Sq μx w0 w (.blk b1 55 [.int .i64 p_1.Kind,S s8]::.blk b3 55 [.int .i64 0,S []]::rsF)) (by rintro _ _ ⟨_,_,rfl,_⟩; rfl) ?_ ?_
 refine zCb h ?_ ?_
 intro h9 h
 refine creg (st (wl (s_store1 ti9 (et d5) ec rfl hS d1 p1 rfl p1 dn ?_)))
 clear hS; intro w4 hS
 refine wnil (xl ?_)
 replace hS:=hS.bg Y1
 exact ⟨_,_,rfl,(aK5 (aO1 aZ)),_,[],rfl,h,Le.r,hS⟩
 intro h9 h
 refine cskip (xl ?_)
 replace hS:=hS.bg Y1
 exact ⟨_,_,rfl,(aK5 (aO1 aZ)),_,p_1.Gen,rfl,h,Le.r,hS⟩
 rintro _ t w5 ⟨μ2,s8,rfl,h,le10,hS⟩
 unfold sema_bare_j1 at h
 refine nrm (mK5 (mO1 mz)) (xn (nz (lds (hS.blk d0).cells rfl (wl (s_storeA ti55 (et d2) (et d6) rfl rfl hS d1 rfl p1 dn ?_)))))
 clear hS; intro w6 hS
 refine nw (cret ?_)
 obtain rfl:=oI h
 refine retN rfl (RVs.s (.a d2 ti55 (hS.blk d1).cells rfl) RVs.z) ?_
 replace hS:=(hS.drop Rm.z).drop Rm.z
 exact ⟨_,rfl,(le7.t le10),hS⟩
theorem sema_num_w (hg:Le Gm μ0)  {r:TType}  (h:sema_num =some r) (hS:Sq μ0 w0 w (rsF)):CallsV prog 107 [] w (fun v w'=>∃ (μ':M) ,v=.agg ⟨[.int .i64 r.Kind,S r.Gen]⟩∧Le μ0 μ'∧Sq μ' w0 w' (rsF)):=by
 unfold sema_num at h
 refine enter func107 rfl (frm:=u2 []) rfl (nz ?_)
 refine wl (s_alloc ti55 hS ?_); clear hS; intro b1 w1 hb2 hS; refine po ?_
 refine nx (wl (s_build ti55 pl55 (Fl.o rfl ec rfl rfl p0 Fl.z) (dt p1) (wl (s_storeA ti55 (et d0) (et d1) rfl rfl hS d0 rfl p0 dn ?_))))
 clear hS; intro w2 hS
 refine nw (cret ?_)
 obtain rfl:=oI h
 refine retN rfl (RVs.s (.a d0 ti55 (hS.blk d0).cells rfl) RVs.z) ?_
 replace hS:=hS.drop Rm.z
 exact ⟨_,rfl,Le.r,hS⟩
theorem sema_boolean_w (hg:Le Gm μ0)  {r:TType}  (h:sema_boolean =some r) (hS:Sq μ0 w0 w (rsF)):CallsV prog 101 [] w (fun v w'=>∃ (μ':M) ,v=.agg ⟨[.int .i64 r.Kind,S r.Gen]⟩∧Le μ0 μ'∧Sq μ' w0 w' (rsF)):=by
 unfold sema_boolean at h
 refine enter func101 rfl (frm:=u2 []) rfl (nz ?_)
 refine wl (s_alloc ti55 hS ?_); clear hS; intro b1 w1 hb2 hS; refine po ?_
 refine nx (wl (s_build ti55 pl55 (Fl.o rfl ec rfl rfl p0 Fl.z) (dt p1) (wl (s_storeA ti55 (et d0) (et d1) rfl rfl hS d0 rfl p0 dn ?_))))
 clear hS; intro w2 hS
 refine nw (cret ?_)
 obtain rfl:=oI h
 refine retN rfl (RVs.s (.a d0 ti55 (hS.blk d0).cells rfl) RVs.z) ?_
 replace hS:=hS.drop Rm.z
 exact ⟨_,rfl,Le.r,hS⟩
theorem sema_look_w (hg:Le Gm μ0) {prog_2:TSp} {def_11:TDef} {bloc_21:List (List (List UInt8×TType))} {p_2:List UInt8} {r:TType×Bool} (m7:Sl μ0 a5 c6 prog_2.defs) (m9:Mr μ0 b8 prog_2.named) (m10:At μ0 b3 o4 [.slice a5 prog_2.defs.length c6,.map (some b8)]) (m16:Sl μ0 a14 c15 def_11.Params) (m19:Sl μ0 a17 c18 def_11.Body) (m20:At μ0 b12 o13 [.int .i64 def_11.Kind,S def_11.Name,.int .i64 def_11.Typ.Kind,S def_11.Typ.Gen,.int .i64 def_11.Takes.Kind,S def_11.Takes.Gen,.int .i64 def_11.Cap,.slice a14 def_11.Params.length c15,.slice a17 def_11.Body.length c18]) (m24:Ms μ0 ms23 bloc_21) (h:sema_look fu prog_2 def_11 bloc_21 p_2=some r) (hS:Sq μ0 w0 w (.blk b1 144 [.pointer (some ⟨b3,o4,none⟩),.pointer (some ⟨b12,o13,none⟩),v22]::.row v22 141 1 bloc_21.length (cOf ms23)::(mRs ms23++rsF))):CallsV prog 99 [.pointer (some ⟨b1,0,none⟩),S p_2] w (fun v w'=>∃ (μ':M) ,v=.tuple ⟨[.agg ⟨[.int .i64 r.1.Kind,S r.1.Gen]⟩,.bool r.2]⟩∧Le μ0 μ'∧Sq μ' w0 w' (.blk b1 144 [.pointer (some ⟨b3,o4,none⟩),.pointer (some ⟨b12,o13,none⟩),v22]::.row v22 141 1 bloc_21.length (cOf ms23)::(mRs ms23++rsF))):=by
 unfold sema_look at h
 refine enter func99 rfl (frm:=_::_::u2 (u10 (u20 []))) rfl (nz ?_)
 refine wl (s_alloc ti55 hS ?_); clear hS; intro b25 w1 hb26 hS; refine po ?_
 refine st (ny (nz ?_))
 iterate 3 refine st ?_
 refine ld ((hS.blk d1).cell d2) (wl (su (u_lenv underlying142 (et (k10 d2)) (hS.get d2).isSl) (dt (q10 p3)) ?_))
 obtain ⟨i27,g28,h⟩:=bI h
 refine wl (su (u_subc (et (k10 d3)) ec g28) (dt (q10 p4)) (st (nw (cblock ?_))))
 replace hS:=(hS.bg Y2).bg Y2
 refine cloopE ([5]++rg 7 2++rg 15 18) (by decide +kernel) (fun n m w=>∃ μx i48,m=(yK5 (yO1 5 (.i (.int .i64 i48)::(yO2 7 (yK6 (yO10 15 (yO8 25 [])))))))∧sema_look_l1 p_2 bloc_21 n i48=some r∧Le μ0 μx∧Sq μx w0 w (.blk b1 144 [.pointer (some ⟨b3,o4,none⟩),.pointer (some ⟨b12,o13,none⟩),v22]::.row v22 141 1 bloc_21.length (cOf ms23)::.blk b25 55 [.int .i64 0,S []]::(mRs ms23++rsF))) (by rintro _ _ _ ⟨_,_,rfl,_⟩; rfl) _ _ (aK5 (aO1 (aI (aO2 (aK6 (aO10 (aO8 aZ))))))) ⟨_,i27,rfl,h,Le.r,hS⟩ ?_
 rintro n_1 _ t w2 ⟨μ1,i48,rfl,h,le68,hS⟩
 rcases n_1 with _|n_1
 cases h
 unfold sema_look_l1 at h
 refine cnrm (mK5 (mO1 (mi (mO2 (mK6 (mO10 (mO8 mz))))))) (cseq (nz ?_))
 iterate 2 refine st ?_
 refine nw ?_
 refine zCd h ?_ ?_
 intro h69 h
 refine cskip (xn (cseq (cblock (nz ?_))))
 iterate 3 refine st ?_
 refine ld ((hS.blk d0).cell d2) (st ?_)
 obtain ⟨x70,g71,h⟩:=bI h
 obtain ⟨b72,o73,b74,es75,c76,e77,f78,hms79,mq80⟩:=Row.mapElem (hS.get d1) (m24.up le68) g71
 refine wl (su (u_iax underlying142 ti141 (et (k20 d3)) (et (k20 d4)) e77) (dt (q20 p5)) (ld ((f78 _ _ (hS.get d1)).one d0) (st ?_)))
 refine wl (s_mget2 (κ:=List UInt8) (k:=p_2) (β:=TType) (zx:=(TType.mk 0 [])) underlying141 underlying9 (et (k20 d6)) (et (k20 d7)) zv55 ⟨_,rfl,rfl⟩ (hS.mapAt (pre:=[_,_,_]) hms79) mq80 ?_); rintro _ ⟨_,rfl,rfl⟩; refine po ?_
 iterate 3 refine st ?_
 refine wl (s_alloc ti55 hS ?_); clear hS; intro b85 w3 hb86 hS; refine po ?_
 refine wl (s_storeA ti55 (et d7) (et (k20 d9)) rfl rfl hS d0 rfl p0 dn ?_)
 clear hS; intro w4 hS
 refine st (nx (st (nw ?_)))
 refine zCb h ?_ ?_
 intro h87 h
 refine nz (lds (hS.blk d0).cells rfl (wl (s_storeA ti55 (et d4) (et (k30 d2)) rfl rfl hS d3 rfl p3 dn ?_)))
 clear hS; intro w5 hS
 refine st (nw (cret ?_))
 refine (fun h=>br (xr (xr (br (xr h))))) ?_
 obtain rfl:=oI h
 refine retN rfl (RVs.s (.a d4 ti55 (hS.blk d3).cells rfl) (RVs.s (.t d5) RVs.z)) ?_
 replace hS:=(hS.drop Rm.z).drop (Rm.s (Rm.s Rm.z))
 exact ⟨_,rfl,le68,hS⟩
 intro h87 h
 refine cskip ?_
 refine (fun h=>bn (xn h)) ?_
 refine creg (st ?_)
 obtain ⟨i88,g89,h⟩:=bI h
 refine wl (su (u_subc (et (k10 d7)) ec g89) (dt (q10 p8)) (st (wnil (xl ?_))))
 replace hS:=hS.drop Rm.z
 exact ⟨n_1,_,_,rfl,(aK5 (aO1 (aI (aO2 (aK6 (aO10 (aO8 aZ))))))),⟨_,i88,rfl,h,le68,hS⟩,Nat.lt_succ_self _⟩
 intro h69 h
 refine cexit ?_
 refine (fun h=>xe (xe (bh h))) ?_
 refine xn (nz (wl (s_build ti55 pl55 Fl.z (dt (q30 p3)) (wl (s_storeA ti55 (et d4) (et (k30 d3)) rfl rfl hS d2 rfl p2 dn ?_)))))
 clear hS; intro w6 hS
 refine st (nw (cret ?_))
 obtain rfl:=oI h
 refine retN rfl (RVs.s (.a d4 ti55 (hS.blk d2).cells rfl) (RVs.s (.t d5) RVs.z)) ?_
 replace hS:=hS.drop (Rm.s (Rm.s Rm.z))
 exact ⟨_,rfl,le68,hS⟩
def sema_typed_S (q:TSp→TDef→(List (List (List UInt8×TType)))→TExpr→TType→Option Int):Prop:=∀ {μ0:M} {w0 w:World} {rsF:List Res} (hg:Le Gm μ0) {b1:Nat} {prog_2:TSp} {b3 o4:Nat} {a5:Option Addr} {c6 b8:Nat} {def_11:TDef} {b12 o13:Nat} {a14:Option Addr} {c15:Nat} {a17:Option Addr} {c18:Nat} {bloc_21:List (List (List UInt8×TType))} {v22:Value} {ms23:List (Nat×List MapEntry×Nat)} {p_2:TExpr} {b25 o26:Nat} {a27:Option Addr} {c28:Nat} {p_3:TType} {r:Int} (m7:Sl μ0 a5 c6 prog_2.defs) (m9:Mr μ0 b8 prog_2.named) (m10:At μ0 b3 o4 [.slice a5 prog_2.defs.length c6,.map (some b8)]) (m16:Sl μ0 a14 c15 def_11.Params) (m19:Sl μ0 a17 c18 def_11.Body) (m20:At μ0 b12 o13 [.int .i64 def_11.Kind,S def_11.Name,.int .i64 def_11.Typ.Kind,S def_11.Typ.Gen,.int .i64 def_11.Takes.Kind,S def_11.Takes.Gen,.int .i64 def_11.Cap,.slice a14 def_11.Params.length c15,.slice a17 def_11.Body.length c18]) (m24:Ms μ0 ms23 bloc_21) (m29:Sl μ0 a27 c28 p_2.Kids) (m30:At μ0 b25 o26 [.int .i64 p_2.Kind,.int .i64 p_2.N,S p_2.Name,.slice a27 p_2.Kids.length c28]) (h:q prog_2 def_11 bloc_21 p_2 p_3=some r) (hS:Sq μ0 w0 w (.blk b1 144 [.pointer (some ⟨b3,o4,none⟩),.pointer (some ⟨b12,o13,none⟩),v22]::.row v22 141 1 bloc_21.length (cOf ms23)::(mRs ms23++rsF))),CallsV prog 100 [.pointer (some ⟨b1,0,none⟩),.pointer (some ⟨b25,o26,none⟩),.agg ⟨[.int .i64 p_3.Kind,S p_3.Gen]⟩] w (fun v w'=>∃ (μ':M) ,v=.int .i64 r∧Le μ0 μ'∧Sq μ' w0 w' (.blk b1 144 [.pointer (some ⟨b3,o4,none⟩),.pointer (some ⟨b12,o13,none⟩),v22]::.row v22 141 1 bloc_21.length (cOf ms23)::(mRs ms23++rsF)))
def sema_args_S (q:TSp→TDef→(List (List (List UInt8×TType)))→TExpr→Int→Option (Option TDef×Int)):Prop:=∀ {μ0:M} {w0 w:World} {rsF:List Res} (hg:Le Gm μ0) {b1:Nat} {prog_2:TSp} {b3 o4:Nat} {a5:Option Addr} {c6 b8:Nat} {def_11:TDef} {b12 o13:Nat} {a14:Option Addr} {c15:Nat} {a17:Option Addr} {c18:Nat} {bloc_21:List (List (List UInt8×TType))} {v22:Value} {ms23:List (Nat×List MapEntry×Nat)} {p_2:TExpr} {b25 o26:Nat} {a27:Option Addr} {c28:Nat} {p_3:Int} {r:Option TDef×Int} (m7:Sl μ0 a5 c6 prog_2.defs) (m9:Mr μ0 b8 prog_2.named) (m10:At μ0 b3 o4 [.slice a5 prog_2.defs.length c6,.map (some b8)]) (m16:Sl μ0 a14 c15 def_11.Params) (m19:Sl μ0 a17 c18 def_11.Body) (m20:At μ0 b12 o13 [.int .i64 def_11.Kind,S def_11.Name,.int .i64 def_11.Typ.Kind,S def_11.Typ.Gen,.int .i64 def_11.Takes.Kind,S def_11.Takes.Gen,.int .i64 def_11.Cap,.slice a14 def_11.Params.length c15,.slice a17 def_11.Body.length c18]) (m24:Ms μ0 ms23 bloc_21) (m29:Sl μ0 a27 c28 p_2.Kids) (m30:At μ0 b25 o26 [.int .i64 p_2.Kind,.int .i64 p_2.N,S p_2.Name,.slice a27 p_2.Kids.length c28]) (h:q prog_2 def_11 bloc_21 p_2 p_3=some r) (hS:Sq μ0 w0 w (.blk b1 144 [.pointer (some ⟨b3,o4,none⟩),.pointer (some ⟨b12,o13,none⟩),v22]::.row v22 141 1 bloc_21.length (cOf ms23)::(mRs ms23++rsF))),CallsV prog 109 [.pointer (some ⟨b1,0,none⟩),.pointer (some ⟨b25,o26,none⟩),.int .i64 p_3] w (fun v w'=>∃ (μ':M) (v31:Value),v=.tuple ⟨[v31,.int .i64 r.2]⟩∧Le μ0 μ'∧Sq μ' w0 w' (.blk b1 144 [.pointer (some ⟨b3,o4,none⟩),.pointer (some ⟨b12,o13,none⟩),v22]::.row v22 141 1 bloc_21.length (cOf ms23)::(mRs ms23++rsF))∧Np μ' v31 r.1)
def sema_both_S (q:TSp→TDef→(List (List (List UInt8×TType)))→TExpr→Option (TType×Int)):Prop:=∀ {μ0:M} {w0 w:World} {rsF:List Res} (hg:Le Gm μ0) {b1:Nat} {prog_2:TSp} {b3 o4:Nat} {a5:Option Addr} {c6 b8:Nat} {def_11:TDef} {b12 o13:Nat} {a14:Option Addr} {c15:Nat} {a17:Option Addr} {c18:Nat} {bloc_21:List (List (List UInt8×TType))} {v22:Value} {ms23:List (Nat×List MapEntry×Nat)} {p_2:TExpr} {b25 o26:Nat} {a27:Option Addr} {c28:Nat} {r:TType×Int} (m7:Sl μ0 a5 c6 prog_2.defs) (m9:Mr μ0 b8 prog_2.named) (m10:At μ0 b3 o4 [.slice a5 prog_2.defs.length c6,.map (some b8)]) (m16:Sl μ0 a14 c15 def_11.Params) (m19:Sl μ0 a17 c18 def_11.Body) (m20:At μ0 b12 o13 [.int .i64 def_11.Kind,S def_11.Name,.int .i64 def_11.Typ.Kind,S def_11.Typ.Gen,.int .i64 def_11.Takes.Kind,S def_11.Takes.Gen,.int .i64 def_11.Cap,.slice a14 def_11.Params.length c15,.slice a17 def_11.Body.length c18]) (m24:Ms μ0 ms23 bloc_21) (m29:Sl μ0 a27 c28 p_2.Kids) (m30:At μ0 b25 o26 [.int .i64 p_2.Kind,.int .i64 p_2.N,S p_2.Name,.slice a27 p_2.Kids.length c28]) (h:q prog_2 def_11 bloc_21 p_2=some r) (hS:Sq μ0 w0 w (.blk b1 144 [.pointer (some ⟨b3,o4,none⟩),.pointer (some ⟨b12,o13,none⟩),v22]::.row v22 141 1 bloc_21.length (cOf ms23)::(mRs ms23++rsF))),CallsV prog 108 [.pointer (some ⟨b1,0,none⟩),.pointer (some ⟨b25,o26,none⟩)] w (fun v w'=>∃ (μ':M) ,v=.tuple ⟨[.agg ⟨[.int .i64 r.1.Kind,S r.1.Gen]⟩,.int .i64 r.2]⟩∧Le μ0 μ'∧Sq μ' w0 w' (.blk b1 144 [.pointer (some ⟨b3,o4,none⟩),.pointer (some ⟨b12,o13,none⟩),v22]::.row v22 141 1 bloc_21.length (cOf ms23)::(mRs ms23++rsF)))
def sema_handle_S (q:TSp→TDef→(List (List (List UInt8×TType)))→TExpr→Option (Option TDef×Int)):Prop:=∀ {μ0:M} {w0 w:World} {rsF:List Res} (hg:Le Gm μ0) {b1:Nat} {prog_2:TSp} {b3 o4:Nat} {a5:Option Addr} {c6 b8:Nat} {def_11:TDef} {b12 o13:Nat} {a14:Option Addr} {c15:Nat} {a17:Option Addr} {c18:Nat} {bloc_21:List (List (List UInt8×TType))} {v22:Value} {ms23:List (Nat×List MapEntry×Nat)} {p_2:TExpr} {b25 o26:Nat} {a27:Option Addr} {c28:Nat} {r:Option TDef×Int} (m7:Sl μ0 a5 c6 prog_2.defs) (m9:Mr μ0 b8 prog_2.named) (m10:At μ0 b3 o4 [.slice a5 prog_2.defs.length c6,.map (some b8)]) (m16:Sl μ0 a14 c15 def_11.Params) (m19:Sl μ0 a17 c18 def_11.Body) (m20:At μ0 b12 o13 [.int .i64 def_11.Kind,S def_11.Name,.int .i64 def_11.Typ.Kind,S def_11.Typ.Gen,.int .i64 def_11.Takes.Kind,S def_11.Takes.Gen,.int .i64 def_11.Cap,.slice a14 def_11.Params.length c15,.slice a17 def_11.Body.length c18]) (m24:Ms μ0 ms23 bloc_21) (m29:Sl μ0 a27 c28 p_2.Kids) (m30:At μ0 b25 o26 [.int .i64 p_2.Kind,.int .i64 p_2.N,S p_2.Name,.slice a27 p_2.Kids.length c28]) (h:q prog_2 def_11 bloc_21 p_2=some r) (hS:Sq μ0 w0 w (.blk b1 144 [.pointer (some ⟨b3,o4,none⟩),.pointer (some ⟨b12,o13,none⟩),v22]::.row v22 141 1 bloc_21.length (cOf ms23)::(mRs ms23++rsF))),CallsV prog 110 [.pointer (some ⟨b1,0,none⟩),.pointer (some ⟨b25,o26,none⟩)] w (fun v w'=>∃ (μ':M) (v31:Value),v=.tuple ⟨[v31,.int .i64 r.2]⟩∧Le μ0 μ'∧Sq μ' w0 w' (.blk b1 144 [.pointer (some ⟨b3,o4,none⟩),.pointer (some ⟨b12,o13,none⟩),v22]::.row v22 141 1 bloc_21.length (cOf ms23)::(mRs ms23++rsF))∧Np μ' v31 r.1)
def sema_expr_S (q:TSp→TDef→(List (List (List UInt8×TType)))→TExpr→Option (TType×Int)):Prop:=∀ {μ0:M} {w0 w:World} {rsF:List Res} (hg:Le Gm μ0) {b1:Nat} {prog_2:TSp} {b3 o4:Nat} {a5:Option Addr} {c6 b8:Nat} {def_11:TDef} {b12 o13:Nat} {a14:Option Addr} {c15:Nat} {a17:Option Addr} {c18:Nat} {bloc_21:List (List (List UInt8×TType))} {v22:Value} {ms23:List (Nat×List MapEntry×Nat)} {p_2:TExpr} {b25 o26:Nat} {a27:Option Addr} {c28:Nat} {r:TType×Int} (m7:Sl μ0 a5 c6 prog_2.defs) (m9:Mr μ0 b8 prog_2.named) (m10:At μ0 b3 o4 [.slice a5 prog_2.defs.length c6,.map (some b8)]) (m16:Sl μ0 a14 c15 def_11.Params) (m19:Sl μ0 a17 c18 def_11.Body) (m20:At μ0 b12 o13 [.int .i64 def_11.Kind,S def_11.Name,.int .i64 def_11.Typ.Kind,S def_11.Typ.Gen,.int .i64 def_11.Takes.Kind,S def_11.Takes.Gen,.int .i64 def_11.Cap,.slice a14 def_11.Params.length c15,.slice a17 def_11.Body.length c18]) (m24:Ms μ0 ms23 bloc_21) (m29:Sl μ0 a27 c28 p_2.Kids) (m30:At μ0 b25 o26 [.int .i64 p_2.Kind,.int .i64 p_2.N,S p_2.Name,.slice a27 p_2.Kids.length c28]) (h:q prog_2 def_11 bloc_21 p_2=some r) (hS:Sq μ0 w0 w (.blk b1 144 [.pointer (some ⟨b3,o4,none⟩),.pointer (some ⟨b12,o13,none⟩),v22]::.row v22 141 1 bloc_21.length (cOf ms23)::(mRs ms23++rsF))),CallsV prog 98 [.pointer (some ⟨b1,0,none⟩),.pointer (some ⟨b25,o26,none⟩)] w (fun v w'=>∃ (μ':M) ,v=.tuple ⟨[.agg ⟨[.int .i64 r.1.Kind,S r.1.Gen]⟩,.int .i64 r.2]⟩∧Le μ0 μ'∧Sq μ' w0 w' (.blk b1 144 [.pointer (some ⟨b3,o4,none⟩),.pointer (some ⟨b12,o13,none⟩),v22]::.row v22 141 1 bloc_21.length (cOf ms23)::(mRs ms23++rsF)))
structure SemaESound (sf:SemaE):Prop where
  sema_typed:sema_typed_S sf.sema_typed
  sema_args:sema_args_S sf.sema_args
  sema_both:sema_both_S sf.sema_both
  sema_handle:sema_handle_S sf.sema_handle
  sema_expr:sema_expr_S sf.sema_expr
theorem sema_typed_w {self:SemaE} (IH:SemaESound self):sema_typed_S (sema_typed self):=by
 intro μ0 w0 w rsF hg b1 prog_2 b3 o4 a5 c6 b8 def_11 b12 o13 a14 c15 a17 c18 bloc_21 v22 ms23 p_2 b25 o26 a27 c28 p_3 r m7 m9 m10 m16 m19 m20 m24 m29 m30 h hS
 unfold sema_typed at h
 refine enter func100 rfl (frm:=_::_::_::u1 (u20 [])) rfl (nz ?_)
 refine wl (s_box (et d2) rfl hS ?_); clear hS; intro b31 w1 hb32 hS; refine po ?_
 refine st (nx ?_)
 iterate 2 refine st ?_
 obtain ⟨r33,g34,h⟩:=bI h
 replace hS:=(hS.bg Y2).bg Y2
 replace hS:=Sep.mOut (a:=[_,_]) (p:=[_]) (M:=mRs ms23) (R:=rsF) hS
 refine ca (IH.sema_expr hg m7 m9 m10 m16 m19 m20 m24 m29 m30 g34 hS) ?_
 rintro _ w2 ⟨μ1,rfl,le35,hS⟩
 replace hS:=Sep.mOut (a:=[_,_]) (p:=mRs ms23) (M:=[_]) (R:=rsF) hS
 refine po ?_
 iterate 3 refine st ?_
 refine wl (s_alloc ti55 hS ?_); clear hS; intro b36 w3 hb37 hS; refine po ?_
 refine wl (s_storeA ti55 (et d7) (et (k10 d3)) rfl rfl hS d0 rfl p0 dn ?_)
 clear hS; intro w4 hS
 refine st (ny (cseq ?_))
 refine ccutE (rg 15 7) (by decide) (fun m w=>∃ μx b38,m=(yK10 (yK5 (yO7 15 (.i (.bool b38)::[]))))∧sema_typed_j1 r33 b38=some r∧Le μ1 μx∧Sq μx w0 w (.blk b1 144 [.pointer (some ⟨b3,o4,none⟩),.pointer (some ⟨b12,o13,none⟩),v22]::.row v22 141 1 bloc_21.length (cOf ms23)::(mRs ms23++rsF))) (by rintro _ _ ⟨_,_,rfl,_⟩; rfl) ?_ ?_
 refine cdw hS ?_; clear hS; intro w5 hS
 refine sf_start (fpi 0 [0,1,2,3,4,5,6,7] rfl (fpi 1 [1,2,3,4,5,6,7] rfl (fpi 2 [2,3,4,5,6,7] rfl ?_)))
 refine zFd 17 h ?_ ?_
 intro h39 h
 refine fr_Y 3 [3,6,7] rfl rfl (k10 d7) (u_loads ti55 (et d7) (hS.blk d0).cells rfl) (q10 p8) (fr_Y 4 [4,5,6,7] rfl rfl (k10 d7) (u_loads ti55 (et d5) (hS.blk d3).cells rfl) (q10 p9) ?_)
 obtain ⟨r40,g41,h⟩:=bI h
 refine sf1 rfl rfl rfl rfl (wanted_t rfl rfl (k10 d7)) (s_callv isfn58 ef (e1 (et (k10 d9)) e0) (sema_bare_w (hg.t le35) g41 hS) ?_)
 rintro _ w6 ⟨μ2,rfl,le42,hS⟩
 refine po ?_
 refine ⟨(Mons.s (u_loads ti55 (et d7) (hS.blk d0).cells rfl) Mons.z),?_⟩
 refine fpY 6 [6,7] rfl rfl (k10 d7) (u_nea (ES.mk underlying55 eh55 eg55) (et (k10 d8)) (et (k20 d0)) (EqFs.o rfl rfl rfl ti3 d0 d0 (eq_int underlying3) (EqFs.o rfl rfl rfl ti9 d1 d1 (eq_str underlying9) EqFs.z)) rfl) (q20 p1) (fpi 7 [7] rfl (sf_nil (xl ?_)))
 replace hS:=(hS.drop Rm.z).drop (Rm.s (Rm.s Rm.z))
 exact ⟨_,_,rfl,(aK10 (aK5 (aO7 (aI aZ)))),_,(!(andL [(decide (r33.1.Kind=r40.Kind)),(decide (r33.1.Gen=r40.Gen))])),rfl,h,le42,hS⟩
 intro h39 h
 refine fpN 3 [3,6,7] rfl rfl (k10 d7) rfl (q10 p8) (fpN 4 [4,5,6,7] rfl rfl (k10 d7) rfl (q10 p9) (fpN 5 [5,6,7] rfl rfl (k10 d7) rfl (q20 p0) (fpN 6 [6,7] rfl rfl (k10 d7) rfl (q20 p1) (fpi 7 [7] rfl (sf_nil (xl ?_))))))
 replace hS:=(hS.drop Rm.z).drop (Rm.s (Rm.s Rm.z))
 exact ⟨_,_,rfl,(aK10 (aK5 (aO7 (aI aZ)))),_,false,rfl,h,Le.r,hS⟩
 rintro _ t w7 ⟨μ3,b38,rfl,h,le43,hS⟩
 unfold sema_typed_j1 at h
 refine nrm (mK10 (mK5 (mO7 (mi mz)))) (xn ?_)
 refine ccutE ([]) (by decide) (fun m w=>∃ μx i44,m=(yK8 (.i (.int .i64 i44)::[]))∧sema_typed_j2 i44=some r∧Le μ3 μx∧Sq μx w0 w (.blk b1 144 [.pointer (some ⟨b3,o4,none⟩),.pointer (some ⟨b12,o13,none⟩),v22]::.row v22 141 1 bloc_21.length (cOf ms23)::(mRs ms23++rsF))) (by rintro _ _ ⟨_,_,rfl,_⟩; rfl) ?_ ?_
 refine zCb h ?_ ?_
 intro h45 h
 refine creg (st (wnil (xl ?_)))
 exact ⟨_,_,rfl,(aK8 (aI aZ)),_,9,rfl,h,Le.r,hS⟩
 intro h45 h
 refine cskip (xl ?_)
 exact ⟨_,_,rfl,(aK8 (aI aZ)),_,r33.2,rfl,h,Le.r,hS⟩
 rintro _ t w8 ⟨μ4,i44,rfl,h,le46,hS⟩
 unfold sema_typed_j2 at h
 refine nrm (mK8 (mi mz)) (xn (nz ?_))
 iterate 2 refine st ?_
 refine nw (cret ?_)
 obtain rfl:=oI h
 refine ret1 rfl d6 ?_
 replace hS:Sq μ4 w0 _ (.blk b1 144 [.pointer (some ⟨b3,o4,none⟩),.pointer (some ⟨b12,o13,none⟩),v22]::.row v22 141 1 bloc_21.length (cOf ms23)::(mRs ms23++rsF)):=hS
 exact ⟨_,rfl,(le35.t (le43.t le46)),hS⟩
theorem sema_args_w {self:SemaE} (IH:SemaESound self):sema_args_S (sema_args self):=by
 intro μ0 w0 w rsF hg b1 prog_2 b3 o4 a5 c6 b8 def_11 b12 o13 a14 c15 a17 c18 bloc_21 v22 ms23 p_2 b25 o26 a27 c28 p_3 r m7 m9 m10 m16 m19 m20 m24 m29 m30 h hS
 unfold sema_args at h
 refine enter func109 rfl (frm:=_::_::_::u1 (u2 (u10 (u50 [])))) rfl (nz ?_)
 iterate 2 refine st ?_
 refine ny ?_
 refine cdw hS ?_; clear hS; intro w1 hS
 refine sf_start (fpi 0 [0,1,2,3,9,10,11,12,13,14] rfl (fpi 1 [1,2,3,9,10,11,12,13,14] rfl (fpi 2 [2,3,9,10,11,12,13,14] rfl (fr_ 3 [3,9,10,11,12,13,14] rfl (u_load ti50 (et (k10 d6)) ((hS.blk d0).cell d0)) (q10 p7) (fpi 4 [4,9,10,11,12,13,14] rfl (fpi 5 [5,6,7,8,9,10,11,12,13,14] rfl (fpi 6 [6,7,8,9,10,11,12,13,14] rfl (fpi 7 [7,8,9,10,11,12,13,14] rfl (fr_ 8 [8,9,10,11,12,13,14] rfl (u_load ti9 (et (k20 d1)) ((m30 _ hS.a).one d2)) (q20 p2) ?_)))))))))
 obtain ⟨r33,g34,h⟩:=bI h
 refine sf1 rfl rfl rfl rfl (wn0 rfl) (s_callv isfn77 ef (e1 (et (k10 d7)) (e1 (et (k10 d8)) (e1 (et (k20 d2)) e0))) (sema_find_w hg m7 m9 m10 g34 hS) ?_)
 rintro _ w2 ⟨μ1,v36,rfl,le35,hS,m37⟩
 refine po ?_
 refine ⟨Mons.z,?_⟩
 refine fpi 10 [10,11,12,13,14] rfl (fpi 11 [11,13,14] rfl (fpi 12 [12,14] rfl (fpi 13 [13,14] rfl (fpi 14 [14] rfl (sf_nil (xn (cseq (cblock (nz ?_)))))))))
 iterate 3 refine st ?_
 refine nw ?_
 refine zCe h ?_ ?_
 intro h38 h
 refine nz ?_
 iterate 2 refine st ?_
 refine nw (cret ?_)
 refine (fun h=>br (xr h)) ?_
 obtain rfl:=oI h
 refine ret2 rfl d6 d7 ?_
 replace hS:Sq μ1 w0 _ (.blk b1 144 [.pointer (some ⟨b3,o4,none⟩),.pointer (some ⟨b12,o13,none⟩),v22]::.row v22 141 1 bloc_21.length (cOf ms23)::(mRs ms23++rsF)):=hS
 exact ⟨_,(.pointer none),rfl,le35,hS,rfl⟩
 intro h38 h
 refine cseq ?_
 refine ccutE (rg 30 11) (by decide) (fun m w=>∃ μx b49,m=(yK20 (yK9 (.i (.bool b49)::(yO10 30 (yO1 40 [])))))∧sema_args_j1 self p_2 prog_2 def_11 bloc_21 r33 b49=some r∧Le μ1 μx∧Sq μx w0 w (.blk b1 144 [.pointer (some ⟨b3,o4,none⟩),.pointer (some ⟨b12,o13,none⟩),v22]::.row v22 141 1 bloc_21.length (cOf ms23)::(mRs ms23++rsF))) (by rintro _ _ ⟨_,_,rfl,_⟩; rfl) ?_ ?_
 refine cdw hS ?_; clear hS; intro w3 hS
 refine sf_start (fpi 0 [0,1,2,3,4,10,11] rfl ?_)
 obtain ⟨x50,g51,h⟩:=bI h
 obtain ⟨b52,o53,cs54,rfl,f55,m56⟩:=Np.get m37 g51
 obtain ⟨a57,c58,a60,c61,rfl,m59,m62⟩:=m56
 refine fpi 1 [1,2,3,4,10,11] rfl (fpi 2 [2,3,4,10,11] rfl (fr_ 3 [3,4,10,11] rfl (u_load ti56 (et (k30 d2)) ((f55 _ hS.a).one d7)) (q30 p3) (fp 4 [4,10,11] rfl (u_lensl underlying56 (et (k30 d3))) (q30 p4) (fpi 5 [5,6,7,8,9,10,11] rfl (fpi 6 [6,7,8,9,10,11] rfl (fpi 7 [7,8,9,10,11] rfl (fr_ 8 [8,9,10,11] rfl (u_load ti117 (et (k30 d7)) ((m30 _ (le35 _ hS.a)).one d3)) (q30 p8) (fp 9 [9,10,11] rfl (u_lensl underlying117 (et (k30 d8))) (q30 p9) (fpi 10 [10,11] rfl (fpi 11 [11] rfl (sf_nil (xl ?_))))))))))))
 exact ⟨_,_,rfl,(aK20 (aK9 (aI (aO10 (aO1 aZ))))),_,(decide ((x50.Params.length:Int)≠(p_2.Kids.length:Int))),rfl,h,Le.r,hS⟩
 rintro _ t w4 ⟨μ2,b49,rfl,h,le63,hS⟩
 unfold sema_args_j1 at h
 refine nrm (mK20 (mK9 (mi (mO10 (mO1 mz))))) (xn ?_)
 refine zCb h ?_ ?_
 intro h64 h
 refine nz ?_
 iterate 2 refine st ?_
 refine nw (cret ?_)
 refine (fun h=>br (xr h)) ?_
 obtain rfl:=oI h
 refine ret2 rfl d6 d7 ?_
 replace hS:Sq μ2 w0 _ (.blk b1 144 [.pointer (some ⟨b3,o4,none⟩),.pointer (some ⟨b12,o13,none⟩),v22]::.row v22 141 1 bloc_21.length (cOf ms23)::(mRs ms23++rsF)):=hS
 exact ⟨_,(.pointer none),rfl,(le35.t le63),hS,rfl⟩
 intro h64 h
 refine cskip ?_
 refine (fun h=>bn (xn h)) ?_
 refine cseq (nz (st ?_))
 obtain ⟨x65,g66,h⟩:=bI h
 obtain ⟨b67,o68,cs69,rfl,f70,m71⟩:=Np.get (m37.up le63) g66
 obtain ⟨a72,c73,a75,c76,rfl,m74,m77⟩:=m71
 iterate 2 refine st ?_
 refine ld ((f70 _ hS.a).one d7) (wl (su (u_lensl underlying56 (et (k40 d4))) (dt (q40 p5)) (st (nw (cblock ?_)))))
 refine cloopE (rg 6 2++rg 10 3++rg 47 18) (by decide +kernel) (fun n m w=>∃ μx i104,m=(yK6 (yO2 6 (yK2 (yO3 10 (yK20 (yK10 (yK3 (.i (.int .i64 i104)::(yO10 47 (yO8 57 []))))))))))∧sema_args_l1 self p_2 prog_2 def_11 bloc_21 r33 x65 n i104=some r∧Le μ2 μx∧Sq μx w0 w (.blk b1 144 [.pointer (some ⟨b3,o4,none⟩),.pointer (some ⟨b12,o13,none⟩),v22]::.row v22 141 1 bloc_21.length (cOf ms23)::(mRs ms23++rsF))) (by rintro _ _ _ ⟨_,_,rfl,_⟩; rfl) _ _ (aK6 (aO2 (aK2 (aO3 (aK20 (aK10 (aK3 (aI (aO10 (aO8 aZ)))))))))) ⟨_,0,rfl,h,Le.r,hS⟩ ?_
 rintro n_1 _ t w5 ⟨μ3,i104,rfl,h,le131,hS⟩
 rcases n_1 with _|n_1
 cases h
 unfold sema_args_l1 at h
 refine cnrm (mK6 (mO2 (mK2 (mO3 (mK20 (mK10 (mK3 (mi (mO10 (mO8 mz)))))))))) (nz (st (ny ?_)))
 refine zCd h ?_ ?_
 intro h132 h
 refine cskip (xn (cseq (cblock (nz (st ?_)))))
 obtain ⟨x133,g134,h⟩:=bI h
 obtain ⟨b135,o136,cs137,e138,f139,m140⟩:=SlR.elem (m74.up le131) g134
 obtain rfl:=m140
 refine wl (su (u_iax underlying56 ti107 (et (k40 d4)) (et (k40 d6)) e138) (dt (q40 p9)) (lds (f139 _ hS.a) rfl ?_))
 refine wl (s_alloc ti107 hS ?_); clear hS; intro b141 w6 hb142 hS; refine po ?_
 refine st (wl (s_storeA ti107 (et (k10 d1)) (et (k50 d0)) rfl rfl hS d0 rfl p0 dn ?_))
 clear hS; intro w7 hS
 refine ny ?_
 refine cdw hS ?_; clear hS; intro w8 hS
 refine sf_start (fpi 0 [0,9,10] rfl (fpi 1 [1,2,3,4,6,9,10] rfl (fpi 2 [2,3,4,6,9,10] rfl (fpi 3 [3,4,6,9,10] rfl (fr_ 4 [4,6,9,10] rfl (u_load ti117 (et (k50 d4)) ((m30 _ ((le35.t (le63.t le131)) _ hS.a)).one d3)) (q50 p5) (fpi 5 [5,6,9,10] rfl ?_))))))
 obtain ⟨x143,g144,h⟩:=bI h
 obtain ⟨b145,o146,cs147,e148,f149,m150⟩:=SlR.elem (m29.up (le35.t (le63.t le131))) g144
 obtain ⟨a151,c152,rfl,m153⟩:=TExpr.o m150
 refine fp 6 [6,9,10] rfl (u_iax underlying117 ti119 (et (k50 d5)) (et (k50 d6)) e148) (q50 p7) (fpi 7 [7,8,9,10] rfl (fr_ 8 [8,9,10] rfl (u_loads ti55 (et (k50 d8)) ((hS.blk d0).cellsAt (Sb.s d1 (Sb.s d2 Sb.z))) rfl) (q50 p9) ?_))
 obtain ⟨r154,g155,h⟩:=bI h
 replace hS:=(hS.bg Y2).bg Y2
 replace hS:=Sep.mOut (a:=[_,_]) (p:=[_]) (M:=mRs ms23) (R:=rsF) hS
 refine sf1 rfl rfl rfl rfl (wn0 rfl) (s_callv isfn100 ef (e1 (et (k50 d1)) (e1 (et (k50 d7)) (e1 (et (k50 d9)) e0))) (IH.sema_typed (hg.t (le35.t (le63.t le131))) (m7.up (le35.t (le63.t le131))) (m9.up (le35.t (le63.t le131))) (m10.up (le35.t (le63.t le131))) (m16.up (le35.t (le63.t le131))) (m19.up (le35.t (le63.t le131))) (m20.up (le35.t (le63.t le131))) (m24.up (le35.t (le63.t le131))) m153 f149 g155 hS) ?_)
 rintro _ w9 ⟨μ4,rfl,le156,hS⟩
 replace hS:=Sep.mOut (a:=[_,_]) (p:=mRs ms23) (M:=[_]) (R:=rsF) hS
 refine po ?_
 refine ⟨Mons.z,?_⟩
 refine fpi 10 [10] rfl (sf_nil (xn (nz ?_)))
 iterate 2 refine st ?_
 refine nw ?_
 refine zCd h ?_ ?_
 intro h157 h
 refine nz ?_
 iterate 3 refine st ?_
 refine nw (cret ?_)
 refine (fun h=>br (xr (xr (br (xr h))))) ?_
 obtain rfl:=oI h
 refine ret2 rfl d6 d7 ?_
 replace hS:=hS.drop (Rm.s (Rm.s Rm.z))
 exact ⟨_,(.pointer none),rfl,(le35.t (le63.t (le131.t le156))),hS,rfl⟩
 intro h157 h
 refine cskip ?_
 refine (fun h=>bn (xn h)) ?_
 refine creg ?_
 obtain ⟨i158,g159,h⟩:=bI h
 refine wl (su (u_addc (et (k40 d6)) ec g159) (dt (q60 p4)) (st (wnil (xl ?_))))
 replace hS:=hS.drop (Rm.s (Rm.s Rm.z))
 exact ⟨n_1,_,_,rfl,(aK6 (aO2 (aK2 (aO3 (aK20 (aK10 (aK3 (aI (aO10 (aO8 aZ)))))))))),⟨_,i158,rfl,h,(le131.t le156),hS⟩,Nat.lt_succ_self _⟩
 intro h132 h
 refine cexit ?_
 refine (fun h=>xe (xe (bh h))) ?_
 refine xn (nz ?_)
 iterate 3 refine st ?_
 refine nw (cret ?_)
 obtain rfl:=oI h
 refine ret2 rfl d6 d7 ?_
 replace hS:Sq μ3 w0 _ (.blk b1 144 [.pointer (some ⟨b3,o4,none⟩),.pointer (some ⟨b12,o13,none⟩),v22]::.row v22 141 1 bloc_21.length (cOf ms23)::(mRs ms23++rsF)):=hS
 exact ⟨_,(.pointer (some ⟨b67,o68,none⟩)),rfl,(le35.t (le63.t le131)),hS,(m37.up (le63.t le131))⟩
theorem sema_both_w {self:SemaE} (IH:SemaESound self):sema_both_S (sema_both self):=by
 intro μ0 w0 w rsF hg b1 prog_2 b3 o4 a5 c6 b8 def_11 b12 o13 a14 c15 a17 c18 bloc_21 v22 ms23 p_2 b25 o26 a27 c28 r m7 m9 m10 m16 m19 m20 m24 m29 m30 h hS
 unfold sema_both at h
 refine enter func108 rfl (frm:=_::_::u5 (u20 (u20 []))) rfl (nz ?_)
 refine wl (s_alloc ti55 hS ?_); clear hS; intro b31 w1 hb32 hS; refine po ?_
 refine st (nx ?_)
 iterate 4 refine st ?_
 refine ld ((m30 _ hS.a).one d3) ?_
 obtain ⟨x33,g34,h⟩:=bI h
 obtain ⟨b35,o36,cs37,e38,f39,m40⟩:=SlR.elem m29 g34
 obtain ⟨a41,c42,rfl,m43⟩:=TExpr.o m40
 refine wl (su (u_iax underlying117 ti119 (et (k10 d4)) ec e38) (dt (q10 p5)) ?_)
 obtain ⟨r44,g45,h⟩:=bI h
 replace hS:=(hS.bg Y2).bg Y2
 replace hS:=Sep.mOut (a:=[_,_]) (p:=[_]) (M:=mRs ms23) (R:=rsF) hS
 refine ca (IH.sema_expr hg m7 m9 m10 m16 m19 m20 m24 m43 f39 g45 hS) ?_
 rintro _ w2 ⟨μ1,rfl,le46,hS⟩
 replace hS:=Sep.mOut (a:=[_,_]) (p:=mRs ms23) (M:=[_]) (R:=rsF) hS
 refine po ?_
 iterate 3 refine st ?_
 refine wl (s_alloc ti55 hS ?_); clear hS; intro b47 w3 hb48 hS; refine po ?_
 refine wl (s_storeA ti55 (et d6) (et (k10 d7)) rfl rfl hS d0 rfl p0 dn ?_)
 clear hS; intro w4 hS
 refine st (ny (nz ?_))
 iterate 2 refine st ?_
 refine nw ?_
 refine zCd h ?_ ?_
 intro h49 h
 refine nz (lds (hS.blk d0).cells rfl (st (wl (s_storeA ti55 (et d4) (et (k20 d1)) rfl rfl hS d3 rfl p3 dn ?_))))
 clear hS; intro w5 hS
 refine st (nw (cret (xr ?_)))
 obtain rfl:=oI h
 refine retN rfl (RVs.s (.a d4 ti55 (hS.blk d3).cells rfl) (RVs.s (.t d5) RVs.z)) ?_
 replace hS:=(hS.drop Rm.z).drop (Rm.s (Rm.s Rm.z))
 exact ⟨_,rfl,le46,hS⟩
 intro h49 h
 refine cskip (xn (nz ?_))
 iterate 4 refine st ?_
 refine ld ((m30 _ (le46 _ hS.a)).one d3) ?_
 obtain ⟨x50,g51,h⟩:=bI h
 obtain ⟨b52,o53,cs54,e55,f56,m57⟩:=SlR.elem (m29.up le46) g51
 obtain ⟨a58,c59,rfl,m60⟩:=TExpr.o m57
 refine wl (su (u_iax underlying117 ti119 (et (k20 d8)) ec e55) (dt (q20 p9)) ?_)
 obtain ⟨r61,g62,h⟩:=bI h
 replace hS:=(hS.bg Y2).bg Y2
 replace hS:=Sep.mOut (a:=[_,_]) (p:=[_,_]) (M:=mRs ms23) (R:=rsF) hS
 refine ca (IH.sema_expr (hg.t le46) (m7.up le46) (m9.up le46) (m10.up le46) (m16.up le46) (m19.up le46) (m20.up le46) (m24.up le46) m60 f56 g62 hS) ?_
 rintro _ w6 ⟨μ2,rfl,le63,hS⟩
 replace hS:=Sep.mOut (a:=[_,_]) (p:=mRs ms23) (M:=[_,_]) (R:=rsF) hS
 refine po ?_
 iterate 3 refine st ?_
 refine wl (s_alloc ti55 hS ?_); clear hS; intro b64 w7 hb65 hS; refine po ?_
 refine wl (s_storeA ti55 (et d8) (et (k30 d1)) rfl rfl hS d0 rfl p0 dn ?_)
 clear hS; intro w8 hS
 refine st (ny (cseq ?_))
 refine ccutE (rg 33 11) (by decide) (fun m w=>∃ μx b66,m=(yK20 (yK10 (yK3 (yO10 33 (yO1 43 (.i (.bool b66)::[]))))))∧sema_both_j1 r44 r61 b66=some r∧Le μ2 μx∧Sq μx w0 w (.blk b1 144 [.pointer (some ⟨b3,o4,none⟩),.pointer (some ⟨b12,o13,none⟩),v22]::.row v22 141 1 bloc_21.length (cOf ms23)::.blk b31 55 [.int .i64 0,S []]::.blk b47 55 [.int .i64 r44.1.Kind,S r44.1.Gen]::(mRs ms23++rsF))) (by rintro _ _ ⟨_,_,rfl,_⟩; rfl) ?_ ?_
 refine creg ?_
 iterate 3 refine st ?_
 refine zWd 35 h ?_ ?_
 intro h67 h
 refine wy rfl (k30 d5) (s_loads ti55 (et d6) (hS.blk d3).cells rfl (dt (q30 p6)) (wy rfl (k30 d5) (s_loads ti55 (et d8) (hS.blk d0).cells rfl (dt (q30 p7)) (wy rfl (k30 d5) (s_nea (ES.mk underlying55 eh55 eg55) (et (k30 d6)) (et (k30 d7)) (EqFs.o rfl rfl rfl ti3 d0 d0 (eq_int underlying3) (EqFs.o rfl rfl rfl ti9 d1 d1 (eq_str underlying9) EqFs.z)) rfl (dt (q30 p8)) (sy rfl ?_))))))
 refine zWe 39 h ?_ ?_
 intro h68 h
 refine sn rfl rfl (sn rfl rfl (sn rfl rfl (sy rfl (st (wnil (xl ?_))))))
 replace hS:=((((hS.drop Rm.z).bg Y2).bg Y3).bg Y3).bg Y3
 exact ⟨_,_,rfl,(aK20 (aK10 (aK3 (aO10 (aO1 (aI aZ)))))),_,true,rfl,h,Le.r,hS⟩
 intro h68 h
 refine wy rfl (k30 d9) (s_loads ti55 (et d6) (hS.blk d3).cells rfl (dt (q40 p0)) ?_)
 obtain ⟨r69,g70,h⟩:=bI h
 refine wy rfl (k30 d9) (s_callv isfn57 ef (e1 (et (k40 d0)) e0) (sema_plain_w (hg.t (le46.t le63)) g70 hS) ?_)
 rintro _ w9 ⟨μ3,rfl,le71,hS⟩
 refine po (sy rfl (sy rfl (st (wnil (xl ?_)))))
 replace hS:=((((hS.drop Rm.z).bg Y2).bg Y3).bg Y3).bg Y3
 exact ⟨_,_,rfl,(aK20 (aK10 (aK3 (aO10 (aO1 (aI aZ)))))),_,(!r69),rfl,h,le71,hS⟩
 intro h67 h
 refine sn rfl rfl (sn rfl rfl (sn rfl rfl (sn rfl rfl (wu rfl (k30 d9) (dt (q40 p0)) (wu rfl (k30 d9) (dt (q40 p1)) (wu rfl (k30 d9) (dt (q40 p2)) (sn rfl rfl (st (wnil (xl ?_))))))))))
 replace hS:=((((hS.drop Rm.z).bg Y2).bg Y3).bg Y3).bg Y3
 exact ⟨_,_,rfl,(aK20 (aK10 (aK3 (aO10 (aO1 (aI aZ)))))),_,false,rfl,h,Le.r,hS⟩
 rintro _ t w10 ⟨μ4,b66,rfl,h,le72,hS⟩
 unfold sema_both_j1 at h
 refine nrm (mK20 (mK10 (mK3 (mO10 (mO1 (mi mz)))))) (xn ?_)
 refine ccutE ([]) (by decide) (fun m w=>∃ μx i73,m=(yK7 (.i (.int .i64 i73)::[]))∧sema_both_j2 r44 i73=some r∧Le μ4 μx∧Sq μx w0 w (.blk b1 144 [.pointer (some ⟨b3,o4,none⟩),.pointer (some ⟨b12,o13,none⟩),v22]::.row v22 141 1 bloc_21.length (cOf ms23)::.blk b31 55 [.int .i64 0,S []]::.blk b47 55 [.int .i64 r44.1.Kind,S r44.1.Gen]::(mRs ms23++rsF))) (by rintro _ _ ⟨_,_,rfl,_⟩; rfl) ?_ ?_
 refine zCb h ?_ ?_
 intro h74 h
 refine creg (st (wnil (xl ?_)))
 exact ⟨_,_,rfl,(aK7 (aI aZ)),_,9,rfl,h,Le.r,hS⟩
 intro h74 h
 refine cskip (xl ?_)
 exact ⟨_,_,rfl,(aK7 (aI aZ)),_,r61.2,rfl,h,Le.r,hS⟩
 rintro _ t w11 ⟨μ5,i73,rfl,h,le75,hS⟩
 unfold sema_both_j2 at h
 refine nrm (mK7 (mi mz)) (xn (nz (lds (hS.blk d3).cells rfl (st (wl (s_storeA ti55 (et d4) (et (k40 d5)) rfl rfl hS d2 rfl p2 dn ?_))))))
 clear hS; intro w12 hS
 refine st (nw (cret ?_))
 obtain rfl:=oI h
 refine retN rfl (RVs.s (.a d4 ti55 (hS.blk d2).cells rfl) (RVs.s (.t d5) RVs.z)) ?_
 replace hS:=(hS.drop (Rm.s (Rm.s Rm.z))).drop (Rm.s (Rm.s Rm.z))
 exact ⟨_,rfl,(le46.t (le63.t (le72.t le75))),hS⟩
theorem sema_handle_w {self:SemaE} (IH:SemaESound self):sema_handle_S (sema_handle self):=by
 intro μ0 w0 w rsF hg b1 prog_2 b3 o4 a5 c6 b8 def_11 b12 o13 a14 c15 a17 c18 bloc_21 v22 ms23 p_2 b25 o26 a27 c28 r m7 m9 m10 m16 m19 m20 m24 m29 m30 h hS
 unfold sema_handle at h
 refine enter func110 rfl (frm:=_::_::u2 (u5 (u20 []))) rfl (nz ?_)
 iterate 2 refine st ?_
 refine nx ?_
 iterate 2 refine st ?_
 obtain ⟨r33,g34,h⟩:=bI h
 replace hS:=(hS.bg Y1).bg Y1
 refine ca (IH.sema_expr hg m7 m9 m10 m16 m19 m20 m24 m29 m30 g34 hS) ?_
 rintro _ w1 ⟨μ1,rfl,le35,hS⟩
 refine po ?_
 iterate 3 refine st ?_
 refine wl (s_alloc ti55 hS ?_); clear hS; intro b36 w2 hb37 hS; refine po ?_
 refine wl (s_storeA ti55 (et d6) (et (k10 d2)) rfl rfl hS d0 rfl p0 dn ?_)
 clear hS; intro w3 hS
 refine st (ny (nz ?_))
 iterate 2 refine st ?_
 refine nw ?_
 refine zCd h ?_ ?_
 intro h38 h
 refine nz ?_
 iterate 3 refine st ?_
 refine nw (cret (xr ?_))
 obtain rfl:=oI h
 refine ret2 rfl d4 d5 ?_
 replace hS:=hS.drop Rm.z
 exact ⟨_,(.pointer none),rfl,le35,hS,rfl⟩
 intro h38 h
 refine cskip (xn (cseq (nz (lds (hS.blk d0).cells rfl ?_))))
 obtain ⟨r39,g40,h⟩:=bI h
 refine ca (sema_plain_w (hg.t le35) g40 hS) ?_
 rintro _ w4 ⟨μ2,rfl,le41,hS⟩
 refine po (nw ?_)
 refine zCb h ?_ ?_
 intro h42 h
 refine nz ?_
 iterate 2 refine st ?_
 refine nw (cret (xr ?_))
 obtain rfl:=oI h
 refine ret2 rfl d4 d5 ?_
 replace hS:=hS.drop Rm.z
 exact ⟨_,(.pointer none),rfl,(le35.t le41),hS,rfl⟩
 intro h42 h
 refine cskip (xn (cseq ?_))
 refine cdw hS ?_; clear hS; intro w5 hS
 refine sf_start (fpi 0 [0,1,2,3,4,5,6,9,10,11] rfl (fpi 1 [1,2,3,4,5,6,9,10,11] rfl (fpi 2 [2,3,4,5,6,9,10,11] rfl (fr_ 3 [3,4,5,6,9,10,11] rfl (u_load ti50 (et (k20 d1)) ((hS.blk d1).cell d0)) (q20 p2) (fpi 4 [4,5,6,9,10,11] rfl (fpi 5 [5,6,9,10,11] rfl (fr_ 6 [6,9,10,11] rfl (u_load ti79 (et (k20 d4)) ((m10 _ ((le35.t le41) _ hS.a)).one d1)) (q20 p5) (fpi 7 [7,8,9,10,11] rfl (fr_ 8 [8,9,10,11] rfl (u_load ti9 (et (k20 d6)) ((hS.blk d0).cell d1)) (q20 p7) ?_)))))))))
 obtain ⟨es43,c44,hb45,hq46⟩:=(m9.up (le35.t le41))
 refine sf1 rfl rfl rfl rfl (wn0 rfl) (s_mgetP1 (κ:=List UInt8) (k:=r33.1.Gen) (hrv:=fun _ _ h=>h) underlying79 underlying9 (et (k20 d5)) (et (k20 d7)) zv63 (hb45 _ hS.a) hq46 ?_); intro v47 hv48; refine po ?_
 refine ⟨Mons.z,?_⟩
 refine fpi 10 [10,11] rfl (fpi 11 [11] rfl (sf_nil (xn (cret ?_))))
 obtain rfl:=oI h
 refine ret2 rfl d4 d5 ?_
 replace hS:=hS.drop Rm.z
 exact ⟨_,_,rfl,(le35.t le41),hS,hv48⟩
theorem sema_expr_w {fu:Nat} {self:SemaE} (IH:SemaESound self):sema_expr_S (sema_expr fu self):=by
 intro μ0 w0 w rsF hg b1 prog_2 b3 o4 a5 c6 b8 def_11 b12 o13 a14 c15 a17 c18 bloc_21 v22 ms23 p_2 b25 o26 a27 c28 r m7 m9 m10 m16 m19 m20 m24 m29 m30 h hS
 unfold sema_expr at h
 refine enter func98 rfl (frm:=_::_::u1 (u50 (u50 (u50 (u50 (u50 [])))))) rfl (nz ?_)
 refine wl (s_alloc ti55 hS ?_); clear hS; intro b31 w1 hb32 hS; refine po ?_
 refine st (ny (nz ?_))
 iterate 3 refine st ?_
 refine ld ((m30 _ hS.a).one d0) (nw (cblock (nz ?_)))
 iterate 2 refine st ?_
 refine nw ?_
 refine zCd h ?_ ?_
 intro h33 h
 refine nz ?_
 obtain ⟨r34,g35,h⟩:=bI h
 refine ca (sema_num_w hg g35 hS) ?_
 rintro _ w2 ⟨μ1,rfl,le36,hS⟩
 refine po (wl (s_storeA ti55 (et d4) (et (k30 d0)) rfl rfl hS d0 rfl p0 dn ?_))
 clear hS; intro w3 hS
 refine st (nw (cret ?_))
 refine (fun h=>br (xr h)) ?_
 obtain rfl:=oI h
 refine retN rfl (RVs.s (.a d4 ti55 (hS.blk d0).cells rfl) (RVs.s (.t d5) RVs.z)) ?_
 replace hS:=hS.drop Rm.z
 exact ⟨_,rfl,le36,hS⟩
 intro h33 h
 refine nz ?_
 iterate 2 refine st ?_
 refine nw ?_
 refine zCd h ?_ ?_
 intro h37 h
 refine nz ?_
 obtain ⟨r38,g39,h⟩:=bI h
 refine ca (sema_boolean_w hg g39 hS) ?_
 rintro _ w4 ⟨μ2,rfl,le40,hS⟩
 refine po (wl (s_storeA ti55 (et d4) (et (k30 d3)) rfl rfl hS d0 rfl p0 dn ?_))
 clear hS; intro w5 hS
 refine st (nw (cret ?_))
 refine (fun h=>br (xr h)) ?_
 obtain rfl:=oI h
 refine retN rfl (RVs.s (.a d4 ti55 (hS.blk d0).cells rfl) (RVs.s (.t d5) RVs.z)) ?_
 replace hS:=hS.drop Rm.z
 exact ⟨_,rfl,le40,hS⟩
 intro h37 h
 refine nz ?_
 iterate 2 refine st ?_
 refine nw ?_
 refine zCd h ?_ ?_
 intro h41 h
 refine cseq (nz ?_)
 iterate 4 refine st ?_
 refine ld ((m30 _ hS.a).one d2) ?_
 obtain ⟨r42,g43,h⟩:=bI h
 replace hS:=(hS.bg Y2).bg Y2
 replace hS:=Sep.mOut (a:=[_,_]) (p:=[_]) (M:=mRs ms23) (R:=rsF) hS
 refine ca (sema_look_w hg m7 m9 m10 m16 m19 m20 m24 g43 hS) ?_
 rintro _ w6 ⟨μ3,rfl,le44,hS⟩
 replace hS:=Sep.mOut (a:=[_,_]) (p:=mRs ms23) (M:=[_]) (R:=rsF) hS
 refine po ?_
 iterate 3 refine st ?_
 refine wl (s_alloc ti55 hS ?_); clear hS; intro b45 w7 hb46 hS; refine po ?_
 refine wl (s_storeA ti55 (et d6) (et (k40 d3)) rfl rfl hS d0 rfl p0 dn ?_)
 clear hS; intro w8 hS
 refine st (nx (st (nw ?_)))
 refine zCb h ?_ ?_
 intro h47 h
 refine nz (lds (hS.blk d0).cells rfl (wl (s_storeA ti55 (et d4) (et (k40 d6)) rfl rfl hS d3 rfl p3 dn ?_)))
 clear hS; intro w9 hS
 refine st (nw (cret ?_))
 refine (fun h=>xr (br (xr h))) ?_
 obtain rfl:=oI h
 refine retN rfl (RVs.s (.a d4 ti55 (hS.blk d3).cells rfl) (RVs.s (.t d5) RVs.z)) ?_
 replace hS:=(hS.drop Rm.z).drop (Rm.s (Rm.s Rm.z))
 exact ⟨_,rfl,le44,hS⟩
 intro h47 h
 refine cskip (xn (nz ?_))
 obtain ⟨r48,g49,h⟩:=bI h
 refine ca (sema_num_w (hg.t le44) g49 hS) ?_
 rintro _ w10 ⟨μ4,rfl,le50,hS⟩
 refine po (wl (s_storeA ti55 (et d4) (et (k40 d7)) rfl rfl hS d3 rfl p3 dn ?_))
 clear hS; intro w11 hS
 refine st (nw (cret ?_))
 refine (fun h=>br (xr h)) ?_
 obtain rfl:=oI h
 refine retN rfl (RVs.s (.a d4 ti55 (hS.blk d3).cells rfl) (RVs.s (.t d5) RVs.z)) ?_
 replace hS:=(hS.drop Rm.z).drop (Rm.s (Rm.s Rm.z))
 exact ⟨_,rfl,(le44.t le50),hS⟩
 intro h41 h
 refine nz ?_
 iterate 2 refine st ?_
 refine nw ?_
 refine zCd h ?_ ?_
 intro h51 h
 refine cseq ?_
 refine ccutE (rg 50 9) (by decide) (fun m w=>∃ μx i52 i53 s54,m=(yK5 (.i (.int .i64 i52)::(yK20 (yK20 (yK4 (yO9 50 []))))))∧sema_expr_j1 i52 i53 s54=some r∧Le μ0 μx∧Sq μx w0 w (.blk b1 144 [.pointer (some ⟨b3,o4,none⟩),.pointer (some ⟨b12,o13,none⟩),v22]::.row v22 141 1 bloc_21.length (cOf ms23)::.blk b31 55 [.int .i64 i53,S s54]::(mRs ms23++rsF))) (by rintro _ _ ⟨_,_,_,_,rfl,_⟩; rfl) ?_ ?_
 refine cdw hS ?_; clear hS; intro w12 hS
 refine sf_start (fpi 1 [1,8,9,10] rfl (fpi 2 [2,3,4,5,6,8,9,10] rfl (fpi 3 [3,4,5,6,8,9,10] rfl (fpi 4 [4,5,6,8,9,10] rfl (fr_ 5 [5,6,8,9,10] rfl (u_load ti117 (et (k50 d4)) ((m30 _ hS.a).one d3)) (q50 p5) ?_)))))
 obtain ⟨x55,g56,h⟩:=bI h
 obtain ⟨b57,o58,cs59,e60,f61,m62⟩:=SlR.elem m29 g56
 obtain ⟨a63,c64,rfl,m65⟩:=TExpr.o m62
 refine fp 6 [6,8,9,10] rfl (u_iax underlying117 ti119 (et (k50 d5)) ec e60) (q50 p6) ?_
 obtain ⟨r66,g67,h⟩:=bI h
 refine sf1 rfl rfl rfl rfl (wn0 rfl) (s_callv isfn107 ef e0 (sema_num_w hg g67 hS) ?_)
 rintro _ w13 ⟨μ5,rfl,le68,hS⟩
 refine po ?_
 refine ⟨(Mons.s (u_load ti117 (et (k50 d4)) ((m30 _ (le68 _ hS.a)).one d3)) Mons.z),?_⟩
 obtain ⟨r69,g70,h⟩:=bI h
 refine sf1 rfl rfl rfl rfl (wn0 rfl) (s_callv isfn107 ef e0 (sema_num_w (hg.t le68) g70 hS) ?_)
 rintro _ w14 ⟨μ6,rfl,le71,hS⟩
 refine po ?_
 refine ⟨(Mons.s (u_load ti117 (et (k50 d4)) ((m30 _ ((le68.t le71) _ hS.a)).one d3)) Mons.z),?_⟩
 obtain ⟨r72,g73,h⟩:=bI h
 replace hS:=(hS.bg Y2).bg Y2
 replace hS:=Sep.mOut (a:=[_,_]) (p:=[_]) (M:=mRs ms23) (R:=rsF) hS
 refine sf1 rfl rfl rfl rfl (wn0 rfl) (s_callv isfn100 ef (e1 (et (k50 d1)) (e1 (et (k50 d6)) (e1 (et (k50 d7)) e0))) (IH.sema_typed (hg.t (le68.t le71)) (m7.up (le68.t le71)) (m9.up (le68.t le71)) (m10.up (le68.t le71)) (m16.up (le68.t le71)) (m19.up (le68.t le71)) (m20.up (le68.t le71)) (m24.up (le68.t le71)) (m65.up (le68.t le71)) (f61.up (le68.t le71)) g73 hS) ?_)
 rintro _ w15 ⟨μ7,rfl,le74,hS⟩
 replace hS:=Sep.mOut (a:=[_,_]) (p:=mRs ms23) (M:=[_]) (R:=rsF) hS
 refine po ?_
 refine ⟨Mons.z,?_⟩
 refine sf1 rfl rfl rfl rfl (wn0 rfl) (s_storeA ti55 (et d4) (et (k50 d0)) rfl rfl hS d2 rfl p2 dn ?_)
 clear hS; intro w16 hS
 refine ⟨Mons.z,?_⟩
 refine fpi 10 [10] rfl (sf_nil (xl ?_))
 exact ⟨_,_,rfl,(aK5 (aI (aK20 (aK20 (aK4 (aO9 aZ)))))),_,_,r66.Kind,r66.Gen,rfl,h,(le68.t (le71.t le74)),hS⟩
 rintro _ t w17 ⟨μ8,i52,i53,s54,rfl,h,le75,hS⟩
 unfold sema_expr_j1 at h
 refine nrm (mK5 (mi (mK20 (mK20 (mK4 (mO9 mz)))))) (xn (cret ?_))
 refine (fun h=>br (xr h)) ?_
 obtain rfl:=oI h
 refine retN rfl (RVs.s (.a d4 ti55 (hS.blk d2).cells rfl) (RVs.s (.t d5) RVs.z)) ?_
 replace hS:=hS.drop (Rm.s (Rm.s Rm.z))
 exact ⟨_,rfl,le75,hS⟩
 intro h51 h
 refine nz ?_
 iterate 2 refine st ?_
 refine nw ?_
 refine zCd h ?_ ?_
 intro h76 h
 refine cseq ?_
 refine ccutE (rg 61 9) (by decide) (fun m w=>∃ μx i77 i78 s79,m=(yK5 (.i (.int .i64 i77)::(yK50 (yK5 (yO9 61 [])))))∧sema_expr_j2 i77 i78 s79=some r∧Le μ0 μx∧Sq μx w0 w (.blk b1 144 [.pointer (some ⟨b3,o4,none⟩),.pointer (some ⟨b12,o13,none⟩),v22]::.row v22 141 1 bloc_21.length (cOf ms23)::.blk b31 55 [.int .i64 i78,S s79]::(mRs ms23++rsF))) (by rintro _ _ ⟨_,_,_,_,rfl,_⟩; rfl) ?_ ?_
 refine cdw hS ?_; clear hS; intro w18 hS
 refine sf_start (fpi 1 [1,8,9,10] rfl (fpi 2 [2,3,4,5,6,8,9,10] rfl (fpi 3 [3,4,5,6,8,9,10] rfl (fpi 4 [4,5,6,8,9,10] rfl (fr_ 5 [5,6,8,9,10] rfl (u_load ti117 (et (k60 d5)) ((m30 _ hS.a).one d3)) (q60 p6) ?_)))))
 obtain ⟨x80,g81,h⟩:=bI h
 obtain ⟨b82,o83,cs84,e85,f86,m87⟩:=SlR.elem m29 g81
 obtain ⟨a88,c89,rfl,m90⟩:=TExpr.o m87
 refine fp 6 [6,8,9,10] rfl (u_iax underlying117 ti119 (et (k60 d6)) ec e85) (q60 p7) ?_
 obtain ⟨r91,g92,h⟩:=bI h
 refine sf1 rfl rfl rfl rfl (wn0 rfl) (s_callv isfn101 ef e0 (sema_boolean_w hg g92 hS) ?_)
 rintro _ w19 ⟨μ9,rfl,le93,hS⟩
 refine po ?_
 refine ⟨(Mons.s (u_load ti117 (et (k60 d5)) ((m30 _ (le93 _ hS.a)).one d3)) Mons.z),?_⟩
 obtain ⟨r94,g95,h⟩:=bI h
 refine sf1 rfl rfl rfl rfl (wn0 rfl) (s_callv isfn101 ef e0 (sema_boolean_w (hg.t le93) g95 hS) ?_)
 rintro _ w20 ⟨μ10,rfl,le96,hS⟩
 refine po ?_
 refine ⟨(Mons.s (u_load ti117 (et (k60 d5)) ((m30 _ ((le93.t le96) _ hS.a)).one d3)) Mons.z),?_⟩
 obtain ⟨r97,g98,h⟩:=bI h
 replace hS:=(hS.bg Y2).bg Y2
 replace hS:=Sep.mOut (a:=[_,_]) (p:=[_]) (M:=mRs ms23) (R:=rsF) hS
 refine sf1 rfl rfl rfl rfl (wn0 rfl) (s_callv isfn100 ef (e1 (et (k60 d2)) (e1 (et (k60 d7)) (e1 (et (k60 d8)) e0))) (IH.sema_typed (hg.t (le93.t le96)) (m7.up (le93.t le96)) (m9.up (le93.t le96)) (m10.up (le93.t le96)) (m16.up (le93.t le96)) (m19.up (le93.t le96)) (m20.up (le93.t le96)) (m24.up (le93.t le96)) (m90.up (le93.t le96)) (f86.up (le93.t le96)) g98 hS) ?_)
 rintro _ w21 ⟨μ11,rfl,le99,hS⟩
 replace hS:=Sep.mOut (a:=[_,_]) (p:=mRs ms23) (M:=[_]) (R:=rsF) hS
 refine po ?_
 refine ⟨Mons.z,?_⟩
 refine sf1 rfl rfl rfl rfl (wn0 rfl) (s_storeA ti55 (et d4) (et (k60 d1)) rfl rfl hS d2 rfl p2 dn ?_)
 clear hS; intro w22 hS
 refine ⟨Mons.z,?_⟩
 refine fpi 10 [10] rfl (sf_nil (xl ?_))
 exact ⟨_,_,rfl,(aK5 (aI (aK50 (aK5 (aO9 aZ))))),_,_,r91.Kind,r91.Gen,rfl,h,(le93.t (le96.t le99)),hS⟩
 rintro _ t w23 ⟨μ12,i77,i78,s79,rfl,h,le100,hS⟩
 unfold sema_expr_j2 at h
 refine nrm (mK5 (mi (mK50 (mK5 (mO9 mz))))) (xn (cret ?_))
 refine (fun h=>br (xr h)) ?_
 obtain rfl:=oI h
 refine retN rfl (RVs.s (.a d4 ti55 (hS.blk d2).cells rfl) (RVs.s (.t d5) RVs.z)) ?_
 replace hS:=hS.drop (Rm.s (Rm.s Rm.z))
 exact ⟨_,rfl,le100,hS⟩
 intro h76 h
 refine cseq (nz ?_)
 iterate 2 refine st ?_
 refine nw ?_
 refine ccutE ([72]) (by decide) (fun m w=>∃ μx b101,m=(yK50 (yK20 (.i (.bool b101)::(yK1 (yO1 72 [])))))∧sema_expr_j3 self p_2 prog_2 def_11 bloc_21 b101=some r∧Le μ0 μx∧Sq μx w0 w (.blk b1 144 [.pointer (some ⟨b3,o4,none⟩),.pointer (some ⟨b12,o13,none⟩),v22]::.row v22 141 1 bloc_21.length (cOf ms23)::.blk b31 55 [.int .i64 0,S []]::(mRs ms23++rsF))) (by rintro _ _ ⟨_,_,rfl,_⟩; rfl) ?_ ?_
 refine zCd h ?_ ?_
 intro h102 h
 refine cskip (xl ?_)
 replace hS:=(hS.bg Y2).bg Y2
 exact ⟨_,_,rfl,(aK50 (aK20 (aI (aK1 (aO1 aZ))))),_,(decide (p_2.Kind=11)),rfl,h,Le.r,hS⟩
 intro h102 h
 refine creg ?_
 iterate 2 refine st ?_
 refine wnil (xl ?_)
 replace hS:=(hS.bg Y2).bg Y2
 exact ⟨_,_,rfl,(aK50 (aK20 (aI (aK1 (aO1 aZ))))),_,(decide (p_2.Kind=12)),rfl,h,Le.r,hS⟩
 rintro _ t w24 ⟨μ13,b101,rfl,h,le103,hS⟩
 unfold sema_expr_j3 at h
 refine nrm (mK50 (mK20 (mi (mK1 (mO1 mz))))) (xn ?_)
 refine zCb h ?_ ?_
 intro h104 h
 refine nz ?_
 iterate 2 refine st ?_
 obtain ⟨r105,g106,h⟩:=bI h
 replace hS:=(hS.bg Y1).bg Y1
 replace hS:=Sep.mOut (a:=[_,_]) (p:=[_]) (M:=mRs ms23) (R:=rsF) hS
 refine ca (IH.sema_both (hg.t le103) (m7.up le103) (m9.up le103) (m10.up le103) (m16.up le103) (m19.up le103) (m20.up le103) (m24.up le103) (m29.up le103) (m30.up le103) g106 hS) ?_
 rintro _ w25 ⟨μ14,rfl,le107,hS⟩
 replace hS:=Sep.mOut (a:=[_,_]) (p:=mRs ms23) (M:=[_]) (R:=rsF) hS
 refine po ?_
 iterate 3 refine st ?_
 refine wl (s_alloc ti55 hS ?_); clear hS; intro b108 w26 hb109 hS; refine po ?_
 refine wl (s_storeA ti55 (et d8) (et (k70 d7)) rfl rfl hS d0 rfl p0 dn ?_)
 clear hS; intro w27 hS
 refine st (nx ?_)
 obtain ⟨r110,g111,h⟩:=bI h
 refine ca (sema_boolean_w (hg.t (le103.t le107)) g111 hS) ?_
 rintro _ w28 ⟨μ15,rfl,le112,hS⟩
 refine po (st (wl (s_storeA ti55 (et d4) (et (k70 d9)) rfl rfl hS d3 rfl p3 dn ?_)))
 clear hS; intro w29 hS
 refine st (nw (cret ?_))
 refine (fun h=>br (xr h)) ?_
 obtain rfl:=oI h
 refine retN rfl (RVs.s (.a d4 ti55 (hS.blk d3).cells rfl) (RVs.s (.t d5) RVs.z)) ?_
 replace hS:=(hS.drop Rm.z).drop (Rm.s (Rm.s Rm.z))
 exact ⟨_,rfl,(le103.t (le107.t le112)),hS⟩
 intro h104 h
 refine nz ?_
 iterate 2 refine st ?_
 refine nw ?_
 refine zCd h ?_ ?_
 intro h113 h
 refine nz ?_
 iterate 2 refine st ?_
 obtain ⟨r114,g115,h⟩:=bI h
 replace hS:=(hS.bg Y1).bg Y1
 replace hS:=Sep.mOut (a:=[_,_]) (p:=[_]) (M:=mRs ms23) (R:=rsF) hS
 refine ca (IH.sema_args (hg.t le103) (m7.up le103) (m9.up le103) (m10.up le103) (m16.up le103) (m19.up le103) (m20.up le103) (m24.up le103) (m29.up le103) (m30.up le103) g115 hS) ?_
 rintro _ w30 ⟨μ16,v117,rfl,le116,hS,m118⟩
 replace hS:=Sep.mOut (a:=[_,_]) (p:=mRs ms23) (M:=[_]) (R:=rsF) hS
 refine po ?_
 iterate 5 refine st ?_
 refine ny (nz ?_)
 iterate 2 refine st ?_
 refine nw ?_
 refine zCd h ?_ ?_
 intro h119 h
 refine nz ?_
 obtain ⟨r120,g121,h⟩:=bI h
 refine ca (sema_num_w (hg.t (le103.t le116)) g121 hS) ?_
 rintro _ w31 ⟨μ17,rfl,le122,hS⟩
 refine po (st (wl (s_storeA ti55 (et d4) (et (k90 d1)) rfl rfl hS d2 rfl p2 dn ?_)))
 clear hS; intro w32 hS
 refine st (nw (cret ?_))
 refine (fun h=>xr (br (xr h))) ?_
 obtain rfl:=oI h
 refine retN rfl (RVs.s (.a d4 ti55 (hS.blk d2).cells rfl) (RVs.s (.t d5) RVs.z)) ?_
 replace hS:=hS.drop (Rm.s (Rm.s Rm.z))
 exact ⟨_,rfl,(le103.t (le116.t le122)),hS⟩
 intro h119 h
 refine cskip (xn (nz (st ?_)))
 obtain ⟨x123,g124,h⟩:=bI h
 obtain ⟨b125,o126,cs127,rfl,f128,m129⟩:=Np.get m118 g124
 obtain ⟨a130,c131,a133,c134,rfl,m132,m135⟩:=m129
 iterate 2 refine st ?_
 refine lds ((f128 _ hS.a).sb 2 2) rfl ?_
 obtain ⟨r136,g137,h⟩:=bI h
 refine ca (sema_bare_w (hg.t (le103.t le116)) g137 hS) ?_
 rintro _ w33 ⟨μ18,rfl,le138,hS⟩
 refine po (wl (s_storeA ti55 (et d4) (et (k90 d7)) rfl rfl hS d2 rfl p2 dn ?_))
 clear hS; intro w34 hS
 refine st (nw (cret ?_))
 refine (fun h=>br (xr h)) ?_
 obtain rfl:=oI h
 refine retN rfl (RVs.s (.a d4 ti55 (hS.blk d2).cells rfl) (RVs.s (.t d5) RVs.z)) ?_
 replace hS:=hS.drop (Rm.s (Rm.s Rm.z))
 exact ⟨_,rfl,(le103.t (le116.t le138)),hS⟩
 intro h113 h
 refine nz ?_
 iterate 2 refine st ?_
 refine nw ?_
 refine zCd h ?_ ?_
 intro h139 h
 refine cseq ?_
 refine cdw hS ?_; clear hS; intro w35 hS
 refine sf_start (fpi 0 [0,1,2,3,8,9,10,11,12,13] rfl (fpi 1 [1,2,3,8,9,10,11,12,13] rfl (fpi 2 [2,3,8,9,10,11,12,13] rfl (fr_ 3 [3,8,9,10,11,12,13] rfl (u_load ti50 (et (k100 d3)) ((hS.blk d0).cell d0)) (q100 p4) (fpi 4 [4,5,6,7,8,9,10,11,12,13] rfl (fpi 5 [5,6,7,8,9,10,11,12,13] rfl (fpi 6 [6,7,8,9,10,11,12,13] rfl (fr_ 7 [7,8,9,10,11,12,13] rfl (u_load ti9 (et (k100 d7)) ((m30 _ (le103 _ hS.a)).one d2)) (q100 p8) ?_))))))))
 obtain ⟨r140,g141,h⟩:=bI h
 refine sf1 rfl rfl rfl rfl (wn0 rfl) (s_callv isfn77 ef (e1 (et (k100 d4)) (e1 ec (e1 (et (k100 d8)) e0))) (sema_find_w (hg.t le103) (m7.up le103) (m9.up le103) (m10.up le103) g141 hS) ?_)
 rintro _ w36 ⟨μ19,v143,rfl,le142,hS,m144⟩
 refine po ?_
 refine ⟨Mons.z,?_⟩
 refine fpi 9 [9,10,11,12,13] rfl (fpi 10 [10,12,13] rfl (fpi 11 [11,13] rfl (fpi 12 [12,13] rfl (fpi 13 [13] rfl (sf_nil (xn (cseq (nz ?_))))))))
 iterate 2 refine st ?_
 refine nw ?_
 refine zCe h ?_ ?_
 intro h145 h
 refine nz ?_
 obtain ⟨r146,g147,h⟩:=bI h
 refine ca (sema_num_w (hg.t (le103.t le142)) g147 hS) ?_
 rintro _ w37 ⟨μ20,rfl,le148,hS⟩
 refine po (wl (s_storeA ti55 (et d4) (et (k100 (k10 d4))) rfl rfl hS d2 rfl p2 dn ?_))
 clear hS; intro w38 hS
 refine st (nw (cret ?_))
 refine (fun h=>xr (br (xr h))) ?_
 obtain rfl:=oI h
 refine retN rfl (RVs.s (.a d4 ti55 (hS.blk d2).cells rfl) (RVs.s (.t d5) RVs.z)) ?_
 replace hS:=hS.drop (Rm.s (Rm.s Rm.z))
 exact ⟨_,rfl,(le103.t (le142.t le148)),hS⟩
 intro h145 h
 refine cskip (xn (nz (st ?_)))
 obtain ⟨x149,g150,h⟩:=bI h
 obtain ⟨b151,o152,cs153,rfl,f154,m155⟩:=Np.get m144 g150
 obtain ⟨a156,c157,a159,c160,rfl,m158,m161⟩:=m155
 iterate 2 refine st ?_
 refine lds ((f154 _ hS.a).sb 2 2) rfl ?_
 obtain ⟨r162,g163,h⟩:=bI h
 refine ca (sema_bare_w (hg.t (le103.t le142)) g163 hS) ?_
 rintro _ w39 ⟨μ21,rfl,le164,hS⟩
 refine po (wl (s_storeA ti55 (et d4) (et (k100 (k10 d9))) rfl rfl hS d2 rfl p2 dn ?_))
 clear hS; intro w40 hS
 refine st (nw (cret ?_))
 refine (fun h=>br (xr h)) ?_
 obtain rfl:=oI h
 refine retN rfl (RVs.s (.a d4 ti55 (hS.blk d2).cells rfl) (RVs.s (.t d5) RVs.z)) ?_
 replace hS:=hS.drop (Rm.s (Rm.s Rm.z))
 exact ⟨_,rfl,(le103.t (le142.t le164)),hS⟩
 intro h139 h
 refine nz ?_
 iterate 2 refine st ?_
 refine nw ?_
 refine zCd h ?_ ?_
 intro h165 h
 refine cseq (nz ?_)
 iterate 3 refine st ?_
 refine ld ((hS.blk d0).cell d1) ?_
 iterate 2 refine st ?_
 refine ld ((m20 _ (le103 _ hS.a)).one d0) (st (nw ?_))
 refine zCd h ?_ ?_
 intro h166 h
 refine nz ?_
 obtain ⟨r167,g168,h⟩:=bI h
 refine ca (sema_num_w (hg.t le103) g168 hS) ?_
 rintro _ w41 ⟨μ22,rfl,le169,hS⟩
 refine po (wl (s_storeA ti55 (et d4) (et (k100 (k30 d0))) rfl rfl hS d2 rfl p2 dn ?_))
 clear hS; intro w42 hS
 refine st (nw (cret ?_))
 refine (fun h=>xr (br (xr h))) ?_
 obtain rfl:=oI h
 refine retN rfl (RVs.s (.a d4 ti55 (hS.blk d2).cells rfl) (RVs.s (.t d5) RVs.z)) ?_
 replace hS:=hS.drop (Rm.s (Rm.s Rm.z))
 exact ⟨_,rfl,(le103.t le169),hS⟩
 intro h166 h
 refine cskip (xn (cseq ?_))
 refine ccutE (rg 131 22) (by decide +kernel) (fun m w=>∃ μx i170 i171 s172,m=(yK5 (.i (.int .i64 i170)::(yK50 (yK50 (yK20 (yK5 (yO20 131 (yO2 151 []))))))))∧sema_expr_j4 i170 i171 s172=some r∧Le μ13 μx∧Sq μx w0 w (.blk b1 144 [.pointer (some ⟨b3,o4,none⟩),.pointer (some ⟨b12,o13,none⟩),v22]::.row v22 141 1 bloc_21.length (cOf ms23)::.blk b31 55 [.int .i64 i171,S s172]::(mRs ms23++rsF))) (by rintro _ _ ⟨_,_,_,_,rfl,_⟩; rfl) ?_ ?_
 refine cdw hS ?_; clear hS; intro w43 hS
 refine sf_start (fpi 0 [0,1,2,3,4,5,6,7,21,22,23] rfl (fpi 1 [1,2,3,4,5,6,7,21,22,23] rfl (fpi 2 [2,3,4,5,6,7,21,22,23] rfl (fr_ 3 [3,4,5,6,7,21,22,23] rfl (u_load ti63 (et (k100 (k30 d3))) ((hS.blk d0).cell d1)) (q100 (q30 p4)) (fpi 4 [4,5,6,7,21,22,23] rfl (fpi 5 [5,6,7,21,22,23] rfl (fr_ 6 [6,7,21,22,23] rfl (u_loads ti55 (et (k100 (k30 d6))) ((m20 _ (le103 _ hS.a)).sb 4 2) rfl) (q100 (q30 p7)) (fpi 8 [8,21,22,23] rfl (fpi 9 [9,10,11,12,13,21,22,23] rfl (fpi 10 [10,11,12,13,21,22,23] rfl (fpi 11 [11,12,13,21,22,23] rfl (fr_ 12 [12,13,21,22,23] rfl (u_load ti117 (et (k100 (k40 d2))) ((m30 _ (le103 _ hS.a)).one d3)) (q100 (q40 p3)) ?_))))))))))))
 obtain ⟨x173,g174,h⟩:=bI h
 obtain ⟨b175,o176,cs177,e178,f179,m180⟩:=SlR.elem (m29.up le103) g174
 obtain ⟨a181,c182,rfl,m183⟩:=TExpr.o m180
 refine fp 13 [13,21,22,23] rfl (u_iax underlying117 ti119 (et (k100 (k40 d3))) ec e178) (q100 (q40 p4)) (fpi 14 [14,15,16,17,18,19,20,21,22,23] rfl (fpi 15 [15,16,17,18,19,20,21,22,23] rfl (fpi 16 [16,17,18,19,20,21,22,23] rfl (fr_ 17 [17,18,19,20,21,22,23] rfl (u_load ti63 (et (k100 (k40 d7))) ((hS.blk d0).cell d1)) (q100 (q40 p8)) (fpi 18 [18,19,20,21,22,23] rfl (fpi 19 [19,20,21,22,23] rfl (fr_ 20 [20,21,22,23] rfl (u_loads ti55 (et (k100 (k50 d0))) ((m20 _ (le103 _ hS.a)).sb 2 2) rfl) (q100 (q50 p1)) ?_)))))))
 obtain ⟨r184,g185,h⟩:=bI h
 refine sf1 rfl rfl rfl rfl (wn0 rfl) (s_callv isfn58 ef (e1 (et (k100 (k30 d7))) e0) (sema_bare_w (hg.t le103) g185 hS) ?_)
 rintro _ w44 ⟨μ23,rfl,le186,hS⟩
 refine po ?_
 refine ⟨(Mons.s (u_loads ti55 (et (k100 (k50 d0))) ((m20 _ ((le103.t le186) _ hS.a)).sb 2 2) rfl) (Mons.s (u_load ti63 (et (k100 (k40 d7))) ((hS.blk d0).cell d1)) (Mons.s (u_load ti117 (et (k100 (k40 d2))) ((m30 _ ((le103.t le186) _ hS.a)).one d3)) Mons.z))),?_⟩
 obtain ⟨r187,g188,h⟩:=bI h
 replace hS:=(hS.bg Y1).bg Y1
 replace hS:=Sep.mOut (a:=[_,_]) (p:=[_]) (M:=mRs ms23) (R:=rsF) hS
 refine sf1 rfl rfl rfl rfl (wn0 rfl) (s_callv isfn100 ef (e1 (et (k100 (k30 d9))) (e1 (et (k100 (k40 d4))) (e1 (et (k100 (k50 d1))) e0))) (IH.sema_typed (hg.t (le103.t le186)) (m7.up (le103.t le186)) (m9.up (le103.t le186)) (m10.up (le103.t le186)) (m16.up (le103.t le186)) (m19.up (le103.t le186)) (m20.up (le103.t le186)) (m24.up (le103.t le186)) (m183.up le186) (f179.up le186) g188 hS) ?_)
 rintro _ w45 ⟨μ24,rfl,le189,hS⟩
 replace hS:=Sep.mOut (a:=[_,_]) (p:=mRs ms23) (M:=[_]) (R:=rsF) hS
 refine po ?_
 refine ⟨Mons.z,?_⟩
 refine sf1 rfl rfl rfl rfl (wn0 rfl) (s_storeA ti55 (et d4) (et (k100 (k30 d8))) rfl rfl hS d2 rfl p2 dn ?_)
 clear hS; intro w46 hS
 refine ⟨Mons.z,?_⟩
 refine fpi 23 [23] rfl (sf_nil (xl ?_))
 exact ⟨_,_,rfl,(aK5 (aI (aK50 (aK50 (aK20 (aK5 (aO20 (aO2 aZ)))))))),_,_,r184.Kind,r184.Gen,rfl,h,(le186.t le189),hS⟩
 rintro _ t w47 ⟨μ25,i170,i171,s172,rfl,h,le190,hS⟩
 unfold sema_expr_j4 at h
 refine nrm (mK5 (mi (mK50 (mK50 (mK20 (mK5 (mO20 (mO2 mz)))))))) (xn (cret ?_))
 refine (fun h=>br (xr h)) ?_
 obtain rfl:=oI h
 refine retN rfl (RVs.s (.a d4 ti55 (hS.blk d2).cells rfl) (RVs.s (.t d5) RVs.z)) ?_
 replace hS:=hS.drop (Rm.s (Rm.s Rm.z))
 exact ⟨_,rfl,(le103.t le190),hS⟩
 intro h165 h
 refine nz ?_
 iterate 2 refine st ?_
 refine nw ?_
 refine zCd h ?_ ?_
 intro h191 h
 refine nz ?_
 iterate 2 refine st ?_
 obtain ⟨r192,g193,h⟩:=bI h
 replace hS:=(hS.bg Y1).bg Y1
 replace hS:=Sep.mOut (a:=[_,_]) (p:=[_]) (M:=mRs ms23) (R:=rsF) hS
 refine ca (IH.sema_args (hg.t le103) (m7.up le103) (m9.up le103) (m10.up le103) (m16.up le103) (m19.up le103) (m20.up le103) (m24.up le103) (m29.up le103) (m30.up le103) g193 hS) ?_
 rintro _ w48 ⟨μ26,v195,rfl,le194,hS,m196⟩
 replace hS:=Sep.mOut (a:=[_,_]) (p:=mRs ms23) (M:=[_]) (R:=rsF) hS
 refine po ?_
 iterate 5 refine st ?_
 refine nx ?_
 iterate 3 refine st ?_
 refine ld ((m30 _ ((le103.t le194) _ hS.a)).one d2) (wl (s_build ti55 pl55 (Fl.o rfl ec rfl rfl p0 (Fl.o rfl (et (k100 (k60 d4))) rfl rfl p1 Fl.z)) (dt (q100 (q60 p5))) (st (wl (s_storeA ti55 (et d4) (et (k100 (k60 d5))) rfl rfl hS d2 rfl p2 dn ?_)))))
 clear hS; intro w49 hS
 refine st (nw (cret ?_))
 refine (fun h=>br (xr h)) ?_
 obtain rfl:=oI h
 refine retN rfl (RVs.s (.a d4 ti55 (hS.blk d2).cells rfl) (RVs.s (.t d5) RVs.z)) ?_
 replace hS:=hS.drop (Rm.s (Rm.s Rm.z))
 exact ⟨_,rfl,(le103.t le194),hS⟩
 intro h191 h
 refine nz ?_
 iterate 2 refine st ?_
 refine nw ?_
 refine zCd h ?_ ?_
 intro h197 h
 refine nz ?_
 iterate 4 refine st ?_
 refine ld ((m30 _ (le103 _ hS.a)).one d3) ?_
 obtain ⟨x198,g199,h⟩:=bI h
 obtain ⟨b200,o201,cs202,e203,f204,m205⟩:=SlR.elem (m29.up le103) g199
 obtain ⟨a206,c207,rfl,m208⟩:=TExpr.o m205
 refine wl (su (u_iax underlying117 ti119 (et (k100 (k70 d4))) ec e203) (dt (q100 (q70 p5))) ?_)
 obtain ⟨r209,g210,h⟩:=bI h
 replace hS:=(hS.bg Y1).bg Y1
 replace hS:=Sep.mOut (a:=[_,_]) (p:=[_]) (M:=mRs ms23) (R:=rsF) hS
 refine ca (IH.sema_handle (hg.t le103) (m7.up le103) (m9.up le103) (m10.up le103) (m16.up le103) (m19.up le103) (m20.up le103) (m24.up le103) m208 f204 g210 hS) ?_
 rintro _ w50 ⟨μ27,v212,rfl,le211,hS,m213⟩
 replace hS:=Sep.mOut (a:=[_,_]) (p:=mRs ms23) (M:=[_]) (R:=rsF) hS
 refine po ?_
 iterate 5 refine st ?_
 refine ny (nz ?_)
 iterate 2 refine st ?_
 refine nw ?_
 refine zCd h ?_ ?_
 intro h214 h
 refine nz ?_
 obtain ⟨r215,g216,h⟩:=bI h
 refine ca (sema_num_w (hg.t (le103.t le211)) g216 hS) ?_
 rintro _ w51 ⟨μ28,rfl,le217,hS⟩
 refine po (st (wl (s_storeA ti55 (et d4) (et (k100 (k80 d1))) rfl rfl hS d2 rfl p2 dn ?_)))
 clear hS; intro w52 hS
 refine st (nw (cret ?_))
 refine (fun h=>xr (br (xr h))) ?_
 obtain rfl:=oI h
 refine retN rfl (RVs.s (.a d4 ti55 (hS.blk d2).cells rfl) (RVs.s (.t d5) RVs.z)) ?_
 replace hS:=hS.drop (Rm.s (Rm.s Rm.z))
 exact ⟨_,rfl,(le103.t (le211.t le217)),hS⟩
 intro h214 h
 refine cskip (xn (cseq ?_))
 refine ccutE (rg 183 16) (by decide) (fun m w=>∃ μx i218 i219 s220,m=(yK5 (.i (.int .i64 i218)::(yK50 (yK50 (yK50 (yK20 (yK7 (yO10 183 (yO6 193 [])))))))))∧sema_expr_j5 i218 i219 s220=some r∧Le μ27 μx∧Sq μx w0 w (.blk b1 144 [.pointer (some ⟨b3,o4,none⟩),.pointer (some ⟨b12,o13,none⟩),v22]::.row v22 141 1 bloc_21.length (cOf ms23)::.blk b31 55 [.int .i64 i219,S s220]::(mRs ms23++rsF))) (by rintro _ _ ⟨_,_,_,_,rfl,_⟩; rfl) ?_ ?_
 refine cdw hS ?_; clear hS; intro w53 hS
 refine sf_start (fpi 0 [0,1,2,3,4,15,16,17] rfl ?_)
 obtain ⟨x221,g222,h⟩:=bI h
 obtain ⟨b223,o224,cs225,rfl,f226,m227⟩:=Np.get m213 g222
 obtain ⟨a228,c229,a231,c232,rfl,m230,m233⟩:=m227
 refine fpi 1 [1,2,3,4,15,16,17] rfl (fpi 2 [2,3,4,15,16,17] rfl (fr_ 3 [3,4,15,16,17] rfl (u_loads ti55 (et (k100 (k80 d5))) ((f226 _ hS.a).sb 2 2) rfl) (q100 (q80 p6)) (fpi 5 [5,15,16,17] rfl (fpi 6 [6,7,8,9,10,15,16,17] rfl (fpi 7 [7,8,9,10,15,16,17] rfl (fpi 8 [8,9,10,15,16,17] rfl (fr_ 9 [9,10,15,16,17] rfl (u_load ti117 (et (k100 (k90 d1))) ((m30 _ ((le103.t le211) _ hS.a)).one d3)) (q100 (q90 p2)) ?_)))))))
 obtain ⟨x234,g235,h⟩:=bI h
 obtain ⟨b236,o237,cs238,e239,f240,m241⟩:=SlR.elem (m29.up (le103.t le211)) g235
 obtain ⟨a242,c243,rfl,m244⟩:=TExpr.o m241
 refine fp 10 [10,15,16,17] rfl (u_iax underlying117 ti119 (et (k100 (k90 d2))) ec e239) (q100 (q90 p3)) (fpi 11 [11,12,13,14,15,16,17] rfl (fpi 12 [12,13,14,15,16,17] rfl (fpi 13 [13,14,15,16,17] rfl (fr_ 14 [14,15,16,17] rfl (u_loads ti55 (et (k100 (k90 d6))) ((f226 _ hS.a).sb 4 2) rfl) (q100 (q90 p7)) ?_))))
 obtain ⟨r245,g246,h⟩:=bI h
 refine sf1 rfl rfl rfl rfl (wn0 rfl) (s_callv isfn58 ef (e1 (et (k100 (k80 d6))) e0) (sema_bare_w (hg.t (le103.t le211)) g246 hS) ?_)
 rintro _ w54 ⟨μ29,rfl,le247,hS⟩
 refine po ?_
 refine ⟨(Mons.s (u_loads ti55 (et (k100 (k90 d6))) ((f226 _ (le247 _ hS.a)).sb 4 2) rfl) (Mons.s (u_load ti117 (et (k100 (k90 d1))) ((m30 _ ((le103.t (le211.t le247)) _ hS.a)).one d3)) Mons.z)),?_⟩
 obtain ⟨r248,g249,h⟩:=bI h
 replace hS:=(hS.bg Y1).bg Y1
 replace hS:=Sep.mOut (a:=[_,_]) (p:=[_]) (M:=mRs ms23) (R:=rsF) hS
 refine sf1 rfl rfl rfl rfl (wn0 rfl) (s_callv isfn100 ef (e1 (et (k100 (k80 d8))) (e1 (et (k100 (k90 d3))) (e1 (et (k100 (k90 d7))) e0))) (IH.sema_typed (hg.t (le103.t (le211.t le247))) (m7.up (le103.t (le211.t le247))) (m9.up (le103.t (le211.t le247))) (m10.up (le103.t (le211.t le247))) (m16.up (le103.t (le211.t le247))) (m19.up (le103.t (le211.t le247))) (m20.up (le103.t (le211.t le247))) (m24.up (le103.t (le211.t le247))) (m244.up le247) (f240.up le247) g249 hS) ?_)
 rintro _ w55 ⟨μ30,rfl,le250,hS⟩
 replace hS:=Sep.mOut (a:=[_,_]) (p:=mRs ms23) (M:=[_]) (R:=rsF) hS
 refine po ?_
 refine ⟨Mons.z,?_⟩
 refine sf1 rfl rfl rfl rfl (wn0 rfl) (s_storeA ti55 (et d4) (et (k100 (k80 d7))) rfl rfl hS d2 rfl p2 dn ?_)
 clear hS; intro w56 hS
 refine ⟨Mons.z,?_⟩
 refine fpi 17 [17] rfl (sf_nil (xl ?_))
 exact ⟨_,_,rfl,(aK5 (aI (aK50 (aK50 (aK50 (aK20 (aK7 (aO10 (aO6 aZ))))))))),_,_,r245.Kind,r245.Gen,rfl,h,(le247.t le250),hS⟩
 rintro _ t w57 ⟨μ31,i218,i219,s220,rfl,h,le251,hS⟩
 unfold sema_expr_j5 at h
 refine nrm (mK5 (mi (mK50 (mK50 (mK50 (mK20 (mK7 (mO10 (mO6 mz))))))))) (xn (cret ?_))
 refine (fun h=>br (xr h)) ?_
 obtain rfl:=oI h
 refine retN rfl (RVs.s (.a d4 ti55 (hS.blk d2).cells rfl) (RVs.s (.t d5) RVs.z)) ?_
 replace hS:=hS.drop (Rm.s (Rm.s Rm.z))
 exact ⟨_,rfl,(le103.t (le211.t le251)),hS⟩
 intro h197 h
 refine nz ?_
 iterate 2 refine st ?_
 refine nw ?_
 refine zCd h ?_ ?_
 intro h252 h
 refine nz ?_
 iterate 4 refine st ?_
 refine ld ((m30 _ (le103 _ hS.a)).one d3) ?_
 obtain ⟨x253,g254,h⟩:=bI h
 obtain ⟨b255,o256,cs257,e258,f259,m260⟩:=SlR.elem (m29.up le103) g254
 obtain ⟨a261,c262,rfl,m263⟩:=TExpr.o m260
 refine wl (su (u_iax underlying117 ti119 (et (k100 (k100 d6))) ec e258) (dt (q100 (q100 p7))) ?_)
 obtain ⟨r264,g265,h⟩:=bI h
 replace hS:=(hS.bg Y1).bg Y1
 replace hS:=Sep.mOut (a:=[_,_]) (p:=[_]) (M:=mRs ms23) (R:=rsF) hS
 refine ca (IH.sema_handle (hg.t le103) (m7.up le103) (m9.up le103) (m10.up le103) (m16.up le103) (m19.up le103) (m20.up le103) (m24.up le103) m263 f259 g265 hS) ?_
 rintro _ w58 ⟨μ32,v267,rfl,le266,hS,m268⟩
 replace hS:=Sep.mOut (a:=[_,_]) (p:=mRs ms23) (M:=[_]) (R:=rsF) hS
 refine po ?_
 iterate 5 refine st ?_
 refine nx ?_
 obtain ⟨r269,g270,h⟩:=bI h
 refine ca (sema_boolean_w (hg.t (le103.t le266)) g270 hS) ?_
 rintro _ w59 ⟨μ33,rfl,le271,hS⟩
 refine po (st (wl (s_storeA ti55 (et d4) (et (k100 (k100 (k10 d1)))) rfl rfl hS d2 rfl p2 dn ?_)))
 clear hS; intro w60 hS
 refine st (nw (cret ?_))
 refine (fun h=>br (xr h)) ?_
 obtain rfl:=oI h
 refine retN rfl (RVs.s (.a d4 ti55 (hS.blk d2).cells rfl) (RVs.s (.t d5) RVs.z)) ?_
 replace hS:=hS.drop (Rm.s (Rm.s Rm.z))
 exact ⟨_,rfl,(le103.t (le266.t le271)),hS⟩
 intro h252 h
 refine cskip ?_
 refine (fun h=>bn (xn h)) ?_
 refine nz ?_
 obtain ⟨r272,g273,h⟩:=bI h
 refine ca (sema_num_w (hg.t le103) g273 hS) ?_
 rintro _ w61 ⟨μ34,rfl,le274,hS⟩
 refine po ?_
 obtain ⟨r275,g276,h⟩:=bI h
 refine ca (sema_num_w (hg.t (le103.t le274)) g276 hS) ?_
 rintro _ w62 ⟨μ35,rfl,le277,hS⟩
 refine po ?_
 refine wl (s_alloc ti55 hS ?_); clear hS; intro b278 w63 hb279 hS; refine po ?_
 refine wl (s_alloc ti55 hS ?_); clear hS; intro b280 w64 hb281 hS; refine po ?_
 refine wl (s_storeA ti55 (et (k20 d0)) (et (k100 (k100 (k10 d3)))) rfl rfl hS d1 rfl p1 dn ?_)
 clear hS; intro w65 hS
 refine wl (s_storeA ti55 (et (k20 d1)) (et (k100 (k100 (k10 d4)))) rfl rfl hS d0 rfl p0 dn ?_)
 clear hS; intro w66 hS
 refine ny ?_
 refine ccutE (rg 215 15) (by decide) (fun m w=>∃ μx i282 s283 i284 s285,m=(yK50 (yK50 (yK50 (yK50 (yK10 (yK5 (yO10 215 (yO5 225 []))))))))∧sema_expr_j6 self p_2 prog_2 def_11 bloc_21 i282 s283 i284 s285=some r∧Le μ35 μx∧Sq μx w0 w (.blk b1 144 [.pointer (some ⟨b3,o4,none⟩),.pointer (some ⟨b12,o13,none⟩),v22]::.row v22 141 1 bloc_21.length (cOf ms23)::.blk b31 55 [.int .i64 0,S []]::.blk b278 55 [.int .i64 i282,S s283]::.blk b280 55 [.int .i64 i284,S s285]::(mRs ms23++rsF))) (by rintro _ _ ⟨_,_,_,_,_,rfl,_⟩; rfl) ?_ ?_
 refine cblock (nz ?_)
 iterate 3 refine st ?_
 refine ld ((m30 _ ((le103.t (le274.t le277)) _ hS.a)).one d0) ?_
 iterate 2 refine st ?_
 refine nw ?_
 refine zCd h ?_ ?_
 intro h286 h
 refine creg ?_
 obtain ⟨r287,g288,h⟩:=bI h
 refine ca (sema_boolean_w (hg.t (le103.t (le274.t le277))) g288 hS) ?_
 rintro _ w67 ⟨μ36,rfl,le289,hS⟩
 refine po ?_
 obtain ⟨r290,g291,h⟩:=bI h
 refine ca (sema_boolean_w (hg.t (le103.t (le274.t (le277.t le289)))) g291 hS) ?_
 rintro _ w68 ⟨μ37,rfl,le292,hS⟩
 refine po (wl (s_storeA ti55 (et (k20 d0)) (et (k100 (k100 (k20 d1)))) rfl rfl hS d1 rfl p1 dn ?_))
 clear hS; intro w69 hS
 refine wl (s_storeA ti55 (et (k20 d1)) (et (k100 (k100 (k20 d2)))) rfl rfl hS d0 rfl p0 dn ?_)
 clear hS; intro w70 hS
 refine wnil ?_
 refine (fun h=>bn (xl h)) ?_
 replace hS:=(((hS.bg Y1).bg Y4).bg Y4).bg Y4
 exact ⟨_,_,rfl,(aK50 (aK50 (aK50 (aK50 (aK10 (aK5 (aO10 (aO5 aZ)))))))),_,r287.Kind,r287.Gen,r290.Kind,r290.Gen,rfl,h,(le289.t le292),hS⟩
 intro h286 h
 refine nz ?_
 iterate 3 refine st ?_
 refine ld ((m30 _ ((le103.t (le274.t le277)) _ hS.a)).one d0) ?_
 iterate 2 refine st ?_
 refine nw ?_
 refine zCd h ?_ ?_
 intro h293 h
 refine creg ?_
 obtain ⟨r294,g295,h⟩:=bI h
 refine ca (sema_boolean_w (hg.t (le103.t (le274.t le277))) g295 hS) ?_
 rintro _ w71 ⟨μ38,rfl,le296,hS⟩
 refine po (wl (s_storeA ti55 (et (k20 d1)) (et (k100 (k100 (k20 d9)))) rfl rfl hS d0 rfl p0 dn ?_))
 clear hS; intro w72 hS
 refine wnil ?_
 refine (fun h=>bn (xl h)) ?_
 replace hS:=(((hS.bg Y1).bg Y4).bg Y4).bg Y4
 exact ⟨_,_,rfl,(aK50 (aK50 (aK50 (aK50 (aK10 (aK5 (aO10 (aO5 aZ)))))))),_,r272.Kind,r272.Gen,r294.Kind,r294.Gen,rfl,h,le296,hS⟩
 intro h293 h
 refine cskip ?_
 refine (fun h=>bn (xl h)) ?_
 replace hS:=(((hS.bg Y1).bg Y4).bg Y4).bg Y4
 exact ⟨_,_,rfl,(aK50 (aK50 (aK50 (aK50 (aK10 (aK5 (aO10 (aO5 aZ)))))))),_,r272.Kind,r272.Gen,r275.Kind,r275.Gen,rfl,h,Le.r,hS⟩
 rintro _ t w73 ⟨μ39,i282,s283,i284,s285,rfl,h,le297,hS⟩
 unfold sema_expr_j6 at h
 refine nrm (mK50 (mK50 (mK50 (mK50 (mK10 (mK5 (mO10 (mO5 mz)))))))) (xn (cseq (nz ?_)))
 iterate 3 refine st ?_
 refine ld ((m30 _ ((le103.t (le274.t (le277.t le297))) _ hS.a)).one d3) (wl (su (u_lensl underlying117 (et (k100 (k100 (k30 d3))))) (dt (q100 (q100 (q30 p4)))) (st (nw (cblock ?_)))))
 refine cloopE ([5]++rg 22 2++rg 236 16) (by decide) (fun n m w=>∃ μx i314,m=(yK5 (yO1 5 (yK10 (yK6 (yO2 22 (yK50 (yK50 (yK50 (yK50 (yK10 (yK1 (.i (.int .i64 i314)::(yO10 236 (yO6 246 []))))))))))))))∧sema_expr_l1 self p_2 prog_2 def_11 bloc_21 i282 s283 i284 s285 n i314=some r∧Le μ39 μx∧Sq μx w0 w (.blk b1 144 [.pointer (some ⟨b3,o4,none⟩),.pointer (some ⟨b12,o13,none⟩),v22]::.row v22 141 1 bloc_21.length (cOf ms23)::.blk b31 55 [.int .i64 0,S []]::.blk b278 55 [.int .i64 i282,S s283]::.blk b280 55 [.int .i64 i284,S s285]::(mRs ms23++rsF))) (by rintro _ _ _ ⟨_,_,rfl,_⟩; rfl) _ _ (aK5 (aO1 (aK10 (aK6 (aO2 (aK50 (aK50 (aK50 (aK50 (aK10 (aK1 (aI (aO10 (aO6 aZ)))))))))))))) ⟨_,0,rfl,h,Le.r,hS⟩ ?_
 rintro n_1 _ t w74 ⟨μ40,i314,rfl,h,le331,hS⟩
 rcases n_1 with _|n_1
 cases h
 unfold sema_expr_l1 at h
 refine cnrm (mK5 (mO1 (mK10 (mK6 (mO2 (mK50 (mK50 (mK50 (mK50 (mK10 (mK1 (mi (mO10 (mO6 mz)))))))))))))) (nz (st (ny ?_)))
 refine zCd h ?_ ?_
 intro h332 h
 refine cskip (xn (cseq (cblock (nz ?_))))
 iterate 2 refine st ?_
 refine ny ?_
 refine cdw hS ?_; clear hS; intro w75 hS
 refine sf_start (fpi 0 [0,8,9] rfl (fpi 1 [1,2,3,4,6,8,9] rfl (fpi 2 [2,3,4,6,8,9] rfl (fpi 3 [3,4,6,8,9] rfl (fr_ 4 [4,6,8,9] rfl (u_load ti117 (et (k100 (k100 (k40 d1)))) ((m30 _ ((le103.t (le274.t (le277.t (le297.t le331)))) _ hS.a)).one d3)) (q100 (q100 (q40 p2))) (fpi 5 [5,6,8,9] rfl ?_))))))
 obtain ⟨x333,g334,h⟩:=bI h
 obtain ⟨b335,o336,cs337,e338,f339,m340⟩:=SlR.elem (m29.up (le103.t (le274.t (le277.t (le297.t le331))))) g334
 obtain ⟨a341,c342,rfl,m343⟩:=TExpr.o m340
 refine fp 6 [6,8,9] rfl (u_iax underlying117 ti119 (et (k100 (k100 (k40 d2)))) (et (k100 (k100 (k40 d3)))) e338) (q100 (q100 (q40 p4))) (fr_ 7 [7,8,9] rfl (u_loads ti55 (et (k20 d0)) (hS.blk d3).cells rfl) (q100 (q100 (q40 p5))) ?_)
 obtain ⟨r344,g345,h⟩:=bI h
 replace hS:=(hS.bg Y1).bg Y1
 replace hS:=Sep.mOut (a:=[_,_]) (p:=[_,_,_]) (M:=mRs ms23) (R:=rsF) hS
 refine sf1 rfl rfl rfl rfl (wn0 rfl) (s_callv isfn100 ef (e1 (et (k100 (k100 (k30 d8)))) (e1 (et (k100 (k100 (k40 d4)))) (e1 (et (k100 (k100 (k40 d5)))) e0))) (IH.sema_typed (p_3:=(TType.mk i282 s283)) (hg.t (le103.t (le274.t (le277.t (le297.t le331))))) (m7.up (le103.t (le274.t (le277.t (le297.t le331))))) (m9.up (le103.t (le274.t (le277.t (le297.t le331))))) (m10.up (le103.t (le274.t (le277.t (le297.t le331))))) (m16.up (le103.t (le274.t (le277.t (le297.t le331))))) (m19.up (le103.t (le274.t (le277.t (le297.t le331))))) (m20.up (le103.t (le274.t (le277.t (le297.t le331))))) (m24.up (le103.t (le274.t (le277.t (le297.t le331))))) m343 f339 g345 hS) ?_)
 rintro _ w76 ⟨μ41,rfl,le346,hS⟩
 replace hS:=Sep.mOut (a:=[_,_]) (p:=mRs ms23) (M:=[_,_,_]) (R:=rsF) hS
 refine po ?_
 refine ⟨Mons.z,?_⟩
 refine fpi 9 [9] rfl (sf_nil (xn (nz ?_)))
 iterate 2 refine st ?_
 refine nw ?_
 refine zCd h ?_ ?_
 intro h347 h
 refine nz (lds (hS.blk d4).cells rfl (st (wl (s_storeA ti55 (et d4) (et (k100 (k100 (k40 d9)))) rfl rfl hS d2 rfl p2 dn ?_))))
 clear hS; intro w77 hS
 refine st (nw (cret ?_))
 refine (fun h=>br (xr (xr (br (xr h))))) ?_
 obtain rfl:=oI h
 refine retN rfl (RVs.s (.a d4 ti55 (hS.blk d2).cells rfl) (RVs.s (.t d5) RVs.z)) ?_
 replace hS:=((hS.drop (Rm.s (Rm.s Rm.z))).drop (Rm.s (Rm.s Rm.z))).drop (Rm.s (Rm.s Rm.z))
 exact ⟨_,rfl,(le103.t (le274.t (le277.t (le297.t (le331.t le346))))),hS⟩
 intro h347 h
 refine cskip ?_
 refine (fun h=>bn (xn h)) ?_
 refine creg ?_
 obtain ⟨i348,g349,h⟩:=bI h
 refine wl (su (u_addc (et (k100 (k100 (k30 d5)))) ec g349) (dt (q100 (q100 (q50 p1)))) (st (wnil (xl ?_))))
 exact ⟨n_1,_,_,rfl,(aK5 (aO1 (aK10 (aK6 (aO2 (aK50 (aK50 (aK50 (aK50 (aK10 (aK1 (aI (aO10 (aO6 aZ)))))))))))))),⟨_,i348,rfl,h,(le331.t le346),hS⟩,Nat.lt_succ_self _⟩
 intro h332 h
 refine cexit ?_
 refine (fun h=>xe (xe (bh h))) ?_
 refine xn (nz (lds (hS.blk d4).cells rfl (wl (s_storeA ti55 (et d4) (et (k100 (k100 (k50 d2)))) rfl rfl hS d2 rfl p2 dn ?_))))
 clear hS; intro w78 hS
 refine st (nw (cret ?_))
 obtain rfl:=oI h
 refine retN rfl (RVs.s (.a d4 ti55 (hS.blk d2).cells rfl) (RVs.s (.t d5) RVs.z)) ?_
 replace hS:=((hS.drop (Rm.s (Rm.s Rm.z))).drop (Rm.s (Rm.s Rm.z))).drop (Rm.s (Rm.s Rm.z))
 exact ⟨_,rfl,(le103.t (le274.t (le277.t (le297.t le331)))),hS⟩
theorem SemaE_sound:∀ n,SemaESound (SemaE_run n)
  | 0=>⟨(by intro; intros; rename_i h _; cases h),(by intro; intros; rename_i h _; cases h),(by intro; intros; rename_i h _; cases h),(by intro; intros; rename_i h _; cases h),(by intro; intros; rename_i h _; cases h)⟩
  | n+1=>⟨sema_typed_w (SemaE_sound n),sema_args_w (SemaE_sound n),sema_both_w (SemaE_sound n),sema_handle_w (SemaE_sound n),sema_expr_w (SemaE_sound n)⟩
end Go.Proofs.Yteiemedhecjgiaa
