/- Texts of Wa. -/
import Derived.Test.YteiemedhecjgiaaCXu
import Derived.Test.YteiemedhecjgiaaCMd
import Derived.Test.YteiemedhecjgiaaCFl
set_option linter.unusedSimpArgs false
set_option linter.unusedVariables false
set_option linter.unusedSectionVars false
set_option maxRecDepth 100000
set_option maxHeartbeats 20000000
namespace Go.Proofs.Yteiemedhecjgiaa
open Go.Wk Go.Xt Go.Y Try
variable {fu:Nat} {μ0:M} {w0 w:World} {rsF:List Res}
theorem lx_letter_w (hg:Le Gm μ0) {p_1:UInt8} {r:Bool}  (h:lx_letter p_1=some r) (hS:Sq μ0 w0 w (rsF)):CallsV prog 92 [.int .u8 (p_1.toNat:Int)] w (fun v w'=>∃ (μ':M) ,v=.bool r∧Le μ0 μ'∧Sq μ' w0 w' (rsF)):=by
 unfold lx_letter at h
 refine enter func92 rfl (frm:=_::u2 (u10 [])) rfl (nz (st (nx ?_)))
 iterate 3 refine st ?_
 refine zWd 5 h ?_ ?_
 intro h1 h
 refine sy rfl (sy rfl ?_)
 iterate 2 refine st ?_
 refine zWd 9 h ?_ ?_
 intro h2 h
 refine sn rfl rfl (sn rfl rfl ?_)
 iterate 2 refine st ?_
 refine nw (cret ?_)
 obtain rfl:=oI h
 refine ret1 rfl d2 ?_
 exact ⟨_,rfl,Le.r,hS⟩
 intro h2 h
 refine sy rfl (sy rfl ?_)
 iterate 2 refine st ?_
 refine nw (cret ?_)
 obtain rfl:=oI h
 refine ret1 rfl d2 ?_
 exact ⟨_,rfl,Le.r,hS⟩
 intro h1 h
 refine sn rfl rfl (sn rfl rfl ?_)
 iterate 2 refine st ?_
 refine sy rfl (sy rfl ?_)
 iterate 2 refine st ?_
 refine nw (cret ?_)
 obtain rfl:=oI h
 refine ret1 rfl d2 ?_
 exact ⟨_,rfl,Le.r,hS⟩
theorem lx_digit_w (hg:Le Gm μ0) {p_1:UInt8} {r:Bool}  (h:lx_digit p_1=some r) (hS:Sq μ0 w0 w (rsF)):CallsV prog 96 [.int .u8 (p_1.toNat:Int)] w (fun v w'=>∃ (μ':M) ,v=.bool r∧Le μ0 μ'∧Sq μ' w0 w' (rsF)):=by
 unfold lx_digit at h
 refine enter func96 rfl (frm:=_::u1 (u2 (u5 []))) rfl (nz (st (nx ?_)))
 iterate 3 refine st ?_
 refine zWd 5 h ?_ ?_
 intro h1 h
 refine sy rfl (sy rfl ?_)
 iterate 2 refine st ?_
 refine nw (cret ?_)
 obtain rfl:=oI h
 refine ret1 rfl d2 ?_
 exact ⟨_,rfl,Le.r,hS⟩
 intro h1 h
 refine sn rfl rfl (sn rfl rfl ?_)
 iterate 2 refine st ?_
 refine nw (cret ?_)
 obtain rfl:=oI h
 refine ret1 rfl d2 ?_
 exact ⟨_,rfl,Le.r,hS⟩
theorem lx_while_w (hg:Le Gm μ0) {p_1:List UInt8} {K1:Nat} {caps2:List Value} {p_2:UInt8→Option Bool} {r:Int} (m3:FnOk prog μ0 K1 caps2 false p_2) (h:lx_while fu p_1 p_2=some r) (hS:Sq μ0 w0 w (rsF)):CallsV prog 94 [S p_1,.func (.func K1) ⟨[]⟩ ⟨caps2⟩] w (fun v w'=>∃ (μ':M) ,v=.int .i64 r∧Le μ0 μ'∧Sq μ' w0 w' (rsF)):=by
 unfold lx_while at h
 refine enter func94 rfl (frm:=_::_::u1 (u2 (u5 (u10 [])))) rfl (nz (st (nx (st (ny (cblock ?_))))))
 refine cloopE (rg 6 13) (by decide) (fun n m w=>∃ μx i13,m=(yK5 (.i (.int .i64 i13)::(yO10 6 (yO3 16 []))))∧lx_while_l1 p_1 p_2 n i13=some r∧Le μ0 μx∧Sq μx w0 w (rsF)) (by rintro _ _ _ ⟨_,_,rfl,_⟩; rfl) _ _ (aK5 (aI (aO10 (aO3 aZ)))) ⟨_,0,rfl,h,Le.r,hS⟩ ?_
 rintro n_1 _ t w1 ⟨μ1,i13,rfl,h,le23,hS⟩
 rcases n_1 with _|n_1
 cases h
 unfold lx_while_l1 at h
 refine cnrm (mK5 (mi (mO10 (mO3 mz)))) (cseq (cseq ?_))
 refine ccutE (rg 6 10) (by decide) (fun m w=>∃ μx b24,m=(yK6 (yO10 6 (.i (.bool b24)::[])))∧lx_while_j1 i13 (lx_while_l1 p_1 p_2 n_1) b24=some r∧Le μ1 μx∧Sq μx w0 w (rsF)) (by rintro _ _ ⟨_,_,rfl,_⟩; rfl) ?_ ?_
 refine creg ?_
 iterate 2 refine st ?_
 refine wl (su (u_lens underlying9 (et d7)) (dt p8) ?_)
 iterate 2 refine st ?_
 refine zWd 10 h ?_ ?_
 intro h25 h
 refine sy rfl (sy rfl (sy rfl ?_))
 obtain ⟨u26,g27,h⟩:=bI h
 refine wy rfl (k10 d0) (s_idxc underlying9 (et (k10 d2)) (et (k10 d3)) g27 (dt (q10 p4)) ?_)
 obtain ⟨b28,g29,h⟩:=bI h
 refine wy rfl (k10 d0) (s_callc m3.isfn (et (k10 d1)) (e1 (et (k10 d4)) e0) ((m3.up le23).call (cs:=[.int .u8 (u26.toNat:Int)]) Le.r rfl g29 hS) ?_)
 rintro _ w2 ⟨μ2,rfl,le30,hS⟩; refine po ?_
 refine st (wnil (xl ?_))
 exact ⟨_,_,rfl,(aK6 (aO10 (aI aZ))),_,_,rfl,h,le30,hS⟩
 intro h25 h
 refine sn rfl rfl (sn rfl rfl (sn rfl rfl (sn rfl rfl (sn rfl rfl (st (wnil (xl ?_)))))))
 exact ⟨_,_,rfl,(aK6 (aO10 (aI aZ))),_,false,rfl,h,Le.r,hS⟩
 rintro _ t w3 ⟨μ3,b24,rfl,h,le31,hS⟩
 unfold lx_while_j1 at h
 refine nrm (mK6 (mO10 (mi mz))) (xn ?_)
 refine zCb h ?_ ?_
 intro h32 h
 refine cskip (xn (cblock (creg (st ?_))))
 obtain ⟨i33,g34,h⟩:=bI h
 refine wl (su (u_addc (et (k10 d7)) ec g34) (dt (q10 p8)) (st (wnil ?_)))
 refine (fun h=>bn (xl h)) ?_
 exact ⟨n_1,_,_,rfl,(aK5 (aI (aO10 (aO3 aZ)))),⟨_,i33,rfl,h,(le23.t le31),hS⟩,Nat.lt_succ_self _⟩
 intro h32 h
 refine cexit ?_
 refine (fun h=>xe (xe (bh h))) ?_
 refine xn (nz ?_)
 iterate 2 refine st ?_
 refine nw (cret ?_)
 obtain rfl:=oI h
 refine ret1 rfl d4 ?_
 exact ⟨_,rfl,(le23.t le31),hS⟩
theorem lx_n1_w (hg:Le Gm μ0) {p_1:UInt8} {r:Bool}  (h:lx_n1 p_1=some r) (hS:Sq μ0 w0 w (rsF)):CallsV prog 95 [.int .u8 (p_1.toNat:Int)] w (fun v w'=>∃ (μ':M) ,v=.bool r∧Le μ0 μ'∧Sq μ' w0 w' (rsF)):=by
 unfold lx_n1 at h
 refine enter func95 rfl (frm:=_::u1 (u2 (u5 []))) rfl (nz (st (nx (st ?_))))
 obtain ⟨r1,g2,h⟩:=bI h
 refine ca (lx_letter_w hg g2 hS) ?_
 rintro _ w1 ⟨μ1,rfl,le3,hS⟩
 refine po (st ?_)
 refine zWb 5 h ?_ ?_
 intro h4 h
 refine sn rfl rfl (sn rfl rfl ?_)
 iterate 2 refine st ?_
 refine nw (cret ?_)
 obtain rfl:=oI h
 refine ret1 rfl d2 ?_
 exact ⟨_,rfl,le3,hS⟩
 intro h4 h
 refine sy rfl ?_
 obtain ⟨r5,g6,h⟩:=bI h
 refine wy rfl d5 (s_callv isfn96 ef (e1 (et d6) e0) (lx_digit_w (hg.t le3) g6 hS) ?_)
 rintro _ w2 ⟨μ2,rfl,le7,hS⟩
 refine po ?_
 iterate 2 refine st ?_
 refine nw (cret ?_)
 obtain rfl:=oI h
 refine ret1 rfl d2 ?_
 exact ⟨_,rfl,(le3.t le7),hS⟩
theorem lex_named_w (hg:Le Gm μ0) {p_1:List UInt8} {r:Bool}  (h:lex_named fu p_1=some r) (hS:Sq μ0 w0 w (rsF)):CallsV prog 74 [S p_1] w (fun v w'=>∃ (μ':M) ,v=.bool r∧Le μ0 μ'∧Sq μ' w0 w' (rsF)):=by
 unfold lex_named at h
 refine enter func74 rfl (frm:=_::u2 (u5 (u20 []))) rfl (nz (st (ny (cseq ?_))))
 refine ccutE (rg 3 19) (by decide) (fun m w=>∃ μx b1,m=(yK3 (yO10 3 (yO9 13 (.i (.bool b1)::[]))))∧lex_named_j1 fu p_1 b1=some r∧Le μ0 μx∧Sq μx w0 w (rsF)) (by rintro _ _ ⟨_,_,rfl,_⟩; rfl) ?_ ?_
 refine creg (st (wl (su (u_lens underlying9 (et d3)) (dt p4) ?_)))
 iterate 2 refine st ?_
 refine zWd 6 h ?_ ?_
 intro h2 h
 refine sn rfl rfl (sn rfl rfl (sn rfl rfl ?_))
 iterate 2 refine st ?_
 refine sn rfl rfl (sn rfl rfl (sn rfl rfl (sn rfl rfl ?_)))
 iterate 2 refine st ?_
 refine sn rfl rfl (sn rfl rfl (sn rfl rfl (sn rfl rfl (st (wnil (xl ?_))))))
 exact ⟨_,_,rfl,(aK3 (aO10 (aO9 (aI aZ)))),_,true,rfl,h,Le.r,hS⟩
 intro h2 h
 refine sy rfl (wy rfl d6 (su (u_lens underlying9 (et d7)) (dt p8) (sy rfl ?_)))
 iterate 2 refine st ?_
 refine zWd 11 h ?_ ?_
 intro h3 h
 refine sn rfl rfl (sn rfl rfl (sn rfl rfl (sn rfl rfl ?_)))
 iterate 2 refine st ?_
 refine sn rfl rfl (sn rfl rfl (sn rfl rfl (sn rfl rfl (st (wnil (xl ?_))))))
 exact ⟨_,_,rfl,(aK3 (aO10 (aO9 (aI aZ)))),_,true,rfl,h,Le.r,hS⟩
 intro h3 h
 refine sy rfl ?_
 obtain ⟨u4,g5,h⟩:=bI h
 refine wy rfl (k10 d1) (s_idxc underlying9 (et (k10 d2)) ec g5 (dt (q10 p3)) ?_)
 obtain ⟨r6,g7,h⟩:=bI h
 refine wy rfl (k10 d1) (s_callv isfn92 ef (e1 (et (k10 d3)) e0) (lx_letter_w hg g7 hS) ?_)
 rintro _ w1 ⟨μ1,rfl,le8,hS⟩
 refine po (sy rfl ?_)
 iterate 2 refine st ?_
 refine zWe 17 h ?_ ?_
 intro h9 h
 refine sn rfl rfl (sn rfl rfl (sn rfl rfl (sn rfl rfl (st (wnil (xl ?_))))))
 exact ⟨_,_,rfl,(aK3 (aO10 (aO9 (aI aZ)))),_,true,rfl,h,le8,hS⟩
 intro h9 h
 refine sy rfl ?_
 obtain ⟨s10,g11,h⟩:=bI h
 refine wy rfl (k10 d7) (su (u_catc ec (et (k10 d8)) g11) (dt (q10 p9)) ?_)
 obtain ⟨s12,g13,h⟩:=bI h
 refine wy rfl (k10 d7) (su (u_catc (et (k10 d9)) ec g13) (dt (q20 p0)) ?_)
 obtain ⟨b14,g15,h⟩:=bI h
 refine wy rfl (k10 d7) (s_callv isfn93 ef (e1 ec (e1 (et (k20 d0)) e0)) (scont_w (hg.t le8) g15 hS) ?_); clear hS; rintro _ w2 ⟨rfl,hS⟩; refine po ?_
 refine st (wnil (xl ?_))
 exact ⟨_,_,rfl,(aK3 (aO10 (aO9 (aI aZ)))),_,_,rfl,h,le8,hS⟩
 rintro _ t w3 ⟨μ2,b1,rfl,h,le16,hS⟩
 unfold lex_named_j1 at h
 refine nrm (mK3 (mO10 (mO9 (mi mz)))) (xn ?_)
 refine zCb h ?_ ?_
 intro h17 h
 refine nz (st (nw (cret (xr ?_))))
 obtain rfl:=oI h
 refine ret1 rfl d2 ?_
 exact ⟨_,rfl,le16,hS⟩
 intro h17 h
 refine cskip (xn (nz (st ?_)))
 obtain ⟨r18,g19,h⟩:=bI h
 refine wl (s_callv isfn94 ef (e1 (et (k20 d3)) (e1 ef e0)) (lx_while_w (hg.t le16) (⟨isfn95,fun hle_ hm_ g_ hS_=>by obtain rfl:=hm_; exact lx_n1_w ((hg.t le16).t hle_)  g_ hS_⟩) g19 hS) ?_)
 rintro _ w4 ⟨μ3,rfl,le20,hS⟩
 refine po (st (wl (su (u_lens underlying9 (et (k20 d5))) (dt (q20 p6)) ?_)))
 iterate 2 refine st ?_
 refine nw (cret ?_)
 obtain rfl:=oI h
 refine ret1 rfl d2 ?_
 exact ⟨_,rfl,(le16.t le20),hS⟩
end Go.Proofs.Yteiemedhecjgiaa
set_option maxRecDepth 100000
set_option maxHeartbeats 20000000
namespace Go.Proofs.Yteiemedhecjgiaa
open Go.Wk Go.Xt Go.Y Try
variable {b1 b3 c2 c6 c9 fu o4:Nat} {a1 a5 a8:Option Addr} {μ0:M} {w0 w:World} {rsF:List Res}
theorem syn_kids_w (hg:Le Gm μ0) {p_1 r:Int}  (h:syn_kids p_1=some r) (hS:Sq μ0 w0 w (rsF)):CallsV prog 112 [.int .i64 p_1] w (fun v w'=>∃ (μ':M) ,v=.int .i64 r∧Le μ0 μ'∧Sq μ' w0 w' (rsF)):=by
 unfold syn_kids at h
 refine enter func112 rfl (frm:=_::u2 (u5 (u20 []))) rfl (nz (st (ny (cblock (cseq ?_)))))
 refine ccutE (rg 4 6) (by decide) (fun m w=>∃ μx b1,m=(yK3 (.i (.bool b1)::(yO6 4 [])))∧syn_kids_j1 p_1 b1=some r∧Le μ0 μx∧Sq μx w0 w (rsF)) (by rintro _ _ ⟨_,_,rfl,_⟩; rfl) ?_ ?_
 refine creg ?_
 iterate 3 refine st ?_
 refine zWd 6 h ?_ ?_
 intro h2 h
 refine sn rfl rfl (sn rfl rfl ?_)
 iterate 2 refine st ?_
 refine wnil (xl ?_)
 exact ⟨_,_,rfl,(aK3 (aI (aO6 aZ))),_,true,rfl,h,Le.r,hS⟩
 intro h2 h
 refine sy rfl (sy rfl ?_)
 iterate 2 refine st ?_
 refine wnil (xl ?_)
 exact ⟨_,_,rfl,(aK3 (aI (aO6 aZ))),_,(decide (p_1=20)),rfl,h,Le.r,hS⟩
 rintro _ t w1 ⟨μ1,b1,rfl,h,le3,hS⟩
 unfold syn_kids_j1 at h
 refine nrm (mK3 (mi (mO6 mz))) (xn ?_)
 refine zCb h ?_ ?_
 intro h4 h
 refine nz (st (nw (cret ?_)))
 refine (fun h=>br (xr h)) ?_
 obtain rfl:=oI h
 refine ret1 rfl d2 ?_
 exact ⟨_,rfl,le3,hS⟩
 intro h4 h
 refine cseq ?_
 refine ccutE (rg 11 10) (by decide) (fun m w=>∃ μx b5,m=(yK10 (.i (.bool b5)::(yO10 11 [])))∧syn_kids_j2 p_1 b5=some r∧Le μ1 μx∧Sq μx w0 w (rsF)) (by rintro _ _ ⟨_,_,rfl,_⟩; rfl) ?_ ?_
 refine creg ?_
 iterate 3 refine st ?_
 refine zWd 13 h ?_ ?_
 intro h6 h
 refine sn rfl rfl (sn rfl rfl ?_)
 iterate 2 refine st ?_
 refine sn rfl rfl (sn rfl rfl ?_)
 iterate 2 refine st ?_
 refine wnil (xl ?_)
 exact ⟨_,_,rfl,(aK10 (aI (aO10 aZ))),_,true,rfl,h,Le.r,hS⟩
 intro h6 h
 refine sy rfl (sy rfl ?_)
 iterate 2 refine st ?_
 refine zWd 17 h ?_ ?_
 intro h7 h
 refine sn rfl rfl (sn rfl rfl ?_)
 iterate 2 refine st ?_
 refine wnil (xl ?_)
 exact ⟨_,_,rfl,(aK10 (aI (aO10 aZ))),_,true,rfl,h,Le.r,hS⟩
 intro h7 h
 refine sy rfl (sy rfl ?_)
 iterate 2 refine st ?_
 refine wnil (xl ?_)
 exact ⟨_,_,rfl,(aK10 (aI (aO10 aZ))),_,(decide (p_1=24)),rfl,h,Le.r,hS⟩
 rintro _ t w2 ⟨μ2,b5,rfl,h,le8,hS⟩
 unfold syn_kids_j2 at h
 refine nrm (mK10 (mi (mO10 mz))) (xn ?_)
 refine zCb h ?_ ?_
 intro h9 h
 refine nz (st (nw (cret ?_)))
 refine (fun h=>br (xr h)) ?_
 obtain rfl:=oI h
 refine ret1 rfl d2 ?_
 exact ⟨_,rfl,(le3.t le8),hS⟩
 intro h9 h
 refine cseq ?_
 refine ccutE (rg 22 6) (by decide) (fun m w=>∃ μx b10,m=(yK20 (yK1 (.i (.bool b10)::(yO6 22 []))))∧syn_kids_j3 b10=some r∧Le μ2 μx∧Sq μx w0 w (rsF)) (by rintro _ _ ⟨_,_,rfl,_⟩; rfl) ?_ ?_
 refine creg ?_
 iterate 3 refine st ?_
 refine zWd 24 h ?_ ?_
 intro h11 h
 refine sn rfl rfl (sn rfl rfl ?_)
 iterate 2 refine st ?_
 refine wnil (xl ?_)
 exact ⟨_,_,rfl,(aK20 (aK1 (aI (aO6 aZ)))),_,true,rfl,h,Le.r,hS⟩
 intro h11 h
 refine sy rfl (sy rfl ?_)
 iterate 2 refine st ?_
 refine wnil (xl ?_)
 exact ⟨_,_,rfl,(aK20 (aK1 (aI (aO6 aZ)))),_,(decide (p_1=23)),rfl,h,Le.r,hS⟩
 rintro _ t w3 ⟨μ3,b10,rfl,h,le12,hS⟩
 unfold syn_kids_j3 at h
 refine nrm (mK20 (mK1 (mi (mO6 mz)))) (xn ?_)
 refine zCb h ?_ ?_
 intro h13 h
 refine nz (st (nw (cret ?_)))
 refine (fun h=>br (xr h)) ?_
 obtain rfl:=oI h
 refine ret1 rfl d2 ?_
 exact ⟨_,rfl,(le3.t (le8.t le12)),hS⟩
 intro h13 h
 refine cskip ?_
 refine (fun h=>bn (xn h)) ?_
 refine nz (st (nw (cret ?_)))
 obtain rfl:=oI h
 refine ret1 rfl d2 ?_
 exact ⟨_,rfl,(le3.t (le8.t le12)),hS⟩
theorem syn_node_w (hg:Le Gm μ0) {node_2 p_2:Int} {r:Int×Int}  (h:syn_node node_2 p_2=some r) (hS:Sq μ0 w0 w (.blk b1 137 [.int .i64 node_2]::rsF)):CallsV prog 73 [.pointer (some ⟨b1,0,none⟩),.int .i64 p_2] w (fun v w'=>∃ (μ':M) ,v=.int .i64 r.1∧Le μ0 μ'∧Sq μ' w0 w' (.blk b1 137 [.int .i64 r.2]::rsF)):=by
 unfold syn_node at h
 refine enter func73 rfl (frm:=_::_::u2 (u2 (u5 (u10 [])))) rfl (nz (st (ny (nz ?_))))
 iterate 3 refine st ?_
 refine ld ((hS.blk d0).cell d0) ?_
 obtain ⟨i3,g4,h⟩:=bI h
 refine wl (su (u_addc (et d8) ec g4) (dt p9) ?_)
 iterate 2 refine st ?_
 refine wl (s_store1 ti3 (et (k10 d1)) (et d9) rfl hS d0 p0 rfl p0 dn ?_)
 clear hS; intro w1 hS
 refine ny ?_
 refine ccutE (rg 12 8) (by decide) (fun m w=>∃ μx b5,m=(yK10 (yK2 (yO8 12 (.i (.bool b5)::[]))))∧syn_node_j1 i3 b5=some r∧Le μ0 μx∧Sq μx w0 w (.blk b1 137 [.int .i64 i3]::rsF)) (by rintro _ _ ⟨_,_,rfl,_⟩; rfl) ?_ ?_
 refine creg ?_
 iterate 3 refine st ?_
 refine ld ((hS.blk d0).cell d0) ?_
 iterate 2 refine st ?_
 refine zWd 17 h ?_ ?_
 intro h6 h
 refine sn rfl rfl (sn rfl rfl (st (wnil (xl ?_))))
 exact ⟨_,_,rfl,(aK10 (aK2 (aO8 (aI aZ)))),_,true,rfl,h,Le.r,hS⟩
 intro h6 h
 refine sy rfl (sy rfl (st (wnil (xl ?_))))
 exact ⟨_,_,rfl,(aK10 (aK2 (aO8 (aI aZ)))),_,(decide ((40:Int)<p_2)),rfl,h,Le.r,hS⟩
 rintro _ t w2 ⟨μ1,b5,rfl,h,le7,hS⟩
 unfold syn_node_j1 at h
 refine nrm (mK10 (mK2 (mO8 (mi mz)))) (xn ?_)
 refine zCb h ?_ ?_
 intro h8 h
 refine nz (st (nw (cret (xr ?_))))
 obtain rfl:=oI h
 refine ret1 rfl d4 ?_
 exact ⟨_,rfl,le7,hS⟩
 intro h8 h
 refine cskip (xn (nz (st (nw (cret ?_)))))
 obtain rfl:=oI h
 refine ret1 rfl d4 ?_
 exact ⟨_,rfl,le7,hS⟩
theorem syn_typ_w (hg:Le Gm μ0) {p_1:TType} {r:Int}  (h:syn_typ fu p_1=some r) (hS:Sq μ0 w0 w (rsF)):CallsV prog 75 [.agg ⟨[.int .i64 p_1.Kind,S p_1.Gen]⟩] w (fun v w'=>∃ (μ':M) ,v=.int .i64 r∧Le μ0 μ'∧Sq μ' w0 w' (rsF)):=by
 unfold syn_typ at h
 refine enter func75 rfl (frm:=_::u1 (u20 [])) rfl (nz ?_)
 refine wl (s_box (et d0) rfl hS ?_); clear hS; intro b1 w1 hb2 hS; refine po ?_
 refine st (ny (cblock (cseq ?_)))
 refine ccutE (rg 4 8) (by decide) (fun m w=>∃ μx b3,m=(yK3 (.i (.bool b3)::(yO8 4 [])))∧syn_typ_j1 fu p_1 b3=some r∧Le μ0 μx∧Sq μx w0 w (.blk b1 55 [.int .i64 p_1.Kind,S p_1.Gen]::rsF)) (by rintro _ _ ⟨_,_,rfl,_⟩; rfl) ?_ ?_
 refine creg (st (ld ((hS.blk d0).cell d0) ?_))
 iterate 2 refine st ?_
 refine zWd 7 h ?_ ?_
 intro h4 h
 refine sn rfl rfl (sn rfl rfl (sn rfl rfl ?_))
 iterate 2 refine st ?_
 refine wnil (xl ?_)
 exact ⟨_,_,rfl,(aK3 (aI (aO8 aZ))),_,true,rfl,h,Le.r,hS⟩
 intro h4 h
 refine sy rfl (wy rfl d7 (s_load ti3 (et d8) ((hS.blk d0).cell d0) (dt p9) (sy rfl ?_)))
 iterate 2 refine st ?_
 refine wnil (xl ?_)
 exact ⟨_,_,rfl,(aK3 (aI (aO8 aZ))),_,(decide ((3:Int)<p_1.Kind)),rfl,h,Le.r,hS⟩
 rintro _ t w2 ⟨μ1,b3,rfl,h,le5,hS⟩
 unfold syn_typ_j1 at h
 refine nrm (mK3 (mi (mO8 mz))) (xn ?_)
 refine zCb h ?_ ?_
 intro h6 h
 refine nz (st (nw (cret ?_)))
 refine (fun h=>br (xr h)) ?_
 obtain rfl:=oI h
 refine ret1 rfl d2 ?_
 replace hS:=hS.drop Rm.z
 exact ⟨_,rfl,le5,hS⟩
 intro h6 h
 refine cseq ?_
 refine ccutE (rg 13 9) (by decide) (fun m w=>∃ μx b7,m=(yK10 (yK2 (.i (.bool b7)::(yO9 13 []))))∧syn_typ_j2 b7=some r∧Le μ1 μx∧Sq μx w0 w (rsF)) (by rintro _ _ ⟨_,_,rfl,_⟩; rfl) ?_ ?_
 refine creg (st (ld ((hS.blk d0).cell d0) ?_))
 iterate 2 refine st ?_
 refine zWd 16 h ?_ ?_
 intro h8 h
 refine sy rfl (wy rfl (k10 d6) (s_load ti9 (et (k10 d7)) ((hS.blk d0).cell d1) (dt (q10 p8)) ?_))
 obtain ⟨r9,g10,h⟩:=bI h
 refine wy rfl (k10 d6) (s_callv isfn74 ef (e1 (et (k10 d8)) e0) (lex_named_w (hg.t le5) g10 hS) ?_)
 rintro _ w3 ⟨μ2,rfl,le11,hS⟩
 refine po (sy rfl ?_)
 iterate 2 refine st ?_
 refine wnil (xl ?_)
 replace hS:=hS.drop Rm.z
 exact ⟨_,_,rfl,(aK10 (aK2 (aI (aO9 aZ)))),_,(!r9),rfl,h,le11,hS⟩
 intro h8 h
 refine sn rfl rfl (sn rfl rfl (sn rfl rfl (sn rfl rfl ?_)))
 iterate 2 refine st ?_
 refine wnil (xl ?_)
 replace hS:=hS.drop Rm.z
 exact ⟨_,_,rfl,(aK10 (aK2 (aI (aO9 aZ)))),_,false,rfl,h,Le.r,hS⟩
 rintro _ t w4 ⟨μ3,b7,rfl,h,le12,hS⟩
 unfold syn_typ_j2 at h
 refine nrm (mK10 (mK2 (mi (mO9 mz)))) (xn ?_)
 refine zCb h ?_ ?_
 intro h13 h
 refine nz (st (nw (cret ?_)))
 refine (fun h=>br (xr h)) ?_
 obtain rfl:=oI h
 refine ret1 rfl d2 ?_
 exact ⟨_,rfl,(le5.t le12),hS⟩
 intro h13 h
 refine cskip ?_
 refine (fun h=>bn (xn h)) ?_
 refine nz (st (nw (cret ?_)))
 obtain rfl:=oI h
 refine ret1 rfl d2 ?_
 exact ⟨_,rfl,(le5.t le12),hS⟩
def syn_expr_S (q:Int→TExpr→Int→Option (Int×Int)):Prop:=∀ {μ0:M} {w0 w:World} {rsF:List Res} (hg:Le Gm μ0) {b1:Nat} {node_2:Int} {p_2:TExpr} {b3 o4:Nat} {a5:Option Addr} {c6:Nat} {p_3:Int} {r:Int×Int} (m7:Sl μ0 a5 c6 p_2.Kids) (m8:At μ0 b3 o4 [.int .i64 p_2.Kind,.int .i64 p_2.N,S p_2.Name,.slice a5 p_2.Kids.length c6]) (h:q node_2 p_2 p_3=some r) (hS:Sq μ0 w0 w (.blk b1 137 [.int .i64 node_2]::rsF)),CallsV prog 106 [.pointer (some ⟨b1,0,none⟩),.pointer (some ⟨b3,o4,none⟩),.int .i64 p_3] w (fun v w'=>∃ (μ':M) ,v=.int .i64 r.1∧Le μ0 μ'∧Sq μ' w0 w' (.blk b1 137 [.int .i64 r.2]::rsF))
structure SynExprSound (sf:SynExpr):Prop where
  syn_expr:syn_expr_S sf.syn_expr
theorem syn_expr_w {fu:Nat} {self:SynExpr} (IH:SynExprSound self):syn_expr_S (syn_expr fu self):=by
 intro μ0 w0 w rsF hg b1 node_2 p_2 b3 o4 a5 c6 p_3 r m7 m8 h hS
 unfold syn_expr at h
 refine enter func106 rfl (frm:=_::_::_::u2 (u2 (u5 (u10 (u20 (u50 (u50 []))))))) rfl (nz (st (ny (nz ?_))))
 iterate 2 refine st ?_
 obtain ⟨r9,g10,h⟩:=bI h
 refine ca (syn_node_w hg g10 hS) ?_
 rintro _ w1 ⟨μ1,rfl,le11,hS⟩
 refine po (st (nx ?_))
 iterate 2 refine st ?_
 refine nw ?_
 refine zCd h ?_ ?_
 intro h12 h
 refine nz ?_
 iterate 2 refine st ?_
 refine nw (cret (xr ?_))
 obtain rfl:=oI h
 refine ret1 rfl d6 ?_
 exact ⟨_,rfl,le11,hS⟩
 intro h12 h
 refine cskip (xn (cseq (cseq ?_)))
 refine ccutE (rg 17 11) (by decide) (fun m w=>∃ μx b13,m=(yK10 (yK7 (yO10 17 (yO1 27 (.i (.bool b13)::[])))))∧syn_expr_j1 fu self p_2 p_3 r9 b13=some r∧Le μ1 μx∧Sq μx w0 w (.blk b1 137 [.int .i64 r9.2]::rsF)) (by rintro _ _ ⟨_,_,rfl,_⟩; rfl) ?_ ?_
 refine creg ?_
 iterate 3 refine st ?_
 refine ld ((m8 _ (le11 _ hS.a)).one d0) ?_
 iterate 2 refine st ?_
 refine zWd 22 h ?_ ?_
 intro h14 h
 refine sn rfl rfl (sn rfl rfl (sn rfl rfl (sn rfl rfl (sn rfl rfl (st (wnil (xl ?_)))))))
 exact ⟨_,_,rfl,(aK10 (aK7 (aO10 (aO1 (aI aZ))))),_,true,rfl,h,Le.r,hS⟩
 intro h14 h
 refine sy rfl (sy rfl (sy rfl (wy rfl (k20 d2) (s_load ti3 (et (k20 d5)) ((m8 _ (le11 _ hS.a)).one d0) (dt (q20 p6)) (sy rfl (st (wnil (xl ?_))))))))
 exact ⟨_,_,rfl,(aK10 (aK7 (aO10 (aO1 (aI aZ))))),_,(decide ((24:Int)<p_2.Kind)),rfl,h,Le.r,hS⟩
 rintro _ t w2 ⟨μ2,b13,rfl,h,le15,hS⟩
 unfold syn_expr_j1 at h
 refine nrm (mK10 (mK7 (mO10 (mO1 (mi mz))))) (xn ?_)
 refine zCb h ?_ ?_
 intro h16 h
 refine nz (st (nw (cret (xr ?_))))
 obtain rfl:=oI h
 refine ret1 rfl d6 ?_
 exact ⟨_,rfl,(le11.t le15),hS⟩
 intro h16 h
 refine cskip (xn (nz ?_))
 iterate 3 refine st ?_
 refine ld ((m8 _ ((le11.t le15) _ hS.a)).one d0) ?_
 obtain ⟨r17,g18,h⟩:=bI h
 refine ca (syn_kids_w (hg.t (le11.t le15)) g18 hS) ?_
 rintro _ w3 ⟨μ3,rfl,le19,hS⟩
 refine po (st (ny (cblock (cseq (cseq ?_)))))
 refine ccutE (rg 35 19) (by decide) (fun m w=>∃ μx b20,m=(yK20 (yK10 (yK4 (.i (.bool b20)::(yO10 35 (yO9 45 []))))))∧syn_expr_j2 fu self p_2 p_3 r9 r17 b20=some r∧Le μ3 μx∧Sq μx w0 w (.blk b1 137 [.int .i64 r9.2]::rsF)) (by rintro _ _ ⟨_,_,rfl,_⟩; rfl) ?_ ?_
 refine creg ?_
 iterate 3 refine st ?_
 refine ld ((m8 _ ((le11.t (le15.t le19)) _ hS.a)).one d0) ?_
 iterate 2 refine st ?_
 refine zWd 40 h ?_ ?_
 intro h21 h
 refine sy rfl (sy rfl (sy rfl (wy rfl (k40 d0) (s_load ti2 (et (k40 d3)) ((m8 _ ((le11.t (le15.t le19)) _ hS.a)).one d1) (dt (q40 p4)) (sy rfl (sy rfl ?_))))))
 refine zWd 46 h ?_ ?_
 intro h22 h
 refine sn rfl rfl (sn rfl rfl (sn rfl rfl (sn rfl rfl (sn rfl rfl (sy rfl ?_)))))
 iterate 2 refine st ?_
 refine wnil (xl ?_)
 exact ⟨_,_,rfl,(aK20 (aK10 (aK4 (aI (aO10 (aO9 aZ)))))),_,true,rfl,h,Le.r,hS⟩
 intro h22 h
 refine sy rfl (sy rfl (sy rfl (wy rfl (k40 d6) (s_load ti2 (et (k40 d9)) ((m8 _ ((le11.t (le15.t le19)) _ hS.a)).one d1) (dt (q50 p0)) (sy rfl (sy rfl ?_))))))
 iterate 2 refine st ?_
 refine wnil (xl ?_)
 exact ⟨_,_,rfl,(aK20 (aK10 (aK4 (aI (aO10 (aO9 aZ)))))),_,(decide ((999999999999999:Int)<p_2.N)),rfl,h,Le.r,hS⟩
 intro h21 h
 refine sn rfl rfl (sn rfl rfl (sn rfl rfl (sn rfl rfl (sn rfl rfl (sn rfl rfl (wu rfl (k40 d6) (dt (q40 p7)) (wu rfl (k40 d6) (dt (q40 p8)) (wu rfl (k40 d6) (dt (q40 p9)) (wu rfl (k40 d6) (dt (q50 p0)) (wu rfl (k40 d6) (dt (q50 p1)) (sn rfl rfl ?_)))))))))))
 iterate 2 refine st ?_
 refine wnil (xl ?_)
 exact ⟨_,_,rfl,(aK20 (aK10 (aK4 (aI (aO10 (aO9 aZ)))))),_,false,rfl,h,Le.r,hS⟩
 rintro _ t w4 ⟨μ4,b20,rfl,h,le23,hS⟩
 unfold syn_expr_j2 at h
 refine nrm (mK20 (mK10 (mK4 (mi (mO10 (mO9 mz)))))) (xn ?_)
 refine ccutE (rg 54 19) (by decide) (fun m w=>∃ μx b24,m=(yK20 (yK10 (yK4 (.i (.bool b24)::(yK10 (yK9 (yO10 54 (yO9 64 []))))))))∧syn_expr_j3 fu self p_2 p_3 r9 r17 b24=some r∧Le μ4 μx∧Sq μx w0 w (.blk b1 137 [.int .i64 r9.2]::rsF)) (by rintro _ _ ⟨_,_,rfl,_⟩; rfl) ?_ ?_
 refine zCb h ?_ ?_
 intro h25 h
 refine cskip (xl ?_)
 exact ⟨_,_,rfl,(aK20 (aK10 (aK4 (aI (aK10 (aK9 (aO10 (aO9 aZ)))))))),_,_,rfl,h,Le.r,hS⟩
 intro h25 h
 refine creg ?_
 iterate 3 refine st ?_
 refine ld ((m8 _ ((le11.t (le15.t (le19.t le23))) _ hS.a)).one d0) ?_
 iterate 2 refine st ?_
 refine zWd 59 h ?_ ?_
 intro h26 h
 refine sy rfl (sy rfl (sy rfl (wy rfl (k50 d9) (s_load ti2 (et (k60 d2)) ((m8 _ ((le11.t (le15.t (le19.t le23))) _ hS.a)).one d1) (dt (q60 p3)) (sy rfl ?_)))))
 iterate 2 refine st ?_
 refine zWd 66 h ?_ ?_
 intro h27 h
 refine sy rfl (sy rfl (sy rfl (wy rfl (k60 d6) (s_load ti2 (et (k60 d9)) ((m8 _ ((le11.t (le15.t (le19.t le23))) _ hS.a)).one d1) (dt (q70 p0)) (sy rfl ?_)))))
 iterate 2 refine st ?_
 refine wnil (xl ?_)
 exact ⟨_,_,rfl,(aK20 (aK10 (aK4 (aI (aK10 (aK9 (aO10 (aO9 aZ)))))))),_,(decide (p_2.N≠1)),rfl,h,Le.r,hS⟩
 intro h27 h
 refine sn rfl rfl (sn rfl rfl (sn rfl rfl (sn rfl rfl (sn rfl rfl ?_))))
 iterate 2 refine st ?_
 refine wnil (xl ?_)
 exact ⟨_,_,rfl,(aK20 (aK10 (aK4 (aI (aK10 (aK9 (aO10 (aO9 aZ)))))))),_,false,rfl,h,Le.r,hS⟩
 intro h26 h
 refine sn rfl rfl (sn rfl rfl (sn rfl rfl (sn rfl rfl (sn rfl rfl ?_))))
 iterate 2 refine st ?_
 refine sn rfl rfl (sn rfl rfl (sn rfl rfl (sn rfl rfl (sn rfl rfl ?_))))
 iterate 2 refine st ?_
 refine wnil (xl ?_)
 exact ⟨_,_,rfl,(aK20 (aK10 (aK4 (aI (aK10 (aK9 (aO10 (aO9 aZ)))))))),_,false,rfl,h,Le.r,hS⟩
 rintro _ t w5 ⟨μ5,b24,rfl,h,le28,hS⟩
 unfold syn_expr_j3 at h
 refine nrm (mK20 (mK10 (mK4 (mi (mK10 (mK9 (mO10 (mO9 mz)))))))) (xn ?_)
 refine zCb h ?_ ?_
 intro h29 h
 refine nz (st (nw (cret ?_)))
 refine (fun h=>br (xr h)) ?_
 obtain rfl:=oI h
 refine ret1 rfl d6 ?_
 exact ⟨_,rfl,(le11.t (le15.t (le19.t (le23.t le28)))),hS⟩
 intro h29 h
 refine cseq ?_
 refine ccutE (rg 74 24) (by decide +kernel) (fun m w=>∃ μx b30,m=(yK50 (yK20 (yK3 (.i (.bool b30)::(yO20 74 (yO4 94 []))))))∧syn_expr_j4 self p_2 p_3 r9 r17 b30=some r∧Le μ5 μx∧Sq μx w0 w (.blk b1 137 [.int .i64 r9.2]::rsF)) (by rintro _ _ ⟨_,_,rfl,_⟩; rfl) ?_ ?_
 refine creg ?_
 iterate 3 refine st ?_
 refine ld ((m8 _ ((le11.t (le15.t (le19.t (le23.t le28)))) _ hS.a)).one d0) ?_
 iterate 2 refine st ?_
 refine zWd 79 h ?_ ?_
 intro h31 h
 refine sn rfl rfl (sn rfl rfl (sn rfl rfl (sn rfl rfl (sn rfl rfl ?_))))
 iterate 2 refine st ?_
 refine sn rfl rfl (sn rfl rfl ?_)
 iterate 2 refine st ?_
 refine sy rfl (sy rfl (sy rfl (wy rfl (k90 d0) (s_load ti9 (et (k90 d3)) ((m8 _ ((le11.t (le15.t (le19.t (le23.t le28)))) _ hS.a)).one d2) (dt (q90 p4)) ?_))))
 obtain ⟨r32,g33,h⟩:=bI h
 refine wy rfl (k90 d0) (s_callv isfn74 ef (e1 (et (k90 d4)) e0) (lex_named_w (hg.t (le11.t (le15.t (le19.t (le23.t le28))))) g33 hS) ?_)
 rintro _ w6 ⟨μ6,rfl,le34,hS⟩
 refine po (sy rfl ?_)
 iterate 2 refine st ?_
 refine wnil (xl ?_)
 exact ⟨_,_,rfl,(aK50 (aK20 (aK3 (aI (aO20 (aO4 aZ)))))),_,(!r32),rfl,h,le34,hS⟩
 intro h31 h
 refine sy rfl (sy rfl (sy rfl (wy rfl (k70 d9) (s_load ti3 (et (k80 d2)) ((m8 _ ((le11.t (le15.t (le19.t (le23.t le28)))) _ hS.a)).one d0) (dt (q80 p3)) (sy rfl ?_)))))
 iterate 2 refine st ?_
 refine zWd 86 h ?_ ?_
 intro h35 h
 refine sn rfl rfl (sn rfl rfl ?_)
 iterate 2 refine st ?_
 refine sy rfl (sy rfl (sy rfl (wy rfl (k90 d0) (s_load ti9 (et (k90 d3)) ((m8 _ ((le11.t (le15.t (le19.t (le23.t le28)))) _ hS.a)).one d2) (dt (q90 p4)) ?_))))
 obtain ⟨r36,g37,h⟩:=bI h
 refine wy rfl (k90 d0) (s_callv isfn74 ef (e1 (et (k90 d4)) e0) (lex_named_w (hg.t (le11.t (le15.t (le19.t (le23.t le28))))) g37 hS) ?_)
 rintro _ w7 ⟨μ7,rfl,le38,hS⟩
 refine po (sy rfl ?_)
 iterate 2 refine st ?_
 refine wnil (xl ?_)
 exact ⟨_,_,rfl,(aK50 (aK20 (aK3 (aI (aO20 (aO4 aZ)))))),_,(!r36),rfl,h,le38,hS⟩
 intro h35 h
 refine sy rfl (sy rfl ?_)
 iterate 2 refine st ?_
 refine zWd 90 h ?_ ?_
 intro h39 h
 refine sy rfl (sy rfl (sy rfl (wy rfl (k90 d0) (s_load ti9 (et (k90 d3)) ((m8 _ ((le11.t (le15.t (le19.t (le23.t le28)))) _ hS.a)).one d2) (dt (q90 p4)) ?_))))
 obtain ⟨r40,g41,h⟩:=bI h
 refine wy rfl (k90 d0) (s_callv isfn74 ef (e1 (et (k90 d4)) e0) (lex_named_w (hg.t (le11.t (le15.t (le19.t (le23.t le28))))) g41 hS) ?_)
 rintro _ w8 ⟨μ8,rfl,le42,hS⟩
 refine po (sy rfl ?_)
 iterate 2 refine st ?_
 refine wnil (xl ?_)
 exact ⟨_,_,rfl,(aK50 (aK20 (aK3 (aI (aO20 (aO4 aZ)))))),_,(!r40),rfl,h,le42,hS⟩
 intro h39 h
 refine sn rfl rfl (sn rfl rfl (sn rfl rfl (sn rfl rfl (sn rfl rfl (sn rfl rfl ?_)))))
 iterate 2 refine st ?_
 refine wnil (xl ?_)
 exact ⟨_,_,rfl,(aK50 (aK20 (aK3 (aI (aO20 (aO4 aZ)))))),_,false,rfl,h,Le.r,hS⟩
 rintro _ t w9 ⟨μ9,b30,rfl,h,le43,hS⟩
 unfold syn_expr_j4 at h
 refine nrm (mK50 (mK20 (mK3 (mi (mO20 (mO4 mz)))))) (xn ?_)
 refine zCb h ?_ ?_
 intro h44 h
 refine nz (st (nw (cret ?_)))
 refine (fun h=>br (xr h)) ?_
 obtain rfl:=oI h
 refine ret1 rfl d6 ?_
 exact ⟨_,rfl,(le11.t (le15.t (le19.t (le23.t (le28.t le43))))),hS⟩
 intro h44 h
 refine cseq (cseq ?_)
 refine ccutE (rg 99 11) (by decide) (fun m w=>∃ μx b45,m=(yK50 (yK20 (yK20 (yK8 (.i (.bool b45)::(yO10 99 (yO1 109 [])))))))∧syn_expr_j5 self p_2 p_3 r9 r17 b45=some r∧Le μ9 μx∧Sq μx w0 w (.blk b1 137 [.int .i64 r9.2]::rsF)) (by rintro _ _ ⟨_,_,rfl,_⟩; rfl) ?_ ?_
 refine creg ?_
 iterate 3 refine st ?_
 refine zWd 101 h ?_ ?_
 intro h46 h
 refine sy rfl (sy rfl (sy rfl (wy rfl (k100 d1) (s_load ti117 (et (k100 d4)) ((m8 _ ((le11.t (le15.t (le19.t (le23.t (le28.t le43))))) _ hS.a)).one d3) (dt (q100 p5)) (wy rfl (k100 d1) (su (u_lensl underlying117 (et (k100 d5))) (dt (q100 p6)) (sy rfl (sy rfl ?_))))))))
 iterate 2 refine st ?_
 refine wnil (xl ?_)
 exact ⟨_,_,rfl,(aK50 (aK20 (aK20 (aK8 (aI (aO10 (aO1 aZ))))))),_,(decide ((p_2.Kids.length:Int)≠r17)),rfl,h,Le.r,hS⟩
 intro h46 h
 refine sn rfl rfl (sn rfl rfl (sn rfl rfl (sn rfl rfl (sn rfl rfl (sn rfl rfl (sn rfl rfl ?_))))))
 iterate 2 refine st ?_
 refine wnil (xl ?_)
 exact ⟨_,_,rfl,(aK50 (aK20 (aK20 (aK8 (aI (aO10 (aO1 aZ))))))),_,false,rfl,h,Le.r,hS⟩
 rintro _ t w10 ⟨μ10,b45,rfl,h,le47,hS⟩
 unfold syn_expr_j5 at h
 refine nrm (mK50 (mK20 (mK20 (mK8 (mi (mO10 (mO1 mz))))))) (xn ?_)
 refine ccutE (rg 110 10) (by decide) (fun m w=>∃ μx b48,m=(yK50 (yK20 (yK20 (yK8 (.i (.bool b48)::(yK10 (yK1 (yO10 110 []))))))))∧syn_expr_j6 self p_2 p_3 r9 b48=some r∧Le μ10 μx∧Sq μx w0 w (.blk b1 137 [.int .i64 r9.2]::rsF)) (by rintro _ _ ⟨_,_,rfl,_⟩; rfl) ?_ ?_
 refine zCb h ?_ ?_
 intro h49 h
 refine cskip (xl ?_)
 exact ⟨_,_,rfl,(aK50 (aK20 (aK20 (aK8 (aI (aK10 (aK1 (aO10 aZ)))))))),_,_,rfl,h,Le.r,hS⟩
 intro h49 h
 refine creg ?_
 iterate 3 refine st ?_
 refine zWd 112 h ?_ ?_
 intro h50 h
 refine sy rfl (sy rfl (sy rfl (wy rfl (k100 (k10 d2)) (s_load ti117 (et (k100 (k10 d5))) ((m8 _ ((le11.t (le15.t (le19.t (le23.t (le28.t (le43.t le47)))))) _ hS.a)).one d3) (dt (q100 (q10 p6))) (wy rfl (k100 (k10 d2)) (su (u_lensl underlying117 (et (k100 (k10 d6)))) (dt (q100 (q10 p7))) (sy rfl ?_)))))))
 iterate 2 refine st ?_
 refine wnil (xl ?_)
 exact ⟨_,_,rfl,(aK50 (aK20 (aK20 (aK8 (aI (aK10 (aK1 (aO10 aZ)))))))),_,(decide ((6:Int)<(p_2.Kids.length:Int))),rfl,h,Le.r,hS⟩
 intro h50 h
 refine sn rfl rfl (sn rfl rfl (sn rfl rfl (sn rfl rfl (sn rfl rfl (sn rfl rfl ?_)))))
 iterate 2 refine st ?_
 refine wnil (xl ?_)
 exact ⟨_,_,rfl,(aK50 (aK20 (aK20 (aK8 (aI (aK10 (aK1 (aO10 aZ)))))))),_,false,rfl,h,Le.r,hS⟩
 rintro _ t w11 ⟨μ11,b48,rfl,h,le51,hS⟩
 unfold syn_expr_j6 at h
 refine nrm (mK50 (mK20 (mK20 (mK8 (mi (mK10 (mK1 (mO10 mz)))))))) (xn ?_)
 refine zCb h ?_ ?_
 intro h52 h
 refine nz (st (nw (cret ?_)))
 refine (fun h=>br (xr h)) ?_
 obtain rfl:=oI h
 refine ret1 rfl d6 ?_
 exact ⟨_,rfl,(le11.t (le15.t (le19.t (le23.t (le28.t (le43.t (le47.t le51))))))),hS⟩
 intro h52 h
 refine cskip ?_
 refine (fun h=>bn (xn h)) ?_
 refine cseq (nz ?_)
 iterate 3 refine st ?_
 refine ld ((m8 _ ((le11.t (le15.t (le19.t (le23.t (le28.t (le43.t (le47.t le51))))))) _ hS.a)).one d3) (wl (su (u_lensl underlying117 (et (k100 (k20 d3)))) (dt (q100 (q20 p4))) (st (nw (cblock ?_)))))
 refine cloopE ([6]++rg 9 2++rg 126 16) (by decide) (fun n m w=>∃ μx i72 i73,m=(yK6 (yO1 6 (yK2 (yO2 9 (yK50 (yK50 (yK10 (yK4 (.i (.int .i64 i72)::(yO10 126 (yO6 136 [])))))))))))∧syn_expr_l1 self p_2 p_3 n i72 i73=some r∧Le μ11 μx∧Sq μx w0 w (.blk b1 137 [.int .i64 i73]::rsF)) (by rintro _ _ _ ⟨_,_,_,rfl,_⟩; rfl) _ _ (aK6 (aO1 (aK2 (aO2 (aK50 (aK50 (aK10 (aK4 (aI (aO10 (aO6 aZ))))))))))) ⟨_,0,r9.2,rfl,h,Le.r,hS⟩ ?_
 rintro n_1 _ t w12 ⟨μ12,i72,i73,rfl,h,le92,hS⟩
 rcases n_1 with _|n_1
 cases h
 unfold syn_expr_l1 at h
 refine cnrm (mK6 (mO1 (mK2 (mO2 (mK50 (mK50 (mK10 (mK4 (mi (mO10 (mO6 mz))))))))))) (nz (st (ny ?_)))
 refine zCd h ?_ ?_
 intro h93 h
 refine cskip (xn (cseq (cblock (nz ?_))))
 iterate 2 refine st ?_
 refine nx ?_
 iterate 4 refine st ?_
 refine ld ((m8 _ ((le11.t (le15.t (le19.t (le23.t (le28.t (le43.t (le47.t (le51.t le92)))))))) _ hS.a)).one d3) (st ?_)
 obtain ⟨x94,g95,h⟩:=bI h
 obtain ⟨b96,o97,cs98,e99,f100,m101⟩:=SlR.elem (m7.up (le11.t (le15.t (le19.t (le23.t (le28.t (le43.t (le47.t (le51.t le92))))))))) g95
 obtain ⟨a102,c103,rfl,m104⟩:=TExpr.o m101
 refine wl (su (u_iax underlying117 ti119 (et (k100 (k30 d2))) (et (k100 (k30 d3))) e99) (dt (q100 (q30 p4))) (st ?_))
 obtain ⟨i105,g106,h⟩:=bI h
 refine wl (su (u_addc (et (k100 (k30 d5))) ec g106) (dt (q100 (q30 p6))) ?_)
 obtain ⟨r107,g108,h⟩:=bI h
 refine ca (IH.syn_expr (hg.t (le11.t (le15.t (le19.t (le23.t (le28.t (le43.t (le47.t (le51.t le92))))))))) m104 f100 g108 hS) ?_
 rintro _ w13 ⟨μ13,rfl,le109,hS⟩
 refine po (st (nx ?_))
 iterate 2 refine st ?_
 refine nw ?_
 refine zCd h ?_ ?_
 intro h110 h
 refine nz ?_
 iterate 2 refine st ?_
 refine nw (cret ?_)
 refine (fun h=>br (xr (xr (br (xr h))))) ?_
 obtain rfl:=oI h
 refine ret1 rfl d6 ?_
 exact ⟨_,rfl,(le11.t (le15.t (le19.t (le23.t (le28.t (le43.t (le47.t (le51.t (le92.t le109))))))))),hS⟩
 intro h110 h
 refine cskip ?_
 refine (fun h=>bn (xn h)) ?_
 refine creg ?_
 obtain ⟨i111,g112,h⟩:=bI h
 refine wl (su (u_addc (et (k100 (k20 d5))) ec g112) (dt (q100 (q40 p1))) (st (wnil (xl ?_))))
 exact ⟨n_1,_,_,rfl,(aK6 (aO1 (aK2 (aO2 (aK50 (aK50 (aK10 (aK4 (aI (aO10 (aO6 aZ))))))))))),⟨_,i111,r107.2,rfl,h,(le92.t le109),hS⟩,Nat.lt_succ_self _⟩
 intro h93 h
 refine cexit ?_
 refine (fun h=>xe (xe (bh h))) ?_
 refine xn (nz (st (nw (cret ?_))))
 obtain rfl:=oI h
 refine ret1 rfl d6 ?_
 exact ⟨_,rfl,(le11.t (le15.t (le19.t (le23.t (le28.t (le43.t (le47.t (le51.t le92)))))))),hS⟩
theorem SynExpr_sound:∀ n,SynExprSound (SynExpr_run n)
  | 0=>⟨(by intro; intros; rename_i h _; cases h)⟩
  | n+1=>⟨syn_expr_w (SynExpr_sound n)⟩
def syn_stats_S (q:Int→(List TStat)→Int→Option (Int×Int)):Prop:=∀ {μ0:M} {w0 w:World} {rsF:List Res} (hg:Le Gm μ0) {b1:Nat} {node_2:Int} {p_2:List TStat} {a3:Option Addr} {c4:Nat} {p_3:Int} {r:Int×Int} (m5:Sl μ0 a3 c4 p_2) (h:q node_2 p_2 p_3=some r) (hS:Sq μ0 w0 w (.blk b1 137 [.int .i64 node_2]::rsF)),CallsV prog 76 [.pointer (some ⟨b1,0,none⟩),.slice a3 p_2.length c4,.int .i64 p_3] w (fun v w'=>∃ (μ':M) ,v=.int .i64 r.1∧Le μ0 μ'∧Sq μ' w0 w' (.blk b1 137 [.int .i64 r.2]::rsF))
def syn_stat_S (q:Int→TStat→Int→Option (Int×Int)):Prop:=∀ {μ0:M} {w0 w:World} {rsF:List Res} (hg:Le Gm μ0) {b1:Nat} {node_2:Int} {p_2:TStat} {b3 o4:Nat} {a5:Option Addr} {c6:Nat} {a8:Option Addr} {c9:Nat} {a11:Option Addr} {c12:Nat} {p_3:Int} {r:Int×Int} (m7:Sl μ0 a5 c6 p_2.X.Kids) (m10:Sl μ0 a8 c9 p_2.Body) (m13:Sl μ0 a11 c12 p_2.Else) (m14:At μ0 b3 o4 [.int .i64 p_2.Kind,S p_2.Name,.int .i64 p_2.X.Kind,.int .i64 p_2.X.N,S p_2.X.Name,.slice a5 p_2.X.Kids.length c6,.slice a8 p_2.Body.length c9,.slice a11 p_2.Else.length c12]) (h:q node_2 p_2 p_3=some r) (hS:Sq μ0 w0 w (.blk b1 137 [.int .i64 node_2]::rsF)),CallsV prog 97 [.pointer (some ⟨b1,0,none⟩),.pointer (some ⟨b3,o4,none⟩),.int .i64 p_3] w (fun v w'=>∃ (μ':M) ,v=.int .i64 r.1∧Le μ0 μ'∧Sq μ' w0 w' (.blk b1 137 [.int .i64 r.2]::rsF))
structure SynStatSound (sf:SynStat):Prop where
  syn_stats:syn_stats_S sf.syn_stats
  syn_stat:syn_stat_S sf.syn_stat
theorem syn_stats_w {self:SynStat} (IH:SynStatSound self):syn_stats_S (syn_stats self):=by
 intro μ0 w0 w rsF hg b1 node_2 p_2 a3 c4 p_3 r m5 h hS
 unfold syn_stats at h
 refine enter func76 rfl (frm:=_::_::_::u2 (u2 (u20 []))) rfl (nz (st (ny (nz (st (wl (su (u_lensl underlying57 (et d9)) (dt (q10 p0)) (st (nw ?_)))))))))
 refine zCd h ?_ ?_
 intro h6 h
 refine nz (st (nw (cret (xr ?_))))
 obtain rfl:=oI h
 refine ret1 rfl d6 ?_
 exact ⟨_,rfl,Le.r,hS⟩
 intro h6 h
 refine cskip (xn (cseq (nz (st (wl (su (u_lensl underlying57 (et (k10 d2))) (dt (q10 p3)) (st (nw (cblock ?_)))))))))
 refine cloopE (rg 6 3++rg 15 12) (by decide) (fun n m w=>∃ μx i29 i30,m=(yK6 (yO3 6 (yK5 (.i (.int .i64 i29)::(yO10 15 (yO2 25 []))))))∧syn_stats_l1 self p_2 p_3 n i29 i30=some r∧Le μ0 μx∧Sq μx w0 w (.blk b1 137 [.int .i64 i30]::rsF)) (by rintro _ _ _ ⟨_,_,_,rfl,_⟩; rfl) _ _ (aK6 (aO3 (aK5 (aI (aO10 (aO2 aZ)))))) ⟨_,0,node_2,rfl,h,Le.r,hS⟩ ?_
 rintro n_1 _ t w1 ⟨μ1,i29,i30,rfl,h,le53,hS⟩
 rcases n_1 with _|n_1
 cases h
 unfold syn_stats_l1 at h
 refine cnrm (mK6 (mO3 (mK5 (mi (mO10 (mO2 mz)))))) (nz (st (ny ?_)))
 refine zCd h ?_ ?_
 intro h54 h
 refine cskip (xn (cseq (cblock (nz ?_))))
 iterate 2 refine st ?_
 refine nx ?_
 iterate 3 refine st ?_
 obtain ⟨x55,g56,h⟩:=bI h
 obtain ⟨b57,o58,cs59,e60,f61,m62⟩:=SlR.elem (m5.up le53) g56
 obtain ⟨a63,c64,a66,c67,a69,c70,rfl,m65,m68,m71⟩:=TStat.o m62
 refine wl (su (u_iax underlying57 ti121 (et (k10 d8)) (et (k10 d9)) e60) (dt (q20 p0)) (st ?_))
 obtain ⟨r72,g73,h⟩:=bI h
 refine ca (IH.syn_stat (hg.t le53) m65 m68 m71 f61 g73 hS) ?_
 rintro _ w2 ⟨μ2,rfl,le74,hS⟩
 refine po (st (nx ?_))
 iterate 2 refine st ?_
 refine nw ?_
 refine zCd h ?_ ?_
 intro h75 h
 refine nz ?_
 iterate 2 refine st ?_
 refine nw (cret ?_)
 refine (fun h=>br (xr (xr (br (xr h))))) ?_
 obtain rfl:=oI h
 refine ret1 rfl d6 ?_
 exact ⟨_,rfl,(le53.t le74),hS⟩
 intro h75 h
 refine cskip ?_
 refine (fun h=>bn (xn h)) ?_
 refine creg ?_
 obtain ⟨i76,g77,h⟩:=bI h
 refine wl (su (u_addc (et (k10 d4)) ec g77) (dt (q20 p6)) (st (wnil (xl ?_))))
 exact ⟨n_1,_,_,rfl,(aK6 (aO3 (aK5 (aI (aO10 (aO2 aZ)))))),⟨_,i76,r72.2,rfl,h,(le53.t le74),hS⟩,Nat.lt_succ_self _⟩
 intro h54 h
 refine cexit ?_
 refine (fun h=>xe (xe (bh h))) ?_
 refine xn (nz (st (nw (cret ?_))))
 obtain rfl:=oI h
 refine ret1 rfl d6 ?_
 exact ⟨_,rfl,le53,hS⟩
theorem syn_stat_w {fu:Nat} {self:SynStat} (IH:SynStatSound self):syn_stat_S (syn_stat fu self):=by
 intro μ0 w0 w rsF hg b1 node_2 p_2 b3 o4 a5 c6 a8 c9 a11 c12 p_3 r m7 m10 m13 m14 h hS
 unfold syn_stat at h
 refine enter func97 rfl (frm:=_::_::_::u1 (u5 (u50 (u50 [])))) rfl (nz (st (ny (nz ?_))))
 iterate 2 refine st ?_
 obtain ⟨r15,g16,h⟩:=bI h
 refine ca (syn_node_w hg g16 hS) ?_
 rintro _ w1 ⟨μ1,rfl,le17,hS⟩
 refine po (st (nx ?_))
 iterate 2 refine st ?_
 refine nw ?_
 refine zCd h ?_ ?_
 intro h18 h
 refine nz ?_
 iterate 2 refine st ?_
 refine nw (cret (xr ?_))
 obtain rfl:=oI h
 refine ret1 rfl d6 ?_
 exact ⟨_,rfl,le17,hS⟩
 intro h18 h
 refine cskip (xn (cseq (cblock (cseq ?_))))
 refine ccutE (rg 17 12) (by decide) (fun m w=>∃ μx b19,m=(yK10 (yK6 (.i (.bool b19)::(yO10 17 (yO2 27 [])))))∧syn_stat_j1 fu self p_2 p_3 r15 b19=some r∧Le μ1 μx∧Sq μx w0 w (.blk b1 137 [.int .i64 r15.2]::rsF)) (by rintro _ _ ⟨_,_,rfl,_⟩; rfl) ?_ ?_
 refine creg ?_
 iterate 3 refine st ?_
 refine ld ((m14 _ (le17 _ hS.a)).one d0) ?_
 iterate 2 refine st ?_
 refine zWd 22 h ?_ ?_
 intro h20 h
 refine sn rfl rfl (sn rfl rfl (sn rfl rfl (sn rfl rfl (sn rfl rfl ?_))))
 iterate 2 refine st ?_
 refine wnil (xl ?_)
 exact ⟨_,_,rfl,(aK10 (aK6 (aI (aO10 (aO2 aZ))))),_,true,rfl,h,Le.r,hS⟩
 intro h20 h
 refine sy rfl (sy rfl (sy rfl (wy rfl (k20 d2) (s_load ti3 (et (k20 d5)) ((m14 _ (le17 _ hS.a)).one d0) (dt (q20 p6)) (sy rfl ?_)))))
 iterate 2 refine st ?_
 refine wnil (xl ?_)
 exact ⟨_,_,rfl,(aK10 (aK6 (aI (aO10 (aO2 aZ))))),_,(decide ((9:Int)<p_2.Kind)),rfl,h,Le.r,hS⟩
 rintro _ t w2 ⟨μ2,b19,rfl,h,le21,hS⟩
 unfold syn_stat_j1 at h
 refine nrm (mK10 (mK6 (mi (mO10 (mO2 mz))))) (xn ?_)
 refine zCb h ?_ ?_
 intro h22 h
 refine nz (st (nw (cret ?_)))
 refine (fun h=>br (xr h)) ?_
 obtain rfl:=oI h
 refine ret1 rfl d6 ?_
 exact ⟨_,rfl,(le17.t le21),hS⟩
 intro h22 h
 refine cseq ?_
 refine ccutE (rg 30 27) (by decide +kernel) (fun m w=>∃ μx b23,m=(yK20 (yK9 (.i (.bool b23)::(yO20 30 (yO7 50 [])))))∧syn_stat_j2 fu self p_2 p_3 r15 b23=some r∧Le μ2 μx∧Sq μx w0 w (.blk b1 137 [.int .i64 r15.2]::rsF)) (by rintro _ _ ⟨_,_,rfl,_⟩; rfl) ?_ ?_
 refine creg ?_
 iterate 3 refine st ?_
 refine ld ((m14 _ ((le17.t le21) _ hS.a)).one d0) ?_
 iterate 2 refine st ?_
 refine zWd 35 h ?_ ?_
 intro h24 h
 refine sn rfl rfl (sn rfl rfl (sn rfl rfl (sn rfl rfl (sn rfl rfl ?_))))
 iterate 2 refine st ?_
 refine sn rfl rfl (sn rfl rfl (sn rfl rfl (sn rfl rfl (sn rfl rfl ?_))))
 iterate 2 refine st ?_
 refine sy rfl (sy rfl (sy rfl (wy rfl (k40 d9) (s_load ti9 (et (k50 d2)) ((m14 _ ((le17.t le21) _ hS.a)).one d1) (dt (q50 p3)) ?_))))
 obtain ⟨r25,g26,h⟩:=bI h
 refine wy rfl (k40 d9) (s_callv isfn74 ef (e1 (et (k50 d3)) e0) (lex_named_w (hg.t (le17.t le21)) g26 hS) ?_)
 rintro _ w3 ⟨μ3,rfl,le27,hS⟩
 refine po (sy rfl ?_)
 iterate 2 refine st ?_
 refine wnil (xl ?_)
 exact ⟨_,_,rfl,(aK20 (aK9 (aI (aO20 (aO7 aZ))))),_,(!r25),rfl,h,le27,hS⟩
 intro h24 h
 refine sy rfl (sy rfl (sy rfl (wy rfl (k30 d5) (s_load ti3 (et (k30 d8)) ((m14 _ ((le17.t le21) _ hS.a)).one d0) (dt (q30 p9)) (sy rfl ?_)))))
 iterate 2 refine st ?_
 refine zWd 42 h ?_ ?_
 intro h28 h
 refine sn rfl rfl (sn rfl rfl (sn rfl rfl (sn rfl rfl (sn rfl rfl ?_))))
 iterate 2 refine st ?_
 refine sy rfl (sy rfl (sy rfl (wy rfl (k40 d9) (s_load ti9 (et (k50 d2)) ((m14 _ ((le17.t le21) _ hS.a)).one d1) (dt (q50 p3)) ?_))))
 obtain ⟨r29,g30,h⟩:=bI h
 refine wy rfl (k40 d9) (s_callv isfn74 ef (e1 (et (k50 d3)) e0) (lex_named_w (hg.t (le17.t le21)) g30 hS) ?_)
 rintro _ w4 ⟨μ4,rfl,le31,hS⟩
 refine po (sy rfl ?_)
 iterate 2 refine st ?_
 refine wnil (xl ?_)
 exact ⟨_,_,rfl,(aK20 (aK9 (aI (aO20 (aO7 aZ))))),_,(!r29),rfl,h,le31,hS⟩
 intro h28 h
 refine sy rfl (sy rfl (sy rfl (wy rfl (k40 d2) (s_load ti3 (et (k40 d5)) ((m14 _ ((le17.t le21) _ hS.a)).one d0) (dt (q40 p6)) (sy rfl ?_)))))
 iterate 2 refine st ?_
 refine zWd 49 h ?_ ?_
 intro h32 h
 refine sy rfl (sy rfl (sy rfl (wy rfl (k40 d9) (s_load ti9 (et (k50 d2)) ((m14 _ ((le17.t le21) _ hS.a)).one d1) (dt (q50 p3)) ?_))))
 obtain ⟨r33,g34,h⟩:=bI h
 refine wy rfl (k40 d9) (s_callv isfn74 ef (e1 (et (k50 d3)) e0) (lex_named_w (hg.t (le17.t le21)) g34 hS) ?_)
 rintro _ w5 ⟨μ5,rfl,le35,hS⟩
 refine po (sy rfl ?_)
 iterate 2 refine st ?_
 refine wnil (xl ?_)
 exact ⟨_,_,rfl,(aK20 (aK9 (aI (aO20 (aO7 aZ))))),_,(!r33),rfl,h,le35,hS⟩
 intro h32 h
 refine sn rfl rfl (sn rfl rfl (sn rfl rfl (sn rfl rfl (sn rfl rfl (sn rfl rfl ?_)))))
 iterate 2 refine st ?_
 refine wnil (xl ?_)
 exact ⟨_,_,rfl,(aK20 (aK9 (aI (aO20 (aO7 aZ))))),_,false,rfl,h,Le.r,hS⟩
 rintro _ t w6 ⟨μ6,b23,rfl,h,le36,hS⟩
 unfold syn_stat_j2 at h
 refine nrm (mK20 (mK9 (mi (mO20 (mO7 mz))))) (xn ?_)
 refine zCb h ?_ ?_
 intro h37 h
 refine nz (st (nw (cret ?_)))
 refine (fun h=>br (xr h)) ?_
 obtain rfl:=oI h
 refine ret1 rfl d6 ?_
 exact ⟨_,rfl,(le17.t (le21.t le36)),hS⟩
 intro h37 h
 refine nz ?_
 iterate 3 refine st ?_
 refine ld ((m14 _ ((le17.t (le21.t le36)) _ hS.a)).one d0) ?_
 iterate 2 refine st ?_
 refine nw ?_
 refine zCd h ?_ ?_
 intro h38 h
 refine nz (st (nw (cret ?_)))
 refine (fun h=>br (xr h)) ?_
 obtain rfl:=oI h
 refine ret1 rfl d6 ?_
 exact ⟨_,rfl,(le17.t (le21.t le36)),hS⟩
 intro h38 h
 refine cskip ?_
 refine (fun h=>bn (xn h)) ?_
 refine cseq (nz ?_)
 iterate 5 refine st ?_
 obtain ⟨i39,g40,h⟩:=bI h
 refine wl (su (u_addc (et (k60 d7)) ec g40) (dt (q60 p8)) ?_)
 obtain ⟨r41,g42,h⟩:=bI h
 refine ca ((SynExpr_sound fu).syn_expr (hg.t (le17.t (le21.t le36))) (m7.up (le17.t (le21.t le36))) ((m14.up (le17.t (le21.t le36))).sb 2 4) g42 hS) ?_
 rintro _ w7 ⟨μ7,rfl,le43,hS⟩
 refine po (st (nx ?_))
 iterate 2 refine st ?_
 refine nw ?_
 refine zCd h ?_ ?_
 intro h44 h
 refine nz ?_
 iterate 2 refine st ?_
 refine nw (cret (xr ?_))
 obtain rfl:=oI h
 refine ret1 rfl d6 ?_
 exact ⟨_,rfl,(le17.t (le21.t (le36.t le43))),hS⟩
 intro h44 h
 refine cskip (xn (cseq (cseq ?_)))
 refine ccutE (rg 73 11) (by decide) (fun m w=>∃ μx b45,m=(yK50 (yK20 (yK3 (yO10 73 (yO1 83 (.i (.bool b45)::[]))))))∧syn_stat_j3 self p_2 p_3 r41 b45=some r∧Le μ7 μx∧Sq μx w0 w (.blk b1 137 [.int .i64 r41.2]::rsF)) (by rintro _ _ ⟨_,_,rfl,_⟩; rfl) ?_ ?_
 refine creg ?_
 iterate 3 refine st ?_
 refine ld ((m14 _ ((le17.t (le21.t (le36.t le43))) _ hS.a)).one d0) ?_
 iterate 2 refine st ?_
 refine zWd 78 h ?_ ?_
 intro h46 h
 refine sn rfl rfl (sn rfl rfl (sn rfl rfl (sn rfl rfl (sn rfl rfl (st (wnil (xl ?_)))))))
 exact ⟨_,_,rfl,(aK50 (aK20 (aK3 (aO10 (aO1 (aI aZ)))))),_,true,rfl,h,Le.r,hS⟩
 intro h46 h
 refine sy rfl (sy rfl (sy rfl (wy rfl (k70 d8) (s_load ti3 (et (k80 d1)) ((m14 _ ((le17.t (le21.t (le36.t le43))) _ hS.a)).one d0) (dt (q80 p2)) (sy rfl (st (wnil (xl ?_))))))))
 exact ⟨_,_,rfl,(aK50 (aK20 (aK3 (aO10 (aO1 (aI aZ)))))),_,(decide (p_2.Kind=4)),rfl,h,Le.r,hS⟩
 rintro _ t w8 ⟨μ8,b45,rfl,h,le47,hS⟩
 unfold syn_stat_j3 at h
 refine nrm (mK50 (mK20 (mK3 (mO10 (mO1 (mi mz)))))) (xn ?_)
 refine ccutE ([6]++[9]++rg 85 11) (by decide) (fun m w=>∃ μx i48,m=(yK6 (yO1 6 (yK2 (yO1 9 (yK50 (yK20 (yK5 (yO10 85 (yO1 95 [])))))))))∧syn_stat_j4 self p_2 p_3 i48=some r∧Le μ8 μx∧Sq μx w0 w (.blk b1 137 [.int .i64 i48]::rsF)) (by rintro _ _ ⟨_,_,rfl,_⟩; rfl) ?_ ?_
 refine zCb h ?_ ?_
 intro h49 h
 refine nz ?_
 iterate 4 refine st ?_
 refine ld ((m14 _ ((le17.t (le21.t (le36.t (le43.t le47)))) _ hS.a)).one d6) (st ?_)
 obtain ⟨i50,g51,h⟩:=bI h
 refine wl (su (u_addc (et (k90 d0)) ec g51) (dt (q90 p1)) ?_)
 obtain ⟨r52,g53,h⟩:=bI h
 refine ca (IH.syn_stats (hg.t (le17.t (le21.t (le36.t (le43.t le47))))) (m10.up (le17.t (le21.t (le36.t (le43.t le47))))) g53 hS) ?_
 rintro _ w9 ⟨μ9,rfl,le54,hS⟩
 refine po (st (nx ?_))
 iterate 2 refine st ?_
 refine nw ?_
 refine zCd h ?_ ?_
 intro h55 h
 refine nz ?_
 iterate 2 refine st ?_
 refine nw (cret ?_)
 refine (fun h=>xr (xr h)) ?_
 obtain rfl:=oI h
 refine ret1 rfl d6 ?_
 exact ⟨_,rfl,(le17.t (le21.t (le36.t (le43.t (le47.t le54))))),hS⟩
 intro h55 h
 refine cskip (xl ?_)
 exact ⟨_,_,rfl,(aK6 (aO1 (aK2 (aO1 (aK50 (aK20 (aK5 (aO10 (aO1 aZ))))))))),_,r52.2,rfl,h,le54,hS⟩
 intro h49 h
 refine cskip (xl ?_)
 exact ⟨_,_,rfl,(aK6 (aO1 (aK2 (aO1 (aK50 (aK20 (aK5 (aO10 (aO1 aZ))))))))),_,r41.2,rfl,h,Le.r,hS⟩
 rintro _ t w10 ⟨μ10,i48,rfl,h,le56,hS⟩
 unfold syn_stat_j4 at h
 refine nrm (mK6 (mO1 (mK2 (mO1 (mK50 (mK20 (mK5 (mO10 (mO1 mz))))))))) (xn (cseq (nz ?_)))
 iterate 3 refine st ?_
 refine ld ((m14 _ ((le17.t (le21.t (le36.t (le43.t (le47.t le56))))) _ hS.a)).one d0) (st (nw ?_))
 refine zCd h ?_ ?_
 intro h57 h
 refine nz ?_
 iterate 4 refine st ?_
 refine ld ((m14 _ ((le17.t (le21.t (le36.t (le43.t (le47.t le56))))) _ hS.a)).one d7) (st ?_)
 obtain ⟨i58,g59,h⟩:=bI h
 refine wl (su (u_addc (et (k100 d6)) ec g59) (dt (q100 p7)) ?_)
 obtain ⟨r60,g61,h⟩:=bI h
 refine ca (IH.syn_stats (hg.t (le17.t (le21.t (le36.t (le43.t (le47.t le56)))))) (m13.up (le17.t (le21.t (le36.t (le43.t (le47.t le56)))))) g61 hS) ?_
 rintro _ w11 ⟨μ11,rfl,le62,hS⟩
 refine po (st (nw (cret (xr ?_))))
 obtain rfl:=oI h
 refine ret1 rfl d6 ?_
 exact ⟨_,rfl,(le17.t (le21.t (le36.t (le43.t (le47.t (le56.t le62)))))),hS⟩
 intro h57 h
 refine cskip (xn (nz (st (nw (cret ?_)))))
 obtain rfl:=oI h
 refine ret1 rfl d6 ?_
 exact ⟨_,rfl,(le17.t (le21.t (le36.t (le43.t (le47.t le56))))),hS⟩
theorem SynStat_sound:∀ n,SynStatSound (SynStat_run n)
  | 0=>⟨(by intro; intros; rename_i h _; cases h),(by intro; intros; rename_i h _; cases h)⟩
  | n+1=>⟨syn_stats_w (SynStat_sound n),syn_stat_w (SynStat_sound n)⟩
theorem syn_def_w (hg:Le Gm μ0) {node_2:Int} {p_2:TDef} {r:Int×Int} (m7:Sl μ0 a5 c6 p_2.Params) (m10:Sl μ0 a8 c9 p_2.Body) (m11:At μ0 b3 o4 [.int .i64 p_2.Kind,S p_2.Name,.int .i64 p_2.Typ.Kind,S p_2.Typ.Gen,.int .i64 p_2.Takes.Kind,S p_2.Takes.Gen,.int .i64 p_2.Cap,.slice a5 p_2.Params.length c6,.slice a8 p_2.Body.length c9]) (h:syn_def fu node_2 p_2=some r) (hS:Sq μ0 w0 w (.blk b1 137 [.int .i64 node_2]::rsF)):CallsV prog 55 [.pointer (some ⟨b1,0,none⟩),.pointer (some ⟨b3,o4,none⟩)] w (fun v w'=>∃ (μ':M) ,v=.int .i64 r.1∧Le μ0 μ'∧Sq μ' w0 w' (.blk b1 137 [.int .i64 r.2]::rsF)):=by
 unfold syn_def at h
 refine enter func55 rfl (frm:=_::_::u2 (u2 (u5 (u10 (u50 (u50 [])))))) rfl (nz (st (ny (nz (st ?_)))))
 obtain ⟨r12,g13,h⟩:=bI h
 refine ca (syn_node_w hg g13 hS) ?_
 rintro _ w1 ⟨μ1,rfl,le14,hS⟩
 refine po (st (nx ?_))
 iterate 2 refine st ?_
 refine nw ?_
 refine zCd h ?_ ?_
 intro h15 h
 refine nz ?_
 iterate 2 refine st ?_
 refine nw (cret (xr ?_))
 obtain rfl:=oI h
 refine ret1 rfl d4 ?_
 exact ⟨_,rfl,le14,hS⟩
 intro h15 h
 refine cskip (xn (cseq (cseq ?_)))
 refine ccutE (rg 16 11) (by decide) (fun m w=>∃ μx b16,m=(yK10 (yK6 (yO10 16 (yO1 26 (.i (.bool b16)::[])))))∧syn_def_j1 fu p_2 r12 b16=some r∧Le μ1 μx∧Sq μx w0 w (.blk b1 137 [.int .i64 r12.2]::rsF)) (by rintro _ _ ⟨_,_,rfl,_⟩; rfl) ?_ ?_
 refine creg ?_
 iterate 3 refine st ?_
 refine ld ((m11 _ (le14 _ hS.a)).one d0) ?_
 iterate 2 refine st ?_
 refine zWd 21 h ?_ ?_
 intro h17 h
 refine sn rfl rfl (sn rfl rfl (sn rfl rfl (sn rfl rfl (sn rfl rfl (st (wnil (xl ?_)))))))
 exact ⟨_,_,rfl,(aK10 (aK6 (aO10 (aO1 (aI aZ))))),_,true,rfl,h,Le.r,hS⟩
 intro h17 h
 refine sy rfl (sy rfl (sy rfl (wy rfl (k20 d1) (s_load ti3 (et (k20 d4)) ((m11 _ (le14 _ hS.a)).one d0) (dt (q20 p5)) (sy rfl (st (wnil (xl ?_))))))))
 exact ⟨_,_,rfl,(aK10 (aK6 (aO10 (aO1 (aI aZ))))),_,(decide ((4:Int)<p_2.Kind)),rfl,h,Le.r,hS⟩
 rintro _ t w2 ⟨μ2,b16,rfl,h,le18,hS⟩
 unfold syn_def_j1 at h
 refine nrm (mK10 (mK6 (mO10 (mO1 (mi mz))))) (xn ?_)
 refine zCb h ?_ ?_
 intro h19 h
 refine nz (st (nw (cret (xr ?_))))
 obtain rfl:=oI h
 refine ret1 rfl d4 ?_
 exact ⟨_,rfl,(le14.t le18),hS⟩
 intro h19 h
 refine cskip (xn (cseq (nz ?_)))
 iterate 3 refine st ?_
 refine ld ((m11 _ ((le14.t le18) _ hS.a)).one d1) ?_
 obtain ⟨r20,g21,h⟩:=bI h
 refine ca (lex_named_w (hg.t (le14.t le18)) g21 hS) ?_
 rintro _ w3 ⟨μ3,rfl,le22,hS⟩
 refine po (st (nw ?_))
 refine zCe h ?_ ?_
 intro h23 h
 refine nz (st (nw (cret (xr ?_))))
 obtain rfl:=oI h
 refine ret1 rfl d4 ?_
 exact ⟨_,rfl,(le14.t (le18.t le22)),hS⟩
 intro h23 h
 refine cskip (xn (cseq (cseq ?_)))
 refine ccutE (rg 34 11) (by decide) (fun m w=>∃ μx b24,m=(yK20 (yK10 (yK4 (yO10 34 (yO1 44 (.i (.bool b24)::[]))))))∧syn_def_j2 fu p_2 r12 b24=some r∧Le μ3 μx∧Sq μx w0 w (.blk b1 137 [.int .i64 r12.2]::rsF)) (by rintro _ _ ⟨_,_,rfl,_⟩; rfl) ?_ ?_
 refine creg ?_
 iterate 3 refine st ?_
 refine ld ((m11 _ ((le14.t (le18.t le22)) _ hS.a)).one d0) ?_
 iterate 2 refine st ?_
 refine zWd 39 h ?_ ?_
 intro h25 h
 refine sn rfl rfl (sn rfl rfl (sn rfl rfl (sn rfl rfl (sn rfl rfl (st (wnil (xl ?_)))))))
 exact ⟨_,_,rfl,(aK20 (aK10 (aK4 (aO10 (aO1 (aI aZ)))))),_,true,rfl,h,Le.r,hS⟩
 intro h25 h
 refine sy rfl (sy rfl (sy rfl (wy rfl (k30 d9) (s_load ti3 (et (k40 d2)) ((m11 _ ((le14.t (le18.t le22)) _ hS.a)).one d0) (dt (q40 p3)) (sy rfl (st (wnil (xl ?_))))))))
 exact ⟨_,_,rfl,(aK20 (aK10 (aK4 (aO10 (aO1 (aI aZ)))))),_,(decide (p_2.Kind=3)),rfl,h,Le.r,hS⟩
 rintro _ t w4 ⟨μ4,b24,rfl,h,le26,hS⟩
 unfold syn_def_j2 at h
 refine nrm (mK20 (mK10 (mK4 (mO10 (mO1 (mi mz)))))) (xn ?_)
 refine ccutE ([4]++rg 7 2++rg 46 26) (by decide +kernel) (fun m w=>∃ (μx:M) ,m=(yK4 (yO1 4 (yK2 (yO2 7 (yK20 (yK10 (yK7 (yO20 46 (yO6 66 [])))))))))∧syn_def_j3 fu p_2 r12 =some r∧Le μ4 μx∧Sq μx w0 w (.blk b1 137 [.int .i64 r12.2]::rsF)) (by rintro _ _ ⟨_,rfl,_⟩; rfl) ?_ ?_
 refine zCb h ?_ ?_
 intro h27 h
 refine cseq (nz ?_)
 iterate 3 refine st ?_
 refine ld ((m11 _ ((le14.t (le18.t (le22.t le26))) _ hS.a)).one d7) (wl (su (u_lensl underlying56 (et (k40 d9))) (dt (q50 p0)) (st (nw ?_))))
 refine zCd h ?_ ?_
 intro h28 h
 refine nz (st (nw (cret ?_)))
 refine (fun h=>xr (xr (xr h))) ?_
 obtain rfl:=oI h
 refine ret1 rfl d4 ?_
 exact ⟨_,rfl,(le14.t (le18.t (le22.t le26))),hS⟩
 intro h28 h
 refine cskip (xn (nz ?_))
 iterate 3 refine st ?_
 refine ld ((m11 _ ((le14.t (le18.t (le22.t le26))) _ hS.a)).one d7) (wl (su (u_lensl underlying56 (et (k50 d5))) (dt (q50 p6)) (st (nw (cblock ?_)))))
 refine cloopE ([4]++rg 7 2++rg 58 14) (by decide) (fun n m w=>∃ μx i47,m=(yK4 (yO1 4 (yK2 (yO2 7 (yK20 (yK20 (yK8 (.i (.int .i64 i47)::(yO10 58 (yO4 68 []))))))))))∧syn_def_l1 fu p_2 r12 n i47=some r∧Le μ4 μx∧Sq μx w0 w (.blk b1 137 [.int .i64 r12.2]::rsF)) (by rintro _ _ _ ⟨_,_,rfl,_⟩; rfl) _ _ (aK4 (aO1 (aK2 (aO2 (aK20 (aK20 (aK8 (aI (aO10 (aO4 aZ)))))))))) ⟨_,0,rfl,h,Le.r,hS⟩ ?_
 rintro n_1 _ t w5 ⟨μ5,i47,rfl,h,le67,hS⟩
 rcases n_1 with _|n_1
 cases h
 unfold syn_def_l1 at h
 refine cnrm (mK4 (mO1 (mK2 (mO2 (mK20 (mK20 (mK8 (mi (mO10 (mO4 mz)))))))))) (nz (st (ny ?_)))
 refine zCd h ?_ ?_
 intro h68 h
 refine cskip (xn (cseq (cblock (nz ?_))))
 obtain ⟨x69,g70,h⟩:=bI h
 obtain ⟨b71,o72,cs73,e74,f75,m76⟩:=SlR.elem (m7.up (le14.t (le18.t (le22.t (le26.t le67))))) g70
 obtain rfl:=m76
 refine wl (su (u_iax underlying56 ti107 (et (k50 d5)) (et (k50 d7)) e74) (dt (q50 p9)) (lds (f75 _ hS.a) rfl ?_))
 refine wl (s_alloc ti107 hS ?_); clear hS; intro b77 w6 hb78 hS; refine po ?_
 refine wl (s_storeA ti107 (et d7) (et (k60 d0)) rfl rfl hS d0 rfl p0 dn ?_)
 clear hS; intro w7 hS
 refine ny (nz (st (ld ((hS.blk d0).cell d0) ?_)))
 obtain ⟨r79,g80,h⟩:=bI h
 refine ca (lex_named_w (hg.t (le14.t (le18.t (le22.t (le26.t le67))))) g80 hS) ?_
 rintro _ w8 ⟨μ6,rfl,le81,hS⟩
 refine po (st (nw ?_))
 refine zCe h ?_ ?_
 intro h82 h
 refine nz (st (nw (cret ((fun h=>xr (br (xr (xr (br (xr (xr h))))))) ?_))))
 obtain rfl:=oI h
 refine ret1 rfl d4 ?_
 replace hS:=hS.drop Rm.z
 exact ⟨_,rfl,(le14.t (le18.t (le22.t (le26.t (le67.t le81))))),hS⟩
 intro h82 h
 refine cskip (xn (nz (st (lds ((hS.blk d0).cellsAt (Sb.s d1 (Sb.s d2 Sb.z))) rfl ?_))))
 obtain ⟨r83,g84,h⟩:=bI h
 refine ca (syn_typ_w (hg.t (le14.t (le18.t (le22.t (le26.t (le67.t le81)))))) g84 hS) ?_
 rintro _ w9 ⟨μ7,rfl,le85,hS⟩
 refine po (st (nx ?_))
 iterate 2 refine st ?_
 refine nw ?_
 refine zCd h ?_ ?_
 intro h86 h
 refine nz ?_
 iterate 2 refine st ?_
 refine nw (cret ?_)
 refine (fun h=>br (xr (xr (br (xr (xr h)))))) ?_
 obtain rfl:=oI h
 refine ret1 rfl d4 ?_
 replace hS:=hS.drop Rm.z
 exact ⟨_,rfl,(le14.t (le18.t (le22.t (le26.t (le67.t (le81.t le85)))))),hS⟩
 intro h86 h
 refine cskip ?_
 refine (fun h=>bn (xn h)) ?_
 refine creg ?_
 obtain ⟨i87,g88,h⟩:=bI h
 refine wl (su (u_addc (et (k50 d7)) ec g88) (dt (q70 p1)) (st (wnil (xl ?_))))
 replace hS:=hS.drop Rm.z
 exact ⟨n_1,_,_,rfl,(aK4 (aO1 (aK2 (aO2 (aK20 (aK20 (aK8 (aI (aO10 (aO4 aZ)))))))))),⟨_,i87,rfl,h,(le67.t (le81.t le85)),hS⟩,Nat.lt_succ_self _⟩
 intro h68 h
 refine cexit ?_
 refine (fun h=>xe (xe (bh h))) ?_
 refine xl ?_
 exact ⟨_,_,rfl,(aK4 (aO1 (aK2 (aO2 (aK20 (aK10 (aK7 (aO20 (aO6 aZ))))))))),_,rfl,h,le67,hS⟩
 intro h27 h
 refine cskip (xl ?_)
 exact ⟨_,_,rfl,(aK4 (aO1 (aK2 (aO2 (aK20 (aK10 (aK7 (aO20 (aO6 aZ))))))))),_,rfl,h,Le.r,hS⟩
 rintro _ t w10 ⟨μ8,rfl,h,le89,hS⟩
 unfold syn_def_j3 at h
 refine nrm (mK4 (mO1 (mK2 (mO2 (mK20 (mK10 (mK7 (mO20 (mO6 mz))))))))) (xn (cseq (nz ?_)))
 iterate 3 refine st ?_
 refine ld ((m11 _ ((le14.t (le18.t (le22.t (le26.t le89)))) _ hS.a)).one d0) (st (nw ?_))
 refine ccutE ([4]++[9]++rg 77 8) (by decide) (fun m w=>∃ (μx:M) ,m=(yK4 (yO1 4 (yK4 (yO1 9 (yK50 (yK10 (yK7 (yO8 77 []))))))))∧syn_def_j4 fu p_2 r12 =some r∧Le μ8 μx∧Sq μx w0 w (.blk b1 137 [.int .i64 r12.2]::rsF)) (by rintro _ _ ⟨_,rfl,_⟩; rfl) ?_ ?_
 refine zCd h ?_ ?_
 intro h90 h
 refine nz ?_
 iterate 3 refine st ?_
 refine lds ((m11 _ ((le14.t (le18.t (le22.t (le26.t le89)))) _ hS.a)).sb 4 2) rfl ?_
 obtain ⟨r91,g92,h⟩:=bI h
 refine ca (syn_typ_w (hg.t (le14.t (le18.t (le22.t (le26.t le89))))) g92 hS) ?_
 rintro _ w11 ⟨μ9,rfl,le93,hS⟩
 refine po (st (nx ?_))
 iterate 2 refine st ?_
 refine nw ?_
 refine zCd h ?_ ?_
 intro h94 h
 refine nz ?_
 iterate 2 refine st ?_
 refine nw (cret ?_)
 refine (fun h=>xr (xr h)) ?_
 obtain rfl:=oI h
 refine ret1 rfl d4 ?_
 exact ⟨_,rfl,(le14.t (le18.t (le22.t (le26.t (le89.t le93))))),hS⟩
 intro h94 h
 refine cskip (xl ?_)
 exact ⟨_,_,rfl,(aK4 (aO1 (aK4 (aO1 (aK50 (aK10 (aK7 (aO8 aZ)))))))),_,rfl,h,le93,hS⟩
 intro h90 h
 refine cskip (xl ?_)
 exact ⟨_,_,rfl,(aK4 (aO1 (aK4 (aO1 (aK50 (aK10 (aK7 (aO8 aZ)))))))),_,rfl,h,Le.r,hS⟩
 rintro _ t w12 ⟨μ10,rfl,h,le95,hS⟩
 unfold syn_def_j4 at h
 refine nrm (mK4 (mO1 (mK4 (mO1 (mK50 (mK10 (mK7 (mO8 mz)))))))) (xn (cseq (nz ?_)))
 iterate 3 refine st ?_
 refine ld ((m11 _ ((le14.t (le18.t (le22.t (le26.t (le89.t le95))))) _ hS.a)).one d0) (st (nw ?_))
 refine ccutE ([4]++[10]++rg 90 8) (by decide) (fun m w=>∃ (μx:M) ,m=(yK4 (yO1 4 (yK5 (yO1 10 (yK50 (yK20 (yK9 (yO8 90 []))))))))∧syn_def_j5 fu p_2 r12 =some r∧Le μ10 μx∧Sq μx w0 w (.blk b1 137 [.int .i64 r12.2]::rsF)) (by rintro _ _ ⟨_,rfl,_⟩; rfl) ?_ ?_
 refine zCd h ?_ ?_
 intro h96 h
 refine nz ?_
 iterate 3 refine st ?_
 refine lds ((m11 _ ((le14.t (le18.t (le22.t (le26.t (le89.t le95))))) _ hS.a)).sb 2 2) rfl ?_
 obtain ⟨r97,g98,h⟩:=bI h
 refine ca (syn_typ_w (hg.t (le14.t (le18.t (le22.t (le26.t (le89.t le95)))))) g98 hS) ?_
 rintro _ w13 ⟨μ11,rfl,le99,hS⟩
 refine po (st (nx ?_))
 iterate 2 refine st ?_
 refine nw ?_
 refine zCd h ?_ ?_
 intro h100 h
 refine nz ?_
 iterate 2 refine st ?_
 refine nw (cret ?_)
 refine (fun h=>xr (xr h)) ?_
 obtain rfl:=oI h
 refine ret1 rfl d4 ?_
 exact ⟨_,rfl,(le14.t (le18.t (le22.t (le26.t (le89.t (le95.t le99)))))),hS⟩
 intro h100 h
 refine cskip (xl ?_)
 exact ⟨_,_,rfl,(aK4 (aO1 (aK5 (aO1 (aK50 (aK20 (aK9 (aO8 aZ)))))))),_,rfl,h,le99,hS⟩
 intro h96 h
 refine cskip (xl ?_)
 exact ⟨_,_,rfl,(aK4 (aO1 (aK5 (aO1 (aK50 (aK20 (aK9 (aO8 aZ)))))))),_,rfl,h,Le.r,hS⟩
 rintro _ t w14 ⟨μ12,rfl,h,le101,hS⟩
 unfold syn_def_j5 at h
 refine nrm (mK4 (mO1 (mK5 (mO1 (mK50 (mK20 (mK9 (mO8 mz)))))))) (xn (cseq (nz ?_)))
 iterate 3 refine st ?_
 refine ld ((m11 _ ((le14.t (le18.t (le22.t (le26.t (le89.t (le95.t le101)))))) _ hS.a)).one d0) (st (nw ?_))
 refine zCd h ?_ ?_
 intro h102 h
 refine nz ?_
 iterate 4 refine st ?_
 refine ld ((m11 _ ((le14.t (le18.t (le22.t (le26.t (le89.t (le95.t le101)))))) _ hS.a)).one d8) ?_
 obtain ⟨r103,g104,h⟩:=bI h
 refine ca ((SynStat_sound fu).syn_stats (hg.t (le14.t (le18.t (le22.t (le26.t (le89.t (le95.t le101))))))) (m10.up (le14.t (le18.t (le22.t (le26.t (le89.t (le95.t le101))))))) g104 hS) ?_
 rintro _ w15 ⟨μ13,rfl,le105,hS⟩
 refine po (st (nw (cret (xr ?_))))
 obtain rfl:=oI h
 refine ret1 rfl d4 ?_
 exact ⟨_,rfl,(le14.t (le18.t (le22.t (le26.t (le89.t (le95.t (le101.t le105))))))),hS⟩
 intro h102 h
 refine cskip (xn (cseq (cseq ?_)))
 refine ccutE (rg 109 11) (by decide) (fun m w=>∃ μx b106,m=(yK50 (yK50 (yK9 (yO10 109 (yO1 119 (.i (.bool b106)::[]))))))∧syn_def_j6 r12 b106=some r∧Le μ12 μx∧Sq μx w0 w (.blk b1 137 [.int .i64 r12.2]::rsF)) (by rintro _ _ ⟨_,_,rfl,_⟩; rfl) ?_ ?_
 refine creg ?_
 iterate 3 refine st ?_
 refine ld ((m11 _ ((le14.t (le18.t (le22.t (le26.t (le89.t (le95.t le101)))))) _ hS.a)).one d6) ?_
 iterate 2 refine st ?_
 refine zWd 114 h ?_ ?_
 intro h107 h
 refine sn rfl rfl (sn rfl rfl (sn rfl rfl (sn rfl rfl (sn rfl rfl (st (wnil (xl ?_)))))))
 exact ⟨_,_,rfl,(aK50 (aK50 (aK9 (aO10 (aO1 (aI aZ)))))),_,true,rfl,h,Le.r,hS⟩
 intro h107 h
 refine sy rfl (sy rfl (sy rfl (wy rfl (k100 (k10 d4)) (s_load ti3 (et (k100 (k10 d7))) ((m11 _ ((le14.t (le18.t (le22.t (le26.t (le89.t (le95.t le101)))))) _ hS.a)).one d6) (dt (q100 (q10 p8))) (sy rfl (st (wnil (xl ?_))))))))
 exact ⟨_,_,rfl,(aK50 (aK50 (aK9 (aO10 (aO1 (aI aZ)))))),_,(decide ((20:Int)<p_2.Cap)),rfl,h,Le.r,hS⟩
 rintro _ t w16 ⟨μ14,b106,rfl,h,le108,hS⟩
 unfold syn_def_j6 at h
 refine nrm (mK50 (mK50 (mK9 (mO10 (mO1 (mi mz)))))) (xn ?_)
 refine zCb h ?_ ?_
 intro h109 h
 refine nz (st (nw (cret (xr ?_))))
 obtain rfl:=oI h
 refine ret1 rfl d4 ?_
 exact ⟨_,rfl,(le14.t (le18.t (le22.t (le26.t (le89.t (le95.t (le101.t le108))))))),hS⟩
 intro h109 h
 refine cskip (xn (nz (st (nw (cret ?_)))))
 obtain rfl:=oI h
 refine ret1 rfl d4 ?_
 exact ⟨_,rfl,(le14.t (le18.t (le22.t (le26.t (le89.t (le95.t (le101.t le108))))))),hS⟩
theorem syn_wrong_w (hg:Le Gm μ0) {p_1:List TDef} {r:TFault} (m3:Sl μ0 a1 c2 p_1) (h:syn_wrong fu p_1=some r) (hS:Sq μ0 w0 w (rsF)):CallsV prog 36 [.slice a1 p_1.length c2] w (fun v w'=>∃ (μ':M) ,v=.agg ⟨[.int .i64 r.Err,.int .i64 r.At]⟩∧Le μ0 μ'∧Sq μ' w0 w' (rsF)):=by
 unfold syn_wrong at h
 refine enter func36 rfl (frm:=_::u1 (u2 (u5 (u20 [])))) rfl (nz ?_)
 refine wl (s_alloc ti26 hS ?_); clear hS; intro b4 w1 hb5 hS; refine po ?_
 refine ny (nz (st (wl (su (u_lensl underlying22 (et d6)) (dt p7) (st (nw ?_))))))
 refine zCd h ?_ ?_
 intro h6 h
 refine nz (wl (s_build ti26 pl26 (Fl.o rfl ec rfl rfl p0 Fl.z) (dt p9) (wl (s_storeA ti26 (et d2) (et d9) rfl rfl hS d0 rfl p0 dn ?_))))
 clear hS; intro w2 hS
 refine nw (cret (xr ?_))
 obtain rfl:=oI h
 refine retN rfl (RVs.s (.a d2 ti26 (hS.blk d0).cells rfl) RVs.z) ?_
 replace hS:=hS.drop Rm.z
 exact ⟨_,rfl,Le.r,hS⟩
 intro h6 h
 refine cskip (xn (nz (wl (s_build ti137 pl137 Fl.z (dt (q10 p0)) ?_))))
 refine wl (s_box (et (k10 d0)) rfl hS ?_); clear hS; intro b7 w3 hb8 hS; refine po ?_
 refine st (ny (nz (st (wl (su (u_lensl underlying22 (et (k10 d2))) (dt (q10 p3)) (st (nw (cblock ?_))))))))
 replace hS:=hS.bg Y1
 refine cloopE (rg 4 2++rg 15 13) (by decide) (fun n m w=>∃ μx i28 i29,m=(yK4 (yO2 4 (yK8 (.i (.int .i64 i28)::(yO10 15 (yO3 25 []))))))∧syn_wrong_l1 fu p_1 n i28 i29=some r∧Le μ0 μx∧Sq μx w0 w (.blk b4 26 [.int .i64 0,.int .i64 0]::.blk b7 137 [.int .i64 i29]::rsF)) (by rintro _ _ _ ⟨_,_,_,rfl,_⟩; rfl) _ _ (aK4 (aO2 (aK8 (aI (aO10 (aO3 aZ)))))) ⟨_,0,0,rfl,h,Le.r,hS⟩ ?_
 rintro n_1 _ t w4 ⟨μ1,i28,i29,rfl,h,le49,hS⟩
 rcases n_1 with _|n_1
 cases h
 unfold syn_wrong_l1 at h
 refine cnrm (mK4 (mO2 (mK8 (mi (mO10 (mO3 mz)))))) (nz (st (ny ?_)))
 refine zCd h ?_ ?_
 intro h50 h
 refine cskip (xn (cseq (cblock (nz ?_))))
 iterate 2 refine st ?_
 refine nx ?_
 iterate 3 refine st ?_
 obtain ⟨x51,g52,h⟩:=bI h
 obtain ⟨b53,o54,cs55,e56,f57,m58⟩:=SlR.elem (m3.up le49) g52
 obtain ⟨a59,c60,a62,c63,rfl,m61,m64⟩:=m58
 refine wl (su (u_iax underlying22 ti59 (et (k10 d8)) (et (k10 d9)) e56) (dt (q20 p0)) ?_)
 obtain ⟨r65,g66,h⟩:=bI h
 replace hS:=hS.bg Y1
 refine ca (syn_def_w (hg.t le49) m61 m64 f57 g66 hS) ?_
 rintro _ w5 ⟨μ2,rfl,le67,hS⟩
 refine po (st (nx ?_))
 iterate 2 refine st ?_
 refine nw ?_
 refine zCd h ?_ ?_
 intro h68 h
 refine nz ?_
 iterate 2 refine st ?_
 refine wl (s_build ti26 pl26 (Fl.o rfl (et (k20 d4)) rfl rfl p0 (Fl.o rfl (et (k20 d5)) rfl rfl p1 Fl.z)) (dt (q20 p6)) (wl (s_storeA ti26 (et d2) (et (k20 d6)) rfl rfl hS d1 rfl p1 dn ?_)))
 clear hS; intro w6 hS
 refine nw (cret ?_)
 refine (fun h=>br (xr (xr (br (xr h))))) ?_
 obtain rfl:=oI h
 refine retN rfl (RVs.s (.a d2 ti26 (hS.blk d1).cells rfl) RVs.z) ?_
 replace hS:=(hS.drop Rm.z).drop Rm.z
 exact ⟨_,rfl,(le49.t le67),hS⟩
 intro h68 h
 refine cskip ?_
 refine (fun h=>bn (xn h)) ?_
 refine creg ?_
 obtain ⟨i69,g70,h⟩:=bI h
 refine wl (su (u_addc (et (k10 d4)) ec g70) (dt (q20 p7)) (st (wnil (xl ?_))))
 replace hS:=hS.bg Y1
 exact ⟨n_1,_,_,rfl,(aK4 (aO2 (aK8 (aI (aO10 (aO3 aZ)))))),⟨_,i69,r65.2,rfl,h,(le49.t le67),hS⟩,Nat.lt_succ_self _⟩
 intro h50 h
 refine cexit ?_
 refine (fun h=>xe (xe (bh h))) ?_
 refine xn (nz (wl (s_build ti26 pl26 Fl.z (dt (q20 p8)) (wl (s_storeA ti26 (et d2) (et (k20 d8)) rfl rfl hS d0 rfl p0 dn ?_)))))
 clear hS; intro w7 hS
 refine nw (cret ?_)
 obtain rfl:=oI h
 refine retN rfl (RVs.s (.a d2 ti26 (hS.blk d0).cells rfl) RVs.z) ?_
 replace hS:=(hS.drop Rm.z).drop Rm.z
 exact ⟨_,rfl,le49,hS⟩
end Go.Proofs.Yteiemedhecjgiaa
