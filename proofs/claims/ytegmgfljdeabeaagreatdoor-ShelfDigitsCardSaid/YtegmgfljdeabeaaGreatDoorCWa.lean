/- The shelf: texts of Wa. -/
import Derived.Test.YtegmgfljdeabeaaGreatDoorCXu
import Derived.Test.YtegmgfljdeabeaaGreatDoorCMd
import Derived.Test.YtegmgfljdeabeaaGreatDoorCFl
import Derived.Tactics2
import Derived.Recover
import Derived.Laws.Pointers
set_option linter.unusedSimpArgs false
set_option linter.unusedVariables false
set_option linter.unusedSectionVars false
set_option maxRecDepth 100000
set_option maxHeartbeats 20000000
namespace Go.Proofs.YtegmgfljdeabeaaGreatDoor
open Go.Wk Go.Xt Go.Y Tryz
variable {b1 b3 c2 c6 c9 fu o4:Nat} {a1 a5 a8:Option Addr} {μ0:M} {w0 w:World} {rsF:List Res}
theorem syn_kids_w (hg:Le Gm μ0) {p_1 r:Int}  (h:syn_kids p_1=some r) (hS:Sq μ0 w0 w (rsF)):CallsV prog 167 [.int .i64 p_1] w (fun v w'=>∃ (μ':M) ,v=.int .i64 r∧Le μ0 μ'∧Sq μ' w0 w' (rsF)):=by
 unfold syn_kids at h
 refine enter func167 rfl (frm:=_::u2 (u5 (u20 []))) rfl (nz (st (ny (cblock (cseq ?_)))))
 refine ccutE (List.range' 4 6) (by decide) (fun m w=>∃ μx b1,m=(yK3 (.i (.bool b1)::(yO6 4 [])))∧syn_kids_j1 p_1 b1=some r∧Le μ0 μx∧Sq μx w0 w (rsF)) (by rintro _ _ ⟨_,_,rfl,_⟩; rfl) ?_ ?_
 ·refine creg ?_
  iterate 3 refine st ?_
  refine wspd d6 p6 p6 (fun h2=>?_) (fun h2=>?_)
  ·replace h:=iT h2 h
   refine sn rfl rfl (sn rfl rfl ?_)
   iterate 2 refine st ?_
   refine wnil (xl ?_)
   exact ⟨_,_,rfl,(aK3 (aI (aO6 aZ))),_,true,rfl,h,Le.r,hS⟩
  ·replace h:=iF h2 h
   refine sy rfl (sy rfl ?_)
   iterate 2 refine st ?_
   refine wnil (xl ?_)
   exact ⟨_,_,rfl,(aK3 (aI (aO6 aZ))),_,(decide (p_1=20)),rfl,h,Le.r,hS⟩
 ·rintro _ t w1 ⟨μ1,b1,rfl,h,le3,hS⟩
  unfold syn_kids_j1 at h
  refine nrm (mK3 (mi (mO6 mz))) (xn ?_)
  refine cifb (et d3) (fun h4=>?_) (fun h4=>?_)
  ·replace h:=iT h4 h
   refine nz (st (nw (cret ?_)))
   refine (fun h=>br (xr h)) ?_
   obtain rfl:=Option.some.inj h
   refine ret1 rfl d2 ?_
   exact ⟨_,rfl,le3,hS⟩
  ·replace h:=iF h4 h
   refine nz ?_
   iterate 3 refine st ?_
   refine wspd (k10 d3) (q10 p3) (q10 p3) (xT h) fun h5=>?_
   replace h:=iF h5 h
   refine sy rfl (sy rfl ?_)
   iterate 2 refine st ?_
   refine wspd (k10 d7) (q10 p7) (q10 p7) (xT h) fun h6=>?_
   replace h:=iF h6 h
   refine sy rfl (sy rfl ?_)
   iterate 2 refine st ?_
   refine nw ?_
   refine cifd (et (k10 d0)) (xT h) fun h7=>?_
   replace h:=iF h7 h
   refine nz ?_
   iterate 3 refine st ?_
   refine wspd (k20 d4) (q20 p4) (q20 p4) (fun h8=>?_) (xF h)
   replace h:=iT h8 h
   refine sn rfl rfl (sn rfl rfl ?_)
   iterate 2 refine st ?_
   refine nw (cift (et (k20 d1)) (nz (st (nw (cret ?_)))))
   refine (fun h=>br (xr h)) ?_
   obtain rfl:=Option.some.inj h
   refine ret1 rfl d2 ?_
   exact ⟨_,rfl,le3,hS⟩
theorem syn_node_w (hg:Le Gm μ0) {node_2 p_2:Int} {r:Int×Int}  (h:syn_node node_2 p_2=some r) (hS:Sq μ0 w0 w (.blk b1 151 [.int .i64 node_2]::rsF)):CallsV prog 105 [.pointer (some ⟨b1,0,none⟩),.int .i64 p_2] w (fun v w'=>∃ (μ':M) ,v=.int .i64 r.1∧Le μ0 μ'∧Sq μ' w0 w' (.blk b1 151 [.int .i64 r.2]::rsF)):=by
 unfold syn_node at h
 refine enter func105 rfl (frm:=_::_::u2 (u2 (u5 (u10 [])))) rfl (nz (st (ny (nz ?_))))
 iterate 3 refine st ?_
 refine ld ((hS.blk d0).cell d0) ?_
 replace h:=bI h; obtain ⟨i3,g4,h⟩:=h
 refine wl (s_addc (et d8) ec g4 (dt p9) ?_)
 iterate 2 refine st ?_
 refine wl (s_store1 ti3 (et (k10 d1)) (et d9) rfl hS d0 p0 rfl p0 dn ?_)
 clear hS; intro w1 hS
 refine nx ?_
 iterate 3 refine st ?_
 refine ld ((hS.blk d0).cell d0) ?_
 iterate 2 refine st ?_
 refine wspd (k10 d7) (q10 p7) (q10 p7) (xT h) fun h5=>?_
 replace h:=iF h5 h
 refine sy rfl (sy rfl (st (nw ?_)))
 refine cifd (et (k20 d0)) (xT h) fun h6=>?_
 replace h:=iF h6 h
 refine cskip (xn (nz (st (nw (cret ?_)))))
 obtain rfl:=Option.some.inj h
 refine ret1 rfl d4 ?_
 exact ⟨_,rfl,Le.r,hS⟩
theorem syn_typ_w (hg:Le Gm μ0) {p_1:TType} {r:Int}  (h:syn_typ p_1=some r) (hS:Sq μ0 w0 w (rsF)):CallsV prog 106 [.agg ⟨[.int .i64 p_1.Kind,S p_1.Gen]⟩] w (fun v w'=>∃ (μ':M) ,v=.int .i64 r∧Le μ0 μ'∧Sq μ' w0 w' (rsF)):=by
 unfold syn_typ at h
 refine enter func106 rfl (frm:=_::u1 (u20 [])) rfl (nz ?_)
 refine wl (s_box (et d0) rfl hS ?_); clear hS; intro b1 w1 hb2 hS; refine po ?_
 refine st (ny (cblock (nz (st (ld ((hS.blk d0).cell d0) ?_)))))
 iterate 2 refine st ?_
 refine wspd d7 p7 p7 (xT h) fun h3=>?_
 replace h:=iF h3 h
 refine sy rfl (wy rfl d7 (s_load ti3 (et d8) ((hS.blk d0).cell d0) (dt p9) (sy rfl ?_)))
 iterate 2 refine st ?_
 refine nw ?_
 refine cifd (et d3) (xT h) fun h4=>?_
 replace h:=iF h4 h
 refine nz (st (ld ((hS.blk d0).cell d0) ?_))
 iterate 2 refine st ?_
 refine wspd (k10 d6) (q10 p6) (q10 p6) (xT h) fun h5=>?_
 replace h:=iF h5 h
 refine sn rfl rfl (sn rfl rfl (sn rfl rfl (sn rfl rfl ?_)))
 iterate 2 refine st ?_
 refine nw (ciff (et (k10 d2)) (cskip ?_))
 refine (fun h=>bn (xn h)) ?_
 refine nz (st (nw (cret ?_)))
 obtain rfl:=Option.some.inj h
 refine ret1 rfl d2 ?_
 replace hS:=hS.drop Rm.z
 exact ⟨_,rfl,Le.r,hS⟩
structure SynExprSound (sf:SynExpr):Prop where
  syn_expr:∀ {μ0:M} {w0 w:World} {rsF:List Res} (hg:Le Gm μ0) {b1:Nat} {node_2:Int} {p_2:TExpr} {b3 o4:Nat} {a5:Option Addr} {c6:Nat} {p_3:Int} {r:Int×Int} (m7:Sl μ0 a5 c6 p_2.Kids) (m8:At μ0 b3 o4 [.int .i64 p_2.Kind,.int .i64 p_2.N,S p_2.Name,.slice a5 p_2.Kids.length c6]) (h:sf.syn_expr node_2 p_2 p_3=some r) (hS:Sq μ0 w0 w (.blk b1 151 [.int .i64 node_2]::rsF)),CallsV prog 157 [.pointer (some ⟨b1,0,none⟩),.pointer (some ⟨b3,o4,none⟩),.int .i64 p_3] w (fun v w'=>∃ (μ':M) ,v=.int .i64 r.1∧Le μ0 μ'∧Sq μ' w0 w' (.blk b1 151 [.int .i64 r.2]::rsF))
theorem syn_expr_w {self:SynExpr} (IH:SynExprSound self) {μ0:M} {w0 w:World} {rsF:List Res} (hg:Le Gm μ0) {b1:Nat} {node_2:Int} {p_2:TExpr} {b3 o4:Nat} {a5:Option Addr} {c6:Nat} {p_3:Int} {r:Int×Int} (m7:Sl μ0 a5 c6 p_2.Kids) (m8:At μ0 b3 o4 [.int .i64 p_2.Kind,.int .i64 p_2.N,S p_2.Name,.slice a5 p_2.Kids.length c6]) (h:syn_expr self node_2 p_2 p_3=some r) (hS:Sq μ0 w0 w (.blk b1 151 [.int .i64 node_2]::rsF)):CallsV prog 157 [.pointer (some ⟨b1,0,none⟩),.pointer (some ⟨b3,o4,none⟩),.int .i64 p_3] w (fun v w'=>∃ (μ':M) ,v=.int .i64 r.1∧Le μ0 μ'∧Sq μ' w0 w' (.blk b1 151 [.int .i64 r.2]::rsF)):=by
 unfold syn_expr at h
 refine enter func157 rfl (frm:=_::_::_::u2 (u2 (u5 (u10 (u20 (u50 (u50 []))))))) rfl (nz (st (ny (nz ?_))))
 iterate 2 refine st ?_
 replace h:=bI h; obtain ⟨r9,g10,h⟩:=h
 refine ca (syn_node_w hg g10 hS) ?_
 rintro _ w1 ⟨μ1,rfl,le11,hS⟩
 refine po (st (nx ?_))
 iterate 2 refine st ?_
 refine nw ?_
 refine cifd (et (k10 d5)) (xT h) fun h12=>?_
 replace h:=iF h12 h
 refine cskip (xn (cseq (nz ?_)))
 iterate 3 refine st ?_
 refine ld ((m8 _ (le11 _ hS.a)).one d0) ?_
 iterate 2 refine st ?_
 refine wspd (k20 d2) (q20 p2) (q20 p2) (xT h) fun h13=>?_
 replace h:=iF h13 h
 refine sy rfl (sy rfl (sy rfl (wy rfl (k20 d2) (s_load ti3 (et (k20 d5)) ((m8 _ (le11 _ hS.a)).one d0) (dt (q20 p6)) (sy rfl (st (nw ?_)))))))
 refine cifd (et (k20 d8)) (xT h) fun h14=>?_
 replace h:=iF h14 h
 refine cskip (xn (nz ?_))
 iterate 3 refine st ?_
 refine ld ((m8 _ (le11 _ hS.a)).one d0) ?_
 replace h:=bI h; obtain ⟨r15,g16,h⟩:=h
 refine ca (syn_kids_w (hg.t le11) g16 hS) ?_
 rintro _ w2 ⟨μ2,rfl,le17,hS⟩
 refine po (st (ny (cblock (cseq (cseq ?_)))))
 refine ccutE (List.range' 35 19) (by decide) (fun m w=>∃ μx b18,m=(yK20 (yK10 (yK4 (.i (.bool b18)::(yO10 35 (yO9 45 []))))))∧syn_expr_j1 self p_2 p_3 r9 r15 b18=some r∧Le μ2 μx∧Sq μx w0 w (.blk b1 151 [.int .i64 r9.2]::rsF)) (by rintro _ _ ⟨_,_,rfl,_⟩; rfl) ?_ ?_
 ·refine creg ?_
  iterate 3 refine st ?_
  refine ld ((m8 _ ((le11.t le17) _ hS.a)).one d0) ?_
  iterate 2 refine st ?_
  refine wspd (k40 d0) (q40 p0) (q40 p0) (fun h19=>?_) (fun h19=>?_)
  ·replace h:=iT h19 h
   refine sy rfl (sy rfl (sy rfl (wy rfl (k40 d0) (s_load ti2 (et (k40 d3)) ((m8 _ ((le11.t le17) _ hS.a)).one d1) (dt (q40 p4)) (sy rfl (sy rfl ?_))))))
   refine wspd (k40 d6) (q40 p6) (q40 p6) (xT h) fun h20=>?_
   replace h:=iF h20 h
   refine sy rfl (sy rfl (sy rfl (wy rfl (k40 d6) (s_load ti2 (et (k40 d9)) ((m8 _ ((le11.t le17) _ hS.a)).one d1) (dt (q50 p0)) (sy rfl (sy rfl ?_))))))
   iterate 2 refine st ?_
   refine wnil (xl ?_)
   exact ⟨_,_,rfl,(aK20 (aK10 (aK4 (aI (aO10 (aO9 aZ)))))),_,(decide ((999999999999999:Int)<p_2.N)),rfl,h,Le.r,hS⟩
  ·replace h:=iF h19 h
   refine sn rfl rfl (sn rfl rfl (sn rfl rfl (sn rfl rfl (sn rfl rfl (sn rfl rfl (wu rfl (k40 d6) (dt (q40 p7)) (wu rfl (k40 d6) (dt (q40 p8)) (wu rfl (k40 d6) (dt (q40 p9)) (wu rfl (k40 d6) (dt (q50 p0)) (wu rfl (k40 d6) (dt (q50 p1)) (sn rfl rfl ?_)))))))))))
   iterate 2 refine st ?_
   refine wnil (xl ?_)
   exact ⟨_,_,rfl,(aK20 (aK10 (aK4 (aI (aO10 (aO9 aZ)))))),_,false,rfl,h,Le.r,hS⟩
 ·rintro _ t w3 ⟨μ3,b18,rfl,h,le21,hS⟩
  unfold syn_expr_j1 at h
  refine nrm (mK20 (mK10 (mK4 (mi (mO10 (mO9 mz)))))) (xn ?_)
  refine ccutE (List.range' 54 19) (by decide) (fun m w=>∃ μx b22,m=(yK20 (yK10 (yK4 (.i (.bool b22)::(yK10 (yK9 (yO10 54 (yO9 64 []))))))))∧syn_expr_j2 self p_2 p_3 r9 r15 b22=some r∧Le μ3 μx∧Sq μx w0 w (.blk b1 151 [.int .i64 r9.2]::rsF)) (by rintro _ _ ⟨_,_,rfl,_⟩; rfl) ?_ ?_
  ·refine cifb (et (k30 d4)) (xT h) fun h23=>?_
   replace h:=iF h23 h
   refine creg ?_
   iterate 3 refine st ?_
   refine ld ((m8 _ ((le11.t (le17.t le21)) _ hS.a)).one d0) ?_
   iterate 2 refine st ?_
   refine wspd (k50 d9) (q50 p9) (q50 p9) (fun h24=>?_) (fun h24=>?_)
   ·replace h:=iT h24 h
    refine sy rfl (sy rfl (sy rfl (wy rfl (k50 d9) (s_load ti2 (et (k60 d2)) ((m8 _ ((le11.t (le17.t le21)) _ hS.a)).one d1) (dt (q60 p3)) (sy rfl ?_)))))
    iterate 2 refine st ?_
    refine wspd (k60 d6) (q60 p6) (q60 p6) (fun h25=>?_) (xF h)
    replace h:=iT h25 h
    refine sy rfl (sy rfl (sy rfl (wy rfl (k60 d6) (s_load ti2 (et (k60 d9)) ((m8 _ ((le11.t (le17.t le21)) _ hS.a)).one d1) (dt (q70 p0)) (sy rfl ?_)))))
    iterate 2 refine st ?_
    refine wnil (xl ?_)
    exact ⟨_,_,rfl,(aK20 (aK10 (aK4 (aI (aK10 (aK9 (aO10 (aO9 aZ)))))))),_,(decide (p_2.N≠1)),rfl,h,Le.r,hS⟩
   ·replace h:=iF h24 h
    refine sn rfl rfl (sn rfl rfl (sn rfl rfl (sn rfl rfl (sn rfl rfl ?_))))
    iterate 2 refine st ?_
    refine sn rfl rfl (sn rfl rfl (sn rfl rfl (sn rfl rfl (sn rfl rfl ?_))))
    iterate 2 refine st ?_
    refine wnil (xl ?_)
    exact ⟨_,_,rfl,(aK20 (aK10 (aK4 (aI (aK10 (aK9 (aO10 (aO9 aZ)))))))),_,false,rfl,h,Le.r,hS⟩
  ·rintro _ t w4 ⟨μ4,b22,rfl,h,le26,hS⟩
   unfold syn_expr_j2 at h
   refine nrm (mK20 (mK10 (mK4 (mi (mK10 (mK9 (mO10 (mO9 mz)))))))) (xn ?_)
   refine cifb (et (k30 d4)) (xT h) fun h27=>?_
   replace h:=iF h27 h
   refine cseq ?_
   refine ccutE (List.range' 74 24) (by decide +kernel) (fun m w=>∃ μx b28,m=(yK50 (yK20 (yK3 (.i (.bool b28)::(yO20 74 (yO4 94 []))))))∧syn_expr_j3 self p_2 p_3 r9 r15 b28=some r∧Le μ4 μx∧Sq μx w0 w (.blk b1 151 [.int .i64 r9.2]::rsF)) (by rintro _ _ ⟨_,_,rfl,_⟩; rfl) ?_ ?_
   ·refine creg ?_
    iterate 3 refine st ?_
    refine ld ((m8 _ ((le11.t (le17.t (le21.t le26))) _ hS.a)).one d0) ?_
    iterate 2 refine st ?_
    refine wspd (k70 d9) (q70 p9) (q70 p9) (fun h29=>?_) (fun h29=>?_)
    ·replace h:=iT h29 h
     refine sn rfl rfl (sn rfl rfl (sn rfl rfl (sn rfl rfl (sn rfl rfl ?_))))
     iterate 2 refine st ?_
     refine sn rfl rfl (sn rfl rfl ?_)
     iterate 2 refine st ?_
     refine sy rfl (sy rfl (sy rfl (wy rfl (k90 d0) (s_load ti9 (et (k90 d3)) ((m8 _ ((le11.t (le17.t (le21.t le26))) _ hS.a)).one d2) (dt (q90 p4)) ?_))))
     replace h:=bI h; obtain ⟨b30,g31,h⟩:=h
     refine wy rfl (k90 d0) (s_callv isfn102 ef (e1 (et (k90 d4)) e0) (lex_named_w (hg.t (le11.t (le17.t (le21.t le26)))) g31 hS) ?_); rintro _ w5 ⟨rfl,hS⟩; refine po ?_
     refine sy rfl ?_
     iterate 2 refine st ?_
     refine wnil (xl ?_)
     exact ⟨_,_,rfl,(aK50 (aK20 (aK3 (aI (aO20 (aO4 aZ)))))),_,(!b30),rfl,h,Le.r,hS⟩
    ·replace h:=iF h29 h
     refine sy rfl (sy rfl (sy rfl (wy rfl (k70 d9) (s_load ti3 (et (k80 d2)) ((m8 _ ((le11.t (le17.t (le21.t le26))) _ hS.a)).one d0) (dt (q80 p3)) (sy rfl ?_)))))
     iterate 2 refine st ?_
     refine wspd (k80 d6) (q80 p6) (q80 p6) (fun h32=>?_) (fun h32=>?_)
     ·replace h:=iT h32 h
      refine sn rfl rfl (sn rfl rfl ?_)
      iterate 2 refine st ?_
      refine sy rfl (sy rfl (sy rfl (wy rfl (k90 d0) (s_load ti9 (et (k90 d3)) ((m8 _ ((le11.t (le17.t (le21.t le26))) _ hS.a)).one d2) (dt (q90 p4)) ?_))))
      replace h:=bI h; obtain ⟨b33,g34,h⟩:=h
      refine wy rfl (k90 d0) (s_callv isfn102 ef (e1 (et (k90 d4)) e0) (lex_named_w (hg.t (le11.t (le17.t (le21.t le26)))) g34 hS) ?_); rintro _ w6 ⟨rfl,hS⟩; refine po ?_
      refine sy rfl ?_
      iterate 2 refine st ?_
      refine wnil (xl ?_)
      exact ⟨_,_,rfl,(aK50 (aK20 (aK3 (aI (aO20 (aO4 aZ)))))),_,(!b33),rfl,h,Le.r,hS⟩
     ·replace h:=iF h32 h
      refine sy rfl (sy rfl ?_)
      iterate 2 refine st ?_
      refine wspd (k90 d0) (q90 p0) (q90 p0) (xT h) fun h35=>?_
      replace h:=iF h35 h
      refine sn rfl rfl (sn rfl rfl (sn rfl rfl (sn rfl rfl (sn rfl rfl (sn rfl rfl ?_)))))
      iterate 2 refine st ?_
      refine wnil (xl ?_)
      exact ⟨_,_,rfl,(aK50 (aK20 (aK3 (aI (aO20 (aO4 aZ)))))),_,false,rfl,h,Le.r,hS⟩
   ·rintro _ t w7 ⟨μ5,b28,rfl,h,le36,hS⟩
    unfold syn_expr_j3 at h
    refine nrm (mK50 (mK20 (mK3 (mi (mO20 (mO4 mz)))))) (xn ?_)
    refine cifb (et (k70 d3)) (xT h) fun h37=>?_
    replace h:=iF h37 h
    refine cseq (nz ?_)
    iterate 3 refine st ?_
    refine wspd (k100 d1) (q100 p1) (q100 p1) (fun h38=>?_) (xF h)
    replace h:=iT h38 h
    refine sy rfl (sy rfl (sy rfl (wy rfl (k100 d1) (s_load ti192 (et (k100 d4)) ((m8 _ ((le11.t (le17.t (le21.t (le26.t le36)))) _ hS.a)).one d3) (dt (q100 p5)) (wy rfl (k100 d1) (s_lensl underlying192 (et (k100 d5)) (dt (q100 p6)) (sy rfl (sy rfl ?_))))))))
    iterate 2 refine st ?_
    refine nw ?_
    refine cifd (et (k90 d8)) (xT h) fun h39=>?_
    replace h:=iF h39 h
    refine creg ?_
    iterate 3 refine st ?_
    refine wspd (k100 (k10 d2)) (q100 (q10 p2)) (q100 (q10 p2)) (xT h) fun h40=>?_
    replace h:=iF h40 h
    refine sn rfl rfl (sn rfl rfl (sn rfl rfl (sn rfl rfl (sn rfl rfl (sn rfl rfl ?_)))))
    iterate 2 refine st ?_
    refine nw (ciff (et (k90 d8)) (cskip ?_))
    refine (fun h=>bn (xn h)) ?_
    refine cseq (nz ?_)
    iterate 3 refine st ?_
    refine ld ((m8 _ ((le11.t (le17.t (le21.t (le26.t le36)))) _ hS.a)).one d3) (wl (s_lensl underlying192 (et (k100 (k20 d3))) (dt (q100 (q20 p4))) (st (nw (cblock ?_)))))
    refine cloopE ([6]++List.range' 9 2++List.range' 126 16) (by decide) (fun n m w=>∃ μx i59 i60,m=(yK6 (yO1 6 (yK2 (yO2 9 (yK50 (yK50 (yK10 (yK4 (.i (.int .i64 i59)::(yO10 126 (yO6 136 [])))))))))))∧syn_expr_l1 self p_2 p_3 n i59 i60=some r∧Le μ5 μx∧Sq μx w0 w (.blk b1 151 [.int .i64 i60]::rsF)) (by rintro _ _ _ ⟨_,_,_,rfl,_⟩; rfl) _ _ (aK6 (aO1 (aK2 (aO2 (aK50 (aK50 (aK10 (aK4 (aI (aO10 (aO6 aZ))))))))))) ⟨_,0,r9.2,rfl,h,Le.r,hS⟩ ?_
    rintro n_1 _ t w8 ⟨μ6,i59,i60,rfl,h,le79,hS⟩
    cases n_1 with
    | zero=>cases h
    | succ n_1 =>
    unfold syn_expr_l1 at h
    refine cnrm (mK6 (mO1 (mK2 (mO2 (mK50 (mK50 (mK10 (mK4 (mi (mO10 (mO6 mz))))))))))) (nz (st (ny ?_)))
    refine cifd (et (k100 (k20 d6))) (fun h80=>?_) (fun h80=>?_)
    ·replace h:=iT h80 h
     refine cskip (xn (cseq (cblock (nz ?_))))
     iterate 2 refine st ?_
     refine nx ?_
     iterate 4 refine st ?_
     refine ld ((m8 _ ((le11.t (le17.t (le21.t (le26.t (le36.t le79))))) _ hS.a)).one d3) (st ?_)
     replace h:=bI h; obtain ⟨x81,g82,h⟩:=h
     obtain ⟨b83,o84,cs85,e86,f87,m88⟩:=SlR.elem (m7.up (le11.t (le17.t (le21.t (le26.t (le36.t le79)))))) g82
     obtain ⟨a89,c90,rfl,m91⟩:=TExpr.o m88
     refine wl (s_iax underlying192 ti194 (et (k100 (k30 d2))) (et (k100 (k30 d3))) e86 (dt (q100 (q30 p4))) (st ?_))
     replace h:=bI h; obtain ⟨i92,g93,h⟩:=h
     refine wl (s_addc (et (k100 (k30 d5))) ec g93 (dt (q100 (q30 p6))) ?_)
     replace h:=bI h; obtain ⟨r94,g95,h⟩:=h
     refine ca (IH.syn_expr (hg.t (le11.t (le17.t (le21.t (le26.t (le36.t le79)))))) m91 f87 g95 hS) ?_
     rintro _ w9 ⟨μ7,rfl,le96,hS⟩
     refine po (st (nx ?_))
     iterate 2 refine st ?_
     refine nw ?_
     refine cifd (et (k100 (k30 d9))) (xT h) fun h97=>?_
     replace h:=iF h97 h
     refine cskip ?_
     refine (fun h=>bn (xn h)) ?_
     refine creg ?_
     replace h:=bI h; obtain ⟨i98,g99,h⟩:=h
     refine wl (s_addc (et (k100 (k20 d5))) ec g99 (dt (q100 (q40 p1))) (st (wnil (xl ?_))))
     exact ⟨n_1,_,_,rfl,(aK6 (aO1 (aK2 (aO2 (aK50 (aK50 (aK10 (aK4 (aI (aO10 (aO6 aZ))))))))))),⟨_,i98,r94.2,rfl,h,(le79.t le96),hS⟩,Nat.lt_succ_self _⟩
    ·replace h:=iF h80 h
     refine cexit ?_
     refine (fun h=>xe (xe (bh h))) ?_
     refine xn (nz (st (nw (cret ?_))))
     obtain rfl:=Option.some.inj h
     refine ret1 rfl d6 ?_
     exact ⟨_,rfl,(le11.t (le17.t (le21.t (le26.t (le36.t le79))))),hS⟩
theorem SynExpr_sound:∀ n,SynExprSound (SynExpr_run n)
  | 0=>⟨(by intros; rename_i h _; cases h)⟩
  | n+1=>⟨syn_expr_w (SynExpr_sound n)⟩
structure SynStatSound (sf:SynStat):Prop where
  syn_stats:∀ {μ0:M} {w0 w:World} {rsF:List Res} (hg:Le Gm μ0) {b1:Nat} {node_2:Int} {p_2:List TStat} {a3:Option Addr} {c4:Nat} {p_3:Int} {r:Int×Int} (m5:Sl μ0 a3 c4 p_2) (h:sf.syn_stats node_2 p_2 p_3=some r) (hS:Sq μ0 w0 w (.blk b1 151 [.int .i64 node_2]::rsF)),CallsV prog 107 [.pointer (some ⟨b1,0,none⟩),.slice a3 p_2.length c4,.int .i64 p_3] w (fun v w'=>∃ (μ':M) ,v=.int .i64 r.1∧Le μ0 μ'∧Sq μ' w0 w' (.blk b1 151 [.int .i64 r.2]::rsF))
  syn_stat:∀ {μ0:M} {w0 w:World} {rsF:List Res} (hg:Le Gm μ0) {b1:Nat} {node_2:Int} {p_2:TStat} {b3 o4:Nat} {a5:Option Addr} {c6:Nat} {a8:Option Addr} {c9:Nat} {a11:Option Addr} {c12:Nat} {p_3:Int} {r:Int×Int} (m7:Sl μ0 a5 c6 p_2.X.Kids) (m10:Sl μ0 a8 c9 p_2.Body) (m13:Sl μ0 a11 c12 p_2.Else) (m14:At μ0 b3 o4 [.int .i64 p_2.Kind,S p_2.Name,.int .i64 p_2.X.Kind,.int .i64 p_2.X.N,S p_2.X.Name,.slice a5 p_2.X.Kids.length c6,.slice a8 p_2.Body.length c9,.slice a11 p_2.Else.length c12]) (h:sf.syn_stat node_2 p_2 p_3=some r) (hS:Sq μ0 w0 w (.blk b1 151 [.int .i64 node_2]::rsF)),CallsV prog 138 [.pointer (some ⟨b1,0,none⟩),.pointer (some ⟨b3,o4,none⟩),.int .i64 p_3] w (fun v w'=>∃ (μ':M) ,v=.int .i64 r.1∧Le μ0 μ'∧Sq μ' w0 w' (.blk b1 151 [.int .i64 r.2]::rsF))
theorem syn_stats_w {self:SynStat} (IH:SynStatSound self) {μ0:M} {w0 w:World} {rsF:List Res} (hg:Le Gm μ0) {b1:Nat} {node_2:Int} {p_2:List TStat} {a3:Option Addr} {c4:Nat} {p_3:Int} {r:Int×Int} (m5:Sl μ0 a3 c4 p_2) (h:syn_stats self node_2 p_2 p_3=some r) (hS:Sq μ0 w0 w (.blk b1 151 [.int .i64 node_2]::rsF)):CallsV prog 107 [.pointer (some ⟨b1,0,none⟩),.slice a3 p_2.length c4,.int .i64 p_3] w (fun v w'=>∃ (μ':M) ,v=.int .i64 r.1∧Le μ0 μ'∧Sq μ' w0 w' (.blk b1 151 [.int .i64 r.2]::rsF)):=by
 unfold syn_stats at h
 refine enter func107 rfl (frm:=_::_::_::u2 (u2 (u20 []))) rfl (nz (st (ny (nz (st (wl (s_lensl underlying91 (et d9) (dt (q10 p0)) (st (nw ?_)))))))))
 refine cifd (et (k10 d1)) (xT h) fun h6=>?_
 replace h:=iF h6 h
 refine cskip (xn (cseq (nz (st (wl (s_lensl underlying91 (et (k10 d2)) (dt (q10 p3)) (st (nw (cblock ?_)))))))))
 refine cloopE (List.range' 6 3++List.range' 15 12) (by decide) (fun n m w=>∃ μx i29 i30,m=(yK6 (yO3 6 (yK5 (.i (.int .i64 i29)::(yO10 15 (yO2 25 []))))))∧syn_stats_l1 self p_2 p_3 n i29 i30=some r∧Le μ0 μx∧Sq μx w0 w (.blk b1 151 [.int .i64 i30]::rsF)) (by rintro _ _ _ ⟨_,_,_,rfl,_⟩; rfl) _ _ (aK6 (aO3 (aK5 (aI (aO10 (aO2 aZ)))))) ⟨_,0,node_2,rfl,h,Le.r,hS⟩ ?_
 rintro n_1 _ t w1 ⟨μ1,i29,i30,rfl,h,le53,hS⟩
 cases n_1 with
 | zero=>cases h
 | succ n_1 =>
 unfold syn_stats_l1 at h
 refine cnrm (mK6 (mO3 (mK5 (mi (mO10 (mO2 mz)))))) (nz (st (ny ?_)))
 refine cifd (et (k10 d5)) (fun h54=>?_) (fun h54=>?_)
 ·replace h:=iT h54 h
  refine cskip (xn (cseq (cblock (nz ?_))))
  iterate 2 refine st ?_
  refine nx ?_
  iterate 3 refine st ?_
  replace h:=bI h; obtain ⟨x55,g56,h⟩:=h
  obtain ⟨b57,o58,cs59,e60,f61,m62⟩:=SlR.elem (m5.up le53) g56
  obtain ⟨a63,c64,a66,c67,a69,c70,rfl,m65,m68,m71⟩:=TStat.o m62
  refine wl (s_iax underlying91 ti196 (et (k10 d8)) (et (k10 d9)) e60 (dt (q20 p0)) (st ?_))
  replace h:=bI h; obtain ⟨r72,g73,h⟩:=h
  refine ca (IH.syn_stat (hg.t le53) m65 m68 m71 f61 g73 hS) ?_
  rintro _ w2 ⟨μ2,rfl,le74,hS⟩
  refine po (st (nx ?_))
  iterate 2 refine st ?_
  refine nw ?_
  refine cifd (et (k20 d4)) (xT h) fun h75=>?_
  replace h:=iF h75 h
  refine cskip ?_
  refine (fun h=>bn (xn h)) ?_
  refine creg ?_
  replace h:=bI h; obtain ⟨i76,g77,h⟩:=h
  refine wl (s_addc (et (k10 d4)) ec g77 (dt (q20 p6)) (st (wnil (xl ?_))))
  exact ⟨n_1,_,_,rfl,(aK6 (aO3 (aK5 (aI (aO10 (aO2 aZ)))))),⟨_,i76,r72.2,rfl,h,(le53.t le74),hS⟩,Nat.lt_succ_self _⟩
 ·replace h:=iF h54 h
  refine cexit ?_
  refine (fun h=>xe (xe (bh h))) ?_
  refine xn (nz (st (nw (cret ?_))))
  obtain rfl:=Option.some.inj h
  refine ret1 rfl d6 ?_
  exact ⟨_,rfl,le53,hS⟩
theorem syn_stat_w {self:SynStat} (IH:SynStatSound self) {fu:Nat} {μ0:M} {w0 w:World} {rsF:List Res} (hg:Le Gm μ0) {b1:Nat} {node_2:Int} {p_2:TStat} {b3 o4:Nat} {a5:Option Addr} {c6:Nat} {a8:Option Addr} {c9:Nat} {a11:Option Addr} {c12:Nat} {p_3:Int} {r:Int×Int} (m7:Sl μ0 a5 c6 p_2.X.Kids) (m10:Sl μ0 a8 c9 p_2.Body) (m13:Sl μ0 a11 c12 p_2.Else) (m14:At μ0 b3 o4 [.int .i64 p_2.Kind,S p_2.Name,.int .i64 p_2.X.Kind,.int .i64 p_2.X.N,S p_2.X.Name,.slice a5 p_2.X.Kids.length c6,.slice a8 p_2.Body.length c9,.slice a11 p_2.Else.length c12]) (h:syn_stat fu self node_2 p_2 p_3=some r) (hS:Sq μ0 w0 w (.blk b1 151 [.int .i64 node_2]::rsF)):CallsV prog 138 [.pointer (some ⟨b1,0,none⟩),.pointer (some ⟨b3,o4,none⟩),.int .i64 p_3] w (fun v w'=>∃ (μ':M) ,v=.int .i64 r.1∧Le μ0 μ'∧Sq μ' w0 w' (.blk b1 151 [.int .i64 r.2]::rsF)):=by
 unfold syn_stat at h
 refine enter func138 rfl (frm:=_::_::_::u1 (u5 (u50 (u50 [])))) rfl (nz (st (ny (nz ?_))))
 iterate 2 refine st ?_
 replace h:=bI h; obtain ⟨r15,g16,h⟩:=h
 refine ca (syn_node_w hg g16 hS) ?_
 rintro _ w1 ⟨μ1,rfl,le17,hS⟩
 refine po (st (nx ?_))
 iterate 2 refine st ?_
 refine nw ?_
 refine cifd (et (k10 d4)) (xT h) fun h18=>?_
 replace h:=iF h18 h
 refine cskip (xn (cseq (cblock (nz ?_))))
 iterate 3 refine st ?_
 refine ld ((m14 _ (le17 _ hS.a)).one d0) ?_
 iterate 2 refine st ?_
 refine wspd (k20 d2) (q20 p2) (q20 p2) (xT h) fun h19=>?_
 replace h:=iF h19 h
 refine sy rfl (sy rfl (sy rfl (wy rfl (k20 d2) (s_load ti3 (et (k20 d5)) ((m14 _ (le17 _ hS.a)).one d0) (dt (q20 p6)) (sy rfl ?_)))))
 iterate 2 refine st ?_
 refine nw ?_
 refine cifd (et (k10 d6)) (xT h) fun h20=>?_
 replace h:=iF h20 h
 refine cseq ?_
 refine ccutE (List.range' 30 27) (by decide +kernel) (fun m w=>∃ μx b21,m=(yK20 (yK9 (.i (.bool b21)::(yO20 30 (yO7 50 [])))))∧syn_stat_j1 fu self p_2 p_3 r15 b21=some r∧Le μ1 μx∧Sq μx w0 w (.blk b1 151 [.int .i64 r15.2]::rsF)) (by rintro _ _ ⟨_,_,rfl,_⟩; rfl) ?_ ?_
 ·refine creg ?_
  iterate 3 refine st ?_
  refine ld ((m14 _ (le17 _ hS.a)).one d0) ?_
  iterate 2 refine st ?_
  refine wspd (k30 d5) (q30 p5) (q30 p5) (fun h22=>?_) (fun h22=>?_)
  ·replace h:=iT h22 h
   refine sn rfl rfl (sn rfl rfl (sn rfl rfl (sn rfl rfl (sn rfl rfl ?_))))
   iterate 2 refine st ?_
   refine sn rfl rfl (sn rfl rfl (sn rfl rfl (sn rfl rfl (sn rfl rfl ?_))))
   iterate 2 refine st ?_
   refine sy rfl (sy rfl (sy rfl (wy rfl (k40 d9) (s_load ti9 (et (k50 d2)) ((m14 _ (le17 _ hS.a)).one d1) (dt (q50 p3)) ?_))))
   replace h:=bI h; obtain ⟨b23,g24,h⟩:=h
   refine wy rfl (k40 d9) (s_callv isfn102 ef (e1 (et (k50 d3)) e0) (lex_named_w (hg.t le17) g24 hS) ?_); rintro _ w2 ⟨rfl,hS⟩; refine po ?_
   refine sy rfl ?_
   iterate 2 refine st ?_
   refine wnil (xl ?_)
   exact ⟨_,_,rfl,(aK20 (aK9 (aI (aO20 (aO7 aZ))))),_,(!b23),rfl,h,Le.r,hS⟩
  ·replace h:=iF h22 h
   refine sy rfl (sy rfl (sy rfl (wy rfl (k30 d5) (s_load ti3 (et (k30 d8)) ((m14 _ (le17 _ hS.a)).one d0) (dt (q30 p9)) (sy rfl ?_)))))
   iterate 2 refine st ?_
   refine wspd (k40 d2) (q40 p2) (q40 p2) (fun h25=>?_) (fun h25=>?_)
   ·replace h:=iT h25 h
    refine sn rfl rfl (sn rfl rfl (sn rfl rfl (sn rfl rfl (sn rfl rfl ?_))))
    iterate 2 refine st ?_
    refine sy rfl (sy rfl (sy rfl (wy rfl (k40 d9) (s_load ti9 (et (k50 d2)) ((m14 _ (le17 _ hS.a)).one d1) (dt (q50 p3)) ?_))))
    replace h:=bI h; obtain ⟨b26,g27,h⟩:=h
    refine wy rfl (k40 d9) (s_callv isfn102 ef (e1 (et (k50 d3)) e0) (lex_named_w (hg.t le17) g27 hS) ?_); rintro _ w3 ⟨rfl,hS⟩; refine po ?_
    refine sy rfl ?_
    iterate 2 refine st ?_
    refine wnil (xl ?_)
    exact ⟨_,_,rfl,(aK20 (aK9 (aI (aO20 (aO7 aZ))))),_,(!b26),rfl,h,Le.r,hS⟩
   ·replace h:=iF h25 h
    refine sy rfl (sy rfl (sy rfl (wy rfl (k40 d2) (s_load ti3 (et (k40 d5)) ((m14 _ (le17 _ hS.a)).one d0) (dt (q40 p6)) (sy rfl ?_)))))
    iterate 2 refine st ?_
    refine wspd (k40 d9) (q40 p9) (q40 p9) (xT h) fun h28=>?_
    replace h:=iF h28 h
    refine sn rfl rfl (sn rfl rfl (sn rfl rfl (sn rfl rfl (sn rfl rfl (sn rfl rfl ?_)))))
    iterate 2 refine st ?_
    refine wnil (xl ?_)
    exact ⟨_,_,rfl,(aK20 (aK9 (aI (aO20 (aO7 aZ))))),_,false,rfl,h,Le.r,hS⟩
 ·rintro _ t w4 ⟨μ2,b21,rfl,h,le29,hS⟩
  unfold syn_stat_j1 at h
  refine nrm (mK20 (mK9 (mi (mO20 (mO7 mz))))) (xn ?_)
  refine cifb (et (k20 d9)) (xT h) fun h30=>?_
  replace h:=iF h30 h
  refine nz ?_
  iterate 3 refine st ?_
  refine ld ((m14 _ ((le17.t le29) _ hS.a)).one d0) ?_
  iterate 2 refine st ?_
  refine nw ?_
  refine cifd (et (k50 d7)) (xT h) fun h31=>?_
  replace h:=iF h31 h
  refine cskip ?_
  refine (fun h=>bn (xn h)) ?_
  refine cseq (nz ?_)
  iterate 5 refine st ?_
  replace h:=bI h; obtain ⟨i33,g34,h⟩:=h
  refine wl (s_addc (et (k60 d7)) ec g34 (dt (q60 p8)) ?_)
  replace h:=bI h; obtain ⟨r35,g36,h⟩:=h
  refine ca ((SynExpr_sound fu).syn_expr (hg.t (le17.t le29)) (m7.up (le17.t le29)) ((m14.up (le17.t le29)).sb 2 4) g36 hS) ?_
  rintro _ w5 ⟨μ3,rfl,le37,hS⟩
  refine po (st (nx ?_))
  iterate 2 refine st ?_
  refine nw ?_
  refine cifd (et (k70 d1)) (xT h) fun h38=>?_
  replace h:=iF h38 h
  refine cskip (xn (cseq (cseq ?_)))
  refine ccutE (List.range' 73 11) (by decide) (fun m w=>∃ μx b39,m=(yK50 (yK20 (yK3 (yO10 73 (yO1 83 (.i (.bool b39)::[]))))))∧syn_stat_j2 self p_2 p_3 r35 b39=some r∧Le μ3 μx∧Sq μx w0 w (.blk b1 151 [.int .i64 r35.2]::rsF)) (by rintro _ _ ⟨_,_,rfl,_⟩; rfl) ?_ ?_
  ·refine creg ?_
   iterate 3 refine st ?_
   refine ld ((m14 _ ((le17.t (le29.t le37)) _ hS.a)).one d0) ?_
   iterate 2 refine st ?_
   refine wspd (k70 d8) (q70 p8) (q70 p8) (fun h40=>?_) (fun h40=>?_)
   ·replace h:=iT h40 h
    refine sn rfl rfl (sn rfl rfl (sn rfl rfl (sn rfl rfl (sn rfl rfl (st (wnil (xl ?_)))))))
    exact ⟨_,_,rfl,(aK50 (aK20 (aK3 (aO10 (aO1 (aI aZ)))))),_,true,rfl,h,Le.r,hS⟩
   ·replace h:=iF h40 h
    refine sy rfl (sy rfl (sy rfl (wy rfl (k70 d8) (s_load ti3 (et (k80 d1)) ((m14 _ ((le17.t (le29.t le37)) _ hS.a)).one d0) (dt (q80 p2)) (sy rfl (st (wnil (xl ?_))))))))
    exact ⟨_,_,rfl,(aK50 (aK20 (aK3 (aO10 (aO1 (aI aZ)))))),_,(decide (p_2.Kind=4)),rfl,h,Le.r,hS⟩
  ·rintro _ t w6 ⟨μ4,b39,rfl,h,le41,hS⟩
   unfold syn_stat_j2 at h
   refine nrm (mK50 (mK20 (mK3 (mO10 (mO1 (mi mz)))))) (xn ?_)
   refine ccutE ([6]++[9]++List.range' 85 11) (by decide) (fun m w=>∃ μx i42,m=(yK6 (yO1 6 (yK2 (yO1 9 (yK50 (yK20 (yK5 (yO10 85 (yO1 95 [])))))))))∧syn_stat_j3 self p_2 p_3 i42=some r∧Le μ4 μx∧Sq μx w0 w (.blk b1 151 [.int .i64 i42]::rsF)) (by rintro _ _ ⟨_,_,rfl,_⟩; rfl) ?_ ?_
   ·refine cifb (et (k80 d4)) (fun h43=>?_) (fun h43=>?_)
    ·replace h:=iT h43 h
     refine nz ?_
     iterate 4 refine st ?_
     refine ld ((m14 _ ((le17.t (le29.t (le37.t le41))) _ hS.a)).one d6) (st ?_)
     replace h:=bI h; obtain ⟨i44,g45,h⟩:=h
     refine wl (s_addc (et (k90 d0)) ec g45 (dt (q90 p1)) ?_)
     replace h:=bI h; obtain ⟨r46,g47,h⟩:=h
     refine ca (IH.syn_stats (hg.t (le17.t (le29.t (le37.t le41)))) (m10.up (le17.t (le29.t (le37.t le41)))) g47 hS) ?_
     rintro _ w7 ⟨μ5,rfl,le48,hS⟩
     refine po (st (nx ?_))
     iterate 2 refine st ?_
     refine nw ?_
     refine cifd (et (k90 d4)) (xT h) fun h49=>?_
     replace h:=iF h49 h
     refine cskip (xl ?_)
     exact ⟨_,_,rfl,(aK6 (aO1 (aK2 (aO1 (aK50 (aK20 (aK5 (aO10 (aO1 aZ))))))))),_,r46.2,rfl,h,le48,hS⟩
    ·replace h:=iF h43 h
     refine cskip (xl ?_)
     exact ⟨_,_,rfl,(aK6 (aO1 (aK2 (aO1 (aK50 (aK20 (aK5 (aO10 (aO1 aZ))))))))),_,r35.2,rfl,h,Le.r,hS⟩
   ·rintro _ t w8 ⟨μ6,i42,rfl,h,le50,hS⟩
    unfold syn_stat_j3 at h
    refine nrm (mK6 (mO1 (mK2 (mO1 (mK50 (mK20 (mK5 (mO10 (mO1 mz))))))))) (xn (cseq (nz ?_)))
    iterate 3 refine st ?_
    refine ld ((m14 _ ((le17.t (le29.t (le37.t (le41.t le50)))) _ hS.a)).one d0) (st (nw ?_))
    refine cifd (et (k100 d0)) (fun h51=>?_) (fun h51=>?_)
    ·replace h:=iT h51 h
     refine nz ?_
     iterate 4 refine st ?_
     refine ld ((m14 _ ((le17.t (le29.t (le37.t (le41.t le50)))) _ hS.a)).one d7) (st ?_)
     replace h:=bI h; obtain ⟨i52,g53,h⟩:=h
     refine wl (s_addc (et (k100 d6)) ec g53 (dt (q100 p7)) ?_)
     replace h:=bI h; obtain ⟨r54,g55,h⟩:=h
     refine ca (IH.syn_stats (hg.t (le17.t (le29.t (le37.t (le41.t le50))))) (m13.up (le17.t (le29.t (le37.t (le41.t le50))))) g55 hS) ?_
     rintro _ w9 ⟨μ7,rfl,le56,hS⟩
     refine po (st (nw (cret (xr ?_))))
     obtain rfl:=Option.some.inj h
     refine ret1 rfl d6 ?_
     exact ⟨_,rfl,(le17.t (le29.t (le37.t (le41.t (le50.t le56))))),hS⟩
    ·replace h:=iF h51 h
     refine cskip (xn (nz (st (nw (cret ?_)))))
     obtain rfl:=Option.some.inj h
     refine ret1 rfl d6 ?_
     exact ⟨_,rfl,(le17.t (le29.t (le37.t (le41.t le50)))),hS⟩
theorem SynStat_sound:∀ n,SynStatSound (SynStat_run n)
  | 0=>⟨(by intros; rename_i h _; cases h),(by intros; rename_i h _; cases h)⟩
  | n+1=>⟨syn_stats_w (SynStat_sound n),syn_stat_w (SynStat_sound n)⟩
theorem syn_def_w (hg:Le Gm μ0) {node_2:Int} {p_2:TDef} {r:Int×Int} (m7:Sl μ0 a5 c6 p_2.Params) (m10:Sl μ0 a8 c9 p_2.Body) (m11:At μ0 b3 o4 [.int .i64 p_2.Kind,S p_2.Name,.int .i64 p_2.Typ.Kind,S p_2.Typ.Gen,.int .i64 p_2.Takes.Kind,S p_2.Takes.Gen,.int .i64 p_2.Cap,.slice a5 p_2.Params.length c6,.slice a8 p_2.Body.length c9]) (h:syn_def fu node_2 p_2=some r) (hS:Sq μ0 w0 w (.blk b1 151 [.int .i64 node_2]::rsF)):CallsV prog 71 [.pointer (some ⟨b1,0,none⟩),.pointer (some ⟨b3,o4,none⟩)] w (fun v w'=>∃ (μ':M) ,v=.int .i64 r.1∧Le μ0 μ'∧Sq μ' w0 w' (.blk b1 151 [.int .i64 r.2]::rsF)):=by
 unfold syn_def at h
 refine enter func71 rfl (frm:=_::_::u2 (u2 (u5 (u10 (u50 (u50 [])))))) rfl (nz (st (ny (nz (st ?_)))))
 replace h:=bI h; obtain ⟨r12,g13,h⟩:=h
 refine ca (syn_node_w hg g13 hS) ?_
 rintro _ w1 ⟨μ1,rfl,le14,hS⟩
 refine po (st (nx ?_))
 iterate 2 refine st ?_
 refine nw ?_
 refine cifd (et (k10 d4)) (xT h) fun h15=>?_
 replace h:=iF h15 h
 refine cskip (xn (cseq (nz ?_)))
 iterate 3 refine st ?_
 refine ld ((m11 _ (le14 _ hS.a)).one d0) ?_
 iterate 2 refine st ?_
 refine wspd (k20 d1) (q20 p1) (q20 p1) (xT h) fun h16=>?_
 replace h:=iF h16 h
 refine sy rfl (sy rfl (sy rfl (wy rfl (k20 d1) (s_load ti3 (et (k20 d4)) ((m11 _ (le14 _ hS.a)).one d0) (dt (q20 p5)) (sy rfl (st (nw ?_)))))))
 refine cifd (et (k20 d7)) (xT h) fun h17=>?_
 replace h:=iF h17 h
 refine cskip (xn (cseq (nz ?_)))
 iterate 3 refine st ?_
 refine ld ((m11 _ (le14 _ hS.a)).one d1) ?_
 replace h:=bI h; obtain ⟨b18,g19,h⟩:=h
 refine wl (s_callv isfn102 ef (e1 (et (k30 d1)) e0) (lex_named_w (hg.t le14) g19 hS) ?_); rintro _ w2 ⟨rfl,hS⟩; refine po ?_
 refine st (nw ?_)
 refine cifnb (et (k30 d3)) (xF h) fun h20=>?_
 replace h:=iT h20 h
 refine cskip (xn (cseq (nz ?_)))
 iterate 3 refine st ?_
 refine ld ((m11 _ (le14 _ hS.a)).one d0) ?_
 iterate 2 refine st ?_
 refine wspd (k30 d9) (q30 p9) (q30 p9) (xT h) fun h21=>?_
 replace h:=iF h21 h
 refine sy rfl (sy rfl (sy rfl (wy rfl (k30 d9) (s_load ti3 (et (k40 d2)) ((m11 _ (le14 _ hS.a)).one d0) (dt (q40 p3)) (sy rfl (st (nw ?_)))))))
 refine cifd (et (k40 d5)) (xT h) fun h22=>?_
 replace h:=iF h22 h
 refine cskip (xn (cseq (nz ?_)))
 iterate 3 refine st ?_
 refine ld ((m11 _ (le14 _ hS.a)).one d0) (st (nw ?_))
 refine cifd (et (k70 d6)) (xT h) fun h23=>?_
 replace h:=iF h23 h
 refine cskip (xn (cseq (nz ?_)))
 iterate 3 refine st ?_
 refine ld ((m11 _ (le14 _ hS.a)).one d0) (st (nw ?_))
 refine ccutE ([4]++[10]++List.range' 90 8) (by decide) (fun m w=>∃ (μx:M) ,m=(yK4 (yO1 4 (yK5 (yO1 10 (yK50 (yK20 (yK9 (yO8 90 []))))))))∧syn_def_j1 fu p_2 r12 =some r∧Le μ1 μx∧Sq μx w0 w (.blk b1 151 [.int .i64 r12.2]::rsF)) (by rintro _ _ ⟨_,rfl,_⟩; rfl) ?_ ?_
 ·refine cifd (et (k80 d9)) (fun h24=>?_) (fun h24=>?_)
  ·replace h:=iT h24 h
   refine nz ?_
   iterate 3 refine st ?_
   refine lds ((m11 _ (le14 _ hS.a)).sb 2 2) rfl ?_
   replace h:=bI h; obtain ⟨r25,g26,h⟩:=h
   refine ca (syn_typ_w (hg.t le14) g26 hS) ?_
   rintro _ w3 ⟨μ2,rfl,le27,hS⟩
   refine po (st (nx ?_))
   iterate 2 refine st ?_
   refine nw ?_
   refine cifd (et (k90 d6)) (xT h) fun h28=>?_
   replace h:=iF h28 h
   refine cskip (xl ?_)
   exact ⟨_,_,rfl,(aK4 (aO1 (aK5 (aO1 (aK50 (aK20 (aK9 (aO8 aZ)))))))),_,rfl,h,le27,hS⟩
  ·replace h:=iF h24 h
   refine cskip (xl ?_)
   exact ⟨_,_,rfl,(aK4 (aO1 (aK5 (aO1 (aK50 (aK20 (aK9 (aO8 aZ)))))))),_,rfl,h,Le.r,hS⟩
 ·rintro _ t w4 ⟨μ3,rfl,h,le29,hS⟩
  unfold syn_def_j1 at h
  refine nrm (mK4 (mO1 (mK5 (mO1 (mK50 (mK20 (mK9 (mO8 mz)))))))) (xn (cseq (nz ?_)))
  iterate 3 refine st ?_
  refine ld ((m11 _ ((le14.t le29) _ hS.a)).one d0) (st (nw ?_))
  refine cifd (et (k100 d2)) (fun h30=>?_) (fun h30=>?_)
  ·replace h:=iT h30 h
   refine nz ?_
   iterate 4 refine st ?_
   refine ld ((m11 _ ((le14.t le29) _ hS.a)).one d8) ?_
   replace h:=bI h; obtain ⟨r31,g32,h⟩:=h
   refine ca ((SynStat_sound fu).syn_stats (hg.t (le14.t le29)) (m10.up (le14.t le29)) g32 hS) ?_
   rintro _ w5 ⟨μ4,rfl,le33,hS⟩
   refine po (st (nw (cret (xr ?_))))
   obtain rfl:=Option.some.inj h
   refine ret1 rfl d4 ?_
   exact ⟨_,rfl,(le14.t (le29.t le33)),hS⟩
  ·replace h:=iF h30 h
   refine cskip (xn (cseq (nz ?_)))
   iterate 3 refine st ?_
   refine ld ((m11 _ ((le14.t le29) _ hS.a)).one d6) ?_
   iterate 2 refine st ?_
   refine wspd (k100 (k10 d4)) (q100 (q10 p4)) (q100 (q10 p4)) (xT h) fun h34=>?_
   replace h:=iF h34 h
   refine sy rfl (sy rfl (sy rfl (wy rfl (k100 (k10 d4)) (s_load ti3 (et (k100 (k10 d7))) ((m11 _ ((le14.t le29) _ hS.a)).one d6) (dt (q100 (q10 p8))) (sy rfl (st (nw ?_)))))))
   refine cifd (et (k100 (k20 d0))) (xT h) fun h35=>?_
   replace h:=iF h35 h
   refine cskip (xn (nz (st (nw (cret ?_)))))
   obtain rfl:=Option.some.inj h
   refine ret1 rfl d4 ?_
   exact ⟨_,rfl,(le14.t le29),hS⟩
theorem syn_wrong_w (hg:Le Gm μ0) {p_1:List TDef} {r:TFault} (m3:Sl μ0 a1 c2 p_1) (h:syn_wrong fu p_1=some r) (hS:Sq μ0 w0 w (rsF)):CallsV prog 37 [.slice a1 p_1.length c2] w (fun v w'=>∃ (μ':M) ,v=.agg ⟨[.int .i64 r.Err,.int .i64 r.At]⟩∧Le μ0 μ'∧Sq μ' w0 w' (rsF)):=by
 unfold syn_wrong at h
 refine enter func37 rfl (frm:=_::u1 (u2 (u5 (u20 [])))) rfl (nz ?_)
 refine wl (s_alloc ti47 hS ?_); clear hS; intro b4 w1 hb5 hS; refine po ?_
 refine ny (nz (st (wl (s_lensl underlying45 (et d6) (dt p7) (st (nw ?_))))))
 refine cifd (et d8) (xT h) fun h6=>?_
 replace h:=iF h6 h
 refine cskip (xn (nz (wl (s_build ti151 pl151 Fl.z (dt (q10 p0)) ?_))))
 refine wl (s_box (et (k10 d0)) rfl hS ?_); clear hS; intro b7 w2 hb8 hS; refine po ?_
 refine st (ny (nz (st (wl (s_lensl underlying45 (et (k10 d2)) (dt (q10 p3)) (st (nw (cblock ?_))))))))
 replace hS:=hS.bg Y1
 refine cloopE (List.range' 4 2++List.range' 15 13) (by decide) (fun n m w=>∃ μx i28 i29,m=(yK4 (yO2 4 (yK8 (.i (.int .i64 i28)::(yO10 15 (yO3 25 []))))))∧syn_wrong_l1 fu p_1 n i28 i29=some r∧Le μ0 μx∧Sq μx w0 w (.blk b4 47 [.int .i64 0,.int .i64 0]::.blk b7 151 [.int .i64 i29]::rsF)) (by rintro _ _ _ ⟨_,_,_,rfl,_⟩; rfl) _ _ (aK4 (aO2 (aK8 (aI (aO10 (aO3 aZ)))))) ⟨_,0,0,rfl,h,Le.r,hS⟩ ?_
 rintro n_1 _ t w3 ⟨μ1,i28,i29,rfl,h,le49,hS⟩
 cases n_1 with
 | zero=>cases h
 | succ n_1 =>
 unfold syn_wrong_l1 at h
 refine cnrm (mK4 (mO2 (mK8 (mi (mO10 (mO3 mz)))))) (nz (st (ny ?_)))
 refine cifd (et (k10 d5)) (fun h50=>?_) (fun h50=>?_)
 ·replace h:=iT h50 h
  refine cskip (xn (cseq (cblock (nz ?_))))
  iterate 2 refine st ?_
  refine nx ?_
  iterate 3 refine st ?_
  replace h:=bI h; obtain ⟨x51,g52,h⟩:=h
  obtain ⟨b53,o54,cs55,e56,f57,m58⟩:=SlR.elem (m3.up le49) g52
  obtain ⟨a59,c60,a62,c63,rfl,m61,m64⟩:=m58
  refine wl (s_iax underlying45 ti93 (et (k10 d8)) (et (k10 d9)) e56 (dt (q20 p0)) ?_)
  replace h:=bI h; obtain ⟨r65,g66,h⟩:=h
  replace hS:=hS.bg Y1
  refine ca (syn_def_w (hg.t le49) m61 m64 f57 g66 hS) ?_
  rintro _ w4 ⟨μ2,rfl,le67,hS⟩
  refine po (st (nx ?_))
  iterate 2 refine st ?_
  refine nw ?_
  refine cifd (et (k20 d3)) (xT h) fun h68=>?_
  replace h:=iF h68 h
  refine cskip ?_
  refine (fun h=>bn (xn h)) ?_
  refine creg ?_
  replace h:=bI h; obtain ⟨i69,g70,h⟩:=h
  refine wl (s_addc (et (k10 d4)) ec g70 (dt (q20 p7)) (st (wnil (xl ?_))))
  replace hS:=hS.bg Y1
  exact ⟨n_1,_,_,rfl,(aK4 (aO2 (aK8 (aI (aO10 (aO3 aZ)))))),⟨_,i69,r65.2,rfl,h,(le49.t le67),hS⟩,Nat.lt_succ_self _⟩
 ·replace h:=iF h50 h
  refine cexit ?_
  refine (fun h=>xe (xe (bh h))) ?_
  refine xn (nz (wl (s_build ti47 pl47 Fl.z (dt (q20 p8)) (wl (s_storeA ti47 (et d2) (et (k20 d8)) rfl rfl hS d0 rfl p0 dn ?_)))))
  clear hS; intro w5 hS
  refine nw (cret ?_)
  obtain rfl:=Option.some.inj h
  refine retN rfl (RVs.s (.a d2 ti47 (hS.blk d0).cells rfl) RVs.z) ?_
  replace hS:=(hS.drop Rm.z).drop Rm.z
  exact ⟨_,rfl,le49,hS⟩
end Go.Proofs.YtegmgfljdeabeaaGreatDoor
set_option maxRecDepth 100000
set_option maxHeartbeats 20000000
namespace Go.Proofs.YtegmgfljdeabeaaGreatDoor
open Go.Wk Go.Xt Go.Y Tryz
variable {b1 c4 c9:Nat} {a3 a8:Option Addr} {μ0:M} {w0 w:World} {rsF:List Res}
theorem p_at_w (hg:Le Gm μ0) {left_2:List TToken} {end_6 deep_7 r:Int} (m5:Sl μ0 a3 c4 left_2) (h:p_at left_2 end_6 deep_7=some r) (hS:Sq μ0 w0 w (.blk b1 85 [.slice a3 left_2.length c4,.int .i64 end_6,.int .i64 deep_7]::rsF)):CallsV prog 35 [.pointer (some ⟨b1,0,none⟩)] w (fun v w'=>∃ (μ':M) ,v=.int .i64 r∧Le μ0 μ'∧Sq μ' w0 w' (.blk b1 85 [.slice a3 left_2.length c4,.int .i64 end_6,.int .i64 deep_7]::rsF)):=by
 unfold p_at at h
 refine enter func35 rfl (frm:=_::u2 (u2 (u5 (u10 [])))) rfl (nz (st (ny (nz ?_))))
 iterate 3 refine st ?_
 refine ld ((hS.blk d0).cell d0) (wl (s_lensl underlying78 (et d6) (dt p7) (st (nw ?_))))
 refine cifd (et d8) (xT h) fun h8=>?_
 replace h:=iF h8 h
 refine cskip (xn (nz ?_))
 iterate 3 refine st ?_
 refine ld ((hS.blk d0).cell d0) ?_
 replace h:=bI h; obtain ⟨x9,g10,h⟩:=h
 obtain ⟨b11,o12,cs13,e14,f15,m16⟩:=SlR.elem m5 g10
 obtain rfl:=m16
 refine wl (s_iax underlying78 ti135 (et (k10 d6)) ec e14 (dt (q10 p7)) (st (ld ((f15 _ hS.a).one d3) (st (nw (cret ?_))))))
 obtain rfl:=Option.some.inj h
 refine ret1 rfl d2 ?_
 exact ⟨_,rfl,Le.r,hS⟩
theorem p_sees_w (hg:Le Gm μ0) {left_2:List TToken} {end_6 deep_7:Int} {p_2:List UInt8} {r:Bool} (m5:Sl μ0 a3 c4 left_2) (h:p_sees left_2 end_6 deep_7 p_2=some r) (hS:Sq μ0 w0 w (.blk b1 85 [.slice a3 left_2.length c4,.int .i64 end_6,.int .i64 deep_7]::rsF)):CallsV prog 101 [.pointer (some ⟨b1,0,none⟩),S p_2] w (fun v w'=>∃ (μ':M) ,v=.bool r∧Le μ0 μ'∧Sq μ' w0 w' (.blk b1 85 [.slice a3 left_2.length c4,.int .i64 end_6,.int .i64 deep_7]::rsF)):=by
 unfold p_sees at h
 refine enter func101 rfl (frm:=_::_::u20 []) rfl (nz (st (nx ?_)))
 iterate 3 refine st ?_
 refine ld ((hS.blk d0).cell d0) (wl (s_lensl underlying78 (et d8) (dt p9) ?_))
 iterate 2 refine st ?_
 refine wspd (k10 d1) (q10 p1) (q10 p1) (fun h8=>?_) (xF h)
 replace h:=iT h8 h
 refine sy rfl (sy rfl (sy rfl (wy rfl (k10 d1) (s_load ti78 (et (k10 d4)) ((hS.blk d0).cell d0) (dt (q10 p5)) ?_))))
 replace h:=bI h; obtain ⟨x9,g10,h⟩:=h
 obtain ⟨b11,o12,cs13,e14,f15,m16⟩:=SlR.elem m5 g10
 obtain rfl:=m16
 refine wy rfl (k10 d1) (s_iax underlying78 ti135 (et (k10 d5)) ec e14 (dt (q10 p6)) (sy rfl (wy rfl (k10 d1) (s_load ti9 (et (k10 d7)) ((f15 _ hS.a).one d1) (dt (q10 p8)) (sy rfl (wy rfl (k10 d1) (s_eqs (et (k10 d8)) (et (k10 d9)) (dt (q20 p0)) ?_)))))))
 iterate 2 refine st ?_
 refine nw (cret ?_)
 obtain rfl:=Option.some.inj h
 refine ret1 rfl d4 ?_
 exact ⟨_,rfl,Le.r,hS⟩
theorem p_is_w (hg:Le Gm μ0) {left_2:List TToken} {end_6 deep_7:Int} {p_2:List UInt8} {r:Bool×List TToken×Int×Int} (m5:Sl μ0 a3 c4 left_2) (h:p_is left_2 end_6 deep_7 p_2=some r) (hS:Sq μ0 w0 w (.blk b1 85 [.slice a3 left_2.length c4,.int .i64 end_6,.int .i64 deep_7]::rsF)):CallsV prog 64 [.pointer (some ⟨b1,0,none⟩),S p_2] w (fun v w'=>∃ (μ':M) (a8:Option Addr) (c9:Nat),v=.bool r.1∧Le μ0 μ'∧Sq μ' w0 w' (.blk b1 85 [.slice a8 r.2.1.length c9,.int .i64 r.2.2.1,.int .i64 r.2.2.2]::rsF)∧Sl μ' a8 c9 r.2.1):=by
 unfold p_is at h
 refine enter func64 rfl (frm:=_::_::u5 (u10 [])) rfl (nz (st (ny (nz ?_))))
 iterate 2 refine st ?_
 replace h:=bI h; obtain ⟨r11,g12,h⟩:=h
 refine ca (p_sees_w hg m5 g12 hS) ?_
 rintro _ w1 ⟨μ1,rfl,le13,hS⟩
 refine po (st (nw ?_))
 refine cifnb (et d8) (fun h14=>?_) (fun h14=>?_)
 ·replace h:=iF h14 h
  refine nz (st (nw (cret (xr ?_))))
  obtain rfl:=Option.some.inj h
  refine ret1 rfl d4 ?_
  exact ⟨_,_,_,rfl,le13,hS,(m5.up le13)⟩
 ·replace h:=iT h14 h
  refine cskip (xn (nz ?_))
  iterate 4 refine st ?_
  refine ld ((hS.blk d0).cell d0) ?_
  replace h:=bI h; obtain ⟨l15,g16,h⟩:=h
  obtain ⟨a17,c18,e19,m20⟩:=Sl.slc (i:=some 1) (j:=none) (m5.up le13) g16
  refine wl (s_slc underlying78 ti135 (et (k10 d3)) (.s ec) .n e19 (dt (q10 p4)) ?_)
  iterate 2 refine st ?_
  refine wl (s_store1 ti78 (et (k10 d6)) (et (k10 d4)) rfl hS d0 p0 rfl p0 dn ?_)
  clear hS; intro w2 hS
  refine nx (st (nw (cret ?_)))
  obtain rfl:=Option.some.inj h
  refine ret1 rfl d4 ?_
  exact ⟨_,_,_,rfl,le13,hS,m20⟩
theorem p_need_w (hg:Le Gm μ0) {left_2:List TToken} {end_6 deep_7:Int} {p_2:List (List UInt8)} {r:List TToken×Int×Int} (m5:Sl μ0 a3 c4 left_2) (m10:Sl μ0 a8 c9 p_2) (h:p_need left_2 end_6 deep_7 p_2=some r) (hS:Sq μ0 w0 w (.blk b1 85 [.slice a3 left_2.length c4,.int .i64 end_6,.int .i64 deep_7]::rsF)):CallsV prog 68 [.pointer (some ⟨b1,0,none⟩),.slice a8 p_2.length c9] w (fun v w'=>∃ (μ':M) (a11:Option Addr) (c12:Nat),v=.tuple ⟨[]⟩∧Le μ0 μ'∧Sq μ' w0 w' (.blk b1 85 [.slice a11 r.1.length c12,.int .i64 r.2.1,.int .i64 r.2.2]::rsF)∧Sl μ' a11 c12 r.1):=by
 unfold p_need at h
 refine enter func68 rfl (frm:=_::_::u2 (u2 (u5 (u10 [])))) rfl (nz (st (wl (s_lensl underlying189 (et d6) (dt p7) (st (nw (cblock ?_)))))))
 refine cloopE ([5]++List.range' 9 12) (by decide) (fun n m w=>∃ μx i30 l33 a31 c32 i35 i36,m=(yK5 (yO1 5 (yK2 (.i (.int .i64 i30)::(yO10 9 (yO2 19 []))))))∧p_need_l1 p_2 n i30 l33 i35 i36=some r∧Le μ0 μx∧Sq μx w0 w (.blk b1 85 [.slice a31 l33.length c32,.int .i64 i35,.int .i64 i36]::rsF)∧Sl μx a31 c32 l33) (by rintro _ _ _ ⟨_,_,_,_,_,_,_,rfl,_⟩; rfl) _ _ (aK5 (aO1 (aK2 (aI (aO10 (aO2 aZ)))))) ⟨_,0,left_2,a3,c4,end_6,deep_7,rfl,h,Le.r,hS,m5⟩ ?_
 rintro n_1 _ t w1 ⟨μ1,i30,l33,a31,c32,i35,i36,rfl,h,le53,hS,m54⟩
 cases n_1 with
 | zero=>cases h
 | succ n_1 =>
 unfold p_need_l1 at h
 refine cnrm (mK5 (mO1 (mK2 (mi (mO10 (mO2 mz)))))) (nz (st (ny ?_)))
 refine cifd (et d9) (fun h55=>?_) (fun h55=>?_)
 ·replace h:=iT h55 h
  refine cskip (xn (cseq (cblock (nz ?_))))
  replace h:=bI h; obtain ⟨x56,g57,h⟩:=h
  obtain ⟨b58,o59,cs60,e61,f62,m63⟩:=SlR.elem (m10.up le53) g57
  obtain rfl:=m63
  refine wl (s_iax underlying189 ti9 (et d6) (et d8) e61 (dt (q10 p0)) (ld ((f62 _ hS.a).one d0) (st (nx ?_))))
  iterate 2 refine st ?_
  replace h:=bI h; obtain ⟨r64,g65,h⟩:=h
  refine ca (p_is_w (hg.t le53) m54 g65 hS) ?_
  rintro _ w2 ⟨μ2,a67,c68,rfl,le66,hS,m69⟩
  refine po (st (nw ?_))
  refine cifnb (et (k10 d5)) (xF h) fun h70=>?_
  replace h:=iT h70 h
  refine cskip ?_
  refine (fun h=>bn (xn h)) ?_
  refine creg ?_
  replace h:=bI h; obtain ⟨i71,g72,h⟩:=h
  refine wl (s_addc (et d8) ec g72 (dt (q20 p0)) (st (wnil (xl ?_))))
  exact ⟨n_1,_,_,rfl,(aK5 (aO1 (aK2 (aI (aO10 (aO2 aZ)))))),⟨_,i71,r64.2.1,a67,c68,r64.2.2.1,r64.2.2.2,rfl,h,(le53.t le66),hS,m69⟩,Nat.lt_succ_self _⟩
 ·replace h:=iF h55 h
  refine cexit ?_
  refine (fun h=>xe (xe (bh h))) ?_
  obtain rfl:=Option.some.inj h
  refine end0 rfl ?_
  exact ⟨_,_,_,rfl,le53,hS,m54⟩
theorem p_name_w (hg:Le Gm μ0) {left_2:List TToken} {end_6 deep_7:Int} {r:List UInt8×List TToken×Int×Int} (m5:Sl μ0 a3 c4 left_2) (h:p_name left_2 end_6 deep_7=some r) (hS:Sq μ0 w0 w (.blk b1 85 [.slice a3 left_2.length c4,.int .i64 end_6,.int .i64 deep_7]::rsF)):CallsV prog 65 [.pointer (some ⟨b1,0,none⟩)] w (fun v w'=>∃ (μ':M) (a8:Option Addr) (c9:Nat),v=S r.1∧Le μ0 μ'∧Sq μ' w0 w' (.blk b1 85 [.slice a8 r.2.1.length c9,.int .i64 r.2.2.1,.int .i64 r.2.2.2]::rsF)∧Sl μ' a8 c9 r.2.1):=by
 unfold p_name at h
 refine enter func65 rfl (frm:=_::u1 (u5 (u20 (u20 [])))) rfl (nz (st (ny (nz ?_))))
 iterate 3 refine st ?_
 refine ld ((hS.blk d0).cell d0) (wl (s_lensl underlying78 (et d7) (dt p8) ?_))
 iterate 2 refine st ?_
 refine wspd (k10 d0) (q10 p0) (q10 p0) (xT h) fun h11=>?_
 replace h:=iF h11 h
 refine sy rfl (sy rfl (sy rfl (wy rfl (k10 d0) (s_load ti78 (et (k10 d3)) ((hS.blk d0).cell d0) (dt (q10 p4)) ?_))))
 replace h:=bI h; obtain ⟨x12,g13,h⟩:=h
 obtain ⟨b14,o15,cs16,e17,f18,m19⟩:=SlR.elem m5 g13
 obtain rfl:=m19
 refine wy rfl (k10 d0) (s_iax underlying78 ti135 (et (k10 d4)) ec e17 (dt (q10 p5)) (sy rfl (wy rfl (k10 d0) (s_load ti3 (et (k10 d6)) ((f18 _ hS.a).one d0) (dt (q10 p7)) (sy rfl (st (nw ?_)))))))
 refine cifd (et (k10 d9)) (xT h) fun h20=>?_
 replace h:=iF h20 h
 refine cskip (xn (nz ?_))
 iterate 3 refine st ?_
 refine ld ((hS.blk d0).cell d0) ?_
 replace h:=bI h; obtain ⟨x21,g22,h⟩:=h
 obtain ⟨b23,o24,cs25,e26,f27,m28⟩:=SlR.elem m5 g22
 obtain rfl:=m28
 refine wl (s_iax underlying78 ti135 (et (k20 d7)) ec e26 (dt (q20 p8)) (st (ld ((f27 _ hS.a).one d1) (st (ny (nz (st ?_)))))))
 replace h:=bI h; obtain ⟨b29,g30,h⟩:=h
 refine wl (s_callv isfn102 ef (e1 (et (k30 d1)) e0) (lex_named_w hg g30 hS) ?_); rintro _ w1 ⟨rfl,hS⟩; refine po ?_
 refine st (nw ?_)
 refine cifnb (et (k30 d3)) (xF h) fun h31=>?_
 replace h:=iT h31 h
 refine cskip (xn (nz ?_))
 iterate 4 refine st ?_
 refine ld ((hS.blk d0).cell d0) ?_
 replace h:=bI h; obtain ⟨l32,g33,h⟩:=h
 obtain ⟨a34,c35,e36,m37⟩:=Sl.slc (i:=some 1) (j:=none) m5 g33
 refine wl (s_slc underlying78 ti135 (et (k40 d2)) (.s ec) .n e36 (dt (q40 p3)) ?_)
 iterate 2 refine st ?_
 refine wl (s_store1 ti78 (et (k40 d5)) (et (k40 d3)) rfl hS d0 p0 rfl p0 dn ?_)
 clear hS; intro w2 hS
 refine nx ?_
 iterate 2 refine st ?_
 refine nw (cret ?_)
 obtain rfl:=Option.some.inj h
 refine ret1 rfl d2 ?_
 exact ⟨_,_,_,rfl,Le.r,hS,m37⟩
theorem p_number_w (hg:Le Gm μ0) {left_2:List TToken} {end_6 deep_7:Int} {r:Int×List TToken×Int×Int} (m5:Sl μ0 a3 c4 left_2) (h:p_number left_2 end_6 deep_7=some r) (hS:Sq μ0 w0 w (.blk b1 85 [.slice a3 left_2.length c4,.int .i64 end_6,.int .i64 deep_7]::rsF)):CallsV prog 67 [.pointer (some ⟨b1,0,none⟩)] w (fun v w'=>∃ (μ':M) (a8:Option Addr) (c9:Nat),v=.int .i64 r.1∧Le μ0 μ'∧Sq μ' w0 w' (.blk b1 85 [.slice a8 r.2.1.length c9,.int .i64 r.2.2.1,.int .i64 r.2.2.2]::rsF)∧Sl μ' a8 c9 r.2.1):=by
 unfold p_number at h
 refine enter func67 rfl (frm:=_::u2 (u2 (u5 (u10 (u20 []))))) rfl (nz (st (ny (nz ?_))))
 iterate 3 refine st ?_
 refine ld ((hS.blk d0).cell d0) (wl (s_lensl underlying78 (et d7) (dt p8) ?_))
 iterate 2 refine st ?_
 refine wspd (k10 d0) (q10 p0) (q10 p0) (xT h) fun h11=>?_
 replace h:=iF h11 h
 refine sy rfl (sy rfl (sy rfl (wy rfl (k10 d0) (s_load ti78 (et (k10 d3)) ((hS.blk d0).cell d0) (dt (q10 p4)) ?_))))
 replace h:=bI h; obtain ⟨x12,g13,h⟩:=h
 obtain ⟨b14,o15,cs16,e17,f18,m19⟩:=SlR.elem m5 g13
 obtain rfl:=m19
 refine wy rfl (k10 d0) (s_iax underlying78 ti135 (et (k10 d4)) ec e17 (dt (q10 p5)) (sy rfl (wy rfl (k10 d0) (s_load ti3 (et (k10 d6)) ((f18 _ hS.a).one d0) (dt (q10 p7)) (sy rfl (st (nw ?_)))))))
 refine cifd (et (k10 d9)) (xT h) fun h20=>?_
 replace h:=iF h20 h
 refine cskip (xn (nz ?_))
 iterate 3 refine st ?_
 refine ld ((hS.blk d0).cell d0) ?_
 replace h:=bI h; obtain ⟨x21,g22,h⟩:=h
 obtain ⟨b23,o24,cs25,e26,f27,m28⟩:=SlR.elem m5 g22
 obtain rfl:=m28
 refine wl (s_iax underlying78 ti135 (et (k20 d7)) ec e26 (dt (q20 p8)) (st (ld ((f27 _ hS.a).one d2) (st (nx ?_)))))
 iterate 4 refine st ?_
 refine ld ((hS.blk d0).cell d0) ?_
 replace h:=bI h; obtain ⟨l29,g30,h⟩:=h
 obtain ⟨a31,c32,e33,m34⟩:=Sl.slc (i:=some 1) (j:=none) m5 g30
 refine wl (s_slc underlying78 ti135 (et (k30 d5)) (.s ec) .n e33 (dt (q30 p6)) ?_)
 iterate 2 refine st ?_
 refine wl (s_store1 ti78 (et (k30 d8)) (et (k30 d6)) rfl hS d0 p0 rfl p0 dn ?_)
 clear hS; intro w1 hS
 refine nx ?_
 iterate 2 refine st ?_
 refine nw (cret ?_)
 obtain rfl:=Option.some.inj h
 refine ret1 rfl d2 ?_
 exact ⟨_,_,_,rfl,Le.r,hS,m34⟩
theorem p_typ_w (hg:Le Gm μ0) {left_2:List TToken} {end_6 deep_7:Int} {r:TType×List TToken×Int×Int} (m5:Sl μ0 a3 c4 left_2) (h:p_typ left_2 end_6 deep_7=some r) (hS:Sq μ0 w0 w (.blk b1 85 [.slice a3 left_2.length c4,.int .i64 end_6,.int .i64 deep_7]::rsF)):CallsV prog 66 [.pointer (some ⟨b1,0,none⟩)] w (fun v w'=>∃ (μ':M) (a8:Option Addr) (c9:Nat),v=.agg ⟨[.int .i64 r.1.Kind,S r.1.Gen]⟩∧Le μ0 μ'∧Sq μ' w0 w' (.blk b1 85 [.slice a8 r.2.1.length c9,.int .i64 r.2.2.1,.int .i64 r.2.2.2]::rsF)∧Sl μ' a8 c9 r.2.1):=by
 unfold p_typ at h
 refine enter func66 rfl (frm:=_::u1 (u2 (u10 []))) rfl (nz ?_)
 refine wl (s_alloc ti89 hS ?_); clear hS; intro b11 w1 hb12 hS; refine po ?_
 refine ny (cblock (nz (st ?_)))
 replace h:=bI h; obtain ⟨r13,g14,h⟩:=h
 replace hS:=hS.bg Y1
 refine ca (p_is_w hg m5 g14 hS) ?_
 rintro _ w2 ⟨μ1,a16,c17,rfl,le15,hS,m18⟩
 refine po (st (nw ?_))
 refine cifb (et d3) (fun h19=>?_) (fun h19=>?_)
 ·replace h:=iT h19 h
  refine nz (wl (s_build ti89 pl89 (Fl.o rfl ec rfl rfl p0 Fl.z) (dt p6) (wl (s_storeA ti89 (et d2) (et d6) rfl rfl hS d1 rfl p1 dn ?_))))
  clear hS; intro w3 hS
  refine nw (cret ?_)
  refine (fun h=>br (xr h)) ?_
  obtain rfl:=Option.some.inj h
  refine retN rfl (RVs.s (.a d2 ti89 (hS.blk d1).cells rfl) RVs.z) ?_
  replace hS:=hS.drop (Rm.s Rm.z)
  exact ⟨_,_,_,rfl,le15,hS,m18⟩
 ·replace h:=iF h19 h
  refine nz (st ?_)
  replace h:=bI h; obtain ⟨r20,g21,h⟩:=h
  refine ca (p_is_w (hg.t le15) m18 g21 hS) ?_
  rintro _ w4 ⟨μ2,a23,c24,rfl,le22,hS,m25⟩
  refine po (st (nw ?_))
  refine cifb (et d7) (fun h26=>?_) (xF h)
  replace h:=iT h26 h
  refine nz (wl (s_build ti89 pl89 (Fl.o rfl ec rfl rfl p0 Fl.z) (dt (q10 p0)) (wl (s_storeA ti89 (et d2) (et (k10 d0)) rfl rfl hS d1 rfl p1 dn ?_))))
  clear hS; intro w5 hS
  refine nw (cret ?_)
  refine (fun h=>br (xr h)) ?_
  obtain rfl:=Option.some.inj h
  refine retN rfl (RVs.s (.a d2 ti89 (hS.blk d1).cells rfl) RVs.z) ?_
  replace hS:=hS.drop (Rm.s Rm.z)
  exact ⟨_,_,_,rfl,(le15.t le22),hS,m25⟩
theorem p_levels_w (hg:Le Gm μ0)  {r:List TSynLevel}  (h:p_levels =some r) (hS:Sq μ0 w0 w (rsF)):CallsV prog 165 [] w (fun v w'=>∃ (μ':M) (a1:Option Addr) (c2:Nat),v=.slice a1 r.length c2∧Le μ0 μ'∧Sq μ' w0 w' (rsF)∧Sl μ' a1 c2 r):=by
 unfold p_levels at h
 refine enter func165 rfl (frm:=u2 (u5 (u10 []))) rfl (nz (st (nx ?_)))
 refine wl (s_mkmap hS ?_); clear hS; intro b4 w1 hb5 hS; refine po ?_
 refine wl (s_minsM (κ:=List UInt8) (β:=Int) (kk:=[111,114]) (xx:=18) underlying97 underlying9 (et d1) ec ec rfl hS d0 (Mq.nil (κ:=List UInt8) (β:=Int) (μ:=μ0) (c:=0)) dn ?_); clear hS; intro es6 c7 w2 rs_ m8 hp_ hS; cases (show _=rs_ from hp_)
 replace hS:=Sep.reput hS p0
 refine st (wl (s_build ti275 pl275 (Fl.o rfl (et d2) rfl rfl p0 (Fl.o rfl ec rfl rfl p1 Fl.z)) (dt p3) ?_))
 refine wl (s_mkmap hS ?_); clear hS; intro b9 w3 hb10 hS; refine po ?_
 refine wl (s_minsM (κ:=List UInt8) (β:=Int) (kk:=[97,110,100]) (xx:=17) underlying97 underlying9 (et d4) ec ec rfl hS d0 (Mq.nil (κ:=List UInt8) (β:=Int) (μ:=μ0) (c:=0)) dn ?_); clear hS; intro es11 c12 w4 rs_ m13 hp_ hS; cases (show _=rs_ from hp_)
 replace hS:=Sep.reput hS p0
 refine st (wl (s_build ti275 pl275 (Fl.o rfl (et d5) rfl rfl p0 (Fl.o rfl ec rfl rfl p1 Fl.z)) (dt p6) ?_))
 refine wl (s_mkmap hS ?_); clear hS; intro b14 w5 hb15 hS; refine po ?_
 refine wl (s_minsM (κ:=List UInt8) (β:=Int) (kk:=[61,61]) (xx:=11) underlying97 underlying9 (et d7) ec ec rfl hS d0 (Mq.nil (κ:=List UInt8) (β:=Int) (μ:=μ0) (c:=0)) dn ?_); clear hS; intro es16 c17 w6 rs_ m18 hp_ hS; cases (show _=rs_ from hp_)
 replace hS:=Sep.reput hS p0
 refine wl (s_minsM (κ:=List UInt8) (β:=Int) (kk:=[33,61]) (xx:=12) underlying97 underlying9 (et d7) ec ec rfl hS d0 m18 dn ?_); clear hS; intro es19 c20 w7 rs_ m21 hp_ hS; cases (show _=rs_ from hp_)
 replace hS:=Sep.reput hS p0
 refine wl (s_minsM (κ:=List UInt8) (β:=Int) (kk:=[60]) (xx:=13) underlying97 underlying9 (et d7) ec ec rfl hS d0 m21 dn ?_); clear hS; intro es22 c23 w8 rs_ m24 hp_ hS; cases (show _=rs_ from hp_)
 replace hS:=Sep.reput hS p0
 refine wl (s_minsM (κ:=List UInt8) (β:=Int) (kk:=[60,61]) (xx:=14) underlying97 underlying9 (et d7) ec ec rfl hS d0 m24 dn ?_); clear hS; intro es25 c26 w9 rs_ m27 hp_ hS; cases (show _=rs_ from hp_)
 replace hS:=Sep.reput hS p0
 refine wl (s_minsM (κ:=List UInt8) (β:=Int) (kk:=[62]) (xx:=15) underlying97 underlying9 (et d7) ec ec rfl hS d0 m27 dn ?_); clear hS; intro es28 c29 w10 rs_ m30 hp_ hS; cases (show _=rs_ from hp_)
 replace hS:=Sep.reput hS p0
 refine wl (s_minsM (κ:=List UInt8) (β:=Int) (kk:=[62,61]) (xx:=16) underlying97 underlying9 (et d7) ec ec rfl hS d0 m30 dn ?_); clear hS; intro es31 c32 w11 rs_ m33 hp_ hS; cases (show _=rs_ from hp_)
 replace hS:=Sep.reput hS p0
 refine st (wl (s_build ti275 pl275 (Fl.o rfl (et d8) rfl rfl p0 (Fl.o rfl ec rfl rfl p1 Fl.z)) (dt p9) ?_))
 refine wl (s_mkmap hS ?_); clear hS; intro b34 w12 hb35 hS; refine po ?_
 refine wl (s_minsM (κ:=List UInt8) (β:=Int) (kk:=[43]) (xx:=6) underlying97 underlying9 (et (k10 d0)) ec ec rfl hS d0 (Mq.nil (κ:=List UInt8) (β:=Int) (μ:=μ0) (c:=0)) dn ?_); clear hS; intro es36 c37 w13 rs_ m38 hp_ hS; cases (show _=rs_ from hp_)
 replace hS:=Sep.reput hS p0
 refine wl (s_minsM (κ:=List UInt8) (β:=Int) (kk:=[45]) (xx:=7) underlying97 underlying9 (et (k10 d0)) ec ec rfl hS d0 m38 dn ?_); clear hS; intro es39 c40 w14 rs_ m41 hp_ hS; cases (show _=rs_ from hp_)
 replace hS:=Sep.reput hS p0
 refine st (wl (s_build ti275 pl275 (Fl.o rfl (et (k10 d1)) rfl rfl p0 (Fl.o rfl ec rfl rfl p1 Fl.z)) (dt (q10 p2)) ?_))
 refine wl (s_mkmap hS ?_); clear hS; intro b42 w15 hb43 hS; refine po ?_
 refine wl (s_minsM (κ:=List UInt8) (β:=Int) (kk:=[42]) (xx:=8) underlying97 underlying9 (et (k10 d3)) ec ec rfl hS d0 (Mq.nil (κ:=List UInt8) (β:=Int) (μ:=μ0) (c:=0)) dn ?_); clear hS; intro es44 c45 w16 rs_ m46 hp_ hS; cases (show _=rs_ from hp_)
 replace hS:=Sep.reput hS p0
 refine wl (s_minsM (κ:=List UInt8) (β:=Int) (kk:=[47]) (xx:=9) underlying97 underlying9 (et (k10 d3)) ec ec rfl hS d0 m46 dn ?_); clear hS; intro es47 c48 w17 rs_ m49 hp_ hS; cases (show _=rs_ from hp_)
 replace hS:=Sep.reput hS p0
 refine wl (s_minsM (κ:=List UInt8) (β:=Int) (kk:=[37]) (xx:=10) underlying97 underlying9 (et (k10 d3)) ec ec rfl hS d0 m49 dn ?_); clear hS; intro es50 c51 w18 rs_ m52 hp_ hS; cases (show _=rs_ from hp_)
 replace hS:=Sep.reput hS p0
 refine st (wl (s_build ti275 pl275 (Fl.o rfl (et (k10 d4)) rfl rfl p0 (Fl.o rfl ec rfl rfl p1 Fl.z)) (dt (q10 p5)) ?_))
 replace hS:=hS.bg Y4
 obtain ⟨μ1,le54,m53,hS⟩:=Sep.frzMap hS m8
 replace hS:=hS.bg Y3
 obtain ⟨μ2,le56,m55,hS⟩:=Sep.frzMap hS (m13.up le54)
 replace hS:=hS.bg Y2
 obtain ⟨μ3,le58,m57,hS⟩:=Sep.frzMap hS (m33.up (le54.t le56))
 replace hS:=hS.bg Y1
 obtain ⟨μ4,le60,m59,hS⟩:=Sep.frzMap hS (m41.up (le54.t (le56.t le58)))
 obtain ⟨μ5,le62,m61,hS⟩:=Sep.frzMap hS (m52.up (le54.t (le56.t (le58.t le60))))
 refine wl (s_bslA underlying272 ti275 (by decide) (.s (et d3) rfl rfl (.s (et d6) rfl rfl (.s (et d9) rfl rfl (.s (et (k10 d2)) rfl rfl (.s (et (k10 d5)) rfl rfl .z))))) rfl hS ?_); clear hS; intro b63 w19 hb64 hS; refine po ?_
 refine st (nw (cret ?_))
 obtain ⟨μ6,le66,m65,hS⟩:=Sep.frzBlk (l:=([(TSynLevel.mk (mput ([]:List (List UInt8×Int)) [111,114] 18) false),(TSynLevel.mk (mput ([]:List (List UInt8×Int)) [97,110,100] 17) false),(TSynLevel.mk (mput (mput (mput (mput (mput (mput ([]:List (List UInt8×Int)) [61,61] 11) [33,61] 12) [60] 13) [60,61] 14) [62] 15) [62,61] 16) true),(TSynLevel.mk (mput (mput ([]:List (List UInt8×Int)) [43] 6) [45] 7) false),(TSynLevel.mk (mput (mput (mput ([]:List (List UInt8×Int)) [42] 8) [47] 9) [37] 10) false)]:List TSynLevel)) hS (Rw.cons (α:=TSynLevel) (cs:=[.map (some b4),.bool false]) (TSynLevel.i ⟨b4,rfl,(m53.up (le56.t (le58.t (le60.t le62))))⟩) (Rw.cons (α:=TSynLevel) (cs:=[.map (some b9),.bool false]) (TSynLevel.i ⟨b9,rfl,(m55.up (le58.t (le60.t le62)))⟩) (Rw.cons (α:=TSynLevel) (cs:=[.map (some b14),.bool true]) (TSynLevel.i ⟨b14,rfl,(m57.up (le60.t le62))⟩) (Rw.cons (α:=TSynLevel) (cs:=[.map (some b34),.bool false]) (TSynLevel.i ⟨b34,rfl,(m59.up le62)⟩) (Rw.cons (α:=TSynLevel) (cs:=[.map (some b42),.bool false]) (TSynLevel.i ⟨b42,rfl,m61⟩) Rw.nil))))) (Nat.le_of_ble_eq_true rfl)
 obtain rfl:=Option.some.inj h
 refine ret1 rfl d0 ?_
 exact ⟨_,(some ⟨b63,0,none⟩),5,rfl,(le54.t (le56.t (le58.t (le60.t (le62.t le66))))),hS,m65⟩
theorem p_into_w (hg:Le Gm μ0) {left_2:List TToken} {end_6 deep_7:Int} {r:List TToken×Int×Int} (m5:Sl μ0 a3 c4 left_2) (h:p_into left_2 end_6 deep_7=some r) (hS:Sq μ0 w0 w (.blk b1 85 [.slice a3 left_2.length c4,.int .i64 end_6,.int .i64 deep_7]::rsF)):CallsV prog 103 [.pointer (some ⟨b1,0,none⟩)] w (fun v w'=>∃ (μ':M) (b8:Nat) (a9:Option Addr) (c10:Nat),v=.func (.func 136) ⟨[]⟩ ⟨[.pointer (some ⟨b8,0,none⟩)]⟩∧Le μ0 μ'∧Sq μ' w0 w' (.blk b8 83 [.pointer (some ⟨b1,0,none⟩)]::.blk b1 85 [.slice a9 r.1.length c10,.int .i64 r.2.1,.int .i64 r.2.2]::rsF)∧Sl μ' a9 c10 r.1):=by
 unfold p_into at h
 refine enter func103 rfl (frm:=_::u2 (u2 (u5 (u10 [])))) rfl (nz ?_)
 refine wl (s_box (et d0) rfl hS ?_); clear hS; intro b12 w1 hb13 hS; refine po ?_
 refine st (ny (nz (ld ((hS.blk d0).cell d0) ?_)))
 iterate 2 refine st ?_
 refine ld ((hS.blk d1).cell d2) ?_
 replace h:=bI h; obtain ⟨i14,g15,h⟩:=h
 refine wl (s_addc (et d6) ec g15 (dt p7) ?_)
 iterate 2 refine st ?_
 refine wl (s_store1 ti3 (et d9) (et d7) rfl hS d1 p2 rfl p1 dn ?_)
 clear hS; intro w2 hS
 refine nx (ld ((hS.blk d0).cell d0) ?_)
 iterate 2 refine st ?_
 refine ld ((hS.blk d1).cell d2) (st (nw ?_))
 refine cifd (et (k10 d4)) (xT h) fun h16=>?_
 replace h:=iF h16 h
 refine cskip (xn (nz (wl (s_mkfn e0 (e1 (et d1) e0) (dt (q10 p9)) (st (nw (cret ?_)))))))
 obtain rfl:=Option.some.inj h
 refine ret1 rfl d2 ?_
 exact ⟨_,_,_,_,rfl,Le.r,hS,m5⟩
theorem p_out_w {μ0:M} {w0 w:World} {rsF:List Res} (hg:Le Gm μ0) {b1 b2:Nat} {left_3:List TToken} {a4:Option Addr} {c5:Nat} {end_7 deep_8:Int} {r:List TToken×Int×Int} (m6:Sl μ0 a4 c5 left_3) (h:p_out left_3 end_7 deep_8=some r) (hS:Sq μ0 w0 w (.blk b1 83 [.pointer (some ⟨b2,0,none⟩)]::.blk b2 85 [.slice a4 left_3.length c5,.int .i64 end_7,.int .i64 deep_8]::rsF)):CallsDV prog 136 [.pointer (some ⟨b1,0,none⟩)] w (fun v w'=>∃ (μ':M) (a9:Option Addr) (c10:Nat),v=.tuple ⟨[]⟩∧Le μ0 μ'∧Sq μ' w0 w' (.blk b1 83 [.pointer (some ⟨b2,0,none⟩)]::.blk b2 85 [.slice a9 r.1.length c10,.int .i64 r.2.1,.int .i64 r.2.2]::rsF)∧Sl μ' a9 c10 r.1):=by
 unfold p_out at h
 refine enterDD func136 rfl (frm:=[_,_,_,_,_,_,_,_]) rfl (creg (ld ((hS.blk d0).cell d0) ?_))
 iterate 2 refine st ?_
 refine ld ((hS.blk d1).cell d2) ?_
 replace h:=bI h; obtain ⟨i12,g13,h⟩:=h
 refine wl (s_subc (et d4) ec g13 (dt p5) ?_)
 iterate 2 refine st ?_
 refine wl (s_store1 ti3 (et d7) (et d5) rfl hS d1 p2 rfl p1 dn ?_)
 clear hS; intro w1 hS
 refine wnil ?_
 obtain rfl:=Option.some.inj h
 refine end0 rfl ?_
 exact ⟨_,_,_,rfl,Le.r,hS,m6⟩
end Go.Proofs.YtegmgfljdeabeaaGreatDoor
set_option maxRecDepth 100000
set_option maxHeartbeats 20000000
namespace Go.Proofs.YtegmgfljdeabeaaGreatDoor
open Go.Wk Go.Xt Go.Y Tryz
variable {b1 c4 fu:Nat} {a3:Option Addr} {μ0:M} {w0 w:World} {rsF:List Res}
structure ParESound (sf:ParE):Prop where
  p_expr:∀ {μ0:M} {w0 w:World} {rsF:List Res} (hg:Le Gm μ0) {b1:Nat} {left_2:List TToken} {a3:Option Addr} {c4:Nat} {end_6 deep_7:Int} {r:TExpr×List TToken×Int×Int} (m5:Sl μ0 a3 c4 left_2) (h:sf.p_expr left_2 end_6 deep_7=some r) (hS:Sq μ0 w0 w (.blk b1 85 [.slice a3 left_2.length c4,.int .i64 end_6,.int .i64 deep_7]::rsF)),CallsV prog 137 [.pointer (some ⟨b1,0,none⟩)] w (fun v w'=>∃ (μ':M) (a8:Option Addr) (c9:Nat) (a11:Option Addr) (c12:Nat),v=.agg ⟨[.int .i64 r.1.Kind,.int .i64 r.1.N,S r.1.Name,.slice a8 r.1.Kids.length c9]⟩∧Le μ0 μ'∧Sq μ' w0 w' (.blk b1 85 [.slice a11 r.2.1.length c12,.int .i64 r.2.2.1,.int .i64 r.2.2.2]::rsF)∧Sl μ' a8 c9 r.1.Kids∧Sl μ' a11 c12 r.2.1)
  p_level:∀ {μ0:M} {w0 w:World} {rsF:List Res} (hg:Le Gm μ0) {b1:Nat} {left_2:List TToken} {a3:Option Addr} {c4:Nat} {end_6 deep_7 p_2:Int} {r:TExpr×List TToken×Int×Int} (m5:Sl μ0 a3 c4 left_2) (h:sf.p_level left_2 end_6 deep_7 p_2=some r) (hS:Sq μ0 w0 w (.blk b1 85 [.slice a3 left_2.length c4,.int .i64 end_6,.int .i64 deep_7]::rsF)),CallsV prog 156 [.pointer (some ⟨b1,0,none⟩),.int .i64 p_2] w (fun v w'=>∃ (μ':M) (a8:Option Addr) (c9:Nat) (a11:Option Addr) (c12:Nat),v=.agg ⟨[.int .i64 r.1.Kind,.int .i64 r.1.N,S r.1.Name,.slice a8 r.1.Kids.length c9]⟩∧Le μ0 μ'∧Sq μ' w0 w' (.blk b1 85 [.slice a11 r.2.1.length c12,.int .i64 r.2.2.1,.int .i64 r.2.2.2]::rsF)∧Sl μ' a8 c9 r.1.Kids∧Sl μ' a11 c12 r.2.1)
  p_unary:∀ {μ0:M} {w0 w:World} {rsF:List Res} (hg:Le Gm μ0) {b1:Nat} {left_2:List TToken} {a3:Option Addr} {c4:Nat} {end_6 deep_7:Int} {r:TExpr×List TToken×Int×Int} (m5:Sl μ0 a3 c4 left_2) (h:sf.p_unary left_2 end_6 deep_7=some r) (hS:Sq μ0 w0 w (.blk b1 85 [.slice a3 left_2.length c4,.int .i64 end_6,.int .i64 deep_7]::rsF)),CallsV prog 166 [.pointer (some ⟨b1,0,none⟩)] w (fun v w'=>∃ (μ':M) (a8:Option Addr) (c9:Nat) (a11:Option Addr) (c12:Nat),v=.agg ⟨[.int .i64 r.1.Kind,.int .i64 r.1.N,S r.1.Name,.slice a8 r.1.Kids.length c9]⟩∧Le μ0 μ'∧Sq μ' w0 w' (.blk b1 85 [.slice a11 r.2.1.length c12,.int .i64 r.2.2.1,.int .i64 r.2.2.2]::rsF)∧Sl μ' a8 c9 r.1.Kids∧Sl μ' a11 c12 r.2.1)
  p_primary:∀ {μ0:M} {w0 w:World} {rsF:List Res} (hg:Le Gm μ0) {b1:Nat} {left_2:List TToken} {a3:Option Addr} {c4:Nat} {end_6 deep_7:Int} {r:TExpr×List TToken×Int×Int} (m5:Sl μ0 a3 c4 left_2) (h:sf.p_primary left_2 end_6 deep_7=some r) (hS:Sq μ0 w0 w (.blk b1 85 [.slice a3 left_2.length c4,.int .i64 end_6,.int .i64 deep_7]::rsF)),CallsV prog 176 [.pointer (some ⟨b1,0,none⟩)] w (fun v w'=>∃ (μ':M) (a8:Option Addr) (c9:Nat) (a11:Option Addr) (c12:Nat),v=.agg ⟨[.int .i64 r.1.Kind,.int .i64 r.1.N,S r.1.Name,.slice a8 r.1.Kids.length c9]⟩∧Le μ0 μ'∧Sq μ' w0 w' (.blk b1 85 [.slice a11 r.2.1.length c12,.int .i64 r.2.2.1,.int .i64 r.2.2.2]::rsF)∧Sl μ' a8 c9 r.1.Kids∧Sl μ' a11 c12 r.2.1)
theorem p_expr_w {self:ParE} (IH:ParESound self) {μ0:M} {w0 w:World} {rsF:List Res} (hg:Le Gm μ0) {b1:Nat} {left_2:List TToken} {a3:Option Addr} {c4:Nat} {end_6 deep_7:Int} {r:TExpr×List TToken×Int×Int} (m5:Sl μ0 a3 c4 left_2) (h:p_expr self left_2 end_6 deep_7=some r) (hS:Sq μ0 w0 w (.blk b1 85 [.slice a3 left_2.length c4,.int .i64 end_6,.int .i64 deep_7]::rsF)):CallsV prog 137 [.pointer (some ⟨b1,0,none⟩)] w (fun v w'=>∃ (μ':M) (a8:Option Addr) (c9:Nat) (a11:Option Addr) (c12:Nat),v=.agg ⟨[.int .i64 r.1.Kind,.int .i64 r.1.N,S r.1.Name,.slice a8 r.1.Kids.length c9]⟩∧Le μ0 μ'∧Sq μ' w0 w' (.blk b1 85 [.slice a11 r.2.1.length c12,.int .i64 r.2.2.1,.int .i64 r.2.2.2]::rsF)∧Sl μ' a8 c9 r.1.Kids∧Sl μ' a11 c12 r.2.1):=by
 unfold p_expr at h
 refine enterF func137 rfl (frm:=_::u1 (u5 [])) rfl (nz ?_)
 refine wl (s_alloc ti194 hS ?_); clear hS; intro b14 w1 hb15 hS; refine po ?_
 refine nx (st ?_)
 replace h:=bI h; obtain ⟨r16,g17,h⟩:=h
 replace hS:=hS.bg Y1
 refine ca (p_into_w hg m5 g17 hS) ?_
 rintro _ w2 ⟨μ1,b19,a20,c21,rfl,le18,hS,m22⟩
 refine po (wl (s_defer (et d4) e0 dn (nx (st ?_))))
 replace h:=bI h; obtain ⟨r23,g24,h⟩:=h
 replace hS:=hS.bg Y1
 refine ca (IH.p_level (hg.t le18) m22 g24 hS) ?_
 rintro _ w3 ⟨μ2,a26,c27,a29,c30,rfl,le25,hS,m28,m31⟩
 refine po (wl (s_storeA ti194 (et d2) (et d6) rfl rfl hS d2 rfl p2 dn ?_))
 clear hS; intro w4 hS
 refine nw (cret ?_)
 replace h:=bI h; obtain ⟨r32,g33,h⟩:=h
 replace hS:=hS.bg Y1
 refine retD isfn136 (p_out_w (hg.t (le18.t le25)) m31 g33 hS) ?_
 rintro _ w5 ⟨μ3,a35,c36,rfl,le34,hS,m37⟩
 obtain rfl:=Option.some.inj h
 refine retDN rfl (RVs.s (.a d2 ti194 (hS.blk d2).cells rfl) RVs.z) ?_
 replace hS:=(hS.drop Rm.z).drop (Rm.s Rm.z)
 exact ⟨_,_,_,_,_,rfl,(le18.t (le25.t le34)),hS,(m28.up le34),m37⟩
theorem p_level_w {self:ParE} (IH:ParESound self) {fu:Nat} {μ0:M} {w0 w:World} {rsF:List Res} (hg:Le Gm μ0) {b1:Nat} {left_2:List TToken} {a3:Option Addr} {c4:Nat} {end_6 deep_7 p_2:Int} {r:TExpr×List TToken×Int×Int} (m5:Sl μ0 a3 c4 left_2) (h:p_level fu self left_2 end_6 deep_7 p_2=some r) (hS:Sq μ0 w0 w (.blk b1 85 [.slice a3 left_2.length c4,.int .i64 end_6,.int .i64 deep_7]::rsF)):CallsV prog 156 [.pointer (some ⟨b1,0,none⟩),.int .i64 p_2] w (fun v w'=>∃ (μ':M) (a8:Option Addr) (c9:Nat) (a11:Option Addr) (c12:Nat),v=.agg ⟨[.int .i64 r.1.Kind,.int .i64 r.1.N,S r.1.Name,.slice a8 r.1.Kids.length c9]⟩∧Le μ0 μ'∧Sq μ' w0 w' (.blk b1 85 [.slice a11 r.2.1.length c12,.int .i64 r.2.2.1,.int .i64 r.2.2.2]::rsF)∧Sl μ' a8 c9 r.1.Kids∧Sl μ' a11 c12 r.2.1):=by
 unfold p_level at h
 refine enter func156 rfl (frm:=_::_::u10 (u50 [])) rfl (nz ?_)
 refine wl (s_alloc ti194 hS ?_); clear hS; intro b14 w1 hb15 hS; refine po ?_
 refine nx ?_
 replace h:=bI h; obtain ⟨r16,g17,h⟩:=h
 refine ca (p_levels_w hg g17 hS) ?_
 rintro _ w2 ⟨μ1,a19,c20,rfl,le18,hS,m21⟩
 refine po (st (ny (nz ?_)))
 iterate 2 refine st ?_
 refine wl (s_lensl underlying272 (et (k10 d0)) (dt (q10 p1)) (st (nw ?_)))
 refine cifd (et (k10 d2)) (fun h22=>?_) (fun h22=>?_)
 ·replace h:=iT h22 h
  refine nz (st ?_)
  replace h:=bI h; obtain ⟨r23,g24,h⟩:=h
  replace hS:=hS.bg Y1
  refine ca (IH.p_unary (hg.t le18) (m5.up le18) g24 hS) ?_
  rintro _ w3 ⟨μ2,a26,c27,a29,c30,rfl,le25,hS,m28,m31⟩
  refine po (wl (s_storeA ti194 (et d4) (et (k10 d4)) rfl rfl hS d1 rfl p1 dn ?_))
  clear hS; intro w4 hS
  refine nw (cret (xr ?_))
  obtain rfl:=Option.some.inj h
  refine retN rfl (RVs.s (.a d4 ti194 (hS.blk d1).cells rfl) RVs.z) ?_
  replace hS:=hS.drop (Rm.s Rm.z)
  exact ⟨_,_,_,_,_,rfl,(le18.t le25),hS,m28,m31⟩
 ·replace h:=iF h22 h
  refine cskip (xn (nz ?_))
  iterate 2 refine st ?_
  replace h:=bI h; obtain ⟨i33,g34,h⟩:=h
  refine wl (s_addc (et (k10 d6)) ec g34 (dt (q10 p7)) ?_)
  replace h:=bI h; obtain ⟨r35,g36,h⟩:=h
  replace hS:=hS.bg Y1
  refine ca (IH.p_level (hg.t le18) (m5.up le18) g36 hS) ?_
  rintro _ w5 ⟨μ3,a38,c39,a41,c42,rfl,le37,hS,m40,m43⟩
  refine po ?_
  refine wl (s_alloc ti194 hS ?_); clear hS; intro b44 w6 hb45 hS; refine po ?_
  refine wl (s_storeA ti194 (et d6) (et (k10 d8)) rfl rfl hS d0 rfl p0 dn ?_)
  clear hS; intro w7 hS
  refine ny ?_
  refine ccutE ([7]++List.range' 19 42) (by decide +kernel) (fun m w=>∃ μx l48 a46 c47 i50 i51 i52 i53 s54 l57 a55 c56,m=(yK7 (yO1 7 (yK10 (yK1 (yO20 19 (yO20 39 (yO2 59 [])))))))∧p_level_j1 l48 i50 i51 i52 i53 s54 l57=some r∧Le μ3 μx∧Sq μx w0 w (.blk b1 85 [.slice a46 l48.length c47,.int .i64 i50,.int .i64 i51]::.blk b14 194 [.int .i64 0,.int .i64 0,S [],.slice none 0 0]::.blk b44 194 [.int .i64 i52,.int .i64 i53,S s54,.slice a55 l57.length c56]::rsF)∧Sl μx a46 c47 l48∧Sl μx a55 c56 l57) (by rintro _ _ ⟨_,_,_,_,_,_,_,_,_,_,_,_,rfl,_⟩; rfl) ?_ ?_
  ·refine cblock ?_
   replace hS:=(hS.bg Y2).bg Y2
   refine cloopE ([7]++List.range' 19 42) (by decide +kernel) (fun n m w=>∃ μx l114 a112 c113 i116 i117 i118 i119 s120 l123 a121 c122,m=(yK7 (yO1 7 (yK10 (yK1 (yO20 19 (yO20 39 (yO2 59 [])))))))∧p_level_l1 self p_2 r16 n l114 i116 i117 i118 i119 s120 l123=some r∧Le μ3 μx∧Sq μx w0 w (.blk b1 85 [.slice a112 l114.length c113,.int .i64 i116,.int .i64 i117]::.blk b14 194 [.int .i64 0,.int .i64 0,S [],.slice none 0 0]::.blk b44 194 [.int .i64 i118,.int .i64 i119,S s120,.slice a121 l123.length c122]::rsF)∧Sl μx a112 c113 l114∧Sl μx a121 c122 l123) (by rintro _ _ _ ⟨_,_,_,_,_,_,_,_,_,_,_,_,rfl,_⟩; rfl) _ _ (aK7 (aO1 (aK10 (aK1 (aO20 (aO20 (aO2 aZ))))))) ⟨_,r35.2.1,a41,c42,r35.2.2.1,r35.2.2.2,r35.1.Kind,r35.1.N,r35.1.Name,r35.1.Kids,a38,c39,rfl,h,Le.r,hS,m43,m40⟩ ?_
   rintro n_1 _ t w8 ⟨μ4,l114,a112,c113,i116,i117,i118,i119,s120,l123,a121,c122,rfl,h,le178,hS,m179,m180⟩
   cases n_1 with
   | zero=>cases h
   | succ n_1 =>
   unfold p_level_l1 at h
   refine cnrm (mK7 (mO1 (mK10 (mK1 (mO20 (mO20 (mO2 mz))))))) (cseq (nz ?_))
   iterate 3 refine st ?_
   refine ld ((hS.blk d0).cell d0) (wl (s_lensl underlying78 (et (k20 d2)) (dt (q20 p3)) (st (nw ?_))))
   refine cifd (et (k20 d4)) (fun h181=>?_) (xF h)
   replace h:=iT h181 h
   refine cskip (xn (cblock (cseq ?_)))
   refine cdraw (by kernel_rfl) rfl fun w9 hh_ ho_ ht_ hu_=>?_
   replace hS:=hS.drew hh_ ho_ ht_ hu_
   refine sf_start (fpi 0 [0,2,3,4,12,13] rfl (fpi 1 [1,2,3,4,12,13] rfl ?_))
   replace h:=bI h; obtain ⟨x182,g183,h⟩:=h
   obtain ⟨b184,o185,cs186,e187,f188,m189⟩:=SlR.elem (m21.up (le37.t le178)) g183
   obtain ⟨b190,rfl,m191⟩:=m189
   refine fp 2 [2,3,4,12,13] rfl (u_iax underlying272 ti275 (et (k20 d5)) (et (k20 d6)) e187) (q20 p7) (fpi 3 [3,4,12,13] rfl (fr_ 4 [4,12,13] rfl (u_load ti97 (et (k20 d8)) ((f188 _ hS.a).one d0)) (q20 p9) (fpi 5 [5,6,7,8,9,10,11,12,13] rfl (fpi 6 [6,7,8,9,10,11,12,13] rfl (fpi 7 [7,8,9,10,11,12,13] rfl (fr_ 8 [8,9,10,11,12,13] rfl (u_load ti78 (et (k30 d2)) ((hS.blk d0).cell d0)) (q30 p3) ?_))))))
   replace h:=bI h; obtain ⟨x192,g193,h⟩:=h
   obtain ⟨b194,o195,cs196,e197,f198,m199⟩:=SlR.elem m179 g193
   obtain rfl:=m199
   refine fp 9 [9,10,11,12,13] rfl (u_iax underlying78 ti135 (et (k30 d3)) ec e197) (q30 p4) (fpi 10 [10,11,12,13] rfl (fr_ 11 [11,12,13] rfl (u_load ti9 (et (k30 d5)) ((f198 _ hS.a).one d1)) (q30 p6) ?_))
   obtain ⟨es200,c201,hb202,hq203⟩:=m191
   refine sf1 rfl rfl rfl rfl (wanted_0 rfl) (s_mget1 (κ:=List UInt8) (k:=x192.Text) (β:=Int) (zx:=0) underlying97 underlying9 (et (k20 d9)) (et (k30 d6)) zv3 rfl (hb202 _ hS.a) hq203 ?_); rintro _ rfl; refine po ?_
   refine ⟨Mons.z,?_⟩
   refine fpi 13 [13] rfl (sf_nil (xn (cseq (nz ?_))))
   iterate 2 refine st ?_
   refine nw ?_
   refine cifd (et (k30 d9)) (fun h206=>?_) (fun h206=>?_)
   ·replace h:=iT h206 h
    refine cexit ?_
    refine (fun h=>xe (bm rfl (xe (bh h)))) ?_
    refine xl ?_
    exact ⟨_,_,rfl,(aK7 (aO1 (aK10 (aK1 (aO20 (aO20 (aO2 aZ))))))),_,_,_,_,_,_,_,_,_,_,_,_,rfl,h,le178,hS,m179,m180⟩
   ·replace h:=iF h206 h
    refine cskip (xn (nz ?_))
    iterate 4 refine st ?_
    refine ld ((hS.blk d0).cell d0) ?_
    replace h:=bI h; obtain ⟨l207,g208,h⟩:=h
    obtain ⟨a209,c210,e211,m212⟩:=Sl.slc (i:=some 1) (j:=none) m179 g208
    refine wl (s_slc underlying78 ti135 (et (k40 d4)) (.s ec) .n e211 (dt (q40 p5)) ?_)
    iterate 2 refine st ?_
    refine wl (s_store1 ti78 (et (k40 d7)) (et (k40 d5)) rfl hS d0 p0 rfl p0 dn ?_)
    clear hS; intro w10 hS
    refine ny ?_
    refine ccutE (List.range' 48 8) (by decide) (fun m w=>∃ μx l215 a213 c214 i217 i218 l221 a219 c220,m=(yK20 (yK20 (yK8 (yO8 48 []))))∧p_level_j2 p_2 r16 x182 x192 (p_level_l1 self p_2 r16 n_1) l215 i217 i218 l221=some r∧Le μ4 μx∧Sq μx w0 w (.blk b1 85 [.slice a213 l215.length c214,.int .i64 i217,.int .i64 i218]::.blk b14 194 [.int .i64 0,.int .i64 0,S [],.slice none 0 0]::.blk b44 194 [.int .i64 ((mget x182.signs x192.Text).getD 0),.int .i64 0,S [],.slice a219 l221.length c220]::rsF)∧Sl μx a213 c214 l215∧Sl μx a219 c220 l221) (by rintro _ _ ⟨_,_,_,_,_,_,_,_,_,rfl,_⟩; rfl) ?_ ?_
    ·refine cdraw (by kernel_rfl) rfl fun w11 hh_ ho_ ht_ hu_=>?_
     replace hS:=hS.drew hh_ ho_ ht_ hu_
     refine sf_start (fpi 0 [0,7,8] rfl (fr_ 1 [1,6,7,8] rfl (u_loads ti194 (et d6) (hS.blk d2).cells rfl) (q40 p9) (fpi 2 [2,5,6,7,8] rfl (fpi 3 [3,4,5,6,7,8] rfl ?_))))
     replace h:=bI h; obtain ⟨i231,g232,h⟩:=h
     refine fp 4 [4,5,6,7,8] rfl (u_addc (et (k50 d1)) ec g232) (q50 p2) ?_
     replace h:=bI h; obtain ⟨r233,g234,h⟩:=h
     refine sf1 rfl rfl rfl rfl (wanted_0 rfl) (s_callv isfn156 ef (e1 (et (k50 d0)) (e1 (et (k50 d2)) e0)) (IH.p_level (hg.t (le18.t (le37.t le178))) m212 g234 hS) ?_)
     rintro _ w12 ⟨μ5,a236,c237,a239,c240,rfl,le235,hS,m238,m241⟩
     refine po ?_
     refine ⟨(Mons.s (u_loads ti194 (et d6) (hS.blk d2).cells rfl) Mons.z),?_⟩
     refine sf1 rfl rfl rfl rfl (wanted_0 rfl) (s_bslA underlying192 ti194 (by decide) (.s (et (k40 d9)) rfl rfl (.s (et (k50 d3)) rfl rfl .z)) rfl hS ?_); clear hS; intro b242 w13 hb243 hS; refine po ?_
     refine ⟨Mons.z,?_⟩
     refine fp 7 [7,8] rfl (u_build ti194 pl194 (Fl.o rfl (et (k40 d8)) rfl rfl p0 (Fl.o rfl (et (k50 d4)) rfl rfl p3 Fl.z))) (q50 p5) (sf1 rfl rfl rfl rfl (wanted_0 rfl) (s_storeA ti194 (et d6) (et (k50 d5)) rfl rfl hS d3 rfl p3 dn ?_))
     clear hS; intro w14 hS
     refine ⟨Mons.z,?_⟩
     refine sf_nil (xl ?_)
     obtain ⟨μ6,le245,m244,hS⟩:=Sep.frzBlk (l:=([(TExpr.mk i118 i119 s120 l123),r233.1]:List TExpr)) hS (Rw.cons (α:=TExpr) (cs:=[.int .i64 i118,.int .i64 i119,S s120,.slice a121 l123.length c122]) (TExpr.i ⟨a121,c122,rfl,(m180.up le235)⟩) (Rw.cons (α:=TExpr) (cs:=[.int .i64 r233.1.Kind,.int .i64 r233.1.N,S r233.1.Name,.slice a236 r233.1.Kids.length c237]) (TExpr.i ⟨a236,c237,rfl,m238⟩) Rw.nil)) (Nat.le_of_ble_eq_true rfl)
     exact ⟨_,_,rfl,(aK20 (aK20 (aK8 (aO8 aZ)))),_,r233.2.1,_,_,r233.2.2.1,r233.2.2.2,[(TExpr.mk i118 i119 s120 l123),r233.1],(some ⟨b242,0,none⟩),2,rfl,h,(le235.t le245),hS,(m241.up le245),m244⟩
    ·rintro _ t w15 ⟨μ7,l215,a213,c214,i217,i218,l221,a219,c220,rfl,h,le246,hS,m247,m248⟩
     unfold p_level_j2 at h
     refine nrm (mK20 (mK20 (mK8 (mO8 mz)))) (xn (nz ?_))
     iterate 2 refine st ?_
     replace h:=bI h; obtain ⟨x249,g250,h⟩:=h
     obtain ⟨b251,o252,cs253,e254,f255,m256⟩:=SlR.elem (m21.up (le37.t (le178.t le246))) g250
     obtain ⟨b257,rfl,m258⟩:=m256
     refine wl (s_iax underlying272 ti275 (et (k50 d6)) (et (k50 d7)) e254 (dt (q50 p8)) (st (ld ((f255 _ hS.a).one d1) (nw ?_))))
     refine cifb (et (k60 d0)) (fun h259=>?_) (fun h259=>?_)
     ·replace h:=iT h259 h
      refine cexit ?_
      refine (fun h=>bm rfl (xe (bh h))) ?_
      refine xl ?_
      exact ⟨_,_,rfl,(aK7 (aO1 (aK10 (aK1 (aO20 (aO20 (aO2 aZ))))))),_,_,_,_,_,_,((mget x182.signs x192.Text).getD 0),0,[],_,_,_,rfl,h,(le178.t le246),hS,m247,m248⟩
     ·replace h:=iF h259 h
      refine cskip ?_
      refine (fun h=>bn (xl h)) ?_
      exact ⟨n_1,_,_,rfl,(aK7 (aO1 (aK10 (aK1 (aO20 (aO20 (aO2 aZ))))))),⟨_,l215,a213,c214,i217,i218,((mget x182.signs x192.Text).getD 0),0,[],l221,a219,c220,rfl,h,(le178.t le246),hS,m247,m248⟩,Nat.lt_succ_self _⟩
  ·rintro _ t w16 ⟨μ8,l48,a46,c47,i50,i51,i52,i53,s54,l57,a55,c56,rfl,h,le260,hS,m261,m262⟩
   unfold p_level_j1 at h
   refine nrm (mK7 (mO1 (mK10 (mK1 (mO20 (mO20 (mO2 mz))))))) (xn (nz (lds (hS.blk d2).cells rfl (wl (s_storeA ti194 (et d4) (et (k60 d1)) rfl rfl hS d1 rfl p1 dn ?_)))))
   clear hS; intro w17 hS
   refine nw (cret ?_)
   obtain rfl:=Option.some.inj h
   refine retN rfl (RVs.s (.a d4 ti194 (hS.blk d1).cells rfl) RVs.z) ?_
   replace hS:=(hS.drop (Rm.s Rm.z)).drop (Rm.s Rm.z)
   exact ⟨_,_,_,_,_,rfl,(le18.t (le37.t le260)),hS,m262,m261⟩
theorem p_unary_w {self:ParE} (IH:ParESound self) {μ0:M} {w0 w:World} {rsF:List Res} (hg:Le Gm μ0) {b1:Nat} {left_2:List TToken} {a3:Option Addr} {c4:Nat} {end_6 deep_7:Int} {r:TExpr×List TToken×Int×Int} (m5:Sl μ0 a3 c4 left_2) (h:p_unary self left_2 end_6 deep_7=some r) (hS:Sq μ0 w0 w (.blk b1 85 [.slice a3 left_2.length c4,.int .i64 end_6,.int .i64 deep_7]::rsF)):CallsV prog 166 [.pointer (some ⟨b1,0,none⟩)] w (fun v w'=>∃ (μ':M) (a8:Option Addr) (c9:Nat) (a11:Option Addr) (c12:Nat),v=.agg ⟨[.int .i64 r.1.Kind,.int .i64 r.1.N,S r.1.Name,.slice a8 r.1.Kids.length c9]⟩∧Le μ0 μ'∧Sq μ' w0 w' (.blk b1 85 [.slice a11 r.2.1.length c12,.int .i64 r.2.2.1,.int .i64 r.2.2.2]::rsF)∧Sl μ' a8 c9 r.1.Kids∧Sl μ' a11 c12 r.2.1):=by
 unfold p_unary at h
 refine enterF func166 rfl (frm:=_::u2 (u2 (u20 []))) rfl (nz ?_)
 refine wl (s_alloc ti194 hS ?_); clear hS; intro b14 w1 hb15 hS; refine po ?_
 refine ny (nz ?_)
 refine wl (s_mkmap hS ?_); clear hS; intro b16 w2 hb17 hS; refine po ?_
 refine wl (s_minsM (κ:=List UInt8) (β:=Int) (kk:=[45]) (xx:=4) underlying97 underlying9 (et d5) ec ec rfl hS d0 (Mq.nil (κ:=List UInt8) (β:=Int) (μ:=μ0) (c:=0)) dn ?_); clear hS; intro es18 c19 w3 rs_ m20 hp_ hS; cases (show _=rs_ from hp_)
 replace hS:=Sep.reput hS p0
 refine wl (s_minsM (κ:=List UInt8) (β:=Int) (kk:=[110,111,116]) (xx:=5) underlying97 underlying9 (et d5) ec ec rfl hS d0 m20 dn ?_); clear hS; intro es21 c22 w4 rs_ m23 hp_ hS; cases (show _=rs_ from hp_)
 replace hS:=Sep.reput hS p0
 refine st ?_
 obtain ⟨n26,n27,e28,h29,h30⟩:=Mq.two (k0:=[45]) (x0:=4) (k1:=[110,111,116]) (x1:=5) m23; subst e28
 refine wl (s_rangem underlying97 (et d6) hS d0 ?_); clear hS; intro b24 w5 hb25 hS; refine po ?_
 refine nw (cblock (cunroll 3 (crnd (nz ?_))))
 refine wl (s_next0 (et d7) hS d0 d1 h29 h30 ?_ ?_)
 ·clear hS; intro w6 rs_ hp_ hS; cases (show _=rs_ from hp_)
  replace hS:=Sep.reput hS p0; refine po ?_
  refine st (ny (cift (et d9) (cskip (xn (cblock (nz (wl (s_entry (e:=⟨S [45],.int .i64 4,n26⟩) (et d7) hS d0 d1 h29 rfl (.inl rfl) (dt (q10 p0)) ?_))))))))
  iterate 4 refine st ?_
  refine nx ?_
  iterate 2 refine st ?_
  replace h:=bI h; obtain ⟨r31,g32,h⟩:=h
  replace hS:=hS.bg Y3
  refine ca (p_is_w hg m5 g32 hS) ?_
  rintro _ w7 ⟨μ1,a34,c35,rfl,le33,hS,m36⟩
  refine po (nw ?_)
  refine cifb (et (k10 d5)) (xT h) fun h37=>?_
  replace h:=iF h37 h
  refine cskip ?_
  refine (fun h=>bn (xl h)) (xrnd (crnd ?_))
  refine nz (wl (s_next1 (et d7) hS d1 d2 h29 h30 ?_))
  clear hS; intro w8 rs_ hp_ hS; cases (show _=rs_ from hp_)
  replace hS:=Sep.reput hS p1; refine po ?_
  refine st (ny (cift (et d9) (cskip (xn (cblock (nz (wl (s_entry (e:=⟨S [110,111,116],.int .i64 5,n27⟩) (et d7) hS d1 d2 h29 rfl (.inr rfl) (dt (q10 p0)) ?_))))))))
  iterate 4 refine st ?_
  refine nx ?_
  iterate 2 refine st ?_
  replace h:=bI h; obtain ⟨r38,g39,h⟩:=h
  refine ca (p_is_w (hg.t le33) m36 g39 hS) ?_
  rintro _ w9 ⟨μ2,a41,c42,rfl,le40,hS,m43⟩
  refine po (nw ?_)
  refine cifb (et (k10 d5)) (xT h) fun h44=>?_
  replace h:=iF h44 h
  refine cskip ?_
  refine (fun h=>bn (xl h)) (xrnd (crnd ?_))
  refine nz (wl (s_next2 (et d7) hS d1 d2 h29 h30 (.inl ⟨rfl,rfl⟩) (dt p8) (st (ny (ciff (et d9) (cexit ?_))))))
  refine (fun h=>xe (xe (bh h))) ?_
  refine xn (nz (st ?_))
  replace h:=bI h; obtain ⟨r45,g46,h⟩:=h
  refine ca (IH.p_primary (hg.t (le33.t le40)) m43 g46 hS) ?_
  rintro _ w10 ⟨μ3,a48,c49,a51,c52,rfl,le47,hS,m50,m53⟩
  refine po (wl (s_storeA ti194 (et d2) (et (k20 d4)) rfl rfl hS d3 rfl p3 dn ?_))
  clear hS; intro w11 hS
  refine nw (cret ?_)
  obtain rfl:=Option.some.inj h
  refine retDN rfl (RVs.s (.a d2 ti194 (hS.blk d3).cells rfl) RVs.z) ?_
  replace hS:=((hS.drop (Rm.s Rm.z)).drop (Rm.s Rm.z)).drop (Rm.s Rm.z)
  exact ⟨_,_,_,_,_,rfl,(le33.t (le40.t le47)),hS,m50,m53⟩
 ·clear hS; intro w12 rs_ hp_ hS; cases (show _=rs_ from hp_)
  replace hS:=Sep.reput hS p0; refine po ?_
  replace h:=is_swap (by decide) h
  refine st (ny (cift (et d9) (cskip (xn (cblock (nz (wl (s_entry (e:=⟨S [110,111,116],.int .i64 5,n27⟩) (et d7) hS d0 d1 h29 rfl (.inr rfl) (dt (q10 p0)) ?_))))))))
  iterate 4 refine st ?_
  refine nx ?_
  iterate 2 refine st ?_
  replace h:=bI h; obtain ⟨r54,g55,h⟩:=h
  replace hS:=hS.bg Y3
  refine ca (p_is_w hg m5 g55 hS) ?_
  rintro _ w13 ⟨μ4,a57,c58,rfl,le56,hS,m59⟩
  refine po (nw ?_)
  refine cifb (et (k10 d5)) (xT h) fun h60=>?_
  replace h:=iF h60 h
  refine cskip ?_
  refine (fun h=>bn (xl h)) (xrnd (crnd ?_))
  refine nz (wl (s_next1' (et d7) hS d1 d2 h29 h30 ?_))
  clear hS; intro w14 rs_ hp_ hS; cases (show _=rs_ from hp_)
  replace hS:=Sep.reput hS p1; refine po ?_
  refine st (ny (cift (et d9) (cskip (xn (cblock (nz (wl (s_entry (e:=⟨S [45],.int .i64 4,n26⟩) (et d7) hS d1 d2 h29 rfl (.inl rfl) (dt (q10 p0)) ?_))))))))
  iterate 4 refine st ?_
  refine nx ?_
  iterate 2 refine st ?_
  replace h:=bI h; obtain ⟨r61,g62,h⟩:=h
  refine ca (p_is_w (hg.t le56) m59 g62 hS) ?_
  rintro _ w15 ⟨μ5,a64,c65,rfl,le63,hS,m66⟩
  refine po (nw ?_)
  refine cifb (et (k10 d5)) (xT h) fun h67=>?_
  replace h:=iF h67 h
  refine cskip ?_
  refine (fun h=>bn (xl h)) (xrnd (crnd ?_))
  refine nz (wl (s_next2 (et d7) hS d1 d2 h29 h30 (.inr ⟨rfl,rfl⟩) (dt p8) (st (ny (ciff (et d9) (cexit ?_))))))
  refine (fun h=>xe (xe (bh h))) ?_
  refine xn (nz (st ?_))
  replace h:=bI h; obtain ⟨r68,g69,h⟩:=h
  refine ca (IH.p_primary (hg.t (le56.t le63)) m66 g69 hS) ?_
  rintro _ w16 ⟨μ6,a71,c72,a74,c75,rfl,le70,hS,m73,m76⟩
  refine po (wl (s_storeA ti194 (et d2) (et (k20 d4)) rfl rfl hS d3 rfl p3 dn ?_))
  clear hS; intro w17 hS
  refine nw (cret ?_)
  obtain rfl:=Option.some.inj h
  refine retDN rfl (RVs.s (.a d2 ti194 (hS.blk d3).cells rfl) RVs.z) ?_
  replace hS:=((hS.drop (Rm.s Rm.z)).drop (Rm.s Rm.z)).drop (Rm.s Rm.z)
  exact ⟨_,_,_,_,_,rfl,(le56.t (le63.t le70)),hS,m73,m76⟩
theorem p_primary_w {self:ParE} (IH:ParESound self) {μ0:M} {w0 w:World} {rsF:List Res} (hg:Le Gm μ0) {b1:Nat} {left_2:List TToken} {a3:Option Addr} {c4:Nat} {end_6 deep_7:Int} {r:TExpr×List TToken×Int×Int} (m5:Sl μ0 a3 c4 left_2) (h:p_primary self left_2 end_6 deep_7=some r) (hS:Sq μ0 w0 w (.blk b1 85 [.slice a3 left_2.length c4,.int .i64 end_6,.int .i64 deep_7]::rsF)):CallsV prog 176 [.pointer (some ⟨b1,0,none⟩)] w (fun v w'=>∃ (μ':M) (a8:Option Addr) (c9:Nat) (a11:Option Addr) (c12:Nat),v=.agg ⟨[.int .i64 r.1.Kind,.int .i64 r.1.N,S r.1.Name,.slice a8 r.1.Kids.length c9]⟩∧Le μ0 μ'∧Sq μ' w0 w' (.blk b1 85 [.slice a11 r.2.1.length c12,.int .i64 r.2.2.1,.int .i64 r.2.2.2]::rsF)∧Sl μ' a8 c9 r.1.Kids∧Sl μ' a11 c12 r.2.1):=by
 unfold p_primary at h
 refine enter func176 rfl (frm:=_::u1 (u2 (u5 (u10 (u20 (u50 [])))))) rfl (nz ?_)
 refine wl (s_alloc ti194 hS ?_); clear hS; intro b14 w1 hb15 hS; refine po ?_
 refine ny (cblock (nz ?_))
 iterate 3 refine st ?_
 refine ld ((hS.blk d1).cell d0) (wl (s_lensl underlying78 (et (k10 d0)) (dt (q10 p1)) ?_))
 iterate 2 refine st ?_
 refine wspd (k10 d3) (q10 p3) (q10 p3) (fun h16=>?_) (xF h)
 replace h:=iT h16 h
 refine sy rfl (sy rfl (sy rfl (wy rfl (k10 d3) (s_load ti78 (et (k10 d6)) ((hS.blk d1).cell d0) (dt (q10 p7)) ?_))))
 replace h:=bI h; obtain ⟨x17,g18,h⟩:=h
 obtain ⟨b19,o20,cs21,e22,f23,m24⟩:=SlR.elem m5 g18
 obtain rfl:=m24
 refine wy rfl (k10 d3) (s_iax underlying78 ti135 (et (k10 d7)) ec e22 (dt (q10 p8)) (sy rfl (wy rfl (k10 d3) (s_load ti3 (et (k10 d9)) ((f23 _ hS.a).one d0) (dt (q20 p0)) (sy rfl ?_)))))
 iterate 2 refine st ?_
 refine nw ?_
 refine cifd (et d6) (fun h25=>?_) (fun h25=>?_)
 ·replace h:=iT h25 h
  refine nz (st ?_)
  replace h:=bI h; obtain ⟨r26,g27,h⟩:=h
  replace hS:=hS.bg Y1
  refine ca (p_number_w hg m5 g27 hS) ?_
  rintro _ w2 ⟨μ1,a29,c30,rfl,le28,hS,m31⟩
  refine po (wl (s_build ti194 pl194 (Fl.o rfl ec rfl rfl p0 (Fl.o rfl (et (k20 d4)) rfl rfl p1 Fl.z)) (dt (q20 p5)) (wl (s_storeA ti194 (et d2) (et (k20 d5)) rfl rfl hS d1 rfl p1 dn ?_))))
  clear hS; intro w3 hS
  refine nw (cret ?_)
  refine (fun h=>br (xr h)) ?_
  obtain rfl:=Option.some.inj h
  refine retN rfl (RVs.s (.a d2 ti194 (hS.blk d1).cells rfl) RVs.z) ?_
  replace hS:=hS.drop (Rm.s Rm.z)
  exact ⟨_,none,0,_,_,rfl,le28,hS,Sl.nil,m31⟩
 ·replace h:=iF h25 h
  refine nz (st ?_)
  replace h:=bI h; obtain ⟨r32,g33,h⟩:=h
  replace hS:=hS.bg Y1
  refine ca (p_is_w hg m5 g33 hS) ?_
  rintro _ w4 ⟨μ2,a35,c36,rfl,le34,hS,m37⟩
  refine po (st (nw ?_))
  refine cifb (et (k20 d6)) (fun h38=>?_) (fun h38=>?_)
  ·replace h:=iT h38 h
   refine nz (wl (s_build ti194 pl194 (Fl.o rfl ec rfl rfl p0 (Fl.o rfl ec rfl rfl p1 Fl.z)) (dt (q20 p9)) (wl (s_storeA ti194 (et d2) (et (k20 d9)) rfl rfl hS d1 rfl p1 dn ?_))))
   clear hS; intro w5 hS
   refine nw (cret ?_)
   refine (fun h=>br (xr h)) ?_
   obtain rfl:=Option.some.inj h
   refine retN rfl (RVs.s (.a d2 ti194 (hS.blk d1).cells rfl) RVs.z) ?_
   replace hS:=hS.drop (Rm.s Rm.z)
   exact ⟨_,none,0,_,_,rfl,le34,hS,Sl.nil,m37⟩
  ·replace h:=iF h38 h
   refine nz (st ?_)
   replace h:=bI h; obtain ⟨r39,g40,h⟩:=h
   refine ca (p_is_w (hg.t le34) m37 g40 hS) ?_
   rintro _ w6 ⟨μ3,a42,c43,rfl,le41,hS,m44⟩
   refine po (st (nw ?_))
   refine cifb (et (k30 d0)) (xT h) fun h45=>?_
   replace h:=iF h45 h
   refine nz (st ?_)
   replace h:=bI h; obtain ⟨r46,g47,h⟩:=h
   refine ca (p_is_w (hg.t (le34.t le41)) m44 g47 hS) ?_
   rintro _ w7 ⟨μ4,a49,c50,rfl,le48,hS,m51⟩
   refine po (st (nw ?_))
   refine cifb (et (k30 d4)) (xT h) fun h52=>?_
   replace h:=iF h52 h
   refine nz (st ?_)
   replace h:=bI h; obtain ⟨r53,g54,h⟩:=h
   refine ca (p_is_w (hg.t (le34.t (le41.t le48))) m51 g54 hS) ?_
   rintro _ w8 ⟨μ5,a56,c57,rfl,le55,hS,m58⟩
   refine po (st (nw ?_))
   refine cifb (et (k40 d3)) (fun h59=>?_) (fun h59=>?_)
   ·replace h:=iT h59 h
    refine nz (st ?_)
    refine wl (s_bsl underlying189 ti9 (Parts.s ec rfl Parts.z) rfl rfl hS ?_); clear hS; intro b60 w9 hb61 hS; refine po ?_
    obtain ⟨μ6,le63,m62,hS⟩:=Sep.frzBlk (l:=([[40]]:List (List UInt8))) hS (Rw.one (α:=List UInt8) rfl) (Nat.le_of_ble_eq_true rfl)
    replace h:=bI h; obtain ⟨r64,g65,h⟩:=h
    refine ca (p_need_w (hg.t (le34.t (le41.t (le48.t (le55.t le63))))) (m58.up le63) m62 g65 hS) ?_
    rintro _ w10 ⟨μ7,a67,c68,rfl,le66,hS,m69⟩
    refine po (nx (st ?_))
    replace h:=bI h; obtain ⟨r70,g71,h⟩:=h
    refine ca (p_name_w (hg.t (le34.t (le41.t (le48.t (le55.t (le63.t le66)))))) m69 g71 hS) ?_
    rintro _ w11 ⟨μ8,a73,c74,rfl,le72,hS,m75⟩
    refine po (wl (s_build ti194 pl194 (Fl.o rfl ec rfl rfl p0 (Fl.o rfl (et (k50 d0)) rfl rfl p2 Fl.z)) (dt (q50 p1)) ?_))
    refine wl (s_alloc ti194 hS ?_); clear hS; intro b76 w12 hb77 hS; refine po ?_
    refine wl (s_storeA ti194 (et d4) (et (k50 d1)) rfl rfl hS d0 rfl p0 dn ?_)
    clear hS; intro w13 hS
    refine nx (st ?_)
    refine wl (s_bsl underlying189 ti9 (Parts.s ec rfl Parts.z) rfl rfl hS ?_); clear hS; intro b78 w14 hb79 hS; refine po ?_
    obtain ⟨μ9,le81,m80,hS⟩:=Sep.frzBlk (l:=([[41]]:List (List UInt8))) hS (Rw.one (α:=List UInt8) rfl) (Nat.le_of_ble_eq_true rfl)
    replace h:=bI h; obtain ⟨r82,g83,h⟩:=h
    replace hS:=hS.bg Y1
    refine ca (p_need_w (hg.t (le34.t (le41.t (le48.t (le55.t (le63.t (le66.t (le72.t le81)))))))) (m75.up le81) m80 g83 hS) ?_
    rintro _ w15 ⟨μ10,a85,c86,rfl,le84,hS,m87⟩
    refine po (nx (lds (hS.blk d1).cells rfl (wl (s_storeA ti194 (et d2) (et (k50 d5)) rfl rfl hS d2 rfl p2 dn ?_))))
    clear hS; intro w16 hS
    refine nw (cret ?_)
    refine (fun h=>br (xr h)) ?_
    obtain rfl:=Option.some.inj h
    refine retN rfl (RVs.s (.a d2 ti194 (hS.blk d2).cells rfl) RVs.z) ?_
    replace hS:=(hS.drop (Rm.s Rm.z)).drop (Rm.s Rm.z)
    exact ⟨_,none,0,_,_,rfl,(le34.t (le41.t (le48.t (le55.t (le63.t (le66.t (le72.t (le81.t le84)))))))),hS,Sl.nil,m87⟩
   ·replace h:=iF h59 h
    refine nz (st ?_)
    replace h:=bI h; obtain ⟨r88,g89,h⟩:=h
    refine ca (p_is_w (hg.t (le34.t (le41.t (le48.t le55)))) m58 g89 hS) ?_
    rintro _ w17 ⟨μ11,a91,c92,rfl,le90,hS,m93⟩
    refine po (st (nw ?_))
    refine cifb (et (k50 d6)) (xT h) fun h94=>?_
    replace h:=iF h94 h
    refine nz (st ?_)
    replace h:=bI h; obtain ⟨r95,g96,h⟩:=h
    refine ca (p_is_w (hg.t (le34.t (le41.t (le48.t (le55.t le90))))) m93 g96 hS) ?_
    rintro _ w18 ⟨μ12,a98,c99,rfl,le97,hS,m100⟩
    refine po (st (nw ?_))
    refine cifb (et (k60 d1)) (xT h) fun h101=>?_
    replace h:=iF h101 h
    refine nz (st ?_)
    replace h:=bI h; obtain ⟨r102,g103,h⟩:=h
    refine ca (p_is_w (hg.t (le34.t (le41.t (le48.t (le55.t (le90.t le97)))))) m100 g103 hS) ?_
    rintro _ w19 ⟨μ13,a105,c106,rfl,le104,hS,m107⟩
    refine po (st (nw ?_))
    refine cifb (et (k60 d6)) (xT h) fun h108=>?_
    replace h:=iF h108 h
    refine nz (st ?_)
    replace h:=bI h; obtain ⟨r109,g110,h⟩:=h
    refine ca (p_is_w (hg.t (le34.t (le41.t (le48.t (le55.t (le90.t (le97.t le104))))))) m107 g110 hS) ?_
    rintro _ w20 ⟨μ14,a112,c113,rfl,le111,hS,m114⟩
    refine po (st (nw ?_))
    refine cifb (et (k70 d1)) (xT h) fun h115=>?_
    replace h:=iF h115 h
    refine cskip ?_
    refine (fun h=>bn (xn h)) ?_
    refine nz (st ?_)
    replace h:=bI h; obtain ⟨r116,g117,h⟩:=h
    refine ca (p_name_w (hg.t (le34.t (le41.t (le48.t (le55.t (le90.t (le97.t (le104.t le111)))))))) m114 g117 hS) ?_
    rintro _ w21 ⟨μ15,a119,c120,rfl,le118,hS,m121⟩
    refine po (st (ny (nz (st ?_))))
    replace h:=bI h; obtain ⟨r122,g123,h⟩:=h
    refine ca (p_sees_w (hg.t (le34.t (le41.t (le48.t (le55.t (le90.t (le97.t (le104.t (le111.t le118))))))))) m121 g123 hS) ?_
    rintro _ w22 ⟨μ16,rfl,le124,hS⟩
    refine po (nw ?_)
    refine cifb (et (k80 d2)) (xT h) fun h125=>?_
    replace h:=iF h125 h
    refine cskip (xn (nz (st (wl (s_build ti194 pl194 (Fl.o rfl ec rfl rfl p0 (Fl.o rfl (et (k80 d7)) rfl rfl p2 Fl.z)) (dt (q80 p8)) (wl (s_storeA ti194 (et d2) (et (k80 d8)) rfl rfl hS d1 rfl p1 dn ?_)))))))
    clear hS; intro w23 hS
    refine nw (cret ?_)
    obtain rfl:=Option.some.inj h
    refine retN rfl (RVs.s (.a d2 ti194 (hS.blk d1).cells rfl) RVs.z) ?_
    replace hS:=hS.drop (Rm.s Rm.z)
    exact ⟨_,none,0,_,_,rfl,(le34.t (le41.t (le48.t (le55.t (le90.t (le97.t (le104.t (le111.t (le118.t le124))))))))),hS,Sl.nil,(m121.up le124)⟩
theorem ParE_sound:∀ n,ParESound (ParE_run n)
  | 0=>⟨(by intros; rename_i h _; cases h),(by intros; rename_i h _; cases h),(by intros; rename_i h _; cases h),(by intros; rename_i h _; cases h)⟩
  | n+1=>⟨p_expr_w (ParE_sound n),p_level_w (ParE_sound n),p_unary_w (ParE_sound n),p_primary_w (ParE_sound n)⟩
structure ParSSound (sf:ParS):Prop where
  p_body:∀ {μ0:M} {w0 w:World} {rsF:List Res} (hg:Le Gm μ0) {b1:Nat} {left_2:List TToken} {a3:Option Addr} {c4:Nat} {end_6 deep_7:Int} {r:List TStat×List TToken×Int×Int} (m5:Sl μ0 a3 c4 left_2) (h:sf.p_body left_2 end_6 deep_7=some r) (hS:Sq μ0 w0 w (.blk b1 85 [.slice a3 left_2.length c4,.int .i64 end_6,.int .i64 deep_7]::rsF)),CallsV prog 70 [.pointer (some ⟨b1,0,none⟩)] w (fun v w'=>∃ (μ':M) (a8:Option Addr) (c9:Nat) (a11:Option Addr) (c12:Nat),v=.slice a8 r.1.length c9∧Le μ0 μ'∧Sq μ' w0 w' (.blk b1 85 [.slice a11 r.2.1.length c12,.int .i64 r.2.2.1,.int .i64 r.2.2.2]::rsF)∧Sl μ' a8 c9 r.1∧Sl μ' a11 c12 r.2.1)
  p_stat:∀ {μ0:M} {w0 w:World} {rsF:List Res} (hg:Le Gm μ0) {b1:Nat} {left_2:List TToken} {a3:Option Addr} {c4:Nat} {end_6 deep_7:Int} {r:TStat×List TToken×Int×Int} (m5:Sl μ0 a3 c4 left_2) (h:sf.p_stat left_2 end_6 deep_7=some r) (hS:Sq μ0 w0 w (.blk b1 85 [.slice a3 left_2.length c4,.int .i64 end_6,.int .i64 deep_7]::rsF)),CallsV prog 104 [.pointer (some ⟨b1,0,none⟩)] w (fun v w'=>∃ (μ':M) (a8:Option Addr) (c9:Nat) (a11:Option Addr) (c12:Nat) (a14:Option Addr) (c15:Nat) (a17:Option Addr) (c18:Nat),v=.agg ⟨[.int .i64 r.1.Kind,S r.1.Name,.int .i64 r.1.X.Kind,.int .i64 r.1.X.N,S r.1.X.Name,.slice a8 r.1.X.Kids.length c9,.slice a11 r.1.Body.length c12,.slice a14 r.1.Else.length c15]⟩∧Le μ0 μ'∧Sq μ' w0 w' (.blk b1 85 [.slice a17 r.2.1.length c18,.int .i64 r.2.2.1,.int .i64 r.2.2.2]::rsF)∧Sl μ' a8 c9 r.1.X.Kids∧Sl μ' a11 c12 r.1.Body∧Sl μ' a14 c15 r.1.Else∧Sl μ' a17 c18 r.2.1)
theorem p_body_w {self:ParS} (IH:ParSSound self) {fu:Nat} {μ0:M} {w0 w:World} {rsF:List Res} (hg:Le Gm μ0) {b1:Nat} {left_2:List TToken} {a3:Option Addr} {c4:Nat} {end_6 deep_7:Int} {r:List TStat×List TToken×Int×Int} (m5:Sl μ0 a3 c4 left_2) (h:p_body fu self left_2 end_6 deep_7=some r) (hS:Sq μ0 w0 w (.blk b1 85 [.slice a3 left_2.length c4,.int .i64 end_6,.int .i64 deep_7]::rsF)):CallsV prog 70 [.pointer (some ⟨b1,0,none⟩)] w (fun v w'=>∃ (μ':M) (a8:Option Addr) (c9:Nat) (a11:Option Addr) (c12:Nat),v=.slice a8 r.1.length c9∧Le μ0 μ'∧Sq μ' w0 w' (.blk b1 85 [.slice a11 r.2.1.length c12,.int .i64 r.2.2.1,.int .i64 r.2.2.2]::rsF)∧Sl μ' a8 c9 r.1∧Sl μ' a11 c12 r.2.1):=by
 unfold p_body at h
 refine enterF func70 rfl (frm:=_::u2 (u2 (u20 []))) rfl (nz (st (nx (st ?_))))
 replace h:=bI h; obtain ⟨r14,g15,h⟩:=h
 refine ca (p_into_w hg m5 g15 hS) ?_
 rintro _ w1 ⟨μ1,b17,a18,c19,rfl,le16,hS,m20⟩
 refine po (wl (s_defer (et d5) e0 dn (nx (st (ny (nz (st ?_)))))))
 refine wl (s_bsl underlying189 ti9 (Parts.s ec rfl Parts.z) rfl rfl hS ?_); clear hS; intro b21 w2 hb22 hS; refine po ?_
 obtain ⟨μ2,le24,m23,hS⟩:=Sep.frzBlk (l:=([[123]]:List (List UInt8))) hS (Rw.one (α:=List UInt8) rfl) (Nat.le_of_ble_eq_true rfl)
 replace h:=bI h; obtain ⟨r25,g26,h⟩:=h
 replace hS:=hS.bg Y1
 refine ca (p_need_w (hg.t (le16.t le24)) (m20.up le24) m23 g26 hS) ?_
 rintro _ w3 ⟨μ3,a28,c29,rfl,le27,hS,m30⟩
 refine po (nw (cblock ?_))
 replace hS:=hS.nilRow 196 (Mo.sz TStat)
 replace hS:=(hS.bg Y2).bg Y2
 refine cloopE (List.range' 9 15) (by decide) (fun n m w=>∃ μx l62 a60 c61 i65 i66 l69 v67 cs68,m=(yK3 (.i (v67)::(yK5 (yO10 9 (yO5 19 [])))))∧p_body_l1 self n l62 i65 i66 l69=some r∧Le μ3 μx∧Sq μx w0 w (.blk b1 85 [.slice a60 l62.length c61,.int .i64 i65,.int .i64 i66]::.blk b17 83 [.pointer (some ⟨b1,0,none⟩)]::.row v67 196 8 l69.length cs68::rsF)∧Sl μx a60 c61 l62∧Rw μx cs68 l69) (by rintro _ _ _ ⟨_,_,_,_,_,_,_,_,_,rfl,_⟩; rfl) _ _ (aK3 (aI (aK5 (aO10 (aO5 aZ))))) ⟨_,r25.1,a28,c29,r25.2.1,r25.2.2,[],(.slice none 0 0),[],rfl,h,Le.r,hS,m30,Rw.nil⟩ ?_
 rintro n_1 _ t w4 ⟨μ4,l62,a60,c61,i65,i66,l69,v67,cs68,rfl,h,le99,hS,m100,m101⟩
 cases n_1 with
 | zero=>cases h
 | succ n_1 =>
 unfold p_body_l1 at h
 refine cnrm (mK3 (mi (mK5 (mO10 (mO5 mz))))) (cseq (nz (st ?_)))
 replace h:=bI h; obtain ⟨r102,g103,h⟩:=h
 refine ca (p_is_w (hg.t (le16.t (le24.t (le27.t le99)))) m100 g103 hS) ?_
 rintro _ w5 ⟨μ5,a105,c106,rfl,le104,hS,m107⟩
 refine po (st (nw ?_))
 refine cifnb (et (k10 d1)) (fun h108=>?_) (fun h108=>?_)
 ·replace h:=iF h108 h
  refine cskip (xn (cblock (cseq (nz (st (wl (s_lenv underlying91 (et (k10 d2)) (hS.get d2).isSl (dt (q10 p3)) (st (nw ?_)))))))))
  refine cifd (et (k10 d4)) (xT h) fun h109=>?_
  replace h:=iF h109 h
  refine cskip (xn (creg ?_))
  iterate 2 refine st ?_
  replace h:=bI h; obtain ⟨r110,g111,h⟩:=h
  refine ca (IH.p_stat (hg.t (le16.t (le24.t (le27.t (le99.t le104))))) m107 g111 hS) ?_
  rintro _ w6 ⟨μ6,a113,c114,a116,c117,a119,c120,a122,c123,rfl,le112,hS,m115,m118,m121,m124⟩
  refine po ?_
  refine wl (s_bsl1 underlying91 ti196 rfl (et (k20 d1)) rfl hS ?_); clear hS; intro b125 w7 hb126 hS; refine po ?_
  replace h:=bI h; obtain ⟨l129,g130,h⟩:=h
  have m131:Rw μ6 [.int .i64 r110.1.Kind,S r110.1.Name,.int .i64 r110.1.X.Kind,.int .i64 r110.1.X.N,S r110.1.X.Name,.slice a113 r110.1.X.Kids.length c114,.slice a116 r110.1.Body.length c117,.slice a119 r110.1.Else.length c120] [r110.1]:=(Rw.one (α:=TStat) (TStat.i ⟨a113,c114,a116,c117,a119,c120,rfl,m115,m118,m121⟩))
  have m128:=Rw.app (m101.up (le104.t le112)) m131 g130
  refine wl (s_app1 underlying91 ti196 rfl (et (k10 d9)) (et (k20 d2)) hS d3 (hS.blk d0).cells m131 rfl g130 (by decide) ?_); clear hS; intro v127 w8 rs_ hp_ hS; cases (show _=rs_ from hp_)
  replace hS:=Sep.reput hS p3; refine po ?_
  replace hS:=hS.drop Rm.z
  refine st (wnil ?_)
  refine (fun h=>bn (xl h)) ?_
  exact ⟨n_1,_,_,rfl,(aK3 (aI (aK5 (aO10 (aO5 aZ))))),⟨_,r110.2.1,a122,c123,r110.2.2.1,r110.2.2.2,l129,v127,(cs68++[.int .i64 r110.1.Kind,S r110.1.Name,.int .i64 r110.1.X.Kind,.int .i64 r110.1.X.N,S r110.1.X.Name,.slice a113 r110.1.X.Kids.length c114,.slice a116 r110.1.Body.length c117,.slice a119 r110.1.Else.length c120]),rfl,h,(le99.t (le104.t le112)),hS,m124,m128⟩,Nat.lt_succ_self _⟩
 ·replace h:=iT h108 h
  refine cexit ?_
  refine (fun h=>xe (xe (bh h))) ?_
  refine xn (nz ?_)
  iterate 2 refine st ?_
  refine nw (cret ?_)
  replace h:=bI h; obtain ⟨r132,g133,h⟩:=h
  replace hS:=hS.bg Y1
  refine retD isfn136 (p_out_w (hg.t (le16.t (le24.t (le27.t (le99.t le104))))) m107 g133 hS) ?_
  rintro _ w9 ⟨μ7,a135,c136,rfl,le134,hS,m137⟩
  replace hS:=hS.bg Y2
  obtain ⟨μ8,a138,c139,e142,le141,m140,hq_⟩:=Sep.frzRow hS (m101.up (le104.t le134)) rfl; clear hS
  subst e142; have hS:=hq_; clear hq_
  obtain rfl:=Option.some.inj h
  refine retDN rfl (RVs.s (.t d2) RVs.z) ?_
  replace hS:=hS.drop Rm.z
  exact ⟨_,_,_,_,_,rfl,(le16.t (le24.t (le27.t (le99.t (le104.t (le134.t le141)))))),hS,m140,(m137.up le141)⟩
theorem p_stat_w {self:ParS} (IH:ParSSound self) {fu:Nat} {μ0:M} {w0 w:World} {rsF:List Res} (hg:Le Gm μ0) {b1:Nat} {left_2:List TToken} {a3:Option Addr} {c4:Nat} {end_6 deep_7:Int} {r:TStat×List TToken×Int×Int} (m5:Sl μ0 a3 c4 left_2) (h:p_stat fu self left_2 end_6 deep_7=some r) (hS:Sq μ0 w0 w (.blk b1 85 [.slice a3 left_2.length c4,.int .i64 end_6,.int .i64 deep_7]::rsF)):CallsV prog 104 [.pointer (some ⟨b1,0,none⟩)] w (fun v w'=>∃ (μ':M) (a8:Option Addr) (c9:Nat) (a11:Option Addr) (c12:Nat) (a14:Option Addr) (c15:Nat) (a17:Option Addr) (c18:Nat),v=.agg ⟨[.int .i64 r.1.Kind,S r.1.Name,.int .i64 r.1.X.Kind,.int .i64 r.1.X.N,S r.1.X.Name,.slice a8 r.1.X.Kids.length c9,.slice a11 r.1.Body.length c12,.slice a14 r.1.Else.length c15]⟩∧Le μ0 μ'∧Sq μ' w0 w' (.blk b1 85 [.slice a17 r.2.1.length c18,.int .i64 r.2.2.1,.int .i64 r.2.2.2]::rsF)∧Sl μ' a8 c9 r.1.X.Kids∧Sl μ' a11 c12 r.1.Body∧Sl μ' a14 c15 r.1.Else∧Sl μ' a17 c18 r.2.1):=by
 unfold p_stat at h
 refine enter func104 rfl (frm:=_::u1 (u10 (u20 (u50 [])))) rfl (nz ?_)
 refine wl (s_alloc ti196 hS ?_); clear hS; intro b20 w1 hb21 hS; refine po ?_
 refine nx (wl (s_build ti196 pl196 Fl.z (dt p4) ?_))
 refine wl (s_alloc ti196 hS ?_); clear hS; intro b22 w2 hb23 hS; refine po ?_
 refine wl (s_storeA ti196 (et d3) (et d4) rfl rfl hS d0 rfl p0 dn ?_)
 clear hS; intro w3 hS
 refine ny ?_
 refine ccutE (List.range' 5 73) (by decide +kernel) (fun m w=>∃ μx l26 a24 c25 i28 i29 i30 s31 i33 i34 s35 l38 a36 c37,m=(yK5 (yO50 5 (yO20 55 (yO3 75 []))))∧p_stat_j1 l26 i28 i29 i30 s31 i33 i34 s35 l38=some r∧Le μ0 μx∧Sq μx w0 w (.blk b1 85 [.slice a24 l26.length c25,.int .i64 i28,.int .i64 i29]::.blk b20 196 [.int .i64 0,S [],.int .i64 0,.int .i64 0,S [],.slice none 0 0,.slice none 0 0,.slice none 0 0]::.blk b22 196 [.int .i64 i30,S s31,.int .i64 i33,.int .i64 i34,S s35,.slice a36 l38.length c37,.slice none 0 0,.slice none 0 0]::rsF)∧Sl μx a24 c25 l26∧Sl μx a36 c37 l38) (by rintro _ _ ⟨_,_,_,_,_,_,_,_,_,_,_,_,_,_,rfl,_⟩; rfl) ?_ ?_
 ·refine cblock (nz (st ?_))
  replace h:=bI h; obtain ⟨r40,g41,h⟩:=h
  replace hS:=hS.bg Y2
  refine ca (p_is_w hg m5 g41 hS) ?_
  rintro _ w4 ⟨μ1,a43,c44,rfl,le42,hS,m45⟩
  refine po (st (nw ?_))
  refine cifb (et (k10 d4)) (fun h46=>?_) (fun h46=>?_)
  ·replace h:=iT h46 h
   refine nz (st ?_)
   replace h:=bI h; obtain ⟨r47,g48,h⟩:=h
   refine ca ((ParE_sound fu).p_expr (hg.t le42) m45 g48 hS) ?_
   rintro _ w5 ⟨μ2,a50,c51,a53,c54,rfl,le49,hS,m52,m55⟩
   refine po (st ?_)
   replace h:=bI h; obtain ⟨r56,g57,h⟩:=h
   refine ca (IH.p_body (hg.t (le42.t le49)) m55 g57 hS) ?_
   rintro _ w6 ⟨μ3,a59,c60,a62,c63,rfl,le58,hS,m61,m64⟩
   refine po (wl (s_build ti196 pl196 (Fl.o rfl ec rfl rfl p0 (Fl.n rfl (et (k10 d8)) rfl rfl (Spl.s p2 (of_decide_eq_true rfl) (Spl.s p3 (of_decide_eq_true rfl) (Spl.s p4 (of_decide_eq_true rfl) (Spl.s p5 (of_decide_eq_true rfl) Spl.z)))) (Fl.o rfl (et (k20 d0)) rfl rfl p6 Fl.z))) (dt (q20 p1)) (wl (s_storeA ti196 (et d3) (et (k20 d1)) rfl rfl hS d1 rfl p1 dn ?_))))
   clear hS; intro w7 hS
   refine ny (nz (st ?_))
   replace h:=bI h; obtain ⟨r65,g66,h⟩:=h
   refine ca (p_is_w (hg.t (le42.t (le49.t le58))) m64 g66 hS) ?_
   rintro _ w8 ⟨μ4,a68,c69,rfl,le67,hS,m70⟩
   refine po (nw ?_)
   refine ccutE (List.range' 24 3) (by decide) (fun m w=>∃ μx l73 a71 c72 i75 i76 l79 a77 c78,m=(yK20 (yK4 (yO3 24 [])))∧p_stat_j2 r47 r56 l73 i75 i76 l79=some r∧Le μ4 μx∧Sq μx w0 w (.blk b1 85 [.slice a71 l73.length c72,.int .i64 i75,.int .i64 i76]::.blk b20 196 [.int .i64 0,S [],.int .i64 0,.int .i64 0,S [],.slice none 0 0,.slice none 0 0,.slice none 0 0]::.blk b22 196 [.int .i64 3,S [],.int .i64 r47.1.Kind,.int .i64 r47.1.N,S r47.1.Name,.slice a50 r47.1.Kids.length c51,.slice a59 r56.1.length c60,.slice a77 l79.length c78]::rsF)∧Sl μx a71 c72 l73∧Sl μx a77 c78 l79) (by rintro _ _ ⟨_,_,_,_,_,_,_,_,_,rfl,_⟩; rfl) ?_ ?_
   ·refine cifb (et (k20 d3)) (fun h81=>?_) (fun h81=>?_)
    ·replace h:=iT h81 h
     refine creg (st ?_)
     replace h:=bI h; obtain ⟨r82,g83,h⟩:=h
     refine ca (IH.p_body (hg.t (le42.t (le49.t (le58.t le67)))) m70 g83 hS) ?_
     rintro _ w9 ⟨μ5,a85,c86,a88,c89,rfl,le84,hS,m87,m90⟩
     refine po (st (wl (s_store1 ti91 (et (k20 d6)) (et (k20 d5)) rfl hS d1 p7 rfl p1 dn ?_)))
     clear hS; intro w10 hS
     refine wnil (xl ?_)
     replace hS:=((hS.bg Y1).bg Y2).bg Y2
     exact ⟨_,_,rfl,(aK20 (aK4 (aO3 aZ))),_,r82.2.1,_,_,r82.2.2.1,r82.2.2.2,r82.1,_,_,rfl,h,le84,hS,m90,m87⟩
    ·replace h:=iF h81 h
     refine cskip (xl ?_)
     replace hS:=((hS.bg Y1).bg Y2).bg Y2
     exact ⟨_,_,rfl,(aK20 (aK4 (aO3 aZ))),_,r65.2.1,_,_,r65.2.2.1,r65.2.2.2,[],none,0,rfl,h,Le.r,hS,m70,Sl.nil⟩
   ·rintro _ t w11 ⟨μ6,l73,a71,c72,i75,i76,l79,a77,c78,rfl,h,le91,hS,m92,m93⟩
    unfold p_stat_j2 at h
    refine nrm (mK20 (mK4 (mO3 mz))) (xn (nz (lds (hS.blk d2).cells rfl (wl (s_storeA ti196 (et d2) (et (k20 d7)) rfl rfl hS d1 rfl p1 dn ?_)))))
    clear hS; intro w12 hS
    refine nw (cret ?_)
    refine (fun h=>br (xr (xr h))) ?_
    obtain rfl:=Option.some.inj h
    refine retN rfl (RVs.s (.a d2 ti196 (hS.blk d1).cells rfl) RVs.z) ?_
    replace hS:=(hS.drop (Rm.s Rm.z)).drop (Rm.s Rm.z)
    exact ⟨_,_,_,_,_,_,_,_,_,rfl,(le42.t (le49.t (le58.t (le67.t le91)))),hS,(m52.up (le58.t (le67.t le91))),(m61.up (le67.t le91)),m93,m92⟩
  ·replace h:=iF h46 h
   refine nz (st ?_)
   replace h:=bI h; obtain ⟨r94,g95,h⟩:=h
   refine ca (p_is_w (hg.t le42) m45 g95 hS) ?_
   rintro _ w13 ⟨μ7,a97,c98,rfl,le96,hS,m99⟩
   refine po (st (nw ?_))
   refine cifb (et (k20 d8)) (fun h100=>?_) (fun h100=>?_)
   ·replace h:=iT h100 h
    refine nz (st ?_)
    replace h:=bI h; obtain ⟨r101,g102,h⟩:=h
    refine ca ((ParE_sound fu).p_expr (hg.t (le42.t le96)) m99 g102 hS) ?_
    rintro _ w14 ⟨μ8,a104,c105,a107,c108,rfl,le103,hS,m106,m109⟩
    refine po (st ?_)
    replace h:=bI h; obtain ⟨r110,g111,h⟩:=h
    refine ca (IH.p_body (hg.t (le42.t (le96.t le103))) m109 g111 hS) ?_
    rintro _ w15 ⟨μ9,a113,c114,a116,c117,rfl,le112,hS,m115,m118⟩
    refine po (wl (s_build ti196 pl196 (Fl.o rfl ec rfl rfl p0 (Fl.n rfl (et (k30 d2)) rfl rfl (Spl.s p2 (of_decide_eq_true rfl) (Spl.s p3 (of_decide_eq_true rfl) (Spl.s p4 (of_decide_eq_true rfl) (Spl.s p5 (of_decide_eq_true rfl) Spl.z)))) (Fl.o rfl (et (k30 d4)) rfl rfl p6 Fl.z))) (dt (q30 p5)) (wl (s_storeA ti196 (et d2) (et (k30 d5)) rfl rfl hS d2 rfl p2 dn ?_))))
    clear hS; intro w16 hS
    refine nw (cret ?_)
    refine (fun h=>br (xr (xr h))) ?_
    obtain rfl:=Option.some.inj h
    refine retN rfl (RVs.s (.a d2 ti196 (hS.blk d2).cells rfl) RVs.z) ?_
    replace hS:=(hS.drop (Rm.s Rm.z)).drop (Rm.s Rm.z)
    exact ⟨_,_,_,_,_,none,0,_,_,rfl,(le42.t (le96.t (le103.t le112))),hS,(m106.up le112),m115,Sl.nil,m118⟩
   ·replace h:=iF h100 h
    refine nz (st ?_)
    replace h:=bI h; obtain ⟨r119,g120,h⟩:=h
    refine ca (p_is_w (hg.t (le42.t le96)) m99 g120 hS) ?_
    rintro _ w17 ⟨μ10,a122,c123,rfl,le121,hS,m124⟩
    refine po (st (nw ?_))
    refine cifb (et (k30 d6)) (fun h125=>?_) (fun h125=>?_)
    ·replace h:=iT h125 h
     refine nz (st ?_)
     replace h:=bI h; obtain ⟨r126,g127,h⟩:=h
     refine ca (p_name_w (hg.t (le42.t (le96.t le121))) m124 g127 hS) ?_
     rintro _ w18 ⟨μ11,a129,c130,rfl,le128,hS,m131⟩
     refine po (wl (s_build ti196 pl196 (Fl.o rfl ec rfl rfl p0 (Fl.o rfl (et (k40 d0)) rfl rfl p1 Fl.z)) (dt (q40 p1)) (wl (s_storeA ti196 (et d3) (et (k40 d1)) rfl rfl hS d1 rfl p1 dn ?_))))
     clear hS; intro w19 hS
     refine nx (st ?_)
     refine wl (s_bsl underlying189 ti9 (Parts.s ec rfl Parts.z) rfl rfl hS ?_); clear hS; intro b132 w20 hb133 hS; refine po ?_
     obtain ⟨μ12,le135,m134,hS⟩:=Sep.frzBlk (l:=([[61]]:List (List UInt8))) hS (Rw.one (α:=List UInt8) rfl) (Nat.le_of_ble_eq_true rfl)
     replace h:=bI h; obtain ⟨r136,g137,h⟩:=h
     refine ca (p_need_w (hg.t (le42.t (le96.t (le121.t (le128.t le135))))) (m131.up le135) m134 g137 hS) ?_
     rintro _ w21 ⟨μ13,a139,c140,rfl,le138,hS,m141⟩
     refine po (nw (creg (st ?_)))
     replace h:=bI h; obtain ⟨r142,g143,h⟩:=h
     refine ca ((ParE_sound fu).p_expr (hg.t (le42.t (le96.t (le121.t (le128.t (le135.t le138)))))) m141 g143 hS) ?_
     rintro _ w22 ⟨μ14,a145,c146,a148,c149,rfl,le144,hS,m147,m150⟩
     refine po (st (wl (s_store ti194 (et (k40 d7)) (et (k40 d6)) rfl rfl rfl hS d1 (Spl.s p2 (of_decide_eq_true rfl) (Spl.s p3 (of_decide_eq_true rfl) (Spl.s p4 (of_decide_eq_true rfl) (Spl.s p5 (of_decide_eq_true rfl) Spl.z)))) rfl p1 dn ?_)))
     clear hS; intro w23 hS
     refine wnil ?_
     refine (fun h=>bn (xl h)) ?_
     replace hS:=((hS.bg Y1).bg Y2).bg Y2
     exact ⟨_,_,rfl,(aK5 (aO50 (aO20 (aO3 aZ)))),_,r142.2.1,_,_,r142.2.2.1,r142.2.2.2,1,r126.1,r142.1.Kind,r142.1.N,r142.1.Name,r142.1.Kids,_,_,rfl,h,(le42.t (le96.t (le121.t (le128.t (le135.t (le138.t le144)))))),hS,m150,m147⟩
    ·replace h:=iF h125 h
     refine nz (st ?_)
     replace h:=bI h; obtain ⟨r151,g152,h⟩:=h
     refine ca (p_is_w (hg.t (le42.t (le96.t le121))) m124 g152 hS) ?_
     rintro _ w24 ⟨μ15,a154,c155,rfl,le153,hS,m156⟩
     refine po (st (nw ?_))
     refine cifb (et (k40 d8)) (xT h) fun h157=>?_
     replace h:=iF h157 h
     refine nz (st ?_)
     replace h:=bI h; obtain ⟨r158,g159,h⟩:=h
     refine ca (p_is_w (hg.t (le42.t (le96.t (le121.t le153)))) m156 g159 hS) ?_
     rintro _ w25 ⟨μ16,a161,c162,rfl,le160,hS,m163⟩
     refine po (st (nw ?_))
     refine cifb (et (k50 d4)) (xT h) fun h164=>?_
     replace h:=iF h164 h
     refine nz (st ?_)
     replace h:=bI h; obtain ⟨r165,g166,h⟩:=h
     refine ca (p_is_w (hg.t (le42.t (le96.t (le121.t (le153.t le160))))) m163 g166 hS) ?_
     rintro _ w26 ⟨μ17,a168,c169,rfl,le167,hS,m170⟩
     refine po (st (nw ?_))
     refine cifb (et (k50 d8)) (xT h) fun h171=>?_
     replace h:=iF h171 h
     refine nz (st ?_)
     replace h:=bI h; obtain ⟨r172,g173,h⟩:=h
     refine ca (p_is_w (hg.t (le42.t (le96.t (le121.t (le153.t (le160.t le167)))))) m170 g173 hS) ?_
     rintro _ w27 ⟨μ18,a175,c176,rfl,le174,hS,m177⟩
     refine po (st (nw ?_))
     refine cifb (et (k60 d6)) (fun h178=>?_) (fun h178=>?_)
     ·replace h:=iT h178 h
      refine creg (st ?_)
      replace h:=bI h; obtain ⟨r179,g180,h⟩:=h
      refine ca ((ParE_sound fu).p_expr (hg.t (le42.t (le96.t (le121.t (le153.t (le160.t (le167.t le174))))))) m177 g180 hS) ?_
      rintro _ w28 ⟨μ19,a182,c183,a185,c186,rfl,le181,hS,m184,m187⟩
      refine po (wl (s_build ti196 pl196 (Fl.o rfl ec rfl rfl p0 (Fl.n rfl (et (k70 d0)) rfl rfl (Spl.s p2 (of_decide_eq_true rfl) (Spl.s p3 (of_decide_eq_true rfl) (Spl.s p4 (of_decide_eq_true rfl) (Spl.s p5 (of_decide_eq_true rfl) Spl.z)))) Fl.z)) (dt (q70 p1)) (wl (s_storeA ti196 (et d3) (et (k70 d1)) rfl rfl hS d1 rfl p1 dn ?_))))
      clear hS; intro w29 hS
      refine wnil ?_
      refine (fun h=>bn (xl h)) ?_
      replace hS:=((hS.bg Y1).bg Y2).bg Y2
      exact ⟨_,_,rfl,(aK5 (aO50 (aO20 (aO3 aZ)))),_,r179.2.1,_,_,r179.2.2.1,r179.2.2.2,8,[],r179.1.Kind,r179.1.N,r179.1.Name,r179.1.Kids,_,_,rfl,h,(le42.t (le96.t (le121.t (le153.t (le160.t (le167.t (le174.t le181))))))),hS,m187,m184⟩
     ·replace h:=iF h178 h
      refine nz (st ?_)
      replace h:=bI h; obtain ⟨r188,g189,h⟩:=h
      refine ca (p_is_w (hg.t (le42.t (le96.t (le121.t (le153.t (le160.t (le167.t le174))))))) m177 g189 hS) ?_
      rintro _ w30 ⟨μ20,a191,c192,rfl,le190,hS,m193⟩
      refine po (st (nw ?_))
      refine cifb (et (k70 d2)) (xT h) fun h194=>?_
      replace h:=iF h194 h
      refine nz (st ?_)
      replace h:=bI h; obtain ⟨r195,g196,h⟩:=h
      refine ca (p_name_w (hg.t (le42.t (le96.t (le121.t (le153.t (le160.t (le167.t (le174.t le190)))))))) m193 g196 hS) ?_
      rintro _ w31 ⟨μ21,a198,c199,rfl,le197,hS,m200⟩
      refine po (wl (s_build ti196 pl196 (Fl.o rfl ec rfl rfl p0 (Fl.o rfl (et d6) rfl rfl p1 Fl.z)) (dt p7) (wl (s_storeA ti196 (et d3) (et d7) rfl rfl hS d1 rfl p1 dn ?_))))
      clear hS; intro w32 hS
      refine nx (st ?_)
      refine wl (s_bsl underlying189 ti9 (Parts.s ec rfl Parts.z) rfl rfl hS ?_); clear hS; intro b201 w33 hb202 hS; refine po ?_
      obtain ⟨μ22,le204,m203,hS⟩:=Sep.frzBlk (l:=([[61]]:List (List UInt8))) hS (Rw.one (α:=List UInt8) rfl) (Nat.le_of_ble_eq_true rfl)
      replace h:=bI h; obtain ⟨r205,g206,h⟩:=h
      refine ca (p_need_w (hg.t (le42.t (le96.t (le121.t (le153.t (le160.t (le167.t (le174.t (le190.t (le197.t le204)))))))))) (m200.up le204) m203 g206 hS) ?_
      rintro _ w34 ⟨μ23,a208,c209,rfl,le207,hS,m210⟩
      refine po (nw (creg (st ?_)))
      replace h:=bI h; obtain ⟨r211,g212,h⟩:=h
      refine ca ((ParE_sound fu).p_expr (hg.t (le42.t (le96.t (le121.t (le153.t (le160.t (le167.t (le174.t (le190.t (le197.t (le204.t le207))))))))))) m210 g212 hS) ?_
      rintro _ w35 ⟨μ24,a214,c215,a217,c218,rfl,le213,hS,m216,m219⟩
      refine po (st (wl (s_store ti194 (et (k10 d3)) (et (k10 d2)) rfl rfl rfl hS d1 (Spl.s p2 (of_decide_eq_true rfl) (Spl.s p3 (of_decide_eq_true rfl) (Spl.s p4 (of_decide_eq_true rfl) (Spl.s p5 (of_decide_eq_true rfl) Spl.z)))) rfl p1 dn ?_)))
      clear hS; intro w36 hS
      refine wnil ?_
      refine (fun h=>bn (xl h)) ?_
      replace hS:=((hS.bg Y1).bg Y2).bg Y2
      exact ⟨_,_,rfl,(aK5 (aO50 (aO20 (aO3 aZ)))),_,r211.2.1,_,_,r211.2.2.1,r211.2.2.2,2,r195.1,r211.1.Kind,r211.1.N,r211.1.Name,r211.1.Kids,_,_,rfl,h,(le42.t (le96.t (le121.t (le153.t (le160.t (le167.t (le174.t (le190.t (le197.t (le204.t (le207.t le213))))))))))),hS,m219,m216⟩
 ·rintro _ t w37 ⟨μ25,l26,a24,c25,i28,i29,i30,s31,i33,i34,s35,l38,a36,c37,rfl,h,le220,hS,m221,m222⟩
  unfold p_stat_j1 at h
  refine nrm (mK5 (mO50 (mO20 (mO3 mz)))) (xn (nz (st ?_)))
  refine wl (s_bsl underlying189 ti9 (Parts.s ec rfl Parts.z) rfl rfl hS ?_); clear hS; intro b223 w38 hb224 hS; refine po ?_
  obtain ⟨μ26,le226,m225,hS⟩:=Sep.frzBlk (l:=([[59]]:List (List UInt8))) hS (Rw.one (α:=List UInt8) rfl) (Nat.le_of_ble_eq_true rfl)
  replace h:=bI h; obtain ⟨r227,g228,h⟩:=h
  refine ca (p_need_w (hg.t (le220.t le226)) (m221.up le226) m225 g228 hS) ?_
  rintro _ w39 ⟨μ27,a230,c231,rfl,le229,hS,m232⟩
  refine po (nx (lds (hS.blk d2).cells rfl (wl (s_storeA ti196 (et d2) (et (k80 d1)) rfl rfl hS d1 rfl p1 dn ?_))))
  clear hS; intro w40 hS
  refine nw (cret ?_)
  obtain rfl:=Option.some.inj h
  refine retN rfl (RVs.s (.a d2 ti196 (hS.blk d1).cells rfl) RVs.z) ?_
  replace hS:=(hS.drop (Rm.s Rm.z)).drop (Rm.s Rm.z)
  exact ⟨_,_,_,none,0,none,0,_,_,rfl,(le220.t (le226.t le229)),hS,(m222.up (le226.t le229)),Sl.nil,Sl.nil,m232⟩
theorem ParS_sound:∀ n,ParSSound (ParS_run n)
  | 0=>⟨(by intros; rename_i h _; cases h),(by intros; rename_i h _; cases h)⟩
  | n+1=>⟨p_body_w (ParS_sound n),p_stat_w (ParS_sound n)⟩
theorem p_def_w (hg:Le Gm μ0) {left_2:List TToken} {end_6 deep_7:Int} {r:TDef×List TToken×Int×Int} (m5:Sl μ0 a3 c4 left_2) (h:p_def fu left_2 end_6 deep_7=some r) (hS:Sq μ0 w0 w (.blk b1 85 [.slice a3 left_2.length c4,.int .i64 end_6,.int .i64 deep_7]::rsF)):CallsV prog 36 [.pointer (some ⟨b1,0,none⟩)] w (fun v w'=>∃ (μ':M) (a8:Option Addr) (c9:Nat) (a11:Option Addr) (c12:Nat) (a14:Option Addr) (c15:Nat),v=.agg ⟨[.int .i64 r.1.Kind,S r.1.Name,.int .i64 r.1.Typ.Kind,S r.1.Typ.Gen,.int .i64 r.1.Takes.Kind,S r.1.Takes.Gen,.int .i64 r.1.Cap,.slice a8 r.1.Params.length c9,.slice a11 r.1.Body.length c12]⟩∧Le μ0 μ'∧Sq μ' w0 w' (.blk b1 85 [.slice a14 r.2.1.length c15,.int .i64 r.2.2.1,.int .i64 r.2.2.2]::rsF)∧Sl μ' a8 c9 r.1.Params∧Sl μ' a11 c12 r.1.Body∧Sl μ' a14 c15 r.2.1):=by
 unfold p_def at h
 refine enter func36 rfl (frm:=_::u2 (u5 (u10 (u20 (u50 []))))) rfl (nz ?_)
 refine wl (s_alloc ti93 hS ?_); clear hS; intro b17 w1 hb18 hS; refine po ?_
 refine nx (st ?_)
 replace h:=bI h; obtain ⟨r19,g20,h⟩:=h
 replace hS:=hS.bg Y1
 refine ca (p_at_w hg m5 g20 hS) ?_
 rintro _ w2 ⟨μ1,rfl,le21,hS⟩
 refine po (st (ny (cblock (nz (st ?_)))))
 replace h:=bI h; obtain ⟨r22,g23,h⟩:=h
 refine ca (p_is_w (hg.t le21) (m5.up le21) g23 hS) ?_
 rintro _ w3 ⟨μ2,a25,c26,rfl,le24,hS,m27⟩
 refine po (st (nw ?_))
 refine cifb (et (k10 d0)) (fun h28=>?_) (fun h28=>?_)
 ·replace h:=iT h28 h
  refine nz (st ?_)
  replace h:=bI h; obtain ⟨r29,g30,h⟩:=h
  refine ca (p_name_w (hg.t (le21.t le24)) m27 g30 hS) ?_
  rintro _ w4 ⟨μ3,a32,c33,rfl,le31,hS,m34⟩
  refine po (st ?_)
  replace h:=bI h; obtain ⟨r35,g36,h⟩:=h
  refine ca (p_typ_w (hg.t (le21.t (le24.t le31))) m34 g36 hS) ?_
  rintro _ w5 ⟨μ4,a38,c39,rfl,le37,hS,m40⟩
  refine po (wl (s_build ti93 pl93 (Fl.o rfl ec rfl rfl p0 (Fl.o rfl (et (k10 d4)) rfl rfl p1 (Fl.n rfl (et (k10 d6)) rfl rfl (Spl.s p2 (of_decide_eq_true rfl) (Spl.s p3 (of_decide_eq_true rfl) Spl.z)) Fl.z))) (dt (q10 p7)) ?_))
  refine wl (s_alloc ti93 hS ?_); clear hS; intro b41 w6 hb42 hS; refine po ?_
  refine wl (s_storeA ti93 (et d4) (et (k10 d7)) rfl rfl hS d0 rfl p0 dn ?_)
  clear hS; intro w7 hS
  refine nx (st ?_)
  replace h:=bI h; obtain ⟨r43,g44,h⟩:=h
  replace hS:=hS.bg Y1
  refine ca (p_at_w (hg.t (le21.t (le24.t (le31.t le37)))) m40 g44 hS) ?_
  rintro _ w8 ⟨μ5,rfl,le45,hS⟩
  refine po (st (nx (st ?_)))
  replace h:=bI h; obtain ⟨r46,g47,h⟩:=h
  refine ca (p_number_w (hg.t (le21.t (le24.t (le31.t (le37.t le45))))) (m40.up le45) g47 hS) ?_
  rintro _ w9 ⟨μ6,a49,c50,rfl,le48,hS,m51⟩
  refine po (st (ny (nz ?_)))
  iterate 3 refine st ?_
  refine wspd (k20 d4) (q20 p4) (q20 p4) (xT h) fun h52=>?_
  replace h:=iF h52 h
  refine sy rfl (sy rfl (st (nw ?_)))
  refine cifd (et (k20 d7)) (xT h) fun h53=>?_
  replace h:=iF h53 h
  refine cskip (xn (nz ?_))
  iterate 2 refine st ?_
  refine wl (s_store1 ti3 (et (k30 d2)) (et (k30 d1)) rfl hS d1 p6 rfl p1 dn ?_)
  clear hS; intro w10 hS
  refine nx (st ?_)
  refine wl (s_bsl underlying189 ti9 (Parts.s ec rfl Parts.z) rfl rfl hS ?_); clear hS; intro b54 w11 hb55 hS; refine po ?_
  obtain ⟨μ7,le57,m56,hS⟩:=Sep.frzBlk (l:=([[59]]:List (List UInt8))) hS (Rw.one (α:=List UInt8) rfl) (Nat.le_of_ble_eq_true rfl)
  replace h:=bI h; obtain ⟨r58,g59,h⟩:=h
  refine ca (p_need_w (hg.t (le21.t (le24.t (le31.t (le37.t (le45.t (le48.t le57))))))) (m51.up le57) m56 g59 hS) ?_
  rintro _ w12 ⟨μ8,a61,c62,rfl,le60,hS,m63⟩
  refine po (nx (lds (hS.blk d1).cells rfl (wl (s_storeA ti93 (et d2) (et (k30 d6)) rfl rfl hS d2 rfl p2 dn ?_))))
  clear hS; intro w13 hS
  refine nw (cret ?_)
  refine (fun h=>br (xr h)) ?_
  obtain rfl:=Option.some.inj h
  refine retN rfl (RVs.s (.a d2 ti93 (hS.blk d2).cells rfl) RVs.z) ?_
  replace hS:=(hS.drop (Rm.s Rm.z)).drop (Rm.s Rm.z)
  exact ⟨_,none,0,none,0,_,_,rfl,(le21.t (le24.t (le31.t (le37.t (le45.t (le48.t (le57.t le60))))))),hS,Sl.nil,Sl.nil,m63⟩
 ·replace h:=iF h28 h
  refine nz (st ?_)
  replace h:=bI h; obtain ⟨r64,g65,h⟩:=h
  refine ca (p_is_w (hg.t (le21.t le24)) m27 g65 hS) ?_
  rintro _ w14 ⟨μ9,a67,c68,rfl,le66,hS,m69⟩
  refine po (st (nw ?_))
  refine cifb (et (k30 d7)) (xT h) fun h70=>?_
  replace h:=iF h70 h
  refine nz (st ?_)
  replace h:=bI h; obtain ⟨r71,g72,h⟩:=h
  refine ca (p_is_w (hg.t (le21.t (le24.t le66))) m69 g72 hS) ?_
  rintro _ w15 ⟨μ10,a74,c75,rfl,le73,hS,m76⟩
  refine po (st (nw ?_))
  refine cifb (et (k50 d2)) (xT h) fun h77=>?_
  replace h:=iF h77 h
  refine nz (st ?_)
  replace h:=bI h; obtain ⟨r78,g79,h⟩:=h
  refine ca (p_is_w (hg.t (le21.t (le24.t (le66.t le73)))) m76 g79 hS) ?_
  rintro _ w16 ⟨μ11,a81,c82,rfl,le80,hS,m83⟩
  refine po (st (nw ?_))
  refine cifb (et (k70 d6)) (fun h84=>?_) (xF h)
  replace h:=iT h84 h
  refine nz (st ?_)
  replace h:=bI h; obtain ⟨r85,g86,h⟩:=h
  refine ca (p_name_w (hg.t (le21.t (le24.t (le66.t (le73.t le80))))) m83 g86 hS) ?_
  rintro _ w17 ⟨μ12,a88,c89,rfl,le87,hS,m90⟩
  refine po (st ?_)
  replace h:=bI h; obtain ⟨r91,g92,h⟩:=h
  refine ca ((ParS_sound fu).p_body (hg.t (le21.t (le24.t (le66.t (le73.t (le80.t le87)))))) m90 g92 hS) ?_
  rintro _ w18 ⟨μ13,a94,c95,a97,c98,rfl,le93,hS,m96,m99⟩
  refine po (wl (s_build ti93 pl93 (Fl.o rfl ec rfl rfl p0 (Fl.o rfl (et (k80 d0)) rfl rfl p1 (Fl.o rfl (et (k80 d2)) rfl rfl p8 Fl.z))) (dt (q80 p3)) (wl (s_storeA ti93 (et d2) (et (k80 d3)) rfl rfl hS d1 rfl p1 dn ?_))))
  clear hS; intro w19 hS
  refine nw (cret ?_)
  refine (fun h=>br (xr h)) ?_
  obtain rfl:=Option.some.inj h
  refine retN rfl (RVs.s (.a d2 ti93 (hS.blk d1).cells rfl) RVs.z) ?_
  replace hS:=hS.drop (Rm.s Rm.z)
  exact ⟨_,none,0,_,_,_,_,rfl,(le21.t (le24.t (le66.t (le73.t (le80.t (le87.t le93)))))),hS,Sl.nil,m96,m99⟩
end Go.Proofs.YtegmgfljdeabeaaGreatDoor
set_option maxRecDepth 100000
namespace Go.Proofs.YtegmgfljdeabeaaGreatDoor
open Go.Wk Go.Xt Go.Y Go.RowKit
theorem p_done_ret (v0 v1:Value) (w:World) :
    CallsD Tryz.prog 33 #[v0,v1] .returning w fun e u' w'=>e=.returned (.tuple #[])∧u'=.returning∧w'=w:=by
  refine callsD_of_wpS Tryz.func33 rfl fun c₀ cs hu=>?_
  apply wpS_seq
  apply wpS_region
  simp [wpOpsS,go_sem,recoverD,hu,Tryz.ntmps33,Exit.thenS]
  refine wpS_of_wp (CW.out (fr:=[v0,v1,undef,undef,undef,.nilIface,undef,undef,undef,undef,undef,undef,undef]) (ds:=[]) ?_)
  refine cblock ?_
  refine cseq ?_
  refine creg ?_
  refine wl (s_eqni Tryz.underlying20 (et d5) (.inl ⟨rfl,rfl⟩) (dt p7) ?_)
  refine wnil ?_
  refine xn ?_
  refine cift (et d7) ?_
  refine creg ?_
  refine wl (s_assign (et d5) (dt p2) ?_)
  refine wnil ?_
  refine bn ?_
  cases c₀
  simp_all [F,bodyPostS,results,Tryz.results33]
theorem p_done_w {μ0:M} {w0 w:World} {rsF:List Res} {v0 v1:Value} {r:Unit} (hg:Le Gm μ0) (h:p_done=some r) (hS:Sq μ0 w0 w rsF):CallsDR Tryz.prog 33 [v0,v1] w (fun v w'=>∃ μ':M,v=.tuple ⟨[]⟩∧Le μ0 μ'∧Sq μ' w0 w' rsF) :=
  ⟨(p_done_ret v0 v1 w).mono fun e u' w' he=>by
    obtain ⟨rfl,rfl,rfl⟩:=he
    exact ⟨rfl,_,rfl,Le.r,hS⟩⟩
end Go.Proofs.YtegmgfljdeabeaaGreatDoor
set_option maxRecDepth 100000
set_option maxHeartbeats 20000000
namespace Go.Proofs.YtegmgfljdeabeaaGreatDoor
open Go.Wk Go.Xt Go.Y Tryz
variable {fu:Nat} {μ0:M} {w0 w:World} {rsF:List Res}
theorem syn_read_w (hg:Le Gm μ0) {p_1:List UInt8} {r:List TDef×TFault}  (h:syn_read fu p_1=some r) (hS:Sq μ0 w0 w (rsF)):CallsV prog 22 [S p_1] w (fun v w'=>∃ (μ':M) (a1:Option Addr) (c2:Nat),v=.tuple ⟨[.slice a1 r.1.length c2,.agg ⟨[.int .i64 r.2.Err,.int .i64 r.2.At]⟩]⟩∧Le μ0 μ'∧Sq μ' w0 w' (rsF)∧Sl μ' a1 c2 r.1):=by
 unfold syn_read at h
 refine enterF func22 rfl (frm:=_::u2 (u2 (u5 (u20 (u20 []))))) rfl (nz ?_)
 refine wl (s_alloc ti45 hS ?_); clear hS; intro b4 w1 hb5 hS; refine po ?_
 refine wl (s_alloc ti47 hS ?_); clear hS; intro b6 w2 hb7 hS; refine po ?_
 refine nx (st ?_)
 replace h:=bI h; obtain ⟨r8,g9,h⟩:=h
 refine ca (lex_tokens_w hg g9 hS) ?_
 rintro _ w3 ⟨μ1,a10,c11,rfl,le12,hS,m13⟩; refine po ?_
 iterate 4 refine st ?_
 refine wl (s_storeA ti47 (et d3) (et (k10 d1)) rfl rfl hS d0 rfl p0 dn ?_)
 clear hS; intro w4 hS
 refine ny (nz (st (ld ((hS.blk d0).cell d0) (st (nw ?_)))))
 refine cifd (et (k10 d4)) (xT h) fun h14=>?_
 replace h:=iF h14 h
 refine cskip (xn (nz (wl (s_mkfn e0 (e1 (et d2) (e1 (et d3) e0)) (dt (q10 p6)) (wl (s_defer (et (k10 d6)) e0 dn (nx ?_)))))))
 iterate 2 refine st ?_
 refine wl (s_lens underlying9 (et (k10 d8)) (dt (q10 p9)) (wl (s_build ti85 pl85 (Fl.o rfl (et (k10 d7)) rfl rfl p0 (Fl.o rfl (et (k10 d9)) rfl rfl p1 Fl.z)) (dt (q20 p0)) ?_)))
 refine wl (s_box (et (k20 d0)) rfl hS ?_); clear hS; intro b15 w5 hb16 hS; refine po ?_
 refine st (ny (cblock ?_))
 replace hS:=hS.nilRow 93 (Mo.sz TDef)
 replace hS:=((hS.bg Y1).bg Y2).bg Y3
 refine cloopE (List.range' 22 18) (by decide) (fun n m w=>∃ μx l39 a37 c38 i41 i42 l45 v43 cs44,m=(yK20 (yK2 (yO10 22 (yO8 32 []))))∧syn_read_l1 fu r8 n l39 i41 i42 l45=some r∧Le μ1 μx∧Sq μx w0 w (.blk b4 45 [v43]::.blk b6 47 [.int .i64 r8.2.Err,.int .i64 r8.2.At]::.blk b15 85 [.slice a37 l39.length c38,.int .i64 i41,.int .i64 i42]::.row v43 93 9 l45.length cs44::rsF)∧Sl μx a37 c38 l39∧Rw μx cs44 l45) (by rintro _ _ _ ⟨_,_,_,_,_,_,_,_,_,rfl,_⟩; rfl) _ _ (aK20 (aK2 (aO10 (aO8 aZ)))) ⟨_,r8.1,a10,c11,(p_1.length:Int),0,[],(.slice none 0 0),[],rfl,h,Le.r,hS,m13,Rw.nil⟩ ?_
 rintro n_1 _ t w6 ⟨μ2,l39,a37,c38,i41,i42,l45,v43,cs44,rfl,h,le66,hS,m67,m68⟩
 cases n_1 with
 | zero=>cases h
 | succ n_1 =>
 unfold syn_read_l1 at h
 refine cnrm (mK20 (mK2 (mO10 (mO8 mz)))) (cseq (nz ?_))
 iterate 3 refine st ?_
 refine ld ((hS.blk d2).cell d0) (wl (s_lensl underlying78 (et (k20 d5)) (dt (q20 p6)) (st (nw ?_))))
 refine cifd (et (k20 d7)) (fun h69=>?_) (fun h69=>?_)
 ·replace h:=iT h69 h
  refine cskip (xn (cblock (cseq (nz (ld ((hS.blk d0).cell d0) (wl (s_lenv underlying45 (et (k20 d8)) (hS.get d3).isSl (dt (q20 p9)) (st (nw ?_)))))))))
  refine cifd (et (k30 d0)) (xT h) fun h70=>?_
  replace h:=iF h70 h
  refine cskip (xn ?_)
  refine ccutE (List.range' 35 5) (by decide) (fun m w=>∃ μx l73 a71 c72 i75 i76 l79 v77 cs78,m=(yK20 (yK10 (yK5 (yO5 35 []))))∧syn_read_j1 (syn_read_l1 fu r8 n_1) l73 i75 i76 l79=some r∧Le μ2 μx∧Sq μx w0 w (.blk b4 45 [v77]::.blk b6 47 [.int .i64 r8.2.Err,.int .i64 r8.2.At]::.blk b15 85 [.slice a71 l73.length c72,.int .i64 i75,.int .i64 i76]::.row v77 93 9 l79.length cs78::rsF)∧Sl μx a71 c72 l73∧Rw μx cs78 l79) (by rintro _ _ ⟨_,_,_,_,_,_,_,_,_,rfl,_⟩; rfl) ?_ ?_
  ·refine cdraw (by kernel_rfl) rfl fun w7 hh_ ho_ ht_ hu_=>?_
   replace hS:=hS.drew hh_ ho_ ht_ hu_
   refine sf_start (fr_ 0 [0,4,5] rfl (u_load ti45 (et d2) ((hS.blk d0).cell d0)) (q30 p5) (fpi 1 [1,2,3,4,5] rfl ?_))
   replace h:=bI h; obtain ⟨r81,g82,h⟩:=h
   replace hS:=hS.bg Y2
   refine sf1 rfl rfl rfl rfl (wanted_0 rfl) (s_callv isfn36 ef (e1 (et (k30 d6)) e0) (p_def_w (hg.t (le12.t le66)) m67 g82 hS) ?_)
   rintro _ w8 ⟨μ3,a84,c85,a87,c88,a90,c91,rfl,le83,hS,m86,m89,m92⟩
   refine po ?_
   refine ⟨(Mons.s (u_load ti45 (et d2) ((hS.blk d1).cell d0)) Mons.z),?_⟩
   refine sf1 rfl rfl rfl rfl (wanted_0 rfl) (s_bsl1 underlying45 ti93 rfl (et (k30 d7)) rfl hS ?_); clear hS; intro b93 w9 hb94 hS; refine po ?_
   refine ⟨(Mons.s (u_load ti45 (et d2) ((hS.blk d2).cell d0)) Mons.z),?_⟩
   replace h:=bI h; obtain ⟨l97,g98,h⟩:=h
   have m99:Rw μ3 [.int .i64 r81.1.Kind,S r81.1.Name,.int .i64 r81.1.Typ.Kind,S r81.1.Typ.Gen,.int .i64 r81.1.Takes.Kind,S r81.1.Takes.Gen,.int .i64 r81.1.Cap,.slice a84 r81.1.Params.length c85,.slice a87 r81.1.Body.length c88] [r81.1]:=(Rw.one (α:=TDef) (TDef.i ⟨a84,c85,a87,c88,rfl,m86,m89⟩))
   have m96:=Rw.app (m68.up le83) m99 g98
   refine sf1 rfl rfl rfl rfl (wanted_0 rfl) (s_app1 underlying45 ti93 rfl (et (k30 d5)) (et (k30 d8)) hS d4 (hS.blk d0).cells m99 rfl g98 (by decide) ?_); clear hS; intro v95 w10 rs_ hp_ hS; cases (show _=rs_ from hp_)
   replace hS:=Sep.reput hS p4; refine po ?_
   replace hS:=hS.drop Rm.z
   refine ⟨Mons.z,?_⟩
   refine sf1 rfl rfl rfl rfl (wanted_0 rfl) (s_store1 ti45 (et d2) (et (k30 d9)) (hS.get d3).cellV hS d1 p0 rfl p1 dn ?_)
   clear hS; intro w11 hS
   refine ⟨Mons.z,?_⟩
   refine sf_nil (xl ?_)
   replace hS:=(((hS.bg Y3).bg Y1).bg Y3).bg Y3
   exact ⟨_,_,rfl,(aK20 (aK10 (aK5 (aO5 aZ)))),_,r81.2.1,_,_,r81.2.2.1,r81.2.2.2,_,_,(cs44++[.int .i64 r81.1.Kind,S r81.1.Name,.int .i64 r81.1.Typ.Kind,S r81.1.Typ.Gen,.int .i64 r81.1.Takes.Kind,S r81.1.Takes.Gen,.int .i64 r81.1.Cap,.slice a84 r81.1.Params.length c85,.slice a87 r81.1.Body.length c88]),rfl,h,le83,hS,m92,m96⟩
  ·rintro _ t w12 ⟨μ4,l73,a71,c72,i75,i76,l79,v77,cs78,rfl,h,le100,hS,m101,m102⟩
   unfold syn_read_j1 at h
   refine nrm (mK20 (mK10 (mK5 (mO5 mz)))) ?_
   refine (fun h=>bn (xl h)) ?_
   exact ⟨n_1,_,_,rfl,(aK20 (aK2 (aO10 (aO8 aZ)))),⟨_,l73,a71,c72,i75,i76,l79,v77,cs78,rfl,h,(le66.t le100),hS,m101,m102⟩,Nat.lt_succ_self _⟩
 ·replace h:=iF h69 h
  refine cexit ?_
  refine (fun h=>xe (xe (bh h))) ?_
  refine xn (cseq (nz (ld ((hS.blk d0).cell d0) ?_)))
  replace hS:=hS.bg Y3
  obtain ⟨μ5,a103,c104,e107,le106,m105,hq_⟩:=Sep.frzRow hS m68 rfl; clear hS
  subst e107; have hS:=hq_; clear hq_
  replace h:=bI h; obtain ⟨r108,g109,h⟩:=h
  refine ca (syn_wrong_w (hg.t (le12.t (le66.t le106))) m105 g109 hS) ?_
  rintro _ w13 ⟨μ6,rfl,le110,hS⟩
  refine po ?_
  refine wl (s_alloc ti47 hS ?_); clear hS; intro b111 w14 hb112 hS; refine po ?_
  refine wl (s_storeA ti47 (et d6) (et (k40 d1)) rfl rfl hS d0 rfl p0 dn ?_)
  clear hS; intro w15 hS
  refine nx (st (ld ((hS.blk d0).cell d0) (st (nw ?_))))
  refine cifd (et (k40 d4)) (xT h) fun h113=>?_
  replace h:=iF h113 h
  refine cskip (xn (cseq ?_))
  refine ccutE (List.range' 48 2) (by decide) (fun m w=>∃ (μx:M) ,m=(yK20 (yK20 (yK8 (yO2 48 []))))∧syn_read_j2 r8 l45 =some r∧Le μ6 μx∧Sq μx w0 w (.blk b4 45 [.slice a103 l45.length c104]::.blk b6 47 [.int .i64 r8.2.Err,.int .i64 r8.2.At]::rsF)) (by rintro _ _ ⟨_,rfl,_⟩; rfl) ?_ ?_
  ·refine cdraw (by kernel_rfl) rfl fun w16 hh_ ho_ ht_ hu_=>?_
   replace hS:=hS.drew hh_ ho_ ht_ hu_
   refine sf_start (fr_ 0 [0,2,3] rfl (u_load ti45 (et d2) ((hS.blk d1).cell d0)) (q40 p8) (fr_ 1 [1,3] rfl (u_loads ti47 (et d3) (hS.blk d2).cells rfl) (q40 p9) (sf1 rfl rfl rfl rfl (wanted_0 rfl) (s_store1 ti45 (et d2) (et (k40 d8)) rfl hS d1 p0 rfl p1 dn ?_))))
   clear hS; intro w17 hS
   refine ⟨(Mons.s (u_loads ti47 (et d3) (hS.blk d2).cells rfl) Mons.z),?_⟩
   refine sf1 rfl rfl rfl rfl (wanted_0 rfl) (s_storeA ti47 (et d3) (et (k40 d9)) rfl rfl hS d2 rfl p2 dn ?_)
   clear hS; intro w18 hS
   refine ⟨Mons.z,?_⟩
   refine sf_nil (xl ?_)
   replace hS:=(hS.drop Rm.z).drop (Rm.s (Rm.s Rm.z))
   exact ⟨_,_,rfl,(aK20 (aK20 (aK8 (aO2 aZ)))),_,rfl,h,Le.r,hS⟩
  ·rintro _ t w19 ⟨μ7,rfl,h,le114,hS⟩
   unfold syn_read_j2 at h
   refine nrm (mK20 (mK20 (mK8 (mO2 mz)))) (xn (cret ?_))
   replace h:=bI h; obtain ⟨r115,g116,h⟩:=h
   refine retDr isfn33 (p_done_w (hg.t (le12.t (le66.t (le106.t (le110.t le114))))) g116 hS) ?_
   rintro _ w20 ⟨μ8,rfl,le117,hS⟩
   obtain rfl:=Option.some.inj h
   refine retDN rfl (RVs.s (.c d2 ti45 ((hS.blk d0).cell d0)) (RVs.s (.a d3 ti47 (hS.blk d1).cells rfl) RVs.z)) ?_
   replace hS:=(hS.drop Rm.z).drop Rm.z
   exact ⟨_,_,_,rfl,(le12.t (le66.t (le106.t (le110.t (le114.t le117))))),hS,(m105.up (le110.t (le114.t le117)))⟩
end Go.Proofs.YtegmgfljdeabeaaGreatDoor
set_option maxRecDepth 100000
set_option maxHeartbeats 20000000
namespace Go.Proofs.YtegmgfljdeabeaaGreatDoor
open Go.Wk Go.Xt Go.Y Tryz
variable {b1 b3 b6 b8 b12 c4 c6 c15 c18 fu o2 o4 o13:Nat} {a3 a5 a14 a17:Option Addr} {v22:Value} {ms23:List (Nat×List MapEntry×Nat)} {μ0:M} {w0 w:World} {rsF:List Res}
theorem sema_plain_w (hg:Le Gm μ0) {p_1:TType} {r:Bool}  (h:sema_plain p_1=some r) (hS:Sq μ0 w0 w (rsF)):CallsV prog 159 [.agg ⟨[.int .i64 p_1.Kind,S p_1.Gen]⟩] w (fun v w'=>∃ (μ':M) ,v=.bool r∧Le μ0 μ'∧Sq μ' w0 w' (rsF)):=by
 unfold sema_plain at h
 refine enter func159 rfl (frm:=_::u5 []) rfl (nz ?_)
 refine wl (s_box (et d0) rfl hS ?_); clear hS; intro b1 w1 hb2 hS; refine po ?_
 refine st (nx (st (ld ((hS.blk d0).cell d0) ?_)))
 iterate 2 refine st ?_
 refine nw (cret ?_)
 obtain rfl:=Option.some.inj h
 refine ret1 rfl d2 ?_
 replace hS:=hS.drop Rm.z
 exact ⟨_,rfl,Le.r,hS⟩
theorem sema_find_w (hg:Le Gm μ0) {p_1:TSemaProgram} {p_2:Int} {p_3:List UInt8} {r:Option TDef×Bool} (m5:Sl μ0 a3 c4 p_1.defs) (m7:Mr μ0 b6 p_1.named) (m8:At μ0 b1 o2 [.slice a3 p_1.defs.length c4,.map (some b6)]) (h:sema_find p_1 p_2 p_3=some r) (hS:Sq μ0 w0 w (rsF)):CallsV prog 168 [.pointer (some ⟨b1,o2,none⟩),.int .i64 p_2,S p_3] w (fun v w'=>∃ (μ':M) (v9:Value),v=.tuple ⟨[v9,.bool r.2]⟩∧Le μ0 μ'∧Sq μ' w0 w' (rsF)∧Np μ' v9 r.1):=by
 unfold sema_find at h
 refine enter func168 rfl (frm:=_::_::_::u1 (u5 (u20 []))) rfl (nz ?_)
 iterate 2 refine st ?_
 refine nx ?_
 iterate 3 refine st ?_
 refine ld ((m8 _ hS.a).one d1) (st ?_)
 obtain ⟨es11,c12,hb13,hq14⟩:=m7
 refine wl (s_mgetP2 (κ:=List UInt8) (k:=p_3) (hrv:=fun _ _ h=>h) underlying98 underlying9 (et (k10 d4)) (et (k10 d5)) zv101 (hb13 _ hS.a) hq14 ?_); intro v15 hv16; refine po ?_
 iterate 5 refine st ?_
 refine ny ?_
 refine cdraw (by kernel_rfl) rfl fun w1 hh_ ho_ ht_ hu_=>?_
 replace hS:=hS.drew hh_ ho_ ht_ hu_
 refine cpi 0 rfl (cpi 1 rfl (cpi 2 rfl (cpi 10 rfl ?_)))
 refine scs (k20 d1) (q20 p1) (q20 p1) (fun h17=>?_) (xF h)
 replace h:=iT h17 h
 refine cpY 3 rfl rfl (k20 d1) (u_move (et d8)) (q20 p2) ?_
 replace h:=bI h; obtain ⟨x18,g19,h⟩:=h
 obtain ⟨b20,o21,cs22,rfl,f23,m24⟩:=Np.get hv16 g19
 obtain ⟨a25,c26,a28,c29,rfl,m27,m30⟩:=m24
 refine cpY 4 rfl rfl (k20 d1) (u_nilck (et (k20 d2))) (q20 p3) (cpY 5 rfl rfl (k20 d1) (u_fa fa93_0 (et (k20 d3)) rfl) (q20 p4) (crY 6 [6,8,9,11] rfl rfl (k20 d1) (u_load ti3 (et (k20 d4)) ((f23 _ hS.a).one d0)) (q20 p5) (cpY 7 rfl rfl (k20 d1) (u_move (et d1)) (q20 p6) (cpY 8 rfl rfl (k20 d1) (u_eqi (et (k20 d5)) (et (k20 d6))) (q20 p7) (cpi 9 rfl (cpi 11 rfl (nu (cret ?_))))))))
 obtain rfl:=Option.some.inj h
 refine ret2 rfl d6 d7 ?_
 exact ⟨_,(.pointer (some ⟨b20,o21,none⟩)),rfl,Le.r,hS,hv16⟩
theorem sema_bare_w (hg:Le Gm μ0) {p_1 r:TType}  (h:sema_bare p_1=some r) (hS:Sq μ0 w0 w (rsF)):CallsV prog 160 [.agg ⟨[.int .i64 p_1.Kind,S p_1.Gen]⟩] w (fun v w'=>∃ (μ':M) ,v=.agg ⟨[.int .i64 r.Kind,S r.Gen]⟩∧Le μ0 μ'∧Sq μ' w0 w' (rsF)):=by
 unfold sema_bare at h
 refine enter func160 rfl (frm:=_::u1 (u5 [])) rfl (nz ?_)
 refine wl (s_box (et d0) rfl hS ?_); clear hS; intro b1 w1 hb2 hS; refine po ?_
 refine wl (s_alloc ti89 hS ?_); clear hS; intro b3 w2 hb4 hS; refine po ?_
 refine ny (nz (lds (hS.blk d1).cells rfl ?_))
 replace h:=bI h; obtain ⟨r5,g6,h⟩:=h
 refine ca (sema_plain_w hg g6 hS) ?_
 rintro _ w3 ⟨μ1,rfl,le7,hS⟩
 refine po (nw ?_)
 refine cifb (et d4) (fun h8=>?_) (xF h)
 replace h:=iT h8 h
 refine creg (st (wl (s_store1 ti9 (et d5) ec rfl hS d1 p1 rfl p1 dn ?_)))
 clear hS; intro w4 hS
 refine nx (lds (hS.blk d1).cells rfl (wl (s_storeA ti89 (et d2) (et d6) rfl rfl hS d0 rfl p0 dn ?_)))
 clear hS; intro w5 hS
 refine nw (cret ?_)
 obtain rfl:=Option.some.inj h
 refine retN rfl (RVs.s (.a d2 ti89 (hS.blk d0).cells rfl) RVs.z) ?_
 replace hS:=(hS.drop Rm.z).drop Rm.z
 exact ⟨_,rfl,le7,hS⟩
theorem sema_num_w (hg:Le Gm μ0)  {r:TType}  (h:sema_num =some r) (hS:Sq μ0 w0 w (rsF)):CallsV prog 189 [] w (fun v w'=>∃ (μ':M) ,v=.agg ⟨[.int .i64 r.Kind,S r.Gen]⟩∧Le μ0 μ'∧Sq μ' w0 w' (rsF)):=by
 unfold sema_num at h
 refine enter func189 rfl (frm:=u2 []) rfl (nz ?_)
 refine wl (s_alloc ti89 hS ?_); clear hS; intro b1 w1 hb2 hS; refine po ?_
 refine nx (wl (s_build ti89 pl89 (Fl.o rfl ec rfl rfl p0 Fl.z) (dt p1) (wl (s_storeA ti89 (et d0) (et d1) rfl rfl hS d0 rfl p0 dn ?_))))
 clear hS; intro w2 hS
 refine nw (cret ?_)
 obtain rfl:=Option.some.inj h
 refine retN rfl (RVs.s (.a d0 ti89 (hS.blk d0).cells rfl) RVs.z) ?_
 replace hS:=hS.drop Rm.z
 exact ⟨_,rfl,Le.r,hS⟩
theorem sema_boolean_w (hg:Le Gm μ0)  {r:TType}  (h:sema_boolean =some r) (hS:Sq μ0 w0 w (rsF)):CallsV prog 180 [] w (fun v w'=>∃ (μ':M) ,v=.agg ⟨[.int .i64 r.Kind,S r.Gen]⟩∧Le μ0 μ'∧Sq μ' w0 w' (rsF)):=by
 unfold sema_boolean at h
 refine enter func180 rfl (frm:=u2 []) rfl (nz ?_)
 refine wl (s_alloc ti89 hS ?_); clear hS; intro b1 w1 hb2 hS; refine po ?_
 refine nx (wl (s_build ti89 pl89 (Fl.o rfl ec rfl rfl p0 Fl.z) (dt p1) (wl (s_storeA ti89 (et d0) (et d1) rfl rfl hS d0 rfl p0 dn ?_))))
 clear hS; intro w2 hS
 refine nw (cret ?_)
 obtain rfl:=Option.some.inj h
 refine retN rfl (RVs.s (.a d0 ti89 (hS.blk d0).cells rfl) RVs.z) ?_
 replace hS:=hS.drop Rm.z
 exact ⟨_,rfl,Le.r,hS⟩
theorem sema_look_w (hg:Le Gm μ0) {prog_2:TSemaProgram} {def_11:TDef} {bloc_21:List (List (List UInt8×TType))} {p_2:List UInt8} {r:TType×Bool} (m7:Sl μ0 a5 c6 prog_2.defs) (m9:Mr μ0 b8 prog_2.named) (m10:At μ0 b3 o4 [.slice a5 prog_2.defs.length c6,.map (some b8)]) (m16:Sl μ0 a14 c15 def_11.Params) (m19:Sl μ0 a17 c18 def_11.Body) (m20:At μ0 b12 o13 [.int .i64 def_11.Kind,S def_11.Name,.int .i64 def_11.Typ.Kind,S def_11.Typ.Gen,.int .i64 def_11.Takes.Kind,S def_11.Takes.Gen,.int .i64 def_11.Cap,.slice a14 def_11.Params.length c15,.slice a17 def_11.Body.length c18]) (m24:Ms μ0 ms23 bloc_21) (h:sema_look fu prog_2 def_11 bloc_21 p_2=some r) (hS:Sq μ0 w0 w (.blk b1 262 [.pointer (some ⟨b3,o4,none⟩),.pointer (some ⟨b12,o13,none⟩),v22]::.row v22 259 1 bloc_21.length (cellsOf ms23)::(mapsRes ms23++rsF))):CallsV prog 178 [.pointer (some ⟨b1,0,none⟩),S p_2] w (fun v w'=>∃ (μ':M) ,v=.tuple ⟨[.agg ⟨[.int .i64 r.1.Kind,S r.1.Gen]⟩,.bool r.2]⟩∧Le μ0 μ'∧Sq μ' w0 w' (.blk b1 262 [.pointer (some ⟨b3,o4,none⟩),.pointer (some ⟨b12,o13,none⟩),v22]::.row v22 259 1 bloc_21.length (cellsOf ms23)::(mapsRes ms23++rsF))):=by
 unfold sema_look at h
 refine enter func178 rfl (frm:=_::_::u2 (u10 (u20 []))) rfl (nz ?_)
 refine wl (s_alloc ti89 hS ?_); clear hS; intro b25 w1 hb26 hS; refine po ?_
 refine st (ny (nz ?_))
 iterate 3 refine st ?_
 refine ld ((hS.blk d1).cell d2) (wl (s_lenv underlying260 (et (k10 d2)) (hS.get d2).isSl (dt (q10 p3)) ?_))
 replace h:=bI h; obtain ⟨i27,g28,h⟩:=h
 refine wl (s_subc (et (k10 d3)) ec g28 (dt (q10 p4)) (st (nw (cblock ?_))))
 replace hS:=(hS.bg Y2).bg Y2
 refine cloopE ([5]++List.range' 7 2++List.range' 15 18) (by decide +kernel) (fun n m w=>∃ μx i48,m=(yK5 (yO1 5 (.i (.int .i64 i48)::(yO2 7 (yK6 (yO10 15 (yO8 25 [])))))))∧sema_look_l1 p_2 bloc_21 n i48=some r∧Le μ0 μx∧Sq μx w0 w (.blk b1 262 [.pointer (some ⟨b3,o4,none⟩),.pointer (some ⟨b12,o13,none⟩),v22]::.row v22 259 1 bloc_21.length (cellsOf ms23)::.blk b25 89 [.int .i64 0,S []]::(mapsRes ms23++rsF))) (by rintro _ _ _ ⟨_,_,rfl,_⟩; rfl) _ _ (aK5 (aO1 (aI (aO2 (aK6 (aO10 (aO8 aZ))))))) ⟨_,i27,rfl,h,Le.r,hS⟩ ?_
 rintro n_1 _ t w2 ⟨μ1,i48,rfl,h,le68,hS⟩
 cases n_1 with
 | zero=>cases h
 | succ n_1 =>
 unfold sema_look_l1 at h
 refine cnrm (mK5 (mO1 (mi (mO2 (mK6 (mO10 (mO8 mz))))))) (cseq (nz ?_))
 iterate 2 refine st ?_
 refine nw ?_
 refine cifd (et (k10 d6)) (fun h69=>?_) (fun h69=>?_)
 ·replace h:=iT h69 h
  refine cskip (xn (cseq (cblock (nz ?_))))
  iterate 3 refine st ?_
  refine ld ((hS.blk d0).cell d2) (st ?_)
  replace h:=bI h; obtain ⟨x70,g71,h⟩:=h
  obtain ⟨b72,o73,b74,es75,c76,e77,f78,hms79,mq80⟩:=Row.mapElem (hS.get d1) (m24.up le68) g71
  refine wl (s_iax underlying260 ti259 (et (k20 d3)) (et (k20 d4)) e77 (dt (q20 p5)) (ld ((f78 _ _ (hS.get d1)).one d0) (st ?_)))
  refine wl (s_mget2 (κ:=List UInt8) (k:=p_2) (β:=TType) (zx:=(TType.mk 0 [])) underlying259 underlying9 (et (k20 d6)) (et (k20 d7)) zv89 ⟨_,rfl,rfl⟩ (hS.mapAt (pre:=[_,_,_]) hms79) mq80 ?_); rintro _ ⟨_,rfl,rfl⟩; refine po ?_
  iterate 3 refine st ?_
  refine wl (s_alloc ti89 hS ?_); clear hS; intro b85 w3 hb86 hS; refine po ?_
  refine wl (s_storeA ti89 (et d7) (et (k20 d9)) rfl rfl hS d0 rfl p0 dn ?_)
  clear hS; intro w4 hS
  refine st (nx (st (nw ?_)))
  refine cifb (et (k30 d1)) (fun h87=>?_) (fun h87=>?_)
  ·replace h:=iT h87 h
   refine nz (lds (hS.blk d0).cells rfl (wl (s_storeA ti89 (et d4) (et (k30 d2)) rfl rfl hS d3 rfl p3 dn ?_)))
   clear hS; intro w5 hS
   refine st (nw (cret ?_))
   refine (fun h=>br (xr (xr (br (xr h))))) ?_
   obtain rfl:=Option.some.inj h
   refine retN rfl (RVs.s (.a d4 ti89 (hS.blk d3).cells rfl) (RVs.s (.t d5) RVs.z)) ?_
   replace hS:=(hS.drop Rm.z).drop (Rm.s (Rm.s Rm.z))
   replace hS:Sq μ1 w0 _ (.blk b1 262 [.pointer (some ⟨b3,o4,none⟩),.pointer (some ⟨b12,o13,none⟩),v22]::.row v22 259 1 bloc_21.length (cellsOf ms23)::(mapsRes ms23++rsF)):=hS
   exact ⟨_,rfl,le68,hS⟩
  ·replace h:=iF h87 h
   refine cskip ?_
   refine (fun h=>bn (xn h)) ?_
   refine creg (st ?_)
   replace h:=bI h; obtain ⟨i88,g89,h⟩:=h
   refine wl (s_subc (et (k10 d7)) ec g89 (dt (q10 p8)) (st (wnil (xl ?_))))
   replace hS:=hS.drop Rm.z
   exact ⟨n_1,_,_,rfl,(aK5 (aO1 (aI (aO2 (aK6 (aO10 (aO8 aZ))))))),⟨_,i88,rfl,h,le68,hS⟩,Nat.lt_succ_self _⟩
 ·replace h:=iF h69 h
  refine cexit ?_
  refine (fun h=>xe (xe (bh h))) ?_
  refine xn (nz (wl (s_build ti89 pl89 Fl.z (dt (q30 p3)) (wl (s_storeA ti89 (et d4) (et (k30 d3)) rfl rfl hS d2 rfl p2 dn ?_)))))
  clear hS; intro w6 hS
  refine st (nw (cret ?_))
  obtain rfl:=Option.some.inj h
  refine retN rfl (RVs.s (.a d4 ti89 (hS.blk d2).cells rfl) (RVs.s (.t d5) RVs.z)) ?_
  replace hS:=hS.drop (Rm.s (Rm.s Rm.z))
  replace hS:Sq μ1 w0 _ (.blk b1 262 [.pointer (some ⟨b3,o4,none⟩),.pointer (some ⟨b12,o13,none⟩),v22]::.row v22 259 1 bloc_21.length (cellsOf ms23)::(mapsRes ms23++rsF)):=hS
  exact ⟨_,rfl,le68,hS⟩
structure SemaESound (sf:SemaE):Prop where
  sema_typed:∀ {μ0:M} {w0 w:World} {rsF:List Res} (hg:Le Gm μ0) {b1:Nat} {prog_2:TSemaProgram} {b3 o4:Nat} {a5:Option Addr} {c6 b8:Nat} {def_11:TDef} {b12 o13:Nat} {a14:Option Addr} {c15:Nat} {a17:Option Addr} {c18:Nat} {bloc_21:List (List (List UInt8×TType))} {v22:Value} {ms23:List (Nat×List MapEntry×Nat)} {p_2:TExpr} {b25 o26:Nat} {a27:Option Addr} {c28:Nat} {p_3:TType} {r:Int} (m7:Sl μ0 a5 c6 prog_2.defs) (m9:Mr μ0 b8 prog_2.named) (m10:At μ0 b3 o4 [.slice a5 prog_2.defs.length c6,.map (some b8)]) (m16:Sl μ0 a14 c15 def_11.Params) (m19:Sl μ0 a17 c18 def_11.Body) (m20:At μ0 b12 o13 [.int .i64 def_11.Kind,S def_11.Name,.int .i64 def_11.Typ.Kind,S def_11.Typ.Gen,.int .i64 def_11.Takes.Kind,S def_11.Takes.Gen,.int .i64 def_11.Cap,.slice a14 def_11.Params.length c15,.slice a17 def_11.Body.length c18]) (m24:Ms μ0 ms23 bloc_21) (m29:Sl μ0 a27 c28 p_2.Kids) (m30:At μ0 b25 o26 [.int .i64 p_2.Kind,.int .i64 p_2.N,S p_2.Name,.slice a27 p_2.Kids.length c28]) (h:sf.sema_typed prog_2 def_11 bloc_21 p_2 p_3=some r) (hS:Sq μ0 w0 w (.blk b1 262 [.pointer (some ⟨b3,o4,none⟩),.pointer (some ⟨b12,o13,none⟩),v22]::.row v22 259 1 bloc_21.length (cellsOf ms23)::(mapsRes ms23++rsF))),CallsV prog 179 [.pointer (some ⟨b1,0,none⟩),.pointer (some ⟨b25,o26,none⟩),.agg ⟨[.int .i64 p_3.Kind,S p_3.Gen]⟩] w (fun v w'=>∃ (μ':M) ,v=.int .i64 r∧Le μ0 μ'∧Sq μ' w0 w' (.blk b1 262 [.pointer (some ⟨b3,o4,none⟩),.pointer (some ⟨b12,o13,none⟩),v22]::.row v22 259 1 bloc_21.length (cellsOf ms23)::(mapsRes ms23++rsF)))
  sema_both:∀ {μ0:M} {w0 w:World} {rsF:List Res} (hg:Le Gm μ0) {b1:Nat} {prog_2:TSemaProgram} {b3 o4:Nat} {a5:Option Addr} {c6 b8:Nat} {def_11:TDef} {b12 o13:Nat} {a14:Option Addr} {c15:Nat} {a17:Option Addr} {c18:Nat} {bloc_21:List (List (List UInt8×TType))} {v22:Value} {ms23:List (Nat×List MapEntry×Nat)} {p_2:TExpr} {b25 o26:Nat} {a27:Option Addr} {c28:Nat} {r:TType×Int} (m7:Sl μ0 a5 c6 prog_2.defs) (m9:Mr μ0 b8 prog_2.named) (m10:At μ0 b3 o4 [.slice a5 prog_2.defs.length c6,.map (some b8)]) (m16:Sl μ0 a14 c15 def_11.Params) (m19:Sl μ0 a17 c18 def_11.Body) (m20:At μ0 b12 o13 [.int .i64 def_11.Kind,S def_11.Name,.int .i64 def_11.Typ.Kind,S def_11.Typ.Gen,.int .i64 def_11.Takes.Kind,S def_11.Takes.Gen,.int .i64 def_11.Cap,.slice a14 def_11.Params.length c15,.slice a17 def_11.Body.length c18]) (m24:Ms μ0 ms23 bloc_21) (m29:Sl μ0 a27 c28 p_2.Kids) (m30:At μ0 b25 o26 [.int .i64 p_2.Kind,.int .i64 p_2.N,S p_2.Name,.slice a27 p_2.Kids.length c28]) (h:sf.sema_both prog_2 def_11 bloc_21 p_2=some r) (hS:Sq μ0 w0 w (.blk b1 262 [.pointer (some ⟨b3,o4,none⟩),.pointer (some ⟨b12,o13,none⟩),v22]::.row v22 259 1 bloc_21.length (cellsOf ms23)::(mapsRes ms23++rsF))),CallsV prog 190 [.pointer (some ⟨b1,0,none⟩),.pointer (some ⟨b25,o26,none⟩)] w (fun v w'=>∃ (μ':M) ,v=.tuple ⟨[.agg ⟨[.int .i64 r.1.Kind,S r.1.Gen]⟩,.int .i64 r.2]⟩∧Le μ0 μ'∧Sq μ' w0 w' (.blk b1 262 [.pointer (some ⟨b3,o4,none⟩),.pointer (some ⟨b12,o13,none⟩),v22]::.row v22 259 1 bloc_21.length (cellsOf ms23)::(mapsRes ms23++rsF)))
  sema_expr:∀ {μ0:M} {w0 w:World} {rsF:List Res} (hg:Le Gm μ0) {b1:Nat} {prog_2:TSemaProgram} {b3 o4:Nat} {a5:Option Addr} {c6 b8:Nat} {def_11:TDef} {b12 o13:Nat} {a14:Option Addr} {c15:Nat} {a17:Option Addr} {c18:Nat} {bloc_21:List (List (List UInt8×TType))} {v22:Value} {ms23:List (Nat×List MapEntry×Nat)} {p_2:TExpr} {b25 o26:Nat} {a27:Option Addr} {c28:Nat} {r:TType×Int} (m7:Sl μ0 a5 c6 prog_2.defs) (m9:Mr μ0 b8 prog_2.named) (m10:At μ0 b3 o4 [.slice a5 prog_2.defs.length c6,.map (some b8)]) (m16:Sl μ0 a14 c15 def_11.Params) (m19:Sl μ0 a17 c18 def_11.Body) (m20:At μ0 b12 o13 [.int .i64 def_11.Kind,S def_11.Name,.int .i64 def_11.Typ.Kind,S def_11.Typ.Gen,.int .i64 def_11.Takes.Kind,S def_11.Takes.Gen,.int .i64 def_11.Cap,.slice a14 def_11.Params.length c15,.slice a17 def_11.Body.length c18]) (m24:Ms μ0 ms23 bloc_21) (m29:Sl μ0 a27 c28 p_2.Kids) (m30:At μ0 b25 o26 [.int .i64 p_2.Kind,.int .i64 p_2.N,S p_2.Name,.slice a27 p_2.Kids.length c28]) (h:sf.sema_expr prog_2 def_11 bloc_21 p_2=some r) (hS:Sq μ0 w0 w (.blk b1 262 [.pointer (some ⟨b3,o4,none⟩),.pointer (some ⟨b12,o13,none⟩),v22]::.row v22 259 1 bloc_21.length (cellsOf ms23)::(mapsRes ms23++rsF))),CallsV prog 177 [.pointer (some ⟨b1,0,none⟩),.pointer (some ⟨b25,o26,none⟩)] w (fun v w'=>∃ (μ':M) ,v=.tuple ⟨[.agg ⟨[.int .i64 r.1.Kind,S r.1.Gen]⟩,.int .i64 r.2]⟩∧Le μ0 μ'∧Sq μ' w0 w' (.blk b1 262 [.pointer (some ⟨b3,o4,none⟩),.pointer (some ⟨b12,o13,none⟩),v22]::.row v22 259 1 bloc_21.length (cellsOf ms23)::(mapsRes ms23++rsF)))
theorem sema_typed_w {self:SemaE} (IH:SemaESound self) {μ0:M} {w0 w:World} {rsF:List Res} (hg:Le Gm μ0) {b1:Nat} {prog_2:TSemaProgram} {b3 o4:Nat} {a5:Option Addr} {c6 b8:Nat} {def_11:TDef} {b12 o13:Nat} {a14:Option Addr} {c15:Nat} {a17:Option Addr} {c18:Nat} {bloc_21:List (List (List UInt8×TType))} {v22:Value} {ms23:List (Nat×List MapEntry×Nat)} {p_2:TExpr} {b25 o26:Nat} {a27:Option Addr} {c28:Nat} {p_3:TType} {r:Int} (m7:Sl μ0 a5 c6 prog_2.defs) (m9:Mr μ0 b8 prog_2.named) (m10:At μ0 b3 o4 [.slice a5 prog_2.defs.length c6,.map (some b8)]) (m16:Sl μ0 a14 c15 def_11.Params) (m19:Sl μ0 a17 c18 def_11.Body) (m20:At μ0 b12 o13 [.int .i64 def_11.Kind,S def_11.Name,.int .i64 def_11.Typ.Kind,S def_11.Typ.Gen,.int .i64 def_11.Takes.Kind,S def_11.Takes.Gen,.int .i64 def_11.Cap,.slice a14 def_11.Params.length c15,.slice a17 def_11.Body.length c18]) (m24:Ms μ0 ms23 bloc_21) (m29:Sl μ0 a27 c28 p_2.Kids) (m30:At μ0 b25 o26 [.int .i64 p_2.Kind,.int .i64 p_2.N,S p_2.Name,.slice a27 p_2.Kids.length c28]) (h:sema_typed self prog_2 def_11 bloc_21 p_2 p_3=some r) (hS:Sq μ0 w0 w (.blk b1 262 [.pointer (some ⟨b3,o4,none⟩),.pointer (some ⟨b12,o13,none⟩),v22]::.row v22 259 1 bloc_21.length (cellsOf ms23)::(mapsRes ms23++rsF))):CallsV prog 179 [.pointer (some ⟨b1,0,none⟩),.pointer (some ⟨b25,o26,none⟩),.agg ⟨[.int .i64 p_3.Kind,S p_3.Gen]⟩] w (fun v w'=>∃ (μ':M) ,v=.int .i64 r∧Le μ0 μ'∧Sq μ' w0 w' (.blk b1 262 [.pointer (some ⟨b3,o4,none⟩),.pointer (some ⟨b12,o13,none⟩),v22]::.row v22 259 1 bloc_21.length (cellsOf ms23)::(mapsRes ms23++rsF))):=by
 unfold sema_typed at h
 refine enter func179 rfl (frm:=_::_::_::u1 (u20 [])) rfl (nz ?_)
 refine wl (s_box (et d2) rfl hS ?_); clear hS; intro b31 w1 hb32 hS; refine po ?_
 refine st (nx ?_)
 iterate 2 refine st ?_
 replace h:=bI h; obtain ⟨r33,g34,h⟩:=h
 replace hS:=(hS.bg Y2).bg Y2
 replace hS:=Sep.mOut (a:=[_,_]) (p:=[_]) (M:=mapsRes ms23) (R:=rsF) hS
 refine ca (IH.sema_expr hg m7 m9 m10 m16 m19 m20 m24 m29 m30 g34 hS) ?_
 rintro _ w2 ⟨μ1,rfl,le35,hS⟩
 replace hS:=Sep.mOut (a:=[_,_]) (p:=mapsRes ms23) (M:=[_]) (R:=rsF) hS
 refine po ?_
 iterate 3 refine st ?_
 refine wl (s_alloc ti89 hS ?_); clear hS; intro b36 w3 hb37 hS; refine po ?_
 refine wl (s_storeA ti89 (et d7) (et (k10 d3)) rfl rfl hS d0 rfl p0 dn ?_)
 clear hS; intro w4 hS
 refine st (ny (cseq ?_))
 refine cdraw (by kernel_rfl) rfl fun w5 hh_ ho_ ht_ hu_=>?_
 replace hS:=hS.drew hh_ ho_ ht_ hu_
 refine sf_start (fpi 0 [0,1,2,3,4,5,6,7] rfl (fpi 1 [1,2,3,4,5,6,7] rfl (fpi 2 [2,3,4,5,6,7] rfl ?_)))
 refine sfsd (k10 d7) (q10 p7) (q10 p7) (fun h38=>?_) (xF h)
 replace h:=iT h38 h
 refine fr_Y 3 [3,6,7] rfl rfl (k10 d7) (u_loads ti89 (et d7) (hS.blk d0).cells rfl) (q10 p8) (fr_Y 4 [4,5,6,7] rfl rfl (k10 d7) (u_loads ti89 (et d5) (hS.blk d3).cells rfl) (q10 p9) ?_)
 replace h:=bI h; obtain ⟨r39,g40,h⟩:=h
 refine sf1 rfl rfl rfl rfl (wanted_t rfl rfl (k10 d7)) (s_callv isfn160 ef (e1 (et (k10 d9)) e0) (sema_bare_w (hg.t le35) g40 hS) ?_)
 rintro _ w6 ⟨μ2,rfl,le41,hS⟩
 refine po ?_
 refine ⟨(Mons.s (u_loads ti89 (et d7) (hS.blk d0).cells rfl) Mons.z),?_⟩
 refine fpY 6 [6,7] rfl rfl (k10 d7) (u_nea (ES.mk underlying89 eh89 eg89) (et (k10 d8)) (et (k20 d0)) (EqFs.o rfl rfl rfl ti3 d0 d0 (eq_int underlying3) (EqFs.o rfl rfl rfl ti9 d1 d1 (eq_str underlying9) EqFs.z)) rfl) (q20 p1) (fpi 7 [7] rfl (sf_nil (xn ?_)))
 refine cifnb (et (k20 d2)) (xF h) fun h42=>?_
 replace h:=iT h42 h
 refine cskip (xn (nz ?_))
 iterate 2 refine st ?_
 refine nw (cret ?_)
 obtain rfl:=Option.some.inj h
 refine ret1 rfl d6 ?_
 replace hS:=(hS.drop Rm.z).drop (Rm.s (Rm.s Rm.z))
 replace hS:Sq μ2 w0 _ (.blk b1 262 [.pointer (some ⟨b3,o4,none⟩),.pointer (some ⟨b12,o13,none⟩),v22]::.row v22 259 1 bloc_21.length (cellsOf ms23)::(mapsRes ms23++rsF)):=hS
 exact ⟨_,rfl,(le35.t le41),hS⟩
theorem sema_both_w {self:SemaE} (IH:SemaESound self) {μ0:M} {w0 w:World} {rsF:List Res} (hg:Le Gm μ0) {b1:Nat} {prog_2:TSemaProgram} {b3 o4:Nat} {a5:Option Addr} {c6 b8:Nat} {def_11:TDef} {b12 o13:Nat} {a14:Option Addr} {c15:Nat} {a17:Option Addr} {c18:Nat} {bloc_21:List (List (List UInt8×TType))} {v22:Value} {ms23:List (Nat×List MapEntry×Nat)} {p_2:TExpr} {b25 o26:Nat} {a27:Option Addr} {c28:Nat} {r:TType×Int} (m7:Sl μ0 a5 c6 prog_2.defs) (m9:Mr μ0 b8 prog_2.named) (m10:At μ0 b3 o4 [.slice a5 prog_2.defs.length c6,.map (some b8)]) (m16:Sl μ0 a14 c15 def_11.Params) (m19:Sl μ0 a17 c18 def_11.Body) (m20:At μ0 b12 o13 [.int .i64 def_11.Kind,S def_11.Name,.int .i64 def_11.Typ.Kind,S def_11.Typ.Gen,.int .i64 def_11.Takes.Kind,S def_11.Takes.Gen,.int .i64 def_11.Cap,.slice a14 def_11.Params.length c15,.slice a17 def_11.Body.length c18]) (m24:Ms μ0 ms23 bloc_21) (m29:Sl μ0 a27 c28 p_2.Kids) (m30:At μ0 b25 o26 [.int .i64 p_2.Kind,.int .i64 p_2.N,S p_2.Name,.slice a27 p_2.Kids.length c28]) (h:sema_both self prog_2 def_11 bloc_21 p_2=some r) (hS:Sq μ0 w0 w (.blk b1 262 [.pointer (some ⟨b3,o4,none⟩),.pointer (some ⟨b12,o13,none⟩),v22]::.row v22 259 1 bloc_21.length (cellsOf ms23)::(mapsRes ms23++rsF))):CallsV prog 190 [.pointer (some ⟨b1,0,none⟩),.pointer (some ⟨b25,o26,none⟩)] w (fun v w'=>∃ (μ':M) ,v=.tuple ⟨[.agg ⟨[.int .i64 r.1.Kind,S r.1.Gen]⟩,.int .i64 r.2]⟩∧Le μ0 μ'∧Sq μ' w0 w' (.blk b1 262 [.pointer (some ⟨b3,o4,none⟩),.pointer (some ⟨b12,o13,none⟩),v22]::.row v22 259 1 bloc_21.length (cellsOf ms23)::(mapsRes ms23++rsF))):=by
 unfold sema_both at h
 refine enter func190 rfl (frm:=_::_::u5 (u20 (u20 []))) rfl (nz ?_)
 refine wl (s_alloc ti89 hS ?_); clear hS; intro b31 w1 hb32 hS; refine po ?_
 refine st (nx ?_)
 iterate 4 refine st ?_
 refine ld ((m30 _ hS.a).one d3) ?_
 replace h:=bI h; obtain ⟨x33,g34,h⟩:=h
 obtain ⟨b35,o36,cs37,e38,f39,m40⟩:=SlR.elem m29 g34
 obtain ⟨a41,c42,rfl,m43⟩:=TExpr.o m40
 refine wl (s_iax underlying192 ti194 (et (k10 d4)) ec e38 (dt (q10 p5)) ?_)
 replace h:=bI h; obtain ⟨r44,g45,h⟩:=h
 replace hS:=(hS.bg Y2).bg Y2
 replace hS:=Sep.mOut (a:=[_,_]) (p:=[_]) (M:=mapsRes ms23) (R:=rsF) hS
 refine ca (IH.sema_expr hg m7 m9 m10 m16 m19 m20 m24 m43 f39 g45 hS) ?_
 rintro _ w2 ⟨μ1,rfl,le46,hS⟩
 replace hS:=Sep.mOut (a:=[_,_]) (p:=mapsRes ms23) (M:=[_]) (R:=rsF) hS
 refine po ?_
 iterate 3 refine st ?_
 refine wl (s_alloc ti89 hS ?_); clear hS; intro b47 w3 hb48 hS; refine po ?_
 refine wl (s_storeA ti89 (et d6) (et (k10 d7)) rfl rfl hS d0 rfl p0 dn ?_)
 clear hS; intro w4 hS
 refine st (ny (nz ?_))
 iterate 2 refine st ?_
 refine nw ?_
 refine cifd (et (k20 d0)) (xT h) fun h49=>?_
 replace h:=iF h49 h
 refine cskip (xn (nz ?_))
 iterate 4 refine st ?_
 refine ld ((m30 _ (le46 _ hS.a)).one d3) ?_
 replace h:=bI h; obtain ⟨x50,g51,h⟩:=h
 obtain ⟨b52,o53,cs54,e55,f56,m57⟩:=SlR.elem (m29.up le46) g51
 obtain ⟨a58,c59,rfl,m60⟩:=TExpr.o m57
 refine wl (s_iax underlying192 ti194 (et (k20 d8)) ec e55 (dt (q20 p9)) ?_)
 replace h:=bI h; obtain ⟨r61,g62,h⟩:=h
 replace hS:=(hS.bg Y2).bg Y2
 replace hS:=Sep.mOut (a:=[_,_]) (p:=[_,_]) (M:=mapsRes ms23) (R:=rsF) hS
 refine ca (IH.sema_expr (hg.t le46) (m7.up le46) (m9.up le46) (m10.up le46) (m16.up le46) (m19.up le46) (m20.up le46) (m24.up le46) m60 f56 g62 hS) ?_
 rintro _ w5 ⟨μ2,rfl,le63,hS⟩
 replace hS:=Sep.mOut (a:=[_,_]) (p:=mapsRes ms23) (M:=[_,_]) (R:=rsF) hS
 refine po ?_
 iterate 3 refine st ?_
 refine wl (s_alloc ti89 hS ?_); clear hS; intro b64 w6 hb65 hS; refine po ?_
 refine wl (s_storeA ti89 (et d8) (et (k30 d1)) rfl rfl hS d0 rfl p0 dn ?_)
 clear hS; intro w7 hS
 refine st (ny (nz ?_))
 iterate 3 refine st ?_
 refine wspd (k30 d5) (q30 p5) (q30 p5) (fun h66=>?_) (xF h)
 replace h:=iT h66 h
 refine wy rfl (k30 d5) (s_loads ti89 (et d6) (hS.blk d3).cells rfl (dt (q30 p6)) (wy rfl (k30 d5) (s_loads ti89 (et d8) (hS.blk d0).cells rfl (dt (q30 p7)) (wy rfl (k30 d5) (s_nea (ES.mk underlying89 eh89 eg89) (et (k30 d6)) (et (k30 d7)) (EqFs.o rfl rfl rfl ti3 d0 d0 (eq_int underlying3) (EqFs.o rfl rfl rfl ti9 d1 d1 (eq_str underlying9) EqFs.z)) rfl (dt (q30 p8)) (sy rfl ?_))))))
 refine wspnb (k30 d9) (q30 p9) (q30 p9) (xF h) fun h67=>?_
 replace h:=iT h67 h
 refine wy rfl (k30 d9) (s_loads ti89 (et d6) (hS.blk d3).cells rfl (dt (q40 p0)) ?_)
 replace h:=bI h; obtain ⟨r68,g69,h⟩:=h
 refine wy rfl (k30 d9) (s_callv isfn159 ef (e1 (et (k40 d0)) e0) (sema_plain_w (hg.t (le46.t le63)) g69 hS) ?_)
 rintro _ w8 ⟨μ3,rfl,le70,hS⟩
 refine po (sy rfl (sy rfl (st (nw ?_))))
 refine cifnb (et (k40 d4)) (xF h) fun h71=>?_
 replace h:=iT h71 h
 refine cskip (xn (nz (lds (hS.blk d3).cells rfl (st (wl (s_storeA ti89 (et d4) (et (k40 d5)) rfl rfl hS d4 rfl p4 dn ?_))))))
 clear hS; intro w9 hS
 refine st (nw (cret ?_))
 obtain rfl:=Option.some.inj h
 refine retN rfl (RVs.s (.a d4 ti89 (hS.blk d4).cells rfl) (RVs.s (.t d5) RVs.z)) ?_
 replace hS:=((hS.drop Rm.z).drop (Rm.s (Rm.s Rm.z))).drop (Rm.s (Rm.s Rm.z))
 replace hS:Sq μ3 w0 _ (.blk b1 262 [.pointer (some ⟨b3,o4,none⟩),.pointer (some ⟨b12,o13,none⟩),v22]::.row v22 259 1 bloc_21.length (cellsOf ms23)::(mapsRes ms23++rsF)):=hS
 exact ⟨_,rfl,(le46.t (le63.t le70)),hS⟩
theorem sema_expr_w {self:SemaE} (IH:SemaESound self) {fu:Nat} {μ0:M} {w0 w:World} {rsF:List Res} (hg:Le Gm μ0) {b1:Nat} {prog_2:TSemaProgram} {b3 o4:Nat} {a5:Option Addr} {c6 b8:Nat} {def_11:TDef} {b12 o13:Nat} {a14:Option Addr} {c15:Nat} {a17:Option Addr} {c18:Nat} {bloc_21:List (List (List UInt8×TType))} {v22:Value} {ms23:List (Nat×List MapEntry×Nat)} {p_2:TExpr} {b25 o26:Nat} {a27:Option Addr} {c28:Nat} {r:TType×Int} (m7:Sl μ0 a5 c6 prog_2.defs) (m9:Mr μ0 b8 prog_2.named) (m10:At μ0 b3 o4 [.slice a5 prog_2.defs.length c6,.map (some b8)]) (m16:Sl μ0 a14 c15 def_11.Params) (m19:Sl μ0 a17 c18 def_11.Body) (m20:At μ0 b12 o13 [.int .i64 def_11.Kind,S def_11.Name,.int .i64 def_11.Typ.Kind,S def_11.Typ.Gen,.int .i64 def_11.Takes.Kind,S def_11.Takes.Gen,.int .i64 def_11.Cap,.slice a14 def_11.Params.length c15,.slice a17 def_11.Body.length c18]) (m24:Ms μ0 ms23 bloc_21) (m29:Sl μ0 a27 c28 p_2.Kids) (m30:At μ0 b25 o26 [.int .i64 p_2.Kind,.int .i64 p_2.N,S p_2.Name,.slice a27 p_2.Kids.length c28]) (h:sema_expr fu self prog_2 def_11 bloc_21 p_2=some r) (hS:Sq μ0 w0 w (.blk b1 262 [.pointer (some ⟨b3,o4,none⟩),.pointer (some ⟨b12,o13,none⟩),v22]::.row v22 259 1 bloc_21.length (cellsOf ms23)::(mapsRes ms23++rsF))):CallsV prog 177 [.pointer (some ⟨b1,0,none⟩),.pointer (some ⟨b25,o26,none⟩)] w (fun v w'=>∃ (μ':M) ,v=.tuple ⟨[.agg ⟨[.int .i64 r.1.Kind,S r.1.Gen]⟩,.int .i64 r.2]⟩∧Le μ0 μ'∧Sq μ' w0 w' (.blk b1 262 [.pointer (some ⟨b3,o4,none⟩),.pointer (some ⟨b12,o13,none⟩),v22]::.row v22 259 1 bloc_21.length (cellsOf ms23)::(mapsRes ms23++rsF))):=by
 unfold sema_expr at h
 refine enter func177 rfl (frm:=_::_::u1 (u50 (u50 (u50 (u50 (u50 [])))))) rfl (nz ?_)
 refine wl (s_alloc ti89 hS ?_); clear hS; intro b31 w1 hb32 hS; refine po ?_
 refine st (ny (nz ?_))
 iterate 3 refine st ?_
 refine ld ((m30 _ hS.a).one d0) (nw (cblock (nz ?_)))
 iterate 2 refine st ?_
 refine nw ?_
 refine cifd (et (k20 d8)) (fun h33=>?_) (fun h33=>?_)
 ·replace h:=iT h33 h
  refine nz ?_
  replace h:=bI h; obtain ⟨r34,g35,h⟩:=h
  refine ca (sema_num_w hg g35 hS) ?_
  rintro _ w2 ⟨μ1,rfl,le36,hS⟩
  refine po (wl (s_storeA ti89 (et d4) (et (k30 d0)) rfl rfl hS d0 rfl p0 dn ?_))
  clear hS; intro w3 hS
  refine st (nw (cret ?_))
  refine (fun h=>br (xr h)) ?_
  obtain rfl:=Option.some.inj h
  refine retN rfl (RVs.s (.a d4 ti89 (hS.blk d0).cells rfl) (RVs.s (.t d5) RVs.z)) ?_
  replace hS:=hS.drop Rm.z
  replace hS:Sq μ1 w0 _ (.blk b1 262 [.pointer (some ⟨b3,o4,none⟩),.pointer (some ⟨b12,o13,none⟩),v22]::.row v22 259 1 bloc_21.length (cellsOf ms23)::(mapsRes ms23++rsF)):=hS
  exact ⟨_,rfl,le36,hS⟩
 ·replace h:=iF h33 h
  refine nz ?_
  iterate 2 refine st ?_
  refine nw ?_
  refine cifd (et (k30 d1)) (fun h37=>?_) (fun h37=>?_)
  ·replace h:=iT h37 h
   refine nz ?_
   replace h:=bI h; obtain ⟨r38,g39,h⟩:=h
   refine ca (sema_boolean_w hg g39 hS) ?_
   rintro _ w4 ⟨μ2,rfl,le40,hS⟩
   refine po (wl (s_storeA ti89 (et d4) (et (k30 d3)) rfl rfl hS d0 rfl p0 dn ?_))
   clear hS; intro w5 hS
   refine st (nw (cret ?_))
   refine (fun h=>br (xr h)) ?_
   obtain rfl:=Option.some.inj h
   refine retN rfl (RVs.s (.a d4 ti89 (hS.blk d0).cells rfl) (RVs.s (.t d5) RVs.z)) ?_
   replace hS:=hS.drop Rm.z
   replace hS:Sq μ2 w0 _ (.blk b1 262 [.pointer (some ⟨b3,o4,none⟩),.pointer (some ⟨b12,o13,none⟩),v22]::.row v22 259 1 bloc_21.length (cellsOf ms23)::(mapsRes ms23++rsF)):=hS
   exact ⟨_,rfl,le40,hS⟩
  ·replace h:=iF h37 h
   refine nz ?_
   iterate 2 refine st ?_
   refine nw ?_
   refine cifd (et (k30 d4)) (fun h41=>?_) (fun h41=>?_)
   ·replace h:=iT h41 h
    refine cseq (nz ?_)
    iterate 4 refine st ?_
    refine ld ((m30 _ hS.a).one d2) ?_
    replace h:=bI h; obtain ⟨r42,g43,h⟩:=h
    replace hS:=(hS.bg Y2).bg Y2
    replace hS:=Sep.mOut (a:=[_,_]) (p:=[_]) (M:=mapsRes ms23) (R:=rsF) hS
    refine ca (sema_look_w hg m7 m9 m10 m16 m19 m20 m24 g43 hS) ?_
    rintro _ w6 ⟨μ3,rfl,le44,hS⟩
    replace hS:=Sep.mOut (a:=[_,_]) (p:=mapsRes ms23) (M:=[_]) (R:=rsF) hS
    refine po ?_
    iterate 3 refine st ?_
    refine wl (s_alloc ti89 hS ?_); clear hS; intro b45 w7 hb46 hS; refine po ?_
    refine wl (s_storeA ti89 (et d6) (et (k40 d3)) rfl rfl hS d0 rfl p0 dn ?_)
    clear hS; intro w8 hS
    refine st (nx (st (nw ?_)))
    refine cifb (et (k40 d5)) (fun h47=>?_) (xF h)
    replace h:=iT h47 h
    refine nz (lds (hS.blk d0).cells rfl (wl (s_storeA ti89 (et d4) (et (k40 d6)) rfl rfl hS d3 rfl p3 dn ?_)))
    clear hS; intro w9 hS
    refine st (nw (cret ?_))
    refine (fun h=>xr (br (xr h))) ?_
    obtain rfl:=Option.some.inj h
    refine retN rfl (RVs.s (.a d4 ti89 (hS.blk d3).cells rfl) (RVs.s (.t d5) RVs.z)) ?_
    replace hS:=(hS.drop Rm.z).drop (Rm.s (Rm.s Rm.z))
    replace hS:Sq μ3 w0 _ (.blk b1 262 [.pointer (some ⟨b3,o4,none⟩),.pointer (some ⟨b12,o13,none⟩),v22]::.row v22 259 1 bloc_21.length (cellsOf ms23)::(mapsRes ms23++rsF)):=hS
    exact ⟨_,rfl,le44,hS⟩
   ·replace h:=iF h41 h
    refine nz ?_
    iterate 2 refine st ?_
    refine nw ?_
    refine cifd (et (k40 d8)) (xT h) fun h48=>?_
    replace h:=iF h48 h
    refine nz ?_
    iterate 2 refine st ?_
    refine nw ?_
    refine cifd (et (k50 d9)) (xT h) fun h49=>?_
    replace h:=iF h49 h
    refine cseq (nz ?_)
    iterate 2 refine st ?_
    refine nw ?_
    refine ccutE ([72]) (by decide) (fun m w=>∃ μx b50,m=(yK50 (yK20 (.i (.bool b50)::(yK1 (yO1 72 [])))))∧sema_expr_j1 self p_2 prog_2 def_11 bloc_21 b50=some r∧Le μ0 μx∧Sq μx w0 w (.blk b1 262 [.pointer (some ⟨b3,o4,none⟩),.pointer (some ⟨b12,o13,none⟩),v22]::.row v22 259 1 bloc_21.length (cellsOf ms23)::.blk b31 89 [.int .i64 0,S []]::(mapsRes ms23++rsF))) (by rintro _ _ ⟨_,_,rfl,_⟩; rfl) ?_ ?_
    ·refine cifd (et (k70 d0)) (fun h51=>?_) (fun h51=>?_)
     ·replace h:=iT h51 h
      refine cskip (xl ?_)
      replace hS:=(hS.bg Y2).bg Y2
      exact ⟨_,_,rfl,(aK50 (aK20 (aI (aK1 (aO1 aZ))))),_,(decide (p_2.Kind=11)),rfl,h,Le.r,hS⟩
     ·replace h:=iF h51 h
      refine creg ?_
      iterate 2 refine st ?_
      refine wnil (xl ?_)
      replace hS:=(hS.bg Y2).bg Y2
      exact ⟨_,_,rfl,(aK50 (aK20 (aI (aK1 (aO1 aZ))))),_,(decide (p_2.Kind=12)),rfl,h,Le.r,hS⟩
    ·rintro _ t w10 ⟨μ4,b50,rfl,h,le52,hS⟩
     unfold sema_expr_j1 at h
     refine nrm (mK50 (mK20 (mi (mK1 (mO1 mz))))) (xn ?_)
     refine cifb (et (k70 d0)) (fun h53=>?_) (fun h53=>?_)
     ·replace h:=iT h53 h
      refine nz ?_
      iterate 2 refine st ?_
      replace h:=bI h; obtain ⟨r54,g55,h⟩:=h
      replace hS:=(hS.bg Y1).bg Y1
      replace hS:=Sep.mOut (a:=[_,_]) (p:=[_]) (M:=mapsRes ms23) (R:=rsF) hS
      refine ca (IH.sema_both (hg.t le52) (m7.up le52) (m9.up le52) (m10.up le52) (m16.up le52) (m19.up le52) (m20.up le52) (m24.up le52) (m29.up le52) (m30.up le52) g55 hS) ?_
      rintro _ w11 ⟨μ5,rfl,le56,hS⟩
      replace hS:=Sep.mOut (a:=[_,_]) (p:=mapsRes ms23) (M:=[_]) (R:=rsF) hS
      refine po ?_
      iterate 3 refine st ?_
      refine wl (s_alloc ti89 hS ?_); clear hS; intro b57 w12 hb58 hS; refine po ?_
      refine wl (s_storeA ti89 (et d8) (et (k70 d7)) rfl rfl hS d0 rfl p0 dn ?_)
      clear hS; intro w13 hS
      refine st (nx ?_)
      replace h:=bI h; obtain ⟨r59,g60,h⟩:=h
      refine ca (sema_boolean_w (hg.t (le52.t le56)) g60 hS) ?_
      rintro _ w14 ⟨μ6,rfl,le61,hS⟩
      refine po (st (wl (s_storeA ti89 (et d4) (et (k70 d9)) rfl rfl hS d3 rfl p3 dn ?_)))
      clear hS; intro w15 hS
      refine st (nw (cret ?_))
      refine (fun h=>br (xr h)) ?_
      obtain rfl:=Option.some.inj h
      refine retN rfl (RVs.s (.a d4 ti89 (hS.blk d3).cells rfl) (RVs.s (.t d5) RVs.z)) ?_
      replace hS:=(hS.drop Rm.z).drop (Rm.s (Rm.s Rm.z))
      replace hS:Sq μ6 w0 _ (.blk b1 262 [.pointer (some ⟨b3,o4,none⟩),.pointer (some ⟨b12,o13,none⟩),v22]::.row v22 259 1 bloc_21.length (cellsOf ms23)::(mapsRes ms23++rsF)):=hS
      exact ⟨_,rfl,(le52.t (le56.t le61)),hS⟩
     ·replace h:=iF h53 h
      refine nz ?_
      iterate 2 refine st ?_
      refine nw ?_
      refine cifd (et (k80 d1)) (xT h) fun h62=>?_
      replace h:=iF h62 h
      refine nz ?_
      iterate 2 refine st ?_
      refine nw ?_
      refine cifd (et (k90 d8)) (fun h63=>?_) (fun h63=>?_)
      ·replace h:=iT h63 h
       refine cseq ?_
       refine cdraw (by kernel_rfl) rfl fun w16 hh_ ho_ ht_ hu_=>?_
       replace hS:=hS.drew hh_ ho_ ht_ hu_
       refine cpi 0 rfl (cpi 1 rfl (cpi 2 rfl (cpi 4 rfl (cpi 5 rfl (cpi 6 rfl (cr 3 [3,8,9,10,11,12,13] rfl (u_load ti201 (et (k100 d3)) ((hS.blk d0).cell d0)) (q100 p4) (cr 7 [7,8,9,10,11,12,13] rfl (u_load ti9 (et (k100 d7)) ((m30 _ (le52 _ hS.a)).one d2)) (q100 p8) ?_)))))))
       replace h:=bI h; obtain ⟨r64,g65,h⟩:=h
       refine sc1 rfl rfl rfl (s_callv isfn168 ef (e1 (et (k100 d4)) (e1 ec (e1 (et (k100 d8)) e0))) (sema_find_w (hg.t le52) (m7.up le52) (m9.up le52) (m10.up le52) g65 hS) ?_)
       rintro _ w17 ⟨μ7,v67,rfl,le66,hS,m68⟩
       refine po (cpi 9 rfl (cpi 10 rfl (cpi 11 rfl (cpi 12 rfl (cpi 13 rfl (nu (cseq (nz ?_))))))))
       iterate 2 refine st ?_
       refine nw ?_
       refine cifnb (et (k100 (k10 d3))) (xF h) fun h69=>?_
       replace h:=iT h69 h
       refine cskip (xn (nz (st ?_)))
       replace h:=bI h; obtain ⟨x70,g71,h⟩:=h
       obtain ⟨b72,o73,cs74,rfl,f75,m76⟩:=Np.get m68 g71
       obtain ⟨a77,c78,a80,c81,rfl,m79,m82⟩:=m76
       iterate 2 refine st ?_
       refine lds ((f75 _ hS.a).sb 2 2) rfl ?_
       replace h:=bI h; obtain ⟨r83,g84,h⟩:=h
       refine ca (sema_bare_w (hg.t (le52.t le66)) g84 hS) ?_
       rintro _ w18 ⟨μ8,rfl,le85,hS⟩
       refine po (wl (s_storeA ti89 (et d4) (et (k100 (k10 d9))) rfl rfl hS d2 rfl p2 dn ?_))
       clear hS; intro w19 hS
       refine st (nw (cret ?_))
       refine (fun h=>br (xr h)) ?_
       obtain rfl:=Option.some.inj h
       refine retN rfl (RVs.s (.a d4 ti89 (hS.blk d2).cells rfl) (RVs.s (.t d5) RVs.z)) ?_
       replace hS:=hS.drop (Rm.s (Rm.s Rm.z))
       replace hS:Sq μ8 w0 _ (.blk b1 262 [.pointer (some ⟨b3,o4,none⟩),.pointer (some ⟨b12,o13,none⟩),v22]::.row v22 259 1 bloc_21.length (cellsOf ms23)::(mapsRes ms23++rsF)):=hS
       exact ⟨_,rfl,(le52.t (le66.t le85)),hS⟩
      ·replace h:=iF h63 h
       refine nz ?_
       iterate 2 refine st ?_
       refine nw ?_
       refine cifd (et (k100 (k20 d0))) (xT h) fun h86=>?_
       replace h:=iF h86 h
       refine nz ?_
       iterate 2 refine st ?_
       refine nw ?_
       refine cifd (et (k100 (k50 d3))) (xT h) fun h87=>?_
       replace h:=iF h87 h
       refine nz ?_
       iterate 2 refine st ?_
       refine nw ?_
       refine cifd (et (k100 (k60 d7))) (xT h) fun h88=>?_
       replace h:=iF h88 h
       refine nz ?_
       iterate 2 refine st ?_
       refine nw ?_
       refine cifd (et (k100 (k90 d9))) (xT h) fun h89=>?_
       replace h:=iF h89 h
       refine cskip ?_
       refine (fun h=>bn (xn h)) ?_
       refine nz ?_
       replace h:=bI h; obtain ⟨r90,g91,h⟩:=h
       refine ca (sema_num_w (hg.t le52) g91 hS) ?_
       rintro _ w20 ⟨μ9,rfl,le92,hS⟩
       refine po ?_
       replace h:=bI h; obtain ⟨r93,g94,h⟩:=h
       refine ca (sema_num_w (hg.t (le52.t le92)) g94 hS) ?_
       rintro _ w21 ⟨μ10,rfl,le95,hS⟩
       refine po ?_
       refine wl (s_alloc ti89 hS ?_); clear hS; intro b96 w22 hb97 hS; refine po ?_
       refine wl (s_alloc ti89 hS ?_); clear hS; intro b98 w23 hb99 hS; refine po ?_
       refine wl (s_storeA ti89 (et (k20 d0)) (et (k100 (k100 (k10 d3)))) rfl rfl hS d1 rfl p1 dn ?_)
       clear hS; intro w24 hS
       refine wl (s_storeA ti89 (et (k20 d1)) (et (k100 (k100 (k10 d4)))) rfl rfl hS d0 rfl p0 dn ?_)
       clear hS; intro w25 hS
       refine ny ?_
       refine ccutE (List.range' 215 15) (by decide) (fun m w=>∃ μx i100 s101,m=(yK50 (yK50 (yK50 (yK50 (yK10 (yK5 (yO10 215 (yO5 225 []))))))))∧sema_expr_j2 self p_2 prog_2 def_11 bloc_21 r90 i100 s101=some r∧Le μ10 μx∧Sq μx w0 w (.blk b1 262 [.pointer (some ⟨b3,o4,none⟩),.pointer (some ⟨b12,o13,none⟩),v22]::.row v22 259 1 bloc_21.length (cellsOf ms23)::.blk b31 89 [.int .i64 0,S []]::.blk b96 89 [.int .i64 r90.Kind,S r90.Gen]::.blk b98 89 [.int .i64 i100,S s101]::(mapsRes ms23++rsF))) (by rintro _ _ ⟨_,_,_,rfl,_⟩; rfl) ?_ ?_
       ·refine cblock (nz ?_)
        iterate 3 refine st ?_
        refine ld ((m30 _ ((le52.t (le92.t le95)) _ hS.a)).one d0) ?_
        iterate 2 refine st ?_
        refine nw ?_
        refine cifd (et (k100 (k100 (k10 d5)))) (xT h) fun h102=>?_
        replace h:=iF h102 h
        refine nz ?_
        iterate 3 refine st ?_
        refine ld ((m30 _ ((le52.t (le92.t le95)) _ hS.a)).one d0) ?_
        iterate 2 refine st ?_
        refine nw ?_
        refine cifd (et (k100 (k100 (k20 d3)))) (fun h103=>?_) (fun h103=>?_)
        ·replace h:=iT h103 h
         refine creg ?_
         replace h:=bI h; obtain ⟨r104,g105,h⟩:=h
         refine ca (sema_boolean_w (hg.t (le52.t (le92.t le95))) g105 hS) ?_
         rintro _ w26 ⟨μ11,rfl,le106,hS⟩
         refine po (wl (s_storeA ti89 (et (k20 d1)) (et (k100 (k100 (k20 d9)))) rfl rfl hS d0 rfl p0 dn ?_))
         clear hS; intro w27 hS
         refine wnil ?_
         refine (fun h=>bn (xl h)) ?_
         replace hS:=(((hS.bg Y1).bg Y4).bg Y4).bg Y4
         exact ⟨_,_,rfl,(aK50 (aK50 (aK50 (aK50 (aK10 (aK5 (aO10 (aO5 aZ)))))))),_,r104.Kind,r104.Gen,rfl,h,le106,hS⟩
        ·replace h:=iF h103 h
         refine cskip ?_
         refine (fun h=>bn (xl h)) ?_
         replace hS:=(((hS.bg Y1).bg Y4).bg Y4).bg Y4
         exact ⟨_,_,rfl,(aK50 (aK50 (aK50 (aK50 (aK10 (aK5 (aO10 (aO5 aZ)))))))),_,r93.Kind,r93.Gen,rfl,h,Le.r,hS⟩
       ·rintro _ t w28 ⟨μ12,i100,s101,rfl,h,le107,hS⟩
        unfold sema_expr_j2 at h
        refine nrm (mK50 (mK50 (mK50 (mK50 (mK10 (mK5 (mO10 (mO5 mz)))))))) (xn (cseq (nz ?_)))
        iterate 3 refine st ?_
        refine ld ((m30 _ ((le52.t (le92.t (le95.t le107))) _ hS.a)).one d3) (wl (s_lensl underlying192 (et (k100 (k100 (k30 d3)))) (dt (q100 (q100 (q30 p4)))) (st (nw (cblock ?_)))))
        refine cloopE ([5]++List.range' 22 2++List.range' 236 16) (by decide) (fun n m w=>∃ μx i124,m=(yK5 (yO1 5 (yK10 (yK6 (yO2 22 (yK50 (yK50 (yK50 (yK50 (yK10 (yK1 (.i (.int .i64 i124)::(yO10 236 (yO6 246 []))))))))))))))∧sema_expr_l1 self p_2 prog_2 def_11 bloc_21 r90 i100 s101 n i124=some r∧Le μ12 μx∧Sq μx w0 w (.blk b1 262 [.pointer (some ⟨b3,o4,none⟩),.pointer (some ⟨b12,o13,none⟩),v22]::.row v22 259 1 bloc_21.length (cellsOf ms23)::.blk b31 89 [.int .i64 0,S []]::.blk b96 89 [.int .i64 r90.Kind,S r90.Gen]::.blk b98 89 [.int .i64 i100,S s101]::(mapsRes ms23++rsF))) (by rintro _ _ _ ⟨_,_,rfl,_⟩; rfl) _ _ (aK5 (aO1 (aK10 (aK6 (aO2 (aK50 (aK50 (aK50 (aK50 (aK10 (aK1 (aI (aO10 (aO6 aZ)))))))))))))) ⟨_,0,rfl,h,Le.r,hS⟩ ?_
        rintro n_1 _ t w29 ⟨μ13,i124,rfl,h,le141,hS⟩
        cases n_1 with
        | zero=>cases h
        | succ n_1 =>
        unfold sema_expr_l1 at h
        refine cnrm (mK5 (mO1 (mK10 (mK6 (mO2 (mK50 (mK50 (mK50 (mK50 (mK10 (mK1 (mi (mO10 (mO6 mz)))))))))))))) (nz (st (ny ?_)))
        refine cifd (et (k100 (k100 (k30 d6)))) (fun h142=>?_) (fun h142=>?_)
        ·replace h:=iT h142 h
         refine cskip (xn (cseq (cblock (nz ?_))))
         iterate 2 refine st ?_
         refine ny ?_
         refine cdraw (by kernel_rfl) rfl fun w30 hh_ ho_ ht_ hu_=>?_
         replace hS:=hS.drew hh_ ho_ ht_ hu_
         refine cpi 0 rfl (cpi 1 rfl (cpi 2 rfl (cpi 3 rfl (cpi 5 rfl (cr 4 [4,6,8,9] rfl (u_load ti192 (et (k100 (k100 (k40 d1)))) ((m30 _ ((le52.t (le92.t (le95.t (le107.t le141)))) _ hS.a)).one d3)) (q100 (q100 (q40 p2))) ?_)))))
         replace h:=bI h; obtain ⟨x143,g144,h⟩:=h
         obtain ⟨b145,o146,cs147,e148,f149,m150⟩:=SlR.elem (m29.up (le52.t (le92.t (le95.t (le107.t le141))))) g144
         obtain ⟨a151,c152,rfl,m153⟩:=TExpr.o m150
         refine cp 6 rfl (u_iax underlying192 ti194 (et (k100 (k100 (k40 d2)))) (et (k100 (k100 (k40 d3)))) e148) (q100 (q100 (q40 p4))) (cr 7 [7,8,9] rfl (u_loads ti89 (et (k20 d0)) (hS.blk d3).cells rfl) (q100 (q100 (q40 p5))) ?_)
         replace h:=bI h; obtain ⟨r154,g155,h⟩:=h
         replace hS:=(hS.bg Y1).bg Y1
         replace hS:=Sep.mOut (a:=[_,_]) (p:=[_,_,_]) (M:=mapsRes ms23) (R:=rsF) hS
         refine sc1 rfl rfl rfl (s_callv isfn179 ef (e1 (et (k100 (k100 (k30 d8)))) (e1 (et (k100 (k100 (k40 d4)))) (e1 (et (k100 (k100 (k40 d5)))) e0))) (IH.sema_typed (hg.t (le52.t (le92.t (le95.t (le107.t le141))))) (m7.up (le52.t (le92.t (le95.t (le107.t le141))))) (m9.up (le52.t (le92.t (le95.t (le107.t le141))))) (m10.up (le52.t (le92.t (le95.t (le107.t le141))))) (m16.up (le52.t (le92.t (le95.t (le107.t le141))))) (m19.up (le52.t (le92.t (le95.t (le107.t le141))))) (m20.up (le52.t (le92.t (le95.t (le107.t le141))))) (m24.up (le52.t (le92.t (le95.t (le107.t le141))))) m153 f149 g155 hS) ?_)
         rintro _ w31 ⟨μ14,rfl,le156,hS⟩
         replace hS:=Sep.mOut (a:=[_,_]) (p:=mapsRes ms23) (M:=[_,_,_]) (R:=rsF) hS
         refine po (cpi 9 rfl (nu (nz ?_)))
         iterate 2 refine st ?_
         refine nw ?_
         refine cifd (et (k100 (k100 (k40 d8)))) (xT h) fun h157=>?_
         replace h:=iF h157 h
         refine cskip ?_
         refine (fun h=>bn (xn h)) ?_
         refine creg ?_
         replace h:=bI h; obtain ⟨i158,g159,h⟩:=h
         refine wl (s_addc (et (k100 (k100 (k30 d5)))) ec g159 (dt (q100 (q100 (q50 p1)))) (st (wnil (xl ?_))))
         exact ⟨n_1,_,_,rfl,(aK5 (aO1 (aK10 (aK6 (aO2 (aK50 (aK50 (aK50 (aK50 (aK10 (aK1 (aI (aO10 (aO6 aZ)))))))))))))),⟨_,i158,rfl,h,(le141.t le156),hS⟩,Nat.lt_succ_self _⟩
        ·replace h:=iF h142 h
         refine cexit ?_
         refine (fun h=>xe (xe (bh h))) ?_
         refine xn (nz (lds (hS.blk d4).cells rfl (wl (s_storeA ti89 (et d4) (et (k100 (k100 (k50 d2)))) rfl rfl hS d2 rfl p2 dn ?_))))
         clear hS; intro w32 hS
         refine st (nw (cret ?_))
         obtain rfl:=Option.some.inj h
         refine retN rfl (RVs.s (.a d4 ti89 (hS.blk d2).cells rfl) (RVs.s (.t d5) RVs.z)) ?_
         replace hS:=((hS.drop (Rm.s (Rm.s Rm.z))).drop (Rm.s (Rm.s Rm.z))).drop (Rm.s (Rm.s Rm.z))
         replace hS:Sq μ13 w0 _ (.blk b1 262 [.pointer (some ⟨b3,o4,none⟩),.pointer (some ⟨b12,o13,none⟩),v22]::.row v22 259 1 bloc_21.length (cellsOf ms23)::(mapsRes ms23++rsF)):=hS
         exact ⟨_,rfl,(le52.t (le92.t (le95.t (le107.t le141)))),hS⟩
theorem SemaE_sound:∀ n,SemaESound (SemaE_run n)
  | 0=>⟨(by intros; rename_i h _; cases h),(by intros; rename_i h _; cases h),(by intros; rename_i h _; cases h)⟩
  | n+1=>⟨sema_typed_w (SemaE_sound n),sema_both_w (SemaE_sound n),sema_expr_w (SemaE_sound n)⟩
end Go.Proofs.YtegmgfljdeabeaaGreatDoor
set_option maxRecDepth 100000
set_option maxHeartbeats 20000000
namespace Go.Proofs.YtegmgfljdeabeaaGreatDoor
open Go.Wk Go.Xt Go.Y Tryz
variable {b1 b6 b9 c2 c4 c12 c15 fu o2 o10:Nat} {a1 a3 a11 a14:Option Addr} {μ0:M} {w0 w:World} {rsF:List Res}
theorem sema_pop_w {μ0:M} {w0 w:World} {rsF:List Res} (hg:Le Gm μ0) {b1 b2:Nat} {prog_3:TSemaProgram} {b4 o5:Nat} {a6:Option Addr} {c7 b9:Nat} {def_12:TDef} {b13 o14:Nat} {a15:Option Addr} {c16:Nat} {a18:Option Addr} {c19:Nat} {bloc_22:List (List (List UInt8×TType))} {v23:Value} {ms24:List (Nat×List MapEntry×Nat)} {r:List (List (List UInt8×TType))} (m8:Sl μ0 a6 c7 prog_3.defs) (m10:Mr μ0 b9 prog_3.named) (m11:At μ0 b4 o5 [.slice a6 prog_3.defs.length c7,.map (some b9)]) (m17:Sl μ0 a15 c16 def_12.Params) (m20:Sl μ0 a18 c19 def_12.Body) (m21:At μ0 b13 o14 [.int .i64 def_12.Kind,S def_12.Name,.int .i64 def_12.Typ.Kind,S def_12.Typ.Gen,.int .i64 def_12.Takes.Kind,S def_12.Takes.Gen,.int .i64 def_12.Cap,.slice a15 def_12.Params.length c16,.slice a18 def_12.Body.length c19]) (m25:Ms μ0 ms24 bloc_22) (h:sema_pop prog_3 def_12 bloc_22=some r) (hS:Sq μ0 w0 w (.blk b1 258 [.pointer (some ⟨b2,0,none⟩)]::.blk b2 262 [.pointer (some ⟨b4,o5,none⟩),.pointer (some ⟨b13,o14,none⟩),v23]::.row v23 259 1 bloc_22.length (cellsOf ms24)::(mapsRes ms24++rsF))):CallsDV prog 169 [.pointer (some ⟨b1,0,none⟩)] w (fun v w'=>∃ (μ':M) (v26:Value) (ms27:List (Nat×List MapEntry×Nat)),v=.tuple ⟨[]⟩∧Le μ0 μ'∧Sq μ' w0 w' (.blk b1 258 [.pointer (some ⟨b2,0,none⟩)]::.blk b2 262 [.pointer (some ⟨b4,o5,none⟩),.pointer (some ⟨b13,o14,none⟩),v26]::.row v26 259 1 r.length (cellsOf ms27)::(mapsRes ms27++rsF))∧Ms μ' ms27 r):=by
 unfold sema_pop at h
 refine enterDD func169 rfl (frm:=[_,_,_,_,_,_,_,_,_,_,_,_,_,_,_]) rfl ?_
 refine ccutE (List.range' 1 14) (by decide) (fun m w=>∃ μx l31 v29 ms30,m=(yK1 (yO10 1 (yO4 11 [])))∧sema_pop_j1 l31=some r∧Le μ0 μx∧Sq μx w0 w (.blk b1 258 [.pointer (some ⟨b2,0,none⟩)]::.blk b2 262 [.pointer (some ⟨b4,o5,none⟩),.pointer (some ⟨b13,o14,none⟩),v29]::.row v29 259 1 l31.length (cellsOf ms30)::(mapsRes ms30++rsF))∧Ms μx ms30 l31) (by rintro _ _ ⟨_,_,_,_,rfl,_⟩; rfl) ?_ ?_
 ·refine cdraw (by kernel_rfl) rfl fun w1 hh_ ho_ ht_ hu_=>?_
  replace hS:=hS.drew hh_ ho_ ht_ hu_
  refine sf_start (fr_ 0 [0,12,13,14] rfl (u_load ti258 (et d0) ((hS.blk d0).cell d0)) p1 (fr_ 1 [1,2,3,4,11,12,13,14] rfl (u_load ti258 (et d0) ((hS.blk d0).cell d0)) p2 (fpi 2 [2,3,4,11,12,13,14] rfl (fpi 3 [3,4,11,12,13,14] rfl (fr_ 4 [4,11,12,13,14] rfl (u_load ti260 (et d4) ((hS.blk d1).cell d2)) p5 (fr_ 5 [5,6,7,8,9,10,11,12,13,14] rfl (u_load ti258 (et d0) ((hS.blk d0).cell d0)) p6 (fpi 6 [6,7,8,9,10,11,12,13,14] rfl (fpi 7 [7,8,9,10,11,12,13,14] rfl (fr_ 8 [8,9,10,11,12,13,14] rfl (u_load ti260 (et d8) ((hS.blk d1).cell d2)) p9 (fp 9 [9,10,11,12,13,14] rfl (u_lenv underlying260 (et d9) (hS.get d2).isSl) (q10 p0) ?_))))))))))
  replace h:=bI h; obtain ⟨i33,g34,h⟩:=h
  refine fp 10 [10,11,12,13,14] rfl (u_subc (et (k10 d0)) ec g34) (q10 p1) ?_
  replace h:=bI h; obtain ⟨l35,g36,h⟩:=h
  obtain ⟨v37,ms38,e39,hb40,hr41,m42,e43⟩:=Row.cutM (hS.get d2) m25 g36
  replace hS:=hS.reRow d2 hb40 hr41 p2
  replace hS:=hS.popM (pre:=[_,_,_]) (j:=i33.toNat); rw [e43] at hS
  refine fp 11 [11,12,13,14] rfl (u_slc underlying260 ti259 (et d5) .n (.s (et (k10 d1))) e39) (q10 p2) (fpi 12 [12,13,14] rfl (fpi 13 [13,14] rfl (sf1 rfl rfl rfl rfl (wanted_0 rfl) (s_store1 ti260 (et (k10 d4)) (et (k10 d2)) (hS.get d2).cellV hS d1 p2 rfl p1 dn ?_))))
  clear hS; intro w2 hS
  refine ⟨Mons.z,?_⟩
  refine sf_nil (xl ?_)
  exact ⟨_,_,rfl,(aK1 (aO10 (aO4 aZ))),_,_,_,_,rfl,h,Le.r,hS,m42⟩
 ·rintro _ t w3 ⟨μ1,l31,v29,ms30,rfl,h,le44,hS,m45⟩
  unfold sema_pop_j1 at h
  refine nrm (mK1 (mO10 (mO4 mz))) ?_
  obtain rfl:=Option.some.inj h
  refine end0 rfl ?_
  replace hS:Sq μ1 w0 _ (.blk b1 258 [.pointer (some ⟨b2,0,none⟩)]::.blk b2 262 [.pointer (some ⟨b4,o5,none⟩),.pointer (some ⟨b13,o14,none⟩),v29]::.row v29 259 1 l31.length (cellsOf ms30)::(mapsRes ms30++rsF)):=hS
  exact ⟨_,_,_,rfl,le44,hS,m45⟩
structure SemaSSound (sf:SemaS):Prop where
  sema_stats:∀ {μ0:M} {w0 w:World} {rsF:List Res} (hg:Le Gm μ0) {b1:Nat} {prog_2:TSemaProgram} {b3 o4:Nat} {a5:Option Addr} {c6 b8:Nat} {def_11:TDef} {b12 o13:Nat} {a14:Option Addr} {c15:Nat} {a17:Option Addr} {c18:Nat} {bloc_21:List (List (List UInt8×TType))} {v22:Value} {ms23:List (Nat×List MapEntry×Nat)} {p_2:List TStat} {a25:Option Addr} {c26:Nat} {r:Int×List (List (List UInt8×TType))} (m7:Sl μ0 a5 c6 prog_2.defs) (m9:Mr μ0 b8 prog_2.named) (m10:At μ0 b3 o4 [.slice a5 prog_2.defs.length c6,.map (some b8)]) (m16:Sl μ0 a14 c15 def_11.Params) (m19:Sl μ0 a17 c18 def_11.Body) (m20:At μ0 b12 o13 [.int .i64 def_11.Kind,S def_11.Name,.int .i64 def_11.Typ.Kind,S def_11.Typ.Gen,.int .i64 def_11.Takes.Kind,S def_11.Takes.Gen,.int .i64 def_11.Cap,.slice a14 def_11.Params.length c15,.slice a17 def_11.Body.length c18]) (m24:Ms μ0 ms23 bloc_21) (m27:Sl μ0 a25 c26 p_2) (h:sf.sema_stats prog_2 def_11 bloc_21 p_2=some r) (hS:Sq μ0 w0 w (.blk b1 262 [.pointer (some ⟨b3,o4,none⟩),.pointer (some ⟨b12,o13,none⟩),v22]::.row v22 259 1 bloc_21.length (cellsOf ms23)::(mapsRes ms23++rsF))),CallsV prog 161 [.pointer (some ⟨b1,0,none⟩),.slice a25 p_2.length c26] w (fun v w'=>∃ (μ':M) (v28:Value) (ms29:List (Nat×List MapEntry×Nat)),v=.int .i64 r.1∧Le μ0 μ'∧Sq μ' w0 w' (.blk b1 262 [.pointer (some ⟨b3,o4,none⟩),.pointer (some ⟨b12,o13,none⟩),v28]::.row v28 259 1 r.2.length (cellsOf ms29)::(mapsRes ms29++rsF))∧Ms μ' ms29 r.2)
  sema_stat:∀ {μ0:M} {w0 w:World} {rsF:List Res} (hg:Le Gm μ0) {b1:Nat} {prog_2:TSemaProgram} {b3 o4:Nat} {a5:Option Addr} {c6 b8:Nat} {def_11:TDef} {b12 o13:Nat} {a14:Option Addr} {c15:Nat} {a17:Option Addr} {c18:Nat} {bloc_21:List (List (List UInt8×TType))} {v22:Value} {ms23:List (Nat×List MapEntry×Nat)} {p_2:TStat} {b25 o26:Nat} {a27:Option Addr} {c28:Nat} {a30:Option Addr} {c31:Nat} {a33:Option Addr} {c34:Nat} {r:Int×List (List (List UInt8×TType))} (m7:Sl μ0 a5 c6 prog_2.defs) (m9:Mr μ0 b8 prog_2.named) (m10:At μ0 b3 o4 [.slice a5 prog_2.defs.length c6,.map (some b8)]) (m16:Sl μ0 a14 c15 def_11.Params) (m19:Sl μ0 a17 c18 def_11.Body) (m20:At μ0 b12 o13 [.int .i64 def_11.Kind,S def_11.Name,.int .i64 def_11.Typ.Kind,S def_11.Typ.Gen,.int .i64 def_11.Takes.Kind,S def_11.Takes.Gen,.int .i64 def_11.Cap,.slice a14 def_11.Params.length c15,.slice a17 def_11.Body.length c18]) (m24:Ms μ0 ms23 bloc_21) (m29:Sl μ0 a27 c28 p_2.X.Kids) (m32:Sl μ0 a30 c31 p_2.Body) (m35:Sl μ0 a33 c34 p_2.Else) (m36:At μ0 b25 o26 [.int .i64 p_2.Kind,S p_2.Name,.int .i64 p_2.X.Kind,.int .i64 p_2.X.N,S p_2.X.Name,.slice a27 p_2.X.Kids.length c28,.slice a30 p_2.Body.length c31,.slice a33 p_2.Else.length c34]) (h:sf.sema_stat prog_2 def_11 bloc_21 p_2=some r) (hS:Sq μ0 w0 w (.blk b1 262 [.pointer (some ⟨b3,o4,none⟩),.pointer (some ⟨b12,o13,none⟩),v22]::.row v22 259 1 bloc_21.length (cellsOf ms23)::(mapsRes ms23++rsF))),CallsV prog 170 [.pointer (some ⟨b1,0,none⟩),.pointer (some ⟨b25,o26,none⟩)] w (fun v w'=>∃ (μ':M) (v37:Value) (ms38:List (Nat×List MapEntry×Nat)),v=.int .i64 r.1∧Le μ0 μ'∧Sq μ' w0 w' (.blk b1 262 [.pointer (some ⟨b3,o4,none⟩),.pointer (some ⟨b12,o13,none⟩),v37]::.row v37 259 1 r.2.length (cellsOf ms38)::(mapsRes ms38++rsF))∧Ms μ' ms38 r.2)
theorem sema_stats_w {self:SemaS} (IH:SemaSSound self) {μ0:M} {w0 w:World} {rsF:List Res} (hg:Le Gm μ0) {b1:Nat} {prog_2:TSemaProgram} {b3 o4:Nat} {a5:Option Addr} {c6 b8:Nat} {def_11:TDef} {b12 o13:Nat} {a14:Option Addr} {c15:Nat} {a17:Option Addr} {c18:Nat} {bloc_21:List (List (List UInt8×TType))} {v22:Value} {ms23:List (Nat×List MapEntry×Nat)} {p_2:List TStat} {a25:Option Addr} {c26:Nat} {r:Int×List (List (List UInt8×TType))} (m7:Sl μ0 a5 c6 prog_2.defs) (m9:Mr μ0 b8 prog_2.named) (m10:At μ0 b3 o4 [.slice a5 prog_2.defs.length c6,.map (some b8)]) (m16:Sl μ0 a14 c15 def_11.Params) (m19:Sl μ0 a17 c18 def_11.Body) (m20:At μ0 b12 o13 [.int .i64 def_11.Kind,S def_11.Name,.int .i64 def_11.Typ.Kind,S def_11.Typ.Gen,.int .i64 def_11.Takes.Kind,S def_11.Takes.Gen,.int .i64 def_11.Cap,.slice a14 def_11.Params.length c15,.slice a17 def_11.Body.length c18]) (m24:Ms μ0 ms23 bloc_21) (m27:Sl μ0 a25 c26 p_2) (h:sema_stats self prog_2 def_11 bloc_21 p_2=some r) (hS:Sq μ0 w0 w (.blk b1 262 [.pointer (some ⟨b3,o4,none⟩),.pointer (some ⟨b12,o13,none⟩),v22]::.row v22 259 1 bloc_21.length (cellsOf ms23)::(mapsRes ms23++rsF))):CallsV prog 161 [.pointer (some ⟨b1,0,none⟩),.slice a25 p_2.length c26] w (fun v w'=>∃ (μ':M) (v28:Value) (ms29:List (Nat×List MapEntry×Nat)),v=.int .i64 r.1∧Le μ0 μ'∧Sq μ' w0 w' (.blk b1 262 [.pointer (some ⟨b3,o4,none⟩),.pointer (some ⟨b12,o13,none⟩),v28]::.row v28 259 1 r.2.length (cellsOf ms29)::(mapsRes ms29++rsF))∧Ms μ' ms29 r.2):=by
 unfold sema_stats at h
 refine enterF func161 rfl (frm:=_::_::u10 (u20 [])) rfl (nz ?_)
 refine wl (s_box (et d0) rfl hS ?_); clear hS; intro b31 w1 hb32 hS; refine po ?_
 refine st (ny ?_)
 refine ccutE (List.range' 7 10) (by decide) (fun m w=>∃ μx l35 v33 ms34,m=(yK7 (yO10 7 []))∧sema_stats_j1 self p_2 prog_2 def_11 l35=some r∧Le μ0 μx∧Sq μx w0 w (.blk b1 262 [.pointer (some ⟨b3,o4,none⟩),.pointer (some ⟨b12,o13,none⟩),v33]::.row v33 259 1 l35.length (cellsOf ms34)::.blk b31 258 [.pointer (some ⟨b1,0,none⟩)]::(mapsRes ms34++rsF))∧Ms μx ms34 l35) (by rintro _ _ ⟨_,_,_,_,rfl,_⟩; rfl) ?_ ?_
 ·refine cdraw (by kernel_rfl) rfl fun w2 hh_ ho_ ht_ hu_=>?_
  replace hS:=hS.drew hh_ ho_ ht_ hu_
  refine sf_start (fr_ 0 [0,8,9,10] rfl (u_load ti258 (et d2) ((hS.blk d0).cell d0)) p7 (fr_ 1 [1,2,3,4,7,8,9,10] rfl (u_load ti258 (et d2) ((hS.blk d0).cell d0)) p8 (fpi 2 [2,3,4,7,8,9,10] rfl (fpi 3 [3,4,7,8,9,10] rfl (fr_ 4 [4,7,8,9,10] rfl (u_load ti260 (et (k10 d0)) ((hS.blk d1).cell d2)) (q10 p1) ?_)))))
  refine sf1 rfl rfl rfl rfl (wanted_0 rfl) (s_mkmap hS ?_); clear hS; intro b37 w3 hb38 hS; refine po ?_
  refine ⟨(Mons.s (u_load ti260 (et (k10 d0)) ((hS.blk d2).cell d2)) (Mons.s (u_load ti258 (et d2) ((hS.blk d1).cell d0)) (Mons.s (u_load ti258 (et d2) ((hS.blk d1).cell d0)) Mons.z))),?_⟩
  refine sf1 rfl rfl rfl rfl (wanted_0 rfl) (s_bsl underlying260 ti259 (Parts.s (et (k10 d2)) rfl Parts.z) rfl rfl hS ?_); clear hS; intro b39 w4 hb40 hS; refine po ?_
  refine ⟨(Mons.s (u_load ti260 (et (k10 d0)) ((hS.blk d3).cell d2)) (Mons.s (u_load ti258 (et d2) ((hS.blk d2).cell d0)) (Mons.s (u_load ti258 (et d2) ((hS.blk d2).cell d0)) Mons.z))),?_⟩
  replace h:=bI h; obtain ⟨l41,g42,h⟩:=h
  have hms45a:=app_eq g42
  refine sf1 rfl rfl rfl rfl (wanted_0 rfl) (s_appM (κ:=List UInt8) (β:=TType) underlying260 ti259 rfl (et (k10 d1)) (et (k10 d3)) hS d4 (hS.blk d0).cells g42 (by decide) ?_); clear hS; intro v43 w5 rs_ hp_ hS; cases (show _=rs_ from hp_)
  replace hS:=Sep.reput hS p4; refine po ?_
  replace hS:=(((hS.drop Rm.z).bg Y3).bg Y3).bg Y3
  rw [cellsOf_push ms23 b37 0 []] at hS; replace hS:=hS.pushM (pre:=[_,_,_])
  have m46:=Ms.push (e:=(b37,[],0)) m24 (Mq.nil (κ:=List UInt8) (β:=TType) (μ:=μ0) (c:=0)); rw [← hms45a.1] at m46
  generalize hms45:(ms23++[(b37,[],0)])=ms44 at hS m46
  refine ⟨(Mons.s (u_load ti258 (et d2) ((hS.blk d0).cell d0)) Mons.z),?_⟩
  refine fpi 8 [8,9,10] rfl (fpi 9 [9,10] rfl (sf1 rfl rfl rfl rfl (wanted_0 rfl) (s_store1 ti260 (et (k10 d6)) (et (k10 d4)) (hS.get d2).cellV hS d1 p2 rfl p1 dn ?_)))
  clear hS; intro w6 hS
  refine ⟨Mons.z,?_⟩
  refine sf_nil (xl ?_)
  replace hS:=(hS.bg Y2).bg Y2
  exact ⟨_,_,rfl,(aK7 (aO10 aZ)),_,_,_,_,rfl,h,Le.r,hS,m46⟩
 ·rintro _ t w7 ⟨μ1,l35,v33,ms34,rfl,h,le47,hS,m48⟩
  unfold sema_stats_j1 at h
  refine nrm (mK7 (mO10 mz)) (xn (nz (wl (s_mkfn e0 (e1 (et d2) e0) (dt (q10 p7)) (wl (s_defer (et (k10 d7)) e0 dn (ny (nz (st (wl (s_lensl underlying91 (et (k10 d8)) (dt (q10 p9)) (st (nw (cblock ?_))))))))))))))
  refine cloopE (List.range' 4 3++List.range' 21 11) (by decide) (fun n m w=>∃ μx i74 l77 v75 ms76,m=(yK4 (yO3 4 (yK10 (yK3 (.i (.int .i64 i74)::(yO10 21 (yO1 31 [])))))))∧sema_stats_l1 self p_2 prog_2 def_11 n i74 l77=some r∧Le μ1 μx∧Sq μx w0 w (.blk b1 262 [.pointer (some ⟨b3,o4,none⟩),.pointer (some ⟨b12,o13,none⟩),v75]::.row v75 259 1 l77.length (cellsOf ms76)::.blk b31 258 [.pointer (some ⟨b1,0,none⟩)]::(mapsRes ms76++rsF))∧Ms μx ms76 l77) (by rintro _ _ _ ⟨_,_,_,_,_,rfl,_⟩; rfl) _ _ (aK4 (aO3 (aK10 (aK3 (aI (aO10 (aO1 aZ))))))) ⟨_,0,l35,v33,ms34,rfl,h,Le.r,hS,m48⟩ ?_
  rintro n_1 _ t w8 ⟨μ2,i74,l77,v75,ms76,rfl,h,le104,hS,m105⟩
  cases n_1 with
  | zero=>cases h
  | succ n_1 =>
  unfold sema_stats_l1 at h
  refine cnrm (mK4 (mO3 (mK10 (mK3 (mi (mO10 (mO1 mz))))))) (nz (st (ny ?_)))
  refine cifd (et (k20 d1)) (fun h106=>?_) (fun h106=>?_)
  ·replace h:=iT h106 h
   refine cskip (xn (cseq (cblock (nz ?_))))
   iterate 2 refine st ?_
   refine ny ?_
   refine cdraw (by kernel_rfl) rfl fun w9 hh_ ho_ ht_ hu_=>?_
   replace hS:=hS.drew hh_ ho_ ht_ hu_
   refine sf_start (fr_ 0 [0,4,5] rfl (u_load ti258 (et d2) ((hS.blk d2).cell d0)) (q20 p3) (fpi 1 [1,3,4,5] rfl (fpi 2 [2,3,4,5] rfl ?_)))
   replace h:=bI h; obtain ⟨x107,g108,h⟩:=h
   obtain ⟨b109,o110,cs111,e112,f113,m114⟩:=SlR.elem (m27.up (le47.t le104)) g108
   obtain ⟨a115,c116,a118,c119,a121,c122,rfl,m117,m120,m123⟩:=TStat.o m114
   refine fp 3 [3,4,5] rfl (u_iax underlying91 ti196 (et (k20 d4)) (et (k20 d5)) e112) (q20 p6) ?_
   replace h:=bI h; obtain ⟨r124,g125,h⟩:=h
   replace hS:=(hS.bg Y1).bg Y1
   replace hS:=Sep.mOut (a:=[_,_]) (p:=[_]) (M:=mapsRes ms76) (R:=rsF) hS
   refine sf1 rfl rfl rfl rfl (wanted_0 rfl) (s_callv isfn170 ef (e1 (et (k20 d3)) (e1 (et (k20 d6)) e0)) (IH.sema_stat (hg.t (le47.t le104)) (m7.up (le47.t le104)) (m9.up (le47.t le104)) (m10.up (le47.t le104)) (m16.up (le47.t le104)) (m19.up (le47.t le104)) (m20.up (le47.t le104)) m105 m117 m120 m123 f113 g125 hS) ?_)
   rintro _ w10 ⟨μ3,v127,ms128,rfl,le126,hS,m129⟩
   replace hS:=Sep.mOut (a:=[_,_]) (p:=mapsRes ms128) (M:=[_]) (R:=rsF) hS
   refine po ?_
   refine ⟨Mons.z,?_⟩
   refine fpi 5 [5] rfl (sf_nil (xn (nz ?_)))
   iterate 2 refine st ?_
   refine nw ?_
   refine cifd (et (k20 d9)) (xT h) fun h130=>?_
   replace h:=iF h130 h
   refine cskip ?_
   refine (fun h=>bn (xn h)) ?_
   refine creg ?_
   replace h:=bI h; obtain ⟨i131,g132,h⟩:=h
   refine wl (s_addc (et (k20 d0)) ec g132 (dt (q30 p1)) (st (wnil (xl ?_))))
   exact ⟨n_1,_,_,rfl,(aK4 (aO3 (aK10 (aK3 (aI (aO10 (aO1 aZ))))))),⟨_,i131,r124.2,v127,ms128,rfl,h,(le104.t le126),hS,m129⟩,Nat.lt_succ_self _⟩
  ·replace h:=iF h106 h
   refine cexit ?_
   refine (fun h=>xe (xe (bh h))) ?_
   refine xn (nz (st (nw (cret ?_))))
   replace h:=bI h; obtain ⟨r133,g134,h⟩:=h
   replace hS:=((hS.bg Y1).bg Y1).bg Y2
   refine retD isfn169 (sema_pop_w (hg.t (le47.t le104)) (m7.up (le47.t le104)) (m9.up (le47.t le104)) (m10.up (le47.t le104)) (m16.up (le47.t le104)) (m19.up (le47.t le104)) (m20.up (le47.t le104)) m105 g134 hS) ?_
   rintro _ w11 ⟨μ4,v136,ms137,rfl,le135,hS,m138⟩
   obtain rfl:=Option.some.inj h
   refine retDN rfl (RVs.s (.t d4) RVs.z) ?_
   replace hS:=hS.drop Rm.z
   replace hS:Sq μ4 w0 _ (.blk b1 262 [.pointer (some ⟨b3,o4,none⟩),.pointer (some ⟨b12,o13,none⟩),v136]::.row v136 259 1 r133.length (cellsOf ms137)::(mapsRes ms137++rsF)):=hS
   exact ⟨_,_,_,rfl,(le47.t (le104.t le135)),hS,m138⟩
theorem sema_stat_w {self:SemaS} (IH:SemaSSound self) {fu:Nat} {μ0:M} {w0 w:World} {rsF:List Res} (hg:Le Gm μ0) {b1:Nat} {prog_2:TSemaProgram} {b3 o4:Nat} {a5:Option Addr} {c6 b8:Nat} {def_11:TDef} {b12 o13:Nat} {a14:Option Addr} {c15:Nat} {a17:Option Addr} {c18:Nat} {bloc_21:List (List (List UInt8×TType))} {v22:Value} {ms23:List (Nat×List MapEntry×Nat)} {p_2:TStat} {b25 o26:Nat} {a27:Option Addr} {c28:Nat} {a30:Option Addr} {c31:Nat} {a33:Option Addr} {c34:Nat} {r:Int×List (List (List UInt8×TType))} (m7:Sl μ0 a5 c6 prog_2.defs) (m9:Mr μ0 b8 prog_2.named) (m10:At μ0 b3 o4 [.slice a5 prog_2.defs.length c6,.map (some b8)]) (m16:Sl μ0 a14 c15 def_11.Params) (m19:Sl μ0 a17 c18 def_11.Body) (m20:At μ0 b12 o13 [.int .i64 def_11.Kind,S def_11.Name,.int .i64 def_11.Typ.Kind,S def_11.Typ.Gen,.int .i64 def_11.Takes.Kind,S def_11.Takes.Gen,.int .i64 def_11.Cap,.slice a14 def_11.Params.length c15,.slice a17 def_11.Body.length c18]) (m24:Ms μ0 ms23 bloc_21) (m29:Sl μ0 a27 c28 p_2.X.Kids) (m32:Sl μ0 a30 c31 p_2.Body) (m35:Sl μ0 a33 c34 p_2.Else) (m36:At μ0 b25 o26 [.int .i64 p_2.Kind,S p_2.Name,.int .i64 p_2.X.Kind,.int .i64 p_2.X.N,S p_2.X.Name,.slice a27 p_2.X.Kids.length c28,.slice a30 p_2.Body.length c31,.slice a33 p_2.Else.length c34]) (h:sema_stat fu self prog_2 def_11 bloc_21 p_2=some r) (hS:Sq μ0 w0 w (.blk b1 262 [.pointer (some ⟨b3,o4,none⟩),.pointer (some ⟨b12,o13,none⟩),v22]::.row v22 259 1 bloc_21.length (cellsOf ms23)::(mapsRes ms23++rsF))):CallsV prog 170 [.pointer (some ⟨b1,0,none⟩),.pointer (some ⟨b25,o26,none⟩)] w (fun v w'=>∃ (μ':M) (v37:Value) (ms38:List (Nat×List MapEntry×Nat)),v=.int .i64 r.1∧Le μ0 μ'∧Sq μ' w0 w' (.blk b1 262 [.pointer (some ⟨b3,o4,none⟩),.pointer (some ⟨b12,o13,none⟩),v37]::.row v37 259 1 r.2.length (cellsOf ms38)::(mapsRes ms38++rsF))∧Ms μ' ms38 r.2):=by
 unfold sema_stat at h
 refine enter func170 rfl (frm:=_::_::u50 (u50 (u50 (u50 [])))) rfl (nz (st (ny (nz ?_))))
 iterate 3 refine st ?_
 refine ld ((m36 _ hS.a).one d0) (nw (cblock (nz ?_)))
 iterate 2 refine st ?_
 refine nw ?_
 refine cifd (et (k20 d3)) (fun h40=>?_) (fun h40=>?_)
 ·replace h:=iT h40 h
  refine nz ?_
  iterate 4 refine st ?_
  replace h:=bI h; obtain ⟨r41,g42,h⟩:=h
  replace hS:=(hS.bg Y1).bg Y1
  refine ca ((SemaE_sound fu).sema_expr hg m7 m9 m10 m16 m19 m20 m24 m29 (m36.sb 2 4) g42 hS) ?_
  rintro _ w1 ⟨μ1,rfl,le43,hS⟩
  refine po ?_
  iterate 3 refine st ?_
  refine wl (s_alloc ti89 hS ?_); clear hS; intro b44 w2 hb45 hS; refine po ?_
  refine wl (s_storeA ti89 (et d5) (et (k30 d1)) rfl rfl hS d0 rfl p0 dn ?_)
  clear hS; intro w3 hS
  refine st (ny (nz ?_))
  iterate 2 refine st ?_
  refine nw ?_
  refine cifd (et (k30 d4)) (xT h) fun h46=>?_
  replace h:=iF h46 h
  refine cskip (xn (cseq (nz ?_)))
  iterate 4 refine st ?_
  refine ld ((m36 _ (le43 _ hS.a)).one d1) ?_
  replace h:=bI h; obtain ⟨r47,g48,h⟩:=h
  replace hS:=(hS.bg Y2).bg Y2
  replace hS:=Sep.mOut (a:=[_,_]) (p:=[_]) (M:=mapsRes ms23) (R:=rsF) hS
  refine ca (sema_look_w (hg.t le43) (m7.up le43) (m9.up le43) (m10.up le43) (m16.up le43) (m19.up le43) (m20.up le43) (m24.up le43) g48 hS) ?_
  rintro _ w4 ⟨μ2,rfl,le49,hS⟩
  replace hS:=Sep.mOut (a:=[_,_]) (p:=mapsRes ms23) (M:=[_]) (R:=rsF) hS
  refine po ?_
  iterate 3 refine st ?_
  refine wl (s_alloc ti89 hS ?_); clear hS; intro b50 w5 hb51 hS; refine po ?_
  refine wl (s_storeA ti89 (et d7) (et (k40 d3)) rfl rfl hS d0 rfl p0 dn ?_)
  clear hS; intro w6 hS
  refine st (nx (st (nw ?_)))
  refine cifb (et (k40 d5)) (xT h) fun h52=>?_
  replace h:=iF h52 h
  refine cskip (xn ?_)
  refine cdraw (by kernel_rfl) rfl fun w7 hh_ ho_ ht_ hu_=>?_
  replace hS:=hS.drew hh_ ho_ ht_ hu_
  refine cpi 0 rfl (cpi 1 rfl (cpi 2 rfl (cpi 4 rfl (cpi 5 rfl (cpi 6 rfl (cpi 12 rfl (cpi 13 rfl (cpi 14 rfl (cr 7 [7,8,9,10,11,17] rfl (u_load ti260 (et (k50 d2)) ((hS.blk d1).cell d2)) (q50 p3) (cp 8 rfl (u_lenv underlying260 (et (k50 d3)) (hS.get d2).isSl) (q50 p4) ?_))))))))))
  replace h:=bI h; obtain ⟨i53,g54,h⟩:=h
  refine cp 9 rfl (u_subc (et (k50 d4)) ec g54) (q50 p5) (cr 3 [3,10,11,17] rfl (u_load ti260 (et (k40 d8)) ((hS.blk d1).cell d2)) (q40 p9) ?_)
  replace h:=bI h; obtain ⟨x55,g56,h⟩:=h
  obtain ⟨b57,o58,b59,es60,c61,e62,f63,hms64,mq65⟩:=Row.mapElem (hS.get d2) (m24.up (le43.t le49)) g56
  refine cp 10 rfl (u_iax underlying260 ti259 (et (k40 d9)) (et (k50 d5)) e62) (q50 p6) (cr 11 [11,17] rfl (u_load ti259 (et (k50 d6)) ((f63 _ _ (hS.get d2)).one d0)) (q50 p7) (cr 15 [15,17] rfl (u_load ti9 (et (k60 d0)) ((m36 _ ((le43.t le49) _ hS.a)).one d1)) (q60 p1) (cr 16 [16,17] rfl (u_loads ti89 (et d5) (hS.blk d3).cells rfl) (q60 p2) ?_)))
  refine sc1 rfl rfl rfl (s_mputS (pre:=[_,_,_,_]) (κ:=List UInt8) (β:=TType) (kk:=p_2.Name) (xx:=r41.1) underlying259 underlying9 (et (k50 d7)) (et (k60 d1)) (et (k60 d2)) ⟨_,rfl,rfl⟩ hS hms64 mq65 (m24.up (le43.t le49)) dn ?_); clear hS; intro ms66 w8 m67 e68 e69 hS; rw [e68,e69] at hS
  refine sc_nil ?_
  refine (fun h=>bn (xn h)) ?_
  refine nz (st (nw (cret ?_)))
  obtain rfl:=Option.some.inj h
  refine ret1 rfl d4 ?_
  replace hS:=(hS.drop Rm.z).drop (Rm.s (Rm.s Rm.z))
  replace hS:Sq μ2 w0 _ (.blk b1 262 [.pointer (some ⟨b3,o4,none⟩),.pointer (some ⟨b12,o13,none⟩),v22]::.row v22 259 1 (bloc_21.set i53.toNat (mput x55 p_2.Name r41.1)).length (cellsOf ms66)::(mapsRes ms66++rsF)):=hS
  exact ⟨_,_,_,rfl,(le43.t le49),hS,m67⟩
 ·replace h:=iF h40 h
  refine nz ?_
  iterate 2 refine st ?_
  refine nw ?_
  refine cifd (et (k60 d3)) (fun h70=>?_) (fun h70=>?_)
  ·replace h:=iT h70 h
   refine nz ?_
   iterate 4 refine st ?_
   refine ld ((m36 _ hS.a).one d1) ?_
   replace h:=bI h; obtain ⟨r71,g72,h⟩:=h
   replace hS:=(hS.bg Y1).bg Y1
   refine ca (sema_look_w hg m7 m9 m10 m16 m19 m20 m24 g72 hS) ?_
   rintro _ w9 ⟨μ3,rfl,le73,hS⟩
   refine po ?_
   iterate 3 refine st ?_
   refine wl (s_alloc ti89 hS ?_); clear hS; intro b74 w10 hb75 hS; refine po ?_
   refine wl (s_storeA ti89 (et d9) (et (k70 d2)) rfl rfl hS d0 rfl p0 dn ?_)
   clear hS; intro w11 hS
   refine st (ny (nz ?_))
   iterate 2 refine st ?_
   refine nw ?_
   refine cifnb (et (k70 d5)) (xF h) fun h76=>?_
   replace h:=iT h76 h
   refine cskip (xn (cseq ?_))
   refine cdraw (by kernel_rfl) rfl fun w12 hh_ ho_ ht_ hu_=>?_
   replace hS:=hS.drew hh_ ho_ ht_ hu_
   refine cpi 0 rfl (cpi 1 rfl (cpi 2 rfl (cpi 3 rfl (cr 4 [4,5,6] rfl (u_loads ti89 (et d9) (hS.blk d0).cells rfl) (q80 p0) ?_))))
   replace h:=bI h; obtain ⟨r77,g78,h⟩:=h
   replace hS:=(hS.bg Y2).bg Y2
   replace hS:=Sep.mOut (a:=[_,_]) (p:=[_]) (M:=mapsRes ms23) (R:=rsF) hS
   refine sc1 rfl rfl rfl (s_callv isfn179 ef (e1 (et (k70 d6)) (e1 (et (k70 d9)) (e1 (et (k80 d0)) e0))) ((SemaE_sound fu).sema_typed (hg.t le73) (m7.up le73) (m9.up le73) (m10.up le73) (m16.up le73) (m19.up le73) (m20.up le73) (m24.up le73) (m29.up le73) ((m36.up le73).sb 2 4) g78 hS) ?_)
   rintro _ w13 ⟨μ4,rfl,le79,hS⟩
   replace hS:=Sep.mOut (a:=[_,_]) (p:=mapsRes ms23) (M:=[_]) (R:=rsF) hS
   refine po (cpi 6 rfl (nu (cret ?_)))
   refine (fun h=>br (xr h)) ?_
   obtain rfl:=Option.some.inj h
   refine ret1 rfl d4 ?_
   replace hS:=hS.drop (Rm.s (Rm.s Rm.z))
   replace hS:Sq μ4 w0 _ (.blk b1 262 [.pointer (some ⟨b3,o4,none⟩),.pointer (some ⟨b12,o13,none⟩),v22]::.row v22 259 1 bloc_21.length (cellsOf ms23)::(mapsRes ms23++rsF)):=hS
   exact ⟨_,_,_,rfl,(le73.t le79),hS,(m24.up (le73.t le79))⟩
  ·replace h:=iF h70 h
   refine cseq (nz ?_)
   iterate 2 refine st ?_
   refine nw ?_
   refine ccutE ([84]) (by decide) (fun m w=>∃ μx b80,m=(yK50 (yK20 (yK10 (yK2 (.i (.bool b80)::(yK1 (yO1 84 [])))))))∧sema_stat_j1 fu self p_2 prog_2 def_11 bloc_21 b80=some r∧Le μ0 μx∧Sq μx w0 w (.blk b1 262 [.pointer (some ⟨b3,o4,none⟩),.pointer (some ⟨b12,o13,none⟩),v22]::.row v22 259 1 bloc_21.length (cellsOf ms23)::(mapsRes ms23++rsF))) (by rintro _ _ ⟨_,_,rfl,_⟩; rfl) ?_ ?_
   ·refine cifd (et (k80 d2)) (fun h81=>?_) (fun h81=>?_)
    ·replace h:=iT h81 h
     refine cskip (xl ?_)
     exact ⟨_,_,rfl,(aK50 (aK20 (aK10 (aK2 (aI (aK1 (aO1 aZ))))))),_,(decide (p_2.Kind=3)),rfl,h,Le.r,hS⟩
    ·replace h:=iF h81 h
     refine creg ?_
     iterate 2 refine st ?_
     refine wnil (xl ?_)
     exact ⟨_,_,rfl,(aK50 (aK20 (aK10 (aK2 (aI (aK1 (aO1 aZ))))))),_,(decide (p_2.Kind=4)),rfl,h,Le.r,hS⟩
   ·rintro _ t w14 ⟨μ5,b80,rfl,h,le82,hS⟩
    unfold sema_stat_j1 at h
    refine nrm (mK50 (mK20 (mK10 (mK2 (mi (mK1 (mO1 mz))))))) (xn ?_)
    refine cifb (et (k80 d2)) (fun h83=>?_) (fun h83=>?_)
    ·replace h:=iT h83 h
     refine cseq (cseq ?_)
     refine cdraw (by kernel_rfl) rfl fun w15 hh_ ho_ ht_ hu_=>?_
     replace hS:=hS.drew hh_ ho_ ht_ hu_
     refine cpi 0 rfl (cpi 1 rfl (cpi 2 rfl (cpi 3 rfl ?_)))
     replace h:=bI h; obtain ⟨r84,g85,h⟩:=h
     refine sc1 rfl rfl rfl (s_callv isfn180 ef e0 (sema_boolean_w (hg.t le82) g85 hS) ?_)
     rintro _ w16 ⟨μ6,rfl,le86,hS⟩
     refine po ?_
     replace h:=bI h; obtain ⟨r87,g88,h⟩:=h
     replace hS:=(hS.bg Y1).bg Y1
     refine sc1 rfl rfl rfl (s_callv isfn179 ef (e1 (et (k80 d5)) (e1 (et (k80 d8)) (e1 (et (k80 d9)) e0))) ((SemaE_sound fu).sema_typed (hg.t (le82.t le86)) (m7.up (le82.t le86)) (m9.up (le82.t le86)) (m10.up (le82.t le86)) (m16.up (le82.t le86)) (m19.up (le82.t le86)) (m20.up (le82.t le86)) (m24.up (le82.t le86)) (m29.up (le82.t le86)) ((m36.up (le82.t le86)).sb 2 4) g88 hS) ?_)
     rintro _ w17 ⟨μ7,rfl,le89,hS⟩
     refine po (cpi 6 rfl (nu (nz ?_)))
     iterate 2 refine st ?_
     refine nw ?_
     refine cifd (et (k90 d2)) (xT h) fun h90=>?_
     replace h:=iF h90 h
     refine cskip (xn (cseq (nz ?_)))
     iterate 4 refine st ?_
     refine ld ((m36 _ ((le82.t (le86.t le89)) _ hS.a)).one d6) ?_
     replace h:=bI h; obtain ⟨r91,g92,h⟩:=h
     replace hS:=(hS.bg Y1).bg Y1
     refine ca (IH.sema_stats (hg.t (le82.t (le86.t le89))) (m7.up (le82.t (le86.t le89))) (m9.up (le82.t (le86.t le89))) (m10.up (le82.t (le86.t le89))) (m16.up (le82.t (le86.t le89))) (m19.up (le82.t (le86.t le89))) (m20.up (le82.t (le86.t le89))) (m24.up (le82.t (le86.t le89))) (m32.up (le82.t (le86.t le89))) g92 hS) ?_
     rintro _ w18 ⟨μ8,v94,ms95,rfl,le93,hS,m96⟩
     refine po (st (nx ?_))
     iterate 3 refine st ?_
     refine wspd (k100 d2) (q100 p2) (q100 p2) (xT h) fun h97=>?_
     replace h:=iF h97 h
     refine sy rfl (sy rfl (sy rfl (wy rfl (k100 d2) (s_load ti3 (et (k100 d5)) ((m36 _ ((le82.t (le86.t (le89.t le93))) _ hS.a)).one d0) (dt (q100 p6)) (sy rfl (st (nw ?_)))))))
     refine cifd (et (k100 d8)) (fun h98=>?_) (fun h98=>?_)
     ·replace h:=iT h98 h
      refine nz ?_
      iterate 2 refine st ?_
      refine nw (cret ?_)
      refine (fun h=>xr (br (xr h))) ?_
      obtain rfl:=Option.some.inj h
      refine ret1 rfl d4 ?_
      replace hS:Sq μ8 w0 _ (.blk b1 262 [.pointer (some ⟨b3,o4,none⟩),.pointer (some ⟨b12,o13,none⟩),v94]::.row v94 259 1 r91.2.length (cellsOf ms95)::(mapsRes ms95++rsF)):=hS
      exact ⟨_,_,_,rfl,(le82.t (le86.t (le89.t le93))),hS,m96⟩
     ·replace h:=iF h98 h
      refine cskip (xn (nz ?_))
      iterate 4 refine st ?_
      refine ld ((m36 _ ((le82.t (le86.t (le89.t le93))) _ hS.a)).one d7) ?_
      replace h:=bI h; obtain ⟨r99,g100,h⟩:=h
      replace hS:=(hS.bg Y1).bg Y1
      refine ca (IH.sema_stats (hg.t (le82.t (le86.t (le89.t le93)))) (m7.up (le82.t (le86.t (le89.t le93)))) (m9.up (le82.t (le86.t (le89.t le93)))) (m10.up (le82.t (le86.t (le89.t le93)))) (m16.up (le82.t (le86.t (le89.t le93)))) (m19.up (le82.t (le86.t (le89.t le93)))) (m20.up (le82.t (le86.t (le89.t le93)))) m96 (m35.up (le82.t (le86.t (le89.t le93)))) g100 hS) ?_
      rintro _ w19 ⟨μ9,v102,ms103,rfl,le101,hS,m104⟩
      refine po (st (nw (cret ?_)))
      refine (fun h=>br (xr h)) ?_
      obtain rfl:=Option.some.inj h
      refine ret1 rfl d4 ?_
      replace hS:Sq μ9 w0 _ (.blk b1 262 [.pointer (some ⟨b3,o4,none⟩),.pointer (some ⟨b12,o13,none⟩),v102]::.row v102 259 1 r99.2.length (cellsOf ms103)::(mapsRes ms103++rsF)):=hS
      exact ⟨_,_,_,rfl,(le82.t (le86.t (le89.t (le93.t le101)))),hS,m104⟩
    ·replace h:=iF h83 h
     refine nz ?_
     iterate 2 refine st ?_
     refine nw ?_
     refine cifd (et (k100 (k10 d6))) (xT h) fun h105=>?_
     replace h:=iF h105 h
     refine nz ?_
     iterate 2 refine st ?_
     refine nw ?_
     refine cifd (et (k100 (k30 d8))) (xT h) fun h106=>?_
     replace h:=iF h106 h
     refine nz ?_
     iterate 2 refine st ?_
     refine nw ?_
     refine cifd (et (k100 (k40 d8))) (xT h) fun h107=>?_
     replace h:=iF h107 h
     refine nz ?_
     iterate 2 refine st ?_
     refine nw ?_
     refine cifd (et (k100 (k70 d3))) (fun h108=>?_) (xF h)
     replace h:=iT h108 h
     refine nz ?_
     iterate 4 refine st ?_
     replace h:=bI h; obtain ⟨r109,g110,h⟩:=h
     replace hS:=(hS.bg Y1).bg Y1
     refine ca ((SemaE_sound fu).sema_expr (hg.t le82) (m7.up le82) (m9.up le82) (m10.up le82) (m16.up le82) (m19.up le82) (m20.up le82) (m24.up le82) (m29.up le82) ((m36.up le82).sb 2 4) g110 hS) ?_
     rintro _ w20 ⟨μ10,rfl,le111,hS⟩
     refine po ?_
     iterate 3 refine st ?_
     refine wl (s_alloc ti89 hS ?_); clear hS; intro b112 w21 hb113 hS; refine po ?_
     refine wl (s_storeA ti89 (et (k10 d5)) (et (k100 (k80 d1))) rfl rfl hS d0 rfl p0 dn ?_)
     clear hS; intro w22 hS
     refine st (ny (nz ?_))
     iterate 3 refine st ?_
     refine wspd (k100 (k80 d5)) (q100 (q80 p5)) (q100 (q80 p5)) (fun h114=>?_) (xF h)
     replace h:=iT h114 h
     refine wy rfl (k100 (k80 d5)) (s_loads ti89 (et (k10 d5)) (hS.blk d0).cells rfl (dt (q100 (q80 p6))) ?_)
     replace h:=bI h; obtain ⟨r115,g116,h⟩:=h
     refine wy rfl (k100 (k80 d5)) (s_callv isfn159 ef (e1 (et (k100 (k80 d6))) e0) (sema_plain_w (hg.t (le82.t le111)) g116 hS) ?_)
     rintro _ w23 ⟨μ11,rfl,le117,hS⟩
     refine po (sy rfl (st (nw ?_)))
     refine cifnb (et (k100 (k80 d9))) (xF h) fun h118=>?_
     replace h:=iT h118 h
     refine cskip (xn (nz ?_))
     iterate 2 refine st ?_
     refine nw (cret ?_)
     refine (fun h=>br (xr h)) ?_
     obtain rfl:=Option.some.inj h
     refine ret1 rfl d4 ?_
     replace hS:=hS.drop Rm.z
     replace hS:Sq μ11 w0 _ (.blk b1 262 [.pointer (some ⟨b3,o4,none⟩),.pointer (some ⟨b12,o13,none⟩),v22]::.row v22 259 1 bloc_21.length (cellsOf ms23)::(mapsRes ms23++rsF)):=hS
     exact ⟨_,_,_,rfl,(le82.t (le111.t le117)),hS,(m24.up (le82.t (le111.t le117)))⟩
theorem SemaS_sound:∀ n,SemaSSound (SemaS_run n)
  | 0=>⟨(by intros; rename_i h _; cases h),(by intros; rename_i h _; cases h)⟩
  | n+1=>⟨sema_stats_w (SemaS_sound n),sema_stat_w (SemaS_sound n)⟩
theorem sema_head_w (hg:Le Gm μ0) {p_1:TSemaProgram} {p_2:TDef} {r:Int} (m5:Sl μ0 a3 c4 p_1.defs) (m7:Mr μ0 b6 p_1.named) (m8:At μ0 b1 o2 [.slice a3 p_1.defs.length c4,.map (some b6)]) (m13:Sl μ0 a11 c12 p_2.Params) (m16:Sl μ0 a14 c15 p_2.Body) (m17:At μ0 b9 o10 [.int .i64 p_2.Kind,S p_2.Name,.int .i64 p_2.Typ.Kind,S p_2.Typ.Gen,.int .i64 p_2.Takes.Kind,S p_2.Takes.Gen,.int .i64 p_2.Cap,.slice a11 p_2.Params.length c12,.slice a14 p_2.Body.length c15]) (h:sema_head p_1 p_2=some r) (hS:Sq μ0 w0 w (rsF)):CallsV prog 139 [.pointer (some ⟨b1,o2,none⟩),.pointer (some ⟨b9,o10,none⟩)] w (fun v w'=>∃ (μ':M) ,v=.int .i64 r∧Le μ0 μ'∧Sq μ' w0 w' (rsF)):=by
 unfold sema_head at h
 refine enter func139 rfl (frm:=_::_::u5 (u20 (u50 []))) rfl (nz (st (nx ?_)))
 refine wl (s_mkmap hS ?_); clear hS; intro b18 w1 hb19 hS; refine po ?_
 refine st (ny (nz ?_))
 iterate 3 refine st ?_
 refine ld ((m17 _ hS.a).one d0) ?_
 iterate 2 refine st ?_
 refine wspd (k10 d5) (q10 p5) (q10 p5) (xT h) fun h20=>?_
 replace h:=iF h20 h
 refine sy rfl (sy rfl (sy rfl (wy rfl (k10 d5) (s_load ti3 (et (k10 d8)) ((m17 _ hS.a).one d0) (dt (q10 p9)) (sy rfl (st (nw ?_)))))))
 refine cifd (et (k20 d1)) (xT h) fun h21=>?_
 replace h:=iF h21 h
 refine cskip (xn (cseq (cseq ?_)))
 refine ccutE (List.range' 49 27) (by decide +kernel) (fun m w=>∃ μx b22,m=(yK20 (yK20 (yK9 (yO20 49 (yO7 69 (.i (.bool b22)::[]))))))∧sema_head_j1 b22=some r∧Le μ0 μx∧Sq μx w0 w (rsF)) (by rintro _ _ ⟨_,_,rfl,_⟩; rfl) ?_ ?_
 ·refine creg ?_
  iterate 3 refine st ?_
  refine ld ((m17 _ hS.a).one d0) ?_
  iterate 2 refine st ?_
  refine wspd (k50 d4) (q50 p4) (q50 p4) (xT h) fun h23=>?_
  replace h:=iF h23 h
  refine sn rfl rfl (sn rfl rfl (sn rfl rfl (sn rfl rfl (sn rfl rfl (sn rfl rfl ?_)))))
  iterate 2 refine st ?_
  refine sy rfl (sy rfl (sy rfl (wy rfl (k60 d2) (s_load ti3 (et (k60 d5)) ((m17 _ hS.a).one d0) (dt (q60 p6)) (sy rfl (sy rfl ?_))))))
  refine wspd (k60 d8) (q60 p8) (q60 p8) (fun h24=>?_) (fun h24=>?_)
  ·replace h:=iT h24 h
   refine sy rfl (sy rfl (sy rfl (wy rfl (k60 d8) (s_loads ti89 (et (k70 d1)) ((m17 _ hS.a).sb 2 2) rfl (dt (q70 p2)) ?_))))
   replace h:=bI h; obtain ⟨r25,g26,h⟩:=h
   refine wy rfl (k60 d8) (s_callv isfn159 ef (e1 (et (k70 d2)) e0) (sema_plain_w hg g26 hS) ?_)
   rintro _ w2 ⟨μ1,rfl,le27,hS⟩
   refine po (sy rfl (sy rfl (st (wnil (xl ?_)))))
   replace hS:=hS.drop Rm.z
   exact ⟨_,_,rfl,(aK20 (aK20 (aK9 (aO20 (aO7 (aI aZ)))))),_,(!r25),rfl,h,le27,hS⟩
  ·replace h:=iF h24 h
   refine sn rfl rfl (sn rfl rfl (sn rfl rfl (sn rfl rfl (sn rfl rfl (sn rfl rfl (sy rfl (st (wnil (xl ?_)))))))))
   replace hS:=hS.drop Rm.z
   exact ⟨_,_,rfl,(aK20 (aK20 (aK9 (aO20 (aO7 (aI aZ)))))),_,false,rfl,h,Le.r,hS⟩
 ·rintro _ t w3 ⟨μ2,b22,rfl,h,le28,hS⟩
  unfold sema_head_j1 at h
  refine nrm (mK20 (mK20 (mK9 (mO20 (mO7 (mi mz)))))) (xn ?_)
  refine cifb (et (k70 d6)) (xT h) fun h29=>?_
  replace h:=iF h29 h
  refine cskip (xn (nz (st (nw (cret ?_)))))
  obtain rfl:=Option.some.inj h
  refine ret1 rfl d4 ?_
  exact ⟨_,rfl,le28,hS⟩
theorem sema_body_w (hg:Le Gm μ0) {p_1:TSemaProgram} {p_2:TDef} {r:Int} (m5:Sl μ0 a3 c4 p_1.defs) (m7:Mr μ0 b6 p_1.named) (m8:At μ0 b1 o2 [.slice a3 p_1.defs.length c4,.map (some b6)]) (m13:Sl μ0 a11 c12 p_2.Params) (m16:Sl μ0 a14 c15 p_2.Body) (m17:At μ0 b9 o10 [.int .i64 p_2.Kind,S p_2.Name,.int .i64 p_2.Typ.Kind,S p_2.Typ.Gen,.int .i64 p_2.Takes.Kind,S p_2.Takes.Gen,.int .i64 p_2.Cap,.slice a11 p_2.Params.length c12,.slice a14 p_2.Body.length c15]) (h:sema_body fu p_1 p_2=some r) (hS:Sq μ0 w0 w (rsF)):CallsV prog 140 [.pointer (some ⟨b1,o2,none⟩),.pointer (some ⟨b9,o10,none⟩)] w (fun v w'=>∃ (μ':M) ,v=.int .i64 r∧Le μ0 μ'∧Sq μ' w0 w' (rsF)):=by
 unfold sema_body at h
 refine enter func140 rfl (frm:=_::_::u2 (u2 (u5 (u20 (u20 []))))) rfl (nz (st (ny (nz ?_))))
 iterate 3 refine st ?_
 refine ld ((m17 _ hS.a).one d0) (st (nw ?_))
 refine cifd (et (k10 d2)) (fun h18=>?_) (fun h18=>?_)
 ·replace h:=iT h18 h
  refine nz (st (nw (cret (xr ?_))))
  obtain rfl:=Option.some.inj h
  refine ret1 rfl d4 ?_
  exact ⟨_,rfl,Le.r,hS⟩
 ·replace h:=iF h18 h
  refine cskip (xn (nz ?_))
  iterate 2 refine st ?_
  refine wl (s_mkmap hS ?_); clear hS; intro b19 w1 hb20 hS; refine po ?_
  refine wl (s_bsl underlying260 ti259 (Parts.s (et (k10 d5)) rfl Parts.z) rfl rfl hS ?_); clear hS; intro b21 w2 hb22 hS; refine po ?_
  refine wl (s_build ti262 pl262 (Fl.o rfl (et (k10 d3)) rfl rfl p0 (Fl.o rfl (et (k10 d4)) rfl rfl p1 (Fl.o rfl (et (k10 d6)) rfl rfl p2 Fl.z))) (dt (q10 p7)) ?_)
  refine wl (s_box (et (k10 d7)) rfl hS ?_); clear hS; intro b23 w3 hb24 hS; refine po ?_
  replace hS:=hS.blkRow (n:=1) (sz:=1) d1 rfl (by decide) p1
  replace hS:=(hS.bg Y1).bg Y1
  obtain ⟨ms25,hms26⟩:∃ x,x=([(b19,[],0)]:List (Nat×List MapEntry×Nat)):=⟨_,rfl⟩
  change Sq μ0 w0 _ (.blk b23 262 [.pointer (some ⟨b1,o2,none⟩),.pointer (some ⟨b9,o10,none⟩),.slice (some ⟨b21,0,none⟩) 1 1]::.row (.slice (some ⟨b21,0,none⟩) 1 1) 259 1 [([]:List (List UInt8×TType))].length (cellsOf [(b19,[],0)])::(mapsRes [(b19,[],0)]++rsF)) at hS; rw [← hms26] at hS
  have m27:Ms μ0 ms25 [([]:List (List UInt8×TType))]:=by rw [hms26]; exact ⟨_,_,rfl,(Mq.nil (κ:=List UInt8) (β:=TType) (μ:=μ0) (c:=0)),rfl⟩
  refine st (ny (nz ?_))
  iterate 3 refine st ?_
  refine ld ((m17 _ hS.a).one d0) (st (nw ?_))
  refine cifd (et (k20 d3)) (xT h) fun h28=>?_
  replace h:=iF h28 h
  refine cskip (xn (nz ?_))
  iterate 4 refine st ?_
  refine ld ((m17 _ hS.a).one d8) ?_
  replace h:=bI h; obtain ⟨r29,g30,h⟩:=h
  replace hS:=(hS.bg Y1).bg Y1
  refine ca ((SemaS_sound fu).sema_stats hg m5 m7 m8 m13 m16 m17 m27 m16 g30 hS) ?_
  rintro _ w4 ⟨μ1,v32,ms33,rfl,le31,hS,m34⟩
  refine po (st (nw (cret ?_)))
  obtain rfl:=Option.some.inj h
  refine ret1 rfl d4 ?_
  replace hS:=(hS.drop Rm.z).drop Rm.z
  replace hS:=hS.popM (pre:=[]) (j:=0)
  exact ⟨_,rfl,le31,hS⟩
theorem sema_named_w (hg:Le Gm μ0) {p_1:List TDef} {r:TSemaProgram×TFault} (m3:Sl μ0 a1 c2 p_1) (h:sema_named fu p_1=some r) (hS:Sq μ0 w0 w (rsF)):CallsV prog 108 [.slice a1 p_1.length c2] w (fun v w'=>∃ (μ':M) (b4:Nat) (o5:Nat) (a6:Option Addr) (c7:Nat) (b9:Nat),v=.tuple ⟨[.pointer (some ⟨b4,o5,none⟩),.agg ⟨[.int .i64 r.2.Err,.int .i64 r.2.At]⟩]⟩∧Le μ0 μ'∧Sq μ' w0 w' (rsF)∧Sl μ' a6 c7 r.1.defs∧Mr μ' b9 r.1.named∧At μ' b4 o5 [.slice a6 r.1.defs.length c7,.map (some b9)]):=by
 unfold sema_named at h
 refine enter func108 rfl (frm:=_::u1 (u2 (u50 (u50 [])))) rfl (nz (st ?_))
 refine wl (s_alloc ti47 hS ?_); clear hS; intro b12 w1 hb13 hS; refine po ?_
 refine nx (st ?_)
 refine wl (s_mkmap hS ?_); clear hS; intro b14 w2 hb15 hS; refine po ?_
 refine wl (s_build ti238 pl238 (Fl.o rfl (et (k10 d4)) rfl rfl p0 (Fl.o rfl (et (k10 d5)) rfl rfl p1 Fl.z)) (dt (q10 p6)) ?_)
 refine wl (s_box (et (k10 d6)) rfl hS ?_); clear hS; intro b16 w3 hb17 hS; refine po ?_
 refine st (ny (nz (st ?_)))
 replace h:=bI h; obtain ⟨r18,g19,h⟩:=h
 refine ca (syn_wrong_w hg m3 g19 hS) ?_
 rintro _ w4 ⟨μ1,rfl,le20,hS⟩
 refine po ?_
 refine wl (s_alloc ti47 hS ?_); clear hS; intro b21 w5 hb22 hS; refine po ?_
 refine wl (s_storeA ti47 (et d5) (et (k10 d9)) rfl rfl hS d0 rfl p0 dn ?_)
 clear hS; intro w6 hS
 refine nx (st (ld ((hS.blk d0).cell d0) (st (nw ?_))))
 refine cifd (et (k20 d2)) (xT h) fun h23=>?_
 replace h:=iF h23 h
 refine cskip (xn (nz (st (ny (nz (st (wl (s_lensl underlying45 (et (k20 d5)) (dt (q20 p6)) (st (nw (cblock ?_)))))))))))
 replace hS:=((hS.drop Rm.z).bg Y1).bg Y2
 refine cloopE ([2]++List.range' 7 3++List.range' 28 40) (by decide +kernel) (fun n m w=>∃ μx i90 i91 l94 es92 c93,m=(yK2 (yO1 2 (yK3 (.i (.int .i64 i90)::(yO3 7 (yK10 (yK7 (.i (.int .i64 i91)::(yO20 28 (yO20 48 []))))))))))∧sema_named_l1 fu p_1 n i90 i91 l94=some r∧Le μ1 μx∧Sq μx w0 w (.blk b12 47 [.int .i64 0,.int .i64 0]::.map b14 es92 c93::.blk b16 238 [.slice a1 p_1.length c2,.map (some b14)]::rsF)∧Mq μx es92 c93 l94) (by rintro _ _ _ ⟨_,_,_,_,_,_,rfl,_⟩; rfl) _ _ (aK2 (aO1 (aK3 (aI (aO3 (aK10 (aK7 (aI (aO20 (aO20 aZ)))))))))) ⟨_,0,0,([]:List (List UInt8×TDef)),[],0,rfl,h,Le.r,hS,((Mq.nil (κ:=List UInt8) (β:=TDef) (μ:=μ0) (c:=0)).up le20)⟩ ?_
 rintro n_1 _ t w7 ⟨μ2,i90,i91,l94,es92,c93,rfl,h,le162,hS,m163⟩
 cases n_1 with
 | zero=>cases h
 | succ n_1 =>
 unfold sema_named_l1 at h
 refine cnrm (mK2 (mO1 (mK3 (mi (mO3 (mK10 (mK7 (mi (mO20 (mO20 mz)))))))))) (nz (st (ny ?_)))
 refine cifd (et (k20 d8)) (fun h164=>?_) (fun h164=>?_)
 ·replace h:=iT h164 h
  refine cskip (xn (cseq (cblock (nz ?_))))
  iterate 2 refine st ?_
  refine ny (cseq ?_)
  refine cdraw (by kernel_rfl) rfl fun w8 hh_ ho_ ht_ hu_=>?_
  replace hS:=hS.drew hh_ ho_ ht_ hu_
  refine cpi 0 rfl (cpi 1 rfl (cpi 2 rfl (cpi 4 rfl (cpi 5 rfl ?_))))
  replace h:=bI h; obtain ⟨x165,g166,h⟩:=h
  obtain ⟨b167,o168,cs169,e170,f171,m172⟩:=SlR.elem (m3.up (le20.t le162)) g166
  obtain ⟨a173,c174,a176,c177,rfl,m175,m178⟩:=m172
  refine cp 6 rfl (u_iax underlying45 ti93 (et (k30 d5)) (et (k30 d6)) e170) (q30 p7) (cpi 7 rfl (cr 3 [3,9,10,11,12,13,14] rfl (u_load ti98 (et (k30 d3)) ((hS.blk d2).cell d1)) (q30 p4) (cr 8 [8,9,10,11,12,13,14] rfl (u_load ti9 (et (k30 d8)) ((f171 _ hS.a).one d1)) (q30 p9) ?_)))
  refine sc1 rfl rfl rfl (s_mgetP2 (κ:=List UInt8) (k:=x165.Name) (hrv:=fun _ _ h=>h) underlying98 underlying9 (et (k30 d4)) (et (k30 d9)) zv101 (hS.get d1) m163 ?_); intro v179 hv180; refine po ?_
  refine cpi 10 rfl (cpi 11 rfl (cpi 12 rfl (cpi 13 rfl (cpi 14 rfl (nu (nz (st (nw ?_))))))))
  refine cifb (et (k40 d3)) (xT h) fun h181=>?_
  replace h:=iF h181 h
  refine cskip (xn (cseq ?_))
  refine cdraw (by kernel_rfl) rfl fun w9 hh_ ho_ ht_ hu_=>?_
  replace hS:=hS.drew hh_ ho_ ht_ hu_
  refine cpi 0 rfl (cpi 1 rfl (cpi 2 rfl (cpi 4 rfl (cpi 5 rfl ?_))))
  replace h:=bI h; obtain ⟨x182,g183,h⟩:=h
  obtain ⟨b184,o185,cs186,e187,f188,m189⟩:=SlR.elem (m3.up (le20.t le162)) g183
  obtain ⟨a190,c191,a193,c194,rfl,m192,m195⟩:=m189
  refine cp 6 rfl (u_iax underlying45 ti93 (et (k50 d1)) (et (k50 d2)) e187) (q50 p3) (cpi 7 rfl (cpi 9 rfl (cpi 10 rfl ?_)))
  replace h:=bI h; obtain ⟨x196,g197,h⟩:=h
  obtain ⟨b198,o199,cs200,e201,f202,m203⟩:=SlR.elem (m3.up (le20.t le162)) g197
  obtain ⟨a204,c205,a207,c208,rfl,m206,m209⟩:=m203
  refine cp 11 rfl (u_iax underlying45 ti93 (et (k50 d6)) (et (k50 d7)) e201) (q50 p8) (cr 3 [3,12] rfl (u_load ti98 (et (k40 d9)) ((hS.blk d2).cell d1)) (q50 p0) (cr 8 [8,12] rfl (u_load ti9 (et (k50 d4)) ((f188 _ hS.a).one d1)) (q50 p5) ?_))
  refine sc1 rfl rfl rfl (s_mputM (κ:=List UInt8) (β:=TDef) (kk:=x182.Name) (xx:=x196) underlying98 underlying9 (et (k50 d0)) (et (k50 d5)) (et (k50 d8)) ⟨_,_,_,rfl,f202,(TDef.i ⟨a204,c205,a207,c208,rfl,m206,m209⟩)⟩ hS d1 m163 dn ?_); clear hS; intro es210 c211 w10 rs_ m212 hp_ hS; cases (show _=rs_ from hp_)
  replace hS:=Sep.reput hS p1
  refine nu (nz ?_)
  iterate 2 refine st ?_
  replace h:=bI h; obtain ⟨x213,g214,h⟩:=h
  obtain ⟨b215,o216,cs217,e218,f219,m220⟩:=SlR.elem (m3.up (le20.t le162)) g214
  obtain ⟨a221,c222,a224,c225,rfl,m223,m226⟩:=m220
  refine wl (s_iax underlying45 ti93 (et (k50 d9)) (et (k60 d0)) e218 (dt (q60 p1)) (st (ld ((f219 _ hS.a).one d0) (st (nw ?_)))))
  refine cifd (et (k60 d4)) (fun h227=>?_) (fun h227=>?_)
  ·replace h:=iT h227 h
   refine creg (st ?_)
   replace h:=bI h; obtain ⟨i228,g229,h⟩:=h
   refine wl (s_addc (et (k60 d5)) ec g229 (dt (q60 p6)) (st (wnil ?_)))
   refine (fun h=>bn (xn h)) ?_
   refine creg ?_
   replace h:=bI h; obtain ⟨i230,g231,h⟩:=h
   refine wl (s_addc (et (k20 d7)) ec g231 (dt (q60 p7)) (st (wnil (xl ?_))))
   exact ⟨n_1,_,_,rfl,(aK2 (aO1 (aK3 (aI (aO3 (aK10 (aK7 (aI (aO20 (aO20 aZ)))))))))),⟨_,i228,i230,(mput l94 x182.Name x196),es210,c211,rfl,h,le162,hS,m212⟩,Nat.lt_succ_self _⟩
  ·replace h:=iF h227 h
   refine cskip ?_
   refine (fun h=>bn (xn h)) ?_
   refine creg ?_
   replace h:=bI h; obtain ⟨i232,g233,h⟩:=h
   refine wl (s_addc (et (k20 d7)) ec g233 (dt (q60 p7)) (st (wnil (xl ?_))))
   exact ⟨n_1,_,_,rfl,(aK2 (aO1 (aK3 (aI (aO3 (aK10 (aK7 (aI (aO20 (aO20 aZ)))))))))),⟨_,i90,i232,(mput l94 x182.Name x196),es210,c211,rfl,h,le162,hS,m212⟩,Nat.lt_succ_self _⟩
 ·replace h:=iF h164 h
  refine cexit ?_
  refine (fun h=>xe (xe (bh h))) ?_
  refine xn (cseq (nz ?_))
  iterate 2 refine st ?_
  refine nw ?_
  refine cifd (et (k60 d9)) (xT h) fun h234=>?_
  replace h:=iF h234 h
  refine cskip (xn (cseq (nz (st ?_))))
  replace hS:=hS.bg Y1
  obtain ⟨μ3,le236,m235,hS⟩:=Sep.frzMap hS m163
  replace hS:=hS.bg Y1
  obtain ⟨μ4,le238,m237,hS⟩:=Sep.frzAt hS
  refine wl (s_mkfn (e1 (et (k70 d4)) e0) e0 (dt (q70 p5)) (st (wl (s_mkfn (e1 (et (k70 d6)) e0) e0 (dt (q70 p7)) ?_))))
  refine wl (s_bsl underlying240 ti152 (Parts.s (et (k70 d5)) rfl (Parts.s (et (k70 d7)) rfl Parts.z)) rfl rfl hS ?_); clear hS; intro b239 w11 hb240 hS; refine po ?_
  refine wl (s_lensl underlying240 (et (k70 d8)) (dt (q70 p9)) (st (nw (cblock (cunroll 3 (crnd (nz (st (ny (cift (et (k80 d1)) (cskip (xn (cseq (cblock (nz (wl (s_ia underlying240 ti152 (et (k70 d8)) (et (k80 d0)) (by decide) rfl (dt (q80 p2)) (ld ((hS.blk d0).cell d0) (st (nx (st (wl (s_lensl underlying45 (et (k80 d4)) (dt (q80 p5)) (st (nw (cblock ?_))))))))))))))))))))))))))
  replace hS:=hS.bg Y1
  refine cloopE ([2]++List.range' 12 2++List.range' 87 14) (by decide) (fun n m w=>∃ μx i258,m=(yK2 (yO1 2 (yK9 (yO2 12 (yK50 (yK20 (yK2 (.i (.int .i64 i258)::(yO10 87 (yO4 97 []))))))))))∧sema_named_l2 fu p_1 l94 n i258=some r∧Le μ4 μx∧Sq μx w0 w (.blk b12 47 [.int .i64 0,.int .i64 0]::.blk b239 152 [.func (.func 139) ⟨[.pointer (some ⟨b16,0,none⟩)]⟩ ⟨[]⟩,.func (.func 140) ⟨[.pointer (some ⟨b16,0,none⟩)]⟩ ⟨[]⟩]::rsF)) (by rintro _ _ _ ⟨_,_,rfl,_⟩; rfl) _ _ (aK2 (aO1 (aK9 (aO2 (aK50 (aK20 (aK2 (aI (aO10 (aO4 aZ)))))))))) ⟨_,0,rfl,h,Le.r,hS⟩ ?_
  rintro n_2 _ t w12 ⟨μ5,i258,rfl,h,le278,hS⟩
  cases n_2 with
  | zero=>cases h
  | succ n_2 =>
  unfold sema_named_l2 at h
  refine cnrm (mK2 (mO1 (mK9 (mO2 (mK50 (mK20 (mK2 (mi (mO10 (mO4 mz)))))))))) (nz (st (ny ?_)))
  refine cifd (et (k80 d7)) (fun h279=>?_) (fun h279=>?_)
  ·replace h:=iT h279 h
   refine cskip (xn (cseq (cblock (nz ?_))))
   iterate 2 refine st ?_
   refine nx ?_
   iterate 3 refine st ?_
   replace h:=bI h; obtain ⟨x280,g281,h⟩:=h
   obtain ⟨b282,o283,cs284,e285,f286,m287⟩:=SlR.elem (m3.up (le20.t (le162.t (le236.t (le238.t le278))))) g281
   obtain ⟨a288,c289,a291,c292,rfl,m290,m293⟩:=m287
   refine wl (s_iax underlying45 ti93 (et (k90 d0)) (et (k90 d1)) e285 (dt (q90 p2)) ?_)
   replace h:=bI h; obtain ⟨r294,g295,h⟩:=h
   refine wl (s_callB isfn139 (et (k80 d9)) (e1 (et (k90 d2)) e0) (sema_head_w (p_1:=(TSemaProgram.mk p_1 l94)) (hg.t (le20.t (le162.t (le236.t (le238.t le278))))) (m3.up (le20.t (le162.t (le236.t (le238.t le278))))) (m235.up (le238.t le278)) (m237.up le278) m290 m293 f286 g295 hS) ?_)
   rintro _ w13 ⟨μ6,rfl,le296,hS⟩
   refine po (st (nx ?_))
   iterate 2 refine st ?_
   refine nw ?_
   refine cifd (et (k90 d5)) (xT h) fun h297=>?_
   replace h:=iF h297 h
   refine cskip ?_
   refine (fun h=>bn (xn h)) ?_
   refine creg ?_
   replace h:=bI h; obtain ⟨i298,g299,h⟩:=h
   refine wl (s_addc (et (k80 d6)) ec g299 (dt (q100 p0)) (st (wnil (xl ?_))))
   exact ⟨n_2,_,_,rfl,(aK2 (aO1 (aK9 (aO2 (aK50 (aK20 (aK2 (aI (aO10 (aO4 aZ)))))))))),⟨_,i298,rfl,h,(le278.t le296),hS⟩,Nat.lt_succ_self _⟩
  ·replace h:=iF h279 h
   refine cexit ?_
   refine (fun h=>xe (xe (bh h))) ?_
   refine (fun h=>bn (xn h)) ?_
   refine creg (wl (s_addc (et (k80 d0)) ec (c:=1) (by decide) (dt (q100 p1)) (st (wnil (xl (xrnd (crnd (nz (st (ny (cift (et (k80 d1)) (cskip (xn (cseq (cblock (nz (wl (s_ia underlying240 ti152 (et (k70 d8)) (et (k80 d0)) (by decide) rfl (dt (q80 p2)) (ld ((hS.blk d1).cell d1) (st (nx (st (wl (s_lensl underlying45 (et (k80 d4)) (dt (q80 p5)) (st (nw (cblock ?_)))))))))))))))))))))))))))
   refine cloopE ([2]++List.range' 12 2++List.range' 87 14) (by decide) (fun n m w=>∃ μx i317,m=(yK2 (yO1 2 (yK9 (yO2 12 (yK50 (yK20 (yK2 (.i (.int .i64 i317)::(yO10 87 (yO4 97 []))))))))))∧sema_named_l3 fu p_1 l94 n i317=some r∧Le μ5 μx∧Sq μx w0 w (.blk b12 47 [.int .i64 0,.int .i64 0]::.blk b239 152 [.func (.func 139) ⟨[.pointer (some ⟨b16,0,none⟩)]⟩ ⟨[]⟩,.func (.func 140) ⟨[.pointer (some ⟨b16,0,none⟩)]⟩ ⟨[]⟩]::rsF)) (by rintro _ _ _ ⟨_,_,rfl,_⟩; rfl) _ _ (aK2 (aO1 (aK9 (aO2 (aK50 (aK20 (aK2 (aI (aO10 (aO4 aZ)))))))))) ⟨_,0,rfl,h,Le.r,hS⟩ ?_
   rintro n_3 _ t w14 ⟨μ7,i317,rfl,h,le337,hS⟩
   cases n_3 with
   | zero=>cases h
   | succ n_3 =>
   unfold sema_named_l3 at h
   refine cnrm (mK2 (mO1 (mK9 (mO2 (mK50 (mK20 (mK2 (mi (mO10 (mO4 mz)))))))))) (nz (st (ny ?_)))
   refine cifd (et (k80 d7)) (fun h338=>?_) (fun h338=>?_)
   ·replace h:=iT h338 h
    refine cskip (xn (cseq (cblock (nz ?_))))
    iterate 2 refine st ?_
    refine nx ?_
    iterate 3 refine st ?_
    replace h:=bI h; obtain ⟨x339,g340,h⟩:=h
    obtain ⟨b341,o342,cs343,e344,f345,m346⟩:=SlR.elem (m3.up (le20.t (le162.t (le236.t (le238.t (le278.t le337)))))) g340
    obtain ⟨a347,c348,a350,c351,rfl,m349,m352⟩:=m346
    refine wl (s_iax underlying45 ti93 (et (k90 d0)) (et (k90 d1)) e344 (dt (q90 p2)) ?_)
    replace h:=bI h; obtain ⟨r353,g354,h⟩:=h
    refine wl (s_callB isfn140 (et (k80 d9)) (e1 (et (k90 d2)) e0) (sema_body_w (p_1:=(TSemaProgram.mk p_1 l94)) (hg.t (le20.t (le162.t (le236.t (le238.t (le278.t le337)))))) (m3.up (le20.t (le162.t (le236.t (le238.t (le278.t le337)))))) (m235.up (le238.t (le278.t le337))) (m237.up (le278.t le337)) m349 m352 f345 g354 hS) ?_)
    rintro _ w15 ⟨μ8,rfl,le355,hS⟩
    refine po (st (nx ?_))
    iterate 2 refine st ?_
    refine nw ?_
    refine cifd (et (k90 d5)) (xT h) fun h356=>?_
    replace h:=iF h356 h
    refine cskip ?_
    refine (fun h=>bn (xn h)) ?_
    refine creg ?_
    replace h:=bI h; obtain ⟨i357,g358,h⟩:=h
    refine wl (s_addc (et (k80 d6)) ec g358 (dt (q100 p0)) (st (wnil (xl ?_))))
    exact ⟨n_3,_,_,rfl,(aK2 (aO1 (aK9 (aO2 (aK50 (aK20 (aK2 (aI (aO10 (aO4 aZ)))))))))),⟨_,i357,rfl,h,(le337.t le355),hS⟩,Nat.lt_succ_self _⟩
   ·replace h:=iF h338 h
    refine cexit ?_
    refine (fun h=>xe (xe (bh h))) ?_
    refine (fun h=>bn (xn h)) ?_
    refine creg (wl (s_addc (et (k80 d0)) ec (c:=2) (by decide) (dt (q100 p1)) (st (wnil (xl (xrnd (crnd (nz (st (ny (ciff (et (k80 d1)) (cexit ?_))))))))))))
    refine (fun h=>xe (xe (bh h))) ?_
    refine xn (nz (st (wl (s_build ti47 pl47 Fl.z (dt (q100 p3)) (st (wl (s_storeA ti47 (et d3) (et (k100 d3)) rfl rfl hS d0 rfl p0 dn ?_)))))))
    clear hS; intro w16 hS
    refine nw (cret ?_)
    obtain rfl:=Option.some.inj h
    refine retN rfl (RVs.s (.t d2) (RVs.s (.a d3 ti47 (hS.blk d0).cells rfl) RVs.z)) ?_
    replace hS:=(hS.drop Rm.z).drop Rm.z
    exact ⟨_,_,0,_,_,_,rfl,(le20.t (le162.t (le236.t (le238.t (le278.t le337))))),hS,(m3.up (le20.t (le162.t (le236.t (le238.t (le278.t le337)))))),(m235.up (le238.t (le278.t le337))),(m237.up (le278.t le337))⟩
end Go.Proofs.YtegmgfljdeabeaaGreatDoor
