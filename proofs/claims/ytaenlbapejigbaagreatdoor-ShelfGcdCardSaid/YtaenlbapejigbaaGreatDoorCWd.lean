/- The shelf: texts of Wd. -/
import Derived.Test.YtaenlbapejigbaaGreatDoorCXu
import Derived.Test.YtaenlbapejigbaaGreatDoorCMd
import Derived.Test.YtaenlbapejigbaaGreatDoorCWc
set_option linter.unusedSimpArgs false
set_option linter.unusedVariables false
set_option linter.unusedSectionVars false
set_option maxRecDepth 100000
set_option maxHeartbeats 20000000
namespace Go.Proofs.YtaenlbapejigbaaGreatDoor
open Go.Wk Go.Xt Go.Y Tryz
variable {b1 b3 b20 b33 b39 c6 c9 c23 c31 o4:Nat} {a5 a8 a22 a30:Option Addr} {v12 v17 v26 v36 v41:Value} {cs18 cs27 cs37 cs42:List Value} {μ0:M} {w0 w:World} {rsF:List Res}
theorem vm_step_w (hg:Le Gm μ0) {m_2:TModule} {stat_13 box_14 trap_15:Int} {out_16:List Int} {feed_21:List (List Int)} {took_25:List Int} {sent_29:List (List Int)} {stat_34:Int} {fram_35:List TVf} {l_40:List Int} {live_44 min_45 most_46:Int} {r:Bool×Int×Int×Int×List Int×List (List Int)×List Int×List (List Int)×Int×List TVf×List Int×Int×Int×Int} (m7:Sl μ0 a5 c6 m_2.Boxes) (m10:Sl μ0 a8 c9 m_2.Units) (m11:At μ0 b3 o4 [.slice a5 m_2.Boxes.length c6,.slice a8 m_2.Units.length c9]) (m19:Rw μ0 cs18 out_16) (m24:Sl μ0 a22 c23 feed_21) (m28:Rw μ0 cs27 took_25) (m32:Sl μ0 a30 c31 sent_29) (m38:Rw μ0 cs37 fram_35) (m43:Rw μ0 cs42 l_40) (h:vm_step m_2 stat_13 box_14 trap_15 out_16 feed_21 took_25 sent_29 stat_34 fram_35 l_40 live_44 min_45 most_46=some r) (hS:Sq μ0 w0 w (.blk b1 69 [.pointer (some ⟨b3,o4,none⟩),.iface 57 (.pointer (some ⟨b20,0,none⟩)),v12,.pointer (some ⟨b33,0,none⟩),.int .i64 stat_13,.int .i64 box_14,.int .i64 trap_15,v17,.nilFunc]::.row v17 2 1 out_16.length cs18::.blk b20 59 [.slice a22 feed_21.length c23,v26,.slice a30 sent_29.length c31]::.row v26 3 1 took_25.length cs27::.blk b33 114 [.int .i64 stat_34,.pointer none,v36,.pointer (some ⟨b39,0,none⟩)]::.row v36 117 3 fram_35.length cs37::.blk b39 181 [v41,.int .i64 live_44,.int .i64 min_45,.int .i64 most_46]::.row v41 2 1 l_40.length cs42::rsF)):CallsV prog 27 [.pointer (some ⟨b1,0,none⟩)] w (fun v w'=>∃ (μ':M) (v47:Value) (cs48:List Value) (a50:Option Addr) (c51:Nat) (v53:Value) (cs54:List Value) (a56:Option Addr) (c57:Nat) (v59:Value) (cs60:List Value) (v62:Value) (cs63:List Value),v=.bool r.1∧Le μ0 μ'∧Sq μ' w0 w' (.blk b1 69 [.pointer (some ⟨b3,o4,none⟩),.iface 57 (.pointer (some ⟨b20,0,none⟩)),v12,.pointer (some ⟨b33,0,none⟩),.int .i64 r.2.1,.int .i64 r.2.2.1,.int .i64 r.2.2.2.1,v47,.nilFunc]::.row v47 2 1 r.2.2.2.2.1.length cs48::.blk b20 59 [.slice a50 r.2.2.2.2.2.1.length c51,v53,.slice a56 r.2.2.2.2.2.2.2.1.length c57]::.row v53 3 1 r.2.2.2.2.2.2.1.length cs54::.blk b33 114 [.int .i64 r.2.2.2.2.2.2.2.2.1,.pointer none,v59,.pointer (some ⟨b39,0,none⟩)]::.row v59 117 3 r.2.2.2.2.2.2.2.2.2.1.length cs60::.blk b39 181 [v62,.int .i64 r.2.2.2.2.2.2.2.2.2.2.2.1,.int .i64 r.2.2.2.2.2.2.2.2.2.2.2.2.1,.int .i64 r.2.2.2.2.2.2.2.2.2.2.2.2.2]::.row v62 2 1 r.2.2.2.2.2.2.2.2.2.2.1.length cs63::rsF)∧Rw μ' cs48 r.2.2.2.2.1∧Sl μ' a50 c51 r.2.2.2.2.2.1∧Rw μ' cs54 r.2.2.2.2.2.2.1∧Sl μ' a56 c57 r.2.2.2.2.2.2.2.1∧Rw μ' cs60 r.2.2.2.2.2.2.2.2.2.1∧Rw μ' cs63 r.2.2.2.2.2.2.2.2.2.2.1):=by
 unfold vm_step at h
 refine enter func27 rfl (frm:=_::u50 (u50 (u50 (u50 (u50 []))))) rfl (nz (st (ny (nz (st ?_)))))
 obtain ⟨r65,g66,h⟩:=bI h
 replace hS:=((((hS.bg Y5).bg Y5).bg Y5).bg Y5).bg Y4
 refine ca (vm_look_w hg m7 m10 m11 m24 m28 m32 m38 g66 hS) ?_
 rintro _ w1 ⟨μ1,a68,c69,v71,cs72,a74,c75,v77,cs78,rfl,le67,hS,m70,m73,m76,m79⟩
 refine po (nx ?_)
 iterate 3 refine st ?_
 refine ld ((hS.blk d0).cell d4) (st (nw ?_))
 refine cifd (et (k10 d8)) (fun h80=>?_) (fun h80=>?_)
 ·replace h:=iT h80 h
  refine nz (st (nw (cret (xr ?_))))
  obtain rfl:=oI h
  refine ret1 rfl d2 ?_
  replace hS:=(((((((hS.bg Y7).bg Y7).bg Y6).bg Y6).bg Y6).bg Y6).bg Y7).bg Y7
  exact ⟨_,_,_,_,_,_,_,_,_,_,_,_,_,rfl,le67,hS,(m19.up le67),m70,m73,m76,m79,(m43.up le67)⟩
 ·replace h:=iF h80 h
  refine cskip (xn (cseq ?_))
  refine ccutE (rg 19 17) (by decide) (fun m w=>∃ μx i83 b81 o82,m=(yK3 (.i (.pointer (some ⟨b81,o82,none⟩))::(yK10 (yK5 (yO10 19 (yO7 29 []))))))∧vm_step_j1 m_2 out_16 stat_34 l_40 live_44 min_45 most_46 r65 i83=some r∧Le μ1 μx∧Sq μx w0 w (.blk b1 69 [.pointer (some ⟨b3,o4,none⟩),.iface 57 (.pointer (some ⟨b20,0,none⟩)),v12,.pointer (some ⟨b33,0,none⟩),.int .i64 r65.1,.int .i64 r65.2.1,.int .i64 r65.2.2.1,v17,.nilFunc]::.row v17 2 1 out_16.length cs18::.blk b20 59 [.slice a68 r65.2.2.2.1.length c69,v71,.slice a74 r65.2.2.2.2.2.1.length c75]::.row v71 3 1 r65.2.2.2.2.1.length cs72::.blk b33 114 [.int .i64 stat_34,.pointer none,v77,.pointer (some ⟨b39,0,none⟩)]::.row v77 117 3 r65.2.2.2.2.2.2.length cs78::.blk b39 181 [v41,.int .i64 live_44,.int .i64 min_45,.int .i64 most_46]::.row v41 2 1 l_40.length cs42::rsF)∧(fun (_:M)=>Elv v77 3 i83 b81 o82) μx) (by rintro _ _ ⟨_,_,_,_,rfl,_⟩; rfl) ?_ ?_
  ·refine cdw hS ?_; clear hS; intro w2 hS
   refine sf_start (fpi 0 [0,1,2,3,4,5,6,16,17] rfl (fpi 1 [1,2,3,4,5,6,16,17] rfl (fpi 2 [2,3,4,5,6,16,17] rfl (fr_ 3 [3,4,5,6,16,17] rfl (u_load ti66 (et (k20 d1)) ((hS.blk d0).cell d3)) (q20 p2) (fpi 4 [4,5,6,16,17] rfl (fpi 5 [5,6,16,17] rfl (fr_ 6 [6,16,17] rfl (u_load ti111 (et (k20 d4)) ((hS.blk d3).cell d2)) (q20 p5) (fpi 7 [7,8,9,10,11,12,13,14,15,16,17] rfl (fpi 8 [8,9,10,11,12,13,14,15,16,17] rfl (fpi 9 [9,10,11,12,13,14,15,16,17] rfl (fr_ 10 [10,11,12,13,14,15,16,17] rfl (u_load ti66 (et (k20 d8)) ((hS.blk d0).cell d3)) (q20 p9) (fpi 11 [11,12,13,14,15,16,17] rfl (fpi 12 [12,13,14,15,16,17] rfl (fr_ 13 [13,14,15,16,17] rfl (u_load ti111 (et (k30 d1)) ((hS.blk d3).cell d2)) (q30 p2) (sf1 rfl rfl rfl rfl (wn0 rfl) (su (u_lenv underlying111 (et (k30 d2)) (hS.get d4).isSl) (dt (q30 p3)) ?_))))))))))))))))
   refine ⟨(Mons.s (u_load ti111 (et (k20 d4)) ((hS.blk d3).cell d2)) (Mons.s (u_load ti66 (et (k20 d1)) ((hS.blk d0).cell d3)) Mons.z)),?_⟩
   obtain ⟨i85,g86,h⟩:=bI h
   refine fp 15 [15,16,17] rfl (u_subc (et (k30 d3)) ec g86) (q30 p4) ?_
   obtain ⟨x87,g88,h⟩:=bI h
   obtain ⟨b89,o90,pc91,cs92,sc93,ec94,e95,f96,m97,pn98,st99,m100⟩:=Row.elemS (α:=TVf) (hS.get d4) m79 rfl g88
   rw [ec94] at hS
   obtain rfl:=m97
   refine fp 16 [16,17] rfl (u_iax underlying111 ti117 (et (k20 d5)) (et (k30 d4)) e95) (q30 p5) (fpi 17 [17] rfl (sf_nil (xl ?_)))
   rw [← ec94] at hS
   replace hS:=(((((((hS.bg Y7).bg Y7).bg Y6).bg Y6).bg Y6).bg Y6).bg Y7).bg Y7
   exact ⟨_,_,rfl,(aK3 (aI (aK10 (aK5 (aO10 (aO7 aZ)))))),_,_,_,_,rfl,h,Le.r,hS,e95⟩
  ·rintro _ t w3 ⟨μ2,i83,b81,o82,rfl,h,le101,hS,m102⟩
   unfold vm_step_j1 at h
   refine nrm (mK3 (mi (mK10 (mK5 (mO10 (mO7 mz)))))) (xn (cseq ?_))
   refine cdw hS ?_; clear hS; intro w4 hS
   refine sf_start (fpi 0 [0,1,2,3,4,5,6,11,12,13,18,19,21] rfl (fpi 1 [1,2,3,4,5,6,11,12,13,18,19,21] rfl (fpi 2 [2,3,4,5,6,11,12,13,18,19,21] rfl (fr_ 3 [3,4,5,6,11,12,13,18,19,21] rfl (u_load ti54 (et (k30 d8)) ((hS.blk d0).cell d0)) (q30 p9) (fpi 4 [4,5,6,11,12,13,18,19,21] rfl (fpi 5 [5,6,11,12,13,18,19,21] rfl (fr_ 6 [6,11,12,13,18,19,21] rfl (u_load ti35 (et (k40 d1)) ((m11 _ ((le67.t le101) _ hS.a)).one d1)) (q40 p2) (fpi 7 [7,8,9,10,11,12,13,18,19,21] rfl (fpi 8 [8,9,10,11,12,13,18,19,21] rfl ?_)))))))))
   obtain ⟨x103,g104,h⟩:=bI h
   obtain ⟨b105,o106,pc107,cs108,sc109,ec110,e111,f112,m113,pn114,st115,m116⟩:=Row.elemS (α:=TVf) (hS.get d5) (m79.up le101) rfl g104
   obtain ⟨rfl,rfl⟩:=Elv.uniq m102 e111
   rw [ec110] at hS
   obtain rfl:=m113
   refine fpi 9 [9,10,11,12,13,18,19,21] rfl (fr_ 10 [10,11,12,13,18,19,21] rfl (u_load ti3 (et (k40 d5)) ((f112 _ _ _ (hS.get d5) rfl).one d0)) (q40 p6) ?_)
   obtain ⟨x117,g118,h⟩:=bI h
   obtain ⟨b119,o120,cs121,e122,f123,m124⟩:=SlR.elem (m10.up (le67.t le101)) g118
   obtain ⟨a125,c126,a128,c129,rfl,m127,m130⟩:=m124
   refine fp 11 [11,12,13,18,19,21] rfl (u_iax underlying35 ti103 (et (k40 d2)) (et (k40 d6)) e122) (q40 p7) (fpi 12 [12,13,18,19,21] rfl (fr_ 13 [13,18,19,21] rfl (u_load ti101 (et (k40 d8)) ((f123 _ hS.a).one d5)) (q40 p9) (fpi 14 [14,15,16,17,18,19,21] rfl (fpi 15 [15,16,17,18,19,21] rfl (fpi 16 [16,17,18,19,21] rfl (fr_ 17 [17,18,19,21] rfl (u_load ti3 (et (k50 d2)) ((f112 _ _ _ (hS.get d5) rfl).one d1)) (q50 p3) ?_))))))
   obtain ⟨x131,g132,h⟩:=bI h
   obtain ⟨b133,o134,cs135,e136,f137,m138⟩:=SlR.elem m130 g132
   obtain rfl:=m138
   refine fp 18 [18,19,21] rfl (u_iax underlying101 ti120 (et (k40 d9)) (et (k50 d3)) e136) (q50 p4) (fr_ 19 [19,21] rfl (u_loads ti120 (et (k50 d4)) (f137 _ hS.a) rfl) (q50 p5) ?_)
   refine sf1 rfl rfl rfl rfl (wn0 rfl) (s_alloc ti120 hS ?_); clear hS; intro b139 w5 hb140 hS; refine po ?_
   refine ⟨(Mons.s (u_loads ti120 (et (k50 d4)) (f137 _ hS.a) rfl) (Mons.s (u_load ti3 (et (k50 d2)) ((f112 _ _ _ (hS.get d6) rfl).one d1)) (Mons.s (u_load ti101 (et (k40 d8)) ((f123 _ hS.a).one d5)) (Mons.s (u_load ti3 (et (k40 d5)) ((f112 _ _ _ (hS.get d6) rfl).one d0)) (Mons.s (u_load ti35 (et (k40 d1)) ((m11 _ ((le67.t le101) _ hS.a)).one d1)) (Mons.s (u_load ti54 (et (k30 d8)) ((hS.blk d1).cell d0)) Mons.z)))))),?_⟩
   refine sf1 rfl rfl rfl rfl (wn0 rfl) (s_storeA ti120 (et d4) (et (k50 d5)) rfl rfl hS d0 rfl p0 dn ?_)
   clear hS; intro w6 hS
   refine ⟨Mons.z,?_⟩
   refine sf_nil (xn (nz ?_))
   iterate 3 refine st ?_
   refine ld ((f112 _ _ _ (hS.get d6) rfl).one d1) ?_
   obtain ⟨i141,g142,h⟩:=bI h
   refine wl (su (u_addc (et (k50 d9)) ec g142) (dt (q60 p0)) ?_)
   iterate 2 refine st ?_
   have m143:=st115 _ [.int .i64 x103.unit,.int .i64 i141,.int .i64 x103.base] (TVf.mk x103.unit i141 x103.base) Le.r rfl
   refine wl (s_storeR (off:=1) ti3 (et (k60 d2)) (et (k60 d0)) rfl rfl rfl hS d6 e111 (Nat.le_of_ble_eq_true rfl) (open_store pn114 rfl (Nat.le_of_ble_eq_true rfl)) p6 dn ?_); clear hS; intro w7 hS
   replace hS:Sq μ2 w0 w7 (.blk b139 120 [.int .i64 x131.Op,.int .i64 x131.A,.int .i64 x131.N]::.blk b1 69 [.pointer (some ⟨b3,o4,none⟩),.iface 57 (.pointer (some ⟨b20,0,none⟩)),v12,.pointer (some ⟨b33,0,none⟩),.int .i64 r65.1,.int .i64 r65.2.1,.int .i64 r65.2.2.1,v17,.nilFunc]::.row v17 2 1 out_16.length cs18::.blk b20 59 [.slice a68 r65.2.2.2.1.length c69,v71,.slice a74 r65.2.2.2.2.2.1.length c75]::.row v71 3 1 r65.2.2.2.2.1.length cs72::.blk b33 114 [.int .i64 stat_34,.pointer none,v77,.pointer (some ⟨b39,0,none⟩)]::.row v77 117 3 (r65.2.2.2.2.2.2.set i83.toNat (TVf.mk x103.unit i141 x103.base)).length (pc107++([.int .i64 x103.unit,.int .i64 i141,.int .i64 x103.base]++sc109))::.blk b39 181 [v41,.int .i64 live_44,.int .i64 min_45,.int .i64 most_46]::.row v41 2 1 l_40.length cs42::rsF):=by rw [List.length_set]; exact hS
   refine ny (nz (st (ld ((hS.blk d0).cell d0) (st (nw ?_)))))
   refine ccutE (rg 6 6++rg 65 184) (by decide +kernel) (fun m w=>∃ μx i144 i145 i146 l149 v147 cs148 l153 a151 c152 l157 a155 c156 l161 v159 cs160 i163 l166 v164 cs165 i168 i169 i170 l173 v171 cs172,m=(yK6 (yO6 6 (yK50 (yK3 (yO50 65 (yO50 115 (yO50 165 (yO20 215 (yO10 235 (yO4 245 []))))))))))∧vm_step_j2 m_2 i144 i145 i146 l149 l153 l157 l161 i163 l166 i168 i169 i170 l173=some r∧Le μ2 μx∧Sq μx w0 w (.blk b1 69 [.pointer (some ⟨b3,o4,none⟩),.iface 57 (.pointer (some ⟨b20,0,none⟩)),v12,.pointer (some ⟨b33,0,none⟩),.int .i64 i144,.int .i64 i145,.int .i64 i146,v147,.nilFunc]::.row v147 2 1 l149.length cs148::.blk b20 59 [.slice a151 l153.length c152,v159,.slice a155 l157.length c156]::.row v159 3 1 l161.length cs160::.blk b33 114 [.int .i64 i163,.pointer none,v164,.pointer (some ⟨b39,0,none⟩)]::.row v164 117 3 l166.length cs165::.blk b39 181 [v171,.int .i64 i168,.int .i64 i169,.int .i64 i170]::.row v171 2 1 l173.length cs172::rsF)∧Rw μx cs148 l149∧Sl μx a151 c152 l153∧Sl μx a155 c156 l157∧Rw μx cs160 l161∧Rw μx cs165 l166∧Rw μx cs172 l173) (by rintro _ _ ⟨_,_,_,_,_,_,_,_,_,_,_,_,_,_,_,_,_,_,_,_,_,_,_,_,_,_,rfl,_⟩; rfl) ?_ ?_
   ·refine cblock (nz ?_)
    iterate 3 refine st ?_
    refine nw ?_
    refine cifd (et (k60 d8)) (fun h175=>?_) (fun h175=>?_)
    ·replace h:=iT h175 h
     refine creg ?_
     iterate 2 refine st ?_
     refine ld ((hS.blk d0).cell d2) ?_
     obtain ⟨r176,g177,h⟩:=bI h
     replace hS:=(((hS.bg Y8).bg Y8).bg Y7).bg Y4
     refine ca (vm_push_w (hg.t (le67.t le101)) (m43.up (le67.t le101)) g177 hS) ?_
     rintro _ w8 ⟨μ3,v179,cs180,rfl,le178,hS,m181⟩
     refine po (wnil ?_)
     refine (fun h=>bn (xl h)) ?_
     replace hS:=((((((((hS.drop (Rm.s (Rm.s (Rm.s (Rm.s Rm.z))))).bg Y3).bg Y3).bg Y7).bg Y4).bg Y7).bg Y7).bg Y7).bg Y7
     exact ⟨_,_,rfl,(aK6 (aO6 (aK50 (aK3 (aO50 (aO50 (aO50 (aO20 (aO10 (aO4 aZ)))))))))),_,r176.1,r176.2.1,r176.2.2.1,out_16,_,_,r65.2.2.2.1,_,_,r65.2.2.2.2.2.1,_,_,r65.2.2.2.2.1,_,_,stat_34,(r65.2.2.2.2.2.2.set i83.toNat (TVf.mk x103.unit i141 x103.base)),_,(pc107++([.int .i64 x103.unit,.int .i64 i141,.int .i64 x103.base]++sc109)),r176.2.2.2.2.1,r176.2.2.2.2.2.1,r176.2.2.2.2.2.2,r176.2.2.2.1,_,_,rfl,h,le178,hS,(m19.up (le67.t (le101.t le178))),(m70.up (le101.t le178)),(m76.up (le101.t le178)),(m73.up (le101.t le178)),(m143.up le178),m181⟩
    ·replace h:=iF h175 h
     refine nz ?_
     iterate 3 refine st ?_
     refine nw ?_
     refine cifd (et (k70 d5)) (fun h182=>?_) (fun h182=>?_)
     ·replace h:=iT h182 h
      refine creg ?_
      iterate 2 refine st ?_
      refine ld ((hS.blk d0).cell d1) ?_
      obtain ⟨r183,g184,h⟩:=bI h
      replace hS:=(((hS.bg Y8).bg Y8).bg Y7).bg Y4
      refine ca (vm_push_w (hg.t (le67.t le101)) (m43.up (le67.t le101)) g184 hS) ?_
      rintro _ w9 ⟨μ4,v186,cs187,rfl,le185,hS,m188⟩
      refine po (wnil ?_)
      refine (fun h=>bn (xl h)) ?_
      replace hS:=((((((((hS.drop (Rm.s (Rm.s (Rm.s (Rm.s Rm.z))))).bg Y3).bg Y3).bg Y7).bg Y4).bg Y7).bg Y7).bg Y7).bg Y7
      exact ⟨_,_,rfl,(aK6 (aO6 (aK50 (aK3 (aO50 (aO50 (aO50 (aO20 (aO10 (aO4 aZ)))))))))),_,r183.1,r183.2.1,r183.2.2.1,out_16,_,_,r65.2.2.2.1,_,_,r65.2.2.2.2.2.1,_,_,r65.2.2.2.2.1,_,_,stat_34,(r65.2.2.2.2.2.2.set i83.toNat (TVf.mk x103.unit i141 x103.base)),_,(pc107++([.int .i64 x103.unit,.int .i64 i141,.int .i64 x103.base]++sc109)),r183.2.2.2.2.1,r183.2.2.2.2.2.1,r183.2.2.2.2.2.2,r183.2.2.2.1,_,_,rfl,h,le185,hS,(m19.up (le67.t (le101.t le185))),(m70.up (le101.t le185)),(m76.up (le101.t le185)),(m73.up (le101.t le185)),(m143.up le185),m188⟩
     ·replace h:=iF h182 h
      refine nz ?_
      iterate 3 refine st ?_
      refine nw ?_
      refine cifd (et (k80 d2)) (fun h189=>?_) (fun h189=>?_)
      ·replace h:=iT h189 h
       refine ccutE (rg 85 19) (by decide) (fun m w=>∃ μx i190 i191 i192 i193 i194 i195 l198 v196 cs197,m=(yK50 (yK20 (yK10 (yK5 (yO10 85 (yO9 95 []))))))∧vm_step_j3 m_2 out_16 stat_34 r65 i83 x103 i141 i190 i191 i192 i193 i194 i195 l198=some r∧Le μ2 μx∧Sq μx w0 w (.blk b1 69 [.pointer (some ⟨b3,o4,none⟩),.iface 57 (.pointer (some ⟨b20,0,none⟩)),v12,.pointer (some ⟨b33,0,none⟩),.int .i64 i190,.int .i64 i191,.int .i64 i192,v17,.nilFunc]::.row v17 2 1 out_16.length cs18::.blk b20 59 [.slice a68 r65.2.2.2.1.length c69,v71,.slice a74 r65.2.2.2.2.2.1.length c75]::.row v71 3 1 r65.2.2.2.2.1.length cs72::.blk b33 114 [.int .i64 stat_34,.pointer none,v77,.pointer (some ⟨b39,0,none⟩)]::.row v77 117 3 (r65.2.2.2.2.2.2.set i83.toNat (TVf.mk x103.unit i141 x103.base)).length (pc107++([.int .i64 x103.unit,.int .i64 i141,.int .i64 x103.base]++sc109))::.blk b39 181 [v196,.int .i64 i193,.int .i64 i194,.int .i64 i195]::.row v196 2 1 l198.length cs197::rsF)∧Rw μx cs197 l198) (by rintro _ _ ⟨_,_,_,_,_,_,_,_,_,_,rfl,_⟩; rfl) ?_ ?_
       ·refine cdw hS ?_; clear hS; intro w10 hS
        refine sf_start (fpi 0 [0,18] rfl (fpi 1 [1,2,3,4,5,6,7,15,16,17,18] rfl (fpi 2 [2,3,4,5,6,7,15,16,17,18] rfl (fpi 3 [3,4,5,6,7,15,16,17,18] rfl (fr_ 4 [4,5,6,7,15,16,17,18] rfl (u_load ti66 (et (k80 d8)) ((hS.blk d1).cell d3)) (q80 p9) (fpi 5 [5,6,7,15,16,17,18] rfl (fpi 6 [6,7,15,16,17,18] rfl (fr_ 7 [7,15,16,17,18] rfl (u_load ti112 (et (k90 d1)) ((hS.blk d5).cell d3)) (q90 p2) (fpi 8 [8,9,10,11,14,15,16,17,18] rfl (fpi 9 [9,10,11,14,15,16,17,18] rfl (fpi 10 [10,11,14,15,16,17,18] rfl (fr_ 11 [11,14,15,16,17,18] rfl (u_load ti3 (et (k90 d5)) ((f112 _ _ _ (row_lset (hS.get d6)) rfl).one d2)) (q90 p6) (fpi 12 [12,13,14,15,16,17,18] rfl (fr_ 13 [13,14,15,16,17,18] rfl (u_load ti3 (et (k90 d7)) ((hS.blk d0).cell d1)) (q90 p8) ?_))))))))))))))
        obtain ⟨i200,g201,h⟩:=bI h
        refine fp 14 [14,15,16,17,18] rfl (u_addc (et (k90 d6)) (et (k90 d8)) g201) (q90 p9) ?_
        obtain ⟨x202,g203,h⟩:=bI h
        obtain ⟨b204,o205,pc206,cs207,sc208,ec209,e210,f211,m212,pn213,st214,m215⟩:=Row.elemS (α:=Int) (hS.get d8) (m43.up (le67.t le101)) rfl g203
        rw [ec209] at hS
        obtain rfl:=m212
        replace hS:=hS.bg Y7
        refine sf1 rfl rfl rfl rfl (wn0 rfl) (s_callv isfn46 ef (e1 (et (k90 d2)) (e1 (et (k90 d9)) e0)) (st_at_w e210 hS) ?_)
        rintro _ w11 ⟨μ5,rfl,le216,hS⟩
        refine po ?_
        refine ⟨Mons.z,?_⟩
        refine fpi 16 [16,17,18] rfl (fr_ 17 [17,18] rfl (u_load ti2 (et (k100 d1)) ((f211 _ _ _ (hS.get d8) rfl).one d0)) (q100 p2) ?_)
        obtain ⟨r217,g218,h⟩:=bI h
        replace hS:=(((hS.bg Y8).bg Y1).bg Y7).bg Y4
        refine sf1 rfl rfl rfl rfl (wn0 rfl) (s_callv isfn45 ef (e1 (et (k80 d5)) (e1 (et (k100 d2)) e0)) (vm_push_w (hg.t (le67.t (le101.t le216))) (m215.up le216) g218 hS) ?_)
        rintro _ w12 ⟨μ6,v220,cs221,rfl,le219,hS,m222⟩
        refine po ?_
        refine ⟨Mons.z,?_⟩
        refine sf_nil (xl ?_)
        replace hS:=((((((((hS.drop (Rm.s (Rm.s (Rm.s (Rm.s Rm.z))))).bg Y3).bg Y3).bg Y7).bg Y4).bg Y7).bg Y7).bg Y7).bg Y7
        exact ⟨_,_,rfl,(aK50 (aK20 (aK10 (aK5 (aO10 (aO9 aZ)))))),_,r217.1,r217.2.1,r217.2.2.1,r217.2.2.2.2.1,r217.2.2.2.2.2.1,r217.2.2.2.2.2.2,r217.2.2.2.1,_,_,rfl,h,(le216.t le219),hS,m222⟩
       ·rintro _ t w13 ⟨μ7,i190,i191,i192,i193,i194,i195,l198,v196,cs197,rfl,h,le223,hS,m224⟩
        unfold vm_step_j3 at h
        refine nrm (mK50 (mK20 (mK10 (mK5 (mO10 (mO9 mz)))))) ?_
        refine (fun h=>bn (xl h)) ?_
        exact ⟨_,_,rfl,(aK6 (aO6 (aK50 (aK3 (aO50 (aO50 (aO50 (aO20 (aO10 (aO4 aZ)))))))))),_,_,_,_,out_16,_,_,r65.2.2.2.1,_,_,r65.2.2.2.2.2.1,_,_,r65.2.2.2.2.1,_,_,stat_34,(r65.2.2.2.2.2.2.set i83.toNat (TVf.mk x103.unit i141 x103.base)),_,(pc107++([.int .i64 x103.unit,.int .i64 i141,.int .i64 x103.base]++sc109)),_,_,_,_,_,_,rfl,h,le223,hS,(m19.up (le67.t (le101.t le223))),(m70.up (le101.t le223)),(m76.up (le101.t le223)),(m73.up (le101.t le223)),(m143.up le223),m224⟩
      ·replace h:=iF h189 h
       refine nz ?_
       iterate 3 refine st ?_
       refine nw ?_
       refine cifd (et (k100 d4)) (fun h225=>?_) (fun h225=>?_)
       ·replace h:=iT h225 h
        refine nz (st ?_)
        obtain ⟨r226,g227,h⟩:=bI h
        replace hS:=(((hS.bg Y8).bg Y8).bg Y7).bg Y4
        refine ca (vm_pop_w (hg.t (le67.t le101)) (m43.up (le67.t le101)) g227 hS) ?_
        rintro _ w14 ⟨μ8,v229,cs230,rfl,le228,hS,m231⟩
        refine po (st (nw ?_))
        refine ccutE (rg 109 17) (by decide) (fun m w=>∃ μx l234 v232 cs233,m=(yK50 (yK50 (yK9 (yO10 109 (yO7 119 [])))))∧vm_step_j4 m_2 out_16 stat_34 r65 i83 x103 i141 r226 l234=some r∧Le μ8 μx∧Sq μx w0 w (.blk b1 69 [.pointer (some ⟨b3,o4,none⟩),.iface 57 (.pointer (some ⟨b20,0,none⟩)),v12,.pointer (some ⟨b33,0,none⟩),.int .i64 r226.2.1,.int .i64 r226.2.2.1,.int .i64 r226.2.2.2.1,v17,.nilFunc]::.row v17 2 1 out_16.length cs18::.blk b20 59 [.slice a68 r65.2.2.2.1.length c69,v71,.slice a74 r65.2.2.2.2.2.1.length c75]::.row v71 3 1 r65.2.2.2.2.1.length cs72::.blk b33 114 [.int .i64 stat_34,.pointer none,v77,.pointer (some ⟨b39,0,none⟩)]::.row v77 117 3 (r65.2.2.2.2.2.2.set i83.toNat (TVf.mk x103.unit i141 x103.base)).length (pc107++([.int .i64 x103.unit,.int .i64 i141,.int .i64 x103.base]++sc109))::.blk b39 181 [v232,.int .i64 r226.2.2.2.2.2.1,.int .i64 r226.2.2.2.2.2.2.1,.int .i64 r226.2.2.2.2.2.2.2]::.row v232 2 1 l234.length cs233::rsF)∧Rw μx cs233 l234) (by rintro _ _ ⟨_,_,_,_,rfl,_⟩; rfl) ?_ ?_
        ·refine cdw hS ?_; clear hS; intro w15 hS
         refine sf_start (fpi 0 [0,1,2,3,4,5,6,14,16,17] rfl (fpi 1 [1,2,3,4,5,6,14,16,17] rfl (fpi 2 [2,3,4,5,6,14,16,17] rfl (fr_ 3 [3,4,5,6,14,16,17] rfl (u_load ti66 (et (k100 (k10 d1))) ((hS.blk d0).cell d3)) (q100 (q10 p2)) (fpi 4 [4,5,6,14,16,17] rfl (fpi 5 [5,6,14,16,17] rfl (fr_ 6 [6,14,16,17] rfl (u_load ti112 (et (k100 (k10 d4))) ((hS.blk d1).cell d3)) (q100 (q10 p5)) (fpi 7 [7,8,9,10,13,14,16,17] rfl (fpi 8 [8,9,10,13,14,16,17] rfl (fpi 9 [9,10,13,14,16,17] rfl (fr_ 10 [10,13,14,16,17] rfl (u_load ti3 (et (k100 (k10 d8))) ((f112 _ _ _ (row_lset (hS.get d8)) rfl).one d2)) (q100 (q10 p9)) (fpi 11 [11,12,13,14,16,17] rfl (fr_ 12 [12,13,14,16,17] rfl (u_load ti3 (et (k100 (k20 d0))) ((hS.blk d4).cell d1)) (q100 (q20 p1)) ?_)))))))))))))
         obtain ⟨i236,g237,h⟩:=bI h
         refine fp 13 [13,14,16,17] rfl (u_addc (et (k100 (k10 d9))) (et (k100 (k20 d1))) g237) (q100 (q20 p2)) (fpi 15 [15,16,17] rfl ?_)
         obtain ⟨x238,g239,h⟩:=bI h
         obtain ⟨b240,o241,pc242,cs243,sc244,ec245,e246,f247,m248,pn249,st250,m251⟩:=Row.elemS (α:=Int) (hS.get d3) m231 rfl g239
         rw [ec245] at hS
         obtain rfl:=m248
         replace hS:=hS.bg Y2
         refine sf1 rfl rfl rfl rfl (wn0 rfl) (s_callv isfn46 ef (e1 (et (k100 (k10 d5))) (e1 (et (k100 (k20 d2))) e0)) (st_at_w e246 hS) ?_)
         rintro _ w16 ⟨μ9,rfl,le252,hS⟩
         refine po ?_
         refine ⟨Mons.z,?_⟩
         refine fpi 16 [16,17] rfl ?_
         have m253:=st250 _ [.int .i64 r226.1] r226.1 le252 rfl
         refine sf1 rfl rfl rfl rfl (wn0 rfl) (s_storeR (off:=0) ti2 (et (k100 (k20 d5))) (et (k100 (k20 d4))) rfl rfl rfl hS d3 e246 (Nat.le_of_ble_eq_true rfl) (open_store pn249 rfl (Nat.le_of_ble_eq_true rfl)) p3 dn ?_); clear hS; intro w17 hS
         replace hS:Sq μ9 w0 w17 (.blk b39 181 [v229,.int .i64 r226.2.2.2.2.2.1,.int .i64 r226.2.2.2.2.2.2.1,.int .i64 r226.2.2.2.2.2.2.2]::.blk b1 69 [.pointer (some ⟨b3,o4,none⟩),.iface 57 (.pointer (some ⟨b20,0,none⟩)),v12,.pointer (some ⟨b33,0,none⟩),.int .i64 r226.2.1,.int .i64 r226.2.2.1,.int .i64 r226.2.2.2.1,v17,.nilFunc]::.blk b33 114 [.int .i64 stat_34,.pointer none,v77,.pointer (some ⟨b39,0,none⟩)]::.row v229 2 1 (r226.2.2.2.2.1.set i236.toNat r226.1).length (pc242++([.int .i64 r226.1]++sc244))::.blk b139 120 [.int .i64 x131.Op,.int .i64 x131.A,.int .i64 x131.N]::.row v17 2 1 out_16.length cs18::.blk b20 59 [.slice a68 r65.2.2.2.1.length c69,v71,.slice a74 r65.2.2.2.2.2.1.length c75]::.row v71 3 1 r65.2.2.2.2.1.length cs72::.row v77 117 3 (r65.2.2.2.2.2.2.set i83.toNat (TVf.mk x103.unit i141 x103.base)).length (pc107++([.int .i64 x103.unit,.int .i64 i141,.int .i64 x103.base]++sc109))::rsF):=by rw [List.length_set]; exact hS
         refine ⟨Mons.z,?_⟩
         refine sf_nil (xl ?_)
         replace hS:=((((((((hS.drop (Rm.s (Rm.s (Rm.s (Rm.s Rm.z))))).bg Y3).bg Y1).bg Y7).bg Y4).bg Y7).bg Y7).bg Y7).bg Y7
         exact ⟨_,_,rfl,(aK50 (aK50 (aK9 (aO10 (aO7 aZ))))),_,(r226.2.2.2.2.1.set i236.toNat r226.1),_,(pc242++([.int .i64 r226.1]++sc244)),rfl,h,le252,hS,m253⟩
        ·rintro _ t w18 ⟨μ10,l234,v232,cs233,rfl,h,le254,hS,m255⟩
         unfold vm_step_j4 at h
         refine nrm (mK50 (mK50 (mK9 (mO10 (mO7 mz))))) ?_
         refine (fun h=>bn (xl h)) ?_
         exact ⟨_,_,rfl,(aK6 (aO6 (aK50 (aK3 (aO50 (aO50 (aO50 (aO20 (aO10 (aO4 aZ)))))))))),_,r226.2.1,r226.2.2.1,r226.2.2.2.1,out_16,_,_,r65.2.2.2.1,_,_,r65.2.2.2.2.2.1,_,_,r65.2.2.2.2.1,_,_,stat_34,(r65.2.2.2.2.2.2.set i83.toNat (TVf.mk x103.unit i141 x103.base)),_,(pc107++([.int .i64 x103.unit,.int .i64 i141,.int .i64 x103.base]++sc109)),r226.2.2.2.2.2.1,r226.2.2.2.2.2.2.1,r226.2.2.2.2.2.2.2,_,_,_,rfl,h,(le228.t le254),hS,(m19.up (le67.t (le101.t (le228.t le254)))),(m70.up (le101.t (le228.t le254))),(m76.up (le101.t (le228.t le254))),(m73.up (le101.t (le228.t le254))),(m143.up (le228.t le254)),m255⟩
       ·replace h:=iF h225 h
        refine nz ?_
        iterate 3 refine st ?_
        refine nw ?_
        refine cifd (et (k100 (k20 d6))) (xT h) fun h256=>?_
        replace h:=iF h256 h
        refine nz ?_
        iterate 3 refine st ?_
        refine nw ?_
        refine cifd (et (k100 (k30 d1))) (xT h) fun h257=>?_
        replace h:=iF h257 h
        refine nz ?_
        iterate 3 refine st ?_
        refine nw ?_
        refine cifd (et (k100 (k30 d9))) (xT h) fun h258=>?_
        replace h:=iF h258 h
        refine nz ?_
        iterate 3 refine st ?_
        refine wspd (k100 (k50 d0)) (q100 (q50 p0)) (q100 (q50 p0)) (fun h259=>?_) (xF h)
        replace h:=iT h259 h
        refine sy rfl (sy rfl ?_)
        iterate 2 refine st ?_
        refine nw ?_
        refine cifd (et (k100 (k40 d7))) (fun h260=>?_) (fun h260=>?_)
        ·replace h:=iT h260 h
         refine nz (st ?_)
         obtain ⟨r261,g262,h⟩:=bI h
         replace hS:=(((hS.bg Y8).bg Y8).bg Y7).bg Y4
         refine ca (vm_pop_w (hg.t (le67.t le101)) (m43.up (le67.t le101)) g262 hS) ?_
         rintro _ w19 ⟨μ11,v264,cs265,rfl,le263,hS,m266⟩
         refine po (st ?_)
         obtain ⟨r267,g268,h⟩:=bI h
         replace hS:=(((hS.bg Y3).bg Y3).bg Y3).bg Y3
         refine ca (vm_pop_w (hg.t (le67.t (le101.t le263))) m266 g268 hS) ?_
         rintro _ w20 ⟨μ12,v270,cs271,rfl,le269,hS,m272⟩
         refine po ?_
         iterate 2 refine st ?_
         refine ny (cseq ?_)
         refine ccutE (rg 158 9) (by decide) (fun m w=>∃ μx b273,m=(yK50 (yK50 (yK50 (yK8 (yO9 158 (.i (.bool b273)::[]))))))∧vm_step_j5 m_2 out_16 stat_34 r65 i83 x103 x131 i141 r261 r267 b273=some r∧Le μ12 μx∧Sq μx w0 w (.blk b1 69 [.pointer (some ⟨b3,o4,none⟩),.iface 57 (.pointer (some ⟨b20,0,none⟩)),v12,.pointer (some ⟨b33,0,none⟩),.int .i64 r267.2.1,.int .i64 r267.2.2.1,.int .i64 r267.2.2.2.1,v17,.nilFunc]::.row v17 2 1 out_16.length cs18::.blk b20 59 [.slice a68 r65.2.2.2.1.length c69,v71,.slice a74 r65.2.2.2.2.2.1.length c75]::.row v71 3 1 r65.2.2.2.2.1.length cs72::.blk b33 114 [.int .i64 stat_34,.pointer none,v77,.pointer (some ⟨b39,0,none⟩)]::.row v77 117 3 (r65.2.2.2.2.2.2.set i83.toNat (TVf.mk x103.unit i141 x103.base)).length (pc107++([.int .i64 x103.unit,.int .i64 i141,.int .i64 x103.base]++sc109))::.blk b39 181 [v270,.int .i64 r267.2.2.2.2.2.1,.int .i64 r267.2.2.2.2.2.2.1,.int .i64 r267.2.2.2.2.2.2.2]::.row v270 2 1 r267.2.2.2.2.1.length cs271::rsF)) (by rintro _ _ ⟨_,_,rfl,_⟩; rfl) ?_ ?_
         ·refine creg ?_
          iterate 3 refine st ?_
          refine wspd (k100 (k60 d0)) (q100 (q60 p0)) (q100 (q60 p0)) (fun h274=>?_) (fun h274=>?_)
          ·replace h:=iT h274 h
           refine sn rfl rfl (sn rfl rfl ?_)
           iterate 2 refine st ?_
           refine sy rfl (sy rfl (st (wnil (xl ?_))))
           replace hS:=((((((((hS.drop (Rm.s (Rm.s (Rm.s (Rm.s Rm.z))))).bg Y3).bg Y3).bg Y7).bg Y4).bg Y7).bg Y7).bg Y7).bg Y7
           exact ⟨_,_,rfl,(aK50 (aK50 (aK50 (aK8 (aO9 (aI aZ)))))),_,(decide (r261.1=0)),rfl,h,Le.r,hS⟩
          ·replace h:=iF h274 h
           refine sy rfl (sy rfl ?_)
           iterate 2 refine st ?_
           refine wspd (k100 (k60 d4)) (q100 (q60 p4)) (q100 (q60 p4)) (fun h275=>?_) (fun h275=>?_)
           ·replace h:=iT h275 h
            refine sy rfl (sy rfl (st (wnil (xl ?_))))
            replace hS:=((((((((hS.drop (Rm.s (Rm.s (Rm.s (Rm.s Rm.z))))).bg Y3).bg Y3).bg Y7).bg Y4).bg Y7).bg Y7).bg Y7).bg Y7
            exact ⟨_,_,rfl,(aK50 (aK50 (aK50 (aK8 (aO9 (aI aZ)))))),_,(decide (r261.1=0)),rfl,h,Le.r,hS⟩
           ·replace h:=iF h275 h
            refine sn rfl rfl (sn rfl rfl (st (wnil (xl ?_))))
            replace hS:=((((((((hS.drop (Rm.s (Rm.s (Rm.s (Rm.s Rm.z))))).bg Y3).bg Y3).bg Y7).bg Y4).bg Y7).bg Y7).bg Y7).bg Y7
            exact ⟨_,_,rfl,(aK50 (aK50 (aK50 (aK8 (aO9 (aI aZ)))))),_,false,rfl,h,Le.r,hS⟩
         ·rintro _ t w21 ⟨μ13,b273,rfl,h,le276,hS⟩
          unfold vm_step_j5 at h
          refine nrm (mK50 (mK50 (mK50 (mK8 (mO9 (mi mz)))))) (xn ?_)
          refine cifb (et (k100 (k60 d7))) (xT h) fun h277=>?_
          replace h:=iF h277 h
          refine cskip (xn (creg ?_))
          iterate 4 refine st ?_
          obtain ⟨r278,g279,h⟩:=bI h
          refine ca (vm_two_w (hg.t (le67.t (le101.t (le263.t (le269.t le276))))) g279 hS) ?_
          rintro _ w22 ⟨μ14,rfl,le280,hS⟩
          refine po ?_
          obtain ⟨r281,g282,h⟩:=bI h
          replace hS:=(((hS.bg Y7).bg Y7).bg Y6).bg Y3
          refine ca (vm_push_w (hg.t (le67.t (le101.t (le263.t (le269.t (le276.t le280)))))) (m272.up (le276.t le280)) g282 hS) ?_
          rintro _ w23 ⟨μ15,v284,cs285,rfl,le283,hS,m286⟩
          refine po (wnil ?_)
          refine (fun h=>bn (xl h)) ?_
          replace hS:=(((((((hS.bg Y3).bg Y3).bg Y7).bg Y4).bg Y7).bg Y7).bg Y7).bg Y7
          exact ⟨_,_,rfl,(aK6 (aO6 (aK50 (aK3 (aO50 (aO50 (aO50 (aO20 (aO10 (aO4 aZ)))))))))),_,r281.1,r281.2.1,r281.2.2.1,out_16,_,_,r65.2.2.2.1,_,_,r65.2.2.2.2.2.1,_,_,r65.2.2.2.2.1,_,_,stat_34,(r65.2.2.2.2.2.2.set i83.toNat (TVf.mk x103.unit i141 x103.base)),_,(pc107++([.int .i64 x103.unit,.int .i64 i141,.int .i64 x103.base]++sc109)),r281.2.2.2.2.1,r281.2.2.2.2.2.1,r281.2.2.2.2.2.2,r281.2.2.2.1,_,_,rfl,h,(le263.t (le269.t (le276.t (le280.t le283)))),hS,(m19.up (le67.t (le101.t (le263.t (le269.t (le276.t (le280.t le283))))))),(m70.up (le101.t (le263.t (le269.t (le276.t (le280.t le283)))))),(m76.up (le101.t (le263.t (le269.t (le276.t (le280.t le283)))))),(m73.up (le101.t (le263.t (le269.t (le276.t (le280.t le283)))))),(m143.up (le263.t (le269.t (le276.t (le280.t le283))))),m286⟩
        ·replace h:=iF h260 h
         refine nz ?_
         iterate 3 refine st ?_
         refine nw ?_
         refine cifd (et (k100 (k70 d6))) (fun h287=>?_) (fun h287=>?_)
         ·replace h:=iT h287 h
          refine creg ?_
          iterate 2 refine st ?_
          refine ld ((hS.blk d0).cell d1) ?_
          iterate 2 refine st ?_
          have m288:=st115 _ [.int .i64 x103.unit,.int .i64 x131.A,.int .i64 x103.base] (TVf.mk x103.unit x131.A x103.base) Le.r rfl
          refine wl (s_storeR (off:=1) ti3 (et (k100 (k80 d3))) (et (k100 (k80 d1))) rfl rfl rfl hS d6 e111 (Nat.le_of_ble_eq_true rfl) (open_store pn114 rfl (Nat.le_of_ble_eq_true rfl)) p6 dn ?_); clear hS; intro w24 hS
          replace hS:Sq μ2 w0 w24 (.blk b139 120 [.int .i64 x131.Op,.int .i64 x131.A,.int .i64 x131.N]::.blk b1 69 [.pointer (some ⟨b3,o4,none⟩),.iface 57 (.pointer (some ⟨b20,0,none⟩)),v12,.pointer (some ⟨b33,0,none⟩),.int .i64 r65.1,.int .i64 r65.2.1,.int .i64 r65.2.2.1,v17,.nilFunc]::.row v17 2 1 out_16.length cs18::.blk b20 59 [.slice a68 r65.2.2.2.1.length c69,v71,.slice a74 r65.2.2.2.2.2.1.length c75]::.row v71 3 1 r65.2.2.2.2.1.length cs72::.blk b33 114 [.int .i64 stat_34,.pointer none,v77,.pointer (some ⟨b39,0,none⟩)]::.row v77 117 3 (r65.2.2.2.2.2.2.set i83.toNat (TVf.mk x103.unit x131.A x103.base)).length (pc107++([.int .i64 x103.unit,.int .i64 x131.A,.int .i64 x103.base]++sc109))::.blk b39 181 [v41,.int .i64 live_44,.int .i64 min_45,.int .i64 most_46]::.row v41 2 1 l_40.length cs42::rsF):=by simp only [List.length_set] at hS ⊢; exact hS
          refine wnil ?_
          refine (fun h=>bn (xl h)) ?_
          replace hS:=hS.drop Rm.z
          exact ⟨_,_,rfl,(aK6 (aO6 (aK50 (aK3 (aO50 (aO50 (aO50 (aO20 (aO10 (aO4 aZ)))))))))),_,r65.1,r65.2.1,r65.2.2.1,out_16,_,_,r65.2.2.2.1,_,_,r65.2.2.2.2.2.1,_,_,r65.2.2.2.2.1,_,_,stat_34,(r65.2.2.2.2.2.2.set i83.toNat (TVf.mk x103.unit x131.A x103.base)),_,(pc107++([.int .i64 x103.unit,.int .i64 x131.A,.int .i64 x103.base]++sc109)),live_44,min_45,most_46,l_40,_,_,rfl,h,Le.r,hS,(m19.up (le67.t le101)),(m70.up le101),(m76.up le101),(m73.up le101),m288,(m43.up (le67.t le101))⟩
         ·replace h:=iF h287 h
          refine nz ?_
          iterate 3 refine st ?_
          refine nw ?_
          refine cifd (et (k100 (k80 d4))) (fun h289=>?_) (fun h289=>?_)
          ·replace h:=iT h289 h
           refine nz (st ?_)
           obtain ⟨r290,g291,h⟩:=bI h
           replace hS:=(((hS.bg Y8).bg Y8).bg Y7).bg Y4
           refine ca (vm_pop_w (hg.t (le67.t le101)) (m43.up (le67.t le101)) g291 hS) ?_
           rintro _ w25 ⟨μ16,v293,cs294,rfl,le292,hS,m295⟩
           refine po (st (nw ?_))
           refine cifd (et (k100 (k80 d9))) (fun h296=>?_) (fun h296=>?_)
           ·replace h:=iT h296 h
            refine creg ?_
            iterate 2 refine st ?_
            refine ld ((hS.blk d4).cell d1) ?_
            iterate 2 refine st ?_
            have m297:=st115 _ [.int .i64 x103.unit,.int .i64 x131.A,.int .i64 x103.base] (TVf.mk x103.unit x131.A x103.base) le292 rfl
            refine wl (s_storeR (off:=1) ti3 (et (k100 (k90 d4))) (et (k100 (k90 d2))) rfl rfl rfl hS d8 e111 (Nat.le_of_ble_eq_true rfl) (open_store pn114 rfl (Nat.le_of_ble_eq_true rfl)) p8 dn ?_); clear hS; intro w26 hS
            replace hS:Sq μ16 w0 w26 (.blk b1 69 [.pointer (some ⟨b3,o4,none⟩),.iface 57 (.pointer (some ⟨b20,0,none⟩)),v12,.pointer (some ⟨b33,0,none⟩),.int .i64 r290.2.1,.int .i64 r290.2.2.1,.int .i64 r290.2.2.2.1,v17,.nilFunc]::.blk b33 114 [.int .i64 stat_34,.pointer none,v77,.pointer (some ⟨b39,0,none⟩)]::.blk b39 181 [v293,.int .i64 r290.2.2.2.2.2.1,.int .i64 r290.2.2.2.2.2.2.1,.int .i64 r290.2.2.2.2.2.2.2]::.row v293 2 1 r290.2.2.2.2.1.length cs294::.blk b139 120 [.int .i64 x131.Op,.int .i64 x131.A,.int .i64 x131.N]::.row v17 2 1 out_16.length cs18::.blk b20 59 [.slice a68 r65.2.2.2.1.length c69,v71,.slice a74 r65.2.2.2.2.2.1.length c75]::.row v71 3 1 r65.2.2.2.2.1.length cs72::.row v77 117 3 (r65.2.2.2.2.2.2.set i83.toNat (TVf.mk x103.unit x131.A x103.base)).length (pc107++([.int .i64 x103.unit,.int .i64 x131.A,.int .i64 x103.base]++sc109))::rsF):=by simp only [List.length_set] at hS ⊢; exact hS
            refine wnil ?_
            refine (fun h=>bn (xl h)) ?_
            replace hS:=((((((((hS.drop (Rm.s (Rm.s (Rm.s (Rm.s Rm.z))))).bg Y3).bg Y3).bg Y7).bg Y4).bg Y7).bg Y7).bg Y7).bg Y7
            exact ⟨_,_,rfl,(aK6 (aO6 (aK50 (aK3 (aO50 (aO50 (aO50 (aO20 (aO10 (aO4 aZ)))))))))),_,r290.2.1,r290.2.2.1,r290.2.2.2.1,out_16,_,_,r65.2.2.2.1,_,_,r65.2.2.2.2.2.1,_,_,r65.2.2.2.2.1,_,_,stat_34,(r65.2.2.2.2.2.2.set i83.toNat (TVf.mk x103.unit x131.A x103.base)),_,(pc107++([.int .i64 x103.unit,.int .i64 x131.A,.int .i64 x103.base]++sc109)),r290.2.2.2.2.2.1,r290.2.2.2.2.2.2.1,r290.2.2.2.2.2.2.2,r290.2.2.2.2.1,_,_,rfl,h,le292,hS,(m19.up (le67.t (le101.t le292))),(m70.up (le101.t le292)),(m76.up (le101.t le292)),(m73.up (le101.t le292)),m297,m295⟩
           ·replace h:=iF h296 h
            refine cskip ?_
            refine (fun h=>bn (xl h)) ?_
            replace hS:=((((((((hS.drop (Rm.s (Rm.s (Rm.s (Rm.s Rm.z))))).bg Y3).bg Y3).bg Y7).bg Y4).bg Y7).bg Y7).bg Y7).bg Y7
            exact ⟨_,_,rfl,(aK6 (aO6 (aK50 (aK3 (aO50 (aO50 (aO50 (aO20 (aO10 (aO4 aZ)))))))))),_,r290.2.1,r290.2.2.1,r290.2.2.2.1,out_16,_,_,r65.2.2.2.1,_,_,r65.2.2.2.2.2.1,_,_,r65.2.2.2.2.1,_,_,stat_34,(r65.2.2.2.2.2.2.set i83.toNat (TVf.mk x103.unit i141 x103.base)),_,(pc107++([.int .i64 x103.unit,.int .i64 i141,.int .i64 x103.base]++sc109)),r290.2.2.2.2.2.1,r290.2.2.2.2.2.2.1,r290.2.2.2.2.2.2.2,r290.2.2.2.2.1,_,_,rfl,h,le292,hS,(m19.up (le67.t (le101.t le292))),(m70.up (le101.t le292)),(m76.up (le101.t le292)),(m73.up (le101.t le292)),(m143.up le292),m295⟩
          ·replace h:=iF h289 h
           refine nz ?_
           iterate 3 refine st ?_
           refine nw ?_
           refine cifd (et (k100 (k90 d5))) (xT h) fun h298=>?_
           replace h:=iF h298 h
           refine nz ?_
           iterate 3 refine st ?_
           refine nw ?_
           refine cifd (et (k100 (k100 (k10 d3)))) (fun h299=>?_) (fun h299=>?_)
           ·replace h:=iT h299 h
            refine cseq ?_
            refine cdw hS ?_; clear hS; intro w27 hS
            refine sf_start (fpi 0 [0,1,2,3,6,7] rfl (fpi 1 [1,2,3,6,7] rfl (fpi 2 [2,3,6,7] rfl (fr_ 3 [3,6,7] rfl (u_load ti64 (et (k100 (k100 (k10 d8)))) ((hS.blk d1).cell d1)) (q100 (q100 (q10 p9))) (fpi 4 [4,5,6,7] rfl (fr_ 5 [5,6,7] rfl (u_load ti3 (et (k100 (k100 (k20 d0)))) ((hS.blk d0).cell d1)) (q100 (q100 (q20 p1))) ?_))))))
            obtain ⟨r300,g301,h⟩:=bI h
            replace hS:=(hS.bg Y4).bg Y4
            refine sf1 rfl rfl rfl rfl (wn0 rfl) (s_callI (fun _=>rfl) isfn217 (et (k100 (k100 (k10 d9)))) (e1 (et (k100 (k100 (k20 d1)))) e0) (ls_take_w (hg.t (le67.t le101)) (m70.up le101) (m73.up le101) (m76.up le101) g301 hS) ?_)
            rintro _ w28 ⟨μ17,a303,c304,v306,cs307,a309,c310,rfl,le302,hS,m305,m308,m311⟩
            refine po ?_
            refine ⟨Mons.z,?_⟩
            refine fpi 7 [7] rfl (sf_nil (xn (nz ?_)))
            iterate 2 refine st ?_
            refine ld ((hS.blk d2).cell d1) (st ?_)
            obtain ⟨r312,g313,h⟩:=bI h
            replace hS:=hS.bg Y3
            refine ca (vm_tell_w (hg.t (le67.t (le101.t le302))) g313 hS) ?_
            rintro _ w29 ⟨μ18,rfl,le314,hS⟩
            refine po (nw (creg ?_))
            iterate 2 refine st ?_
            obtain ⟨r315,g316,h⟩:=bI h
            replace hS:=(((hS.bg Y8).bg Y8).bg Y7).bg Y3
            refine ca (vm_push_w (hg.t (le67.t (le101.t (le302.t le314)))) (m43.up (le67.t (le101.t (le302.t le314)))) g316 hS) ?_
            rintro _ w30 ⟨μ19,v318,cs319,rfl,le317,hS,m320⟩
            refine po (wnil ?_)
            refine (fun h=>bn (xl h)) ?_
            replace hS:=((((((((hS.drop (Rm.s (Rm.s (Rm.s (Rm.s (Rm.s (Rm.s Rm.z))))))).bg Y3).bg Y3).bg Y7).bg Y4).bg Y6).bg Y6).bg Y7).bg Y7
            exact ⟨_,_,rfl,(aK6 (aO6 (aK50 (aK3 (aO50 (aO50 (aO50 (aO20 (aO10 (aO4 aZ)))))))))),_,r315.1,r315.2.1,r315.2.2.1,out_16,_,_,r300.2.1,_,_,r300.2.2.2,_,_,r300.2.2.1,_,_,stat_34,(r65.2.2.2.2.2.2.set i83.toNat (TVf.mk x103.unit i141 x103.base)),_,(pc107++([.int .i64 x103.unit,.int .i64 i141,.int .i64 x103.base]++sc109)),r315.2.2.2.2.1,r315.2.2.2.2.2.1,r315.2.2.2.2.2.2,r315.2.2.2.1,_,_,rfl,h,(le302.t (le314.t le317)),hS,(m19.up (le67.t (le101.t (le302.t (le314.t le317))))),(m305.up (le314.t le317)),(m311.up (le314.t le317)),(m308.up (le314.t le317)),(m143.up (le302.t (le314.t le317))),m320⟩
           ·replace h:=iF h299 h
            refine nz ?_
            iterate 3 refine st ?_
            refine nw ?_
            refine cifd (et (k100 (k100 (k30 d1)))) (fun h321=>?_) (fun h321=>?_)
            ·replace h:=iT h321 h
             refine nz (st ?_)
             obtain ⟨r322,g323,h⟩:=bI h
             replace hS:=(((hS.bg Y8).bg Y8).bg Y7).bg Y4
             refine ca (vm_pop_w (hg.t (le67.t le101)) (m43.up (le67.t le101)) g323 hS) ?_
             rintro _ w31 ⟨μ20,v325,cs326,rfl,le324,hS,m327⟩
             refine po (st (nx ?_))
             iterate 4 refine st ?_
             refine ld ((hS.blk d0).cell d7) (st ?_)
             refine wl (s_bsl underlying22 ti2 (Parts.s (et (k100 (k100 (k40 d1)))) rfl Parts.z) rfl rfl hS ?_); clear hS; intro b328 w32 hb329 hS; refine po ?_
             obtain ⟨l332,g333,h⟩:=bI h
             have m334:Rw μ20 [.int .i64 r322.1] [r322.1]:=(Rw.one (α:=Int) rfl)
             have m331:=Rw.app (m19.up (le67.t (le101.t le324))) m334 g333
             refine wl (s_app1 underlying22 ti2 rfl (et (k100 (k100 (k40 d0)))) (et (k100 (k100 (k40 d2)))) hS d6 (hS.blk d0).cells m334 rfl g333 (by decide) ?_); clear hS; intro v330 w33 rs_ hp_ hS; cases (show _=rs_ from hp_)
             replace hS:=Sep.reput hS p6; refine po ?_
             replace hS:=hS.drop Rm.z
             iterate 2 refine st ?_
             refine wl (s_store1 ti22 (et (k100 (k100 (k40 d5)))) (et (k100 (k100 (k40 d3)))) (hS.get d5).cellV hS d0 p7 rfl p0 dn ?_)
             clear hS; intro w34 hS
             refine nw (creg ?_)
             iterate 2 refine st ?_
             obtain ⟨r335,g336,h⟩:=bI h
             refine ca (vm_tell_w (hg.t (le67.t (le101.t le324))) g336 hS) ?_
             rintro _ w35 ⟨μ21,rfl,le337,hS⟩
             refine po (wnil ?_)
             refine (fun h=>bn (xl h)) ?_
             replace hS:=((((((((hS.drop (Rm.s (Rm.s (Rm.s (Rm.s Rm.z))))).bg Y3).bg Y3).bg Y7).bg Y4).bg Y7).bg Y7).bg Y7).bg Y7
             exact ⟨_,_,rfl,(aK6 (aO6 (aK50 (aK3 (aO50 (aO50 (aO50 (aO20 (aO10 (aO4 aZ)))))))))),_,r322.2.1,r322.2.2.1,r322.2.2.2.1,_,_,(cs18++[.int .i64 r322.1]),r65.2.2.2.1,_,_,r65.2.2.2.2.2.1,_,_,r65.2.2.2.2.1,_,_,stat_34,(r65.2.2.2.2.2.2.set i83.toNat (TVf.mk x103.unit i141 x103.base)),_,(pc107++([.int .i64 x103.unit,.int .i64 i141,.int .i64 x103.base]++sc109)),r322.2.2.2.2.2.1,r322.2.2.2.2.2.2.1,r322.2.2.2.2.2.2.2,r322.2.2.2.2.1,_,_,rfl,h,(le324.t le337),hS,(m331.up le337),(m70.up (le101.t (le324.t le337))),(m76.up (le101.t (le324.t le337))),(m73.up (le101.t (le324.t le337))),(m143.up (le324.t le337)),(m327.up le337)⟩
            ·replace h:=iF h321 h
             refine creg (st (lds (hS.blk d0).cells rfl ?_))
             obtain ⟨r338,g339,h⟩:=bI h
             replace hS:=((((hS.bg Y8).bg Y8).bg Y8).bg Y8).bg Y5
             refine ca (vm_units_w (hg.t (le67.t le101)) (m7.up (le67.t le101)) (m10.up (le67.t le101)) (m11.up (le67.t le101)) m143 (m43.up (le67.t le101)) g339 hS) ?_
             rintro _ w36 ⟨μ22,v341,cs342,v344,cs345,rfl,le340,hS,m343,m346⟩
             refine po (wnil ?_)
             refine (fun h=>bn (xl h)) ?_
             replace hS:=((((((((hS.drop (Rm.s (Rm.s (Rm.s (Rm.s (Rm.s Rm.z)))))).bg Y4).bg Y4).bg Y4).bg Y4).bg Y7).bg Y7).bg Y7).bg Y7
             exact ⟨_,_,rfl,(aK6 (aO6 (aK50 (aK3 (aO50 (aO50 (aO50 (aO20 (aO10 (aO4 aZ)))))))))),_,r338.1,r338.2.1,r338.2.2.1,out_16,_,_,r65.2.2.2.1,_,_,r65.2.2.2.2.2.1,_,_,r65.2.2.2.2.1,_,_,r338.2.2.2.1,r338.2.2.2.2.1,_,_,r338.2.2.2.2.2.2.1,r338.2.2.2.2.2.2.2.1,r338.2.2.2.2.2.2.2.2,r338.2.2.2.2.2.1,_,_,rfl,h,le340,hS,(m19.up (le67.t (le101.t le340))),(m70.up (le101.t le340)),(m76.up (le101.t le340)),(m73.up (le101.t le340)),m343,m346⟩
   ·rintro _ t w37 ⟨μ23,i144,i145,i146,l149,v147,cs148,l153,a151,c152,l157,a155,c156,l161,v159,cs160,i163,l166,v164,cs165,i168,i169,i170,l173,v171,cs172,rfl,h,le347,hS,m348,m349,m350,m351,m352,m353⟩
    unfold vm_step_j2 at h
    refine nrm (mK6 (mO6 (mK50 (mK3 (mO50 (mO50 (mO50 (mO20 (mO10 (mO4 mz)))))))))) (xn (nz (st ?_)))
    obtain ⟨r354,g355,h⟩:=bI h
    replace hS:=((((hS.bg Y5).bg Y5).bg Y5).bg Y5).bg Y4
    refine ca (vm_look_w (hg.t (le67.t (le101.t le347))) (m7.up (le67.t (le101.t le347))) (m10.up (le67.t (le101.t le347))) (m11.up (le67.t (le101.t le347))) m349 m351 m350 m352 g355 hS) ?_
    rintro _ w38 ⟨μ24,a357,c358,v360,cs361,a363,c364,v366,cs367,rfl,le356,hS,m359,m362,m365,m368⟩
    refine po (nx (st (nw (cret ?_))))
    obtain rfl:=oI h
    refine ret1 rfl d2 ?_
    replace hS:=(((((((hS.bg Y7).bg Y7).bg Y6).bg Y6).bg Y6).bg Y6).bg Y7).bg Y7
    exact ⟨_,_,_,_,_,_,_,_,_,_,_,_,_,rfl,(le67.t (le101.t (le347.t le356))),hS,(m348.up le356),m359,m362,m365,m368,(m353.up le356)⟩
end Go.Proofs.YtaenlbapejigbaaGreatDoor
set_option maxRecDepth 100000
set_option maxHeartbeats 20000000
namespace Go.Proofs.YtaenlbapejigbaaGreatDoor
open Go.Wk Go.Xt Go.Y Tryz
variable {b1 b3 b10 c2 c4 c5 c6 c7 c8 c9 c21 fu o2 o4:Nat} {a1 a3 a4 a5 a6 a7 a8 a20:Option Addr} {v12 v13 v14 v15 v16 v17 v18 v19:Value} {μ0:M} {w0 w:World} {rsF:List Res}
theorem vm_begin_w (hg:Le Gm μ0) {m_2:TModule} {p_2:Int} {p_3:List Int} {r:Int×List TVf×List Int×Int×Int×Int} (m7:Sl μ0 a5 c6 m_2.Boxes) (m10:Sl μ0 a8 c9 m_2.Units) (m11:At μ0 b3 o4 [.slice a5 m_2.Boxes.length c6,.slice a8 m_2.Units.length c9]) (m22:Sl μ0 a20 c21 p_3) (h:vm_begin m_2 p_2 p_3=some r) (hS:Sq μ0 w0 w (.blk b1 69 [.pointer (some ⟨b3,o4,none⟩),v12,v13,v14,v15,v16,v17,v18,v19]::rsF)):CallsV prog 43 [.pointer (some ⟨b1,0,none⟩),.int .i64 p_2,.slice a20 p_3.length c21] w (fun v w'=>∃ (μ':M) (b23:Nat) (v24:Value) (cs25:List Value) (b27:Nat) (v28:Value) (cs29:List Value),v=.pointer (some ⟨b23,0,none⟩)∧Le μ0 μ'∧Sq μ' w0 w' (.blk b23 114 [.int .i64 r.1,.pointer none,v24,.pointer (some ⟨b27,0,none⟩)]::.row v24 117 3 r.2.1.length cs25::.blk b27 181 [v28,.int .i64 r.2.2.2.1,.int .i64 r.2.2.2.2.1,.int .i64 r.2.2.2.2.2]::.row v28 2 1 r.2.2.1.length cs29::.blk b1 69 [.pointer (some ⟨b3,o4,none⟩),v12,v13,v14,v15,v16,v17,v18,v19]::rsF)∧Rw μ' cs25 r.2.1∧Rw μ' cs29 r.2.2.1):=by
 unfold vm_begin at h
 refine enter func43 rfl (frm:=_::_::_::u2 (u2 (u20 (u20 [])))) rfl (nz (st (nx ?_)))
 obtain ⟨r31,g32,h⟩:=bI h
 refine ca (st_new_w hg g32 hS) ?_
 rintro _ w1 ⟨μ1,b34,v35,cs36,rfl,le33,hS,m37⟩
 refine po (st (wl (s_build ti117 pl117 (Fl.o rfl (et (k10 d1)) rfl rfl p0 Fl.z) (dt (q10 p2)) ?_)))
 refine wl (s_bsl1 underlying111 ti117 rfl (et (k10 d2)) rfl hS ?_); clear hS; intro b38 w2 hb39 hS; refine po ?_
 refine wl (s_build ti114 pl114 (Fl.o rfl (et (k10 d0)) rfl rfl p3 (Fl.o rfl (et (k10 d3)) rfl rfl p2 Fl.z)) (dt (q10 p4)) ?_)
 refine wl (s_box (et (k10 d4)) rfl hS ?_); clear hS; intro b40 w3 hb41 hS; refine po ?_
 refine st (ny (nz ?_))
 iterate 3 refine st ?_
 refine ld ((hS.blk d4).cell d0) ?_
 iterate 2 refine st ?_
 refine ld ((m11 _ (le33 _ hS.a)).one d1) (st ?_)
 obtain ⟨x42,g43,h⟩:=bI h
 obtain ⟨b44,o45,cs46,e47,f48,m49⟩:=SlR.elem (m10.up le33) g43
 obtain ⟨a50,c51,a53,c54,rfl,m52,m55⟩:=m49
 refine wl (su (u_iax underlying35 ti103 (et (k20 d2)) (et (k20 d3)) e47) (dt (q20 p4)) (st (ld ((f48 _ hS.a).one d2) (wl (su (u_lensl underlying27 (et (k20 d6))) (dt (q20 p7)) (st (nw (cblock ?_))))))))
 replace hS:=(((hS.bg Y1).bg Y3).bg Y3).bg Y4
 refine cloopE (rg 8 2++rg 29 17) (by decide) (fun n m w=>∃ μx i65 i66 i67 i68 l71 v69 cs70,m=(yK8 (yO2 8 (yK10 (yK8 (.i (.int .i64 i65)::(yO10 29 (yO7 39 [])))))))∧vm_begin_l1 p_2 p_3 x42 n i65 i66 i67 i68 l71=some r∧Le μ1 μx∧Sq μx w0 w (.blk b1 69 [.pointer (some ⟨b3,o4,none⟩),v12,v13,v14,v15,v16,v17,v18,v19]::.blk b34 181 [v69,.int .i64 i66,.int .i64 i67,.int .i64 i68]::.row v69 2 1 l71.length cs70::.blk b38 117 [.int .i64 p_2,.int .i64 0,.int .i64 0]::.blk b40 114 [.int .i64 0,(.pointer none),.slice (some ⟨b38,0,none⟩) 1 1,.pointer (some ⟨b34,0,none⟩)]::rsF)∧Rw μx cs70 l71) (by rintro _ _ _ ⟨_,_,_,_,_,_,_,_,rfl,_⟩; rfl) _ _ (aK8 (aO2 (aK10 (aK8 (aI (aO10 (aO7 aZ))))))) ⟨_,0,r31.2.1,r31.2.2.1,r31.2.2.2,r31.1,v35,cs36,rfl,h,Le.r,hS,m37⟩ ?_
 rintro n_1 _ t w4 ⟨μ2,i65,i66,i67,i68,l71,v69,cs70,rfl,h,le81,hS,m82⟩
 cases n_1 with
 | zero=>cases h
 | succ n_1 =>
 unfold vm_begin_l1 at h
 refine cnrm (mK8 (mO2 (mK10 (mK8 (mi (mO10 (mO7 mz))))))) (nz (st (ny ?_)))
 refine cifd (et (k20 d9)) (fun h83=>?_) (fun h83=>?_)
 ·replace h:=iT h83 h
  refine cskip (xn (cseq (cblock (nz ?_))))
  iterate 2 refine st ?_
  refine nx (st (ny (nz ?_)))
  iterate 2 refine st ?_
  refine wl (su (u_lensl underlying22 (et (k30 d2))) (dt (q30 p3)) (st (nw ?_)))
  refine cifd (et (k30 d4)) (xT h) fun h84=>?_
  replace h:=iF h84 h
  refine cskip (xn (creg ?_))
  iterate 3 refine st ?_
  refine ld ((hS.blk d4).cell d3) (st ?_)
  obtain ⟨r85,g86,h⟩:=bI h
  replace hS:=(hS.bg Y2).bg Y2
  refine ca (st_push_w (hg.t (le33.t le81)) m82 g86 hS) ?_
  rintro _ w5 ⟨μ3,v88,cs89,rfl,le87,hS,m90⟩
  refine po (wnil ?_)
  refine (fun h=>bn (xn h)) ?_
  refine creg ?_
  obtain ⟨i91,g92,h⟩:=bI h
  refine wl (su (u_addc (et (k20 d8)) ec g92) (dt (q40 p5)) (st (wnil (xl ?_))))
  replace hS:=((((hS.bg Y4).bg Y4).bg Y3).bg Y3).bg Y4
  exact ⟨n_1,_,_,rfl,(aK8 (aO2 (aK10 (aK8 (aI (aO10 (aO7 aZ))))))),⟨_,i91,r85.2.2.1,r85.2.2.2.1,r85.2.2.2.2,r85.2.1,v88,cs89,rfl,h,(le81.t le87),hS,m90⟩,Nat.lt_succ_self _⟩
 ·replace h:=iF h83 h
  refine cexit ?_
  refine (fun h=>xe (xe (bh h))) ?_
  refine xn (nz ?_)
  iterate 2 refine st ?_
  refine nw (cret ?_)
  replace hS:=hS.blkRow (n:=1) (sz:=Mo.sz TVf) d3 rfl (by decide) p3
  have m93:Rw μ2 [.int .i64 p_2,.int .i64 0,.int .i64 0] ([(TVf.mk p_2 0 0)]:List TVf):=(Rw.one (α:=TVf) rfl)
  obtain rfl:=oI h
  refine ret1 rfl d6 ?_
  replace hS:=(((hS.bg Y2).bg Y2).bg Y3).bg Y4
  exact ⟨_,_,(.slice (some ⟨b38,0,none⟩) 1 1),([.int .i64 p_2,.int .i64 0,.int .i64 0]:List Value),_,_,_,rfl,(le33.t le81),hS,m93,m82⟩
theorem vm_new_w (hg:Le Gm μ0) {p_1:TModule} {p_2:Int} {r:Int×Int×Int×List Int×Int×List TVf×List Int×Int×Int×Int} (m5:Sl μ0 a3 c4 p_1.Boxes) (m8:Sl μ0 a6 c7 p_1.Units) (m9:At μ0 b1 o2 [.slice a3 p_1.Boxes.length c4,.slice a6 p_1.Units.length c7]) (h:vm_new p_1 p_2=some r) (hS:Sq μ0 w0 w (rsF)):CallsV prog 25 [.pointer (some ⟨b1,o2,none⟩),.int .i64 p_2,(.iface 57 (.pointer (some ⟨b10,0,none⟩)))] w (fun v w'=>∃ (μ':M) (b11:Nat) (v12:Value) (v13:Value) (cs14:List Value) (b16:Nat) (v17:Value) (cs18:List Value) (b20:Nat) (v21:Value) (cs22:List Value),v=.pointer (some ⟨b11,0,none⟩)∧Le μ0 μ'∧Sq μ' w0 w' (.blk b11 69 [.pointer (some ⟨b1,o2,none⟩),(.iface 57 (.pointer (some ⟨b10,0,none⟩))),v12,.pointer (some ⟨b16,0,none⟩),.int .i64 r.1,.int .i64 r.2.1,.int .i64 r.2.2.1,v13,.nilFunc]::.row v13 2 1 r.2.2.2.1.length cs14::.blk b16 114 [.int .i64 r.2.2.2.2.1,.pointer none,v17,.pointer (some ⟨b20,0,none⟩)]::.row v17 117 3 r.2.2.2.2.2.1.length cs18::.blk b20 181 [v21,.int .i64 r.2.2.2.2.2.2.2.1,.int .i64 r.2.2.2.2.2.2.2.2.1,.int .i64 r.2.2.2.2.2.2.2.2.2]::.row v21 2 1 r.2.2.2.2.2.2.1.length cs22::rsF)∧Rw μ' cs14 r.2.2.2.1∧Rw μ' cs18 r.2.2.2.2.2.1∧Rw μ' cs22 r.2.2.2.2.2.2.1):=by
 unfold vm_new at h
 refine enter func25 rfl (frm:=_::_::_::u10 (u20 [])) rfl (nz (st (nx ?_)))
 iterate 2 refine st ?_
 refine wl (s_build ti69 pl69 (Fl.o rfl (et d8) rfl rfl p0 (Fl.o rfl (et d9) rfl rfl p1 (Fl.o rfl ec rfl rfl p4 Fl.z))) (dt (q10 p0)) ?_)
 refine wl (s_box (et (k10 d0)) rfl hS ?_); clear hS; intro b24 w1 hb25 hS; refine po ?_
 refine st (nx ?_)
 iterate 3 refine st ?_
 obtain ⟨r26,g27,h⟩:=bI h
 refine ca (vm_begin_w hg m5 m8 m9 Sl.nil g27 hS) ?_
 rintro _ w2 ⟨μ1,b29,v30,cs31,b33,v34,cs35,rfl,le28,hS,m32,m36⟩
 refine po ?_
 iterate 2 refine st ?_
 refine wl (s_store1 ti66 (et (k10 d7)) (et (k10 d5)) rfl hS d4 p3 rfl p4 dn ?_)
 clear hS; intro w3 hS
 refine nx ?_
 iterate 3 refine st ?_
 refine ld ((hS.blk d4).cell d3) ?_
 iterate 2 refine st ?_
 refine wl (s_store1 ti3 (et (k20 d3)) ec rfl hS d0 p0 rfl p0 dn ?_)
 clear hS; intro w4 hS
 refine nx ?_
 iterate 4 refine st ?_
 refine ld ((hS.blk d4).cell d3) ?_
 refine wl (s_bsl underlying65 ti66 (Parts.s (et (k20 d8)) rfl Parts.z) rfl rfl hS ?_); clear hS; intro b37 w5 hb38 hS; refine po ?_
 iterate 2 refine st ?_
 refine wl (s_store1 ti65 (et (k30 d1)) (et (k20 d9)) rfl hS d5 p2 rfl p5 dn ?_)
 clear hS; intro w6 hS
 refine nx ?_
 iterate 2 refine st ?_
 refine nw (cret ?_)
 replace hS:=hS.nilRow 2 (Mo.sz Int)
 obtain rfl:=oI h
 refine ret1 rfl d6 ?_
 replace hS:=((((((hS.drop (Rm.s Rm.z)).bg Y4).bg Y4).bg Y4).bg Y4).bg Y4).bg Y5
 exact ⟨_,_,(.slice (some ⟨b37,0,none⟩) 1 1),(.slice none 0 0),(([]:List Value):List Value),_,_,_,_,_,_,rfl,le28,hS,(Rw.nil (α:=Int) (μ:=μ1)),m32,m36⟩
theorem vm_solo_w (hg:Le Gm μ0) {p_1:TModule} {p_2:Int} {p_3:List (List Int)} {p_4:Int} {r:TReport×Int} (m3:Sl μ0 a1 c2 p_1.Boxes) (m6:Sl μ0 a4 c5 p_1.Units) (m9:Sl μ0 a7 c8 p_3) (h:vm_solo fu p_1 p_2 p_3 p_4=some r) (hS:Sq μ0 w0 w (rsF)):CallsV prog 19 [.agg ⟨[.slice a1 p_1.Boxes.length c2,.slice a4 p_1.Units.length c5]⟩,.int .i64 p_2,.slice a7 p_3.length c8,.int .i64 p_4] w (fun v w'=>∃ (μ':M) (a10:Option Addr) (c11:Nat) (a13:Option Addr) (c14:Nat) (a16:Option Addr) (c17:Nat),v=.tuple ⟨[.agg ⟨[.int .i64 r.1.State,.int .i64 r.1.Box,.int .i64 r.1.Trap,.slice a10 r.1.Out.length c11,.slice a13 r.1.Sent.length c14,.slice a16 r.1.Took.length c17,.int .i64 r.1.Steps]⟩,.int .i64 r.2]⟩∧Le μ0 μ'∧Sq μ' w0 w' (rsF)∧Sl μ' a10 c11 r.1.Out∧Sl μ' a13 c14 r.1.Sent∧Sl μ' a16 c17 r.1.Took):=by
 unfold vm_solo at h
 refine enter func19 rfl (frm:=_::_::_::_::u2 (u10 (u20 (u50 (u50 []))))) rfl (nz ?_)
 refine wl (s_box (et d0) rfl hS ?_); clear hS; intro b19 w1 hb20 hS; refine po ?_
 refine wl (s_alloc ti29 hS ?_); clear hS; intro b21 w2 hb22 hS; refine po ?_
 refine st (ny (nz (lds (hS.blk d1).cells rfl ?_)))
 obtain ⟨r23,g24,h⟩:=bI h
 refine ca (vf_verify_w hg m3 m6 g24 hS) ?_
 rintro _ w3 ⟨μ1,rfl,le25,hS⟩
 refine po ?_
 refine wl (s_alloc ti51 hS ?_); clear hS; intro b26 w4 hb27 hS; refine po ?_
 refine wl (s_storeA ti51 (et (k10 d0)) (et (k20 d0)) rfl rfl hS d0 rfl p0 dn ?_)
 clear hS; intro w5 hS
 refine nx (st (ld ((hS.blk d0).cell d0) (st (nw ?_))))
 refine cifd (et (k20 d3)) (xT h) fun h28=>?_
 replace h:=iF h28 h
 refine cskip (xn (nz ?_))
 replace hS:=hS.bg Y2
 obtain ⟨μ2,le30,m29,hS⟩:=Sep.frzAt hS
 obtain ⟨r31,g32,h⟩:=bI h
 refine ca (vm_tasks_w (hg.t (le25.t le30)) (m3.up (le25.t le30)) (m6.up (le25.t le30)) m29 g32 hS) ?_
 rintro _ w6 ⟨μ3,a34,c35,rfl,le33,hS,m36⟩
 refine po (st (ny (nz ?_)))
 iterate 3 refine st ?_
 refine wspd (k30 d0) (q30 p0) (q30 p0) (xT h) fun h37=>?_
 replace h:=iF h37 h
 refine sy rfl (sy rfl (wy rfl (k30 d0) (su (u_lensl underlying27 (et (k30 d2))) (dt (q30 p3)) (sy rfl ?_))))
 iterate 2 refine st ?_
 refine wspd (k30 d6) (q30 p6) (q30 p6) (xT h) fun h38=>?_
 replace h:=iF h38 h
 refine sy rfl (sy rfl ?_)
 iterate 2 refine st ?_
 refine wspd (k40 d0) (q40 p0) (q40 p0) (xT h) fun h39=>?_
 replace h:=iF h39 h
 refine sy rfl (sy rfl (st (nw ?_)))
 refine cifd (et (k40 d3)) (xT h) fun h40=>?_
 replace h:=iF h40 h
 refine cskip (xn (cseq (nz (st (wl (su (u_lensl underlying26 (et (k40 d5))) (dt (q40 p6)) (st (ld ((m29 _ (le33 _ hS.a)).one d0) (wl (su (u_lensl underlying34 (et (k40 d8))) (dt (q40 p9)) (st (nw ?_))))))))))))
 refine cifd (et (k50 d0)) (xT h) fun h41=>?_
 replace h:=iF h41 h
 refine cskip (xn (cseq (nz (st (wl (su (u_lensl underlying26 (et (k50 d2))) (dt (q50 p3)) (st (nw (cblock ?_)))))))))
 replace hS:=hS.drop Rm.z
 refine cloopE ([9]++rg 12 2++[15]++rg 55 28) (by decide +kernel) (fun n m w=>∃ μx i119,m=(yK9 (yO1 9 (yK2 (yO2 12 (yK1 (yO1 15 (yK20 (yK10 (yK8 (.i (.int .i64 i119)::(yO20 55 (yO8 75 []))))))))))))∧vm_solo_l1 fu p_1 p_2 p_3 p_4 r31 n i119=some r∧Le μ3 μx∧Sq μx w0 w (.blk b21 29 [.int .i64 0,.int .i64 0,.int .i64 0,.slice none 0 0,.slice none 0 0,.slice none 0 0,.int .i64 0]::rsF)) (by rintro _ _ _ ⟨_,_,rfl,_⟩; rfl) _ _ (aK9 (aO1 (aK2 (aO2 (aK1 (aO1 (aK20 (aK10 (aK8 (aI (aO20 (aO8 aZ)))))))))))) ⟨_,0,rfl,h,Le.r,hS⟩ ?_
 rintro n_1 _ t w7 ⟨μ4,i119,rfl,h,le197,hS⟩
 cases n_1 with
 | zero=>cases h
 | succ n_1 =>
 unfold vm_solo_l1 at h
 refine cnrm (mK9 (mO1 (mK2 (mO2 (mK1 (mO1 (mK20 (mK10 (mK8 (mi (mO20 (mO8 mz)))))))))))) (nz (st (ny ?_)))
 refine cifd (et (k50 d5)) (fun h198=>?_) (fun h198=>?_)
 ·replace h:=iT h198 h
  refine cskip (xn (cseq (cblock (nz (st ?_)))))
  obtain ⟨x199,g200,h⟩:=bI h
  obtain ⟨b201,o202,cs203,e204,f205,m206⟩:=SlR.elem (m9.up (le25.t (le30.t (le33.t le197)))) g200
  obtain ⟨a207,c208,rfl,m209⟩:=m206
  refine wl (su (u_iax underlying26 ti22 (et (k50 d2)) (et (k50 d4)) e204) (dt (q50 p7)) (ld ((f205 _ hS.a).one d0) ?_))
  iterate 2 refine st ?_
  refine nx (st (wl (su (u_lensl underlying22 (et (k50 d9))) (dt (q60 p0)) (st (nw (cblock ?_))))))
  refine cloopE ([9]++[15]++rg 62 20) (by decide +kernel) (fun n m w=>∃ μx i231,m=(yK9 (yO1 9 (yK5 (yO1 15 (yK20 (yK20 (yK5 (.i (.int .i64 i231)::(yO20 62 [])))))))))∧vm_solo_l2 p_1 i119 x199 (vm_solo_l1 fu p_1 p_2 p_3 p_4 r31 n_1) n i231=some r∧Le μ4 μx∧Sq μx w0 w (.blk b21 29 [.int .i64 0,.int .i64 0,.int .i64 0,.slice none 0 0,.slice none 0 0,.slice none 0 0,.int .i64 0]::rsF)) (by rintro _ _ _ ⟨_,_,rfl,_⟩; rfl) _ _ (aK9 (aO1 (aK5 (aO1 (aK20 (aK20 (aK5 (aI (aO20 aZ))))))))) ⟨_,0,rfl,h,Le.r,hS⟩ ?_
  rintro n_2 _ t w8 ⟨μ5,i231,rfl,h,le253,hS⟩
  cases n_2 with
  | zero=>cases h
  | succ n_2 =>
  unfold vm_solo_l2 at h
  refine cnrm (mK9 (mO1 (mK5 (mO1 (mK20 (mK20 (mK5 (mi (mO20 mz))))))))) (nz (st (ny ?_)))
  refine cifd (et (k60 d2)) (fun h254=>?_) (fun h254=>?_)
  ·replace h:=iT h254 h
   refine cskip (xn (cseq (cblock (nz ?_))))
   obtain ⟨x255,g256,h⟩:=bI h
   obtain ⟨b257,o258,cs259,e260,f261,m262⟩:=SlR.elem (m209.up le253) g256
   obtain rfl:=m262
   refine wl (su (u_iax underlying22 ti2 (et (k50 d9)) (et (k60 d1)) e260) (dt (q60 p3)) (ld ((f261 _ hS.a).one d0) (st (ny ?_))))
   refine ccutE (rg 65 14) (by decide) (fun m w=>∃ μx b263,m=(yK50 (yK10 (yK5 (yO10 65 (yO4 75 (.i (.bool b263)::[]))))))∧vm_solo_j1 i231 (vm_solo_l2 p_1 i119 x199 (vm_solo_l1 fu p_1 p_2 p_3 p_4 r31 n_1) n_2) b263=some r∧Le μ5 μx∧Sq μx w0 w (.blk b21 29 [.int .i64 0,.int .i64 0,.int .i64 0,.slice none 0 0,.slice none 0 0,.slice none 0 0,.int .i64 0]::rsF)) (by rintro _ _ ⟨_,_,rfl,_⟩; rfl) ?_ ?_
   ·refine creg (st (ld ((m29 _ ((le33.t (le197.t le253)) _ hS.a)).one d0) (st ?_)))
    obtain ⟨x264,g265,h⟩:=bI h
    obtain ⟨b266,o267,cs268,e269,f270,m271⟩:=SlR.elem (m3.up (le25.t (le30.t (le33.t (le197.t le253))))) g265
    obtain rfl:=m271
    refine wl (su (u_iax underlying34 ti56 (et (k60 d6)) (et (k60 d7)) e269) (dt (q60 p8)) (st (ld ((f270 _ hS.a).one d0) ?_)))
    iterate 2 refine st ?_
    refine wspd (k70 d2) (q70 p2) (q70 p2) (fun h272=>?_) (fun h272=>?_)
    ·replace h:=iT h272 h
     refine sy rfl (sy rfl ?_)
     iterate 2 refine st ?_
     refine wspd (k70 d6) (q70 p6) (q70 p6) (fun h273=>?_) (fun h273=>?_)
     ·replace h:=iT h273 h
      refine sy rfl (sy rfl (st (wnil (xl ?_))))
      exact ⟨_,_,rfl,(aK50 (aK10 (aK5 (aO10 (aO4 (aI aZ)))))),_,(decide (x255≠1)),rfl,h,Le.r,hS⟩
     ·replace h:=iF h273 h
      refine sn rfl rfl (sn rfl rfl (st (wnil (xl ?_))))
      exact ⟨_,_,rfl,(aK50 (aK10 (aK5 (aO10 (aO4 (aI aZ)))))),_,false,rfl,h,Le.r,hS⟩
    ·replace h:=iF h272 h
     refine sn rfl rfl (sn rfl rfl ?_)
     iterate 2 refine st ?_
     refine sn rfl rfl (sn rfl rfl (st (wnil (xl ?_))))
     exact ⟨_,_,rfl,(aK50 (aK10 (aK5 (aO10 (aO4 (aI aZ)))))),_,false,rfl,h,Le.r,hS⟩
   ·rintro _ t w9 ⟨μ6,b263,rfl,h,le274,hS⟩
    unfold vm_solo_j1 at h
    refine nrm (mK50 (mK10 (mK5 (mO10 (mO4 (mi mz)))))) (xn ?_)
    refine cifb (et (k70 d9)) (xT h) fun h275=>?_
    replace h:=iF h275 h
    refine cskip ?_
    refine (fun h=>bn (xn h)) ?_
    refine creg ?_
    obtain ⟨i276,g277,h⟩:=bI h
    refine wl (su (u_addc (et (k60 d1)) ec g277) (dt (q80 p1)) (st (wnil (xl ?_))))
    exact ⟨n_2,_,_,rfl,(aK9 (aO1 (aK5 (aO1 (aK20 (aK20 (aK5 (aI (aO20 aZ))))))))),⟨_,i276,rfl,h,(le253.t le274),hS⟩,Nat.lt_succ_self _⟩
  ·replace h:=iF h254 h
   refine cexit ?_
   refine (fun h=>xe (xe (bh h))) ?_
   refine (fun h=>bn (xn h)) ?_
   refine creg ?_
   obtain ⟨i278,g279,h⟩:=bI h
   refine wl (su (u_addc (et (k50 d4)) ec g279) (dt (q80 p2)) (st (wnil (xl ?_))))
   exact ⟨n_1,_,_,rfl,(aK9 (aO1 (aK2 (aO2 (aK1 (aO1 (aK20 (aK10 (aK8 (aI (aO20 (aO8 aZ)))))))))))),⟨_,i278,rfl,h,(le197.t le253),hS⟩,Nat.lt_succ_self _⟩
 ·replace h:=iF h198 h
  refine cexit ?_
  refine (fun h=>xe (xe (bh h))) ?_
  refine xn (cseq ?_)
  refine ccutE (rg 83 9) (by decide) (fun m w=>∃ μx l282 v280 cs281 l286 v284 cs285 b288,m=(yK10 (yK6 (.i (.pointer (some ⟨b288,0,none⟩))::(yK50 (yK10 (yK6 (yO9 83 [])))))))∧vm_solo_j2 fu p_1 p_2 p_3 p_4 r31 l282 l286=some r∧Le μ4 μx∧Sq μx w0 w (.blk b21 29 [.int .i64 0,.int .i64 0,.int .i64 0,.slice none 0 0,.slice none 0 0,.slice none 0 0,.int .i64 0]::.row v280 3 1 l282.length cs281::.row v284 22 1 l286.length cs285::.blk b288 59 [.slice a7 p_3.length c8,v280,v284]::rsF)∧Rw μx cs281 l282∧Rw μx cs285 l286) (by rintro _ _ ⟨_,_,_,_,_,_,_,_,rfl,_⟩; rfl) ?_ ?_
  ·refine cdw hS ?_; clear hS; intro w10 hS
   refine sf_start (fpi 0 [0,7,8,9] rfl (fpi 1 [1,2,3,7,8,9] rfl (fp 2 [2,3,7,8,9] rfl (u_lensl underlying26 (et (k80 d4))) (q80 p5) (fpi 4 [4,5,6,7,8,9] rfl (fp 5 [5,6,7,8,9] rfl (u_lensl underlying26 (et (k80 d7))) (q80 p8) ?_)))))
   refine sf2 (i:=3) (j:=6) rfl rfl rfl rfl rfl rfl rfl (wn0 rfl) (wn0 rfl) ?_ ?_
   ·obtain ⟨k289,g290,h⟩:=bI h
    have m292:Rw μ4 (List.replicate k289 (.int .i64 0)) ((List.replicate k289 (0:Int)):List Int):=rw_rep (α:=Int) (by intro; exact rfl) k289
    refine id (s_mkslice underlying27 ti3 (by decide) (et (k80 d5)) (et (k80 d5)) g290 hS ?_); clear hS; intro b291 w11 hS; refine po ?_
    replace hS:Sq μ4 w0 w11 (.row (.slice (some ⟨b291,0,none⟩) k289 k289) 3 1 (List.replicate k289 (0:Int)).length (List.replicate k289 (.int .i64 0))::.blk b21 29 [.int .i64 0,.int .i64 0,.int .i64 0,.slice none 0 0,.slice none 0 0,.slice none 0 0,.int .i64 0]::rsF):=by rw [List.length_replicate]; exact hS
    refine ⟨Mons.z,?_⟩
    obtain ⟨k293,g294,h⟩:=bI h
    have m296:Rw μ4 (List.replicate k293 (.slice none 0 0)) ((List.replicate k293 (([]:List Int):List Int)):List (List Int)):=rw_rep (α:=List Int) (by intro; exact ⟨none,0,rfl,Sl.nil⟩) k293
    refine sf1 rfl rfl rfl rfl (wn0 rfl) (s_mkslice underlying26 ti22 (by decide) (et (k80 d8)) (et (k80 d8)) g294 hS ?_); clear hS; intro b295 w12 hS; refine po ?_
    replace hS:Sq μ4 w0 w12 (.row (.slice (some ⟨b295,0,none⟩) k293 k293) 22 1 (List.replicate k293 (([]:List Int):List Int)).length (List.replicate k293 (.slice none 0 0))::.row (.slice (some ⟨b291,0,none⟩) k289 k289) 3 1 (List.replicate k289 (0:Int)).length (List.replicate k289 (.int .i64 0))::.blk b21 29 [.int .i64 0,.int .i64 0,.int .i64 0,.slice none 0 0,.slice none 0 0,.slice none 0 0,.int .i64 0]::rsF):=by rw [List.length_replicate]; exact hS
    refine ⟨Mons.z,?_⟩
    refine fp 7 [7,8,9] rfl (u_build ti59 pl59 (Fl.o rfl (et (k80 d3)) rfl rfl p0 (Fl.o rfl (et (k80 d6)) rfl rfl p1 (Fl.o rfl (et (k80 d9)) rfl rfl p2 Fl.z)))) (q90 p0) ?_
    refine sf1 rfl rfl rfl rfl (wn0 rfl) (s_box (et (k90 d0)) rfl hS ?_); clear hS; intro b297 w13 hb298 hS; refine po ?_
    refine ⟨Mons.z,?_⟩
    refine fpi 9 [9] rfl (sf_nil (xl ?_))
    replace hS:=((hS.bg Y1).bg Y2).bg Y3
    exact ⟨_,_,rfl,(aK10 (aK6 (aI (aK50 (aK10 (aK6 (aO9 aZ))))))),_,(List.replicate k289 (0:Int)),(.slice (some ⟨b291,0,none⟩) k289 k289),(List.replicate k289 (.int .i64 0)),(List.replicate k293 (([]:List Int):List Int)),(.slice (some ⟨b295,0,none⟩) k293 k293),(List.replicate k293 (.slice none 0 0)),_,rfl,h,Le.r,hS,m292,m296⟩
   ·obtain ⟨k289,g290,h⟩:=bI h
    obtain ⟨k293,g294,h⟩:=bI h
    have m300:Rw μ4 (List.replicate k293 (.slice none 0 0)) ((List.replicate k293 (([]:List Int):List Int)):List (List Int)):=rw_rep (α:=List Int) (by intro; exact ⟨none,0,rfl,Sl.nil⟩) k293
    refine id (s_mkslice underlying26 ti22 (by decide) (et (k80 d8)) (et (k80 d8)) g294 hS ?_); clear hS; intro b299 w14 hS; refine po ?_
    replace hS:Sq μ4 w0 w14 (.row (.slice (some ⟨b299,0,none⟩) k293 k293) 22 1 (List.replicate k293 (([]:List Int):List Int)).length (List.replicate k293 (.slice none 0 0))::.blk b21 29 [.int .i64 0,.int .i64 0,.int .i64 0,.slice none 0 0,.slice none 0 0,.slice none 0 0,.int .i64 0]::rsF):=by rw [List.length_replicate]; exact hS
    refine ⟨Mons.z,?_⟩
    have m302:Rw μ4 (List.replicate k289 (.int .i64 0)) ((List.replicate k289 (0:Int)):List Int):=rw_rep (α:=Int) (by intro; exact rfl) k289
    refine sf1 rfl rfl rfl rfl (wn0 rfl) (s_mkslice underlying27 ti3 (by decide) (et (k80 d5)) (et (k80 d5)) g290 hS ?_); clear hS; intro b301 w15 hS; refine po ?_
    replace hS:Sq μ4 w0 w15 (.row (.slice (some ⟨b301,0,none⟩) k289 k289) 3 1 (List.replicate k289 (0:Int)).length (List.replicate k289 (.int .i64 0))::.row (.slice (some ⟨b299,0,none⟩) k293 k293) 22 1 (List.replicate k293 (([]:List Int):List Int)).length (List.replicate k293 (.slice none 0 0))::.blk b21 29 [.int .i64 0,.int .i64 0,.int .i64 0,.slice none 0 0,.slice none 0 0,.slice none 0 0,.int .i64 0]::rsF):=by rw [List.length_replicate]; exact hS
    refine ⟨Mons.z,?_⟩
    refine fp 7 [7,8,9] rfl (u_build ti59 pl59 (Fl.o rfl (et (k80 d3)) rfl rfl p0 (Fl.o rfl (et (k80 d6)) rfl rfl p1 (Fl.o rfl (et (k80 d9)) rfl rfl p2 Fl.z)))) (q90 p0) ?_
    refine sf1 rfl rfl rfl rfl (wn0 rfl) (s_box (et (k90 d0)) rfl hS ?_); clear hS; intro b303 w16 hb304 hS; refine po ?_
    refine ⟨Mons.z,?_⟩
    refine fpi 9 [9] rfl (sf_nil (xl ?_))
    replace hS:=((hS.bg Y2).bg Y2).bg Y3
    exact ⟨_,_,rfl,(aK10 (aK6 (aI (aK50 (aK10 (aK6 (aO9 aZ))))))),_,(List.replicate k289 (0:Int)),(.slice (some ⟨b301,0,none⟩) k289 k289),(List.replicate k289 (.int .i64 0)),(List.replicate k293 (([]:List Int):List Int)),(.slice (some ⟨b299,0,none⟩) k293 k293),(List.replicate k293 (.slice none 0 0)),_,rfl,h,Le.r,hS,m302,m300⟩
  ·rintro _ t w17 ⟨μ7,l282,v280,cs281,l286,v284,cs285,b288,rfl,h,le305,hS,m306,m307⟩
   unfold vm_solo_j2 at h
   refine nrm (mK10 (mK6 (mi (mK50 (mK10 (mK6 (mO9 mz))))))) (xn (nz ?_))
   iterate 2 refine st ?_
   obtain ⟨x308,g309,h⟩:=bI h
   obtain ⟨b310,o311,cs312,e313,f314,m315⟩:=SlR.elem (m36.up (le197.t le305)) g309
   obtain rfl:=m315
   refine wl (su (u_iax underlying27 ti3 (et (k90 d2)) (et (k90 d3)) e313) (dt (q90 p4)) (ld ((f314 _ hS.a).one d0) (st (wl (su (u_mkif underlying57 (et (k90 d6))) (dt (q90 p7)) ?_)))))
   obtain ⟨r316,g317,h⟩:=bI h
   refine ca (vm_new_w (hg.t (le25.t (le30.t (le33.t (le197.t le305))))) (m3.up (le25.t (le30.t (le33.t (le197.t le305))))) (m6.up (le25.t (le30.t (le33.t (le197.t le305))))) (m29.up (le33.t (le197.t le305))) g317 hS) ?_
   rintro _ w18 ⟨μ8,b319,v320,v321,cs322,b324,v325,cs326,b328,v329,cs330,rfl,le318,hS,m323,m327,m331⟩
   refine po (st (nx (st ?_)))
   replace hS:=hS.bg Y8
   obtain ⟨μ9,a332,c333,e336,le335,m334,hq_⟩:=Sep.frzRow hS (m307.up le318) rfl; clear hS
   subst e336; have hS:=hq_; clear hq_
   obtain ⟨r337,g338,h⟩:=bI h
   replace hS:=((((hS.bg Y3).bg Y3).bg Y7).bg Y8).bg Y4
   refine ca (vm_look_w (hg.t (le25.t (le30.t (le33.t (le197.t (le305.t (le318.t le335))))))) (m3.up (le25.t (le30.t (le33.t (le197.t (le305.t (le318.t le335))))))) (m6.up (le25.t (le30.t (le33.t (le197.t (le305.t (le318.t le335))))))) (m29.up (le33.t (le197.t (le305.t (le318.t le335))))) (m9.up (le25.t (le30.t (le33.t (le197.t (le305.t (le318.t le335))))))) (m306.up (le318.t le335)) m334 (m327.up le335) g338 hS) ?_
   rintro _ w19 ⟨μ10,a340,c341,v343,cs344,a346,c347,v349,cs350,rfl,le339,hS,m342,m345,m348,m351⟩
   refine po (nx (st (ny (cblock ?_))))
   replace hS:=((((((((hS.bg Y1).bg Y2).bg Y7).bg Y7).bg Y6).bg Y6).bg Y7).bg Y7).bg Y8
   refine cloopE (rg 101 9) (by decide) (fun n m w=>∃ μx i376 i377 i378 i379 l382 v380 cs381 i384 l387 v385 cs386 i389 i390 i391 l394 v392 cs393 l398 v396 cs397 l402 a400 c401 l406 a404 c405,m=(yK10 (yK8 (.i (.int .i64 i376)::(yK50 (yK20 (yK10 (yK2 (yO9 101 []))))))))∧vm_solo_l3 p_1 p_4 n i376 i377 i378 i379 l382 i384 l387 i389 i390 i391 l394 l398 l402 l406=some r∧Le μ10 μx∧Sq μx w0 w (.blk b21 29 [.int .i64 0,.int .i64 0,.int .i64 0,.slice none 0 0,.slice none 0 0,.slice none 0 0,.int .i64 0]::.blk b319 69 [.pointer (some ⟨b19,0,none⟩),.iface 57 (.pointer (some ⟨b288,0,none⟩)),v320,.pointer (some ⟨b324,0,none⟩),.int .i64 i377,.int .i64 i378,.int .i64 i379,v380,.nilFunc]::.row v380 2 1 l382.length cs381::.blk b324 114 [.int .i64 i384,.pointer none,v385,.pointer (some ⟨b328,0,none⟩)]::.row v385 117 3 l387.length cs386::.blk b328 181 [v392,.int .i64 i389,.int .i64 i390,.int .i64 i391]::.row v392 2 1 l394.length cs393::.row v396 3 1 l398.length cs397::.blk b288 59 [.slice a400 l402.length c401,v396,.slice a404 l406.length c405]::rsF)∧Rw μx cs381 l382∧Rw μx cs386 l387∧Rw μx cs393 l394∧Rw μx cs397 l398∧Sl μx a400 c401 l402∧Sl μx a404 c405 l406) (by rintro _ _ _ ⟨_,_,_,_,_,_,_,_,_,_,_,_,_,_,_,_,_,_,_,_,_,_,_,_,_,_,_,rfl,_⟩; rfl) _ _ (aK10 (aK8 (aI (aK50 (aK20 (aK10 (aK2 (aO9 aZ)))))))) ⟨_,0,r337.1,r337.2.1,r337.2.2.1,r316.2.2.2.1,v321,cs322,r316.2.2.2.2.1,r337.2.2.2.2.2.2,v349,cs350,r316.2.2.2.2.2.2.2.1,r316.2.2.2.2.2.2.2.2.1,r316.2.2.2.2.2.2.2.2.2,r316.2.2.2.2.2.2.1,v329,cs330,r337.2.2.2.2.1,v343,cs344,r337.2.2.2.1,a340,c341,r337.2.2.2.2.2.1,a346,c347,rfl,h,Le.r,hS,(m323.up (le335.t le339)),m351,(m331.up (le335.t le339)),m345,m342,m348⟩ ?_
   rintro n_3 _ t w20 ⟨μ11,i376,i377,i378,i379,l382,v380,cs381,i384,l387,v385,cs386,i389,i390,i391,l394,v392,cs393,l398,v396,cs397,l402,a400,c401,l406,a404,c405,rfl,h,le432,hS,m433,m434,m435,m436,m437,m438⟩
   cases n_3 with
   | zero=>cases h
   | succ n_3 =>
   unfold vm_solo_l3 at h
   refine cnrm (mK10 (mK8 (mi (mK50 (mK20 (mK10 (mK2 (mO9 mz)))))))) (cseq (nz ?_))
   iterate 4 refine st ?_
   refine wspd (k100 d4) (q100 p4) (q100 p4) (fun h439=>?_) (xF h)
   replace h:=iT h439 h
   refine sy rfl ?_
   obtain ⟨r440,g441,h⟩:=bI h
   replace hS:=(((((((hS.bg Y6).bg Y6).bg Y6).bg Y6).bg Y7).bg Y8).bg Y8).bg Y8
   refine wy rfl (k100 d4) (s_callv isfn27 ef (e1 (et (k100 d5)) e0) (vm_step_w (hg.t (le25.t (le30.t (le33.t (le197.t (le305.t (le318.t (le335.t (le339.t le432))))))))) (m3.up (le25.t (le30.t (le33.t (le197.t (le305.t (le318.t (le335.t (le339.t le432))))))))) (m6.up (le25.t (le30.t (le33.t (le197.t (le305.t (le318.t (le335.t (le339.t le432))))))))) (m29.up (le33.t (le197.t (le305.t (le318.t (le335.t (le339.t le432))))))) m433 m437 m436 m438 m434 m435 g441 hS) ?_)
   rintro _ w21 ⟨μ12,v443,cs444,a446,c447,v449,cs450,a452,c453,v455,cs456,v458,cs459,rfl,le442,hS,m445,m448,m451,m454,m457,m460⟩
   refine po (st (nw ?_))
   refine cifb (et (k100 d7)) (fun h461=>?_) (fun h461=>?_)
   ·replace h:=iT h461 h
    refine cskip (xn (cblock (creg (st ?_))))
    obtain ⟨i462,g463,h⟩:=bI h
    refine wl (su (u_addc (et (k100 d8)) ec g463) (dt (q100 p9)) (st (wnil ?_)))
    refine (fun h=>bn (xl h)) ?_
    replace hS:=((((((((hS.bg Y2).bg Y3).bg Y7).bg Y7).bg Y7).bg Y7).bg Y7).bg Y7).bg Y8
    exact ⟨n_3,_,_,rfl,(aK10 (aK8 (aI (aK50 (aK20 (aK10 (aK2 (aO9 aZ)))))))),⟨_,i462,r440.2.1,r440.2.2.1,r440.2.2.2.1,r440.2.2.2.2.1,v443,cs444,r440.2.2.2.2.2.2.2.2.1,r440.2.2.2.2.2.2.2.2.2.1,v455,cs456,r440.2.2.2.2.2.2.2.2.2.2.2.1,r440.2.2.2.2.2.2.2.2.2.2.2.2.1,r440.2.2.2.2.2.2.2.2.2.2.2.2.2,r440.2.2.2.2.2.2.2.2.2.2.1,v458,cs459,r440.2.2.2.2.2.2.1,v449,cs450,r440.2.2.2.2.2.1,a446,c447,r440.2.2.2.2.2.2.2.1,a452,c453,rfl,h,(le432.t le442),hS,m445,m457,m460,m451,m448,m454⟩,Nat.lt_succ_self _⟩
   ·replace h:=iF h461 h
    refine cexit ?_
    refine (fun h=>xe (xe (bh h))) ?_
    refine xn (cseq ?_)
    refine cdw hS ?_; clear hS; intro w22 hS
    refine sf_start (fpi 0 [0,1,2,3,25,26,27] rfl (fpi 1 [1,2,3,25,26,27] rfl (fpi 2 [2,3,25,26,27] rfl (fr_ 3 [3,25,26,27] rfl (u_load ti3 (et (k100 (k10 d2))) ((hS.blk d0).cell d4)) (q100 (q10 p3)) (fpi 4 [4,5,6,7,25,26,27] rfl (fpi 5 [5,6,7,25,26,27] rfl (fpi 6 [6,7,25,26,27] rfl (fr_ 7 [7,25,26,27] rfl (u_load ti3 (et (k100 (k10 d6))) ((hS.blk d0).cell d5)) (q100 (q10 p7)) (fpi 8 [8,9,10,11,25,26,27] rfl (fpi 9 [9,10,11,25,26,27] rfl (fpi 10 [10,11,25,26,27] rfl (fr_ 11 [11,25,26,27] rfl (u_load ti3 (et (k100 (k20 d0))) ((hS.blk d0).cell d6)) (q100 (q20 p1)) (fpi 12 [12,13,14,15,25,26,27] rfl (fpi 13 [13,14,15,25,26,27] rfl (fpi 14 [14,15,25,26,27] rfl (fr_ 15 [15,25,26,27] rfl (u_load ti22 (et (k100 (k20 d4))) ((hS.blk d0).cell d7)) (q100 (q20 p5)) (fpi 16 [16,17,18,19,25,26,27] rfl (fpi 17 [17,18,19,25,26,27] rfl (fpi 18 [18,19,25,26,27] rfl (fr_ 19 [19,25,26,27] rfl (u_load ti26 (et (k100 (k20 d8))) ((hS.blk d2).cell d2)) (q100 (q20 p9)) (fpi 20 [20,21,22,23,25,26,27] rfl (fpi 21 [21,22,23,25,26,27] rfl (fpi 22 [22,23,25,26,27] rfl (fr_ 23 [23,25,26,27] rfl (u_load ti27 (et (k100 (k30 d2))) ((hS.blk d2).cell d1)) (q100 (q30 p3)) (fpi 24 [24,25,26,27] rfl ?_)))))))))))))))))))))))))
    refine fp 25 [25,26,27] rfl (u_build ti29 pl29 (Fl.o rfl (et (k100 (k10 d3))) rfl rfl p0 (Fl.o rfl (et (k100 (k10 d7))) rfl rfl p1 (Fl.o rfl (et (k100 (k20 d1))) rfl rfl p2 (Fl.o rfl (et (k100 (k20 d5))) (hS.get d1).cellV rfl p3 (Fl.o rfl (et (k100 (k20 d9))) rfl rfl p4 (Fl.o rfl (et (k100 (k30 d3))) (hS.get d3).cellV rfl p5 (Fl.o rfl (et (k100 (k30 d4))) rfl rfl p6 Fl.z)))))))) (q100 (q30 p5)) ?_
    refine sf1 rfl rfl rfl rfl (wn0 rfl) (s_storeA ti29 (et d8) (et (k100 (k30 d5))) rfl (cv_s rfl (cv_s rfl (cv_s rfl (cv_s ((hS.get d1).cellV) (cv_s rfl (cv_s ((hS.get d3).cellV) (cv_s rfl cv_z))))))) hS d8 rfl p8 dn ?_)
    clear hS; intro w23 hS
    refine ⟨Mons.z,?_⟩
    refine fpi 27 [27] rfl (sf_nil (xn (cret ?_)))
    replace hS:=hS.bg Y1
    obtain ⟨μ13,a464,c465,e468,le467,m466,hq_⟩:=Sep.frzRow hS m445 rfl; clear hS
    subst e468; have hS:=hq_; clear hq_
    replace hS:=hS.bg Y2
    obtain ⟨μ14,a469,c470,e473,le472,m471,hq_⟩:=Sep.frzRow hS (m451.up le467) rfl; clear hS
    subst e473; have hS:=hq_; clear hq_
    obtain rfl:=oI h
    refine retN rfl (RVs.s (.a d8 ti29 (hS.blk d6).cells rfl) (RVs.s (.t d9) RVs.z)) ?_
    replace hS:=((((((hS.drop Rm.z).drop Rm.z).drop Rm.z).drop Rm.z).drop Rm.z).drop Rm.z).drop Rm.z
    exact ⟨_,_,_,_,_,_,_,rfl,(le25.t (le30.t (le33.t (le197.t (le305.t (le318.t (le335.t (le339.t (le432.t (le442.t (le467.t le472))))))))))),hS,(m466.up le472),(m454.up (le467.t le472)),m471⟩
end Go.Proofs.YtaenlbapejigbaaGreatDoor
set_option maxRecDepth 100000
set_option maxHeartbeats 20000000
namespace Go.Proofs.YtaenlbapejigbaaGreatDoor
open Go.Wk Go.Xt Go.Y Tryz
variable {b1 c2 o2:Nat} {a1:Option Addr} {μ0:M} {w0 w:World} {rsF:List Res}
theorem sh_early_w (hg:Le Gm μ0)  {r:List TSo}  (h:sh_early =some r) (hS:Sq μ0 w0 w (rsF)):CallsV prog 53 [] w (fun v w'=>∃ (μ':M) (a1:Option Addr) (c2:Nat),v=.slice a1 r.length c2∧Le μ0 μ'∧Sq μ' w0 w' (rsF)∧Sl μ' a1 c2 r):=by
 unfold sh_early at h
 refine enter func53 rfl (frm:=u1 (u10 [])) rfl (nz (st (nx (wl (s_build ti74 pl74 (Fl.o rfl ec rfl rfl p0 (Fl.o rfl ec rfl rfl p1 Fl.z)) (dt p1) (wl (s_build ti74 pl74 (Fl.o rfl ec rfl rfl p0 (Fl.o rfl ec rfl rfl p1 Fl.z)) (dt p2) (wl (s_build ti74 pl74 (Fl.o rfl ec rfl rfl p0 (Fl.o rfl ec rfl rfl p1 Fl.z)) (dt p3) (wl (s_build ti74 pl74 (Fl.o rfl ec rfl rfl p0 (Fl.o rfl ec rfl rfl p1 Fl.z)) (dt p4) (wl (s_build ti74 pl74 (Fl.o rfl ec rfl rfl p0 (Fl.o rfl ec rfl rfl p1 Fl.z)) (dt p5) (wl (s_build ti74 pl74 (Fl.o rfl ec rfl rfl p0 (Fl.o rfl ec rfl rfl p1 Fl.z)) (dt p6) (wl (s_build ti74 pl74 (Fl.o rfl ec rfl rfl p0 (Fl.o rfl ec rfl rfl p1 Fl.z)) (dt p7) (wl (s_build ti74 pl74 (Fl.o rfl ec rfl rfl p0 (Fl.o rfl ec rfl rfl p1 Fl.z)) (dt p8) (wl (s_build ti74 pl74 (Fl.o rfl ec rfl rfl p0 (Fl.o rfl ec rfl rfl p1 Fl.z)) (dt p9) ?_)))))))))))))))))))))
 refine wl (s_bslA underlying70 ti74 (by decide) (.s (et d1) rfl rfl (.s (et d2) rfl rfl (.s (et d3) rfl rfl (.s (et d4) rfl rfl (.s (et d5) rfl rfl (.s (et d6) rfl rfl (.s (et d7) rfl rfl (.s (et d8) rfl rfl (.s (et d9) rfl rfl .z))))))))) rfl hS ?_); clear hS; intro b4 w1 hb5 hS; refine po ?_
 refine st (nw (cret ?_))
 obtain ⟨μ1,le7,m6,hS⟩:=Sep.frzBlk (l:=([(TSo.mk [97,118,101,114,97,103,101] tx_1),(TSo.mk [98,105,116,115] tx_2),(TSo.mk [99,104,97,110,103,101,115] tx_3),(TSo.mk [99,111,108,108,97,116,122] tx_4),(TSo.mk [100,101,100,117,112,101] tx_5),(TSo.mk [100,105,103,105,116,115] tx_6),(TSo.mk [100,111,117,98,108,101] tx_7),(TSo.mk [101,118,101,110,115] tx_8),(TSo.mk [102,97,99,116] tx_9)]:List TSo)) hS (Rw.cons (α:=TSo) (cs:=[S [97,118,101,114,97,103,101],S tx_1]) rfl (Rw.cons (α:=TSo) (cs:=[S [98,105,116,115],S tx_2]) rfl (Rw.cons (α:=TSo) (cs:=[S [99,104,97,110,103,101,115],S tx_3]) rfl (Rw.cons (α:=TSo) (cs:=[S [99,111,108,108,97,116,122],S tx_4]) rfl (Rw.cons (α:=TSo) (cs:=[S [100,101,100,117,112,101],S tx_5]) rfl (Rw.cons (α:=TSo) (cs:=[S [100,105,103,105,116,115],S tx_6]) rfl (Rw.cons (α:=TSo) (cs:=[S [100,111,117,98,108,101],S tx_7]) rfl (Rw.cons (α:=TSo) (cs:=[S [101,118,101,110,115],S tx_8]) rfl (Rw.cons (α:=TSo) (cs:=[S [102,97,99,116],S tx_9]) rfl Rw.nil))))))))) (Nat.le_of_ble_eq_true rfl)
 obtain rfl:=oI h
 refine ret1 rfl d0 ?_
 exact ⟨_,(some ⟨b4,0,none⟩),9,rfl,le7,hS,m6⟩
theorem sh_middle_w (hg:Le Gm μ0)  {r:List TSo}  (h:sh_middle =some r) (hS:Sq μ0 w0 w (rsF)):CallsV prog 54 [] w (fun v w'=>∃ (μ':M) (a1:Option Addr) (c2:Nat),v=.slice a1 r.length c2∧Le μ0 μ'∧Sq μ' w0 w' (rsF)∧Sl μ' a1 c2 r):=by
 unfold sh_middle at h
 refine enter func54 rfl (frm:=u1 (u10 [])) rfl (nz (st (nx (wl (s_build ti74 pl74 (Fl.o rfl ec rfl rfl p0 (Fl.o rfl ec rfl rfl p1 Fl.z)) (dt p1) (wl (s_build ti74 pl74 (Fl.o rfl ec rfl rfl p0 (Fl.o rfl ec rfl rfl p1 Fl.z)) (dt p2) (wl (s_build ti74 pl74 (Fl.o rfl ec rfl rfl p0 (Fl.o rfl ec rfl rfl p1 Fl.z)) (dt p3) (wl (s_build ti74 pl74 (Fl.o rfl ec rfl rfl p0 (Fl.o rfl ec rfl rfl p1 Fl.z)) (dt p4) (wl (s_build ti74 pl74 (Fl.o rfl ec rfl rfl p0 (Fl.o rfl ec rfl rfl p1 Fl.z)) (dt p5) (wl (s_build ti74 pl74 (Fl.o rfl ec rfl rfl p0 (Fl.o rfl ec rfl rfl p1 Fl.z)) (dt p6) (wl (s_build ti74 pl74 (Fl.o rfl ec rfl rfl p0 (Fl.o rfl ec rfl rfl p1 Fl.z)) (dt p7) (wl (s_build ti74 pl74 (Fl.o rfl ec rfl rfl p0 (Fl.o rfl ec rfl rfl p1 Fl.z)) (dt p8) (wl (s_build ti74 pl74 (Fl.o rfl ec rfl rfl p0 (Fl.o rfl ec rfl rfl p1 Fl.z)) (dt p9) ?_)))))))))))))))))))))
 refine wl (s_bslA underlying70 ti74 (by decide) (.s (et d1) rfl rfl (.s (et d2) rfl rfl (.s (et d3) rfl rfl (.s (et d4) rfl rfl (.s (et d5) rfl rfl (.s (et d6) rfl rfl (.s (et d7) rfl rfl (.s (et d8) rfl rfl (.s (et d9) rfl rfl .z))))))))) rfl hS ?_); clear hS; intro b4 w1 hb5 hS; refine po ?_
 refine st (nw (cret ?_))
 obtain ⟨μ1,le7,m6,hS⟩:=Sep.frzBlk (l:=([(TSo.mk [102,105,98] tx_10),(TSo.mk [103,97,116,101] tx_11),(TSo.mk [103,99,100] tx_12),(TSo.mk [103,114,101,97,116,101,115,116] tx_13),(TSo.mk [109,101,114,103,101] tx_14),(TSo.mk [112,97,105,114,115] tx_15),(TSo.mk [112,105,110,103,112,111,110,103] tx_16),(TSo.mk [112,111,119,101,114] tx_17),(TSo.mk [112,114,105,109,101] tx_18)]:List TSo)) hS (Rw.cons (α:=TSo) (cs:=[S [102,105,98],S tx_10]) rfl (Rw.cons (α:=TSo) (cs:=[S [103,97,116,101],S tx_11]) rfl (Rw.cons (α:=TSo) (cs:=[S [103,99,100],S tx_12]) rfl (Rw.cons (α:=TSo) (cs:=[S [103,114,101,97,116,101,115,116],S tx_13]) rfl (Rw.cons (α:=TSo) (cs:=[S [109,101,114,103,101],S tx_14]) rfl (Rw.cons (α:=TSo) (cs:=[S [112,97,105,114,115],S tx_15]) rfl (Rw.cons (α:=TSo) (cs:=[S [112,105,110,103,112,111,110,103],S tx_16]) rfl (Rw.cons (α:=TSo) (cs:=[S [112,111,119,101,114],S tx_17]) rfl (Rw.cons (α:=TSo) (cs:=[S [112,114,105,109,101],S tx_18]) rfl Rw.nil))))))))) (Nat.le_of_ble_eq_true rfl)
 obtain rfl:=oI h
 refine ret1 rfl d0 ?_
 exact ⟨_,(some ⟨b4,0,none⟩),9,rfl,le7,hS,m6⟩
theorem sh_late_w (hg:Le Gm μ0)  {r:List TSo}  (h:sh_late =some r) (hS:Sq μ0 w0 w (rsF)):CallsV prog 55 [] w (fun v w'=>∃ (μ':M) (a1:Option Addr) (c2:Nat),v=.slice a1 r.length c2∧Le μ0 μ'∧Sq μ' w0 w' (rsF)∧Sl μ' a1 c2 r):=by
 unfold sh_late at h
 refine enter func55 rfl (frm:=u2 (u2 (u5 []))) rfl (nz (st (nx (wl (s_build ti74 pl74 (Fl.o rfl ec rfl rfl p0 (Fl.o rfl ec rfl rfl p1 Fl.z)) (dt p1) (wl (s_build ti74 pl74 (Fl.o rfl ec rfl rfl p0 (Fl.o rfl ec rfl rfl p1 Fl.z)) (dt p2) (wl (s_build ti74 pl74 (Fl.o rfl ec rfl rfl p0 (Fl.o rfl ec rfl rfl p1 Fl.z)) (dt p3) (wl (s_build ti74 pl74 (Fl.o rfl ec rfl rfl p0 (Fl.o rfl ec rfl rfl p1 Fl.z)) (dt p4) (wl (s_build ti74 pl74 (Fl.o rfl ec rfl rfl p0 (Fl.o rfl ec rfl rfl p1 Fl.z)) (dt p5) (wl (s_build ti74 pl74 (Fl.o rfl ec rfl rfl p0 (Fl.o rfl ec rfl rfl p1 Fl.z)) (dt p6) (wl (s_build ti74 pl74 (Fl.o rfl ec rfl rfl p0 (Fl.o rfl ec rfl rfl p1 Fl.z)) (dt p7) ?_)))))))))))))))))
 refine wl (s_bslA underlying70 ti74 (by decide) (.s (et d1) rfl rfl (.s (et d2) rfl rfl (.s (et d3) rfl rfl (.s (et d4) rfl rfl (.s (et d5) rfl rfl (.s (et d6) rfl rfl (.s (et d7) rfl rfl .z))))))) rfl hS ?_); clear hS; intro b4 w1 hb5 hS; refine po ?_
 refine st (nw (cret ?_))
 obtain ⟨μ1,le7,m6,hS⟩:=Sep.frzBlk (l:=([(TSo.mk [114,111,117,110,100,115] tx_19),(TSo.mk [115,105,101,118,101] tx_20),(TSo.mk [115,117,109,115] tx_21),(TSo.mk [116,117,114,110,115] tx_22),(TSo.mk [117,110,116,105,108] tx_23),(TSo.mk [119,105,110,100,111,119] tx_24),(TSo.mk [122,105,112] tx_25)]:List TSo)) hS (Rw.cons (α:=TSo) (cs:=[S [114,111,117,110,100,115],S tx_19]) rfl (Rw.cons (α:=TSo) (cs:=[S [115,105,101,118,101],S tx_20]) rfl (Rw.cons (α:=TSo) (cs:=[S [115,117,109,115],S tx_21]) rfl (Rw.cons (α:=TSo) (cs:=[S [116,117,114,110,115],S tx_22]) rfl (Rw.cons (α:=TSo) (cs:=[S [117,110,116,105,108],S tx_23]) rfl (Rw.cons (α:=TSo) (cs:=[S [119,105,110,100,111,119],S tx_24]) rfl (Rw.cons (α:=TSo) (cs:=[S [122,105,112],S tx_25]) rfl Rw.nil))))))) (Nat.le_of_ble_eq_true rfl)
 obtain rfl:=oI h
 refine ret1 rfl d0 ?_
 exact ⟨_,(some ⟨b4,0,none⟩),7,rfl,le7,hS,m6⟩
theorem sh_text1_w (hg:Le Gm μ0) {p_1:TSo} {p_2:List UInt8} {r:Bool} (m3:At μ0 b1 o2 [S p_2]) (h:sh_text1 p_1 p_2=some r) (hS:Sq μ0 w0 w (rsF)):CallsV prog 30 [.agg ⟨[S p_1.name,S p_1.text]⟩,.pointer (some ⟨b1,o2,none⟩)] w (fun v w'=>∃ (μ':M) ,v=.bool r∧Le μ0 μ'∧Sq μ' w0 w' (rsF)):=by
 unfold sh_text1 at h
 refine enter func30 rfl (frm:=_::_::u1 (u5 [])) rfl (nz ?_)
 refine wl (s_box (et d0) rfl hS ?_); clear hS; intro b4 w1 hb5 hS; refine po ?_
 refine st (nx (st (ld ((hS.blk d0).cell d0) (ld ((m3 _ hS.a).one d0) (wl (su (u_eqs (et d5) (et d6)) (dt p7) (st (nw (cret ?_)))))))))
 obtain rfl:=oI h
 refine ret1 rfl d3 ?_
 replace hS:=hS.drop Rm.z
 exact ⟨_,rfl,Le.r,hS⟩
theorem sl_indexfunc_one_w (hg:Le Gm μ0) {p_1:List TSo} {K4:Nat} {caps5:List Value} {p_2:TSo→Option Bool} {r:Int} (m3:Sl μ0 a1 c2 p_1) (m6:FnOk prog μ0 K4 caps5 true p_2) (h:sl_indexfunc_one p_1 p_2=some r) (hS:Sq μ0 w0 w (rsF)):CallsV prog 29 [.slice a1 p_1.length c2,.func (.func K4) ⟨[]⟩ ⟨caps5⟩] w (fun v w'=>∃ (μ':M) ,v=.int .i64 r∧Le μ0 μ'∧Sq μ' w0 w' (rsF)):=by
 unfold sl_indexfunc_one at h
 refine enter func29 rfl (frm:=_::_::u2 (u5 (u10 []))) rfl (nz (st (ny (nz (st (wl (su (u_lensl underlying70 (et d6)) (dt p7) (st (nw (cblock ?_))))))))))
 refine cloopE (rg 4 2++rg 9 10) (by decide) (fun n m w=>∃ μx i20,m=(yK4 (yO2 4 (yK2 (.i (.int .i64 i20)::(yO10 9 [])))))∧sl_indexfunc_one_l1 p_1 p_2 n i20=some r∧Le μ0 μx∧Sq μx w0 w (rsF)) (by rintro _ _ _ ⟨_,_,rfl,_⟩; rfl) _ _ (aK4 (aO2 (aK2 (aI (aO10 aZ))))) ⟨_,0,rfl,h,Le.r,hS⟩ ?_
 rintro n_1 _ t w1 ⟨μ1,i20,rfl,h,le35,hS⟩
 cases n_1 with
 | zero=>cases h
 | succ n_1 =>
 unfold sl_indexfunc_one_l1 at h
 refine cnrm (mK4 (mO2 (mK2 (mi (mO10 mz))))) (nz (st (ny ?_)))
 refine cifd (et d9) (fun h36=>?_) (xF h)
 replace h:=iT h36 h
 refine cskip (xn (cseq (cblock (nz ?_))))
 iterate 2 refine st ?_
 refine nx ?_
 iterate 3 refine st ?_
 obtain ⟨x37,g38,h⟩:=bI h
 obtain ⟨b39,o40,cs41,e42,f43,m44⟩:=SlR.elem (m3.up le35) g38
 obtain rfl:=m44
 refine wl (su (u_iax underlying70 ti74 (et (k10 d2)) (et (k10 d3)) e42) (dt (q10 p4)) (lds (f43 _ hS.a) rfl ?_))
 obtain ⟨b45,g46,h⟩:=bI h
 refine wl (s_callc m6.isfn (et (k10 d1)) (e1 (et (k10 d5)) e0) ((m6.up le35).call (cs:=[S x37.name,S x37.text]) Le.r rfl g46 hS) ?_)
 rintro _ w2 ⟨μ2,rfl,le47,hS⟩; refine po ?_
 refine nw ?_
 refine cifb (et (k10 d6)) (fun h48=>?_) (fun h48=>?_)
 ·replace h:=iT h48 h
  refine nz ?_
  iterate 2 refine st ?_
  refine nw (cret ?_)
  refine (fun h=>br (xr (xr (br (xr h))))) ?_
  obtain rfl:=oI h
  refine ret1 rfl d4 ?_
  exact ⟨_,rfl,(le35.t le47),hS⟩
 ·replace h:=iF h48 h
  refine cskip ?_
  refine (fun h=>bn (xn h)) ?_
  refine creg ?_
  obtain ⟨i49,g50,h⟩:=bI h
  refine wl (su (u_addc (et d8) ec g50) (dt (q10 p8)) (st (wnil (xl ?_))))
  exact ⟨n_1,_,_,rfl,(aK4 (aO2 (aK2 (aI (aO10 aZ))))),⟨_,i49,rfl,h,(le35.t le47),hS⟩,Nat.lt_succ_self _⟩
end Go.Proofs.YtaenlbapejigbaaGreatDoor
set_option maxRecDepth 100000
set_option maxHeartbeats 20000000
namespace Go.Proofs.YtaenlbapejigbaaGreatDoor
open Go.Wk Go.Xt Go.Y Tryz
variable {c2 fu:Nat} {a1:Option Addr} {μ0:M} {w0 w:World} {rsF:List Res}
theorem sl_grow_one_w (hg:Le Gm μ0) {p_2:Int} {r:List TSo}  (h:sl_grow_one p_2=some r) (hS:Sq μ0 w0 w (rsF)):CallsV prog 95 [.slice none 0 0,.int .i64 p_2] w (fun v w'=>∃ (μ':M) (v1:Value) (cs2:List Value),v=v1∧Le μ0 μ'∧Sq μ' w0 w' (.row v1 74 2 r.length cs2::rsF)∧Rw μ' cs2 r):=by
 unfold sl_grow_one at h
 refine enter func95 rfl (frm:=_::_::u5 (u20 [])) rfl (nz (st (ny (nz ?_))))
 iterate 2 refine st ?_
 refine nw ?_
 refine cifd (et d6) (xT h) fun h4=>?_
 replace h:=iF h4 h
 refine cskip (xn (cseq (nz ?_)))
 iterate 2 refine st ?_
 refine wl (su (u_cap0 underlying70 (et d9)) (dt (q10 p0)) (st (wl (su (u_lensl underlying70 (et (k10 d1))) (dt (q10 p2)) ?_))))
 obtain ⟨i5,g6,h⟩:=bI h
 refine wl (su (u_subc (et (k10 d0)) (et (k10 d2)) g6) (dt (q10 p3)) ?_)
 obtain ⟨i7,g8,h⟩:=bI h
 refine wl (su (u_subc (et d8) (et (k10 d3)) g8) (dt (q10 p4)) (st (nx ?_)))
 iterate 2 refine st ?_
 refine nw ?_
 refine cifd (et (k10 d6)) (fun h9=>?_) (xF h)
 replace h:=iT h9 h
 refine creg ?_
 iterate 2 refine st ?_
 refine wl (su (u_cap0 underlying70 (et (k10 d8))) (dt (q10 p9)) (wl (su (u_slc underlying70 ti74 (et (k10 d7)) .n (.s (et (k10 d9))) (slc_nil (sz:=2))) (dt (q20 p0)) (st ?_))))
 obtain ⟨k10,g11,h⟩:=bI h
 have m14:Rw μ0 (List.replicate k10 [S [],S []]).flatten ((List.replicate k10 ((TSo.mk [] []):TSo)):List TSo):=rw_repz (α:=TSo) (by intro; rfl) k10
 refine wl (s_appz underlying70 underlying3 ti74 (by decide) (et (k20 d0)) (et (k20 d1)) g11 hS ?_); clear hS; intro b12 c13 w1 hS; refine po ?_
 replace hS:Sq μ0 w0 w1 (.row (.slice (some ⟨b12,0,none⟩) k10 c13) 74 2 (List.replicate k10 ((TSo.mk [] []):TSo)).length ((List.replicate k10 [S [],S []]).flatten)::rsF):=by rw [List.length_replicate]; exact hS
 refine st (wl (su (u_lensl underlying70 (et (k20 d3))) (dt (q20 p4)) ?_))
 obtain ⟨l15,g16,h⟩:=bI h
 obtain ⟨v17,cs22,e18,hb19,hr20,m21⟩:=Row.cutT (α:=TSo) (hS.get d0) m14 g16
 replace hS:=hS.reRow d0 hb19 hr20 p0
 refine wl (su (u_slc underlying70 ti74 (et (k20 d2)) .n (.s (et (k20 d4))) e18) (dt (q20 p5)) (st (nx ?_)))
 iterate 2 refine st ?_
 refine nw (cret ?_)
 obtain rfl:=oI h
 refine ret1 rfl d4 ?_
 exact ⟨_,_,_,rfl,Le.r,hS,m21⟩
theorem sl_concat_one_w (hg:Le Gm μ0) {p_1:List (List TSo)} {r:List TSo} (m3:Sl μ0 a1 c2 p_1) (h:sl_concat_one p_1=some r) (hS:Sq μ0 w0 w (rsF)):CallsV prog 52 [.slice a1 p_1.length c2] w (fun v w'=>∃ (μ':M) (a4:Option Addr) (c5:Nat),v=.slice a4 r.length c5∧Le μ0 μ'∧Sq μ' w0 w' (rsF)∧Sl μ' a4 c5 r):=by
 unfold sl_concat_one at h
 refine enter func52 rfl (frm:=_::u5 (u10 (u20 []))) rfl (nz (st (nx (st (ny (nz (st (wl (su (u_lensl underlying185 (et d9)) (dt (q10 p0)) (st (nw (cblock ?_))))))))))))
 refine cloopE ([5]++rg 12 11) (by decide) (fun n m w=>∃ μx i22 i23,m=(yK3 (.i (.int .i64 i22)::(yK1 (yO1 5 (yK5 (.i (.int .i64 i23)::(yO10 12 (yO1 22 []))))))))∧sl_concat_one_l1 p_1 n i22 i23=some r∧Le μ0 μx∧Sq μx w0 w (rsF)) (by rintro _ _ _ ⟨_,_,_,rfl,_⟩; rfl) _ _ (aK3 (aI (aK1 (aO1 (aK5 (aI (aO10 (aO1 aZ)))))))) ⟨_,0,0,rfl,h,Le.r,hS⟩ ?_
 rintro n_1 _ t w1 ⟨μ1,i22,i23,rfl,h,le39,hS⟩
 cases n_1 with
 | zero=>cases h
 | succ n_1 =>
 unfold sl_concat_one_l1 at h
 refine cnrm (mK3 (mi (mK1 (mO1 (mK5 (mi (mO10 (mO1 mz)))))))) (nz (st (ny ?_)))
 refine cifd (et (k10 d2)) (fun h40=>?_) (fun h40=>?_)
 ·replace h:=iT h40 h
  refine cskip (xn (cseq (cblock (nz ?_))))
  obtain ⟨x41,g42,h⟩:=bI h
  obtain ⟨b43,o44,cs45,e46,f47,m48⟩:=SlR.elem (m3.up le39) g42
  obtain ⟨a49,c50,rfl,m51⟩:=m48
  refine wl (su (u_iax underlying185 ti70 (et d9) (et (k10 d1)) e46) (dt (q10 p3)) (ld ((f47 _ hS.a).one d0) (st (nx ?_))))
  iterate 2 refine st ?_
  refine wl (su (u_lensl underlying70 (et (k10 d6))) (dt (q10 p7)) ?_)
  obtain ⟨i52,g53,h⟩:=bI h
  refine wl (su (u_addc (et (k10 d5)) (et (k10 d7)) g53) (dt (q10 p8)) (st (nx ?_)))
  iterate 2 refine st ?_
  refine nw ?_
  refine cifd (et (k20 d0)) (xT h) fun h54=>?_
  replace h:=iF h54 h
  refine cskip ?_
  refine (fun h=>bn (xn h)) ?_
  refine creg ?_
  obtain ⟨i55,g56,h⟩:=bI h
  refine wl (su (u_addc (et (k10 d1)) ec g56) (dt (q20 p2)) (st (wnil (xl ?_))))
  exact ⟨n_1,_,_,rfl,(aK3 (aI (aK1 (aO1 (aK5 (aI (aO10 (aO1 aZ)))))))),⟨_,i52,i55,rfl,h,le39,hS⟩,Nat.lt_succ_self _⟩
 ·replace h:=iF h40 h
  refine cexit ?_
  refine (fun h=>xe (xe (bh h))) ?_
  refine xn (nz (st ?_))
  obtain ⟨r57,g58,h⟩:=bI h
  refine ca (sl_grow_one_w (hg.t le39) g58 hS) ?_
  rintro rv_ w2 ⟨μ2,v60,cs61,hrv_,le59,hS,m62⟩; obtain rfl:=hrv_.symm
  refine po (st (ny (nz (st (wl (su (u_lensl underlying185 (et (k20 d5))) (dt (q20 p6)) (st (nw (cblock ?_)))))))))
  refine cloopE ([8]++rg 28 7) (by decide) (fun n m w=>∃ μx i83 l86 v84 cs85,m=(yK6 (.i (v84)::(yK1 (yO1 8 (yK10 (yK8 (.i (.int .i64 i83)::(yO7 28 []))))))))∧sl_concat_one_l2 p_1 n i83 l86=some r∧Le μ2 μx∧Sq μx w0 w (.row v84 74 2 l86.length cs85::rsF)∧Rw μx cs85 l86) (by rintro _ _ _ ⟨_,_,_,_,_,rfl,_⟩; rfl) _ _ (aK6 (aI (aK1 (aO1 (aK10 (aK8 (aI (aO7 aZ)))))))) ⟨_,0,r57,v60,cs61,rfl,h,Le.r,hS,m62⟩ ?_
  rintro n_2 _ t w3 ⟨μ3,i83,l86,v84,cs85,rfl,h,le108,hS,m109⟩
  cases n_2 with
  | zero=>cases h
  | succ n_2 =>
  unfold sl_concat_one_l2 at h
  refine cnrm (mK6 (mi (mK1 (mO1 (mK10 (mK8 (mi (mO7 mz)))))))) (nz (st (ny ?_)))
  refine cifd (et (k20 d8)) (fun h110=>?_) (fun h110=>?_)
  ·replace h:=iT h110 h
   refine cskip (xn (cseq (cblock (nz ?_))))
   obtain ⟨x111,g112,h⟩:=bI h
   obtain ⟨b113,o114,cs115,e116,f117,m118⟩:=SlR.elem (m3.up (le39.t (le59.t le108))) g112
   obtain ⟨a119,c120,rfl,m121⟩:=m118
   refine wl (su (u_iax underlying185 ti70 (et (k20 d5)) (et (k20 d7)) e116) (dt (q20 p9)) (ld ((f117 _ hS.a).one d0) (st (nw (creg ?_)))))
   iterate 2 refine st ?_
   obtain ⟨l124,g125,h⟩:=bI h
   obtain ⟨cs126,m127,m128⟩:=Sl.cells m121
   have m123:=Rw.app m109 m127 g125
   refine wl (s_appS underlying70 ti74 rfl (et (k30 d1)) (et (k30 d2)) hS d0 (fun e=>(m128 e)) m127 g125 (by decide) ?_); clear hS; intro v122 w4 rs_ hp_ hS; cases (show _=rs_ from hp_)
   replace hS:=Sep.reput hS p0; refine po ?_
   refine st (wnil ?_)
   refine (fun h=>bn (xn h)) ?_
   refine creg ?_
   obtain ⟨i129,g130,h⟩:=bI h
   refine wl (su (u_addc (et (k20 d7)) ec g130) (dt (q30 p4)) (st (wnil (xl ?_))))
   exact ⟨n_2,_,_,rfl,(aK6 (aI (aK1 (aO1 (aK10 (aK8 (aI (aO7 aZ)))))))),⟨_,i129,l124,v122,(cs85++cs126),rfl,h,le108,hS,m123⟩,Nat.lt_succ_self _⟩
  ·replace h:=iF h110 h
   refine cexit ?_
   refine (fun h=>xe (xe (bh h))) ?_
   refine xn (nz ?_)
   iterate 2 refine st ?_
   refine nw (cret ?_)
   obtain ⟨μ4,a131,c132,e135,le134,m133,hq_⟩:=Sep.frzRow hS m109 rfl; clear hS
   subst e135; have hS:=hq_; clear hq_
   obtain rfl:=oI h
   refine ret1 rfl d2 ?_
   exact ⟨_,_,_,rfl,(le39.t (le59.t (le108.t le134))),hS,m133⟩
theorem sh_all_w (hg:Le Gm μ0)  {r:List TSo}  (h:sh_all =some r) (hS:Sq μ0 w0 w (rsF)):CallsV prog 28 [] w (fun v w'=>∃ (μ':M) (a1:Option Addr) (c2:Nat),v=.slice a1 r.length c2∧Le μ0 μ'∧Sq μ' w0 w' (rsF)∧Sl μ' a1 c2 r):=by
 unfold sh_all at h
 refine enter func28 rfl (frm:=u1 (u5 [])) rfl (nz (st (nx ?_)))
 obtain ⟨r4,g5,h⟩:=bI h
 refine ca (sh_early_w hg g5 hS) ?_
 rintro _ w1 ⟨μ1,a7,c8,rfl,le6,hS,m9⟩
 refine po ?_
 obtain ⟨r10,g11,h⟩:=bI h
 refine ca (sh_middle_w (hg.t le6) g11 hS) ?_
 rintro _ w2 ⟨μ2,a13,c14,rfl,le12,hS,m15⟩
 refine po ?_
 obtain ⟨r16,g17,h⟩:=bI h
 refine ca (sh_late_w (hg.t (le6.t le12)) g17 hS) ?_
 rintro _ w3 ⟨μ3,a19,c20,rfl,le18,hS,m21⟩
 refine po ?_
 refine wl (s_bsl underlying185 ti70 (Parts.s (et d1) rfl (Parts.s (et d2) rfl (Parts.s (et d3) rfl Parts.z))) rfl rfl hS ?_); clear hS; intro b22 w4 hb23 hS; refine po ?_
 obtain ⟨μ4,le25,m24,hS⟩:=Sep.frzBlk (l:=([r4,r10,r16]:List (List TSo))) hS (Rw.cons (α:=List TSo) (cs:=[.slice a7 r4.length c8]) ⟨a7,c8,rfl,(m9.up (le12.t le18))⟩ (Rw.cons (α:=List TSo) (cs:=[.slice a13 r10.length c14]) ⟨a13,c14,rfl,(m15.up le18)⟩ (Rw.cons (α:=List TSo) (cs:=[.slice a19 r16.length c20]) ⟨a19,c20,rfl,m21⟩ Rw.nil))) (Nat.le_of_ble_eq_true rfl)
 obtain ⟨r26,g27,h⟩:=bI h
 refine ca (sl_concat_one_w (hg.t (le6.t (le12.t (le18.t le25)))) m24 g27 hS) ?_
 rintro _ w5 ⟨μ5,a29,c30,rfl,le28,hS,m31⟩
 refine po (st (nw (cret ?_)))
 obtain rfl:=oI h
 refine ret1 rfl d0 ?_
 exact ⟨_,_,_,rfl,(le6.t (le12.t (le18.t (le25.t le28)))),hS,m31⟩
theorem sh_text_w (hg:Le Gm μ0) {p_1:List UInt8} {r:List UInt8×Int}  (h:sh_text p_1=some r) (hS:Sq μ0 w0 w (rsF)):CallsV prog 20 [S p_1] w (fun v w'=>∃ (μ':M) ,v=.tuple ⟨[S r.1,.int .i64 r.2]⟩∧Le μ0 μ'∧Sq μ' w0 w' (rsF)):=by
 unfold sh_text at h
 refine enter func20 rfl (frm:=_::u1 (u5 (u10 []))) rfl (nz ?_)
 refine wl (s_box (et d0) rfl hS ?_); clear hS; intro b1 w1 hb2 hS; refine po ?_
 iterate 2 refine st ?_
 refine nx ?_
 obtain ⟨r3,g4,h⟩:=bI h
 refine ca (sh_all_w hg g4 hS) ?_
 rintro _ w2 ⟨μ1,a6,c7,rfl,le5,hS,m8⟩
 refine po (st (nx (st ?_)))
 obtain ⟨μ2,le10,m9,hS⟩:=Sep.frzAt hS
 refine wl (su (u_mkfn e0 (e1 (et d1) e0)) (dt p8) ?_)
 obtain ⟨r11,g12,h⟩:=bI h
 refine wl (s_callv isfn29 ef (e1 (et d7) (e1 (et d8) e0)) (sl_indexfunc_one_w (hg.t (le5.t le10)) (m8.up le10) (⟨isfn30,fun hle_ hm_ g_ hS_=>by obtain rfl:=hm_; exact sh_text1_w ((hg.t (le5.t le10)).t hle_) (m9.up hle_) g_ hS_⟩) g12 hS) ?_)
 rintro _ w3 ⟨μ3,rfl,le13,hS⟩
 refine po (st (ny (nz ?_)))
 iterate 2 refine st ?_
 refine nw ?_
 refine cifd (et (k10 d1)) (xT h) fun h14=>?_
 replace h:=iF h14 h
 refine cskip (xn (nz ?_))
 iterate 2 refine st ?_
 obtain ⟨x15,g16,h⟩:=bI h
 obtain ⟨b17,o18,cs19,e20,f21,m22⟩:=SlR.elem (m8.up (le10.t le13)) g16
 obtain rfl:=m22
 refine wl (su (u_iax underlying70 ti74 (et (k10 d2)) (et (k10 d3)) e20) (dt (q10 p4)) (st (ld ((f21 _ hS.a).one d1) ?_)))
 iterate 2 refine st ?_
 refine nw (cret ?_)
 obtain rfl:=oI h
 refine ret2 rfl d2 d3 ?_
 exact ⟨_,rfl,(le5.t (le10.t le13)),hS⟩
theorem sh_module_w (hg:Le Gm μ0) {p_1:List UInt8} {r:TModule×Int}  (h:sh_module fu p_1=some r) (hS:Sq μ0 w0 w (rsF)):CallsV prog 18 [S p_1] w (fun v w'=>∃ (μ':M) (a1:Option Addr) (c2:Nat) (a4:Option Addr) (c5:Nat),v=.tuple ⟨[.agg ⟨[.slice a1 r.1.Boxes.length c2,.slice a4 r.1.Units.length c5]⟩,.int .i64 r.2]⟩∧Le μ0 μ'∧Sq μ' w0 w' (rsF)∧Sl μ' a1 c2 r.1.Boxes∧Sl μ' a4 c5 r.1.Units):=by
 unfold sh_module at h
 refine enter func18 rfl (frm:=_::u1 (u5 (u10 (u20 [])))) rfl (nz ?_)
 refine wl (s_alloc ti37 hS ?_); clear hS; intro b7 w1 hb8 hS; refine po ?_
 refine st (nx (st ?_))
 obtain ⟨r9,g10,h⟩:=bI h
 refine ca (sh_text_w hg g10 hS) ?_
 rintro _ w2 ⟨μ1,rfl,le11,hS⟩
 refine po ?_
 iterate 5 refine st ?_
 refine ny (nz ?_)
 iterate 2 refine st ?_
 refine nw ?_
 refine cifd (et (k10 d5)) (xT h) fun h12=>?_
 replace h:=iF h12 h
 refine cskip (xn (nz (st ?_)))
 obtain ⟨r13,g14,h⟩:=bI h
 refine ca (syn_read_w (hg.t le11) g14 hS) ?_
 rintro _ w3 ⟨μ2,a16,c17,rfl,le15,hS,m18⟩
 refine po ?_
 iterate 3 refine st ?_
 refine wl (s_alloc ti45 hS ?_); clear hS; intro b19 w4 hb20 hS; refine po ?_
 refine st (wl (s_storeA ti45 (et d7) (et (k20 d2)) rfl rfl hS d0 rfl p0 dn ?_))
 clear hS; intro w5 hS
 refine ny (nz (st (ld ((hS.blk d0).cell d0) (st (nw ?_)))))
 refine cifd (et (k20 d5)) (xT h) fun h21=>?_
 replace h:=iF h21 h
 refine cskip (xn (nz (st ?_)))
 obtain ⟨r22,g23,h⟩:=bI h
 refine ca (gen_compile_w (hg.t (le11.t le15)) m18 g23 hS) ?_
 rintro _ w6 ⟨μ3,a25,c26,a28,c29,rfl,le24,hS,m27,m30⟩
 refine po ?_
 iterate 3 refine st ?_
 refine wl (s_alloc ti37 hS ?_); clear hS; intro b31 w7 hb32 hS; refine po ?_
 refine wl (s_storeA ti37 (et d8) (et (k30 d2)) rfl rfl hS d0 rfl p0 dn ?_)
 clear hS; intro w8 hS
 refine wl (s_storeA ti45 (et d7) (et (k30 d3)) rfl rfl hS d1 rfl p1 dn ?_)
 clear hS; intro w9 hS
 refine ny ?_
 refine ccutE (rg 34 3) (by decide) (fun m w=>∃ (μx:M) ,m=(yK3 (.i (.int .i64 r22.2.Err)::(yK20 (yK10 (yO3 34 [])))))∧sh_module_j1 r22 =some r∧Le μ3 μx∧Sq μx w0 w (.blk b7 37 [.slice a25 r22.1.Boxes.length c26,.slice a28 r22.1.Units.length c29]::rsF)) (by rintro _ _ ⟨_,rfl,_⟩; rfl) ?_ ?_
 ·refine cdw hS ?_; clear hS; intro w10 hS
  refine cpi 1 rfl (cr 0 [0,3,4] rfl (u_loads ti37 (et d8) (hS.blk d0).cells rfl) (q30 p4) ?_)
  refine sc2G (i:=2) (j:=3) rfl rfl rfl rfl rfl (wn0 rfl) (wn0 rfl) ?_ ?_
  ·refine id (s_load ti30 (et (k30 d5)) ((hS.blk d1).cell d0) (dt (q30 p6)) (sc1 rfl rfl rfl (s_storeA ti37 (et d2) (et (k30 d4)) rfl rfl hS d2 rfl p2 dn ?_)))
   clear hS; intro w11 hS
   refine cpi 4 rfl (sc_nil (xl ?_))
   replace hS:=(hS.drop Rm.z).drop Rm.z
   exact ⟨_,_,rfl,(aK3 (aI (aK20 (aK10 (aO3 aZ))))),_,rfl,h,Le.r,hS⟩
  ·refine id (s_storeA ti37 (et d2) (et (k30 d4)) rfl rfl hS d2 rfl p2 dn ?_)
   clear hS; intro w12 hS
   refine cr 2 [2,4] rfl (u_load ti30 (et (k30 d5)) ((hS.blk d1).cell d0)) (q30 p6) (cpi 4 rfl (sc_nil (xl ?_)))
   replace hS:=(hS.drop Rm.z).drop Rm.z
   exact ⟨_,_,rfl,(aK3 (aI (aK20 (aK10 (aO3 aZ))))),_,rfl,h,Le.r,hS⟩
 ·rintro _ t w13 ⟨μ4,rfl,h,le33,hS⟩
  unfold sh_module_j1 at h
  refine nrm (mK3 (mi (mK20 (mK10 (mO3 mz))))) (xn (cret ?_))
  obtain rfl:=oI h
  refine retN rfl (RVs.s (.a d2 ti37 (hS.blk d0).cells rfl) (RVs.s (.t d3) RVs.z)) ?_
  replace hS:=hS.drop Rm.z
  exact ⟨_,_,_,_,_,rfl,(le11.t (le15.t (le24.t le33))),hS,(m27.up le33),(m30.up le33)⟩
theorem sh_ask_w (hg:Le Gm μ0) {p_1:List UInt8} {p_2:List (List Int)} {r:TReport×Int} (m3:Sl μ0 a1 c2 p_2) (h:sh_ask fu p_1 p_2=some r) (hS:Sq μ0 w0 w (rsF)):CallsV prog 16 [S p_1,.slice a1 p_2.length c2] w (fun v w'=>∃ (μ':M) (a4:Option Addr) (c5:Nat) (a7:Option Addr) (c8:Nat) (a10:Option Addr) (c11:Nat),v=.tuple ⟨[.agg ⟨[.int .i64 r.1.State,.int .i64 r.1.Box,.int .i64 r.1.Trap,.slice a4 r.1.Out.length c5,.slice a7 r.1.Sent.length c8,.slice a10 r.1.Took.length c11,.int .i64 r.1.Steps]⟩,.int .i64 r.2]⟩∧Le μ0 μ'∧Sq μ' w0 w' (rsF)∧Sl μ' a4 c5 r.1.Out∧Sl μ' a7 c8 r.1.Sent∧Sl μ' a10 c11 r.1.Took):=by
 unfold sh_ask at h
 refine enter func16 rfl (frm:=_::_::u20 []) rfl (nz ?_)
 refine wl (s_alloc ti29 hS ?_); clear hS; intro b13 w1 hb14 hS; refine po ?_
 refine st (nx (st ?_))
 obtain ⟨r15,g16,h⟩:=bI h
 refine ca (sh_module_w hg g16 hS) ?_
 rintro _ w2 ⟨μ1,a18,c19,a21,c22,rfl,le17,hS,m20,m23⟩
 refine po ?_
 iterate 3 refine st ?_
 refine wl (s_alloc ti37 hS ?_); clear hS; intro b24 w3 hb25 hS; refine po ?_
 refine wl (s_storeA ti37 (et d6) (et (k10 d1)) rfl rfl hS d0 rfl p0 dn ?_)
 clear hS; intro w4 hS
 refine st (ny (nz ?_))
 iterate 2 refine st ?_
 refine nw ?_
 refine cifd (et (k10 d4)) (xT h) fun h26=>?_
 replace h:=iF h26 h
 refine cskip (xn (nz (lds (hS.blk d0).cells rfl (st ?_))))
 obtain ⟨r27,g28,h⟩:=bI h
 refine ca (vm_solo_w (hg.t le17) m20 m23 (m3.up le17) g28 hS) ?_
 rintro _ w5 ⟨μ2,a30,c31,a33,c34,a36,c37,rfl,le29,hS,m32,m35,m38⟩
 refine po ?_
 iterate 2 refine st ?_
 refine wl (s_storeA ti29 (et d4) (et (k20 d0)) rfl rfl hS d1 rfl p1 dn ?_)
 clear hS; intro w6 hS
 refine st (nw (cret ?_))
 obtain rfl:=oI h
 refine retN rfl (RVs.s (.a d4 ti29 (hS.blk d1).cells rfl) (RVs.s (.t d5) RVs.z)) ?_
 replace hS:=(hS.drop Rm.z).drop Rm.z
 exact ⟨_,_,_,_,_,_,_,rfl,(le17.t le29),hS,m32,m35,m38⟩
end Go.Proofs.YtaenlbapejigbaaGreatDoor
