/- Texts of Wb. -/
import Derived.Test.YtppgfpelddpnbaaGreatDoorCXu
import Derived.Test.YtppgfpelddpnbaaGreatDoorCFl
import Derived.Lib.Builder
import Derived.Test.YtppgfpelddpnbaaGreatDoorCMd
import Derived.Test.YtppgfpelddpnbaaGreatDoorCWa
set_option linter.unusedSimpArgs false
set_option linter.unusedVariables false
set_option linter.unusedSectionVars false
set_option maxRecDepth 100000
namespace Go.Proofs.YtppgfpelddpnbaaGreatDoor
open Go.Wk Go.Xt Go.RowKit
section
variable {P:Program} {Q:Exit→Act→World→Prop} {K:List Value→List Deferred→World→Prop} {fr fr':List Value} {ds:List Deferred} {w:World} {dst:Option Tmp} {ty:TypeId} {pos:String} {after:Array Edge} {g:Option (Nat×Bool)}
theorem s_neqp {x y:Operand} {t t' te:TypeId} {j:TypeInfo} {a:Addr} (hp:P.underlying t=some (.pointer te)) (hte:P.info? te=some j)
  (hx:Ev fr x (.pointer (some a))) (hy:Ev fr y (.pointer (some a))) (hd:Dt fr dst (.bool false) fr') (h:K fr' ds w):OW P (Oper.mk dst (.binOp .neq t x y t') ty pos after g) fr ds w K Q:=by
 refine op_v (w':=w) ?_ hd h
 have e1:=hx ds
 have e2:=hy ds
 have e3:=Lib.run_neq_ptr_same (P:=P) w a hp hte
 simp [execOp,e1,e2,eqGuard,e3]
theorem s_nilp {x:Operand} {t t' te:TypeId} {a:Addr} (hp:P.underlying t=some (.pointer te))
  (hx:Ev fr x (.pointer (some a))) (hd:Dt fr dst (.bool false) fr') (h:K fr' ds w):OW P (Oper.mk dst (.binOp .eql t x (.const (.pointer none)) t') ty pos after g) fr ds w K Q:=by
 refine op_v (w':=w) ?_ hd h
 have e1:=hx ds
 have e2:(F fr ds).eval (.const (.pointer none))=.pointer none:=rfl
 have e3:∀ d:Nat,(Op.equalIn (d+1) t (.pointer (some a)) (.pointer none)).run P w=.ok false w:=fun d=>by
  simp [Op.equalIn,run_underlying hp]
 have e4:(Op.equalIn Op.maxDepth t (.pointer (some a)) (.pointer none)).run P w=.ok false w:=e3 9999
 simp [execOp,e1,e2,eqGuard,binOp,Op.equal,e4]
theorem s_toun {x:Operand} {src dt_ t e:TypeId} {j:TypeInfo} {cells:Nat} {a:Addr} (hs:P.underlying src=some (.pointer t)) (hu:P.underlying dt_=some .unsafePointer) (ht:P.info? t=some j) (hj:j.size≠0)
  (hsh:w.shape? a.block=some (e,cells)) (hoff:a.off<cells) (hx:Ev fr x (.pointer (some a))) (hd:Dt fr dst (.pointer (some a)) fr') (h:K fr' ds w):OW P (Oper.mk dst (.convert src dt_ x) ty pos after g) fr ds w K Q:=by
 refine op_v (w':=w) ?_ hd h
 have e1:=hx ds
 have e3:=Lib.run_to_unsafe (P:=P) w a hs hu ht hj hsh hoff
 simp [execOp,e1,e3]
theorem s_ofun {x:Operand} {src dt_ u e:TypeId} {j:TypeInfo} {cells:Nat} {a:Addr} (hs:P.underlying src=some .unsafePointer) (hu:P.underlying dt_=some (.pointer u)) (hi:P.info? u=some j)
  (hsh:w.shape? a.block=some (e,cells)) (hlies:liesAt P P.depth e (cells / P.cellsOf e) a.off u 1=true) (hx:Ev fr x (.pointer (some a))) (hd:Dt fr dst (.pointer (some a)) fr') (h:K fr' ds w):OW P (Oper.mk dst (.convert src dt_ x) ty pos after g) fr ds w K Q:=by
 refine op_v (w':=w) ?_ hd h
 have e1:=hx ds
 have e3:=Lib.run_from_unsafe (P:=P) w a hs hu hi hsh hlies
 simp [execOp,e1,e3]
theorem s_noesc {f x : Operand} {k : FuncId} {fn : Func} {v : Value} {tys : Array TypeId} (hf : P.funcs[k]? = some fn) (hname : (fn.name == "runtime.NumGoroutine") = false) (hb : fn.body.isNone = true) (hn : Extern.findNext fn = none) (he : Extern.find fn = some Extern.AbiNoEscape.same)
  (hfo:Ev fr f (.func (.func k) #[] #[])) (hx:Ev fr x v) (hd:Dt fr dst v fr') (h:K fr' ds w):OW P (Oper.mk dst (.call { callee:=.value f,args:=⟨[x]⟩,argTypes:=tys }) ty pos after g) fr ds w K Q:=by
 refine op_v (w':=w) ?_ hd h
 have e1:=hfo ds
 have e2:=hx ds
 have e3:=run_callFunc_extern hf hname hb hn he #[v] w
 rw [Lib.run_noEscape] at e3
 simp [execOp,resolve,invoke,Deferred.ofValue,e1,e2,e3,Result.andThen]
end
section
variable {μ0:M} {w0 w:World} {rsF:List Res}
theorem sizeB:∃ j,Tryz.prog.info? 47=some j∧j.size≠0:=by
 have h:(Tryz.prog.info? 47).map (·.size)=some 2:=by kernel_rfl
 obtain ⟨j,h1,h2⟩:=Option.map_eq_some_iff.1 h
 exact ⟨j,h1,by rw [h2]; decide⟩
theorem liesB:liesAt Tryz.prog Tryz.prog.depth 47 (2 / Tryz.prog.cellsOf 47) 0 47 1=true:=by kernel_rfl
theorem bw_check {b:Nat} {av bv:Value} (hb:Bp μ0 b av) (hS:Sq μ0 w0 w (.blk b 47 [av,bv]::rsF)) :
  CallsV Tryz.prog 25 [.pointer (some ⟨b,0,none⟩)] w (fun v w'=>v=.tuple ⟨[]⟩∧Sq μ0 w0 w' (.blk b 47 [.pointer (some ⟨b,0,none⟩),bv]::rsF)):=by
 obtain ⟨j,hj,hj0⟩:=sizeB
 refine enter Tryz.func25 rfl (frm:=[_,_,_,_,_,_,_,_,_,_,_,_,_,_,_,_,_,_,_,_]) rfl ?_
 refine cseq ?_
 refine creg ?_
 refine wl (s_move (et d0) (dt p2) ?_)
 refine wl (s_nilck (et d2) (dt p3) ?_)
 refine wl (s_fa fa47_0 (et d3) rfl (dt p4) ?_)
 refine wl (s_load ti44 (et d4) ((hS.blk d0).cell d0) (dt p5) ?_)
 rcases hb with rfl | rfl
 ·refine wl (s_nilpeql Tryz.underlying44 (et d5) (dt p6) ?_)
  refine wnil ?_
  refine xn ?_
  refine cift (et d6) ?_
  refine creg ?_
  refine wl (s_move (et d0) (dt p7) ?_)
  refine wl (s_move (et d0) (dt p8) ?_)
  have hsh:w.shape? b=some (47,2):=by
   have h2:w.heap[b]?=some (.cells ⟨[.pointer none,bv]⟩ 47 (0,0)):=hS.get d0
   simp [World.shape?,h2]
  refine wl (s_toun Tryz.underlying44 Tryz.underlying101 hj hj0 hsh (Nat.zero_lt_succ 1) (et d8) (dt p9) ?_)
  refine wl (s_noesc Tryz.func45 (by kernel_rfl) (by kernel_rfl) (by kernel_rfl) (by kernel_rfl) (fun _=>rfl) (et d9) (dt (q10 p0)) ?_)
  refine wl (s_ofun Tryz.underlying101 Tryz.underlying44 hj hsh liesB (et (k10 d0)) (dt (q10 p1)) ?_)
  refine wl (s_nilck (et d7) (dt (q10 p2)) ?_)
  refine wl (s_fa fa47_0 (et (k10 d2)) rfl (dt (q10 p3)) ?_)
  refine wl (s_store1 ti44 (et (k10 d3)) (et (k10 d1)) rfl hS d0 p0 rfl p0 dn ?_)
  clear hS; intro w1 hS
  refine wnil ?_
  refine end0 rfl ?_
  exact ⟨rfl,hS⟩
 ·refine wl (s_nilp Tryz.underlying44 (et d5) (dt p6) ?_)
  refine wnil ?_
  refine xn ?_
  refine ciff (et d6) ?_
  refine cseq ?_
  refine creg ?_
  refine wl (s_move (et d0) (dt (q10 p4)) ?_)
  refine wl (s_nilck (et (k10 d4)) (dt (q10 p5)) ?_)
  refine wl (s_fa fa47_0 (et (k10 d5)) rfl (dt (q10 p6)) ?_)
  refine wl (s_load ti44 (et (k10 d6)) ((hS.blk d0).cell d0) (dt (q10 p7)) ?_)
  refine wl (s_move (et d0) (dt (q10 p8)) ?_)
  refine wl (s_neqp Tryz.underlying44 hj (et (k10 d7)) (et (k10 d8)) (dt (q10 p9)) ?_)
  refine wnil ?_
  refine xn ?_
  refine ciff (et (k10 d9)) ?_
  refine cskip ?_
  refine end0 rfl ?_
  exact ⟨rfl,hS⟩
theorem bw_string {b:Nat} {av bv:Value} {l:List UInt8} {cs:List Value} (hm:Rw μ0 cs l) (hS:Sq μ0 w0 w (.blk b 47 [av,bv]::.row bv 5 1 l.length cs::rsF)) :
  CallsV Tryz.prog 17 [.pointer (some ⟨b,0,none⟩)] w (fun v w'=>∃ (μ':M),v=S l∧Le μ0 μ'∧Sq μ' w0 w' rsF):=by
 obtain ⟨a,cap,rfl⟩:=Row.shape (hS.get d1)
 refine enter Tryz.func17 rfl (frm:=[_,_,_,_,_,_,_,_,_,_,_,_,_,_]) rfl ?_
 refine cseq ?_
 refine creg ?_
 refine wl (s_assign ec (dt p2) ?_)
 refine wnil ?_
 refine xn ?_
 refine cseq ?_
 refine cdraw (by kernel_rfl) rfl fun w1 hh_ ho_ ht_ hu_=>?_
 replace hS:=hS.drew hh_ ho_ ht_ hu_
 refine sf_start ?_
 refine sf_pu (i:=0) [0,1,2,3,4,10,11] (blind_of fun _ _ _ h=>h.2) rfl rfl rfl (u_move (et d0)) p3 ?_
 refine sf_pu (i:=1) [1,2,3,4,10,11] (blind_of fun _ _ _ h=>h.2) rfl rfl rfl (u_nilck (et d3)) p4 ?_
 refine sf_pu (i:=2) [2,3,4,10,11] (blind_of fun _ _ _ h=>h.2) rfl rfl rfl (u_fa fa47_1 (et d4) rfl) p5 ?_
 refine sf_pu (i:=5) [5,6,7,8,9,10,11] (blind_of fun _ _ _ h=>h.2) rfl rfl rfl (u_move (et d0)) p8 ?_
 refine sf_pu (i:=6) [6,7,8,9,10,11] (blind_of fun _ _ _ h=>h.2) rfl rfl rfl (u_nilck (et d8)) p9 ?_
 refine sf_pu (i:=7) [7,8,9,10,11] (blind_of fun _ _ _ h=>h.2) rfl rfl rfl (u_fa fa47_1 (et d9) rfl) (q10 p0) ?_
 refine sf_rd (i:=3) [3,4,10,11] (blind_of fun _ _ _ h=>h.2) rfl rfl rfl (u_load ti45 (et d5) ((hS.blk d0).cell d1)) p6 ?_
 refine sf_rd (i:=8) [8,9,10,11] (blind_of fun _ _ _ h=>h.2) rfl rfl rfl (u_load ti45 (et (k10 d0)) ((hS.blk d0).cell d1)) (q10 p1) ?_
 refine sf_pu (i:=9) [9,10,11] (blind_of fun _ _ _ h=>h.2) rfl rfl rfl (u_lensl Tryz.underlying45 (et (k10 d1))) (q10 p2) ?_
 refine sf1 rfl rfl rfl rfl (wn0 rfl) (s_usd Tryz.underlying78 rfl (et d6) hS d1 ?_)
 clear hS; intro w2 p hp hS; refine pu (dt p7) ?_
 refine ⟨(Mons.s (u_load ti45 (et (k10 d0)) ((hS.blk d0).cell d1)) Mons.z),?_⟩
 refine sf1 rfl rfl rfl rfl (wn0 rfl) (s_ustr hp Tryz.underlying78 (by kernel_rfl) rfl (et d7) (et (k10 d2)) hS d1 hm ?_)
 clear hS; intro w3 r' rs_ hp_ hS; cases (show _=rs_ from hp_); refine pu (dt (q10 p3)) ?_
 refine ⟨Mons.z,?_⟩
 refine sf_pu (i:=11) [11] (blind_of fun _ _ _ h=>h.2) rfl rfl rfl (u_assign (et (k10 d3))) p2 ?_
 refine sf_nil ?_
 refine xn ?_
 refine cret ?_
 refine ret1 rfl d2 ?_
 exact ⟨_,rfl,Le.r,(hS.drop Rm.z).drop Rm.z⟩
end
end Go.Proofs.YtppgfpelddpnbaaGreatDoor
set_option maxRecDepth 100000
set_option maxHeartbeats 20000000
namespace Go.Proofs.YtppgfpelddpnbaaGreatDoor
open Go.Wk Go.Xt Go.Y
theorem bd_len_w {μ0:M} {w0 w:World} {rsF:List Res} (hg:Le Gm μ0) {b1:Nat} {v2:Value} {buf_4:List UInt8} {v5:Value} {cs6:List Value} {r:Int} (m3:Bp μ0 b1 v2) (m7:Rw μ0 cs6 buf_4) (h:bd_len buf_4=some r) (hS:Sq μ0 w0 w (.blk b1 47 [v2,v5]::.row v5 5 1 buf_4.length cs6::rsF)):CallsV Tryz.prog 16 [.pointer (some ⟨b1,0,none⟩)] w (fun v w'=>∃ (μ':M) ,v=.int .i64 r∧Le μ0 μ'∧Sq μ' w0 w' (.blk b1 47 [v2,v5]::.row v5 5 1 buf_4.length cs6::rsF)):=by
  unfold bd_len at h
  refine enter Tryz.func16 rfl (frm:=[_,_,_,_,_,_,_,_]) rfl ?_
  refine cseq ?_
  refine creg ?_
  refine wl (s_assign ec (dt p2) ?_)
  refine wnil ?_
  refine xn ?_
  refine cseq ?_
  refine creg ?_
  refine wl (s_move (et d0) (dt p3) ?_)
  refine wl (s_nilck (et d3) (dt p4) ?_)
  refine wl (s_fa fa47_1 (et d4) rfl (dt p5) ?_)
  refine wl (s_load ti45 (et d5) ((hS.blk d0).cell d1) (dt p6) ?_)
  refine wl (s_lenv Tryz.underlying45 (et d6) (hS.get d1).isSl (dt p7) ?_)
  refine wl (s_assign (et d7) (dt p2) ?_)
  refine wnil ?_
  refine xn ?_
  refine cret ?_
  obtain rfl:=oI h
  refine ret1 rfl d2 ?_
  exact ⟨_,rfl,Le.r,hS⟩
theorem bd_byte_w {μ0:M} {w0 w:World} {rsF:List Res} (hg:Le Gm μ0) {b1:Nat} {v2:Value} {buf_4:List UInt8} {v5:Value} {cs6:List Value} {p_2:UInt8} {r:Unit×List UInt8} (m3:Bp μ0 b1 v2) (m7:Rw μ0 cs6 buf_4) (h:bd_byte buf_4 p_2=some r) (hS:Sq μ0 w0 w (.blk b1 47 [v2,v5]::.row v5 5 1 buf_4.length cs6::rsF)):CallsV Tryz.prog 11 [.pointer (some ⟨b1,0,none⟩),.int .u8 (p_2.toNat:Int)] w (fun v w'=>∃ (μ':M) (v8:Value) (v10:Value) (cs11:List Value),v=.nilIface∧Le μ0 μ'∧Sq μ' w0 w' (.blk b1 47 [v8,v10]::.row v10 5 1 r.2.length cs11::rsF)∧Bp μ' b1 v8∧Rw μ' cs11 r.2):=by
  unfold bd_byte at h
  refine enter Tryz.func11 rfl (frm:=[_,_,_,_,_,_,_,_,_,_,_,_,_,_,_,_,_]) rfl ?_
  refine cseq ?_
  refine creg ?_
  refine wl (s_assign ec (dt p4) ?_)
  refine wnil ?_
  refine xn ?_
  refine cseq ?_
  refine creg ?_
  refine wl (s_move (et d0) (dt p5) ?_)
  refine wl (s_callv isfn25 ef (e1 (et d5) e0) (bw_check m3 hS) ?_); clear hS; rintro _ w1 ⟨rfl,hS⟩; refine pu (dt p6) ?_
  have m13:Bp μ0 b1 (.pointer (some ⟨b1,0,none⟩)):=.inr rfl
  refine wnil ?_
  refine xn ?_
  refine cseq ?_
  refine creg ?_
  refine wl (s_move (et d0) (dt p7) ?_)
  refine wl (s_move (et d0) (dt p8) ?_)
  refine wl (s_nilck (et d8) (dt p9) ?_)
  refine wl (s_fa fa47_1 (et d9) rfl (dt (q10 p0)) ?_)
  refine wl (s_load ti45 (et (k10 d0)) ((hS.blk d0).cell d1) (dt (q10 p1)) ?_)
  refine wl (s_move (et d1) (dt (q10 p2)) ?_)
  refine wl (s_bsl Tryz.underlying45 ti5 (Parts.s (et (k10 d2)) rfl Parts.z) rfl rfl hS ?_); clear hS; intro b14 w2 hb15 hS; refine pu (dt (q10 p3)) ?_
  replace h:=bI h; obtain ⟨l18,g19,h⟩:=h
  have m20:Rw μ0 [.int .u8 (p_2.toNat:Int)] [p_2]:=(Rw.one (α:=UInt8) rfl)
  have m17:=Rw.app m7 m20 g19
  refine wl (s_app1 Tryz.underlying45 ti5 rfl (et (k10 d1)) (et (k10 d3)) hS d2 (hS.blk d0).cells m20 rfl g19 (by decide) ?_); clear hS; intro v16 w3 rs_ hp_ hS; cases (show _=rs_ from hp_)
  replace hS:=Sep.reput hS p2; refine pu (dt (q10 p4)) ?_
  replace hS:=hS.drop Rm.z
  refine wl (s_nilck (et d7) (dt (q10 p5)) ?_)
  refine wl (s_fa fa47_1 (et (k10 d5)) rfl (dt (q10 p6)) ?_)
  refine wl (s_store1 ti45 (et (k10 d6)) (et (k10 d4)) (hS.get d1).cellV hS d0 p1 rfl p0 dn ?_)
  clear hS; intro w4 hS
  refine wnil ?_
  refine xn ?_
  refine cseq ?_
  refine creg ?_
  refine wl (s_assign ec (dt p4) ?_)
  refine wnil ?_
  refine xn ?_
  refine cret ?_
  obtain rfl:=oI h
  refine ret1 rfl d4 ?_
  exact ⟨_,(.pointer (some ⟨b1,0,none⟩)),v16,((cs6++[.int .u8 (p_2.toNat:Int)]):List Value),rfl,Le.r,hS,m13,m17⟩
theorem bd_str_w {μ0:M} {w0 w:World} {rsF:List Res} (hg:Le Gm μ0) {b1:Nat} {v2:Value} {buf_4:List UInt8} {v5:Value} {cs6:List Value} {p_2:List UInt8} {r:Int×Unit×List UInt8} (m3:Bp μ0 b1 v2) (m7:Rw μ0 cs6 buf_4) (h:bd_str buf_4 p_2=some r) (hS:Sq μ0 w0 w (.blk b1 47 [v2,v5]::.row v5 5 1 buf_4.length cs6::rsF)):CallsV Tryz.prog 9 [.pointer (some ⟨b1,0,none⟩),S p_2] w (fun v w'=>∃ (μ':M) (v8:Value) (v10:Value) (cs11:List Value),v=.tuple ⟨[.int .i64 r.1,.nilIface]⟩∧Le μ0 μ'∧Sq μ' w0 w' (.blk b1 47 [v8,v10]::.row v10 5 1 r.2.2.length cs11::rsF)∧Bp μ' b1 v8∧Rw μ' cs11 r.2.2):=by
  unfold bd_str at h
  refine enter Tryz.func9 rfl (frm:=[_,_,_,_,_,_,_,_,_,_,_,_,_,_,_,_,_,_,_]) rfl ?_
  refine cseq ?_
  refine creg ?_
  refine wl (s_assign ec (dt p4) ?_)
  refine wl (s_assign ec (dt p5) ?_)
  refine wnil ?_
  refine xn ?_
  refine cseq ?_
  refine creg ?_
  refine wl (s_move (et d0) (dt p6) ?_)
  refine wl (s_callv isfn25 ef (e1 (et d6) e0) (bw_check m3 hS) ?_); clear hS; rintro _ w1 ⟨rfl,hS⟩; refine pu (dt p7) ?_
  have m13:Bp μ0 b1 (.pointer (some ⟨b1,0,none⟩)):=.inr rfl
  refine wnil ?_
  refine xn ?_
  refine cseq ?_
  refine creg ?_
  refine wl (s_move (et d0) (dt p8) ?_)
  refine wl (s_move (et d0) (dt p9) ?_)
  refine wl (s_nilck (et d9) (dt (q10 p0)) ?_)
  refine wl (s_fa fa47_1 (et (k10 d0)) rfl (dt (q10 p1)) ?_)
  refine wl (s_load ti45 (et (k10 d1)) ((hS.blk d0).cell d1) (dt (q10 p2)) ?_)
  refine wl (s_move (et d1) (dt (q10 p3)) ?_)
  replace h:=bI h; obtain ⟨l14,g15,h⟩:=h
  have m17:=Rw.app m7 (Rw.str p_2) g15
  refine wl (s_appStr Tryz.underlying45 Tryz.underlying9 ti5 (et (k10 d2)) (et (k10 d3)) hS d1 g15 ?_); clear hS; intro v16 w2 rs_ hp_ hS; cases (show _=rs_ from hp_)
  replace hS:=Sep.reput hS p1; refine pu (dt (q10 p4)) ?_
  refine wl (s_nilck (et d8) (dt (q10 p5)) ?_)
  refine wl (s_fa fa47_1 (et (k10 d5)) rfl (dt (q10 p6)) ?_)
  refine wl (s_store1 ti45 (et (k10 d6)) (et (k10 d4)) (hS.get d1).cellV hS d0 p1 rfl p0 dn ?_)
  clear hS; intro w3 hS
  refine wnil ?_
  refine xn ?_
  refine cseq ?_
  refine creg ?_
  refine wl (s_move (et d1) (dt (q10 p7)) ?_)
  refine wl (s_lens Tryz.underlying9 (et (k10 d7)) (dt (q10 p8)) ?_)
  refine wl (s_assign (et (k10 d8)) (dt p4) ?_)
  refine wl (s_assign ec (dt p5) ?_)
  refine wnil ?_
  refine xn ?_
  refine cret ?_
  obtain rfl:=oI h
  refine ret2 rfl d4 d5 ?_
  exact ⟨_,(.pointer (some ⟨b1,0,none⟩)),v16,((cs6++Lib.strCells ⟨⟨p_2⟩⟩):List Value),rfl,Le.r,hS,m13,m17⟩
end Go.Proofs.YtppgfpelddpnbaaGreatDoor
set_option maxRecDepth 100000
set_option maxHeartbeats 20000000
namespace Go.Proofs.YtppgfpelddpnbaaGreatDoor
open Go.Wk Go.Xt Go.Y
theorem pr_line_w {μ0:M} {w0 w:World} {rsF:List Res} (hg:Le Gm μ0) {p_1:List UInt8} {p_2:List Int} {a1:Option Addr} {c2:Nat} {b4:Nat} {v5:Value} {buf_7:List UInt8} {v8:Value} {cs9:List Value} {r:List UInt8} (m3:Sl μ0 a1 c2 p_2) (m6:Bp μ0 b4 v5) (m10:Rw μ0 cs9 buf_7) (h:pr_line p_1 p_2 buf_7=some r) (hS:Sq μ0 w0 w (.blk b4 47 [v5,v8]::.row v8 5 1 buf_7.length cs9::rsF)):CallsV Tryz.prog 8 [S p_1,.slice a1 p_2.length c2,.pointer (some ⟨b4,0,none⟩)] w (fun v w'=>∃ (μ':M) (v11:Value) (v13:Value) (cs14:List Value),v=.tuple ⟨[]⟩∧Le μ0 μ'∧Sq μ' w0 w' (.blk b4 47 [v11,v13]::.row v13 5 1 r.length cs14::rsF)∧Bp μ' b4 v11∧Rw μ' cs14 r):=by
  unfold pr_line at h
  refine enter Tryz.func8 rfl (frm:=[_,_,_,_,_,_,_,_,_,_,_,_,_,_,_,_,_,_,_,_,_]) rfl ?_
  refine cseq ?_
  refine creg ?_
  refine wl (s_move (et d0) (dt p7) ?_)
  replace h:=bI h; obtain ⟨r16,g17,h⟩:=h
  replace hS:=hS.bg (Bg.s Bg.z)
  replace hS:=hS.bg (Bg.s Bg.z)
  refine wl (s_callv isfn9 ef (e1 (et d2) (e1 (et d7) e0)) (bd_str_w hg m6 m10 g17 hS) ?_)
  rintro _ w1 ⟨μ1,v19,v21,cs22,rfl,le18,hS,m20,m23⟩
  refine pu (dt p8) ?_
  refine wnil ?_
  refine xn ?_
  refine cseq ?_
  refine cseq ?_
  refine creg ?_
  refine wl (s_move (et d1) (dt p9) ?_)
  refine wl (s_lensl Tryz.underlying38 (et d9) (dt (q10 p0)) ?_)
  refine wl (s_move ec (dt (q10 p1)) ?_)
  refine wnil ?_
  refine xn ?_
  refine cblock ?_
  refine cloopE ([6]++rg 12 8) (by decide) (fun n m w=>∃ (μx:M) (i46:Int) (v47:Value) (l51:List UInt8) (v49:Value) (cs50:List Value),m=(yK6 (yO1 6 (yK4 (.i (.int .i64 i46)::(yO8 12 [])))))∧pr_line_l1 p_2 n i46 l51=some r∧Le μ1 μx∧Sq μx w0 w (.blk b4 47 [v47,v49]::.row v49 5 1 l51.length cs50::rsF)∧Bp μx b4 v47∧Rw μx cs50 l51) (by rintro _ _ _ ⟨_,_,_,_,_,_,rfl,_⟩; rfl) _ _ (aK6 (aO1 (aK4 (aI (aO8 aZ))))) ⟨_,0,v19,r16.2.2,v21,cs22,rfl,h,Le.r,hS,m20,m23⟩ ?_
  rintro n_1 _ t w2 ⟨μ2,i46,v47,l51,v49,cs50,rfl,h,le75,hS,m76,m77⟩
  cases n_1 with
  | zero=>cases h
  | succ n_1 =>
  unfold pr_line_l1 at h
  refine cnrm (mK6 (mO1 (mK4 (mi (mO8 mz))))) ?_
  refine cseq ?_
  refine creg ?_
  refine wl (s_lss (et (k10 d1)) (et (k10 d0)) (dt (q10 p2)) ?_)
  refine wnil ?_
  refine xn ?_
  refine cseq ?_
  refine cifd (et (k10 d2)) (fun h78=>?_) (fun h78=>?_)
  · replace h:=iT h78 h
    refine cskip ?_
    refine xn ?_
    refine cseq ?_
    refine cblock ?_
    refine cseq ?_
    refine creg ?_
    replace h:=bI h; obtain ⟨x79,g80,h⟩:=h
    obtain ⟨b81,o82,cs83,e84,f85,m86⟩:=SlR.elem (m3.up (le18.t le75)) g80
    obtain rfl:=m86
    refine wl (s_iax Tryz.underlying38 ti3 (et d9) (et (k10 d1)) e84 (dt (q10 p3)) ?_)
    refine wl (s_load ti3 (et (k10 d3)) ((f85 _ hS.a).one d0) (dt (q10 p4)) ?_)
    refine wl (s_assign (et (k10 d4)) (dt p6) ?_)
    refine wnil ?_
    refine xn ?_
    refine creg ?_
    refine wl (s_move (et d6) (dt (q10 p5)) ?_)
    replace h:=bI h; obtain ⟨s87,g88,h⟩:=h
    refine wl (s_callv isfn10 ef (e1 (et (k10 d5)) e0) (itoa_w (hg.t (le18.t le75)) g88 hS) ?_); clear hS; rintro _ w3 ⟨rfl,hS⟩; refine pu (dt (q10 p6)) ?_
    replace h:=bI h; obtain ⟨s89,g90,h⟩:=h
    refine wl (s_catc ec (et (k10 d6)) g90 (dt (q10 p7)) ?_)
    replace h:=bI h; obtain ⟨r91,g92,h⟩:=h
    replace hS:=hS.bg (Bg.s Bg.z)
    replace hS:=hS.bg (Bg.s Bg.z)
    refine wl (s_callv isfn9 ef (e1 (et d2) (e1 (et (k10 d7)) e0)) (bd_str_w (hg.t (le18.t le75)) m76 m77 g92 hS) ?_)
    rintro _ w4 ⟨μ3,v94,v96,cs97,rfl,le93,hS,m95,m98⟩
    refine pu (dt (q10 p8)) ?_
    refine wnil ?_
    refine (fun h=>bn (xn h)) ?_
    refine creg ?_
    replace h:=bI h; obtain ⟨i99,g100,h⟩:=h
    refine wl (s_addc (et (k10 d1)) ec g100 (dt (q10 p9)) ?_)
    refine wl (s_move (et (k10 d9)) (dt (q10 p1)) ?_)
    refine wnil ?_
    refine xl ?_
    exact ⟨n_1,_,_,rfl,(aK6 (aO1 (aK4 (aI (aO8 aZ))))),⟨_,i99,v94,r91.2.2,v96,cs97,rfl,h,(le75.t le93),hS,m95,m98⟩,Nat.lt_succ_self _⟩
  · replace h:=iF h78 h
    refine cexit ?_
    refine (fun h=>xe (xe (bh h))) ?_
    refine xn ?_
    refine creg ?_
    replace h:=bI h; obtain ⟨r101,g102,h⟩:=h
    replace hS:=hS.bg (Bg.s Bg.z)
    replace hS:=hS.bg (Bg.s Bg.z)
    refine wl (s_callv isfn11 ef (e1 (et d2) (e1 ec e0)) (bd_byte_w (hg.t (le18.t le75)) m76 m77 g102 hS) ?_)
    rintro _ w5 ⟨μ4,v104,v106,cs107,rfl,le103,hS,m105,m108⟩
    refine pu (dt (q20 p0)) ?_
    refine wnil ?_
    obtain rfl:=oI h
    refine end0 rfl ?_
    exact ⟨_,v104,v106,cs107,rfl,(le18.t (le75.t le103)),hS,m105,m108⟩
theorem asm_print_w {μ0:M} {w0 w:World} {rsF:List Res} (hg:Le Gm μ0) {p_1:TModule} {a1:Option Addr} {c2:Nat} {a4:Option Addr} {c5:Nat} {r:List UInt8×TWhere} (m3:Sl μ0 a1 c2 p_1.Boxes) (m6:Sl μ0 a4 c5 p_1.Units) (h:asm_print p_1=some r) (hS:Sq μ0 w0 w (rsF)):CallsV Tryz.prog 5 [.agg ⟨[.slice a1 p_1.Boxes.length c2,.slice a4 p_1.Units.length c5]⟩] w (fun v w'=>∃ (μ':M) ,v=.tuple ⟨[S r.1,.agg ⟨[.int .i64 r.2.Err,.int .i64 r.2.Unit,.int .i64 r.2.At]⟩]⟩∧Le μ0 μ'∧Sq μ' w0 w' (rsF)):=by
  unfold asm_print at h
  refine enter Tryz.func5 rfl (frm:=[_,_,_,_,_,_,_,_,_,_,_,_,_,_,_,_,_,_,_,_,_,_,_,_,_,_,_,_,_,_,_,_,_,_,_,_,_,_,_,_,_,_,_,_,_,_,_,_,_,_,_,_,_,_,_,_,_,_,_,_,_,_,_,_,_,_,_,_,_,_,_,_,_,_,_,_,_,_,_,_,_,_,_,_,_,_,_,_,_,_,_,_,_,_,_,_,_,_,_,_,_,_,_,_,_,_,_,_,_,_,_,_,_,_,_,_,_,_,_,_,_,_,_,_,_,_,_,_,_,_]) rfl ?_
  refine cseq ?_
  refine creg ?_
  refine wl (s_box (et d0) rfl hS ?_); clear hS; intro b7 w1 hb8 hS; refine pu (dt p1) ?_
  refine wl (s_assign ec (dt p2) ?_)
  refine wl (s_alloc ti29 hS ?_); clear hS; intro b9 w2 hb10 hS; refine pu (dt p3) ?_
  refine wnil ?_
  refine xn ?_
  refine cseq ?_
  refine creg ?_
  refine wl (s_alloc ti47 hS ?_); clear hS; intro b11 w3 hb12 hS; refine pu (dt p4) ?_
  refine wnil ?_
  refine xn ?_
  refine cseq ?_
  refine creg ?_
  refine wl (s_mkfn e0 (e1 (et d4) e0) (dt (q10 p5)) ?_)
  refine wl (s_assign (et (k10 d5)) (dt p5) ?_)
  refine wnil ?_
  refine xn ?_
  refine cseq ?_
  refine cseq ?_
  refine creg ?_
  refine wl (s_fa fa25_0 (et d1) rfl (dt (q10 p6)) ?_)
  refine wl (s_load ti22 (et (k10 d6)) ((hS.blk d2).cell d0) (dt (q10 p7)) ?_)
  refine wl (s_lensl Tryz.underlying22 (et (k10 d7)) (dt (q10 p8)) ?_)
  refine wl (s_move ec (dt (q10 p9)) ?_)
  refine wnil ?_
  refine xn ?_
  refine cblock ?_
  replace hS:=hS.nilRow 5 (Mo.sz UInt8)
  replace hS:=hS.bg (Bg.s Bg.z)
  replace hS:=hS.bg (Bg.s (Bg.s Bg.z))
  replace hS:=hS.bg (Bg.s (Bg.s (Bg.s Bg.z)))
  refine cloopE ([7]++rg 20 11) (by decide) (fun n m w=>∃ (μx:M) (i38:Int) (v39:Value) (l43:List UInt8) (v41:Value) (cs42:List Value),m=(yK7 (yO1 7 (yK10 (yK1 (.i (.int .i64 i38)::(yO10 20 (yO1 30 [])))))))∧asm_print_l1 p_1 n i38 l43=some r∧Le μ0 μx∧Sq μx w0 w (.blk b7 25 [.slice a1 p_1.Boxes.length c2,.slice a4 p_1.Units.length c5]::.blk b9 29 [.int .i64 0,.int .i64 0,.int .i64 0]::.blk b11 47 [v39,v41]::.row v41 5 1 l43.length cs42::rsF)∧Bp μx b11 v39∧Rw μx cs42 l43) (by rintro _ _ _ ⟨_,_,_,_,_,_,rfl,_⟩; rfl) _ _ (aK7 (aO1 (aK10 (aK1 (aI (aO10 (aO1 aZ))))))) ⟨_,0,(.pointer none),[],(.slice none 0 0),[],rfl,h,Le.r,hS,Bp.nil,Rw.nil⟩ ?_
  rintro n_1 _ t w4 ⟨μ1,i38,v39,l43,v41,cs42,rfl,h,le69,hS,m70,m71⟩
  cases n_1 with
  | zero=>cases h
  | succ n_1 =>
  unfold asm_print_l1 at h
  refine cnrm (mK7 (mO1 (mK10 (mK1 (mi (mO10 (mO1 mz))))))) ?_
  refine cseq ?_
  refine creg ?_
  refine wl (s_lss (et (k10 d9)) (et (k10 d8)) (dt (q20 p0)) ?_)
  refine wnil ?_
  refine xn ?_
  refine cseq ?_
  refine cifd (et (k20 d0)) (fun h72=>?_) (fun h72=>?_)
  · replace h:=iT h72 h
    refine cskip ?_
    refine xn ?_
    refine cseq ?_
    refine cblock ?_
    refine cseq ?_
    refine creg ?_
    replace h:=bI h; obtain ⟨x73,g74,h⟩:=h
    obtain ⟨b75,o76,cs77,e78,f79,m80⟩:=SlR.elem (m3.up le69) g74
    obtain rfl:=m80
    refine wl (s_iax Tryz.underlying22 ti56 (et (k10 d7)) (et (k10 d9)) e78 (dt (q20 p1)) ?_)
    refine wl (s_loads ti56 (et (k20 d1)) (f79 _ hS.a) rfl (dt (q20 p2)) ?_)
    refine wl (s_alloc ti56 hS ?_); clear hS; intro b81 w5 hb82 hS; refine pu (dt p7) ?_
    refine wl (s_storeA ti56 (et d7) (et (k20 d2)) rfl rfl hS d0 rfl p0 dn ?_)
    clear hS; intro w6 hS
    refine wnil ?_
    refine xn ?_
    refine creg ?_
    refine wl (s_move (et d5) (dt (q20 p3)) ?_)
    refine wl (s_fa fa56_0 (et d7) rfl (dt (q20 p4)) ?_)
    refine wl (s_load ti3 (et (k20 d4)) ((hS.blk d0).cell d0) (dt (q20 p5)) ?_)
    refine wl (s_fa fa56_1 (et d7) rfl (dt (q20 p6)) ?_)
    refine wl (s_load ti3 (et (k20 d6)) ((hS.blk d0).cell d1) (dt (q20 p7)) ?_)
    refine wl (s_bsl Tryz.underlying38 ti3 (Parts.s (et (k20 d5)) rfl (Parts.s (et (k20 d7)) rfl Parts.z)) rfl rfl hS ?_); clear hS; intro b83 w7 hb84 hS; refine pu (dt (q20 p8)) ?_
    obtain ⟨μ2,le86,m85,hS⟩:=Sep.frzBlk (l:=([x73.Typ,x73.Cap]:List Int)) hS (Rw.cons (α:=Int) (cs:=[.int .i64 x73.Typ]) rfl (Rw.cons (α:=Int) (cs:=[.int .i64 x73.Cap]) rfl Rw.nil)) (Nat.le_of_ble_eq_true rfl)
    replace h:=bI h; obtain ⟨r87,g88,h⟩:=h
    replace hS:=hS.bg (Bg.s (Bg.s (Bg.s (Bg.s Bg.z))))
    replace hS:=hS.bg (Bg.s (Bg.s (Bg.s (Bg.s Bg.z))))
    refine wl (s_callc isfn8 (et (k20 d3)) (e1 ec (e1 (et (k20 d8)) e0)) (pr_line_w (hg.t (le69.t le86)) m85 (m70.up le86) (m71.up le86) g88 hS) ?_)
    rintro _ w8 ⟨μ3,v90,v92,cs93,rfl,le89,hS,m91,m94⟩
    refine pu (dt (q20 p9)) ?_
    refine wnil ?_
    refine (fun h=>bn (xn h)) ?_
    refine creg ?_
    replace h:=bI h; obtain ⟨i95,g96,h⟩:=h
    refine wl (s_addc (et (k10 d9)) ec g96 (dt (q30 p0)) ?_)
    refine wl (s_move (et (k30 d0)) (dt (q10 p9)) ?_)
    refine wnil ?_
    refine xl ?_
    replace hS:=hS.drop (Rm.s (Rm.s Rm.z))
    replace hS:=hS.bg (Bg.s Bg.z)
    replace hS:=hS.bg (Bg.s Bg.z)
    replace hS:=hS.bg (Bg.s (Bg.s (Bg.s Bg.z)))
    replace hS:=hS.bg (Bg.s (Bg.s (Bg.s Bg.z)))
    exact ⟨n_1,_,_,rfl,(aK7 (aO1 (aK10 (aK1 (aI (aO10 (aO1 aZ))))))),⟨_,i95,v90,r87,v92,cs93,rfl,h,(le69.t (le86.t le89)),hS,m91,m94⟩,Nat.lt_succ_self _⟩
  · replace h:=iF h72 h
    refine cexit ?_
    refine (fun h=>xe (xe (bh h))) ?_
    refine xn ?_
    refine cseq ?_
    refine cseq ?_
    refine creg ?_
    refine wl (s_fa fa25_1 (et d1) rfl (dt (q30 p1)) ?_)
    refine wl (s_load ti23 (et (k30 d1)) ((hS.blk d0).cell d1) (dt (q30 p2)) ?_)
    refine wl (s_lensl Tryz.underlying23 (et (k30 d2)) (dt (q30 p3)) ?_)
    refine wl (s_move ec (dt (q30 p4)) ?_)
    refine wnil ?_
    refine xn ?_
    refine cblock ?_
    replace hS:=hS.drop Rm.z
    refine cloopE ([2]++rg 8 7++rg 35 90) (by decide +kernel) (fun n m w=>∃ (μx:M) (i397:Int) (v398:Value) (l402:List UInt8) (v400:Value) (cs401:List Value),m=(yK2 (yO1 2 (yK5 (yO7 8 (yK10 (yK9 (.i (.int .i64 i397)::(yO50 35 (yO20 85 (yO20 105 []))))))))))∧asm_print_l2 p_1 n i397 l402=some r∧Le μ1 μx∧Sq μx w0 w (.blk b9 29 [.int .i64 0,.int .i64 0,.int .i64 0]::.blk b11 47 [v398,v400]::.row v400 5 1 l402.length cs401::rsF)∧Bp μx b11 v398∧Rw μx cs401 l402) (by rintro _ _ _ ⟨_,_,_,_,_,_,rfl,_⟩; rfl) _ _ (aK2 (aO1 (aK5 (aO7 (aK10 (aK9 (aI (aO50 (aO20 (aO20 aZ)))))))))) ⟨_,0,v39,l43,v41,cs42,rfl,h,Le.r,hS,m70,m71⟩ ?_
    rintro n_2 _ t w9 ⟨μ4,i397,v398,l402,v400,cs401,rfl,h,le704,hS,m705,m706⟩
    cases n_2 with
    | zero=>cases h
    | succ n_2 =>
    unfold asm_print_l2 at h
    refine cnrm (mK2 (mO1 (mK5 (mO7 (mK10 (mK9 (mi (mO50 (mO20 (mO20 mz)))))))))) ?_
    refine cseq ?_
    refine creg ?_
    refine wl (s_lss (et (k30 d4)) (et (k30 d3)) (dt (q30 p5)) ?_)
    refine wnil ?_
    refine xn ?_
    refine cseq ?_
    refine cifd (et (k30 d5)) (fun h707=>?_) (fun h707=>?_)
    · replace h:=iT h707 h
      refine cskip ?_
      refine xn ?_
      refine cseq ?_
      refine cblock ?_
      refine cseq ?_
      refine creg ?_
      refine wl (s_move (et (k30 d4)) (dt (q30 p6)) ?_)
      replace h:=bI h; obtain ⟨x708,g709,h⟩:=h
      obtain ⟨b710,o711,cs712,e713,f714,m715⟩:=SlR.elem (m6.up (le69.t le704)) g709
      obtain ⟨a716,c717,a719,c720,rfl,m718,m721⟩:=m715
      refine wl (s_iax Tryz.underlying23 ti41 (et (k30 d2)) (et (k30 d4)) e713 (dt (q30 p7)) ?_)
      refine wl (s_loads ti41 (et (k30 d7)) (f714 _ hS.a) rfl (dt (q30 p8)) ?_)
      refine wl (s_alloc ti41 hS ?_); clear hS; intro b722 w10 hb723 hS; refine pu (dt p9) ?_
      refine wl (s_assign (et (k30 d6)) (dt p8) ?_)
      refine wl (s_storeA ti41 (et d9) (et (k30 d8)) rfl rfl hS d0 rfl p0 dn ?_)
      clear hS; intro w11 hS
      refine wnil ?_
      refine xn ?_
      refine cseq ?_
      refine cseq ?_
      refine ccutE (rg 39 7) (by decide) (fun m w=>∃ (μx:M) (b724:Bool),m=(yK20 (yK10 (yK9 (yO7 39 (.i (.bool b724)::[])))))∧asm_print_j1 i397 l402 x708 (asm_print_l2 p_1 n_2) b724=some r∧Le μ4 μx∧Sq μx w0 w (.blk b9 29 [.int .i64 0,.int .i64 0,.int .i64 0]::.blk b11 47 [v398,v400]::.row v400 5 1 l402.length cs401::.blk b722 41 [.int .i64 x708.Kind,.int .i64 x708.Params,.slice a716 x708.Locals.length c717,.int .i64 x708.Result,.int .i64 x708.Takes,.slice a719 x708.Code.length c720]::rsF)) (by rintro _ _ ⟨_,_,rfl,_⟩; rfl) ?_ ?_
      · refine creg ?_
        refine wl (s_fa fa41_0 (et d9) rfl (dt (q30 p9)) ?_)
        refine wl (s_load ti3 (et (k30 d9)) ((hS.blk d0).cell d0) (dt (q40 p0)) ?_)
        refine wl (s_lss (et (k40 d0)) ec (dt (q40 p1)) ?_)
        refine wl (s_move (et (k40 d1)) (dt (q40 p2)) ?_)
        refine wspd (k40 d2) (q40 p2) (q40 p2) (fun h725=>?_) (fun h725=>?_)
        · replace h:=iT h725 h
          refine wn rfl (k40 d2) rfl (dt (q40 p3)) ?_
          refine wn rfl (k40 d2) rfl (dt (q40 p4)) ?_
          refine wn rfl (k40 d2) rfl (dt (q40 p5)) ?_
          refine wl (s_pickt (et (k40 d2)) ec (dt (q40 p6)) ?_)
          refine wnil ?_
          refine xl ?_
          replace hS:=hS.bg (Bg.s (Bg.s (Bg.s Bg.z)))
          replace hS:=hS.bg (Bg.s (Bg.s (Bg.s Bg.z)))
          replace hS:=hS.bg (Bg.s (Bg.s (Bg.s Bg.z)))
          exact ⟨_,_,rfl,(aK20 (aK10 (aK9 (aO7 (aI aZ))))),_,true,rfl,h,Le.r,hS⟩
        · replace h:=iF h725 h
          refine wy rfl (k40 d2) (s_fa fa41_0 (et d9) rfl (dt (q40 p3)) ?_)
          refine wy rfl (k40 d2) (s_load ti3 (et (k40 d3)) ((hS.blk d0).cell d0) (dt (q40 p4)) ?_)
          refine wy rfl (k40 d2) (s_gtr (et (k40 d4)) ec (dt (q40 p5)) ?_)
          refine wl (s_pickf (et (k40 d2)) (et (k40 d5)) (dt (q40 p6)) ?_)
          refine wnil ?_
          refine xl ?_
          replace hS:=hS.bg (Bg.s (Bg.s (Bg.s Bg.z)))
          replace hS:=hS.bg (Bg.s (Bg.s (Bg.s Bg.z)))
          replace hS:=hS.bg (Bg.s (Bg.s (Bg.s Bg.z)))
          exact ⟨_,_,rfl,(aK20 (aK10 (aK9 (aO7 (aI aZ))))),_,(decide ((4:Int)<x708.Kind)),rfl,h,Le.r,hS⟩
      · rintro _ t w12 ⟨μ5,b724,rfl,h,le726,hS⟩
        unfold asm_print_j1 at h
        refine nrm (mK20 (mK10 (mK9 (mO7 (mi mz))))) ?_
        refine xn ?_
        refine cifb (et (k40 d6)) (fun h727=>?_) (fun h727=>?_)
        · replace h:=iT h727 h
          refine cseq ?_
          refine creg ?_
          refine wl (s_move (et d8) (dt (q40 p7)) ?_)
          refine wl (s_build ti29 pl29 (Fl.o rfl ec rfl rfl p0 (Fl.o rfl (et (k40 d7)) rfl rfl p1 Fl.z)) (dt (q40 p8)) ?_)
          refine wl (s_assign ec (dt p2) ?_)
          refine wl (s_storeA ti29 (et d3) (et (k40 d8)) rfl rfl hS d0 rfl p0 dn ?_)
          clear hS; intro w13 hS
          refine wnil ?_
          refine xn ?_
          refine cret ?_
          refine (fun h=>xr (br (xr (xr (br (xr h)))))) ?_
          obtain rfl:=oI h
          refine retN rfl (RVs.s (.t d2) (RVs.s (.a d3 ti29 (hS.blk d0).cells rfl) RVs.z)) ?_
          replace hS:=hS.drop Rm.z
          replace hS:=hS.drop Rm.z
          replace hS:=hS.drop Rm.z
          replace hS:=hS.drop Rm.z
          exact ⟨_,rfl,(le69.t (le704.t le726)),hS⟩
        · replace h:=iF h727 h
          refine cskip ?_
          refine xn ?_
          refine cseq ?_
          refine ccutE (rg 49 18) (by decide) (fun m w=>∃ (μx:M) (v728:Value) (l732:List UInt8) (v730:Value) (cs731:List Value),m=(yK20 (yK20 (yK9 (yO10 49 (yO8 59 [])))))∧asm_print_j2 i397 x708 (asm_print_l2 p_1 n_2) l732=some r∧Le μ5 μx∧Sq μx w0 w (.blk b9 29 [.int .i64 0,.int .i64 0,.int .i64 0]::.blk b11 47 [v728,v730]::.row v730 5 1 l732.length cs731::.blk b722 41 [.int .i64 x708.Kind,.int .i64 x708.Params,.slice a716 x708.Locals.length c717,.int .i64 x708.Result,.int .i64 x708.Takes,.slice a719 x708.Code.length c720]::rsF)∧Bp μx b11 v728∧Rw μx cs731 l732) (by rintro _ _ ⟨_,_,_,_,_,rfl,_⟩; rfl) ?_ ?_
          · refine cdraw (by kernel_rfl) rfl fun w14 hh_ ho_ ht_ hu_=>?_
            replace hS:=hS.drew hh_ ho_ ht_ hu_
            refine sf_start ?_
            refine sf_pu (i:=0) [0,17] (blind_of fun _ _ _ h=>h.2) rfl rfl rfl (u_move (et d5)) (q40 p9) ?_
            refine sf_pu (i:=2) [2,3,4,5,6,17] (blind_of fun _ _ _ h=>h.2) rfl rfl rfl (u_fa fa41_0 (et d9) rfl) (q50 p1) ?_
            refine sf_rd (i:=3) [3,4,5,6,17] (blind_of fun _ _ _ h=>h.2) rfl rfl rfl (u_load ti3 (et (k50 d1)) ((hS.blk d3).cell d0)) (q50 p2) ?_
            replace h:=bI h; obtain ⟨i734,g735,h⟩:=h
            refine sf_pu (i:=4) [4,5,6,17] (blind_of fun _ _ _ h=>h.2) rfl rfl rfl (u_subc (et (k50 d2)) ec g735) (q50 p3) ?_
            refine sf_pu (i:=7) [7,8,13,16,17] (blind_of fun _ _ _ h=>h.2) rfl rfl rfl (u_fa fa41_1 (et d9) rfl) (q50 p6) ?_
            refine sf_rd (i:=8) [8,13,16,17] (blind_of fun _ _ _ h=>h.2) rfl rfl rfl (u_load ti3 (et (k50 d6)) ((hS.blk d3).cell d1)) (q50 p7) ?_
            refine sf_pu (i:=9) [9,10,13,16,17] (blind_of fun _ _ _ h=>h.2) rfl rfl rfl (u_fa fa41_3 (et d9) rfl) (q50 p8) ?_
            refine sf_rd (i:=10) [10,13,16,17] (blind_of fun _ _ _ h=>h.2) rfl rfl rfl (u_load ti3 (et (k50 d8)) ((hS.blk d3).cell d3)) (q50 p9) ?_
            refine sf_pu (i:=11) [11,12,13,16,17] (blind_of fun _ _ _ h=>h.2) rfl rfl rfl (u_fa fa41_4 (et d9) rfl) (q60 p0) ?_
            refine sf_rd (i:=12) [12,13,16,17] (blind_of fun _ _ _ h=>h.2) rfl rfl rfl (u_load ti3 (et (k60 d0)) ((hS.blk d3).cell d4)) (q60 p1) ?_
            refine sf_pu (i:=14) [14,15,16,17] (blind_of fun _ _ _ h=>h.2) rfl rfl rfl (u_fa fa41_2 (et d9) rfl) (q60 p3) ?_
            refine sf_rd (i:=15) [15,16,17] (blind_of fun _ _ _ h=>h.2) rfl rfl rfl (u_load ti38 (et (k60 d3)) ((hS.blk d3).cell d2)) (q60 p4) ?_
            refine sf2 (i:=1) (j:=13) rfl rfl rfl rfl rfl rfl rfl (wn0 rfl) (wn0 rfl) ?_ ?_
            · replace h:=bI h; obtain ⟨r736,g737,h⟩:=h
              refine id (s_callv isfn12 ef e0 (asm_units_w (hg.t (le69.t (le704.t le726))) g737 hS) ?_)
              rintro _ w15 ⟨μ6,a739,c740,rfl,le738,hS,m741⟩
              refine pu (dt (q50 p0)) ?_
              refine ⟨(Mons.s (u_load ti38 (et (k60 d3)) ((hS.blk d3).cell d2)) (Mons.s (u_load ti3 (et (k60 d0)) ((hS.blk d3).cell d4)) (Mons.s (u_load ti3 (et (k50 d8)) ((hS.blk d3).cell d3)) (Mons.s (u_load ti3 (et (k50 d6)) ((hS.blk d3).cell d1)) (Mons.s (u_load ti3 (et (k50 d1)) ((hS.blk d3).cell d0)) Mons.z))))),?_⟩
              replace h:=bI h; obtain ⟨x742,g743,h⟩:=h
              obtain ⟨b744,o745,cs746,e747,f748,m749⟩:=SlR.elem m741 g743
              obtain rfl:=m749
              refine sf_pu (i:=5) [5,6,17] (blind_of fun _ _ _ h=>h.2) rfl rfl rfl (u_iax Tryz.underlying57 ti9 (et (k50 d0)) (et (k50 d3)) e747) (q50 p4) ?_
              refine sf_rd (i:=6) [6,17] (blind_of fun _ _ _ h=>h.2) rfl rfl rfl (u_load ti9 (et (k50 d4)) ((f748 _ hS.a).one d0)) (q50 p5) ?_
              refine sf1 rfl rfl rfl rfl (wn0 rfl) (s_bsl Tryz.underlying38 ti3 (Parts.s (et (k50 d7)) rfl (Parts.s (et (k50 d9)) rfl (Parts.s (et (k60 d1)) rfl Parts.z))) rfl rfl hS ?_); clear hS; intro b750 w16 hb751 hS; refine pu (dt (q60 p2)) ?_
              refine ⟨(Mons.s (u_load ti9 (et (k50 d4)) ((f748 _ hS.a).one d0)) (Mons.s (u_load ti38 (et (k60 d3)) ((hS.blk d4).cell d2)) (Mons.s (u_load ti3 (et (k50 d1)) ((hS.blk d4).cell d0)) Mons.z))),?_⟩
              replace hS:=hS.blkRow (n:=3) (sz:=Mo.sz Int) d0 rfl (by decide) p0
              have m752:Rw μ6 [.int .i64 x708.Params,.int .i64 x708.Result,.int .i64 x708.Takes] ([x708.Params,x708.Result,x708.Takes]:List Int):=(Rw.cons (α:=Int) (cs:=[.int .i64 x708.Params]) rfl (Rw.cons (α:=Int) (cs:=[.int .i64 x708.Result]) rfl (Rw.cons (α:=Int) (cs:=[.int .i64 x708.Takes]) rfl Rw.nil)))
              replace h:=bI h; obtain ⟨l755,g756,h⟩:=h
              obtain ⟨cs757,m758,m759⟩:=Sl.cells (m718.up (le726.t le738))
              have m754:=Rw.app m752 m758 g756
              refine sf1 rfl rfl rfl rfl (wn0 rfl) (s_appS Tryz.underlying38 ti3 rfl (et (k60 d2)) (et (k60 d4)) hS d0 (fun e=>(m759 e)) m758 g756 (by decide) ?_); clear hS; intro v753 w17 rs_ hp_ hS; cases (show _=rs_ from hp_)
              replace hS:=Sep.reput hS p0; refine pu (dt (q60 p5)) ?_
              refine ⟨(Mons.s (u_load ti9 (et (k50 d4)) ((f748 _ hS.a).one d0)) (Mons.s (u_load ti3 (et (k50 d1)) ((hS.blk d4).cell d0)) Mons.z)),?_⟩
              obtain ⟨μ7,a760,c761,e764,le763,m762,hq_⟩:=Sep.frzRow hS m754 rfl; clear hS
              subst e764; have hS:=hq_; clear hq_
              replace h:=bI h; obtain ⟨r765,g766,h⟩:=h
              replace hS:=hS.bg (Bg.s (Bg.s Bg.z))
              replace hS:=hS.bg (Bg.s (Bg.s Bg.z))
              refine sf1 rfl rfl rfl rfl (wn0 rfl) (s_callc isfn8 (et (k40 d9)) (e1 (et (k50 d5)) (e1 (et (k60 d5)) e0)) (pr_line_w (hg.t (le69.t (le704.t (le726.t (le738.t le763))))) m762 (m705.up (le726.t (le738.t le763))) (m706.up (le726.t (le738.t le763))) g766 hS) ?_)
              rintro _ w18 ⟨μ8,v768,v770,cs771,rfl,le767,hS,m769,m772⟩
              refine pu (dt (q60 p6)) ?_
              refine ⟨Mons.z,?_⟩
              refine sf_nil ?_
              refine xl ?_
              replace hS:=hS.bg (Bg.s (Bg.s (Bg.s Bg.z)))
              replace hS:=hS.bg (Bg.s (Bg.s Bg.z))
              replace hS:=hS.bg (Bg.s (Bg.s Bg.z))
              replace hS:=hS.bg (Bg.s (Bg.s (Bg.s Bg.z)))
              exact ⟨_,_,rfl,(aK20 (aK20 (aK9 (aO10 (aO8 aZ))))),_,v768,r765,v770,cs771,rfl,h,(le738.t (le763.t le767)),hS,m769,m772⟩
            · replace h:=bI h; obtain ⟨r736,g737,h⟩:=h
              replace h:=bI h; obtain ⟨x742,g743,h⟩:=h
              replace h:=bI h; obtain ⟨l755,g756,h⟩:=h
              replace h:=bI h; obtain ⟨r765,g766,h⟩:=h
              refine id (s_bsl Tryz.underlying38 ti3 (Parts.s (et (k50 d7)) rfl (Parts.s (et (k50 d9)) rfl (Parts.s (et (k60 d1)) rfl Parts.z))) rfl rfl hS ?_); clear hS; intro b773 w19 hb774 hS; refine pu (dt (q60 p2)) ?_
              refine ⟨(Mons.s (u_load ti38 (et (k60 d3)) ((hS.blk d4).cell d2)) (Mons.s (u_load ti3 (et (k50 d1)) ((hS.blk d4).cell d0)) Mons.z)),?_⟩
              refine sf1 rfl rfl rfl rfl (wn0 rfl) (s_callv isfn12 ef e0 (asm_units_w (hg.t (le69.t (le704.t le726))) g737 hS) ?_)
              rintro _ w20 ⟨μ9,a776,c777,rfl,le775,hS,m778⟩
              refine pu (dt (q50 p0)) ?_
              refine ⟨(Mons.s (u_load ti38 (et (k60 d3)) ((hS.blk d4).cell d2)) (Mons.s (u_load ti3 (et (k50 d1)) ((hS.blk d4).cell d0)) Mons.z)),?_⟩
              obtain ⟨b779,o780,cs781,e782,f783,m784⟩:=SlR.elem m778 g743
              obtain rfl:=m784
              refine sf_pu (i:=5) [5,6,17] (blind_of fun _ _ _ h=>h.2) rfl rfl rfl (u_iax Tryz.underlying57 ti9 (et (k50 d0)) (et (k50 d3)) e782) (q50 p4) ?_
              refine sf_rd (i:=6) [6,17] (blind_of fun _ _ _ h=>h.2) rfl rfl rfl (u_load ti9 (et (k50 d4)) ((f783 _ hS.a).one d0)) (q50 p5) ?_
              replace hS:=hS.blkRow (n:=3) (sz:=Mo.sz Int) d0 rfl (by decide) p0
              have m785:Rw μ9 [.int .i64 x708.Params,.int .i64 x708.Result,.int .i64 x708.Takes] ([x708.Params,x708.Result,x708.Takes]:List Int):=(Rw.cons (α:=Int) (cs:=[.int .i64 x708.Params]) rfl (Rw.cons (α:=Int) (cs:=[.int .i64 x708.Result]) rfl (Rw.cons (α:=Int) (cs:=[.int .i64 x708.Takes]) rfl Rw.nil)))
              obtain ⟨cs788,m789,m790⟩:=Sl.cells (m718.up (le726.t le775))
              have m787:=Rw.app m785 m789 g756
              refine sf1 rfl rfl rfl rfl (wn0 rfl) (s_appS Tryz.underlying38 ti3 rfl (et (k60 d2)) (et (k60 d4)) hS d0 (fun e=>(m790 e)) m789 g756 (by decide) ?_); clear hS; intro v786 w21 rs_ hp_ hS; cases (show _=rs_ from hp_)
              replace hS:=Sep.reput hS p0; refine pu (dt (q60 p5)) ?_
              refine ⟨(Mons.s (u_load ti9 (et (k50 d4)) ((f783 _ hS.a).one d0)) (Mons.s (u_load ti3 (et (k50 d1)) ((hS.blk d4).cell d0)) Mons.z)),?_⟩
              obtain ⟨μ10,a791,c792,e795,le794,m793,hq_⟩:=Sep.frzRow hS m787 rfl; clear hS
              subst e795; have hS:=hq_; clear hq_
              replace hS:=hS.bg (Bg.s (Bg.s Bg.z))
              replace hS:=hS.bg (Bg.s (Bg.s Bg.z))
              refine sf1 rfl rfl rfl rfl (wn0 rfl) (s_callc isfn8 (et (k40 d9)) (e1 (et (k50 d5)) (e1 (et (k60 d5)) e0)) (pr_line_w (hg.t (le69.t (le704.t (le726.t (le775.t le794))))) m793 (m705.up (le726.t (le775.t le794))) (m706.up (le726.t (le775.t le794))) g766 hS) ?_)
              rintro _ w22 ⟨μ11,v797,v799,cs800,rfl,le796,hS,m798,m801⟩
              refine pu (dt (q60 p6)) ?_
              refine ⟨Mons.z,?_⟩
              refine sf_nil ?_
              refine xl ?_
              replace hS:=hS.bg (Bg.s (Bg.s (Bg.s Bg.z)))
              replace hS:=hS.bg (Bg.s (Bg.s Bg.z))
              replace hS:=hS.bg (Bg.s (Bg.s Bg.z))
              replace hS:=hS.bg (Bg.s (Bg.s (Bg.s Bg.z)))
              exact ⟨_,_,rfl,(aK20 (aK20 (aK9 (aO10 (aO8 aZ))))),_,v797,r765,v799,cs800,rfl,h,(le775.t (le794.t le796)),hS,m798,m801⟩
          · rintro _ t w23 ⟨μ12,v728,l732,v730,cs731,rfl,h,le802,hS,m803,m804⟩
            unfold asm_print_j2 at h
            refine nrm (mK20 (mK20 (mK9 (mO10 (mO8 mz))))) ?_
            refine xn ?_
            refine cseq ?_
            refine cseq ?_
            refine creg ?_
            refine wl (s_fa fa41_5 (et d9) rfl (dt (q60 p7)) ?_)
            refine wl (s_load ti39 (et (k60 d7)) ((hS.blk d3).cell d5) (dt (q60 p8)) ?_)
            refine wl (s_lensl Tryz.underlying39 (et (k60 d8)) (dt (q60 p9)) ?_)
            refine wl (s_move ec (dt (q70 p0)) ?_)
            refine wnil ?_
            refine xn ?_
            refine cblock ?_
            replace hS:=hS.drop (Rm.s (Rm.s (Rm.s Rm.z)))
            refine cloopE ([2]++rg 10 5++rg 71 50) (by decide +kernel) (fun n m w=>∃ (μx:M) (i882:Int) (v883:Value) (l887:List UInt8) (v885:Value) (cs886:List Value),m=(yK2 (yO1 2 (yK7 (yO5 10 (yK50 (yK5 (.i (.int .i64 i882)::(yO50 71 []))))))))∧asm_print_l3 i397 x708 (asm_print_l2 p_1 n_2) n i882 l887=some r∧Le μ12 μx∧Sq μx w0 w (.blk b9 29 [.int .i64 0,.int .i64 0,.int .i64 0]::.blk b11 47 [v883,v885]::.row v885 5 1 l887.length cs886::rsF)∧Bp μx b11 v883∧Rw μx cs886 l887) (by rintro _ _ _ ⟨_,_,_,_,_,_,rfl,_⟩; rfl) _ _ (aK2 (aO1 (aK7 (aO5 (aK50 (aK5 (aI (aO50 aZ)))))))) ⟨_,0,v728,l732,v730,cs731,rfl,h,Le.r,hS,m803,m804⟩ ?_
            rintro n_3 _ t w24 ⟨μ13,i882,v883,l887,v885,cs886,rfl,h,le966,hS,m967,m968⟩
            cases n_3 with
            | zero=>cases h
            | succ n_3 =>
            unfold asm_print_l3 at h
            refine cnrm (mK2 (mO1 (mK7 (mO5 (mK50 (mK5 (mi (mO50 mz)))))))) ?_
            refine cseq ?_
            refine creg ?_
            refine wl (s_lss (et (k70 d0)) (et (k60 d9)) (dt (q70 p1)) ?_)
            refine wnil ?_
            refine xn ?_
            refine cseq ?_
            refine cifd (et (k70 d1)) (fun h969=>?_) (fun h969=>?_)
            · replace h:=iT h969 h
              refine cskip ?_
              refine xn ?_
              refine cseq ?_
              refine cblock ?_
              refine cseq ?_
              refine creg ?_
              refine wl (s_move (et (k70 d0)) (dt (q70 p2)) ?_)
              replace h:=bI h; obtain ⟨x970,g971,h⟩:=h
              obtain ⟨b972,o973,cs974,e975,f976,m977⟩:=SlR.elem (m721.up (le726.t (le802.t le966))) g971
              obtain rfl:=m977
              refine wl (s_iax Tryz.underlying39 ti43 (et (k60 d8)) (et (k70 d0)) e975 (dt (q70 p3)) ?_)
              refine wl (s_loads ti43 (et (k70 d3)) (f976 _ hS.a) rfl (dt (q70 p4)) ?_)
              refine wl (s_alloc ti43 hS ?_); clear hS; intro b978 w25 hb979 hS; refine pu (dt (q10 p1)) ?_
              refine wl (s_assign (et (k70 d2)) (dt (q10 p0)) ?_)
              refine wl (s_storeA ti43 (et (k10 d1)) (et (k70 d4)) rfl rfl hS d0 rfl p0 dn ?_)
              clear hS; intro w26 hS
              refine wnil ?_
              refine xn ?_
              refine cseq ?_
              refine cseq ?_
              refine ccutE (rg 75 7) (by decide) (fun m w=>∃ (μx:M) (b980:Bool),m=(yK50 (yK20 (yK5 (yO7 75 (.i (.bool b980)::[])))))∧asm_print_j3 i397 i882 l887 x970 (asm_print_l3 i397 x708 (asm_print_l2 p_1 n_2) n_3) b980=some r∧Le μ13 μx∧Sq μx w0 w (.blk b9 29 [.int .i64 0,.int .i64 0,.int .i64 0]::.blk b11 47 [v883,v885]::.row v885 5 1 l887.length cs886::.blk b978 43 [.int .i64 x970.Op,.int .i64 x970.A,.int .i64 x970.N]::rsF)) (by rintro _ _ ⟨_,_,rfl,_⟩; rfl) ?_ ?_
              · refine creg ?_
                refine wl (s_fa fa43_0 (et (k10 d1)) rfl (dt (q70 p5)) ?_)
                refine wl (s_load ti3 (et (k70 d5)) ((hS.blk d0).cell d0) (dt (q70 p6)) ?_)
                refine wl (s_lss (et (k70 d6)) ec (dt (q70 p7)) ?_)
                refine wl (s_move (et (k70 d7)) (dt (q70 p8)) ?_)
                refine wspd (k70 d8) (q70 p8) (q70 p8) (fun h981=>?_) (fun h981=>?_)
                · replace h:=iT h981 h
                  refine wn rfl (k70 d8) rfl (dt (q70 p9)) ?_
                  refine wn rfl (k70 d8) rfl (dt (q80 p0)) ?_
                  refine wn rfl (k70 d8) rfl (dt (q80 p1)) ?_
                  refine wl (s_pickt (et (k70 d8)) ec (dt (q80 p2)) ?_)
                  refine wnil ?_
                  refine xl ?_
                  replace hS:=hS.bg (Bg.s (Bg.s (Bg.s Bg.z)))
                  replace hS:=hS.bg (Bg.s (Bg.s (Bg.s Bg.z)))
                  replace hS:=hS.bg (Bg.s (Bg.s (Bg.s Bg.z)))
                  exact ⟨_,_,rfl,(aK50 (aK20 (aK5 (aO7 (aI aZ))))),_,true,rfl,h,Le.r,hS⟩
                · replace h:=iF h981 h
                  refine wy rfl (k70 d8) (s_fa fa43_0 (et (k10 d1)) rfl (dt (q70 p9)) ?_)
                  refine wy rfl (k70 d8) (s_load ti3 (et (k70 d9)) ((hS.blk d0).cell d0) (dt (q80 p0)) ?_)
                  refine wy rfl (k70 d8) (s_gtr (et (k80 d0)) ec (dt (q80 p1)) ?_)
                  refine wl (s_pickf (et (k70 d8)) (et (k80 d1)) (dt (q80 p2)) ?_)
                  refine wnil ?_
                  refine xl ?_
                  replace hS:=hS.bg (Bg.s (Bg.s (Bg.s Bg.z)))
                  replace hS:=hS.bg (Bg.s (Bg.s (Bg.s Bg.z)))
                  replace hS:=hS.bg (Bg.s (Bg.s (Bg.s Bg.z)))
                  exact ⟨_,_,rfl,(aK50 (aK20 (aK5 (aO7 (aI aZ))))),_,(decide ((32:Int)<x970.Op)),rfl,h,Le.r,hS⟩
              · rintro _ t w27 ⟨μ14,b980,rfl,h,le982,hS⟩
                unfold asm_print_j3 at h
                refine nrm (mK50 (mK20 (mK5 (mO7 (mi mz))))) ?_
                refine xn ?_
                refine cifb (et (k80 d2)) (fun h983=>?_) (fun h983=>?_)
                · replace h:=iT h983 h
                  refine cseq ?_
                  refine creg ?_
                  refine wl (s_move (et d8) (dt (q80 p3)) ?_)
                  refine wl (s_move (et (k10 d0)) (dt (q80 p4)) ?_)
                  refine wl (s_build ti29 pl29 (Fl.o rfl ec rfl rfl p0 (Fl.o rfl (et (k80 d3)) rfl rfl p1 (Fl.o rfl (et (k80 d4)) rfl rfl p2 Fl.z))) (dt (q80 p5)) ?_)
                  refine wl (s_assign ec (dt p2) ?_)
                  refine wl (s_storeA ti29 (et d3) (et (k80 d5)) rfl rfl hS d0 rfl p0 dn ?_)
                  clear hS; intro w28 hS
                  refine wnil ?_
                  refine xn ?_
                  refine cret ?_
                  refine (fun h=>xr (br (xr (xr (br (xr (br (xr (xr (br (xr h))))))))))) ?_
                  obtain rfl:=oI h
                  refine retN rfl (RVs.s (.t d2) (RVs.s (.a d3 ti29 (hS.blk d0).cells rfl) RVs.z)) ?_
                  replace hS:=hS.drop Rm.z
                  replace hS:=hS.drop Rm.z
                  replace hS:=hS.drop Rm.z
                  replace hS:=hS.drop Rm.z
                  exact ⟨_,rfl,(le69.t (le704.t (le726.t (le802.t (le966.t le982))))),hS⟩
                · replace h:=iF h983 h
                  refine cskip ?_
                  refine xn ?_
                  refine cseq ?_
                  refine ccutE (rg 86 7) (by decide) (fun m w=>∃ (μx:M) (s984:List UInt8),m=(yK10 (yK2 (.i (S s984)::(yK50 (yK20 (yK3 (yO7 86 [])))))))∧asm_print_j4 i882 l887 x970 (asm_print_l3 i397 x708 (asm_print_l2 p_1 n_2) n_3) s984=some r∧Le μ14 μx∧Sq μx w0 w (.blk b9 29 [.int .i64 0,.int .i64 0,.int .i64 0]::.blk b11 47 [v883,v885]::.row v885 5 1 l887.length cs886::.blk b978 43 [.int .i64 x970.Op,.int .i64 x970.A,.int .i64 x970.N]::rsF)) (by rintro _ _ ⟨_,_,rfl,_⟩; rfl) ?_ ?_
                  · refine cdraw (by kernel_rfl) rfl fun w29 hh_ ho_ ht_ hu_=>?_
                    replace hS:=hS.drew hh_ ho_ ht_ hu_
                    refine sf_start ?_
                    refine sf_pu (i:=1) [1,2,3,4,5,6,7] (blind_of fun _ _ _ h=>h.2) rfl rfl rfl (u_fa fa43_0 (et (k10 d1)) rfl) (q80 p7) ?_
                    refine sf_rd (i:=2) [2,3,4,5,6,7] (blind_of fun _ _ _ h=>h.2) rfl rfl rfl (u_load ti3 (et (k80 d7)) ((hS.blk d3).cell d0)) (q80 p8) ?_
                    replace h:=bI h; obtain ⟨i985,g986,h⟩:=h
                    refine sf_pu (i:=3) [3,4,5,6,7] (blind_of fun _ _ _ h=>h.2) rfl rfl rfl (u_subc (et (k80 d8)) ec g986) (q80 p9) ?_
                    replace h:=bI h; obtain ⟨r987,g988,h⟩:=h
                    refine sf1 rfl rfl rfl rfl (wn0 rfl) (s_callv isfn13 ef e0 (asm_mnem_w (hg.t (le69.t (le704.t (le726.t (le802.t (le966.t le982)))))) g988 hS) ?_)
                    rintro _ w30 ⟨μ15,a990,c991,rfl,le989,hS,m992⟩
                    refine pu (dt (q80 p6)) ?_
                    refine ⟨(Mons.s (u_load ti3 (et (k80 d7)) ((hS.blk d3).cell d0)) Mons.z),?_⟩
                    replace h:=bI h; obtain ⟨x993,g994,h⟩:=h
                    obtain ⟨b995,o996,cs997,e998,f999,m1000⟩:=SlR.elem m992 g994
                    obtain rfl:=m1000
                    refine sf_pu (i:=4) [4,5,6,7] (blind_of fun _ _ _ h=>h.2) rfl rfl rfl (u_iax Tryz.underlying57 ti9 (et (k80 d6)) (et (k80 d9)) e998) (q90 p0) ?_
                    refine sf_rd (i:=5) [5,6,7] (blind_of fun _ _ _ h=>h.2) rfl rfl rfl (u_load ti9 (et (k90 d0)) ((f999 _ hS.a).one d0)) (q90 p1) ?_
                    replace h:=bI h; obtain ⟨s1001,g1002,h⟩:=h
                    refine sf_pu (i:=6) [6,7] (blind_of fun _ _ _ h=>h.2) rfl rfl rfl (u_catc ec (et (k90 d1)) g1002) (q90 p2) ?_
                    refine sf_pu (i:=7) [7] (blind_of fun _ _ _ h=>h.2) rfl rfl rfl (u_assign (et (k90 d2))) (q10 p2) ?_
                    refine sf_nil ?_
                    refine xl ?_
                    exact ⟨_,_,rfl,(aK10 (aK2 (aI (aK50 (aK20 (aK3 (aO7 aZ))))))),_,s1001,rfl,h,le989,hS⟩
                  · rintro _ t w31 ⟨μ16,s984,rfl,h,le1003,hS⟩
                    unfold asm_print_j4 at h
                    refine nrm (mK10 (mK2 (mi (mK50 (mK20 (mK3 (mO7 mz))))))) ?_
                    refine xn ?_
                    refine cseq ?_
                    refine creg ?_
                    refine wl (s_fa fa43_0 (et (k10 d1)) rfl (dt (q90 p4)) ?_)
                    refine wl (s_load ti3 (et (k90 d4)) ((hS.blk d3).cell d0) (dt (q90 p5)) ?_)
                    replace h:=bI h; obtain ⟨r1004,g1005,h⟩:=h
                    refine wl (s_callv isfn14 ef (e1 (et (k90 d5)) e0) (asm_has_w (hg.t (le69.t (le704.t (le726.t (le802.t (le966.t (le982.t le1003))))))) g1005 hS) ?_)
                    rintro _ w32 ⟨μ17,rfl,le1006,hS⟩
                    refine pu (dt (q90 p6)) ?_
                    refine wl (s_move (et (k90 d6)) (dt (q90 p3)) ?_)
                    refine wl (s_extr (et (k90 d3)) d0 (dt (q90 p7)) ?_)
                    refine wl (s_extr (et (k90 d3)) d1 (dt (q90 p8)) ?_)
                    refine wl (s_assign (et (k90 d7)) (dt (q10 p3)) ?_)
                    refine wl (s_assign (et (k90 d8)) (dt (q10 p4)) ?_)
                    refine wnil ?_
                    refine xn ?_
                    refine cblock ?_
                    refine cseq ?_
                    refine creg ?_
                    refine wl (s_move (et (k10 d3)) (dt (q100 p3)) ?_)
                    refine wl (s_assign (et (k100 d3)) (dt (q100 p2)) ?_)
                    refine wnil ?_
                    refine xn ?_
                    refine cifb (et (k100 d2)) (fun h1007=>?_) (fun h1007=>?_)
                    · replace h:=iT h1007 h
                      refine creg ?_
                      refine wl (s_move (et (k10 d2)) (dt (q100 p4)) ?_)
                      replace h:=bI h; obtain ⟨s1008,g1009,h⟩:=h
                      refine wl (s_catc (et (k100 d4)) ec g1009 (dt (q100 p5)) ?_)
                      refine wl (s_fa fa43_2 (et (k10 d1)) rfl (dt (q100 p6)) ?_)
                      refine wl (s_load ti2 (et (k100 d6)) ((hS.blk d3).cell d2) (dt (q100 p7)) ?_)
                      replace h:=bI h; obtain ⟨s1010,g1011,h⟩:=h
                      refine wl (s_callv isfn15 ef (e1 (et (k100 d7)) (e1 ec e0)) (fmt_w (hg.t (le69.t (le704.t (le726.t (le802.t (le966.t (le982.t (le1003.t le1006)))))))) g1011 hS) ?_); clear hS; rintro _ w33 ⟨rfl,hS⟩; refine pu (dt (q100 p8)) ?_
                      replace h:=bI h; obtain ⟨s1012,g1013,h⟩:=h
                      refine wl (s_catc (et (k100 d5)) (et (k100 d8)) g1013 (dt (q100 p9)) ?_)
                      replace h:=bI h; obtain ⟨s1014,g1015,h⟩:=h
                      refine wl (s_catc (et (k100 d9)) ec g1015 (dt (q100 (q10 p0))) ?_)
                      replace h:=bI h; obtain ⟨r1016,g1017,h⟩:=h
                      replace hS:=hS.bg (Bg.s (Bg.s Bg.z))
                      replace hS:=hS.bg (Bg.s (Bg.s Bg.z))
                      refine wl (s_callv isfn9 ef (e1 (et d4) (e1 (et (k100 (k10 d0))) e0)) (bd_str_w (hg.t (le69.t (le704.t (le726.t (le802.t (le966.t (le982.t (le1003.t le1006)))))))) (m967.up (le982.t (le1003.t le1006))) (m968.up (le982.t (le1003.t le1006))) g1017 hS) ?_)
                      rintro _ w34 ⟨μ18,v1019,v1021,cs1022,rfl,le1018,hS,m1020,m1023⟩
                      refine pu (dt (q100 (q10 p1))) ?_
                      refine wnil ?_
                      refine (fun h=>bn (bn (xn h))) ?_
                      refine creg ?_
                      replace h:=bI h; obtain ⟨i1024,g1025,h⟩:=h
                      refine wl (s_addc (et (k70 d0)) ec g1025 (dt (q100 (q20 p0))) ?_)
                      refine wl (s_move (et (k100 (k20 d0))) (dt (q70 p0)) ?_)
                      refine wnil ?_
                      refine xl ?_
                      replace hS:=hS.drop (Rm.s (Rm.s (Rm.s Rm.z)))
                      replace hS:=hS.bg (Bg.s Bg.z)
                      replace hS:=hS.bg (Bg.s Bg.z)
                      replace hS:=hS.bg (Bg.s (Bg.s Bg.z))
                      exact ⟨n_3,_,_,rfl,(aK2 (aO1 (aK7 (aO5 (aK50 (aK5 (aI (aO50 aZ)))))))),⟨_,i1024,v1019,r1016.2.2,v1021,cs1022,rfl,h,(le966.t (le982.t (le1003.t (le1006.t le1018)))),hS,m1020,m1023⟩,Nat.lt_succ_self _⟩
                    · replace h:=iF h1007 h
                      refine cseq ?_
                      refine creg ?_
                      refine wl (s_move (et (k10 d4)) (dt (q100 (q10 p3))) ?_)
                      refine wl (s_assign (et (k100 (k10 d3))) (dt (q100 (q10 p2))) ?_)
                      refine wnil ?_
                      refine xn ?_
                      refine cifb (et (k100 (k10 d2))) (fun h1026=>?_) (fun h1026=>?_)
                      · replace h:=iT h1026 h
                        refine creg ?_
                        refine wl (s_move (et d5) (dt (q100 (q10 p4))) ?_)
                        refine wl (s_move (et (k10 d2)) (dt (q100 (q10 p5))) ?_)
                        refine wl (s_fa fa43_1 (et (k10 d1)) rfl (dt (q100 (q10 p6))) ?_)
                        refine wl (s_load ti3 (et (k100 (k10 d6))) ((hS.blk d3).cell d1) (dt (q100 (q10 p7))) ?_)
                        refine wl (s_bsl Tryz.underlying38 ti3 (Parts.s (et (k100 (k10 d7))) rfl Parts.z) rfl rfl hS ?_); clear hS; intro b1027 w35 hb1028 hS; refine pu (dt (q100 (q10 p8))) ?_
                        obtain ⟨μ19,le1030,m1029,hS⟩:=Sep.frzBlk (l:=([x970.A]:List Int)) hS (Rw.one (α:=Int) rfl) (Nat.le_of_ble_eq_true rfl)
                        replace h:=bI h; obtain ⟨r1031,g1032,h⟩:=h
                        replace hS:=hS.bg (Bg.s (Bg.s Bg.z))
                        replace hS:=hS.bg (Bg.s (Bg.s Bg.z))
                        refine wl (s_callc isfn8 (et (k100 (k10 d4))) (e1 (et (k100 (k10 d5))) (e1 (et (k100 (k10 d8))) e0)) (pr_line_w (hg.t (le69.t (le704.t (le726.t (le802.t (le966.t (le982.t (le1003.t (le1006.t le1030))))))))) m1029 (m967.up (le982.t (le1003.t (le1006.t le1030)))) (m968.up (le982.t (le1003.t (le1006.t le1030)))) g1032 hS) ?_)
                        rintro _ w36 ⟨μ20,v1034,v1036,cs1037,rfl,le1033,hS,m1035,m1038⟩
                        refine pu (dt (q100 (q10 p9))) ?_
                        refine wnil ?_
                        refine (fun h=>bn (bn (xn h))) ?_
                        refine creg ?_
                        replace h:=bI h; obtain ⟨i1039,g1040,h⟩:=h
                        refine wl (s_addc (et (k70 d0)) ec g1040 (dt (q100 (q20 p0))) ?_)
                        refine wl (s_move (et (k100 (k20 d0))) (dt (q70 p0)) ?_)
                        refine wnil ?_
                        refine xl ?_
                        replace hS:=hS.drop (Rm.s (Rm.s (Rm.s Rm.z)))
                        replace hS:=hS.bg (Bg.s Bg.z)
                        replace hS:=hS.bg (Bg.s Bg.z)
                        replace hS:=hS.bg (Bg.s (Bg.s Bg.z))
                        exact ⟨n_3,_,_,rfl,(aK2 (aO1 (aK7 (aO5 (aK50 (aK5 (aI (aO50 aZ)))))))),⟨_,i1039,v1034,r1031,v1036,cs1037,rfl,h,(le966.t (le982.t (le1003.t (le1006.t (le1030.t le1033))))),hS,m1035,m1038⟩,Nat.lt_succ_self _⟩
                      · replace h:=iF h1026 h
                        refine creg ?_
                        refine wl (s_move (et d5) (dt (q90 p9)) ?_)
                        refine wl (s_move (et (k10 d2)) (dt (q100 p0)) ?_)
                        replace h:=bI h; obtain ⟨r1041,g1042,h⟩:=h
                        replace hS:=hS.bg (Bg.s (Bg.s Bg.z))
                        replace hS:=hS.bg (Bg.s (Bg.s Bg.z))
                        refine wl (s_callc isfn8 (et (k90 d9)) (e1 (et (k100 d0)) (e1 ec e0)) (pr_line_w (hg.t (le69.t (le704.t (le726.t (le802.t (le966.t (le982.t (le1003.t le1006)))))))) Sl.nil (m967.up (le982.t (le1003.t le1006))) (m968.up (le982.t (le1003.t le1006))) g1042 hS) ?_)
                        rintro _ w37 ⟨μ21,v1044,v1046,cs1047,rfl,le1043,hS,m1045,m1048⟩
                        refine pu (dt (q100 p1)) ?_
                        refine wnil ?_
                        refine (fun h=>bn (bn (xn h))) ?_
                        refine creg ?_
                        replace h:=bI h; obtain ⟨i1049,g1050,h⟩:=h
                        refine wl (s_addc (et (k70 d0)) ec g1050 (dt (q100 (q20 p0))) ?_)
                        refine wl (s_move (et (k100 (k20 d0))) (dt (q70 p0)) ?_)
                        refine wnil ?_
                        refine xl ?_
                        replace hS:=hS.drop (Rm.s (Rm.s (Rm.s Rm.z)))
                        replace hS:=hS.bg (Bg.s Bg.z)
                        replace hS:=hS.bg (Bg.s Bg.z)
                        replace hS:=hS.bg (Bg.s (Bg.s Bg.z))
                        exact ⟨n_3,_,_,rfl,(aK2 (aO1 (aK7 (aO5 (aK50 (aK5 (aI (aO50 aZ)))))))),⟨_,i1049,v1044,r1041,v1046,cs1047,rfl,h,(le966.t (le982.t (le1003.t (le1006.t le1043)))),hS,m1045,m1048⟩,Nat.lt_succ_self _⟩
            · replace h:=iF h969 h
              refine cexit ?_
              refine (fun h=>xe (xe (bh h))) ?_
              refine xn ?_
              refine cseq ?_
              refine creg ?_
              replace h:=bI h; obtain ⟨r1051,g1052,h⟩:=h
              replace hS:=hS.bg (Bg.s (Bg.s Bg.z))
              replace hS:=hS.bg (Bg.s (Bg.s Bg.z))
              refine wl (s_callv isfn16 ef (e1 (et d4) e0) (bd_len_w (hg.t (le69.t (le704.t (le726.t (le802.t le966))))) m967 m968 g1052 hS) ?_)
              rintro _ w38 ⟨μ22,rfl,le1053,hS⟩
              refine pu (dt (q100 (q20 p1))) ?_
              refine wl (s_gtr (et (k100 (k20 d1))) ec (dt (q100 (q20 p2))) ?_)
              refine wnil ?_
              refine xn ?_
              refine cifd (et (k100 (k20 d2))) (fun h1054=>?_) (fun h1054=>?_)
              · replace h:=iT h1054 h
                refine cseq ?_
                refine creg ?_
                refine wl (s_build ti29 pl29 (Fl.o rfl ec rfl rfl p0 Fl.z) (dt (q100 (q20 p3))) ?_)
                refine wl (s_assign ec (dt p2) ?_)
                refine wl (s_storeA ti29 (et d3) (et (k100 (k20 d3))) rfl rfl hS d2 rfl p2 dn ?_)
                clear hS; intro w39 hS
                refine wnil ?_
                refine xn ?_
                refine cret ?_
                refine (fun h=>br (xr (xr (br (xr h))))) ?_
                obtain rfl:=oI h
                refine retN rfl (RVs.s (.t d2) (RVs.s (.a d3 ti29 (hS.blk d2).cells rfl) RVs.z)) ?_
                replace hS:=hS.drop Rm.z
                replace hS:=hS.drop Rm.z
                replace hS:=hS.drop Rm.z
                exact ⟨_,rfl,(le69.t (le704.t (le726.t (le802.t (le966.t le1053))))),hS⟩
              · replace h:=iF h1054 h
                refine cskip ?_
                refine (fun h=>bn (xn h)) ?_
                refine creg ?_
                replace h:=bI h; obtain ⟨i1055,g1056,h⟩:=h
                refine wl (s_addc (et (k30 d4)) ec g1056 (dt (q100 (q20 p4))) ?_)
                refine wl (s_move (et (k100 (k20 d4))) (dt (q30 p4)) ?_)
                refine wnil ?_
                refine xl ?_
                replace hS:=hS.bg (Bg.s Bg.z)
                replace hS:=hS.bg (Bg.s Bg.z)
                replace hS:=hS.bg (Bg.s (Bg.s Bg.z))
                exact ⟨n_2,_,_,rfl,(aK2 (aO1 (aK5 (aO7 (aK10 (aK9 (aI (aO50 (aO20 (aO20 aZ)))))))))),⟨_,i1055,v883,l887,v885,cs886,rfl,h,(le704.t (le726.t (le802.t (le966.t le1053)))),hS,(m967.up le1053),(m968.up le1053)⟩,Nat.lt_succ_self _⟩
    · replace h:=iF h707 h
      refine cexit ?_
      refine (fun h=>xe (xe (bh h))) ?_
      refine xn ?_
      refine cseq ?_
      refine cseq ?_
      refine creg ?_
      replace h:=bI h; obtain ⟨r1057,g1058,h⟩:=h
      replace hS:=hS.bg (Bg.s (Bg.s Bg.z))
      replace hS:=hS.bg (Bg.s (Bg.s Bg.z))
      refine wl (s_callv isfn16 ef (e1 (et d4) e0) (bd_len_w (hg.t (le69.t le704)) m705 m706 g1058 hS) ?_)
      rintro _ w40 ⟨μ23,rfl,le1059,hS⟩
      refine pu (dt (q100 (q20 p5))) ?_
      refine wl (s_gtr (et (k100 (k20 d5))) ec (dt (q100 (q20 p6))) ?_)
      refine wnil ?_
      refine xn ?_
      refine cifd (et (k100 (k20 d6))) (fun h1060=>?_) (fun h1060=>?_)
      · replace h:=iT h1060 h
        refine cseq ?_
        refine creg ?_
        refine wl (s_build ti29 pl29 (Fl.o rfl ec rfl rfl p0 Fl.z) (dt (q100 (q20 p7))) ?_)
        refine wl (s_assign ec (dt p2) ?_)
        refine wl (s_storeA ti29 (et d3) (et (k100 (k20 d7))) rfl rfl hS d2 rfl p2 dn ?_)
        clear hS; intro w41 hS
        refine wnil ?_
        refine xn ?_
        refine cret ?_
        refine xr ?_
        obtain rfl:=oI h
        refine retN rfl (RVs.s (.t d2) (RVs.s (.a d3 ti29 (hS.blk d2).cells rfl) RVs.z)) ?_
        replace hS:=hS.drop Rm.z
        replace hS:=hS.drop Rm.z
        replace hS:=hS.drop Rm.z
        exact ⟨_,rfl,(le69.t (le704.t le1059)),hS⟩
      · replace h:=iF h1060 h
        refine cskip ?_
        refine xn ?_
        refine cseq ?_
        refine creg ?_
        replace hS:=hS.bg (Bg.s Bg.z)
        replace hS:=hS.bg (Bg.s Bg.z)
        refine wl (s_callv isfn17 ef (e1 (et d4) e0) (bw_string (m706.up le1059) hS) ?_)
        rintro _ w42 ⟨μ24,rfl,le1061,hS⟩; refine pu (dt (q100 (q20 p8))) ?_
        refine wl (s_build ti29 pl29 Fl.z (dt (q100 (q20 p9))) ?_)
        refine wl (s_assign (et (k100 (k20 d8))) (dt p2) ?_)
        refine wl (s_storeA ti29 (et d3) (et (k100 (k20 d9))) rfl rfl hS d0 rfl p0 dn ?_)
        clear hS; intro w43 hS
        refine wnil ?_
        refine xn ?_
        refine cret ?_
        obtain rfl:=oI h
        refine retN rfl (RVs.s (.t d2) (RVs.s (.a d3 ti29 (hS.blk d0).cells rfl) RVs.z)) ?_
        replace hS:=hS.drop Rm.z
        exact ⟨_,rfl,(le69.t (le704.t (le1059.t le1061))),hS⟩
end Go.Proofs.YtppgfpelddpnbaaGreatDoor
