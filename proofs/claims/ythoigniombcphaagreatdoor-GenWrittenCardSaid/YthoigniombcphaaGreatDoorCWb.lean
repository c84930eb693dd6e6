/- Texts of Wb. -/
import Derived.Test.YthoigniombcphaaGreatDoorCXu
import Derived.Test.YthoigniombcphaaGreatDoorCMd
import Derived.Test.YthoigniombcphaaGreatDoorCWa
set_option linter.unusedSimpArgs false
set_option linter.unusedVariables false
set_option linter.unusedSectionVars false
set_option maxRecDepth 100000
set_option maxHeartbeats 20000000
namespace Go.Proofs.YthoigniombcphaaGreatDoor
open Go.bc Go.Dc Go.Y Tryz
variable {U nb dh Ie Qc c4 Tc Ve bg fu Qf Lb Od:Nat} {a3 a5 uc Jc:Option Addr} {Ec:Value} {Rb:List (Nat×List MapEntry×Nat)} {I:M} {J w:World} {O:List Wb}
theorem ep (b:ga Fc I) {p_1:Ya} {r:Bool}  (h:Km p_1=some r) (a:ka I J w (O)):Sb prog 105 [.agg ⟨[.int .i64 p_1.Kind,S p_1.Nb]⟩] w (fun v w'=>∃ (na:M) ,v=.bool r∧ga I na∧ka na J w' (O)):=by
 unfold Km at h
 refine enter func105 rfl (frm:=_::Ge []) rfl (ea ?_)
 refine wl (Ji (aa d0) rfl a ?_); clear a; intro U c d a; refine fa ?_
 refine st (rb (st (Ha ((a.ba d0).cell d0) ?_)))
 iterate 2 refine st ?_
 refine ja (Ra ?_)
 obtain rfl:=Ea h
 refine Ob rfl d2 ?_
 replace a:=a.drop ia.z
 exact ⟨_,rfl,ga.r,a⟩
theorem ev (l:ga Fc I) {p_1:Zb} {d:Int} {p_3:List UInt8} {r:Option va×Bool} (m5:Ka I a3 c4 p_1.defs) (m7:rf I dh p_1.named) (m8:dd I U Qf [.slice a3 p_1.defs.length c4,.map (some dh)]) (h:qp p_1 d p_3=some r) (b:ka I J w (O)):Sb prog 118 [.pointer (some ⟨U,Qf,none⟩),.int .i64 d,S p_3] w (fun v w'=>∃ (na:M) (v9:Value),v=.tuple ⟨[v9,.bool r.2]⟩∧ga I na∧ka na J w' (O)∧uh na v9 r.1):=by
 unfold qp at h
 refine enter func118 rfl (frm:=_::_::_::Cf (Ge (Xe []))) rfl (ea ?_)
 iterate 2 refine st ?_
 refine rb ?_
 iterate 3 refine st ?_
 refine Ha ((m8 _ b.a).one d1) (st ?_)
 obtain ⟨m,c12,e,f⟩:=m7
 refine wl (BA (κ:=List UInt8) (k:=p_3) (hrv:=fun _ _ h=>h) underlying76 underlying9 (aa (wa d4)) (aa (wa d5)) vq (e _ b.a) f ?_); intro og c; refine fa ?_
 iterate 5 refine st ?_
 refine ob ?_
 refine Td b ?_; clear b; intro n b
 refine Pd (la 0 [0,10,11] rfl (la 1 [1,2,3,4,5,6,7,8,9,10,11] rfl (la 2 [2,3,4,5,6,7,8,9,10,11] rfl (la 10 [10,11] rfl ?_))))
 refine iJ 21 h ?_ ?_
 intro g h
 refine Ns 3 [3,4,5,6,8,9,11] rfl rfl (Sa d1) (ks (aa d8)) (oc Ib) ?_
 obtain ⟨o,g19,h⟩:=ha h
 obtain ⟨i,j,Ig,rfl,f23,m24⟩:=uh.get c g19
 obtain ⟨p,q,a28,s,rfl,t,u⟩:=m24
 refine Ns 4 [4,5,6,8,9,11] rfl rfl (Sa d1) (It (aa (Sa d2))) (oc ec) (Ns 5 [5,6,8,9,11] rfl rfl (Sa d1) (tu WG (aa (Sa d3)) rfl) (oc hd) (yy 6 [6,8,9,11] rfl rfl (Sa d1) (jb Uc (aa (Sa d4)) ((f23 _ b.a).one d0)) (oc cd) (Ns 7 [7,8,9,11] rfl rfl (Sa d1) (ks (aa d1)) (oc ad) (Ns 8 [8,9,11] rfl rfl (Sa d1) (YB (aa (Sa d5)) (aa (Sa d6))) (oc sd) (la 9 [9,11] rfl (la 11 [11] rfl (Hd (ra (Ra ?_)))))))))
 obtain rfl:=Ea h
 refine jl rfl d6 d7 ?_
 exact ⟨_,(.pointer (some ⟨i,j,none⟩)),rfl,ga.r,b,c⟩
 intro g h
 refine Wn 3 [3,4,5,6,8,9,11] rfl rfl (Sa d1) rfl (oc Ib) (Wn 4 [4,5,6,8,9,11] rfl rfl (Sa d1) rfl (oc ec) (Wn 5 [5,6,8,9,11] rfl rfl (Sa d1) rfl (oc hd) (Wn 6 [6,8,9,11] rfl rfl (Sa d1) rfl (oc cd) (Wn 7 [7,8,9,11] rfl rfl (Sa d1) rfl (oc ad) (Wn 8 [8,9,11] rfl rfl (Sa d1) rfl (oc sd) (la 9 [9,11] rfl (la 11 [11] rfl (Hd (ra (Ra ?_))))))))))
 obtain rfl:=Ea h
 refine jl rfl d6 d7 ?_
 exact ⟨_,_,rfl,ga.r,b,c⟩
theorem PD (d:ga Fc I) {p_1:Zb} {c:Ya} {r:Int} (m5:Ka I a3 c4 p_1.defs) (m7:rf I dh p_1.named) (m8:dd I U Qf [.slice a3 p_1.defs.length c4,.map (some dh)]) (h:Dt p_1 c=some r) (a:ka I J w (O)):Sb prog 104 [.pointer (some ⟨U,Qf,none⟩),.agg ⟨[.int .i64 c.Kind,S c.Nb]⟩] w (fun v w'=>∃ (na:M) ,v=.int .i64 r∧ga I na∧ka na J w' (O)):=by
 unfold Dt at h
 refine enter func104 rfl (frm:=_::_::Cf (Ge (Wf []))) rfl (ea ?_)
 refine wl (Ji (aa d1) rfl a ?_); clear a; intro Fe i j a; refine fa ?_
 refine st (ob (ea (Ae (a.ba d0).cells rfl ?_)))
 obtain ⟨k,g12,h⟩:=ha h
 refine Aa (ep d g12 a) ?_
 rintro _ l ⟨m,rfl,b,a⟩
 refine fa (ja ?_)
 refine ed h ?_ ?_
 intro f h
 refine ea (st (ja (Ra (Fa ?_))))
 obtain rfl:=Ea h
 refine Ob rfl d4 ?_
 replace a:=a.drop ia.z
 exact ⟨_,rfl,b,a⟩
 intro f h
 refine Va (ra (db (ea ?_)))
 iterate 2 refine st ?_
 refine Ha ((a.ba d0).cell d1) ?_
 obtain ⟨n,g16,h⟩:=ha h
 refine Aa (ev (d.t b) (m5.up b) (m7.up b) (m8.up b) g16 a) ?_
 rintro _ o ⟨p,q,rfl,e,a,m19⟩
 refine fa ?_
 iterate 5 refine st ?_
 refine rb ?_
 iterate 2 refine st ?_
 refine ja ?_
 refine pj h ?_ ?_
 intro g h
 refine ea (st (ja (Ra (Fa ?_))))
 obtain rfl:=Ea h
 refine Ob rfl d4 ?_
 replace a:=a.drop ia.z
 exact ⟨_,rfl,(b.t e),a⟩
 intro g h
 refine Va (ra (ea (st (ja (Ra ?_)))))
 obtain rfl:=Ea h
 refine Ob rfl d4 ?_
 replace a:=a.drop ia.z
 exact ⟨_,rfl,(b.t e),a⟩
theorem dr (e:ga Fc I) {p_1 r:Ya}  (h:xn p_1=some r) (b:ka I J w (O)):Sb prog 106 [.agg ⟨[.int .i64 p_1.Kind,S p_1.Nb]⟩] w (fun v w'=>∃ (na:M) ,v=.agg ⟨[.int .i64 r.Kind,S r.Nb]⟩∧ga I na∧ka na J w' (O)):=by
 unfold xn at h
 refine enter func106 rfl (frm:=_::Cf (Ge [])) rfl (ea ?_)
 refine wl (Ji (aa d0) rfl b ?_); clear b; intro U k l b; refine fa ?_
 refine wl (bd Mb b ?_); clear b; intro nb n o b; refine fa ?_
 refine ob (ea (Ae (b.ba d1).cells rfl ?_))
 obtain ⟨p,g6,h⟩:=ha h
 refine Aa (ep e g6 b) ?_
 rintro _ q ⟨f,rfl,g,b⟩
 refine fa (ja ?_)
 refine Ub ([5]) (by decide) (fun m w=>∃ d c,m=(ng (Sc 5 []))∧Su p_1 c=some r∧ga f d∧ka d J w (.ba U 57 [.int .i64 p_1.Kind,S c]::.ba nb 57 [.int .i64 0,S []]::O)) (by rintro _ _ ⟨_,_,rfl,_⟩; rfl) ?_ ?_
 refine ed h ?_ ?_
 intro i h
 refine eb (st (wl (Je Hb (aa d5) Ba rfl b d1 kb rfl kb Ma ?_)))
 clear b; intro u b
 refine La (za ?_)
 replace b:=b.da Da
 exact ⟨_,_,rfl,(ie (lb ta)),_,[],rfl,h,ga.r,b⟩
 intro i h
 refine Va (za ?_)
 replace b:=b.da Da
 exact ⟨_,_,rfl,(ie (lb ta)),_,p_1.Nb,rfl,h,ga.r,b⟩
 rintro _ t x ⟨y,c,rfl,h,j,b⟩
 unfold Su at h
 refine Vb (Ag (Xc pb)) (ra (ea (Ae (b.ba d0).cells rfl (wl (yb Mb (aa d2) (aa d6) rfl rfl b d1 rfl kb Ma ?_)))))
 clear b; intro A b
 refine ja (Ra ?_)
 obtain rfl:=Ea h
 refine Ad rfl (Qa.s (.a d2 Mb (b.ba d1).cells rfl) Qa.z) ?_
 replace b:=(b.drop ia.z).drop ia.z
 exact ⟨_,rfl,(g.t j),b⟩
theorem tn (c:ga Fc I)  {r:Ya}  (h:fk =some r) (b:ka I J w (O)):Sb prog 136 [] w (fun v w'=>∃ (na:M) ,v=.agg ⟨[.int .i64 r.Kind,S r.Nb]⟩∧ga I na∧ka na J w' (O)):=by
 unfold fk at h
 refine enter func136 rfl (frm:=zd []) rfl (ea ?_)
 refine wl (bd Mb b ?_); clear b; intro U d e b; refine fa ?_
 refine rb (wl (Nd Mb uq (ab.o rfl Ba rfl rfl Ga ab.z) (ma kb) (wl (yb Mb (aa d0) (aa d1) rfl rfl b d0 rfl Ga Ma ?_))))
 clear b; intro f b
 refine ja (Ra ?_)
 obtain rfl:=Ea h
 refine Ad rfl (Qa.s (.a d0 Mb (b.ba d0).cells rfl) Qa.z) ?_
 replace b:=b.drop ia.z
 exact ⟨_,rfl,ga.r,b⟩
theorem ko (c:ga Fc I)  {r:Ya}  (h:Di =some r) (b:ka I J w (O)):Sb prog 131 [] w (fun v w'=>∃ (na:M) ,v=.agg ⟨[.int .i64 r.Kind,S r.Nb]⟩∧ga I na∧ka na J w' (O)):=by
 unfold Di at h
 refine enter func131 rfl (frm:=zd []) rfl (ea ?_)
 refine wl (bd Mb b ?_); clear b; intro U d e b; refine fa ?_
 refine rb (wl (Nd Mb uq (ab.o rfl Ba rfl rfl Ga ab.z) (ma kb) (wl (yb Mb (aa d0) (aa d1) rfl rfl b d0 rfl Ga Ma ?_))))
 clear b; intro f b
 refine ja (Ra ?_)
 obtain rfl:=Ea h
 refine Ad rfl (Qa.s (.a d0 Mb (b.ba d0).cells rfl) Qa.z) ?_
 replace b:=b.drop ia.z
 exact ⟨_,rfl,ga.r,b⟩
theorem Yw (D:ga Fc I) {e:Zb} {c:va} {d:List (List (List UInt8×Ya))} {f:List UInt8} {r:Ya×Bool} (m7:Ka I a5 Tc e.defs) (m9:rf I Ie e.named) (m10:dd I nb Lb [.slice a5 e.defs.length Tc,.map (some Ie)]) (m16:Ka I uc Ve c.Params) (m19:Ka I Jc bg c.Body) (m20:dd I Qc Od [.int .i64 c.Kind,S c.Name,.int .i64 c.zb.Kind,S c.zb.Nb,.int .i64 c.Hc.Kind,S c.Hc.Nb,.int .i64 c.oe,.slice uc c.Params.length Ve,.slice Jc c.Body.length bg]) (m24:Bd I Rb d) (h:xo fu e c d f=some r) (b:ka I J w (.ba U 196 [.pointer (some ⟨nb,Lb,none⟩),.pointer (some ⟨Qc,Od,none⟩),Ec]::.row Ec 193 1 d.length (Xb Rb)::(gb Rb++O))):Sb prog 129 [.pointer (some ⟨U,0,none⟩),S f] w (fun v w'=>∃ (na:M) ,v=.tuple ⟨[.agg ⟨[.int .i64 r.1.Kind,S r.1.Nb]⟩,.bool r.2]⟩∧ga I na∧ka na J w' (.ba U 196 [.pointer (some ⟨nb,Lb,none⟩),.pointer (some ⟨Qc,Od,none⟩),Ec]::.row Ec 193 1 d.length (Xb Rb)::(gb Rb++O))):=by
 unfold xo at h
 refine enter func129 rfl (frm:=_::_::zd (Wf (Xe []))) rfl (ea ?_)
 refine wl (bd Mb b ?_); clear b; intro o E F b; refine fa ?_
 refine st (ob (ea ?_))
 iterate 3 refine st ?_
 refine Ha ((b.ba d1).cell d2) (wl (Ja (wj underlying194 (aa (wa d2)) (b.get d2).yj) (ma (Jb ec)) ?_))
 obtain ⟨i27,p,h⟩:=ha h
 refine wl (Ja (Kl (aa (wa d3)) Ba p) (ma (Jb hd)) (st (ja (Qb ?_))))
 replace b:=(b.da Eb).da Eb
 refine Se ([5]++rg 7 2++rg 15 18) (by decide +kernel) (fun n m w=>∃ l i48,m=(ng (Sc 5 (.i (.int .i64 i48)::(xf 7 (Og (Rc 15 (ei 25 [])))))))∧Vo f d n i48=some r∧ga I l∧ka l J w (.ba U 196 [.pointer (some ⟨nb,Lb,none⟩),.pointer (some ⟨Qc,Od,none⟩),Ec]::.row Ec 193 1 d.length (Xb Rb)::.ba o 57 [.int .i64 0,S []]::(gb Rb++O))) (by rintro _ _ _ ⟨_,_,rfl,_⟩; rfl) _ _ (ie (lb (Na (Zc (ye (qb (ag ta))))))) ⟨_,i27,rfl,h,ga.r,b⟩ ?_
 rintro j _ t G ⟨H,i48,rfl,h,g,b⟩
 rcases j with _|j
 cases h
 unfold Vo at h
 refine Te (Ag (Xc (kc (Kf (Zg (Wc (xi pb))))))) (db (ea ?_))
 iterate 2 refine st ?_
 refine ja ?_
 refine Za h ?_ ?_
 intro q h
 refine Va (ra (db (Qb (ea ?_))))
 iterate 3 refine st ?_
 refine Ha ((b.ba d0).cell d2) (st ?_)
 obtain ⟨K,u,h⟩:=ha h
 obtain ⟨L,N,P,Q,c76,x,f78,y,A⟩:=Row.mapElem (b.get d1) (m24.up g) u
 refine wl (Ja (Mc underlying194 Nn (aa (Sa d3)) (aa (Sa d4)) x) (ma (oc cd)) (Ha ((f78 _ _ (b.get d1)).one d0) (st ?_)))
 refine wl (cB (κ:=List UInt8) (k:=f) (β:=Ya) (zx:=(Ya.mk 0 [])) underlying193 underlying9 (aa (Sa d6)) (aa (Sa d7)) QI ⟨_,rfl,rfl⟩ (b.bC (pre:=[_,_,_]) y) A ?_); rintro _ ⟨_,rfl,rfl⟩; refine fa ?_
 iterate 3 refine st ?_
 refine wl (bd Mb b ?_); clear b; intro R T V b; refine fa ?_
 refine wl (yb Mb (aa d7) (aa (Sa d9)) rfl rfl b d0 rfl Ga Ma ?_)
 clear b; intro W b
 refine st (rb (st (ja ?_)))
 refine ed h ?_ ?_
 intro B h
 refine ea (Ae (b.ba d0).cells rfl (wl (yb Mb (aa d4) (aa (ib d2)) rfl rfl b d3 rfl ec Ma ?_)))
 clear b; intro X b
 refine st (ja (Ra ?_))
 refine (fun h=>Ab (Fa (Fa (Ab (Fa h))))) ?_
 obtain rfl:=Ea h
 refine Ad rfl (Qa.s (.a d4 Mb (b.ba d3).cells rfl) (Qa.s (.t d5) Qa.z)) ?_
 replace b:=(b.drop ia.z).drop (ia.s (ia.s ia.z))
 exact ⟨_,rfl,g,b⟩
 intro B h
 refine Va ?_
 refine (fun h=>Pb (ra h)) ?_
 refine eb (st ?_)
 obtain ⟨i88,C,h⟩:=ha h
 refine wl (Ja (Kl (aa (wa d7)) Ba C) (ma (Jb Yd)) (st (La (za ?_))))
 replace b:=b.drop ia.z
 exact ⟨j,_,_,rfl,(ie (lb (Na (Zc (ye (qb (ag ta))))))),⟨_,i88,rfl,h,g,b⟩,Nat.lt_succ_self _⟩
 intro q h
 refine ke ?_
 refine (fun h=>jc (jc (pe h))) ?_
 refine ra (ea (wl (Nd Mb uq ab.z (ma (qd ec)) (wl (yb Mb (aa d4) (aa (ib d3)) rfl rfl b d2 rfl Ib Ma ?_)))))
 clear b; intro Y b
 refine st (ja (Ra ?_))
 obtain rfl:=Ea h
 refine Ad rfl (Qa.s (.a d4 Mb (b.ba d2).cells rfl) (Qa.s (.t d5) Qa.z)) ?_
 replace b:=b.drop (ia.s (ia.s ia.z))
 exact ⟨_,rfl,g,b⟩
def Zy (q:Zb→va→(List (List (List UInt8×Ya)))→ua→Ya→Option Int):Prop:=∀ {I:M} {J w:World} {O:List Wb} (i:ga Fc I) {U:Nat} {c:Zb} {nb Lb:Nat} {a5:Option Addr} {Tc Ie:Nat} {a:va} {Qc Od:Nat} {uc:Option Addr} {Ve:Nat} {Jc:Option Addr} {bg:Nat} {d:List (List (List UInt8×Ya))} {Ec:Value} {Rb:List (Nat×List MapEntry×Nat)} {b:ua} {e f:Nat} {g:Option Addr} {c28:Nat} {p_3:Ya} {r:Int} (m7:Ka I a5 Tc c.defs) (m9:rf I Ie c.named) (m10:dd I nb Lb [.slice a5 c.defs.length Tc,.map (some Ie)]) (m16:Ka I uc Ve a.Params) (m19:Ka I Jc bg a.Body) (m20:dd I Qc Od [.int .i64 a.Kind,S a.Name,.int .i64 a.zb.Kind,S a.zb.Nb,.int .i64 a.Hc.Kind,S a.Hc.Nb,.int .i64 a.oe,.slice uc a.Params.length Ve,.slice Jc a.Body.length bg]) (m24:Bd I Rb d) (j:Ka I g c28 b.Kids) (k:dd I e f [.int .i64 b.Kind,.int .i64 b.N,S b.Name,.slice g b.Kids.length c28]) (h:q c a d b p_3=some r) (l:ka I J w (.ba U 196 [.pointer (some ⟨nb,Lb,none⟩),.pointer (some ⟨Qc,Od,none⟩),Ec]::.row Ec 193 1 d.length (Xb Rb)::(gb Rb++O))),Sb prog 130 [.pointer (some ⟨U,0,none⟩),.pointer (some ⟨e,f,none⟩),.agg ⟨[.int .i64 p_3.Kind,S p_3.Nb]⟩] w (fun v w'=>∃ (na:M) ,v=.int .i64 r∧ga I na∧ka na J w' (.ba U 196 [.pointer (some ⟨nb,Lb,none⟩),.pointer (some ⟨Qc,Od,none⟩),Ec]::.row Ec 193 1 d.length (Xb Rb)::(gb Rb++O)))
def iz (q:Zb→va→(List (List (List UInt8×Ya)))→ua→Int→Option (Option va×Int)):Prop:=∀ {I:M} {J w:World} {O:List Wb} (i:ga Fc I) {U:Nat} {c:Zb} {nb Lb:Nat} {a5:Option Addr} {Tc Ie:Nat} {a:va} {Qc Od:Nat} {uc:Option Addr} {Ve:Nat} {Jc:Option Addr} {bg:Nat} {d:List (List (List UInt8×Ya))} {Ec:Value} {Rb:List (Nat×List MapEntry×Nat)} {b:ua} {e f:Nat} {g:Option Addr} {c28:Nat} {p_3:Int} {r:Option va×Int} (m7:Ka I a5 Tc c.defs) (m9:rf I Ie c.named) (m10:dd I nb Lb [.slice a5 c.defs.length Tc,.map (some Ie)]) (m16:Ka I uc Ve a.Params) (m19:Ka I Jc bg a.Body) (m20:dd I Qc Od [.int .i64 a.Kind,S a.Name,.int .i64 a.zb.Kind,S a.zb.Nb,.int .i64 a.Hc.Kind,S a.Hc.Nb,.int .i64 a.oe,.slice uc a.Params.length Ve,.slice Jc a.Body.length bg]) (m24:Bd I Rb d) (j:Ka I g c28 b.Kids) (k:dd I e f [.int .i64 b.Kind,.int .i64 b.N,S b.Name,.slice g b.Kids.length c28]) (h:q c a d b p_3=some r) (l:ka I J w (.ba U 196 [.pointer (some ⟨nb,Lb,none⟩),.pointer (some ⟨Qc,Od,none⟩),Ec]::.row Ec 193 1 d.length (Xb Rb)::(gb Rb++O))),Sb prog 138 [.pointer (some ⟨U,0,none⟩),.pointer (some ⟨e,f,none⟩),.int .i64 p_3] w (fun v w'=>∃ (na:M) (v31:Value),v=.tuple ⟨[v31,.int .i64 r.2]⟩∧ga I na∧ka na J w' (.ba U 196 [.pointer (some ⟨nb,Lb,none⟩),.pointer (some ⟨Qc,Od,none⟩),Ec]::.row Ec 193 1 d.length (Xb Rb)::(gb Rb++O))∧uh na v31 r.1)
def jz (q:Zb→va→(List (List (List UInt8×Ya)))→ua→Option (Ya×Int)):Prop:=∀ {I:M} {J w:World} {O:List Wb} (i:ga Fc I) {U:Nat} {c:Zb} {nb Lb:Nat} {a5:Option Addr} {Tc Ie:Nat} {a:va} {Qc Od:Nat} {uc:Option Addr} {Ve:Nat} {Jc:Option Addr} {bg:Nat} {d:List (List (List UInt8×Ya))} {Ec:Value} {Rb:List (Nat×List MapEntry×Nat)} {b:ua} {e f:Nat} {g:Option Addr} {c28:Nat} {r:Ya×Int} (m7:Ka I a5 Tc c.defs) (m9:rf I Ie c.named) (m10:dd I nb Lb [.slice a5 c.defs.length Tc,.map (some Ie)]) (m16:Ka I uc Ve a.Params) (m19:Ka I Jc bg a.Body) (m20:dd I Qc Od [.int .i64 a.Kind,S a.Name,.int .i64 a.zb.Kind,S a.zb.Nb,.int .i64 a.Hc.Kind,S a.Hc.Nb,.int .i64 a.oe,.slice uc a.Params.length Ve,.slice Jc a.Body.length bg]) (m24:Bd I Rb d) (j:Ka I g c28 b.Kids) (k:dd I e f [.int .i64 b.Kind,.int .i64 b.N,S b.Name,.slice g b.Kids.length c28]) (h:q c a d b=some r) (l:ka I J w (.ba U 196 [.pointer (some ⟨nb,Lb,none⟩),.pointer (some ⟨Qc,Od,none⟩),Ec]::.row Ec 193 1 d.length (Xb Rb)::(gb Rb++O))),Sb prog 137 [.pointer (some ⟨U,0,none⟩),.pointer (some ⟨e,f,none⟩)] w (fun v w'=>∃ (na:M) ,v=.tuple ⟨[.agg ⟨[.int .i64 r.1.Kind,S r.1.Nb]⟩,.int .i64 r.2]⟩∧ga I na∧ka na J w' (.ba U 196 [.pointer (some ⟨nb,Lb,none⟩),.pointer (some ⟨Qc,Od,none⟩),Ec]::.row Ec 193 1 d.length (Xb Rb)::(gb Rb++O)))
def Uy (q:Zb→va→(List (List (List UInt8×Ya)))→ua→Option (Option va×Int)):Prop:=∀ {I:M} {J w:World} {O:List Wb} (i:ga Fc I) {U:Nat} {c:Zb} {nb Lb:Nat} {a5:Option Addr} {Tc Ie:Nat} {a:va} {Qc Od:Nat} {uc:Option Addr} {Ve:Nat} {Jc:Option Addr} {bg:Nat} {d:List (List (List UInt8×Ya))} {Ec:Value} {Rb:List (Nat×List MapEntry×Nat)} {b:ua} {e f:Nat} {g:Option Addr} {c28:Nat} {r:Option va×Int} (m7:Ka I a5 Tc c.defs) (m9:rf I Ie c.named) (m10:dd I nb Lb [.slice a5 c.defs.length Tc,.map (some Ie)]) (m16:Ka I uc Ve a.Params) (m19:Ka I Jc bg a.Body) (m20:dd I Qc Od [.int .i64 a.Kind,S a.Name,.int .i64 a.zb.Kind,S a.zb.Nb,.int .i64 a.Hc.Kind,S a.Hc.Nb,.int .i64 a.oe,.slice uc a.Params.length Ve,.slice Jc a.Body.length bg]) (m24:Bd I Rb d) (j:Ka I g c28 b.Kids) (k:dd I e f [.int .i64 b.Kind,.int .i64 b.N,S b.Name,.slice g b.Kids.length c28]) (h:q c a d b=some r) (l:ka I J w (.ba U 196 [.pointer (some ⟨nb,Lb,none⟩),.pointer (some ⟨Qc,Od,none⟩),Ec]::.row Ec 193 1 d.length (Xb Rb)::(gb Rb++O))),Sb prog 139 [.pointer (some ⟨U,0,none⟩),.pointer (some ⟨e,f,none⟩)] w (fun v w'=>∃ (na:M) (v31:Value),v=.tuple ⟨[v31,.int .i64 r.2]⟩∧ga I na∧ka na J w' (.ba U 196 [.pointer (some ⟨nb,Lb,none⟩),.pointer (some ⟨Qc,Od,none⟩),Ec]::.row Ec 193 1 d.length (Xb Rb)::(gb Rb++O))∧uh na v31 r.1)
def kz (q:Zb→va→(List (List (List UInt8×Ya)))→ua→Option (Ya×Int)):Prop:=∀ {I:M} {J w:World} {O:List Wb} (i:ga Fc I) {U:Nat} {c:Zb} {nb Lb:Nat} {a5:Option Addr} {Tc Ie:Nat} {a:va} {Qc Od:Nat} {uc:Option Addr} {Ve:Nat} {Jc:Option Addr} {bg:Nat} {d:List (List (List UInt8×Ya))} {Ec:Value} {Rb:List (Nat×List MapEntry×Nat)} {b:ua} {e f:Nat} {g:Option Addr} {c28:Nat} {r:Ya×Int} (m7:Ka I a5 Tc c.defs) (m9:rf I Ie c.named) (m10:dd I nb Lb [.slice a5 c.defs.length Tc,.map (some Ie)]) (m16:Ka I uc Ve a.Params) (m19:Ka I Jc bg a.Body) (m20:dd I Qc Od [.int .i64 a.Kind,S a.Name,.int .i64 a.zb.Kind,S a.zb.Nb,.int .i64 a.Hc.Kind,S a.Hc.Nb,.int .i64 a.oe,.slice uc a.Params.length Ve,.slice Jc a.Body.length bg]) (m24:Bd I Rb d) (j:Ka I g c28 b.Kids) (k:dd I e f [.int .i64 b.Kind,.int .i64 b.N,S b.Name,.slice g b.Kids.length c28]) (h:q c a d b=some r) (l:ka I J w (.ba U 196 [.pointer (some ⟨nb,Lb,none⟩),.pointer (some ⟨Qc,Od,none⟩),Ec]::.row Ec 193 1 d.length (Xb Rb)::(gb Rb++O))),Sb prog 128 [.pointer (some ⟨U,0,none⟩),.pointer (some ⟨e,f,none⟩)] w (fun v w'=>∃ (na:M) ,v=.tuple ⟨[.agg ⟨[.int .i64 r.1.Kind,S r.1.Nb]⟩,.int .i64 r.2]⟩∧ga I na∧ka na J w' (.ba U 196 [.pointer (some ⟨nb,Lb,none⟩),.pointer (some ⟨Qc,Od,none⟩),Ec]::.row Ec 193 1 d.length (Xb Rb)::(gb Rb++O)))
structure vr (a:Jj):Prop where
  Ng:Zy a.Ng
  dk:iz a.dk
  Vk:jz a.Vk
  ak:Uy a.ak
  Gh:kz a.Gh
theorem SC {self:Jj} (l:vr self):Zy (Ng self):=by
 intro I J w O g U G nb Lb a5 Tc Ie H Qc Od uc Ve Jc bg e Ec Rb K L N P c28 p_3 r m7 m9 m10 m16 m19 m20 m24 n q h b
 unfold Ng at h
 refine enter func130 rfl (frm:=_::_::_::Cf (Xe [])) rfl (ea ?_)
 refine wl (Ji (aa d2) rfl b ?_); clear b; intro Q S T b; refine fa ?_
 refine st (rb ?_)
 iterate 2 refine st ?_
 obtain ⟨d,u,h⟩:=ha h
 replace b:=(b.da Eb).da Eb
 replace b:=Sep.Ld (a:=[_,_]) (p:=[_]) (M:=gb Rb) (R:=O) b
 refine Aa (l.Gh g m7 m9 m10 m16 m19 m20 m24 n q u b) ?_
 rintro _ V ⟨v,rfl,j,b⟩
 replace b:=Sep.Ld (a:=[_,_]) (p:=gb Rb) (M:=[_]) (R:=O) b
 refine fa ?_
 iterate 3 refine st ?_
 refine wl (bd Mb b ?_); clear b; intro W X Y b; refine fa ?_
 refine wl (yb Mb (aa d7) (aa (wa d3)) rfl rfl b d0 rfl Ga Ma ?_)
 clear b; intro Z b
 refine st (ob (db ?_))
 refine Ub (rg 15 7) (by decide) (fun m w=>∃ c f,m=(yd (ng (Nj 15 (.i (.bool f)::[]))))∧ct d f=some r∧ga v c∧ka c J w (.ba U 196 [.pointer (some ⟨nb,Lb,none⟩),.pointer (some ⟨Qc,Od,none⟩),Ec]::.row Ec 193 1 e.length (Xb Rb)::(gb Rb++O))) (by rintro _ _ ⟨_,_,rfl,_⟩; rfl) ?_ ?_
 refine Td b ?_; clear b; intro gc b
 refine Pd (la 0 [0,1,2,3,4,5,6,7] rfl (la 1 [1,2,3,4,5,6,7] rfl (la 2 [2,3,4,5,6,7] rfl ?_)))
 refine hJ 17 h ?_ ?_
 intro x h
 refine yy 3 [3,6,7] rfl rfl (wa d7) (Re Mb (aa d7) (b.ba d0).cells rfl) (Jb Yd) (yy 4 [4,5,6,7] rfl rfl (wa d7) (Re Mb (aa d5) (b.ba d3).cells rfl) (Jb Ed) ?_)
 obtain ⟨k,y,h⟩:=ha h
 refine Kb rfl rfl rfl rfl (Dx rfl rfl (wa d7)) (td Uv nd (sa (aa (wa d9)) hb) (dr (g.t j) y b) ?_)
 rintro _ lc ⟨rc,rfl,A,b⟩
 refine fa ?_
 refine ⟨(Oa.s (Re Mb (aa d7) (b.ba d0).cells rfl) Oa.z),?_⟩
 refine Ns 6 [6,7] rfl rfl (wa d7) (sw (dn.mk underlying57 qC pC) (aa (wa d8)) (aa (Sa d0)) (nh.o rfl rfl rfl Uc d0 d0 (eq_int underlying3) (nh.o rfl rfl rfl Hb d1 d1 (AB underlying9) nh.z)) rfl) (oc kb) (la 7 [7] rfl (Hd (za ?_)))
 replace b:=(b.drop ia.z).drop (ia.s (ia.s ia.z))
 exact ⟨_,_,rfl,(xb (ie (Cg (Na ta)))),_,(!(Mi [(decide (d.1.Kind=k.Kind)),(decide (d.1.Nb=k.Nb))])),rfl,h,A,b⟩
 intro x h
 refine Wn 3 [3,6,7] rfl rfl (wa d7) rfl (Jb Yd) (Wn 4 [4,5,6,7] rfl rfl (wa d7) rfl (Jb Ed) (Wn 5 [5,6,7] rfl rfl (wa d7) rfl (oc Ga) (Wn 6 [6,7] rfl rfl (wa d7) rfl (oc kb) (la 7 [7] rfl (Hd (za ?_))))))
 replace b:=(b.drop ia.z).drop (ia.s (ia.s ia.z))
 exact ⟨_,_,rfl,(xb (ie (Cg (Na ta)))),_,false,rfl,h,ga.r,b⟩
 rintro _ t fd ⟨B,f,rfl,h,C,b⟩
 unfold ct at h
 refine Vb (Dd (Ag (Ik (kc pb)))) (ra ?_)
 refine Ub ([]) (by decide) (fun m w=>∃ c i44,m=(Kh (.i (.int .i64 i44)::[]))∧Ou i44=some r∧ga B c∧ka c J w (.ba U 196 [.pointer (some ⟨nb,Lb,none⟩),.pointer (some ⟨Qc,Od,none⟩),Ec]::.row Ec 193 1 e.length (Xb Rb)::(gb Rb++O))) (by rintro _ _ ⟨_,_,rfl,_⟩; rfl) ?_ ?_
 refine ed h ?_ ?_
 intro D h
 refine eb (st (La (za ?_)))
 exact ⟨_,_,rfl,(lf (Na ta)),_,9,rfl,h,ga.r,b⟩
 intro D h
 refine Va (za ?_)
 exact ⟨_,_,rfl,(lf (Na ta)),_,d.2,rfl,h,ga.r,b⟩
 rintro _ t Mf ⟨E,i44,rfl,h,F,b⟩
 unfold Ou at h
 refine Vb (fi (kc pb)) (ra (ea ?_))
 iterate 2 refine st ?_
 refine ja (Ra ?_)
 obtain rfl:=Ea h
 refine Ob rfl d6 ?_
 replace b:ka E J _ (.ba U 196 [.pointer (some ⟨nb,Lb,none⟩),.pointer (some ⟨Qc,Od,none⟩),Ec]::.row Ec 193 1 e.length (Xb Rb)::(gb Rb++O)):=b
 exact ⟨_,rfl,(j.t (C.t F)),b⟩
theorem mD {self:Jj} (E:vr self):iz (dk self):=by
 intro I J w O v U x nb Lb a5 Tc Ie y Qc Od uc Ve Jc bg f Ec Rb j be ce ge c28 p_3 r m7 m9 m10 m16 m19 m20 m24 F k h b
 unfold dk at h
 refine enter func138 rfl (frm:=_::_::_::Cf (zd (Wf (Ze [])))) rfl (ea ?_)
 iterate 2 refine st ?_
 refine ob ?_
 refine Td b ?_; clear b; intro he b
 refine Pd (la 0 [0,1,2,3,9,10,11,12,13,14] rfl (la 1 [1,2,3,9,10,11,12,13,14] rfl (la 2 [2,3,9,10,11,12,13,14] rfl (Fb 3 [3,9,10,11,12,13,14] rfl (jb gu (aa (wa d6)) ((b.ba d0).cell d0)) (Jb sd) (la 4 [4,9,10,11,12,13,14] rfl (la 5 [5,6,7,8,9,10,11,12,13,14] rfl (la 6 [6,7,8,9,10,11,12,13,14] rfl (la 7 [7,8,9,10,11,12,13,14] rfl (Fb 8 [8,9,10,11,12,13,14] rfl (jb Hb (aa (Sa d1)) ((k _ b.a).one d2)) (oc Ib) ?_)))))))))
 obtain ⟨A,G,h⟩:=ha h
 refine Kb rfl rfl rfl rfl (Gb rfl) (td Sx nd (sa (aa (wa d7)) (sa (aa (wa d8)) (sa (aa (Sa d2)) hb))) (ev v m7 m9 m10 G b) ?_)
 rintro _ le ⟨B,ne,rfl,c,b,l⟩
 refine fa ?_
 refine ⟨Oa.z,?_⟩
 refine la 10 [10,11,12,13,14] rfl (la 11 [11,13,14] rfl (la 12 [12,14] rfl (la 13 [13,14] rfl (la 14 [14] rfl (Hd (ra (db (Qb (ea ?_)))))))))
 iterate 3 refine st ?_
 refine ja ?_
 refine pj h ?_ ?_
 intro H h
 refine ea ?_
 iterate 2 refine st ?_
 refine ja (Ra ?_)
 refine (fun h=>Ab (Fa h)) ?_
 obtain rfl:=Ea h
 refine jl rfl d6 d7 ?_
 replace b:ka B J _ (.ba U 196 [.pointer (some ⟨nb,Lb,none⟩),.pointer (some ⟨Qc,Od,none⟩),Ec]::.row Ec 193 1 f.length (Xb Rb)::(gb Rb++O)):=b
 exact ⟨_,(.pointer none),rfl,c,b,rfl⟩
 intro H h
 refine db ?_
 refine Ub (rg 30 11) (by decide) (fun m w=>∃ g q,m=(qc (mi (.i (.bool q)::(Rc 30 (Sc 40 [])))))∧et self j x y f A q=some r∧ga B g∧ka g J w (.ba U 196 [.pointer (some ⟨nb,Lb,none⟩),.pointer (some ⟨Qc,Od,none⟩),Ec]::.row Ec 193 1 f.length (Xb Rb)::(gb Rb++O))) (by rintro _ _ ⟨_,_,rfl,_⟩; rfl) ?_ ?_
 refine Td b ?_; clear b; intro Ne b
 refine Pd (la 0 [0,1,2,3,4,10,11] rfl ?_)
 obtain ⟨K,L,h⟩:=ha h
 obtain ⟨of,wf,If,rfl,f55,N⟩:=uh.get l L
 obtain ⟨dg,bi,ci,ii,rfl,li,pi⟩:=N
 refine la 1 [1,2,3,4,10,11] rfl (la 2 [2,3,4,10,11] rfl (Fb 3 [3,4,10,11] rfl (jb Fp (aa (ib d2)) ((f55 _ b.a).one d7)) (qd ec) (ze 4 [4,10,11] rfl (Qd underlying58 (aa (ib d3))) (qd hd) (la 5 [5,6,7,8,9,10,11] rfl (la 6 [6,7,8,9,10,11] rfl (la 7 [7,8,9,10,11] rfl (Fb 8 [8,9,10,11] rfl (jb Xh (aa (ib d7)) ((k _ (c _ b.a)).one d3)) (qd Yd) (ze 9 [9,10,11] rfl (Qd underlying122 (aa (ib d8))) (qd Ed) (la 10 [10,11] rfl (la 11 [11] rfl (Hd (za ?_))))))))))))
 exact ⟨_,_,rfl,(Xa (yf (Na (qb (lb ta))))),_,(decide ((K.Params.length:Int)≠(j.Kids.length:Int))),rfl,h,ga.r,b⟩
 rintro _ t Pi ⟨C,q,rfl,h,d,b⟩
 unfold et at h
 refine Vb (vc (Qi (kc (Wc (Xc pb))))) (ra ?_)
 refine ed h ?_ ?_
 intro P h
 refine ea ?_
 iterate 2 refine st ?_
 refine ja (Ra ?_)
 refine (fun h=>Ab (Fa h)) ?_
 obtain rfl:=Ea h
 refine jl rfl d6 d7 ?_
 replace b:ka C J _ (.ba U 196 [.pointer (some ⟨nb,Lb,none⟩),.pointer (some ⟨Qc,Od,none⟩),Ec]::.row Ec 193 1 f.length (Xb Rb)::(gb Rb++O)):=b
 exact ⟨_,(.pointer none),rfl,(c.t d),b,rfl⟩
 intro P h
 refine Va ?_
 refine (fun h=>Pb (ra h)) ?_
 refine db (ea (st ?_))
 obtain ⟨Q,S,h⟩:=ha h
 obtain ⟨T,V,kk,rfl,f70,W⟩:=uh.get (l.up d) S
 obtain ⟨a72,mk,a75,c76,rfl,X,ok⟩:=W
 iterate 2 refine st ?_
 refine Ha ((f70 _ b.a).one d7) (wl (Ja (Qd underlying58 (aa (Bb d4))) (ma (Xd cd)) (st (ja (Qb ?_)))))
 refine Se (rg 6 2++rg 10 3++rg 47 18) (by decide +kernel) (fun n m w=>∃ g i104,m=(Og (xf 6 (vf (Yg 10 (qc (yd (kg (.i (.int .i64 i104)::(Rc 47 (ei 57 []))))))))))∧Wo self j x y f A Q n i104=some r∧ga C g∧ka g J w (.ba U 196 [.pointer (some ⟨nb,Lb,none⟩),.pointer (some ⟨Qc,Od,none⟩),Ec]::.row Ec 193 1 f.length (Xb Rb)::(gb Rb++O))) (by rintro _ _ _ ⟨_,_,rfl,_⟩; rfl) _ _ (ye (Zc (Yc (ue (Xa (xb (Md (Na (qb (ag ta)))))))))) ⟨_,0,rfl,h,ga.r,b⟩ ?_
 rintro u _ t dl ⟨Y,i104,rfl,h,e,b⟩
 rcases u with _|u
 cases h
 unfold Wo at h
 refine Te (Zg (Kf (Jf (qh (vc (Dd (sg (kc (Wc (xi pb)))))))))) (ea (st (ob ?_)))
 refine Za h ?_ ?_
 intro Z h
 refine Va (ra (db (Qb (ea (st ?_)))))
 obtain ⟨el,gc,h⟩:=ha h
 obtain ⟨nl,ol,pl,lc,f139,rc⟩:=Pc.elem (X.up e) gc
 obtain rfl:=rc
 refine wl (Ja (Mc underlying58 yh (aa (Bb d4)) (aa (Bb d6)) lc) (ma (Xd Ed)) (Ae (f139 _ b.a) rfl ?_))
 refine wl (bd yh b ?_); clear b; intro ul am em b; refine fa ?_
 refine st (wl (yb yh (aa (wa d1)) (aa (sb d0)) rfl rfl b d0 rfl Ga Ma ?_))
 clear b; intro hm b
 refine ob ?_
 refine Td b ?_; clear b; intro Mf b
 refine Pd (la 0 [0,9,10] rfl (la 1 [1,2,3,4,6,9,10] rfl (la 2 [2,3,4,6,9,10] rfl (la 3 [3,4,6,9,10] rfl (Fb 4 [4,6,9,10] rfl (jb Xh (aa (sb d4)) ((k _ ((c.t (d.t e)) _ b.a)).one d3)) (ee cd) (la 5 [5,6,9,10] rfl ?_))))))
 obtain ⟨lm,fd,h⟩:=ha h
 obtain ⟨pm,sm,Nm,id,f149,md⟩:=Pc.elem (F.up (c.t (d.t e))) fd
 obtain ⟨fn,c152,rfl,rd⟩:=ua.o md
 refine ze 6 [6,9,10] rfl (Mc underlying122 pc (aa (sb d5)) (aa (sb d6)) id) (ee sd) (la 7 [7,8,9,10] rfl (Fb 8 [8,9,10] rfl (Re Mb (aa (sb d8)) ((b.ba d0).Xk (ve.s d1 (ve.s d2 ve.z))) rfl) (ee Ed) ?_))
 obtain ⟨on,wd,h⟩:=ha h
 replace b:=(b.da Eb).da Eb
 replace b:=Sep.Ld (a:=[_,_]) (p:=[_]) (M:=gb Rb) (R:=O) b
 refine Kb rfl rfl rfl rfl (Gb rfl) (td Gn nd (sa (aa (sb d1)) (sa (aa (sb d7)) (sa (aa (sb d9)) hb))) (E.Ng (v.t (c.t (d.t e))) (m7.up (c.t (d.t e))) (m9.up (c.t (d.t e))) (m10.up (c.t (d.t e))) (m16.up (c.t (d.t e))) (m19.up (c.t (d.t e))) (m20.up (c.t (d.t e))) (m24.up (c.t (d.t e))) rd f149 wd b) ?_)
 rintro _ un ⟨wn,rfl,D,b⟩
 replace b:=Sep.Ld (a:=[_,_]) (p:=gb Rb) (M:=[_]) (R:=O) b
 refine fa ?_
 refine ⟨Oa.z,?_⟩
 refine la 10 [10] rfl (Hd (ra (ea ?_)))
 iterate 2 refine st ?_
 refine ja ?_
 refine Za h ?_ ?_
 intro Fd h
 refine ea ?_
 iterate 3 refine st ?_
 refine ja (Ra ?_)
 refine (fun h=>Ab (Fa (Fa (Ab (Fa h))))) ?_
 obtain rfl:=Ea h
 refine jl rfl d6 d7 ?_
 replace b:=b.drop (ia.s (ia.s ia.z))
 exact ⟨_,(.pointer none),rfl,(c.t (d.t (e.t D))),b,rfl⟩
 intro Fd h
 refine Va ?_
 refine (fun h=>Pb (ra h)) ?_
 refine eb ?_
 obtain ⟨i158,Id,h⟩:=ha h
 refine wl (Ja (Gd (aa (Bb d6)) Ba Id) (ma (zg hd)) (st (La (za ?_))))
 replace b:=b.drop (ia.s (ia.s ia.z))
 exact ⟨u,_,_,rfl,(ye (Zc (Yc (ue (Xa (xb (Md (Na (qb (ag ta)))))))))),⟨_,i158,rfl,h,(e.t D),b⟩,Nat.lt_succ_self _⟩
 intro Z h
 refine ke ?_
 refine (fun h=>jc (jc (pe h))) ?_
 refine ra (ea ?_)
 iterate 3 refine st ?_
 refine ja (Ra ?_)
 obtain rfl:=Ea h
 refine jl rfl d6 d7 ?_
 replace b:ka Y J _ (.ba U 196 [.pointer (some ⟨nb,Lb,none⟩),.pointer (some ⟨Qc,Od,none⟩),Ec]::.row Ec 193 1 f.length (Xb Rb)::(gb Rb++O)):=b
 exact ⟨_,(.pointer (some ⟨T,V,none⟩)),rfl,(c.t (d.t e)),b,(l.up (d.t e))⟩
theorem nD {self:Jj} (j:vr self):jz (Vk self):=by
 intro I J w O f U lc nb Lb a5 Tc Ie rc Qc Od uc Ve Jc bg k Ec Rb fd id md rd c28 r m7 m9 m10 m16 m19 m20 m24 l n h b
 unfold Vk at h
 refine enter func137 rfl (frm:=_::_::Ge (Xe (Xe []))) rfl (ea ?_)
 refine wl (bd Mb b ?_); clear b; intro q wd Fd b; refine fa ?_
 refine st (rb ?_)
 iterate 4 refine st ?_
 refine Ha ((n _ b.a).one d3) ?_
 obtain ⟨Id,y,h⟩:=ha h
 obtain ⟨be,ce,ge,A,f39,B⟩:=Pc.elem l y
 obtain ⟨he,le,rfl,C⟩:=ua.o B
 refine wl (Ja (Mc underlying122 pc (aa (wa d4)) Ba A) (ma (Jb cd)) ?_)
 obtain ⟨d,D,h⟩:=ha h
 replace b:=(b.da Eb).da Eb
 replace b:=Sep.Ld (a:=[_,_]) (p:=[_]) (M:=gb Rb) (R:=O) b
 refine Aa (j.Gh f m7 m9 m10 m16 m19 m20 m24 C f39 D b) ?_
 rintro _ ne ⟨Ne,rfl,c,b⟩
 replace b:=Sep.Ld (a:=[_,_]) (p:=gb Rb) (M:=[_]) (R:=O) b
 refine fa ?_
 iterate 3 refine st ?_
 refine wl (bd Mb b ?_); clear b; intro u of wf b; refine fa ?_
 refine wl (yb Mb (aa d6) (aa (wa d7)) rfl rfl b d0 rfl Ga Ma ?_)
 clear b; intro If b
 refine st (ob (ea ?_))
 iterate 2 refine st ?_
 refine ja ?_
 refine Za h ?_ ?_
 intro E h
 refine ea (Ae (b.ba d0).cells rfl (st (wl (yb Mb (aa d4) (aa (Sa d1)) rfl rfl b d3 rfl ec Ma ?_))))
 clear b; intro dg b
 refine st (ja (Ra (Fa ?_)))
 obtain rfl:=Ea h
 refine Ad rfl (Qa.s (.a d4 Mb (b.ba d3).cells rfl) (Qa.s (.t d5) Qa.z)) ?_
 replace b:=(b.drop ia.z).drop (ia.s (ia.s ia.z))
 exact ⟨_,rfl,c,b⟩
 intro E h
 refine Va (ra (ea ?_))
 iterate 4 refine st ?_
 refine Ha ((n _ (c _ b.a)).one d3) ?_
 obtain ⟨bi,F,h⟩:=ha h
 obtain ⟨ci,ii,li,G,f56,H⟩:=Pc.elem (l.up c) F
 obtain ⟨pi,c59,rfl,K⟩:=ua.o H
 refine wl (Ja (Mc underlying122 pc (aa (Sa d8)) Ba G) (ma (oc Ed)) ?_)
 obtain ⟨v,L,h⟩:=ha h
 replace b:=(b.da Eb).da Eb
 replace b:=Sep.Ld (a:=[_,_]) (p:=[_,_]) (M:=gb Rb) (R:=O) b
 refine Aa (j.Gh (f.t c) (m7.up c) (m9.up c) (m10.up c) (m16.up c) (m19.up c) (m20.up c) (m24.up c) K f56 L b) ?_
 rintro _ Pi ⟨N,rfl,x,b⟩
 replace b:=Sep.Ld (a:=[_,_]) (p:=gb Rb) (M:=[_,_]) (R:=O) b
 refine fa ?_
 iterate 3 refine st ?_
 refine wl (bd Mb b ?_); clear b; intro kk ok dl b; refine fa ?_
 refine wl (yb Mb (aa d8) (aa (ib d1)) rfl rfl b d0 rfl Ga Ma ?_)
 clear b; intro Mf b
 refine st (ob (db ?_))
 refine Ub (rg 33 11) (by decide) (fun m w=>∃ e g,m=(qc (yd (kg (Rc 33 (Sc 43 (.i (.bool g)::[]))))))∧Xo d v g=some r∧ga N e∧ka e J w (.ba U 196 [.pointer (some ⟨nb,Lb,none⟩),.pointer (some ⟨Qc,Od,none⟩),Ec]::.row Ec 193 1 k.length (Xb Rb)::.ba q 57 [.int .i64 0,S []]::.ba u 57 [.int .i64 d.1.Kind,S d.1.Nb]::(gb Rb++O))) (by rintro _ _ ⟨_,_,rfl,_⟩; rfl) ?_ ?_
 refine eb ?_
 iterate 3 refine st ?_
 refine me 35 h ?_ ?_
 intro P h
 refine mc rfl (ib d5) (Dn Mb (aa d6) (b.ba d3).cells rfl (ma (qd ad)) (mc rfl (ib d5) (Dn Mb (aa d8) (b.ba d0).cells rfl (ma (qd sd)) (mc rfl (ib d5) (NH (dn.mk underlying57 qC pC) (aa (ib d6)) (aa (ib d7)) (nh.o rfl rfl rfl Uc d0 d0 (eq_int underlying3) (nh.o rfl rfl rfl Hb d1 d1 (AB underlying9) nh.z)) rfl (ma (qd Yd)) (Ta rfl ?_))))))
 refine Gw 39 h ?_ ?_
 intro Q h
 refine oa rfl rfl (oa rfl rfl (oa rfl rfl (Ta rfl (st (La (za ?_))))))
 replace b:=((((b.drop ia.z).da Eb).da bb).da bb).da bb
 exact ⟨_,_,rfl,(Xa (xb (Md (qb (lb (Na ta)))))),_,true,rfl,h,ga.r,b⟩
 intro Q h
 refine mc rfl (ib d9) (Dn Mb (aa d6) (b.ba d3).cells rfl (ma (Xd Ga)) ?_)
 obtain ⟨T,V,h⟩:=ha h
 refine mc rfl (ib d9) (td Mt nd (sa (aa (Bb d0)) hb) (ep (f.t (c.t x)) V b) ?_)
 rintro _ el ⟨nl,rfl,W,b⟩
 refine fa (Ta rfl (Ta rfl (st (La (za ?_)))))
 replace b:=((((b.drop ia.z).da Eb).da bb).da bb).da bb
 exact ⟨_,_,rfl,(Xa (xb (Md (qb (lb (Na ta)))))),_,(!T),rfl,h,W,b⟩
 intro P h
 refine oa rfl rfl (oa rfl rfl (oa rfl rfl (oa rfl rfl (tl rfl (ib d9) (ma (Xd Ga)) (tl rfl (ib d9) (ma (Xd kb)) (tl rfl (ib d9) (ma (Xd Ib)) (oa rfl rfl (st (La (za ?_))))))))))
 replace b:=((((b.drop ia.z).da Eb).da bb).da bb).da bb
 exact ⟨_,_,rfl,(Xa (xb (Md (qb (lb (Na ta)))))),_,false,rfl,h,ga.r,b⟩
 rintro _ t ol ⟨X,g,rfl,h,Y,b⟩
 unfold Xo at h
 refine Vb (vc (Dd (sg (Wc (Xc (kc pb)))))) (ra ?_)
 refine Ub ([]) (by decide) (fun m w=>∃ e i73,m=(rh (.i (.int .i64 i73)::[]))∧Tu d i73=some r∧ga X e∧ka e J w (.ba U 196 [.pointer (some ⟨nb,Lb,none⟩),.pointer (some ⟨Qc,Od,none⟩),Ec]::.row Ec 193 1 k.length (Xb Rb)::.ba q 57 [.int .i64 0,S []]::.ba u 57 [.int .i64 d.1.Kind,S d.1.Nb]::(gb Rb++O))) (by rintro _ _ ⟨_,_,rfl,_⟩; rfl) ?_ ?_
 refine ed h ?_ ?_
 intro Z h
 refine eb (st (La (za ?_)))
 exact ⟨_,_,rfl,(cf (Na ta)),_,9,rfl,h,ga.r,b⟩
 intro Z h
 refine Va (za ?_)
 exact ⟨_,_,rfl,(cf (Na ta)),_,v.2,rfl,h,ga.r,b⟩
 rintro _ t pl ⟨ul,i73,rfl,h,gc,b⟩
 unfold Tu at h
 refine Vb (Jh (kc pb)) (ra (ea (Ae (b.ba d3).cells rfl (st (wl (yb Mb (aa d4) (aa (Bb d5)) rfl rfl b d2 rfl Ib Ma ?_))))))
 clear b; intro am b
 refine st (ja (Ra ?_))
 obtain rfl:=Ea h
 refine Ad rfl (Qa.s (.a d4 Mb (b.ba d2).cells rfl) (Qa.s (.t d5) Qa.z)) ?_
 replace b:=(b.drop (ia.s (ia.s ia.z))).drop (ia.s (ia.s ia.z))
 exact ⟨_,rfl,(c.t (x.t (Y.t gc))),b⟩
theorem IC {self:Jj} (f:vr self):Uy (ak self):=by
 intro I J w O e U u nb Lb a5 Tc Ie v Qc Od uc Ve Jc bg x Ec Rb y A B C c28 r m7 m9 m10 m16 m19 m20 m24 g i h b
 unfold ak at h
 refine enter func139 rfl (frm:=_::_::zd (Ge (Xe []))) rfl (ea ?_)
 iterate 2 refine st ?_
 refine rb ?_
 iterate 2 refine st ?_
 obtain ⟨j,l,h⟩:=ha h
 replace b:=(b.da Da).da Da
 refine Aa (f.Gh e m7 m9 m10 m16 m19 m20 m24 g i l b) ?_
 rintro _ D ⟨E,rfl,c,b⟩
 refine fa ?_
 iterate 3 refine st ?_
 refine wl (bd Mb b ?_); clear b; intro F G H b; refine fa ?_
 refine wl (yb Mb (aa d6) (aa (wa d2)) rfl rfl b d0 rfl Ga Ma ?_)
 clear b; intro K b
 refine st (ob (ea ?_))
 iterate 2 refine st ?_
 refine ja ?_
 refine Za h ?_ ?_
 intro m h
 refine ea ?_
 iterate 3 refine st ?_
 refine ja (Ra (Fa ?_))
 obtain rfl:=Ea h
 refine jl rfl d4 d5 ?_
 replace b:=b.drop ia.z
 exact ⟨_,(.pointer none),rfl,c,b,rfl⟩
 intro m h
 refine Va (ra (db (ea (Ae (b.ba d0).cells rfl ?_))))
 obtain ⟨L,n,h⟩:=ha h
 refine Aa (ep (e.t c) n b) ?_
 rintro _ M ⟨N,rfl,d,b⟩
 refine fa (ja ?_)
 refine ed h ?_ ?_
 intro o h
 refine ea ?_
 iterate 2 refine st ?_
 refine ja (Ra (Fa ?_))
 obtain rfl:=Ea h
 refine jl rfl d4 d5 ?_
 replace b:=b.drop ia.z
 exact ⟨_,(.pointer none),rfl,(c.t d),b,rfl⟩
 intro o h
 refine Va (ra (db ?_))
 refine Td b ?_; clear b; intro P b
 refine Pd (la 0 [0,1,2,3,4,5,6,9,10,11] rfl (la 1 [1,2,3,4,5,6,9,10,11] rfl (la 2 [2,3,4,5,6,9,10,11] rfl (Fb 3 [3,4,5,6,9,10,11] rfl (jb gu (aa (Sa d1)) ((b.ba d1).cell d0)) (oc Ib) (la 4 [4,5,6,9,10,11] rfl (la 5 [5,6,9,10,11] rfl (Fb 6 [6,9,10,11] rfl (jb No (aa (Sa d4)) ((m10 _ ((c.t d) _ b.a)).one d1)) (oc cd) (la 7 [7,8,9,10,11] rfl (Fb 8 [8,9,10,11] rfl (jb Hb (aa (Sa d6)) ((b.ba d0).cell d1)) (oc sd) ?_)))))))))
 obtain ⟨Q,R,p,q⟩:=(m9.up (c.t d))
 refine Kb rfl rfl rfl rfl (Gb rfl) (zt (κ:=List UInt8) (k:=j.1.Nb) (hrv:=fun _ _ h=>h) underlying76 underlying9 (aa (Sa d5)) (aa (Sa d7)) vq (p _ b.a) q ?_); intro S s; refine fa ?_
 refine ⟨Oa.z,?_⟩
 refine la 10 [10,11] rfl (la 11 [11] rfl (Hd (ra (Ra ?_))))
 obtain rfl:=Ea h
 refine jl rfl d4 d5 ?_
 replace b:=b.drop ia.z
 exact ⟨_,_,rfl,(c.t d),b,s⟩
theorem oD {fu:Nat} {self:Jj} (C:vr self):kz (Gh fu self):=by
 intro I J w O d U V nb Lb a5 Tc Ie W Qc Od uc Ve Jc bg D Ec Rb K vM wM xM c28 r m7 m9 m10 m16 m19 m20 m24 E e h b
 unfold Gh at h
 refine enter func128 rfl (frm:=_::_::Cf (Ze (Ze (Ze (Ze (Ze [])))))) rfl (ea ?_)
 refine wl (bd Mb b ?_); clear b; intro F yM zM b; refine fa ?_
 refine st (ob (ea ?_))
 iterate 3 refine st ?_
 refine Ha ((e _ b.a).one d0) (ja (Qb (ea ?_)))
 iterate 2 refine st ?_
 refine ja ?_
 refine Za h ?_ ?_
 intro dg h
 refine ea ?_
 obtain ⟨AM,bi,h⟩:=ha h
 refine Aa (tn d bi b) ?_
 rintro _ BM ⟨CM,rfl,ci,b⟩
 refine fa (wl (yb Mb (aa d4) (aa (ib d0)) rfl rfl b d0 rfl Ga Ma ?_))
 clear b; intro DM b
 refine st (ja (Ra ?_))
 refine (fun h=>Ab (Fa h)) ?_
 obtain rfl:=Ea h
 refine Ad rfl (Qa.s (.a d4 Mb (b.ba d0).cells rfl) (Qa.s (.t d5) Qa.z)) ?_
 replace b:=b.drop ia.z
 exact ⟨_,rfl,ci,b⟩
 intro dg h
 refine ea ?_
 iterate 2 refine st ?_
 refine ja ?_
 refine Za h ?_ ?_
 intro ii h
 refine ea ?_
 obtain ⟨EM,li,h⟩:=ha h
 refine Aa (ko d li b) ?_
 rintro _ FM ⟨GM,rfl,pi,b⟩
 refine fa (wl (yb Mb (aa d4) (aa (ib d3)) rfl rfl b d0 rfl Ga Ma ?_))
 clear b; intro HM b
 refine st (ja (Ra ?_))
 refine (fun h=>Ab (Fa h)) ?_
 obtain rfl:=Ea h
 refine Ad rfl (Qa.s (.a d4 Mb (b.ba d0).cells rfl) (Qa.s (.t d5) Qa.z)) ?_
 replace b:=b.drop ia.z
 exact ⟨_,rfl,pi,b⟩
 intro ii h
 refine ea ?_
 iterate 2 refine st ?_
 refine ja ?_
 refine Za h ?_ ?_
 intro Pi h
 refine db (ea ?_)
 iterate 4 refine st ?_
 refine Ha ((e _ b.a).one d2) ?_
 obtain ⟨IM,kk,h⟩:=ha h
 replace b:=(b.da Eb).da Eb
 replace b:=Sep.Ld (a:=[_,_]) (p:=[_]) (M:=gb Rb) (R:=O) b
 refine Aa (Yw d m7 m9 m10 m16 m19 m20 m24 kk b) ?_
 rintro _ JM ⟨KM,rfl,X,b⟩
 replace b:=Sep.Ld (a:=[_,_]) (p:=gb Rb) (M:=[_]) (R:=O) b
 refine fa ?_
 iterate 3 refine st ?_
 refine wl (bd Mb b ?_); clear b; intro LM MM NM b; refine fa ?_
 refine wl (yb Mb (aa d6) (aa (Bb d3)) rfl rfl b d0 rfl Ga Ma ?_)
 clear b; intro Mf b
 refine st (rb (st (ja ?_)))
 refine ed h ?_ ?_
 intro ok h
 refine ea (Ae (b.ba d0).cells rfl (wl (yb Mb (aa d4) (aa (Bb d6)) rfl rfl b d3 rfl ec Ma ?_)))
 clear b; intro OM b
 refine st (ja (Ra ?_))
 refine (fun h=>Fa (Ab (Fa h))) ?_
 obtain rfl:=Ea h
 refine Ad rfl (Qa.s (.a d4 Mb (b.ba d3).cells rfl) (Qa.s (.t d5) Qa.z)) ?_
 replace b:=(b.drop ia.z).drop (ia.s (ia.s ia.z))
 exact ⟨_,rfl,X,b⟩
 intro ok h
 refine Va (ra (ea ?_))
 obtain ⟨PM,dl,h⟩:=ha h
 refine Aa (tn (d.t X) dl b) ?_
 rintro _ QM ⟨RM,rfl,el,b⟩
 refine fa (wl (yb Mb (aa d4) (aa (Bb d7)) rfl rfl b d3 rfl ec Ma ?_))
 clear b; intro SM b
 refine st (ja (Ra ?_))
 refine (fun h=>Ab (Fa h)) ?_
 obtain rfl:=Ea h
 refine Ad rfl (Qa.s (.a d4 Mb (b.ba d3).cells rfl) (Qa.s (.t d5) Qa.z)) ?_
 replace b:=(b.drop ia.z).drop (ia.s (ia.s ia.z))
 exact ⟨_,rfl,(X.t el),b⟩
 intro Pi h
 refine ea ?_
 iterate 2 refine st ?_
 refine ja ?_
 refine Za h ?_ ?_
 intro nl h
 refine db ?_
 refine Ub (rg 50 9) (by decide) (fun m w=>∃ f i52 i53 Y,m=(ng (.i (.int .i64 i52)::(qc (qc (tf (Rl 50 []))))))∧Pw i52 i53 Y=some r∧ga I f∧ka f J w (.ba U 196 [.pointer (some ⟨nb,Lb,none⟩),.pointer (some ⟨Qc,Od,none⟩),Ec]::.row Ec 193 1 D.length (Xb Rb)::.ba F 57 [.int .i64 i53,S Y]::(gb Rb++O))) (by rintro _ _ ⟨_,_,_,_,rfl,_⟩; rfl) ?_ ?_
 refine Td b ?_; clear b; intro TM b
 refine Pd (la 1 [1,8,9,10] rfl (la 2 [2,3,4,5,6,8,9,10] rfl (la 3 [3,4,5,6,8,9,10] rfl (la 4 [4,5,6,8,9,10] rfl (Fb 5 [5,6,8,9,10] rfl (jb Xh (aa (sb d4)) ((e _ b.a).one d3)) (ee cd) ?_)))))
 obtain ⟨UM,ol,h⟩:=ha h
 obtain ⟨VM,WM,XM,pl,f61,ul⟩:=Pc.elem E ol
 obtain ⟨YM,ZM,rfl,am⟩:=ua.o ul
 refine ze 6 [6,8,9,10] rfl (Mc underlying122 pc (aa (sb d5)) Ba pl) (ee ad) ?_
 obtain ⟨md,em,h⟩:=ha h
 refine Kb rfl rfl rfl rfl (Gb rfl) (td jB nd hb (tn d em b) ?_)
 rintro _ aN ⟨bN,rfl,l,b⟩
 refine fa ?_
 refine ⟨(Oa.s (jb Xh (aa (sb d4)) ((e _ (l _ b.a)).one d3)) Oa.z),?_⟩
 obtain ⟨cN,hm,h⟩:=ha h
 refine Kb rfl rfl rfl rfl (Gb rfl) (td jB nd hb (tn (d.t l) hm b) ?_)
 rintro _ dN ⟨eN,rfl,A,b⟩
 refine fa ?_
 refine ⟨(Oa.s (jb Xh (aa (sb d4)) ((e _ ((l.t A) _ b.a)).one d3)) Oa.z),?_⟩
 obtain ⟨fN,lm,h⟩:=ha h
 replace b:=(b.da Eb).da Eb
 replace b:=Sep.Ld (a:=[_,_]) (p:=[_]) (M:=gb Rb) (R:=O) b
 refine Kb rfl rfl rfl rfl (Gb rfl) (td Gn nd (sa (aa (sb d1)) (sa (aa (sb d6)) (sa (aa (sb d7)) hb))) (C.Ng (d.t (l.t A)) (m7.up (l.t A)) (m9.up (l.t A)) (m10.up (l.t A)) (m16.up (l.t A)) (m19.up (l.t A)) (m20.up (l.t A)) (m24.up (l.t A)) (am.up (l.t A)) (f61.up (l.t A)) lm b) ?_)
 rintro _ gN ⟨hN,rfl,pm,b⟩
 replace b:=Sep.Ld (a:=[_,_]) (p:=gb Rb) (M:=[_]) (R:=O) b
 refine fa ?_
 refine ⟨Oa.z,?_⟩
 refine Kb rfl rfl rfl rfl (Gb rfl) (yb Mb (aa d4) (aa (sb d0)) rfl rfl b d2 rfl Ib Ma ?_)
 clear b; intro iN b
 refine ⟨Oa.z,?_⟩
 refine la 10 [10] rfl (Hd (za ?_))
 exact ⟨_,_,rfl,(ie (Na (Xa (Xa (gd (Uh ta)))))),_,_,md.Kind,md.Nb,rfl,h,(l.t (A.t pm)),b⟩
 rintro _ t jN ⟨kN,i52,i53,Y,rfl,h,sm,b⟩
 unfold Pw at h
 refine Vb (Ag (kc (vc (vc (Ff (Ym pb)))))) (ra (Ra ?_))
 refine (fun h=>Ab (Fa h)) ?_
 obtain rfl:=Ea h
 refine Ad rfl (Qa.s (.a d4 Mb (b.ba d2).cells rfl) (Qa.s (.t d5) Qa.z)) ?_
 replace b:=b.drop (ia.s (ia.s ia.z))
 exact ⟨_,rfl,sm,b⟩
 intro nl h
 refine ea ?_
 iterate 2 refine st ?_
 refine ja ?_
 refine Za h ?_ ?_
 intro Nm h
 refine db ?_
 refine Ub (rg 61 9) (by decide) (fun m w=>∃ f i77 i78 Z,m=(ng (.i (.int .i64 i77)::(Sd (ng (Rl 61 [])))))∧Qw i77 i78 Z=some r∧ga I f∧ka f J w (.ba U 196 [.pointer (some ⟨nb,Lb,none⟩),.pointer (some ⟨Qc,Od,none⟩),Ec]::.row Ec 193 1 D.length (Xb Rb)::.ba F 57 [.int .i64 i78,S Z]::(gb Rb++O))) (by rintro _ _ ⟨_,_,_,_,rfl,_⟩; rfl) ?_ ?_
 refine Td b ?_; clear b; intro lN b
 refine Pd (la 1 [1,8,9,10] rfl (la 2 [2,3,4,5,6,8,9,10] rfl (la 3 [3,4,5,6,8,9,10] rfl (la 4 [4,5,6,8,9,10] rfl (Fb 5 [5,6,8,9,10] rfl (jb Xh (aa (Gc d5)) ((e _ b.a).one d3)) (zg ad) ?_)))))
 obtain ⟨mN,fn,h⟩:=ha h
 obtain ⟨nN,oN,pN,on,f86,un⟩:=Pc.elem E fn
 obtain ⟨qN,rN,rfl,wn⟩:=ua.o un
 refine ze 6 [6,8,9,10] rfl (Mc underlying122 pc (aa (Gc d6)) Ba on) (zg sd) ?_
 obtain ⟨rd,Fn,h⟩:=ha h
 refine Kb rfl rfl rfl rfl (Gb rfl) (td Tx nd hb (ko d Fn b) ?_)
 rintro _ sN ⟨tN,rfl,q,b⟩
 refine fa ?_
 refine ⟨(Oa.s (jb Xh (aa (Gc d5)) ((e _ (q _ b.a)).one d3)) Oa.z),?_⟩
 obtain ⟨uN,In,h⟩:=ha h
 refine Kb rfl rfl rfl rfl (Gb rfl) (td Tx nd hb (ko (d.t q) In b) ?_)
 rintro _ vN ⟨wN,rfl,B,b⟩
 refine fa ?_
 refine ⟨(Oa.s (jb Xh (aa (Gc d5)) ((e _ ((q.t B) _ b.a)).one d3)) Oa.z),?_⟩
 obtain ⟨xN,co,h⟩:=ha h
 replace b:=(b.da Eb).da Eb
 replace b:=Sep.Ld (a:=[_,_]) (p:=[_]) (M:=gb Rb) (R:=O) b
 refine Kb rfl rfl rfl rfl (Gb rfl) (td Gn nd (sa (aa (Gc d2)) (sa (aa (Gc d7)) (sa (aa (Gc d8)) hb))) (C.Ng (d.t (q.t B)) (m7.up (q.t B)) (m9.up (q.t B)) (m10.up (q.t B)) (m16.up (q.t B)) (m19.up (q.t B)) (m20.up (q.t B)) (m24.up (q.t B)) (wn.up (q.t B)) (f86.up (q.t B)) co b) ?_)
 rintro _ yN ⟨zN,rfl,go,b⟩
 replace b:=Sep.Ld (a:=[_,_]) (p:=gb Rb) (M:=[_]) (R:=O) b
 refine fa ?_
 refine ⟨Oa.z,?_⟩
 refine Kb rfl rfl rfl rfl (Gb rfl) (yb Mb (aa d4) (aa (Gc d1)) rfl rfl b d2 rfl Ib Ma ?_)
 clear b; intro AN b
 refine ⟨Oa.z,?_⟩
 refine la 10 [10] rfl (Hd (za ?_))
 exact ⟨_,_,rfl,(ie (Na (Yb (ie (Uh ta))))),_,_,rd.Kind,rd.Nb,rfl,h,(q.t (B.t go)),b⟩
 rintro _ t BN ⟨CN,i77,i78,Z,rfl,h,io,b⟩
 unfold Qw at h
 refine Vb (Ag (kc (Ud (Ag (Ym pb))))) (ra (Ra ?_))
 refine (fun h=>Ab (Fa h)) ?_
 obtain rfl:=Ea h
 refine Ad rfl (Qa.s (.a d4 Mb (b.ba d2).cells rfl) (Qa.s (.t d5) Qa.z)) ?_
 replace b:=b.drop (ia.s (ia.s ia.z))
 exact ⟨_,rfl,io,b⟩
 intro Nm h
 refine db (ea ?_)
 iterate 2 refine st ?_
 refine ja ?_
 refine Ub ([72]) (by decide) (fun m w=>∃ f gc,m=(Sd (qc (.i (.bool gc)::(kh (Sc 72 [])))))∧Zo self K V W D gc=some r∧ga I f∧ka f J w (.ba U 196 [.pointer (some ⟨nb,Lb,none⟩),.pointer (some ⟨Qc,Od,none⟩),Ec]::.row Ec 193 1 D.length (Xb Rb)::.ba F 57 [.int .i64 0,S []]::(gb Rb++O))) (by rintro _ _ ⟨_,_,rfl,_⟩; rfl) ?_ ?_
 refine Za h ?_ ?_
 intro no h
 refine Va (za ?_)
 replace b:=(b.da Eb).da Eb
 exact ⟨_,_,rfl,(Yb (Xa (Na (Ee (lb ta))))),_,(decide (K.Kind=11)),rfl,h,ga.r,b⟩
 intro no h
 refine eb ?_
 iterate 2 refine st ?_
 refine La (za ?_)
 replace b:=(b.da Eb).da Eb
 exact ⟨_,_,rfl,(Yb (Xa (Na (Ee (lb ta))))),_,(decide (K.Kind=12)),rfl,h,ga.r,b⟩
 rintro _ t DN ⟨ro,gc,rfl,h,c,b⟩
 unfold Zo at h
 refine Vb (Ud (vc (kc (zh (Xc pb))))) (ra ?_)
 refine ed h ?_ ?_
 intro to h
 refine ea ?_
 iterate 2 refine st ?_
 obtain ⟨EN,Do,h⟩:=ha h
 replace b:=(b.da Da).da Da
 replace b:=Sep.Ld (a:=[_,_]) (p:=[_]) (M:=gb Rb) (R:=O) b
 refine Aa (C.Vk (d.t c) (m7.up c) (m9.up c) (m10.up c) (m16.up c) (m19.up c) (m20.up c) (m24.up c) (E.up c) (e.up c) Do b) ?_
 rintro _ FN ⟨GN,rfl,wd,b⟩
 replace b:=Sep.Ld (a:=[_,_]) (p:=gb Rb) (M:=[_]) (R:=O) b
 refine fa ?_
 iterate 3 refine st ?_
 refine wl (bd Mb b ?_); clear b; intro HN IN JN b; refine fa ?_
 refine wl (yb Mb (aa d8) (aa (Oc d7)) rfl rfl b d0 rfl Ga Ma ?_)
 clear b; intro KN b
 refine st (rb ?_)
 obtain ⟨LN,Go,h⟩:=ha h
 refine Aa (ko (d.t (c.t wd)) Go b) ?_
 rintro _ MN ⟨NN,rfl,ap,b⟩
 refine fa (st (wl (yb Mb (aa d4) (aa (Oc d9)) rfl rfl b d3 rfl ec Ma ?_)))
 clear b; intro ON b
 refine st (ja (Ra ?_))
 refine (fun h=>Ab (Fa h)) ?_
 obtain rfl:=Ea h
 refine Ad rfl (Qa.s (.a d4 Mb (b.ba d3).cells rfl) (Qa.s (.t d5) Qa.z)) ?_
 replace b:=(b.drop ia.z).drop (ia.s (ia.s ia.z))
 exact ⟨_,rfl,(c.t (wd.t ap)),b⟩
 intro to h
 refine ea ?_
 iterate 2 refine st ?_
 refine ja ?_
 refine Za h ?_ ?_
 intro ip h
 refine ea ?_
 iterate 2 refine st ?_
 obtain ⟨PN,jp,h⟩:=ha h
 replace b:=(b.da Da).da Da
 replace b:=Sep.Ld (a:=[_,_]) (p:=[_]) (M:=gb Rb) (R:=O) b
 refine Aa (C.dk (d.t c) (m7.up c) (m9.up c) (m10.up c) (m16.up c) (m19.up c) (m20.up c) (m24.up c) (E.up c) (e.up c) jp b) ?_
 rintro _ QN ⟨RN,v117,rfl,P,b,mp⟩
 replace b:=Sep.Ld (a:=[_,_]) (p:=gb Rb) (M:=[_]) (R:=O) b
 refine fa ?_
 iterate 5 refine st ?_
 refine ob (ea ?_)
 iterate 2 refine st ?_
 refine ja ?_
 refine Za h ?_ ?_
 intro op h
 refine ea ?_
 obtain ⟨SN,pp,h⟩:=ha h
 refine Aa (tn (d.t (c.t P)) pp b) ?_
 rintro _ TN ⟨UN,rfl,sp,b⟩
 refine fa (st (wl (yb Mb (aa d4) (aa (fe d1)) rfl rfl b d2 rfl Ib Ma ?_)))
 clear b; intro VN b
 refine st (ja (Ra ?_))
 refine (fun h=>Fa (Ab (Fa h))) ?_
 obtain rfl:=Ea h
 refine Ad rfl (Qa.s (.a d4 Mb (b.ba d2).cells rfl) (Qa.s (.t d5) Qa.z)) ?_
 replace b:=b.drop (ia.s (ia.s ia.z))
 exact ⟨_,rfl,(c.t (P.t sp)),b⟩
 intro op h
 refine Va (ra (ea (st ?_)))
 obtain ⟨WN,wp,h⟩:=ha h
 obtain ⟨XN,YN,ZN,rfl,f128,Op⟩:=uh.get mp wp
 obtain ⟨a130,c131,aO,bO,rfl,cO,dO⟩:=Op
 iterate 2 refine st ?_
 refine Ae ((f128 _ b.a).eg 2 2) rfl ?_
 obtain ⟨eO,eq,h⟩:=ha h
 refine Aa (dr (d.t (c.t P)) eq b) ?_
 rintro _ fO ⟨gO,rfl,Eq,b⟩
 refine fa (wl (yb Mb (aa d4) (aa (fe d7)) rfl rfl b d2 rfl Ib Ma ?_))
 clear b; intro hO b
 refine st (ja (Ra ?_))
 refine (fun h=>Ab (Fa h)) ?_
 obtain rfl:=Ea h
 refine Ad rfl (Qa.s (.a d4 Mb (b.ba d2).cells rfl) (Qa.s (.t d5) Qa.z)) ?_
 replace b:=b.drop (ia.s (ia.s ia.z))
 exact ⟨_,rfl,(c.t (P.t Eq)),b⟩
 intro ip h
 refine ea ?_
 iterate 2 refine st ?_
 refine ja ?_
 refine Za h ?_ ?_
 intro fr h
 refine db ?_
 refine Td b ?_; clear b; intro iO b
 refine Pd (la 0 [0,1,2,3,8,9,10,11,12,13] rfl (la 1 [1,2,3,8,9,10,11,12,13] rfl (la 2 [2,3,8,9,10,11,12,13] rfl (Fb 3 [3,8,9,10,11,12,13] rfl (jb gu (aa (Pa d3)) ((b.ba d0).cell d0)) (dc hd) (la 4 [4,5,6,7,8,9,10,11,12,13] rfl (la 5 [5,6,7,8,9,10,11,12,13] rfl (la 6 [6,7,8,9,10,11,12,13] rfl (Fb 7 [7,8,9,10,11,12,13] rfl (jb Hb (aa (Pa d7)) ((e _ (c _ b.a)).one d2)) (dc Yd) ?_))))))))
 obtain ⟨jO,or,h⟩:=ha h
 refine Kb rfl rfl rfl rfl (Gb rfl) (td Sx nd (sa (aa (Pa d4)) (sa Ba (sa (aa (Pa d8)) hb))) (ev (d.t c) (m7.up c) (m9.up c) (m10.up c) or b) ?_)
 rintro _ kO ⟨lO,v143,rfl,Q,b,qr⟩
 refine fa ?_
 refine ⟨Oa.z,?_⟩
 refine la 9 [9,10,11,12,13] rfl (la 10 [10,12,13] rfl (la 11 [11,13] rfl (la 12 [12,13] rfl (la 13 [13] rfl (Hd (ra (db (ea ?_))))))))
 iterate 2 refine st ?_
 refine ja ?_
 refine pj h ?_ ?_
 intro wr h
 refine ea ?_
 obtain ⟨mO,Fr,h⟩:=ha h
 refine Aa (tn (d.t (c.t Q)) Fr b) ?_
 rintro _ nO ⟨oO,rfl,Or,b⟩
 refine fa (wl (yb Mb (aa d4) (aa (Pa (wa d4))) rfl rfl b d2 rfl Ib Ma ?_))
 clear b; intro pO b
 refine st (ja (Ra ?_))
 refine (fun h=>Fa (Ab (Fa h))) ?_
 obtain rfl:=Ea h
 refine Ad rfl (Qa.s (.a d4 Mb (b.ba d2).cells rfl) (Qa.s (.t d5) Qa.z)) ?_
 replace b:=b.drop (ia.s (ia.s ia.z))
 exact ⟨_,rfl,(c.t (Q.t Or)),b⟩
 intro wr h
 refine Va (ra (ea (st ?_)))
 obtain ⟨qO,cs,h⟩:=ha h
 obtain ⟨rO,sO,tO,rfl,f154,ds⟩:=uh.get qr cs
 obtain ⟨a156,c157,a159,c160,rfl,uO,vO⟩:=ds
 iterate 2 refine st ?_
 refine Ae ((f154 _ b.a).eg 2 2) rfl ?_
 obtain ⟨wO,es,h⟩:=ha h
 refine Aa (dr (d.t (c.t Q)) es b) ?_
 rintro _ xO ⟨yO,rfl,gs,b⟩
 refine fa (wl (yb Mb (aa d4) (aa (Pa (wa d9))) rfl rfl b d2 rfl Ib Ma ?_))
 clear b; intro zO b
 refine st (ja (Ra ?_))
 refine (fun h=>Ab (Fa h)) ?_
 obtain rfl:=Ea h
 refine Ad rfl (Qa.s (.a d4 Mb (b.ba d2).cells rfl) (Qa.s (.t d5) Qa.z)) ?_
 replace b:=b.drop (ia.s (ia.s ia.z))
 exact ⟨_,rfl,(c.t (Q.t gs)),b⟩
 intro fr h
 refine ea ?_
 iterate 2 refine st ?_
 refine ja ?_
 refine Za h ?_ ?_
 intro is h
 refine db (ea ?_)
 iterate 3 refine st ?_
 refine Ha ((b.ba d0).cell d1) ?_
 iterate 2 refine st ?_
 refine Ha ((m20 _ (c _ b.a)).one d0) (st (ja ?_))
 refine Za h ?_ ?_
 intro ls h
 refine ea ?_
 obtain ⟨AO,ms,h⟩:=ha h
 refine Aa (tn (d.t c) ms b) ?_
 rintro _ BO ⟨CO,rfl,os,b⟩
 refine fa (wl (yb Mb (aa d4) (aa (Pa (ib d0))) rfl rfl b d2 rfl Ib Ma ?_))
 clear b; intro DO b
 refine st (ja (Ra ?_))
 refine (fun h=>Fa (Ab (Fa h))) ?_
 obtain rfl:=Ea h
 refine Ad rfl (Qa.s (.a d4 Mb (b.ba d2).cells rfl) (Qa.s (.t d5) Qa.z)) ?_
 replace b:=b.drop (ia.s (ia.s ia.z))
 exact ⟨_,rfl,(c.t os),b⟩
 intro ls h
 refine Va (ra (db ?_))
 refine Ub (rg 131 22) (by decide +kernel) (fun m w=>∃ f i170 i171 lc,m=(ng (.i (.int .i64 i170)::(Sd (Sd (qc (ng (Uf 131 (xf 151 []))))))))∧Rw i170 i171 lc=some r∧ga ro f∧ka f J w (.ba U 196 [.pointer (some ⟨nb,Lb,none⟩),.pointer (some ⟨Qc,Od,none⟩),Ec]::.row Ec 193 1 D.length (Xb Rb)::.ba F 57 [.int .i64 i171,S lc]::(gb Rb++O))) (by rintro _ _ ⟨_,_,_,_,rfl,_⟩; rfl) ?_ ?_
 refine Td b ?_; clear b; intro EO b
 refine Pd (la 0 [0,1,2,3,4,5,6,7,21,22,23] rfl (la 1 [1,2,3,4,5,6,7,21,22,23] rfl (la 2 [2,3,4,5,6,7,21,22,23] rfl (Fb 3 [3,4,5,6,7,21,22,23] rfl (jb Sn (aa (Pa (ib d3))) ((b.ba d0).cell d1)) (dc (qd hd)) (la 4 [4,5,6,7,21,22,23] rfl (la 5 [5,6,7,21,22,23] rfl (Fb 6 [6,7,21,22,23] rfl (Re Mb (aa (Pa (ib d6))) ((m20 _ (c _ b.a)).eg 4 2) rfl) (dc (qd sd)) (la 8 [8,21,22,23] rfl (la 9 [9,10,11,12,13,21,22,23] rfl (la 10 [10,11,12,13,21,22,23] rfl (la 11 [11,12,13,21,22,23] rfl (Fb 12 [12,13,21,22,23] rfl (jb Xh (aa (Pa (Bb d2))) ((e _ (c _ b.a)).one d3)) (dc (Xd ec)) ?_))))))))))))
 obtain ⟨FO,rs,h⟩:=ha h
 obtain ⟨GO,HO,JO,us,f179,vs⟩:=Pc.elem (E.up c) rs
 obtain ⟨KO,c182,rfl,ws⟩:=ua.o vs
 refine ze 13 [13,21,22,23] rfl (Mc underlying122 pc (aa (Pa (Bb d3))) Ba us) (dc (Xd hd)) (la 14 [14,15,16,17,18,19,20,21,22,23] rfl (la 15 [15,16,17,18,19,20,21,22,23] rfl (la 16 [16,17,18,19,20,21,22,23] rfl (Fb 17 [17,18,19,20,21,22,23] rfl (jb Sn (aa (Pa (Bb d7))) ((b.ba d0).cell d1)) (dc (Xd Yd)) (la 18 [18,19,20,21,22,23] rfl (la 19 [19,20,21,22,23] rfl (Fb 20 [20,21,22,23] rfl (Re Mb (aa (Pa (sb d0))) ((m20 _ (c _ b.a)).eg 2 2) rfl) (dc (ee kb)) ?_)))))))
 obtain ⟨Fd,xs,h⟩:=ha h
 refine Kb rfl rfl rfl rfl (Gb rfl) (td Uv nd (sa (aa (Pa (ib d7))) hb) (dr (d.t c) xs b) ?_)
 rintro _ LO ⟨MO,rfl,u,b⟩
 refine fa ?_
 refine ⟨(Oa.s (Re Mb (aa (Pa (sb d0))) ((m20 _ ((c.t u) _ b.a)).eg 2 2) rfl) (Oa.s (jb Sn (aa (Pa (Bb d7))) ((b.ba d0).cell d1)) (Oa.s (jb Xh (aa (Pa (Bb d2))) ((e _ ((c.t u) _ b.a)).one d3)) Oa.z))),?_⟩
 obtain ⟨NO,ys,h⟩:=ha h
 replace b:=(b.da Da).da Da
 replace b:=Sep.Ld (a:=[_,_]) (p:=[_]) (M:=gb Rb) (R:=O) b
 refine Kb rfl rfl rfl rfl (Gb rfl) (td Gn nd (sa (aa (Pa (ib d9))) (sa (aa (Pa (Bb d4))) (sa (aa (Pa (sb d1))) hb))) (C.Ng (d.t (c.t u)) (m7.up (c.t u)) (m9.up (c.t u)) (m10.up (c.t u)) (m16.up (c.t u)) (m19.up (c.t u)) (m20.up (c.t u)) (m24.up (c.t u)) (ws.up u) (f179.up u) ys b) ?_)
 rintro _ OO ⟨PO,rfl,Os,b⟩
 replace b:=Sep.Ld (a:=[_,_]) (p:=gb Rb) (M:=[_]) (R:=O) b
 refine fa ?_
 refine ⟨Oa.z,?_⟩
 refine Kb rfl rfl rfl rfl (Gb rfl) (yb Mb (aa d4) (aa (Pa (ib d8))) rfl rfl b d2 rfl Ib Ma ?_)
 clear b; intro QO b
 refine ⟨Oa.z,?_⟩
 refine la 23 [23] rfl (Hd (za ?_))
 exact ⟨_,_,rfl,(ie (Na (Yb (Yb (Xa (ie (zc (Zc ta)))))))),_,_,Fd.Kind,Fd.Nb,rfl,h,(u.t Os),b⟩
 rintro _ t RO ⟨SO,i170,i171,lc,rfl,h,gt,b⟩
 unfold Rw at h
 refine Vb (Ag (kc (Ud (Ud (vc (Ag (fg (Kf pb)))))))) (ra (Ra ?_))
 refine (fun h=>Ab (Fa h)) ?_
 obtain rfl:=Ea h
 refine Ad rfl (Qa.s (.a d4 Mb (b.ba d2).cells rfl) (Qa.s (.t d5) Qa.z)) ?_
 replace b:=b.drop (ia.s (ia.s ia.z))
 exact ⟨_,rfl,(c.t gt),b⟩
 intro is h
 refine ea ?_
 iterate 2 refine st ?_
 refine ja ?_
 refine Za h ?_ ?_
 intro it h
 refine ea ?_
 iterate 2 refine st ?_
 obtain ⟨TO,lt,h⟩:=ha h
 replace b:=(b.da Da).da Da
 replace b:=Sep.Ld (a:=[_,_]) (p:=[_]) (M:=gb Rb) (R:=O) b
 refine Aa (C.dk (d.t c) (m7.up c) (m9.up c) (m10.up c) (m16.up c) (m19.up c) (m20.up c) (m24.up c) (E.up c) (e.up c) lt b) ?_
 rintro _ UO ⟨VO,WO,rfl,Id,b,XO⟩
 replace b:=Sep.Ld (a:=[_,_]) (p:=gb Rb) (M:=[_]) (R:=O) b
 refine fa ?_
 iterate 5 refine st ?_
 refine rb ?_
 iterate 3 refine st ?_
 refine Ha ((e _ ((c.t Id) _ b.a)).one d2) (wl (Nd Mb uq (ab.o rfl Ba rfl rfl Ga (ab.o rfl (aa (Pa (Gc d4))) rfl rfl kb ab.z)) (ma (dc (zg cd))) (st (wl (yb Mb (aa d4) (aa (Pa (Gc d5))) rfl rfl b d2 rfl Ib Ma ?_)))))
 clear b; intro YO b
 refine st (ja (Ra ?_))
 refine (fun h=>Ab (Fa h)) ?_
 obtain rfl:=Ea h
 refine Ad rfl (Qa.s (.a d4 Mb (b.ba d2).cells rfl) (Qa.s (.t d5) Qa.z)) ?_
 replace b:=b.drop (ia.s (ia.s ia.z))
 exact ⟨_,rfl,(c.t Id),b⟩
 intro it h
 refine ea ?_
 iterate 2 refine st ?_
 refine ja ?_
 refine Za h ?_ ?_
 intro mt h
 refine ea ?_
 iterate 4 refine st ?_
 refine Ha ((e _ (c _ b.a)).one d3) ?_
 obtain ⟨ZO,rt,h⟩:=ha h
 obtain ⟨aP,bP,cP,ut,f204,wt⟩:=Pc.elem (E.up c) rt
 obtain ⟨a206,dP,rfl,hu⟩:=ua.o wt
 refine wl (Ja (Mc underlying122 pc (aa (Pa (Oc d4))) Ba ut) (ma (dc (Zf cd))) ?_)
 obtain ⟨eP,pu,h⟩:=ha h
 replace b:=(b.da Da).da Da
 replace b:=Sep.Ld (a:=[_,_]) (p:=[_]) (M:=gb Rb) (R:=O) b
 refine Aa (C.ak (d.t c) (m7.up c) (m9.up c) (m10.up c) (m16.up c) (m19.up c) (m20.up c) (m24.up c) hu f204 pu b) ?_
 rintro _ fP ⟨bv,v212,rfl,k,b,hw⟩
 replace b:=Sep.Ld (a:=[_,_]) (p:=gb Rb) (M:=[_]) (R:=O) b
 refine fa ?_
 iterate 5 refine st ?_
 refine ob (ea ?_)
 iterate 2 refine st ?_
 refine ja ?_
 refine Za h ?_ ?_
 intro kw h
 refine ea ?_
 obtain ⟨gP,lw,h⟩:=ha h
 refine Aa (tn (d.t (c.t k)) lw b) ?_
 rintro _ hP ⟨iP,rfl,ww,b⟩
 refine fa (st (wl (yb Mb (aa d4) (aa (Pa (Nc d1))) rfl rfl b d2 rfl Ib Ma ?_)))
 clear b; intro jP b
 refine st (ja (Ra ?_))
 refine (fun h=>Fa (Ab (Fa h))) ?_
 obtain rfl:=Ea h
 refine Ad rfl (Qa.s (.a d4 Mb (b.ba d2).cells rfl) (Qa.s (.t d5) Qa.z)) ?_
 replace b:=b.drop (ia.s (ia.s ia.z))
 exact ⟨_,rfl,(c.t (k.t ww)),b⟩
 intro kw h
 refine Va (ra (db ?_))
 refine Ub (rg 183 16) (by decide) (fun m w=>∃ f i218 i219 rc,m=(ng (.i (.int .i64 i218)::(Sd (Sd (Sd (qc (rh (Rc 183 (ml 193 [])))))))))∧Sw i218 i219 rc=some r∧ga bv f∧ka f J w (.ba U 196 [.pointer (some ⟨nb,Lb,none⟩),.pointer (some ⟨Qc,Od,none⟩),Ec]::.row Ec 193 1 D.length (Xb Rb)::.ba F 57 [.int .i64 i219,S rc]::(gb Rb++O))) (by rintro _ _ ⟨_,_,_,_,rfl,_⟩; rfl) ?_ ?_
 refine Td b ?_; clear b; intro kP b
 refine Pd (la 0 [0,1,2,3,4,15,16,17] rfl ?_)
 obtain ⟨lP,ex,h⟩:=ha h
 obtain ⟨mP,nP,oP,rfl,f226,rx⟩:=uh.get hw ex
 obtain ⟨a228,c229,pP,c232,rfl,qP,rP⟩:=rx
 refine la 1 [1,2,3,4,15,16,17] rfl (la 2 [2,3,4,15,16,17] rfl (Fb 3 [3,4,15,16,17] rfl (Re Mb (aa (Pa (Nc d5))) ((f226 _ b.a).eg 2 2) rfl) (dc (qg ad)) (la 5 [5,15,16,17] rfl (la 6 [6,7,8,9,10,15,16,17] rfl (la 7 [7,8,9,10,15,16,17] rfl (la 8 [8,9,10,15,16,17] rfl (Fb 9 [9,10,15,16,17] rfl (jb Xh (aa (Pa (fe d1))) ((e _ ((c.t k) _ b.a)).one d3)) (dc (Zh Ib)) ?_)))))))
 obtain ⟨sP,xx,h⟩:=ha h
 obtain ⟨tP,uP,vP,zx,f240,ty⟩:=Pc.elem (E.up (c.t k)) xx
 obtain ⟨wP,xP,rfl,sz⟩:=ua.o ty
 refine ze 10 [10,15,16,17] rfl (Mc underlying122 pc (aa (Pa (fe d2))) Ba zx) (dc (Zh ec)) (la 11 [11,12,13,14,15,16,17] rfl (la 12 [12,13,14,15,16,17] rfl (la 13 [13,14,15,16,17] rfl (Fb 14 [14,15,16,17] rfl (Re Mb (aa (Pa (fe d6))) ((f226 _ b.a).eg 4 2) rfl) (dc (Zh sd)) ?_))))
 obtain ⟨be,Rz,h⟩:=ha h
 refine Kb rfl rfl rfl rfl (Gb rfl) (td Uv nd (sa (aa (Pa (Nc d6))) hb) (dr (d.t (c.t k)) Rz b) ?_)
 rintro _ yP ⟨zP,rfl,v,b⟩
 refine fa ?_
 refine ⟨(Oa.s (Re Mb (aa (Pa (fe d6))) ((f226 _ (v _ b.a)).eg 4 2) rfl) (Oa.s (jb Xh (aa (Pa (fe d1))) ((e _ ((c.t (k.t v)) _ b.a)).one d3)) Oa.z)),?_⟩
 obtain ⟨AP,AC,h⟩:=ha h
 replace b:=(b.da Da).da Da
 replace b:=Sep.Ld (a:=[_,_]) (p:=[_]) (M:=gb Rb) (R:=O) b
 refine Kb rfl rfl rfl rfl (Gb rfl) (td Gn nd (sa (aa (Pa (Nc d8))) (sa (aa (Pa (fe d3))) (sa (aa (Pa (fe d7))) hb))) (C.Ng (d.t (c.t (k.t v))) (m7.up (c.t (k.t v))) (m9.up (c.t (k.t v))) (m10.up (c.t (k.t v))) (m16.up (c.t (k.t v))) (m19.up (c.t (k.t v))) (m20.up (c.t (k.t v))) (m24.up (c.t (k.t v))) (sz.up v) (f240.up v) AC b) ?_)
 rintro _ BP ⟨CP,rfl,GE,b⟩
 replace b:=Sep.Ld (a:=[_,_]) (p:=gb Rb) (M:=[_]) (R:=O) b
 refine fa ?_
 refine ⟨Oa.z,?_⟩
 refine Kb rfl rfl rfl rfl (Gb rfl) (yb Mb (aa d4) (aa (Pa (Nc d7))) rfl rfl b d2 rfl Ib Ma ?_)
 clear b; intro DP b
 refine ⟨Oa.z,?_⟩
 refine la 17 [17] rfl (Hd (za ?_))
 exact ⟨_,_,rfl,(ie (Na (Yb (Yb (Yb (Xa (cf (qb (di ta))))))))),_,_,be.Kind,be.Nb,rfl,h,(v.t GE),b⟩
 rintro _ t EP ⟨FP,i218,i219,rc,rfl,h,LE,b⟩
 unfold Sw at h
 refine Vb (Ag (kc (Ud (Ud (Ud (vc (Jh (Wc (Em pb))))))))) (ra (Ra ?_))
 refine (fun h=>Ab (Fa h)) ?_
 obtain rfl:=Ea h
 refine Ad rfl (Qa.s (.a d4 Mb (b.ba d2).cells rfl) (Qa.s (.t d5) Qa.z)) ?_
 replace b:=b.drop (ia.s (ia.s ia.z))
 exact ⟨_,rfl,(c.t (k.t LE)),b⟩
 intro mt h
 refine ea ?_
 iterate 2 refine st ?_
 refine ja ?_
 refine Za h ?_ ?_
 intro NE h
 refine ea ?_
 iterate 4 refine st ?_
 refine Ha ((e _ (c _ b.a)).one d3) ?_
 obtain ⟨GP,WF,h⟩:=ha h
 obtain ⟨HP,IP,JP,RK,f259,WL⟩:=Pc.elem (E.up c) WF
 obtain ⟨KP,LP,rfl,XL⟩:=ua.o WL
 refine wl (Ja (Mc underlying122 pc (aa (Pa (Pa d6))) Ba RK) (ma (dc (dc sd))) ?_)
 obtain ⟨MP,YL,h⟩:=ha h
 replace b:=(b.da Da).da Da
 replace b:=Sep.Ld (a:=[_,_]) (p:=[_]) (M:=gb Rb) (R:=O) b
 refine Aa (C.ak (d.t c) (m7.up c) (m9.up c) (m10.up c) (m16.up c) (m19.up c) (m20.up c) (m24.up c) XL f259 YL b) ?_
 rintro _ NP ⟨OP,PP,rfl,ce,b,QP⟩
 replace b:=Sep.Ld (a:=[_,_]) (p:=gb Rb) (M:=[_]) (R:=O) b
 refine fa ?_
 iterate 5 refine st ?_
 refine rb ?_
 obtain ⟨RP,ZL,h⟩:=ha h
 refine Aa (ko (d.t (c.t ce)) ZL b) ?_
 rintro _ SP ⟨TP,rfl,aM,b⟩
 refine fa (st (wl (yb Mb (aa d4) (aa (Pa (Pa (wa d1)))) rfl rfl b d2 rfl Ib Ma ?_)))
 clear b; intro UP b
 refine st (ja (Ra ?_))
 refine (fun h=>Ab (Fa h)) ?_
 obtain rfl:=Ea h
 refine Ad rfl (Qa.s (.a d4 Mb (b.ba d2).cells rfl) (Qa.s (.t d5) Qa.z)) ?_
 replace b:=b.drop (ia.s (ia.s ia.z))
 exact ⟨_,rfl,(c.t (ce.t aM)),b⟩
 intro NE h
 refine Va ?_
 refine (fun h=>Pb (ra h)) ?_
 refine ea ?_
 obtain ⟨T,bM,h⟩:=ha h
 refine Aa (tn (d.t c) bM b) ?_
 rintro _ VP ⟨WP,rfl,g,b⟩
 refine fa ?_
 obtain ⟨ge,cM,h⟩:=ha h
 refine Aa (tn (d.t (c.t g)) cM b) ?_
 rintro _ XP ⟨dM,rfl,j,b⟩
 refine fa ?_
 refine wl (bd Mb b ?_); clear b; intro he YP ZP b; refine fa ?_
 refine wl (bd Mb b ?_); clear b; intro le lJ aQ b; refine fa ?_
 refine wl (yb Mb (aa (Sa d0)) (aa (Pa (Pa (wa d3)))) rfl rfl b d1 rfl kb Ma ?_)
 clear b; intro bQ b
 refine wl (yb Mb (aa (Sa d1)) (aa (Pa (Pa (wa d4)))) rfl rfl b d0 rfl Ga Ma ?_)
 clear b; intro cQ b
 refine ob ?_
 refine Ub (rg 215 15) (by decide) (fun m w=>∃ f G H L N,m=(Sd (Sd (Sd (Sd (yd (ng (Rc 215 (Hk 225 []))))))))∧Mp self K V W D G H L N=some r∧ga dM f∧ka f J w (.ba U 196 [.pointer (some ⟨nb,Lb,none⟩),.pointer (some ⟨Qc,Od,none⟩),Ec]::.row Ec 193 1 D.length (Xb Rb)::.ba F 57 [.int .i64 0,S []]::.ba he 57 [.int .i64 G,S H]::.ba le 57 [.int .i64 L,S N]::(gb Rb++O))) (by rintro _ _ ⟨_,_,_,_,_,rfl,_⟩; rfl) ?_ ?_
 refine Qb (ea ?_)
 iterate 3 refine st ?_
 refine Ha ((e _ ((c.t (g.t j)) _ b.a)).one d0) ?_
 iterate 2 refine st ?_
 refine ja ?_
 refine Za h ?_ ?_
 intro eM h
 refine eb ?_
 obtain ⟨ne,fM,h⟩:=ha h
 refine Aa (ko (d.t (c.t (g.t j))) fM b) ?_
 rintro _ dQ ⟨eQ,rfl,Ne,b⟩
 refine fa ?_
 obtain ⟨of,gM,h⟩:=ha h
 refine Aa (ko (d.t (c.t (g.t (j.t Ne)))) gM b) ?_
 rintro _ fQ ⟨gQ,rfl,hM,b⟩
 refine fa (wl (yb Mb (aa (Sa d0)) (aa (Pa (Pa (Sa d1)))) rfl rfl b d1 rfl kb Ma ?_))
 clear b; intro hQ b
 refine wl (yb Mb (aa (Sa d1)) (aa (Pa (Pa (Sa d2)))) rfl rfl b d0 rfl Ga Ma ?_)
 clear b; intro iQ b
 refine La ?_
 refine (fun h=>Pb (za h)) ?_
 replace b:=(((b.da Da).da ff).da ff).da ff
 exact ⟨_,_,rfl,(Yb (Yb (Yb (Yb (xb (ie (qb (Ah ta)))))))),_,ne.Kind,ne.Nb,of.Kind,of.Nb,rfl,h,(Ne.t hM),b⟩
 intro eM h
 refine ea ?_
 iterate 3 refine st ?_
 refine Ha ((e _ ((c.t (g.t j)) _ b.a)).one d0) ?_
 iterate 2 refine st ?_
 refine ja ?_
 refine Za h ?_ ?_
 intro iM h
 refine eb ?_
 obtain ⟨wf,jM,h⟩:=ha h
 refine Aa (ko (d.t (c.t (g.t j))) jM b) ?_
 rintro _ jQ ⟨kQ,rfl,kM,b⟩
 refine fa (wl (yb Mb (aa (Sa d1)) (aa (Pa (Pa (Sa d9)))) rfl rfl b d0 rfl Ga Ma ?_))
 clear b; intro lQ b
 refine La ?_
 refine (fun h=>Pb (za h)) ?_
 replace b:=(((b.da Da).da ff).da ff).da ff
 exact ⟨_,_,rfl,(Yb (Yb (Yb (Yb (xb (ie (qb (Ah ta)))))))),_,T.Kind,T.Nb,wf.Kind,wf.Nb,rfl,h,kM,b⟩
 intro iM h
 refine Va ?_
 refine (fun h=>Pb (za h)) ?_
 replace b:=(((b.da Da).da ff).da ff).da ff
 exact ⟨_,_,rfl,(Yb (Yb (Yb (Yb (xb (ie (qb (Ah ta)))))))),_,T.Kind,T.Nb,ge.Kind,ge.Nb,rfl,h,ga.r,b⟩
 rintro _ t mQ ⟨lM,G,H,L,N,rfl,h,x,b⟩
 unfold Mp at h
 refine Vb (Ud (Ud (Ud (Ud (Dd (Ag (Wc (Ql pb)))))))) (ra (db (ea ?_)))
 iterate 3 refine st ?_
 refine Ha ((e _ ((c.t (g.t (j.t x))) _ b.a)).one d3) (wl (Ja (Qd underlying122 (aa (Pa (Pa (ib d3))))) (ma (dc (dc (qd hd)))) (st (ja (Qb ?_)))))
 refine Se ([5]++rg 22 2++rg 236 16) (by decide) (fun n m w=>∃ f fd,m=(ng (Sc 5 (yd (Og (xf 22 (Sd (Sd (Sd (Sd (yd (kh (.i (.int .i64 fd)::(Rc 236 (ml 246 []))))))))))))))∧Yo self K V W D G H L N n fd=some r∧ga lM f∧ka f J w (.ba U 196 [.pointer (some ⟨nb,Lb,none⟩),.pointer (some ⟨Qc,Od,none⟩),Ec]::.row Ec 193 1 D.length (Xb Rb)::.ba F 57 [.int .i64 0,S []]::.ba he 57 [.int .i64 G,S H]::.ba le 57 [.int .i64 L,S N]::(gb Rb++O))) (by rintro _ _ _ ⟨_,_,rfl,_⟩; rfl) _ _ (ie (lb (xb (ye (Zc (Yb (Yb (Yb (Yb (xb (Ee (Na (qb (di ta)))))))))))))) ⟨_,0,rfl,h,ga.r,b⟩ ?_
 rintro id _ t nQ ⟨oQ,fd,rfl,h,y,b⟩
 rcases id with _|id
 cases h
 unfold Yo at h
 refine Te (Ag (Xc (Dd (Zg (Kf (Ud (Ud (Ud (Ud (Dd (zh (kc (Wc (Em pb)))))))))))))) (ea (st (ob ?_)))
 refine Za h ?_ ?_
 intro mM h
 refine Va (ra (db (Qb (ea ?_))))
 iterate 2 refine st ?_
 refine ob ?_
 refine Td b ?_; clear b; intro pQ b
 refine Pd (la 0 [0,8,9] rfl (la 1 [1,2,3,4,6,8,9] rfl (la 2 [2,3,4,6,8,9] rfl (la 3 [3,4,6,8,9] rfl (Fb 4 [4,6,8,9] rfl (jb Xh (aa (Pa (Pa (Bb d1)))) ((e _ ((c.t (g.t (j.t (x.t y)))) _ b.a)).one d3)) (dc (dc (Xd Ib))) (la 5 [5,6,8,9] rfl ?_))))))
 obtain ⟨qQ,nM,h⟩:=ha h
 obtain ⟨rQ,sQ,tQ,oM,f339,pM⟩:=Pc.elem (E.up (c.t (g.t (j.t (x.t y))))) nM
 obtain ⟨uQ,vQ,rfl,qM⟩:=ua.o pM
 refine ze 6 [6,8,9] rfl (Mc underlying122 pc (aa (Pa (Pa (Bb d2)))) (aa (Pa (Pa (Bb d3)))) oM) (dc (dc (Xd hd))) (Fb 7 [7,8,9] rfl (Re Mb (aa (Sa d0)) (b.ba d3).cells rfl) (dc (dc (Xd cd))) ?_)
 obtain ⟨wQ,rM,h⟩:=ha h
 replace b:=(b.da Da).da Da
 replace b:=Sep.Ld (a:=[_,_]) (p:=[_,_,_]) (M:=gb Rb) (R:=O) b
 refine Kb rfl rfl rfl rfl (Gb rfl) (td Gn nd (sa (aa (Pa (Pa (ib d8)))) (sa (aa (Pa (Pa (Bb d4)))) (sa (aa (Pa (Pa (Bb d5)))) hb))) (C.Ng (p_3:=(Ya.mk G H)) (d.t (c.t (g.t (j.t (x.t y))))) (m7.up (c.t (g.t (j.t (x.t y))))) (m9.up (c.t (g.t (j.t (x.t y))))) (m10.up (c.t (g.t (j.t (x.t y))))) (m16.up (c.t (g.t (j.t (x.t y))))) (m19.up (c.t (g.t (j.t (x.t y))))) (m20.up (c.t (g.t (j.t (x.t y))))) (m24.up (c.t (g.t (j.t (x.t y))))) qM f339 rM b) ?_)
 rintro _ xQ ⟨yQ,rfl,If,b⟩
 replace b:=Sep.Ld (a:=[_,_]) (p:=gb Rb) (M:=[_,_,_]) (R:=O) b
 refine fa ?_
 refine ⟨Oa.z,?_⟩
 refine la 9 [9] rfl (Hd (ra (ea ?_)))
 iterate 2 refine st ?_
 refine ja ?_
 refine Za h ?_ ?_
 intro sM h
 refine ea (Ae (b.ba d4).cells rfl (st (wl (yb Mb (aa d4) (aa (Pa (Pa (Bb d9)))) rfl rfl b d2 rfl Ib Ma ?_))))
 clear b; intro zQ b
 refine st (ja (Ra ?_))
 refine (fun h=>Ab (Fa (Fa (Ab (Fa h))))) ?_
 obtain rfl:=Ea h
 refine Ad rfl (Qa.s (.a d4 Mb (b.ba d2).cells rfl) (Qa.s (.t d5) Qa.z)) ?_
 replace b:=((b.drop (ia.s (ia.s ia.z))).drop (ia.s (ia.s ia.z))).drop (ia.s (ia.s ia.z))
 exact ⟨_,rfl,(c.t (g.t (j.t (x.t (y.t If))))),b⟩
 intro sM h
 refine Va ?_
 refine (fun h=>Pb (ra h)) ?_
 refine eb ?_
 obtain ⟨tM,uM,h⟩:=ha h
 refine wl (Ja (Gd (aa (Pa (Pa (ib d5)))) Ba uM) (ma (dc (dc (ee kb)))) (st (La (za ?_))))
 exact ⟨id,_,_,rfl,(ie (lb (xb (ye (Zc (Yb (Yb (Yb (Yb (xb (Ee (Na (qb (di ta)))))))))))))),⟨_,tM,rfl,h,(y.t If),b⟩,Nat.lt_succ_self _⟩
 intro mM h
 refine ke ?_
 refine (fun h=>jc (jc (pe h))) ?_
 refine ra (ea (Ae (b.ba d4).cells rfl (wl (yb Mb (aa d4) (aa (Pa (Pa (sb d2)))) rfl rfl b d2 rfl Ib Ma ?_))))
 clear b; intro AQ b
 refine st (ja (Ra ?_))
 obtain rfl:=Ea h
 refine Ad rfl (Qa.s (.a d4 Mb (b.ba d2).cells rfl) (Qa.s (.t d5) Qa.z)) ?_
 replace b:=((b.drop (ia.s (ia.s ia.z))).drop (ia.s (ia.s ia.z))).drop (ia.s (ia.s ia.z))
 exact ⟨_,rfl,(c.t (g.t (j.t (x.t y)))),b⟩
theorem fm:∀ n,vr (Sf n)
  | 0=>⟨(by intro; intros; rename_i h _; cases h),(by intro; intros; rename_i h _; cases h),(by intro; intros; rename_i h _; cases h),(by intro; intros; rename_i h _; cases h),(by intro; intros; rename_i h _; cases h)⟩
  | n+1=>⟨SC (fm n),mD (fm n),nD (fm n),IC (fm n),oD (fm n)⟩
end Go.Proofs.YthoigniombcphaaGreatDoor
