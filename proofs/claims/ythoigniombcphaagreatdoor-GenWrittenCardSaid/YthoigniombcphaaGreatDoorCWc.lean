/- Texts of Wc. -/
import Derived.Test.YthoigniombcphaaGreatDoorCXu
import Derived.Test.YthoigniombcphaaGreatDoorCMd
import Derived.Test.YthoigniombcphaaGreatDoorCWb
import Derived.Test.YthoigniombcphaaGreatDoorCFl
set_option linter.unusedSimpArgs false
set_option linter.unusedVariables false
set_option linter.unusedSectionVars false
set_option maxRecDepth 100000
set_option maxHeartbeats 20000000
namespace Go.Proofs.YthoigniombcphaaGreatDoor
open Go.bc Go.Dc Go.Y Tryz
variable {U dh Fe c2 c4 c12 Ve fu Qf rl:Nat} {xa a3 xc uc:Option Addr} {I:M} {J w:World} {O:List Wb}
theorem Jz {I:M} {J w:World} {O:List Wb} (T:ga Fc I) {U c:Nat} {l:Zb} {e f:Nat} {Tb:Option Addr} {x Fe:Nat} {b:va} {Lg g:Nat} {Wd:Option Addr} {Ps:Nat} {y:Option Addr} {A:Nat} {o:List (List (List UInt8×Ya))} {B:Value} {p:List (Nat×List MapEntry×Nat)} {r:List (List (List UInt8×Ya))} (m8:Ka I Tb x l.defs) (m10:rf I Fe l.named) (m11:dd I e f [.slice Tb l.defs.length x,.map (some Fe)]) (m17:Ka I Wd Ps b.Params) (m20:Ka I y A b.Body) (m21:dd I Lg g [.int .i64 b.Kind,S b.Name,.int .i64 b.zb.Kind,S b.zb.Nb,.int .i64 b.Hc.Kind,S b.Hc.Nb,.int .i64 b.oe,.slice Wd b.Params.length Ps,.slice y b.Body.length A]) (D:Bd I p o) (h:tp l b o=some r) (a:ka I J w (.ba U 192 [.pointer (some ⟨c,0,none⟩)]::.ba c 196 [.pointer (some ⟨e,f,none⟩),.pointer (some ⟨Lg,g,none⟩),B]::.row B 193 1 o.length (Xb p)::(gb p++O))):Kt prog 119 [.pointer (some ⟨U,0,none⟩)] w (fun v w'=>∃ (na:M) (C:Value) (q:List (Nat×List MapEntry×Nat)),v=.tuple ⟨[]⟩∧ga I na∧ka na J w' (.ba U 192 [.pointer (some ⟨c,0,none⟩)]::.ba c 196 [.pointer (some ⟨e,f,none⟩),.pointer (some ⟨Lg,g,none⟩),C]::.row C 193 1 r.length (Xb q)::(gb q++O))∧Bd na q r):=by
 unfold tp at h
 refine Qx func119 rfl (frm:=[_,_,_,_,_,_,_,_,_,_,_,_,_,_,_]) rfl ?_
 refine Ub (rg 1 14) (by decide) (fun m w=>∃ u i k d,m=(kh (Rc 1 (Ih 11 [])))∧cv i=some r∧ga I u∧ka u J w (.ba U 192 [.pointer (some ⟨c,0,none⟩)]::.ba c 196 [.pointer (some ⟨e,f,none⟩),.pointer (some ⟨Lg,g,none⟩),k]::.row k 193 1 i.length (Xb d)::(gb d++O))∧Bd u d i) (by rintro _ _ ⟨_,_,_,_,rfl,_⟩; rfl) ?_ ?_
 refine Td a ?_; clear a; intro V a
 refine Pd (Fb 0 [0,12,13,14] rfl (jb Tm (aa d0) ((a.ba d0).cell d0)) kb (Fb 1 [1,2,3,4,11,12,13,14] rfl (jb Tm (aa d0) ((a.ba d0).cell d0)) Ib (la 2 [2,3,4,11,12,13,14] rfl (la 3 [3,4,11,12,13,14] rfl (Fb 4 [4,11,12,13,14] rfl (jb Am (aa d4) ((a.ba d1).cell d2)) cd (Fb 5 [5,6,7,8,9,10,11,12,13,14] rfl (jb Tm (aa d0) ((a.ba d0).cell d0)) ad (la 6 [6,7,8,9,10,11,12,13,14] rfl (la 7 [7,8,9,10,11,12,13,14] rfl (Fb 8 [8,9,10,11,12,13,14] rfl (jb Am (aa d8) ((a.ba d1).cell d2)) Ed (ze 9 [9,10,11,12,13,14] rfl (wj underlying194 (aa d9) (a.get d2).yj) (Jb Ga) ?_))))))))))
 obtain ⟨i33,E,h⟩:=ha h
 refine ze 10 [10,11,12,13,14] rfl (Kl (aa (wa d0)) Ba E) (Jb kb) ?_
 obtain ⟨W,F,h⟩:=ha h
 obtain ⟨v37,X,G,H,K,L,N⟩:=Row.nC (a.get d2) D F
 replace a:=a.py d2 H K Ib
 replace a:=a.vu (pre:=[_,_,_]) (j:=i33.toNat); rw [N] at a
 refine ze 11 [11,12,13,14] rfl (lq underlying194 Nn (aa d5) .n (.s (aa (wa d1))) G) (Jb Ib) (la 12 [12,13,14] rfl (la 13 [13,14] rfl (Kb rfl rfl rfl rfl (Gb rfl) (Je Am (aa (wa d4)) (aa (wa d2)) (a.get d2).Me a d1 Ib rfl kb Ma ?_))))
 clear a; intro Y a
 refine ⟨Oa.z,?_⟩
 refine Hd (za ?_)
 exact ⟨_,_,rfl,(Ee (qb (pf ta))),_,_,_,_,rfl,h,ga.r,a,L⟩
 rintro _ t Z ⟨P,i,k,d,rfl,h,Q,a,R⟩
 unfold cv at h
 refine Vb (zh (Wc (ai pb))) ?_
 obtain rfl:=Ea h
 refine Li rfl ?_
 replace a:ka P J _ (.ba U 192 [.pointer (some ⟨c,0,none⟩)]::.ba c 196 [.pointer (some ⟨e,f,none⟩),.pointer (some ⟨Lg,g,none⟩),k]::.row k 193 1 i.length (Xb d)::(gb d++O)):=a
 exact ⟨_,_,_,rfl,Q,a,R⟩
def az (q:Zb→va→(List (List (List UInt8×Ya)))→(List Wa)→Option (Int×List (List (List UInt8×Ya)))):Prop:=∀ {I:M} {J w:World} {O:List Wb} (i:ga Fc I) {U:Nat} {b:Zb} {nb Lb:Nat} {a5:Option Addr} {Tc Ie:Nat} {a:va} {Qc Od:Nat} {uc:Option Addr} {Ve:Nat} {Jc:Option Addr} {bg:Nat} {c:List (List (List UInt8×Ya))} {Ec:Value} {Rb:List (Nat×List MapEntry×Nat)} {d:List Wa} {f:Option Addr} {g:Nat} {r:Int×List (List (List UInt8×Ya))} (m7:Ka I a5 Tc b.defs) (m9:rf I Ie b.named) (m10:dd I nb Lb [.slice a5 b.defs.length Tc,.map (some Ie)]) (m16:Ka I uc Ve a.Params) (m19:Ka I Jc bg a.Body) (m20:dd I Qc Od [.int .i64 a.Kind,S a.Name,.int .i64 a.zb.Kind,S a.zb.Nb,.int .i64 a.Hc.Kind,S a.Hc.Nb,.int .i64 a.oe,.slice uc a.Params.length Ve,.slice Jc a.Body.length bg]) (m24:Bd I Rb c) (j:Ka I f g d) (h:q b a c d=some r) (k:ka I J w (.ba U 196 [.pointer (some ⟨nb,Lb,none⟩),.pointer (some ⟨Qc,Od,none⟩),Ec]::.row Ec 193 1 c.length (Xb Rb)::(gb Rb++O))),Sb prog 107 [.pointer (some ⟨U,0,none⟩),.slice f d.length g] w (fun v w'=>∃ (na:M) (v28:Value) (e:List (Nat×List MapEntry×Nat)),v=.int .i64 r.1∧ga I na∧ka na J w' (.ba U 196 [.pointer (some ⟨nb,Lb,none⟩),.pointer (some ⟨Qc,Od,none⟩),v28]::.row v28 193 1 r.2.length (Xb e)::(gb e++O))∧Bd na e r.2)
def lz (q:Zb→va→(List (List (List UInt8×Ya)))→Wa→Option (Int×List (List (List UInt8×Ya)))):Prop:=∀ {I:M} {J w:World} {O:List Wb} (m:ga Fc I) {U:Nat} {c:Zb} {nb Lb:Nat} {a5:Option Addr} {Tc Ie:Nat} {a:va} {Qc Od:Nat} {uc:Option Addr} {Ve:Nat} {Jc:Option Addr} {bg:Nat} {d:List (List (List UInt8×Ya))} {Ec:Value} {Rb:List (Nat×List MapEntry×Nat)} {b:Wa} {f g:Nat} {i:Option Addr} {c28:Nat} {j:Option Addr} {c31:Nat} {k:Option Addr} {l:Nat} {r:Int×List (List (List UInt8×Ya))} (m7:Ka I a5 Tc c.defs) (m9:rf I Ie c.named) (m10:dd I nb Lb [.slice a5 c.defs.length Tc,.map (some Ie)]) (m16:Ka I uc Ve a.Params) (m19:Ka I Jc bg a.Body) (m20:dd I Qc Od [.int .i64 a.Kind,S a.Name,.int .i64 a.zb.Kind,S a.zb.Nb,.int .i64 a.Hc.Kind,S a.Hc.Nb,.int .i64 a.oe,.slice uc a.Params.length Ve,.slice Jc a.Body.length bg]) (m24:Bd I Rb d) (n:Ka I i c28 b.X.Kids) (m32:Ka I j c31 b.Body) (o:Ka I k l b.jd) (p:dd I f g [.int .i64 b.Kind,S b.Name,.int .i64 b.X.Kind,.int .i64 b.X.N,S b.X.Name,.slice i b.X.Kids.length c28,.slice j b.Body.length c31,.slice k b.jd.length l]) (h:q c a d b=some r) (s:ka I J w (.ba U 196 [.pointer (some ⟨nb,Lb,none⟩),.pointer (some ⟨Qc,Od,none⟩),Ec]::.row Ec 193 1 d.length (Xb Rb)::(gb Rb++O))),Sb prog 120 [.pointer (some ⟨U,0,none⟩),.pointer (some ⟨f,g,none⟩)] w (fun v w'=>∃ (na:M) (v37:Value) (e:List (Nat×List MapEntry×Nat)),v=.int .i64 r.1∧ga I na∧ka na J w' (.ba U 196 [.pointer (some ⟨nb,Lb,none⟩),.pointer (some ⟨Qc,Od,none⟩),v37]::.row v37 193 1 r.2.length (Xb e)::(gb e++O))∧Bd na e r.2)
structure hx (a:Ln):Prop where
  sj:az a.sj
  Wk:lz a.Wk
theorem TC {self:Ln} (N:hx self):az (sj self):=by
 intro I J w O x U C nb Lb a5 Tc Ie D Qc Od uc Ve Jc bg le Ec Rb E ne Ne r m7 m9 m10 m16 m19 m20 m24 P h b
 unfold sj at h
 refine qs func107 rfl (frm:=_::_::Wf (Xe [])) rfl (ea ?_)
 refine wl (Ji (aa d0) rfl b ?_); clear b; intro F of wf b; refine fa ?_
 refine st (ob ?_)
 refine Ub (rg 7 10) (by decide) (fun m w=>∃ j k u l,m=(rh (Rc 7 []))∧dt self E C D k=some r∧ga I j∧ka j J w (.ba U 196 [.pointer (some ⟨nb,Lb,none⟩),.pointer (some ⟨Qc,Od,none⟩),u]::.row u 193 1 k.length (Xb l)::.ba F 192 [.pointer (some ⟨U,0,none⟩)]::(gb l++O))∧Bd j l k) (by rintro _ _ ⟨_,_,_,_,rfl,_⟩; rfl) ?_ ?_
 refine Td b ?_; clear b; intro If b
 refine Pd (Fb 0 [0,8,9,10] rfl (jb Tm (aa d2) ((b.ba d0).cell d0)) sd (Fb 1 [1,2,3,4,7,8,9,10] rfl (jb Tm (aa d2) ((b.ba d0).cell d0)) Yd (la 2 [2,3,4,7,8,9,10] rfl (la 3 [3,4,7,8,9,10] rfl (Fb 4 [4,7,8,9,10] rfl (jb Am (aa (wa d0)) ((b.ba d1).cell d2)) (Jb kb) ?_)))))
 refine Kb rfl rfl rfl rfl (Gb rfl) (hj b ?_); clear b; intro y dg bi b; refine fa ?_
 refine ⟨(Oa.s (jb Am (aa (wa d0)) ((b.ba d2).cell d2)) (Oa.s (jb Tm (aa d2) ((b.ba d1).cell d0)) (Oa.s (jb Tm (aa d2) ((b.ba d1).cell d0)) Oa.z))),?_⟩
 refine Kb rfl rfl rfl rfl (Gb rfl) (xd underlying194 Nn (fb.s (aa (wa d2)) rfl fb.z) rfl rfl b ?_); clear b; intro ci ii li b; refine fa ?_
 refine ⟨(Oa.s (jb Am (aa (wa d0)) ((b.ba d3).cell d2)) (Oa.s (jb Tm (aa d2) ((b.ba d2).cell d0)) (Oa.s (jb Tm (aa d2) ((b.ba d2).cell d0)) Oa.z))),?_⟩
 obtain ⟨pi,G,h⟩:=ha h
 have Q:=dw G
 refine Kb rfl rfl rfl rfl (Gb rfl) (HB (κ:=List UInt8) (β:=Ya) underlying194 Nn rfl (aa (wa d1)) (aa (wa d3)) b d4 (b.ba d0).cells G (by decide) ?_); clear b; intro Pi kk S T b; cases (show _=S from T)
 replace b:=Sep.te b hd; refine fa ?_
 replace b:=(((b.drop ia.z).da bb).da bb).da bb
 rw [Xy Rb y 0 []] at b; replace b:=b.cC (pre:=[_,_,_])
 have A:=Bd.push (e:=(y,[],0)) m24 (je.nil (κ:=List UInt8) (β:=Ya) (μ:=I) (c:=0)); rw [← Q.1] at A
 generalize mk:(Rb++[(y,[],0)])=ok at b A
 refine ⟨(Oa.s (jb Tm (aa d2) ((b.ba d0).cell d0)) Oa.z),?_⟩
 refine la 8 [8,9,10] rfl (la 9 [9,10] rfl (Kb rfl rfl rfl rfl (Gb rfl) (Je Am (aa (wa d6)) (aa (wa d4)) (b.get d2).Me b d1 Ib rfl kb Ma ?_)))
 clear b; intro dl b
 refine ⟨Oa.z,?_⟩
 refine Hd (za ?_)
 replace b:=(b.da Eb).da Eb
 exact ⟨_,_,rfl,(cf (qb ta)),_,_,_,_,rfl,h,ga.r,b,A⟩
 rintro _ t el ⟨V,k,u,l,rfl,h,f,b,W⟩
 unfold dt at h
 refine Vb (Jh (Wc pb)) (ra (ea (wl (Ja (Wt hb (sa (aa d2) hb)) (ma (Jb sd)) (wl (Bo (aa (wa d7)) hb Ma (ob (ea (st (wl (Ja (Qd underlying59 (aa (wa d8))) (ma (Jb Ed)) (st (ja (Qb ?_))))))))))))))
 refine Se (rg 4 3++rg 21 11) (by decide) (fun n m w=>∃ j i74 v v75 q,m=(tf (Yg 4 (yd (kg (.i (.int .i64 i74)::(Rc 21 (Sc 31 [])))))))∧To self E C D n i74 v=some r∧ga V j∧ka j J w (.ba U 196 [.pointer (some ⟨nb,Lb,none⟩),.pointer (some ⟨Qc,Od,none⟩),v75]::.row v75 193 1 v.length (Xb q)::.ba F 192 [.pointer (some ⟨U,0,none⟩)]::(gb q++O))∧Bd j q v) (by rintro _ _ _ ⟨_,_,_,_,_,rfl,_⟩; rfl) _ _ (gd (ue (xb (Md (Na (qb (lb ta))))))) ⟨_,0,k,u,l,rfl,h,ga.r,b,W⟩ ?_
 rintro B _ t Mf ⟨nl,i74,v,v75,q,rfl,h,d,b,H⟩
 rcases B with _|B
 cases h
 unfold To at h
 refine Te (Ff (qh (Dd (sg (kc (Wc (Xc pb))))))) (ea (st (ob ?_)))
 refine Za h ?_ ?_
 intro X h
 refine Va (ra (db (Qb (ea ?_))))
 iterate 2 refine st ?_
 refine ob ?_
 refine Td b ?_; clear b; intro ol b
 refine Pd (Fb 0 [0,4,5] rfl (jb Tm (aa d2) ((b.ba d2).cell d0)) (oc ec) (la 1 [1,3,4,5] rfl (la 2 [2,3,4,5] rfl ?_)))
 obtain ⟨pl,Y,h⟩:=ha h
 obtain ⟨ul,am,em,Z,f113,gc⟩:=Pc.elem (P.up (f.t d)) Y
 obtain ⟨hm,c116,lm,c119,pm,sm,rfl,lc,rc,fd⟩:=Wa.o gc
 refine ze 3 [3,4,5] rfl (Mc underlying59 Yf (aa (Sa d4)) (aa (Sa d5)) Z) (oc ad) ?_
 obtain ⟨id,md,h⟩:=ha h
 replace b:=(b.da Da).da Da
 replace b:=Sep.Ld (a:=[_,_]) (p:=[_]) (M:=gb q) (R:=O) b
 refine Kb rfl rfl rfl rfl (Gb rfl) (td XF nd (sa (aa (Sa d3)) (sa (aa (Sa d6)) hb)) (N.Wk (x.t (f.t d)) (m7.up (f.t d)) (m9.up (f.t d)) (m10.up (f.t d)) (m16.up (f.t d)) (m19.up (f.t d)) (m20.up (f.t d)) H lc rc fd f113 md b) ?_)
 rintro _ Nm ⟨fn,v127,K,rfl,g,b,L⟩
 replace b:=Sep.Ld (a:=[_,_]) (p:=gb K) (M:=[_]) (R:=O) b
 refine fa ?_
 refine ⟨Oa.z,?_⟩
 refine la 5 [5] rfl (Hd (ra (ea ?_)))
 iterate 2 refine st ?_
 refine ja ?_
 refine Za h ?_ ?_
 intro rd h
 refine ea ?_
 iterate 2 refine st ?_
 refine ja (Ra ?_)
 refine (fun h=>Ab (Fa (Fa (Ab (Fa h))))) ?_
 obtain ⟨on,wd,h⟩:=ha h
 replace b:=((b.da Da).da Da).da Eb
 refine mj iB (Jz (x.t (f.t (d.t g))) (m7.up (f.t (d.t g))) (m9.up (f.t (d.t g))) (m10.up (f.t (d.t g))) (m16.up (f.t (d.t g))) (m19.up (f.t (d.t g))) (m20.up (f.t (d.t g))) L wd b) ?_
 rintro _ un ⟨wn,Fn,In,rfl,Fd,b,Id⟩
 obtain rfl:=Ea h
 refine vg rfl (Qa.s (.t d4) Qa.z) ?_
 replace b:=b.drop ia.z
 exact ⟨_,_,_,rfl,(f.t (d.t (g.t Fd))),b,Id⟩
 intro rd h
 refine Va ?_
 refine (fun h=>Pb (ra h)) ?_
 refine eb ?_
 obtain ⟨i137,be,h⟩:=ha h
 refine wl (Ja (Gd (aa (Sa d0)) Ba be) (ma (qd kb)) (st (La (za ?_))))
 exact ⟨B,_,_,rfl,(gd (ue (xb (Md (Na (qb (lb ta))))))),⟨_,i137,id.2,v127,K,rfl,h,(d.t g),b,L⟩,Nat.lt_succ_self _⟩
 intro X h
 refine ke ?_
 refine (fun h=>jc (jc (pe h))) ?_
 refine ra (ea (st (ja (Ra ?_))))
 obtain ⟨co,ce,h⟩:=ha h
 replace b:=((b.da Da).da Da).da Eb
 refine mj iB (Jz (x.t (f.t d)) (m7.up (f.t d)) (m9.up (f.t d)) (m10.up (f.t d)) (m16.up (f.t d)) (m19.up (f.t d)) (m20.up (f.t d)) H ce b) ?_
 rintro _ go ⟨io,no,ro,rfl,ge,b,he⟩
 obtain rfl:=Ea h
 refine vg rfl (Qa.s (.t d4) Qa.z) ?_
 replace b:=b.drop ia.z
 exact ⟨_,_,_,rfl,(f.t (d.t ge)),b,he⟩
theorem pD {fu:Nat} {self:Ln} (L:hx self):lz (Wk fu self):=by
 intro I J w O l U N nb Lb a5 Tc Ie P Qc Od uc Ve Jc bg g Ec Rb v qr wr Fr c28 Or c31 cs ds r m7 m9 m10 m16 m19 m20 m24 x m32 id j h b
 unfold Wk at h
 refine enter func120 rfl (frm:=_::_::Ze (Ze (Ze (Ze [])))) rfl (ea (st (ob (ea ?_))))
 iterate 3 refine st ?_
 refine Ha ((j _ b.a).one d0) (ja ?_)
 refine Ub (rg 4 15++rg 23 179) (by decide +kernel) (fun m w=>∃ k B v40 y,m=(tf (Rc 4 (Hk 14 (tf (nk 23 (nk 73 (nk 123 (Uf 173 (Rl 193 [])))))))))∧Np B=some r∧ga I k∧ka k J w (.ba U 196 [.pointer (some ⟨nb,Lb,none⟩),.pointer (some ⟨Qc,Od,none⟩),v40]::.row v40 193 1 B.length (Xb y)::(gb y++O))∧Bd k y B) (by rintro _ _ ⟨_,_,_,_,rfl,_⟩; rfl) ?_ ?_
 refine Qb (ea ?_)
 iterate 2 refine st ?_
 refine ja ?_
 refine Za h ?_ ?_
 intro md h
 refine ea ?_
 iterate 4 refine st ?_
 obtain ⟨Q,rd,h⟩:=ha h
 replace b:=(b.da Da).da Da
 refine Aa ((fm fu).Gh l m7 m9 m10 m16 m19 m20 m24 x (j.eg 2 4) rd b) ?_
 rintro _ es ⟨gs,rfl,f,b⟩
 refine fa ?_
 iterate 3 refine st ?_
 refine wl (bd Mb b ?_); clear b; intro is ls ms b; refine fa ?_
 refine wl (yb Mb (aa d5) (aa (ib d1)) rfl rfl b d0 rfl Ga Ma ?_)
 clear b; intro os b
 refine st (ob (ea ?_))
 iterate 2 refine st ?_
 refine ja ?_
 refine Za h ?_ ?_
 intro wd h
 refine ea ?_
 iterate 2 refine st ?_
 refine ja (Ra ?_)
 refine (fun h=>Fa (Ab (Fa (Fa h)))) ?_
 obtain rfl:=Ea h
 refine Ob rfl d4 ?_
 replace b:=b.drop ia.z
 exact ⟨_,_,_,rfl,f,b,(m24.up f)⟩
 intro wd h
 refine Va (ra (db (ea ?_)))
 iterate 4 refine st ?_
 refine Ha ((j _ (f _ b.a)).one d1) ?_
 obtain ⟨rs,Fd,h⟩:=ha h
 replace b:=(b.da Eb).da Eb
 replace b:=Sep.Ld (a:=[_,_]) (p:=[_]) (M:=gb Rb) (R:=O) b
 refine Aa (Yw (l.t f) (m7.up f) (m9.up f) (m10.up f) (m16.up f) (m19.up f) (m20.up f) (m24.up f) Fd b) ?_
 rintro _ us ⟨vs,rfl,A,b⟩
 replace b:=Sep.Ld (a:=[_,_]) (p:=gb Rb) (M:=[_]) (R:=O) b
 refine fa ?_
 iterate 3 refine st ?_
 refine wl (bd Mb b ?_); clear b; intro ws xs ys b; refine fa ?_
 refine wl (yb Mb (aa d7) (aa (Bb d3)) rfl rfl b d0 rfl Ga Ma ?_)
 clear b; intro Os b
 refine st (rb (st (ja ?_)))
 refine ed h ?_ ?_
 intro Id h
 refine ea (st (ja (Ra ?_)))
 refine (fun h=>Fa (Ab (Fa (Fa h)))) ?_
 obtain rfl:=Ea h
 refine Ob rfl d4 ?_
 replace b:=(b.drop ia.z).drop (ia.s (ia.s ia.z))
 exact ⟨_,_,_,rfl,(f.t A),b,(m24.up (f.t A))⟩
 intro Id h
 refine Va (ra ?_)
 refine Td b ?_; clear b; intro gt b
 refine Pd (la 0 [0,1,2,3,10,11,17] rfl (la 1 [1,2,3,10,11,17] rfl (la 2 [2,3,10,11,17] rfl (Fb 3 [3,10,11,17] rfl (jb Am (aa (Bb d8)) ((b.ba d1).cell d2)) (Xd Ed) (la 4 [4,5,6,7,8,9,10,11,17] rfl (la 5 [5,6,7,8,9,10,11,17] rfl (la 6 [6,7,8,9,10,11,17] rfl (Fb 7 [7,8,9,10,11,17] rfl (jb Am (aa (sb d2)) ((b.ba d1).cell d2)) (ee ec) (ze 8 [8,9,10,11,17] rfl (wj underlying194 (aa (sb d3)) (b.get d2).yj) (ee hd) ?_)))))))))
 obtain ⟨i57,be,h⟩:=ha h
 refine ze 9 [9,10,11,17] rfl (Kl (aa (sb d4)) Ba be) (ee cd) ?_
 obtain ⟨ce,ge,h⟩:=ha h
 obtain ⟨it,lt,mt,rt,ut,he,f67,le,ne⟩:=Row.mapElem (b.get d2) (m24.up (f.t A)) ge
 refine ze 10 [10,11,17] rfl (Mc underlying194 Nn (aa (Bb d9)) (aa (sb d5)) he) (ee ad) (Fb 11 [11,17] rfl (jb Nn (aa (sb d6)) ((f67 _ _ (b.get d2)).one d0)) (ee sd) (la 12 [12,13,14,15,17] rfl (la 13 [13,14,15,17] rfl (la 14 [14,15,17] rfl (Fb 15 [15,17] rfl (jb Hb (aa (Gc d0)) ((j _ ((f.t A) _ b.a)).one d1)) (zg kb) (Fb 16 [16,17] rfl (Re Mb (aa d5) (b.ba d3).cells rfl) (zg Ib) ?_))))))
 refine Kb rfl rfl rfl rfl (Gb rfl) (Rx (pre:=[_,_,_,_]) (κ:=List UInt8) (β:=Ya) (kk:=v.Name) (xx:=Q.1) underlying193 underlying9 (aa (sb d7)) (aa (Gc d1)) (aa (Gc d2)) ⟨_,rfl,rfl⟩ b le ne (m24.up (f.t A)) Ma ?_); clear b; intro wt Mf Ne of wf b; rw [of,wf] at b
 refine ⟨Oa.z,?_⟩
 refine Hd ?_
 refine (fun h=>Pb (za h)) ?_
 replace b:=(b.drop ia.z).drop (ia.s (ia.s ia.z))
 exact ⟨_,_,rfl,(gd (qb (Ah (gd (Vf (Vf (Vf (zc (Uh ta))))))))),_,(g.set i57.toNat (cc ce v.Name Q.1)),_,_,rfl,h,(f.t A),b,Ne⟩
 intro md h
 refine ea ?_
 iterate 2 refine st ?_
 refine ja ?_
 refine Za h ?_ ?_
 intro If h
 refine ea ?_
 iterate 4 refine st ?_
 refine Ha ((j _ b.a).one d1) ?_
 obtain ⟨hu,dg,h⟩:=ha h
 replace b:=(b.da Da).da Da
 refine Aa (Yw l m7 m9 m10 m16 m19 m20 m24 dg b) ?_
 rintro _ pu ⟨bv,rfl,n,b⟩
 refine fa ?_
 iterate 3 refine st ?_
 refine wl (bd Mb b ?_); clear b; intro hw kw lw b; refine fa ?_
 refine wl (yb Mb (aa d9) (aa (Oc d2)) rfl rfl b d0 rfl Ga Ma ?_)
 clear b; intro ww b
 refine st (ob (ea ?_))
 iterate 2 refine st ?_
 refine ja ?_
 refine pj h ?_ ?_
 intro bi h
 refine ea (st (ja (Ra ?_)))
 refine (fun h=>Fa (Ab (Fa (Fa h)))) ?_
 obtain rfl:=Ea h
 refine Ob rfl d4 ?_
 replace b:=b.drop ia.z
 exact ⟨_,_,_,rfl,n,b,(m24.up n)⟩
 intro bi h
 refine Va (ra (db ?_))
 refine Td b ?_; clear b; intro ex b
 refine Pd (la 0 [0,5,6] rfl (la 1 [1,2,3,5,6] rfl (la 2 [2,3,5,6] rfl (la 3 [3,5,6] rfl (Fb 4 [4,5,6] rfl (Re Mb (aa d9) (b.ba d0).cells rfl) (qg Ga) ?_)))))
 obtain ⟨rx,ci,h⟩:=ha h
 replace b:=(b.da Eb).da Eb
 replace b:=Sep.Ld (a:=[_,_]) (p:=[_]) (M:=gb Rb) (R:=O) b
 refine Kb rfl rfl rfl rfl (Gb rfl) (td Gn nd (sa (aa (Oc d6)) (sa (aa (Oc d9)) (sa (aa (Nc d0)) hb))) ((fm fu).Ng (l.t n) (m7.up n) (m9.up n) (m10.up n) (m16.up n) (m19.up n) (m20.up n) (m24.up n) (x.up n) ((j.up n).eg 2 4) ci b) ?_)
 rintro _ zx ⟨ty,rfl,S,b⟩
 replace b:=Sep.Ld (a:=[_,_]) (p:=gb Rb) (M:=[_]) (R:=O) b
 refine fa ?_
 refine ⟨Oa.z,?_⟩
 refine la 6 [6] rfl (Hd (ra (Ra ?_)))
 refine (fun h=>Ab (Fa (Fa h))) ?_
 obtain rfl:=Ea h
 refine Ob rfl d4 ?_
 replace b:=b.drop (ia.s (ia.s ia.z))
 exact ⟨_,_,_,rfl,(n.t S),b,(m24.up (n.t S))⟩
 intro If h
 refine db (ea ?_)
 iterate 2 refine st ?_
 refine ja ?_
 refine Ub ([84]) (by decide) (fun m w=>∃ k E,m=(Sd (qc (yd (vf (.i (.bool E)::(kh (Sc 84 [])))))))∧bp fu self v N P g E=some r∧ga I k∧ka k J w (.ba U 196 [.pointer (some ⟨nb,Lb,none⟩),.pointer (some ⟨Qc,Od,none⟩),Ec]::.row Ec 193 1 g.length (Xb Rb)::(gb Rb++O))) (by rintro _ _ ⟨_,_,rfl,_⟩; rfl) ?_ ?_
 refine Za h ?_ ?_
 intro ii h
 refine Va (za ?_)
 exact ⟨_,_,rfl,(Yb (Xa (xb (Yc (Na (Ee (lb ta))))))),_,(decide (v.Kind=3)),rfl,h,ga.r,b⟩
 intro ii h
 refine eb ?_
 iterate 2 refine st ?_
 refine La (za ?_)
 exact ⟨_,_,rfl,(Yb (Xa (xb (Yc (Na (Ee (lb ta))))))),_,(decide (v.Kind=4)),rfl,h,ga.r,b⟩
 rintro _ t sz ⟨T,E,rfl,h,c,b⟩
 unfold bp at h
 refine Vb (Ud (vc (Dd (Jf (kc (zh (Xc pb))))))) (ra ?_)
 refine ed h ?_ ?_
 intro li h
 refine db (db ?_)
 refine Td b ?_; clear b; intro Rz b
 refine Pd (la 0 [0,5,6] rfl (la 1 [1,2,3,5,6] rfl (la 2 [2,3,5,6] rfl (la 3 [3,5,6] rfl ?_))))
 obtain ⟨AC,pi,h⟩:=ha h
 refine Kb rfl rfl rfl rfl (Gb rfl) (td Tx nd hb (ko (l.t c) pi b) ?_)
 rintro _ GE ⟨LE,rfl,d,b⟩
 refine fa ?_
 refine ⟨Oa.z,?_⟩
 obtain ⟨NE,Pi,h⟩:=ha h
 replace b:=(b.da Da).da Da
 refine Kb rfl rfl rfl rfl (Gb rfl) (td Gn nd (sa (aa (Nc d5)) (sa (aa (Nc d8)) (sa (aa (Nc d9)) hb))) ((fm fu).Ng (l.t (c.t d)) (m7.up (c.t d)) (m9.up (c.t d)) (m10.up (c.t d)) (m16.up (c.t d)) (m19.up (c.t d)) (m20.up (c.t d)) (m24.up (c.t d)) (x.up (c.t d)) ((j.up (c.t d)).eg 2 4) Pi b) ?_)
 rintro _ WF ⟨mk,rfl,e,b⟩
 refine fa ?_
 refine ⟨Oa.z,?_⟩
 refine la 6 [6] rfl (Hd (ra (ea ?_)))
 iterate 2 refine st ?_
 refine ja ?_
 refine Za h ?_ ?_
 intro ok h
 refine ea ?_
 iterate 2 refine st ?_
 refine ja (Ra ?_)
 refine (fun h=>Fa (Ab (Fa (Fa h)))) ?_
 obtain rfl:=Ea h
 refine Ob rfl d4 ?_
 replace b:ka mk J _ (.ba U 196 [.pointer (some ⟨nb,Lb,none⟩),.pointer (some ⟨Qc,Od,none⟩),Ec]::.row Ec 193 1 g.length (Xb Rb)::(gb Rb++O)):=b
 exact ⟨_,_,_,rfl,(c.t (d.t e)),b,(m24.up (c.t (d.t e)))⟩
 intro ok h
 refine Va (ra (db (ea ?_)))
 iterate 4 refine st ?_
 refine Ha ((j _ ((c.t (d.t e)) _ b.a)).one d6) ?_
 obtain ⟨F,dl,h⟩:=ha h
 replace b:=(b.da Da).da Da
 refine Aa (L.sj (l.t (c.t (d.t e))) (m7.up (c.t (d.t e))) (m9.up (c.t (d.t e))) (m10.up (c.t (d.t e))) (m16.up (c.t (d.t e))) (m19.up (c.t (d.t e))) (m20.up (c.t (d.t e))) (m24.up (c.t (d.t e))) (m32.up (c.t (d.t e))) dl b) ?_
 rintro _ RK ⟨el,C,D,rfl,u,b,V⟩
 refine fa (st (ob ?_))
 refine Ub (rg 100 8) (by decide) (fun m w=>∃ k G,m=(Sd (Sd (ei 100 (.i (.bool G)::[]))))∧Nq self v N P F G=some r∧ga el k∧ka k J w (.ba U 196 [.pointer (some ⟨nb,Lb,none⟩),.pointer (some ⟨Qc,Od,none⟩),C]::.row C 193 1 F.2.length (Xb D)::(gb D++O))) (by rintro _ _ ⟨_,_,rfl,_⟩; rfl) ?_ ?_
 refine eb ?_
 iterate 3 refine st ?_
 refine me 102 h ?_ ?_
 intro nl h
 refine oa rfl rfl (oa rfl rfl (oa rfl rfl (oa rfl rfl (oa rfl rfl (st (La (za ?_)))))))
 exact ⟨_,_,rfl,(Yb (Yb (ag (Na ta)))),_,true,rfl,h,ga.r,b⟩
 intro nl h
 refine Ta rfl (Ta rfl (Ta rfl (mc rfl (Pa d2) (de Uc (aa (Pa d5)) ((j _ ((c.t (d.t (e.t u))) _ b.a)).one d0) (ma (dc ad)) (Ta rfl (st (La (za ?_))))))))
 exact ⟨_,_,rfl,(Yb (Yb (ag (Na ta)))),_,(decide (v.Kind=4)),rfl,h,ga.r,b⟩
 rintro _ t WL ⟨ol,G,rfl,h,q,b⟩
 unfold Nq at h
 refine Vb (Ud (Ud (xi (kc pb)))) (ra ?_)
 refine ed h ?_ ?_
 intro pl h
 refine ea ?_
 iterate 2 refine st ?_
 refine ja (Ra ?_)
 refine (fun h=>Fa (Ab (Fa (Fa h)))) ?_
 obtain rfl:=Ea h
 refine Ob rfl d4 ?_
 replace b:ka ol J _ (.ba U 196 [.pointer (some ⟨nb,Lb,none⟩),.pointer (some ⟨Qc,Od,none⟩),C]::.row C 193 1 F.2.length (Xb D)::(gb D++O)):=b
 exact ⟨_,_,_,rfl,(c.t (d.t (e.t (u.t q)))),b,(V.up q)⟩
 intro pl h
 refine Va (ra (ea ?_))
 iterate 4 refine st ?_
 refine Ha ((j _ ((c.t (d.t (e.t (u.t q)))) _ b.a)).one d7) ?_
 obtain ⟨ul,am,h⟩:=ha h
 replace b:=(b.da Da).da Da
 refine Aa (L.sj (l.t (c.t (d.t (e.t (u.t q))))) (m7.up (c.t (d.t (e.t (u.t q))))) (m9.up (c.t (d.t (e.t (u.t q))))) (m10.up (c.t (d.t (e.t (u.t q))))) (m16.up (c.t (d.t (e.t (u.t q))))) (m19.up (c.t (d.t (e.t (u.t q))))) (m20.up (c.t (d.t (e.t (u.t q))))) (V.up q) (id.up (c.t (d.t (e.t (u.t q))))) am b) ?_
 rintro _ XL ⟨em,W,X,rfl,hm,b,lm⟩
 refine fa (st (ja (Ra ?_)))
 refine (fun h=>Ab (Fa (Fa h))) ?_
 obtain rfl:=Ea h
 refine Ob rfl d4 ?_
 replace b:ka em J _ (.ba U 196 [.pointer (some ⟨nb,Lb,none⟩),.pointer (some ⟨Qc,Od,none⟩),W]::.row W 193 1 ul.2.length (Xb X)::(gb X++O)):=b
 exact ⟨_,_,_,rfl,(c.t (d.t (e.t (u.t (q.t hm))))),b,lm⟩
 intro li h
 refine ea ?_
 iterate 2 refine st ?_
 refine ja ?_
 refine Za h ?_ ?_
 intro pm h
 refine db (ea ?_)
 iterate 3 refine st ?_
 refine Ha ((b.ba d0).cell d1) ?_
 iterate 2 refine st ?_
 refine Ha ((m20 _ (c _ b.a)).one d0) (st (ja ?_))
 refine Za h ?_ ?_
 intro sm h
 refine ea (st (ja (Ra ?_)))
 refine (fun h=>Fa (Ab (Fa (Fa h)))) ?_
 obtain rfl:=Ea h
 refine Ob rfl d4 ?_
 replace b:ka T J _ (.ba U 196 [.pointer (some ⟨nb,Lb,none⟩),.pointer (some ⟨Qc,Od,none⟩),Ec]::.row Ec 193 1 g.length (Xb Rb)::(gb Rb++O)):=b
 exact ⟨_,_,_,rfl,c,b,(m24.up c)⟩
 intro sm h
 refine Va (ra (db ?_))
 refine Td b ?_; clear b; intro YL b
 refine Pd (la 0 [0,11,12] rfl (la 1 [1,2,3,11,12] rfl (la 2 [2,3,11,12] rfl (la 3 [3,11,12] rfl (la 4 [4,5,6,7,8,9,10,11,12] rfl (la 5 [5,6,7,8,9,10,11,12] rfl (la 6 [6,7,8,9,10,11,12] rfl (Fb 7 [7,8,9,10,11,12] rfl (jb Sn (aa (Pa (ib d2))) ((b.ba d0).cell d1)) (dc (qd ec)) (la 8 [8,9,10,11,12] rfl (la 9 [9,10,11,12] rfl (Fb 10 [10,11,12] rfl (Re Mb (aa (Pa (ib d5))) ((m20 _ (c _ b.a)).eg 2 2) rfl) (dc (qd ad)) ?_)))))))))))
 obtain ⟨ZL,Nm,h⟩:=ha h
 replace b:=(b.da Da).da Da
 refine Kb rfl rfl rfl rfl (Gb rfl) (td Gn nd (sa (aa (Pa (Sa d6))) (sa (aa (Pa (Sa d9))) (sa (aa (Pa (ib d6))) hb))) ((fm fu).Ng (l.t c) (m7.up c) (m9.up c) (m10.up c) (m16.up c) (m19.up c) (m20.up c) (m24.up c) (x.up c) ((j.up c).eg 2 4) Nm b) ?_)
 rintro _ aM ⟨fn,rfl,Y,b⟩
 refine fa ?_
 refine ⟨Oa.z,?_⟩
 refine la 12 [12] rfl (Hd (ra (Ra ?_)))
 refine (fun h=>Ab (Fa (Fa h))) ?_
 obtain rfl:=Ea h
 refine Ob rfl d4 ?_
 replace b:ka fn J _ (.ba U 196 [.pointer (some ⟨nb,Lb,none⟩),.pointer (some ⟨Qc,Od,none⟩),Ec]::.row Ec 193 1 g.length (Xb Rb)::(gb Rb++O)):=b
 exact ⟨_,_,_,rfl,(c.t Y),b,(m24.up (c.t Y))⟩
 intro pm h
 refine ea ?_
 iterate 2 refine st ?_
 refine ja ?_
 refine Za h ?_ ?_
 intro on h
 refine ea ?_
 iterate 3 refine st ?_
 refine Ha ((b.ba d0).cell d1) ?_
 iterate 2 refine st ?_
 refine Ha ((m20 _ (c _ b.a)).one d0) (st (ja ?_))
 refine Za h ?_ ?_
 intro un h
 refine ea (st (ja (Ra ?_)))
 refine (fun h=>Ab (Fa (Fa h))) ?_
 obtain rfl:=Ea h
 refine Ob rfl d4 ?_
 replace b:ka T J _ (.ba U 196 [.pointer (some ⟨nb,Lb,none⟩),.pointer (some ⟨Qc,Od,none⟩),Ec]::.row Ec 193 1 g.length (Xb Rb)::(gb Rb++O)):=b
 exact ⟨_,_,_,rfl,c,b,(m24.up c)⟩
 intro un h
 refine Va ?_
 refine (fun h=>Pb (za h)) ?_
 exact ⟨_,_,rfl,(gd (qb (Ah (gd (Vf (Vf (Vf (zc (Uh ta))))))))),_,g,_,_,rfl,h,c,b,(m24.up c)⟩
 intro on h
 refine ea ?_
 iterate 2 refine st ?_
 refine ja ?_
 refine Za h ?_ ?_
 intro wn h
 refine db ?_
 refine Td b ?_; clear b; intro bM b
 refine Pd (la 0 [0,1,2,3,8,9,10,11,12,13] rfl (la 1 [1,2,3,8,9,10,11,12,13] rfl (la 2 [2,3,8,9,10,11,12,13] rfl (Fb 3 [3,8,9,10,11,12,13] rfl (jb gu (aa (Pa (sb d3))) ((b.ba d0).cell d0)) (dc (ee hd)) (la 4 [4,5,6,7,8,9,10,11,12,13] rfl (la 5 [5,6,7,8,9,10,11,12,13] rfl (la 6 [6,7,8,9,10,11,12,13] rfl (Fb 7 [7,8,9,10,11,12,13] rfl (jb Hb (aa (Pa (sb d7))) ((j _ (c _ b.a)).one d1)) (dc (ee Yd)) ?_))))))))
 obtain ⟨cM,Fn,h⟩:=ha h
 refine Kb rfl rfl rfl rfl (Gb rfl) (td Sx nd (sa (aa (Pa (sb d4))) (sa Ba (sa (aa (Pa (sb d8))) hb))) (ev (l.t c) (m7.up c) (m9.up c) (m10.up c) Fn b) ?_)
 rintro _ dM ⟨In,eM,rfl,o,b,co⟩
 refine fa ?_
 refine ⟨Oa.z,?_⟩
 refine la 9 [9,10,11,12,13] rfl (la 10 [10,12,13] rfl (la 11 [11,13] rfl (la 12 [12,13] rfl (la 13 [13] rfl (Hd (ra (db (ea ?_))))))))
 iterate 2 refine st ?_
 refine ja ?_
 refine pj h ?_ ?_
 intro go h
 refine ea (st (ja (Ra ?_)))
 refine (fun h=>Fa (Ab (Fa (Fa h)))) ?_
 obtain rfl:=Ea h
 refine Ob rfl d4 ?_
 replace b:ka In J _ (.ba U 196 [.pointer (some ⟨nb,Lb,none⟩),.pointer (some ⟨Qc,Od,none⟩),Ec]::.row Ec 193 1 g.length (Xb Rb)::(gb Rb++O)):=b
 exact ⟨_,_,_,rfl,(c.t o),b,(m24.up (c.t o))⟩
 intro go h
 refine Va (ra (db ?_))
 refine Td b ?_; clear b; intro fM b
 refine Pd (la 0 [0,8,9] rfl (la 1 [1,2,3,8,9] rfl (la 2 [2,3,8,9] rfl (la 3 [3,8,9] rfl (la 4 [4,5,6,7,8,9] rfl ?_)))))
 obtain ⟨gM,io,h⟩:=ha h
 obtain ⟨hM,iM,jM,rfl,f130,no⟩:=uh.get co io
 obtain ⟨kM,lM,mM,nM,rfl,oM,pM⟩:=no
 refine la 5 [5,6,7,8,9] rfl (la 6 [6,7,8,9] rfl (Fb 7 [7,8,9] rfl (Re Mb (aa (Pa (Oc d0))) ((f130 _ b.a).eg 2 2) rfl) (dc (Zf kb)) ?_))
 obtain ⟨qM,ro,h⟩:=ha h
 replace b:=(b.da Da).da Da
 refine Kb rfl rfl rfl rfl (Gb rfl) (td Gn nd (sa (aa (Pa (Gc d4))) (sa (aa (Pa (Gc d7))) (sa (aa (Pa (Oc d1))) hb))) ((fm fu).Ng (l.t (c.t o)) (m7.up (c.t o)) (m9.up (c.t o)) (m10.up (c.t o)) (m16.up (c.t o)) (m19.up (c.t o)) (m20.up (c.t o)) (m24.up (c.t o)) (x.up (c.t o)) ((j.up (c.t o)).eg 2 4) ro b) ?_)
 rintro _ rM ⟨to,rfl,Z,b⟩
 refine fa ?_
 refine ⟨Oa.z,?_⟩
 refine la 9 [9] rfl (Hd (ra (Ra ?_)))
 refine (fun h=>Ab (Fa (Fa h))) ?_
 obtain rfl:=Ea h
 refine Ob rfl d4 ?_
 replace b:ka to J _ (.ba U 196 [.pointer (some ⟨nb,Lb,none⟩),.pointer (some ⟨Qc,Od,none⟩),Ec]::.row Ec 193 1 g.length (Xb Rb)::(gb Rb++O)):=b
 exact ⟨_,_,_,rfl,(c.t (o.t Z)),b,(m24.up (c.t (o.t Z)))⟩
 intro wn h
 refine ea ?_
 iterate 2 refine st ?_
 refine ja ?_
 refine Za h ?_ ?_
 intro Do h
 refine ea ?_
 iterate 4 refine st ?_
 obtain ⟨gc,Go,h⟩:=ha h
 replace b:=(b.da Da).da Da
 refine Aa ((fm fu).Gh (l.t c) (m7.up c) (m9.up c) (m10.up c) (m16.up c) (m19.up c) (m20.up c) (m24.up c) (x.up c) ((j.up c).eg 2 4) Go b) ?_
 rintro _ sM ⟨ap,rfl,H,b⟩
 refine fa ?_
 iterate 3 refine st ?_
 refine wl (bd Mb b ?_); clear b; intro tM uM vM b; refine fa ?_
 refine wl (yb Mb (aa (wa d5)) (aa (Pa (Nc d1))) rfl rfl b d0 rfl Ga Ma ?_)
 clear b; intro wM b
 refine st (ob (db ?_))
 refine Ub (rg 183 6) (by decide) (fun m w=>∃ k K,m=(Sd (Sd (Sd (qc (yd (kg (ml 183 (.i (.bool K)::[]))))))))∧ft g gc K=some r∧ga ap k∧ka k J w (.ba U 196 [.pointer (some ⟨nb,Lb,none⟩),.pointer (some ⟨Qc,Od,none⟩),Ec]::.row Ec 193 1 g.length (Xb Rb)::(gb Rb++O))) (by rintro _ _ ⟨_,_,rfl,_⟩; rfl) ?_ ?_
 refine eb ?_
 iterate 3 refine st ?_
 refine me 185 h ?_ ?_
 intro ip h
 refine mc rfl (Pa (Nc d5)) (Dn Mb (aa (wa d5)) (b.ba d0).cells rfl (ma (dc (qg ad))) ?_)
 obtain ⟨jp,mp,h⟩:=ha h
 refine mc rfl (Pa (Nc d5)) (td Mt nd (sa (aa (Pa (Nc d6))) hb) (ep (l.t (c.t H)) mp b) ?_)
 rintro _ xM ⟨yM,rfl,op,b⟩
 refine fa (Ta rfl (st (La (za ?_))))
 replace b:=b.drop ia.z
 exact ⟨_,_,rfl,(Yb (Yb (Yb (Xa (xb (Md (di (Na ta)))))))),_,(!jp),rfl,h,op,b⟩
 intro ip h
 refine oa rfl rfl (oa rfl rfl (oa rfl rfl (st (La (za ?_)))))
 replace b:=b.drop ia.z
 exact ⟨_,_,rfl,(Yb (Yb (Yb (Xa (xb (Md (di (Na ta)))))))),_,false,rfl,h,ga.r,b⟩
 rintro _ t zM ⟨pp,K,rfl,h,lc,b⟩
 unfold ft at h
 refine Vb (Ud (Ud (Ud (vc (Dd (sg (Em (kc pb)))))))) (ra ?_)
 refine Ub ([]) (by decide) (fun m w=>∃ k i153,m=(yd (Og (.i (.int .i64 i153)::[])))∧Uu g i153=some r∧ga pp k∧ka k J w (.ba U 196 [.pointer (some ⟨nb,Lb,none⟩),.pointer (some ⟨Qc,Od,none⟩),Ec]::.row Ec 193 1 g.length (Xb Rb)::(gb Rb++O))) (by rintro _ _ ⟨_,_,rfl,_⟩; rfl) ?_ ?_
 refine ed h ?_ ?_
 intro sp h
 refine eb (st (La (za ?_)))
 exact ⟨_,_,rfl,(xb (ye (Na ta))),_,9,rfl,h,ga.r,b⟩
 intro sp h
 refine Va (za ?_)
 exact ⟨_,_,rfl,(xb (ye (Na ta))),_,gc.2,rfl,h,ga.r,b⟩
 rintro _ t AM ⟨wp,i153,rfl,h,rc,b⟩
 unfold Uu at h
 refine Vb (Dd (Zg (kc pb))) (ra (ea ?_))
 iterate 2 refine st ?_
 refine ja (Ra ?_)
 refine (fun h=>Ab (Fa (Fa h))) ?_
 obtain rfl:=Ea h
 refine Ob rfl d4 ?_
 replace b:ka wp J _ (.ba U 196 [.pointer (some ⟨nb,Lb,none⟩),.pointer (some ⟨Qc,Od,none⟩),Ec]::.row Ec 193 1 g.length (Xb Rb)::(gb Rb++O)):=b
 exact ⟨_,_,_,rfl,(c.t (H.t (lc.t rc))),b,(m24.up (c.t (H.t (lc.t rc))))⟩
 intro Do h
 refine ea ?_
 iterate 2 refine st ?_
 refine ja ?_
 refine Za h ?_ ?_
 intro Op h
 refine ea ?_
 iterate 4 refine st ?_
 obtain ⟨BM,eq,h⟩:=ha h
 replace b:=(b.da Da).da Da
 refine Aa ((fm fu).Gh (l.t c) (m7.up c) (m9.up c) (m10.up c) (m16.up c) (m19.up c) (m20.up c) (m24.up c) (x.up c) ((j.up c).eg 2 4) eq b) ?_
 rintro _ CM ⟨DM,rfl,fd,b⟩
 refine fa ?_
 iterate 3 refine st ?_
 refine wl (bd Mb b ?_); clear b; intro EM FM GM b; refine fa ?_
 refine wl (yb Mb (aa (wa d7)) (aa (Pa (fe d9))) rfl rfl b d0 rfl Ga Ma ?_)
 clear b; intro HM b
 refine st (rb ?_)
 iterate 2 refine st ?_
 refine ja (Ra ?_)
 refine (fun h=>Ab (Fa (Fa h))) ?_
 obtain rfl:=Ea h
 refine Ob rfl d4 ?_
 replace b:=b.drop ia.z
 exact ⟨_,_,_,rfl,(c.t fd),b,(m24.up (c.t fd))⟩
 intro Op h
 refine Va ?_
 refine (fun h=>Pb (za h)) ?_
 exact ⟨_,_,rfl,(gd (qb (Ah (gd (Vf (Vf (Vf (zc (Uh ta))))))))),_,g,_,_,rfl,h,c,b,(m24.up c)⟩
 rintro _ t IM ⟨Eq,B,v40,y,rfl,h,fr,b,or⟩
 unfold Np at h
 refine Vb (Ff (Wc (Ql (Ff (kl (kl (kl (fg (Ym pb))))))))) (ra (ea (st (ja (Ra ?_)))))
 obtain rfl:=Ea h
 refine Ob rfl d4 ?_
 replace b:ka Eq J _ (.ba U 196 [.pointer (some ⟨nb,Lb,none⟩),.pointer (some ⟨Qc,Od,none⟩),v40]::.row v40 193 1 B.length (Xb y)::(gb y++O)):=b
 exact ⟨_,_,_,rfl,fr,b,or⟩
theorem Zw:∀ n,hx (ek n)
  | 0=>⟨(by intro; intros; rename_i h _; cases h),(by intro; intros; rename_i h _; cases h)⟩
  | n+1=>⟨TC (Zw n),pD (Zw n)⟩
theorem qD (o:ga Fc I) {p_1:Zb} {e:va} {r:Int} (m5:Ka I a3 c4 p_1.defs) (m7:rf I dh p_1.named) (m8:dd I U Qf [.slice a3 p_1.defs.length c4,.map (some dh)]) (m13:Ka I xc c12 e.Params) (m16:Ka I uc Ve e.Body) (m17:dd I Fe rl [.int .i64 e.Kind,S e.Name,.int .i64 e.zb.Kind,S e.zb.Nb,.int .i64 e.Hc.Kind,S e.Hc.Nb,.int .i64 e.oe,.slice xc e.Params.length c12,.slice uc e.Body.length Ve]) (h:Pr p_1 e=some r) (b:ka I J w (O)):Sb prog 82 [.pointer (some ⟨U,Qf,none⟩),.pointer (some ⟨Fe,rl,none⟩)] w (fun v w'=>∃ (na:M) ,v=.int .i64 r∧ga I na∧ka na J w' (O)):=by
 unfold Pr at h
 refine enter func82 rfl (frm:=_::_::Ge (Xe (Ze []))) rfl (ea (st (rb ?_)))
 refine wl (hj b ?_); clear b; intro D Ne of b; refine fa ?_
 refine st (ob (db ?_))
 refine Ub (rg 10 11) (by decide) (fun m w=>∃ f u,m=(yd (Rc 10 (Sc 20 (.i (.bool u)::[]))))∧Qq p_1 e u=some r∧ga I f∧ka f J w (.map D [] 0::O)) (by rintro _ _ ⟨_,_,rfl,_⟩; rfl) ?_ ?_
 refine eb ?_
 iterate 3 refine st ?_
 refine Ha ((m17 _ b.a).one d0) ?_
 iterate 2 refine st ?_
 refine me 15 h ?_ ?_
 intro K h
 refine oa rfl rfl (oa rfl rfl (oa rfl rfl (oa rfl rfl (oa rfl rfl (st (La (za ?_)))))))
 exact ⟨_,_,rfl,(xb (qb (lb (Na ta)))),_,true,rfl,h,ga.r,b⟩
 intro K h
 refine Ta rfl (Ta rfl (Ta rfl (mc rfl (wa d5) (de Uc (aa (wa d8)) ((m17 _ b.a).one d0) (ma (Jb Ed)) (Ta rfl (st (La (za ?_))))))))
 exact ⟨_,_,rfl,(xb (qb (lb (Na ta)))),_,(decide (e.Kind=3)),rfl,h,ga.r,b⟩
 rintro _ t wf ⟨E,u,rfl,h,d,b⟩
 unfold Qq at h
 refine Vb (Dd (Wc (Xc (kc pb)))) (ra ?_)
 refine Ub ([4]++rg 7 2++rg 22 27) (by decide +kernel) (fun m w=>∃ (f:M) ,m=(tf (Sc 4 (vf (xf 7 (yd (kg (Uf 22 (Nj 42 []))))))))∧Oq e =some r∧ga E f∧ka f J w (O)) (by rintro _ _ ⟨_,rfl,_⟩; rfl) ?_ ?_
 refine ed h ?_ ?_
 intro L h
 refine ea ?_
 iterate 3 refine st ?_
 refine Ha ((m17 _ (d _ b.a)).one d7) (wl (Ja (Qd underlying58 (aa (Sa d5))) (ma (oc ad)) (st (ja (Qb ?_)))))
 refine Se ([4]++rg 7 2++rg 28 21) (by decide +kernel) (fun n m w=>∃ f i48 p x y,m=(tf (Sc 4 (vf (xf 7 (yd (Kh (.i (.int .i64 i48)::(Uf 28 (Sc 48 [])))))))))∧Pq p_1 e n i48 p=some r∧ga E f∧ka f J w (.map D x y::O)∧je f x y p) (by rintro _ _ _ ⟨_,_,_,_,_,rfl,_⟩; rfl) _ _ (gd (lb (Yc (Zc (xb (lf (Na (zc (lb ta))))))))) ⟨_,0,([]:List (List UInt8×Int)),[],0,rfl,h,ga.r,b,((je.nil (κ:=List UInt8) (β:=Int) (μ:=I) (c:=0)).up d)⟩ ?_
 rintro A _ t If ⟨dg,i48,p,x,y,rfl,h,j,b,F⟩
 rcases A with _|A
 cases h
 unfold Pq at h
 refine Te (Ff (Xc (Jf (Kf (Dd (fi (kc (fg (Xc pb))))))))) (ea (st (ob ?_)))
 refine Za h ?_ ?_
 intro N h
 refine Va (ra (db (Qb (ea ?_))))
 obtain ⟨q,P,h⟩:=ha h
 obtain ⟨bi,ci,ii,Q,f86,R⟩:=Pc.elem (m13.up (d.t j)) P
 obtain rfl:=R
 refine wl (Ja (Mc underlying58 yh (aa (Sa d5)) (aa (Sa d7)) Q) (ma (oc Ed)) (Ae (f86 _ b.a) rfl ?_))
 refine wl (bd yh b ?_); clear b; intro li pi Pi b; refine fa ?_
 refine wl (yb yh (aa d7) (aa (ib d0)) rfl rfl b d0 rfl Ga Ma ?_)
 clear b; intro mk b
 refine ob (ea ?_)
 iterate 2 refine st ?_
 refine Ha ((b.ba d0).cell d0) ?_
 refine wl (gk (κ:=List UInt8) (k:=q.Name) (β:=Int) (zx:=0) underlying75 underlying9 (aa (ib d1)) (aa (ib d3)) Zm rfl (b.get d1) F ?_); rintro _ rfl; refine fa ?_
 obtain ⟨i92,T,h⟩:=ha h
 refine wl (Ja (Gd (aa (ib d4)) Ba T) (ma (qd cd)) ?_)
 refine wl (gq (κ:=List UInt8) (β:=Int) (kk:=q.Name) (xx:=i92) underlying75 underlying9 (aa (ib d1)) (aa (ib d3)) (aa (ib d5)) rfl b d1 F Ma ?_); clear b; intro V W ok X G Y b; cases (show _=X from Y)
 replace b:=Sep.te b kb
 refine rb ?_
 iterate 2 refine st ?_
 refine Ha ((b.ba d0).cell d0) ?_
 refine wl (gk (κ:=List UInt8) (k:=q.Name) (β:=Int) (zx:=0) underlying75 underlying9 (aa (ib d6)) (aa (ib d8)) Zm rfl (b.get d1) G ?_); rintro _ rfl; refine fa ?_
 refine st (ja ?_)
 refine Za h ?_ ?_
 intro Z h
 refine ea (st (ja (Ra ((fun h=>Fa (Ab (Fa (Fa (Ab (Fa (Fa h))))))) ?_))))
 obtain rfl:=Ea h
 refine Ob rfl d4 ?_
 replace b:=(b.drop ia.z).drop ia.z
 exact ⟨_,rfl,(d.t j),b⟩
 intro Z h
 refine Va (ra (ea ?_))
 iterate 2 refine st ?_
 refine Ae ((b.ba d0).Xk (ve.s d1 (ve.s d2 ve.z))) rfl ?_
 obtain ⟨dl,gc,h⟩:=ha h
 refine Aa (PD (o.t (d.t j)) (m5.up (d.t j)) (m7.up (d.t j)) (m8.up (d.t j)) gc b) ?_
 rintro _ el ⟨nl,rfl,B,b⟩
 refine fa (st (rb ?_))
 iterate 2 refine st ?_
 refine ja ?_
 refine Za h ?_ ?_
 intro lc h
 refine ea ?_
 iterate 2 refine st ?_
 refine ja (Ra ?_)
 refine (fun h=>Ab (Fa (Fa (Ab (Fa (Fa h)))))) ?_
 obtain rfl:=Ea h
 refine Ob rfl d4 ?_
 replace b:=(b.drop ia.z).drop ia.z
 exact ⟨_,rfl,(d.t (j.t B)),b⟩
 intro lc h
 refine Va ?_
 refine (fun h=>Pb (ra h)) ?_
 refine eb ?_
 obtain ⟨i104,rc,h⟩:=ha h
 refine wl (Ja (Gd (aa (Sa d7)) Ba rc) (ma (Xd Yd)) (st (La (za ?_))))
 replace b:=b.drop ia.z
 exact ⟨A,_,_,rfl,(gd (lb (Yc (Zc (xb (lf (Na (zc (lb ta))))))))),⟨_,i104,(cc p q.Name i92),V,W,rfl,h,(j.t B),b,(G.up B)⟩,Nat.lt_succ_self _⟩
 intro N h
 refine ke ?_
 refine (fun h=>jc (jc (pe h))) ?_
 refine za ?_
 replace b:=b.drop ia.z
 exact ⟨_,_,rfl,(gd (lb (Yc (Zc (xb (Md (zc (Cg ta)))))))),_,rfl,h,j,b⟩
 intro L h
 refine Va (za ?_)
 replace b:=b.drop ia.z
 exact ⟨_,_,rfl,(gd (lb (Yc (Zc (xb (Md (zc (Cg ta)))))))),_,rfl,h,ga.r,b⟩
 rintro _ t Mf ⟨fd,rfl,h,g,b⟩
 unfold Oq at h
 refine Vb (Ff (Xc (Jf (Kf (Dd (sg (fg (Ik pb)))))))) (ra (db (db ?_)))
 refine Ub (rg 49 27) (by decide +kernel) (fun m w=>∃ f C,m=(qc (qc (mi (Uf 49 (Nj 69 (.i (.bool C)::[]))))))∧cp C=some r∧ga fd f∧ka f J w (O)) (by rintro _ _ ⟨_,_,rfl,_⟩; rfl) ?_ ?_
 refine eb ?_
 iterate 3 refine st ?_
 refine Ha ((m17 _ ((d.t g) _ b.a)).one d0) ?_
 iterate 2 refine st ?_
 refine me 54 h ?_ ?_
 intro id h
 refine Ta rfl (Ta rfl (Ta rfl (mc rfl (sb d4) (Dn Mb (aa (sb d7)) ((m17 _ ((d.t g) _ b.a)).eg 4 2) rfl (ma (ee Yd)) ?_))))
 obtain ⟨ol,md,h⟩:=ha h
 refine mc rfl (sb d4) (td Mt nd (sa (aa (sb d8)) hb) (ep (o.t (d.t g)) md b) ?_)
 rintro _ pl ⟨ul,rfl,l,b⟩
 refine fa (Ta rfl ?_)
 iterate 2 refine st ?_
 refine Gw 62 h ?_ ?_
 intro rd h
 refine oa rfl rfl (oa rfl rfl (oa rfl rfl (oa rfl rfl (oa rfl rfl (oa rfl rfl (tl rfl (Gc d8) (ma (zg Ed)) (tl rfl (Gc d8) (ma (Zf Ga)) (tl rfl (Gc d8) (ma (Zf kb)) (tl rfl (Gc d8) (ma (Zf Ib)) (tl rfl (Gc d8) (ma (Zf ec)) (tl rfl (Gc d8) (ma (Zf hd)) (oa rfl rfl (st (La (za ?_)))))))))))))))
 exact ⟨_,_,rfl,(Xa (Xa (yf (zc (Cg (Na ta)))))),_,true,rfl,h,l,b⟩
 intro rd h
 refine Ta rfl (Ta rfl (Ta rfl (mc rfl (Gc d2) (de Uc (aa (Gc d5)) ((m17 _ ((d.t (g.t l)) _ b.a)).one d0) (ma (zg ad)) (Ta rfl (Ta rfl ?_))))))
 refine me 68 h ?_ ?_
 intro wd h
 refine Ta rfl (Ta rfl (Ta rfl (mc rfl (Gc d8) (Dn Mb (aa (Oc d1)) ((m17 _ ((d.t (g.t l)) _ b.a)).eg 2 2) rfl (ma (Zf Ib)) ?_))))
 obtain ⟨Fd,Id,h⟩:=ha h
 refine mc rfl (Gc d8) (td Mt nd (sa (aa (Oc d2)) hb) (ep (o.t (d.t (g.t l))) Id b) ?_)
 rintro _ am ⟨em,rfl,be,b⟩
 refine fa (Ta rfl (Ta rfl (st (La (za ?_)))))
 exact ⟨_,_,rfl,(Xa (Xa (yf (zc (Cg (Na ta)))))),_,(!Fd),rfl,h,(l.t be),b⟩
 intro wd h
 refine oa rfl rfl (oa rfl rfl (oa rfl rfl (oa rfl rfl (oa rfl rfl (oa rfl rfl (Ta rfl (st (La (za ?_)))))))))
 exact ⟨_,_,rfl,(Xa (Xa (yf (zc (Cg (Na ta)))))),_,false,rfl,h,l,b⟩
 intro id h
 refine oa rfl rfl (oa rfl rfl (oa rfl rfl (oa rfl rfl (oa rfl rfl (oa rfl rfl ?_)))))
 iterate 2 refine st ?_
 refine Ta rfl (Ta rfl (Ta rfl (mc rfl (Gc d2) (de Uc (aa (Gc d5)) ((m17 _ ((d.t g) _ b.a)).one d0) (ma (zg ad)) (Ta rfl (Ta rfl ?_))))))
 refine me 68 h ?_ ?_
 intro ce h
 refine Ta rfl (Ta rfl (Ta rfl (mc rfl (Gc d8) (Dn Mb (aa (Oc d1)) ((m17 _ ((d.t g) _ b.a)).eg 2 2) rfl (ma (Zf Ib)) ?_))))
 obtain ⟨ge,he,h⟩:=ha h
 refine mc rfl (Gc d8) (td Mt nd (sa (aa (Oc d2)) hb) (ep (o.t (d.t g)) he b) ?_)
 rintro _ hm ⟨lm,rfl,le,b⟩
 refine fa (Ta rfl (Ta rfl (st (La (za ?_)))))
 exact ⟨_,_,rfl,(Xa (Xa (yf (zc (Cg (Na ta)))))),_,(!ge),rfl,h,le,b⟩
 intro ce h
 refine oa rfl rfl (oa rfl rfl (oa rfl rfl (oa rfl rfl (oa rfl rfl (oa rfl rfl (Ta rfl (st (La (za ?_)))))))))
 exact ⟨_,_,rfl,(Xa (Xa (yf (zc (Cg (Na ta)))))),_,false,rfl,h,ga.r,b⟩
 rintro _ t pm ⟨sm,C,rfl,h,H,b⟩
 unfold cp at h
 refine Vb (vc (vc (Qi (fg (Ik (kc pb)))))) (ra ?_)
 refine ed h ?_ ?_
 intro ne h
 refine ea (st (ja (Ra (Fa ?_))))
 obtain rfl:=Ea h
 refine Ob rfl d4 ?_
 exact ⟨_,rfl,(d.t (g.t H)),b⟩
 intro ne h
 refine Va (ra (ea (st (ja (Ra ?_)))))
 obtain rfl:=Ea h
 refine Ob rfl d4 ?_
 exact ⟨_,rfl,(d.t (g.t H)),b⟩
theorem rD (K:ga Fc I) {p_1:Zb} {d:va} {r:Int} (m5:Ka I a3 c4 p_1.defs) (m7:rf I dh p_1.named) (m8:dd I U Qf [.slice a3 p_1.defs.length c4,.map (some dh)]) (m13:Ka I xc c12 d.Params) (m16:Ka I uc Ve d.Body) (m17:dd I Fe rl [.int .i64 d.Kind,S d.Name,.int .i64 d.zb.Kind,S d.zb.Nb,.int .i64 d.Hc.Kind,S d.Hc.Nb,.int .i64 d.oe,.slice xc d.Params.length c12,.slice uc d.Body.length Ve]) (h:yo fu p_1 d=some r) (b:ka I J w (O)):Sb prog 83 [.pointer (some ⟨U,Qf,none⟩),.pointer (some ⟨Fe,rl,none⟩)] w (fun v w'=>∃ (na:M) ,v=.int .i64 r∧ga I na∧ka na J w' (O)):=by
 unfold yo at h
 refine enter func83 rfl (frm:=_::_::zd (zd (Ge (Xe (Xe []))))) rfl (ea (st (ob (ea ?_))))
 iterate 3 refine st ?_
 refine Ha ((m17 _ b.a).one d0) (st (ja ?_))
 refine Za h ?_ ?_
 intro T h
 refine ea (st (ja (Ra (Fa ?_))))
 obtain rfl:=Ea h
 refine Ob rfl d4 ?_
 exact ⟨_,rfl,ga.r,b⟩
 intro T h
 refine Va (ra (ea ?_))
 iterate 2 refine st ?_
 refine wl (hj b ?_); clear b; intro E Ne of b; refine fa ?_
 refine wl (xd underlying194 Nn (fb.s (aa (wa d5)) rfl fb.z) rfl rfl b ?_); clear b; intro p wf If b; refine fa ?_
 refine wl (Nd XH cI (ab.o rfl (aa (wa d3)) rfl rfl Ga (ab.o rfl (aa (wa d4)) rfl rfl kb (ab.o rfl (aa (wa d6)) rfl rfl Ib ab.z))) (ma (Jb sd)) ?_)
 refine wl (Ji (aa (wa d7)) rfl b ?_); clear b; intro q dg bi b; refine fa ?_
 replace b:=b.ew (n:=1) (sz:=1) d1 rfl (by decide) kb
 replace b:=(b.da Da).da Da
 obtain ⟨L,N⟩:∃ x,x=([(E,[],0)]:List (Nat×List MapEntry×Nat)):=⟨_,rfl⟩
 change ka I J _ (.ba q 196 [.pointer (some ⟨U,Qf,none⟩),.pointer (some ⟨Fe,rl,none⟩),.slice (some ⟨p,0,none⟩) 1 1]::.row (.slice (some ⟨p,0,none⟩) 1 1) 193 1 [([]:List (List UInt8×Ya))].length (Xb [(E,[],0)])::(gb [(E,[],0)]++O)) at b; rw [← N] at b
 have P:Bd I L [([]:List (List UInt8×Ya))]:=by rw [N]; exact ⟨_,_,rfl,(je.nil (κ:=List UInt8) (β:=Ya) (μ:=I) (c:=0)),rfl⟩
 refine st (ob (ea ?_))
 iterate 3 refine st ?_
 refine Ha ((m17 _ b.a).one d0) (st (ja ?_))
 refine Ub ([7]++rg 24 21) (by decide +kernel) (fun m w=>∃ e u v28 y,m=(rh (Sc 7 (yd (Og (Uf 24 (Sc 44 []))))))∧dp fu p_1 d u=some r∧ga I e∧ka e J w (.row v28 193 1 u.length (Xb y)::.ba q 196 [.pointer (some ⟨U,Qf,none⟩),.pointer (some ⟨Fe,rl,none⟩),v28]::(gb y++O))∧Bd e y u) (by rintro _ _ ⟨_,_,_,_,rfl,_⟩; rfl) ?_ ?_
 refine Za h ?_ ?_
 intro V h
 refine ea ?_
 iterate 3 refine st ?_
 refine Ha ((m17 _ b.a).one d7) (wl (Ja (Qd underlying58 (aa (Sa d7))) (ma (oc Yd)) (st (ja (Qb ?_)))))
 replace b:=b.da Da
 refine Se ([7]++rg 30 15) (by decide) (fun n m w=>∃ e i63 g F A,m=(rh (Sc 7 (qc (kh (.i (.int .i64 i63)::(Rc 30 (Hk 40 [])))))))∧po fu p_1 d n i63 g=some r∧ga I e∧ka e J w (.row F 193 1 g.length (Xb A)::.ba q 196 [.pointer (some ⟨U,Qf,none⟩),.pointer (some ⟨Fe,rl,none⟩),F]::(gb A++O))∧Bd e A g) (by rintro _ _ _ ⟨_,_,_,_,_,rfl,_⟩; rfl) _ _ (cf (lb (Xa (Ee (Na (qb (Ah ta))))))) ⟨_,0,[([]:List (List UInt8×Ya))],(.slice (some ⟨p,0,none⟩) 1 1),L,rfl,h,ga.r,b,P⟩ ?_
 rintro B _ t ci ⟨W,i63,g,F,A,rfl,h,C,b,G⟩
 rcases B with _|B
 cases h
 unfold po at h
 refine Te (Jh (Xc (vc (zh (kc (Wc (Ql pb))))))) (ea (st (ob ?_)))
 refine Za h ?_ ?_
 intro X h
 refine Va (ra (db (Qb (ea ?_))))
 obtain ⟨Q,Y,h⟩:=ha h
 obtain ⟨ii,li,pi,Z,f107,gc⟩:=Pc.elem (m13.up C) Y
 obtain rfl:=gc
 refine wl (Ja (Mc underlying58 yh (aa (Sa d7)) (aa (Sa d9)) Z) (ma (qd kb)) (Ae (f107 _ b.a) rfl ?_))
 refine wl (bd yh b ?_); clear b; intro Pi mk ok b; refine fa ?_
 refine wl (yb yh (aa d7) (aa (ib d2)) rfl rfl b d0 rfl Ga Ma ?_)
 clear b; intro dl b
 refine ja ?_
 refine Ub (rg 33 11) (by decide) (fun m w=>∃ e k D l,m=(qc (yd (kg (Rc 33 (Sc 43 [])))))∧ht i63 (po fu p_1 d B) k=some r∧ga W e∧ka e J w (.row D 193 1 k.length (Xb l)::.ba q 196 [.pointer (some ⟨U,Qf,none⟩),.pointer (some ⟨Fe,rl,none⟩),D]::(gb l++O))∧Bd e l k) (by rintro _ _ ⟨_,_,_,_,rfl,_⟩; rfl) ?_ ?_
 refine Td b ?_; clear b; intro el b
 refine Pd (la 0 [0,1,2,3,4,5,11] rfl (la 1 [1,2,3,4,5,11] rfl (la 2 [2,3,4,5,11] rfl (Fb 3 [3,4,5,11] rfl (jb Am (aa (ib d5)) ((b.ba d2).cell d2)) (qd ad) ?_))))
 obtain ⟨lc,rc,h⟩:=ha h
 obtain ⟨nl,ol,pl,ul,am,fd,f123,id,md⟩:=Row.mapElem (b.get d1) G rc
 refine ze 4 [4,5,11] rfl (Mc underlying194 Nn (aa (ib d6)) Ba fd) (qd sd) (Fb 5 [5,11] rfl (jb Nn (aa (ib d7)) ((f123 _ _ (b.get d1)).one d0)) (qd Yd) (la 6 [6,7,11] rfl (Fb 7 [7,11] rfl (jb Hb (aa (ib d9)) ((b.ba d0).cell d0)) (Xd Ga) (la 8 [8,9,10,11] rfl (Fb 9 [9,10,11] rfl (Re Mb (aa (Bb d1)) ((b.ba d0).Xk (ve.s d1 (ve.s d2 ve.z))) rfl) (Xd Ib) ?_)))))
 obtain ⟨R,rd,h⟩:=ha h
 refine Kb rfl rfl rfl rfl (Gb rfl) (td Uv nd (sa (aa (Bb d2)) hb) (dr (K.t C) rd b) ?_)
 rintro _ Mf ⟨em,rfl,H,b⟩
 refine fa ?_
 refine ⟨(Oa.s (jb Hb (aa (ib d9)) ((b.ba d0).cell d0)) (Oa.s (jb Nn (aa (ib d7)) ((f123 _ _ (b.get d1)).one d0)) (Oa.s (jb Am (aa (ib d5)) ((b.ba d2).cell d2)) Oa.z))),?_⟩
 refine Kb rfl rfl rfl rfl (Gb rfl) (Rx (pre:=[_,_,_]) (κ:=List UInt8) (β:=Ya) (kk:=Q.Name) (xx:=R) underlying193 underlying9 (aa (ib d8)) (aa (Bb d0)) (aa (Bb d3)) ⟨_,rfl,rfl⟩ b id (md.up H) (G.up H) Ma ?_); clear b; intro hm lm wd Fd Id b; rw [Fd,Id] at b
 refine ⟨Oa.z,?_⟩
 refine Hd (za ?_)
 replace b:=b.drop ia.z
 exact ⟨_,_,rfl,(Xa (xb (Md (qb (lb ta))))),_,(g.set (0:Int).toNat (cc lc Q.Name R)),_,_,rfl,h,H,b,wd⟩
 rintro _ t pm ⟨sm,k,D,l,rfl,h,be,b,ce⟩
 unfold ht at h
 refine Vb (vc (Dd (sg (Wc (Xc pb))))) ?_
 refine (fun h=>Pb (ra h)) ?_
 refine eb ?_
 obtain ⟨i135,ge,h⟩:=ha h
 refine wl (Ja (Gd (aa (Sa d9)) Ba ge) (ma (Xd hd)) (st (La (za ?_))))
 exact ⟨B,_,_,rfl,(cf (lb (Xa (Ee (Na (qb (Ah ta))))))),⟨_,i135,k,D,l,rfl,h,(C.t be),b,ce⟩,Nat.lt_succ_self _⟩
 intro X h
 refine ke ?_
 refine (fun h=>jc (jc (pe h))) ?_
 refine za ?_
 exact ⟨_,_,rfl,(cf (lb (xb (ye (zc (lb ta)))))),_,_,_,_,rfl,h,C,b,G⟩
 intro V h
 refine Va (za ?_)
 replace b:=b.da Da
 exact ⟨_,_,rfl,(cf (lb (xb (ye (zc (lb ta)))))),_,[([]:List (List UInt8×Ya))],(.slice (some ⟨p,0,none⟩) 1 1),_,rfl,h,ga.r,b,P⟩
 rintro _ t Nm ⟨fn,u,v28,y,rfl,h,f,b,he⟩
 unfold dp at h
 refine Vb (Jh (Xc (Dd (Zg (fg (Xc pb)))))) (ra (ea ?_))
 iterate 4 refine st ?_
 refine Ha ((m17 _ (f _ b.a)).one d8) ?_
 obtain ⟨on,le,h⟩:=ha h
 replace b:=b.da Da
 refine Aa ((Zw fu).sj (K.t f) (m5.up f) (m7.up f) (m8.up f) (m13.up f) (m16.up f) (m17.up f) he (m16.up f) le b) ?_
 rintro _ un ⟨wn,Fn,In,rfl,ne,b,co⟩
 refine fa (st (ja (Ra ?_)))
 obtain rfl:=Ea h
 refine Ob rfl d4 ?_
 replace b:=(b.drop ia.z).drop ia.z
 replace b:=b.vu (pre:=[]) (j:=0)
 exact ⟨_,rfl,(f.t ne),b⟩
theorem UC (E:ga Fc I) {p_1:List va} {r:Zb×Vc} (m3:Ka I xa c2 p_1) (h:lp fu p_1=some r) (b:ka I J w (O)):Sb prog 64 [.slice xa p_1.length c2] w (fun v w'=>∃ (na:M) (V:Nat) (W:Nat) (Tb:Option Addr) (X:Nat) (Fe:Nat),v=.tuple ⟨[.pointer (some ⟨V,W,none⟩),.agg ⟨[.int .i64 r.2.Ue,.int .i64 r.2.dd]⟩]⟩∧ga I na∧ka na J w' (O)∧Ka na Tb X r.1.defs∧rf na Fe r.1.named∧dd na V W [.slice Tb r.1.defs.length X,.map (some Fe)]):=by
 unfold lp at h
 refine enter func64 rfl (frm:=_::Cf (zd (Ze (Ze [])))) rfl (ea (st ?_))
 refine wl (bd wc b ?_); clear b; intro Qc sp wp b; refine fa ?_
 refine rb (st ?_)
 refine wl (hj b ?_); clear b; intro Y Op eq b; refine fa ?_
 refine wl (Nd WH bI (ab.o rfl (aa (wa d4)) rfl rfl Ga (ab.o rfl (aa (wa d5)) rfl rfl kb ab.z)) (ma (Jb ad)) ?_)
 refine wl (Ji (aa (wa d6)) rfl b ?_); clear b; intro u Eq fr b; refine fa ?_
 refine st (ob (ea (st ?_)))
 obtain ⟨or,g19,h⟩:=ha h
 refine Aa (Xw E m3 g19 b) ?_
 rintro _ qr ⟨rd,rfl,d,b⟩
 refine fa ?_
 refine wl (bd wc b ?_); clear b; intro wr Fr Or b; refine fa ?_
 refine wl (yb wc (aa d5) (aa (wa d9)) rfl rfl b d0 rfl Ga Ma ?_)
 clear b; intro cs b
 refine rb (st (Ha ((b.ba d0).cell d0) (st (ja ?_))))
 refine Za h ?_ ?_
 intro wd h
 refine db ?_
 refine Td b ?_; clear b; intro ds b
 refine Pd (la 0 [0,2,3] rfl (Fb 1 [1,3] rfl (Re wc (aa d5) (b.ba d0).cells rfl) (oc hd) (la 2 [2,3] rfl (Kb rfl rfl rfl rfl (Gb rfl) (yb wc (aa d3) (aa (Sa d4)) rfl rfl b d3 rfl ec Ma ?_)))))
 clear b; intro Mf b
 refine ⟨Oa.z,?_⟩
 refine Hd (ra (Ra (Fa ?_)))
 replace b:=b.da Eb
 obtain ⟨es,Z,m24,b⟩:=Sep.ym b ((je.nil (κ:=List UInt8) (β:=va) (μ:=I) (c:=0)).up d)
 replace b:=b.da Da
 obtain ⟨gs,F,Fd,b⟩:=Sep.bu b
 obtain rfl:=Ea h
 refine Ad rfl (Qa.s (.t d2) (Qa.s (.a d3 wc (b.ba d1).cells rfl) Qa.z)) ?_
 replace b:=(b.drop ia.z).drop ia.z
 exact ⟨_,_,0,_,_,_,rfl,(d.t (Z.t F)),b,(m3.up (d.t (Z.t F))),(m24.up F),Fd⟩
 intro wd h
 refine Va (ra (ea (st (ob (ea (st (wl (Ja (Qd underlying22 (aa (Sa d5))) (ma (oc ad)) (st (ja (Qb ?_)))))))))))
 replace b:=((b.drop ia.z).da Da).da Eb
 refine Se ([2]++rg 7 3++rg 28 40) (by decide +kernel) (fun n m w=>∃ p i94 i95 q G H,m=(vf (Sc 2 (kg (.i (.int .i64 i94)::(Yg 7 (yd (rh (.i (.int .i64 i95)::(Uf 28 (Uf 48 []))))))))))∧oo fu p_1 n i94 i95 q=some r∧ga rd p∧ka p J w (.ba Qc 26 [.int .i64 0,.int .i64 0]::.map Y G H::.ba u 168 [.slice xa p_1.length c2,.map (some Y)]::O)∧je p G H q) (by rintro _ _ _ ⟨_,_,_,_,_,_,rfl,_⟩; rfl) _ _ (Yc (lb (Md (Na (ue (xb (cf (Na (zc (zc ta)))))))))) ⟨_,0,0,([]:List (List UInt8×va)),[],0,rfl,h,ga.r,b,((je.nil (κ:=List UInt8) (β:=va) (μ:=I) (c:=0)).up d)⟩ ?_
 rintro D _ t is ⟨ls,i94,i95,q,G,H,rfl,h,f,b,x⟩
 rcases D with _|D
 cases h
 unfold oo at h
 refine Te (Jf (Xc (sg (kc (qh (Dd (Jh (kc (fg (fg pb)))))))))) (ea (st (ob ?_)))
 refine Za h ?_ ?_
 intro Id h
 refine Va (ra (db (Qb (ea ?_))))
 iterate 2 refine st ?_
 refine ob (db ?_)
 refine Td b ?_; clear b; intro ms b
 refine Pd (la 0 [0,1,2,3,9,10,11,12,13,14] rfl (la 1 [1,2,3,9,10,11,12,13,14] rfl (la 2 [2,3,9,10,11,12,13,14] rfl (Fb 3 [3,9,10,11,12,13,14] rfl (jb No (aa (ib d3)) ((b.ba d2).cell d1)) (qd hd) (la 4 [4,6,7,8,9,10,11,12,13,14] rfl (la 5 [5,6,7,8,9,10,11,12,13,14] rfl ?_))))))
 obtain ⟨be,ce,h⟩:=ha h
 obtain ⟨os,rs,us,ge,f175,he⟩:=Pc.elem (m3.up (d.t f)) ce
 obtain ⟨vs,ws,xs,ys,rfl,Os,gt⟩:=he
 refine ze 6 [6,7,8,9,10,11,12,13,14] rfl (Mc underlying22 Oe (aa (ib d5)) (aa (ib d6)) ge) (qd sd) (la 7 [7,8,9,10,11,12,13,14] rfl (Fb 8 [8,9,10,11,12,13,14] rfl (jb Hb (aa (ib d8)) ((f175 _ b.a).one d1)) (qd Ed) ?_))
 refine Kb rfl rfl rfl rfl (Gb rfl) (BA (κ:=List UInt8) (k:=be.Name) (hrv:=fun _ _ h=>h) underlying76 underlying9 (aa (ib d4)) (aa (ib d9)) vq (b.get d1) x ?_); intro v183 it; refine fa ?_
 refine ⟨Oa.z,?_⟩
 refine la 10 [10,11,12,13,14] rfl (la 11 [11,13,14] rfl (la 12 [12,14] rfl (la 13 [13,14] rfl (la 14 [14] rfl (Hd (ra (ea (st (ja ?_)))))))))
 refine ed h ?_ ?_
 intro le h
 refine ea ?_
 iterate 2 refine st ?_
 refine wl (Nd wc Zi (ab.o rfl Ba rfl rfl Ga (ab.o rfl (aa (Bb d5)) rfl rfl kb ab.z)) (ma (Xd ad)) (st (wl (yb wc (aa d3) (aa (Bb d6)) rfl rfl b d0 rfl Ga Ma ?_))))
 clear b; intro lt b
 refine ja (Ra ?_)
 refine (fun h=>Fa (Ab (Fa (Fa (Ab (Fa h)))))) ?_
 replace b:=b.da Da
 obtain ⟨mt,gc,ne,b⟩:=Sep.ym b x
 replace b:=b.da Da
 obtain ⟨rt,K,Ne,b⟩:=Sep.bu b
 obtain rfl:=Ea h
 refine Ad rfl (Qa.s (.t d2) (Qa.s (.a d3 wc (b.ba d0).cells rfl) Qa.z)) ?_
 replace b:=b.drop ia.z
 exact ⟨_,_,0,_,_,_,rfl,(d.t (f.t (gc.t K))),b,(m3.up (d.t (f.t (gc.t K)))),(ne.up K),Ne⟩
 intro le h
 refine Va (ra (db ?_))
 refine Td b ?_; clear b; intro ut b
 refine Pd (la 0 [0,1,2,3,12] rfl (la 1 [1,2,3,12] rfl (la 2 [2,3,12] rfl (Fb 3 [3,12] rfl (jb No (aa (Bb d9)) ((b.ba d2).cell d1)) (ee Ga) (la 4 [4,6,7,8,12] rfl (la 5 [5,6,7,8,12] rfl ?_))))))
 obtain ⟨L,of,h⟩:=ha h
 obtain ⟨wt,hu,pu,wf,f196,If⟩:=Pc.elem (m3.up (d.t f)) of
 obtain ⟨a198,bv,a201,hw,rfl,kw,lw⟩:=If
 refine ze 6 [6,7,8,12] rfl (Mc underlying22 Oe (aa (sb d1)) (aa (sb d2)) wf) (ee ec) (la 7 [7,8,12] rfl (Fb 8 [8,12] rfl (jb Hb (aa (sb d4)) ((f196 _ b.a).one d1)) (ee cd) (la 9 [9,11,12] rfl (la 10 [10,11,12] rfl ?_))))
 obtain ⟨N,dg,h⟩:=ha h
 obtain ⟨ww,ex,rx,bi,f210,ci⟩:=Pc.elem (m3.up (d.t f)) dg
 obtain ⟨a212,c213,ii,li,rfl,pi,Pi⟩:=ci
 refine ze 11 [11,12] rfl (Mc underlying22 Oe (aa (sb d6)) (aa (sb d7)) bi) (ee Yd) ?_
 refine Kb rfl rfl rfl rfl (Gb rfl) (gq (κ:=List UInt8) (β:=va) (kk:=L.Name) (xx:=N) underlying76 underlying9 (aa (sb d0)) (aa (sb d5)) (aa (sb d8)) ⟨_,_,_,rfl,f210,(va.i ⟨a212,c213,ii,li,rfl,pi,Pi⟩)⟩ b d1 x Ma ?_); clear b; intro lc rc zx ok fd dl b; cases (show _=ok from dl)
 replace b:=Sep.te b kb
 refine ⟨Oa.z,?_⟩
 refine Hd (ra (ea ?_))
 iterate 2 refine st ?_
 obtain ⟨ty,el,h⟩:=ha h
 obtain ⟨sz,Rz,AC,nl,f227,ol⟩:=Pc.elem (m3.up (d.t f)) el
 obtain ⟨a229,GE,a232,c233,rfl,LE,NE⟩:=ol
 refine wl (Ja (Mc underlying22 Oe (aa (sb d9)) (aa (Gc d0)) nl) (ma (zg kb)) (st (Ha ((f227 _ b.a).one d0) (st (ja ?_)))))
 refine Za h ?_ ?_
 intro pl h
 refine eb (st ?_)
 obtain ⟨i236,ul,h⟩:=ha h
 refine wl (Ja (Gd (aa (Gc d5)) Ba ul) (ma (zg ad)) (st (La ?_)))
 refine (fun h=>Pb (ra h)) ?_
 refine eb ?_
 obtain ⟨i238,am,h⟩:=ha h
 refine wl (Ja (Gd (aa (Sa d7)) Ba am) (ma (zg sd)) (st (La (za ?_))))
 exact ⟨D,_,_,rfl,(Yc (lb (Md (Na (ue (xb (cf (Na (zc (zc ta)))))))))),⟨_,i236,i238,(cc q L.Name N),lc,rc,rfl,h,f,b,fd⟩,Nat.lt_succ_self _⟩
 intro pl h
 refine Va ?_
 refine (fun h=>Pb (ra h)) ?_
 refine eb ?_
 obtain ⟨i240,em,h⟩:=ha h
 refine wl (Ja (Gd (aa (Sa d7)) Ba em) (ma (zg sd)) (st (La (za ?_))))
 exact ⟨D,_,_,rfl,(Yc (lb (Md (Na (ue (xb (cf (Na (zc (zc ta)))))))))),⟨_,i94,i240,(cc q L.Name N),lc,rc,rfl,h,f,b,fd⟩,Nat.lt_succ_self _⟩
 intro Id h
 refine ke ?_
 refine (fun h=>jc (jc (pe h))) ?_
 refine ra (db (ea ?_))
 iterate 2 refine st ?_
 refine ja ?_
 refine Za h ?_ ?_
 intro hm h
 refine ea ?_
 iterate 2 refine st ?_
 refine wl (Ja (Qd underlying22 (aa (Oc d1))) (ma (Zf Ib)) (wl (Nd wc Zi (ab.o rfl Ba rfl rfl Ga (ab.o rfl (aa (Oc d2)) rfl rfl kb ab.z)) (ma (Zf ec)) (st (wl (yb wc (aa d3) (aa (Oc d3)) rfl rfl b d0 rfl Ga Ma ?_))))))
 clear b; intro WF b
 refine ja (Ra (Fa ?_))
 replace b:=b.da Da
 obtain ⟨RK,id,lm,b⟩:=Sep.ym b x
 replace b:=b.da Da
 obtain ⟨WL,P,pm,b⟩:=Sep.bu b
 obtain rfl:=Ea h
 refine Ad rfl (Qa.s (.t d2) (Qa.s (.a d3 wc (b.ba d0).cells rfl) Qa.z)) ?_
 replace b:=b.drop ia.z
 exact ⟨_,_,0,_,_,_,rfl,(d.t (f.t (id.t P))),b,(m3.up (d.t (f.t (id.t P)))),(lm.up P),pm⟩
 intro hm h
 refine Va (ra (db (ea (st ?_))))
 replace b:=b.da Da
 obtain ⟨XL,l,y,b⟩:=Sep.ym b x
 replace b:=b.da Da
 obtain ⟨sm,g,A,b⟩:=Sep.bu b
 refine wl (Ja (Wt (sa (aa (Oc d4)) hb) hb) (ma (Zf cd)) (st (wl (Ja (Wt (sa (aa (Oc d6)) hb) hb) (ma (Zf sd)) ?_))))
 refine wl (xd underlying170 Ay (fb.s (aa (Oc d5)) rfl (fb.s (aa (Oc d7)) rfl fb.z)) rfl rfl b ?_); clear b; intro md YL ZL b; refine fa ?_
 refine wl (Ja (Qd underlying170 (aa (Oc d8))) (ma (Zf Ed)) (st (ja (Qb (Px 3 (Vm (ea (st (ob (Bm (aa (Nc d1)) (Va (ra (db (Qb (ea (wl (Ja (uu underlying170 Ay (aa (Oc d8)) (aa (Nc d0)) (by decide) rfl) (ma (qg Ib)) (Ha ((b.ba d0).cell d0) (st (rb (st (wl (Ja (Qd underlying22 (aa (Nc d4))) (ma (qg cd)) (st (ja (Qb ?_))))))))))))))))))))))))))
 replace b:=b.da Da
 refine Se ([2]++rg 12 2++rg 87 14) (by decide) (fun n m w=>∃ p Q,m=(vf (Sc 2 (mi (xf 12 (Sd (qc (vf (.i (.int .i64 Q)::(Rc 87 (Ih 97 []))))))))))∧mo fu p_1 q n Q=some r∧ga sm p∧ka p J w (.ba Qc 26 [.int .i64 0,.int .i64 0]::.ba md 91 [.func (.func 82) ⟨[.pointer (some ⟨u,0,none⟩)]⟩ ⟨[]⟩,.func (.func 83) ⟨[.pointer (some ⟨u,0,none⟩)]⟩ ⟨[]⟩]::O)) (by rintro _ _ _ ⟨_,_,rfl,_⟩; rfl) _ _ (Yc (lb (yf (Zc (Yb (Xa (Yc (Na (qb (pf ta)))))))))) ⟨_,0,rfl,h,ga.r,b⟩ ?_
 rintro R _ t aM ⟨Nm,Q,rfl,h,e,b⟩
 rcases R with _|R
 cases h
 unfold mo at h
 refine Te (Jf (Xc (Qi (Kf (Ud (vc (Jf (kc (Wc (ai pb)))))))))) (ea (st (ob ?_)))
 refine Za h ?_ ?_
 intro fn h
 refine Va (ra (db (Qb (ea ?_))))
 iterate 2 refine st ?_
 refine rb ?_
 iterate 3 refine st ?_
 obtain ⟨bM,on,h⟩:=ha h
 obtain ⟨cM,dM,eM,un,f298,wn⟩:=Pc.elem (m3.up (d.t (f.t (l.t (g.t e))))) on
 obtain ⟨fM,gM,hM,iM,rfl,Fn,In⟩:=wn
 refine wl (Ja (Mc underlying22 Oe (aa (fe d0)) (aa (fe d1)) un) (ma (Zh Ib)) ?_)
 obtain ⟨jM,co,h⟩:=ha h
 refine wl (dB UG (aa (Nc d9)) (sa (aa (fe d2)) hb) (qD (p_1:=(Zb.mk p_1 q)) (E.t (d.t (f.t (l.t (g.t e))))) (m3.up (d.t (f.t (l.t (g.t e))))) (y.up (g.t e)) (A.up e) Fn In f298 co b) ?_)
 rintro _ kM ⟨lM,rfl,B,b⟩
 refine fa (st (rb ?_))
 iterate 2 refine st ?_
 refine ja ?_
 refine Za h ?_ ?_
 intro go h
 refine ea ?_
 iterate 3 refine st ?_
 refine wl (Nd wc Zi (ab.o rfl (aa (fe d7)) rfl rfl Ga (ab.o rfl (aa (fe d8)) rfl rfl kb ab.z)) (ma (Zh Ed)) (st (wl (yb wc (aa d3) (aa (fe d9)) rfl rfl b d0 rfl Ga Ma ?_))))
 clear b; intro mM b
 refine ja (Ra ((fun h=>Ab (Fa (Fa (Ab (Ab (Fa (Fa (Ab (Fa h))))))))) ?_))
 obtain rfl:=Ea h
 refine Ad rfl (Qa.s (.t d2) (Qa.s (.a d3 wc (b.ba d0).cells rfl) Qa.z)) ?_
 replace b:=(b.drop ia.z).drop ia.z
 exact ⟨_,_,0,_,_,_,rfl,(d.t (f.t (l.t (g.t (e.t B))))),b,(m3.up (d.t (f.t (l.t (g.t (e.t B)))))),(y.up (g.t (e.t B))),(A.up (e.t B))⟩
 intro go h
 refine Va ?_
 refine (fun h=>Pb (ra h)) ?_
 refine eb ?_
 obtain ⟨io,no,h⟩:=ha h
 refine wl (Ja (Gd (aa (Nc d6)) Ba no) (ma (dc Ga)) (st (La (za ?_))))
 exact ⟨R,_,_,rfl,(Yc (lb (yf (Zc (Yb (Xa (Yc (Na (qb (pf ta)))))))))),⟨_,io,rfl,h,(e.t B),b⟩,Nat.lt_succ_self _⟩
 intro fn h
 refine ke ?_
 refine (fun h=>jc (jc (pe h))) ?_
 refine (fun h=>Pb (ra h)) ?_
 refine eb (wl (Ja (Gd (aa (Nc d0)) Ba (c:=1) (by decide)) (ma (dc kb)) (st (La (za (Ep (Vm (ea (st (ob (Bm (aa (Nc d1)) (Va (ra (db (Qb (ea (wl (Ja (uu underlying170 Ay (aa (Oc d8)) (aa (Nc d0)) (by decide) rfl) (ma (qg Ib)) (Ha ((b.ba d1).cell d1) (st (rb (st (wl (Ja (Qd underlying22 (aa (Nc d4))) (ma (qg cd)) (st (ja (Qb ?_)))))))))))))))))))))))))))
 refine Se ([2]++rg 12 2++rg 87 14) (by decide) (fun n m w=>∃ p S,m=(vf (Sc 2 (mi (xf 12 (Sd (qc (vf (.i (.int .i64 S)::(Rc 87 (Ih 97 []))))))))))∧lo fu p_1 q n S=some r∧ga Nm p∧ka p J w (.ba Qc 26 [.int .i64 0,.int .i64 0]::.ba md 91 [.func (.func 82) ⟨[.pointer (some ⟨u,0,none⟩)]⟩ ⟨[]⟩,.func (.func 83) ⟨[.pointer (some ⟨u,0,none⟩)]⟩ ⟨[]⟩]::O)) (by rintro _ _ _ ⟨_,_,rfl,_⟩; rfl) _ _ (Yc (lb (yf (Zc (Yb (Xa (Yc (Na (qb (pf ta)))))))))) ⟨_,0,rfl,h,ga.r,b⟩ ?_
 rintro T _ t nM ⟨oM,S,rfl,h,j,b⟩
 rcases T with _|T
 cases h
 unfold lo at h
 refine Te (Jf (Xc (Qi (Kf (Ud (vc (Jf (kc (Wc (ai pb)))))))))) (ea (st (ob ?_)))
 refine Za h ?_ ?_
 intro ro h
 refine Va (ra (db (Qb (ea ?_))))
 iterate 2 refine st ?_
 refine rb ?_
 iterate 3 refine st ?_
 obtain ⟨pM,to,h⟩:=ha h
 obtain ⟨qM,rM,sM,Do,f357,Go⟩:=Pc.elem (m3.up (d.t (f.t (l.t (g.t (e.t j)))))) to
 obtain ⟨tM,uM,vM,wM,rfl,ap,ip⟩:=Go
 refine wl (Ja (Mc underlying22 Oe (aa (fe d0)) (aa (fe d1)) Do) (ma (Zh Ib)) ?_)
 obtain ⟨xM,jp,h⟩:=ha h
 refine wl (dB VG (aa (Nc d9)) (sa (aa (fe d2)) hb) (rD (p_1:=(Zb.mk p_1 q)) (E.t (d.t (f.t (l.t (g.t (e.t j)))))) (m3.up (d.t (f.t (l.t (g.t (e.t j)))))) (y.up (g.t (e.t j))) (A.up (e.t j)) ap ip f357 jp b) ?_)
 rintro _ yM ⟨zM,rfl,C,b⟩
 refine fa (st (rb ?_))
 iterate 2 refine st ?_
 refine ja ?_
 refine Za h ?_ ?_
 intro mp h
 refine ea ?_
 iterate 3 refine st ?_
 refine wl (Nd wc Zi (ab.o rfl (aa (fe d7)) rfl rfl Ga (ab.o rfl (aa (fe d8)) rfl rfl kb ab.z)) (ma (Zh Ed)) (st (wl (yb wc (aa d3) (aa (fe d9)) rfl rfl b d0 rfl Ga Ma ?_))))
 clear b; intro AM b
 refine ja (Ra ((fun h=>Ab (Fa (Fa (Ab (Ab (Fa (Fa (Ab (Fa h))))))))) ?_))
 obtain rfl:=Ea h
 refine Ad rfl (Qa.s (.t d2) (Qa.s (.a d3 wc (b.ba d0).cells rfl) Qa.z)) ?_
 replace b:=(b.drop ia.z).drop ia.z
 exact ⟨_,_,0,_,_,_,rfl,(d.t (f.t (l.t (g.t (e.t (j.t C)))))),b,(m3.up (d.t (f.t (l.t (g.t (e.t (j.t C))))))),(y.up (g.t (e.t (j.t C)))),(A.up (e.t (j.t C)))⟩
 intro mp h
 refine Va ?_
 refine (fun h=>Pb (ra h)) ?_
 refine eb ?_
 obtain ⟨op,pp,h⟩:=ha h
 refine wl (Ja (Gd (aa (Nc d6)) Ba pp) (ma (dc Ga)) (st (La (za ?_))))
 exact ⟨T,_,_,rfl,(Yc (lb (yf (Zc (Yb (Xa (Yc (Na (qb (pf ta)))))))))),⟨_,op,rfl,h,(j.t C),b⟩,Nat.lt_succ_self _⟩
 intro ro h
 refine ke ?_
 refine (fun h=>jc (jc (pe h))) ?_
 refine (fun h=>Pb (ra h)) ?_
 refine eb (wl (Ja (Gd (aa (Nc d0)) Ba (c:=2) (by decide)) (ma (dc kb)) (st (La (za (Ep (Vm (ea (st (ob (Cp (aa (Nc d1)) (ke ?_))))))))))))
 refine (fun h=>jc (jc (pe h))) ?_
 refine ra (ea (st (wl (Nd wc Zi ab.z (ma (dc ec)) (st (wl (yb wc (aa d3) (aa (Pa d3)) rfl rfl b d0 rfl Ga Ma ?_)))))))
 clear b; intro BM b
 refine ja (Ra ?_)
 obtain rfl:=Ea h
 refine Ad rfl (Qa.s (.t d2) (Qa.s (.a d3 wc (b.ba d0).cells rfl) Qa.z)) ?_
 replace b:=(b.drop ia.z).drop ia.z
 exact ⟨_,_,0,_,_,_,rfl,(d.t (f.t (l.t (g.t (e.t j))))),b,(m3.up (d.t (f.t (l.t (g.t (e.t j)))))),(y.up (g.t (e.t j))),(A.up (e.t j))⟩
end Go.Proofs.YthoigniombcphaaGreatDoor
set_option maxRecDepth 100000
set_option maxHeartbeats 20000000
namespace Go.Proofs.YthoigniombcphaaGreatDoor
open Go.bc Go.Dc Go.Y Tryz
variable {U dh Fe c2 c4 c12 Ve fu Qf rl:Nat} {xa a3 xc uc:Option Addr} {I:M} {J w:World} {O:List Wb}
def mz (q:(List (List UInt8))→(List (List UInt8))→(List (List UInt8))→ua→Option (List (List UInt8)×List (List UInt8)×List (List UInt8))):Prop:=∀ {I:M} {J w:World} {O:List Wb} (u:ga Fc I) {U:Nat} {b:List (List UInt8)} {v3:Value} {e:List Value} {c:List (List UInt8)} {f:Value} {g:List Value} {d:List (List UInt8)} {v11:Value} {i:List Value} {a:ua} {j k:Nat} {l:Option Addr} {m:Nat} {r:List (List UInt8)×List (List UInt8)×List (List UInt8)} (m5:pa I e b) (m9:pa I g c) (m13:pa I i d) (m18:Ka I l m a.Kids) (m19:dd I j k [.int .i64 a.Kind,.int .i64 a.N,S a.Name,.slice l a.Kids.length m]) (h:q b c d a=some r) (x:ka I J w (.ba U 146 [v3,f,v11]::.row v3 9 1 b.length e::.row f 9 1 c.length g::.row v11 9 1 d.length i::O)),Sb prog 108 [.pointer (some ⟨U,0,none⟩),.pointer (some ⟨j,k,none⟩)] w (fun v w'=>∃ (na:M) (v20:Value) (n:List Value) (o:Value) (p:List Value) (s:Value) (t:List Value),v=.tuple ⟨[]⟩∧ga I na∧ka na J w' (.ba U 146 [v20,o,s]::.row v20 9 1 r.1.length n::.row o 9 1 r.2.1.length p::.row s 9 1 r.2.2.length t::O)∧pa na n r.1∧pa na p r.2.1∧pa na t r.2.2)
structure Kz (a:Jo):Prop where
  Fl:mz a.Fl
theorem sD {self:Jo} (ge:Kz self):mz (Fl self):=by
 intro I J w O he U j v3 K f g p k v11 L d pm sm Nm fn r m5 m9 m13 m18 m19 h b
 unfold Fl at h
 refine enter func108 rfl (frm:=_::_::Ge (Ze [])) rfl (db (ea ?_))
 iterate 3 refine st ?_
 refine Ha ((m19 _ b.a).one d0) (ja ?_)
 refine Ub (rg 9 31) (by decide +kernel) (fun m w=>∃ c q x y u A B,m=(mi (Uf 9 (Rc 29 (Sc 39 []))))∧Pp self d f q u=some r∧ga I c∧ka c J w (.ba U 146 [x,g,A]::.row x 9 1 q.length y::.row g 9 1 f.length p::.row A 9 1 u.length B::O)∧pa c y q∧pa c B u) (by rintro _ _ ⟨_,_,_,_,_,_,_,rfl,_⟩; rfl) ?_ ?_
 refine Qb (db (ea ?_))
 iterate 2 refine st ?_
 refine ja ?_
 refine Ub ([11]) (by decide) (fun m w=>∃ c M,m=(mi (.i (.bool M)::(kh (Sc 11 []))))∧Sq self j d f k M=some r∧ga I c∧ka c J w (.ba U 146 [v3,g,v11]::.row v3 9 1 j.length K::.row g 9 1 f.length p::.row v11 9 1 k.length L::O)) (by rintro _ _ ⟨_,_,rfl,_⟩; rfl) ?_ ?_
 refine Za h ?_ ?_
 intro le h
 refine Va (za ?_)
 exact ⟨_,_,rfl,(yf (Na (Ee (lb ta)))),_,(decide (d.Kind=19)),rfl,h,ga.r,b⟩
 intro le h
 refine eb ?_
 iterate 2 refine st ?_
 refine La (za ?_)
 exact ⟨_,_,rfl,(yf (Na (Ee (lb ta)))),_,(decide (d.Kind=22)),rfl,h,ga.r,b⟩
 rintro _ t on ⟨C,M,rfl,h,e,b⟩
 unfold Sq at h
 refine Vb (Qi (kc (zh (Xc pb)))) (ra ?_)
 refine ed h ?_ ?_
 intro ne h
 refine Ub (rg 12 13) (by decide) (fun m w=>∃ c D N P,m=(yd (vf (Rc 12 (Yg 22 []))))∧Vu self d f k D=some r∧ga C c∧ka c J w (.ba U 146 [N,g,v11]::.row N 9 1 D.length P::.row g 9 1 f.length p::.row v11 9 1 k.length L::O)∧pa c P D) (by rintro _ _ ⟨_,_,_,_,rfl,_⟩; rfl) ?_ ?_
 refine Td b ?_; clear b; intro un b
 refine Pd (la 0 [0,11,12,13] rfl (la 1 [1,2,3,4,10,11,12,13] rfl (la 2 [2,3,4,10,11,12,13] rfl (la 3 [3,4,10,11,12,13] rfl (Fb 4 [4,10,11,12,13] rfl (jb ki (aa (wa d5)) ((b.ba d0).cell d0)) (Jb ad) (la 5 [5,6,7,8,9,10,11,12,13] rfl (la 6 [6,7,8,9,10,11,12,13] rfl (la 7 [7,8,9,10,11,12,13] rfl (Fb 8 [8,9,10,11,12,13] rfl (jb Hb (aa (wa d9)) ((m19 _ (e _ b.a)).one d2)) (oc Ga) ?_)))))))))
 refine Kb rfl rfl rfl rfl (Gb rfl) (xd underlying131 Hb (fb.s (aa (Sa d0)) rfl fb.z) rfl rfl b ?_); clear b; intro wn Fn In b; refine fa ?_
 refine ⟨(Oa.s (jb ki (aa (wa d5)) ((b.ba d1).cell d0)) Oa.z),?_⟩
 obtain ⟨co,fd,h⟩:=ha h
 have id:pa C [S d.Name] [d.Name]:=(pa.one (α:=List UInt8) rfl)
 have Ne:=pa.app (m5.up e) id fd
 refine Kb rfl rfl rfl rfl (Gb rfl) (xj underlying131 Hb rfl (aa (wa d6)) (aa (Sa d1)) b d2 (b.ba d0).cells id rfl fd (by decide) ?_); clear b; intro go io Q R b; cases (show _=Q from R)
 replace b:=Sep.te b Ib; refine fa ?_
 replace b:=b.drop ia.z
 refine ⟨Oa.z,?_⟩
 refine la 11 [11,12,13] rfl (la 12 [12,13] rfl (Kb rfl rfl rfl rfl (Gb rfl) (Je ki (aa (Sa d4)) (aa (Sa d2)) (b.get d1).Me b d0 Ga rfl Ga Ma ?_)))
 clear b; intro no b
 refine ⟨Oa.z,?_⟩
 refine Hd (za ?_)
 exact ⟨_,_,rfl,(xb (Yc (qb (ue ta)))),_,_,_,(K++[S d.Name]),rfl,h,ga.r,b,Ne⟩
 rintro _ t ro ⟨to,D,N,P,rfl,h,md,b,of⟩
 unfold Vu at h
 refine Vb (Dd (Jf (Wc (qh pb)))) ?_
 refine (fun h=>Pb (za h)) ?_
 exact ⟨_,_,rfl,(yf (zc (qb (lb ta)))),_,_,_,_,k,_,_,rfl,h,(e.t md),b,of,(m13.up (e.t md))⟩
 intro ne h
 refine ea ?_
 iterate 2 refine st ?_
 refine ja ?_
 refine Za h ?_ ?_
 intro wf h
 refine Ub (rg 27 13) (by decide) (fun m w=>∃ c E T V,m=(qc (rh (Rc 27 (Yg 37 []))))∧Wu self j d f E=some r∧ga C c∧ka c J w (.ba U 146 [v3,g,T]::.row v3 9 1 j.length K::.row g 9 1 f.length p::.row T 9 1 E.length V::O)∧pa c V E) (by rintro _ _ ⟨_,_,_,_,rfl,_⟩; rfl) ?_ ?_
 refine Td b ?_; clear b; intro Do b
 refine Pd (la 0 [0,11,12,13] rfl (la 1 [1,2,3,4,10,11,12,13] rfl (la 2 [2,3,4,10,11,12,13] rfl (la 3 [3,4,10,11,12,13] rfl (Fb 4 [4,10,11,12,13] rfl (jb ki (aa (ib d0)) ((b.ba d0).cell d2)) (qd kb) (la 5 [5,6,7,8,9,10,11,12,13] rfl (la 6 [6,7,8,9,10,11,12,13] rfl (la 7 [7,8,9,10,11,12,13] rfl (Fb 8 [8,9,10,11,12,13] rfl (jb Hb (aa (ib d4)) ((m19 _ (e _ b.a)).one d2)) (qd cd) ?_)))))))))
 refine Kb rfl rfl rfl rfl (Gb rfl) (xd underlying131 Hb (fb.s (aa (ib d5)) rfl fb.z) rfl rfl b ?_); clear b; intro Go Mf ap b; refine fa ?_
 refine ⟨(Oa.s (jb ki (aa (ib d0)) ((b.ba d1).cell d2)) Oa.z),?_⟩
 obtain ⟨ip,rd,h⟩:=ha h
 have wd:pa C [S d.Name] [d.Name]:=(pa.one (α:=List UInt8) rfl)
 have If:=pa.app (m13.up e) wd rd
 refine Kb rfl rfl rfl rfl (Gb rfl) (xj underlying131 Hb rfl (aa (ib d1)) (aa (ib d6)) b d4 (b.ba d0).cells wd rfl rd (by decide) ?_); clear b; intro jp mp Q R b; cases (show _=Q from R)
 replace b:=Sep.te b hd; refine fa ?_
 replace b:=b.drop ia.z
 refine ⟨Oa.z,?_⟩
 refine la 11 [11,12,13] rfl (la 12 [12,13] rfl (Kb rfl rfl rfl rfl (Gb rfl) (Je ki (aa (ib d9)) (aa (ib d7)) (b.get d3).Me b d0 Ib rfl Ga Ma ?_)))
 clear b; intro op b
 refine ⟨Oa.z,?_⟩
 refine Hd (za ?_)
 exact ⟨_,_,rfl,(Xa (cf (qb (ue ta)))),_,_,_,(L++[S d.Name]),rfl,h,ga.r,b,If⟩
 rintro _ t pp ⟨sp,E,T,V,rfl,h,Fd,b,dg⟩
 unfold Wu at h
 refine Vb (vc (Jh (Wc (qh pb)))) ?_
 refine (fun h=>Pb (za h)) ?_
 exact ⟨_,_,rfl,(yf (zc (qb (lb ta)))),_,j,_,_,_,_,_,rfl,h,(e.t Fd),b,(m5.up (e.t Fd)),dg⟩
 intro wf h
 refine Va ?_
 refine (fun h=>Pb (za h)) ?_
 exact ⟨_,_,rfl,(yf (zc (qb (lb ta)))),_,j,_,_,k,_,_,rfl,h,e,b,(m5.up e),(m13.up e)⟩
 rintro _ t wp ⟨bi,q,x,y,u,A,B,rfl,h,l,b,ci,ii⟩
 unfold Pp at h
 refine Vb (Qi (fg (Wc (Xc pb)))) (ra (ea ?_))
 iterate 3 refine st ?_
 refine Ha ((m19 _ (l _ b.a)).one d3) (wl (Ja (Qd underlying122 (aa (Bb d3))) (ma (Xd hd)) (st (ja (Qb ?_)))))
 refine Se ([4]++rg 46 11) (by decide) (fun n m w=>∃ c i96 F W X G Y Z H v105 gc,m=(tf (Sc 4 (qc (qc (.i (.int .i64 i96)::(Rc 46 (Sc 56 [])))))))∧Rq self d n i96 F G H=some r∧ga bi c∧ka c J w (.ba U 146 [W,Y,v105]::.row W 9 1 F.length X::.row Y 9 1 G.length Z::.row v105 9 1 H.length gc::O)∧pa c X F∧pa c Z G∧pa c gc H) (by rintro _ _ _ ⟨_,_,_,_,_,_,_,_,_,_,_,rfl,_⟩; rfl) _ _ (gd (lb (Xa (Xa (Na (qb (lb ta))))))) ⟨_,0,q,x,y,f,g,p,u,A,B,rfl,h,ga.r,b,ci,(m9.up l),ii⟩ ?_
 rintro lc _ t Op ⟨eq,i96,F,W,X,G,Y,Z,H,v105,gc,rfl,h,v,b,Id,be,ce⟩
 rcases lc with _|lc
 cases h
 unfold Rq at h
 refine Te (Ff (Xc (vc (vc (kc (Wc (Xc pb))))))) (ea (st (ob ?_)))
 refine Za h ?_ ?_
 intro li h
 refine Va (ra (db (Qb (ea ?_))))
 iterate 2 refine st ?_
 refine ja (eb ?_)
 iterate 4 refine st ?_
 refine Ha ((m19 _ ((l.t v) _ b.a)).one d3) (st ?_)
 obtain ⟨Eq,pi,h⟩:=ha h
 obtain ⟨fr,or,qr,Pi,f145,kk⟩:=Pc.elem (m18.up (l.t v)) pi
 obtain ⟨wr,c148,rfl,mk⟩:=ua.o kk
 refine wl (Ja (Mc underlying122 pc (aa (sb d2)) (aa (sb d3)) Pi) (ma (ee hd)) ?_)
 obtain ⟨rc,ok,h⟩:=ha h
 replace b:=(((b.da bb).da bb).da bb).da bb
 refine Aa (ge.Fl (he.t (l.t v)) Id be ce mk f145 ok b) ?_
 rintro _ Fr ⟨Or,dl,el,nl,ol,v159,pl,rfl,ul,b,am,em,hm⟩
 refine fa (La ?_)
 refine (fun h=>Pb (ra h)) ?_
 refine eb ?_
 obtain ⟨i162,lm,h⟩:=ha h
 refine wl (Ja (Gd (aa (Bb d5)) Ba lm) (ma (ee ad)) (st (La (za ?_))))
 exact ⟨lc,_,_,rfl,(gd (lb (Xa (Xa (Na (qb (lb ta))))))),⟨_,i162,rc.1,dl,el,rc.2.1,nl,ol,rc.2.2,v159,pl,rfl,h,(v.t ul),b,am,em,hm⟩,Nat.lt_succ_self _⟩
 intro li h
 refine ke ?_
 refine (fun h=>jc (jc (pe h))) ?_
 obtain rfl:=Ea h
 refine Li rfl ?_
 exact ⟨_,_,_,_,_,_,_,rfl,(l.t v),b,Id,be,ce⟩
theorem nz:∀ n,Kz (rp n)
  | 0=>⟨(by intro; intros; rename_i h _; cases h)⟩
  | n+1=>⟨sD (nz n)⟩
def bz (q:(List (List UInt8))→(List (List UInt8))→(List (List UInt8))→(List Wa)→Option (List (List UInt8)×List (List UInt8)×List (List UInt8))):Prop:=∀ {I:M} {J w:World} {O:List Wb} (o:ga Fc I) {U:Nat} {a:List (List UInt8)} {v3:Value} {e:List Value} {b:List (List UInt8)} {f:Value} {g:List Value} {c:List (List UInt8)} {v11:Value} {i:List Value} {d:List Wa} {uc:Option Addr} {Ve:Nat} {r:List (List UInt8)×List (List UInt8)×List (List UInt8)} (m5:pa I e a) (m9:pa I g b) (m13:pa I i c) (m16:Ka I uc Ve d) (h:q a b c d=some r) (p:ka I J w (.ba U 146 [v3,f,v11]::.row v3 9 1 a.length e::.row f 9 1 b.length g::.row v11 9 1 c.length i::O)),Sb prog 84 [.pointer (some ⟨U,0,none⟩),.slice uc d.length Ve] w (fun v w'=>∃ (na:M) (j:Value) (k:List Value) (v20:Value) (l:List Value) (m:Value) (n:List Value),v=.tuple ⟨[]⟩∧ga I na∧ka na J w' (.ba U 146 [j,v20,m]::.row j 9 1 r.1.length k::.row v20 9 1 r.2.1.length l::.row m 9 1 r.2.2.length n::O)∧pa na k r.1∧pa na l r.2.1∧pa na n r.2.2)
structure Lz (a:Mn):Prop where
  bk:bz a.bk
theorem VC {fu:Nat} {self:Mn} (le:Lz self):bz (bk fu self):=by
 intro I J w O gc U li v3 pi Pi kk mk ok v11 dl q uc Ve r m5 m9 m13 m16 h b
 unfold bk at h
 refine enter func84 rfl (frm:=_::_::Xe (Ze [])) rfl (ea (st (wl (Ja (Qd underlying59 (aa d6)) (ma sd) (st (ja (Qb ?_)))))))
 refine Se (rg 4 2++rg 9 63) (by decide +kernel) (fun n m w=>∃ c i130 k v131 A K lc L l v139 B,m=(tf (xf 4 (vf (.i (.int .i64 i130)::(nk 9 (Rc 59 (Yg 69 [])))))))∧Xj fu self q n i130 k K l=some r∧ga I c∧ka c J w (.ba U 146 [v131,lc,v139]::.row v131 9 1 k.length A::.row lc 9 1 K.length L::.row v139 9 1 l.length B::O)∧pa c A k∧pa c L K∧pa c B l) (by rintro _ _ _ ⟨_,_,_,_,_,_,_,_,_,_,_,rfl,_⟩; rfl) _ _ (gd (Zc (Yc (Na (Vf (qb (ue ta))))))) ⟨_,0,li,v3,pi,Pi,kk,mk,ok,v11,dl,rfl,h,ga.r,b,m5,m9,m13⟩ ?_
 rintro g _ t es ⟨rc,i130,k,v131,A,K,lc,L,l,v139,B,rfl,h,p,b,fd,id,md⟩
 rcases g with _|g
 cases h
 unfold Xj at h
 refine Te (Ff (Kf (Jf (kc (kl (Wc (qh pb))))))) (ea (st (ob ?_)))
 refine Za h ?_ ?_
 intro el h
 refine Va (ra (db (Qb (ea ?_))))
 iterate 2 refine st ?_
 refine rb ?_
 iterate 2 refine st ?_
 obtain ⟨j,nl,h⟩:=ha h
 obtain ⟨gs,is,ls,ol,f258,pl⟩:=Pc.elem (m16.up p) nl
 obtain ⟨ms,os,rs,us,vs,ws,rfl,ul,am,em⟩:=Wa.o pl
 refine wl (Ja (Mc underlying59 Yf (aa (wa d1)) (aa (wa d2)) ol) (ma (Jb ec)) (st (ob (ea ?_))))
 iterate 3 refine st ?_
 refine Ha ((f258 _ b.a).one d0) (st (ja ?_))
 refine Ub (rg 19 13) (by decide) (fun m w=>∃ c M rd wd,m=(yd (mi (Rc 19 (Yg 29 []))))∧Mq fu self i130 k l j (Xj fu self q g) M=some r∧ga rc c∧ka c J w (.ba U 146 [v131,rd,v139]::.row v131 9 1 k.length A::.row rd 9 1 M.length wd::.row v139 9 1 l.length B::O)∧pa c wd M) (by rintro _ _ ⟨_,_,_,_,rfl,_⟩; rfl) ?_ ?_
 refine Za h ?_ ?_
 intro hm h
 refine Ub (rg 19 13) (by decide) (fun m w=>∃ c N Fd Id,m=(yd (mi (Rc 19 (Yg 29 []))))∧Pu fu self i130 k l j (Xj fu self q g) N=some r∧ga rc c∧ka c J w (.ba U 146 [v131,Fd,v139]::.row v131 9 1 k.length A::.row Fd 9 1 N.length Id::.row v139 9 1 l.length B::O)∧pa c Id N) (by rintro _ _ ⟨_,_,_,_,rfl,_⟩; rfl) ?_ ?_
 refine Td b ?_; clear b; intro xs b
 refine Pd (la 0 [0,11,12,13] rfl (la 1 [1,2,3,4,10,11,12,13] rfl (la 2 [2,3,4,10,11,12,13] rfl (la 3 [3,4,10,11,12,13] rfl (Fb 4 [4,10,11,12,13] rfl (jb ki (aa (Sa d2)) ((b.ba d0).cell d1)) (oc ec) (la 5 [5,6,7,8,9,10,11,12,13] rfl (la 6 [6,7,8,9,10,11,12,13] rfl (la 7 [7,8,9,10,11,12,13] rfl (Fb 8 [8,9,10,11,12,13] rfl (jb Hb (aa (Sa d6)) ((f258 _ b.a).one d1)) (oc sd) ?_)))))))))
 refine Kb rfl rfl rfl rfl (Gb rfl) (xd underlying131 Hb (fb.s (aa (Sa d7)) rfl fb.z) rfl rfl b ?_); clear b; intro ys Os gt b; refine fa ?_
 refine ⟨(Oa.s (jb ki (aa (Sa d2)) ((b.ba d1).cell d1)) Oa.z),?_⟩
 obtain ⟨it,ne,h⟩:=ha h
 have Ne:pa rc [S j.Name] [j.Name]:=(pa.one (α:=List UInt8) rfl)
 have lm:=pa.app id Ne ne
 refine Kb rfl rfl rfl rfl (Gb rfl) (xj underlying131 Hb rfl (aa (Sa d3)) (aa (Sa d8)) b d3 (b.ba d0).cells Ne rfl ne (by decide) ?_); clear b; intro lt mt pm sm b; cases (show _=pm from sm)
 replace b:=Sep.te b ec; refine fa ?_
 replace b:=b.drop ia.z
 refine ⟨Oa.z,?_⟩
 refine la 11 [11,12,13] rfl (la 12 [12,13] rfl (Kb rfl rfl rfl rfl (Gb rfl) (Je ki (aa (ib d1)) (aa (Sa d9)) (b.get d2).Me b d0 kb rfl Ga Ma ?_)))
 clear b; intro rt b
 refine ⟨Oa.z,?_⟩
 refine Hd (za ?_)
 exact ⟨_,_,rfl,(xb (yf (qb (ue ta)))),_,_,_,(L++[S j.Name]),rfl,h,ga.r,b,lm⟩
 rintro _ t ut ⟨wt,N,Fd,Id,rfl,h,Nm,b,fn⟩
 unfold Pu at h
 refine Vb (Dd (Qi (Wc (qh pb)))) (za ?_)
 exact ⟨_,_,rfl,(xb (yf (qb (ue ta)))),_,_,_,_,rfl,h,Nm,b,fn⟩
 intro hm h
 refine Va (za ?_)
 exact ⟨_,_,rfl,(xb (yf (qb (ue ta)))),_,_,_,_,rfl,h,ga.r,b,id⟩
 rintro _ t hu ⟨on,M,rd,wd,rfl,h,d,b,of⟩
 unfold Mq at h
 refine Vb (Dd (Qi (Wc (qh pb)))) (ra (db (ea ?_)))
 iterate 3 refine st ?_
 refine Ha ((f258 _ (d _ b.a)).one d0) (st (ja ?_))
 refine Ub (rg 37 5) (by decide) (fun m w=>∃ c u C P v D Q x E R,m=(qc (yd (rh (Hk 37 []))))∧Lq self i130 j (Xj fu self q g) u v x=some r∧ga on c∧ka c J w (.ba U 146 [C,D,E]::.row C 9 1 u.length P::.row D 9 1 v.length Q::.row E 9 1 x.length R::O)∧pa c P u∧pa c Q v∧pa c R x) (by rintro _ _ ⟨_,_,_,_,_,_,_,_,_,_,rfl,_⟩; rfl) ?_ ?_
 refine Za h ?_ ?_
 intro un h
 refine eb ?_
 iterate 4 refine st ?_
 obtain ⟨be,wn,h⟩:=ha h
 replace b:=(((b.da bb).da bb).da bb).da bb
 refine Aa ((nz fu).Fl (gc.t (p.t d)) (fd.up d) of (md.up d) (ul.up d) ((f258.up d).eg 2 4) wn b) ?_
 rintro _ Mf ⟨pu,bv,hw,kw,lw,ww,ex,rfl,Fn,b,In,co,go⟩
 refine fa (La (za ?_))
 exact ⟨_,_,rfl,(Xa (xb (cf (Ah ta)))),_,be.1,_,_,be.2.1,_,_,be.2.2,_,_,rfl,h,Fn,b,In,co,go⟩
 intro un h
 refine Va (za ?_)
 exact ⟨_,_,rfl,(Xa (xb (cf (Ah ta)))),_,_,_,_,_,_,_,_,_,_,rfl,h,ga.r,b,(fd.up d),of,(md.up d)⟩
 rintro _ t rx ⟨io,u,C,P,v,D,Q,x,E,R,rfl,h,f,b,wf,If,dg⟩
 unfold Lq at h
 refine Vb (vc (Dd (Jh (Ql pb)))) (ra (db (db ?_)))
 refine Ub (rg 42 11) (by decide) (fun m w=>∃ c ce,m=(qc (qc (vf (Rc 42 (Sc 52 (.i (.bool ce)::[]))))))∧Kq self i130 j u v x (Xj fu self q g) ce=some r∧ga io c∧ka c J w (.ba U 146 [C,D,E]::.row C 9 1 u.length P::.row D 9 1 v.length Q::.row E 9 1 x.length R::O)) (by rintro _ _ ⟨_,_,rfl,_⟩; rfl) ?_ ?_
 refine eb ?_
 iterate 3 refine st ?_
 refine Ha ((f258 _ ((d.t f) _ b.a)).one d0) ?_
 iterate 2 refine st ?_
 refine me 47 h ?_ ?_
 intro no h
 refine oa rfl rfl (oa rfl rfl (oa rfl rfl (oa rfl rfl (oa rfl rfl (st (La (za ?_)))))))
 exact ⟨_,_,rfl,(Xa (Xa (Yc (qb (lb (Na ta)))))),_,true,rfl,h,ga.r,b⟩
 intro no h
 refine Ta rfl (Ta rfl (Ta rfl (mc rfl (Bb d7) (de Uc (aa (sb d0)) ((f258 _ ((d.t f) _ b.a)).one d0) (ma (ee kb)) (Ta rfl (st (La (za ?_))))))))
 exact ⟨_,_,rfl,(Xa (Xa (Yc (qb (lb (Na ta)))))),_,(decide (j.Kind=4)),rfl,h,ga.r,b⟩
 rintro _ t xx ⟨ro,ce,rfl,h,e,b⟩
 unfold Kq at h
 refine Vb (vc (vc (Jf (Wc (Xc (kc pb)))))) (ra ?_)
 refine Ub (rg 54 6) (by decide) (fun m w=>∃ c F T V G W X H Y Z,m=(Sd (tf (ml 54 [])))∧Jq self i130 j (Xj fu self q g) F G H=some r∧ga ro c∧ka c J w (.ba U 146 [T,W,Y]::.row T 9 1 F.length V::.row W 9 1 G.length X::.row Y 9 1 H.length Z::O)∧pa c V F∧pa c X G∧pa c Z H) (by rintro _ _ ⟨_,_,_,_,_,_,_,_,_,_,rfl,_⟩; rfl) ?_ ?_
 refine ed h ?_ ?_
 intro to h
 refine eb ?_
 iterate 4 refine st ?_
 refine Ha ((f258 _ ((d.t (f.t e)) _ b.a)).one d6) ?_
 obtain ⟨ge,Do,h⟩:=ha h
 replace b:=(((b.da bb).da bb).da bb).da bb
 refine Aa (le.bk (gc.t (p.t (d.t (f.t e)))) (wf.up e) (If.up e) (dg.up e) (am.up (d.t (f.t e))) Do b) ?_
 rintro _ zx ⟨ty,sz,Rz,AC,GE,LE,NE,rfl,Go,b,ap,ip,jp⟩
 refine fa (La (za ?_))
 exact ⟨_,_,rfl,(Yb (gd (di ta))),_,ge.1,_,_,ge.2.1,_,_,ge.2.2,_,_,rfl,h,Go,b,ap,ip,jp⟩
 intro to h
 refine Va (za ?_)
 exact ⟨_,_,rfl,(Yb (gd (di ta))),_,_,_,_,_,_,_,_,_,_,rfl,h,ga.r,b,(wf.up e),(If.up e),(dg.up e)⟩
 rintro _ t WF ⟨RK,F,T,V,G,W,X,H,Y,Z,rfl,h,y,b,bi,ci,ii⟩
 unfold Jq at h
 refine Vb (Ud (Ff (Em pb))) (ra (ea ?_))
 iterate 3 refine st ?_
 refine Ha ((f258 _ ((d.t (f.t (e.t y))) _ b.a)).one d0) (st (ja ?_))
 refine Za h ?_ ?_
 intro mp h
 refine eb ?_
 iterate 4 refine st ?_
 refine Ha ((f258 _ ((d.t (f.t (e.t y))) _ b.a)).one d7) ?_
 obtain ⟨he,op,h⟩:=ha h
 replace b:=(((b.da bb).da bb).da bb).da bb
 refine Aa (le.bk (gc.t (p.t (d.t (f.t (e.t y))))) bi ci ii (em.up (d.t (f.t (e.t y)))) op b) ?_
 rintro _ WL ⟨XL,pp,sp,wp,Op,eq,Eq,rfl,fr,b,or,qr,wr⟩
 refine fa (La ?_)
 refine (fun h=>Pb (ra h)) ?_
 refine eb ?_
 obtain ⟨Fr,Or,h⟩:=ha h
 refine wl (Ja (Gd (aa d8) Ba Or) (ma (Zf kb)) (st (La (za ?_))))
 exact ⟨g,_,_,rfl,(gd (Zc (Yc (Na (Vf (qb (ue ta))))))),⟨_,Fr,he.1,pp,sp,he.2.1,wp,Op,he.2.2,eq,Eq,rfl,h,(p.t (d.t (f.t (e.t (y.t fr))))),b,or,qr,wr⟩,Nat.lt_succ_self _⟩
 intro mp h
 refine Va ?_
 refine (fun h=>Pb (ra h)) ?_
 refine eb ?_
 obtain ⟨cs,ds,h⟩:=ha h
 refine wl (Ja (Gd (aa d8) Ba ds) (ma (Zf kb)) (st (La (za ?_))))
 exact ⟨g,_,_,rfl,(gd (Zc (Yc (Na (Vf (qb (ue ta))))))),⟨_,cs,F,T,V,G,W,X,H,Y,Z,rfl,h,(p.t (d.t (f.t (e.t y)))),b,bi,ci,ii⟩,Nat.lt_succ_self _⟩
 intro el h
 refine ke ?_
 refine (fun h=>jc (jc (pe h))) ?_
 obtain rfl:=Ea h
 refine Li rfl ?_
 exact ⟨_,_,_,_,_,_,_,rfl,p,b,fd,id,md⟩
theorem oz:∀ n,Lz (vk n)
  | 0=>⟨(by intro; intros; rename_i h _; cases h)⟩
  | n+1=>⟨VC (oz n)⟩
theorem WC (co:ga Fc I) {p_1:Zb} {d:va} {r:nf} (m5:Ka I a3 c4 p_1.defs) (m7:rf I dh p_1.named) (m8:dd I U Qf [.slice a3 p_1.defs.length c4,.map (some dh)]) (m13:Ka I xc c12 d.Params) (m16:Ka I uc Ve d.Body) (m17:dd I Fe rl [.int .i64 d.Kind,S d.Name,.int .i64 d.zb.Kind,S d.zb.Nb,.int .i64 d.Hc.Kind,S d.Hc.Nb,.int .i64 d.oe,.slice xc d.Params.length c12,.slice uc d.Body.length Ve]) (h:qv fu p_1 d=some r) (b:ka I J w (O)):Sb prog 65 [.pointer (some ⟨U,Qf,none⟩),.pointer (some ⟨Fe,rl,none⟩)] w (fun v w'=>∃ (na:M) (pi:Option Addr) (Pi:Nat) (a21:Option Addr) (kk:Nat) (a24:Option Addr) (mk:Nat),v=.agg ⟨[.slice pi r.calls.length Pi,.slice a21 r.Ol.length kk,.slice a24 r.Ak.length mk]⟩∧ga I na∧ka na J w' (O)∧Ka na pi Pi r.calls∧Ka na a21 kk r.Ol∧Ka na a24 mk r.Ak):=by
 unfold qv at h
 refine enter func65 rfl (frm:=_::_::zd (zd (Wf (Ze [])))) rfl (ea ?_)
 refine wl (bd iu b ?_); clear b; intro wd NE WF b; refine fa ?_
 refine rb ?_
 refine wl (bd iu b ?_); clear b; intro Fd RK WL b; refine fa ?_
 refine rb ?_
 refine wl (xd underlying131 Hb fb.z rfl rfl b ?_); clear b; intro go XL YL b; refine fa ?_
 refine st (rb (st ?_))
 refine wl (xd underlying171 Sn (fb.s (aa (wa d3)) rfl fb.z) rfl rfl b ?_); clear b; intro io ZL aM b; refine fa ?_
 refine st (ob (Qb ?_))
 replace b:=b.ew (n:=0) (sz:=cb.sz (List UInt8)) d1 rfl (by decide) kb
 have no:pa I [] ([]:List (List UInt8)):=pa.nil
 replace b:=b.ew (n:=1) (sz:=cb.sz (Option va)) d0 rfl (by decide) Ga
 have ro:pa I [.pointer (some ⟨Fe,rl,none⟩)] ([(some d)]:List (Option va)):=(pa.one (α:=Option va) (⟨(.pointer (some ⟨Fe,rl,none⟩)),rfl,(uh.of (α:=va) m17 (va.i ⟨xc,c12,uc,Ve,rfl,m13,m16⟩))⟩))
 replace b:=b.Qh 9 (cb.sz (List UInt8))
 replace b:=b.Qh 9 (cb.sz (List UInt8))
 replace b:=((((b.da Da).da Eb).da bb).da ff).da Bi
 refine Se (rg 8 2++[11]++rg 15 50) (by decide +kernel) (fun n m w=>∃ c j H K W Id be X ce Y Z ge gc,m=(Og (.i (H)::(.i (Id)::(xf 8 (kh (Sc 11 (kg (nk 15 []))))))))∧Uo fu p_1 n j W X Z=some r∧ga I c∧ka c J w (.ba wd 146 [.slice none 0 0,.slice none 0 0,.slice none 0 0]::.ba Fd 146 [.slice none 0 0,ce,ge]::.row H 9 1 j.length K::.row Id 55 1 W.length be::.row ce 9 1 X.length Y::.row ge 9 1 Z.length gc::O)∧pa c K j∧pa c be W∧pa c Y X∧pa c gc Z) (by rintro _ _ _ ⟨_,_,_,_,_,_,_,_,_,_,_,_,_,rfl,_⟩; rfl) _ _ (ye (Na (Na (Zc (Ee (lb (Md (Vf ta)))))))) ⟨_,([]:List (List UInt8)),(.slice (some ⟨go,0,none⟩) 0 0),[],([(some d)]:List (Option va)),(.slice (some ⟨io,0,none⟩) 1 1),[.pointer (some ⟨Fe,rl,none⟩)],[],(.slice none 0 0),[],[],(.slice none 0 0),[],rfl,h,ga.r,b,no,ro,pa.nil,pa.nil⟩ ?_
 rintro L _ t bM ⟨he,j,H,K,W,Id,be,X,ce,Y,Z,ge,gc,rfl,h,N,b,to,Do,ok,dl⟩
 rcases L with _|L
 cases h
 unfold Uo at h
 refine Te (Zg (kc (kc (Kf (zh (Xc (sg (kl pb)))))))) (db (ea (st (wl (Ja (wj underlying171 (aa (wa d5)) (b.get d3).yj) (ma (Jb ad)) (st (ja ?_)))))))
 refine Za h ?_ ?_
 intro Go h
 refine Va (ra (Qb (ea (st ?_))))
 obtain ⟨cM,ap,h⟩:=ha h
 obtain ⟨dM,eM,fM,gM,hM,ip,jp,mp,op,iM,jM,pp⟩:=Row.nq (α:=Option va) (b.get d3) Do rfl ap
 rw [ip] at b
 obtain ⟨kM,rfl,sp⟩:=op
 refine wl (Ja (Mc underlying171 Sn (aa (wa d8)) Ba jp) (ma (Jb Ed)) (Ha ((mp _ _ _ (b.get d3) rfl).one d0) (st (rb (st ?_)))))
 obtain ⟨le,wp,h⟩:=ha h
 obtain ⟨el,nl,Op,eq,Eq,fr⟩:=Row.wI (b.get d3) pp wp
 replace b:=b.py d3 eq Eq ec
 refine wl (Ja (lq underlying171 Sn (aa (Sa d1)) (.s Ba) .n Op) (ma (oc Ib)) (st (rb ?_)))
 refine wl (bd iu b ?_); clear b; intro or lM mM b; refine fa ?_
 refine rb (st ?_)
 obtain ⟨nM,qr,h⟩:=ha h
 obtain ⟨oM,pM,qM,rfl,wr,Fr⟩:=uh.get sp qr
 obtain ⟨rM,sM,tM,uM,rfl,vM,Or⟩:=Fr
 iterate 2 refine st ?_
 refine Ha ((wr _ b.a).one d8) ?_
 replace b:=b.Qh 9 (cb.sz (List UInt8))
 replace b:=b.Qh 9 (cb.sz (List UInt8))
 replace b:=b.Qh 9 (cb.sz (List UInt8))
 obtain ⟨A,cs,h⟩:=ha h
 replace b:=((b.da Da).da Eb).da bb
 refine Aa ((oz fu).bk (co.t N) (pa.nil (α:=List UInt8) (μ:=he)) (pa.nil (α:=List UInt8) (μ:=he)) (pa.nil (α:=List UInt8) (μ:=he)) Or cs b) ?_
 rintro _ wM ⟨ds,ne,ol,xM,yM,zM,AM,rfl,o,b,es,gs,is⟩
 refine fa (ob ?_)
 refine Ub (rg 28 12) (by decide) (fun m w=>∃ c lc Ne wf rc If dg p B P q C Q,m=(qc (Kh (Rc 28 (xf 38 []))))∧Qu p_1 j le A (Uo fu p_1 L) lc rc p q=some r∧ga ds c∧ka c J w (.ba wd 146 [.slice none 0 0,.slice none 0 0,.slice none 0 0]::.ba Fd 146 [.slice none 0 0,B,C]::.row H 9 1 j.length K::.row el 55 1 le.length nl::.ba or 146 [ne,.slice Ne lc.length wf,.slice If rc.length dg]::.row ne 9 1 A.1.length ol::.row B 9 1 p.length P::.row C 9 1 q.length Q::O)∧Ka c Ne wf lc∧Ka c If dg rc∧pa c P p∧pa c Q q) (by rintro _ _ ⟨_,_,_,_,_,_,_,_,_,_,_,_,_,rfl,_⟩; rfl) ?_ ?_
 refine Td b ?_; clear b; intro Mf b
 refine Pd (la 0 [0,1,4,9,10,11,12,13] rfl (Fb 1 [1,4,9,10,11,12,13] rfl (jb ki (aa (Sa d8)) ((b.ba d5).cell d1)) (oc Ed) (la 2 [2,3,4,9,10,11,12,13] rfl (Fb 3 [3,4,9,10,11,12,13] rfl (jb ki (aa (ib d0)) ((b.ba d0).cell d1)) (qd kb) (la 5 [5,6,9,10,11,12,13] rfl (Fb 6 [6,9,10,11,12,13] rfl (jb ki (aa (ib d3)) ((b.ba d5).cell d2)) (qd hd) (la 7 [7,8,9,11,12,13] rfl (Fb 8 [8,9,11,12,13] rfl (jb ki (aa (ib d5)) ((b.ba d0).cell d2)) (qd ad) ?_))))))))
 replace b:=b.da Eb
 obtain ⟨BM,CM,DM,ls,fd,pl,f⟩:=Sep.Gi b gs rfl; clear b
 subst ls; have b:=f; clear f
 obtain ⟨EM,ul,h⟩:=ha h
 obtain ⟨ms,am,os⟩:=Ka.cells pl
 have rs:=pa.app (ok.up (o.t fd)) am ul
 refine Kb rfl rfl rfl rfl (Gb rfl) (JB underlying131 Hb rfl (aa (Sa d9)) (aa (ib d1)) b d7 (fun e=>(os e)) am ul (by decide) ?_); clear b; intro FM GM u x b; cases (show _=u from x)
 replace b:=Sep.te b sd; refine fa ?_
 refine ⟨(Oa.s (jb ki (aa (ib d5)) ((b.ba d0).cell d2)) (Oa.s (jb ki (aa (ib d3)) ((b.ba d4).cell d2)) Oa.z)),?_⟩
 refine la 10 [10,11,12,13] rfl ?_
 replace b:=b.da Eb
 obtain ⟨HM,IM,JM,us,id,em,f⟩:=Sep.Gi b (is.up fd) rfl; clear b
 subst us; have b:=f; clear f
 obtain ⟨KM,hm,h⟩:=ha h
 obtain ⟨vs,lm,ws⟩:=Ka.cells em
 have xs:=pa.app (dl.up (o.t (fd.t id))) lm hm
 refine Kb rfl rfl rfl rfl (Gb rfl) (JB underlying131 Hb rfl (aa (ib d4)) (aa (ib d6)) b d7 (fun e=>(ws e)) lm hm (by decide) ?_); clear b; intro LM MM u x b; cases (show _=u from x)
 replace b:=Sep.te b sd; refine fa ?_
 refine ⟨Oa.z,?_⟩
 refine Kb rfl rfl rfl rfl (Gb rfl) (Je ki (aa (ib d8)) (aa (ib d2)) (b.get d6).Me b d3 kb rfl ec Ma ?_)
 clear b; intro NM b
 refine ⟨Oa.z,?_⟩
 refine la 12 [12,13] rfl (Kb rfl rfl rfl rfl (Gb rfl) (Je ki (aa (ib d9)) (aa (ib d7)) (b.get d7).Me b d3 Ib rfl ec Ma ?_))
 clear b; intro OM b
 refine ⟨Oa.z,?_⟩
 refine Hd (za ?_)
 replace b:=(((((((b.da gn).da gn).da bb).da bb).da gn).da gn).da gn).da gn
 exact ⟨_,_,rfl,(Xa (lf (qb (Zc ta)))),_,A.2.1,_,_,A.2.2,_,_,_,_,(Y++ms),_,_,(gc++vs),rfl,h,(fd.t id),b,(pl.up id),em,(rs.up id),xs⟩
 rintro _ t PM ⟨ys,lc,Ne,wf,rc,If,dg,p,B,P,q,C,Q,rfl,h,D,b,QM,RM,Os,gt⟩
 unfold Qu at h
 refine Vb (vc (fi (Wc (Kf pb)))) (ra (ea (st (Ha ((b.ba d4).cell d0) (wl (Ja (wj underlying131 (aa (Bb d1)) (b.get d5).yj) (ma (Xd Ib)) (st (ja (Qb ?_)))))))))
 replace b:=b.drop (ia.s (ia.s (ia.s (ia.s ia.z))))
 refine Se ([11]++rg 44 21) (by decide +kernel) (fun n m w=>∃ c bi y R E F T G,m=(Og (.i (R)::(.i (T)::(kg (Sc 11 (qc (yd (kh (.i (.int .i64 bi)::(Uf 44 (Sc 64 [])))))))))))∧Lp p_1 A p q (Uo fu p_1 L) n bi y F=some r∧ga ys c∧ka c J w (.ba wd 146 [.slice none 0 0,.slice none 0 0,.slice none 0 0]::.ba Fd 146 [.slice none 0 0,B,C]::.row R 9 1 y.length E::.row T 55 1 F.length G::.row ne 9 1 A.1.length ol::.row B 9 1 p.length P::.row C 9 1 q.length Q::O)∧pa c E y∧pa c G F) (by rintro _ _ _ ⟨_,_,_,_,_,_,_,_,rfl,_⟩; rfl) _ _ (ye (Na (Na (Md (lb (Xa (xb (Ee (Na (zc (lb ta))))))))))) ⟨_,0,j,H,K,le,el,nl,rfl,h,ga.r,b,(to.up (o.t D)),(fr.up (o.t D))⟩ ?_
 rintro md _ t SM ⟨pm,bi,y,R,E,F,T,G,rfl,h,g,b,rd,ci⟩
 rcases md with _|md
 cases h
 unfold Lp at h
 refine Te (Zg (kc (kc (sg (Xc (vc (Dd (zh (kc (fg (Xc pb))))))))))) (ea (st (ob ?_)))
 refine Za h ?_ ?_
 intro it h
 refine Va (ra (db (Qb (ea ?_))))
 obtain ⟨V,lt,h⟩:=ha h
 obtain ⟨TM,UM,VM,WM,XM,ii,mt,rt,ut,YM,ZM,aN⟩:=Row.nq (α:=List UInt8) (b.get d4) (es.up (D.t g)) rfl lt
 rw [ii] at b
 obtain rfl:=ut
 refine wl (Ja (Mc underlying131 Hb (aa (Bb d1)) (aa (Bb d3)) mt) (ma (Xd cd)) (Ha ((rt _ _ _ (b.get d4) rfl).one d0) (st (rb ?_))))
 iterate 2 refine st ?_
 refine wl (td ey nd (sa (aa (Bb d7)) (sa (aa (Bb d8)) hb)) (Tw (l:=y) (zE By (b.get d2) rd)) ?_); rintro _ bN ⟨rfl,sm⟩; replace b:=sm ▸ b; clear sm; refine fa ?_
 refine st (ja ?_)
 refine pj h ?_ ?_
 intro wt h
 refine ea ?_
 iterate 2 refine st ?_
 refine wl (xd underlying131 Hb (fb.s (aa (sb d2)) rfl fb.z) rfl rfl b ?_); clear b; intro cN dN eN b; refine fa ?_
 obtain ⟨hu,Nm,h⟩:=ha h
 have fn:pa pm [S V] [V]:=(pa.one (α:=List UInt8) rfl)
 have pu:=pa.app rd fn Nm
 refine wl (xj underlying131 Hb rfl (aa (sb d1)) (aa (sb d3)) b d3 (b.ba d0).cells fn rfl Nm (by decide) ?_); clear b; intro bv fN u x b; cases (show _=u from x)
 replace b:=Sep.te b ec; refine fa ?_
 replace b:=b.drop ia.z
 refine st (ja (eb ?_))
 iterate 4 refine st ?_
 refine Ha ((m8 _ ((N.t (o.t (D.t g))) _ b.a)).one d1) (st ?_)
 obtain ⟨gN,hN,hw,kw⟩:=(m7.up (N.t (o.t (D.t g))))
 refine wl (zt (κ:=List UInt8) (k:=V) (hrv:=fun _ _ h=>h) underlying76 underlying9 (aa (sb d9)) (aa (Gc d0)) vq (hw _ b.a) kw ?_); intro li on; refine fa ?_
 refine wl (xd underlying171 Sn (fb.s (aa (Gc d1)) (on.Me) fb.z) rfl rfl b ?_); clear b; intro iN jN kN b; refine fa ?_
 obtain ⟨lw,un,h⟩:=ha h
 have wn:pa pm [li] [(vb p_1.named V)]:=(pa.one (α:=Option va) (⟨li,rfl,on⟩))
 have ww:=pa.app ci wn un
 refine wl (xj underlying171 Sn rfl (aa (sb d5)) (aa (Gc d2)) b d4 (b.ba d0).cells wn rfl un (by decide) ?_); clear b; intro ex lN u x b; cases (show _=u from x)
 replace b:=Sep.te b hd; refine fa ?_
 replace b:=b.drop ia.z
 refine st (La ?_)
 refine (fun h=>Pb (ra h)) ?_
 refine eb ?_
 obtain ⟨rx,xx,h⟩:=ha h
 refine wl (Ja (Gd (aa (Bb d3)) Ba xx) (ma (zg hd)) (st (La (za ?_))))
 rw [← ii] at b
 exact ⟨md,_,_,rfl,(ye (Na (Na (Md (lb (Xa (xb (Ee (Na (zc (lb ta))))))))))),⟨_,rx,hu,bv,(E++[S V]),lw,ex,(G++[li]),rfl,h,g,b,pu,ww⟩,Nat.lt_succ_self _⟩
 intro wt h
 refine Va ?_
 refine (fun h=>Pb (ra h)) ?_
 refine eb ?_
 obtain ⟨zx,ty,h⟩:=ha h
 refine wl (Ja (Gd (aa (Bb d3)) Ba ty) (ma (zg hd)) (st (La (za ?_))))
 rw [← ii] at b
 exact ⟨md,_,_,rfl,(ye (Na (Na (Md (lb (Xa (xb (Ee (Na (zc (lb ta))))))))))),⟨_,zx,y,R,E,F,T,G,rfl,h,g,b,rd,ci⟩,Nat.lt_succ_self _⟩
 intro it h
 refine ke ?_
 refine (fun h=>jc (jc (pe h))) ?_
 refine (fun h=>Pb (za h)) ?_
 replace b:=b.drop (ia.s (ia.s (ia.s (ia.s ia.z))))
 exact ⟨L,_,_,rfl,(ye (Na (Na (Zc (Ee (lb (Md (Vf ta)))))))),⟨_,y,R,E,F,T,G,p,B,P,q,C,Q,rfl,h,(N.t (o.t (D.t g))),b,rd,ci,(Os.up g),(gt.up g)⟩,Nat.lt_succ_self _⟩
 intro Go h
 refine ke ?_
 refine (fun h=>jc (jc (pe h))) ?_
 refine ra (ea (Ae (b.ba d1).cells rfl (wl (yb iu (aa d4) (aa (Gc d5)) rfl (Rh rfl (Rh ((b.get d4).Me) (Rh ((b.get d5).Me) Hs))) b d0 rfl Ga Ma ?_))))
 clear b; intro mN b
 refine ja (Ra ?_)
 replace b:=b.da ff
 obtain ⟨nN,oN,pN,Rz,Fn,AC,f⟩:=Sep.Gi b ok rfl; clear b
 subst Rz; have b:=f; clear f
 replace b:=b.da ff
 obtain ⟨qN,rN,sN,GE,In,LE,f⟩:=Sep.Gi b (dl.up Fn) rfl; clear b
 subst GE; have b:=f; clear f
 obtain rfl:=Ea h
 refine Ad rfl (Qa.s (.a d4 iu (b.ba d0).cells rfl) Qa.z) ?_
 replace b:=(((b.drop ia.z).drop ia.z).drop ia.z).drop ia.z
 exact ⟨_,none,0,_,_,_,_,rfl,(N.t (Fn.t In)),b,Ka.nil,(AC.up In),LE⟩
theorem JC (Fd:ga Fc I) {p_1:List va} {r:List hh×Vc} (m3:Ka I xa c2 p_1) (h:cr fu p_1=some r) (b:ka I J w (O)):Sb prog 44 [.slice xa p_1.length c2] w (fun v w'=>∃ (na:M) (a4:Option Addr) (c5:Nat),v=.tuple ⟨[.slice a4 r.1.length c5,.agg ⟨[.int .i64 r.2.Ue,.int .i64 r.2.dd]⟩]⟩∧ga I na∧ka na J w' (O)∧Ka na a4 c5 r.1):=by
 unfold cr at h
 refine enter func44 rfl (frm:=_::zd (Ge (Wf (Ze (Ze []))))) rfl (ea (st ?_))
 refine wl (bd wc b ?_); clear b; intro Le mt rt b; refine fa ?_
 refine rb (st ?_)
 obtain ⟨Id,g10,h⟩:=ha h
 refine Aa (UC Fd m3 g10 b) ?_
 rintro _ ut ⟨be,Qc,Od,uc,Ve,wt,rfl,q,b,m16,m18,m19⟩
 refine fa ?_
 iterate 3 refine st ?_
 refine wl (bd wc b ?_); clear b; intro hu pu bv b; refine fa ?_
 refine st (wl (yb wc (aa d5) (aa (Sa d0)) rfl rfl b d0 rfl Ga Ma ?_))
 clear b; intro hw b
 refine ob (ea (st (Ha ((b.ba d0).cell d0) (st (ja ?_)))))
 refine Za h ?_ ?_
 intro dl h
 refine db ?_
 refine Td b ?_; clear b; intro kw b
 refine Pd (Fb 0 [0,2] rfl (Re wc (aa d5) (b.ba d0).cells rfl) (oc hd) (la 1 [1,2] rfl (Kb rfl rfl rfl rfl (Gb rfl) (yb wc (aa d3) (aa (Sa d4)) rfl rfl b d1 rfl kb Ma ?_))))
 clear b; intro lw b
 refine ⟨Oa.z,?_⟩
 refine Hd (ra (Ra (Fa ?_)))
 obtain rfl:=Ea h
 refine Ad rfl (Qa.s (.t d2) (Qa.s (.a d3 wc (b.ba d1).cells rfl) Qa.z)) ?_
 replace b:=(b.drop ia.z).drop ia.z
 exact ⟨_,none,0,rfl,q,b,Ka.nil⟩
 intro dl h
 refine Va (ra (ea ?_))
 refine wl (hj b ?_); clear b; intro K ww ex b; refine fa ?_
 refine st (ob (ea (st (wl (Ja (Qd underlying22 (aa (Sa d6))) (ma (oc sd)) (st (ja (Qb ?_))))))))
 replace b:=(b.drop (ia.s ia.z)).da Da
 refine Se ([7]++rg 29 20) (by decide +kernel) (fun n m w=>∃ f i88 g A B,m=(rh (Sc 7 (qc (.i (.int .i64 i88)::(Uf 29 [])))))∧Ro fu p_1 Id n i88 g=some r∧ga be f∧ka f J w (.ba Le 26 [.int .i64 0,.int .i64 0]::.map K A B::O)∧je f A B g) (by rintro _ _ _ ⟨_,_,_,_,_,rfl,_⟩; rfl) _ _ (cf (lb (Xa (Na (zc ta))))) ⟨_,0,([]:List (List UInt8×nf)),[],0,rfl,h,ga.r,b,(je.nil (κ:=List UInt8) (β:=nf) (μ:=be) (c:=0))⟩ ?_
 rintro P _ t Mf ⟨ce,i88,g,A,B,rfl,h,j,b,T⟩
 rcases P with _|P
 cases h
 unfold Ro at h
 refine Te (Jh (Xc (vc (kc (fg pb))))) (ea (st (ob ?_)))
 refine Za h ?_ ?_
 intro el h
 refine Va (ra (db (Qb (ea ?_))))
 iterate 2 refine st ?_
 refine rb ?_
 iterate 2 refine st ?_
 obtain ⟨rx,nl,h⟩:=ha h
 obtain ⟨ty,Rz,AC,ol,f165,pl⟩:=Pc.elem (m3.up (q.t j)) nl
 obtain ⟨a167,c168,GE,c171,rfl,LE,NE⟩:=pl
 refine wl (Ja (Mc underlying22 Oe (aa (ib d1)) (aa (ib d2)) ol) (ma (qd ec)) (st (Ha ((f165 _ b.a).one d0) (st (ja ?_)))))
 refine Za h ?_ ?_
 intro ul h
 refine Ub (rg 37 11) (by decide) (fun m w=>∃ f V W c175,m=(qc (yd (rh (Rc 37 (Sc 47 [])))))∧Lu i88 (Ro fu p_1 Id P) V=some r∧ga ce f∧ka f J w (.ba Le 26 [.int .i64 0,.int .i64 0]::.map K W c175::O)∧je f W c175 V) (by rintro _ _ ⟨_,_,_,_,rfl,_⟩; rfl) ?_ ?_
 refine Td b ?_; clear b; intro WF b
 refine Pd (la 0 [0,11] rfl (la 1 [1,3,4,5,11] rfl (la 2 [2,3,4,5,11] rfl ?_)))
 obtain ⟨ge,am,h⟩:=ha h
 obtain ⟨RK,WL,XL,em,f184,hm⟩:=Pc.elem (m3.up (q.t j)) am
 obtain ⟨YL,ZL,aM,bM,rfl,cM,dM⟩:=hm
 refine ze 3 [3,4,5,11] rfl (Mc underlying22 Oe (aa (ib d8)) (aa (ib d9)) em) (Xd Ga) (la 4 [4,5,11] rfl (Fb 5 [5,11] rfl (jb Hb (aa (Bb d1)) ((f184 _ b.a).one d1)) (Xd Ib) (la 6 [6,10,11] rfl (la 7 [7,9,10,11] rfl (la 8 [8,9,10,11] rfl ?_)))))
 obtain ⟨eM,lm,h⟩:=ha h
 obtain ⟨fM,gM,hM,pm,f198,sm⟩:=Pc.elem (m3.up (q.t j)) lm
 obtain ⟨iM,c201,a203,jM,rfl,Nm,fn⟩:=sm
 refine ze 9 [9,10,11] rfl (Mc underlying22 Oe (aa (Bb d4)) (aa (Bb d5)) pm) (Xd ad) ?_
 obtain ⟨he,on,h⟩:=ha h
 refine Kb rfl rfl rfl rfl (Gb rfl) (td QG nd (sa (aa (Bb d3)) (sa (aa (Bb d6)) hb)) (WC (Fd.t (q.t j)) (m16.up j) (m18.up j) (m19.up j) Nm fn f198 on b) ?_)
 rintro _ kM ⟨lM,un,c210,a212,c213,wn,Fn,rfl,Y,b,In,co,go⟩
 refine fa ?_
 refine ⟨(Oa.s (jb Hb (aa (Bb d1)) ((f184 _ (Y _ b.a)).one d1)) Oa.z),?_⟩
 refine Kb rfl rfl rfl rfl (Gb rfl) (gq (κ:=List UInt8) (β:=nf) (kk:=ge.Name) (xx:=he) underlying144 underlying9 (aa (ib d7)) (aa (Bb d2)) (aa (Bb d7)) ⟨_,rfl,(nf.i ⟨un,c210,a212,c213,wn,Fn,rfl,In,co,go⟩)⟩ b d1 (T.up Y) Ma ?_); clear b; intro io mM nM Z no gc b; cases (show _=Z from gc)
 replace b:=Sep.te b kb
 refine ⟨Oa.z,?_⟩
 refine Hd (za ?_)
 exact ⟨_,_,rfl,(Xa (xb (cf (qb (lb ta))))),_,(cc g ge.Name he),io,_,rfl,h,Y,b,no⟩
 rintro _ t oM ⟨pM,V,W,c175,rfl,h,ro,b,to⟩
 unfold Lu at h
 refine Vb (vc (Dd (Jh (Wc (Xc pb))))) ?_
 refine (fun h=>Pb (ra h)) ?_
 refine eb ?_
 obtain ⟨i223,Do,h⟩:=ha h
 refine wl (Ja (Gd (aa (Sa d8)) Ba Do) (ma (Xd Yd)) (st (La (za ?_))))
 exact ⟨P,_,_,rfl,(cf (lb (Xa (Na (zc ta))))),⟨_,i223,V,W,c175,rfl,h,(j.t ro),b,to⟩,Nat.lt_succ_self _⟩
 intro ul h
 refine Va ?_
 refine (fun h=>Pb (ra h)) ?_
 refine eb ?_
 obtain ⟨i225,Go,h⟩:=ha h
 refine wl (Ja (Gd (aa (Sa d8)) Ba Go) (ma (Xd Yd)) (st (La (za ?_))))
 exact ⟨P,_,_,rfl,(cf (lb (Xa (Na (zc ta))))),⟨_,i225,g,A,B,rfl,h,j,b,T⟩,Nat.lt_succ_self _⟩
 intro el h
 refine ke ?_
 refine (fun h=>jc (jc (pe h))) ?_
 refine ra (ea (st (ob (ea (st (wl (Ja (Qd underlying22 (aa (Bb d9))) (ma (ee Ga)) (st (ja (Qb ?_))))))))))
 replace b:=b.Qh 149 (cb.sz hh)
 replace b:=(b.da Eb).da Eb
 refine Se ([2]++rg 9 3++[13]++[15]++rg 52 64) (by decide +kernel) (fun n m w=>∃ f D p E C,m=(vf (Sc 2 (ng (.i (E)::(Yg 9 (kh (Sc 13 (kh (Sc 15 (qc (yd (ng (.i (.int .i64 D)::(nk 52 (Rc 102 (Ih 112 []))))))))))))))))∧pn p_1 g n D p=some r∧ga ce f∧ka f J w (.ba Le 26 [.int .i64 0,.int .i64 0]::.map K A B::.row E 149 3 p.length C::O)∧pa f C p) (by rintro _ _ _ ⟨_,_,_,_,_,rfl,_⟩; rfl) _ _ (Yc (lb (ie (Na (ue (Ee (lb (Ee (lb (Xa (xb (ie (Na (Vf (qb (pf ta)))))))))))))))) ⟨_,0,[],(.slice none 0 0),[],rfl,h,ga.r,b,pa.nil⟩ ?_
 rintro F _ t qM ⟨ap,D,p,E,C,rfl,h,u,b,lc⟩
 rcases F with _|F
 cases h
 unfold pn at h
 refine Te (Jf (Xc (Ag (kc (qh (zh (Xc (zh (Xc (vc (Dd (Ag (kc (kl (Wc (ai pb)))))))))))))))) (ea (st (ob ?_)))
 refine Za h ?_ ?_
 intro ip h
 refine Va (ra (db (Qb (ea (st ?_)))))
 obtain ⟨d,jp,h⟩:=ha h
 obtain ⟨rM,sM,tM,mp,op,pp⟩:=Pc.elem (m3.up (q.t (j.t u))) jp
 obtain ⟨rc,fd,id,md,rfl,uM,vM⟩:=pp
 refine wl (Ja (Mc underlying22 Oe (aa (Bb d9)) (aa (sb d1)) mp) (ma (ee hd)) (Ae (op _ b.a) rfl ?_))
 refine wl (bd Oe b ?_); clear b; intro rd wM xM b; refine fa ?_
 refine st (wl (yb Oe (aa (wa d0)) (aa (sb d5)) rfl rfl b d0 rfl Ga Ma ?_))
 clear b; intro yM b
 refine ob (ea (st (Ha ((b.ba d0).cell d0) (st (ja ?_)))))
 refine Za h ?_ ?_
 intro sp h
 refine ke ?_
 refine (fun h=>jc (pe h)) ?_
 refine ra (eb ?_)
 obtain ⟨wp,Op,h⟩:=ha h
 refine wl (Ja (Gd (aa (sb d1)) Ba Op) (ma (dc (Jb cd))) (st (La (za ?_))))
 replace b:=b.drop ia.z
 exact ⟨F,_,_,rfl,(Yc (lb (ie (Na (ue (Ee (lb (Ee (lb (Xa (xb (ie (Na (Vf (qb (pf ta)))))))))))))))),⟨_,wp,p,E,C,rfl,h,u,b,lc⟩,Nat.lt_succ_self _⟩
 intro sp h
 refine Va (ra (ea (st (Ha ((b.ba d0).cell d1) (wl (Nd ju aI (ab.o rfl (aa (Gc d0)) rfl rfl Ga ab.z) (ma (zg kb)) ?_))))))
 refine wl (bd ju b ?_); clear b; intro G zM AM b; refine fa ?_
 refine wl (yb ju (aa (wa d1)) (aa (Gc d1)) rfl rfl b d0 rfl Ga Ma ?_)
 clear b; intro BM b
 refine ob (ea (st (wl (Ja (Qd underlying22 (aa (Gc d2))) (ma (zg ec)) (st (ja (Qb ?_)))))))
 replace b:=(((b.da Da).da ff).da ff).da ff
 refine Se ([2]++[13]++[15]++rg 65 46) (by decide +kernel) (fun n m w=>∃ f Q H x,m=(vf (Sc 2 (yd (Sc 13 (kh (Sc 15 (qc (qc (Kh (.i (.int .i64 Q)::(Uf 65 (Uf 85 (ml 105 [])))))))))))))∧Gm p_1 g D p d (pn p_1 g F) n Q H x=some r∧ga ap f∧ka f J w (.ba Le 26 [.int .i64 0,.int .i64 0]::.map K A B::.row E 149 3 p.length C::.ba rd 61 [.int .i64 d.Kind,S d.Name,.int .i64 d.zb.Kind,S d.zb.Nb,.int .i64 d.Hc.Kind,S d.Hc.Nb,.int .i64 d.oe,.slice rc d.Params.length fd,.slice id d.Body.length md]::.ba G 149 [S d.Name,S H,S x]::O)) (by rintro _ _ _ ⟨_,_,_,_,rfl,_⟩; rfl) _ _ (Yc (lb (xb (lb (Ee (lb (Xa (Xa (lf (Na (zc (zc (di ta))))))))))))) ⟨_,0,[],[],rfl,h,ga.r,b⟩ ?_
 rintro L _ t CM ⟨le,Q,H,x,rfl,h,y,b⟩
 rcases L with _|L
 cases h
 unfold Gm at h
 refine Te (Jf (Xc (Dd (Xc (zh (Xc (vc (vc (fi (kc (fg (fg (Em pb))))))))))))) (ea (st (ob ?_)))
 refine Za h ?_ ?_
 intro eq h
 refine Va (ra (db (Qb (ea ?_))))
 obtain ⟨e,Eq,h⟩:=ha h
 obtain ⟨DM,EM,FM,fr,or,qr⟩:=Pc.elem (m3.up (q.t (j.t (u.t y)))) Eq
 obtain ⟨ne,Ne,of,wf,rfl,GM,HM⟩:=qr
 refine wl (Ja (Mc underlying22 Oe (aa (Gc d2)) (aa (Gc d4)) fr) (ma (zg ad)) (Ae (or _ b.a) rfl ?_))
 refine wl (bd Oe b ?_); clear b; intro If IM JM b; refine fa ?_
 refine wl (yb Oe (aa (wa d3)) (aa (Gc d7)) rfl rfl b d0 rfl Ga Ma ?_)
 clear b; intro KM b
 refine ob (ea (st (Ha ((b.ba d0).cell d0) (st (ja ?_)))))
 refine Za h ?_ ?_
 intro wr h
 refine ke ?_
 refine (fun h=>jc (pe h)) ?_
 refine ra (eb ?_)
 obtain ⟨Fr,Or,h⟩:=ha h
 refine wl (Ja (Gd (aa (Gc d4)) Ba Or) (ma (dc (Jb Ga))) (st (La (za ?_))))
 replace b:=b.drop ia.z
 exact ⟨L,_,_,rfl,(Yc (lb (xb (lb (Ee (lb (Xa (Xa (lf (Na (zc (zc (di ta))))))))))))),⟨_,Fr,H,x,rfl,h,y,b⟩,Nat.lt_succ_self _⟩
 intro wr h
 refine Va (ra (ea ?_))
 iterate 2 refine st ?_
 refine Ha ((b.ba d0).cell d1) ?_
 refine wl (gk (κ:=List UInt8) (k:=e.Name) (β:=nf) (zx:=(nf.mk ([]:List (List UInt8)) ([]:List (List UInt8)) ([]:List (List UInt8)))) underlying144 underlying9 (aa (Oc d1)) (aa (Oc d3)) fC ⟨_,rfl,(nf.i ⟨none,0,none,0,none,0,rfl,Ka.nil,Ka.nil,Ka.nil⟩)⟩ (b.get d2) (T.up (u.t y)) ?_); rintro _ ⟨_,rfl,⟨LM,MM,dg,bi,NM,OM,rfl,PM,cs,QM⟩⟩; refine fa ?_
 refine wl (ZA underlying146 rfl rfl rfl ki (aa (Oc d4)) d1 (ma (Zf cd)) (st (wl (Nd Ko eC (ab.o rfl (aa (Oc d5)) rfl rfl Ga (ab.o rfl (aa (Oc d6)) rfl rfl kb ab.z)) (ma (Zf sd)) ?_))))
 iterate 2 refine st ?_
 refine Ha ((b.ba d0).cell d1) ?_
 refine wl (gk (κ:=List UInt8) (k:=e.Name) (β:=nf) (zx:=(nf.mk ([]:List (List UInt8)) ([]:List (List UInt8)) ([]:List (List UInt8)))) underlying144 underlying9 (aa (Oc d8)) (aa (Nc d0)) fC ⟨_,rfl,(nf.i ⟨none,0,none,0,none,0,rfl,Ka.nil,Ka.nil,Ka.nil⟩)⟩ (b.get d2) (T.up (u.t y)) ?_); rintro _ ⟨_,rfl,⟨RM,SM,TM,UM,ci,ii,rfl,VM,WM,ds⟩⟩; refine fa ?_
 refine wl (ZA underlying146 rfl rfl rfl ki (aa (Nc d1)) d2 (ma (qg Ib)) (st (wl (Nd Ko eC (ab.o rfl (aa (Nc d2)) rfl rfl Ga (ab.o rfl (aa (Nc d3)) rfl rfl kb ab.z)) (ma (qg hd)) ?_))))
 refine wl (Zx underlying152 Ko (by decide) (.s (aa (Oc d7)) rfl rfl (.s (aa (Nc d4)) rfl rfl .z)) rfl b ?_); clear b; intro li XM YM b; refine fa ?_
 refine wl (Ja (Qd underlying152 (aa (Nc d5))) (ma (qg ad)) (st (ja (Qb (Px 3 (Vm (ea (st (ob (Bm (aa (Nc d8)) (Va (ra (db ?_)))))))))))))
 refine Ub ([2]++[15]++rg 89 20) (by decide +kernel) (fun m w=>∃ f N,m=(vf (Sc 2 (yd (vf (Sc 15 (Sd (qc (kg (Uf 89 [])))))))))∧Hq g D d Q x e (Gm p_1 g D p d (pn p_1 g F) L) N=some r∧ga le f∧ka f J w (.ba Le 26 [.int .i64 0,.int .i64 0]::.map K A B::.row E 149 3 p.length C::.ba rd 61 [.int .i64 d.Kind,S d.Name,.int .i64 d.zb.Kind,S d.zb.Nb,.int .i64 d.Hc.Kind,S d.Hc.Nb,.int .i64 d.oe,.slice rc d.Params.length fd,.slice id d.Body.length md]::.ba G 149 [S d.Name,S N,S x]::.ba If 61 [.int .i64 e.Kind,S e.Name,.int .i64 e.zb.Kind,S e.zb.Nb,.int .i64 e.Hc.Kind,S e.Hc.Nb,.int .i64 e.oe,.slice ne e.Params.length Ne,.slice of e.Body.length wf]::.ba li 151 [.slice dg (((vb g e.Name).getD (nf.mk ([]:List (List UInt8)) ([]:List (List UInt8)) ([]:List (List UInt8)))).Ol).length bi,.pointer (some ⟨G,1,none⟩),.slice ci (((vb g e.Name).getD (nf.mk ([]:List (List UInt8)) ([]:List (List UInt8)) ([]:List (List UInt8)))).Ak).length ii,.pointer (some ⟨G,2,none⟩)]::O)) (by rintro _ _ ⟨_,_,rfl,_⟩; rfl) ?_ ?_
 refine Qb (ea (wl (Ja (uu underlying152 Ko (aa (Nc d5)) (aa (Nc d7)) (by decide) rfl) (ma (qg Ed)) (Ae ((b.ba d0).Xk (ve.s d0 (ve.s d1 ve.z))) rfl ?_))))
 refine wl (bd Ko b ?_); clear b; intro ZM aN bN b; refine fa ?_
 refine wl (yb Ko (aa (wa d5)) (aa (fe d0)) rfl rfl b d0 rfl Ga Ma ?_)
 clear b; intro cN b
 refine ob (ea (st (Ha ((b.ba d0).cell d0) (st (Ha ((b.ba d6).cell d1) ?_)))))
 refine wl (td ey nd (sa (aa (fe d2)) (sa (aa (fe d4)) hb)) (Tw (l:=(((vb g e.Name).getD (nf.mk ([]:List (List UInt8)) ([]:List (List UInt8)) ([]:List (List UInt8)))).Ol)) (GA By rfl cs b.a)) ?_); rintro _ dN ⟨rfl,R⟩; replace b:=R ▸ b; clear R; refine fa ?_
 refine st (ja ?_)
 refine pj h ?_ ?_
 intro es h
 refine ke ?_
 refine (fun h=>jc (pe h)) ?_
 refine za ?_
 replace b:=((((((b.drop ia.z).da Da).da en).da en).da en).da en).da en
 exact ⟨_,_,rfl,(Yc (lb (xb (Yc (lb (Yb (Xa (Md (zc ta))))))))),_,_,rfl,h,ga.r,b⟩
 intro es h
 refine Va (ra (db (ea (st (Ha ((b.ba d0).cell d1) (st (Ha ((b.ba d7).cell d1) (wl (Ja (ZB (aa (Pa d0)) Ba) (ma (dc kb)) (ja ?_))))))))))
 refine Za h ?_ ?_
 intro gs h
 refine ea (st (wl (Nd wc Zi (ab.o rfl Ba rfl rfl Ga (ab.o rfl (aa (Pa d2)) rfl rfl kb ab.z)) (ma (dc ec)) (st (wl (yb wc (aa d3) (aa (Pa d3)) rfl rfl b d3 rfl ec Ma ?_))))))
 clear b; intro eN b
 refine ja (Ra ((fun h=>Fa (Ab (Fa (Fa (Fa (Ab (Ab (Fa (Fa (Ab (Fa (Ab (Fa (Fa (Ab (Fa h)))))))))))))))) ?_))
 obtain rfl:=Ea h
 refine Ad rfl (Qa.s (.t d2) (Qa.s (.a d3 wc (b.ba d3).cells rfl) Qa.z)) ?_
 replace b:=(((((((b.drop ia.z).drop ia.z).drop ia.z).drop ia.z).drop ia.z).drop ia.z).drop ia.z).drop ia.z
 exact ⟨_,none,0,rfl,(q.t (j.t (u.t y))),b,Ka.nil⟩
 intro gs h
 refine Va (ra (eb (st (Ha ((b.ba d0).cell d1) (st (Ha ((b.ba d2).cell d1) (st (wl (Je Hb (aa (Pa d8)) (aa (Pa d7)) rfl b d7 kb rfl sd Ma ?_)))))))))
 clear b; intro fN b
 refine La ?_
 refine (fun h=>Pb (za h)) ?_
 replace b:=((((((b.drop ia.z).da Da).da en).da en).da en).da en).da en
 exact ⟨_,_,rfl,(Yc (lb (xb (Yc (lb (Yb (Xa (Md (zc ta))))))))),_,e.Name,rfl,h,ga.r,b⟩
 rintro _ t gN ⟨is,N,rfl,h,wd,b⟩
 unfold Hq at h
 refine Vb (Jf (Xc (Dd (Jf (Xc (Ud (vc (sg (fg pb))))))))) (ra (eb (wl (Ja (Gd (aa (Nc d7)) Ba (c:=1) (by decide)) (ma (dc Ed)) (st (La (za (Ep (Vm (ea (st (ob (Bm (aa (Nc d8)) (Va (ra (db ?_))))))))))))))))
 refine Ub ([2]++[15]++rg 89 20) (by decide +kernel) (fun m w=>∃ f X,m=(vf (Sc 2 (yd (vf (Sc 15 (Sd (qc (kg (Uf 89 [])))))))))∧Gq Q N (Gm p_1 g D p d (pn p_1 g F) L) X=some r∧ga is f∧ka f J w (.ba Le 26 [.int .i64 0,.int .i64 0]::.map K A B::.row E 149 3 p.length C::.ba rd 61 [.int .i64 d.Kind,S d.Name,.int .i64 d.zb.Kind,S d.zb.Nb,.int .i64 d.Hc.Kind,S d.Hc.Nb,.int .i64 d.oe,.slice rc d.Params.length fd,.slice id d.Body.length md]::.ba G 149 [S d.Name,S N,S X]::.ba If 61 [.int .i64 e.Kind,S e.Name,.int .i64 e.zb.Kind,S e.zb.Nb,.int .i64 e.Hc.Kind,S e.Hc.Nb,.int .i64 e.oe,.slice ne e.Params.length Ne,.slice of e.Body.length wf]::.ba li 151 [.slice dg (((vb g e.Name).getD (nf.mk ([]:List (List UInt8)) ([]:List (List UInt8)) ([]:List (List UInt8)))).Ol).length bi,.pointer (some ⟨G,1,none⟩),.slice ci (((vb g e.Name).getD (nf.mk ([]:List (List UInt8)) ([]:List (List UInt8)) ([]:List (List UInt8)))).Ak).length ii,.pointer (some ⟨G,2,none⟩)]::O)) (by rintro _ _ ⟨_,_,rfl,_⟩; rfl) ?_ ?_
 refine Qb (ea (wl (Ja (uu underlying152 Ko (aa (Nc d5)) (aa (Nc d7)) (by decide) rfl) (ma (qg Ed)) (Ae ((b.ba d6).Xk (ve.s d2 (ve.s d3 ve.z))) rfl ?_))))
 refine wl (bd Ko b ?_); clear b; intro hN iN jN b; refine fa ?_
 refine wl (yb Ko (aa (wa d5)) (aa (fe d0)) rfl rfl b d0 rfl Ga Ma ?_)
 clear b; intro kN b
 refine ob (ea (st (Ha ((b.ba d0).cell d0) (st (Ha ((b.ba d4).cell d1) ?_)))))
 refine wl (td ey nd (sa (aa (fe d2)) (sa (aa (fe d4)) hb)) (Tw (l:=(((vb g e.Name).getD (nf.mk ([]:List (List UInt8)) ([]:List (List UInt8)) ([]:List (List UInt8)))).Ak)) (GA By rfl (ds.up wd) b.a)) ?_); rintro _ lN ⟨rfl,R⟩; replace b:=R ▸ b; clear R; refine fa ?_
 refine st (ja ?_)
 refine pj h ?_ ?_
 intro ls h
 refine ke ?_
 refine (fun h=>jc (pe h)) ?_
 refine za ?_
 replace b:=b.drop ia.z
 exact ⟨_,_,rfl,(Yc (lb (xb (Yc (lb (Yb (Xa (Md (zc ta))))))))),_,_,rfl,h,ga.r,b⟩
 intro ls h
 refine Va (ra (db (ea (st (Ha ((b.ba d0).cell d1) (st (Ha ((b.ba d5).cell d2) (wl (Ja (ZB (aa (Pa d0)) Ba) (ma (dc kb)) (ja ?_))))))))))
 refine Za h ?_ ?_
 intro ms h
 refine ea (st (wl (Nd wc Zi (ab.o rfl Ba rfl rfl Ga (ab.o rfl (aa (Pa d2)) rfl rfl kb ab.z)) (ma (dc ec)) (st (wl (yb wc (aa d3) (aa (Pa d3)) rfl rfl b d1 rfl kb Ma ?_))))))
 clear b; intro mN b
 refine ja (Ra ((fun h=>Fa (Ab (Fa (Fa (Fa (Ab (Ab (Fa (Fa (Ab (Fa (Ab (Fa (Fa (Ab (Fa h)))))))))))))))) ?_))
 obtain rfl:=Ea h
 refine Ad rfl (Qa.s (.t d2) (Qa.s (.a d3 wc (b.ba d1).cells rfl) Qa.z)) ?_
 replace b:=(((((((b.drop ia.z).drop ia.z).drop ia.z).drop ia.z).drop ia.z).drop ia.z).drop ia.z).drop ia.z
 exact ⟨_,none,0,rfl,(q.t (j.t (u.t (y.t wd)))),b,Ka.nil⟩
 intro ms h
 refine Va (ra (eb (st (Ha ((b.ba d0).cell d1) (st (Ha ((b.ba d6).cell d1) (st (wl (Je Hb (aa (Pa d8)) (aa (Pa d7)) rfl b d5 Ib rfl cd Ma ?_)))))))))
 clear b; intro nN b
 refine La ?_
 refine (fun h=>Pb (za h)) ?_
 replace b:=b.drop ia.z
 exact ⟨_,_,rfl,(Yc (lb (xb (Yc (lb (Yb (Xa (Md (zc ta))))))))),_,e.Name,rfl,h,ga.r,b⟩
 rintro _ t oN ⟨pN,X,rfl,h,os,b⟩
 unfold Gq at h
 refine Vb (Jf (Xc (Dd (Jf (Xc (Ud (vc (sg (fg pb))))))))) (ra (eb (wl (Ja (Gd (aa (Nc d7)) Ba (c:=2) (by decide)) (ma (dc Ed)) (st (La (za (Ep (Vm (ea (st (ob (Cp (aa (Nc d8)) (ke ?_))))))))))))))
 refine (fun h=>jc (jc (pe h))) ?_
 refine (fun h=>Pb (ra h)) ?_
 refine eb ?_
 obtain ⟨rs,us,h⟩:=ha h
 refine wl (Ja (Gd (aa (Gc d4)) Ba us) (ma (dc (Jb Ga))) (st (La (za ?_))))
 replace b:=(b.drop (ia.s (ia.s (ia.s (ia.s (ia.s ia.z)))))).drop (ia.s (ia.s (ia.s (ia.s (ia.s ia.z)))))
 exact ⟨L,_,_,rfl,(Yc (lb (xb (lb (Ee (lb (Xa (Xa (lf (Na (zc (zc (di ta))))))))))))),⟨_,rs,N,X,rfl,h,(y.t (wd.t os)),b⟩,Nat.lt_succ_self _⟩
 intro eq h
 refine ke ?_
 refine (fun h=>jc (jc (pe h))) ?_
 refine ra (eb (st (Ae (b.ba d4).cells rfl ?_)))
 refine wl (vj underlying113 ju rfl (aa (Pa (wa d2))) rfl b ?_); clear b; intro qN rN sN b; refine fa ?_
 obtain ⟨vs,pi,h⟩:=ha h
 have Pi:pa le [S d.Name,S H,S x] [(hh.mk d.Name H x)]:=(pa.one (α:=hh) rfl)
 have ws:=pa.app (lc.up y) Pi pi
 refine wl (xj underlying113 ju rfl (aa (Pa (wa d1))) (aa (Pa (wa d3))) b d3 (b.ba d0).cells Pi rfl pi (by decide) ?_); clear b; intro xs tN Z gc b; cases (show _=Z from gc)
 replace b:=Sep.te b ec; refine fa ?_
 replace b:=b.drop ia.z
 refine st (La ?_)
 refine (fun h=>Pb (ra h)) ?_
 refine eb ?_
 obtain ⟨ys,Os,h⟩:=ha h
 refine wl (Ja (Gd (aa (sb d1)) Ba Os) (ma (dc (Jb cd))) (st (La (za ?_))))
 replace b:=(b.drop (ia.s (ia.s (ia.s ia.z)))).drop (ia.s (ia.s (ia.s ia.z)))
 exact ⟨F,_,_,rfl,(Yc (lb (ie (Na (ue (Ee (lb (Ee (lb (Xa (xb (ie (Na (Vf (qb (pf ta)))))))))))))))),⟨_,ys,vs,xs,(C++[S d.Name,S H,S x]),rfl,h,(u.t y),b,ws⟩,Nat.lt_succ_self _⟩
 intro ip h
 refine ke ?_
 refine (fun h=>jc (jc (pe h))) ?_
 refine ra (ea (st (wl (Nd wc Zi ab.z (ma (dc (Jb sd))) (st (wl (yb wc (aa d3) (aa (Pa (wa d7))) rfl rfl b d0 rfl Ga Ma ?_)))))))
 clear b; intro uN b
 refine ja (Ra ?_)
 replace b:=b.da Eb
 obtain ⟨vN,wN,xN,gt,it,lt,ok⟩:=Sep.Gi b lc rfl; clear b
 subst gt; have b:=ok; clear ok
 obtain rfl:=Ea h
 refine Ad rfl (Qa.s (.t d2) (Qa.s (.a d3 wc (b.ba d0).cells rfl) Qa.z)) ?_
 replace b:=(b.drop ia.z).drop ia.z
 exact ⟨_,_,_,rfl,(q.t (j.t (u.t it))),b,lt⟩
theorem XC (c:ga Fc I) {p_1:List va} {r:Vc} (m3:Ka I xa c2 p_1) (h:qt fu p_1=some r) (b:ka I J w (O)):Sb prog 19 [.slice xa p_1.length c2] w (fun v w'=>∃ (na:M) ,v=.agg ⟨[.int .i64 r.Ue,.int .i64 r.dd]⟩∧ga I na∧ka na J w' (O)):=by
 unfold qt at h
 refine enter func19 rfl (frm:=_::Wf []) rfl (ea ?_)
 refine wl (bd wc b ?_); clear b; intro e f g b; refine fa ?_
 refine rb (st ?_)
 obtain ⟨i,g7,h⟩:=ha h
 refine Aa (JC c m3 g7 b) ?_
 rintro _ j ⟨k,a9,Xn,rfl,d,b,m11⟩
 refine fa ?_
 iterate 3 refine st ?_
 refine wl (bd wc b ?_); clear b; intro Qc l m b; refine fa ?_
 refine st (wl (yb wc (aa d4) (aa d9) rfl rfl b d0 rfl Ga Ma ?_))
 clear b; intro n b
 refine rb (Ae (b.ba d0).cells rfl (wl (yb wc (aa d2) (aa (wa d0)) rfl rfl b d1 rfl kb Ma ?_)))
 clear b; intro o b
 refine ja (Ra ?_)
 obtain rfl:=Ea h
 refine Ad rfl (Qa.s (.a d2 wc (b.ba d1).cells rfl) Qa.z) ?_
 replace b:=(b.drop ia.z).drop ia.z
 exact ⟨_,rfl,d,b⟩
end Go.Proofs.YthoigniombcphaaGreatDoor
