/- Texts of Wa. -/
import Derived.Test.YthoigniombcphaaGreatDoorCXu
import Derived.Test.YthoigniombcphaaGreatDoorCMd
import Derived.Test.YthoigniombcphaaGreatDoorCFl
import Derived.Tactics2
import Derived.Recover
import Derived.Laws.Pointers
set_option linter.unusedSimpArgs false
set_option linter.unusedVariables false
set_option linter.unusedSectionVars false
set_option maxRecDepth 100000
set_option maxHeartbeats 20000000
namespace Go.Proofs.YthoigniombcphaaGreatDoor
open Go.bc Go.Dc Go.Y Tryz
variable {fu:Nat} {I:M} {J w:World} {O:List Wb}
theorem dv (d:ga Fc I) {p_1:UInt8} {r:Bool}  (h:uk p_1=some r) (a:ka I J w (O)):Sb prog 31 [.int .u8 (p_1.toNat:Int)] w (fun v w'=>∃ (na:M) ,v=.bool r∧ga I na∧ka na J w' (O)):=by
 unfold uk at h
 refine enter func31 rfl (frm:=_::zd (Wf [])) rfl (ea (st (rb ?_)))
 iterate 3 refine st ?_
 refine me 5 h ?_ ?_
 intro b h
 refine Ta rfl (Ta rfl ?_)
 iterate 2 refine st ?_
 refine me 9 h ?_ ?_
 intro c h
 refine oa rfl rfl (oa rfl rfl ?_)
 iterate 2 refine st ?_
 refine ja (Ra ?_)
 obtain rfl:=Ea h
 refine Ob rfl d2 ?_
 exact ⟨_,rfl,ga.r,a⟩
 intro c h
 refine Ta rfl (Ta rfl ?_)
 iterate 2 refine st ?_
 refine ja (Ra ?_)
 obtain rfl:=Ea h
 refine Ob rfl d2 ?_
 exact ⟨_,rfl,ga.r,a⟩
 intro b h
 refine oa rfl rfl (oa rfl rfl ?_)
 iterate 2 refine st ?_
 refine Ta rfl (Ta rfl ?_)
 iterate 2 refine st ?_
 refine ja (Ra ?_)
 obtain rfl:=Ea h
 refine Ob rfl d2 ?_
 exact ⟨_,rfl,ga.r,a⟩
theorem rv (c:ga Fc I) {p_1:UInt8} {r:Bool}  (h:An p_1=some r) (a:ka I J w (O)):Sb prog 34 [.int .u8 (p_1.toNat:Int)] w (fun v w'=>∃ (na:M) ,v=.bool r∧ga I na∧ka na J w' (O)):=by
 unfold An at h
 refine enter func34 rfl (frm:=_::Cf (zd (Ge []))) rfl (ea (st (rb ?_)))
 iterate 3 refine st ?_
 refine me 5 h ?_ ?_
 intro b h
 refine Ta rfl (Ta rfl ?_)
 iterate 2 refine st ?_
 refine ja (Ra ?_)
 obtain rfl:=Ea h
 refine Ob rfl d2 ?_
 exact ⟨_,rfl,ga.r,a⟩
 intro b h
 refine oa rfl rfl (oa rfl rfl ?_)
 iterate 2 refine st ?_
 refine ja (Ra ?_)
 obtain rfl:=Ea h
 refine Ob rfl d2 ?_
 exact ⟨_,rfl,ga.r,a⟩
theorem sv (z:ga Fc I) {p_1:List UInt8} {g:Nat} {j:List Value} {c:UInt8→Option Bool} {r:Int} (m3:yw prog I g j false c) (h:qm fu p_1 c=some r) (a:ka I J w (O)):Sb prog 32 [S p_1,.func (.func g) ⟨[]⟩ ⟨j⟩] w (fun v w'=>∃ (na:M) ,v=.int .i64 r∧ga I na∧ka na J w' (O)):=by
 unfold qm at h
 refine enter func32 rfl (frm:=_::_::Cf (zd (Ge (Wf [])))) rfl (ea (st (rb (st (ob (Qb ?_))))))
 refine Se (rg 6 13) (by decide) (fun n m w=>∃ b i13,m=(ng (.i (.int .i64 i13)::(Rc 6 (Yg 16 []))))∧Ej p_1 c n i13=some r∧ga I b∧ka b J w (O)) (by rintro _ _ _ ⟨_,_,rfl,_⟩; rfl) _ _ (ie (Na (qb (ue ta)))) ⟨_,0,rfl,h,ga.r,a⟩ ?_
 rintro d _ t A ⟨l,i13,rfl,h,e,a⟩
 rcases d with _|d
 cases h
 unfold Ej at h
 refine Te (Ag (kc (Wc (qh pb)))) (db (db ?_))
 refine Ub (rg 6 10) (by decide) (fun m w=>∃ b f,m=(Og (Rc 6 (.i (.bool f)::[])))∧Zl i13 (Ej p_1 c d) f=some r∧ga l b∧ka b J w (O)) (by rintro _ _ ⟨_,_,rfl,_⟩; rfl) ?_ ?_
 refine eb ?_
 iterate 2 refine st ?_
 refine wl (Ja (bl underlying9 (aa d7)) (ma Yd) ?_)
 iterate 2 refine st ?_
 refine me 10 h ?_ ?_
 intro o h
 refine Ta rfl (Ta rfl (Ta rfl ?_))
 obtain ⟨p,q,h⟩:=ha h
 refine mc rfl (wa d0) (fw underlying9 (aa (wa d2)) (aa (wa d3)) q (ma (Jb hd)) ?_)
 obtain ⟨B,s,h⟩:=ha h
 refine mc rfl (wa d0) (PF m3.oC (aa (wa d1)) (sa (aa (wa d4)) hb) ((m3.up e).call (cs:=[.int .u8 (p.toNat:Int)]) ga.r rfl s a) ?_)
 rintro _ C ⟨D,rfl,u,a⟩; refine fa ?_
 refine st (La (za ?_))
 exact ⟨_,_,rfl,(ye (qb (Na ta))),_,_,rfl,h,u,a⟩
 intro o h
 refine oa rfl rfl (oa rfl rfl (oa rfl rfl (oa rfl rfl (oa rfl rfl (st (La (za ?_)))))))
 exact ⟨_,_,rfl,(ye (qb (Na ta))),_,false,rfl,h,ga.r,a⟩
 rintro _ t E ⟨F,f,rfl,h,k,a⟩
 unfold Zl at h
 refine Vb (Zg (Wc (kc pb))) (ra ?_)
 refine ed h ?_ ?_
 intro x h
 refine Va (ra (Qb (eb (st ?_))))
 obtain ⟨i33,y,h⟩:=ha h
 refine wl (Ja (Gd (aa (wa d7)) Ba y) (ma (Jb Yd)) (st (La ?_)))
 refine (fun h=>Pb (za h)) ?_
 exact ⟨d,_,_,rfl,(ie (Na (qb (ue ta)))),⟨_,i33,rfl,h,(e.t k),a⟩,Nat.lt_succ_self _⟩
 intro x h
 refine ke ?_
 refine (fun h=>jc (jc (pe h))) ?_
 refine ra (ea ?_)
 iterate 2 refine st ?_
 refine ja (Ra ?_)
 obtain rfl:=Ea h
 refine Ob rfl d4 ?_
 exact ⟨_,rfl,(e.t k),a⟩
theorem bG (c:ga Fc I) {p_1:UInt8} {r:Bool}  (h:du p_1=some r) (a:ka I J w (O)):Sb prog 33 [.int .u8 (p_1.toNat:Int)] w (fun v w'=>∃ (na:M) ,v=.bool r∧ga I na∧ka na J w' (O)):=by
 unfold du at h
 refine enter func33 rfl (frm:=_::Cf (zd (Ge []))) rfl (ea (st (rb (st ?_))))
 obtain ⟨f,g2,h⟩:=ha h
 refine Aa (dv c g2 a) ?_
 rintro _ g ⟨i,rfl,b,a⟩
 refine fa (st ?_)
 refine Hy 5 h ?_ ?_
 intro d h
 refine oa rfl rfl (oa rfl rfl ?_)
 iterate 2 refine st ?_
 refine ja (Ra ?_)
 obtain rfl:=Ea h
 refine Ob rfl d2 ?_
 exact ⟨_,rfl,b,a⟩
 intro d h
 refine Ta rfl ?_
 obtain ⟨j,g6,h⟩:=ha h
 refine mc rfl d5 (td dy nd (sa (aa d6) hb) (rv (c.t b) g6 a) ?_)
 rintro _ k ⟨l,rfl,e,a⟩
 refine fa ?_
 iterate 2 refine st ?_
 refine ja (Ra ?_)
 obtain rfl:=Ea h
 refine Ob rfl d2 ?_
 exact ⟨_,rfl,(b.t e),a⟩
theorem cG (b:ga Fc I) {p_1:UInt8} {r:Bool}  (h:ry p_1=some r) (a:ka I J w (O)):Sb prog 57 [.int .u8 (p_1.toNat:Int)] w (fun v w'=>∃ (na:M) ,v=.bool r∧ga I na∧ka na J w' (O)):=by
 unfold ry at h
 refine enter func57 rfl (frm:=_::zd (zd [])) rfl (ea (st (rb ?_)))
 iterate 3 refine st ?_
 refine ja (Ra ?_)
 obtain rfl:=Ea h
 refine Ob rfl d2 ?_
 exact ⟨_,rfl,ga.r,a⟩
theorem dG (c:ga Fc I) {p_1:UInt8} {r:Bool}  (h:hl p_1=some r) (a:ka I J w (O)):Sb prog 69 [.int .u8 (p_1.toNat:Int)] w (fun v w'=>∃ (na:M) ,v=.bool r∧ga I na∧ka na J w' (O)):=by
 unfold hl at h
 refine enter func69 rfl (frm:=_::Cf (zd (Ge []))) rfl (ea (st (rb (st ?_))))
 obtain ⟨f,g2,h⟩:=ha h
 refine Aa (dv c g2 a) ?_
 rintro _ g ⟨i,rfl,b,a⟩
 refine fa (st ?_)
 refine Hy 5 h ?_ ?_
 intro d h
 refine oa rfl rfl (oa rfl rfl ?_)
 iterate 2 refine st ?_
 refine ja (Ra ?_)
 obtain rfl:=Ea h
 refine Ob rfl d2 ?_
 exact ⟨_,rfl,b,a⟩
 intro d h
 refine Ta rfl ?_
 obtain ⟨j,g6,h⟩:=ha h
 refine mc rfl d5 (td dy nd (sa (aa d6) hb) (rv (c.t b) g6 a) ?_)
 rintro _ k ⟨l,rfl,e,a⟩
 refine fa ?_
 iterate 2 refine st ?_
 refine ja (Ra ?_)
 obtain rfl:=Ea h
 refine Ob rfl d2 ?_
 exact ⟨_,rfl,(b.t e),a⟩
theorem kF (d:ga Fc I) {p_1 a:List UInt8} {r:Bool}  (h:gw p_1 a=some r) (b:ka I J w (O)):Sb prog 79 [S p_1,S a] w (fun v w'=>∃ (na:M) ,v=.bool r∧ga I na∧ka na J w' (O)):=by
 unfold gw at h
 refine enter func79 rfl (frm:=_::_::Cf (Ge (Wf []))) rfl (ea (st (rb (st (wl (Ja (bl underlying9 (aa d5)) (ma ad) (st (wl (Ja (bl underlying9 (aa d7)) (ma Yd) ?_)))))))))
 iterate 2 refine st ?_
 refine me 10 h ?_ ?_
 intro c h
 refine Ta rfl (Ta rfl (mc rfl (wa d0) (Ja (bl underlying9 (aa (wa d2))) (ma (Jb ec)) ?_)))
 obtain ⟨s2,g3,h⟩:=ha h
 refine mc rfl (wa d0) (Ja (Cx underlying9 (aa (wa d1)) (aa (wa d3)) g3) (ma (Jb hd)) (Ta rfl (mc rfl (wa d0) (Ja (ny (aa (wa d4)) (aa (wa d5))) (ma (Jb ad)) ?_))))
 iterate 2 refine st ?_
 refine ja (Ra ?_)
 obtain rfl:=Ea h
 refine Ob rfl d4 ?_
 exact ⟨_,rfl,ga.r,b⟩
 intro c h
 refine oa rfl rfl (oa rfl rfl (oa rfl rfl (oa rfl rfl (oa rfl rfl (oa rfl rfl ?_)))))
 iterate 2 refine st ?_
 refine ja (Ra ?_)
 obtain rfl:=Ea h
 refine Ob rfl d4 ?_
 exact ⟨_,rfl,ga.r,b⟩
theorem eG (c:ga Fc I) {p_1 b:List UInt8} {r:Bool}  (h:eu p_1 b=some r) (a:ka I J w (O)):Sb prog 60 [S p_1,S b] w (fun v w'=>∃ (na:M) ,v=.bool r∧ga I na∧ka na J w' (O)):=by
 unfold eu at h
 refine enter func60 rfl (frm:=_::_::Cf (Ge [])) rfl (ea (st (rb ?_)))
 iterate 2 refine st ?_
 obtain ⟨e,g2,h⟩:=ha h
 refine Aa (kF c g2 a) ?_
 rintro _ f ⟨g,rfl,d,a⟩
 refine fa (st (ja (Ra ?_)))
 obtain rfl:=Ea h
 refine Ob rfl d4 ?_
 exact ⟨_,rfl,d,a⟩
theorem BE (j:ga Fc I) {p_1 r:List UInt8}  (h:Lt p_1=some r) (b:ka I J w (O)):Sb prog 36 [S p_1] w (fun v w'=>∃ (na:M) ,v=S r∧ga I na∧ka na J w' (O)):=by
 unfold Lt at h
 refine enter func36 rfl (frm:=_::Ge (Wf [])) rfl (ea (st (ob (ea ?_))))
 refine wl (xd underlying131 Hb (fb.s Ba rfl (fb.s Ba rfl (fb.s Ba rfl (fb.s Ba rfl (fb.s Ba rfl (fb.s Ba rfl (fb.s Ba rfl (fb.s Ba rfl (fb.s Ba rfl (fb.s Ba rfl (fb.s Ba rfl (fb.s Ba rfl (fb.s Ba rfl (fb.s Ba rfl (fb.s Ba rfl (fb.s Ba rfl (fb.s Ba rfl (fb.s Ba rfl fb.z)))))))))))))))))) rfl rfl b ?_); clear b; intro U B C b; refine fa ?_
 refine wl (Ja (Qd underlying131 (aa d5)) (ma ad) (st (ja (Qb ?_))))
 obtain ⟨k,d,m3,b⟩:=Sep.ud (l:=([[61,61],[33,61],[60,61],[62,61],[60],[62],[61],[43],[45],[42],[47],[37],[40],[41],[123],[125],[44],[59]]:List (List UInt8))) b (pa.cons (α:=List UInt8) (cs:=[S [61,61]]) rfl (pa.cons (α:=List UInt8) (cs:=[S [33,61]]) rfl (pa.cons (α:=List UInt8) (cs:=[S [60,61]]) rfl (pa.cons (α:=List UInt8) (cs:=[S [62,61]]) rfl (pa.cons (α:=List UInt8) (cs:=[S [60]]) rfl (pa.cons (α:=List UInt8) (cs:=[S [62]]) rfl (pa.cons (α:=List UInt8) (cs:=[S [61]]) rfl (pa.cons (α:=List UInt8) (cs:=[S [43]]) rfl (pa.cons (α:=List UInt8) (cs:=[S [45]]) rfl (pa.cons (α:=List UInt8) (cs:=[S [42]]) rfl (pa.cons (α:=List UInt8) (cs:=[S [47]]) rfl (pa.cons (α:=List UInt8) (cs:=[S [37]]) rfl (pa.cons (α:=List UInt8) (cs:=[S [40]]) rfl (pa.cons (α:=List UInt8) (cs:=[S [41]]) rfl (pa.cons (α:=List UInt8) (cs:=[S [123]]) rfl (pa.cons (α:=List UInt8) (cs:=[S [125]]) rfl (pa.cons (α:=List UInt8) (cs:=[S [44]]) rfl (pa.cons (α:=List UInt8) (cs:=[S [59]]) rfl pa.nil)))))))))))))))))) (Nat.le_of_ble_eq_true rfl)
 refine Se ([2]++[4]++rg 8 8) (by decide) (fun n m w=>∃ f i18,m=(vf (Sc 2 (kh (Sc 4 (vf (.i (.int .i64 i18)::(ei 8 [])))))))∧sr p_1 n i18=some r∧ga k f∧ka f J w (O)) (by rintro _ _ _ ⟨_,_,rfl,_⟩; rfl) _ _ (Yc (lb (Ee (lb (Yc (Na (ag ta))))))) ⟨_,0,rfl,h,ga.r,b⟩ ?_
 rintro e _ t D ⟨E,i18,rfl,h,c,b⟩
 rcases e with _|e
 cases h
 unfold sr at h
 refine Te (Jf (Xc (zh (Xc (Jf (kc (xi pb))))))) (ea (st (ob ?_)))
 refine Za h ?_ ?_
 intro o h
 refine Va (ra (db (Qb (ea ?_))))
 obtain ⟨F,p,h⟩:=ha h
 obtain ⟨G,H,K,q,f40,u⟩:=Pc.elem (m3.up c) p
 obtain rfl:=u
 refine wl (Ja (Mc underlying131 Hb (aa d5) (aa d7) q) (ma Ed) (Ha ((f40 _ b.a).one d0) (st (rb ?_))))
 iterate 2 refine st ?_
 obtain ⟨L,x,h⟩:=ha h
 refine Aa (eG (j.t (d.t c)) x b) ?_
 rintro _ N ⟨P,rfl,g,b⟩
 refine fa (ja ?_)
 refine ed h ?_ ?_
 intro y h
 refine ea ?_
 iterate 2 refine st ?_
 refine ja (Ra ?_)
 refine (fun h=>Ab (Fa (Fa (Ab (Fa h))))) ?_
 obtain rfl:=Ea h
 refine Ob rfl d2 ?_
 exact ⟨_,rfl,(d.t (c.t g)),b⟩
 intro y h
 refine Va ?_
 refine (fun h=>Pb (ra h)) ?_
 refine eb ?_
 obtain ⟨i46,A,h⟩:=ha h
 refine wl (Ja (Gd (aa d7) Ba A) (ma (Jb cd)) (st (La (za ?_))))
 exact ⟨e,_,_,rfl,(Yc (lb (Ee (lb (Yc (Na (ag ta))))))),⟨_,i46,rfl,h,(c.t g),b⟩,Nat.lt_succ_self _⟩
 intro o h
 refine ke ?_
 refine (fun h=>jc (jc (pe h))) ?_
 refine ra (ea (st (ja (Ra ?_))))
 obtain rfl:=Ea h
 refine Ob rfl d2 ?_
 exact ⟨_,rfl,(d.t c),b⟩
theorem Cz (j:ga Fc I) {p_1:List UInt8} {r:Int}  (h:rm fu p_1=some r) (a:ka I J w (O)):Sb prog 30 [S p_1] w (fun v w'=>∃ (na:M) ,v=.int .i64 r∧ga I na∧ka na J w' (O)):=by
 unfold rm at h
 refine enter func30 rfl (frm:=_::Cf (Ge (Xe []))) rfl (ea (st (rb (st (ob (Qb ?_))))))
 refine Se ([2]++rg 4 22) (by decide +kernel) (fun n m w=>∃ c i13,m=(vf (Sc 2 (.i (.int .i64 i13)::(Uf 4 (xf 24 [])))))∧Pk fu p_1 n i13=some r∧ga I c∧ka c J w (O)) (by rintro _ _ _ ⟨_,_,rfl,_⟩; rfl) _ _ (Yc (lb (Na (zc (Zc ta))))) ⟨_,0,rfl,h,ga.r,a⟩ ?_
 rintro d _ t G ⟨k,i13,rfl,h,b,a⟩
 rcases d with _|d
 cases h
 unfold Pk at h
 refine Te (Jf (Xc (kc (fg (Kf pb))))) (db (ea ?_))
 iterate 2 refine st ?_
 refine wl (Ja (bl underlying9 (aa d5)) (ma ad) (st (ja ?_)))
 refine Za h ?_ ?_
 intro l h
 refine Va (ra (Qb (ea ?_)))
 iterate 2 refine st ?_
 obtain ⟨f,o,h⟩:=ha h
 refine wl (fw underlying9 (aa d8) (aa d9) o (ma (Jb Ga)) (ja (Qb (db (ea ?_)))))
 iterate 2 refine st ?_
 refine ja ?_
 refine Ub (rg 14 2) (by decide) (fun m w=>∃ c g,m=(yd (vf (.i (.bool g)::(kh (xf 14 [])))))∧bm fu p_1 i13 f (Pk fu p_1 d) g=some r∧ga k c∧ka c J w (O)) (by rintro _ _ ⟨_,_,rfl,_⟩; rfl) ?_ ?_
 refine Za h ?_ ?_
 intro p h
 refine Va (za ?_)
 exact ⟨_,_,rfl,(xb (Yc (Na (Ee (Zc ta))))),_,(decide ((f.toNat:Int)=32)),rfl,h,ga.r,a⟩
 intro p h
 refine ea ?_
 iterate 2 refine st ?_
 refine ja ?_
 refine Za h ?_ ?_
 intro q h
 refine Va (za ?_)
 exact ⟨_,_,rfl,(xb (Yc (Na (Ee (Zc ta))))),_,(decide ((f.toNat:Int)=9)),rfl,h,ga.r,a⟩
 intro q h
 refine eb ?_
 iterate 2 refine st ?_
 refine La (za ?_)
 exact ⟨_,_,rfl,(xb (Yc (Na (Ee (Zc ta))))),_,(decide ((f.toNat:Int)=10)),rfl,h,ga.r,a⟩
 rintro _ t H ⟨K,g,rfl,h,e,a⟩
 unfold bm at h
 refine Vb (Dd (Jf (kc (zh (Kf pb))))) (ra ?_)
 refine ed h ?_ ?_
 intro s h
 refine eb (st ?_)
 obtain ⟨i35,u,h⟩:=ha h
 refine wl (Ja (Gd (aa (wa d6)) Ba u) (ma (Jb sd)) (st (La ?_)))
 refine (fun h=>Pb (Pb (za h))) ?_
 exact ⟨d,_,_,rfl,(Yc (lb (Na (zc (Zc ta))))),⟨_,i35,rfl,h,(b.t e),a⟩,Nat.lt_succ_self _⟩
 intro s h
 refine ea ?_
 iterate 2 refine st ?_
 refine ja ?_
 refine Za h ?_ ?_
 intro x h
 refine eb ?_
 iterate 3 refine st ?_
 obtain ⟨L,y,h⟩:=ha h
 refine wl (Ja (Bx underlying9 (aa (Sa d1)) (aa (Sa d2)) y) (ma (oc ec)) ?_)
 obtain ⟨N,z,h⟩:=ha h
 refine wl (td jw nd (sa (aa (Sa d3)) (sa nd hb)) (sv (j.t (b.t e)) (⟨PG,fun A B C D=>by obtain rfl:=B; exact cG ((j.t (b.t e)).t A)  C D⟩) z a) ?_)
 rintro _ P ⟨Q,rfl,E,a⟩
 refine fa ?_
 obtain ⟨i43,F,h⟩:=ha h
 refine wl (Ja (Gd (aa (Sa d0)) (aa (Sa d4)) F) (ma (oc cd)) (st (La ?_)))
 refine (fun h=>Pb (Pb (za h))) ?_
 exact ⟨d,_,_,rfl,(Yc (lb (Na (zc (Zc ta))))),⟨_,i43,rfl,h,(b.t (e.t E)),a⟩,Nat.lt_succ_self _⟩
 intro x h
 refine ea ?_
 iterate 2 refine st ?_
 refine ja (Ra ?_)
 refine (fun h=>Ab (Ab (Fa (Ab (Fa h))))) ?_
 obtain rfl:=Ea h
 refine Ob rfl d2 ?_
 exact ⟨_,rfl,(b.t e),a⟩
 intro l h
 refine ke ?_
 refine (fun h=>jc (jc (pe h))) ?_
 refine ra (ea ?_)
 iterate 2 refine st ?_
 refine ja (Ra ?_)
 obtain rfl:=Ea h
 refine Ob rfl d2 ?_
 exact ⟨_,rfl,b,a⟩
theorem qn (b:ga Fc I) {p_1:List UInt8} {r:Bool}  (h:tg fu p_1=some r) (a:ka I J w (O)):Sb prog 50 [S p_1] w (fun v w'=>∃ (na:M) ,v=.bool r∧ga I na∧ka na J w' (O)):=by
 unfold tg at h
 refine enter func50 rfl (frm:=_::zd (Ge (Xe []))) rfl (ea (st (ob (db ?_))))
 refine Ub (rg 3 19) (by decide) (fun m w=>∃ e U,m=(kg (Rc 3 (Rl 13 (.i (.bool U)::[]))))∧Yj fu p_1 U=some r∧ga I e∧ka e J w (O)) (by rintro _ _ ⟨_,_,rfl,_⟩; rfl) ?_ ?_
 refine eb (st (wl (Ja (bl underlying9 (aa d3)) (ma hd) ?_)))
 iterate 2 refine st ?_
 refine me 6 h ?_ ?_
 intro f h
 refine oa rfl rfl (oa rfl rfl (oa rfl rfl ?_))
 iterate 2 refine st ?_
 refine oa rfl rfl (oa rfl rfl (oa rfl rfl (oa rfl rfl ?_)))
 iterate 2 refine st ?_
 refine oa rfl rfl (oa rfl rfl (oa rfl rfl (oa rfl rfl (st (La (za ?_))))))
 exact ⟨_,_,rfl,(Md (qb (Uh (Na ta)))),_,true,rfl,h,ga.r,a⟩
 intro f h
 refine Ta rfl (mc rfl d6 (Ja (bl underlying9 (aa d7)) (ma Yd) (Ta rfl ?_)))
 iterate 2 refine st ?_
 refine me 11 h ?_ ?_
 intro g h
 refine oa rfl rfl (oa rfl rfl (oa rfl rfl (oa rfl rfl ?_)))
 iterate 2 refine st ?_
 refine oa rfl rfl (oa rfl rfl (oa rfl rfl (oa rfl rfl (st (La (za ?_))))))
 exact ⟨_,_,rfl,(Md (qb (Uh (Na ta)))),_,true,rfl,h,ga.r,a⟩
 intro g h
 refine Ta rfl ?_
 obtain ⟨s,g5,h⟩:=ha h
 refine mc rfl (wa d1) (fw underlying9 (aa (wa d2)) Ba g5 (ma (Jb ec)) ?_)
 obtain ⟨u,g7,h⟩:=ha h
 refine mc rfl (wa d1) (td KG nd (sa (aa (wa d3)) hb) (dv b g7 a) ?_)
 rintro _ x ⟨y,rfl,d,a⟩
 refine fa (Ta rfl ?_)
 iterate 2 refine st ?_
 refine Gw 17 h ?_ ?_
 intro j h
 refine oa rfl rfl (oa rfl rfl (oa rfl rfl (oa rfl rfl (st (La (za ?_))))))
 exact ⟨_,_,rfl,(Md (qb (Uh (Na ta)))),_,true,rfl,h,d,a⟩
 intro j h
 refine Ta rfl ?_
 obtain ⟨z,g11,h⟩:=ha h
 refine mc rfl (wa d7) (Ja (EB Ba (aa (wa d8)) g11) (ma (Jb Ed)) ?_)
 obtain ⟨A,g13,h⟩:=ha h
 refine mc rfl (wa d7) (Ja (EB (aa (wa d9)) Ba g13) (ma (oc Ga)) ?_)
 obtain ⟨B,g15,h⟩:=ha h
 refine mc rfl (wa d7) (td RG nd (sa Ba (sa (aa (Sa d0)) hb)) (ZF (b.t d) g15 a) ?_); clear a; rintro _ C ⟨rfl,a⟩; refine fa ?_
 refine st (La (za ?_))
 exact ⟨_,_,rfl,(Md (qb (Uh (Na ta)))),_,_,rfl,h,d,a⟩
 rintro _ t D ⟨E,U,rfl,h,c,a⟩
 unfold Yj at h
 refine Vb (sg (Wc (Ym (kc pb)))) (ra ?_)
 refine ed h ?_ ?_
 intro k h
 refine ea (st (ja (Ra (Fa ?_))))
 obtain rfl:=Ea h
 refine Ob rfl d2 ?_
 exact ⟨_,rfl,c,a⟩
 intro k h
 refine Va (ra (ea (st ?_)))
 obtain ⟨F,g19,h⟩:=ha h
 refine wl (td jw nd (sa (aa (Sa d3)) (sa nd hb)) (sv (b.t c) (⟨SG,fun l n o p=>by obtain rfl:=n; exact dG ((b.t c).t l)  o p⟩) g19 a) ?_)
 rintro _ G ⟨H,rfl,q,a⟩
 refine fa (st (wl (Ja (bl underlying9 (aa (Sa d5))) (ma (oc ad)) ?_)))
 iterate 2 refine st ?_
 refine ja (Ra ?_)
 obtain rfl:=Ea h
 refine Ob rfl d2 ?_
 exact ⟨_,rfl,(c.t q),a⟩
theorem RC (f:ga Fc I) {p_1:List UInt8} {r:List Ua×Vc}  (h:nt fu p_1=some r) (b:ka I J w (O)):Sb prog 14 [S p_1] w (fun v w'=>∃ (na:M) (xa:Option Addr) (c2:Nat),v=.tuple ⟨[.slice xa r.1.length c2,.agg ⟨[.int .i64 r.2.Ue,.int .i64 r.2.dd]⟩]⟩∧ga I na∧ka na J w' (O)∧Ka na xa c2 r.1):=by
 unfold nt at h
 refine enter func14 rfl (frm:=_::zd (Wf (Xe (Ze [])))) rfl (ea (st ?_))
 refine wl (bd wc b ?_); clear b; intro C li pi b; refine fa ?_
 refine ob (ea (st (wl (Ja (bl underlying9 (aa d9)) (ma (Jb Ga)) (st (ja ?_))))))
 refine Za h ?_ ?_
 intro N h
 refine ea (wl (Nd wc Zi (ab.o rfl Ba rfl rfl Ga ab.z) (ma (Jb Ib)) (st (wl (yb wc (aa d3) (aa (wa d2)) rfl rfl b d0 rfl Ga Ma ?_)))))
 clear b; intro Pi b
 refine ja (Ra (Fa ?_))
 obtain rfl:=Ea h
 refine Ad rfl (Qa.s (.t d2) (Qa.s (.a d3 wc (b.ba d0).cells rfl) Qa.z)) ?_
 replace b:=b.drop ia.z
 exact ⟨_,none,0,rfl,ga.r,b,Ka.nil⟩
 intro N h
 refine Va (ra (ea (st (ob (ea (st ?_))))))
 obtain ⟨P,g8,h⟩:=ha h
 refine Aa (Cz f g8 b) ?_
 rintro _ kk ⟨Q,rfl,d,b⟩
 refine fa (st (ja (Qb ?_)))
 replace b:=b.Qh 100 (cb.sz Ua)
 replace b:=b.da Da
 refine Se ([2]++rg 6 3++rg 15 66) (by decide +kernel) (fun n m w=>∃ j i58 k v59 p,m=(vf (Sc 2 (kh (.i (v59)::(.i (.int .i64 i58)::(Yg 6 (Og (nk 15 (Rc 65 (ml 75 []))))))))))∧Wl fu p_1 n i58 k=some r∧ga Q j∧ka j J w (.ba C 26 [.int .i64 0,.int .i64 0]::.row v59 100 4 k.length p::O)∧pa j p k) (by rintro _ _ _ ⟨_,_,_,_,_,rfl,_⟩; rfl) _ _ (Yc (lb (Ee (Na (Na (ue (ye (Vf (qb (di ta)))))))))) ⟨_,P,[],(.slice none 0 0),[],rfl,h,ga.r,b,pa.nil⟩ ?_
 rintro q _ t ok ⟨R,i58,k,v59,p,rfl,h,c,b,D⟩
 rcases q with _|q
 cases h
 unfold Wl at h
 refine Te (Jf (Xc (zh (kc (kc (qh (Zg (kl (Wc (Em pb)))))))))) (db (ea ?_))
 iterate 2 refine st ?_
 refine wl (Ja (bl underlying9 (aa (wa d6))) (ma (Jb sd)) (st (ja ?_)))
 refine Za h ?_ ?_
 intro T h
 refine Va (ra (db (Qb (ea ?_))))
 iterate 2 refine st ?_
 obtain ⟨dl,V,h⟩:=ha h
 refine wl (Ja (Bx underlying9 (aa (Sa d5)) (aa (Sa d6)) V) (ma (oc sd)) (st (rb (st (wl (Nd Kj YH (ab.o rfl (aa (Sa d8)) rfl rfl ec ab.z) (ma (oc Ed)) ?_))))))
 refine wl (bd Kj b ?_); clear b; intro W el nl b; refine fa ?_
 refine wl (yb Kj (aa d7) (aa (Sa d9)) rfl rfl b d0 rfl Ga Ma ?_)
 clear b; intro ol b
 refine ob (ea (st ?_))
 obtain ⟨pl,X,h⟩:=ha h
 refine wl (fw underlying9 (aa (ib d0)) Ba X (ma (qd kb)) (st (ja ?_)))
 refine Ub ([2]++rg 32 40) (by decide +kernel) (fun m w=>∃ j i118 l i120,m=(vf (Sc 2 (qc (mi (Uf 32 (Uf 52 []))))))∧Kp fu p_1 i58 k (Wl fu p_1 q) i118 l i120=some r∧ga R j∧ka j J w (.ba C 26 [.int .i64 0,.int .i64 0]::.row v59 100 4 k.length p::.ba W 100 [.int .i64 i118,S l,.int .i64 i120,.int .i64 i58]::O)) (by rintro _ _ ⟨_,_,_,_,rfl,_⟩; rfl) ?_ ?_
 refine Qb (ea (st ?_))
 obtain ⟨ul,Y,h⟩:=ha h
 refine Aa (dv (f.t (d.t c)) Y b) ?_
 rintro _ am ⟨em,rfl,e,b⟩
 refine fa (st (ja ?_))
 refine ed h ?_ ?_
 intro Z h
 refine Td b ?_; clear b; intro Mf b
 refine Pd (la 0 [0,3,6,7] rfl (la 1 [1,2,3,5,6,7] rfl (la 4 [4,5,6,7] rfl ?_)))
 obtain ⟨hm,gc,h⟩:=ha h
 refine Kb rfl rfl rfl rfl (Gb rfl) (td jw nd (sa (aa (Bb d5)) (sa nd hb)) (sv (f.t (d.t (c.t e))) (⟨LG,fun u x y A=>by obtain rfl:=x; exact bG ((f.t (d.t (c.t e))).t u)  y A⟩) gc b) ?_)
 rintro _ lm ⟨pm,rfl,lc,b⟩
 refine fa ?_
 refine ⟨Oa.z,?_⟩
 obtain ⟨sm,rc,h⟩:=ha h
 refine ze 3 [3,6,7] rfl (Cx underlying9 (aa (Bb d4)) (aa (Bb d6)) rc) (Xd sd) (Kb rfl rfl rfl rfl (Gb rfl) (Je Uc (aa (Bb d8)) Ba rfl b d0 Ga rfl Ga Ma ?_))
 clear b; intro Nm b
 refine ⟨Oa.z,?_⟩
 refine la 6 [6,7] rfl (Kb rfl rfl rfl rfl (Gb rfl) (Je Hb (aa (Bb d9)) (aa (Bb d7)) rfl b d0 kb rfl Ga Ma ?_))
 clear b; intro fn b
 refine ⟨Oa.z,?_⟩
 refine Hd ?_
 refine (fun h=>Pb (za h)) ?_
 replace b:=(b.da Eb).da Eb
 exact ⟨_,_,rfl,(Yc (lb (Xa (yf (zc (zc ta)))))),_,1,_,0,rfl,h,(e.t lc),b⟩
 intro Z h
 refine ea (st ?_)
 obtain ⟨on,fd,h⟩:=ha h
 refine Aa (rv (f.t (d.t (c.t e))) fd b) ?_
 rintro _ un ⟨wn,rfl,g,b⟩
 refine fa (st (ja ?_))
 refine ed h ?_ ?_
 intro id h
 refine db ?_
 refine Td b ?_; clear b; intro Fn b
 refine Pd (la 0 [0,3,6,7] rfl (la 1 [1,2,3,5,6,7] rfl (la 4 [4,5,6,7] rfl ?_)))
 obtain ⟨In,md,h⟩:=ha h
 refine Kb rfl rfl rfl rfl (Gb rfl) (td jw nd (sa (aa (sb d4)) (sa nd hb)) (sv (f.t (d.t (c.t (e.t g)))) (⟨dy,fun u x y A=>by obtain rfl:=x; exact rv ((f.t (d.t (c.t (e.t g)))).t u)  y A⟩) md b) ?_)
 rintro _ co ⟨go,rfl,E,b⟩
 refine fa ?_
 refine ⟨Oa.z,?_⟩
 obtain ⟨io,rd,h⟩:=ha h
 refine ze 3 [3,6,7] rfl (Cx underlying9 (aa (sb d3)) (aa (sb d5)) rd) (ee ad) (Kb rfl rfl rfl rfl (Gb rfl) (Je Uc (aa (sb d7)) Ba rfl b d0 Ga rfl Ga Ma ?_))
 clear b; intro no b
 refine ⟨Oa.z,?_⟩
 refine la 6 [6,7] rfl (Kb rfl rfl rfl rfl (Gb rfl) (Je Hb (aa (sb d8)) (aa (sb d6)) rfl b d0 kb rfl Ga Ma ?_))
 clear b; intro ro b
 refine ⟨Oa.z,?_⟩
 refine Hd (ra (db (ea (st (Ha ((b.ba d0).cell d1) (wl (Ja (bl underlying9 (aa (Gc d0))) (ma (zg kb)) (st (ja ?_)))))))))
 refine Za h ?_ ?_
 intro wd h
 refine ea (st (wl (Nd wc Zi (ab.o rfl Ba rfl rfl Ga (ab.o rfl (aa (Gc d3)) rfl rfl kb ab.z)) (ma (zg hd)) (st (wl (yb wc (aa d3) (aa (Gc d4)) rfl rfl b d1 rfl kb Ma ?_))))))
 clear b; intro to b
 refine ja (Ra ((fun h=>Fa (Ab (Fa (Fa (Ab (Fa (Fa (Ab (Fa h))))))))) ?_))
 obtain rfl:=Ea h
 refine Ad rfl (Qa.s (.t d2) (Qa.s (.a d3 wc (b.ba d1).cells rfl) Qa.z)) ?_
 replace b:=((b.drop ia.z).drop ia.z).drop ia.z
 exact ⟨_,none,0,rfl,(d.t (c.t (e.t (g.t E)))),b,Ka.nil⟩
 intro wd h
 refine Va (ra (eb (st (Ha ((b.ba d0).cell d1) ?_))))
 obtain ⟨i140,Fd,h⟩:=ha h
 refine wl (td MG nd (sa (aa (Gc d7)) (sa Ba (sa Ba hb))) (XG Fd b) ?_); clear b; rintro _ Do ⟨rfl,b⟩; refine fa ?_
 iterate 4 refine st ?_
 refine wl (Je Po (aa (Oc d1)) (aa (Gc d9)) rfl b d0 Ib rfl Ga Ma ?_)
 clear b; intro Go b
 refine La ?_
 refine (fun h=>Pb (za h)) ?_
 replace b:=(b.da Eb).da Eb
 exact ⟨_,_,rfl,(Yc (lb (Xa (yf (zc (zc ta)))))),_,2,_,_,rfl,h,(e.t (g.t E)),b⟩
 intro id h
 refine ea (st ?_)
 obtain ⟨ap,Id,h⟩:=ha h
 refine Aa (BE (f.t (d.t (c.t (e.t g)))) Id b) ?_
 rintro _ ip ⟨jp,rfl,F,b⟩
 refine fa (st (wl (Je Uc (aa (ib d4)) Ba rfl b d0 Ga rfl Ga Ma ?_)))
 clear b; intro mp b
 refine st (wl (Je Hb (aa (ib d5)) (aa (ib d3)) rfl b d0 kb rfl Ga Ma ?_))
 clear b; intro op b
 refine rb (st (Ha ((b.ba d0).cell d1) (wl (Ja (ny (aa (ib d7)) Ba) (ma (qd Yd)) (ja ?_)))))
 refine Za h ?_ ?_
 intro be h
 refine ea (st (wl (Nd wc Zi (ab.o rfl Ba rfl rfl Ga (ab.o rfl (aa (ib d9)) rfl rfl kb ab.z)) (ma (Xd Ga)) (st (wl (yb wc (aa d3) (aa (Bb d0)) rfl rfl b d1 rfl kb Ma ?_))))))
 clear b; intro pp b
 refine ja (Ra ((fun h=>Ab (Fa (Fa (Ab (Fa (Fa (Ab (Fa h)))))))) ?_))
 obtain rfl:=Ea h
 refine Ad rfl (Qa.s (.t d2) (Qa.s (.a d3 wc (b.ba d1).cells rfl) Qa.z)) ?_
 replace b:=((b.drop ia.z).drop ia.z).drop ia.z
 exact ⟨_,none,0,rfl,(d.t (c.t (e.t (g.t F)))),b,Ka.nil⟩
 intro be h
 refine Va ?_
 refine (fun h=>Pb (za h)) ?_
 replace b:=(b.da Eb).da Eb
 exact ⟨_,_,rfl,(Yc (lb (Xa (yf (zc (zc ta)))))),_,3,_,0,rfl,h,(e.t (g.t F)),b⟩
 rintro _ t sp ⟨ce,i118,l,i120,rfl,h,B,b⟩
 unfold Kp at h
 refine Vb (Jf (Xc (vc (Qi (fg (fg pb)))))) (ra (ea (st (Ae (b.ba d2).cells rfl ?_))))
 refine wl (vj underlying64 Kj rfl (aa (Oc d3)) rfl b ?_); clear b; intro wp Op eq b; refine fa ?_
 obtain ⟨ge,G,h⟩:=ha h
 have H:pa ce [.int .i64 i118,S l,.int .i64 i120,.int .i64 i58] [(Ua.mk i118 l i120 i58)]:=(pa.one (α:=Ua) rfl)
 have he:=pa.app (D.up B) H G
 refine wl (xj underlying64 Kj rfl (aa (Oc d2)) (aa (Oc d4)) b d2 (b.ba d0).cells H rfl G (by decide) ?_); clear b; intro le Eq ne Ne b; cases (show _=ne from Ne)
 replace b:=Sep.te b Ib; refine fa ?_
 replace b:=b.drop ia.z
 refine st (ja (eb ?_))
 iterate 2 refine st ?_
 refine Ha ((b.ba d2).cell d1) (wl (Ja (bl underlying9 (aa (Oc d8))) (ma (Zf Ed)) ?_))
 obtain ⟨i154,of,h⟩:=ha h
 refine wl (Ja (Gd (aa (Oc d6)) (aa (Oc d9)) of) (ma (qg Ga)) (st (La ?_)))
 refine (fun h=>Pb (ra h)) ?_
 refine eb ?_
 iterate 3 refine st ?_
 obtain ⟨fr,wf,h⟩:=ha h
 refine wl (Ja (Bx underlying9 (aa (Sa d0)) (aa (Sa d1)) wf) (ma (oc Ib)) ?_)
 obtain ⟨or,If,h⟩:=ha h
 refine Aa (Cz (f.t (d.t (c.t B))) If b) ?_
 rintro _ qr ⟨wr,rfl,K,b⟩
 refine fa ?_
 obtain ⟨i161,dg,h⟩:=ha h
 refine wl (Ja (Gd (aa (wa d9)) (aa (Sa d3)) dg) (ma (oc hd)) (st (La (za ?_))))
 replace b:=b.drop (ia.s (ia.s ia.z))
 exact ⟨q,_,_,rfl,(Yc (lb (Ee (Na (Na (ue (ye (Vf (qb (di ta)))))))))),⟨_,i161,ge,le,(p++[.int .i64 i118,S l,.int .i64 i120,.int .i64 i58]),rfl,h,(c.t (B.t K)),b,(he.up K)⟩,Nat.lt_succ_self _⟩
 intro T h
 refine ke ?_
 refine (fun h=>jc (jc (pe h))) ?_
 refine ra (ea (st (wl (Nd wc Zi ab.z (ma (qg Ib)) (st (wl (yb wc (aa d3) (aa (Nc d2)) rfl rfl b d0 rfl Ga Ma ?_)))))))
 clear b; intro Fr b
 refine ja (Ra ?_)
 replace b:=b.da Da
 obtain ⟨Or,cs,c164,bi,ci,ii,L⟩:=Sep.Gi b D rfl; clear b
 subst bi; have b:=L; clear L
 obtain rfl:=Ea h
 refine Ad rfl (Qa.s (.t d2) (Qa.s (.a d3 wc (b.ba d0).cells rfl) Qa.z)) ?_
 replace b:=b.drop ia.z
 exact ⟨_,_,_,rfl,(d.t (c.t ci)),b,ii⟩
end Go.Proofs.YthoigniombcphaaGreatDoor
set_option maxRecDepth 100000
set_option maxHeartbeats 20000000
namespace Go.Proofs.YthoigniombcphaaGreatDoor
open Go.bc Go.Dc Go.Y Tryz
variable {U nb c2 Tc c9 fu Lb:Nat} {xa a5 Db:Option Addr} {I:M} {J w:World} {O:List Wb}
theorem LD (s:ga Fc I) {p_1 r:Int}  (h:Bt p_1=some r) (a:ka I J w (O)):Sb prog 110 [.int .i64 p_1] w (fun v w'=>∃ (na:M) ,v=.int .i64 r∧ga I na∧ka na J w' (O)):=by
 unfold Bt at h
 refine enter func110 rfl (frm:=_::zd (Ge (Xe []))) rfl (ea (st (ob (Qb (db ?_)))))
 refine Ub (rg 4 6) (by decide) (fun m w=>∃ b U,m=(kg (.i (.bool U)::(ml 4 [])))∧jt p_1 U=some r∧ga I b∧ka b J w (O)) (by rintro _ _ ⟨_,_,rfl,_⟩; rfl) ?_ ?_
 refine eb ?_
 iterate 3 refine st ?_
 refine me 6 h ?_ ?_
 intro f h
 refine oa rfl rfl (oa rfl rfl ?_)
 iterate 2 refine st ?_
 refine La (za ?_)
 exact ⟨_,_,rfl,(Md (Na (di ta))),_,true,rfl,h,ga.r,a⟩
 intro f h
 refine Ta rfl (Ta rfl ?_)
 iterate 2 refine st ?_
 refine La (za ?_)
 exact ⟨_,_,rfl,(Md (Na (di ta))),_,(decide (p_1=20)),rfl,h,ga.r,a⟩
 rintro _ t u ⟨g,U,rfl,h,c,a⟩
 unfold jt at h
 refine Vb (sg (kc (Em pb))) (ra ?_)
 refine ed h ?_ ?_
 intro j h
 refine ea (st (ja (Ra ?_)))
 refine (fun h=>Ab (Fa h)) ?_
 obtain rfl:=Ea h
 refine Ob rfl d2 ?_
 exact ⟨_,rfl,c,a⟩
 intro j h
 refine db ?_
 refine Ub (rg 11 10) (by decide) (fun m w=>∃ b ef,m=(yd (.i (.bool ef)::(Rc 11 [])))∧Zq p_1 ef=some r∧ga g b∧ka b J w (O)) (by rintro _ _ ⟨_,_,rfl,_⟩; rfl) ?_ ?_
 refine eb ?_
 iterate 3 refine st ?_
 refine me 13 h ?_ ?_
 intro k h
 refine oa rfl rfl (oa rfl rfl ?_)
 iterate 2 refine st ?_
 refine oa rfl rfl (oa rfl rfl ?_)
 iterate 2 refine st ?_
 refine La (za ?_)
 exact ⟨_,_,rfl,(xb (Na (qb ta))),_,true,rfl,h,ga.r,a⟩
 intro k h
 refine Ta rfl (Ta rfl ?_)
 iterate 2 refine st ?_
 refine me 17 h ?_ ?_
 intro l h
 refine oa rfl rfl (oa rfl rfl ?_)
 iterate 2 refine st ?_
 refine La (za ?_)
 exact ⟨_,_,rfl,(xb (Na (qb ta))),_,true,rfl,h,ga.r,a⟩
 intro l h
 refine Ta rfl (Ta rfl ?_)
 iterate 2 refine st ?_
 refine La (za ?_)
 exact ⟨_,_,rfl,(xb (Na (qb ta))),_,(decide (p_1=24)),rfl,h,ga.r,a⟩
 rintro _ t x ⟨n,ef,rfl,h,d,a⟩
 unfold Zq at h
 refine Vb (Dd (kc (Wc pb))) (ra ?_)
 refine ed h ?_ ?_
 intro o h
 refine ea (st (ja (Ra ?_)))
 refine (fun h=>Ab (Fa h)) ?_
 obtain rfl:=Ea h
 refine Ob rfl d2 ?_
 exact ⟨_,rfl,(c.t d),a⟩
 intro o h
 refine db ?_
 refine Ub (rg 22 6) (by decide) (fun m w=>∃ b Ri,m=(qc (kh (.i (.bool Ri)::(ml 22 []))))∧Xu Ri=some r∧ga n b∧ka b J w (O)) (by rintro _ _ ⟨_,_,rfl,_⟩; rfl) ?_ ?_
 refine eb ?_
 iterate 3 refine st ?_
 refine me 24 h ?_ ?_
 intro p h
 refine oa rfl rfl (oa rfl rfl ?_)
 iterate 2 refine st ?_
 refine La (za ?_)
 exact ⟨_,_,rfl,(Xa (Ee (Na (di ta)))),_,true,rfl,h,ga.r,a⟩
 intro p h
 refine Ta rfl (Ta rfl ?_)
 iterate 2 refine st ?_
 refine La (za ?_)
 exact ⟨_,_,rfl,(Xa (Ee (Na (di ta)))),_,(decide (p_1=23)),rfl,h,ga.r,a⟩
 rintro _ t y ⟨z,Ri,rfl,h,e,a⟩
 unfold Xu at h
 refine Vb (vc (zh (kc (Em pb)))) (ra ?_)
 refine ed h ?_ ?_
 intro q h
 refine ea (st (ja (Ra ?_)))
 refine (fun h=>Ab (Fa h)) ?_
 obtain rfl:=Ea h
 refine Ob rfl d2 ?_
 exact ⟨_,rfl,(c.t (d.t e)),a⟩
 intro q h
 refine Va ?_
 refine (fun h=>Pb (ra h)) ?_
 refine ea (st (ja (Ra ?_)))
 obtain rfl:=Ea h
 refine Ob rfl d2 ?_
 exact ⟨_,rfl,(c.t (d.t e)),a⟩
theorem gx (j:ga Fc I) {c b:Int} {r:Int×Int}  (h:cq c b=some r) (a:ka I J w (.ba U 90 [.int .i64 c]::O)):Sb prog 49 [.pointer (some ⟨U,0,none⟩),.int .i64 b] w (fun v w'=>∃ (na:M) ,v=.int .i64 r.1∧ga I na∧ka na J w' (.ba U 90 [.int .i64 r.2]::O)):=by
 unfold cq at h
 refine enter func49 rfl (frm:=_::_::zd (zd (Ge (Wf [])))) rfl (ea (st (ob (ea ?_))))
 iterate 3 refine st ?_
 refine Ha ((a.ba d0).cell d0) ?_
 obtain ⟨i3,g4,h⟩:=ha h
 refine wl (Ja (Gd (aa d8) Ba g4) (ma Ed) ?_)
 iterate 2 refine st ?_
 refine wl (Je Uc (aa (wa d1)) (aa d9) rfl a d0 Ga rfl Ga Ma ?_)
 clear a; intro k a
 refine ob ?_
 refine Ub (rg 12 8) (by decide) (fun m w=>∃ d ef,m=(yd (vf (ei 12 (.i (.bool ef)::[]))))∧Yu i3 ef=some r∧ga I d∧ka d J w (.ba U 90 [.int .i64 i3]::O)) (by rintro _ _ ⟨_,_,rfl,_⟩; rfl) ?_ ?_
 refine eb ?_
 iterate 3 refine st ?_
 refine Ha ((a.ba d0).cell d0) ?_
 iterate 2 refine st ?_
 refine me 17 h ?_ ?_
 intro f h
 refine oa rfl rfl (oa rfl rfl (st (La (za ?_))))
 exact ⟨_,_,rfl,(xb (Yc (ag (Na ta)))),_,true,rfl,h,ga.r,a⟩
 intro f h
 refine Ta rfl (Ta rfl (st (La (za ?_))))
 exact ⟨_,_,rfl,(xb (Yc (ag (Na ta)))),_,(decide ((40:Int)<b)),rfl,h,ga.r,a⟩
 rintro _ t l ⟨n,ef,rfl,h,e,a⟩
 unfold Yu at h
 refine Vb (Dd (Jf (xi (kc pb)))) (ra ?_)
 refine ed h ?_ ?_
 intro g h
 refine ea (st (ja (Ra (Fa ?_))))
 obtain rfl:=Ea h
 refine Ob rfl d4 ?_
 exact ⟨_,rfl,e,a⟩
 intro g h
 refine Va (ra (ea (st (ja (Ra ?_)))))
 obtain rfl:=Ea h
 refine Ob rfl d4 ?_
 exact ⟨_,rfl,e,a⟩
theorem px (e:ga Fc I) {p_1:Ya} {r:Int}  (h:Yk fu p_1=some r) (a:ka I J w (O)):Sb prog 51 [.agg ⟨[.int .i64 p_1.Kind,S p_1.Nb]⟩] w (fun v w'=>∃ (na:M) ,v=.int .i64 r∧ga I na∧ka na J w' (O)):=by
 unfold Yk at h
 refine enter func51 rfl (frm:=_::Cf (Xe [])) rfl (ea ?_)
 refine wl (Ji (aa d0) rfl a ?_); clear a; intro U p q a; refine fa ?_
 refine st (ob (Qb (db ?_)))
 refine Ub (rg 4 8) (by decide) (fun m w=>∃ b nb,m=(kg (.i (.bool nb)::(ei 4 [])))∧Im fu p_1 nb=some r∧ga I b∧ka b J w (.ba U 57 [.int .i64 p_1.Kind,S p_1.Nb]::O)) (by rintro _ _ ⟨_,_,rfl,_⟩; rfl) ?_ ?_
 refine eb (st (Ha ((a.ba d0).cell d0) ?_))
 iterate 2 refine st ?_
 refine me 7 h ?_ ?_
 intro f h
 refine oa rfl rfl (oa rfl rfl (oa rfl rfl ?_))
 iterate 2 refine st ?_
 refine La (za ?_)
 exact ⟨_,_,rfl,(Md (Na (ag ta))),_,true,rfl,h,ga.r,a⟩
 intro f h
 refine Ta rfl (mc rfl d7 (de Uc (aa d8) ((a.ba d0).cell d0) (ma Ed) (Ta rfl ?_)))
 iterate 2 refine st ?_
 refine La (za ?_)
 exact ⟨_,_,rfl,(Md (Na (ag ta))),_,(decide ((3:Int)<p_1.Kind)),rfl,h,ga.r,a⟩
 rintro _ t s ⟨g,nb,rfl,h,c,a⟩
 unfold Im at h
 refine Vb (sg (kc (xi pb))) (ra ?_)
 refine ed h ?_ ?_
 intro j h
 refine ea (st (ja (Ra ?_)))
 refine (fun h=>Ab (Fa h)) ?_
 obtain rfl:=Ea h
 refine Ob rfl d2 ?_
 replace a:=a.drop ia.z
 exact ⟨_,rfl,c,a⟩
 intro j h
 refine db ?_
 refine Ub (rg 13 9) (by decide) (fun m w=>∃ b Le,m=(yd (vf (.i (.bool Le)::(Rl 13 []))))∧ot Le=some r∧ga g b∧ka b J w (O)) (by rintro _ _ ⟨_,_,rfl,_⟩; rfl) ?_ ?_
 refine eb (st (Ha ((a.ba d0).cell d0) ?_))
 iterate 2 refine st ?_
 refine me 16 h ?_ ?_
 intro k h
 refine Ta rfl (mc rfl (wa d6) (de Hb (aa (wa d7)) ((a.ba d0).cell d1) (ma (Jb Yd)) ?_))
 obtain ⟨l,g10,h⟩:=ha h
 refine mc rfl (wa d6) (td iq nd (sa (aa (wa d8)) hb) (qn (e.t c) g10 a) ?_)
 rintro _ u ⟨x,rfl,n,a⟩
 refine fa (Ta rfl ?_)
 iterate 2 refine st ?_
 refine La (za ?_)
 replace a:=a.drop ia.z
 exact ⟨_,_,rfl,(xb (Yc (Na (Uh ta)))),_,(!l),rfl,h,n,a⟩
 intro k h
 refine oa rfl rfl (oa rfl rfl (oa rfl rfl (oa rfl rfl ?_)))
 iterate 2 refine st ?_
 refine La (za ?_)
 replace a:=a.drop ia.z
 exact ⟨_,_,rfl,(xb (Yc (Na (Uh ta)))),_,false,rfl,h,ga.r,a⟩
 rintro _ t y ⟨A,Le,rfl,h,d,a⟩
 unfold ot at h
 refine Vb (Dd (Jf (kc (Ym pb)))) (ra ?_)
 refine ed h ?_ ?_
 intro o h
 refine ea (st (ja (Ra ?_)))
 refine (fun h=>Ab (Fa h)) ?_
 obtain rfl:=Ea h
 refine Ob rfl d2 ?_
 exact ⟨_,rfl,(c.t d),a⟩
 intro o h
 refine Va ?_
 refine (fun h=>Pb (ra h)) ?_
 refine ea (st (ja (Ra ?_)))
 obtain rfl:=Ea h
 refine Ob rfl d2 ?_
 exact ⟨_,rfl,(c.t d),a⟩
def Dz (q:Int→ua→Int→Option (Int×Int)):Prop:=∀ {I:M} {J w:World} {O:List Wb} (c:ga Fc I) {U:Nat} {b:Int} {a:ua} {nb Lb:Nat} {a5:Option Addr} {Tc:Nat} {p_3:Int} {r:Int×Int} (m7:Ka I a5 Tc a.Kids) (m8:dd I nb Lb [.int .i64 a.Kind,.int .i64 a.N,S a.Name,.slice a5 a.Kids.length Tc]) (h:q b a p_3=some r) (d:ka I J w (.ba U 90 [.int .i64 b]::O)),Sb prog 90 [.pointer (some ⟨U,0,none⟩),.pointer (some ⟨nb,Lb,none⟩),.int .i64 p_3] w (fun v w'=>∃ (na:M) ,v=.int .i64 r.1∧ga I na∧ka na J w' (.ba U 90 [.int .i64 r.2]::O))
structure Yy (a:vm):Prop where
  Vg:Dz a.Vg
theorem MD {fu:Nat} {self:vm} (F:Yy self):Dz (Vg fu self):=by
 intro I J w O u U mk l nb Lb a5 Tc p_3 r m7 m8 h b
 unfold Vg at h
 refine enter func90 rfl (frm:=_::_::_::zd (zd (Ge (Wf (Xe (Ze (Ze []))))))) rfl (ea (st (ob (ea ?_))))
 iterate 2 refine st ?_
 obtain ⟨k,g10,h⟩:=ha h
 refine Aa (gx u g10 b) ?_
 rintro _ ok ⟨G,rfl,c,b⟩
 refine fa (st (rb ?_))
 iterate 2 refine st ?_
 refine ja ?_
 refine Za h ?_ ?_
 intro H h
 refine ea ?_
 iterate 2 refine st ?_
 refine ja (Ra (Fa ?_))
 obtain rfl:=Ea h
 refine Ob rfl d6 ?_
 exact ⟨_,rfl,c,b⟩
 intro H h
 refine Va (ra (db (db ?_)))
 refine Ub (rg 17 11) (by decide) (fun m w=>∃ g Lg,m=(yd (rh (Rc 17 (Sc 27 (.i (.bool Lg)::[])))))∧Zj fu self l p_3 k Lg=some r∧ga G g∧ka g J w (.ba U 90 [.int .i64 k.2]::O)) (by rintro _ _ ⟨_,_,rfl,_⟩; rfl) ?_ ?_
 refine eb ?_
 iterate 3 refine st ?_
 refine Ha ((m8 _ (c _ b.a)).one d0) ?_
 iterate 2 refine st ?_
 refine me 22 h ?_ ?_
 intro K h
 refine oa rfl rfl (oa rfl rfl (oa rfl rfl (oa rfl rfl (oa rfl rfl (st (La (za ?_)))))))
 exact ⟨_,_,rfl,(xb (cf (qb (lb (Na ta))))),_,true,rfl,h,ga.r,b⟩
 intro K h
 refine Ta rfl (Ta rfl (Ta rfl (mc rfl (Sa d2) (de Uc (aa (Sa d5)) ((m8 _ (c _ b.a)).one d0) (ma (oc ad)) (Ta rfl (st (La (za ?_))))))))
 exact ⟨_,_,rfl,(xb (cf (qb (lb (Na ta))))),_,(decide ((24:Int)<l.Kind)),rfl,h,ga.r,b⟩
 rintro _ t dl ⟨el,Lg,rfl,h,d,b⟩
 unfold Zj at h
 refine Vb (Dd (Jh (Wc (Xc (kc pb))))) (ra ?_)
 refine ed h ?_ ?_
 intro L h
 refine ea (st (ja (Ra (Fa ?_))))
 obtain rfl:=Ea h
 refine Ob rfl d6 ?_
 exact ⟨_,rfl,(c.t d),b⟩
 intro L h
 refine Va (ra (ea ?_))
 iterate 3 refine st ?_
 refine Ha ((m8 _ ((c.t d) _ b.a)).one d0) ?_
 obtain ⟨x,g18,h⟩:=ha h
 refine Aa (LD (u.t (c.t d)) g18 b) ?_
 rintro _ nl ⟨M,rfl,e,b⟩
 refine fa (st (ob (Qb (db (db ?_)))))
 refine Ub (rg 35 19) (by decide) (fun m w=>∃ g y,m=(qc (yd (tf (.i (.bool y)::(Rc 35 (Rl 45 []))))))∧Cl fu self l p_3 k x y=some r∧ga M g∧ka g J w (.ba U 90 [.int .i64 k.2]::O)) (by rintro _ _ ⟨_,_,rfl,_⟩; rfl) ?_ ?_
 refine eb ?_
 iterate 3 refine st ?_
 refine Ha ((m8 _ ((c.t (d.t e)) _ b.a)).one d0) ?_
 iterate 2 refine st ?_
 refine me 40 h ?_ ?_
 intro P h
 refine Ta rfl (Ta rfl (Ta rfl (mc rfl (Bb d0) (de Po (aa (Bb d3)) ((m8 _ ((c.t (d.t e)) _ b.a)).one d1) (ma (Xd hd)) (Ta rfl (Ta rfl ?_))))))
 refine me 46 h ?_ ?_
 intro Q h
 refine oa rfl rfl (oa rfl rfl (oa rfl rfl (oa rfl rfl (oa rfl rfl (Ta rfl ?_)))))
 iterate 2 refine st ?_
 refine La (za ?_)
 exact ⟨_,_,rfl,(Xa (xb (gd (Na (qb (Uh ta)))))),_,true,rfl,h,ga.r,b⟩
 intro Q h
 refine Ta rfl (Ta rfl (Ta rfl (mc rfl (Bb d6) (de Po (aa (Bb d9)) ((m8 _ ((c.t (d.t e)) _ b.a)).one d1) (ma (ee Ga)) (Ta rfl (Ta rfl ?_))))))
 iterate 2 refine st ?_
 refine La (za ?_)
 exact ⟨_,_,rfl,(Xa (xb (gd (Na (qb (Uh ta)))))),_,(decide ((999999999999999:Int)<l.N)),rfl,h,ga.r,b⟩
 intro P h
 refine oa rfl rfl (oa rfl rfl (oa rfl rfl (oa rfl rfl (oa rfl rfl (oa rfl rfl (tl rfl (Bb d6) (ma (Xd sd)) (tl rfl (Bb d6) (ma (Xd Yd)) (tl rfl (Bb d6) (ma (Xd Ed)) (tl rfl (Bb d6) (ma (ee Ga)) (tl rfl (Bb d6) (ma (ee kb)) (oa rfl rfl ?_)))))))))))
 iterate 2 refine st ?_
 refine La (za ?_)
 exact ⟨_,_,rfl,(Xa (xb (gd (Na (qb (Uh ta)))))),_,false,rfl,h,ga.r,b⟩
 rintro _ t ol ⟨R,y,rfl,h,f,b⟩
 unfold Cl at h
 refine Vb (vc (Dd (Ff (kc (Wc (Ym pb)))))) (ra ?_)
 refine Ub (rg 54 19) (by decide) (fun m w=>∃ g z,m=(qc (yd (tf (.i (.bool z)::(yd (mi (Rc 54 (Rl 64 []))))))))∧Qk fu self l p_3 k x z=some r∧ga R g∧ka g J w (.ba U 90 [.int .i64 k.2]::O)) (by rintro _ _ ⟨_,_,rfl,_⟩; rfl) ?_ ?_
 refine ed h ?_ ?_
 intro S h
 refine Va (za ?_)
 exact ⟨_,_,rfl,(Xa (xb (gd (Na (xb (yf (qb (Uh ta)))))))),_,_,rfl,h,ga.r,b⟩
 intro S h
 refine eb ?_
 iterate 3 refine st ?_
 refine Ha ((m8 _ ((c.t (d.t (e.t f))) _ b.a)).one d0) ?_
 iterate 2 refine st ?_
 refine me 59 h ?_ ?_
 intro T h
 refine Ta rfl (Ta rfl (Ta rfl (mc rfl (sb d9) (de Po (aa (Gc d2)) ((m8 _ ((c.t (d.t (e.t f))) _ b.a)).one d1) (ma (zg ec)) (Ta rfl ?_)))))
 iterate 2 refine st ?_
 refine me 66 h ?_ ?_
 intro V h
 refine Ta rfl (Ta rfl (Ta rfl (mc rfl (Gc d6) (de Po (aa (Gc d9)) ((m8 _ ((c.t (d.t (e.t f))) _ b.a)).one d1) (ma (Zf Ga)) (Ta rfl ?_)))))
 iterate 2 refine st ?_
 refine La (za ?_)
 exact ⟨_,_,rfl,(Xa (xb (gd (Na (xb (yf (qb (Uh ta)))))))),_,(decide (l.N≠1)),rfl,h,ga.r,b⟩
 intro V h
 refine oa rfl rfl (oa rfl rfl (oa rfl rfl (oa rfl rfl (oa rfl rfl ?_))))
 iterate 2 refine st ?_
 refine La (za ?_)
 exact ⟨_,_,rfl,(Xa (xb (gd (Na (xb (yf (qb (Uh ta)))))))),_,false,rfl,h,ga.r,b⟩
 intro T h
 refine oa rfl rfl (oa rfl rfl (oa rfl rfl (oa rfl rfl (oa rfl rfl ?_))))
 iterate 2 refine st ?_
 refine oa rfl rfl (oa rfl rfl (oa rfl rfl (oa rfl rfl (oa rfl rfl ?_))))
 iterate 2 refine st ?_
 refine La (za ?_)
 exact ⟨_,_,rfl,(Xa (xb (gd (Na (xb (yf (qb (Uh ta)))))))),_,false,rfl,h,ga.r,b⟩
 rintro _ t pl ⟨W,z,rfl,h,j,b⟩
 unfold Qk at h
 refine Vb (vc (Dd (Ff (kc (Dd (Qi (Wc (Ym pb)))))))) (ra ?_)
 refine ed h ?_ ?_
 intro X h
 refine ea (st (ja (Ra ?_)))
 refine (fun h=>Ab (Fa h)) ?_
 obtain rfl:=Ea h
 refine Ob rfl d6 ?_
 exact ⟨_,rfl,(c.t (d.t (e.t (f.t j)))),b⟩
 intro X h
 refine db ?_
 refine Ub (rg 74 24) (by decide +kernel) (fun m w=>∃ g A,m=(Sd (qc (kg (.i (.bool A)::(Uf 74 (Ih 94 []))))))∧sk self l p_3 k x A=some r∧ga W g∧ka g J w (.ba U 90 [.int .i64 k.2]::O)) (by rintro _ _ ⟨_,_,rfl,_⟩; rfl) ?_ ?_
 refine eb ?_
 iterate 3 refine st ?_
 refine Ha ((m8 _ ((c.t (d.t (e.t (f.t j)))) _ b.a)).one d0) ?_
 iterate 2 refine st ?_
 refine me 79 h ?_ ?_
 intro Y h
 refine oa rfl rfl (oa rfl rfl (oa rfl rfl (oa rfl rfl (oa rfl rfl ?_))))
 iterate 2 refine st ?_
 refine oa rfl rfl (oa rfl rfl ?_)
 iterate 2 refine st ?_
 refine Ta rfl (Ta rfl (Ta rfl (mc rfl (fe d0) (de Hb (aa (fe d3)) ((m8 _ ((c.t (d.t (e.t (f.t j)))) _ b.a)).one d2) (ma (Zh hd)) ?_))))
 obtain ⟨Z,gc,h⟩:=ha h
 refine mc rfl (fe d0) (td iq nd (sa (aa (fe d4)) hb) (qn (u.t (c.t (d.t (e.t (f.t j))))) gc b) ?_)
 rintro _ ul ⟨am,rfl,lc,b⟩
 refine fa (Ta rfl ?_)
 iterate 2 refine st ?_
 refine La (za ?_)
 exact ⟨_,_,rfl,(Yb (Xa (Md (Na (zc (pf ta)))))),_,(!Z),rfl,h,lc,b⟩
 intro Y h
 refine Ta rfl (Ta rfl (Ta rfl (mc rfl (Oc d9) (de Uc (aa (Nc d2)) ((m8 _ ((c.t (d.t (e.t (f.t j)))) _ b.a)).one d0) (ma (qg ec)) (Ta rfl ?_)))))
 iterate 2 refine st ?_
 refine me 86 h ?_ ?_
 intro rc h
 refine oa rfl rfl (oa rfl rfl ?_)
 iterate 2 refine st ?_
 refine Ta rfl (Ta rfl (Ta rfl (mc rfl (fe d0) (de Hb (aa (fe d3)) ((m8 _ ((c.t (d.t (e.t (f.t j)))) _ b.a)).one d2) (ma (Zh hd)) ?_))))
 obtain ⟨fd,id,h⟩:=ha h
 refine mc rfl (fe d0) (td iq nd (sa (aa (fe d4)) hb) (qn (u.t (c.t (d.t (e.t (f.t j))))) id b) ?_)
 rintro _ em ⟨hm,rfl,md,b⟩
 refine fa (Ta rfl ?_)
 iterate 2 refine st ?_
 refine La (za ?_)
 exact ⟨_,_,rfl,(Yb (Xa (Md (Na (zc (pf ta)))))),_,(!fd),rfl,h,md,b⟩
 intro rc h
 refine Ta rfl (Ta rfl ?_)
 iterate 2 refine st ?_
 refine me 90 h ?_ ?_
 intro rd h
 refine Ta rfl (Ta rfl (Ta rfl (mc rfl (fe d0) (de Hb (aa (fe d3)) ((m8 _ ((c.t (d.t (e.t (f.t j)))) _ b.a)).one d2) (ma (Zh hd)) ?_))))
 obtain ⟨wd,Fd,h⟩:=ha h
 refine mc rfl (fe d0) (td iq nd (sa (aa (fe d4)) hb) (qn (u.t (c.t (d.t (e.t (f.t j))))) Fd b) ?_)
 rintro _ Mf ⟨lm,rfl,Id,b⟩
 refine fa (Ta rfl ?_)
 iterate 2 refine st ?_
 refine La (za ?_)
 exact ⟨_,_,rfl,(Yb (Xa (Md (Na (zc (pf ta)))))),_,(!wd),rfl,h,Id,b⟩
 intro rd h
 refine oa rfl rfl (oa rfl rfl (oa rfl rfl (oa rfl rfl (oa rfl rfl (oa rfl rfl ?_)))))
 iterate 2 refine st ?_
 refine La (za ?_)
 exact ⟨_,_,rfl,(Yb (Xa (Md (Na (zc (pf ta)))))),_,false,rfl,h,ga.r,b⟩
 rintro _ t pm ⟨be,A,rfl,h,p,b⟩
 unfold sk at h
 refine Vb (Ud (vc (sg (kc (fg (ai pb)))))) (ra ?_)
 refine ed h ?_ ?_
 intro ce h
 refine ea (st (ja (Ra ?_)))
 refine (fun h=>Ab (Fa h)) ?_
 obtain rfl:=Ea h
 refine Ob rfl d6 ?_
 exact ⟨_,rfl,(c.t (d.t (e.t (f.t (j.t p))))),b⟩
 intro ce h
 refine db (db ?_)
 refine Ub (rg 99 11) (by decide) (fun m w=>∃ g B,m=(Sd (qc (qc (Kh (.i (.bool B)::(Rc 99 (Sc 109 [])))))))∧Bl self l p_3 k x B=some r∧ga be g∧ka g J w (.ba U 90 [.int .i64 k.2]::O)) (by rintro _ _ ⟨_,_,rfl,_⟩; rfl) ?_ ?_
 refine eb ?_
 iterate 3 refine st ?_
 refine me 101 h ?_ ?_
 intro ge h
 refine Ta rfl (Ta rfl (Ta rfl (mc rfl (Pa d1) (de Xh (aa (Pa d4)) ((m8 _ ((c.t (d.t (e.t (f.t (j.t p))))) _ b.a)).one d3) (ma (dc cd)) (mc rfl (Pa d1) (Ja (Qd underlying122 (aa (Pa d5))) (ma (dc ad)) (Ta rfl (Ta rfl ?_))))))))
 iterate 2 refine st ?_
 refine La (za ?_)
 exact ⟨_,_,rfl,(Yb (Xa (Xa (lf (Na (qb (lb ta))))))),_,(decide ((l.Kids.length:Int)≠x)),rfl,h,ga.r,b⟩
 intro ge h
 refine oa rfl rfl (oa rfl rfl (oa rfl rfl (oa rfl rfl (oa rfl rfl (oa rfl rfl (oa rfl rfl ?_))))))
 iterate 2 refine st ?_
 refine La (za ?_)
 exact ⟨_,_,rfl,(Yb (Xa (Xa (lf (Na (qb (lb ta))))))),_,false,rfl,h,ga.r,b⟩
 rintro _ t sm ⟨he,B,rfl,h,q,b⟩
 unfold Bl at h
 refine Vb (Ud (vc (vc (fi (kc (Wc (Xc pb))))))) (ra ?_)
 refine Ub (rg 110 10) (by decide) (fun m w=>∃ g C,m=(Sd (qc (qc (Kh (.i (.bool C)::(yd (kh (Rc 110 []))))))))∧Al self l p_3 k C=some r∧ga he g∧ka g J w (.ba U 90 [.int .i64 k.2]::O)) (by rintro _ _ ⟨_,_,rfl,_⟩; rfl) ?_ ?_
 refine ed h ?_ ?_
 intro le h
 refine Va (za ?_)
 exact ⟨_,_,rfl,(Yb (Xa (Xa (lf (Na (xb (Ee (qb ta)))))))),_,_,rfl,h,ga.r,b⟩
 intro le h
 refine eb ?_
 iterate 3 refine st ?_
 refine me 112 h ?_ ?_
 intro ne h
 refine Ta rfl (Ta rfl (Ta rfl (mc rfl (Pa (wa d2)) (de Xh (aa (Pa (wa d5))) ((m8 _ ((c.t (d.t (e.t (f.t (j.t (p.t q)))))) _ b.a)).one d3) (ma (dc (Jb ad))) (mc rfl (Pa (wa d2)) (Ja (Qd underlying122 (aa (Pa (wa d6)))) (ma (dc (Jb sd))) (Ta rfl ?_)))))))
 iterate 2 refine st ?_
 refine La (za ?_)
 exact ⟨_,_,rfl,(Yb (Xa (Xa (lf (Na (xb (Ee (qb ta)))))))),_,(decide ((6:Int)<(l.Kids.length:Int))),rfl,h,ga.r,b⟩
 intro ne h
 refine oa rfl rfl (oa rfl rfl (oa rfl rfl (oa rfl rfl (oa rfl rfl (oa rfl rfl ?_)))))
 iterate 2 refine st ?_
 refine La (za ?_)
 exact ⟨_,_,rfl,(Yb (Xa (Xa (lf (Na (xb (Ee (qb ta)))))))),_,false,rfl,h,ga.r,b⟩
 rintro _ t Nm ⟨Ne,C,rfl,h,s,b⟩
 unfold Al at h
 refine Vb (Ud (vc (vc (fi (kc (Dd (zh (Wc pb)))))))) (ra ?_)
 refine ed h ?_ ?_
 intro of h
 refine ea (st (ja (Ra ?_)))
 refine (fun h=>Ab (Fa h)) ?_
 obtain rfl:=Ea h
 refine Ob rfl d6 ?_
 exact ⟨_,rfl,(c.t (d.t (e.t (f.t (j.t (p.t (q.t s))))))),b⟩
 intro of h
 refine Va ?_
 refine (fun h=>Pb (ra h)) ?_
 refine db (ea ?_)
 iterate 3 refine st ?_
 refine Ha ((m8 _ ((c.t (d.t (e.t (f.t (j.t (p.t (q.t s))))))) _ b.a)).one d3) (wl (Ja (Qd underlying122 (aa (Pa (Sa d3)))) (ma (dc (oc hd))) (st (ja (Qb ?_)))))
 refine Se ([6]++rg 9 2++rg 126 16) (by decide) (fun n m w=>∃ g i72 i73,m=(Og (Sc 6 (vf (xf 9 (Sd (Sd (yd (tf (.i (.int .i64 i72)::(Rc 126 (ml 136 [])))))))))))∧Vi self l p_3 n i72 i73=some r∧ga Ne g∧ka g J w (.ba U 90 [.int .i64 i73]::O)) (by rintro _ _ _ ⟨_,_,_,rfl,_⟩; rfl) _ _ (ye (lb (Yc (Zc (Yb (Yb (xb (gd (Na (qb (di ta))))))))))) ⟨_,0,k.2,rfl,h,ga.r,b⟩ ?_
 rintro D _ t fn ⟨on,i72,i73,rfl,h,v,b⟩
 rcases D with _|D
 cases h
 unfold Vi at h
 refine Te (Zg (Xc (Jf (Kf (Ud (Ud (Dd (Ff (kc (Wc (Em pb))))))))))) (ea (st (ob ?_)))
 refine Za h ?_ ?_
 intro wf h
 refine Va (ra (db (Qb (ea ?_))))
 iterate 2 refine st ?_
 refine rb ?_
 iterate 4 refine st ?_
 refine Ha ((m8 _ ((c.t (d.t (e.t (f.t (j.t (p.t (q.t (s.t v)))))))) _ b.a)).one d3) (st ?_)
 obtain ⟨un,If,h⟩:=ha h
 obtain ⟨wn,Fn,In,dg,f100,bi⟩:=Pc.elem (m7.up (c.t (d.t (e.t (f.t (j.t (p.t (q.t (s.t v))))))))) If
 obtain ⟨co,go,rfl,ci⟩:=ua.o bi
 refine wl (Ja (Mc underlying122 pc (aa (Pa (ib d2))) (aa (Pa (ib d3))) dg) (ma (dc (qd hd))) (st ?_))
 obtain ⟨i105,ii,h⟩:=ha h
 refine wl (Ja (Gd (aa (Pa (ib d5))) Ba ii) (ma (dc (qd ad))) ?_)
 obtain ⟨li,pi,h⟩:=ha h
 refine Aa (F.Vg (u.t (c.t (d.t (e.t (f.t (j.t (p.t (q.t (s.t v))))))))) ci f100 pi b) ?_
 rintro _ io ⟨no,rfl,E,b⟩
 refine fa (st (rb ?_))
 iterate 2 refine st ?_
 refine ja ?_
 refine Za h ?_ ?_
 intro Pi h
 refine ea ?_
 iterate 2 refine st ?_
 refine ja (Ra ?_)
 refine (fun h=>Ab (Fa (Fa (Ab (Fa h))))) ?_
 obtain rfl:=Ea h
 refine Ob rfl d6 ?_
 exact ⟨_,rfl,(c.t (d.t (e.t (f.t (j.t (p.t (q.t (s.t (v.t E))))))))),b⟩
 intro Pi h
 refine Va ?_
 refine (fun h=>Pb (ra h)) ?_
 refine eb ?_
 obtain ⟨i111,kk,h⟩:=ha h
 refine wl (Ja (Gd (aa (Pa (Sa d5))) Ba kk) (ma (dc (Xd kb))) (st (La (za ?_))))
 exact ⟨D,_,_,rfl,(ye (lb (Yc (Zc (Yb (Yb (xb (gd (Na (qb (di ta))))))))))),⟨_,i111,li.2,rfl,h,(v.t E),b⟩,Nat.lt_succ_self _⟩
 intro wf h
 refine ke ?_
 refine (fun h=>jc (jc (pe h))) ?_
 refine ra (ea (st (ja (Ra ?_))))
 obtain rfl:=Ea h
 refine Ob rfl d6 ?_
 exact ⟨_,rfl,(c.t (d.t (e.t (f.t (j.t (p.t (q.t (s.t v)))))))),b⟩
theorem Ty:∀ n,Yy (Nf n)
  | 0=>⟨(by intro; intros; rename_i h _; cases h)⟩
  | n+1=>⟨MD (Ty n)⟩
def gz (q:Int→(List Wa)→Int→Option (Int×Int)):Prop:=∀ {I:M} {J w:World} {O:List Wb} (c:ga Fc I) {U:Nat} {b:Int} {a:List Wa} {a3:Option Addr} {c4:Nat} {p_3:Int} {r:Int×Int} (m5:Ka I a3 c4 a) (h:q b a p_3=some r) (d:ka I J w (.ba U 90 [.int .i64 b]::O)),Sb prog 52 [.pointer (some ⟨U,0,none⟩),.slice a3 a.length c4,.int .i64 p_3] w (fun v w'=>∃ (na:M) ,v=.int .i64 r.1∧ga I na∧ka na J w' (.ba U 90 [.int .i64 r.2]::O))
def Ez (q:Int→Wa→Int→Option (Int×Int)):Prop:=∀ {I:M} {J w:World} {O:List Wb} (c:ga Fc I) {U:Nat} {b:Int} {a:Wa} {nb Lb:Nat} {a5:Option Addr} {Tc:Nat} {Db:Option Addr} {c9:Nat} {xc:Option Addr} {c12:Nat} {p_3:Int} {r:Int×Int} (m7:Ka I a5 Tc a.X.Kids) (m10:Ka I Db c9 a.Body) (m13:Ka I xc c12 a.jd) (m14:dd I nb Lb [.int .i64 a.Kind,S a.Name,.int .i64 a.X.Kind,.int .i64 a.X.N,S a.X.Name,.slice a5 a.X.Kids.length Tc,.slice Db a.Body.length c9,.slice xc a.jd.length c12]) (h:q b a p_3=some r) (d:ka I J w (.ba U 90 [.int .i64 b]::O)),Sb prog 70 [.pointer (some ⟨U,0,none⟩),.pointer (some ⟨nb,Lb,none⟩),.int .i64 p_3] w (fun v w'=>∃ (na:M) ,v=.int .i64 r.1∧ga I na∧ka na J w' (.ba U 90 [.int .i64 r.2]::O))
structure Uw (a:wm):Prop where
  Xf:gz a.Xf
  Wh:Ez a.Wh
theorem kD {self:wm} (f:Uw self):gz (Xf self):=by
 intro I J w O g U j k a3 c4 p_3 r m5 h a
 unfold Xf at h
 refine enter func52 rfl (frm:=_::_::_::zd (zd (Xe []))) rfl (ea (st (ob (ea (st (wl (Ja (Qd underlying59 (aa d9)) (ma (Jb Ga)) (st (ja ?_)))))))))
 refine Za h ?_ ?_
 intro l h
 refine ea (st (ja (Ra (Fa ?_))))
 obtain rfl:=Ea h
 refine Ob rfl d6 ?_
 exact ⟨_,rfl,ga.r,a⟩
 intro l h
 refine Va (ra (db (ea (st (wl (Ja (Qd underlying59 (aa (wa d2))) (ma (Jb ec)) (st (ja (Qb ?_)))))))))
 refine Se (rg 6 3++rg 15 12) (by decide) (fun n m w=>∃ d i29 i30,m=(Og (Yg 6 (ng (.i (.int .i64 i29)::(Rc 15 (xf 25 []))))))∧Xl self k p_3 n i29 i30=some r∧ga I d∧ka d J w (.ba U 90 [.int .i64 i30]::O)) (by rintro _ _ _ ⟨_,_,_,rfl,_⟩; rfl) _ _ (ye (ue (ie (Na (qb (Zc ta)))))) ⟨_,0,j,rfl,h,ga.r,a⟩ ?_
 rintro c _ t D ⟨E,i29,i30,rfl,h,b,a⟩
 rcases c with _|c
 cases h
 unfold Xl at h
 refine Te (Zg (qh (Ag (kc (Wc (Kf pb)))))) (ea (st (ob ?_)))
 refine Za h ?_ ?_
 intro p h
 refine Va (ra (db (Qb (ea ?_))))
 iterate 2 refine st ?_
 refine rb ?_
 iterate 3 refine st ?_
 obtain ⟨F,q,h⟩:=ha h
 obtain ⟨G,H,K,s,f61,u⟩:=Pc.elem (m5.up b) q
 obtain ⟨L,M,N,P,Q,c70,rfl,v,x,y⟩:=Wa.o u
 refine wl (Ja (Mc underlying59 Yf (aa (wa d8)) (aa (wa d9)) s) (ma (oc Ga)) (st ?_))
 obtain ⟨z,A,h⟩:=ha h
 refine Aa (f.Wh (g.t b) v x y f61 A a) ?_
 rintro _ R ⟨S,rfl,e,a⟩
 refine fa (st (rb ?_))
 iterate 2 refine st ?_
 refine ja ?_
 refine Za h ?_ ?_
 intro B h
 refine ea ?_
 iterate 2 refine st ?_
 refine ja (Ra ?_)
 refine (fun h=>Ab (Fa (Fa (Ab (Fa h))))) ?_
 obtain rfl:=Ea h
 refine Ob rfl d6 ?_
 exact ⟨_,rfl,(b.t e),a⟩
 intro B h
 refine Va ?_
 refine (fun h=>Pb (ra h)) ?_
 refine eb ?_
 obtain ⟨i76,C,h⟩:=ha h
 refine wl (Ja (Gd (aa (wa d4)) Ba C) (ma (oc ad)) (st (La (za ?_))))
 exact ⟨c,_,_,rfl,(ye (ue (ie (Na (qb (Zc ta)))))),⟨_,i76,z.2,rfl,h,(b.t e),a⟩,Nat.lt_succ_self _⟩
 intro p h
 refine ke ?_
 refine (fun h=>jc (jc (pe h))) ?_
 refine ra (ea (st (ja (Ra ?_))))
 obtain rfl:=Ea h
 refine Ob rfl d6 ?_
 exact ⟨_,rfl,b,a⟩
theorem ND {fu:Nat} {self:wm} (v:Uw self):Ez (Wh fu self):=by
 intro I J w O k U be l nb Lb a5 Tc Db c9 xc c12 p_3 r m7 m10 m13 m14 h b
 unfold Wh at h
 refine enter func70 rfl (frm:=_::_::_::Cf (Ge (Ze (Ze [])))) rfl (ea (st (ob (ea ?_))))
 iterate 2 refine st ?_
 obtain ⟨o,g16,h⟩:=ha h
 refine Aa (gx k g16 b) ?_
 rintro _ ce ⟨y,rfl,c,b⟩
 refine fa (st (rb ?_))
 iterate 2 refine st ?_
 refine ja ?_
 refine Za h ?_ ?_
 intro z h
 refine ea ?_
 iterate 2 refine st ?_
 refine ja (Ra (Fa ?_))
 obtain rfl:=Ea h
 refine Ob rfl d6 ?_
 exact ⟨_,rfl,c,b⟩
 intro z h
 refine Va (ra (db (Qb (db ?_))))
 refine Ub (rg 17 12) (by decide) (fun m w=>∃ g p,m=(yd (Og (.i (.bool p)::(Rc 17 (xf 27 [])))))∧Rk fu self l p_3 o p=some r∧ga y g∧ka g J w (.ba U 90 [.int .i64 o.2]::O)) (by rintro _ _ ⟨_,_,rfl,_⟩; rfl) ?_ ?_
 refine eb ?_
 iterate 3 refine st ?_
 refine Ha ((m14 _ (c _ b.a)).one d0) ?_
 iterate 2 refine st ?_
 refine me 22 h ?_ ?_
 intro A h
 refine oa rfl rfl (oa rfl rfl (oa rfl rfl (oa rfl rfl (oa rfl rfl ?_))))
 iterate 2 refine st ?_
 refine La (za ?_)
 exact ⟨_,_,rfl,(xb (ye (Na (qb (Zc ta))))),_,true,rfl,h,ga.r,b⟩
 intro A h
 refine Ta rfl (Ta rfl (Ta rfl (mc rfl (Sa d2) (de Uc (aa (Sa d5)) ((m14 _ (c _ b.a)).one d0) (ma (oc ad)) (Ta rfl ?_)))))
 iterate 2 refine st ?_
 refine La (za ?_)
 exact ⟨_,_,rfl,(xb (ye (Na (qb (Zc ta))))),_,(decide ((9:Int)<l.Kind)),rfl,h,ga.r,b⟩
 rintro _ t ge ⟨B,p,rfl,h,d,b⟩
 unfold Rk at h
 refine Vb (Dd (Zg (kc (Wc (Kf pb))))) (ra ?_)
 refine ed h ?_ ?_
 intro C h
 refine ea (st (ja (Ra ?_)))
 refine (fun h=>Ab (Fa h)) ?_
 obtain rfl:=Ea h
 refine Ob rfl d6 ?_
 exact ⟨_,rfl,(c.t d),b⟩
 intro C h
 refine db ?_
 refine Ub (rg 30 27) (by decide +kernel) (fun m w=>∃ g q,m=(qc (mi (.i (.bool q)::(Uf 30 (Nj 50 [])))))∧tk fu self l p_3 o q=some r∧ga B g∧ka g J w (.ba U 90 [.int .i64 o.2]::O)) (by rintro _ _ ⟨_,_,rfl,_⟩; rfl) ?_ ?_
 refine eb ?_
 iterate 3 refine st ?_
 refine Ha ((m14 _ ((c.t d) _ b.a)).one d0) ?_
 iterate 2 refine st ?_
 refine me 35 h ?_ ?_
 intro D h
 refine oa rfl rfl (oa rfl rfl (oa rfl rfl (oa rfl rfl (oa rfl rfl ?_))))
 iterate 2 refine st ?_
 refine oa rfl rfl (oa rfl rfl (oa rfl rfl (oa rfl rfl (oa rfl rfl ?_))))
 iterate 2 refine st ?_
 refine Ta rfl (Ta rfl (Ta rfl (mc rfl (Bb d9) (de Hb (aa (sb d2)) ((m14 _ ((c.t d) _ b.a)).one d1) (ma (ee ec)) ?_))))
 obtain ⟨E,F,h⟩:=ha h
 refine mc rfl (Bb d9) (td iq nd (sa (aa (sb d3)) hb) (qn (k.t (c.t d)) F b) ?_)
 rintro _ he ⟨le,rfl,G,b⟩
 refine fa (Ta rfl ?_)
 iterate 2 refine st ?_
 refine La (za ?_)
 exact ⟨_,_,rfl,(Xa (yf (Na (zc (Cg ta))))),_,(!E),rfl,h,G,b⟩
 intro D h
 refine Ta rfl (Ta rfl (Ta rfl (mc rfl (ib d5) (de Uc (aa (ib d8)) ((m14 _ ((c.t d) _ b.a)).one d0) (ma (qd Ed)) (Ta rfl ?_)))))
 iterate 2 refine st ?_
 refine me 42 h ?_ ?_
 intro H h
 refine oa rfl rfl (oa rfl rfl (oa rfl rfl (oa rfl rfl (oa rfl rfl ?_))))
 iterate 2 refine st ?_
 refine Ta rfl (Ta rfl (Ta rfl (mc rfl (Bb d9) (de Hb (aa (sb d2)) ((m14 _ ((c.t d) _ b.a)).one d1) (ma (ee ec)) ?_))))
 obtain ⟨K,L,h⟩:=ha h
 refine mc rfl (Bb d9) (td iq nd (sa (aa (sb d3)) hb) (qn (k.t (c.t d)) L b) ?_)
 rintro _ ne ⟨Ne,rfl,M,b⟩
 refine fa (Ta rfl ?_)
 iterate 2 refine st ?_
 refine La (za ?_)
 exact ⟨_,_,rfl,(Xa (yf (Na (zc (Cg ta))))),_,(!K),rfl,h,M,b⟩
 intro H h
 refine Ta rfl (Ta rfl (Ta rfl (mc rfl (Bb d2) (de Uc (aa (Bb d5)) ((m14 _ ((c.t d) _ b.a)).one d0) (ma (Xd ad)) (Ta rfl ?_)))))
 iterate 2 refine st ?_
 refine me 49 h ?_ ?_
 intro N h
 refine Ta rfl (Ta rfl (Ta rfl (mc rfl (Bb d9) (de Hb (aa (sb d2)) ((m14 _ ((c.t d) _ b.a)).one d1) (ma (ee ec)) ?_))))
 obtain ⟨P,Q,h⟩:=ha h
 refine mc rfl (Bb d9) (td iq nd (sa (aa (sb d3)) hb) (qn (k.t (c.t d)) Q b) ?_)
 rintro _ of ⟨wf,rfl,R,b⟩
 refine fa (Ta rfl ?_)
 iterate 2 refine st ?_
 refine La (za ?_)
 exact ⟨_,_,rfl,(Xa (yf (Na (zc (Cg ta))))),_,(!P),rfl,h,R,b⟩
 intro N h
 refine oa rfl rfl (oa rfl rfl (oa rfl rfl (oa rfl rfl (oa rfl rfl (oa rfl rfl ?_)))))
 iterate 2 refine st ?_
 refine La (za ?_)
 exact ⟨_,_,rfl,(Xa (yf (Na (zc (Cg ta))))),_,false,rfl,h,ga.r,b⟩
 rintro _ t If ⟨dg,q,rfl,h,e,b⟩
 unfold tk at h
 refine Vb (vc (Qi (kc (fg (Ik pb))))) (ra ?_)
 refine ed h ?_ ?_
 intro S h
 refine ea (st (ja (Ra ?_)))
 refine (fun h=>Ab (Fa h)) ?_
 obtain rfl:=Ea h
 refine Ob rfl d6 ?_
 exact ⟨_,rfl,(c.t (d.t e)),b⟩
 intro S h
 refine ea ?_
 iterate 3 refine st ?_
 refine Ha ((m14 _ ((c.t (d.t e)) _ b.a)).one d0) ?_
 iterate 2 refine st ?_
 refine ja ?_
 refine Za h ?_ ?_
 intro T h
 refine ea (st (ja (Ra ?_)))
 refine (fun h=>Ab (Fa h)) ?_
 obtain rfl:=Ea h
 refine Ob rfl d6 ?_
 exact ⟨_,rfl,(c.t (d.t e)),b⟩
 intro T h
 refine Va ?_
 refine (fun h=>Pb (ra h)) ?_
 refine db (ea ?_)
 iterate 5 refine st ?_
 obtain ⟨i39,V,h⟩:=ha h
 refine wl (Ja (Gd (aa (Gc d7)) Ba V) (ma (zg Yd)) ?_)
 obtain ⟨s,W,h⟩:=ha h
 refine Aa ((Ty fu).Vg (k.t (c.t (d.t e))) (m7.up (c.t (d.t e))) ((m14.up (c.t (d.t e))).eg 2 4) W b) ?_
 rintro _ bi ⟨X,rfl,f,b⟩
 refine fa (st (rb ?_))
 iterate 2 refine st ?_
 refine ja ?_
 refine Za h ?_ ?_
 intro Y h
 refine ea ?_
 iterate 2 refine st ?_
 refine ja (Ra (Fa ?_))
 obtain rfl:=Ea h
 refine Ob rfl d6 ?_
 exact ⟨_,rfl,(c.t (d.t (e.t f))),b⟩
 intro Y h
 refine Va (ra (db (db ?_)))
 refine Ub (rg 73 11) (by decide) (fun m w=>∃ g u,m=(Sd (qc (kg (Rc 73 (Sc 83 (.i (.bool u)::[]))))))∧dm self l p_3 s u=some r∧ga X g∧ka g J w (.ba U 90 [.int .i64 s.2]::O)) (by rintro _ _ ⟨_,_,rfl,_⟩; rfl) ?_ ?_
 refine eb ?_
 iterate 3 refine st ?_
 refine Ha ((m14 _ ((c.t (d.t (e.t f))) _ b.a)).one d0) ?_
 iterate 2 refine st ?_
 refine me 78 h ?_ ?_
 intro Z h
 refine oa rfl rfl (oa rfl rfl (oa rfl rfl (oa rfl rfl (oa rfl rfl (st (La (za ?_)))))))
 exact ⟨_,_,rfl,(Yb (Xa (Md (qb (lb (Na ta)))))),_,true,rfl,h,ga.r,b⟩
 intro Z h
 refine Ta rfl (Ta rfl (Ta rfl (mc rfl (Oc d8) (de Uc (aa (Nc d1)) ((m14 _ ((c.t (d.t (e.t f))) _ b.a)).one d0) (ma (qg Ib)) (Ta rfl (st (La (za ?_))))))))
 exact ⟨_,_,rfl,(Yb (Xa (Md (qb (lb (Na ta)))))),_,(decide (l.Kind=4)),rfl,h,ga.r,b⟩
 rintro _ t Mf ⟨gc,u,rfl,h,j,b⟩
 unfold dm at h
 refine Vb (Ud (vc (sg (Wc (Xc (kc pb)))))) (ra ?_)
 refine Ub ([6]++[9]++rg 85 11) (by decide) (fun m w=>∃ g i48,m=(Og (Sc 6 (vf (Sc 9 (Sd (qc (ng (Rc 85 (Sc 95 [])))))))))∧cm self l p_3 i48=some r∧ga gc g∧ka g J w (.ba U 90 [.int .i64 i48]::O)) (by rintro _ _ ⟨_,_,rfl,_⟩; rfl) ?_ ?_
 refine ed h ?_ ?_
 intro lc h
 refine ea ?_
 iterate 4 refine st ?_
 refine Ha ((m14 _ ((c.t (d.t (e.t (f.t j)))) _ b.a)).one d6) (st ?_)
 obtain ⟨i50,rc,h⟩:=ha h
 refine wl (Ja (Gd (aa (fe d0)) Ba rc) (ma (Zh kb)) ?_)
 obtain ⟨fd,id,h⟩:=ha h
 refine Aa (v.Xf (k.t (c.t (d.t (e.t (f.t j))))) (m10.up (c.t (d.t (e.t (f.t j))))) id b) ?_
 rintro _ ci ⟨ii,rfl,x,b⟩
 refine fa (st (rb ?_))
 iterate 2 refine st ?_
 refine ja ?_
 refine Za h ?_ ?_
 intro md h
 refine ea ?_
 iterate 2 refine st ?_
 refine ja (Ra ?_)
 refine (fun h=>Fa (Fa h)) ?_
 obtain rfl:=Ea h
 refine Ob rfl d6 ?_
 exact ⟨_,rfl,(c.t (d.t (e.t (f.t (j.t x))))),b⟩
 intro md h
 refine Va (za ?_)
 exact ⟨_,_,rfl,(ye (lb (Yc (lb (Yb (Xa (ie (qb (lb ta))))))))),_,fd.2,rfl,h,x,b⟩
 intro lc h
 refine Va (za ?_)
 exact ⟨_,_,rfl,(ye (lb (Yc (lb (Yb (Xa (ie (qb (lb ta))))))))),_,s.2,rfl,h,ga.r,b⟩
 rintro _ t li ⟨pi,i48,rfl,h,n,b⟩
 unfold cm at h
 refine Vb (Zg (Xc (Jf (Xc (Ud (vc (Ag (Wc (Xc pb))))))))) (ra (db (ea ?_)))
 iterate 3 refine st ?_
 refine Ha ((m14 _ ((c.t (d.t (e.t (f.t (j.t n))))) _ b.a)).one d0) (st (ja ?_))
 refine Za h ?_ ?_
 intro rd h
 refine ea ?_
 iterate 4 refine st ?_
 refine Ha ((m14 _ ((c.t (d.t (e.t (f.t (j.t n))))) _ b.a)).one d7) (st ?_)
 obtain ⟨i58,wd,h⟩:=ha h
 refine wl (Ja (Gd (aa (Pa d6)) Ba wd) (ma (dc sd)) ?_)
 obtain ⟨Pi,Fd,h⟩:=ha h
 refine Aa (v.Xf (k.t (c.t (d.t (e.t (f.t (j.t n)))))) (m13.up (c.t (d.t (e.t (f.t (j.t n)))))) Fd b) ?_
 rintro _ kk ⟨mk,rfl,Id,b⟩
 refine fa (st (ja (Ra (Fa ?_))))
 obtain rfl:=Ea h
 refine Ob rfl d6 ?_
 exact ⟨_,rfl,(c.t (d.t (e.t (f.t (j.t (n.t Id)))))),b⟩
 intro rd h
 refine Va (ra (ea (st (ja (Ra ?_)))))
 obtain rfl:=Ea h
 refine Ob rfl d6 ?_
 exact ⟨_,rfl,(c.t (d.t (e.t (f.t (j.t n))))),b⟩
theorem Mw:∀ n,Uw (Of n)
  | 0=>⟨(by intro; intros; rename_i h _; cases h),(by intro; intros; rename_i h _; cases h)⟩
  | n+1=>⟨kD (Mw n),ND (Mw n)⟩
theorem CE (p:ga Fc I) {C:Int} {g:va} {r:Int×Int} (m7:Ka I a5 Tc g.Params) (m10:Ka I Db c9 g.Body) (m11:dd I nb Lb [.int .i64 g.Kind,S g.Name,.int .i64 g.zb.Kind,S g.zb.Nb,.int .i64 g.Hc.Kind,S g.Hc.Nb,.int .i64 g.oe,.slice a5 g.Params.length Tc,.slice Db g.Body.length c9]) (h:xm fu C g=some r) (b:ka I J w (.ba U 90 [.int .i64 C]::O)):Sb prog 25 [.pointer (some ⟨U,0,none⟩),.pointer (some ⟨nb,Lb,none⟩)] w (fun v w'=>∃ (na:M) ,v=.int .i64 r.1∧ga I na∧ka na J w' (.ba U 90 [.int .i64 r.2]::O)):=by
 unfold xm at h
 refine enter func25 rfl (frm:=_::_::zd (zd (Ge (Wf (Ze (Ze [])))))) rfl (ea (st (ob (ea (st ?_)))))
 obtain ⟨Ke,g13,h⟩:=ha h
 refine Aa (gx p g13 b) ?_
 rintro _ dg ⟨K,rfl,c,b⟩
 refine fa (st (rb ?_))
 iterate 2 refine st ?_
 refine ja ?_
 refine Za h ?_ ?_
 intro L h
 refine ea ?_
 iterate 2 refine st ?_
 refine ja (Ra (Fa ?_))
 obtain rfl:=Ea h
 refine Ob rfl d4 ?_
 exact ⟨_,rfl,c,b⟩
 intro L h
 refine Va (ra (db (db ?_)))
 refine Ub (rg 16 11) (by decide) (fun m w=>∃ j x,m=(yd (Og (Rc 16 (Sc 26 (.i (.bool x)::[])))))∧Tk fu g Ke x=some r∧ga K j∧ka j J w (.ba U 90 [.int .i64 Ke.2]::O)) (by rintro _ _ ⟨_,_,rfl,_⟩; rfl) ?_ ?_
 refine eb ?_
 iterate 3 refine st ?_
 refine Ha ((m11 _ (c _ b.a)).one d0) ?_
 iterate 2 refine st ?_
 refine me 21 h ?_ ?_
 intro N h
 refine oa rfl rfl (oa rfl rfl (oa rfl rfl (oa rfl rfl (oa rfl rfl (st (La (za ?_)))))))
 exact ⟨_,_,rfl,(xb (ye (qb (lb (Na ta))))),_,true,rfl,h,ga.r,b⟩
 intro N h
 refine Ta rfl (Ta rfl (Ta rfl (mc rfl (Sa d1) (de Uc (aa (Sa d4)) ((m11 _ (c _ b.a)).one d0) (ma (oc cd)) (Ta rfl (st (La (za ?_))))))))
 exact ⟨_,_,rfl,(xb (ye (qb (lb (Na ta))))),_,(decide ((4:Int)<g.Kind)),rfl,h,ga.r,b⟩
 rintro _ t bi ⟨ci,x,rfl,h,d,b⟩
 unfold Tk at h
 refine Vb (Dd (Zg (Wc (Xc (kc pb))))) (ra ?_)
 refine ed h ?_ ?_
 intro P h
 refine ea (st (ja (Ra (Fa ?_))))
 obtain rfl:=Ea h
 refine Ob rfl d4 ?_
 exact ⟨_,rfl,(c.t d),b⟩
 intro P h
 refine Va (ra (db (ea ?_)))
 iterate 3 refine st ?_
 refine Ha ((m11 _ ((c.t d) _ b.a)).one d1) ?_
 obtain ⟨ii,g21,h⟩:=ha h
 refine Aa (qn (p.t (c.t d)) g21 b) ?_
 rintro _ li ⟨Q,rfl,e,b⟩
 refine fa (st (ja ?_))
 refine pj h ?_ ?_
 intro R h
 refine ea (st (ja (Ra (Fa ?_))))
 obtain rfl:=Ea h
 refine Ob rfl d4 ?_
 exact ⟨_,rfl,(c.t (d.t e)),b⟩
 intro R h
 refine Va (ra (db (db ?_)))
 refine Ub (rg 34 11) (by decide) (fun m w=>∃ j y,m=(qc (yd (tf (Rc 34 (Sc 44 (.i (.bool y)::[]))))))∧mm fu g Ke y=some r∧ga Q j∧ka j J w (.ba U 90 [.int .i64 Ke.2]::O)) (by rintro _ _ ⟨_,_,rfl,_⟩; rfl) ?_ ?_
 refine eb ?_
 iterate 3 refine st ?_
 refine Ha ((m11 _ ((c.t (d.t e)) _ b.a)).one d0) ?_
 iterate 2 refine st ?_
 refine me 39 h ?_ ?_
 intro T h
 refine oa rfl rfl (oa rfl rfl (oa rfl rfl (oa rfl rfl (oa rfl rfl (st (La (za ?_)))))))
 exact ⟨_,_,rfl,(Xa (xb (gd (qb (lb (Na ta)))))),_,true,rfl,h,ga.r,b⟩
 intro T h
 refine Ta rfl (Ta rfl (Ta rfl (mc rfl (ib d9) (de Uc (aa (Bb d2)) ((m11 _ ((c.t (d.t e)) _ b.a)).one d0) (ma (Xd ec)) (Ta rfl (st (La (za ?_))))))))
 exact ⟨_,_,rfl,(Xa (xb (gd (qb (lb (Na ta)))))),_,(decide (g.Kind=3)),rfl,h,ga.r,b⟩
 rintro _ t pi ⟨D,y,rfl,h,f,b⟩
 unfold mm at h
 refine Vb (vc (Dd (Ff (Wc (Xc (kc pb)))))) (ra ?_)
 refine Ub ([4]++rg 7 2++rg 46 26) (by decide +kernel) (fun m w=>∃ (j:M) ,m=(tf (Sc 4 (vf (xf 7 (qc (yd (rh (Uf 46 (ml 66 [])))))))))∧Sk fu g Ke =some r∧ga D j∧ka j J w (.ba U 90 [.int .i64 Ke.2]::O)) (by rintro _ _ ⟨_,rfl,_⟩; rfl) ?_ ?_
 refine ed h ?_ ?_
 intro V h
 refine db (ea ?_)
 iterate 3 refine st ?_
 refine Ha ((m11 _ ((c.t (d.t (e.t f))) _ b.a)).one d7) (wl (Ja (Qd underlying58 (aa (Bb d9))) (ma (ee Ga)) (st (ja ?_))))
 refine Za h ?_ ?_
 intro W h
 refine ea (st (ja (Ra ?_)))
 refine (fun h=>Fa (Fa (Fa h))) ?_
 obtain rfl:=Ea h
 refine Ob rfl d4 ?_
 exact ⟨_,rfl,(c.t (d.t (e.t f))),b⟩
 intro W h
 refine Va (ra (ea ?_))
 iterate 3 refine st ?_
 refine Ha ((m11 _ ((c.t (d.t (e.t f))) _ b.a)).one d7) (wl (Ja (Qd underlying58 (aa (sb d5))) (ma (ee ad)) (st (ja (Qb ?_)))))
 refine Se ([4]++rg 7 2++rg 58 14) (by decide) (fun n m w=>∃ j i47,m=(tf (Sc 4 (vf (xf 7 (qc (qc (Kh (.i (.int .i64 i47)::(Rc 58 (Ih 68 []))))))))))∧km fu g Ke n i47=some r∧ga D j∧ka j J w (.ba U 90 [.int .i64 Ke.2]::O)) (by rintro _ _ _ ⟨_,_,rfl,_⟩; rfl) _ _ (gd (lb (Yc (Zc (Xa (Xa (lf (Na (qb (pf ta)))))))))) ⟨_,0,rfl,h,ga.r,b⟩ ?_
 rintro A _ t Pi ⟨kk,i47,rfl,h,q,b⟩
 rcases A with _|A
 cases h
 unfold km at h
 refine Te (Ff (Xc (Jf (Kf (vc (vc (fi (kc (Wc (ai pb)))))))))) (ea (st (ob ?_)))
 refine Za h ?_ ?_
 intro X h
 refine Va (ra (db (Qb (ea ?_))))
 obtain ⟨mk,Y,h⟩:=ha h
 obtain ⟨ok,dl,el,Z,f75,gc⟩:=Pc.elem (m7.up (c.t (d.t (e.t (f.t q))))) Y
 obtain rfl:=gc
 refine wl (Ja (Mc underlying58 yh (aa (sb d5)) (aa (sb d7)) Z) (ma (ee Ed)) (Ae (f75 _ b.a) rfl ?_))
 refine wl (bd yh b ?_); clear b; intro nl ol pl b; refine fa ?_
 refine wl (yb yh (aa d7) (aa (Gc d0)) rfl rfl b d0 rfl Ga Ma ?_)
 clear b; intro ul b
 refine ob (ea (st (Ha ((b.ba d0).cell d0) ?_)))
 obtain ⟨am,lc,h⟩:=ha h
 refine Aa (qn (p.t (c.t (d.t (e.t (f.t q))))) lc b) ?_
 rintro _ Mf ⟨em,rfl,u,b⟩
 refine fa (st (ja ?_))
 refine pj h ?_ ?_
 intro rc h
 refine ea (st (ja (Ra ((fun h=>Fa (Ab (Fa (Fa (Ab (Fa (Fa h))))))) ?_))))
 obtain rfl:=Ea h
 refine Ob rfl d4 ?_
 replace b:=b.drop ia.z
 exact ⟨_,rfl,(c.t (d.t (e.t (f.t (q.t u))))),b⟩
 intro rc h
 refine Va (ra (ea (st (Ae ((b.ba d0).Xk (ve.s d1 (ve.s d2 ve.z))) rfl ?_))))
 obtain ⟨hm,fd,h⟩:=ha h
 refine Aa (px (p.t (c.t (d.t (e.t (f.t (q.t u)))))) fd b) ?_
 rintro _ lm ⟨pm,rfl,E,b⟩
 refine fa (st (rb ?_))
 iterate 2 refine st ?_
 refine ja ?_
 refine Za h ?_ ?_
 intro id h
 refine ea ?_
 iterate 2 refine st ?_
 refine ja (Ra ?_)
 refine (fun h=>Ab (Fa (Fa (Ab (Fa (Fa h)))))) ?_
 obtain rfl:=Ea h
 refine Ob rfl d4 ?_
 replace b:=b.drop ia.z
 exact ⟨_,rfl,(c.t (d.t (e.t (f.t (q.t (u.t E)))))),b⟩
 intro id h
 refine Va ?_
 refine (fun h=>Pb (ra h)) ?_
 refine eb ?_
 obtain ⟨i87,md,h⟩:=ha h
 refine wl (Ja (Gd (aa (sb d7)) Ba md) (ma (Zf kb)) (st (La (za ?_))))
 replace b:=b.drop ia.z
 exact ⟨A,_,_,rfl,(gd (lb (Yc (Zc (Xa (Xa (lf (Na (qb (pf ta)))))))))),⟨_,i87,rfl,h,(q.t (u.t E)),b⟩,Nat.lt_succ_self _⟩
 intro X h
 refine ke ?_
 refine (fun h=>jc (jc (pe h))) ?_
 refine za ?_
 exact ⟨_,_,rfl,(gd (lb (Yc (Zc (Xa (xb (cf (zc (di ta))))))))),_,rfl,h,q,b⟩
 intro V h
 refine Va (za ?_)
 exact ⟨_,_,rfl,(gd (lb (Yc (Zc (Xa (xb (cf (zc (di ta))))))))),_,rfl,h,ga.r,b⟩
 rintro _ t sm ⟨rd,rfl,h,k,b⟩
 unfold Sk at h
 refine Vb (Ff (Xc (Jf (Kf (vc (Dd (Jh (fg (Em pb))))))))) (ra (db (ea ?_)))
 iterate 3 refine st ?_
 refine Ha ((m11 _ ((c.t (d.t (e.t (f.t k)))) _ b.a)).one d0) (st (ja ?_))
 refine Ub ([4]++[9]++rg 77 8) (by decide) (fun m w=>∃ (j:M) ,m=(tf (Sc 4 (tf (Sc 9 (Sd (yd (rh (ei 77 []))))))))∧jm fu g Ke =some r∧ga rd j∧ka j J w (.ba U 90 [.int .i64 Ke.2]::O)) (by rintro _ _ ⟨_,rfl,_⟩; rfl) ?_ ?_
 refine Za h ?_ ?_
 intro wd h
 refine ea ?_
 iterate 3 refine st ?_
 refine Ae ((m11 _ ((c.t (d.t (e.t (f.t k)))) _ b.a)).eg 4 2) rfl ?_
 obtain ⟨Nm,Fd,h⟩:=ha h
 refine Aa (px (p.t (c.t (d.t (e.t (f.t k))))) Fd b) ?_
 rintro _ fn ⟨on,rfl,F,b⟩
 refine fa (st (rb ?_))
 iterate 2 refine st ?_
 refine ja ?_
 refine Za h ?_ ?_
 intro Id h
 refine ea ?_
 iterate 2 refine st ?_
 refine ja (Ra ?_)
 refine (fun h=>Fa (Fa h)) ?_
 obtain rfl:=Ea h
 refine Ob rfl d4 ?_
 exact ⟨_,rfl,(c.t (d.t (e.t (f.t (k.t F))))),b⟩
 intro Id h
 refine Va (za ?_)
 exact ⟨_,_,rfl,(gd (lb (gd (lb (Yb (xb (cf (ag ta)))))))),_,rfl,h,F,b⟩
 intro wd h
 refine Va (za ?_)
 exact ⟨_,_,rfl,(gd (lb (gd (lb (Yb (xb (cf (ag ta)))))))),_,rfl,h,ga.r,b⟩
 rintro _ t un ⟨be,rfl,h,l,b⟩
 unfold jm at h
 refine Vb (Ff (Xc (Ff (Xc (Ud (Dd (Jh (xi pb)))))))) (ra (db (ea ?_)))
 iterate 3 refine st ?_
 refine Ha ((m11 _ ((c.t (d.t (e.t (f.t (k.t l))))) _ b.a)).one d0) (st (ja ?_))
 refine Ub ([4]++[10]++rg 90 8) (by decide) (fun m w=>∃ (j:M) ,m=(tf (Sc 4 (ng (Sc 10 (Sd (qc (mi (ei 90 []))))))))∧im fu g Ke =some r∧ga be j∧ka j J w (.ba U 90 [.int .i64 Ke.2]::O)) (by rintro _ _ ⟨_,rfl,_⟩; rfl) ?_ ?_
 refine Za h ?_ ?_
 intro ce h
 refine ea ?_
 iterate 3 refine st ?_
 refine Ae ((m11 _ ((c.t (d.t (e.t (f.t (k.t l))))) _ b.a)).eg 2 2) rfl ?_
 obtain ⟨wn,ge,h⟩:=ha h
 refine Aa (px (p.t (c.t (d.t (e.t (f.t (k.t l)))))) ge b) ?_
 rintro _ Fn ⟨In,rfl,G,b⟩
 refine fa (st (rb ?_))
 iterate 2 refine st ?_
 refine ja ?_
 refine Za h ?_ ?_
 intro he h
 refine ea ?_
 iterate 2 refine st ?_
 refine ja (Ra ?_)
 refine (fun h=>Fa (Fa h)) ?_
 obtain rfl:=Ea h
 refine Ob rfl d4 ?_
 exact ⟨_,rfl,(c.t (d.t (e.t (f.t (k.t (l.t G)))))),b⟩
 intro he h
 refine Va (za ?_)
 exact ⟨_,_,rfl,(gd (lb (ie (lb (Yb (Xa (yf (ag ta)))))))),_,rfl,h,G,b⟩
 intro ce h
 refine Va (za ?_)
 exact ⟨_,_,rfl,(gd (lb (ie (lb (Yb (Xa (yf (ag ta)))))))),_,rfl,h,ga.r,b⟩
 rintro _ t co ⟨le,rfl,h,o,b⟩
 unfold im at h
 refine Vb (Ff (Xc (Ag (Xc (Ud (vc (Qi (xi pb)))))))) (ra (db (ea ?_)))
 iterate 3 refine st ?_
 refine Ha ((m11 _ ((c.t (d.t (e.t (f.t (k.t (l.t o)))))) _ b.a)).one d0) (st (ja ?_))
 refine Za h ?_ ?_
 intro ne h
 refine ea ?_
 iterate 4 refine st ?_
 refine Ha ((m11 _ ((c.t (d.t (e.t (f.t (k.t (l.t o)))))) _ b.a)).one d8) ?_
 obtain ⟨go,Ne,h⟩:=ha h
 refine Aa ((Mw fu).Xf (p.t (c.t (d.t (e.t (f.t (k.t (l.t o))))))) (m10.up (c.t (d.t (e.t (f.t (k.t (l.t o))))))) Ne b) ?_
 rintro _ io ⟨no,rfl,of,b⟩
 refine fa (st (ja (Ra (Fa ?_))))
 obtain rfl:=Ea h
 refine Ob rfl d4 ?_
 exact ⟨_,rfl,(c.t (d.t (e.t (f.t (k.t (l.t (o.t of))))))),b⟩
 intro ne h
 refine Va (ra (db (db ?_)))
 refine Ub (rg 109 11) (by decide) (fun m w=>∃ j B,m=(Sd (Sd (mi (Rc 109 (Sc 119 (.i (.bool B)::[]))))))∧tr Ke B=some r∧ga le j∧ka j J w (.ba U 90 [.int .i64 Ke.2]::O)) (by rintro _ _ ⟨_,_,rfl,_⟩; rfl) ?_ ?_
 refine eb ?_
 iterate 3 refine st ?_
 refine Ha ((m11 _ ((c.t (d.t (e.t (f.t (k.t (l.t o)))))) _ b.a)).one d6) ?_
 iterate 2 refine st ?_
 refine me 114 h ?_ ?_
 intro wf h
 refine oa rfl rfl (oa rfl rfl (oa rfl rfl (oa rfl rfl (oa rfl rfl (st (La (za ?_)))))))
 exact ⟨_,_,rfl,(Yb (Yb (yf (qb (lb (Na ta)))))),_,true,rfl,h,ga.r,b⟩
 intro wf h
 refine Ta rfl (Ta rfl (Ta rfl (mc rfl (Pa (wa d4)) (de Uc (aa (Pa (wa d7))) ((m11 _ ((c.t (d.t (e.t (f.t (k.t (l.t o)))))) _ b.a)).one d6) (ma (dc (Jb Yd))) (Ta rfl (st (La (za ?_))))))))
 exact ⟨_,_,rfl,(Yb (Yb (yf (qb (lb (Na ta)))))),_,(decide ((20:Int)<g.oe)),rfl,h,ga.r,b⟩
 rintro _ t ro ⟨to,B,rfl,h,H,b⟩
 unfold tr at h
 refine Vb (Ud (Ud (Qi (Wc (Xc (kc pb)))))) (ra ?_)
 refine ed h ?_ ?_
 intro If h
 refine ea (st (ja (Ra (Fa ?_))))
 obtain rfl:=Ea h
 refine Ob rfl d4 ?_
 exact ⟨_,rfl,(c.t (d.t (e.t (f.t (k.t (l.t (o.t H))))))),b⟩
 intro If h
 refine Va (ra (ea (st (ja (Ra ?_)))))
 obtain rfl:=Ea h
 refine Ob rfl d4 ?_
 exact ⟨_,rfl,(c.t (d.t (e.t (f.t (k.t (l.t (o.t H))))))),b⟩
theorem Xw (g:ga Fc I) {p_1:List va} {r:Vc} (m3:Ka I xa c2 p_1) (h:Fj fu p_1=some r) (b:ka I J w (O)):Sb prog 10 [.slice xa p_1.length c2] w (fun v w'=>∃ (na:M) ,v=.agg ⟨[.int .i64 r.Ue,.int .i64 r.dd]⟩∧ga I na∧ka na J w' (O)):=by
 unfold Fj at h
 refine enter func10 rfl (frm:=_::Cf (zd (Ge (Xe [])))) rfl (ea ?_)
 refine wl (bd wc b ?_); clear b; intro j D E b; refine fa ?_
 refine ob (ea (st (wl (Ja (Qd underlying22 (aa d6)) (ma sd) (st (ja ?_))))))
 refine Za h ?_ ?_
 intro k h
 refine ea (wl (Nd wc Zi (ab.o rfl Ba rfl rfl Ga ab.z) (ma Ed) (wl (yb wc (aa d2) (aa d9) rfl rfl b d0 rfl Ga Ma ?_))))
 clear b; intro F b
 refine ja (Ra (Fa ?_))
 obtain rfl:=Ea h
 refine Ad rfl (Qa.s (.a d2 wc (b.ba d0).cells rfl) Qa.z) ?_
 replace b:=b.drop ia.z
 exact ⟨_,rfl,ga.r,b⟩
 intro k h
 refine Va (ra (ea (wl (Nd CI PI ab.z (ma (Jb Ga)) ?_))))
 refine wl (Ji (aa (wa d0)) rfl b ?_); clear b; intro Le G H b; refine fa ?_
 refine st (ob (ea (st (wl (Ja (Qd underlying22 (aa (wa d2))) (ma (Jb ec)) (st (ja (Qb ?_))))))))
 replace b:=b.da Da
 refine Se (rg 4 2++rg 15 13) (by decide) (fun n m w=>∃ e i28 i29,m=(tf (xf 4 (Kh (.i (.int .i64 i28)::(Rc 15 (Yg 25 []))))))∧Yl fu p_1 n i28 i29=some r∧ga I e∧ka e J w (.ba j 26 [.int .i64 0,.int .i64 0]::.ba Le 90 [.int .i64 i29]::O)) (by rintro _ _ _ ⟨_,_,_,rfl,_⟩; rfl) _ _ (gd (Zc (lf (Na (qb (ue ta)))))) ⟨_,0,0,rfl,h,ga.r,b⟩ ?_
 rintro d _ t K ⟨L,i28,i29,rfl,h,c,b⟩
 rcases d with _|d
 cases h
 unfold Yl at h
 refine Te (Ff (Kf (fi (kc (Wc (qh pb)))))) (ea (st (ob ?_)))
 refine Za h ?_ ?_
 intro l h
 refine Va (ra (db (Qb (ea ?_))))
 iterate 2 refine st ?_
 refine rb ?_
 iterate 3 refine st ?_
 obtain ⟨N,p,h⟩:=ha h
 obtain ⟨P,Q,R,q,f57,u⟩:=Pc.elem (m3.up c) p
 obtain ⟨a59,S,T,V,rfl,x,m64⟩:=u
 refine wl (Ja (Mc underlying22 Oe (aa (wa d8)) (aa (wa d9)) q) (ma (oc Ga)) ?_)
 obtain ⟨y,A,h⟩:=ha h
 replace b:=b.da Da
 refine Aa (CE (g.t c) x m64 f57 A b) ?_
 rintro _ W ⟨X,rfl,f,b⟩
 refine fa (st (rb ?_))
 iterate 2 refine st ?_
 refine ja ?_
 refine Za h ?_ ?_
 intro B h
 refine ea ?_
 iterate 2 refine st ?_
 refine wl (Nd wc Zi (ab.o rfl (aa (Sa d4)) rfl rfl Ga (ab.o rfl (aa (Sa d5)) rfl rfl kb ab.z)) (ma (oc ad)) (wl (yb wc (aa d2) (aa (Sa d6)) rfl rfl b d1 rfl kb Ma ?_)))
 clear b; intro Y b
 refine ja (Ra ?_)
 refine (fun h=>Ab (Fa (Fa (Ab (Fa h))))) ?_
 obtain rfl:=Ea h
 refine Ad rfl (Qa.s (.a d2 wc (b.ba d1).cells rfl) Qa.z) ?_
 replace b:=(b.drop ia.z).drop ia.z
 exact ⟨_,rfl,(c.t f),b⟩
 intro B h
 refine Va ?_
 refine (fun h=>Pb (ra h)) ?_
 refine eb ?_
 obtain ⟨i69,C,h⟩:=ha h
 refine wl (Ja (Gd (aa (wa d4)) Ba C) (ma (oc sd)) (st (La (za ?_))))
 replace b:=b.da Da
 exact ⟨d,_,_,rfl,(gd (Zc (lf (Na (qb (ue ta)))))),⟨_,i69,y.2,rfl,h,(c.t f),b⟩,Nat.lt_succ_self _⟩
 intro l h
 refine ke ?_
 refine (fun h=>jc (jc (pe h))) ?_
 refine ra (ea (wl (Nd wc Zi ab.z (ma (oc Yd)) (wl (yb wc (aa d2) (aa (Sa d8)) rfl rfl b d0 rfl Ga Ma ?_)))))
 clear b; intro Z b
 refine ja (Ra ?_)
 obtain rfl:=Ea h
 refine Ad rfl (Qa.s (.a d2 wc (b.ba d0).cells rfl) Qa.z) ?_
 replace b:=(b.drop ia.z).drop ia.z
 exact ⟨_,rfl,c,b⟩
end Go.Proofs.YthoigniombcphaaGreatDoor
set_option maxRecDepth 100000
set_option maxHeartbeats 20000000
namespace Go.Proofs.YthoigniombcphaaGreatDoor
open Go.bc Go.Dc Go.Y Tryz
variable {U c4 c9 fu:Nat} {a3 Db:Option Addr} {I:M} {J w:World} {O:List Wb}
theorem QB (i:ga Fc I) {c:List Ua} {d e r:Int} (m5:Ka I a3 c4 c) (h:Is c d e=some r) (b:ka I J w (.ba U 71 [.slice a3 c.length c4,.int .i64 d,.int .i64 e]::O)):Sb prog 17 [.pointer (some ⟨U,0,none⟩)] w (fun v w'=>∃ (na:M) ,v=.int .i64 r∧ga I na∧ka na J w' (.ba U 71 [.slice a3 c.length c4,.int .i64 d,.int .i64 e]::O)):=by
 unfold Is at h
 refine enter func17 rfl (frm:=_::zd (zd (Ge (Wf [])))) rfl (ea (st (ob (ea ?_))))
 iterate 3 refine st ?_
 refine Ha ((b.ba d0).cell d0) (wl (Ja (Qd underlying64 (aa d6)) (ma sd) (st (ja ?_))))
 refine Za h ?_ ?_
 intro f h
 refine ea ?_
 iterate 3 refine st ?_
 refine Ha ((b.ba d0).cell d1) (st (ja (Ra (Fa ?_))))
 obtain rfl:=Ea h
 refine Ob rfl d2 ?_
 exact ⟨_,rfl,ga.r,b⟩
 intro f h
 refine Va (ra (ea ?_))
 iterate 3 refine st ?_
 refine Ha ((b.ba d0).cell d0) ?_
 obtain ⟨j,g10,h⟩:=ha h
 obtain ⟨k,l,m,g,f15,m16⟩:=Pc.elem m5 g10
 obtain rfl:=m16
 refine wl (Ja (Mc underlying64 Kj (aa (wa d6)) Ba g) (ma (Jb sd)) (st (Ha ((f15 _ b.a).one d3) (st (ja (Ra ?_))))))
 obtain rfl:=Ea h
 refine Ob rfl d2 ?_
 exact ⟨_,rfl,ga.r,b⟩
theorem IA (j:ga Fc I) {c:List Ua} {d e:Int} {f:List UInt8} {r:Bool} (m5:Ka I a3 c4 c) (h:jj c d e f=some r) (b:ka I J w (.ba U 71 [.slice a3 c.length c4,.int .i64 d,.int .i64 e]::O)):Sb prog 61 [.pointer (some ⟨U,0,none⟩),S f] w (fun v w'=>∃ (na:M) ,v=.bool r∧ga I na∧ka na J w' (.ba U 71 [.slice a3 c.length c4,.int .i64 d,.int .i64 e]::O)):=by
 unfold jj at h
 refine enter func61 rfl (frm:=_::_::Xe []) rfl (ea (st (rb ?_)))
 iterate 3 refine st ?_
 refine Ha ((b.ba d0).cell d0) (wl (Ja (Qd underlying64 (aa d8)) (ma Ed) ?_))
 iterate 2 refine st ?_
 refine me 11 h ?_ ?_
 intro g h
 refine Ta rfl (Ta rfl (Ta rfl (mc rfl (wa d1) (de Un (aa (wa d4)) ((b.ba d0).cell d0) (ma (Jb cd)) ?_))))
 obtain ⟨k,g10,h⟩:=ha h
 obtain ⟨l,m,n,i,f15,m16⟩:=Pc.elem m5 g10
 obtain rfl:=m16
 refine mc rfl (wa d1) (Ja (Mc underlying64 Kj (aa (wa d5)) Ba i) (ma (Jb ad)) (Ta rfl (mc rfl (wa d1) (de Hb (aa (wa d7)) ((f15 _ b.a).one d1) (ma (Jb Yd)) (Ta rfl (mc rfl (wa d1) (Ja (ny (aa (wa d8)) (aa (wa d9))) (ma (oc Ga)) ?_)))))))
 iterate 2 refine st ?_
 refine ja (Ra ?_)
 obtain rfl:=Ea h
 refine Ob rfl d4 ?_
 exact ⟨_,rfl,ga.r,b⟩
 intro g h
 refine oa rfl rfl (oa rfl rfl (oa rfl rfl (oa rfl rfl (oa rfl rfl (oa rfl rfl (oa rfl rfl (oa rfl rfl (oa rfl rfl ?_))))))))
 iterate 2 refine st ?_
 refine ja (Ra ?_)
 obtain rfl:=Ea h
 refine Ob rfl d4 ?_
 exact ⟨_,rfl,ga.r,b⟩
theorem Rg (g:ga Fc I) {c:List Ua} {d e:Int} {f:List UInt8} {r:Bool×List Ua×Int×Int} (m5:Ka I a3 c4 c) (h:kf c d e f=some r) (a:ka I J w (.ba U 71 [.slice a3 c.length c4,.int .i64 d,.int .i64 e]::O)):Sb prog 37 [.pointer (some ⟨U,0,none⟩),S f] w (fun v w'=>∃ (na:M) (Db:Option Addr) (c9:Nat),v=.bool r.1∧ga I na∧ka na J w' (.ba U 71 [.slice Db r.2.1.length c9,.int .i64 r.2.2.1,.int .i64 r.2.2.2]::O)∧Ka na Db c9 r.2.1):=by
 unfold kf at h
 refine enter func37 rfl (frm:=_::_::Ge (Wf [])) rfl (ea (st (ob (ea ?_))))
 iterate 2 refine st ?_
 obtain ⟨m,g12,h⟩:=ha h
 refine Aa (IA g m5 g12 a) ?_
 rintro _ o ⟨p,rfl,b,a⟩
 refine fa (st (ja ?_))
 refine pj h ?_ ?_
 intro k h
 refine ea (st (ja (Ra (Fa ?_))))
 obtain rfl:=Ea h
 refine Ob rfl d4 ?_
 exact ⟨_,_,_,rfl,b,a,(m5.up b)⟩
 intro k h
 refine Va (ra (ea ?_))
 iterate 4 refine st ?_
 refine Ha ((a.ba d0).cell d0) ?_
 obtain ⟨q,g16,h⟩:=ha h
 obtain ⟨Jc,bg,l,m20⟩:=Ka.Fw (i:=some 1) (j:=none) (m5.up b) g16
 refine wl (Ja (lq underlying64 Kj (aa (wa d3)) (.s Ba) .n l) (ma (Jb hd)) ?_)
 iterate 2 refine st ?_
 refine wl (Je Un (aa (wa d6)) (aa (wa d4)) rfl a d0 Ga rfl Ga Ma ?_)
 clear a; intro t a
 refine rb (st (ja (Ra ?_)))
 obtain rfl:=Ea h
 refine Ob rfl d4 ?_
 exact ⟨_,_,_,rfl,b,a,m20⟩
theorem Hj (s:ga Fc I) {c:List Ua} {g j:Int} {d:List (List UInt8)} {r:List Ua×Int×Int} (m5:Ka I a3 c4 c) (m10:Ka I Db c9 d) (h:Hi c g j d=some r) (b:ka I J w (.ba U 71 [.slice a3 c.length c4,.int .i64 g,.int .i64 j]::O)):Sb prog 41 [.pointer (some ⟨U,0,none⟩),.slice Db d.length c9] w (fun v w'=>∃ (na:M) (xc:Option Addr) (c12:Nat),v=.tuple ⟨[]⟩∧ga I na∧ka na J w' (.ba U 71 [.slice xc r.1.length c12,.int .i64 r.2.1,.int .i64 r.2.2]::O)∧Ka na xc c12 r.1):=by
 unfold Hi at h
 refine enter func41 rfl (frm:=_::_::zd (zd (Ge (Wf [])))) rfl (ea (st (wl (Ja (Qd underlying131 (aa d6)) (ma sd) (st (ja (Qb ?_)))))))
 refine Se ([5]++rg 9 12) (by decide) (fun n m w=>∃ k i30 e a31 l i35 i36,m=(ng (Sc 5 (vf (.i (.int .i64 i30)::(Rc 9 (xf 19 []))))))∧Yp d n i30 e i35 i36=some r∧ga I k∧ka k J w (.ba U 71 [.slice a31 e.length l,.int .i64 i35,.int .i64 i36]::O)∧Ka k a31 l e) (by rintro _ _ _ ⟨_,_,_,_,_,_,_,rfl,_⟩; rfl) _ _ (ie (lb (Yc (Na (qb (Zc ta)))))) ⟨_,0,c,a3,c4,g,j,rfl,h,ga.r,b,m5⟩ ?_
 rintro o _ t H ⟨K,i30,e,a31,l,i35,i36,rfl,h,f,b,q⟩
 rcases o with _|o
 cases h
 unfold Yp at h
 refine Te (Ag (Xc (Jf (kc (Wc (Kf pb)))))) (ea (st (ob ?_)))
 refine Za h ?_ ?_
 intro u h
 refine Va (ra (db (Qb (ea ?_))))
 obtain ⟨L,x,h⟩:=ha h
 obtain ⟨N,P,Q,y,f62,z⟩:=Pc.elem (m10.up f) x
 obtain rfl:=z
 refine wl (Ja (Mc underlying131 Hb (aa d6) (aa d8) y) (ma (Jb Ga)) (Ha ((f62 _ b.a).one d0) (st (rb ?_))))
 iterate 2 refine st ?_
 obtain ⟨p,A,h⟩:=ha h
 refine Aa (Rg (s.t f) q A b) ?_
 rintro _ R ⟨S,B,C,rfl,D,b,E⟩
 refine fa (st (ja ?_))
 refine pj h ?_ ?_
 intro F h
 cases h
 intro F h
 refine Va ?_
 refine (fun h=>Pb (ra h)) ?_
 refine eb ?_
 obtain ⟨i71,G,h⟩:=ha h
 refine wl (Ja (Gd (aa d8) Ba G) (ma (oc Ga)) (st (La (za ?_))))
 exact ⟨o,_,_,rfl,(ie (lb (Yc (Na (qb (Zc ta)))))),⟨_,i71,p.2.1,B,C,p.2.2.1,p.2.2.2,rfl,h,(f.t D),b,E⟩,Nat.lt_succ_self _⟩
 intro u h
 refine ke ?_
 refine (fun h=>jc (jc (pe h))) ?_
 obtain rfl:=Ea h
 refine Li rfl ?_
 exact ⟨_,_,_,rfl,f,b,q⟩
theorem um (o:ga Fc I) {c:List Ua} {d e:Int} {r:List UInt8×List Ua×Int×Int} (m5:Ka I a3 c4 c) (h:jk fu c d e=some r) (b:ka I J w (.ba U 71 [.slice a3 c.length c4,.int .i64 d,.int .i64 e]::O)):Sb prog 38 [.pointer (some ⟨U,0,none⟩)] w (fun v w'=>∃ (na:M) (Db:Option Addr) (c9:Nat),v=S r.1∧ga I na∧ka na J w' (.ba U 71 [.slice Db r.2.1.length c9,.int .i64 r.2.2.1,.int .i64 r.2.2.2]::O)∧Ka na Db c9 r.2.1):=by
 unfold jk at h
 refine enter func38 rfl (frm:=_::Cf (Ge (Xe (Xe [])))) rfl (ea (st (ob (db ?_))))
 refine Ub (rg 4 15) (by decide) (fun m w=>∃ k g,m=(tf (Rc 4 (Hk 14 (.i (.bool g)::[]))))∧Lr fu c d e g=some r∧ga I k∧ka k J w (.ba U 71 [.slice a3 c.length c4,.int .i64 d,.int .i64 e]::O)) (by rintro _ _ ⟨_,_,rfl,_⟩; rfl) ?_ ?_
 refine eb ?_
 iterate 3 refine st ?_
 refine Ha ((b.ba d0).cell d0) (wl (Ja (Qd underlying64 (aa d7)) (ma Yd) ?_))
 iterate 2 refine st ?_
 refine me 10 h ?_ ?_
 intro p h
 refine oa rfl rfl (oa rfl rfl (oa rfl rfl (oa rfl rfl (oa rfl rfl (oa rfl rfl (oa rfl rfl (oa rfl rfl (st (La (za ?_))))))))))
 exact ⟨_,_,rfl,(gd (qb (Ah (Na ta)))),_,true,rfl,h,ga.r,b⟩
 intro p h
 refine Ta rfl (Ta rfl (Ta rfl (mc rfl (wa d0) (de Un (aa (wa d3)) ((b.ba d0).cell d0) (ma (Jb hd)) ?_))))
 obtain ⟨q,g14,h⟩:=ha h
 obtain ⟨F,G,H,u,f19,m20⟩:=Pc.elem m5 g14
 obtain rfl:=m20
 refine mc rfl (wa d0) (Ja (Mc underlying64 Kj (aa (wa d4)) Ba u) (ma (Jb cd)) (Ta rfl (mc rfl (wa d0) (de Uc (aa (wa d6)) ((f19 _ b.a).one d0) (ma (Jb sd)) (Ta rfl (st (La (za ?_))))))))
 exact ⟨_,_,rfl,(gd (qb (Ah (Na ta)))),_,(decide (q.Kind≠1)),rfl,h,ga.r,b⟩
 rintro _ t K ⟨L,g,rfl,h,f,b⟩
 unfold Lr at h
 refine Vb (Ff (Wc (Ql (kc pb)))) (ra ?_)
 refine ed h ?_ ?_
 intro x h
 cases h
 intro x h
 refine Va (ra (ea ?_))
 iterate 3 refine st ?_
 refine Ha ((b.ba d0).cell d0) ?_
 obtain ⟨N,g24,h⟩:=ha h
 obtain ⟨P,Q,R,y,f29,z⟩:=Pc.elem (m5.up f) g24
 obtain rfl:=z
 refine wl (Ja (Mc underlying64 Kj (aa (Sa d7)) Ba y) (ma (oc Yd)) (st (Ha ((f29 _ b.a).one d1) (st (ob (ea (st ?_)))))))
 obtain ⟨T,A,h⟩:=ha h
 refine Aa (qn (o.t f) A b) ?_
 rintro _ V ⟨W,rfl,l,b⟩
 refine fa (st (ja ?_))
 refine pj h ?_ ?_
 intro B h
 cases h
 intro B h
 refine Va (ra (ea ?_))
 iterate 4 refine st ?_
 refine Ha ((b.ba d0).cell d0) ?_
 obtain ⟨X,C,h⟩:=ha h
 obtain ⟨a37,Y,D,E⟩:=Ka.Fw (i:=some 1) (j:=none) (m5.up (f.t l)) C
 refine wl (Ja (lq underlying64 Kj (aa (Bb d2)) (.s Ba) .n D) (ma (Xd ec)) ?_)
 iterate 2 refine st ?_
 refine wl (Je Un (aa (Bb d5)) (aa (Bb d3)) rfl b d0 Ga rfl Ga Ma ?_)
 clear b; intro Z b
 refine rb ?_
 iterate 2 refine st ?_
 refine ja (Ra ?_)
 obtain rfl:=Ea h
 refine Ob rfl d2 ?_
 exact ⟨_,_,_,rfl,(f.t l),b,E⟩
theorem Fz (B:ga Fc I) {c:List Ua} {d e:Int} {r:Int×List Ua×Int×Int} (m5:Ka I a3 c4 c) (h:Wr c d e=some r) (b:ka I J w (.ba U 71 [.slice a3 c.length c4,.int .i64 d,.int .i64 e]::O)):Sb prog 40 [.pointer (some ⟨U,0,none⟩)] w (fun v w'=>∃ (na:M) (Db:Option Addr) (c9:Nat),v=.int .i64 r.1∧ga I na∧ka na J w' (.ba U 71 [.slice Db r.2.1.length c9,.int .i64 r.2.2.1,.int .i64 r.2.2.2]::O)∧Ka na Db c9 r.2.1):=by
 unfold Wr at h
 refine enter func40 rfl (frm:=_::zd (zd (Ge (Wf (Xe []))))) rfl (ea (st (ob (db ?_))))
 refine Ub (rg 4 15) (by decide) (fun m w=>∃ k f,m=(tf (Rc 4 (Hk 14 (.i (.bool f)::[]))))∧ar c d e f=some r∧ga I k∧ka k J w (.ba U 71 [.slice a3 c.length c4,.int .i64 d,.int .i64 e]::O)) (by rintro _ _ ⟨_,_,rfl,_⟩; rfl) ?_ ?_
 refine eb ?_
 iterate 3 refine st ?_
 refine Ha ((b.ba d0).cell d0) (wl (Ja (Qd underlying64 (aa d7)) (ma Yd) ?_))
 iterate 2 refine st ?_
 refine me 10 h ?_ ?_
 intro l h
 refine oa rfl rfl (oa rfl rfl (oa rfl rfl (oa rfl rfl (oa rfl rfl (oa rfl rfl (oa rfl rfl (oa rfl rfl (st (La (za ?_))))))))))
 exact ⟨_,_,rfl,(gd (qb (Ah (Na ta)))),_,true,rfl,h,ga.r,b⟩
 intro l h
 refine Ta rfl (Ta rfl (Ta rfl (mc rfl (wa d0) (de Un (aa (wa d3)) ((b.ba d0).cell d0) (ma (Jb hd)) ?_))))
 obtain ⟨o,g14,h⟩:=ha h
 obtain ⟨C,D,E,p,f19,m20⟩:=Pc.elem m5 g14
 obtain rfl:=m20
 refine mc rfl (wa d0) (Ja (Mc underlying64 Kj (aa (wa d4)) Ba p) (ma (Jb cd)) (Ta rfl (mc rfl (wa d0) (de Uc (aa (wa d6)) ((f19 _ b.a).one d0) (ma (Jb sd)) (Ta rfl (st (La (za ?_))))))))
 exact ⟨_,_,rfl,(gd (qb (Ah (Na ta)))),_,(decide (o.Kind≠2)),rfl,h,ga.r,b⟩
 rintro _ t F ⟨G,f,rfl,h,g,b⟩
 unfold ar at h
 refine Vb (Ff (Wc (Ql (kc pb)))) (ra ?_)
 refine ed h ?_ ?_
 intro q h
 cases h
 intro q h
 refine Va (ra (ea ?_))
 iterate 3 refine st ?_
 refine Ha ((b.ba d0).cell d0) ?_
 obtain ⟨H,g24,h⟩:=ha h
 obtain ⟨K,L,N,u,f29,x⟩:=Pc.elem (m5.up g) g24
 obtain rfl:=x
 refine wl (Ja (Mc underlying64 Kj (aa (Sa d7)) Ba u) (ma (oc Yd)) (st (Ha ((f29 _ b.a).one d2) (st (rb ?_)))))
 iterate 4 refine st ?_
 refine Ha ((b.ba d0).cell d0) ?_
 obtain ⟨P,y,h⟩:=ha h
 obtain ⟨Q,R,z,A⟩:=Ka.Fw (i:=some 1) (j:=none) (m5.up g) y
 refine wl (Ja (lq underlying64 Kj (aa (ib d5)) (.s Ba) .n z) (ma (qd ad)) ?_)
 iterate 2 refine st ?_
 refine wl (Je Un (aa (ib d8)) (aa (ib d6)) rfl b d0 Ga rfl Ga Ma ?_)
 clear b; intro S b
 refine rb ?_
 iterate 2 refine st ?_
 refine ja (Ra ?_)
 obtain rfl:=Ea h
 refine Ob rfl d2 ?_
 exact ⟨_,_,_,rfl,g,b,A⟩
theorem Nt (d:ga Fc I) {e:List Ua} {g i:Int} {r:Ya×List Ua×Int×Int} (m5:Ka I a3 c4 e) (h:Io fu e g i=some r) (b:ka I J w (.ba U 71 [.slice a3 e.length c4,.int .i64 g,.int .i64 i]::O)):Sb prog 39 [.pointer (some ⟨U,0,none⟩)] w (fun v w'=>∃ (na:M) (Db:Option Addr) (c9:Nat),v=.agg ⟨[.int .i64 r.1.Kind,S r.1.Nb]⟩∧ga I na∧ka na J w' (.ba U 71 [.slice Db r.2.1.length c9,.int .i64 r.2.2.1,.int .i64 r.2.2.2]::O)∧Ka na Db c9 r.2.1):=by
 unfold Io at h
 refine enter func39 rfl (frm:=_::Cf (zd (Wf []))) rfl (ea ?_)
 refine wl (bd Mb b ?_); clear b; intro p q u b; refine fa ?_
 refine ob (Qb (ea (st ?_)))
 obtain ⟨x,g14,h⟩:=ha h
 replace b:=b.da Da
 refine Aa (Rg d m5 g14 b) ?_
 rintro _ y ⟨A,B,C,rfl,c,b,m18⟩
 refine fa (st (ja ?_))
 refine ed h ?_ ?_
 intro k h
 refine ea (wl (Nd Mb uq (ab.o rfl Ba rfl rfl Ga ab.z) (ma ad) (wl (yb Mb (aa d2) (aa d6) rfl rfl b d1 rfl kb Ma ?_))))
 clear b; intro D b
 refine ja (Ra ?_)
 refine (fun h=>Ab (Fa h)) ?_
 obtain rfl:=Ea h
 refine Ad rfl (Qa.s (.a d2 Mb (b.ba d1).cells rfl) Qa.z) ?_
 replace b:=b.drop (ia.s ia.z)
 exact ⟨_,_,_,rfl,c,b,m18⟩
 intro k h
 refine ea (st ?_)
 obtain ⟨E,g21,h⟩:=ha h
 refine Aa (Rg (d.t c) m18 g21 b) ?_
 rintro _ F ⟨G,H,c24,rfl,f,b,j⟩
 refine fa (st (ja ?_))
 refine ed h ?_ ?_
 intro l h
 refine ea (wl (Nd Mb uq (ab.o rfl Ba rfl rfl Ga ab.z) (ma (Jb Ga)) (wl (yb Mb (aa d2) (aa (wa d0)) rfl rfl b d1 rfl kb Ma ?_))))
 clear b; intro K b
 refine ja (Ra ?_)
 refine (fun h=>Ab (Fa h)) ?_
 obtain rfl:=Ea h
 refine Ad rfl (Qa.s (.a d2 Mb (b.ba d1).cells rfl) Qa.z) ?_
 replace b:=b.drop (ia.s ia.z)
 exact ⟨_,_,_,rfl,(c.t f),b,j⟩
 intro l h
 refine Va ?_
 refine (fun h=>Pb (ra h)) ?_
 refine ea (st ?_)
 obtain ⟨L,m,h⟩:=ha h
 refine Aa (um (d.t (c.t f)) j m b) ?_
 rintro _ N ⟨P,Q,c31,rfl,n,b,m32⟩
 refine fa (wl (Nd Mb uq (ab.o rfl Ba rfl rfl Ga (ab.o rfl (aa (wa d2)) rfl rfl kb ab.z)) (ma (Jb ec)) (wl (yb Mb (aa d2) (aa (wa d3)) rfl rfl b d1 rfl kb Ma ?_))))
 clear b; intro R b
 refine ja (Ra ?_)
 obtain rfl:=Ea h
 refine Ad rfl (Qa.s (.a d2 Mb (b.ba d1).cells rfl) Qa.z) ?_
 replace b:=b.drop (ia.s ia.z)
 exact ⟨_,_,_,rfl,(c.t (f.t n)),b,m32⟩
theorem Gz (j:ga Fc I) {A:List Ua} {P Q:Int} {r:List TParam×List Ua×Int×Int} (m5:Ka I a3 c4 A) (h:Xr fu A P Q=some r) (a:ka I J w (.ba U 71 [.slice a3 A.length c4,.int .i64 P,.int .i64 Q]::O)):Sb prog 42 [.pointer (some ⟨U,0,none⟩)] w (fun v w'=>∃ (na:M) (Db:Option Addr) (c9:Nat) (xc:Option Addr) (c12:Nat),v=.slice Db r.1.length c9∧ga I na∧ka na J w' (.ba U 71 [.slice xc r.2.1.length c12,.int .i64 r.2.2.1,.int .i64 r.2.2.2]::O)∧Ka na Db c9 r.1∧Ka na xc c12 r.2.1):=by
 unfold Xr at h
 refine enter func42 rfl (frm:=_::Cf (Wf (Xe []))) rfl (ea (st (rb (st (ob (ea (st ?_)))))))
 refine wl (xd underlying131 Hb (fb.s Ba rfl fb.z) rfl rfl a ?_); clear a; intro li pi Pi a; refine fa ?_
 obtain ⟨kk,d,m16,a⟩:=Sep.ud (l:=([[40]]:List (List UInt8))) a (pa.one (α:=List UInt8) rfl) (Nat.le_of_ble_eq_true rfl)
 obtain ⟨B,g19,h⟩:=ha h
 refine Aa (Hj (j.t d) (m5.up d) m16 g19 a) ?_
 rintro _ ok ⟨Z,a21,gc,rfl,k,a,m23⟩
 refine fa (ja (Qb ?_))
 replace a:=a.Qh 86 (cb.sz TParam)
 replace a:=a.da Da
 refine Se (rg 7 24) (by decide +kernel) (fun n m w=>∃ c q C D i70 i71 f v72 p,m=(kg (.i (v72)::(kg (Uf 7 (Ih 27 [])))))∧Dl fu n q i70 i71 f=some r∧ga Z c∧ka c J w (.ba U 71 [.slice C q.length D,.int .i64 i70,.int .i64 i71]::.row v72 86 3 f.length p::O)∧Ka c C D q∧pa c p f) (by rintro _ _ _ ⟨_,_,_,_,_,_,_,_,_,rfl,_⟩; rfl) _ _ (Md (Na (Md (zc (pf ta))))) ⟨_,B.1,a21,gc,B.2.1,B.2.2,[],(.slice none 0 0),[],rfl,h,ga.r,a,m23,pa.nil⟩ ?_
 rintro u _ t dl ⟨el,q,C,D,i70,i71,f,v72,p,rfl,h,g,a,lc,R⟩
 rcases u with _|u
 cases h
 unfold Dl at h
 refine Te (sg (kc (sg (fg (ai pb))))) (db (ea (st ?_)))
 obtain ⟨E,rc,h⟩:=ha h
 refine Aa (Rg (j.t (d.t (k.t g))) lc rc a) ?_
 rintro _ nl ⟨fd,ol,c124,rfl,e,a,F⟩
 refine fa (st (ja ?_))
 refine pj h ?_ ?_
 intro id h
 refine Va (ra (Qb (db (ea (st (wl (Ja (wj underlying58 (aa (wa d0)) (a.get d1).yj) (ma (Jb kb)) (st (ja ?_)))))))))
 refine Ub (rg 13 3) (by decide) (fun m w=>∃ c x a127 G i131 i132,m=(yd (kg (Yg 13 [])))∧br fu f (Dl fu u) x i131 i132=some r∧ga fd c∧ka c J w (.ba U 71 [.slice a127 x.length G,.int .i64 i131,.int .i64 i132]::.row v72 86 3 f.length p::O)∧Ka c a127 G x) (by rintro _ _ ⟨_,_,_,_,_,_,rfl,_⟩; rfl) ?_ ?_
 refine Za h ?_ ?_
 intro md h
 refine eb (st ?_)
 refine wl (xd underlying131 Hb (fb.s Ba rfl fb.z) rfl rfl a ?_); clear a; intro pl ul am a; refine fa ?_
 obtain ⟨em,H,rd,a⟩:=Sep.ud (l:=([[44]]:List (List UInt8))) a (pa.one (α:=List UInt8) rfl) (Nat.le_of_ble_eq_true rfl)
 obtain ⟨K,wd,h⟩:=ha h
 refine Aa (Hj (j.t (d.t (k.t (g.t (e.t H))))) (F.up H) rd wd a) ?_
 rintro _ hm ⟨lm,a141,pm,rfl,Fd,a,Id⟩
 refine fa (La (za ?_))
 exact ⟨_,_,rfl,(xb (Md (ue ta))),_,K.1,_,_,K.2.1,K.2.2,rfl,h,(H.t Fd),a,Id⟩
 intro md h
 refine Va (za ?_)
 exact ⟨_,_,rfl,(xb (Md (ue ta))),_,E.2.1,_,_,E.2.2.1,E.2.2.2,rfl,h,ga.r,a,F⟩
 rintro _ t sm ⟨Nm,x,a127,G,i131,i132,rfl,h,y,a,be⟩
 unfold br at h
 refine Vb (Dd (sg (qh pb))) (ra (db (ea (st (wl (Ja (wj underlying58 (aa (wa d6)) (a.get d1).yj) (ma (Jb sd)) (st (ja ?_))))))))
 refine Za h ?_ ?_
 intro ce h
 cases h
 intro ce h
 refine Va (ra (eb ?_))
 iterate 2 refine st ?_
 obtain ⟨L,ge,h⟩:=ha h
 refine Aa (um (j.t (d.t (k.t (g.t (e.t y))))) be ge a) ?_
 rintro _ Mf ⟨fn,on,un,rfl,N,a,he⟩
 refine fa (st ?_)
 obtain ⟨b,le,h⟩:=ha h
 refine Aa (Nt (j.t (d.t (k.t (g.t (e.t (y.t N)))))) he le a) ?_
 rintro _ wn ⟨ne,a156,c157,rfl,T,a,Ne⟩
 refine fa (wl (Nd yh sC (ab.o rfl (aa (Sa d5)) rfl rfl Ga (ab.n rfl (aa (Sa d7)) rfl rfl (kd.s kb (of_decide_eq_true rfl) (kd.s Ib (of_decide_eq_true rfl) kd.z)) ab.z)) (ma (oc Yd)) ?_))
 refine wl (vj underlying58 yh rfl (aa (Sa d8)) rfl a ?_); clear a; intro Fn In co a; refine fa ?_
 obtain ⟨of,V,h⟩:=ha h
 have W:pa ne [S L.1,.int .i64 b.1.Kind,S b.1.Nb] [(TParam.mk L.1 (Ya.mk b.1.Kind b.1.Nb))]:=(pa.one (α:=TParam) rfl)
 have wf:=pa.app (R.up (e.t (y.t (N.t T)))) W V
 refine wl (xj underlying58 yh rfl (aa (Sa d3)) (aa (Sa d9)) a d2 (a.ba d0).cells W rfl V (by decide) ?_); clear a; intro If go dg bi a; cases (show _=dg from bi)
 replace a:=Sep.te a Ib; refine fa ?_
 replace a:=a.drop ia.z
 refine st (La ?_)
 refine (fun h=>Pb (za h)) ?_
 exact ⟨u,_,_,rfl,(Md (Na (Md (zc (pf ta))))),⟨_,b.2.1,a156,c157,b.2.2.1,b.2.2.2,of,If,(p++[S L.1,.int .i64 b.1.Kind,S b.1.Nb]),rfl,h,(g.t (e.t (y.t (N.t T)))),a,Ne,wf⟩,Nat.lt_succ_self _⟩
 intro id h
 refine ke ?_
 refine (fun h=>jc (jc (pe h))) ?_
 refine ra (ea ?_)
 iterate 2 refine st ?_
 refine ja (Ra ?_)
 replace a:=a.da Da
 obtain ⟨io,no,c167,ci,X,ii,Y⟩:=Sep.Gi a (R.up e) rfl; clear a
 subst ci; have a:=Y; clear Y
 obtain rfl:=Ea h
 refine Ob rfl d2 ?_
 exact ⟨_,_,_,_,_,rfl,(d.t (k.t (g.t (e.t X)))),a,ii,(F.up X)⟩
theorem Hz (R:ga Fc I)  {r:List pg}  (h:Ct =some r) (a:ka I J w (O)):Sb prog 116 [] w (fun v w'=>∃ (na:M) (xa:Option Addr) (c2:Nat),v=.slice xa r.length c2∧ga I na∧ka na J w' (O)∧Ka na xa c2 r):=by
 unfold Ct at h
 refine enter func116 rfl (frm:=zd (Ge (Wf []))) rfl (ea (st (rb ?_)))
 refine wl (hj a ?_); clear a; intro m S T a; refine fa ?_
 refine wl (Ph (κ:=List UInt8) (β:=Int) (kk:=[111,114]) (xx:=18) underlying75 underlying9 (aa d1) Ba Ba rfl a d0 (je.nil (κ:=List UInt8) (β:=Int) (μ:=I) (c:=0)) Ma ?_); clear a; intro V W X b m8 d a; cases (show _=b from d)
 replace a:=Sep.te a Ga
 refine st (wl (Nd Um ku (ab.o rfl (aa d2) rfl rfl Ga (ab.o rfl Ba rfl rfl kb ab.z)) (ma ec) ?_))
 refine wl (hj a ?_); clear a; intro Fe Y Z a; refine fa ?_
 refine wl (Ph (κ:=List UInt8) (β:=Int) (kk:=[97,110,100]) (xx:=17) underlying75 underlying9 (aa d4) Ba Ba rfl a d0 (je.nil (κ:=List UInt8) (β:=Int) (μ:=I) (c:=0)) Ma ?_); clear a; intro gc c12 lc b m13 d a; cases (show _=b from d)
 replace a:=Sep.te a Ga
 refine st (wl (Nd Um ku (ab.o rfl (aa d5) rfl rfl Ga (ab.o rfl Ba rfl rfl kb ab.z)) (ma ad) ?_))
 refine wl (hj a ?_); clear a; intro n rc fd a; refine fa ?_
 refine wl (Ph (κ:=List UInt8) (β:=Int) (kk:=[61,61]) (xx:=11) underlying75 underlying9 (aa d7) Ba Ba rfl a d0 (je.nil (κ:=List UInt8) (β:=Int) (μ:=I) (c:=0)) Ma ?_); clear a; intro id md rd b m18 d a; cases (show _=b from d)
 replace a:=Sep.te a Ga
 refine wl (Ph (κ:=List UInt8) (β:=Int) (kk:=[33,61]) (xx:=12) underlying75 underlying9 (aa d7) Ba Ba rfl a d0 m18 Ma ?_); clear a; intro wd c20 Fd b m21 d a; cases (show _=b from d)
 replace a:=Sep.te a Ga
 refine wl (Ph (κ:=List UInt8) (β:=Int) (kk:=[60]) (xx:=13) underlying75 underlying9 (aa d7) Ba Ba rfl a d0 m21 Ma ?_); clear a; intro Id be Mf b m24 d a; cases (show _=b from d)
 replace a:=Sep.te a Ga
 refine wl (Ph (κ:=List UInt8) (β:=Int) (kk:=[60,61]) (xx:=14) underlying75 underlying9 (aa d7) Ba Ba rfl a d0 m24 Ma ?_); clear a; intro ce ge he b u d a; cases (show _=b from d)
 replace a:=Sep.te a Ga
 refine wl (Ph (κ:=List UInt8) (β:=Int) (kk:=[62]) (xx:=15) underlying75 underlying9 (aa d7) Ba Ba rfl a d0 u Ma ?_); clear a; intro le ne Ne b x d a; cases (show _=b from d)
 replace a:=Sep.te a Ga
 refine wl (Ph (κ:=List UInt8) (β:=Int) (kk:=[62,61]) (xx:=16) underlying75 underlying9 (aa d7) Ba Ba rfl a d0 x Ma ?_); clear a; intro of wf If b y d a; cases (show _=b from d)
 replace a:=Sep.te a Ga
 refine st (wl (Nd Um ku (ab.o rfl (aa d8) rfl rfl Ga (ab.o rfl Ba rfl rfl kb ab.z)) (ma Ed) ?_))
 refine wl (hj a ?_); clear a; intro p dg rg a; refine fa ?_
 refine wl (Ph (κ:=List UInt8) (β:=Int) (kk:=[43]) (xx:=6) underlying75 underlying9 (aa (wa d0)) Ba Ba rfl a d0 (je.nil (κ:=List UInt8) (β:=Int) (μ:=I) (c:=0)) Ma ?_); clear a; intro bi c37 ci b A d a; cases (show _=b from d)
 replace a:=Sep.te a Ga
 refine wl (Ph (κ:=List UInt8) (β:=Int) (kk:=[45]) (xx:=7) underlying75 underlying9 (aa (wa d0)) Ba Ba rfl a d0 A Ma ?_); clear a; intro ii c40 li b B d a; cases (show _=b from d)
 replace a:=Sep.te a Ga
 refine st (wl (Nd Um ku (ab.o rfl (aa (wa d1)) rfl rfl Ga (ab.o rfl Ba rfl rfl kb ab.z)) (ma (Jb Ib)) ?_))
 refine wl (hj a ?_); clear a; intro q pi Pi a; refine fa ?_
 refine wl (Ph (κ:=List UInt8) (β:=Int) (kk:=[42]) (xx:=8) underlying75 underlying9 (aa (wa d3)) Ba Ba rfl a d0 (je.nil (κ:=List UInt8) (β:=Int) (μ:=I) (c:=0)) Ma ?_); clear a; intro ok dl el b C d a; cases (show _=b from d)
 replace a:=Sep.te a Ga
 refine wl (Ph (κ:=List UInt8) (β:=Int) (kk:=[47]) (xx:=9) underlying75 underlying9 (aa (wa d3)) Ba Ba rfl a d0 C Ma ?_); clear a; intro nl ol pl b D d a; cases (show _=b from d)
 replace a:=Sep.te a Ga
 refine wl (Ph (κ:=List UInt8) (β:=Int) (kk:=[37]) (xx:=10) underlying75 underlying9 (aa (wa d3)) Ba Ba rfl a d0 D Ma ?_); clear a; intro ul c51 am b E d a; cases (show _=b from d)
 replace a:=Sep.te a Ga
 refine st (wl (Nd Um ku (ab.o rfl (aa (wa d4)) rfl rfl Ga (ab.o rfl Ba rfl rfl kb ab.z)) (ma (Jb cd)) ?_))
 replace a:=a.da ff
 obtain ⟨em,e,F,a⟩:=Sep.ym a m8
 replace a:=a.da bb
 obtain ⟨hm,f,G,a⟩:=Sep.ym a (m13.up e)
 replace a:=a.da Eb
 obtain ⟨lm,g,H,a⟩:=Sep.ym a (y.up (e.t f))
 replace a:=a.da Da
 obtain ⟨pm,j,K,a⟩:=Sep.ym a (B.up (e.t (f.t g)))
 obtain ⟨sm,k,L,a⟩:=Sep.ym a (E.up (e.t (f.t (g.t j))))
 refine wl (Zx underlying208 Um (by decide) (.s (aa d3) rfl rfl (.s (aa d6) rfl rfl (.s (aa d9) rfl rfl (.s (aa (wa d2)) rfl rfl (.s (aa (wa d5)) rfl rfl .z))))) rfl a ?_); clear a; intro N Nm fn a; refine fa ?_
 refine st (ja (Ra ?_))
 obtain ⟨on,P,Q,a⟩:=Sep.ud (l:=([(pg.mk (cc ([]:List (List UInt8×Int)) [111,114] 18) false),(pg.mk (cc ([]:List (List UInt8×Int)) [97,110,100] 17) false),(pg.mk (cc (cc (cc (cc (cc (cc ([]:List (List UInt8×Int)) [61,61] 11) [33,61] 12) [60] 13) [60,61] 14) [62] 15) [62,61] 16) true),(pg.mk (cc (cc ([]:List (List UInt8×Int)) [43] 6) [45] 7) false),(pg.mk (cc (cc (cc ([]:List (List UInt8×Int)) [42] 8) [47] 9) [37] 10) false)]:List pg)) a (pa.cons (α:=pg) (cs:=[.map (some m),.bool false]) (pg.i ⟨m,rfl,(F.up (f.t (g.t (j.t k))))⟩) (pa.cons (α:=pg) (cs:=[.map (some Fe),.bool false]) (pg.i ⟨Fe,rfl,(G.up (g.t (j.t k)))⟩) (pa.cons (α:=pg) (cs:=[.map (some n),.bool true]) (pg.i ⟨n,rfl,(H.up (j.t k))⟩) (pa.cons (α:=pg) (cs:=[.map (some p),.bool false]) (pg.i ⟨p,rfl,(K.up k)⟩) (pa.cons (α:=pg) (cs:=[.map (some q),.bool false]) (pg.i ⟨q,rfl,L⟩) pa.nil))))) (Nat.le_of_ble_eq_true rfl)
 obtain rfl:=Ea h
 refine Ob rfl d0 ?_
 exact ⟨_,(some ⟨N,0,none⟩),5,rfl,(e.t (f.t (g.t (j.t (k.t P))))),a,Q⟩
theorem Zr (f:ga Fc I) {b:List Ua} {c d:Int} {r:List Ua×Int×Int} (m5:Ka I a3 c4 b) (h:Qm b c d=some r) (a:ka I J w (.ba U 71 [.slice a3 b.length c4,.int .i64 c,.int .i64 d]::O)):Sb prog 62 [.pointer (some ⟨U,0,none⟩)] w (fun v w'=>∃ (na:M) (Ie:Nat) (a9:Option Addr) (Xn:Nat),v=.func (.func 80) ⟨[]⟩ ⟨[.pointer (some ⟨Ie,0,none⟩)]⟩∧ga I na∧ka na J w' (.ba Ie 69 [.pointer (some ⟨U,0,none⟩)]::.ba U 71 [.slice a9 r.1.length Xn,.int .i64 r.2.1,.int .i64 r.2.2]::O)∧Ka na a9 Xn r.1):=by
 unfold Qm at h
 refine enter func62 rfl (frm:=_::zd (zd (Ge (Wf [])))) rfl (ea ?_)
 refine wl (Ji (aa d0) rfl a ?_); clear a; intro Qc g i a; refine fa ?_
 refine st (ob (ea (Ha ((a.ba d0).cell d0) ?_)))
 iterate 2 refine st ?_
 refine Ha ((a.ba d1).cell d2) ?_
 obtain ⟨i14,g15,h⟩:=ha h
 refine wl (Ja (Gd (aa d6) Ba g15) (ma sd) ?_)
 iterate 2 refine st ?_
 refine wl (Je Uc (aa d9) (aa d7) rfl a d1 Ib rfl kb Ma ?_)
 clear a; intro j a
 refine rb (Ha ((a.ba d0).cell d0) ?_)
 iterate 2 refine st ?_
 refine Ha ((a.ba d1).cell d2) (st (ja ?_))
 refine Za h ?_ ?_
 intro e h
 cases h
 intro e h
 refine Va (ra (ea (wl (Ja (Wt hb (sa (aa d1) hb)) (ma (Jb Ed)) (st (ja (Ra ?_)))))))
 obtain rfl:=Ea h
 refine Ob rfl d2 ?_
 exact ⟨_,_,_,_,rfl,ga.r,a,m5⟩
theorem fs {I:M} {J w:World} {O:List Wb} (f:ga Fc I) {U b:Nat} {c:List Ua} {a4:Option Addr} {c5:Nat} {d e:Int} {r:List Ua×Int×Int} (m6:Ka I a4 c5 c) (h:Sm c d e=some r) (a:ka I J w (.ba U 69 [.pointer (some ⟨b,0,none⟩)]::.ba b 71 [.slice a4 c.length c5,.int .i64 d,.int .i64 e]::O)):Kt prog 80 [.pointer (some ⟨U,0,none⟩)] w (fun v w'=>∃ (na:M) (a9:Option Addr) (Xn:Nat),v=.tuple ⟨[]⟩∧ga I na∧ka na J w' (.ba U 69 [.pointer (some ⟨b,0,none⟩)]::.ba b 71 [.slice a9 r.1.length Xn,.int .i64 r.2.1,.int .i64 r.2.2]::O)∧Ka na a9 Xn r.1):=by
 unfold Sm at h
 refine Qx func80 rfl (frm:=[_,_,_,_,_,_,_,_]) rfl (eb (Ha ((a.ba d0).cell d0) ?_))
 iterate 2 refine st ?_
 refine Ha ((a.ba d1).cell d2) ?_
 obtain ⟨i12,g13,h⟩:=ha h
 refine wl (Ja (Kl (aa d4) Ba g13) (ma cd) ?_)
 iterate 2 refine st ?_
 refine wl (Je Uc (aa d7) (aa d5) rfl a d1 Ib rfl kb Ma ?_)
 clear a; intro g a
 refine La ?_
 obtain rfl:=Ea h
 refine Li rfl ?_
 exact ⟨_,_,_,rfl,ga.r,a,m6⟩
end Go.Proofs.YthoigniombcphaaGreatDoor
set_option maxRecDepth 100000
set_option maxHeartbeats 20000000
namespace Go.Proofs.YthoigniombcphaaGreatDoor
open Go.bc Go.Dc Go.Y Tryz
variable {U c4 fu:Nat} {a3:Option Addr} {I:M} {J w:World} {O:List Wb}
def JA (q:(List Ua)→Int→Int→Option (ua×List Ua×Int×Int)):Prop:=∀ {I:M} {J w:World} {O:List Wb} (d:ga Fc I) {U:Nat} {a:List Ua} {a3:Option Addr} {c4:Nat} {b c:Int} {r:ua×List Ua×Int×Int} (m5:Ka I a3 c4 a) (h:q a b c=some r) (e:ka I J w (.ba U 71 [.slice a3 a.length c4,.int .i64 b,.int .i64 c]::O)),Sb prog 81 [.pointer (some ⟨U,0,none⟩)] w (fun v w'=>∃ (na:M) (Db:Option Addr) (c9:Nat) (xc:Option Addr) (c12:Nat),v=.agg ⟨[.int .i64 r.1.Kind,.int .i64 r.1.N,S r.1.Name,.slice Db r.1.Kids.length c9]⟩∧ga I na∧ka na J w' (.ba U 71 [.slice xc r.2.1.length c12,.int .i64 r.2.2.1,.int .i64 r.2.2.2]::O)∧Ka na Db c9 r.1.Kids∧Ka na xc c12 r.2.1)
def hA (q:(List Ua)→Int→Int→Int→Option (ua×List Ua×Int×Int)):Prop:=∀ {I:M} {J w:World} {O:List Wb} (e:ga Fc I) {U:Nat} {a:List Ua} {a3:Option Addr} {c4:Nat} {b c d:Int} {r:ua×List Ua×Int×Int} (m5:Ka I a3 c4 a) (h:q a b c d=some r) (f:ka I J w (.ba U 71 [.slice a3 a.length c4,.int .i64 b,.int .i64 c]::O)),Sb prog 103 [.pointer (some ⟨U,0,none⟩),.int .i64 d] w (fun v w'=>∃ (na:M) (Db:Option Addr) (c9:Nat) (xc:Option Addr) (c12:Nat),v=.agg ⟨[.int .i64 r.1.Kind,.int .i64 r.1.N,S r.1.Name,.slice Db r.1.Kids.length c9]⟩∧ga I na∧ka na J w' (.ba U 71 [.slice xc r.2.1.length c12,.int .i64 r.2.2.1,.int .i64 r.2.2.2]::O)∧Ka na Db c9 r.1.Kids∧Ka na xc c12 r.2.1)
def iA (q:(List Ua)→Int→Int→Option (ua×List Ua×Int×Int)):Prop:=∀ {I:M} {J w:World} {O:List Wb} (d:ga Fc I) {U:Nat} {a:List Ua} {a3:Option Addr} {c4:Nat} {b c:Int} {r:ua×List Ua×Int×Int} (m5:Ka I a3 c4 a) (h:q a b c=some r) (e:ka I J w (.ba U 71 [.slice a3 a.length c4,.int .i64 b,.int .i64 c]::O)),Sb prog 117 [.pointer (some ⟨U,0,none⟩)] w (fun v w'=>∃ (na:M) (Db:Option Addr) (c9:Nat) (xc:Option Addr) (c12:Nat),v=.agg ⟨[.int .i64 r.1.Kind,.int .i64 r.1.N,S r.1.Name,.slice Db r.1.Kids.length c9]⟩∧ga I na∧ka na J w' (.ba U 71 [.slice xc r.2.1.length c12,.int .i64 r.2.2.1,.int .i64 r.2.2.2]::O)∧Ka na Db c9 r.1.Kids∧Ka na xc c12 r.2.1)
def hz (q:(List Ua)→Int→Int→Option (ua×List Ua×Int×Int)):Prop:=∀ {I:M} {J w:World} {O:List Wb} (d:ga Fc I) {U:Nat} {a:List Ua} {a3:Option Addr} {c4:Nat} {b c:Int} {r:ua×List Ua×Int×Int} (m5:Ka I a3 c4 a) (h:q a b c=some r) (e:ka I J w (.ba U 71 [.slice a3 a.length c4,.int .i64 b,.int .i64 c]::O)),Sb prog 127 [.pointer (some ⟨U,0,none⟩)] w (fun v w'=>∃ (na:M) (Db:Option Addr) (c9:Nat) (xc:Option Addr) (c12:Nat),v=.agg ⟨[.int .i64 r.1.Kind,.int .i64 r.1.N,S r.1.Name,.slice Db r.1.Kids.length c9]⟩∧ga I na∧ka na J w' (.ba U 71 [.slice xc r.2.1.length c12,.int .i64 r.2.2.1,.int .i64 r.2.2.2]::O)∧Ka na Db c9 r.1.Kids∧Ka na xc c12 r.2.1)
def KA (q:(List Ua)→Int→Int→Option (List ua×List Ua×Int×Int)):Prop:=∀ {I:M} {J w:World} {O:List Wb} (d:ga Fc I) {U:Nat} {a:List Ua} {a3:Option Addr} {c4:Nat} {b c:Int} {r:List ua×List Ua×Int×Int} (m5:Ka I a3 c4 a) (h:q a b c=some r) (e:ka I J w (.ba U 71 [.slice a3 a.length c4,.int .i64 b,.int .i64 c]::O)),Sb prog 135 [.pointer (some ⟨U,0,none⟩)] w (fun v w'=>∃ (na:M) (Db:Option Addr) (c9:Nat) (xc:Option Addr) (c12:Nat),v=.slice Db r.1.length c9∧ga I na∧ka na J w' (.ba U 71 [.slice xc r.2.1.length c12,.int .i64 r.2.2.1,.int .i64 r.2.2.2]::O)∧Ka na Db c9 r.1∧Ka na xc c12 r.2.1)
def jA (q:(List Ua)→Int→Int→Int→Int→Option (ua×List Ua×Int×Int)):Prop:=∀ {I:M} {J w:World} {O:List Wb} (e:ga Fc I) {U:Nat} {a:List Ua} {a3:Option Addr} {c4:Nat} {b c d p_3:Int} {r:ua×List Ua×Int×Int} (m5:Ka I a3 c4 a) (h:q a b c d p_3=some r) (f:ka I J w (.ba U 71 [.slice a3 a.length c4,.int .i64 b,.int .i64 c]::O)),Sb prog 134 [.pointer (some ⟨U,0,none⟩),.int .i64 d,.int .i64 p_3] w (fun v w'=>∃ (na:M) (Db:Option Addr) (c9:Nat) (xc:Option Addr) (c12:Nat),v=.agg ⟨[.int .i64 r.1.Kind,.int .i64 r.1.N,S r.1.Name,.slice Db r.1.Kids.length c9]⟩∧ga I na∧ka na J w' (.ba U 71 [.slice xc r.2.1.length c12,.int .i64 r.2.2.1,.int .i64 r.2.2.2]::O)∧Ka na Db c9 r.1.Kids∧Ka na xc c12 r.2.1)
structure aq (a:Yi):Prop where
  ug:JA a.ug
  ti:hA a.ti
  ui:iA a.ui
  Gg:hz a.Gg
  Ml:KA a.Ml
  uj:jA a.uj
theorem lF {self:Yi} (g:aq self):JA (ug self):=by
 intro I J w O c U m a3 c4 n o r m5 h b
 unfold ug at h
 refine qs func81 rfl (frm:=_::Cf (Ge [])) rfl (ea ?_)
 refine wl (bd pc b ?_); clear b; intro p q u b; refine fa ?_
 refine rb (st ?_)
 obtain ⟨v,g17,h⟩:=ha h
 replace b:=b.da Da
 refine Aa (Zr c m5 g17 b) ?_
 rintro _ x ⟨y,A,a20,c21,rfl,d,b,m22⟩
 refine fa (wl (Bo (aa d4) hb Ma (rb (st ?_))))
 obtain ⟨B,g24,h⟩:=ha h
 replace b:=b.da Da
 refine Aa (g.ti (c.t d) m22 g24 b) ?_
 rintro _ C ⟨D,E,F,G,H,rfl,e,b,i,j⟩
 refine fa (wl (yb pc (aa d2) (aa d6) rfl rfl b d2 rfl Ib Ma ?_))
 clear b; intro K b
 refine ja (Ra ?_)
 obtain ⟨L,k,h⟩:=ha h
 replace b:=b.da Da
 refine mj ts (fs (c.t (d.t e)) j k b) ?_
 rintro _ M ⟨N,P,Q,rfl,f,b,l⟩
 obtain rfl:=Ea h
 refine vg rfl (Qa.s (.a d2 pc (b.ba d2).cells rfl) Qa.z) ?_
 replace b:=(b.drop ia.z).drop (ia.s ia.z)
 exact ⟨_,_,_,_,_,rfl,(d.t (e.t f)),b,(i.up f),l⟩
theorem DE {fu:Nat} {self:Yi} (Q:aq self):hA (ti fu self):=by
 intro I J w O B U no a3 c4 ro to R r m5 h b
 unfold ti at h
 refine enter func103 rfl (frm:=_::_::Wf (Ze [])) rfl (ea ?_)
 refine wl (bd pc b ?_); clear b; intro T Do Go b; refine fa ?_
 refine rb ?_
 obtain ⟨V,g17,h⟩:=ha h
 refine Aa (Hz B g17 b) ?_
 rintro _ ap ⟨ip,jp,c20,rfl,e,b,m21⟩
 refine fa (st (ob (ea ?_)))
 iterate 2 refine st ?_
 refine wl (Ja (Qd underlying208 (aa (wa d0))) (ma (Jb kb)) (st (ja ?_)))
 refine Za h ?_ ?_
 intro ce h
 refine ea (st ?_)
 obtain ⟨mp,g24,h⟩:=ha h
 replace b:=b.da Da
 refine Aa (Q.ui (B.t e) (m5.up e) g24 b) ?_
 rintro _ op ⟨pp,sp,wp,Op,eq,rfl,ge,b,he,le⟩
 refine fa (wl (yb pc (aa d4) (aa (wa d4)) rfl rfl b d1 rfl kb Ma ?_))
 clear b; intro Eq b
 refine ja (Ra (Fa ?_))
 obtain rfl:=Ea h
 refine Ad rfl (Qa.s (.a d4 pc (b.ba d1).cells rfl) Qa.z) ?_
 replace b:=b.drop (ia.s ia.z)
 exact ⟨_,_,_,_,_,rfl,(e.t ge),b,he,le⟩
 intro ce h
 refine Va (ra (ea ?_))
 iterate 2 refine st ?_
 obtain ⟨i33,ne,h⟩:=ha h
 refine wl (Ja (Gd (aa (wa d6)) Ba ne) (ma (Jb sd)) ?_)
 obtain ⟨f,Ne,h⟩:=ha h
 replace b:=b.da Da
 refine Aa (Q.ti (B.t e) (m5.up e) Ne b) ?_
 rintro _ fr ⟨md,of,wf,If,dg,rfl,C,b,bi,ci⟩
 refine fa ?_
 refine wl (bd pc b ?_); clear b; intro W or qr b; refine fa ?_
 refine wl (yb pc (aa d6) (aa (wa d8)) rfl rfl b d0 rfl Ga Ma ?_)
 clear b; intro wr b
 refine ob ?_
 refine Ub ([7]++rg 19 42) (by decide +kernel) (fun m w=>∃ c D a46 X i50 i51 i52 i53 Y E Z gc,m=(rh (Sc 7 (yd (kh (Uf 19 (Uf 39 (xf 59 [])))))))∧kp D i50 i51 i52 i53 Y E=some r∧ga md c∧ka c J w (.ba U 71 [.slice a46 D.length X,.int .i64 i50,.int .i64 i51]::.ba T 124 [.int .i64 0,.int .i64 0,S [],.slice none 0 0]::.ba W 124 [.int .i64 i52,.int .i64 i53,S Y,.slice Z E.length gc]::O)∧Ka c a46 X D∧Ka c Z gc E) (by rintro _ _ ⟨_,_,_,_,_,_,_,_,_,_,_,_,rfl,_⟩; rfl) ?_ ?_
 refine Qb ?_
 replace b:=(b.da Eb).da Eb
 refine Se ([7]++rg 19 42) (by decide +kernel) (fun n m w=>∃ c F lc rc i116 i117 i118 i119 q g u v,m=(rh (Sc 7 (yd (kh (Uf 19 (Uf 39 (xf 59 [])))))))∧sn self R V n F i116 i117 i118 i119 q g=some r∧ga md c∧ka c J w (.ba U 71 [.slice lc F.length rc,.int .i64 i116,.int .i64 i117]::.ba T 124 [.int .i64 0,.int .i64 0,S [],.slice none 0 0]::.ba W 124 [.int .i64 i118,.int .i64 i119,S q,.slice u g.length v]::O)∧Ka c lc rc F∧Ka c u v g) (by rintro _ _ _ ⟨_,_,_,_,_,_,_,_,_,_,_,_,rfl,_⟩; rfl) _ _ (cf (lb (xb (Ee (zc (zc (Zc ta))))))) ⟨_,f.2.1,If,dg,f.2.2.1,f.2.2.2,f.1.Kind,f.1.N,f.1.Name,f.1.Kids,of,wf,rfl,h,ga.r,b,ci,bi⟩ ?_
 rintro G _ t Mf ⟨ii,F,lc,rc,i116,i117,i118,i119,q,g,u,v,rfl,h,p,b,H,fd⟩
 rcases G with _|G
 cases h
 unfold sn at h
 refine Te (Jh (Xc (Dd (zh (fg (fg (Kf pb))))))) (db (ea ?_))
 iterate 3 refine st ?_
 refine Ha ((b.ba d0).cell d0) (wl (Ja (Qd underlying64 (aa (Sa d2))) (ma (oc ec)) (st (ja ?_))))
 refine Za h ?_ ?_
 intro li h
 refine Va (ra (Qb (db ?_)))
 refine Td b ?_; clear b; intro Fr b
 refine Pd (la 0 [0,2,3,4,12,13] rfl (la 1 [1,2,3,4,12,13] rfl ?_))
 obtain ⟨K,pi,h⟩:=ha h
 obtain ⟨Or,ds,es,Pi,f188,kk⟩:=Pc.elem (m21.up (C.t p)) pi
 obtain ⟨gs,rfl,ok⟩:=kk
 refine ze 2 [2,3,4,12,13] rfl (Mc underlying208 Um (aa (Sa d5)) (aa (Sa d6)) Pi) (oc sd) (la 3 [3,4,12,13] rfl (Fb 4 [4,12,13] rfl (jb Yh (aa (Sa d8)) ((f188 _ b.a).one d0)) (oc Ed) (la 5 [5,6,7,8,9,10,11,12,13] rfl (la 6 [6,7,8,9,10,11,12,13] rfl (la 7 [7,8,9,10,11,12,13] rfl (Fb 8 [8,9,10,11,12,13] rfl (jb Un (aa (ib d2)) ((b.ba d0).cell d0)) (qd ec) ?_))))))
 obtain ⟨x,dl,h⟩:=ha h
 obtain ⟨is,ls,ms,el,f198,nl⟩:=Pc.elem H dl
 obtain rfl:=nl
 refine ze 9 [9,10,11,12,13] rfl (Mc underlying64 Kj (aa (ib d3)) Ba el) (qd hd) (la 10 [10,11,12,13] rfl (Fb 11 [11,12,13] rfl (jb Hb (aa (ib d5)) ((f198 _ b.a).one d1)) (qd ad) ?_))
 obtain ⟨os,c201,ol,pl⟩:=ok
 refine Kb rfl rfl rfl rfl (Gb rfl) (gk (κ:=List UInt8) (k:=x.Text) (β:=Int) (zx:=0) underlying75 underlying9 (aa (Sa d9)) (aa (ib d6)) Zm rfl (ol _ b.a) pl ?_); rintro _ rfl; refine fa ?_
 refine ⟨Oa.z,?_⟩
 refine la 13 [13] rfl (Hd (ra (db (ea ?_))))
 iterate 2 refine st ?_
 refine ja ?_
 refine Za h ?_ ?_
 intro ul h
 refine ke ?_
 refine (fun h=>jc (CC rfl (jc (pe h)))) ?_
 refine za ?_
 exact ⟨_,_,rfl,(cf (lb (xb (Ee (zc (zc (Zc ta))))))),_,_,_,_,_,_,_,_,_,_,_,_,rfl,h,p,b,H,fd⟩
 intro ul h
 refine Va (ra (ea ?_))
 iterate 4 refine st ?_
 refine Ha ((b.ba d0).cell d0) ?_
 obtain ⟨rs,am,h⟩:=ha h
 obtain ⟨us,c210,em,hm⟩:=Ka.Fw (i:=some 1) (j:=none) H am
 refine wl (Ja (lq underlying64 Kj (aa (Bb d4)) (.s Ba) .n em) (ma (Xd cd)) ?_)
 iterate 2 refine st ?_
 refine wl (Je Un (aa (Bb d7)) (aa (Bb d5)) rfl b d0 Ga rfl Ga Ma ?_)
 clear b; intro vs b
 refine ob ?_
 refine Ub (rg 48 8) (by decide) (fun m w=>∃ c y a213 L i217 i218 A M P,m=(qc (qc (Kh (ei 48 []))))∧pv R V K x (sn self R V G) y i217 i218 A=some r∧ga ii c∧ka c J w (.ba U 71 [.slice a213 y.length L,.int .i64 i217,.int .i64 i218]::.ba T 124 [.int .i64 0,.int .i64 0,S [],.slice none 0 0]::.ba W 124 [.int .i64 ((vb K.lk x.Text).getD 0),.int .i64 0,S [],.slice M A.length P]::O)∧Ka c a213 L y∧Ka c M P A) (by rintro _ _ ⟨_,_,_,_,_,_,_,_,_,rfl,_⟩; rfl) ?_ ?_
 refine Td b ?_; clear b; intro ws b
 refine Pd (la 0 [0,7,8] rfl (Fb 1 [1,6,7,8] rfl (Re pc (aa d6) (b.ba d2).cells rfl) (Xd Ed) (la 2 [2,5,6,7,8] rfl (la 3 [3,4,5,6,7,8] rfl ?_))))
 obtain ⟨i231,lm,h⟩:=ha h
 refine ze 4 [4,5,6,7,8] rfl (Gd (aa (sb d1)) Ba lm) (ee Ib) ?_
 obtain ⟨d,pm,h⟩:=ha h
 refine Kb rfl rfl rfl rfl (Gb rfl) (td VF nd (sa (aa (sb d0)) (sa (aa (sb d2)) hb)) (Q.ti (B.t (e.t (C.t p))) hm pm b) ?_)
 rintro _ xs ⟨ys,a236,rd,Os,gt,rfl,wd,b,sm,Nm⟩
 refine fa ?_
 refine ⟨(Oa.s (Re pc (aa d6) (b.ba d2).cells rfl) Oa.z),?_⟩
 refine Kb rfl rfl rfl rfl (Gb rfl) (Zx underlying122 pc (by decide) (.s (aa (Bb d9)) rfl rfl (.s (aa (sb d3)) rfl rfl .z)) rfl b ?_); clear b; intro fn it lt b; refine fa ?_
 refine ⟨Oa.z,?_⟩
 refine ze 7 [7,8] rfl (Jt pc il (ab.o rfl (aa (Bb d8)) rfl rfl Ga (ab.o rfl (aa (sb d4)) rfl rfl ec ab.z))) (ee cd) (Kb rfl rfl rfl rfl (Gb rfl) (yb pc (aa d6) (aa (sb d5)) rfl rfl b d3 rfl ec Ma ?_))
 clear b; intro mt b
 refine ⟨Oa.z,?_⟩
 refine Hd (za ?_)
 obtain ⟨rt,Fd,on,b⟩:=Sep.ud (l:=([(ua.mk i118 i119 q g),d.1]:List ua)) b (pa.cons (α:=ua) (cs:=[.int .i64 i118,.int .i64 i119,S q,.slice u g.length v]) (ua.i ⟨u,v,rfl,(fd.up wd)⟩) (pa.cons (α:=ua) (cs:=[.int .i64 d.1.Kind,.int .i64 d.1.N,S d.1.Name,.slice a236 d.1.Kids.length rd]) (ua.i ⟨a236,rd,rfl,sm⟩) pa.nil)) (Nat.le_of_ble_eq_true rfl)
 exact ⟨_,_,rfl,(Xa (Xa (lf (ag ta)))),_,d.2.1,_,_,d.2.2.1,d.2.2.2,[(ua.mk i118 i119 q g),d.1],(some ⟨fn,0,none⟩),2,rfl,h,(wd.t Fd),b,(Nm.up Fd),on⟩
 rintro _ t ut ⟨wt,y,a213,L,i217,i218,A,M,P,rfl,h,id,b,Id,be⟩
 unfold pv at h
 refine Vb (vc (vc (fi (xi pb)))) (ra (ea ?_))
 iterate 2 refine st ?_
 obtain ⟨hu,un,h⟩:=ha h
 obtain ⟨pu,bv,hw,wn,f255,Fn⟩:=Pc.elem (m21.up (C.t (p.t id))) un
 obtain ⟨kw,rfl,lw⟩:=Fn
 refine wl (Ja (Mc underlying208 Um (aa (sb d6)) (aa (sb d7)) wn) (ma (ee Yd)) (st (Ha ((f255 _ b.a).one d1) (ja ?_))))
 refine ed h ?_ ?_
 intro In h
 refine ke ?_
 refine (fun h=>CC rfl (jc (pe h))) ?_
 refine za ?_
 exact ⟨_,_,rfl,(cf (lb (xb (Ee (zc (zc (Zc ta))))))),_,_,_,_,_,_,((vb K.lk x.Text).getD 0),0,[],_,_,_,rfl,h,(p.t id),b,Id,be⟩
 intro In h
 refine Va ?_
 refine (fun h=>Pb (za h)) ?_
 exact ⟨G,_,_,rfl,(cf (lb (xb (Ee (zc (zc (Zc ta))))))),⟨_,y,a213,L,i217,i218,((vb K.lk x.Text).getD 0),0,[],A,M,P,rfl,h,(p.t id),b,Id,be⟩,Nat.lt_succ_self _⟩
 intro li h
 refine ke ?_
 refine (fun h=>jc (jc (pe h))) ?_
 refine za ?_
 exact ⟨_,_,rfl,(cf (lb (xb (Ee (zc (zc (Zc ta))))))),_,_,_,_,_,_,_,_,_,_,_,_,rfl,h,p,b,H,fd⟩
 rintro _ t ww ⟨ex,D,a46,X,i50,i51,i52,i53,Y,E,Z,gc,rfl,h,co,b,go,io⟩
 unfold kp at h
 refine Vb (Jh (Xc (Dd (zh (fg (fg (Kf pb))))))) (ra (ea (Ae (b.ba d2).cells rfl (wl (yb pc (aa d4) (aa (Gc d1)) rfl rfl b d1 rfl kb Ma ?_)))))
 clear b; intro rx b
 refine ja (Ra ?_)
 obtain rfl:=Ea h
 refine Ad rfl (Qa.s (.a d4 pc (b.ba d1).cells rfl) Qa.z) ?_
 replace b:=(b.drop (ia.s ia.z)).drop (ia.s ia.z)
 exact ⟨_,_,_,_,_,rfl,(e.t (C.t co)),b,io,go⟩
theorem EE {self:Yi} (n:aq self):iA (ui self):=by
 intro I J w O d U jp a3 c4 mp op r m5 h b
 unfold ui at h
 refine qs func117 rfl (frm:=_::zd (zd (Xe []))) rfl (ea ?_)
 refine wl (bd pc b ?_); clear b; intro pp sp wp b; refine fa ?_
 refine ob (ea ?_)
 refine wl (hj b ?_); clear b; intro Op eq Eq b; refine fa ?_
 refine wl (Ph (κ:=List UInt8) (β:=Int) (kk:=[45]) (xx:=4) underlying75 underlying9 (aa d5) Ba Ba rfl b d0 (je.nil (κ:=List UInt8) (β:=Int) (μ:=I) (c:=0)) Ma ?_); clear b; intro fr or qr f m20 g b; cases (show _=f from g)
 replace b:=Sep.te b Ga
 refine wl (Ph (κ:=List UInt8) (β:=Int) (kk:=[110,111,116]) (xx:=5) underlying75 underlying9 (aa d5) Ba Ba rfl b d0 m20 Ma ?_); clear b; intro wr Fr Or f m23 g b; cases (show _=f from g)
 replace b:=Sep.te b Ga
 refine st ?_
 obtain ⟨B,C,Y,m,u⟩:=je.two (k0:=[45]) (x0:=4) (k1:=[110,111,116]) (x1:=5) m23; subst Y
 refine wl (dF underlying75 (aa d6) b d0 ?_); clear b; intro cs ds es b; refine fa ?_
 refine ja (Qb (Px 3 (Vm (ea ?_))))
 refine wl (RF (aa d7) b d0 d1 m u ?_ ?_)
 clear b; intro gs f g b; cases (show _=f from g)
 replace b:=Sep.te b Ga; refine fa ?_
 refine st (ob (Bm (aa d9) (Va (ra (Qb (ea (wl (Sv (e:=⟨S [45],.int .i64 4,B⟩) (aa d7) b d0 d1 m rfl (.inl rfl) (ma (Jb Ga)) ?_))))))))
 iterate 4 refine st ?_
 refine rb ?_
 iterate 2 refine st ?_
 obtain ⟨is,Z,h⟩:=ha h
 replace b:=b.da bb
 refine Aa (Rg d m5 Z b) ?_
 rintro _ ls ⟨ms,os,rs,rfl,j,b,D⟩
 refine fa (ja ?_)
 refine ed h ?_ ?_
 intro gc h
 refine ea (st ?_)
 obtain ⟨us,lc,h⟩:=ha h
 refine Aa (Zr (d.t j) D lc b) ?_
 rintro _ Mf ⟨vs,ws,xs,ys,rfl,v,b,rc⟩
 refine fa (wl (Bo (aa (wa d7)) hb Ma (rb ?_)))
 iterate 2 refine st ?_
 obtain ⟨fd,id,h⟩:=ha h
 replace b:=b.da Da
 refine Aa (n.ui (d.t (j.t v)) rc id b) ?_
 rintro _ Os ⟨gt,md,c49,a51,it,rfl,E,b,rd,wd⟩
 refine fa ?_
 refine wl (vj underlying122 pc rfl (aa (Sa d0)) rfl b ?_); clear b; intro Fd lt mt b; refine fa ?_
 refine wl (Nd pc il (ab.o rfl (aa (wa d8)) rfl rfl Ga (ab.o rfl (aa (Sa d1)) rfl rfl ec ab.z)) (ma (oc Ib)) (wl (yb pc (aa d2) (aa (Sa d2)) rfl rfl b d5 rfl cd Ma ?_)))
 clear b; intro rt b
 refine ja (Ra ?_)
 refine (fun h=>Ab (Fa (Ab (Fa h)))) ?_
 obtain ⟨ut,Id,h⟩:=ha h
 replace b:=(b.da Da).da Eb
 refine mj ts (fs (d.t (j.t (v.t E))) wd Id b) ?_
 rintro _ wt ⟨fu,a59,hu,rfl,F,b,be⟩
 replace b:=b.da Eb
 obtain ⟨pu,G,ce,b⟩:=Sep.ud (l:=([fd.1]:List ua)) b (pa.one (α:=ua) (ua.i ⟨md,c49,rfl,(rd.up F)⟩)) (Nat.le_of_ble_eq_true rfl)
 obtain rfl:=Ea h
 refine vg rfl (Qa.s (.a d2 pc (b.ba d4).cells rfl) Qa.z) ?_
 replace b:=(((b.drop ia.z).drop (ia.s ia.z)).drop (ia.s ia.z)).drop (ia.s ia.z)
 exact ⟨_,(some ⟨Fd,0,none⟩),1,_,_,rfl,(j.t (v.t (E.t (F.t G)))),b,ce,(be.up G)⟩
 intro gc h
 refine Va ?_
 refine (fun h=>Pb (za h)) (Ep (Vm ?_))
 refine ea (wl (SF (aa d7) b d1 d2 m u ?_))
 clear b; intro bv f g b; cases (show _=f from g)
 replace b:=Sep.te b kb; refine fa ?_
 refine st (ob (Bm (aa d9) (Va (ra (Qb (ea (wl (Sv (e:=⟨S [110,111,116],.int .i64 5,C⟩) (aa d7) b d1 d2 m rfl (.inr rfl) (ma (Jb Ga)) ?_))))))))
 iterate 4 refine st ?_
 refine rb ?_
 iterate 2 refine st ?_
 obtain ⟨hw,ge,h⟩:=ha h
 refine Aa (Rg (d.t j) D ge b) ?_
 rintro _ kw ⟨lw,ww,ex,rfl,p,b,H⟩
 refine fa (ja ?_)
 refine ed h ?_ ?_
 intro he h
 refine ea (st ?_)
 obtain ⟨rx,le,h⟩:=ha h
 refine Aa (Zr (d.t (j.t p)) H le b) ?_
 rintro _ zx ⟨ty,sz,a75,c76,rfl,x,b,ne⟩
 refine fa (wl (Bo (aa (wa d7)) hb Ma (rb ?_)))
 iterate 2 refine st ?_
 obtain ⟨Ne,of,h⟩:=ha h
 replace b:=b.da Da
 refine Aa (n.ui (d.t (j.t (p.t x))) ne of b) ?_
 rintro _ Rz ⟨AC,wf,If,GE,c85,rfl,K,b,dg,rg⟩
 refine fa ?_
 refine wl (vj underlying122 pc rfl (aa (Sa d0)) rfl b ?_); clear b; intro bi LE NE b; refine fa ?_
 refine wl (Nd pc il (ab.o rfl (aa (wa d8)) rfl rfl Ga (ab.o rfl (aa (Sa d1)) rfl rfl ec ab.z)) (ma (oc Ib)) (wl (yb pc (aa d2) (aa (Sa d2)) rfl rfl b d5 rfl cd Ma ?_)))
 clear b; intro WF b
 refine ja (Ra ?_)
 refine (fun h=>Ab (Fa (Ab (Fa h)))) ?_
 obtain ⟨RK,ci,h⟩:=ha h
 replace b:=(b.da Da).da Eb
 refine mj ts (fs (d.t (j.t (p.t (x.t K)))) rg ci b) ?_
 rintro _ WL ⟨XL,YL,c93,rfl,L,b,ii⟩
 replace b:=b.da Eb
 obtain ⟨ZL,M,li,b⟩:=Sep.ud (l:=([Ne.1]:List ua)) b (pa.one (α:=ua) (ua.i ⟨wf,If,rfl,(dg.up L)⟩)) (Nat.le_of_ble_eq_true rfl)
 obtain rfl:=Ea h
 refine vg rfl (Qa.s (.a d2 pc (b.ba d4).cells rfl) Qa.z) ?_
 replace b:=(((b.drop ia.z).drop (ia.s ia.z)).drop (ia.s ia.z)).drop (ia.s ia.z)
 exact ⟨_,(some ⟨bi,0,none⟩),1,_,_,rfl,(j.t (p.t (x.t (K.t (L.t M))))),b,li,(ii.up M)⟩
 intro he h
 refine Va ?_
 refine (fun h=>Pb (za h)) (Ep (Vm ?_))
 refine ea (wl (eB (aa d7) b d1 d2 m u (.inl ⟨rfl,rfl⟩) (ma Yd) (st (ob (Cp (aa d9) (ke ?_))))))
 refine (fun h=>jc (jc (pe h))) ?_
 refine ra (ea (st ?_))
 obtain ⟨aM,pi,h⟩:=ha h
 refine Aa (n.Gg (d.t (j.t p)) H pi b) ?_
 rintro _ bM ⟨cM,dM,eM,fM,gM,rfl,Pi,b,mk,ok⟩
 refine fa (wl (yb pc (aa d2) (aa (Sa d4)) rfl rfl b d3 rfl ec Ma ?_))
 clear b; intro hM b
 refine ja (Ra ?_)
 obtain rfl:=Ea h
 refine vg rfl (Qa.s (.a d2 pc (b.ba d3).cells rfl) Qa.z) ?_
 replace b:=((b.drop (ia.s ia.z)).drop (ia.s ia.z)).drop (ia.s ia.z)
 exact ⟨_,_,_,_,_,rfl,(j.t (p.t Pi)),b,mk,ok⟩
 clear b; intro iM f g b; cases (show _=f from g)
 replace b:=Sep.te b Ga; refine fa ?_
 replace h:=UF (by decide) h
 refine st (ob (Bm (aa d9) (Va (ra (Qb (ea (wl (Sv (e:=⟨S [110,111,116],.int .i64 5,C⟩) (aa d7) b d0 d1 m rfl (.inr rfl) (ma (Jb Ga)) ?_))))))))
 iterate 4 refine st ?_
 refine rb ?_
 iterate 2 refine st ?_
 obtain ⟨jM,dl,h⟩:=ha h
 replace b:=b.da bb
 refine Aa (Rg d m5 dl b) ?_
 rintro _ kM ⟨lM,a109,mM,rfl,k,b,N⟩
 refine fa (ja ?_)
 refine ed h ?_ ?_
 intro el h
 refine ea (st ?_)
 obtain ⟨nM,nl,h⟩:=ha h
 refine Aa (Zr (d.t k) N nl b) ?_
 rintro _ oM ⟨pM,qM,a117,rM,rfl,y,b,ol⟩
 refine fa (wl (Bo (aa (wa d7)) hb Ma (rb ?_)))
 iterate 2 refine st ?_
 obtain ⟨pl,ul,h⟩:=ha h
 replace b:=b.da Da
 refine Aa (n.ui (d.t (k.t y)) ol ul b) ?_
 rintro _ sM ⟨tM,am,c124,uM,c127,rfl,P,b,em,hm⟩
 refine fa ?_
 refine wl (vj underlying122 pc rfl (aa (Sa d0)) rfl b ?_); clear b; intro lm vM wM b; refine fa ?_
 refine wl (Nd pc il (ab.o rfl (aa (wa d8)) rfl rfl Ga (ab.o rfl (aa (Sa d1)) rfl rfl ec ab.z)) (ma (oc Ib)) (wl (yb pc (aa d2) (aa (Sa d2)) rfl rfl b d5 rfl cd Ma ?_)))
 clear b; intro xM b
 refine ja (Ra ?_)
 refine (fun h=>Ab (Fa (Ab (Fa h)))) ?_
 obtain ⟨yM,pm,h⟩:=ha h
 replace b:=(b.da Da).da Eb
 refine mj ts (fs (d.t (k.t (y.t P))) hm pm b) ?_
 rintro _ zM ⟨AM,BM,CM,rfl,Q,b,sm⟩
 replace b:=b.da Eb
 obtain ⟨DM,R,Nm,b⟩:=Sep.ud (l:=([pl.1]:List ua)) b (pa.one (α:=ua) (ua.i ⟨am,c124,rfl,(em.up Q)⟩)) (Nat.le_of_ble_eq_true rfl)
 obtain rfl:=Ea h
 refine vg rfl (Qa.s (.a d2 pc (b.ba d4).cells rfl) Qa.z) ?_
 replace b:=(((b.drop ia.z).drop (ia.s ia.z)).drop (ia.s ia.z)).drop (ia.s ia.z)
 exact ⟨_,(some ⟨lm,0,none⟩),1,_,_,rfl,(k.t (y.t (P.t (Q.t R)))),b,Nm,(sm.up R)⟩
 intro el h
 refine Va ?_
 refine (fun h=>Pb (za h)) (Ep (Vm ?_))
 refine ea (wl (eF (aa d7) b d1 d2 m u ?_))
 clear b; intro EM f g b; cases (show _=f from g)
 replace b:=Sep.te b kb; refine fa ?_
 refine st (ob (Bm (aa d9) (Va (ra (Qb (ea (wl (Sv (e:=⟨S [45],.int .i64 4,B⟩) (aa d7) b d1 d2 m rfl (.inl rfl) (ma (Jb Ga)) ?_))))))))
 iterate 4 refine st ?_
 refine rb ?_
 iterate 2 refine st ?_
 obtain ⟨FM,fn,h⟩:=ha h
 refine Aa (Rg (d.t k) N fn b) ?_
 rintro _ GM ⟨HM,IM,c143,rfl,q,b,T⟩
 refine fa (ja ?_)
 refine ed h ?_ ?_
 intro on h
 refine ea (st ?_)
 obtain ⟨JM,un,h⟩:=ha h
 refine Aa (Zr (d.t (k.t q)) T un b) ?_
 rintro _ KM ⟨LM,MM,NM,OM,rfl,A,b,wn⟩
 refine fa (wl (Bo (aa (wa d7)) hb Ma (rb ?_)))
 iterate 2 refine st ?_
 obtain ⟨Fn,In,h⟩:=ha h
 replace b:=b.da Da
 refine Aa (n.ui (d.t (k.t (q.t A))) wn In b) ?_
 rintro _ PM ⟨QM,a156,c157,a159,c160,rfl,V,b,co,go⟩
 refine fa ?_
 refine wl (vj underlying122 pc rfl (aa (Sa d0)) rfl b ?_); clear b; intro io RM SM b; refine fa ?_
 refine wl (Nd pc il (ab.o rfl (aa (wa d8)) rfl rfl Ga (ab.o rfl (aa (Sa d1)) rfl rfl ec ab.z)) (ma (oc Ib)) (wl (yb pc (aa d2) (aa (Sa d2)) rfl rfl b d5 rfl cd Ma ?_)))
 clear b; intro TM b
 refine ja (Ra ?_)
 refine (fun h=>Ab (Fa (Ab (Fa h)))) ?_
 obtain ⟨UM,no,h⟩:=ha h
 replace b:=(b.da Da).da Eb
 refine mj ts (fs (d.t (k.t (q.t (A.t V)))) go no b) ?_
 rintro _ VM ⟨WM,a167,c168,rfl,W,b,ro⟩
 replace b:=b.da Eb
 obtain ⟨XM,X,to,b⟩:=Sep.ud (l:=([Fn.1]:List ua)) b (pa.one (α:=ua) (ua.i ⟨a156,c157,rfl,(co.up W)⟩)) (Nat.le_of_ble_eq_true rfl)
 obtain rfl:=Ea h
 refine vg rfl (Qa.s (.a d2 pc (b.ba d4).cells rfl) Qa.z) ?_
 replace b:=(((b.drop ia.z).drop (ia.s ia.z)).drop (ia.s ia.z)).drop (ia.s ia.z)
 exact ⟨_,(some ⟨io,0,none⟩),1,_,_,rfl,(k.t (q.t (A.t (V.t (W.t X))))),b,to,(ro.up X)⟩
 intro on h
 refine Va ?_
 refine (fun h=>Pb (za h)) (Ep (Vm ?_))
 refine ea (wl (eB (aa d7) b d1 d2 m u (.inr ⟨rfl,rfl⟩) (ma Yd) (st (ob (Cp (aa d9) (ke ?_))))))
 refine (fun h=>jc (jc (pe h))) ?_
 refine ra (ea (st ?_))
 obtain ⟨YM,Do,h⟩:=ha h
 refine Aa (n.Gg (d.t (k.t q)) T Do b) ?_
 rintro _ ZM ⟨aN,a175,bN,cN,dN,rfl,Go,b,ap,ip⟩
 refine fa (wl (yb pc (aa d2) (aa (Sa d4)) rfl rfl b d3 rfl ec Ma ?_))
 clear b; intro eN b
 refine ja (Ra ?_)
 obtain rfl:=Ea h
 refine vg rfl (Qa.s (.a d2 pc (b.ba d3).cells rfl) Qa.z) ?_
 replace b:=((b.drop (ia.s ia.z)).drop (ia.s ia.z)).drop (ia.s ia.z)
 exact ⟨_,_,_,_,_,rfl,(k.t (q.t Go)),b,ap,ip⟩
theorem lD {fu:Nat} {self:Yi} (u:aq self):hz (Gg fu self):=by
 intro I J w O g U F a3 c4 G H r m5 h b
 unfold Gg at h
 refine enter func127 rfl (frm:=_::Cf (zd (Ge (Wf (Xe (Ze [])))))) rfl (ea ?_)
 refine wl (bd pc b ?_); clear b; intro gc Op eq b; refine fa ?_
 refine ob (Qb (db ?_))
 refine Ub (rg 7 16) (by decide) (fun m w=>∃ K B,m=(Og (.i (.bool B)::(Rc 7 (ml 17 []))))∧Fh fu self F G H B=some r∧ga I K∧ka K J w (.ba U 71 [.slice a3 F.length c4,.int .i64 G,.int .i64 H]::.ba gc 124 [.int .i64 0,.int .i64 0,S [],.slice none 0 0]::O)) (by rintro _ _ ⟨_,_,rfl,_⟩; rfl) ?_ ?_
 refine eb ?_
 iterate 3 refine st ?_
 refine Ha ((b.ba d1).cell d0) (wl (Ja (Qd underlying64 (aa (wa d0))) (ma (Jb kb)) ?_))
 iterate 2 refine st ?_
 refine me 13 h ?_ ?_
 intro lc h
 refine Ta rfl (Ta rfl (Ta rfl (mc rfl (wa d3) (de Un (aa (wa d6)) ((b.ba d1).cell d0) (ma (Jb sd)) ?_))))
 obtain ⟨rc,g19,h⟩:=ha h
 obtain ⟨Eq,fr,Ig,fd,f24,id⟩:=Pc.elem m5 g19
 obtain rfl:=id
 refine mc rfl (wa d3) (Ja (Mc underlying64 Kj (aa (wa d7)) Ba fd) (ma (Jb Yd)) (Ta rfl (mc rfl (wa d3) (de Uc (aa (wa d9)) ((f24 _ b.a).one d0) (ma (oc Ga)) (Ta rfl ?_)))))
 iterate 2 refine st ?_
 refine La (za ?_)
 replace b:=b.da Da
 exact ⟨_,_,rfl,(ye (Na (qb (di ta)))),_,(decide (rc.Kind=2)),rfl,h,ga.r,b⟩
 intro lc h
 refine oa rfl rfl (oa rfl rfl (oa rfl rfl (oa rfl rfl (oa rfl rfl (oa rfl rfl (oa rfl rfl (oa rfl rfl ?_)))))))
 iterate 2 refine st ?_
 refine La (za ?_)
 replace b:=b.da Da
 exact ⟨_,_,rfl,(ye (Na (qb (di ta)))),_,false,rfl,h,ga.r,b⟩
 rintro _ t or ⟨qr,B,rfl,h,c,b⟩
 unfold Fh at h
 refine Vb (Zg (kc (Wc (Em pb)))) (ra ?_)
 refine ed h ?_ ?_
 intro md h
 refine ea (st ?_)
 obtain ⟨wr,rd,h⟩:=ha h
 refine Aa (Fz (g.t c) (m5.up c) rd b) ?_
 rintro _ Fr ⟨Or,a31,cs,rfl,wd,b,Fd⟩
 refine fa (wl (Nd pc il (ab.o rfl Ba rfl rfl Ga (ab.o rfl (aa (Sa d4)) rfl rfl kb ab.z)) (ma (oc cd)) (wl (yb pc (aa d2) (aa (Sa d5)) rfl rfl b d1 rfl kb Ma ?_))))
 clear b; intro ds b
 refine ja (Ra ?_)
 refine (fun h=>Ab (Fa h)) ?_
 obtain rfl:=Ea h
 refine Ad rfl (Qa.s (.a d2 pc (b.ba d1).cells rfl) Qa.z) ?_
 replace b:=b.drop (ia.s ia.z)
 exact ⟨_,none,0,_,_,rfl,(c.t wd),b,Ka.nil,Fd⟩
 intro md h
 refine ea (st ?_)
 obtain ⟨es,Id,h⟩:=ha h
 refine Aa (Rg (g.t c) (m5.up c) Id b) ?_
 rintro _ gs ⟨is,a37,ls,rfl,d,b,L⟩
 refine fa (st (ja ?_))
 refine ed h ?_ ?_
 intro be h
 refine ea (wl (Nd pc il (ab.o rfl Ba rfl rfl Ga (ab.o rfl Ba rfl rfl kb ab.z)) (ma (oc Ed)) (wl (yb pc (aa d2) (aa (Sa d9)) rfl rfl b d1 rfl kb Ma ?_))))
 clear b; intro ms b
 refine ja (Ra ?_)
 refine (fun h=>Ab (Fa h)) ?_
 obtain rfl:=Ea h
 refine Ad rfl (Qa.s (.a d2 pc (b.ba d1).cells rfl) Qa.z) ?_
 replace b:=b.drop (ia.s ia.z)
 exact ⟨_,none,0,_,_,rfl,(c.t d),b,Ka.nil,L⟩
 intro be h
 refine ea (st ?_)
 obtain ⟨os,ce,h⟩:=ha h
 refine Aa (Rg (g.t (c.t d)) L ce b) ?_
 rintro _ rs ⟨us,vs,ws,rfl,e,b,M⟩
 refine fa (st (ja ?_))
 refine ed h ?_ ?_
 intro ge h
 refine ea (wl (Nd pc il (ab.o rfl Ba rfl rfl Ga ab.z) (ma (qd ec)) (wl (yb pc (aa d2) (aa (ib d3)) rfl rfl b d1 rfl kb Ma ?_))))
 clear b; intro Mf b
 refine ja (Ra ?_)
 refine (fun h=>Ab (Fa h)) ?_
 obtain rfl:=Ea h
 refine Ad rfl (Qa.s (.a d2 pc (b.ba d1).cells rfl) Qa.z) ?_
 replace b:=b.drop (ia.s ia.z)
 exact ⟨_,none,0,_,_,rfl,(c.t (d.t e)),b,Ka.nil,M⟩
 intro ge h
 refine ea (st ?_)
 obtain ⟨xs,he,h⟩:=ha h
 refine Aa (Rg (g.t (c.t (d.t e))) M he b) ?_
 rintro _ ys ⟨Os,a51,gt,rfl,f,b,N⟩
 refine fa (st (ja ?_))
 refine ed h ?_ ?_
 intro le h
 refine ea (st ?_)
 obtain ⟨it,ne,h⟩:=ha h
 refine Aa (u.ug (g.t (c.t (d.t (e.t f)))) N ne b) ?_
 rintro _ lt ⟨mt,rt,c59,ut,wt,rfl,P,b,Ne,of⟩
 refine fa ?_
 refine wl (bd pc b ?_); clear b; intro hu pu bv b; refine fa ?_
 refine wl (yb pc (aa d3) (aa (ib d8)) rfl rfl b d0 rfl Ga Ma ?_)
 clear b; intro hw b
 refine rb (st ?_)
 refine wl (xd underlying131 Hb (fb.s Ba rfl fb.z) rfl rfl b ?_); clear b; intro kw lw ww b; refine fa ?_
 obtain ⟨ex,y,wf,b⟩:=Sep.ud (l:=([[41]]:List (List UInt8))) b (pa.one (α:=List UInt8) rfl) (Nat.le_of_ble_eq_true rfl)
 obtain ⟨rx,If,h⟩:=ha h
 replace b:=b.da Da
 refine Aa (Hj (g.t (c.t (d.t (e.t (f.t (P.t y)))))) (of.up y) wf If b) ?_
 rintro _ xx ⟨zx,ty,sz,rfl,Q,b,dg⟩
 refine fa (rb (Ae (b.ba d1).cells rfl (wl (yb pc (aa d2) (aa (Bb d2)) rfl rfl b d2 rfl Ib Ma ?_))))
 clear b; intro Rz b
 refine ja (Ra ?_)
 refine (fun h=>Ab (Fa h)) ?_
 obtain rfl:=Ea h
 refine Ad rfl (Qa.s (.a d2 pc (b.ba d2).cells rfl) Qa.z) ?_
 replace b:=(b.drop (ia.s ia.z)).drop (ia.s ia.z)
 exact ⟨_,_,_,_,_,rfl,(c.t (d.t (e.t (f.t (P.t (y.t Q)))))),b,(Ne.up (y.t Q)),dg⟩
 intro le h
 refine ea (st ?_)
 obtain ⟨AC,bi,h⟩:=ha h
 refine Aa (Rg (g.t (c.t (d.t (e.t f)))) N bi b) ?_
 rintro _ GE ⟨LE,NE,c80,rfl,j,b,R⟩
 refine fa (st (ja ?_))
 refine ed h ?_ ?_
 intro ci h
 refine ea (st ?_)
 refine wl (xd underlying131 Hb (fb.s Ba rfl fb.z) rfl rfl b ?_); clear b; intro WF RK WL b; refine fa ?_
 obtain ⟨XL,v,ii,b⟩:=Sep.ud (l:=([[40]]:List (List UInt8))) b (pa.one (α:=List UInt8) rfl) (Nat.le_of_ble_eq_true rfl)
 obtain ⟨YL,li,h⟩:=ha h
 refine Aa (Hj (g.t (c.t (d.t (e.t (f.t (j.t v)))))) (R.up v) ii li b) ?_
 rintro _ ZL ⟨aM,bM,c91,rfl,C,b,pi⟩
 refine fa (rb (st ?_))
 obtain ⟨cM,Pi,h⟩:=ha h
 refine Aa (um (g.t (c.t (d.t (e.t (f.t (j.t (v.t C))))))) pi Pi b) ?_
 rintro _ dM ⟨eM,fM,gM,rfl,T,b,kk⟩
 refine fa (wl (Nd pc il (ab.o rfl Ba rfl rfl Ga (ab.o rfl (aa (sb d0)) rfl rfl Ib ab.z)) (ma (ee kb)) ?_))
 refine wl (bd pc b ?_); clear b; intro hM iM jM b; refine fa ?_
 refine wl (yb pc (aa d4) (aa (sb d1)) rfl rfl b d0 rfl Ga Ma ?_)
 clear b; intro kM b
 refine rb (st ?_)
 refine wl (xd underlying131 Hb (fb.s Ba rfl fb.z) rfl rfl b ?_); clear b; intro lM mM nM b; refine fa ?_
 obtain ⟨oM,D,mk,b⟩:=Sep.ud (l:=([[41]]:List (List UInt8))) b (pa.one (α:=List UInt8) rfl) (Nat.le_of_ble_eq_true rfl)
 obtain ⟨pM,ok,h⟩:=ha h
 replace b:=b.da Da
 refine Aa (Hj (g.t (c.t (d.t (e.t (f.t (j.t (v.t (C.t (T.t D))))))))) (kk.up D) mk ok b) ?_
 rintro _ qM ⟨rM,sM,c109,rfl,dl,b,el⟩
 refine fa (rb (Ae (b.ba d1).cells rfl (wl (yb pc (aa d2) (aa (sb d5)) rfl rfl b d2 rfl Ib Ma ?_))))
 clear b; intro tM b
 refine ja (Ra ?_)
 refine (fun h=>Ab (Fa h)) ?_
 obtain rfl:=Ea h
 refine Ad rfl (Qa.s (.a d2 pc (b.ba d2).cells rfl) Qa.z) ?_
 replace b:=(b.drop (ia.s ia.z)).drop (ia.s ia.z)
 exact ⟨_,none,0,_,_,rfl,(c.t (d.t (e.t (f.t (j.t (v.t (C.t (T.t (D.t dl))))))))),b,Ka.nil,el⟩
 intro ci h
 refine ea (st ?_)
 obtain ⟨uM,nl,h⟩:=ha h
 refine Aa (Rg (g.t (c.t (d.t (e.t (f.t j))))) R nl b) ?_
 rintro _ vM ⟨wM,xM,yM,rfl,k,b,V⟩
 refine fa (st (ja ?_))
 refine ed h ?_ ?_
 intro ol h
 refine ea (st ?_)
 obtain ⟨zM,pl,h⟩:=ha h
 refine Aa (u.uj (g.t (c.t (d.t (e.t (f.t (j.t k)))))) V pl b) ?_
 rintro _ AM ⟨BM,CM,DM,a124,EM,rfl,ul,b,am,em⟩
 refine fa (wl (yb pc (aa d2) (aa (Gc d0)) rfl rfl b d1 rfl kb Ma ?_))
 clear b; intro FM b
 refine ja (Ra ?_)
 refine (fun h=>Ab (Fa h)) ?_
 obtain rfl:=Ea h
 refine Ad rfl (Qa.s (.a d2 pc (b.ba d1).cells rfl) Qa.z) ?_
 replace b:=b.drop (ia.s ia.z)
 exact ⟨_,_,_,_,_,rfl,(c.t (d.t (e.t (f.t (j.t (k.t ul)))))),b,am,em⟩
 intro ol h
 refine ea (st ?_)
 obtain ⟨GM,hm,h⟩:=ha h
 refine Aa (Rg (g.t (c.t (d.t (e.t (f.t (j.t k)))))) V hm b) ?_
 rintro _ HM ⟨IM,a130,c131,rfl,n,b,W⟩
 refine fa (st (ja ?_))
 refine ed h ?_ ?_
 intro lm h
 refine ea (st ?_)
 obtain ⟨JM,pm,h⟩:=ha h
 refine Aa (u.uj (g.t (c.t (d.t (e.t (f.t (j.t (k.t n))))))) W pm b) ?_
 rintro _ KM ⟨LM,MM,c138,NM,c141,rfl,sm,b,Nm,fn⟩
 refine fa (wl (yb pc (aa d2) (aa (Gc d5)) rfl rfl b d1 rfl kb Ma ?_))
 clear b; intro OM b
 refine ja (Ra ?_)
 refine (fun h=>Ab (Fa h)) ?_
 obtain rfl:=Ea h
 refine Ad rfl (Qa.s (.a d2 pc (b.ba d1).cells rfl) Qa.z) ?_
 replace b:=b.drop (ia.s ia.z)
 exact ⟨_,_,_,_,_,rfl,(c.t (d.t (e.t (f.t (j.t (k.t (n.t sm))))))),b,Nm,fn⟩
 intro lm h
 refine ea (st ?_)
 obtain ⟨PM,on,h⟩:=ha h
 refine Aa (Rg (g.t (c.t (d.t (e.t (f.t (j.t (k.t n))))))) W on b) ?_
 rintro _ QM ⟨RM,a146,SM,rfl,p,b,X⟩
 refine fa (st (ja ?_))
 refine ed h ?_ ?_
 intro un h
 refine ea (st ?_)
 obtain ⟨TM,wn,h⟩:=ha h
 refine Aa (u.uj (g.t (c.t (d.t (e.t (f.t (j.t (k.t (n.t p)))))))) X wn b) ?_
 rintro _ UM ⟨VM,WM,c154,a156,c157,rfl,Fn,b,In,co⟩
 refine fa (wl (yb pc (aa d2) (aa (Oc d0)) rfl rfl b d1 rfl kb Ma ?_))
 clear b; intro XM b
 refine ja (Ra ?_)
 refine (fun h=>Ab (Fa h)) ?_
 obtain rfl:=Ea h
 refine Ad rfl (Qa.s (.a d2 pc (b.ba d1).cells rfl) Qa.z) ?_
 replace b:=b.drop (ia.s ia.z)
 exact ⟨_,_,_,_,_,rfl,(c.t (d.t (e.t (f.t (j.t (k.t (n.t (p.t Fn)))))))),b,In,co⟩
 intro un h
 refine ea (st ?_)
 obtain ⟨YM,go,h⟩:=ha h
 refine Aa (Rg (g.t (c.t (d.t (e.t (f.t (j.t (k.t (n.t p)))))))) X go b) ?_
 rintro _ ZM ⟨aN,a162,bN,rfl,q,b,Y⟩
 refine fa (st (ja ?_))
 refine ed h ?_ ?_
 intro io h
 refine ea (st ?_)
 obtain ⟨cN,no,h⟩:=ha h
 refine Aa (um (g.t (c.t (d.t (e.t (f.t (j.t (k.t (n.t (p.t q))))))))) Y no b) ?_
 rintro _ dN ⟨eN,fN,gN,rfl,Z,b,ro⟩
 refine fa (st ?_)
 obtain ⟨hN,to,h⟩:=ha h
 refine Aa (u.Ml (g.t (c.t (d.t (e.t (f.t (j.t (k.t (n.t (p.t (q.t Z)))))))))) ro to b) ?_
 rintro _ iN ⟨jN,a175,kN,lN,mN,rfl,Do,b,Go,ap⟩
 refine fa (wl (Nd pc il (ab.o rfl Ba rfl rfl Ga (ab.o rfl (aa (Oc d5)) rfl rfl Ib (ab.o rfl (aa (Oc d7)) rfl rfl ec ab.z))) (ma (Zf Yd)) (wl (yb pc (aa d2) (aa (Oc d8)) rfl rfl b d1 rfl kb Ma ?_))))
 clear b; intro nN b
 refine ja (Ra ?_)
 refine (fun h=>Ab (Fa h)) ?_
 obtain rfl:=Ea h
 refine Ad rfl (Qa.s (.a d2 pc (b.ba d1).cells rfl) Qa.z) ?_
 replace b:=b.drop (ia.s ia.z)
 exact ⟨_,_,_,_,_,rfl,(c.t (d.t (e.t (f.t (j.t (k.t (n.t (p.t (q.t (Z.t Do)))))))))),b,Go,ap⟩
 intro io h
 refine Va ?_
 refine (fun h=>Pb (ra h)) ?_
 refine ea (st ?_)
 obtain ⟨oN,ip,h⟩:=ha h
 refine Aa (um (g.t (c.t (d.t (e.t (f.t (j.t (k.t (n.t (p.t q))))))))) Y ip b) ?_
 rintro _ pN ⟨qN,rN,sN,rfl,A,b,E⟩
 refine fa (st (ob (ea (st ?_))))
 obtain ⟨tN,jp,h⟩:=ha h
 refine Aa (IA (g.t (c.t (d.t (e.t (f.t (j.t (k.t (n.t (p.t (q.t A)))))))))) E jp b) ?_
 rintro _ uN ⟨vN,rfl,x,b⟩
 refine fa (ja ?_)
 refine ed h ?_ ?_
 intro mp h
 refine ea ?_
 iterate 2 refine st ?_
 obtain ⟨wN,op,h⟩:=ha h
 refine Aa (u.Ml (g.t (c.t (d.t (e.t (f.t (j.t (k.t (n.t (p.t (q.t (A.t x))))))))))) (E.up x) op b) ?_
 rintro _ xN ⟨yN,a194,zN,AN,c198,rfl,pp,b,sp,wp⟩
 refine fa (wl (Nd pc il (ab.o rfl Ba rfl rfl Ga (ab.o rfl (aa (Nc d3)) rfl rfl Ib (ab.o rfl (aa (Nc d5)) rfl rfl ec ab.z))) (ma (qg ad)) (wl (yb pc (aa d2) (aa (Nc d6)) rfl rfl b d1 rfl kb Ma ?_))))
 clear b; intro BN b
 refine ja (Ra (Fa ?_))
 obtain rfl:=Ea h
 refine Ad rfl (Qa.s (.a d2 pc (b.ba d1).cells rfl) Qa.z) ?_
 replace b:=b.drop (ia.s ia.z)
 exact ⟨_,_,_,_,_,rfl,(c.t (d.t (e.t (f.t (j.t (k.t (n.t (p.t (q.t (A.t (x.t pp))))))))))),b,sp,wp⟩
 intro mp h
 refine Va (ra (ea (st (wl (Nd pc il (ab.o rfl Ba rfl rfl Ga (ab.o rfl (aa (Nc d7)) rfl rfl Ib ab.z)) (ma (qg Yd)) (wl (yb pc (aa d2) (aa (Nc d8)) rfl rfl b d1 rfl kb Ma ?_)))))))
 clear b; intro CN b
 refine ja (Ra ?_)
 obtain rfl:=Ea h
 refine Ad rfl (Qa.s (.a d2 pc (b.ba d1).cells rfl) Qa.z) ?_
 replace b:=b.drop (ia.s ia.z)
 exact ⟨_,none,0,_,_,rfl,(c.t (d.t (e.t (f.t (j.t (k.t (n.t (p.t (q.t (A.t x)))))))))),b,Ka.nil,(E.up x)⟩
theorem mF {fu:Nat} {self:Yi} (V:aq self):KA (Ml fu self):=by
 intro I J w O k U dg a3 c4 bi ci r m5 h a
 unfold Ml at h
 refine enter func135 rfl (frm:=_::Cf (zd (Ge (Xe [])))) rfl (ea (st (rb (st (ob (ea (st ?_)))))))
 refine wl (xd underlying131 Hb (fb.s Ba rfl fb.z) rfl rfl a ?_); clear a; intro ii li pi a; refine fa ?_
 obtain ⟨Pi,d,m16,a⟩:=Sep.ud (l:=([[40]]:List (List UInt8))) a (pa.one (α:=List UInt8) rfl) (Nat.le_of_ble_eq_true rfl)
 obtain ⟨x,g19,h⟩:=ha h
 refine Aa (Hj (k.t d) (m5.up d) m16 g19 a) ?_
 rintro _ kk ⟨W,a21,X,rfl,o,a,m23⟩
 refine fa (ja (Qb ?_))
 replace a:=a.Qh 124 (cb.sz ua)
 replace a:=a.da Da
 refine Se (rg 7 21) (by decide +kernel) (fun n m w=>∃ c p y A i67 i68 e q g,m=(kg (.i (q)::(kg (Uf 7 (Sc 27 [])))))∧nm self n p i67 i68 e=some r∧ga W c∧ka c J w (.ba U 71 [.slice y p.length A,.int .i64 i67,.int .i64 i68]::.row q 124 4 e.length g::O)∧Ka c y A p∧pa c g e) (by rintro _ _ _ ⟨_,_,_,_,_,_,_,_,_,rfl,_⟩; rfl) _ _ (Md (Na (Md (zc (lb ta))))) ⟨_,x.1,a21,X,x.2.1,x.2.2,[],(.slice none 0 0),[],rfl,h,ga.r,a,m23,pa.nil⟩ ?_
 rintro u _ t mk ⟨ok,p,y,A,i67,i68,e,q,g,rfl,h,j,a,Y,L⟩
 rcases u with _|u
 cases h
 unfold nm at h
 refine Te (sg (kc (sg (fg (Xc pb))))) (db (ea (st ?_)))
 obtain ⟨B,Z,h⟩:=ha h
 refine Aa (Rg (k.t (d.t (o.t j))) Y Z a) ?_
 rintro _ dl ⟨gc,a117,el,rfl,f,a,C⟩
 refine fa (st (ja ?_))
 refine pj h ?_ ?_
 intro lc h
 refine Va (ra (Qb (db (ea (st (wl (Ja (wj underlying122 (aa (wa d0)) (a.get d1).yj) (ma (Jb kb)) (st (ja ?_)))))))))
 refine Ub (rg 13 3) (by decide) (fun m w=>∃ c v D E i125 i126,m=(yd (kg (Yg 13 [])))∧Mr self e (nm self u) v i125 i126=some r∧ga gc c∧ka c J w (.ba U 71 [.slice D v.length E,.int .i64 i125,.int .i64 i126]::.row q 124 4 e.length g::O)∧Ka c D E v) (by rintro _ _ ⟨_,_,_,_,_,_,rfl,_⟩; rfl) ?_ ?_
 refine Za h ?_ ?_
 intro rc h
 refine eb (st ?_)
 refine wl (xd underlying131 Hb (fb.s Ba rfl fb.z) rfl rfl a ?_); clear a; intro nl ol pl a; refine fa ?_
 obtain ⟨ul,F,fd,a⟩:=Sep.ud (l:=([[44]]:List (List UInt8))) a (pa.one (α:=List UInt8) rfl) (Nat.le_of_ble_eq_true rfl)
 obtain ⟨G,id,h⟩:=ha h
 refine Aa (Hj (k.t (d.t (o.t (j.t (f.t F))))) (C.up F) fd id a) ?_
 rintro _ am ⟨em,hm,lm,rfl,md,a,rd⟩
 refine fa (La (za ?_))
 exact ⟨_,_,rfl,(xb (Md (ue ta))),_,G.1,_,_,G.2.1,G.2.2,rfl,h,(F.t md),a,rd⟩
 intro rc h
 refine Va (za ?_)
 exact ⟨_,_,rfl,(xb (Md (ue ta))),_,B.2.1,_,_,B.2.2.1,B.2.2.2,rfl,h,ga.r,a,C⟩
 rintro _ t pm ⟨sm,v,D,E,i125,i126,rfl,h,H,a,wd⟩
 unfold Mr at h
 refine Vb (Dd (sg (qh pb))) (ra (db (ea (st (wl (Ja (wj underlying122 (aa (wa d6)) (a.get d1).yj) (ma (Jb sd)) (st (ja ?_))))))))
 refine Za h ?_ ?_
 intro Fd h
 cases h
 intro Fd h
 refine Va (ra (eb ?_))
 iterate 2 refine st ?_
 obtain ⟨b,Id,h⟩:=ha h
 refine Aa (V.ug (k.t (d.t (o.t (j.t (f.t H))))) wd Id a) ?_
 rintro _ Mf ⟨be,K,c145,ce,c148,rfl,M,a,ge,he⟩
 refine fa ?_
 refine wl (vj underlying122 pc rfl (aa (Sa d5)) rfl a ?_); clear a; intro Nm fn on a; refine fa ?_
 obtain ⟨le,P,h⟩:=ha h
 have Q:pa be [.int .i64 b.1.Kind,.int .i64 b.1.N,S b.1.Name,.slice K b.1.Kids.length c145] [b.1]:=(pa.one (α:=ua) (ua.i ⟨K,c145,rfl,ge⟩))
 have ne:=pa.app (L.up (f.t (H.t M))) Q P
 refine wl (xj underlying122 pc rfl (aa (Sa d3)) (aa (Sa d6)) a d2 (a.ba d0).cells Q rfl P (by decide) ?_); clear a; intro v152 un Ne of a; cases (show _=Ne from of)
 replace a:=Sep.te a Ib; refine fa ?_
 replace a:=a.drop ia.z
 refine st (La ?_)
 refine (fun h=>Pb (za h)) ?_
 exact ⟨u,_,_,rfl,(Md (Na (Md (zc (lb ta))))),⟨_,b.2.1,ce,c148,b.2.2.1,b.2.2.2,le,v152,(g++[.int .i64 b.1.Kind,.int .i64 b.1.N,S b.1.Name,.slice K b.1.Kids.length c145]),rfl,h,(j.t (f.t (H.t M))),a,he,ne⟩,Nat.lt_succ_self _⟩
 intro lc h
 refine ke ?_
 refine (fun h=>jc (jc (pe h))) ?_
 refine ra (ea ?_)
 iterate 2 refine st ?_
 refine ja (Ra ?_)
 replace a:=a.da Da
 obtain ⟨wn,a157,Fn,wf,R,If,T⟩:=Sep.Gi a (L.up f) rfl; clear a
 subst wf; have a:=T; clear T
 obtain rfl:=Ea h
 refine Ob rfl d2 ?_
 exact ⟨_,_,_,_,_,rfl,(d.t (o.t (j.t (f.t R)))),a,If,(C.up R)⟩
theorem FE {self:Yi} (id:aq self):jA (uj self):=by
 intro I J w O v U pl a3 c4 ul am e p_3 r m5 h b
 unfold uj at h
 refine enter func134 rfl (frm:=_::_::_::zd (Wf (Xe []))) rfl (ea ?_)
 refine wl (bd pc b ?_); clear b; intro F em hm b; refine fa ?_
 refine rb (st (wl (Nd pc il (ab.o rfl (aa d9) rfl rfl Ga ab.z) (ma (Jb Ga)) ?_)))
 refine wl (bd pc b ?_); clear b; intro G lm pm b; refine fa ?_
 refine wl (yb pc (aa d7) (aa (wa d0)) rfl rfl b d0 rfl Ga Ma ?_)
 clear b; intro sm b
 refine rb (st ?_)
 refine wl (xd underlying131 Hb (fb.s Ba rfl fb.z) rfl rfl b ?_); clear b; intro Nm fn on b; refine fa ?_
 obtain ⟨un,f,m20,b⟩:=Sep.ud (l:=([[40]]:List (List UInt8))) b (pa.one (α:=List UInt8) rfl) (Nat.le_of_ble_eq_true rfl)
 obtain ⟨H,g23,h⟩:=ha h
 replace b:=b.da Eb
 refine Aa (Hj (v.t f) (m5.up f) m20 g23 b) ?_
 rintro _ wn ⟨md,rd,wd,rfl,x,b,Fd⟩
 refine fa (ob (ea ?_))
 iterate 2 refine st ?_
 refine ja (Qb ?_)
 replace b:=b.Qh 124 (cb.sz ua)
 replace b:=((b.da Eb).da bb).da bb
 refine Se ([8]++rg 16 15) (by decide) (fun n m w=>∃ c i63 y K L i68 i69 g v70 j,m=(Kh (Sc 8 (Og (.i (.int .i64 i63)::(Rc 16 (Hk 26 []))))))∧Jm self e p_3 n i63 y i68 i69 g=some r∧ga md c∧ka c J w (.ba U 71 [.slice K y.length L,.int .i64 i68,.int .i64 i69]::.ba F 124 [.int .i64 0,.int .i64 0,S [],.slice none 0 0]::.ba G 124 [.int .i64 e,.int .i64 0,S [],v70]::.row v70 124 4 g.length j::O)∧Ka c K L y∧pa c j g) (by rintro _ _ _ ⟨_,_,_,_,_,_,_,_,_,_,rfl,_⟩; rfl) _ _ (lf (lb (ye (Na (qb (Ah ta)))))) ⟨_,0,H.1,rd,wd,H.2.1,H.2.2,[],(.slice none 0 0),[],rfl,h,ga.r,b,Fd,pa.nil⟩ ?_
 rintro k _ t Fn ⟨Id,i63,y,K,L,i68,i69,g,v70,j,rfl,h,p,b,M,X⟩
 rcases k with _|k
 cases h
 unfold Jm at h
 refine Te (fi (Xc (Zg (kc (Wc (Ql pb)))))) (ea (st (ob ?_)))
 refine Za h ?_ ?_
 intro be h
 refine Va (ra (db (Qb (ea ?_))))
 iterate 2 refine st ?_
 refine ob (ea ?_)
 iterate 2 refine st ?_
 refine ja ?_
 refine Ub (rg 20 3) (by decide) (fun m w=>∃ c A P Q i116 i117,m=(qc (Yg 20 []))∧ur self i63 g (Jm self e p_3 k) A i116 i117=some r∧ga Id c∧ka c J w (.ba U 71 [.slice P A.length Q,.int .i64 i116,.int .i64 i117]::.ba F 124 [.int .i64 0,.int .i64 0,S [],.slice none 0 0]::.ba G 124 [.int .i64 e,.int .i64 0,S [],v70]::.row v70 124 4 g.length j::O)∧Ka c P Q A) (by rintro _ _ ⟨_,_,_,_,_,_,rfl,_⟩; rfl) ?_ ?_
 refine Za h ?_ ?_
 intro ce h
 refine eb (st ?_)
 refine wl (xd underlying131 Hb (fb.s Ba rfl fb.z) rfl rfl b ?_); clear b; intro In co go b; refine fa ?_
 obtain ⟨io,R,ge,b⟩:=Sep.ud (l:=([[44]]:List (List UInt8))) b (pa.one (α:=List UInt8) rfl) (Nat.le_of_ble_eq_true rfl)
 obtain ⟨T,he,h⟩:=ha h
 refine Aa (Hj (v.t (f.t (x.t (p.t R)))) (M.up R) ge he b) ?_
 rintro _ Mf ⟨no,ro,c127,rfl,le,b,ne⟩
 refine fa (La (za ?_))
 exact ⟨_,_,rfl,(Xa (ue ta)),_,T.1,_,_,T.2.1,T.2.2,rfl,h,(R.t le),b,ne⟩
 intro ce h
 refine Va (za ?_)
 exact ⟨_,_,rfl,(Xa (ue ta)),_,_,_,_,_,_,rfl,h,ga.r,b,M⟩
 rintro _ t to ⟨Ne,A,P,Q,i116,i117,rfl,h,V,b,of⟩
 unfold ur at h
 refine Vb (vc (qh pb)) (ra ?_)
 refine Ub (rg 23 7) (by decide) (fun m w=>∃ c q a131 B i135 i136 u C D,m=(qc (kg (Nj 23 [])))∧pt i63 (Jm self e p_3 k) q i135 i136 u=some r∧ga Ne c∧ka c J w (.ba U 71 [.slice a131 q.length B,.int .i64 i135,.int .i64 i136]::.ba F 124 [.int .i64 0,.int .i64 0,S [],.slice none 0 0]::.ba G 124 [.int .i64 e,.int .i64 0,S [],C]::.row C 124 4 u.length D::O)∧Ka c a131 B q∧pa c D u) (by rintro _ _ ⟨_,_,_,_,_,_,_,_,_,rfl,_⟩; rfl) ?_ ?_
 refine Td b ?_; clear b; intro Do b
 refine Pd (la 0 [0,1,5,6,7] rfl (Fb 1 [1,5,6,7] rfl (jb Xh (aa (Sa d3)) ((b.ba d2).cell d3)) (oc hd) (la 2 [2,3,4,5,6,7] rfl ?_)))
 obtain ⟨d,wf,h⟩:=ha h
 refine Kb rfl rfl rfl rfl (Gb rfl) (td TG nd (sa (aa (Sa d5)) hb) (id.ug (v.t (f.t (x.t (p.t V)))) of wf b) ?_)
 rintro _ Go ⟨If,W,c145,ap,c148,rfl,Y,b,dg,bi⟩
 refine fa ?_
 refine ⟨(Oa.s (jb Xh (aa (Sa d3)) ((b.ba d2).cell d3)) Oa.z),?_⟩
 refine Kb rfl rfl rfl rfl (Gb rfl) (vj underlying122 pc rfl (aa (Sa d6)) rfl b ?_); clear b; intro ip jp mp b; refine fa ?_
 refine ⟨(Oa.s (jb Xh (aa (Sa d3)) ((b.ba d3).cell d3)) Oa.z),?_⟩
 obtain ⟨op,Z,h⟩:=ha h
 have gc:pa If [.int .i64 d.1.Kind,.int .i64 d.1.N,S d.1.Name,.slice W d.1.Kids.length c145] [d.1]:=(pa.one (α:=ua) (ua.i ⟨W,c145,rfl,dg⟩))
 have ci:=pa.app (X.up (V.t Y)) gc Z
 refine Kb rfl rfl rfl rfl (Gb rfl) (xj underlying122 pc rfl (aa (Sa d4)) (aa (Sa d7)) b d4 (b.ba d0).cells gc rfl Z (by decide) ?_); clear b; intro v152 pp ii li b; cases (show _=ii from li)
 replace b:=Sep.te b hd; refine fa ?_
 replace b:=b.drop ia.z
 refine ⟨Oa.z,?_⟩
 refine la 6 [6,7] rfl (Kb rfl rfl rfl rfl (Gb rfl) (Je Xh (aa (Sa d9)) (aa (Sa d8)) (b.get d3).Me b d2 ec rfl Ib Ma ?_))
 clear b; intro sp b
 refine ⟨Oa.z,?_⟩
 refine Hd (za ?_)
 exact ⟨_,_,rfl,(Xa (Md (Cg ta))),_,d.2.1,_,_,d.2.2.1,d.2.2.2,_,_,(j++[.int .i64 d.1.Kind,.int .i64 d.1.N,S d.1.Name,.slice W d.1.Kids.length c145]),rfl,h,Y,b,bi,ci⟩
 rintro _ t wp ⟨Op,q,a131,B,i135,i136,u,C,D,rfl,h,pi,b,Pi,kk⟩
 unfold pt at h
 refine Vb (vc (sg (Ik pb))) ?_
 refine (fun h=>Pb (ra h)) ?_
 refine eb ?_
 obtain ⟨i160,mk,h⟩:=ha h
 refine wl (Ja (Gd (aa (wa d5)) Ba mk) (ma (qd Ga)) (st (La (za ?_))))
 exact ⟨k,_,_,rfl,(lf (lb (ye (Na (qb (Ah ta)))))),⟨_,i160,q,a131,B,i135,i136,u,C,D,rfl,h,(p.t (V.t pi)),b,Pi,kk⟩,Nat.lt_succ_self _⟩
 intro be h
 refine ke ?_
 refine (fun h=>jc (jc (pe h))) ?_
 refine ra (ea (st ?_))
 refine wl (xd underlying131 Hb (fb.s Ba rfl fb.z) rfl rfl b ?_); clear b; intro eq Eq fr b; refine fa ?_
 obtain ⟨or,E,ok,b⟩:=Sep.ud (l:=([[41]]:List (List UInt8))) b (pa.one (α:=List UInt8) rfl) (Nat.le_of_ble_eq_true rfl)
 obtain ⟨qr,dl,h⟩:=ha h
 refine Aa (Hj (v.t (f.t (x.t (p.t E)))) (M.up E) ok dl b) ?_
 rintro _ wr ⟨Fr,Or,cs,rfl,lc,b,el⟩
 refine fa (rb (Ae (b.ba d2).cells rfl (wl (yb pc (aa d6) (aa (ib d4)) rfl (Rh rfl (Rh rfl (Rh rfl (Rh ((b.get d3).Me) Hs)))) b d1 rfl kb Ma ?_))))
 clear b; intro ds b
 refine ja (Ra ?_)
 replace b:=b.da bb
 obtain ⟨es,gs,c173,nl,rc,ol,fd⟩:=Sep.Gi b (X.up (E.t lc)) rfl; clear b
 subst nl; have b:=fd; clear fd
 obtain rfl:=Ea h
 refine Ad rfl (Qa.s (.a d6 pc (b.ba d1).cells rfl) Qa.z) ?_
 replace b:=(b.drop (ia.s ia.z)).drop (ia.s ia.z)
 exact ⟨_,_,_,_,_,rfl,(f.t (x.t (p.t (E.t (lc.t rc))))),b,ol,(el.up rc)⟩
theorem Uk:∀ n,aq (ae n)
  | 0=>⟨(by intro; intros; rename_i h _; cases h),(by intro; intros; rename_i h _; cases h),(by intro; intros; rename_i h _; cases h),(by intro; intros; rename_i h _; cases h),(by intro; intros; rename_i h _; cases h),(by intro; intros; rename_i h _; cases h)⟩
  | n+1=>⟨lF (Uk n),DE (Uk n),EE (Uk n),lD (Uk n),mF (Uk n),FE (Uk n)⟩
def LA (q:(List Ua)→Int→Int→Option (List Wa×List Ua×Int×Int)):Prop:=∀ {I:M} {J w:World} {O:List Wb} (d:ga Fc I) {U:Nat} {a:List Ua} {a3:Option Addr} {c4:Nat} {b c:Int} {r:List Wa×List Ua×Int×Int} (m5:Ka I a3 c4 a) (h:q a b c=some r) (e:ka I J w (.ba U 71 [.slice a3 a.length c4,.int .i64 b,.int .i64 c]::O)),Sb prog 43 [.pointer (some ⟨U,0,none⟩)] w (fun v w'=>∃ (na:M) (Db:Option Addr) (c9:Nat) (xc:Option Addr) (c12:Nat),v=.slice Db r.1.length c9∧ga I na∧ka na J w' (.ba U 71 [.slice xc r.2.1.length c12,.int .i64 r.2.2.1,.int .i64 r.2.2.2]::O)∧Ka na Db c9 r.1∧Ka na xc c12 r.2.1)
def MA (q:(List Ua)→Int→Int→Option (Wa×List Ua×Int×Int)):Prop:=∀ {I:M} {J w:World} {O:List Wb} (d:ga Fc I) {U:Nat} {a:List Ua} {a3:Option Addr} {c4:Nat} {b c:Int} {r:Wa×List Ua×Int×Int} (m5:Ka I a3 c4 a) (h:q a b c=some r) (e:ka I J w (.ba U 71 [.slice a3 a.length c4,.int .i64 b,.int .i64 c]::O)),Sb prog 63 [.pointer (some ⟨U,0,none⟩)] w (fun v w'=>∃ (na:M) (Db:Option Addr) (c9:Nat) (xc:Option Addr) (c12:Nat) (uc:Option Addr) (Ve:Nat) (Jc:Option Addr) (bg:Nat),v=.agg ⟨[.int .i64 r.1.Kind,S r.1.Name,.int .i64 r.1.X.Kind,.int .i64 r.1.X.N,S r.1.X.Name,.slice Db r.1.X.Kids.length c9,.slice xc r.1.Body.length c12,.slice uc r.1.jd.length Ve]⟩∧ga I na∧ka na J w' (.ba U 71 [.slice Jc r.2.1.length bg,.int .i64 r.2.2.1,.int .i64 r.2.2.2]::O)∧Ka na Db c9 r.1.X.Kids∧Ka na xc c12 r.1.Body∧Ka na uc Ve r.1.jd∧Ka na Jc bg r.2.1)
structure qx (a:rq):Prop where
  vi:LA a.vi
  kj:MA a.kj
theorem nF {fu:Nat} {self:rq} (Q:qx self):LA (vi fu self):=by
 intro I J w O e U If a3 c4 dg bi r m5 h a
 unfold vi at h
 refine qs func43 rfl (frm:=_::zd (zd (Xe []))) rfl (ea (st (rb (st ?_))))
 obtain ⟨ci,g15,h⟩:=ha h
 refine Aa (Zr e m5 g15 a) ?_
 rintro _ ii ⟨li,R,pi,Pi,rfl,f,a,m20⟩
 refine fa (wl (Bo (aa d5) hb Ma (rb (st (ob (ea (st ?_)))))))
 refine wl (xd underlying131 Hb (fb.s Ba rfl fb.z) rfl rfl a ?_); clear a; intro kk mk ok a; refine fa ?_
 obtain ⟨dl,c,m23,a⟩:=Sep.ud (l:=([[123]]:List (List UInt8))) a (pa.one (α:=List UInt8) rfl) (Nat.le_of_ble_eq_true rfl)
 obtain ⟨u,T,h⟩:=ha h
 replace a:=a.da Da
 refine Aa (Hj (e.t (f.t c)) (m20.up c) m23 T a) ?_
 rintro _ el ⟨V,a28,W,rfl,j,a,Y⟩
 refine fa (ja (Qb ?_))
 replace a:=a.Qh 126 (cb.sz Wa)
 replace a:=(a.da Eb).da Eb
 refine Se (rg 9 15) (by decide) (fun n m w=>∃ k o v x i65 i66 p y q,m=(kg (.i (y)::(ng (Rc 9 (Hk 19 [])))))∧Zp self n o i65 i66 p=some r∧ga V k∧ka k J w (.ba U 71 [.slice v o.length x,.int .i64 i65,.int .i64 i66]::.ba R 69 [.pointer (some ⟨U,0,none⟩)]::.row y 126 8 p.length q::O)∧Ka k v x o∧pa k q p) (by rintro _ _ _ ⟨_,_,_,_,_,_,_,_,_,rfl,_⟩; rfl) _ _ (Md (Na (ie (qb (Ah ta))))) ⟨_,u.1,a28,W,u.2.1,u.2.2,[],(.slice none 0 0),[],rfl,h,ga.r,a,Y,pa.nil⟩ ?_
 rintro A _ t nl ⟨ol,o,v,x,i65,i66,p,y,q,rfl,h,g,a,Z,E⟩
 rcases A with _|A
 cases h
 unfold Zp at h
 refine Te (sg (kc (Ag (Wc (Ql pb))))) (db (ea (st ?_)))
 obtain ⟨pl,gc,h⟩:=ha h
 refine Aa (Rg (e.t (f.t (c.t (j.t g)))) Z gc a) ?_
 rintro _ ul ⟨am,a105,em,rfl,d,a,F⟩
 refine fa (st (ja ?_))
 refine pj h ?_ ?_
 intro lc h
 refine Va (ra (Qb (db (ea (st (wl (Ja (wj underlying59 (aa (wa d2)) (a.get d2).yj) (ma (Jb ec)) (st (ja ?_)))))))))
 refine Za h ?_ ?_
 intro rc h
 cases h
 intro rc h
 refine Va (ra (eb ?_))
 iterate 2 refine st ?_
 obtain ⟨b,fd,h⟩:=ha h
 refine Aa (Q.kj (e.t (f.t (c.t (j.t (g.t d))))) F fd a) ?_
 rintro _ hm ⟨id,B,C,a116,c117,a119,D,md,rd,rfl,G,a,wd,Fd,Id,be⟩
 refine fa ?_
 refine wl (vj underlying59 Yf rfl (aa (Sa d1)) rfl a ?_); clear a; intro lm pm sm a; refine fa ?_
 obtain ⟨ce,H,h⟩:=ha h
 have K:pa id [.int .i64 b.1.Kind,S b.1.Name,.int .i64 b.1.X.Kind,.int .i64 b.1.X.N,S b.1.X.Name,.slice B b.1.X.Kids.length C,.slice a116 b.1.Body.length c117,.slice a119 b.1.jd.length D] [b.1]:=(pa.one (α:=Wa) (Wa.i ⟨B,C,a116,c117,a119,D,rfl,wd,Fd,Id⟩))
 have ge:=pa.app (E.up (d.t G)) K H
 refine wl (xj underlying59 Yf rfl (aa (wa d9)) (aa (Sa d2)) a d3 (a.ba d0).cells K rfl H (by decide) ?_); clear a; intro v127 Mf he le a; cases (show _=he from le)
 replace a:=Sep.te a ec; refine fa ?_
 replace a:=a.drop ia.z
 refine st (La ?_)
 refine (fun h=>Pb (za h)) ?_
 exact ⟨A,_,_,rfl,(Md (Na (ie (qb (Ah ta))))),⟨_,b.2.1,md,rd,b.2.2.1,b.2.2.2,ce,v127,(q++[.int .i64 b.1.Kind,S b.1.Name,.int .i64 b.1.X.Kind,.int .i64 b.1.X.N,S b.1.X.Name,.slice B b.1.X.Kids.length C,.slice a116 b.1.Body.length c117,.slice a119 b.1.jd.length D]),rfl,h,(g.t (d.t G)),a,be,ge⟩,Nat.lt_succ_self _⟩
 intro lc h
 refine ke ?_
 refine (fun h=>jc (jc (pe h))) ?_
 refine ra (ea ?_)
 iterate 2 refine st ?_
 refine ja (Ra ?_)
 obtain ⟨Nm,ne,h⟩:=ha h
 replace a:=a.da Da
 refine mj ts (fs (e.t (f.t (c.t (j.t (g.t d))))) F ne a) ?_
 rintro _ fn ⟨on,un,wn,rfl,L,a,Ne⟩
 replace a:=a.da Eb
 obtain ⟨Fn,a138,c139,of,M,wf,P⟩:=Sep.Gi a (E.up (d.t L)) rfl; clear a
 subst of; have a:=P; clear P
 obtain rfl:=Ea h
 refine vg rfl (Qa.s (.t d2) Qa.z) ?_
 replace a:=a.drop ia.z
 exact ⟨_,_,_,_,_,rfl,(f.t (c.t (j.t (g.t (d.t (L.t M)))))),a,wf,(Ne.up M)⟩
theorem oF {fu:Nat} {self:rq} (T:qx self):MA (kj fu self):=by
 intro I J w O e U sz a3 c4 Rz AC r m5 h b
 unfold kj at h
 refine enter func63 rfl (frm:=_::Cf (Wf (Xe (Ze [])))) rfl (ea ?_)
 refine wl (bd Yf b ?_); clear b; intro wd GE LE b; refine fa ?_
 refine rb (wl (Nd Yf On ab.z (ma hd) ?_))
 refine wl (bd Yf b ?_); clear b; intro Fd NE WF b; refine fa ?_
 refine wl (yb Yf (aa d3) (aa d4) rfl rfl b d0 rfl Ga Ma ?_)
 clear b; intro RK b
 refine ob ?_
 refine Ub (rg 5 73) (by decide +kernel) (fun m w=>∃ k D a24 V i28 i29 i30 W i33 i34 X E Y c37,m=(ng (nk 5 (Uf 55 (Yg 75 []))))∧om D i28 i29 i30 W i33 i34 X E=some r∧ga I k∧ka k J w (.ba U 71 [.slice a24 D.length V,.int .i64 i28,.int .i64 i29]::.ba wd 126 [.int .i64 0,S [],.int .i64 0,.int .i64 0,S [],.slice none 0 0,.slice none 0 0,.slice none 0 0]::.ba Fd 126 [.int .i64 i30,S W,.int .i64 i33,.int .i64 i34,S X,.slice Y E.length c37,.slice none 0 0,.slice none 0 0]::O)∧Ka k a24 V D∧Ka k Y c37 E) (by rintro _ _ ⟨_,_,_,_,_,_,_,_,_,_,_,_,_,_,rfl,_⟩; rfl) ?_ ?_
 refine Qb (ea (st ?_))
 obtain ⟨WL,Pi,h⟩:=ha h
 replace b:=b.da Eb
 refine Aa (Rg e m5 Pi b) ?_
 rintro _ XL ⟨YL,ZL,aM,rfl,c,b,Id⟩
 refine fa (st (ja ?_))
 refine ed h ?_ ?_
 intro kk h
 refine ea (st ?_)
 obtain ⟨C,mk,h⟩:=ha h
 refine Aa ((Uk fu).ug (e.t c) Id mk b) ?_
 rintro _ bM ⟨cM,ok,c51,a53,dM,rfl,F,b,dl,el⟩
 refine fa (st ?_)
 obtain ⟨be,nl,h⟩:=ha h
 refine Aa (T.vi (e.t (c.t F)) el nl b) ?_
 rintro _ eM ⟨fM,a59,ol,gM,hM,rfl,G,b,pl,m64⟩
 refine fa (wl (Nd Yf On (ab.o rfl Ba rfl rfl Ga (ab.n rfl (aa (wa d8)) rfl rfl (kd.s Ib (of_decide_eq_true rfl) (kd.s ec (of_decide_eq_true rfl) (kd.s hd (of_decide_eq_true rfl) (kd.s cd (of_decide_eq_true rfl) kd.z)))) (ab.o rfl (aa (Sa d0)) rfl rfl ad ab.z))) (ma (oc kb)) (wl (yb Yf (aa d3) (aa (Sa d1)) rfl rfl b d1 rfl kb Ma ?_))))
 clear b; intro iM b
 refine ob (ea (st ?_))
 obtain ⟨Z,ul,h⟩:=ha h
 refine Aa (Rg (e.t (c.t (F.t G))) m64 ul b) ?_
 rintro _ Mf ⟨am,jM,kM,rfl,H,b,ce⟩
 refine fa (ja ?_)
 refine Ub (rg 24 3) (by decide) (fun m w=>∃ k K gc c72 i75 i76 L lc rc,m=(qc (tf (Yg 24 [])))∧Nr C be K i75 i76 L=some r∧ga am k∧ka k J w (.ba U 71 [.slice gc K.length c72,.int .i64 i75,.int .i64 i76]::.ba wd 126 [.int .i64 0,S [],.int .i64 0,.int .i64 0,S [],.slice none 0 0,.slice none 0 0,.slice none 0 0]::.ba Fd 126 [.int .i64 3,S [],.int .i64 C.1.Kind,.int .i64 C.1.N,S C.1.Name,.slice ok C.1.Kids.length c51,.slice a59 be.1.length ol,.slice lc L.length rc]::O)∧Ka k gc c72 K∧Ka k lc rc L) (by rintro _ _ ⟨_,_,_,_,_,_,_,_,_,rfl,_⟩; rfl) ?_ ?_
 refine ed h ?_ ?_
 intro em h
 refine eb (st ?_)
 obtain ⟨M,hm,h⟩:=ha h
 refine Aa (T.vi (e.t (c.t (F.t (G.t H)))) ce hm b) ?_
 rintro _ lM ⟨mM,a85,nM,oM,pM,rfl,lm,b,pm,sm⟩
 refine fa (st (wl (Je Tn (aa (Sa d6)) (aa (Sa d5)) rfl b d1 sd rfl kb Ma ?_)))
 clear b; intro qM b
 refine La (za ?_)
 replace b:=((b.da Da).da Eb).da Eb
 exact ⟨_,_,rfl,(Xa (gd (ue ta))),_,M.2.1,_,_,M.2.2.1,M.2.2.2,M.1,_,_,rfl,h,lm,b,sm,pm⟩
 intro em h
 refine Va (za ?_)
 replace b:=((b.da Da).da Eb).da Eb
 exact ⟨_,_,rfl,(Xa (gd (ue ta))),_,Z.2.1,_,_,Z.2.2.1,Z.2.2.2,[],none,0,rfl,h,ga.r,b,ce,Ka.nil⟩
 rintro _ t rM ⟨sM,K,gc,c72,i75,i76,L,lc,rc,rfl,h,fd,b,Nm,fn⟩
 unfold Nr at h
 refine Vb (vc (Ff (qh pb))) (ra (ea (Ae (b.ba d2).cells rfl (wl (yb Yf (aa d2) (aa (Sa d7)) rfl rfl b d1 rfl kb Ma ?_)))))
 clear b; intro tM b
 refine ja (Ra ?_)
 refine (fun h=>Ab (Fa (Fa h))) ?_
 obtain rfl:=Ea h
 refine Ad rfl (Qa.s (.a d2 Yf (b.ba d1).cells rfl) Qa.z) ?_
 replace b:=(b.drop (ia.s ia.z)).drop (ia.s ia.z)
 exact ⟨_,_,_,_,_,_,_,_,_,rfl,(c.t (F.t (G.t (H.t fd)))),b,(dl.up (G.t (H.t fd))),(pl.up (H.t fd)),fn,Nm⟩
 intro kk h
 refine ea (st ?_)
 obtain ⟨uM,on,h⟩:=ha h
 refine Aa (Rg (e.t c) Id on b) ?_
 rintro _ vM ⟨wM,xM,yM,rfl,d,b,ge⟩
 refine fa (st (ja ?_))
 refine ed h ?_ ?_
 intro un h
 refine ea (st ?_)
 obtain ⟨zM,wn,h⟩:=ha h
 refine Aa ((Uk fu).ug (e.t (c.t d)) ge wn b) ?_
 rintro _ AM ⟨BM,CM,c105,a107,DM,rfl,he,b,Fn,In⟩
 refine fa (st ?_)
 obtain ⟨EM,co,h⟩:=ha h
 refine Aa (T.vi (e.t (c.t (d.t he))) In co b) ?_
 rintro _ FM ⟨GM,HM,IM,a116,c117,rfl,le,b,go,io⟩
 refine fa (wl (Nd Yf On (ab.o rfl Ba rfl rfl Ga (ab.n rfl (aa (ib d2)) rfl rfl (kd.s Ib (of_decide_eq_true rfl) (kd.s ec (of_decide_eq_true rfl) (kd.s hd (of_decide_eq_true rfl) (kd.s cd (of_decide_eq_true rfl) kd.z)))) (ab.o rfl (aa (ib d4)) rfl rfl ad ab.z))) (ma (qd cd)) (wl (yb Yf (aa d2) (aa (ib d5)) rfl rfl b d2 rfl Ib Ma ?_))))
 clear b; intro JM b
 refine ja (Ra ?_)
 refine (fun h=>Ab (Fa (Fa h))) ?_
 obtain rfl:=Ea h
 refine Ad rfl (Qa.s (.a d2 Yf (b.ba d2).cells rfl) Qa.z) ?_
 replace b:=(b.drop (ia.s ia.z)).drop (ia.s ia.z)
 exact ⟨_,_,_,_,_,none,0,_,_,rfl,(c.t (d.t (he.t le))),b,(Fn.up le),go,Ka.nil,io⟩
 intro un h
 refine ea (st ?_)
 obtain ⟨KM,no,h⟩:=ha h
 refine Aa (Rg (e.t (c.t d)) ge no b) ?_
 rintro _ LM ⟨MM,NM,OM,rfl,f,b,ne⟩
 refine fa (st (ja ?_))
 refine ed h ?_ ?_
 intro ro h
 refine ea (st ?_)
 obtain ⟨to,Do,h⟩:=ha h
 refine Aa (um (e.t (c.t (d.t f))) ne Do b) ?_
 rintro _ PM ⟨QM,RM,c130,rfl,id,b,Go⟩
 refine fa (wl (Nd Yf On (ab.o rfl Ba rfl rfl Ga (ab.o rfl (aa (Bb d0)) rfl rfl kb ab.z)) (ma (Xd kb)) (wl (yb Yf (aa d3) (aa (Bb d1)) rfl rfl b d1 rfl kb Ma ?_))))
 clear b; intro SM b
 refine rb (st ?_)
 refine wl (xd underlying131 Hb (fb.s Ba rfl fb.z) rfl rfl b ?_); clear b; intro TM UM VM b; refine fa ?_
 obtain ⟨WM,P,ap,b⟩:=Sep.ud (l:=([[61]]:List (List UInt8))) b (pa.one (α:=List UInt8) rfl) (Nat.le_of_ble_eq_true rfl)
 obtain ⟨XM,ip,h⟩:=ha h
 refine Aa (Hj (e.t (c.t (d.t (f.t (id.t P))))) (Go.up P) ap ip b) ?_
 rintro _ YM ⟨ZM,a139,aN,rfl,Ne,b,jp⟩
 refine fa (ja (eb (st ?_)))
 obtain ⟨q,mp,h⟩:=ha h
 refine Aa ((Uk fu).ug (e.t (c.t (d.t (f.t (id.t (P.t Ne)))))) jp mp b) ?_
 rintro _ bN ⟨cN,a145,c146,a148,dN,rfl,op,b,pp,sp⟩
 refine fa (st (wl (En pc (aa (Bb d7)) (aa (Bb d6)) rfl rfl rfl b d1 (kd.s Ib (of_decide_eq_true rfl) (kd.s ec (of_decide_eq_true rfl) (kd.s hd (of_decide_eq_true rfl) (kd.s cd (of_decide_eq_true rfl) kd.z)))) rfl kb Ma ?_)))
 clear b; intro eN b
 refine La ?_
 refine (fun h=>Pb (za h)) ?_
 replace b:=((b.da Da).da Eb).da Eb
 exact ⟨_,_,rfl,(ie (Vf (zc (ue ta)))),_,q.2.1,_,_,q.2.2.1,q.2.2.2,1,to.1,q.1.Kind,q.1.N,q.1.Name,q.1.Kids,_,_,rfl,h,(c.t (d.t (f.t (id.t (P.t (Ne.t op)))))),b,sp,pp⟩
 intro ro h
 refine ea (st ?_)
 obtain ⟨fN,wp,h⟩:=ha h
 refine Aa (Rg (e.t (c.t (d.t f))) ne wp b) ?_
 rintro _ gN ⟨hN,a154,iN,rfl,g,b,of⟩
 refine fa (st (ja ?_))
 refine ed h ?_ ?_
 intro Op h
 refine eb (st ?_)
 obtain ⟨u,eq,h⟩:=ha h
 refine Aa ((Uk fu).ug (e.t (c.t (d.t (f.t g)))) of eq b) ?_
 rintro _ jN ⟨kN,lN,c162,a164,mN,rfl,Eq,b,fr,or⟩
 refine fa (wl (Nd Yf On (ab.o rfl Ba rfl rfl Ga (ab.n rfl (aa (sb d2)) rfl rfl (kd.s Ib (of_decide_eq_true rfl) (kd.s ec (of_decide_eq_true rfl) (kd.s hd (of_decide_eq_true rfl) (kd.s cd (of_decide_eq_true rfl) kd.z)))) ab.z)) (ma (ee ec)) (wl (yb Yf (aa d3) (aa (sb d3)) rfl rfl b d1 rfl kb Ma ?_))))
 clear b; intro nN b
 refine La ?_
 refine (fun h=>Pb (za h)) ?_
 replace b:=((b.da Da).da Eb).da Eb
 exact ⟨_,_,rfl,(ie (Vf (zc (ue ta)))),_,u.2.1,_,_,u.2.2.1,u.2.2.2,5,[],u.1.Kind,u.1.N,u.1.Name,u.1.Kids,_,_,rfl,h,(c.t (d.t (f.t (g.t Eq)))),b,or,fr⟩
 intro Op h
 refine ea (st ?_)
 obtain ⟨md,qr,h⟩:=ha h
 refine Aa (Rg (e.t (c.t (d.t (f.t g)))) of qr b) ?_
 rintro _ oN ⟨pN,qN,c171,rfl,i,b,wf⟩
 refine fa (st (ja ?_))
 refine ed h ?_ ?_
 intro wr h
 refine eb (st (wl (Je Uc (aa (sb d7)) Ba rfl b d1 Ga rfl kb Ma ?_)))
 clear b; intro rN b
 refine La ?_
 refine (fun h=>Pb (za h)) ?_
 replace b:=((b.da Da).da Eb).da Eb
 exact ⟨_,_,rfl,(ie (Vf (zc (ue ta)))),_,md.2.1,_,_,md.2.2.1,md.2.2.2,6,[],0,0,[],[],none,0,rfl,h,(c.t (d.t (f.t (g.t i)))),b,wf,Ka.nil⟩
 intro wr h
 refine ea (st ?_)
 obtain ⟨sN,Fr,h⟩:=ha h
 refine Aa (Rg (e.t (c.t (d.t (f.t (g.t i))))) wf Fr b) ?_
 rintro _ tN ⟨uN,vN,wN,rfl,j,b,If⟩
 refine fa (st (ja ?_))
 refine ed h ?_ ?_
 intro Or h
 refine eb (st ?_)
 obtain ⟨cs,ds,h⟩:=ha h
 refine Aa (um (e.t (c.t (d.t (f.t (g.t (i.t j)))))) If ds b) ?_
 rintro _ xN ⟨yN,zN,AN,rfl,dg,b,es⟩
 refine fa (st ?_)
 obtain ⟨v,gs,h⟩:=ha h
 refine Aa ((Uk fu).ug (e.t (c.t (d.t (f.t (g.t (i.t (j.t dg))))))) es gs b) ?_
 rintro _ BN ⟨CN,DN,EN,a193,c194,rfl,is,b,ls,ms⟩
 refine fa (wl (Nd Yf On (ab.o rfl Ba rfl rfl Ga (ab.o rfl (aa (Gc d2)) rfl rfl kb (ab.n rfl (aa (Gc d4)) rfl rfl (kd.s Ib (of_decide_eq_true rfl) (kd.s ec (of_decide_eq_true rfl) (kd.s hd (of_decide_eq_true rfl) (kd.s cd (of_decide_eq_true rfl) kd.z)))) ab.z))) (ma (zg cd)) (wl (yb Yf (aa d3) (aa (Gc d5)) rfl rfl b d1 rfl kb Ma ?_))))
 clear b; intro FN b
 refine La ?_
 refine (fun h=>Pb (za h)) ?_
 replace b:=((b.da Da).da Eb).da Eb
 exact ⟨_,_,rfl,(ie (Vf (zc (ue ta)))),_,v.2.1,_,_,v.2.2.1,v.2.2.2,7,cs.1,v.1.Kind,v.1.N,v.1.Name,v.1.Kids,_,_,rfl,h,(c.t (d.t (f.t (g.t (i.t (j.t (dg.t is))))))),b,ms,ls⟩
 intro Or h
 refine ea (st ?_)
 obtain ⟨GN,os,h⟩:=ha h
 refine Aa (Rg (e.t (c.t (d.t (f.t (g.t (i.t j)))))) If os b) ?_
 rintro _ HN ⟨IN,JN,KN,rfl,p,b,bi⟩
 refine fa (st (ja ?_))
 refine ed h ?_ ?_
 intro rs h
 refine eb (st ?_)
 obtain ⟨x,us,h⟩:=ha h
 refine Aa ((Uk fu).ug (e.t (c.t (d.t (f.t (g.t (i.t (j.t p))))))) bi us b) ?_
 rintro _ LN ⟨MN,a206,NN,ON,c210,rfl,vs,b,ws,xs⟩
 refine fa (wl (Nd Yf On (ab.o rfl Ba rfl rfl Ga (ab.n rfl (aa (Oc d0)) rfl rfl (kd.s Ib (of_decide_eq_true rfl) (kd.s ec (of_decide_eq_true rfl) (kd.s hd (of_decide_eq_true rfl) (kd.s cd (of_decide_eq_true rfl) kd.z)))) ab.z)) (ma (Zf kb)) (wl (yb Yf (aa d3) (aa (Oc d1)) rfl rfl b d1 rfl kb Ma ?_))))
 clear b; intro PN b
 refine La ?_
 refine (fun h=>Pb (za h)) ?_
 replace b:=((b.da Da).da Eb).da Eb
 exact ⟨_,_,rfl,(ie (Vf (zc (ue ta)))),_,x.2.1,_,_,x.2.2.1,x.2.2.2,8,[],x.1.Kind,x.1.N,x.1.Name,x.1.Kids,_,_,rfl,h,(c.t (d.t (f.t (g.t (i.t (j.t (p.t vs))))))),b,xs,ws⟩
 intro rs h
 refine ea (st ?_)
 obtain ⟨QN,ys,h⟩:=ha h
 refine Aa (Rg (e.t (c.t (d.t (f.t (g.t (i.t (j.t p))))))) bi ys b) ?_
 rintro _ RN ⟨SN,TN,UN,rfl,B,b,ci⟩
 refine fa (st (ja ?_))
 refine ed h ?_ ?_
 intro Os h
 refine eb (st ?_)
 obtain ⟨y,gt,h⟩:=ha h
 refine Aa ((Uk fu).ug (e.t (c.t (d.t (f.t (g.t (i.t (j.t (p.t B)))))))) ci gt b) ?_
 rintro _ VN ⟨WN,a222,XN,YN,c226,rfl,it,b,lt,mt⟩
 refine fa (wl (Nd Yf On (ab.o rfl Ba rfl rfl Ga (ab.n rfl (aa (Oc d6)) rfl rfl (kd.s Ib (of_decide_eq_true rfl) (kd.s ec (of_decide_eq_true rfl) (kd.s hd (of_decide_eq_true rfl) (kd.s cd (of_decide_eq_true rfl) kd.z)))) ab.z)) (ma (Zf sd)) (wl (yb Yf (aa d3) (aa (Oc d7)) rfl rfl b d1 rfl kb Ma ?_))))
 clear b; intro ZN b
 refine La ?_
 refine (fun h=>Pb (za h)) ?_
 replace b:=((b.da Da).da Eb).da Eb
 exact ⟨_,_,rfl,(ie (Vf (zc (ue ta)))),_,y.2.1,_,_,y.2.2.1,y.2.2.2,9,[],y.1.Kind,y.1.N,y.1.Name,y.1.Kids,_,_,rfl,h,(c.t (d.t (f.t (g.t (i.t (j.t (p.t (B.t it)))))))),b,mt,lt⟩
 intro Os h
 refine ea (st ?_)
 obtain ⟨rt,ut,h⟩:=ha h
 refine Aa (um (e.t (c.t (d.t (f.t (g.t (i.t (j.t (p.t B)))))))) ci ut b) ?_
 rintro _ aO ⟨bO,cO,c232,rfl,rd,b,wt⟩
 refine fa (wl (Nd Yf On (ab.o rfl Ba rfl rfl Ga (ab.o rfl (aa d6) rfl rfl kb ab.z)) (ma sd) (wl (yb Yf (aa d3) (aa d7) rfl rfl b d1 rfl kb Ma ?_))))
 clear b; intro dO b
 refine rb (st ?_)
 refine wl (xd underlying131 Hb (fb.s Ba rfl fb.z) rfl rfl b ?_); clear b; intro eO fO gO b; refine fa ?_
 obtain ⟨hO,Q,hu,b⟩:=Sep.ud (l:=([[61]]:List (List UInt8))) b (pa.one (α:=List UInt8) rfl) (Nat.le_of_ble_eq_true rfl)
 obtain ⟨iO,pu,h⟩:=ha h
 refine Aa (Hj (e.t (c.t (d.t (f.t (g.t (i.t (j.t (p.t (B.t (rd.t Q)))))))))) (wt.up Q) hu pu b) ?_
 rintro _ jO ⟨kO,lO,mO,rfl,ii,b,bv⟩
 refine fa (ja (eb (st ?_)))
 obtain ⟨A,hw,h⟩:=ha h
 refine Aa ((Uk fu).ug (e.t (c.t (d.t (f.t (g.t (i.t (j.t (p.t (B.t (rd.t (Q.t ii))))))))))) bv hw b) ?_
 rintro _ nO ⟨oO,pO,qO,rO,sO,rfl,kw,b,lw,ww⟩
 refine fa (st (wl (En pc (aa (wa d3)) (aa (wa d2)) rfl rfl rfl b d1 (kd.s Ib (of_decide_eq_true rfl) (kd.s ec (of_decide_eq_true rfl) (kd.s hd (of_decide_eq_true rfl) (kd.s cd (of_decide_eq_true rfl) kd.z)))) rfl kb Ma ?_)))
 clear b; intro tO b
 refine La ?_
 refine (fun h=>Pb (za h)) ?_
 replace b:=((b.da Da).da Eb).da Eb
 exact ⟨_,_,rfl,(ie (Vf (zc (ue ta)))),_,A.2.1,_,_,A.2.2.1,A.2.2.2,2,rt.1,A.1.Kind,A.1.N,A.1.Name,A.1.Kids,_,_,rfl,h,(c.t (d.t (f.t (g.t (i.t (j.t (p.t (B.t (rd.t (Q.t (ii.t kw))))))))))),b,ww,lw⟩
 rintro _ t uO ⟨vO,D,a24,V,i28,i29,i30,W,i33,i34,X,E,Y,c37,rfl,h,li,b,ex,rx⟩
 unfold om at h
 refine Vb (Ag (kl (fg (qh pb)))) (ra (ea (st ?_)))
 refine wl (xd underlying131 Hb (fb.s Ba rfl fb.z) rfl rfl b ?_); clear b; intro wO xO yO b; refine fa ?_
 obtain ⟨zO,R,xx,b⟩:=Sep.ud (l:=([[59]]:List (List UInt8))) b (pa.one (α:=List UInt8) rfl) (Nat.le_of_ble_eq_true rfl)
 obtain ⟨AO,zx,h⟩:=ha h
 refine Aa (Hj (e.t (li.t R)) (ex.up R) xx zx b) ?_
 rintro _ BO ⟨CO,DO,EO,rfl,pi,b,ty⟩
 refine fa (rb (Ae (b.ba d2).cells rfl (wl (yb Yf (aa d2) (aa (Nc d1)) rfl rfl b d1 rfl kb Ma ?_))))
 clear b; intro FO b
 refine ja (Ra ?_)
 obtain rfl:=Ea h
 refine Ad rfl (Qa.s (.a d2 Yf (b.ba d1).cells rfl) Qa.z) ?_
 replace b:=(b.drop (ia.s ia.z)).drop (ia.s ia.z)
 exact ⟨_,_,_,none,0,none,0,_,_,rfl,(li.t (R.t pi)),b,(rx.up (R.t pi)),Ka.nil,Ka.nil,ty⟩
theorem tt:∀ n,qx (tm n)
  | 0=>⟨(by intro; intros; rename_i h _; cases h),(by intro; intros; rename_i h _; cases h)⟩
  | n+1=>⟨nF (tt n),oF (tt n)⟩
theorem fG (e:ga Fc I) {F:List Ua} {T V:Int} {r:va×List Ua×Int×Int} (m5:Ka I a3 c4 F) (h:Ap fu F T V=some r) (b:ka I J w (.ba U 71 [.slice a3 F.length c4,.int .i64 T,.int .i64 V]::O)):Sb prog 18 [.pointer (some ⟨U,0,none⟩)] w (fun v w'=>∃ (na:M) (Db:Option Addr) (c9:Nat) (xc:Option Addr) (c12:Nat) (uc:Option Addr) (Ve:Nat),v=.agg ⟨[.int .i64 r.1.Kind,S r.1.Name,.int .i64 r.1.zb.Kind,S r.1.zb.Nb,.int .i64 r.1.Hc.Kind,S r.1.Hc.Nb,.int .i64 r.1.oe,.slice Db r.1.Params.length c9,.slice xc r.1.Body.length c12]⟩∧ga I na∧ka na J w' (.ba U 71 [.slice uc r.2.1.length Ve,.int .i64 r.2.2.1,.int .i64 r.2.2.2]::O)∧Ka na Db c9 r.1.Params∧Ka na xc c12 r.1.Body∧Ka na uc Ve r.2.1):=by
 unfold Ap at h
 refine enter func18 rfl (frm:=_::zd (Ge (Wf (Xe (Ze []))))) rfl (ea ?_)
 refine wl (bd Oe b ?_); clear b; intro rd wp Op b; refine fa ?_
 refine rb (st ?_)
 obtain ⟨eq,g20,h⟩:=ha h
 replace b:=b.da Da
 refine Aa (QB e m5 g20 b) ?_
 rintro _ Eq ⟨fr,rfl,c,b⟩
 refine fa (st (ob (Qb (ea (st ?_)))))
 obtain ⟨or,g23,h⟩:=ha h
 refine Aa (Rg (e.t c) (m5.up c) g23 b) ?_
 rintro _ qr ⟨wr,Fr,Or,rfl,d,b,W⟩
 refine fa (st (ja ?_))
 refine ed h ?_ ?_
 intro wd h
 refine ea (st ?_)
 obtain ⟨X,Fd,h⟩:=ha h
 refine Aa (um (e.t (c.t d)) W Fd b) ?_
 rintro _ cs ⟨ds,es,gs,rfl,x,b,Id⟩
 refine fa (st ?_)
 obtain ⟨G,be,h⟩:=ha h
 refine Aa (Nt (e.t (c.t (d.t x))) Id be b) ?_
 rintro _ is ⟨ls,ms,os,rfl,B,b,Y⟩
 refine fa (wl (Nd Oe xu (ab.o rfl Ba rfl rfl Ga (ab.o rfl (aa (wa d4)) rfl rfl kb (ab.n rfl (aa (wa d6)) rfl rfl (kd.s Ib (of_decide_eq_true rfl) (kd.s ec (of_decide_eq_true rfl) kd.z)) ab.z))) (ma (Jb sd)) ?_))
 refine wl (bd Oe b ?_); clear b; intro ce rs us b; refine fa ?_
 refine wl (yb Oe (aa d4) (aa (wa d7)) rfl rfl b d0 rfl Ga Ma ?_)
 clear b; intro vs b
 refine rb (st ?_)
 obtain ⟨ws,ge,h⟩:=ha h
 replace b:=b.da Da
 refine Aa (QB (e.t (c.t (d.t (x.t B)))) Y ge b) ?_
 rintro _ Mf ⟨xs,rfl,C,b⟩
 refine fa (st (rb (st ?_)))
 obtain ⟨y,he,h⟩:=ha h
 refine Aa (Fz (e.t (c.t (d.t (x.t (B.t C))))) (Y.up C) he b) ?_
 rintro _ ys ⟨le,a49,ne,rfl,Z,b,Ne⟩
 refine fa (st (ob (db ?_)))
 refine Ub (rg 22 5) (by decide) (fun m w=>∃ gc H,m=(qc (vf (Hk 22 (.i (.bool H)::[]))))∧Yr X G y H=some r∧ga le gc∧ka gc J w (.ba U 71 [.slice a49 y.2.1.length ne,.int .i64 y.2.2.1,.int .i64 y.2.2.2]::.ba rd 61 [.int .i64 0,S [],.int .i64 0,S [],.int .i64 0,S [],.int .i64 0,.slice none 0 0,.slice none 0 0]::.ba ce 61 [.int .i64 1,S X.1,.int .i64 G.1.Kind,S G.1.Nb,.int .i64 0,S [],.int .i64 0,.slice none 0 0,.slice none 0 0]::O)) (by rintro _ _ ⟨_,_,rfl,_⟩; rfl) ?_ ?_
 refine eb ?_
 iterate 3 refine st ?_
 refine me 24 h ?_ ?_
 intro of h
 refine oa rfl rfl (oa rfl rfl (st (La (za ?_))))
 replace b:=((b.da Da).da Eb).da Eb
 exact ⟨_,_,rfl,(Xa (Yc (Ah (Na ta)))),_,true,rfl,h,ga.r,b⟩
 intro of h
 refine Ta rfl (Ta rfl (st (La (za ?_))))
 replace b:=((b.da Da).da Eb).da Eb
 exact ⟨_,_,rfl,(Xa (Yc (Ah (Na ta)))),_,(decide ((20:Int)<y.1)),rfl,h,ga.r,b⟩
 rintro _ t Os ⟨gt,H,rfl,h,K,b⟩
 unfold Yr at h
 refine Vb (vc (Jf (Ql (kc pb)))) (ra ?_)
 refine ed h ?_ ?_
 intro wf h
 cases h
 intro wf h
 refine Va (ra (ea ?_))
 iterate 2 refine st ?_
 refine wl (Je Uc (aa (ib d2)) (aa (ib d1)) rfl b d2 ad rfl Ib Ma ?_)
 clear b; intro it b
 refine rb (st ?_)
 refine wl (xd underlying131 Hb (fb.s Ba rfl fb.z) rfl rfl b ?_); clear b; intro lt mt rt b; refine fa ?_
 obtain ⟨ut,L,If,b⟩:=Sep.ud (l:=([[59]]:List (List UInt8))) b (pa.one (α:=List UInt8) rfl) (Nat.le_of_ble_eq_true rfl)
 obtain ⟨wt,dg,h⟩:=ha h
 refine Aa (Hj (e.t (c.t (d.t (x.t (B.t (C.t (Z.t (K.t L)))))))) (Ne.up (K.t L)) If dg b) ?_
 rintro _ hu ⟨pu,bv,hw,rfl,bi,b,ci⟩
 refine fa (rb (Ae (b.ba d2).cells rfl (wl (yb Oe (aa d2) (aa (ib d6)) rfl rfl b d1 rfl kb Ma ?_))))
 clear b; intro kw b
 refine ja (Ra ?_)
 refine (fun h=>Ab (Fa h)) ?_
 obtain rfl:=Ea h
 refine Ad rfl (Qa.s (.a d2 Oe (b.ba d1).cells rfl) Qa.z) ?_
 replace b:=(b.drop (ia.s ia.z)).drop (ia.s ia.z)
 exact ⟨_,none,0,none,0,_,_,rfl,(c.t (d.t (x.t (B.t (C.t (Z.t (K.t (L.t bi)))))))),b,Ka.nil,Ka.nil,ci⟩
 intro wd h
 refine ea (st ?_)
 obtain ⟨lw,ii,h⟩:=ha h
 refine Aa (Rg (e.t (c.t d)) W ii b) ?_
 rintro _ ww ⟨ex,rx,c70,rfl,f,b,lc⟩
 refine fa (st (ja ?_))
 refine ed h ?_ ?_
 intro li h
 refine ea (st ?_)
 obtain ⟨xx,pi,h⟩:=ha h
 refine Aa (um (e.t (c.t (d.t f))) lc pi b) ?_
 rintro _ zx ⟨ty,a76,sz,rfl,D,b,Pi⟩
 refine fa (st ?_)
 obtain ⟨Rz,kk,h⟩:=ha h
 refine Aa (Gz (e.t (c.t (d.t (f.t D)))) Pi kk b) ?_
 rintro _ AC ⟨GE,LE,NE,a85,WF,rfl,N,b,mk,ok⟩
 refine fa (wl (Nd Oe xu (ab.o rfl Ba rfl rfl Ga (ab.o rfl (aa (Bb d1)) rfl rfl kb (ab.o rfl (aa (Bb d3)) rfl rfl sd ab.z))) (ma (Xd hd)) ?_))
 refine wl (bd Oe b ?_); clear b; intro RK WL XL b; refine fa ?_
 refine wl (yb Oe (aa d6) (aa (Bb d4)) rfl rfl b d0 rfl Ga Ma ?_)
 clear b; intro YL b
 refine rb (st ?_)
 obtain ⟨ZL,dl,h⟩:=ha h
 replace b:=b.da Da
 refine Aa (Nt (e.t (c.t (d.t (f.t (D.t N))))) ok dl b) ?_
 rintro _ aM ⟨bM,a93,cM,rfl,P,b,el⟩
 refine fa (st (wl (En Mb (aa (Bb d7)) (aa (Bb d6)) rfl rfl rfl b d1 (kd.s Ib (of_decide_eq_true rfl) (kd.s ec (of_decide_eq_true rfl) kd.z)) rfl kb Ma ?_)))
 clear b; intro dM b
 refine rb (st ?_)
 obtain ⟨eM,nl,h⟩:=ha h
 refine Aa ((tt fu).vi (e.t (c.t (d.t (f.t (D.t (N.t P)))))) el nl b) ?_
 rintro _ fM ⟨gM,hM,iM,jM,kM,rfl,rc,b,ol,pl⟩
 refine fa (st (wl (Je Tn (aa (sb d0)) (aa (Bb d9)) rfl b d1 Yd rfl kb Ma ?_)))
 clear b; intro lM b
 refine rb (Ae (b.ba d1).cells rfl (wl (yb Oe (aa d2) (aa (sb d1)) rfl rfl b d2 rfl Ib Ma ?_)))
 clear b; intro mM b
 refine ja (Ra ?_)
 refine (fun h=>Ab (Fa h)) ?_
 obtain rfl:=Ea h
 refine Ad rfl (Qa.s (.a d2 Oe (b.ba d2).cells rfl) Qa.z) ?_
 replace b:=(b.drop (ia.s ia.z)).drop (ia.s ia.z)
 exact ⟨_,_,_,_,_,_,_,rfl,(c.t (d.t (f.t (D.t (N.t (P.t rc)))))),b,(mk.up (P.t rc)),ol,pl⟩
 intro li h
 refine ea (st ?_)
 obtain ⟨nM,ul,h⟩:=ha h
 refine Aa (Rg (e.t (c.t (d.t f))) lc ul b) ?_
 rintro _ oM ⟨pM,qM,c109,rfl,g,b,fd⟩
 refine fa (st (ja ?_))
 refine ed h ?_ ?_
 intro am h
 refine ea (st ?_)
 obtain ⟨rM,em,h⟩:=ha h
 refine Aa (um (e.t (c.t (d.t (f.t g)))) fd em b) ?_
 rintro _ sM ⟨tM,uM,c116,rfl,k,b,hm⟩
 refine fa (st ?_)
 obtain ⟨vM,lm,h⟩:=ha h
 refine Aa (Gz (e.t (c.t (d.t (f.t (g.t k))))) hm lm b) ?_
 rintro _ wM ⟨xM,yM,zM,a124,AM,rfl,p,b,pm,sm⟩
 refine fa (wl (Nd Oe xu (ab.o rfl Ba rfl rfl Ga (ab.o rfl (aa (sb d6)) rfl rfl kb (ab.o rfl (aa (sb d8)) rfl rfl sd ab.z))) (ma (ee Ed)) ?_))
 refine wl (bd Oe b ?_); clear b; intro BM CM DM b; refine fa ?_
 refine wl (yb Oe (aa d7) (aa (sb d9)) rfl rfl b d0 rfl Ga Ma ?_)
 clear b; intro EM b
 refine rb (st ?_)
 refine wl (xd underlying131 Hb (fb.s Ba rfl fb.z) rfl rfl b ?_); clear b; intro FM GM HM b; refine fa ?_
 obtain ⟨IM,j,Nm,b⟩:=Sep.ud (l:=([[116,97,107,101,115]]:List (List UInt8))) b (pa.one (α:=List UInt8) rfl) (Nat.le_of_ble_eq_true rfl)
 obtain ⟨JM,fn,h⟩:=ha h
 replace b:=b.da Da
 refine Aa (Hj (e.t (c.t (d.t (f.t (g.t (k.t (p.t j))))))) (sm.up j) Nm fn b) ?_
 rintro _ KM ⟨LM,MM,NM,rfl,q,b,on⟩
 refine fa (rb (st ?_))
 obtain ⟨OM,un,h⟩:=ha h
 refine Aa (Nt (e.t (c.t (d.t (f.t (g.t (k.t (p.t (j.t q)))))))) on un b) ?_
 rintro _ PM ⟨QM,RM,c143,rfl,A,b,wn⟩
 refine fa (st (wl (En Mb (aa (Gc d5)) (aa (Gc d4)) rfl rfl rfl b d1 (kd.s hd (of_decide_eq_true rfl) (kd.s cd (of_decide_eq_true rfl) kd.z)) rfl kb Ma ?_)))
 clear b; intro SM b
 refine rb (st ?_)
 refine wl (xd underlying131 Hb (fb.s Ba rfl fb.z) rfl rfl b ?_); clear b; intro TM UM VM b; refine fa ?_
 obtain ⟨WM,u,Fn,b⟩:=Sep.ud (l:=([[121,105,101,108,100,115]]:List (List UInt8))) b (pa.one (α:=List UInt8) rfl) (Nat.le_of_ble_eq_true rfl)
 obtain ⟨XM,In,h⟩:=ha h
 refine Aa (Hj (e.t (c.t (d.t (f.t (g.t (k.t (p.t (j.t (q.t (A.t u)))))))))) (wn.up u) Fn In b) ?_
 rintro _ YM ⟨ZM,a152,aN,rfl,E,b,co⟩
 refine fa (rb (st ?_))
 obtain ⟨bN,go,h⟩:=ha h
 refine Aa (Nt (e.t (c.t (d.t (f.t (g.t (k.t (p.t (j.t (q.t (A.t (u.t E))))))))))) co go b) ?_
 rintro _ cN ⟨dN,eN,c159,rfl,Q,b,io⟩
 refine fa (st (wl (En Mb (aa (Oc d1)) (aa (Oc d0)) rfl rfl rfl b d1 (kd.s Ib (of_decide_eq_true rfl) (kd.s ec (of_decide_eq_true rfl) kd.z)) rfl kb Ma ?_)))
 clear b; intro fN b
 refine rb (st ?_)
 obtain ⟨gN,no,h⟩:=ha h
 refine Aa ((tt fu).vi (e.t (c.t (d.t (f.t (g.t (k.t (p.t (j.t (q.t (A.t (u.t (E.t Q)))))))))))) io no b) ?_
 rintro _ hN ⟨iN,a164,jN,a167,c168,rfl,id,b,ro,to⟩
 refine fa (st (wl (Je Tn (aa (Oc d4)) (aa (Oc d3)) rfl b d1 Yd rfl kb Ma ?_)))
 clear b; intro kN b
 refine rb (Ae (b.ba d1).cells rfl (wl (yb Oe (aa d2) (aa (Oc d5)) rfl rfl b d2 rfl Ib Ma ?_)))
 clear b; intro lN b
 refine ja (Ra ?_)
 refine (fun h=>Ab (Fa h)) ?_
 obtain rfl:=Ea h
 refine Ad rfl (Qa.s (.a d2 Oe (b.ba d2).cells rfl) Qa.z) ?_
 replace b:=(b.drop (ia.s ia.z)).drop (ia.s ia.z)
 exact ⟨_,_,_,_,_,_,_,rfl,(c.t (d.t (f.t (g.t (k.t (p.t (j.t (q.t (A.t (u.t (E.t (Q.t id)))))))))))),b,(pm.up (j.t (q.t (A.t (u.t (E.t (Q.t id))))))),ro,to⟩
 intro am h
 refine ea (st ?_)
 obtain ⟨mN,Do,h⟩:=ha h
 refine Aa (Rg (e.t (c.t (d.t (f.t g)))) fd Do b) ?_
 rintro _ nN ⟨oN,a173,pN,rfl,R,b,Go⟩
 refine fa (st (ja ?_))
 refine ed h ?_ ?_
 intro ap h
 refine ea (st ?_)
 obtain ⟨qN,ip,h⟩:=ha h
 refine Aa (um (e.t (c.t (d.t (f.t (g.t R))))) Go ip b) ?_
 rintro _ rN ⟨sN,tN,uN,rfl,md,b,jp⟩
 refine fa (st ?_)
 obtain ⟨vN,mp,h⟩:=ha h
 refine Aa ((tt fu).vi (e.t (c.t (d.t (f.t (g.t (R.t md)))))) jp mp b) ?_
 rintro _ wN ⟨xN,yN,zN,AN,BN,rfl,op,b,pp,sp⟩
 refine fa (wl (Nd Oe xu (ab.o rfl Ba rfl rfl Ga (ab.o rfl (aa (Nc d0)) rfl rfl kb (ab.o rfl (aa (Nc d2)) rfl rfl Yd ab.z))) (ma (qg ec)) (wl (yb Oe (aa d2) (aa (Nc d3)) rfl rfl b d1 rfl kb Ma ?_))))
 clear b; intro CN b
 refine ja (Ra ?_)
 refine (fun h=>Ab (Fa h)) ?_
 obtain rfl:=Ea h
 refine Ad rfl (Qa.s (.a d2 Oe (b.ba d1).cells rfl) Qa.z) ?_
 replace b:=b.drop (ia.s ia.z)
 exact ⟨_,none,0,_,_,_,_,rfl,(c.t (d.t (f.t (g.t (R.t (md.t op)))))),b,Ka.nil,pp,sp⟩
 intro ap h
 refine Va ?_
 refine (fun h=>Pb (ra h)) ?_
 refine db ?_
 cases h
end Go.Proofs.YthoigniombcphaaGreatDoor
set_option maxRecDepth 100000
namespace Go.Proofs.YthoigniombcphaaGreatDoor
open Go.bc Go.Dc Go.Y Go.RowKit
theorem OD (v0 v1:Value) (w:World) :
    CallsD Tryz.prog 15 #[v0,v1] .returning w fun e a w'=>e=.returned (.tuple #[])∧a=.returning∧w'=w:=by
  refine callsD_of_wpS Tryz.func15 rfl fun b cs hu=>?_
  apply wpS_seq
  apply wpS_region
  simp [wpOpsS,go_sem,recoverD,hu,Tryz.ntmps15,Exit.thenS]
  refine wpS_of_wp (He.out (fr:=[v0,v1,undef,undef,undef,.nilIface,undef,undef,undef,undef,undef,undef,undef]) (ds:=[]) ?_)
  refine Qb ?_
  refine db ?_
  refine eb ?_
  refine wl (EG Tryz.underlying20 (aa d5) (.inl ⟨rfl,rfl⟩) (ma sd) ?_)
  refine La ?_
  refine ra ?_
  refine Bm (aa d7) ?_
  refine eb ?_
  refine wl (tA (aa d5) (ma Ib) ?_)
  refine La ?_
  refine Pb ?_
  cases b
  simp_all [F,bodyPostS,results,Tryz.results15]
theorem NA {I:M} {J w:World} {O:List Wb} {v0 v1:Value} {r:Unit} (b:ga Fc I) (h:iw=some r) (a:ka I J w O):fB Tryz.prog 15 [v0,v1] w (fun v w'=>∃ na:M,v=.tuple ⟨[]⟩∧ga I na∧ka na J w' O) :=
  ⟨(OD v0 v1 w).mono fun e c w' he=>by
    obtain ⟨rfl,rfl,rfl⟩:=he
    exact ⟨rfl,_,rfl,ga.r,a⟩⟩
end Go.Proofs.YthoigniombcphaaGreatDoor
set_option maxRecDepth 100000
set_option maxHeartbeats 20000000
namespace Go.Proofs.YthoigniombcphaaGreatDoor
open Go.bc Go.Dc Go.Y Tryz
variable {fu:Nat} {I:M} {J w:World} {O:List Wb}
theorem Iz (l:ga Fc I) {p_1:List UInt8} {r:List va×Vc}  (h:dq fu p_1=some r) (b:ka I J w (O)):Sb prog 6 [S p_1] w (fun v w'=>∃ (na:M) (xa:Option Addr) (c2:Nat),v=.tuple ⟨[.slice xa r.1.length c2,.agg ⟨[.int .i64 r.2.Ue,.int .i64 r.2.dd]⟩]⟩∧ga I na∧ka na J w' (O)∧Ka na xa c2 r.1):=by
 unfold dq at h
 refine qs func6 rfl (frm:=_::zd (zd (Ge (Xe (Xe []))))) rfl (ea ?_)
 refine wl (bd Cm b ?_); clear b; intro p ok dl b; refine fa ?_
 refine wl (bd wc b ?_); clear b; intro dh el nl b; refine fa ?_
 refine rb (st ?_)
 obtain ⟨f,g9,h⟩:=ha h
 refine Aa (RC l g9 b) ?_
 rintro _ ol ⟨R,xc,c12,rfl,g,b,m13⟩
 refine fa ?_
 iterate 4 refine st ?_
 refine wl (yb wc (aa d3) (aa (wa d1)) rfl rfl b d0 rfl Ga Ma ?_)
 clear b; intro pl b
 refine ob (ea (st (Ha ((b.ba d0).cell d0) (st (ja ?_)))))
 refine Za h ?_ ?_
 intro md h
 refine db ?_
 refine Ub ([15]) (by decide) (fun m w=>∃ (e:M) ,m=(yd (ng (Sc 15 [])))∧Vw f =some r∧ga R e∧ka e J w (.ba p 22 [.slice none 0 0]::.ba dh 26 [.int .i64 f.2.Ue,.int .i64 f.2.dd]::O)) (by rintro _ _ ⟨_,rfl,_⟩; rfl) ?_ ?_
 refine Td b ?_; clear b; intro ul b
 refine Pd (Fb 0 [0,2] rfl (Re wc (aa d3) (b.ba d0).cells rfl) (Jb cd) (Kb rfl rfl rfl rfl (Gb rfl) (Je Cm (aa d2) Ba rfl b d1 Ga rfl kb Ma ?_)))
 clear b; intro am b
 refine ⟨(Oa.s (Re wc (aa d3) (b.ba d0).cells rfl) Oa.z),?_⟩
 refine Kb rfl rfl rfl rfl (Gb rfl) (yb wc (aa d3) (aa (wa d5)) rfl rfl b d0 rfl Ga Ma ?_)
 clear b; intro em b
 refine ⟨Oa.z,?_⟩
 refine Hd (za ?_)
 replace b:=b.da Da
 exact ⟨_,_,rfl,(xb (ie (lb ta))),_,rfl,h,ga.r,b⟩
 rintro _ t Mf ⟨hm,rfl,h,rd,b⟩
 unfold Vw at h
 refine Vb (Dd (Ag (Xc pb))) (ra (Ra (Fa ?_)))
 obtain rfl:=Ea h
 refine vg rfl (Qa.s (.c d2 Cm ((b.ba d0).cell d0)) (Qa.s (.a d3 wc (b.ba d1).cells rfl) Qa.z)) ?_
 replace b:=(b.drop ia.z).drop ia.z
 exact ⟨_,none,0,rfl,(g.t rd),b,Ka.nil⟩
 intro md h
 refine Va (ra (ea (wl (Ja (Wt hb (sa (aa d2) (sa (aa d3) hb))) (ma (Jb ad)) (wl (Bo (aa (wa d6)) hb Ma (rb ?_)))))))
 iterate 2 refine st ?_
 refine wl (Ja (bl underlying9 (aa (wa d8))) (ma (Jb Ed)) (wl (Nd AI MI (ab.o rfl (aa (wa d7)) rfl rfl Ga (ab.o rfl (aa (wa d9)) rfl rfl kb ab.z)) (ma (oc Ga)) ?_)))
 refine wl (Ji (aa (Sa d0)) rfl b ?_); clear b; intro T lm pm b; refine fa ?_
 refine st (ob (Qb ?_))
 replace b:=b.Qh 61 (cb.sz va)
 replace b:=((b.da Da).da Eb).da bb
 refine Se (rg 22 18) (by decide) (fun n m w=>∃ e A G H i42 i43 k K B,m=(qc (vf (Rc 22 (ei 32 []))))∧fp fu f n A i42 i43 k=some r∧ga R e∧ka e J w (.ba p 22 [K]::.ba dh 26 [.int .i64 f.2.Ue,.int .i64 f.2.dd]::.ba T 71 [.slice G A.length H,.int .i64 i42,.int .i64 i43]::.row K 61 9 k.length B::O)∧Ka e G H A∧pa e B k) (by rintro _ _ _ ⟨_,_,_,_,_,_,_,_,_,rfl,_⟩; rfl) _ _ (Xa (Yc (qb (ag ta)))) ⟨_,f.1,xc,c12,(p_1.length:Int),0,[],(.slice none 0 0),[],rfl,h,ga.r,b,m13,pa.nil⟩ ?_
 rintro C _ t sm ⟨wd,A,G,H,i42,i43,k,K,B,rfl,h,j,b,Fd,V⟩
 rcases C with _|C
 cases h
 unfold fp at h
 refine Te (vc (Jf (Wc (xi pb)))) (db (ea ?_))
 iterate 3 refine st ?_
 refine Ha ((b.ba d2).cell d0) (wl (Ja (Qd underlying64 (aa (Sa d5))) (ma (oc ad)) (st (ja ?_))))
 refine Za h ?_ ?_
 intro Id h
 refine Va (ra (Qb (db (ea (Ha ((b.ba d0).cell d0) (wl (Ja (wj underlying22 (aa (Sa d8)) (b.get d3).yj) (ma (oc Ed)) (st (ja ?_)))))))))
 refine Za h ?_ ?_
 intro be h
 cases h
 intro be h
 refine Va (ra ?_)
 refine Ub (rg 35 5) (by decide) (fun m w=>∃ e q a72 D i76 i77 u E F,m=(qc (yd (ng (Hk 35 []))))∧Zu (fp fu f C) q i76 i77 u=some r∧ga wd e∧ka e J w (.ba p 22 [E]::.ba dh 26 [.int .i64 f.2.Ue,.int .i64 f.2.dd]::.ba T 71 [.slice a72 q.length D,.int .i64 i76,.int .i64 i77]::.row E 61 9 u.length F::O)∧Ka e a72 D q∧pa e F u) (by rintro _ _ ⟨_,_,_,_,_,_,_,_,_,rfl,_⟩; rfl) ?_ ?_
 refine Td b ?_; clear b; intro Nm b
 refine Pd (Fb 0 [0,4,5] rfl (jb Cm (aa d2) ((b.ba d0).cell d0)) (qd cd) (la 1 [1,2,3,4,5] rfl ?_))
 obtain ⟨d,ce,h⟩:=ha h
 replace b:=b.da Eb
 refine Kb rfl rfl rfl rfl (Gb rfl) (td GG nd (sa (aa (ib d6)) hb) (fG (l.t (g.t j)) Fd ce b) ?_)
 rintro _ fn ⟨ge,a85,L,N,P,a91,on,rfl,W,b,he,le,ne⟩
 refine fa ?_
 refine ⟨(Oa.s (jb Cm (aa d2) ((b.ba d1).cell d0)) Oa.z),?_⟩
 refine Kb rfl rfl rfl rfl (Gb rfl) (vj underlying22 Oe rfl (aa (ib d7)) rfl b ?_); clear b; intro un wn Fn b; refine fa ?_
 refine ⟨(Oa.s (jb Cm (aa d2) ((b.ba d2).cell d0)) Oa.z),?_⟩
 obtain ⟨In,X,h⟩:=ha h
 have Y:pa ge [.int .i64 d.1.Kind,S d.1.Name,.int .i64 d.1.zb.Kind,S d.1.zb.Nb,.int .i64 d.1.Hc.Kind,S d.1.Hc.Nb,.int .i64 d.1.oe,.slice a85 d.1.Params.length L,.slice N d.1.Body.length P] [d.1]:=(pa.one (α:=va) (va.i ⟨a85,L,N,P,rfl,he,le⟩))
 have Ne:=pa.app (V.up W) Y X
 refine Kb rfl rfl rfl rfl (Gb rfl) (xj underlying22 Oe rfl (aa (ib d5)) (aa (ib d8)) b d4 (b.ba d0).cells Y rfl X (by decide) ?_); clear b; intro co go of wf b; cases (show _=of from wf)
 replace b:=Sep.te b hd; refine fa ?_
 replace b:=b.drop ia.z
 refine ⟨Oa.z,?_⟩
 refine Kb rfl rfl rfl rfl (Gb rfl) (Je Cm (aa d2) (aa (ib d9)) (b.get d3).Me b d1 Ga rfl kb Ma ?_)
 clear b; intro io b
 refine ⟨Oa.z,?_⟩
 refine Hd (za ?_)
 replace b:=(((b.da bb).da Da).da bb).da bb
 exact ⟨_,_,rfl,(Xa (xb (ie (Ah ta)))),_,d.2.1,_,_,d.2.2.1,d.2.2.2,_,_,(B++[.int .i64 d.1.Kind,S d.1.Name,.int .i64 d.1.zb.Kind,S d.1.zb.Nb,.int .i64 d.1.Hc.Kind,S d.1.Hc.Nb,.int .i64 d.1.oe,.slice a85 d.1.Params.length L,.slice N d.1.Body.length P]),rfl,h,W,b,ne,Ne⟩
 rintro _ t no ⟨ro,q,a72,D,i76,i77,u,E,F,rfl,h,If,b,dg,bi⟩
 unfold Zu at h
 refine Vb (vc (Dd (Ag (Ql pb)))) ?_
 refine (fun h=>Pb (za h)) ?_
 exact ⟨C,_,_,rfl,(Xa (Yc (qb (ag ta)))),⟨_,q,a72,D,i76,i77,u,E,F,rfl,h,(j.t If),b,dg,bi⟩,Nat.lt_succ_self _⟩
 intro Id h
 refine ke ?_
 refine (fun h=>jc (jc (pe h))) ?_
 refine ra (db (ea (Ha ((b.ba d0).cell d0) ?_)))
 replace b:=b.da bb
 obtain ⟨to,ci,c105,ii,x,Z,gc⟩:=Sep.Gi b V rfl; clear b
 subst ii; have b:=gc; clear gc
 obtain ⟨lc,li,h⟩:=ha h
 refine Aa (Xw (l.t (g.t (j.t x))) Z li b) ?_
 rintro _ Do ⟨rc,rfl,y,b⟩
 refine fa ?_
 refine wl (bd wc b ?_); clear b; intro Go ap ip b; refine fa ?_
 refine wl (yb wc (aa d6) (aa (Bb d1)) rfl rfl b d0 rfl Ga Ma ?_)
 clear b; intro jp b
 refine rb (st (Ha ((b.ba d0).cell d0) (st (ja ?_))))
 refine Za h ?_ ?_
 intro pi h
 refine db ?_
 refine Ub (rg 45 3) (by decide) (fun m w=>∃ (e:M) ,m=(qc (qc (ng (Yg 45 []))))∧Ww lc =some r∧ga rc e∧ka e J w (.ba p 22 [.slice none 0 0]::.ba dh 26 [.int .i64 lc.Ue,.int .i64 0]::O)) (by rintro _ _ ⟨_,rfl,_⟩; rfl) ?_ ?_
 refine Td b ?_; clear b; intro mp b
 refine Pd (la 0 [0,1,2,4] rfl (Fb 1 [1,2,4] rfl (jb wu (aa (Bb d5)) ((b.ba d0).cell d0)) (Xd ad) (ze 2 [2,4] rfl (Jt wc Zi (ab.o rfl (aa (Bb d6)) rfl rfl Ga ab.z)) (Xd sd) (Kb rfl rfl rfl rfl (Gb rfl) (Je Cm (aa d2) Ba rfl b d1 Ga rfl kb Ma ?_)))))
 clear b; intro op b
 refine ⟨(Oa.s (jb wu (aa (Bb d5)) ((b.ba d0).cell d0)) Oa.z),?_⟩
 refine Kb rfl rfl rfl rfl (Gb rfl) (yb wc (aa d3) (aa (Bb d7)) rfl rfl b d2 rfl Ib Ma ?_)
 clear b; intro pp b
 refine ⟨Oa.z,?_⟩
 refine Hd (za ?_)
 replace b:=(b.drop ia.z).drop (ia.s (ia.s ia.z))
 exact ⟨_,_,rfl,(Xa (Xa (ie (ue ta)))),_,rfl,h,ga.r,b⟩
 rintro _ t sp ⟨wp,rfl,h,fd,b⟩
 unfold Ww at h
 refine Vb (vc (vc (Ag (qh pb)))) (ra (Ra (Fa ?_)))
 obtain ⟨Op,Pi,h⟩:=ha h
 refine dC LB (NA (l.t (g.t (j.t (x.t (y.t fd))))) Pi b) ?_
 rintro _ eq ⟨Eq,rfl,kk,b⟩
 obtain rfl:=Ea h
 refine vg rfl (Qa.s (.c d2 Cm ((b.ba d0).cell d0)) (Qa.s (.a d3 wc (b.ba d1).cells rfl) Qa.z)) ?_
 replace b:=(b.drop ia.z).drop ia.z
 exact ⟨_,none,0,rfl,(g.t (j.t (x.t (y.t (fd.t kk))))),b,Ka.nil⟩
 intro pi h
 refine Va (ra (db ?_))
 refine Ub (rg 48 2) (by decide) (fun m w=>∃ (e:M) ,m=(qc (qc (Kh (xf 48 []))))∧av f k =some r∧ga rc e∧ka e J w (.ba p 22 [.slice ci k.length c105]::.ba dh 26 [.int .i64 f.2.Ue,.int .i64 f.2.dd]::O)) (by rintro _ _ ⟨_,rfl,_⟩; rfl) ?_ ?_
 refine Td b ?_; clear b; intro fr b
 refine Pd (Fb 0 [0,2,3] rfl (jb Cm (aa d2) ((b.ba d1).cell d0)) (Xd Yd) (Fb 1 [1,3] rfl (Re wc (aa d3) (b.ba d2).cells rfl) (Xd Ed) (Kb rfl rfl rfl rfl (Gb rfl) (Je Cm (aa d2) (aa (Bb d8)) rfl b d1 Ga rfl kb Ma ?_))))
 clear b; intro or b
 refine ⟨(Oa.s (Re wc (aa d3) (b.ba d2).cells rfl) Oa.z),?_⟩
 refine Kb rfl rfl rfl rfl (Gb rfl) (yb wc (aa d3) (aa (Bb d9)) rfl rfl b d2 rfl Ib Ma ?_)
 clear b; intro qr b
 refine ⟨Oa.z,?_⟩
 refine Hd (za ?_)
 replace b:=(b.drop ia.z).drop (ia.s (ia.s ia.z))
 exact ⟨_,_,rfl,(Xa (Xa (lf (Zc ta)))),_,rfl,h,ga.r,b⟩
 rintro _ t wr ⟨Fr,rfl,h,Q,b⟩
 unfold av at h
 refine Vb (vc (vc (fi (Kf pb)))) (ra (Ra ?_))
 obtain ⟨Or,mk,h⟩:=ha h
 refine dC LB (NA (l.t (g.t (j.t (x.t (y.t Q))))) mk b) ?_
 rintro _ cs ⟨ds,rfl,id,b⟩
 obtain rfl:=Ea h
 refine vg rfl (Qa.s (.c d2 Cm ((b.ba d0).cell d0)) (Qa.s (.a d3 wc (b.ba d1).cells rfl) Qa.z)) ?_
 replace b:=(b.drop ia.z).drop ia.z
 exact ⟨_,_,_,rfl,(g.t (j.t (x.t (y.t (Q.t id))))),b,(Z.up (y.t (Q.t id)))⟩
end Go.Proofs.YthoigniombcphaaGreatDoor
