/- Texts of GenVerified Wl. -/
import Derived.Test.YtfmlfolepjbgaaaGreatDoorCXu
import Derived.Test.YtfmlfolepjbgaaaGreatDoorCMd
import Derived.Test.YtfmlfolepjbgaaaGreatDoorCWc
import Derived.Test.YtfmlfolepjbgaaaGreatDoorCWd
set_option linter.unusedSimpArgs false
set_option linter.unusedVariables false
set_option linter.unusedSectionVars false
set_option maxRecDepth 100000
set_option maxHeartbeats 20000000
namespace Go.Proofs.YtfmlfolepjbgaaaGreatDoor
open Go.oc Go.sd Go.Y Tryz
variable {c2 fu:Nat}{ta:Option Addr}{I:M}{J w:World}{O:List dc}
theorem DF (e:ea Ic I)  {r:Bool}  (h:uw fu =some r) (b:ka I J w (O)):pc prog 4 [] w (fun v w'=>∃ (la:M) ,v=.bool r∧ea I la∧ka la J w' (O)):=by
 unfold uw at h;refine enter func4 rfl (frm:=Ye (yd (We (hf (hf []))))) rfl (da (st (vb ?_)));obtain ⟨x,g2,h⟩:=ga h;refine Ua (eF e g2 b) ?_;rintro _ y ⟨A,a4,c5,rfl,c,b,m6⟩;refine ja ?_;iterate 3 refine st ?_
 refine wl (Ld Kd b ?_);clear b;intro zf B C b;refine ja ?_;refine st (wl (Yb Kd (aa d2) (aa d8) rfl rfl b d0 rfl Ja cb ?_));clear b;intro Nd b;refine vb (st ?_);obtain ⟨D,g10,h⟩:=ga h;refine Ua (bA (e.t c) m6 g10 b) ?_;rintro _ E ⟨F,a12,qt,ie,br,rfl,d,b,m14,m17⟩;refine ja ?_;iterate 3 refine st ?_
 refine wl (Ld zl b ?_);clear b;intro G H K b;refine ja ?_;refine wl (Ld Kd b ?_);clear b;intro L N P b;refine ja ?_;refine wl (Yb zl (aa d3) (aa (xa d2)) rfl rfl b d1 rfl ub cb ?_);clear b;intro Q b;refine wl (Yb Kd (aa d4) (aa (xa d3)) rfl rfl b d0 rfl Ja cb ?_);clear b;intro sg b;refine vb (st (Ca ((b.ba d2).cell d0) ?_));iterate 2 refine st ?_
 refine qe 17 h ?_ ?_;intro f h;refine za rfl (Qb rfl (xa d7) (ae kt (aa (xa d8)) ((b.ba d0).cell d0) (ma (Gb gd)) (za rfl ?_)));iterate 2 refine st ?_
 refine qe 22 h ?_ ?_;intro g h;refine za rfl (Qb rfl (Qa d2) (ae Lo (aa (Qa d3)) ((b.ba d1).cell d1) (ma (kc Kc)) (Qb rfl (Qa d2) (Ea (Yd underlying25 (aa (Qa d4))) (ma (kc Rc)) (za rfl ?_)))));iterate 2 refine st ?_
 refine qe 28 h ?_ ?_;intro i h;refine za rfl (Qb rfl (Qa d8) (ae Lo (aa (Qa d9)) ((b.ba d1).cell d1) (ma (xc Ja)) ?_));obtain ⟨R,j,h⟩:=ga h;obtain ⟨S,T,U,k,f31,m32⟩:=pd.elem m17 j;obtain ⟨W,X,Y,c37,rfl,Z,gc⟩:=m32;refine Qb rfl (Qa d8) (Ea (Uc underlying25 ki (aa (Ka d0)) Ma k) (ma (xc ub)) (za rfl (Qb rfl (Qa d8) (ae Al (aa (Ka d2)) ((f31 _ b.a).one d5) (ma (xc jc)) (Qb rfl (Qa d8) (Ea (Yd underlying40 (aa (Ka d3))) (ma (xc Kc)) (za rfl ?_)))))));iterate 2 refine st ?_
 refine qe 37 h ?_ ?_;intro l h;refine za rfl (Qb rfl (Ka d7) (ae Lo (aa (Ka d8)) ((b.ba d1).cell d1) (ma (xc gd)) ?_));obtain ⟨lc,m,h⟩:=ga h;obtain ⟨rc,fd,id,n,f46,o⟩:=pd.elem m17 m;obtain ⟨md,c49,a51,rd,rfl,td,p⟩:=o;refine Qb rfl (Ka d7) (Ea (Uc underlying25 ki (aa (Ka d9)) Ma n) (ma (Tc Ja)) (za rfl (Qb rfl (Ka d7) (ae Al (aa (gb d1)) ((f46 _ b.a).one d5) (ma (Tc Ib)) ?_))));obtain ⟨wd,q,h⟩:=ga h;obtain ⟨Fd,Id,be,s,f60,u⟩:=pd.elem p q;obtain rfl:=u;refine Qb rfl (Ka d7) (Ea (Uc underlying40 Qk (aa (gb d2)) Ma s) (ma (Tc jc)) (za rfl (Qb rfl (Ka d7) (ae Lb (aa (gb d4)) ((f60 _ b.a).one d0) (ma (Tc Rc)) (za rfl ?_)))));iterate 2 refine st ?_
 refine ia (La ?_);obtain rfl:=Ia h;refine yb rfl d0 ?_;replace b:=((b.drop fa.z).drop fa.z).drop fa.z;exact ⟨_,rfl,(c.t d),b⟩;intro l h;refine oa rfl rfl (oa rfl rfl (oa rfl rfl (oa rfl rfl (oa rfl rfl (oa rfl rfl (oa rfl rfl (oa rfl rfl (oa rfl rfl ?_))))))));iterate 2 refine st ?_
 refine ia (La ?_);obtain rfl:=Ia h;refine yb rfl d0 ?_;replace b:=((b.drop fa.z).drop fa.z).drop fa.z;exact ⟨_,rfl,(c.t d),b⟩;intro i h;refine oa rfl rfl (oa rfl rfl (oa rfl rfl (oa rfl rfl (oa rfl rfl (oa rfl rfl (oa rfl rfl ?_))))));iterate 2 refine st ?_
 refine oa rfl rfl (oa rfl rfl (oa rfl rfl (oa rfl rfl (oa rfl rfl (oa rfl rfl (oa rfl rfl (oa rfl rfl (oa rfl rfl ?_))))))));iterate 2 refine st ?_
 refine ia (La ?_);obtain rfl:=Ia h;refine yb rfl d0 ?_;replace b:=((b.drop fa.z).drop fa.z).drop fa.z;exact ⟨_,rfl,(c.t d),b⟩;intro g h;refine oa rfl rfl (oa rfl rfl (oa rfl rfl (oa rfl rfl ?_)));iterate 2 refine st ?_
 refine oa rfl rfl (oa rfl rfl (oa rfl rfl (oa rfl rfl (oa rfl rfl (oa rfl rfl (oa rfl rfl ?_))))));iterate 2 refine st ?_
 refine oa rfl rfl (oa rfl rfl (oa rfl rfl (oa rfl rfl (oa rfl rfl (oa rfl rfl (oa rfl rfl (oa rfl rfl (oa rfl rfl ?_))))))));iterate 2 refine st ?_
 refine ia (La ?_);obtain rfl:=Ia h;refine yb rfl d0 ?_;replace b:=((b.drop fa.z).drop fa.z).drop fa.z;exact ⟨_,rfl,(c.t d),b⟩;intro f h;refine oa rfl rfl (oa rfl rfl (oa rfl rfl ?_));iterate 2 refine st ?_
 refine oa rfl rfl (oa rfl rfl (oa rfl rfl (oa rfl rfl ?_)));iterate 2 refine st ?_
 refine oa rfl rfl (oa rfl rfl (oa rfl rfl (oa rfl rfl (oa rfl rfl (oa rfl rfl (oa rfl rfl ?_))))));iterate 2 refine st ?_
 refine oa rfl rfl (oa rfl rfl (oa rfl rfl (oa rfl rfl (oa rfl rfl (oa rfl rfl (oa rfl rfl (oa rfl rfl (oa rfl rfl ?_))))))));iterate 2 refine st ?_
 refine ia (La ?_);obtain rfl:=Ia h;refine yb rfl d0 ?_;replace b:=((b.drop fa.z).drop fa.z).drop fa.z;exact ⟨_,rfl,(c.t d),b⟩
theorem EF (c:ea Ic I){p_1:List va}{r:Bool}(m3:Ra I ta c2 p_1) (h:vu fu p_1=some r) (a:ka I J w (O)):pc prog 3 [.slice ta p_1.length c2] w (fun v w'=>∃ (la:M) ,v=.bool r∧ea I la∧ka la J w' (O)):=by
 unfold vu at h;refine enter func3 rfl (frm:=_::yd (hf [])) rfl (da (st (pb (da ?_))));obtain ⟨i,g5,h⟩:=ga h;refine Ua (DF c g5 a) ?_;rintro _ j ⟨k,rfl,b,a⟩;refine ja (st (ia ?_));refine Ej h ?_ ?_;intro e h;refine da (st (ia (La (Ga ?_))));obtain rfl:=Ia h;refine yb rfl d2 ?_;exact ⟨_,rfl,b,a⟩;intro e h;refine Pa (ra (da (st ?_)));obtain ⟨l,g9,h⟩:=ga h;refine Ua (bA (c.t b) (m3.up b) g9 a) ?_;rintro _ m ⟨n,qc,c12,ec,Je,rfl,d,a,m13,m16⟩;refine ja ?_;iterate 3 refine st ?_
 refine wl (Ld zl a ?_);clear a;intro p Nd q a;refine ja ?_;refine wl (Ld Kd a ?_);clear a;intro nd s u a;refine ja ?_;refine wl (Yb zl (aa d3) (aa (xa d0)) rfl rfl a d1 rfl ub cb ?_);clear a;intro x a;refine wl (Yb Kd (aa d4) (aa (xa d1)) rfl rfl a d0 rfl Ja cb ?_);clear a;intro y a;refine pb (da (st (Ca ((a.ba d0).cell d0) (st (ia ?_)))));refine jb h ?_ ?_;intro f h;refine da (st (Ca ((a.ba d1).cell d1) (wl (Ea (Yd underlying25 (aa (xa d6))) (ma (Gb Cc)) ?_))));iterate 2 refine st ?_
 refine ia (La (Ga ?_));obtain rfl:=Ia h;refine yb rfl d2 ?_;replace a:=(a.drop fa.z).drop fa.z;exact ⟨_,rfl,(b.t d),a⟩;intro f h;refine Pa (ra (da (Nf (a.ba d1).cells rfl ?_)));obtain ⟨A,g23,h⟩:=ga h;refine Ua (HE (c.t (b.t d)) m13 m16 g23 a) ?_;rintro _ B ⟨C,rfl,g,a⟩;refine ja (wl (qf Hf um Bb.z (ma (kc ub)) (wl (sJ (So.mk underlying34 cK bK) (aa (Qa d0)) (aa (Qa d1)) (ti.o rfl rfl rfl kt d0 d0 (eq_int underlying28) (ti.o rfl rfl rfl Lb d1 d1 (eq_int underlying3) (ti.o rfl rfl rfl Lb d2 d2 (eq_int underlying3) ti.z))) rfl (ma (kc Ib)) (st (ia (La ?_)))))));obtain rfl:=Ia h;refine yb rfl d2 ?_;replace a:=(a.drop fa.z).drop fa.z;exact ⟨_,rfl,(b.t (d.t g)),a⟩
end Go.Proofs.YtfmlfolepjbgaaaGreatDoor
