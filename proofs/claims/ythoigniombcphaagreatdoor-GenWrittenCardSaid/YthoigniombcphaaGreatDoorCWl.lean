/- Texts of GenWritten Wl. -/
import Derived.Test.YthoigniombcphaaGreatDoorCXu
import Derived.Test.YthoigniombcphaaGreatDoorCPl
import Derived.Test.YthoigniombcphaaGreatDoorCWc
import Derived.Test.YthoigniombcphaaGreatDoorCFl
set_option linter.unusedSimpArgs false
set_option linter.unusedVariables false
set_option linter.unusedSectionVars false
set_option maxRecDepth 100000
set_option maxHeartbeats 20000000
namespace Go.Proofs.YthoigniombcphaaGreatDoor
open Go.bc Go.Dc Go.Y Tryz
variable {c2 fu:Nat} {xa:Option Addr} {I:M} {J w:World} {O:List Wb}
theorem mx (g:ga Fc I) {p_1 r:Ya}  (h:fq p_1=some r) (b:ka I J w (O)):Sb prog 22 [.agg ⟨[.int .i64 p_1.Kind,S p_1.Nb]⟩] w (fun v w'=>∃ (na:M) ,v=.agg ⟨[.int .i64 r.Kind,S r.Nb]⟩∧ga I na∧ka na J w' (O)):=by
 unfold fq at h
 refine enter func22 rfl (frm:=_::zd (Ge [])) rfl (ea ?_)
 refine wl (Ji (aa d0) rfl b ?_); clear b; intro U i j b; refine fa ?_
 refine wl (bd Mb b ?_); clear b; intro nb k l b; refine fa ?_
 refine ob (ea (st (Ha ((b.ba d1).cell d0) (st (ja ?_)))))
 refine Ub ([6]) (by decide) (fun m w=>∃ d c,m=(Og (Sc 6 []))∧kv p_1 c=some r∧ga I d∧ka d J w (.ba U 57 [.int .i64 p_1.Kind,S c]::.ba nb 57 [.int .i64 0,S []]::O)) (by rintro _ _ ⟨_,_,rfl,_⟩; rfl) ?_ ?_
 refine Za h ?_ ?_
 intro e h
 refine eb (st (wl (Je Hb (aa d6) Ba rfl b d1 kb rfl kb Ma ?_)))
 clear b; intro n b
 refine La (za ?_)
 replace b:=b.da Da
 exact ⟨_,_,rfl,(ye (lb ta)),_,[],rfl,h,ga.r,b⟩
 intro e h
 refine Va (za ?_)
 replace b:=b.da Da
 exact ⟨_,_,rfl,(ye (lb ta)),_,p_1.Nb,rfl,h,ga.r,b⟩
 rintro _ t o ⟨p,c,rfl,h,f,b⟩
 unfold kv at h
 refine Vb (Zg (Xc pb)) (ra (ea (Ae (b.ba d0).cells rfl (wl (yb Mb (aa d2) (aa d7) rfl rfl b d1 rfl kb Ma ?_)))))
 clear b; intro q b
 refine ja (Ra ?_)
 obtain rfl:=Ea h
 refine Ad rfl (Qa.s (.a d2 Mb (b.ba d1).cells rfl) Qa.z) ?_
 replace b:=(b.drop ia.z).drop ia.z
 exact ⟨_,rfl,f,b⟩
def Vz (q:ua→Option ua):Prop:=∀ {I:M} {J w:World} {O:List Wb} (a:ga Fc I) {p_1:ua} {xa:Option Addr} {c2:Nat} {r:ua} (m3:Ka I xa c2 p_1.Kids) (h:q p_1=some r) (b:ka I J w (O)),Sb prog 48 [.agg ⟨[.int .i64 p_1.Kind,.int .i64 p_1.N,S p_1.Name,.slice xa p_1.Kids.length c2]⟩] w (fun v w'=>∃ (na:M) (a4:Option Addr) (c5:Nat),v=.agg ⟨[.int .i64 r.Kind,.int .i64 r.N,S r.Name,.slice a4 r.Kids.length c5]⟩∧ga I na∧ka na J w' (O)∧Ka na a4 c5 r.Kids)
structure Wz (a:Lo):Prop where
  Hl:Vz a.Hl
theorem kE {self:Lo} (L:Wz self):Vz (Hl self):=by
 intro I J w O M p_1 xa c2 r m3 h b
 unfold Hl at h
 refine enter func48 rfl (frm:=_::Cf (Ge (Ze []))) rfl (ea ?_)
 refine wl (Ji (aa d0) rfl b ?_); clear b; intro Le If dg b; refine fa ?_
 refine wl (bd pc b ?_); clear b; intro Fe bi ci b; refine fa ?_
 refine rb (st (Ha ((b.ba d1).cell d0) (wl (Nd pc il (ab.o rfl (aa d7) rfl rfl Ga ab.z) (ma Yd) ?_))))
 refine wl (bd pc b ?_); clear b; intro f ii li b; refine fa ?_
 refine wl (yb pc (aa d3) (aa d8) rfl rfl b d0 rfl Ga Ma ?_)
 clear b; intro pi b
 refine ob (db ?_)
 refine Ub (rg 9 7) (by decide) (fun m w=>∃ c Lg,m=(mi (Nj 9 (.i (.bool Lg)::[])))∧pr self p_1 Lg=some r∧ga I c∧ka c J w (.ba Le 124 [.int .i64 p_1.Kind,.int .i64 p_1.N,S p_1.Name,.slice xa p_1.Kids.length c2]::.ba Fe 124 [.int .i64 0,.int .i64 0,S [],.slice none 0 0]::.ba f 124 [.int .i64 p_1.Kind,.int .i64 0,S [],.slice none 0 0]::O)) (by rintro _ _ ⟨_,_,rfl,_⟩; rfl) ?_ ?_
 refine eb (st (Ha ((b.ba d2).cell d0) ?_))
 iterate 2 refine st ?_
 refine me 12 h ?_ ?_
 intro P h
 refine oa rfl rfl (oa rfl rfl (oa rfl rfl (st (La (za ?_)))))
 replace b:=(b.da Da).da Eb
 exact ⟨_,_,rfl,(yf (Cg (Na ta))),_,true,rfl,h,ga.r,b⟩
 intro P h
 refine Ta rfl (mc rfl (wa d2) (de Uc (aa (wa d3)) ((b.ba d2).cell d0) (ma (Jb hd)) (Ta rfl (st (La (za ?_))))))
 replace b:=(b.da Da).da Eb
 exact ⟨_,_,rfl,(yf (Cg (Na ta))),_,(decide (p_1.Kind=2)),rfl,h,ga.r,b⟩
 rintro _ t Pi ⟨Q,Lg,rfl,h,u,b⟩
 unfold pr at h
 refine Vb (Qi (Ik (kc pb))) (ra ?_)
 refine Ub (rg 17 3) (by decide) (fun m w=>∃ c i16,m=(yd (rh (Yg 17 [])))∧nr self p_1 i16=some r∧ga Q c∧ka c J w (.ba Le 124 [.int .i64 p_1.Kind,.int .i64 p_1.N,S p_1.Name,.slice xa p_1.Kids.length c2]::.ba Fe 124 [.int .i64 0,.int .i64 0,S [],.slice none 0 0]::.ba f 124 [.int .i64 p_1.Kind,.int .i64 i16,S [],.slice none 0 0]::O)) (by rintro _ _ ⟨_,_,rfl,_⟩; rfl) ?_ ?_
 refine ed h ?_ ?_
 intro R h
 refine eb (st (Ha ((b.ba d0).cell d1) (st (wl (Je Po (aa (wa d9)) (aa (wa d8)) rfl b d2 kb rfl Ib Ma ?_)))))
 clear b; intro kk b
 refine La (za ?_)
 exact ⟨_,_,rfl,(xb (cf (ue ta))),_,p_1.N,rfl,h,ga.r,b⟩
 intro R h
 refine Va (za ?_)
 exact ⟨_,_,rfl,(xb (cf (ue ta))),_,0,rfl,h,ga.r,b⟩
 rintro _ t mk ⟨T,i16,rfl,h,v,b⟩
 unfold nr at h
 refine Vb (Dd (Jh (qh pb))) (ra (db (db ?_)))
 refine Ub (rg 20 17) (by decide) (fun m w=>∃ c x,m=(qc (Rc 20 (Nj 30 (.i (.bool x)::[]))))∧gp self p_1 i16 x=some r∧ga T c∧ka c J w (.ba Le 124 [.int .i64 p_1.Kind,.int .i64 p_1.N,S p_1.Name,.slice xa p_1.Kids.length c2]::.ba Fe 124 [.int .i64 0,.int .i64 0,S [],.slice none 0 0]::.ba f 124 [.int .i64 p_1.Kind,.int .i64 i16,S [],.slice none 0 0]::O)) (by rintro _ _ ⟨_,_,rfl,_⟩; rfl) ?_ ?_
 refine eb (st (Ha ((b.ba d0).cell d0) ?_))
 iterate 2 refine st ?_
 refine me 23 h ?_ ?_
 intro V h
 refine oa rfl rfl (oa rfl rfl (oa rfl rfl ?_))
 iterate 2 refine st ?_
 refine oa rfl rfl (oa rfl rfl (oa rfl rfl ?_))
 iterate 2 refine st ?_
 refine oa rfl rfl (oa rfl rfl (oa rfl rfl (st (La (za ?_)))))
 exact ⟨_,_,rfl,(Xa (qb (Cg (Na ta)))),_,true,rfl,h,ga.r,b⟩
 intro V h
 refine Ta rfl (mc rfl (Sa d3) (de Uc (aa (Sa d4)) ((b.ba d0).cell d0) (ma (oc cd)) (Ta rfl ?_)))
 iterate 2 refine st ?_
 refine me 28 h ?_ ?_
 intro W h
 refine oa rfl rfl (oa rfl rfl (oa rfl rfl ?_))
 iterate 2 refine st ?_
 refine oa rfl rfl (oa rfl rfl (oa rfl rfl (st (La (za ?_)))))
 exact ⟨_,_,rfl,(Xa (qb (Cg (Na ta)))),_,true,rfl,h,ga.r,b⟩
 intro W h
 refine Ta rfl (mc rfl (Sa d8) (de Uc (aa (Sa d9)) ((b.ba d0).cell d0) (ma (qd Ga)) (Ta rfl ?_)))
 iterate 2 refine st ?_
 refine me 33 h ?_ ?_
 intro X h
 refine oa rfl rfl (oa rfl rfl (oa rfl rfl (st (La (za ?_)))))
 exact ⟨_,_,rfl,(Xa (qb (Cg (Na ta)))),_,true,rfl,h,ga.r,b⟩
 intro X h
 refine Ta rfl (mc rfl (ib d3) (de Uc (aa (ib d4)) ((b.ba d0).cell d0) (ma (qd cd)) (Ta rfl (st (La (za ?_))))))
 exact ⟨_,_,rfl,(Xa (qb (Cg (Na ta)))),_,(decide (p_1.Kind=22)),rfl,h,ga.r,b⟩
 rintro _ t Mf ⟨Y,x,rfl,h,y,b⟩
 unfold gp at h
 refine Vb (vc (Wc (Ik (kc pb)))) (ra ?_)
 refine Ub (rg 38 3) (by decide) (fun m w=>∃ c e,m=(qc (yd (Kh (Yg 38 []))))∧mr self p_1 i16 e=some r∧ga Y c∧ka c J w (.ba Le 124 [.int .i64 p_1.Kind,.int .i64 p_1.N,S p_1.Name,.slice xa p_1.Kids.length c2]::.ba Fe 124 [.int .i64 0,.int .i64 0,S [],.slice none 0 0]::.ba f 124 [.int .i64 p_1.Kind,.int .i64 i16,S e,.slice none 0 0]::O)) (by rintro _ _ ⟨_,_,rfl,_⟩; rfl) ?_ ?_
 refine ed h ?_ ?_
 intro Z h
 refine eb (st (Ha ((b.ba d0).cell d2) (st (wl (Je Hb (aa (Bb d0)) (aa (ib d9)) rfl b d2 Ib rfl Ib Ma ?_)))))
 clear b; intro ok b
 refine La (za ?_)
 exact ⟨_,_,rfl,(Xa (xb (lf (ue ta)))),_,p_1.Name,rfl,h,ga.r,b⟩
 intro Z h
 refine Va (za ?_)
 exact ⟨_,_,rfl,(Xa (xb (lf (ue ta)))),_,[],rfl,h,ga.r,b⟩
 rintro _ t dl ⟨gc,e,rfl,h,A,b⟩
 unfold mr at h
 refine Vb (vc (Dd (fi (qh pb)))) (ra (db (ea (st (Ha ((b.ba d0).cell d3) (wl (Ja (Qd underlying122 (aa (Bb d2))) (ma (Xd ec)) (st (ja (Qb ?_))))))))))
 replace b:=b.Qh 124 (cb.sz ua)
 replace b:=((b.drop (ia.s ia.z)).da Eb).da Eb
 refine Se ([5]++rg 45 11) (by decide) (fun n m w=>∃ c i56 j B k,m=(ng (Sc 5 (qc (yd (Kh (.i (.int .i64 i56)::(Rc 45 (Sc 55 []))))))))∧Tp self p_1 i16 e n i56 j=some r∧ga gc c∧ka c J w (.ba Fe 124 [.int .i64 0,.int .i64 0,S [],.slice none 0 0]::.ba f 124 [.int .i64 p_1.Kind,.int .i64 i16,S e,B]::.row B 124 4 j.length k::O)∧pa c k j) (by rintro _ _ _ ⟨_,_,_,_,_,rfl,_⟩; rfl) _ _ (ie (lb (Xa (xb (lf (Na (qb (lb ta)))))))) ⟨_,0,[],(.slice none 0 0),[],rfl,h,ga.r,b,pa.nil⟩ ?_
 rintro l _ t el ⟨lc,i56,j,B,k,rfl,h,p,b,E⟩
 rcases l with _|l
 cases h
 unfold Tp at h
 refine Te (Ag (Xc (vc (Dd (fi (kc (Wc (Xc pb)))))))) (ea (st (ob ?_)))
 refine Za h ?_ ?_
 intro rc h
 refine Va (ra (db (Qb (ea ?_))))
 obtain ⟨nl,fd,h⟩:=ha h
 obtain ⟨ol,pl,ul,id,f98,md⟩:=Pc.elem (m3.up (u.t (v.t (y.t (A.t p))))) fd
 obtain ⟨am,em,rfl,rd⟩:=ua.o md
 refine wl (Ja (Mc underlying122 pc (aa (Bb d2)) (aa (Bb d4)) id) (ma (Xd ad)) (Ae (f98 _ b.a) rfl ?_))
 refine wl (bd pc b ?_); clear b; intro hm lm pm b; refine fa ?_
 refine wl (yb pc (aa d5) (aa (Bb d7)) rfl rfl b d0 rfl Ga Ma ?_)
 clear b; intro sm b
 refine ja ?_
 refine Ub (rg 48 7) (by decide) (fun m w=>∃ c g v105 q,m=(qc (qc (Kh (Nj 48 []))))∧lv i56 (Tp self p_1 i16 e l) g=some r∧ga lc c∧ka c J w (.ba Fe 124 [.int .i64 0,.int .i64 0,S [],.slice none 0 0]::.ba f 124 [.int .i64 p_1.Kind,.int .i64 i16,S e,v105]::.row v105 124 4 g.length q::O)∧pa c q g) (by rintro _ _ ⟨_,_,_,_,rfl,_⟩; rfl) ?_ ?_
 refine Td b ?_; clear b; intro Nm b
 refine Pd (la 0 [0,1,5,6,7] rfl (Fb 1 [1,5,6,7] rfl (jb Xh (aa (Bb d8)) ((b.ba d2).cell d3)) (Xd Ed) (Fb 2 [2,3,4,5,6,7] rfl (Re pc (aa d5) (b.ba d0).cells rfl) (ee Ga) ?_)))
 obtain ⟨d,wd,h⟩:=ha h
 refine Kb rfl rfl rfl rfl (Gb rfl) (td OG nd (sa (aa (sb d0)) hb) (L.Hl (M.t (u.t (v.t (y.t (A.t p))))) rd wd b) ?_)
 rintro _ fn ⟨Fd,C,D,rfl,F,b,Id⟩
 refine fa ?_
 refine ⟨(Oa.s (jb Xh (aa (Bb d8)) ((b.ba d2).cell d3)) Oa.z),?_⟩
 refine Kb rfl rfl rfl rfl (Gb rfl) (vj underlying122 pc rfl (aa (sb d1)) rfl b ?_); clear b; intro on un wn b; refine fa ?_
 refine ⟨(Oa.s (jb Xh (aa (Bb d8)) ((b.ba d3).cell d3)) Oa.z),?_⟩
 obtain ⟨Fn,G,h⟩:=ha h
 have H:pa Fd [.int .i64 d.Kind,.int .i64 d.N,S d.Name,.slice C d.Kids.length D] [d]:=(pa.one (α:=ua) (ua.i ⟨C,D,rfl,Id⟩))
 have be:=pa.ll (E.up F) H G
 refine Kb rfl rfl rfl rfl (Gb rfl) (Tv underlying122 pc rfl (aa (Bb d9)) (aa (sb d2)) b d4 (b.ba d0).cells H rfl G (by decide) ?_); clear b; intro v117 In ce ge b; cases (show _=ce from ge)
 replace b:=Sep.te b hd; refine fa ?_
 replace b:=b.drop ia.z
 refine ⟨Oa.z,?_⟩
 refine la 6 [6,7] rfl (Kb rfl rfl rfl rfl (Gb rfl) (Je Xh (aa (sb d4)) (aa (sb d3)) (b.get d3).Me b d2 ec rfl Ib Ma ?_))
 clear b; intro co b
 refine ⟨Oa.z,?_⟩
 refine Hd (za ?_)
 replace b:=b.drop ia.z
 exact ⟨_,_,rfl,(Xa (Xa (lf (Cg ta)))),_,_,_,(k++[.int .i64 d.Kind,.int .i64 d.N,S d.Name,.slice C d.Kids.length D]),rfl,h,F,b,be⟩
 rintro _ t go ⟨io,g,v105,q,rfl,h,he,b,le⟩
 unfold lv at h
 refine Vb (vc (vc (fi (Ik pb)))) ?_
 refine (fun h=>Pb (ra h)) ?_
 refine eb ?_
 obtain ⟨i124,ne,h⟩:=ha h
 refine wl (Ja (Gd (aa (Bb d4)) Ba ne) (ma (ee cd)) (st (La (za ?_))))
 exact ⟨l,_,_,rfl,(ie (lb (Xa (xb (lf (Na (qb (lb ta)))))))),⟨_,i124,g,v105,q,rfl,h,(p.t he),b,le⟩,Nat.lt_succ_self _⟩
 intro rc h
 refine ke ?_
 refine (fun h=>jc (jc (pe h))) ?_
 refine ra (ea (Ae (b.ba d1).cells rfl (wl (yb pc (aa d2) (aa (sb d6)) rfl (Rh rfl (Rh rfl (Rh rfl (Rh ((b.get d2).Me) Hs)))) b d0 rfl Ga Ma ?_))))
 clear b; intro no b
 refine ja (Ra ?_)
 replace b:=b.da Eb
 obtain ⟨ro,to,c127,Ne,of,wf,K⟩:=Sep.Gi b E rfl; clear b
 subst Ne; have b:=K; clear K
 obtain rfl:=Ea h
 refine Ad rfl (Qa.s (.a d2 pc (b.ba d0).cells rfl) Qa.z) ?_
 replace b:=(b.drop ia.z).drop ia.z
 exact ⟨_,_,_,rfl,(u.t (v.t (y.t (A.t (p.t of))))),b,wf⟩
theorem wz:∀ n,Wz (yn n)
  | 0=>⟨(by intro; intros; rename_i h _; cases h)⟩
  | n+1=>⟨kE (wz n)⟩
def xz (q:(List Wa)→Option (List Wa)):Prop:=∀ {I:M} {J w:World} {O:List Wb} (a:ga Fc I) {p_1:List Wa} {xa:Option Addr} {c2:Nat} {r:List Wa} (m3:Ka I xa c2 p_1) (h:q p_1=some r) (b:ka I J w (O)),Sb prog 23 [.slice xa p_1.length c2] w (fun v w'=>∃ (na:M) (a4:Option Addr) (c5:Nat),v=.slice a4 r.length c5∧ga I na∧ka na J w' (O)∧Ka na a4 c5 r)
structure Xz (a:Pn):Prop where
  wk:xz a.wk
theorem CD {fu:Nat} {self:Pn} (gc:Xz self):xz (wk fu self):=by
 intro I J w O W p_1 xa c2 r m3 h b
 unfold wk at h
 refine enter func23 rfl (frm:=_::Cf (zd (Wf (Ze [])))) rfl (ea (st (rb (st (ob (ea (st (wl (Ja (Qd underlying59 (aa d7)) (ma Yd) (st (ja (Qb ?_))))))))))))
 replace b:=b.Qh 126 (cb.sz Wa)
 refine Se (rg 5 2++rg 10 53) (by decide +kernel) (fun n m w=>∃ d i77 e l k,m=(kg (.i (l)::(kh (xf 5 (vf (.i (.int .i64 i77)::(nk 10 (Yg 60 []))))))))∧Ui fu self p_1 n i77 e=some r∧ga I d∧ka d J w (.row l 126 8 e.length k::O)∧pa d k e) (by rintro _ _ _ ⟨_,_,_,_,_,rfl,_⟩; rfl) _ _ (Md (Na (Ee (Zc (Yc (Na (Vf (ue ta)))))))) ⟨_,0,[],(.slice none 0 0),[],rfl,h,ga.r,b,pa.nil⟩ ?_
 rintro p _ t Fn ⟨md,i77,e,l,k,rfl,h,D,b,lc⟩
 rcases p with _|p
 cases h
 unfold Ui at h
 refine Te (sg (kc (zh (Kf (Jf (kc (kl (qh pb)))))))) (ea (st (ob ?_)))
 refine Za h ?_ ?_
 intro rd h
 refine Va (ra (db (Qb (ea ?_))))
 obtain ⟨c,wd,h⟩:=ha h
 obtain ⟨In,co,go,Fd,f160,Id⟩:=Pc.elem (m3.up D) wd
 obtain ⟨a162,K,L,M,a168,P,rfl,be,ce,ge⟩:=Wa.o Id
 refine wl (Ja (Mc underlying59 Yf (aa d7) (aa d9) Fd) (ma (Jb kb)) (Ae (f160 _ b.a) rfl ?_))
 refine wl (bd Yf b ?_); clear b; intro Q io no b; refine fa ?_
 refine wl (yb Yf (aa d5) (aa (wa d2)) rfl rfl b d0 rfl Ga Ma ?_)
 clear b; intro ro b
 refine rb (st (Ha ((b.ba d0).cell d0) (wl (Nd Yf On (ab.o rfl (aa (wa d4)) rfl rfl Ga ab.z) (ma (Jb cd)) ?_))))
 refine wl (bd Yf b ?_); clear b; intro E to Do b; refine fa ?_
 refine wl (yb Yf (aa d6) (aa (wa d5)) rfl rfl b d0 rfl Ga Ma ?_)
 clear b; intro Go b
 refine ob (db ?_)
 refine Ub (rg 16 12) (by decide) (fun m w=>∃ d Y,m=(yd (Og (Rc 16 (xf 26 (.i (.bool Y)::[])))))∧Qp fu self i77 e c (Ui fu self p_1 p) Y=some r∧ga md d∧ka d J w (.row l 126 8 e.length k::.ba Q 126 [.int .i64 c.Kind,S c.Name,.int .i64 c.X.Kind,.int .i64 c.X.N,S c.X.Name,.slice a162 c.X.Kids.length K,.slice L c.Body.length M,.slice a168 c.jd.length P]::.ba E 126 [.int .i64 c.Kind,S [],.int .i64 0,.int .i64 0,S [],.slice none 0 0,.slice none 0 0,.slice none 0 0]::O)) (by rintro _ _ ⟨_,_,rfl,_⟩; rfl) ?_ ?_
 refine eb (st (Ha ((b.ba d1).cell d0) ?_))
 iterate 2 refine st ?_
 refine me 19 h ?_ ?_
 intro he h
 refine oa rfl rfl (oa rfl rfl (oa rfl rfl ?_))
 iterate 2 refine st ?_
 refine oa rfl rfl (oa rfl rfl (oa rfl rfl (st (La (za ?_)))))
 replace b:=(b.da Da).da Eb
 exact ⟨_,_,rfl,(xb (ye (qb (Zc (Na ta))))),_,true,rfl,h,ga.r,b⟩
 intro he h
 refine Ta rfl (mc rfl (wa d9) (de Uc (aa (Sa d0)) ((b.ba d1).cell d0) (ma (oc kb)) (Ta rfl ?_)))
 iterate 2 refine st ?_
 refine me 24 h ?_ ?_
 intro le h
 refine oa rfl rfl (oa rfl rfl (oa rfl rfl (st (La (za ?_)))))
 replace b:=(b.da Da).da Eb
 exact ⟨_,_,rfl,(xb (ye (qb (Zc (Na ta))))),_,true,rfl,h,ga.r,b⟩
 intro le h
 refine Ta rfl (mc rfl (Sa d4) (de Uc (aa (Sa d5)) ((b.ba d1).cell d0) (ma (oc ad)) (Ta rfl (st (La (za ?_))))))
 replace b:=(b.da Da).da Eb
 exact ⟨_,_,rfl,(xb (ye (qb (Zc (Na ta))))),_,(decide (c.Kind=7)),rfl,h,ga.r,b⟩
 rintro _ t ap ⟨ne,Y,rfl,h,x,b⟩
 unfold Qp at h
 refine Vb (Dd (Zg (Wc (Kf (kc pb))))) (ra ?_)
 refine Ub (rg 29 3) (by decide) (fun m w=>∃ d f,m=(qc (mi (Yg 29 [])))∧Xq fu self i77 e c (Ui fu self p_1 p) f=some r∧ga ne d∧ka d J w (.row l 126 8 e.length k::.ba Q 126 [.int .i64 c.Kind,S c.Name,.int .i64 c.X.Kind,.int .i64 c.X.N,S c.X.Name,.slice a162 c.X.Kids.length K,.slice L c.Body.length M,.slice a168 c.jd.length P]::.ba E 126 [.int .i64 c.Kind,S f,.int .i64 0,.int .i64 0,S [],.slice none 0 0,.slice none 0 0,.slice none 0 0]::O)) (by rintro _ _ ⟨_,_,rfl,_⟩; rfl) ?_ ?_
 refine ed h ?_ ?_
 intro Ne h
 refine eb (st (Ha ((b.ba d1).cell d1) (st (wl (Je Hb (aa (ib d1)) (aa (ib d0)) rfl b d2 kb rfl Ib Ma ?_)))))
 clear b; intro ip b
 refine La (za ?_)
 exact ⟨_,_,rfl,(Xa (yf (ue ta))),_,c.Name,rfl,h,ga.r,b⟩
 intro Ne h
 refine Va (za ?_)
 exact ⟨_,_,rfl,(Xa (yf (ue ta))),_,[],rfl,h,ga.r,b⟩
 rintro _ t Mf ⟨of,f,rfl,h,y,b⟩
 unfold Xq at h
 refine Vb (vc (Qi (qh pb))) (ra (db (ea (st (Ha ((b.ba d1).cell d0) (st (ja ?_)))))))
 refine Ub (rg 35 4) (by decide) (fun m w=>∃ d i182 i183 j g q u,m=(qc (yd (ng (Ih 35 []))))∧Wq self i77 e c f (Ui fu self p_1 p) i182 i183 j g=some r∧ga of d∧ka d J w (.row l 126 8 e.length k::.ba Q 126 [.int .i64 c.Kind,S c.Name,.int .i64 c.X.Kind,.int .i64 c.X.N,S c.X.Name,.slice a162 c.X.Kids.length K,.slice L c.Body.length M,.slice a168 c.jd.length P]::.ba E 126 [.int .i64 c.Kind,S f,.int .i64 i182,.int .i64 i183,S j,.slice q g.length u,.slice none 0 0,.slice none 0 0]::O)∧Ka d q u g) (by rintro _ _ ⟨_,_,_,_,_,_,_,rfl,_⟩; rfl) ?_ ?_
 refine Za h ?_ ?_
 intro wf h
 refine eb (st (Ae ((b.ba d1).Xk (ve.s d2 (ve.s d3 (ve.s d4 (ve.s d5 ve.z))))) rfl ?_))
 obtain ⟨T,If,h⟩:=ha h
 refine Aa ((wz fu).Hl (W.t (D.t (x.t y))) (be.up (x.t y)) If b) ?_
 rintro _ jp ⟨mp,a193,c194,rfl,dg,b,bi⟩
 refine fa (st (wl (En pc (aa (ib d8)) (aa (ib d7)) rfl rfl rfl b d2 (kd.s Ib (of_decide_eq_true rfl) (kd.s ec (of_decide_eq_true rfl) (kd.s hd (of_decide_eq_true rfl) (kd.s cd (of_decide_eq_true rfl) kd.z)))) rfl Ib Ma ?_)))
 clear b; intro op b
 refine La (za ?_)
 exact ⟨_,_,rfl,(Xa (xb (ie (pf ta)))),_,T.Kind,T.N,T.Name,T.Kids,_,_,rfl,h,dg,b,bi⟩
 intro wf h
 refine Va (za ?_)
 exact ⟨_,_,rfl,(Xa (xb (ie (pf ta)))),_,0,0,[],[],none,0,rfl,h,ga.r,b,Ka.nil⟩
 rintro _ t pp ⟨ci,i182,i183,j,g,q,u,rfl,h,F,b,ii⟩
 unfold Wq at h
 refine Vb (vc (Dd (Ag (ai pb)))) (ra (db (db ?_)))
 refine Ub (rg 39 7) (by decide) (fun m w=>∃ d Z,m=(qc (yd (mi (Nj 39 (.i (.bool Z)::[])))))∧Vq self i77 e c f i182 i183 j g (Ui fu self p_1 p) Z=some r∧ga ci d∧ka d J w (.row l 126 8 e.length k::.ba Q 126 [.int .i64 c.Kind,S c.Name,.int .i64 c.X.Kind,.int .i64 c.X.N,S c.X.Name,.slice a162 c.X.Kids.length K,.slice L c.Body.length M,.slice a168 c.jd.length P]::.ba E 126 [.int .i64 c.Kind,S f,.int .i64 i182,.int .i64 i183,S j,.slice q g.length u,.slice none 0 0,.slice none 0 0]::O)) (by rintro _ _ ⟨_,_,rfl,_⟩; rfl) ?_ ?_
 refine eb (st (Ha ((b.ba d1).cell d0) ?_))
 iterate 2 refine st ?_
 refine me 42 h ?_ ?_
 intro li h
 refine oa rfl rfl (oa rfl rfl (oa rfl rfl (st (La (za ?_)))))
 exact ⟨_,_,rfl,(Xa (xb (yf (Cg (Na ta))))),_,true,rfl,h,ga.r,b⟩
 intro li h
 refine Ta rfl (mc rfl (Bb d2) (de Uc (aa (Bb d3)) ((b.ba d1).cell d0) (ma (Xd hd)) (Ta rfl (st (La (za ?_))))))
 exact ⟨_,_,rfl,(Xa (xb (yf (Cg (Na ta))))),_,(decide (c.Kind=4)),rfl,h,ga.r,b⟩
 rintro _ t sp ⟨pi,Z,rfl,h,A,b⟩
 unfold Vq at h
 refine Vb (vc (Dd (Qi (Ik (kc pb))))) (ra ?_)
 refine Ub (rg 47 4) (by decide) (fun m w=>∃ d v a201 B,m=(qc (qc (rh (Ih 47 []))))∧Uq self i77 e c f i182 i183 j g (Ui fu self p_1 p) v=some r∧ga pi d∧ka d J w (.row l 126 8 e.length k::.ba Q 126 [.int .i64 c.Kind,S c.Name,.int .i64 c.X.Kind,.int .i64 c.X.N,S c.X.Name,.slice a162 c.X.Kids.length K,.slice L c.Body.length M,.slice a168 c.jd.length P]::.ba E 126 [.int .i64 c.Kind,S f,.int .i64 i182,.int .i64 i183,S j,.slice q g.length u,.slice a201 v.length B,.slice none 0 0]::O)∧Ka d a201 B v) (by rintro _ _ ⟨_,_,_,_,rfl,_⟩; rfl) ?_ ?_
 refine ed h ?_ ?_
 intro Pi h
 refine eb (st (Ha ((b.ba d1).cell d6) ?_))
 obtain ⟨wp,kk,h⟩:=ha h
 refine Aa (gc.wk (W.t (D.t (x.t (y.t (F.t A))))) (ce.up (x.t (y.t (F.t A)))) kk b) ?_
 rintro _ Op ⟨eq,Eq,c210,rfl,ok,b,dl⟩
 refine fa (st (wl (Je Tn (aa (sb d0)) (aa (Bb d9)) rfl b d2 ad rfl Ib Ma ?_)))
 clear b; intro fr b
 refine La (za ?_)
 exact ⟨_,_,rfl,(Xa (Xa (cf (pf ta)))),_,_,_,_,rfl,h,ok,b,dl⟩
 intro Pi h
 refine Va (za ?_)
 exact ⟨_,_,rfl,(Xa (Xa (cf (pf ta)))),_,[],none,0,rfl,h,ga.r,b,Ka.nil⟩
 rintro _ t or ⟨el,v,a201,B,rfl,h,R,b,nl⟩
 unfold Uq at h
 refine Vb (vc (vc (Jh (ai pb)))) (ra (db (ea (st (Ha ((b.ba d1).cell d0) (st (ja ?_)))))))
 refine Ub (rg 54 4) (by decide) (fun m w=>∃ d C G H,m=(Sd (tf (Ih 54 [])))∧Tq i77 e c f i182 i183 j g v (Ui fu self p_1 p) C=some r∧ga el d∧ka d J w (.row l 126 8 e.length k::.ba E 126 [.int .i64 c.Kind,S f,.int .i64 i182,.int .i64 i183,S j,.slice q g.length u,.slice a201 v.length B,.slice G C.length H]::O)∧Ka d G H C) (by rintro _ _ ⟨_,_,_,_,rfl,_⟩; rfl) ?_ ?_
 refine Za h ?_ ?_
 intro ol h
 refine eb (st (Ha ((b.ba d1).cell d7) ?_))
 obtain ⟨qr,pl,h⟩:=ha h
 refine Aa (gc.wk (W.t (D.t (x.t (y.t (F.t (A.t R)))))) (ge.up (x.t (y.t (F.t (A.t R))))) pl b) ?_
 rintro _ wr ⟨Fr,a222,Or,rfl,ul,b,am⟩
 refine fa (st (wl (Je Tn (aa (sb d7)) (aa (sb d6)) rfl b d2 sd rfl Ib Ma ?_)))
 clear b; intro cs b
 refine La (za ?_)
 replace b:=b.drop (ia.s ia.z)
 exact ⟨_,_,rfl,(Yb (gd (pf ta))),_,_,_,_,rfl,h,ul,b,am⟩
 intro ol h
 refine Va (za ?_)
 replace b:=b.drop (ia.s ia.z)
 exact ⟨_,_,rfl,(Yb (gd (pf ta))),_,[],none,0,rfl,h,ga.r,b,Ka.nil⟩
 rintro _ t ds ⟨em,C,G,H,rfl,h,V,b,hm⟩
 unfold Tq at h
 refine Vb (Ud (Ff (ai pb))) (ra (eb (st (Ae (b.ba d1).cells rfl ?_))))
 refine wl (vj underlying59 Yf rfl (aa (sb d9)) rfl b ?_); clear b; intro es gs is b; refine fa ?_
 obtain ⟨lm,rc,h⟩:=ha h
 have fd:pa em [.int .i64 c.Kind,S f,.int .i64 i182,.int .i64 i183,S j,.slice q g.length u,.slice a201 v.length B,.slice G C.length H] [(Wa.mk c.Kind f (ua.mk i182 i183 j g) v C)]:=(pa.one (α:=Wa) (Wa.i ⟨q,u,a201,B,G,H,rfl,(ii.up (A.t (R.t V))),(nl.up V),hm⟩))
 have pm:=pa.ll (lc.up (x.t (y.t (F.t (A.t (R.t V)))))) fd rc
 refine wl (Tv underlying59 Yf rfl (aa (sb d8)) (aa (Gc d0)) b d1 (b.ba d0).cells fd rfl rc (by decide) ?_); clear b; intro v229 ls sm Nm b; cases (show _=sm from Nm)
 replace b:=Sep.te b kb; refine fa ?_
 replace b:=b.drop ia.z
 refine st (La ?_)
 refine (fun h=>Pb (ra h)) ?_
 refine eb ?_
 obtain ⟨i234,fn,h⟩:=ha h
 refine wl (Ja (Gd (aa d9) Ba fn) (ma (zg Ib)) (st (La (za ?_))))
 replace b:=b.drop (ia.s ia.z)
 exact ⟨p,_,_,rfl,(Md (Na (Ee (Zc (Yc (Na (Vf (ue ta)))))))),⟨_,i234,lm,v229,(k++[.int .i64 c.Kind,S f,.int .i64 i182,.int .i64 i183,S j,.slice q g.length u,.slice a201 v.length B,.slice G C.length H]),rfl,h,(D.t (x.t (y.t (F.t (A.t (R.t V)))))),b,pm⟩,Nat.lt_succ_self _⟩
 intro rd h
 refine ke ?_
 refine (fun h=>jc (jc (pe h))) ?_
 refine ra (ea ?_)
 iterate 2 refine st ?_
 refine ja (Ra ?_)
 obtain ⟨ms,a236,os,on,un,wn,id⟩:=Sep.Gi b lc rfl; clear b
 subst on; have b:=id; clear id
 obtain rfl:=Ea h
 refine Ob rfl d2 ?_
 exact ⟨_,_,_,rfl,(D.t un),b,wn⟩
theorem yz:∀ n,Xz (Gj n)
  | 0=>⟨(by intro; intros; rename_i h _; cases h)⟩
  | n+1=>⟨CD (yz n)⟩
theorem WE (P:ga Fc I) {p_1 r:List va} (m3:Ka I xa c2 p_1) (h:Ot fu p_1=some r) (b:ka I J w (O)):Sb prog 8 [.slice xa p_1.length c2] w (fun v w'=>∃ (na:M) (a4:Option Addr) (c5:Nat),v=.slice a4 r.length c5∧ga I na∧ka na J w' (O)∧Ka na a4 c5 r):=by
 unfold Ot at h
 refine enter func8 rfl (frm:=_::Cf (Ge (Xe (Ze [])))) rfl (ea (st (rb (st (ob (ea (st (wl (Ja (Qd underlying22 (aa d9)) (ma (Jb Ga)) (st (ja (Qb ?_))))))))))))
 replace b:=b.Qh 61 (cb.sz va)
 refine Se (rg 5 2++[8]++rg 12 64) (by decide +kernel) (fun n m w=>∃ d i139 e y q,m=(kg (.i (y)::(kh (xf 5 (kh (Sc 8 (vf (.i (.int .i64 i139)::(nk 12 (Rc 62 (Ih 72 [])))))))))))∧Ei fu p_1 n i139 e=some r∧ga I d∧ka d J w (.row y 61 9 e.length q::O)∧pa d q e) (by rintro _ _ _ ⟨_,_,_,_,_,rfl,_⟩; rfl) _ _ (Md (Na (Ee (Zc (Ee (lb (Yc (Na (Vf (qb (pf ta))))))))))) ⟨_,0,[],(.slice none 0 0),[],rfl,h,ga.r,b,pa.nil⟩ ?_
 rintro A _ t cs ⟨pi,i139,e,y,q,rfl,h,B,b,ne⟩
 rcases A with _|A
 cases h
 unfold Ei at h
 refine Te (sg (kc (zh (Kf (zh (Xc (Jf (kc (kl (Wc (ai pb))))))))))) (ea (st (ob ?_)))
 refine Za h ?_ ?_
 intro Pi h
 refine Va (ra (db (Qb (ea ?_))))
 obtain ⟨c,kk,h⟩:=ha h
 obtain ⟨ds,es,gs,ok,f284,dl⟩:=Pc.elem (m3.up B) kk
 obtain ⟨Q,R,T,V,rfl,el,nl⟩:=dl
 refine wl (Ja (Mc underlying22 Oe (aa d9) (aa (wa d1)) ok) (ma (Jb ec)) (Ae (f284 _ b.a) rfl ?_))
 refine wl (bd Oe b ?_); clear b; intro W is ls b; refine fa ?_
 refine wl (yb Oe (aa d5) (aa (wa d4)) rfl rfl b d0 rfl Ga Ma ?_)
 clear b; intro ms b
 refine rb (st (Ha ((b.ba d0).cell d0) (st (Ha ((b.ba d0).cell d1) (wl (Nd Oe xu (ab.o rfl (aa (wa d6)) rfl rfl Ga (ab.o rfl (aa (wa d8)) rfl rfl kb ab.z)) (ma (Jb Ed)) ?_))))))
 refine wl (bd Oe b ?_); clear b; intro C os rs b; refine fa ?_
 refine wl (yb Oe (aa d6) (aa (wa d9)) rfl rfl b d0 rfl Ga Ma ?_)
 clear b; intro us b
 refine ob (ea (st (Ha ((b.ba d1).cell d0) (st (ja ?_)))))
 refine Ub (rg 23 4) (by decide) (fun m w=>∃ d f g,m=(qc (kg (Ih 23 [])))∧Ar fu i139 e c (Ei fu p_1 A) f g=some r∧ga pi d∧ka d J w (.row y 61 9 e.length q::.ba W 61 [.int .i64 c.Kind,S c.Name,.int .i64 c.zb.Kind,S c.zb.Nb,.int .i64 c.Hc.Kind,S c.Hc.Nb,.int .i64 c.oe,.slice Q c.Params.length R,.slice T c.Body.length V]::.ba C 61 [.int .i64 c.Kind,S c.Name,.int .i64 f,S g,.int .i64 0,S [],.int .i64 0,.slice none 0 0,.slice none 0 0]::O)) (by rintro _ _ ⟨_,_,_,rfl,_⟩; rfl) ?_ ?_
 refine Za h ?_ ?_
 intro ol h
 refine eb (st (Ae ((b.ba d1).Xk (ve.s d2 (ve.s d3 ve.z))) rfl ?_))
 obtain ⟨Ne,pl,h⟩:=ha h
 refine Aa (mx (P.t B) pl b) ?_
 rintro _ vs ⟨ws,rfl,ul,b⟩
 refine fa (st (wl (En Mb (aa (Sa d6)) (aa (Sa d5)) rfl rfl rfl b d0 (kd.s Ib (of_decide_eq_true rfl) (kd.s ec (of_decide_eq_true rfl) kd.z)) rfl Ga Ma ?_)))
 clear b; intro xs b
 refine La (za ?_)
 replace b:=(b.da Da).da Eb
 exact ⟨_,_,rfl,(Xa (Md (pf ta))),_,Ne.Kind,Ne.Nb,rfl,h,ul,b⟩
 intro ol h
 refine Va (za ?_)
 replace b:=(b.da Da).da Eb
 exact ⟨_,_,rfl,(Xa (Md (pf ta))),_,0,[],rfl,h,ga.r,b⟩
 rintro _ t Mf ⟨am,f,g,rfl,h,D,b⟩
 unfold Ar at h
 refine Vb (vc (sg (ai pb))) (ra (db (ea (st (Ha ((b.ba d1).cell d0) (st (ja ?_)))))))
 refine Ub (rg 30 7) (by decide) (fun m w=>∃ d k j u x,m=(qc (yd (Nj 30 [])))∧zr i139 e c f g (Ei fu p_1 A) k j=some r∧ga am d∧ka d J w (.row y 61 9 e.length q::.ba W 61 [.int .i64 c.Kind,S c.Name,.int .i64 c.zb.Kind,S c.zb.Nb,.int .i64 c.Hc.Kind,S c.Hc.Nb,.int .i64 c.oe,.slice Q c.Params.length R,.slice T c.Body.length V]::.ba C 61 [.int .i64 c.Kind,S c.Name,.int .i64 f,S g,.int .i64 0,S [],.int .i64 k,.slice none 0 0,.slice u j.length x]::O)∧Ka d u x j) (by rintro _ _ ⟨_,_,_,_,_,rfl,_⟩; rfl) ?_ ?_
 refine Za h ?_ ?_
 intro em h
 refine eb (st (Ha ((b.ba d1).cell d6) (st (wl (Je Uc (aa (ib d2)) (aa (ib d1)) rfl b d2 ad rfl Ib Ma ?_)))))
 clear b; intro ys b
 refine La (za ?_)
 exact ⟨_,_,rfl,(Xa (xb (Cg ta))),_,c.oe,[],none,0,rfl,h,ga.r,b,Ka.nil⟩
 intro em h
 refine eb (st (Ha ((b.ba d1).cell d8) ?_))
 obtain ⟨Os,hm,h⟩:=ha h
 refine Aa ((yz fu).wk (P.t (B.t D)) (nl.up D) hm b) ?_
 rintro _ gt ⟨it,lt,mt,rfl,lm,b,pm⟩
 refine fa (st (wl (Je Tn (aa (ib d6)) (aa (ib d5)) rfl b d2 Yd rfl Ib Ma ?_)))
 clear b; intro rt b
 refine La (za ?_)
 exact ⟨_,_,rfl,(Xa (xb (Cg ta))),_,0,_,_,_,rfl,h,lm,b,pm⟩
 rintro _ t ut ⟨sm,k,j,u,x,rfl,h,G,b,Nm⟩
 unfold zr at h
 refine Vb (vc (Dd (Ik pb))) (ra (db (ea (st (Ha ((b.ba d1).cell d0) (st (ja ?_)))))))
 refine Ub (rg 40 4) (by decide) (fun m w=>∃ d l p,m=(qc (qc (Ih 40 [])))∧yr i139 e c f g k j (Ei fu p_1 A) l p=some r∧ga sm d∧ka d J w (.row y 61 9 e.length q::.ba W 61 [.int .i64 c.Kind,S c.Name,.int .i64 c.zb.Kind,S c.zb.Nb,.int .i64 c.Hc.Kind,S c.Hc.Nb,.int .i64 c.oe,.slice Q c.Params.length R,.slice T c.Body.length V]::.ba C 61 [.int .i64 c.Kind,S c.Name,.int .i64 f,S g,.int .i64 l,S p,.int .i64 k,.slice none 0 0,.slice u j.length x]::O)) (by rintro _ _ ⟨_,_,_,rfl,_⟩; rfl) ?_ ?_
 refine Za h ?_ ?_
 intro fn h
 refine eb (st (Ae ((b.ba d1).Xk (ve.s d4 (ve.s d5 ve.z))) rfl ?_))
 obtain ⟨of,on,h⟩:=ha h
 refine Aa (mx (P.t (B.t (D.t G))) on b) ?_
 rintro _ wt ⟨hu,rfl,un,b⟩
 refine fa (st (wl (En Mb (aa (Bb d3)) (aa (Bb d2)) rfl rfl rfl b d2 (kd.s hd (of_decide_eq_true rfl) (kd.s cd (of_decide_eq_true rfl) kd.z)) rfl Ib Ma ?_)))
 clear b; intro pu b
 refine La (za ?_)
 exact ⟨_,_,rfl,(Xa (Xa (pf ta))),_,of.Kind,of.Nb,rfl,h,un,b⟩
 intro fn h
 refine Va (za ?_)
 exact ⟨_,_,rfl,(Xa (Xa (pf ta))),_,0,[],rfl,h,ga.r,b⟩
 rintro _ t bv ⟨wn,l,p,rfl,h,H,b⟩
 unfold yr at h
 refine Vb (vc (vc (ai pb))) (ra (db (db ?_)))
 refine Ub (rg 44 7) (by decide) (fun m w=>∃ d id,m=(qc (qc (tf (Nj 44 (.i (.bool id)::[])))))∧xr i139 e c f g k j l p (Ei fu p_1 A) id=some r∧ga wn d∧ka d J w (.row y 61 9 e.length q::.ba W 61 [.int .i64 c.Kind,S c.Name,.int .i64 c.zb.Kind,S c.zb.Nb,.int .i64 c.Hc.Kind,S c.Hc.Nb,.int .i64 c.oe,.slice Q c.Params.length R,.slice T c.Body.length V]::.ba C 61 [.int .i64 c.Kind,S c.Name,.int .i64 f,S g,.int .i64 l,S p,.int .i64 k,.slice none 0 0,.slice u j.length x]::O)) (by rintro _ _ ⟨_,_,rfl,_⟩; rfl) ?_ ?_
 refine eb (st (Ha ((b.ba d1).cell d0) ?_))
 iterate 2 refine st ?_
 refine me 47 h ?_ ?_
 intro Fn h
 refine oa rfl rfl (oa rfl rfl (oa rfl rfl (st (La (za ?_)))))
 exact ⟨_,_,rfl,(Xa (Xa (gd (Cg (Na ta))))),_,true,rfl,h,ga.r,b⟩
 intro Fn h
 refine Ta rfl (mc rfl (Bb d7) (de Uc (aa (Bb d8)) ((b.ba d1).cell d0) (ma (Xd Ed)) (Ta rfl (st (La (za ?_))))))
 exact ⟨_,_,rfl,(Xa (Xa (gd (Cg (Na ta))))),_,(decide (c.Kind=3)),rfl,h,ga.r,b⟩
 rintro _ t hw ⟨wf,id,rfl,h,K,b⟩
 unfold xr at h
 refine Vb (vc (vc (Ff (Ik (kc pb))))) (ra ?_)
 refine Ub ([8]++rg 52 19) (by decide) (fun m w=>∃ d E md rd,m=(Kh (Sc 8 (qc (qc (kg (Rc 52 (Rl 62 [])))))))∧Vp i139 e c f g k j l p (Ei fu p_1 A) E=some r∧ga wf d∧ka d J w (.row y 61 9 e.length q::.ba C 61 [.int .i64 c.Kind,S c.Name,.int .i64 f,S g,.int .i64 l,S p,.int .i64 k,md,.slice u j.length x]::.row md 86 3 E.length rd::O)∧pa d rd E) (by rintro _ _ ⟨_,_,_,_,rfl,_⟩; rfl) ?_ ?_
 refine ed h ?_ ?_
 intro In h
 refine ea (st (Ha ((b.ba d1).cell d7) (wl (Ja (Qd underlying58 (aa (sb d3))) (ma (ee hd)) (st (ja (Qb ?_)))))))
 replace b:=b.Qh 86 (cb.sz TParam)
 replace b:=((b.drop (ia.s (ia.s ia.z))).da Eb).da Eb
 refine Se ([8]++rg 56 15) (by decide) (fun n m w=>∃ d X Y wd Z,m=(Kh (Sc 8 (qc (qc (Og (.i (.int .i64 X)::(Rc 56 (Hk 66 []))))))))∧Wp i139 e c f g k j l p (Ei fu p_1 A) n X Y=some r∧ga wf d∧ka d J w (.row y 61 9 e.length q::.ba C 61 [.int .i64 c.Kind,S c.Name,.int .i64 f,S g,.int .i64 l,S p,.int .i64 k,wd,.slice u j.length x]::.row wd 86 3 Y.length Z::O)∧pa d Z Y) (by rintro _ _ _ ⟨_,_,_,_,_,rfl,_⟩; rfl) _ _ (lf (lb (Xa (Xa (ye (Na (qb (Ah ta)))))))) ⟨_,0,[],(.slice none 0 0),[],rfl,h,ga.r,b,pa.nil⟩ ?_
 rintro gc _ t kw ⟨co,X,Y,wd,Z,rfl,h,lc,b,If⟩
 rcases gc with _|gc
 cases h
 unfold Wp at h
 refine Te (fi (Xc (vc (vc (Zg (kc (Wc (Ql pb)))))))) (ea (st (ob ?_)))
 refine Za h ?_ ?_
 intro go h
 refine Va (ra (db (Qb (ea ?_))))
 obtain ⟨Fd,io,h⟩:=ha h
 obtain ⟨lw,ww,ex,no,ro,to⟩:=Pc.elem (el.up (D.t (G.t (H.t (K.t lc))))) io
 obtain rfl:=to
 refine wl (Ja (Mc underlying58 yh (aa (sb d3)) (aa (sb d5)) no) (ma (ee sd)) (Ae (ro _ b.a) rfl ?_))
 refine wl (bd yh b ?_); clear b; intro rx xx zx b; refine fa ?_
 refine wl (yb yh (aa d8) (aa (sb d8)) rfl rfl b d0 rfl Ga Ma ?_)
 clear b; intro ty b
 refine ja ?_
 refine Ub (rg 59 11) (by decide) (fun m w=>∃ d L rc fd,m=(Sd (mi (Rc 59 (Sc 69 []))))∧tv X (Wp i139 e c f g k j l p (Ei fu p_1 A) gc) L=some r∧ga co d∧ka d J w (.row y 61 9 e.length q::.ba C 61 [.int .i64 c.Kind,S c.Name,.int .i64 f,S g,.int .i64 l,S p,.int .i64 k,rc,.slice u j.length x]::.row rc 86 3 L.length fd::O)∧pa d fd L) (by rintro _ _ ⟨_,_,_,_,rfl,_⟩; rfl) ?_ ?_
 refine Td b ?_; clear b; intro Rz b
 refine Pd (la 0 [0,1,9,10,11] rfl (Fb 1 [1,9,10,11] rfl (jb Fp (aa (sb d9)) ((b.ba d2).cell d7)) (zg Ga) (la 2 [2,3,7,8,9,10,11] rfl (Fb 3 [3,7,8,9,10,11] rfl (jb Hb (aa (Gc d1)) ((b.ba d0).cell d0)) (zg Ib) (la 4 [4,5,6,7,8,9,10,11] rfl (Fb 5 [5,6,7,8,9,10,11] rfl (Re Mb (aa (Gc d3)) ((b.ba d0).Xk (ve.s d1 (ve.s d2 ve.z))) rfl) (zg hd) ?_))))))
 obtain ⟨F,Do,h⟩:=ha h
 refine Kb rfl rfl rfl rfl (Gb rfl) (td HG nd (sa (aa (Gc d4)) hb) (mx (P.t (B.t (D.t (G.t (H.t (K.t lc)))))) Do b) ?_)
 rintro _ AC ⟨Go,rfl,dg,b⟩
 refine fa ?_
 refine ⟨(Oa.s (jb Hb (aa (Gc d1)) ((b.ba d0).cell d0)) (Oa.s (jb Fp (aa (sb d9)) ((b.ba d2).cell d7)) Oa.z)),?_⟩
 refine ze 7 [7,8,9,10,11] rfl (Jt yh sC (ab.o rfl (aa (Gc d2)) rfl rfl Ga (ab.n rfl (aa (Gc d5)) rfl rfl (kd.s kb (of_decide_eq_true rfl) (kd.s Ib (of_decide_eq_true rfl) kd.z)) ab.z))) (zg ad) ?_
 refine Kb rfl rfl rfl rfl (Gb rfl) (vj underlying58 yh rfl (aa (Gc d6)) rfl b ?_); clear b; intro GE LE NE b; refine fa ?_
 refine ⟨(Oa.s (jb Fp (aa (sb d9)) ((b.ba d3).cell d7)) Oa.z),?_⟩
 obtain ⟨WF,bi,h⟩:=ha h
 have ci:pa Go [S Fd.Name,.int .i64 F.Kind,S F.Nb] [(TParam.mk Fd.Name (Ya.mk F.Kind F.Nb))]:=(pa.one (α:=TParam) rfl)
 have ap:=pa.ll (If.up dg) ci bi
 refine Kb rfl rfl rfl rfl (Gb rfl) (Tv underlying58 yh rfl (aa (Gc d0)) (aa (Gc d7)) b d4 (b.ba d0).cells ci rfl bi (by decide) ?_); clear b; intro RK WL Id be b; cases (show _=Id from be)
 replace b:=Sep.te b hd; refine fa ?_
 replace b:=b.drop ia.z
 refine ⟨Oa.z,?_⟩
 refine la 10 [10,11] rfl (Kb rfl rfl rfl rfl (Gb rfl) (Je Fp (aa (Gc d9)) (aa (Gc d8)) (b.get d3).Me b d2 sd rfl Ib Ma ?_))
 clear b; intro XL b
 refine ⟨Oa.z,?_⟩
 refine Hd (za ?_)
 replace b:=b.drop ia.z
 exact ⟨_,_,rfl,(Yb (yf (qb (lb ta)))),_,_,_,(Z++[S Fd.Name,.int .i64 F.Kind,S F.Nb]),rfl,h,dg,b,ap⟩
 rintro _ t YL ⟨ZL,L,rc,fd,rfl,h,ip,b,jp⟩
 unfold tv at h
 refine Vb (Ud (Qi (Wc (Xc pb)))) ?_
 refine (fun h=>Pb (ra h)) ?_
 refine eb ?_
 obtain ⟨mp,op,h⟩:=ha h
 refine wl (Ja (Gd (aa (sb d5)) Ba op) (ma (Zf Ga)) (st (La (za ?_))))
 exact ⟨gc,_,_,rfl,(lf (lb (Xa (Xa (ye (Na (qb (Ah ta)))))))),⟨_,mp,L,rc,fd,rfl,h,(lc.t ip),b,jp⟩,Nat.lt_succ_self _⟩
 intro go h
 refine ke ?_
 refine (fun h=>jc (jc (pe h))) ?_
 refine za ?_
 exact ⟨_,_,rfl,(lf (lb (Xa (Xa (Md (qb (Uh ta))))))),_,_,_,_,rfl,h,lc,b,If⟩
 intro In h
 refine Va (za ?_)
 replace b:=b.Qh 86 (cb.sz TParam)
 replace b:=((b.drop (ia.s (ia.s ia.z))).da Eb).da Eb
 exact ⟨_,_,rfl,(lf (lb (Xa (Xa (Md (qb (Uh ta))))))),_,[],(.slice none 0 0),[],rfl,h,ga.r,b,pa.nil⟩
 rintro _ t aM ⟨bM,E,md,rd,rfl,h,ce,b,pp⟩
 unfold Vp at h
 refine Vb (fi (Xc (vc (vc (sg (Wc (Ym pb))))))) (ra (eb (st (Ae (b.ba d1).cells rfl ?_))))
 replace b:=b.da Eb
 obtain ⟨sp,ge,he,wp,le,Op,N⟩:=Sep.Gi b pp rfl; clear b
 subst wp; have b:=N; clear N
 refine wl (vj underlying22 Oe rfl (aa (Oc d2)) rfl b ?_); clear b; intro cM dM eM b; refine fa ?_
 obtain ⟨eq,ii,h⟩:=ha h
 have li:pa sp [.int .i64 c.Kind,S c.Name,.int .i64 f,S g,.int .i64 l,S p,.int .i64 k,.slice ge E.length he,.slice u j.length x] [(va.mk c.Kind c.Name (Ya.mk f g) (Ya.mk l p) k E j)]:=(pa.one (α:=va) (va.i ⟨ge,he,u,x,rfl,Op,(Nm.up (H.t (K.t (ce.t le))))⟩))
 have Eq:=pa.ll (ne.up (D.t (G.t (H.t (K.t (ce.t le)))))) li ii
 refine wl (Tv underlying22 Oe rfl (aa (Oc d1)) (aa (Oc d3)) b d1 (b.ba d0).cells li rfl ii (by decide) ?_); clear b; intro fr fM Id be b; cases (show _=Id from be)
 replace b:=Sep.te b kb; refine fa ?_
 replace b:=b.drop ia.z
 refine st (La ?_)
 refine (fun h=>Pb (ra h)) ?_
 refine eb ?_
 obtain ⟨or,qr,h⟩:=ha h
 refine wl (Ja (Gd (aa (wa d1)) Ba qr) (ma (Zf cd)) (st (La (za ?_))))
 replace b:=b.drop (ia.s ia.z)
 exact ⟨A,_,_,rfl,(Md (Na (Ee (Zc (Ee (lb (Yc (Na (Vf (qb (pf ta))))))))))),⟨_,or,eq,fr,(q++[.int .i64 c.Kind,S c.Name,.int .i64 f,S g,.int .i64 l,S p,.int .i64 k,.slice ge E.length he,.slice u j.length x]),rfl,h,(B.t (D.t (G.t (H.t (K.t (ce.t le)))))),b,Eq⟩,Nat.lt_succ_self _⟩
 intro Pi h
 refine ke ?_
 refine (fun h=>jc (jc (pe h))) ?_
 refine ra (ea ?_)
 iterate 2 refine st ?_
 refine ja (Ra ?_)
 obtain ⟨gM,hM,iM,wr,Fr,Or,N⟩:=Sep.Gi b ne rfl; clear b
 subst wr; have b:=N; clear N
 obtain rfl:=Ea h
 refine Ob rfl d2 ?_
 exact ⟨_,_,_,rfl,(B.t Fr),b,Or⟩
end Go.Proofs.YthoigniombcphaaGreatDoor
set_option maxRecDepth 100000
set_option maxHeartbeats 20000000
namespace Go.Proofs.YthoigniombcphaaGreatDoor
open Go.bc Go.Dc Go.Y Tryz
variable {U nb ef Le Ie Fe Ri Lg c2 c5 Xn Ly Ve Ps fu Qf Lb BC:Nat} {xa a12 Wd:Option Addr} {og v21 zf:Value} {Tg Ig:List Value} {My Ny Dy:List MapEntry} {Ef:List (Nat×List MapEntry×Nat)} {I:M} {J w:World} {O:List Wb}
theorem Ur (g:ga Fc I) {p_1:Pf} {c:Ya} {r:Int} (m4:rf I nb p_1.boxes) (m6:rf I ef p_1.lj) (m8:rf I Le p_1.defs) (m9:dd I U Qf [.map (some nb),.map (some ef),.map (some Le)]) (h:Pm p_1 c=some r) (b:ka I J w (O)):Sb prog 20 [.pointer (some ⟨U,Qf,none⟩),.agg ⟨[.int .i64 c.Kind,S c.Nb]⟩] w (fun v w'=>∃ (na:M) ,v=.int .i64 r∧ga I na∧ka na J w' (O)):=by
 unfold Pm at h
 refine enter func20 rfl (frm:=_::_::Cf (Ge (Wf []))) rfl (ea ?_)
 refine wl (Ji (aa d1) rfl b ?_); clear b; intro Ri i j b; refine fa ?_
 refine st (ob (ea (st (Ha ((b.ba d0).cell d0) (st (ja ?_))))))
 refine Za h ?_ ?_
 intro d h
 refine db ?_
 refine Td b ?_; clear b; intro l b
 refine Pd (la 0 [0,1,2,3,6,7,8] rfl (la 1 [1,2,3,6,7,8] rfl (la 2 [2,3,6,7,8] rfl (Fb 3 [3,6,7,8] rfl (jb Yh (aa (wa d0)) ((m9 _ b.a).one d1)) (Jb kb) (la 4 [4,5,6,7,8] rfl (Fb 5 [5,6,7,8] rfl (jb Hb (aa (wa d2)) ((b.ba d0).cell d1)) (Jb ec) ?_))))))
 obtain ⟨m,Cq,e,f⟩:=m6
 refine Kb rfl rfl rfl rfl (Gb rfl) (gk (κ:=List UInt8) (k:=c.Nb) (β:=Int) (zx:=0) underlying75 underlying9 (aa (wa d1)) (aa (wa d3)) Zm rfl (e _ b.a) f ?_); rintro _ rfl; refine fa ?_
 refine ⟨Oa.z,?_⟩
 obtain ⟨i19,g20,h⟩:=ha h
 refine ze 7 [7,8] rfl (Gd Ba (aa (wa d4)) g20) (Jb cd) (la 8 [8] rfl (Hd (ra (Ra (Fa ?_)))))
 obtain rfl:=Ea h
 refine Ob rfl d4 ?_
 replace b:=b.drop ia.z
 exact ⟨_,rfl,ga.r,b⟩
 intro d h
 refine Va (ra (ea (st (Ha ((b.ba d0).cell d0) (st (ja (Ra ?_)))))))
 obtain rfl:=Ea h
 refine Ob rfl d4 ?_
 replace b:=b.drop ia.z
 exact ⟨_,rfl,ga.r,b⟩
theorem lE (g:ga Fc I) {c d:List (List UInt8×Int)} {e:List (List UInt8×va)} {b:Ya} {r:Int} (m6:je I My c5 c) (m11:je I Ny Xn d) (m16:je I Dy Ve e) (h:Lv c d e b=some r) (a:ka I J w (.ba U 78 [.map (some nb),.map (some Ie),.map (some Lg)]::.map nb My c5::.map Ie Ny Xn::.map Lg Dy Ve::O)):Sb prog 20 [.pointer (some ⟨U,0,none⟩),.agg ⟨[.int .i64 b.Kind,S b.Nb]⟩] w (fun v w'=>∃ (na:M) ,v=.int .i64 r∧ga I na∧ka na J w' (.ba U 78 [.map (some nb),.map (some Ie),.map (some Lg)]::.map nb My c5::.map Ie Ny Xn::.map Lg Dy Ve::O)):=by
 unfold Lv at h
 refine enter func20 rfl (frm:=_::_::Cf (Ge (Wf []))) rfl (ea ?_)
 refine wl (Ji (aa d1) rfl a ?_); clear a; intro i j l a; refine fa ?_
 refine st (ob (ea (st (Ha ((a.ba d0).cell d0) (st (ja ?_))))))
 refine Za h ?_ ?_
 intro f h
 refine db ?_
 refine Td a ?_; clear a; intro m a
 refine Pd (la 0 [0,1,2,3,6,7,8] rfl (la 1 [1,2,3,6,7,8] rfl (la 2 [2,3,6,7,8] rfl (Fb 3 [3,6,7,8] rfl (jb Yh (aa (wa d0)) ((a.ba d1).cell d1)) (Jb kb) (la 4 [4,5,6,7,8] rfl (Fb 5 [5,6,7,8] rfl (jb Hb (aa (wa d2)) ((a.ba d0).cell d1)) (Jb ec) ?_))))))
 refine Kb rfl rfl rfl rfl (Gb rfl) (gk (κ:=List UInt8) (k:=b.Nb) (β:=Int) (zx:=0) underlying75 underlying9 (aa (wa d1)) (aa (wa d3)) Zm rfl (a.get d3) m11 ?_); rintro _ rfl; refine fa ?_
 refine ⟨Oa.z,?_⟩
 obtain ⟨i22,g23,h⟩:=ha h
 refine ze 7 [7,8] rfl (Gd Ba (aa (wa d4)) g23) (Jb cd) (la 8 [8] rfl (Hd (ra (Ra (Fa ?_)))))
 obtain rfl:=Ea h
 refine Ob rfl d4 ?_
 replace a:=a.drop ia.z
 exact ⟨_,rfl,ga.r,a⟩
 intro f h
 refine Va (ra (ea (st (Ha ((a.ba d0).cell d0) (st (ja (Ra ?_)))))))
 obtain rfl:=Ea h
 refine Ob rfl d4 ?_
 replace a:=a.drop ia.z
 exact ⟨_,rfl,ga.r,a⟩
theorem wh (E:ga Fc I) {d:Pf} {g i:Int} {e:List Int} {j k:Int} {l:List Bc} {f:List (List (List UInt8×Int))} {b p_3 c:Int} {r:Int×Int×Int×List Int×Int×Int×List Bc×List (List (List UInt8×Int))} (m6:rf I ef d.boxes) (m8:rf I Le d.lj) (m10:rf I Fe d.defs) (m11:dd I nb Lb [.map (some ef),.map (some Le),.map (some Fe)]) (m17:pa I Tg e) (m23:pa I Ig l) (x:Bd I Ef f) (h:Pg d g i e j k l f b p_3 c=some r) (a:ka I J w (.ba U 119 [.pointer (some ⟨nb,Lb,none⟩),.int .i64 g,.int .i64 i,og,.int .i64 j,.int .i64 k,v21,zf]::.row og 3 1 e.length Tg::.row v21 45 3 l.length Ig::.row zf 75 1 f.length (Xb Ef)::(gb Ef++O))):Sb prog 47 [.pointer (some ⟨U,0,none⟩),.int .i64 b,.int .i64 p_3,.int .i64 c] w (fun v w'=>∃ (na:M) (v28:Value) (n:List Value) (v31:Value) (p:List Value) (q:Value) (m:List (Nat×List MapEntry×Nat)),v=.int .i64 r.1∧ga I na∧ka na J w' (.ba U 119 [.pointer (some ⟨nb,Lb,none⟩),.int .i64 r.2.1,.int .i64 r.2.2.1,v28,.int .i64 r.2.2.2.2.1,.int .i64 r.2.2.2.2.2.1,v31,q]::.row v28 3 1 r.2.2.2.1.length n::.row v31 45 3 r.2.2.2.2.2.2.1.length p::.row q 75 1 r.2.2.2.2.2.2.2.length (Xb m)::(gb m++O))∧pa na n r.2.2.2.1∧pa na p r.2.2.2.2.2.2.1∧Bd na m r.2.2.2.2.2.2.2):=by
 unfold Pg at h
 refine enter func47 rfl (frm:=_::_::_::_::zd (Ge (Xe []))) rfl (ea (st (rb ?_)))
 iterate 5 refine st ?_
 refine Ha ((a.ba d0).cell d6) ?_
 iterate 3 refine st ?_
 refine wl (Nd Wm KI (ab.o rfl (aa (wa d5)) rfl rfl Ga (ab.o rfl (aa (wa d6)) rfl rfl kb (ab.o rfl (aa (wa d7)) rfl rfl Ib ab.z))) (ma (Jb Yd)) ?_)
 refine wl (vj underlying41 Wm rfl (aa (wa d8)) rfl a ?_); clear a; intro F G H a; refine fa ?_
 obtain ⟨y,s,h⟩:=ha h
 have t:pa I [.int .i64 b,.int .i64 p_3,.int .i64 c] [(Bc.mk b p_3 c)]:=(pa.one (α:=Bc) rfl)
 have A:=pa.app m23 t s
 refine wl (xj underlying41 Wm rfl (aa (wa d4)) (aa (wa d9)) a d3 (a.ba d0).cells t rfl s (by decide) ?_); clear a; intro u K B C a; cases (show _=B from C)
 replace a:=Sep.te a ec; refine fa ?_
 replace a:=a.drop ia.z
 iterate 3 refine st ?_
 refine wl (Je Ck (aa (Sa d3)) (aa (Sa d0)) (a.get d2).Me a d0 ad rfl Ga Ma ?_)
 clear a; intro L a
 refine rb ?_
 iterate 4 refine st ?_
 refine Ha ((a.ba d0).cell d6) (wl (Ja (wj underlying41 (aa (Sa d8)) (a.get d2).yj) (ma (oc Ed)) ?_))
 obtain ⟨i44,D,h⟩:=ha h
 refine wl (Ja (Kl (aa (Sa d9)) Ba D) (ma (qd Ga)) (st (ja (Ra ?_))))
 obtain rfl:=Ea h
 refine Ob rfl d8 ?_
 replace a:ka I J _ (.ba U 119 [.pointer (some ⟨nb,Lb,none⟩),.int .i64 g,.int .i64 i,og,.int .i64 j,.int .i64 k,u,zf]::.row og 3 1 e.length Tg::.row u 45 3 y.length (Ig++[.int .i64 b,.int .i64 p_3,.int .i64 c])::.row zf 75 1 f.length (Xb Ef)::(gb Ef++O)):=a
 exact ⟨_,_,_,_,((Ig++[.int .i64 b,.int .i64 p_3,.int .i64 c]):List Value),_,_,rfl,ga.r,a,m17,A,x⟩
theorem wv (k:ga Fc I) {e:Pf} {f g:Int} {a:List Int} {i j:Int} {b:List Bc} {c:List (List (List UInt8×Int))} {r:Int} (m6:rf I ef e.boxes) (m8:rf I Le e.lj) (m10:rf I Fe e.defs) (m11:dd I nb Lb [.map (some ef),.map (some Le),.map (some Fe)]) (m17:pa I Tg a) (m23:pa I Ig b) (l:Bd I Ef c) (h:Bn e f g a i j b c=some r) (d:ka I J w (.ba U 119 [.pointer (some ⟨nb,Lb,none⟩),.int .i64 f,.int .i64 g,og,.int .i64 i,.int .i64 j,v21,zf]::.row og 3 1 a.length Tg::.row v21 45 3 b.length Ig::.row zf 75 1 c.length (Xb Ef)::(gb Ef++O))):Sb prog 87 [.pointer (some ⟨U,0,none⟩)] w (fun v w'=>∃ (na:M) ,v=.int .i64 r∧ga I na∧ka na J w' (.ba U 119 [.pointer (some ⟨nb,Lb,none⟩),.int .i64 f,.int .i64 g,og,.int .i64 i,.int .i64 j,v21,zf]::.row og 3 1 a.length Tg::.row v21 45 3 b.length Ig::.row zf 75 1 c.length (Xb Ef)::(gb Ef++O))):=by
 unfold Bn at h
 refine enter func87 rfl (frm:=_::Cf (zd (Ge []))) rfl (ea (st (rb ?_)))
 iterate 4 refine st ?_
 refine Ha ((d.ba d0).cell d6) (wl (Ja (wj underlying41 (aa d7) (d.get d2).yj) (ma Yd) (st (ja (Ra ?_)))))
 obtain rfl:=Ea h
 refine Ob rfl d2 ?_
 replace d:ka I J _ (.ba U 119 [.pointer (some ⟨nb,Lb,none⟩),.int .i64 f,.int .i64 g,og,.int .i64 i,.int .i64 j,v21,zf]::.row og 3 1 a.length Tg::.row v21 45 3 b.length Ig::.row zf 75 1 c.length (Xb Ef)::(gb Ef++O)):=d
 exact ⟨_,rfl,ga.r,d⟩
theorem zz (R:ga Fc I) {b:Pf} {f g:Int} {i:List Int} {j k:Int} {c:List Bc} {d:List (List (List UInt8×Int))} {e:List UInt8} {p_3:Int} {r:Int×Int×Int×List Int×Int×Int×List Bc×List (List (List UInt8×Int))} (m6:rf I ef b.boxes) (m8:rf I Le b.lj) (m10:rf I Fe b.defs) (m11:dd I nb Lb [.map (some ef),.map (some Le),.map (some Fe)]) (m17:pa I Tg i) (m23:pa I Ig c) (m:Bd I Ef d) (h:Qr b f g i j k c d e p_3=some r) (a:ka I J w (.ba U 119 [.pointer (some ⟨nb,Lb,none⟩),.int .i64 f,.int .i64 g,og,.int .i64 j,.int .i64 k,v21,zf]::.row og 3 1 i.length Tg::.row v21 45 3 c.length Ig::.row zf 75 1 d.length (Xb Ef)::(gb Ef++O))):Sb prog 45 [.pointer (some ⟨U,0,none⟩),S e,.int .i64 p_3] w (fun v w'=>∃ (na:M) (v28:Value) (n:List Value) (v31:Value) (o:List Value) (p:Value) (l:List (Nat×List MapEntry×Nat)),v=.int .i64 r.1∧ga I na∧ka na J w' (.ba U 119 [.pointer (some ⟨nb,Lb,none⟩),.int .i64 r.2.1,.int .i64 r.2.2.1,v28,.int .i64 r.2.2.2.2.1,.int .i64 r.2.2.2.2.2.1,v31,p]::.row v28 3 1 r.2.2.2.1.length n::.row v31 45 3 r.2.2.2.2.2.2.1.length o::.row p 75 1 r.2.2.2.2.2.2.2.length (Xb l)::(gb l++O))∧pa na n r.2.2.2.1∧pa na o r.2.2.2.2.2.2.1∧Bd na l r.2.2.2.2.2.2.2):=by
 unfold Qr at h
 refine enter func45 rfl (frm:=_::_::_::zd (zd (Ge (Wf (Xe []))))) rfl (ea (st (rb ?_)))
 iterate 5 refine st ?_
 refine Ha ((a.ba d0).cell d3) (st ?_)
 refine wl (xd underlying40 Uc (fb.s (aa (wa d4)) rfl fb.z) rfl rfl a ?_); clear a; intro T V W a; refine fa ?_
 obtain ⟨y,q,h⟩:=ha h
 have t:pa I [.int .i64 p_3] [p_3]:=(pa.one (α:=Int) rfl)
 have A:=pa.app m17 t q
 refine wl (xj underlying40 Uc rfl (aa (wa d3)) (aa (wa d5)) a d2 (a.ba d0).cells t rfl q (by decide) ?_); clear a; intro u X B C a; cases (show _=B from C)
 replace a:=Sep.te a Ib; refine fa ?_
 replace a:=a.drop ia.z
 iterate 3 refine st ?_
 refine wl (Je Aw (aa (wa d9)) (aa (wa d6)) (a.get d1).Me a d0 ec rfl Ga Ma ?_)
 clear a; intro Y a
 refine rb ?_
 iterate 4 refine st ?_
 refine Ha ((a.ba d0).cell d3) (wl (Ja (wj underlying40 (aa (Sa d4)) (a.get d1).yj) (ma (oc cd)) ?_))
 obtain ⟨i44,D,h⟩:=ha h
 refine wl (Ja (Kl (aa (Sa d5)) Ba D) (ma (oc ad)) (st (ob ?_)))
 refine Td a ?_; clear a; intro Z a
 refine Pd (la 0 [0,1,2,3,10,11,14] rfl (la 1 [1,2,3,10,11,14] rfl (la 2 [2,3,10,11,14] rfl (Fb 3 [3,10,11,14] rfl (jb oq (aa (Sa d9)) ((a.ba d0).cell d7)) (qd Ga) (la 4 [4,5,6,7,8,9,10,11,14] rfl (la 5 [5,6,7,8,9,10,11,14] rfl (la 6 [6,7,8,9,10,11,14] rfl (Fb 7 [7,8,9,10,11,14] rfl (jb oq (aa (ib d3)) ((a.ba d0).cell d7)) (qd hd) (ze 8 [8,9,10,11,14] rfl (wj underlying117 (aa (ib d4)) (a.get d3).yj) (qd cd) ?_)))))))))
 obtain ⟨i46,E,h⟩:=ha h
 refine ze 9 [9,10,11,14] rfl (Kl (aa (ib d5)) Ba E) (qd ad) ?_
 obtain ⟨F,G,h⟩:=ha h
 obtain ⟨gc,lc,rc,fd,id,H,f56,K,L⟩:=Row.mapElem (a.get d3) m G
 refine ze 10 [10,11,14] rfl (Mc underlying117 Yh (aa (ib d0)) (aa (ib d6)) H) (qd sd) (Fb 11 [11,14] rfl (jb Yh (aa (ib d7)) ((f56 _ _ (a.get d3)).one d0)) (qd Yd) (la 12 [12,14] rfl (la 13 [13,14] rfl ?_)))
 refine Kb rfl rfl rfl rfl (Gb rfl) (Rx (pre:=[_,_,_,_]) (κ:=List UInt8) (β:=Int) (kk:=e) (xx:=i44) underlying75 underlying9 (aa (ib d8)) (aa (ib d9)) (aa (Bb d0)) rfl a K L m Ma ?_); clear a; intro x md N P Q a; rw [P,Q] at a
 refine ⟨Oa.z,?_⟩
 refine Hd (ra (ea ?_))
 iterate 2 refine st ?_
 refine ja (Ra ?_)
 obtain rfl:=Ea h
 refine Ob rfl d6 ?_
 replace a:ka I J _ (.ba U 119 [.pointer (some ⟨nb,Lb,none⟩),.int .i64 f,.int .i64 g,u,.int .i64 j,.int .i64 k,v21,zf]::.row u 3 1 y.length (Tg++[.int .i64 p_3])::.row v21 45 3 c.length Ig::.row zf 75 1 (d.set i46.toNat (cc F e i44)).length (Xb x)::(gb x++O)):=a
 exact ⟨_,_,((Tg++[.int .i64 p_3]):List Value),_,_,_,_,rfl,ga.r,a,A,m23,N⟩
theorem Yz (G:ga Fc I) {l:Pf} {e f:Int} {c:List Int} {g j:Int} {d:List Bc} {b:List (List (List UInt8×Int))} {o:List UInt8} {r:Int} (m6:rf I ef l.boxes) (m8:rf I Le l.lj) (m10:rf I Fe l.defs) (m11:dd I nb Lb [.map (some ef),.map (some Le),.map (some Fe)]) (m17:pa I Tg c) (m23:pa I Ig d) (x:Bd I Ef b) (h:bs fu l e f c g j d b o=some r) (a:ka I J w (.ba U 119 [.pointer (some ⟨nb,Lb,none⟩),.int .i64 e,.int .i64 f,og,.int .i64 g,.int .i64 j,v21,zf]::.row og 3 1 c.length Tg::.row v21 45 3 d.length Ig::.row zf 75 1 b.length (Xb Ef)::(gb Ef++O))):Sb prog 88 [.pointer (some ⟨U,0,none⟩),S o] w (fun v w'=>∃ (na:M) ,v=.int .i64 r∧ga I na∧ka na J w' (.ba U 119 [.pointer (some ⟨nb,Lb,none⟩),.int .i64 e,.int .i64 f,og,.int .i64 g,.int .i64 j,v21,zf]::.row og 3 1 c.length Tg::.row v21 45 3 d.length Ig::.row zf 75 1 b.length (Xb Ef)::(gb Ef++O))):=by
 unfold bs at h
 refine enter func88 rfl (frm:=_::_::Wf (Xe [])) rfl (ea (st (ob (ea ?_))))
 iterate 3 refine st ?_
 refine Ha ((a.ba d0).cell d7) (wl (Ja (wj underlying117 (aa (wa d1)) (a.get d3).yj) (ma (Jb Ib)) ?_))
 obtain ⟨i28,y,h⟩:=ha h
 refine wl (Ja (Kl (aa (wa d2)) Ba y) (ma (Jb ec)) (st (ja (Qb ?_))))
 refine Se ([4]++rg 6 2++rg 14 18) (by decide +kernel) (fun n m w=>∃ s i45,m=(tf (Sc 4 (.i (.int .i64 i45)::(xf 6 (Og (Rc 14 (ei 24 [])))))))∧er o b n i45=some r∧ga I s∧ka s J w (.ba U 119 [.pointer (some ⟨nb,Lb,none⟩),.int .i64 e,.int .i64 f,og,.int .i64 g,.int .i64 j,v21,zf]::.row og 3 1 c.length Tg::.row v21 45 3 d.length Ig::.row zf 75 1 b.length (Xb Ef)::(gb Ef++O))) (by rintro _ _ _ ⟨_,_,rfl,_⟩; rfl) _ _ (gd (lb (Na (Zc (ye (qb (ag ta))))))) ⟨_,i28,rfl,h,ga.r,a⟩ ?_
 rintro q _ t H ⟨u,i45,rfl,h,p,a⟩
 rcases q with _|q
 cases h
 unfold er at h
 refine Te (Ff (Xc (kc (Kf (Zg (Wc (xi pb))))))) (db (ea ?_))
 iterate 2 refine st ?_
 refine ja ?_
 refine Za h ?_ ?_
 intro z h
 refine Va (ra (db (Qb (ea ?_))))
 iterate 3 refine st ?_
 refine Ha ((a.ba d0).cell d7) (st ?_)
 obtain ⟨K,A,h⟩:=ha h
 obtain ⟨L,N,P,Q,R,B,f71,C,D⟩:=Row.mapElem (a.get d3) (x.up p) A
 refine wl (Ja (Mc underlying117 Yh (aa (Sa d2)) (aa (Sa d3)) B) (ma (oc hd)) (Ha ((f71 _ _ (a.get d3)).one d0) (st ?_)))
 refine wl (cB (κ:=List UInt8) (k:=o) (β:=Int) (zx:=0) underlying75 underlying9 (aa (Sa d5)) (aa (Sa d6)) Zm rfl (a.bC (pre:=[_,_,_,_]) C) D ?_); rintro _ rfl; refine fa ?_
 iterate 5 refine st ?_
 refine rb (st (ja ?_))
 refine ed h ?_ ?_
 intro E h
 refine ea ?_
 iterate 2 refine st ?_
 refine ja (Ra ?_)
 refine (fun h=>Ab (Fa (Fa (Ab (Fa h))))) ?_
 obtain rfl:=Ea h
 refine Ob rfl d4 ?_
 replace a:ka u J _ (.ba U 119 [.pointer (some ⟨nb,Lb,none⟩),.int .i64 e,.int .i64 f,og,.int .i64 g,.int .i64 j,v21,zf]::.row og 3 1 c.length Tg::.row v21 45 3 d.length Ig::.row zf 75 1 b.length (Xb Ef)::(gb Ef++O)):=a
 exact ⟨_,rfl,p,a⟩
 intro E h
 refine Va ?_
 refine (fun h=>Pb (ra h)) ?_
 refine eb (st ?_)
 obtain ⟨i77,F,h⟩:=ha h
 refine wl (Ja (Kl (aa (wa d6)) Ba F) (ma (Jb sd)) (st (La (za ?_))))
 exact ⟨q,_,_,rfl,(gd (lb (Na (Zc (ye (qb (ag ta))))))),⟨_,i77,rfl,h,p,a⟩,Nat.lt_succ_self _⟩
 intro z h
 refine ke ?_
 refine (fun h=>jc (jc (pe h))) ?_
 refine ra (ea (st (ja (Ra ?_))))
 obtain rfl:=Ea h
 refine Ob rfl d4 ?_
 replace a:ka u J _ (.ba U 119 [.pointer (some ⟨nb,Lb,none⟩),.int .i64 e,.int .i64 f,og,.int .i64 g,.int .i64 j,v21,zf]::.row og 3 1 c.length Tg::.row v21 45 3 d.length Ig::.row zf 75 1 b.length (Xb Ef)::(gb Ef++O)):=a
 exact ⟨_,rfl,p,a⟩
def Zz (q:Pf→Int→Int→(List Int)→Int→Int→(List Bc)→(List (List (List UInt8×Int)))→ua→Option (Int×Int×Int×List Int×Int×Int×List Bc×List (List (List UInt8×Int)))):Prop:=∀ {I:M} {J w:World} {O:List Wb} (t:ga Fc I) {U:Nat} {b:Pf} {nb Lb ef Le Fe:Nat} {g i:Int} {c:List Int} {og:Value} {Tg:List Value} {j k:Int} {d:List Bc} {v21:Value} {Ig:List Value} {e:List (List (List UInt8×Int))} {zf:Value} {Ef:List (Nat×List MapEntry×Nat)} {a:ua} {l m:Nat} {n:Option Addr} {c31:Nat} {r:Int×Int×Int×List Int×Int×Int×List Bc×List (List (List UInt8×Int))} (m6:rf I ef b.boxes) (m8:rf I Le b.lj) (m10:rf I Fe b.defs) (m11:dd I nb Lb [.map (some ef),.map (some Le),.map (some Fe)]) (m17:pa I Tg c) (m23:pa I Ig d) (u:Bd I Ef e) (m32:Ka I n c31 a.Kids) (x:dd I l m [.int .i64 a.Kind,.int .i64 a.N,S a.Name,.slice n a.Kids.length c31]) (h:q b g i c j k d e a=some r) (y:ka I J w (.ba U 119 [.pointer (some ⟨nb,Lb,none⟩),.int .i64 g,.int .i64 i,og,.int .i64 j,.int .i64 k,v21,zf]::.row og 3 1 c.length Tg::.row v21 45 3 d.length Ig::.row zf 75 1 e.length (Xb Ef)::(gb Ef++O))),Sb prog 86 [.pointer (some ⟨U,0,none⟩),.pointer (some ⟨l,m,none⟩)] w (fun v w'=>∃ (na:M) (o:Value) (p:List Value) (v37:Value) (s:List Value) (v40:Value) (f:List (Nat×List MapEntry×Nat)),v=.int .i64 r.1∧ga I na∧ka na J w' (.ba U 119 [.pointer (some ⟨nb,Lb,none⟩),.int .i64 r.2.1,.int .i64 r.2.2.1,o,.int .i64 r.2.2.2.2.1,.int .i64 r.2.2.2.2.2.1,v37,v40]::.row o 3 1 r.2.2.2.1.length p::.row v37 45 3 r.2.2.2.2.2.2.1.length s::.row v40 75 1 r.2.2.2.2.2.2.2.length (Xb f)::(gb f++O))∧pa na p r.2.2.2.1∧pa na s r.2.2.2.2.2.2.1∧Bd na f r.2.2.2.2.2.2.2)
structure nA (a:yu):Prop where
  tj:Zz a.tj
theorem mE {fu:Nat} {self:yu} (wn:nA self):Zz (tj fu self):=by
 intro I J w O q U Pi nb Lb ef Le Fe Fn In co og Tg go io no v21 Ig ro zf Ef D PN QN RN c31 r m6 m8 m10 m11 m17 m23 to m32 e h b
 unfold tj at h
 refine enter func86 rfl (frm:=_::_::zd (zd (Ge (Wf (Xe (Ze (Ze (Ze (Ze (Ze [])))))))))) rfl (ea (st (rb (st (ob (ea ?_))))))
 iterate 3 refine st ?_
 refine Ha ((e _ b.a).one d3) (wl (Ja (Qd underlying122 (aa (wa d3))) (ma (Jb hd)) (st (ja (Qb ?_)))))
 replace b:=b.Qh 3 (cb.sz Int)
 replace b:=(((b.da ff).da ff).da ff).da ff
 refine Se ([6]++rg 16 14) (by decide) (fun n m w=>∃ f i76 i77 i78 i79 i80 L W lc N v85 rc P X j H v93 Q,m=(ng (.i (v93)::(Sc 6 (Kh (.i (.int .i64 i76)::(Rc 16 (Ih 26 [])))))))∧hr fu self D Pi n i76 i77 i78 i79 i80 L N P H=some r∧ga I f∧ka f J w (.ba U 119 [.pointer (some ⟨nb,Lb,none⟩),.int .i64 i77,.int .i64 i78,W,.int .i64 i79,.int .i64 i80,v85,X]::.row W 3 1 L.length lc::.row v85 45 3 N.length rc::.row X 75 1 P.length (Xb j)::.row v93 3 1 H.length Q::(gb j++O))∧pa f lc L∧pa f rc N∧Bd f j P∧pa f Q H) (by rintro _ _ _ ⟨_,_,_,_,_,_,_,_,_,_,_,_,_,_,_,_,_,_,rfl,_⟩; rfl) _ _ (ie (Na (lb (lf (Na (qb (pf ta))))))) ⟨_,0,Fn,In,go,io,co,og,Tg,no,v21,Ig,ro,zf,Ef,[],(.slice none 0 0),[],rfl,h,ga.r,b,m17,m23,to,pa.nil⟩ ?_
 rintro le _ t SN ⟨Do,i76,i77,i78,i79,i80,L,W,lc,N,v85,rc,P,X,j,H,v93,Q,rfl,h,c,b,x,y,A,kk⟩
 rcases le with _|le
 cases h
 unfold hr at h
 refine Te (Ag (kc (Xc (fi (kc (Wc (ai pb))))))) (ea (st (ob ?_)))
 refine Za h ?_ ?_
 intro Go h
 refine Va (ra (db (Qb (ea ?_))))
 iterate 2 refine st ?_
 refine ja (eb ?_)
 iterate 5 refine st ?_
 refine Ha ((e _ (c _ b.a)).one d3) (st ?_)
 obtain ⟨TN,ap,h⟩:=ha h
 obtain ⟨UN,VN,WN,ip,f141,jp⟩:=Pc.elem (m32.up c) ap
 obtain ⟨a143,XN,rfl,mp⟩:=ua.o jp
 refine wl (Ja (Mc underlying122 pc (aa (Sa d3)) (aa (Sa d4)) ip) (ma (oc cd)) ?_)
 obtain ⟨C,op,h⟩:=ha h
 replace b:=(((b.da bb).da bb).da bb).da bb
 replace b:=Sep.Ld (a:=[_,_,_,_]) (p:=[_]) (M:=gb j) (R:=O) b
 refine Aa (wn.tj (q.t c) (m6.up c) (m8.up c) (m10.up c) (m11.up c) x y A mp f141 op b) ?_
 rintro _ YN ⟨pp,sp,wp,v152,Op,eq,mk,rfl,ok,b,Eq,fr,or⟩
 replace b:=Sep.Ld (a:=[_,_,_,_]) (p:=gb mk) (M:=[_]) (R:=O) b
 refine fa ?_
 refine wl (xd underlying40 Uc (fb.s (aa (Sa d6)) rfl fb.z) rfl rfl b ?_); clear b; intro ZN aO bO b; refine fa ?_
 obtain ⟨qr,dl,h⟩:=ha h
 have el:pa pp [.int .i64 C.1] [C.1]:=(pa.one (α:=Int) rfl)
 have wr:=pa.app (kk.up ok) el dl
 refine wl (xj underlying40 Uc rfl (aa (wa d8)) (aa (Sa d7)) b d5 (b.ba d0).cells el rfl dl (by decide) ?_); clear b; intro v160 cO ne Ne b; cases (show _=ne from Ne)
 replace b:=Sep.te b cd; refine fa ?_
 replace b:=b.drop ia.z
 refine st (La ?_)
 refine (fun h=>Pb (ra h)) ?_
 refine eb ?_
 obtain ⟨i165,Fr,h⟩:=ha h
 refine wl (Ja (Gd (aa (wa d5)) Ba Fr) (ma (oc Ed)) (st (La (za ?_))))
 exact ⟨le,_,_,rfl,(ie (Na (lb (lf (Na (qb (pf ta))))))),⟨_,i165,C.2.1,C.2.2.1,C.2.2.2.2.1,C.2.2.2.2.2.1,C.2.2.2.1,sp,wp,C.2.2.2.2.2.2.1,v152,Op,C.2.2.2.2.2.2.2,eq,mk,qr,v160,(Q++[.int .i64 C.1]),rfl,h,(c.t ok),b,Eq,fr,or,wr⟩,Nat.lt_succ_self _⟩
 intro Go h
 refine ke ?_
 refine (fun h=>jc (jc (pe h))) ?_
 refine ra (db (Qb (ea ?_)))
 iterate 3 refine st ?_
 refine Ha ((e _ (c _ b.a)).one d0) ?_
 iterate 2 refine st ?_
 refine ja ?_
 refine Za h ?_ ?_
 intro Or h
 refine ea ?_
 iterate 4 refine st ?_
 refine Ha ((e _ (c _ b.a)).one d1) ?_
 obtain ⟨dO,cs,h⟩:=ha h
 replace b:=(((b.da bb).da bb).da bb).da bb
 replace b:=Sep.Ld (a:=[_,_,_,_]) (p:=[_]) (M:=gb j) (R:=O) b
 refine Aa (wh (q.t c) (m6.up c) (m8.up c) (m10.up c) (m11.up c) x y A cs b) ?_
 rintro _ eO ⟨fO,v171,gO,hO,iO,jO,ds,rfl,es,b,gs,is,ls⟩
 replace b:=Sep.Ld (a:=[_,_,_,_]) (p:=gb ds) (M:=[_]) (R:=O) b
 refine fa (rb (st (ja (Ra ?_))))
 refine (fun h=>Ab (Fa h)) ?_
 obtain rfl:=Ea h
 refine Ob rfl d4 ?_
 replace b:=b.drop (ia.s (ia.s (ia.s (ia.s ia.z))))
 exact ⟨_,_,_,_,_,_,_,rfl,(c.t es),b,gs,is,ls⟩
 intro Or h
 refine ea ?_
 iterate 3 refine st ?_
 refine Ha ((e _ (c _ b.a)).one d0) ?_
 iterate 2 refine st ?_
 refine ja ?_
 refine Za h ?_ ?_
 intro ms h
 refine ea ?_
 iterate 4 refine st ?_
 refine Ha ((e _ (c _ b.a)).one d1) ?_
 obtain ⟨kO,os,h⟩:=ha h
 replace b:=(((b.da bb).da bb).da bb).da bb
 replace b:=Sep.Ld (a:=[_,_,_,_]) (p:=[_]) (M:=gb j) (R:=O) b
 refine Aa (wh (q.t c) (m6.up c) (m8.up c) (m10.up c) (m11.up c) x y A os b) ?_
 rintro _ lO ⟨mO,nO,oO,pO,qO,rO,rs,rfl,us,b,vs,ws,xs⟩
 replace b:=Sep.Ld (a:=[_,_,_,_]) (p:=gb rs) (M:=[_]) (R:=O) b
 refine fa (rb (st (ja (Ra ?_))))
 refine (fun h=>Ab (Fa h)) ?_
 obtain rfl:=Ea h
 refine Ob rfl d4 ?_
 replace b:=b.drop (ia.s (ia.s (ia.s (ia.s ia.z))))
 exact ⟨_,_,_,_,_,_,_,rfl,(c.t us),b,vs,ws,xs⟩
 intro ms h
 refine ea ?_
 iterate 3 refine st ?_
 refine Ha ((e _ (c _ b.a)).one d0) ?_
 iterate 2 refine st ?_
 refine ja ?_
 refine Za h ?_ ?_
 intro ys h
 refine ea ?_
 iterate 4 refine st ?_
 refine Ha ((e _ (c _ b.a)).one d2) ?_
 obtain ⟨sO,Os,h⟩:=ha h
 replace b:=(((b.da bb).da bb).da bb).da bb
 replace b:=Sep.Ld (a:=[_,_,_,_]) (p:=[_]) (M:=gb j) (R:=O) b
 refine Aa (Yz (q.t c) (m6.up c) (m8.up c) (m10.up c) (m11.up c) x y A Os b) ?_
 rintro _ tO ⟨uO,rfl,E,b⟩
 replace b:=Sep.Ld (a:=[_,_,_,_]) (p:=gb j) (M:=[_]) (R:=O) b
 refine fa (st (rb ?_))
 iterate 2 refine st ?_
 obtain ⟨vO,gt,h⟩:=ha h
 replace b:=(((b.da bb).da bb).da bb).da bb
 replace b:=Sep.Ld (a:=[_,_,_,_]) (p:=[_]) (M:=gb j) (R:=O) b
 refine Aa (wh (q.t (c.t E)) (m6.up (c.t E)) (m8.up (c.t E)) (m10.up (c.t E)) (m11.up (c.t E)) (x.up E) (y.up E) (A.up E) gt b) ?_
 rintro _ Mf ⟨wO,xO,yO,v203,zO,v206,it,rfl,lt,b,mt,rt,ut⟩
 replace b:=Sep.Ld (a:=[_,_,_,_]) (p:=gb it) (M:=[_]) (R:=O) b
 refine fa (rb ?_)
 iterate 4 refine st ?_
 refine Ha ((b.ba d0).cell d3) (st ?_)
 obtain ⟨wt,hu,h⟩:=ha h
 obtain ⟨AO,BO,pu,CO,bv,hw,kw,f218,lw,DO,EO,ww⟩:=Row.nq (α:=Int) (b.get d1) mt rfl hu
 rw [hw] at b
 obtain rfl:=lw
 refine wl (Ja (Mc underlying40 Uc (aa (Oc d3)) (aa (Oc d4)) kw) (ma (Zf cd)) (Ha ((f218 _ _ _ (b.get d1) rfl).one d0) (st (ja (Ra ?_)))))
 refine (fun h=>Ab (Fa h)) ?_
 obtain rfl:=Ea h
 refine Ob rfl d4 ?_
 replace b:=b.drop (ia.s (ia.s (ia.s (ia.s ia.z))))
 exact ⟨_,_,((pu++([.int .i64 wt]++bv)):List Value),_,_,_,_,rfl,(c.t (E.t lt)),b,ww,rt,ut⟩
 intro ys h
 refine ea ?_
 iterate 3 refine st ?_
 refine Ha ((e _ (c _ b.a)).one d0) ?_
 iterate 2 refine st ?_
 refine ja ?_
 refine Za h ?_ ?_
 intro ex h
 refine ea (st ?_)
 obtain ⟨FO,rx,h⟩:=ha h
 replace b:=(((b.da bb).da bb).da bb).da bb
 replace b:=Sep.Ld (a:=[_,_,_,_]) (p:=[_]) (M:=gb j) (R:=O) b
 refine Aa (wh (q.t c) (m6.up c) (m8.up c) (m10.up c) (m11.up c) x y A rx b) ?_
 rintro _ GO ⟨HO,v227,JO,KO,LO,v233,xx,rfl,ty,b,Rz,AC,GE⟩
 replace b:=Sep.Ld (a:=[_,_,_,_]) (p:=gb xx) (M:=[_]) (R:=O) b
 refine fa (rb (st (ja (Ra ?_))))
 refine (fun h=>Ab (Fa h)) ?_
 obtain rfl:=Ea h
 refine Ob rfl d4 ?_
 replace b:=b.drop (ia.s (ia.s (ia.s (ia.s ia.z))))
 exact ⟨_,_,_,_,_,_,_,rfl,(c.t ty),b,Rz,AC,GE⟩
 intro ex h
 refine ea ?_
 iterate 3 refine st ?_
 refine Ha ((e _ (c _ b.a)).one d0) ?_
 iterate 2 refine st ?_
 refine ja ?_
 refine Za h ?_ ?_
 intro LE h
 refine ea (st ?_)
 obtain ⟨MO,NE,h⟩:=ha h
 replace b:=(((b.da bb).da bb).da bb).da bb
 replace b:=Sep.Ld (a:=[_,_,_,_]) (p:=[_]) (M:=gb j) (R:=O) b
 refine Aa (wh (q.t c) (m6.up c) (m8.up c) (m10.up c) (m11.up c) x y A NE b) ?_
 rintro _ NO ⟨OO,PO,QO,RO,SO,TO,WF,rfl,RK,b,WL,XL,YL⟩
 replace b:=Sep.Ld (a:=[_,_,_,_]) (p:=gb WF) (M:=[_]) (R:=O) b
 refine fa (rb (st (ja (Ra ?_))))
 refine (fun h=>Ab (Fa h)) ?_
 obtain rfl:=Ea h
 refine Ob rfl d4 ?_
 replace b:=b.drop (ia.s (ia.s (ia.s (ia.s ia.z))))
 exact ⟨_,_,_,_,_,_,_,rfl,(c.t RK),b,WL,XL,YL⟩
 intro LE h
 refine db ?_
 refine Ub (rg 94 12) (by decide) (fun m w=>∃ f of,m=(Sd (qc (qc (kg (.i (.bool of)::(Rc 94 (xf 104 [])))))))∧gr D Pi i77 i78 i79 i80 L N P H of=some r∧ga Do f∧ka f J w (.ba U 119 [.pointer (some ⟨nb,Lb,none⟩),.int .i64 i77,.int .i64 i78,W,.int .i64 i79,.int .i64 i80,v85,X]::.row W 3 1 L.length lc::.row v85 45 3 N.length rc::.row X 75 1 P.length (Xb j)::.row v93 3 1 H.length Q::(gb j++O))) (by rintro _ _ ⟨_,_,rfl,_⟩; rfl) ?_ ?_
 refine eb ?_
 iterate 3 refine st ?_
 refine Ha ((e _ (c _ b.a)).one d0) ?_
 iterate 2 refine st ?_
 refine me 99 h ?_ ?_
 intro ZL h
 refine Ta rfl (Ta rfl (Ta rfl (mc rfl (fe d9) (de Uc (aa (Pa d2)) ((e _ (c _ b.a)).one d0) (ma (dc ec)) (Ta rfl ?_)))))
 iterate 2 refine st ?_
 refine La (za ?_)
 exact ⟨_,_,rfl,(Yb (Xa (Xa (Md (Na (qb (Zc ta))))))),_,(decide (D.Kind≤18)),rfl,h,ga.r,b⟩
 intro ZL h
 refine oa rfl rfl (oa rfl rfl (oa rfl rfl (oa rfl rfl (oa rfl rfl ?_))))
 iterate 2 refine st ?_
 refine La (za ?_)
 exact ⟨_,_,rfl,(Yb (Xa (Xa (Md (Na (qb (Zc ta))))))),_,false,rfl,h,ga.r,b⟩
 rintro _ t UO ⟨VO,of,rfl,h,d,b⟩
 unfold gr at h
 refine Vb (Ud (vc (vc (sg (kc (Wc (Kf pb))))))) (ra ?_)
 refine ed h ?_ ?_
 intro aM h
 refine ea ?_
 iterate 4 refine st ?_
 refine Ha ((e _ ((c.t d) _ b.a)).one d0) ?_
 obtain ⟨WO,bM,h⟩:=ha h
 refine wl (Ja (Gd Ba (aa (Pa (wa d0))) bM) (ma (dc (Jb kb))) ?_)
 obtain ⟨XO,cM,h⟩:=ha h
 refine wl (Ja (Kl (aa (Pa (wa d1))) Ba cM) (ma (dc (Jb Ib))) ?_)
 obtain ⟨YO,dM,h⟩:=ha h
 replace b:=(((b.da bb).da bb).da bb).da bb
 replace b:=Sep.Ld (a:=[_,_,_,_]) (p:=[_]) (M:=gb j) (R:=O) b
 refine Aa (wh (q.t (c.t d)) (m6.up (c.t d)) (m8.up (c.t d)) (m10.up (c.t d)) (m11.up (c.t d)) (x.up d) (y.up d) (A.up d) dM b) ?_
 rintro _ ZO ⟨aP,bP,cP,dP,eP,fP,eM,rfl,wf,b,nl,ol,pl⟩
 replace b:=Sep.Ld (a:=[_,_,_,_]) (p:=gb eM) (M:=[_]) (R:=O) b
 refine fa (ob (ea ?_))
 iterate 3 refine st ?_
 refine Ha ((e _ ((c.t (d.t wf)) _ b.a)).one d0) (st (ja ?_))
 refine Za h ?_ ?_
 intro fM h
 refine ea (st (ja (Ra ?_)))
 refine (fun h=>Fa (Ab (Fa h))) ?_
 obtain rfl:=Ea h
 refine Ob rfl d4 ?_
 replace b:=b.drop (ia.s (ia.s (ia.s (ia.s ia.z))))
 exact ⟨_,_,_,_,_,_,_,rfl,(c.t (d.t wf)),b,nl,ol,pl⟩
 intro fM h
 refine Va (ra (ea (st (ja (Ra ?_)))))
 refine (fun h=>Ab (Fa h)) ?_
 obtain rfl:=Ea h
 refine Ob rfl d4 ?_
 replace b:=b.drop (ia.s (ia.s (ia.s (ia.s ia.z))))
 exact ⟨_,_,_,_,_,_,_,rfl,(c.t (d.t wf)),b,nl,ol,pl⟩
 intro aM h
 refine ea ?_
 iterate 3 refine st ?_
 refine Ha ((e _ ((c.t d) _ b.a)).one d0) ?_
 iterate 2 refine st ?_
 refine ja ?_
 refine Za h ?_ ?_
 intro gM h
 refine db ?_
 refine Td b ?_; clear b; intro gP b
 refine Pd (la 0 [0,13] rfl (la 1 [1,2,3,4,5,6,7,12,13] rfl (la 2 [2,3,4,5,6,7,12,13] rfl (la 3 [3,4,5,6,7,12,13] rfl (Fb 4 [4,5,6,7,12,13] rfl (jb Dk (aa (Pa (Sa d8))) ((b.ba d0).cell d0)) (dc (oc Ed)) (la 5 [5,6,7,12,13] rfl (la 6 [6,7,12,13] rfl (Fb 7 [7,12,13] rfl (jb Yh (aa (Pa (ib d1))) ((m11 _ ((c.t d) _ b.a)).one d1)) (dc (qd Ib)) (la 8 [8,9,10,11,12,13] rfl (la 9 [9,10,11,12,13] rfl (la 10 [10,11,12,13] rfl (Fb 11 [11,12,13] rfl (jb Hb (aa (Pa (ib d5))) ((e _ ((c.t d) _ b.a)).one d2)) (dc (qd ad)) ?_))))))))))))
 obtain ⟨hP,iP,hM,iM⟩:=(m8.up (c.t d))
 refine Kb rfl rfl rfl rfl (Gb rfl) (gk (κ:=List UInt8) (k:=D.Name) (β:=Int) (zx:=0) underlying75 underlying9 (aa (Pa (ib d2))) (aa (Pa (ib d6))) Zm rfl (hM _ b.a) iM ?_); rintro _ rfl; refine fa ?_
 refine ⟨Oa.z,?_⟩
 obtain ⟨u,jM,h⟩:=ha h
 replace b:=(((b.da bb).da bb).da bb).da bb
 replace b:=Sep.Ld (a:=[_,_,_,_]) (p:=[_]) (M:=gb j) (R:=O) b
 refine Kb rfl rfl rfl rfl (Gb rfl) (td mw nd (sa (aa (Pa (Sa d5))) (sa Ba (sa (aa (Pa (ib d7))) (sa Ba hb)))) (wh (q.t (c.t d)) (m6.up (c.t d)) (m8.up (c.t d)) (m10.up (c.t d)) (m11.up (c.t d)) (x.up d) (y.up d) (A.up d) jM b) ?_)
 rintro _ jP ⟨kM,fd,ul,id,am,md,Y,rfl,F,b,lM,mM,nM⟩
 replace b:=Sep.Ld (a:=[_,_,_,_]) (p:=gb Y) (M:=[_]) (R:=O) b
 refine fa ?_
 refine ⟨Oa.z,?_⟩
 refine Hd (ra (db ?_))
 refine Ub (rg 139 20) (by decide) (fun m w=>∃ f If,m=(tf (.i (.int .i64 If)::(Sd (Sd (qc (yd (tf (Uf 139 []))))))))∧ax u If=some r∧ga kM f∧ka f J w (.ba U 119 [.pointer (some ⟨nb,Lb,none⟩),.int .i64 u.2.1,.int .i64 u.2.2.1,fd,.int .i64 u.2.2.2.2.1,.int .i64 u.2.2.2.2.2.1,id,md]::.row fd 3 1 u.2.2.2.1.length ul::.row id 45 3 u.2.2.2.2.2.2.1.length am::.row md 75 1 u.2.2.2.2.2.2.2.length (Xb Y)::(gb Y++O))) (by rintro _ _ ⟨_,_,rfl,_⟩; rfl) ?_ ?_
 refine Td b ?_; clear b; intro kP b
 refine Pd (la 0 [0,1,2,3,19,20] rfl (la 1 [1,2,3,19,20] rfl (la 2 [2,3,19,20] rfl (Fb 3 [3,19,20] rfl (jb Dk (aa (Pa (Bb d1))) ((b.ba d0).cell d0)) (dc (Xd Ib)) (la 4 [4,5,6,7,8,9,10,15,16,17,18,19,20] rfl (la 5 [5,6,7,8,9,10,15,16,17,18,19,20] rfl (la 6 [6,7,8,9,10,15,16,17,18,19,20] rfl (Fb 7 [7,8,9,10,15,16,17,18,19,20] rfl (jb Dk (aa (Pa (Bb d5))) ((b.ba d0).cell d0)) (dc (Xd ad)) (la 8 [8,9,10,15,16,17,18,19,20] rfl (la 9 [9,10,15,16,17,18,19,20] rfl (Fb 10 [10,15,16,17,18,19,20] rfl (jb No (aa (Pa (Bb d8))) ((m11 _ ((c.t (d.t F)) _ b.a)).one d2)) (dc (Xd Ed)) (la 11 [11,12,13,14,15,16,17,18,19,20] rfl (la 12 [12,13,14,15,16,17,18,19,20] rfl (la 13 [13,14,15,16,17,18,19,20] rfl (Fb 14 [14,15,16,17,18,19,20] rfl (jb Hb (aa (Pa (sb d2))) ((e _ ((c.t (d.t F)) _ b.a)).one d2)) (dc (ee ec)) ?_)))))))))))))))
 obtain ⟨lP,mP,oM,pM⟩:=(m10.up (c.t (d.t F)))
 refine Kb rfl rfl rfl rfl (Gb rfl) (zt (κ:=List UInt8) (k:=D.Name) (hrv:=fun _ _ h=>h) underlying76 underlying9 (aa (Pa (Bb d9))) (aa (Pa (sb d3))) vq (oM _ b.a) pM ?_); intro nP qM; refine fa ?_
 refine ⟨(Oa.s (jb Dk (aa (Pa (Bb d1))) ((b.ba d0).cell d0)) Oa.z),?_⟩
 obtain ⟨oP,rM,h⟩:=ha h
 obtain ⟨pP,qP,rP,rfl,f301,sM⟩:=uh.get qM rM
 obtain ⟨sP,tP,uP,vP,rfl,wP,xP⟩:=sM
 refine la 16 [16,17,18,19,20] rfl (la 17 [17,18,19,20] rfl (Fb 18 [18,19,20] rfl (Re Mb (aa (Pa (sb d6))) ((f301 _ b.a).eg 2 2) rfl) (dc (ee sd)) ?_))
 obtain ⟨yP,tM,h⟩:=ha h
 refine Kb rfl rfl rfl rfl (Gb rfl) (td ss nd (sa (aa (Pa (Bb d2))) (sa (aa (Pa (sb d7))) hb)) (Ur (q.t (c.t (d.t F))) (m6.up (c.t (d.t F))) (m8.up (c.t (d.t F))) (m10.up (c.t (d.t F))) (m11.up (c.t (d.t F))) tM b) ?_)
 rintro _ zP ⟨AP,rfl,uM,b⟩
 refine fa ?_
 refine ⟨Oa.z,?_⟩
 refine la 20 [20] rfl (Hd (za ?_))
 replace b:=b.drop (ia.s (ia.s (ia.s (ia.s ia.z))))
 exact ⟨_,_,rfl,(gd (Na (Yb (Yb (Xa (xb (gd (zc ta)))))))),_,_,rfl,h,uM,b⟩
 rintro _ t BP ⟨vM,If,rfl,h,rd,b⟩
 unfold ax at h
 refine Vb (Ff (kc (Ud (Ud (vc (Dd (Ff (fg pb)))))))) (ra (Ra ?_))
 refine (fun h=>Ab (Fa h)) ?_
 obtain rfl:=Ea h
 refine Ob rfl d4 ?_
 replace b:ka vM J _ (.ba U 119 [.pointer (some ⟨nb,Lb,none⟩),.int .i64 u.2.1,.int .i64 u.2.2.1,fd,.int .i64 u.2.2.2.2.1,.int .i64 u.2.2.2.2.2.1,id,md]::.row fd 3 1 u.2.2.2.1.length ul::.row id 45 3 u.2.2.2.2.2.2.1.length am::.row md 75 1 u.2.2.2.2.2.2.2.length (Xb Y)::(gb Y++O)):=b
 exact ⟨_,_,_,_,_,_,_,rfl,(c.t (d.t (F.t rd))),b,(lM.up rd),(mM.up rd),(nM.up rd)⟩
 intro gM h
 refine ea ?_
 iterate 3 refine st ?_
 refine Ha ((e _ ((c.t d) _ b.a)).one d0) ?_
 iterate 2 refine st ?_
 refine ja ?_
 refine Za h ?_ ?_
 intro wM h
 refine db ?_
 refine Td b ?_; clear b; intro CP b
 refine Pd (la 0 [0,13] rfl (la 1 [1,2,3,4,5,6,7,12,13] rfl (la 2 [2,3,4,5,6,7,12,13] rfl (la 3 [3,4,5,6,7,12,13] rfl (Fb 4 [4,5,6,7,12,13] rfl (jb Dk (aa (Pa (Gc d8))) ((b.ba d0).cell d0)) (dc (zg Ed)) (la 5 [5,6,7,12,13] rfl (la 6 [6,7,12,13] rfl (Fb 7 [7,12,13] rfl (jb Yh (aa (Pa (Oc d1))) ((m11 _ ((c.t d) _ b.a)).one d0)) (dc (Zf Ib)) (la 8 [8,9,10,11,12,13] rfl (la 9 [9,10,11,12,13] rfl (la 10 [10,11,12,13] rfl (Fb 11 [11,12,13] rfl (jb Hb (aa (Pa (Oc d5))) ((e _ ((c.t d) _ b.a)).one d2)) (dc (Zf ad)) ?_))))))))))))
 obtain ⟨DP,EP,xM,yM⟩:=(m6.up (c.t d))
 refine Kb rfl rfl rfl rfl (Gb rfl) (gk (κ:=List UInt8) (k:=D.Name) (β:=Int) (zx:=0) underlying75 underlying9 (aa (Pa (Oc d2))) (aa (Pa (Oc d6))) Zm rfl (xM _ b.a) yM ?_); rintro _ rfl; refine fa ?_
 refine ⟨Oa.z,?_⟩
 obtain ⟨v,zM,h⟩:=ha h
 replace b:=(((b.da bb).da bb).da bb).da bb
 replace b:=Sep.Ld (a:=[_,_,_,_]) (p:=[_]) (M:=gb j) (R:=O) b
 refine Kb rfl rfl rfl rfl (Gb rfl) (td mw nd (sa (aa (Pa (Gc d5))) (sa Ba (sa (aa (Pa (Oc d7))) (sa Ba hb)))) (wh (q.t (c.t d)) (m6.up (c.t d)) (m8.up (c.t d)) (m10.up (c.t d)) (m11.up (c.t d)) (x.up d) (y.up d) (A.up d) zM b) ?_)
 rintro _ FP ⟨AM,wd,em,Fd,hm,Id,Z,rfl,G,b,BM,CM,DM⟩
 replace b:=Sep.Ld (a:=[_,_,_,_]) (p:=gb Z) (M:=[_]) (R:=O) b
 refine fa ?_
 refine ⟨Oa.z,?_⟩
 refine Hd (ra (db ?_))
 refine Ub (rg 179 20) (by decide) (fun m w=>∃ f dg,m=(tf (.i (.int .i64 dg)::(Sd (Sd (Sd (qc (tf (Uf 179 []))))))))∧bx v dg=some r∧ga AM f∧ka f J w (.ba U 119 [.pointer (some ⟨nb,Lb,none⟩),.int .i64 v.2.1,.int .i64 v.2.2.1,wd,.int .i64 v.2.2.2.2.1,.int .i64 v.2.2.2.2.2.1,Fd,Id]::.row wd 3 1 v.2.2.2.1.length em::.row Fd 45 3 v.2.2.2.2.2.2.1.length hm::.row Id 75 1 v.2.2.2.2.2.2.2.length (Xb Z)::(gb Z++O))) (by rintro _ _ ⟨_,_,rfl,_⟩; rfl) ?_ ?_
 refine Td b ?_; clear b; intro GP b
 refine Pd (la 0 [0,1,2,3,19,20] rfl (la 1 [1,2,3,19,20] rfl (la 2 [2,3,19,20] rfl (Fb 3 [3,19,20] rfl (jb Dk (aa (Pa (Nc d1))) ((b.ba d0).cell d0)) (dc (qg Ib)) (la 4 [4,5,6,7,8,9,10,15,16,17,18,19,20] rfl (la 5 [5,6,7,8,9,10,15,16,17,18,19,20] rfl (la 6 [6,7,8,9,10,15,16,17,18,19,20] rfl (Fb 7 [7,8,9,10,15,16,17,18,19,20] rfl (jb Dk (aa (Pa (Nc d5))) ((b.ba d0).cell d0)) (dc (qg ad)) (la 8 [8,9,10,15,16,17,18,19,20] rfl (la 9 [9,10,15,16,17,18,19,20] rfl (Fb 10 [10,15,16,17,18,19,20] rfl (jb No (aa (Pa (Nc d8))) ((m11 _ ((c.t (d.t G)) _ b.a)).one d2)) (dc (qg Ed)) (la 11 [11,12,13,14,15,16,17,18,19,20] rfl (la 12 [12,13,14,15,16,17,18,19,20] rfl (la 13 [13,14,15,16,17,18,19,20] rfl (Fb 14 [14,15,16,17,18,19,20] rfl (jb Hb (aa (Pa (fe d2))) ((e _ ((c.t (d.t G)) _ b.a)).one d2)) (dc (Zh ec)) ?_)))))))))))))))
 obtain ⟨HP,IP,EM,FM⟩:=(m10.up (c.t (d.t G)))
 refine Kb rfl rfl rfl rfl (Gb rfl) (zt (κ:=List UInt8) (k:=D.Name) (hrv:=fun _ _ h=>h) underlying76 underlying9 (aa (Pa (Nc d9))) (aa (Pa (fe d3))) vq (EM _ b.a) FM ?_); intro JP GM; refine fa ?_
 refine ⟨(Oa.s (jb Dk (aa (Pa (Nc d1))) ((b.ba d0).cell d0)) Oa.z),?_⟩
 obtain ⟨KP,HM,h⟩:=ha h
 obtain ⟨LP,MP,NP,rfl,f344,IM⟩:=uh.get GM HM
 obtain ⟨OP,PP,QP,RP,rfl,SP,TP⟩:=IM
 refine la 16 [16,17,18,19,20] rfl (la 17 [17,18,19,20] rfl (Fb 18 [18,19,20] rfl (Re Mb (aa (Pa (fe d6))) ((f344 _ b.a).eg 2 2) rfl) (dc (Zh sd)) ?_))
 obtain ⟨UP,JM,h⟩:=ha h
 refine Kb rfl rfl rfl rfl (Gb rfl) (td ss nd (sa (aa (Pa (Nc d2))) (sa (aa (Pa (fe d7))) hb)) (Ur (q.t (c.t (d.t G))) (m6.up (c.t (d.t G))) (m8.up (c.t (d.t G))) (m10.up (c.t (d.t G))) (m11.up (c.t (d.t G))) JM b) ?_)
 rintro _ VP ⟨WP,rfl,KM,b⟩
 refine fa ?_
 refine ⟨Oa.z,?_⟩
 refine la 20 [20] rfl (Hd (za ?_))
 replace b:=b.drop (ia.s (ia.s (ia.s (ia.s ia.z))))
 exact ⟨_,_,rfl,(gd (Na (Yb (Yb (Yb (Xa (gd (zc ta)))))))),_,_,rfl,h,KM,b⟩
 rintro _ t XP ⟨LM,dg,rfl,h,be,b⟩
 unfold bx at h
 refine Vb (Ff (kc (Ud (Ud (Ud (vc (Ff (fg pb)))))))) (ra (Ra ?_))
 refine (fun h=>Ab (Fa h)) ?_
 obtain rfl:=Ea h
 refine Ob rfl d4 ?_
 replace b:ka LM J _ (.ba U 119 [.pointer (some ⟨nb,Lb,none⟩),.int .i64 v.2.1,.int .i64 v.2.2.1,wd,.int .i64 v.2.2.2.2.1,.int .i64 v.2.2.2.2.2.1,Fd,Id]::.row wd 3 1 v.2.2.2.1.length em::.row Fd 45 3 v.2.2.2.2.2.2.1.length hm::.row Id 75 1 v.2.2.2.2.2.2.2.length (Xb Z)::(gb Z++O)):=b
 exact ⟨_,_,_,_,_,_,_,rfl,(c.t (d.t (G.t be))),b,(BM.up be),(CM.up be),(DM.up be)⟩
 intro wM h
 refine ea ?_
 iterate 3 refine st ?_
 refine Ha ((e _ ((c.t d) _ b.a)).one d0) ?_
 iterate 2 refine st ?_
 refine ja ?_
 refine Za h ?_ ?_
 intro MM h
 refine db ?_
 refine Td b ?_; clear b; intro YP b
 refine Pd (la 0 [0,13] rfl (la 1 [1,2,3,4,5,6,7,12,13] rfl (la 2 [2,3,4,5,6,7,12,13] rfl (la 3 [3,4,5,6,7,12,13] rfl (Fb 4 [4,5,6,7,12,13] rfl (jb Dk (aa (Pa (Pa d8))) ((b.ba d0).cell d0)) (dc (dc Ed)) (la 5 [5,6,7,12,13] rfl (la 6 [6,7,12,13] rfl (Fb 7 [7,12,13] rfl (jb Yh (aa (Pa (Pa (wa d1)))) ((m11 _ ((c.t d) _ b.a)).one d1)) (dc (dc (Jb Ib))) (la 8 [8,9,10,11,12,13] rfl (la 9 [9,10,11,12,13] rfl (la 10 [10,11,12,13] rfl (Fb 11 [11,12,13] rfl (jb Hb (aa (Pa (Pa (wa d5)))) ((e _ ((c.t d) _ b.a)).one d2)) (dc (dc (Jb ad))) ?_))))))))))))
 obtain ⟨ZP,aQ,NM,OM⟩:=(m8.up (c.t d))
 refine Kb rfl rfl rfl rfl (Gb rfl) (gk (κ:=List UInt8) (k:=D.Name) (β:=Int) (zx:=0) underlying75 underlying9 (aa (Pa (Pa (wa d2)))) (aa (Pa (Pa (wa d6)))) Zm rfl (NM _ b.a) OM ?_); rintro _ rfl; refine fa ?_
 refine ⟨Oa.z,?_⟩
 obtain ⟨bQ,PM,h⟩:=ha h
 replace b:=(((b.da bb).da bb).da bb).da bb
 replace b:=Sep.Ld (a:=[_,_,_,_]) (p:=[_]) (M:=gb j) (R:=O) b
 refine Kb rfl rfl rfl rfl (Gb rfl) (td mw nd (sa (aa (Pa (Pa d5))) (sa Ba (sa (aa (Pa (Pa (wa d7)))) (sa Ba hb)))) (wh (q.t (c.t d)) (m6.up (c.t d)) (m8.up (c.t d)) (m10.up (c.t d)) (m11.up (c.t d)) (x.up d) (y.up d) (A.up d) PM b) ?_)
 rintro _ cQ ⟨dQ,eQ,fQ,gQ,hQ,iQ,QM,rfl,ce,b,RM,SM,TM⟩
 replace b:=Sep.Ld (a:=[_,_,_,_]) (p:=gb QM) (M:=[_]) (R:=O) b
 refine fa ?_
 refine ⟨Oa.z,?_⟩
 refine Hd (ra (db ?_))
 refine Td b ?_; clear b; intro jQ b
 refine Pd (la 0 [0,1,2,3,4,5,6,11,12,13] rfl (la 1 [1,2,3,4,5,6,11,12,13] rfl (la 2 [2,3,4,5,6,11,12,13] rfl (Fb 3 [3,4,5,6,11,12,13] rfl (jb Dk (aa (Pa (Pa (Sa d1)))) ((b.ba d0).cell d0)) (dc (dc (oc Ib))) (la 4 [4,5,6,11,12,13] rfl (la 5 [5,6,11,12,13] rfl (Fb 6 [6,11,12,13] rfl (jb Yh (aa (Pa (Pa (Sa d4)))) ((m11 _ ((c.t (d.t ce)) _ b.a)).one d1)) (dc (dc (oc cd))) (la 7 [7,8,9,10,11,12,13] rfl (la 8 [8,9,10,11,12,13] rfl (la 9 [9,10,11,12,13] rfl (Fb 10 [10,11,12,13] rfl (jb Hb (aa (Pa (Pa (Sa d8)))) ((e _ ((c.t (d.t ce)) _ b.a)).one d2)) (dc (dc (oc Ed))) ?_)))))))))))
 obtain ⟨kQ,lQ,UM,VM⟩:=(m8.up (c.t (d.t ce)))
 refine Kb rfl rfl rfl rfl (Gb rfl) (gk (κ:=List UInt8) (k:=D.Name) (β:=Int) (zx:=0) underlying75 underlying9 (aa (Pa (Pa (Sa d5)))) (aa (Pa (Pa (Sa d9)))) Zm rfl (UM _ b.a) VM ?_); rintro _ rfl; refine fa ?_
 refine ⟨Oa.z,?_⟩
 obtain ⟨mQ,WM,h⟩:=ha h
 refine ze 12 [12,13] rfl (Gd Ba (aa (Pa (Pa (ib d0)))) WM) (dc (dc (qd kb))) (la 13 [13] rfl (Hd (ra (Ra ?_))))
 refine (fun h=>Ab (Fa h)) ?_
 obtain rfl:=Ea h
 refine Ob rfl d4 ?_
 replace b:=b.drop (ia.s (ia.s (ia.s (ia.s ia.z))))
 exact ⟨_,_,_,_,_,_,_,rfl,(c.t (d.t ce)),b,RM,SM,TM⟩
 intro MM h
 refine ea ?_
 iterate 3 refine st ?_
 refine Ha ((e _ ((c.t d) _ b.a)).one d0) ?_
 iterate 2 refine st ?_
 refine ja ?_
 refine Za h ?_ ?_
 intro XM h
 refine ea (st ?_)
 obtain ⟨nQ,YM,h⟩:=ha h
 replace b:=(((b.da bb).da bb).da bb).da bb
 replace b:=Sep.Ld (a:=[_,_,_,_]) (p:=[_]) (M:=gb j) (R:=O) b
 refine Aa (wh (q.t (c.t d)) (m6.up (c.t d)) (m8.up (c.t d)) (m10.up (c.t d)) (m11.up (c.t d)) (x.up d) (y.up d) (A.up d) YM b) ?_
 rintro _ oQ ⟨pQ,qQ,rQ,sQ,tQ,uQ,ZM,rfl,aN,b,bN,cN,dN⟩
 replace b:=Sep.Ld (a:=[_,_,_,_]) (p:=gb ZM) (M:=[_]) (R:=O) b
 refine fa (rb ?_)
 iterate 4 refine st ?_
 refine Ha ((b.ba d0).cell d5) (st (ja (Ra ?_)))
 refine (fun h=>Ab (Fa h)) ?_
 obtain rfl:=Ea h
 refine Ob rfl d4 ?_
 replace b:=b.drop (ia.s (ia.s (ia.s (ia.s ia.z))))
 exact ⟨_,_,_,_,_,_,_,rfl,(c.t (d.t aN)),b,bN,cN,dN⟩
 intro XM h
 refine ea ?_
 iterate 3 refine st ?_
 refine Ha ((e _ ((c.t d) _ b.a)).one d0) ?_
 iterate 2 refine st ?_
 refine ja ?_
 refine Za h ?_ ?_
 intro eN h
 refine ea (st ?_)
 obtain ⟨vQ,fN,h⟩:=ha h
 replace b:=(((b.da bb).da bb).da bb).da bb
 replace b:=Sep.Ld (a:=[_,_,_,_]) (p:=[_]) (M:=gb j) (R:=O) b
 refine Aa (wh (q.t (c.t d)) (m6.up (c.t d)) (m8.up (c.t d)) (m10.up (c.t d)) (m11.up (c.t d)) (x.up d) (y.up d) (A.up d) fN b) ?_
 rintro _ wQ ⟨xQ,yQ,zQ,AQ,BQ,CQ,gN,rfl,hN,b,iN,jN,kN⟩
 replace b:=Sep.Ld (a:=[_,_,_,_]) (p:=gb gN) (M:=[_]) (R:=O) b
 refine fa (rb (st (ja (Ra ?_))))
 refine (fun h=>Ab (Fa h)) ?_
 obtain rfl:=Ea h
 refine Ob rfl d4 ?_
 replace b:=b.drop (ia.s (ia.s (ia.s (ia.s ia.z))))
 exact ⟨_,_,_,_,_,_,_,rfl,(c.t (d.t hN)),b,iN,jN,kN⟩
 intro eN h
 refine Va ?_
 refine (fun h=>Pb (ra h)) ?_
 refine ea (st ?_)
 obtain ⟨g,lN,h⟩:=ha h
 replace b:=(((b.da bb).da bb).da bb).da bb
 replace b:=Sep.Ld (a:=[_,_,_,_]) (p:=[_]) (M:=gb j) (R:=O) b
 refine Aa (wh (q.t (c.t d)) (m6.up (c.t d)) (m8.up (c.t d)) (m10.up (c.t d)) (m11.up (c.t d)) (x.up d) (y.up d) (A.up d) lN b) ?_
 rintro _ DQ ⟨mN,S,bi,T,ci,V,K,rfl,B,b,lm,pm,sm⟩
 replace b:=Sep.Ld (a:=[_,_,_,_]) (p:=gb K) (M:=[_]) (R:=O) b
 refine fa (ob (ea ?_))
 iterate 3 refine st ?_
 refine Ha ((b.ba d0).cell d0) ?_
 iterate 2 refine st ?_
 refine Ha ((m11 _ ((c.t (d.t B)) _ b.a)).one d1) ?_
 obtain ⟨nN,Nm,ii,gc⟩:=(m8.up (c.t (d.t B)))
 refine wl (DA underlying75 (aa (Pa (Pa (Gc d1)))) b (ii _ b.a) ?_); clear b; intro oN EQ FQ b; refine fa ?_
 refine ja (Qb ?_)
 obtain ⟨GQ,pN,h⟩:=ha h
 obtain ⟨qN,rN,h⟩:=ha h
 obtain ⟨sN,fn,h⟩:=ha h
 replace b:=((((b.da Bi).da Bi).da Bi).da Bi).da Bi
 refine Se ([4]++rg 8 2++rg 263 28) (by decide +kernel) (fun n m w=>∃ f ge,m=(tf (Sc 4 (kg (xf 8 (Sd (Sd (Sd (Sd (Sd (kg (Uf 263 (ei 283 []))))))))))))∧some r=some r∧ga mN f∧ka f J w (.ba U 119 [.pointer (some ⟨nb,Lb,none⟩),.int .i64 g.2.1,.int .i64 g.2.2.1,S,.int .i64 g.2.2.2.2.1,.int .i64 g.2.2.2.2.2.1,T,V]::.row S 3 1 g.2.2.2.1.length bi::.row T 45 3 g.2.2.2.2.2.2.1.length ci::.row V 75 1 g.2.2.2.2.2.2.2.length (Xb K)::.row v93 3 1 H.length Q::.aj oN Le Nm ge Nm::(gb K++O))∧zC f nN ge qN n) (by rintro _ _ _ ⟨_,_,rfl,_⟩; rfl) _ _ (gd (lb (Md (Zc (Yb (Yb (Yb (Yb (Yb (Md (zc (ag ta)))))))))))) ⟨_,[],rfl,rfl,ga.r,b,Sj.start⟩ ?_
 rintro HQ _ t IQ ⟨tN,ge,rfl,_,l,b,on⟩
 refine Te (Ff (Xc (sg (Kf (Ud (Ud (Ud (Ud (Ud (sg (fg (xi pb)))))))))))) (ea ?_)
 refine wl (hB (aa (Pa (Pa (Gc d2)))) b d5 (ii _ (l _ b.a)) gc ?_ ?_)
 clear b; intro JQ KQ uN li LQ ne Ne b; cases (show _=ne from Ne)
 replace b:=Sep.te b cd; refine fa ?_
 refine st (ob (Bm (aa (Pa (Pa (Gc d4)))) (Va (ra (Qb (ea (wl (EA (aa (Pa (Pa (Gc d2)))) b d5 (ii _ (l _ b.a)) gc li (ma (dc (dc (zg cd)))) ?_))))))))
 iterate 4 refine st ?_
 refine rb ?_
 iterate 2 refine st ?_
 obtain ⟨MQ,NQ,OQ,PQ,QQ,un,vN,wN,xN,RQ,SQ,TQ⟩:=Row.nq (α:=Int) (b.get d4) (kk.up (d.t (B.t l))) rfl pN
 rw [un] at b
 obtain rfl:=xN
 refine wl (Ja (Mc underlying40 Uc (aa (Pa (Pa (Gc d9)))) Ba vN) (ma (dc (dc (Zf Ga)))) (Ha ((wN _ _ _ (b.get d4) rfl).one d0) (wl (Ja (Kl (aa (Pa (Pa (Oc d1)))) Ba rN) (ma (dc (dc (Zf Ib)))) (st (ja ?_))))))
 refine uy (aa (Pa (Pa (Oc d3)))) (fun yN=>?_) (fun zN=>?_)
 obtain ⟨AN,BN⟩:=Sj.hit gc li yN fn; subst BN; replace h:=ao AN h
 refine db ?_
 refine Ub (rg 274 17) (by decide) (fun m w=>∃ f pi,m=(tf (.i (.int .i64 pi)::(Sd (Sd (Sd (Sd (Sd (yd (mi (Rc 274 (Nj 284 [])))))))))))∧cx g pi=some r∧ga tN f∧ka f J w (.ba U 119 [.pointer (some ⟨nb,Lb,none⟩),.int .i64 g.2.1,.int .i64 g.2.2.1,S,.int .i64 g.2.2.2.2.1,.int .i64 g.2.2.2.2.2.1,T,V]::.row S 3 1 g.2.2.2.1.length bi::.row T 45 3 g.2.2.2.2.2.2.1.length ci::.row V 75 1 g.2.2.2.2.2.2.2.length (Xb K)::(gb K++O))) (by rintro _ _ ⟨_,_,rfl,_⟩; rfl) ?_ ?_
 refine Td b ?_; clear b; intro UQ b
 refine Pd (la 0 [0,1,2,3,16,17] rfl (la 1 [1,2,3,16,17] rfl (la 2 [2,3,16,17] rfl (Fb 3 [3,16,17] rfl (jb Dk (aa (Pa (Pa (Oc d6)))) ((b.ba d0).cell d0)) (dc (dc (Zf sd))) (la 4 [4,5,6,7,8,9,10,12,13,14,15,16,17] rfl (la 5 [5,6,7,8,9,10,12,13,14,15,16,17] rfl (la 6 [6,7,8,9,10,12,13,14,15,16,17] rfl (Fb 7 [7,8,9,10,12,13,14,15,16,17] rfl (jb Dk (aa (Pa (Pa (Nc d0)))) ((b.ba d0).cell d0)) (dc (dc (qg kb))) (la 8 [8,9,10,12,13,14,15,16,17] rfl (la 9 [9,10,12,13,14,15,16,17] rfl (Fb 10 [10,12,13,14,15,16,17] rfl (jb No (aa (Pa (Pa (Nc d3)))) ((m11 _ ((c.t (d.t (B.t l))) _ b.a)).one d2)) (dc (dc (qg hd))) (la 11 [11,12,13,14,15,16,17] rfl ?_))))))))))))
 obtain ⟨VQ,WQ,CN,DN⟩:=(m10.up (c.t (d.t (B.t l))))
 refine Kb rfl rfl rfl rfl (Gb rfl) (zt (κ:=List UInt8) (k:=((sN.getD ([],0)).1)) (hrv:=fun _ _ h=>h) underlying76 underlying9 (aa (Pa (Pa (Nc d4)))) (aa (Pa (Pa (Nc d5)))) vq (CN _ b.a) DN ?_); intro XQ EN; refine fa ?_
 refine ⟨(Oa.s (jb Dk (aa (Pa (Pa (Oc d6)))) ((b.ba d0).cell d0)) Oa.z),?_⟩
 obtain ⟨YQ,FN,h⟩:=ha h
 obtain ⟨ZQ,aR,bR,rfl,GN,HN⟩:=uh.get EN FN
 obtain ⟨cR,dR,eR,fR,rfl,gR,hR⟩:=HN
 refine la 13 [13,14,15,16,17] rfl (la 14 [14,15,16,17] rfl (Fb 15 [15,16,17] rfl (Re Mb (aa (Pa (Pa (Nc d8)))) ((GN _ b.a).eg 2 2) rfl) (dc (dc (qg Ed))) ?_))
 obtain ⟨iR,IN,h⟩:=ha h
 refine Kb rfl rfl rfl rfl (Gb rfl) (td ss nd (sa (aa (Pa (Pa (Oc d7)))) (sa (aa (Pa (Pa (Nc d9)))) hb)) (Ur (q.t (c.t (d.t (B.t l)))) (m6.up (c.t (d.t (B.t l)))) (m8.up (c.t (d.t (B.t l)))) (m10.up (c.t (d.t (B.t l)))) (m11.up (c.t (d.t (B.t l)))) IN b) ?_)
 rintro _ jR ⟨kR,rfl,JN,b⟩
 refine fa ?_
 refine ⟨Oa.z,?_⟩
 refine la 17 [17] rfl (Hd (za ?_))
 replace b:=(b.drop (ia.s (ia.s (ia.s (ia.s ia.z))))).drop (ia.s (ia.s (ia.s (ia.s ia.z))))
 exact ⟨_,_,rfl,(gd (Na (Yb (Yb (Yb (Yb (Yb (xb (yf (qb (Cg ta))))))))))),_,_,rfl,h,JN,b⟩
 rintro _ t lR ⟨KN,pi,rfl,h,he,b⟩
 unfold cx at h
 refine Vb (Ff (kc (Ud (Ud (Ud (Ud (Ud (Dd (Qi (Wc (Ik pb))))))))))) (ra (Ra ?_))
 refine (fun h=>Ab (Fa (Ab (Fa h)))) ?_
 obtain rfl:=Ea h
 refine Ob rfl d4 ?_
 replace b:ka KN J _ (.ba U 119 [.pointer (some ⟨nb,Lb,none⟩),.int .i64 g.2.1,.int .i64 g.2.2.1,S,.int .i64 g.2.2.2.2.1,.int .i64 g.2.2.2.2.2.1,T,V]::.row S 3 1 g.2.2.2.1.length bi::.row T 45 3 g.2.2.2.2.2.2.1.length ci::.row V 75 1 g.2.2.2.2.2.2.2.length (Xb K)::(gb K++O)):=b
 exact ⟨_,_,_,_,_,_,_,rfl,(c.t (d.t (B.t (l.t he)))),b,(lm.up (l.t he)),(pm.up (l.t he)),(sm.up (l.t he))⟩
 obtain ⟨LN,MN,NN⟩:=Sj.step on gc li zN
 refine Va ?_
 refine (fun h=>Pb (za h)) ?_
 rw [← un] at b
 exact ⟨LN,_,_,rfl,(gd (lb (Md (Zc (Yb (Yb (Yb (Yb (Yb (Md (zc (ag ta)))))))))))),⟨_,(ge++[uN]),rfl,rfl,l,b,NN⟩,MN⟩
 intro ON; replace h:=bo (Sj.fin on gc ON fn) h; refine fa ?_
 refine st (ob (Cp (aa (Pa (Pa (Gc d4)))) (ke ?_)))
 refine (fun h=>jc (jc (pe h))) ?_
 refine ra (ea (st (ja (Ra ?_))))
 obtain rfl:=Ea h
 refine Ob rfl d4 ?_
 replace b:=(b.drop (ia.s (ia.s (ia.s (ia.s ia.z))))).drop (ia.s (ia.s (ia.s (ia.s ia.z))))
 exact ⟨_,_,_,_,_,_,_,rfl,(c.t (d.t (B.t l))),b,(lm.up l),(pm.up l),(sm.up l)⟩
theorem xv:∀ n,nA (zo n)
  | 0=>⟨(by intro; intros; rename_i h _; cases h)⟩
  | n+1=>⟨mE (xv n)⟩
def aA (q:Pf→Int→Int→(List Int)→Int→Int→(List Bc)→(List (List (List UInt8×Int)))→(List Wa)→Option (Int×Int×List Int×Int×Int×List Bc×List (List (List UInt8×Int)))):Prop:=∀ {I:M} {J w:World} {O:List Wb} (p:ga Fc I) {U:Nat} {a:Pf} {nb Lb ef Le Fe:Nat} {g i:Int} {b:List Int} {og:Value} {Tg:List Value} {j k:Int} {c:List Bc} {v21:Value} {Ig:List Value} {d:List (List (List UInt8×Int))} {zf:Value} {Ef:List (Nat×List MapEntry×Nat)} {e:List Wa} {a28:Option Addr} {l:Nat} {r:Int×Int×List Int×Int×Int×List Bc×List (List (List UInt8×Int))} (m6:rf I ef a.boxes) (m8:rf I Le a.lj) (m10:rf I Fe a.defs) (m11:dd I nb Lb [.map (some ef),.map (some Le),.map (some Fe)]) (m17:pa I Tg b) (m23:pa I Ig c) (s:Bd I Ef d) (t:Ka I a28 l e) (h:q a g i b j k c d e=some r) (u:ka I J w (.ba U 119 [.pointer (some ⟨nb,Lb,none⟩),.int .i64 g,.int .i64 i,og,.int .i64 j,.int .i64 k,v21,zf]::.row og 3 1 b.length Tg::.row v21 45 3 c.length Ig::.row zf 75 1 d.length (Xb Ef)::(gb Ef++O))),Sb prog 46 [.pointer (some ⟨U,0,none⟩),.slice a28 e.length l] w (fun v w'=>∃ (na:M) (v31:Value) (m:List Value) (n:Value) (o:List Value) (v37:Value) (f:List (Nat×List MapEntry×Nat)),v=.tuple ⟨[]⟩∧ga I na∧ka na J w' (.ba U 119 [.pointer (some ⟨nb,Lb,none⟩),.int .i64 r.1,.int .i64 r.2.1,v31,.int .i64 r.2.2.2.1,.int .i64 r.2.2.2.2.1,n,v37]::.row v31 3 1 r.2.2.1.length m::.row n 45 3 r.2.2.2.2.2.1.length o::.row v37 75 1 r.2.2.2.2.2.2.length (Xb f)::(gb f++O))∧pa na m r.2.2.1∧pa na o r.2.2.2.2.2.1∧Bd na f r.2.2.2.2.2.2)
def bA (q:Pf→Int→Int→(List Int)→Int→Int→(List Bc)→(List (List (List UInt8×Int)))→Wa→Option (Int×Int×List Int×Int×Int×List Bc×List (List (List UInt8×Int)))):Prop:=∀ {I:M} {J w:World} {O:List Wb} (y:ga Fc I) {U:Nat} {b:Pf} {nb Lb ef Le Fe:Nat} {g i:Int} {c:List Int} {og:Value} {Tg:List Value} {j k:Int} {d:List Bc} {v21:Value} {Ig:List Value} {e:List (List (List UInt8×Int))} {zf:Value} {Ef:List (Nat×List MapEntry×Nat)} {a:Wa} {l m:Nat} {n:Option Addr} {c31:Nat} {o:Option Addr} {p:Nat} {s:Option Addr} {c37:Nat} {r:Int×Int×List Int×Int×Int×List Bc×List (List (List UInt8×Int))} (m6:rf I ef b.boxes) (m8:rf I Le b.lj) (m10:rf I Fe b.defs) (m11:dd I nb Lb [.map (some ef),.map (some Le),.map (some Fe)]) (m17:pa I Tg c) (m23:pa I Ig d) (z:Bd I Ef e) (m32:Ka I n c31 a.X.Kids) (A:Ka I o p a.Body) (B:Ka I s c37 a.jd) (C:dd I l m [.int .i64 a.Kind,S a.Name,.int .i64 a.X.Kind,.int .i64 a.X.N,S a.X.Name,.slice n a.X.Kids.length c31,.slice o a.Body.length p,.slice s a.jd.length c37]) (h:q b g i c j k d e a=some r) (D:ka I J w (.ba U 119 [.pointer (some ⟨nb,Lb,none⟩),.int .i64 g,.int .i64 i,og,.int .i64 j,.int .i64 k,v21,zf]::.row og 3 1 c.length Tg::.row v21 45 3 d.length Ig::.row zf 75 1 e.length (Xb Ef)::(gb Ef++O))),Sb prog 67 [.pointer (some ⟨U,0,none⟩),.pointer (some ⟨l,m,none⟩)] w (fun v w'=>∃ (na:M) (v40:Value) (t:List Value) (u:Value) (x:List Value) (v46:Value) (f:List (Nat×List MapEntry×Nat)),v=.tuple ⟨[]⟩∧ga I na∧ka na J w' (.ba U 119 [.pointer (some ⟨nb,Lb,none⟩),.int .i64 r.1,.int .i64 r.2.1,v40,.int .i64 r.2.2.2.1,.int .i64 r.2.2.2.2.1,u,v46]::.row v40 3 1 r.2.2.1.length t::.row u 45 3 r.2.2.2.2.2.1.length x::.row v46 75 1 r.2.2.2.2.2.2.length (Xb f)::(gb f++O))∧pa na t r.2.2.1∧pa na x r.2.2.2.2.2.1∧Bd na f r.2.2.2.2.2.2)
structure ux (a:Gp):Prop where
  Ij:aA a.Ij
  Om:bA a.Om
theorem nE {self:Gp} (L:ux self):aA (Ij self):=by
 intro I J w O M U N nb Lb ef Le Fe P Q R og Tg S T V v21 Ig ok zf Ef W a28 dl r m6 m8 m10 m11 m17 m23 X Y h a
 unfold Ij at h
 refine enter func46 rfl (frm:=_::_::Cf (zd (Ge (Wf (Xe []))))) rfl (ea ?_)
 iterate 4 refine st ?_
 refine Ha ((a.ba d0).cell d7) ?_
 refine wl (hj a ?_); clear a; intro y el nl a; refine fa ?_
 refine wl (xd underlying117 Yh (fb.s (aa (wa d0)) rfl fb.z) rfl rfl a ?_); clear a; intro ol pl ul a; refine fa ?_
 obtain ⟨Z,D,h⟩:=ha h
 have gc:=dw D
 refine wl (HB (κ:=List UInt8) (β:=Int) underlying117 Yh rfl (aa d9) (aa (wa d1)) a d5 (a.ba d0).cells D (by decide) ?_); clear a; intro v46 am lc rc a; cases (show _=lc from rc)
 replace a:=Sep.te a cd; refine fa ?_
 replace a:=((((a.drop ia.z).da ff).da ff).da ff).da ff
 rw [Xy Ef y 0 []] at a; replace a:=a.cC (pre:=[_,_,_,_])
 have A:=Bd.push (e:=(y,[],0)) X (je.nil (κ:=List UInt8) (β:=Int) (μ:=I) (c:=0)); rw [← gc.1] at A
 generalize em:(Ef++[(y,[],0)])=fd at a A
 iterate 2 refine st ?_
 refine wl (Je oq (aa (wa d4)) (aa (wa d2)) (a.get d3).Me a d0 sd rfl Ga Ma ?_)
 clear a; intro hm a
 refine ob (ea (st (wl (Ja (Qd underlying59 (aa (wa d5))) (ma (Jb ad)) (st (ja (Qb ?_)))))))
 refine Se ([4]++rg 18 8) (by decide) (fun n m w=>∃ f i81 i82 i83 i84 i85 g k q l p u v B x,m=(tf (Sc 4 (yd (vf (.i (.int .i64 i81)::(ei 18 []))))))∧ir self W N n i81 i82 i83 i84 i85 g l v=some r∧ga I f∧ka f J w (.ba U 119 [.pointer (some ⟨nb,Lb,none⟩),.int .i64 i82,.int .i64 i83,k,.int .i64 i84,.int .i64 i85,p,B]::.row k 3 1 g.length q::.row p 45 3 l.length u::.row B 75 1 v.length (Xb x)::(gb x++O))∧pa f q g∧pa f u l∧Bd f x v) (by rintro _ _ _ ⟨_,_,_,_,_,_,_,_,_,_,_,_,_,_,_,rfl,_⟩; rfl) _ _ (gd (lb (xb (Yc (Na (ag ta)))))) ⟨_,0,P,Q,S,T,R,og,Tg,V,v21,Ig,Z,v46,fd,rfl,h,ga.r,a,m17,m23,A⟩ ?_
 rintro C _ t lm ⟨id,i81,i82,i83,i84,i85,g,k,q,l,p,u,v,B,x,rfl,h,b,a,E,F,G⟩
 rcases C with _|C
 cases h
 unfold ir at h
 refine Te (Ff (Xc (Dd (Jf (kc (xi pb)))))) (ea (st (ob ?_)))
 refine Za h ?_ ?_
 intro md h
 refine Va (ra (db (Qb (ea ?_))))
 iterate 2 refine st ?_
 refine ja (eb ?_)
 iterate 3 refine st ?_
 obtain ⟨pm,rd,h⟩:=ha h
 obtain ⟨sm,Nm,fn,wd,f140,Fd⟩:=Pc.elem (Y.up b) rd
 obtain ⟨on,c143,a145,c146,a148,un,rfl,Id,be,ce⟩:=Wa.o Fd
 refine wl (Ja (Mc underlying59 Yf (aa (Sa d1)) (aa (Sa d2)) wd) (ma (oc ec)) ?_)
 obtain ⟨d,ge,h⟩:=ha h
 replace a:=(((a.da bb).da bb).da bb).da bb
 refine Aa (L.Om (M.t b) (m6.up b) (m8.up b) (m10.up b) (m11.up b) E F G Id be ce f140 ge a) ?_
 rintro _ wn ⟨Fn,v154,he,v157,le,v160,ne,rfl,Ne,a,of,wf,If⟩
 refine fa (La ?_)
 refine (fun h=>Pb (ra h)) ?_
 refine eb ?_
 obtain ⟨i163,dg,h⟩:=ha h
 refine wl (Ja (Gd (aa (wa d7)) Ba dg) (ma (oc cd)) (st (La (za ?_))))
 exact ⟨C,_,_,rfl,(gd (lb (xb (Yc (Na (ag ta)))))),⟨_,i163,d.1,d.2.1,d.2.2.2.1,d.2.2.2.2.1,d.2.2.1,v154,he,d.2.2.2.2.2.1,v157,le,d.2.2.2.2.2.2,v160,ne,rfl,h,(b.t Ne),a,of,wf,If⟩,Nat.lt_succ_self _⟩
 intro md h
 refine ke ?_
 refine (fun h=>jc (jc (pe h))) ?_
 refine ra ?_
 refine Td a ?_; clear a; intro In a
 refine Pd (la 0 [0,12,13,14] rfl (la 1 [1,2,3,4,11,12,13,14] rfl (la 2 [2,3,4,11,12,13,14] rfl (la 3 [3,4,11,12,13,14] rfl (Fb 4 [4,11,12,13,14] rfl (jb oq (aa (Sa d9)) ((a.ba d0).cell d7)) (qd Ga) (la 5 [5,6,7,8,9,10,11,12,13,14] rfl (la 6 [6,7,8,9,10,11,12,13,14] rfl (la 7 [7,8,9,10,11,12,13,14] rfl (Fb 8 [8,9,10,11,12,13,14] rfl (jb oq (aa (ib d3)) ((a.ba d0).cell d7)) (qd hd) (ze 9 [9,10,11,12,13,14] rfl (wj underlying117 (aa (ib d4)) (a.get d3).yj) (qd cd) ?_))))))))))
 obtain ⟨i165,bi,h⟩:=ha h
 refine ze 10 [10,11,12,13,14] rfl (Kl (aa (ib d5)) Ba bi) (qd ad) ?_
 obtain ⟨ci,ii,h⟩:=ha h
 obtain ⟨H,K,li,pi,Pi,kk,mk⟩:=Row.nC (a.get d3) G ii
 replace a:=a.py d3 pi Pi ec
 replace a:=a.vu (pre:=[_,_,_,_]) (j:=i165.toNat); rw [mk] at a
 refine ze 11 [11,12,13,14] rfl (lq underlying117 Yh (aa (ib d0)) .n (.s (aa (ib d6))) li) (qd sd) (la 12 [12,13,14] rfl (la 13 [13,14] rfl (Kb rfl rfl rfl rfl (Gb rfl) (Je oq (aa (ib d9)) (aa (ib d7)) (a.get d3).Me a d0 sd rfl Ga Ma ?_))))
 clear a; intro Mf a
 refine ⟨Oa.z,?_⟩
 refine Hd ?_
 obtain rfl:=Ea h
 refine Li rfl ?_
 replace a:ka id J _ (.ba U 119 [.pointer (some ⟨nb,Lb,none⟩),.int .i64 i82,.int .i64 i83,k,.int .i64 i84,.int .i64 i85,p,H]::.row k 3 1 g.length q::.row p 45 3 l.length u::.row H 75 1 ci.length (Xb K)::(gb K++O)):=a
 exact ⟨_,_,_,_,_,_,_,rfl,b,a,E,F,kk⟩
theorem oE {fu:Nat} {self:Gp} (le:ux self):bA (Om fu self):=by
 intro I J w O g U us nb Lb ef Le Fe bO cO dO og Tg eO fO gO v21 Ig hO zf Ef bi iO jO kO c31 lO mO nO c37 r m6 m8 m10 m11 m17 m23 id m32 ci vs A h b
 unfold Om at h
 refine enter func67 rfl (frm:=_::_::Cf (Ge (Xe (Xe (Ze (Ze [])))))) rfl (db (ea ?_))
 iterate 3 refine st ?_
 refine Ha ((A _ b.a).one d0) (ja (Qb (ea ?_)))
 iterate 2 refine st ?_
 refine ja ?_
 refine Za h ?_ ?_
 intro ws h
 refine ea ?_
 iterate 4 refine st ?_
 obtain ⟨oO,xs,h⟩:=ha h
 replace b:=(((b.da bb).da bb).da bb).da bb
 refine Aa ((xv fu).tj g m6 m8 m10 m11 m17 m23 id m32 (A.eg 2 4) xs b) ?_
 rintro _ pO ⟨qO,v53,rO,sO,tO,v59,uO,rfl,d,b,ys,Os,gt⟩
 refine fa (rb (st ?_))
 obtain ⟨ii,it,h⟩:=ha h
 replace b:=(((b.da bb).da bb).da bb).da bb
 refine Aa (wh (g.t d) (m6.up d) (m8.up d) (m10.up d) (m11.up d) ys Os gt it b) ?_
 rintro _ vO ⟨wO,xO,yO,zO,AO,BO,CO,rfl,f,b,lt,mt,rt⟩
 refine fa (st (rb ?_))
 iterate 4 refine st ?_
 refine Ha ((A _ ((d.t f) _ b.a)).one d6) ?_
 obtain ⟨DO,ut,h⟩:=ha h
 replace b:=(((b.da bb).da bb).da bb).da bb
 refine Aa (le.Ij (g.t (d.t f)) (m6.up (d.t f)) (m8.up (d.t f)) (m10.up (d.t f)) (m11.up (d.t f)) lt mt rt (ci.up (d.t f)) ut b) ?_
 rintro _ EO ⟨FO,GO,HO,v80,JO,KO,LO,rfl,i,b,wt,hu,pu⟩
 refine fa (rb (st ?_))
 obtain ⟨q,bv,h⟩:=ha h
 replace b:=(((b.da bb).da bb).da bb).da bb
 refine Aa (wh (g.t (d.t (f.t i))) (m6.up (d.t (f.t i))) (m8.up (d.t (f.t i))) (m10.up (d.t (f.t i))) (m11.up (d.t (f.t i))) wt hu pu bv b) ?_
 rintro _ MO ⟨hw,Fd,li,pi,NO,Id,be,rfl,o,b,Pi,kk,ok⟩
 refine fa (st (ob ?_))
 refine Ub (rg 30 10) (by decide) (fun m w=>∃ B ce ne Ne,m=(qc (yd (Rc 30 [])))∧gv self bi us q ce=some r∧ga hw B∧ka B J w (.ba U 119 [.pointer (some ⟨nb,Lb,none⟩),.int .i64 q.2.1,.int .i64 q.2.2.1,Fd,.int .i64 q.2.2.2.2.1,.int .i64 q.2.2.2.2.2.1,ne,Id]::.row Fd 3 1 q.2.2.2.1.length li::.row ne 45 3 ce.length Ne::.row Id 75 1 q.2.2.2.2.2.2.2.length (Xb be)::(gb be++O))∧pa B Ne ce) (by rintro _ _ ⟨_,_,_,_,rfl,_⟩; rfl) ?_ ?_
 refine Td b ?_; clear b; intro OO b
 refine Pd (la 0 [0,1,2,3,4,8,9,10] rfl (la 1 [1,2,3,4,8,9,10] rfl (la 2 [2,3,4,8,9,10] rfl (la 3 [3,4,8,9,10] rfl (Fb 4 [4,8,9,10] rfl (jb Ck (aa (ib d3)) ((b.ba d0).cell d6)) (qd hd) (la 5 [5,8,9,10] rfl (la 6 [6,7,8,9,10] rfl ?_)))))))
 obtain ⟨T,kw,h⟩:=ha h
 replace b:=(((b.da bb).da bb).da bb).da bb
 refine Kb rfl rfl rfl rfl (Gb rfl) (td fy nd (sa (aa (ib d6)) hb) (wv (g.t (d.t (f.t (i.t o)))) (m6.up (d.t (f.t (i.t o)))) (m8.up (d.t (f.t (i.t o)))) (m10.up (d.t (f.t (i.t o)))) (m11.up (d.t (f.t (i.t o)))) Pi kk ok kw b) ?_)
 rintro _ PO ⟨lw,rfl,dl,b⟩
 refine fa ?_
 refine ⟨(Oa.s (jb Ck (aa (ib d3)) ((b.ba d0).cell d6)) Oa.z),?_⟩
 obtain ⟨v,ww,h⟩:=ha h
 obtain ⟨QO,RO,el,SO,nl,ex,ol,f114,rx,xx,ty,TO⟩:=Row.nq (α:=Bc) (b.get d2) (kk.up dl) rfl ww
 rw [ex] at b
 obtain rfl:=rx
 refine ze 8 [8,9,10] rfl (Mc underlying41 Wm (aa (ib d4)) (aa (ib d5)) ol) (qd Yd) (la 9 [9,10] rfl ?_)
 have sz:=ty _ [.int .i64 v.Op,.int .i64 T,.int .i64 v.N] (Bc.mk v.Op T v.N) ga.r rfl
 refine Kb rfl rfl rfl rfl (Gb rfl) (Ex (off:=1) Uc (aa (ib d9)) (aa (ib d7)) rfl rfl rfl b d2 ol (Nat.le_of_ble_eq_true rfl) (fx xx rfl (Nat.le_of_ble_eq_true rfl)) Ib Ma ?_); clear b; intro Rz b
 replace b:ka lw J Rz (.ba U 119 [.pointer (some ⟨nb,Lb,none⟩),.int .i64 q.2.1,.int .i64 q.2.2.1,Fd,.int .i64 q.2.2.2.2.1,.int .i64 q.2.2.2.2.2.1,pi,Id]::.row Fd 3 1 q.2.2.2.1.length li::.row pi 45 3 (q.2.2.2.2.2.2.1.set ii.1.toNat (Bc.mk v.Op T v.N)).length (el++([.int .i64 v.Op,.int .i64 T,.int .i64 v.N]++nl))::.row Id 75 1 q.2.2.2.2.2.2.2.length (Xb be)::(gb be++O)):=by rw [List.length_set]; exact b
 refine ⟨Oa.z,?_⟩
 refine Hd (za ?_)
 exact ⟨_,_,rfl,(Xa (xb (qb ta))),_,(q.2.2.2.2.2.2.1.set ii.1.toNat (Bc.mk v.Op T v.N)),_,(el++([.int .i64 v.Op,.int .i64 T,.int .i64 v.N]++nl)),rfl,h,dl,b,sz⟩
 rintro _ t Mf ⟨UO,ce,ne,Ne,rfl,h,u,b,AC⟩
 unfold gv at h
 refine Vb (vc (Dd (Wc pb))) (ra (ea ?_))
 iterate 4 refine st ?_
 refine Ha ((A _ ((d.t (f.t (i.t (o.t u)))) _ b.a)).one d7) ?_
 obtain ⟨l,GE,h⟩:=ha h
 replace b:=(((b.da bb).da bb).da bb).da bb
 refine Aa (le.Ij (g.t (d.t (f.t (i.t (o.t u))))) (m6.up (d.t (f.t (i.t (o.t u))))) (m8.up (d.t (f.t (i.t (o.t u))))) (m10.up (d.t (f.t (i.t (o.t u))))) (m11.up (d.t (f.t (i.t (o.t u))))) (Pi.up u) AC (ok.up u) (vs.up (d.t (f.t (i.t (o.t u))))) GE b) ?_
 rintro _ VO ⟨LE,V,of,pl,WO,v131,W,rfl,X,b,ul,wl,am⟩
 refine fa (ob ?_)
 refine Ub (rg 46 10) (by decide) (fun m w=>∃ B md rd ge,m=(qc (qc (Og (Rc 46 []))))∧fv l md=some r∧ga LE B∧ka B J w (.ba U 119 [.pointer (some ⟨nb,Lb,none⟩),.int .i64 l.1,.int .i64 l.2.1,V,.int .i64 l.2.2.2.1,.int .i64 l.2.2.2.2.1,rd,v131]::.row V 3 1 l.2.2.1.length of::.row rd 45 3 md.length ge::.row v131 75 1 l.2.2.2.2.2.2.length (Xb W)::(gb W++O))∧pa B ge md) (by rintro _ _ ⟨_,_,_,_,rfl,_⟩; rfl) ?_ ?_
 refine Td b ?_; clear b; intro XO b
 refine Pd (la 0 [0,1,2,3,4,8,9,10] rfl (la 1 [1,2,3,4,8,9,10] rfl (la 2 [2,3,4,8,9,10] rfl (la 3 [3,4,8,9,10] rfl (Fb 4 [4,8,9,10] rfl (jb Ck (aa (Bb d9)) ((b.ba d0).cell d6)) (ee Ga) (la 5 [5,8,9,10] rfl (la 6 [6,7,8,9,10] rfl ?_)))))))
 obtain ⟨Y,NE,h⟩:=ha h
 replace b:=(((b.da bb).da bb).da bb).da bb
 refine Kb rfl rfl rfl rfl (Gb rfl) (td fy nd (sa (aa (sb d2)) hb) (wv (g.t (d.t (f.t (i.t (o.t (u.t X)))))) (m6.up (d.t (f.t (i.t (o.t (u.t X)))))) (m8.up (d.t (f.t (i.t (o.t (u.t X)))))) (m10.up (d.t (f.t (i.t (o.t (u.t X)))))) (m11.up (d.t (f.t (i.t (o.t (u.t X)))))) ul wl am NE b) ?_)
 rintro _ YO ⟨WF,rfl,em,b⟩
 refine fa ?_
 refine ⟨(Oa.s (jb Ck (aa (Bb d9)) ((b.ba d0).cell d6)) Oa.z),?_⟩
 obtain ⟨x,RK,h⟩:=ha h
 obtain ⟨ZO,aP,hm,bP,lm,WL,pm,f150,XL,YL,ZL,cP⟩:=Row.nq (α:=Bc) (b.get d2) (wl.up em) rfl RK
 rw [WL] at b
 obtain rfl:=XL
 refine ze 8 [8,9,10] rfl (Mc underlying41 Wm (aa (sb d0)) (aa (sb d1)) pm) (ee hd) (la 9 [9,10] rfl ?_)
 have aM:=ZL _ [.int .i64 x.Op,.int .i64 Y,.int .i64 x.N] (Bc.mk x.Op Y x.N) ga.r rfl
 refine Kb rfl rfl rfl rfl (Gb rfl) (Ex (off:=1) Uc (aa (sb d5)) (aa (sb d3)) rfl rfl rfl b d2 pm (Nat.le_of_ble_eq_true rfl) (fx YL rfl (Nat.le_of_ble_eq_true rfl)) Ib Ma ?_); clear b; intro bM b
 replace b:ka WF J bM (.ba U 119 [.pointer (some ⟨nb,Lb,none⟩),.int .i64 l.1,.int .i64 l.2.1,V,.int .i64 l.2.2.2.1,.int .i64 l.2.2.2.2.1,pl,v131]::.row V 3 1 l.2.2.1.length of::.row pl 45 3 (l.2.2.2.2.2.1.set q.1.toNat (Bc.mk x.Op Y x.N)).length (hm++([.int .i64 x.Op,.int .i64 Y,.int .i64 x.N]++lm))::.row v131 75 1 l.2.2.2.2.2.2.length (Xb W)::(gb W++O)):=by rw [List.length_set]; exact b
 refine ⟨Oa.z,?_⟩
 refine Hd (za ?_)
 exact ⟨_,_,rfl,(Xa (Xa (ye (qb ta)))),_,(l.2.2.2.2.2.1.set q.1.toNat (Bc.mk x.Op Y x.N)),_,(hm++([.int .i64 x.Op,.int .i64 Y,.int .i64 x.N]++lm)),rfl,h,em,b,aM⟩
 rintro _ t dP ⟨cM,md,rd,ge,rfl,h,wf,b,dM⟩
 unfold fv at h
 refine Vb (vc (vc (Zg (Wc pb)))) (ra (Ra ?_))
 refine (fun h=>Ab (Fa h)) ?_
 obtain rfl:=Ea h
 refine Fs rfl ?_
 replace b:ka cM J _ (.ba U 119 [.pointer (some ⟨nb,Lb,none⟩),.int .i64 l.1,.int .i64 l.2.1,V,.int .i64 l.2.2.2.1,.int .i64 l.2.2.2.2.1,rd,v131]::.row V 3 1 l.2.2.1.length of::.row rd 45 3 md.length ge::.row v131 75 1 l.2.2.2.2.2.2.length (Xb W)::(gb W++O)):=b
 exact ⟨_,_,_,_,_,_,_,rfl,(d.t (f.t (i.t (o.t (u.t (X.t wf)))))),b,(ul.up wf),dM,(am.up wf)⟩
 intro ws h
 refine ea ?_
 iterate 2 refine st ?_
 refine ja ?_
 refine Za h ?_ ?_
 intro eM h
 refine ea (st ?_)
 obtain ⟨eP,fM,h⟩:=ha h
 replace b:=(((b.da bb).da bb).da bb).da bb
 refine Aa (wv g m6 m8 m10 m11 m17 m23 id fM b) ?_
 rintro _ fP ⟨gP,rfl,e,b⟩
 refine fa (st (rb ?_))
 iterate 4 refine st ?_
 obtain ⟨hP,gM,h⟩:=ha h
 replace b:=(((b.da bb).da bb).da bb).da bb
 refine Aa ((xv fu).tj (g.t e) (m6.up e) (m8.up e) (m10.up e) (m11.up e) (m17.up e) (m23.up e) (id.up e) (m32.up e) ((A.up e).eg 2 4) gM b) ?_
 rintro _ iP ⟨jP,kP,lP,v168,mP,v171,nP,rfl,j,b,hM,iM,jM⟩
 refine fa (rb (st ?_))
 obtain ⟨sm,kM,h⟩:=ha h
 replace b:=(((b.da bb).da bb).da bb).da bb
 refine Aa (wh (g.t (e.t j)) (m6.up (e.t j)) (m8.up (e.t j)) (m10.up (e.t j)) (m11.up (e.t j)) hM iM jM kM b) ?_
 rintro _ oP ⟨pP,qP,rP,sP,tP,v183,uP,rfl,p,b,lM,mM,nM⟩
 refine fa (st (rb ?_))
 iterate 4 refine st ?_
 refine Ha ((A _ ((e.t (j.t p)) _ b.a)).one d6) ?_
 obtain ⟨vP,oM,h⟩:=ha h
 replace b:=(((b.da bb).da bb).da bb).da bb
 refine Aa (le.Ij (g.t (e.t (j.t p))) (m6.up (e.t (j.t p))) (m8.up (e.t (j.t p))) (m10.up (e.t (j.t p))) (m11.up (e.t (j.t p))) lM mM nM (ci.up (e.t (j.t p))) oM b) ?_
 rintro _ wP ⟨xP,yP,zP,AP,BP,CP,DP,rfl,C,b,pM,qM,rM⟩
 refine fa (rb ?_)
 iterate 2 refine st ?_
 obtain ⟨n,sM,h⟩:=ha h
 replace b:=(((b.da bb).da bb).da bb).da bb
 refine Aa (wh (g.t (e.t (j.t (p.t C)))) (m6.up (e.t (j.t (p.t C)))) (m8.up (e.t (j.t (p.t C)))) (m10.up (e.t (j.t (p.t C)))) (m11.up (e.t (j.t (p.t C)))) pM qM rM sM b) ?_
 rintro _ EP ⟨tM,v201,If,Nm,FP,Z,gc,rfl,lc,b,fn,on,un⟩
 refine fa (ob ?_)
 refine Ub (rg 76 10) (by decide) (fun m w=>∃ B wd v210 he,m=(Sd (qc (Og (Rc 76 []))))∧hv n wd=some r∧ga tM B∧ka B J w (.ba U 119 [.pointer (some ⟨nb,Lb,none⟩),.int .i64 n.2.1,.int .i64 n.2.2.1,v201,.int .i64 n.2.2.2.2.1,.int .i64 n.2.2.2.2.2.1,v210,Z]::.row v201 3 1 n.2.2.2.1.length If::.row v210 45 3 wd.length he::.row Z 75 1 n.2.2.2.2.2.2.2.length (Xb gc)::(gb gc++O))∧pa B he wd) (by rintro _ _ ⟨_,_,_,_,rfl,_⟩; rfl) ?_ ?_
 refine Td b ?_; clear b; intro GP b
 refine Pd (la 0 [0,1,2,3,4,8,9,10] rfl (la 1 [1,2,3,4,8,9,10] rfl (la 2 [2,3,4,8,9,10] rfl (la 3 [3,4,8,9,10] rfl (Fb 4 [4,8,9,10] rfl (jb Ck (aa (Oc d9)) ((b.ba d0).cell d6)) (qg Ga) (la 5 [5,8,9,10] rfl (la 6 [6,7,8,9,10] rfl ?_)))))))
 obtain ⟨rc,uM,h⟩:=ha h
 replace b:=(((b.da bb).da bb).da bb).da bb
 refine Kb rfl rfl rfl rfl (Gb rfl) (td fy nd (sa (aa (Nc d2)) hb) (wv (g.t (e.t (j.t (p.t (C.t lc))))) (m6.up (e.t (j.t (p.t (C.t lc))))) (m8.up (e.t (j.t (p.t (C.t lc))))) (m10.up (e.t (j.t (p.t (C.t lc))))) (m11.up (e.t (j.t (p.t (C.t lc))))) fn on un uM b) ?_)
 rintro _ HP ⟨vM,rfl,wn,b⟩
 refine fa ?_
 refine ⟨(Oa.s (jb Ck (aa (Oc d9)) ((b.ba d0).cell d6)) Oa.z),?_⟩
 obtain ⟨y,wM,h⟩:=ha h
 obtain ⟨IP,JP,Fn,KP,In,xM,co,f226,yM,zM,AM,LP⟩:=Row.nq (α:=Bc) (b.get d2) (on.up wn) rfl wM
 rw [xM] at b
 obtain rfl:=yM
 refine ze 8 [8,9,10] rfl (Mc underlying41 Wm (aa (Nc d0)) (aa (Nc d1)) co) (qg hd) (la 9 [9,10] rfl ?_)
 have BM:=AM _ [.int .i64 y.Op,.int .i64 rc,.int .i64 y.N] (Bc.mk y.Op rc y.N) ga.r rfl
 refine Kb rfl rfl rfl rfl (Gb rfl) (Ex (off:=1) Uc (aa (Nc d5)) (aa (Nc d3)) rfl rfl rfl b d2 co (Nat.le_of_ble_eq_true rfl) (fx zM rfl (Nat.le_of_ble_eq_true rfl)) Ib Ma ?_); clear b; intro CM b
 replace b:ka vM J CM (.ba U 119 [.pointer (some ⟨nb,Lb,none⟩),.int .i64 n.2.1,.int .i64 n.2.2.1,v201,.int .i64 n.2.2.2.2.1,.int .i64 n.2.2.2.2.2.1,Nm,Z]::.row v201 3 1 n.2.2.2.1.length If::.row Nm 45 3 (n.2.2.2.2.2.2.1.set sm.1.toNat (Bc.mk y.Op rc y.N)).length (Fn++([.int .i64 y.Op,.int .i64 rc,.int .i64 y.N]++In))::.row Z 75 1 n.2.2.2.2.2.2.2.length (Xb gc)::(gb gc++O)):=by rw [List.length_set]; exact b
 refine ⟨Oa.z,?_⟩
 refine Hd (za ?_)
 exact ⟨_,_,rfl,(Yb (Xa (ye (qb ta)))),_,(n.2.2.2.2.2.2.1.set sm.1.toNat (Bc.mk y.Op rc y.N)),_,(Fn++([.int .i64 y.Op,.int .i64 rc,.int .i64 y.N]++In)),rfl,h,wn,b,BM⟩
 rintro _ t MP ⟨DM,wd,v210,he,rfl,h,dg,b,EM⟩
 unfold hv at h
 refine Vb (Ud (vc (Zg (Wc pb)))) (ra (Ra ?_))
 refine (fun h=>Ab (Fa h)) ?_
 obtain rfl:=Ea h
 refine Fs rfl ?_
 replace b:ka DM J _ (.ba U 119 [.pointer (some ⟨nb,Lb,none⟩),.int .i64 n.2.1,.int .i64 n.2.2.1,v201,.int .i64 n.2.2.2.2.1,.int .i64 n.2.2.2.2.2.1,v210,Z]::.row v201 3 1 n.2.2.2.1.length If::.row v210 45 3 wd.length he::.row Z 75 1 n.2.2.2.2.2.2.2.length (Xb gc)::(gb gc++O)):=b
 exact ⟨_,_,_,_,_,_,_,rfl,(e.t (j.t (p.t (C.t (lc.t dg))))),b,(fn.up dg),EM,(un.up dg)⟩
 intro eM h
 refine ea ?_
 iterate 2 refine st ?_
 refine ja ?_
 refine Za h ?_ ?_
 intro FM h
 refine ea (st ?_)
 obtain ⟨H,GM,h⟩:=ha h
 replace b:=(((b.da bb).da bb).da bb).da bb
 refine Aa (wh g m6 m8 m10 m11 m17 m23 id GM b) ?_
 rintro _ NP ⟨HM,go,IM,io,JM,no,ro,rfl,KM,b,LM,MM,NM⟩
 refine fa (ja (Ra ?_))
 refine (fun h=>Ab (Fa h)) ?_
 obtain rfl:=Ea h
 refine Fs rfl ?_
 replace b:ka HM J _ (.ba U 119 [.pointer (some ⟨nb,Lb,none⟩),.int .i64 H.2.1,.int .i64 H.2.2.1,go,.int .i64 H.2.2.2.2.1,.int .i64 H.2.2.2.2.2.1,io,no]::.row go 3 1 H.2.2.2.1.length IM::.row io 45 3 H.2.2.2.2.2.2.1.length JM::.row no 75 1 H.2.2.2.2.2.2.2.length (Xb ro)::(gb ro++O)):=b
 exact ⟨_,_,_,_,_,_,_,rfl,KM,b,LM,MM,NM⟩
 intro FM h
 refine Va ?_
 refine (fun h=>Pb (ra h)) ?_
 refine ea ?_
 iterate 4 refine st ?_
 obtain ⟨K,OM,h⟩:=ha h
 replace b:=(((b.da bb).da bb).da bb).da bb
 refine Aa ((xv fu).tj g m6 m8 m10 m11 m17 m23 id m32 (A.eg 2 4) OM b) ?_
 rintro _ OP ⟨PM,to,QM,Do,RM,Go,ap,rfl,c,b,E,F,G⟩
 refine fa (st (rb ?_))
 iterate 3 refine st ?_
 refine Ha ((A _ (c _ b.a)).one d0) (ja (Qb (ea ?_)))
 iterate 2 refine st ?_
 refine ja ?_
 refine Za h ?_ ?_
 intro SM h
 refine eb ?_
 iterate 5 refine st ?_
 refine Ha ((A _ (c _ b.a)).one d1) (st ?_)
 obtain ⟨PP,TM,h⟩:=ha h
 replace b:=(((b.da bb).da bb).da bb).da bb
 refine Aa (zz (g.t c) (m6.up c) (m8.up c) (m10.up c) (m11.up c) E F G TM b) ?_
 rintro _ QP ⟨RP,SP,TP,UP,VP,WP,XP,rfl,fd,b,UM,VM,WM⟩
 refine fa ?_
 obtain ⟨L,XM,h⟩:=ha h
 replace b:=(((b.da bb).da bb).da bb).da bb
 refine Aa (wh (g.t (c.t fd)) (m6.up (c.t fd)) (m8.up (c.t fd)) (m10.up (c.t fd)) (m11.up (c.t fd)) UM VM WM XM b) ?_
 rintro _ YP ⟨YM,ip,ZM,jp,aN,mp,op,rfl,bN,b,cN,dN,eN⟩
 refine fa (La (Pb ?_))
 obtain rfl:=Ea h
 refine Li rfl ?_
 replace b:ka YM J _ (.ba U 119 [.pointer (some ⟨nb,Lb,none⟩),.int .i64 L.2.1,.int .i64 L.2.2.1,ip,.int .i64 L.2.2.2.2.1,.int .i64 L.2.2.2.2.2.1,jp,mp]::.row ip 3 1 L.2.2.2.1.length ZM::.row jp 45 3 L.2.2.2.2.2.2.1.length aN::.row mp 75 1 L.2.2.2.2.2.2.2.length (Xb op)::(gb op++O)):=b
 exact ⟨_,_,_,_,_,_,_,rfl,(c.t (fd.t bN)),b,cN,dN,eN⟩
 intro SM h
 refine ea ?_
 iterate 2 refine st ?_
 refine ja ?_
 refine Za h ?_ ?_
 intro fN h
 refine eb ?_
 iterate 5 refine st ?_
 refine Ha ((A _ (c _ b.a)).one d1) ?_
 obtain ⟨ZP,gN,h⟩:=ha h
 replace b:=(((b.da bb).da bb).da bb).da bb
 refine Aa (Yz (g.t c) (m6.up c) (m8.up c) (m10.up c) (m11.up c) E F G gN b) ?_
 rintro _ aQ ⟨bQ,rfl,D,b⟩
 refine fa ?_
 obtain ⟨M,hN,h⟩:=ha h
 replace b:=(((b.da bb).da bb).da bb).da bb
 refine Aa (wh (g.t (c.t D)) (m6.up (c.t D)) (m8.up (c.t D)) (m10.up (c.t D)) (m11.up (c.t D)) (E.up D) (F.up D) (G.up D) hN b) ?_
 rintro _ cQ ⟨iN,pp,jN,sp,kN,wp,eq,rfl,lN,b,mN,nN,oN⟩
 refine fa (La (Pb ?_))
 obtain rfl:=Ea h
 refine Li rfl ?_
 replace b:ka iN J _ (.ba U 119 [.pointer (some ⟨nb,Lb,none⟩),.int .i64 M.2.1,.int .i64 M.2.2.1,pp,.int .i64 M.2.2.2.2.1,.int .i64 M.2.2.2.2.2.1,sp,wp]::.row pp 3 1 M.2.2.2.1.length jN::.row sp 45 3 M.2.2.2.2.2.2.1.length kN::.row wp 75 1 M.2.2.2.2.2.2.2.length (Xb eq)::(gb eq++O)):=b
 exact ⟨_,_,_,_,_,_,_,rfl,(c.t (D.t lN)),b,mN,nN,oN⟩
 intro fN h
 refine ea ?_
 iterate 2 refine st ?_
 refine ja ?_
 refine Za h ?_ ?_
 intro pN h
 refine eb (st ?_)
 obtain ⟨P,qN,h⟩:=ha h
 replace b:=(((b.da bb).da bb).da bb).da bb
 refine Aa (wh (g.t c) (m6.up c) (m8.up c) (m10.up c) (m11.up c) E F G qN b) ?_
 rintro _ dQ ⟨rN,Eq,sN,fr,tN,or,qr,rfl,uN,b,vN,wN,xN⟩
 refine fa (La (Pb ?_))
 obtain rfl:=Ea h
 refine Li rfl ?_
 replace b:ka rN J _ (.ba U 119 [.pointer (some ⟨nb,Lb,none⟩),.int .i64 P.2.1,.int .i64 P.2.2.1,Eq,.int .i64 P.2.2.2.2.1,.int .i64 P.2.2.2.2.2.1,fr,or]::.row Eq 3 1 P.2.2.2.1.length sN::.row fr 45 3 P.2.2.2.2.2.2.1.length tN::.row or 75 1 P.2.2.2.2.2.2.2.length (Xb qr)::(gb qr++O)):=b
 exact ⟨_,_,_,_,_,_,_,rfl,(c.t uN),b,vN,wN,xN⟩
 intro pN h
 refine ea ?_
 iterate 2 refine st ?_
 refine ja ?_
 refine Za h ?_ ?_
 intro yN h
 refine Td b ?_; clear b; intro eQ b
 refine Pd (la 0 [0,13] rfl (la 1 [1,2,3,4,5,6,7,12,13] rfl (la 2 [2,3,4,5,6,7,12,13] rfl (la 3 [3,4,5,6,7,12,13] rfl (Fb 4 [4,5,6,7,12,13] rfl (jb Dk (aa (Pa (Sa d9))) ((b.ba d0).cell d0)) (dc (qd Ga)) (la 5 [5,6,7,12,13] rfl (la 6 [6,7,12,13] rfl (Fb 7 [7,12,13] rfl (jb Yh (aa (Pa (ib d2))) ((m11 _ (c _ b.a)).one d0)) (dc (qd ec)) (la 8 [8,9,10,11,12,13] rfl (la 9 [9,10,11,12,13] rfl (la 10 [10,11,12,13] rfl (Fb 11 [11,12,13] rfl (jb Hb (aa (Pa (ib d6))) ((A _ (c _ b.a)).one d1)) (dc (qd sd)) ?_))))))))))))
 obtain ⟨fQ,gQ,zN,AN⟩:=(m6.up c)
 refine Kb rfl rfl rfl rfl (Gb rfl) (gk (κ:=List UInt8) (k:=bi.Name) (β:=Int) (zx:=0) underlying75 underlying9 (aa (Pa (ib d3))) (aa (Pa (ib d7))) Zm rfl (zN _ b.a) AN ?_); rintro _ rfl; refine fa ?_
 refine ⟨Oa.z,?_⟩
 obtain ⟨Q,BN,h⟩:=ha h
 replace b:=(((b.da bb).da bb).da bb).da bb
 refine Kb rfl rfl rfl rfl (Gb rfl) (td mw nd (sa (aa (Pa (Sa d6))) (sa Ba (sa (aa (Pa (ib d8))) (sa Ba hb)))) (wh (g.t c) (m6.up c) (m8.up c) (m10.up c) (m11.up c) E F G BN b) ?_)
 rintro _ hQ ⟨CN,wr,DN,Fr,EN,Or,cs,rfl,FN,b,GN,HN,IN⟩
 refine fa ?_
 refine ⟨Oa.z,?_⟩
 refine Hd (Pb ?_)
 obtain rfl:=Ea h
 refine Li rfl ?_
 replace b:ka CN J _ (.ba U 119 [.pointer (some ⟨nb,Lb,none⟩),.int .i64 Q.2.1,.int .i64 Q.2.2.1,wr,.int .i64 Q.2.2.2.2.1,.int .i64 Q.2.2.2.2.2.1,Fr,Or]::.row wr 3 1 Q.2.2.2.1.length DN::.row Fr 45 3 Q.2.2.2.2.2.2.1.length EN::.row Or 75 1 Q.2.2.2.2.2.2.2.length (Xb cs)::(gb cs++O)):=b
 exact ⟨_,_,_,_,_,_,_,rfl,(c.t FN),b,GN,HN,IN⟩
 intro yN h
 refine ea ?_
 iterate 2 refine st ?_
 refine ja ?_
 refine Za h ?_ ?_
 intro JN h
 refine eb (st ?_)
 obtain ⟨R,KN,h⟩:=ha h
 replace b:=(((b.da bb).da bb).da bb).da bb
 refine Aa (wh (g.t c) (m6.up c) (m8.up c) (m10.up c) (m11.up c) E F G KN b) ?_
 rintro _ iQ ⟨LN,ds,MN,es,NN,gs,is,rfl,ON,b,PN,QN,RN⟩
 refine fa (La (Pb ?_))
 obtain rfl:=Ea h
 refine Li rfl ?_
 replace b:ka LN J _ (.ba U 119 [.pointer (some ⟨nb,Lb,none⟩),.int .i64 R.2.1,.int .i64 R.2.2.1,ds,.int .i64 R.2.2.2.2.1,.int .i64 R.2.2.2.2.2.1,es,gs]::.row ds 3 1 R.2.2.2.1.length MN::.row es 45 3 R.2.2.2.2.2.2.1.length NN::.row gs 75 1 R.2.2.2.2.2.2.2.length (Xb is)::(gb is++O)):=b
 exact ⟨_,_,_,_,_,_,_,rfl,(c.t ON),b,PN,QN,RN⟩
 intro JN h
 refine ea ?_
 iterate 2 refine st ?_
 refine ja ?_
 refine Za h ?_ ?_
 intro SN h
 refine eb (st ?_)
 obtain ⟨S,TN,h⟩:=ha h
 replace b:=(((b.da bb).da bb).da bb).da bb
 refine Aa (wh (g.t c) (m6.up c) (m8.up c) (m10.up c) (m11.up c) E F G TN b) ?_
 rintro _ jQ ⟨UN,ls,VN,ms,WN,os,rs,rfl,XN,b,YN,ZN,aO⟩
 refine fa (La (Pb ?_))
 obtain rfl:=Ea h
 refine Li rfl ?_
 replace b:ka UN J _ (.ba U 119 [.pointer (some ⟨nb,Lb,none⟩),.int .i64 S.2.1,.int .i64 S.2.2.1,ls,.int .i64 S.2.2.2.2.1,.int .i64 S.2.2.2.2.2.1,ms,os]::.row ls 3 1 S.2.2.2.1.length VN::.row ms 45 3 S.2.2.2.2.2.2.1.length WN::.row os 75 1 S.2.2.2.2.2.2.2.length (Xb rs)::(gb rs++O)):=b
 exact ⟨_,_,_,_,_,_,_,rfl,(c.t XN),b,YN,ZN,aO⟩
 intro SN h
 refine Va (Pb ?_)
 obtain rfl:=Ea h
 refine Li rfl ?_
 replace b:ka PM J _ (.ba U 119 [.pointer (some ⟨nb,Lb,none⟩),.int .i64 K.2.1,.int .i64 K.2.2.1,to,.int .i64 K.2.2.2.2.1,.int .i64 K.2.2.2.2.2.1,Do,Go]::.row to 3 1 K.2.2.2.1.length QM::.row Do 45 3 K.2.2.2.2.2.2.1.length RM::.row Go 75 1 K.2.2.2.2.2.2.2.length (Xb ap)::(gb ap++O)):=b
 exact ⟨_,_,_,_,_,_,_,rfl,c,b,E,F,G⟩
theorem nx:∀ n,ux (Ao n)
  | 0=>⟨(by intro; intros; rename_i h _; cases h),(by intro; intros; rename_i h _; cases h)⟩
  | n+1=>⟨nE (nx n),oE (nx n)⟩
theorem pE (y:ga Fc I) {p_1:Pf} {g:va} {r:Hh} (m4:rf I nb p_1.boxes) (m6:rf I ef p_1.lj) (m8:rf I Le p_1.defs) (m9:dd I U Qf [.map (some nb),.map (some ef),.map (some Le)]) (m14:Ka I a12 Ly g.Params) (m17:Ka I Wd Ps g.Body) (m18:dd I Ri BC [.int .i64 g.Kind,S g.Name,.int .i64 g.zb.Kind,S g.zb.Nb,.int .i64 g.Hc.Kind,S g.Hc.Nb,.int .i64 g.oe,.slice a12 g.Params.length Ly,.slice Wd g.Body.length Ps]) (h:Et fu p_1 g=some r) (b:ka I J w (O)):Sb prog 21 [.pointer (some ⟨U,Qf,none⟩),.pointer (some ⟨Ri,BC,none⟩)] w (fun v w'=>∃ (na:M) (mk:Option Addr) (c20:Nat) (ok:Option Addr) (dl:Nat),v=.agg ⟨[.int .i64 r.Kind,.int .i64 r.Params,.slice mk r.ij.length c20,.int .i64 r.Result,.int .i64 r.Hc,.slice ok r.Code.length dl]⟩∧ga I na∧ka na J w' (O)∧Ka na mk c20 r.ij∧Ka na ok dl r.Code):=by
 unfold Et at h
 refine enter func21 rfl (frm:=_::_::Cf (Ge (Ze (Ze [])))) rfl (ea ?_)
 refine wl (bd xg b ?_); clear b; intro B xx zx b; refine fa ?_
 refine rb ?_
 iterate 4 refine st ?_
 refine Ha ((m18 _ b.a).one d0) (wl (Nd xg JI (ab.o rfl (aa (wa d2)) rfl rfl Ga ab.z) (ma (Jb ec)) ?_))
 refine wl (hj b ?_); clear b; intro Ne ty Rz b; refine fa ?_
 refine wl (xd underlying117 Yh (fb.s (aa (wa d4)) rfl fb.z) rfl rfl b ?_); clear b; intro H AC GE b; refine fa ?_
 refine wl (Nd UH ZH (ab.o rfl (aa d8) rfl rfl Ga (ab.n rfl (aa (wa d3)) rfl rfl (kd.s kb (of_decide_eq_true rfl) (kd.s Ib (of_decide_eq_true rfl) (kd.s ec (of_decide_eq_true rfl) (kd.s hd (of_decide_eq_true rfl) (kd.s cd (of_decide_eq_true rfl) (kd.s ad (of_decide_eq_true rfl) kd.z)))))) (ab.o rfl (aa (wa d5)) rfl rfl sd ab.z))) (ma (Jb ad)) ?_)
 refine wl (Ji (aa (wa d6)) rfl b ?_); clear b; intro C LE NE b; refine fa ?_
 replace b:=b.ew (n:=1) (sz:=1) d1 rfl (by decide) kb
 replace b:=((b.da bb).da Eb).da Eb
 obtain ⟨rc,el⟩:∃ x,x=([(Ne,[],0)]:List (Nat×List MapEntry×Nat)):=⟨_,rfl⟩
 change ka I J _ (.ba C 119 [.pointer (some ⟨U,Qf,none⟩),.int .i64 g.Kind,.int .i64 0,.slice none 0 0,.int .i64 0,.int .i64 0,.slice none 0 0,.slice (some ⟨H,0,none⟩) 1 1]::.row (.slice (some ⟨H,0,none⟩) 1 1) 75 1 [([]:List (List UInt8×Int))].length (Xb [(Ne,[],0)])::.ba B 43 [.int .i64 0,.int .i64 0,.slice none 0 0,.int .i64 0,.int .i64 0,.slice none 0 0]::(gb [(Ne,[],0)]++O)) at b; rw [← el] at b
 have nl:Bd I rc [([]:List (List UInt8×Int))]:=by rw [el]; exact ⟨_,_,rfl,(je.nil (κ:=List UInt8) (β:=Int) (μ:=I) (c:=0)),rfl⟩
 refine st (ob (ea ?_))
 iterate 3 refine st ?_
 refine Ha ((m18 _ b.a).one d0) (st (ja ?_))
 refine Ub ([7]++rg 23 37) (by decide +kernel) (fun m w=>∃ f K Q D i40 i41 i42 i43 L T fd N V id,m=(rh (Sc 7 (yd (ng (Uf 23 (Rc 43 (Nj 53 [])))))))∧lr fu p_1 g K i40 i41 i42 i43 L N=some r∧ga I f∧ka f J w (.ba B 43 [.int .i64 0,.int .i64 0,.slice none 0 0,.int .i64 0,.int .i64 0,.slice none 0 0]::.row Q 75 1 K.length (Xb D)::.ba C 119 [.pointer (some ⟨U,Qf,none⟩),.int .i64 i40,.int .i64 i41,T,.int .i64 i42,.int .i64 i43,V,Q]::.row T 3 1 L.length fd::.row V 45 3 N.length id::(gb D++O))∧Bd f D K∧pa f fd L∧pa f id N) (by rintro _ _ ⟨_,_,_,_,_,_,_,_,_,_,_,_,_,_,rfl,_⟩; rfl) ?_ ?_
 refine Za h ?_ ?_
 intro sm h
 refine db ?_
 refine Ub (rg 23 19) (by decide) (fun m w=>∃ f i53,m=(qc (kg (Rc 23 (Rl 33 []))))∧jv fu p_1 g i53=some r∧ga I f∧ka f J w (.ba B 43 [.int .i64 0,.int .i64 0,.slice none 0 0,.int .i64 0,.int .i64 0,.slice none 0 0]::.row (.slice (some ⟨H,0,none⟩) 1 1) 75 1 [([]:List (List UInt8×Int))].length (Xb rc)::.ba C 119 [.pointer (some ⟨U,Qf,none⟩),.int .i64 g.Kind,.int .i64 (g.Params.length:Int),.slice none 0 0,.int .i64 i53,.int .i64 0,.slice none 0 0,(.slice (some ⟨H,0,none⟩) 1 1)]::(gb rc++O))) (by rintro _ _ ⟨_,_,rfl,_⟩; rfl) ?_ ?_
 refine Td b ?_; clear b; intro WF b
 refine Pd (la 0 [0,13,14,15,16,17,18,19,20] rfl (la 1 [1,17,18,19,20] rfl (la 2 [2,3,4,5,6,13,14,15,16,17,18,19,20] rfl (la 3 [3,4,5,6,13,14,15,16,17,18,19,20] rfl (la 4 [4,5,6,13,14,15,16,17,18,19,20] rfl (Fb 5 [5,6,13,14,15,16,17,18,19,20] rfl (jb Fp (aa (Sa d7)) ((m18 _ b.a).one d7)) (oc Yd) (ze 6 [6,13,14,15,16,17,18,19,20] rfl (Qd underlying58 (aa (Sa d8))) (oc Ed) (la 7 [7,12,13,14,15,16,17,18,19,20] rfl (la 8 [8,9,10,11,12,13,14,15,16,17,18,19,20] rfl (la 9 [9,10,11,12,13,14,15,16,17,18,19,20] rfl (la 10 [10,11,12,13,14,15,16,17,18,19,20] rfl (Fb 11 [11,12,13,14,15,16,17,18,19,20] rfl (Re Mb (aa (ib d3)) ((m18 _ b.a).eg 2 2) rfl) (qd hd) ?_))))))))))))
 obtain ⟨RK,Nm,h⟩:=ha h
 refine Kb rfl rfl rfl rfl (Gb rfl) (td ss nd (sa (aa (ib d0)) (sa (aa (ib d4)) hb)) (Ur y m4 m6 m8 m9 Nm b) ?_)
 rintro _ WL ⟨XL,rfl,ol,b⟩
 refine fa ?_
 refine ⟨(Oa.s (jb Fp (aa (Sa d7)) ((m18 _ (ol _ b.a)).one d7)) Oa.z),?_⟩
 refine la 13 [13,14,15,16,17,18,19,20] rfl (la 14 [14,15,16,17,18,19,20] rfl (la 15 [15,16,17,18,19,20] rfl (Kb rfl rfl rfl rfl (Gb rfl) (Je Uc (aa (ib d8)) (aa (Sa d9)) rfl b d0 Ib rfl Ga Ma ?_))))
 clear b; intro YL b
 refine ⟨Oa.z,?_⟩
 refine la 17 [17,18,19,20] rfl (la 18 [18,19,20] rfl (la 19 [19,20] rfl (Kb rfl rfl rfl rfl (Gb rfl) (Je Uc (aa (Bb d1)) (aa (ib d5)) rfl b d0 hd rfl Ga Ma ?_))))
 clear b; intro Mf b
 refine ⟨Oa.z,?_⟩
 refine Hd (za ?_)
 replace b:=(b.da Da).da Eb
 exact ⟨_,_,rfl,(Xa (Md (qb (Uh ta)))),_,_,rfl,h,ol,b⟩
 rintro _ t ZL ⟨fn,i53,rfl,h,l,b⟩
 unfold jv at h
 refine Vb (vc (sg (Wc (Ym pb)))) (ra (ea ?_))
 iterate 3 refine st ?_
 refine Ha ((m18 _ (l _ b.a)).one d7) (wl (Ja (Qd underlying58 (aa (Bb d5))) (ma (Xd ad)) (st (ja (Qb ?_)))))
 replace b:=b.Qh 3 (cb.sz Int)
 replace b:=b.Qh 45 (cb.sz Bc)
 replace b:=(((b.da Da).da ff).da ff).da ff
 refine Se ([7]++rg 48 12) (by decide) (fun n m w=>∃ f i87 md of W i92 i93 i94 i95 rd wf If wd dg bi,m=(rh (Sc 7 (qc (yd (mi (.i (.int .i64 i87)::(Rc 48 (xf 58 []))))))))∧Sp fu p_1 g n i87 md i92 i93 i94 i95 rd wd=some r∧ga fn f∧ka f J w (.ba B 43 [.int .i64 0,.int .i64 0,.slice none 0 0,.int .i64 0,.int .i64 0,.slice none 0 0]::.row of 75 1 md.length (Xb W)::.ba C 119 [.pointer (some ⟨U,Qf,none⟩),.int .i64 i92,.int .i64 i93,wf,.int .i64 i94,.int .i64 i95,dg,of]::.row wf 3 1 rd.length If::.row dg 45 3 wd.length bi::(gb W++O))∧Bd f W md∧pa f If rd∧pa f bi wd) (by rintro _ _ _ ⟨_,_,_,_,_,_,_,_,_,_,_,_,_,_,_,rfl,_⟩; rfl) _ _ (cf (lb (Xa (xb (yf (Na (qb (Zc ta)))))))) ⟨_,0,[([]:List (List UInt8×Int))],(.slice (some ⟨H,0,none⟩) 1 1),rc,g.Kind,(g.Params.length:Int),i53,0,[],(.slice none 0 0),[],[],(.slice none 0 0),[],rfl,h,ga.r,b,(nl.up l),pa.nil,pa.nil⟩ ?_
 rintro Fd _ t aM ⟨on,i87,md,of,W,i92,i93,i94,i95,rd,wf,If,wd,dg,bi,rfl,h,q,b,pl,ul,am⟩
 rcases Fd with _|Fd
 cases h
 unfold Sp at h
 refine Te (Jh (Xc (vc (Dd (Qi (kc (Wc (Kf pb)))))))) (ea (st (ob ?_)))
 refine Za h ?_ ?_
 intro un h
 refine Va (ra (db (Qb (ea ?_))))
 obtain ⟨bM,wn,h⟩:=ha h
 obtain ⟨cM,dM,eM,Fn,f142,In⟩:=Pc.elem (m14.up (l.t q)) wn
 obtain rfl:=In
 refine wl (Ja (Mc underlying58 yh (aa (Bb d5)) (aa (Bb d7)) Fn) (ma (Xd Ed)) (Ae (f142 _ b.a) rfl ?_))
 refine wl (bd yh b ?_); clear b; intro fM gM hM b; refine fa ?_
 refine wl (yb yh (aa d7) (aa (sb d0)) rfl rfl b d0 rfl Ga Ma ?_)
 clear b; intro iM b
 refine ja ?_
 refine Ub (rg 51 8) (by decide) (fun m w=>∃ f X v146 Y i150 i151 i152 i153 Z v154 Id gc be ce,m=(Sd (kh (ei 51 [])))∧iv i87 (Sp fu p_1 g Fd) X i150 i151 i152 i153 Z gc=some r∧ga on f∧ka f J w (.ba B 43 [.int .i64 0,.int .i64 0,.slice none 0 0,.int .i64 0,.int .i64 0,.slice none 0 0]::.row v146 75 1 X.length (Xb Y)::.ba C 119 [.pointer (some ⟨U,Qf,none⟩),.int .i64 i150,.int .i64 i151,v154,.int .i64 i152,.int .i64 i153,be,v146]::.row v154 3 1 Z.length Id::.row be 45 3 gc.length ce::(gb Y++O))∧Bd f Y X∧pa f Id Z∧pa f ce gc) (by rintro _ _ ⟨_,_,_,_,_,_,_,_,_,_,_,_,_,_,rfl,_⟩; rfl) ?_ ?_
 refine Td b ?_; clear b; intro jM b
 refine Pd (la 0 [0,7] rfl (la 1 [1,2,7] rfl (Fb 2 [2,7] rfl (jb Hb (aa (sb d2)) ((b.ba d0).cell d0)) (ee ec) (la 3 [3,6,7] rfl (la 4 [4,5,6,7] rfl (Fb 5 [5,6,7] rfl (Re Mb (aa (sb d5)) ((b.ba d0).Xk (ve.s d1 (ve.s d2 ve.z))) rfl) (ee ad) ?_))))))
 obtain ⟨kM,co,h⟩:=ha h
 refine Kb rfl rfl rfl rfl (Gb rfl) (td ss nd (sa (aa (sb d4)) (sa (aa (sb d6)) hb)) (Ur (y.t (l.t q)) (m4.up (l.t q)) (m6.up (l.t q)) (m8.up (l.t q)) (m9.up (l.t q)) co b) ?_)
 rintro _ lM ⟨mM,rfl,A,b⟩
 refine fa ?_
 refine ⟨(Oa.s (jb Hb (aa (sb d2)) ((b.ba d0).cell d0)) Oa.z),?_⟩
 obtain ⟨E,go,h⟩:=ha h
 replace b:=(((b.da Eb).da Bi).da Bi).da Bi
 replace b:=Sep.Ld (a:=[_,_,_,_]) (p:=[_,_]) (M:=gb W) (R:=O) b
 refine Kb rfl rfl rfl rfl (Gb rfl) (td NG nd (sa (aa (sb d1)) (sa (aa (sb d3)) (sa (aa (sb d7)) hb))) (zz (y.t (l.t (q.t A))) (m4.up (l.t (q.t A))) (m6.up (l.t (q.t A))) (m8.up (l.t (q.t A))) (m9.up (l.t (q.t A))) (ul.up A) (am.up A) (pl.up A) go b) ?_)
 rintro _ nM ⟨oM,v168,pM,v171,qM,rM,io,rfl,no,b,ro,to,Do⟩
 replace b:=Sep.Ld (a:=[_,_,_,_]) (p:=gb io) (M:=[_,_]) (R:=O) b
 refine fa ?_
 refine ⟨Oa.z,?_⟩
 refine Hd (za ?_)
 replace b:=(((((b.drop (ia.s (ia.s (ia.s (ia.s ia.z))))).da Eb).da Eb).da Eb).da bb).da ff
 exact ⟨_,_,rfl,(Yb (Ee (ag ta))),_,E.2.2.2.2.2.2.2,_,_,E.2.1,E.2.2.1,E.2.2.2.2.1,E.2.2.2.2.2.1,E.2.2.2.1,_,_,E.2.2.2.2.2.2.1,_,_,rfl,h,(A.t no),b,Do,ro,to⟩
 rintro _ t sM ⟨tM,X,v146,Y,i150,i151,i152,i153,Z,v154,Id,gc,be,ce,rfl,h,Go,b,ap,ip,jp⟩
 unfold iv at h
 refine Vb (Ud (zh (xi pb))) ?_
 refine (fun h=>Pb (ra h)) ?_
 refine eb ?_
 obtain ⟨i181,mp,h⟩:=ha h
 refine wl (Ja (Gd (aa (Bb d7)) Ba mp) (ma (ee Ed)) (st (La (za ?_))))
 exact ⟨Fd,_,_,rfl,(cf (lb (Xa (xb (yf (Na (qb (Zc ta)))))))),⟨_,i181,X,v146,Y,i150,i151,i152,i153,Z,v154,Id,gc,be,ce,rfl,h,(q.t Go),b,ap,ip,jp⟩,Nat.lt_succ_self _⟩
 intro un h
 refine ke ?_
 refine (fun h=>jc (jc (pe h))) ?_
 refine za ?_
 exact ⟨_,_,rfl,(cf (lb (xb (ie (zc (qb (Cg ta))))))),_,_,_,_,_,_,_,_,_,_,_,_,_,_,rfl,h,(l.t q),b,pl,ul,am⟩
 intro sm h
 refine Va (za ?_)
 replace b:=b.Qh 3 (cb.sz Int)
 replace b:=b.Qh 45 (cb.sz Bc)
 replace b:=(((b.da Da).da Eb).da bb).da ff
 exact ⟨_,_,rfl,(cf (lb (xb (ie (zc (qb (Cg ta))))))),_,[([]:List (List UInt8×Int))],(.slice (some ⟨H,0,none⟩) 1 1),_,g.Kind,0,0,0,[],(.slice none 0 0),[],[],(.slice none 0 0),[],rfl,h,ga.r,b,nl,pa.nil,pa.nil⟩
 rintro _ t uM ⟨op,K,Q,D,i40,i41,i42,i43,L,T,fd,N,V,id,rfl,h,d,b,pp,sp,wp⟩
 unfold lr at h
 refine Vb (Jh (Xc (Dd (Ag (fg (Wc (Ik pb))))))) (ra (db (ea ?_)))
 iterate 3 refine st ?_
 refine Ha ((m18 _ (d _ b.a)).one d0) (st (ja ?_))
 refine Ub (rg 65 10) (by decide) (fun m w=>∃ f i187,m=(Sd (yd (ng (Rc 65 []))))∧kr fu p_1 g K i40 i41 i42 L N i187=some r∧ga op f∧ka f J w (.ba B 43 [.int .i64 0,.int .i64 0,.slice none 0 0,.int .i64 0,.int .i64 0,.slice none 0 0]::.row Q 75 1 K.length (Xb D)::.ba C 119 [.pointer (some ⟨U,Qf,none⟩),.int .i64 i40,.int .i64 i41,T,.int .i64 i42,.int .i64 i187,V,Q]::.row T 3 1 L.length fd::.row V 45 3 N.length id::(gb D++O))) (by rintro _ _ ⟨_,_,rfl,_⟩; rfl) ?_ ?_
 refine Za h ?_ ?_
 intro Op h
 refine eb ?_
 iterate 5 refine st ?_
 refine Ae ((m18 _ (d _ b.a)).eg 4 2) rfl ?_
 obtain ⟨vM,eq,h⟩:=ha h
 refine Aa (Ur (y.t d) (m4.up d) (m6.up d) (m8.up d) (m9.up d) eq b) ?_
 rintro _ wM ⟨xM,rfl,Eq,b⟩
 refine fa ?_
 iterate 3 refine st ?_
 refine wl (Je Uc (aa (Oc d4)) (aa (Oc d1)) rfl b d2 cd rfl Ib Ma ?_)
 clear b; intro yM b
 refine La (za ?_)
 exact ⟨_,_,rfl,(Yb (xb (ie (qb ta)))),_,_,rfl,h,Eq,b⟩
 intro Op h
 refine Va (za ?_)
 exact ⟨_,_,rfl,(Yb (xb (ie (qb ta)))),_,_,rfl,h,ga.r,b⟩
 rintro _ t zM ⟨AM,i187,rfl,h,e,b⟩
 unfold kr at h
 refine Vb (Ud (Dd (Ag (Wc pb)))) (ra (ea ?_))
 iterate 4 refine st ?_
 refine Ha ((m18 _ ((d.t e) _ b.a)).one d8) ?_
 obtain ⟨BM,fr,h⟩:=ha h
 replace b:=(((b.da Da).da ff).da ff).da ff
 replace b:=Sep.Ld (a:=[_,_,_,_]) (p:=[_]) (M:=gb D) (R:=O) b
 refine Aa ((nx fu).Ij (y.t (d.t e)) (m4.up (d.t e)) (m6.up (d.t e)) (m8.up (d.t e)) (m9.up (d.t e)) (sp.up e) (wp.up e) (pp.up e) (m17.up (d.t e)) fr b) ?_
 rintro _ CM ⟨or,v196,DM,EM,FM,GM,ge,rfl,k,b,ci,ii,li⟩
 replace b:=Sep.Ld (a:=[_,_,_,_]) (p:=gb ge) (M:=[_]) (R:=O) b
 refine fa (ob (ea ?_))
 iterate 3 refine st ?_
 refine Ha ((m18 _ ((d.t (e.t k)) _ b.a)).one d0) (st (ja ?_))
 refine Za h ?_ ?_
 intro qr h
 refine ea (st ?_)
 obtain ⟨HM,wr,h⟩:=ha h
 replace b:=(((b.da bb).da bb).da bb).da bb
 replace b:=Sep.Ld (a:=[_,_,_,_]) (p:=[_]) (M:=gb ge) (R:=O) b
 refine Aa (wh (y.t (d.t (e.t k))) (m4.up (d.t (e.t k))) (m6.up (d.t (e.t k))) (m8.up (d.t (e.t k))) (m9.up (d.t (e.t k))) ci ii li wr b) ?_
 rintro _ IM ⟨JM,KM,LM,v212,MM,NM,Fr,rfl,Or,b,cs,ds,OM⟩
 replace b:=Sep.Ld (a:=[_,_,_,_]) (p:=gb Fr) (M:=[_]) (R:=O) b
 refine fa (rb ?_)
 iterate 3 refine st ?_
 refine Ae ((b.ba d0).Xk (ve.s d1 (ve.s d2 (ve.s d3 (ve.s d4 (ve.s d5 (ve.s d6 ve.z))))))) rfl (wl (yb xg (aa d4) (aa (fe d1)) rfl (Rh rfl (Rh rfl (Rh ((b.get d1).Me) (Rh rfl (Rh rfl (Rh ((b.get d2).Me) Hs)))))) b d4 rfl hd Ma ?_))
 clear b; intro PM b
 refine ja (Ra (Fa ?_))
 replace b:=b.da Da
 obtain ⟨QM,a218,RM,es,em,gs,u⟩:=Sep.Gi b cs rfl; clear b
 subst es; have b:=u; clear u
 replace b:=b.da Da
 obtain ⟨SM,TM,UM,is,hm,ls,u⟩:=Sep.Gi b (ds.up em) rfl; clear b
 subst is; have b:=u; clear u
 obtain rfl:=Ea h
 refine Ad rfl (Qa.s (.a d4 xg (b.ba d2).cells rfl) Qa.z) ?_
 replace b:=((b.drop ia.z).drop ia.z).drop ia.z
 replace b:=b.vu (pre:=[]) (j:=0)
 exact ⟨_,_,_,_,_,rfl,(d.t (e.t (k.t (Or.t (em.t hm))))),b,(gs.up hm),ls⟩
 intro qr h
 refine Va (ra (db (ea ?_)))
 iterate 4 refine st ?_
 refine Ha ((b.ba d0).cell d4) (st (ja ?_))
 refine Ub (rg 98 4) (by decide) (fun m w=>∃ f he v228 lc i232 i233 i234 i235 le v236 pi ne Pi kk,m=(Sd (qc (qc (Kh (Ih 98 [])))))∧jr p_1 he i232 i233 i234 i235 le ne=some r∧ga or f∧ka f J w (.ba B 43 [.int .i64 0,.int .i64 0,.slice none 0 0,.int .i64 0,.int .i64 0,.slice none 0 0]::.row v228 75 1 he.length (Xb lc)::.ba C 119 [.pointer (some ⟨U,Qf,none⟩),.int .i64 i232,.int .i64 i233,v236,.int .i64 i234,.int .i64 i235,Pi,v228]::.row v236 3 1 le.length pi::.row Pi 45 3 ne.length kk::(gb lc++O))∧Bd f lc he∧pa f pi le∧pa f kk ne) (by rintro _ _ ⟨_,_,_,_,_,_,_,_,_,_,_,_,_,_,rfl,_⟩; rfl) ?_ ?_
 refine Za h ?_ ?_
 intro ms h
 refine eb (st ?_)
 obtain ⟨F,os,h⟩:=ha h
 replace b:=(((b.da bb).da bb).da bb).da bb
 replace b:=Sep.Ld (a:=[_,_,_,_]) (p:=[_]) (M:=gb ge) (R:=O) b
 refine Aa (wh (y.t (d.t (e.t k))) (m4.up (d.t (e.t k))) (m6.up (d.t (e.t k))) (m8.up (d.t (e.t k))) (m9.up (d.t (e.t k))) ci ii li os b) ?_
 rintro _ VM ⟨WM,XM,YM,ZM,aN,bN,rs,rfl,us,b,vs,ws,xs⟩
 replace b:=Sep.Ld (a:=[_,_,_,_]) (p:=gb rs) (M:=[_]) (R:=O) b
 refine fa (La (za ?_))
 replace b:=((((b.da Eb).da Eb).da Eb).da bb).da ff
 exact ⟨_,_,rfl,(Yb (Xa (Xa (lf (pf ta))))),_,F.2.2.2.2.2.2.2,_,_,F.2.1,F.2.2.1,F.2.2.2.2.1,F.2.2.2.2.2.1,F.2.2.2.1,_,_,F.2.2.2.2.2.2.1,_,_,rfl,h,us,b,xs,vs,ws⟩
 intro ms h
 refine eb (st ?_)
 obtain ⟨G,ys,h⟩:=ha h
 replace b:=(((b.da bb).da bb).da bb).da bb
 replace b:=Sep.Ld (a:=[_,_,_,_]) (p:=[_]) (M:=gb ge) (R:=O) b
 refine Aa (wh (y.t (d.t (e.t k))) (m4.up (d.t (e.t k))) (m6.up (d.t (e.t k))) (m8.up (d.t (e.t k))) (m9.up (d.t (e.t k))) ci ii li ys b) ?_
 rintro _ cN ⟨dN,eN,fN,gN,hN,iN,Os,rfl,gt,b,it,lt,mt⟩
 replace b:=Sep.Ld (a:=[_,_,_,_]) (p:=gb Os) (M:=[_]) (R:=O) b
 refine fa (La (za ?_))
 replace b:=((((b.da Eb).da Eb).da Eb).da bb).da ff
 exact ⟨_,_,rfl,(Yb (Xa (Xa (lf (pf ta))))),_,G.2.2.2.2.2.2.2,_,_,G.2.1,G.2.2.1,G.2.2.2.2.1,G.2.2.2.2.2.1,G.2.2.2.1,_,_,G.2.2.2.2.2.2.1,_,_,rfl,h,gt,b,mt,it,lt⟩
 rintro _ t jN ⟨kN,he,v228,lc,i232,i233,i234,i235,le,v236,pi,ne,Pi,kk,rfl,h,P,b,rt,ut,wt⟩
 unfold jr at h
 refine Vb (Ud (vc (vc (fi (ai pb))))) (ra (ea (st ?_)))
 obtain ⟨lN,hu,h⟩:=ha h
 replace b:=(((b.da Da).da ff).da ff).da ff
 replace b:=Sep.Ld (a:=[_,_,_,_]) (p:=[_]) (M:=gb lc) (R:=O) b
 refine Aa (wh (y.t (d.t (e.t (k.t P)))) (m4.up (d.t (e.t (k.t P)))) (m6.up (d.t (e.t (k.t P)))) (m8.up (d.t (e.t (k.t P)))) (m9.up (d.t (e.t (k.t P)))) ut wt rt hu b) ?_
 rintro _ mN ⟨nN,oN,pN,qN,rN,sN,pu,rfl,bv,b,hw,kw,tN⟩
 replace b:=Sep.Ld (a:=[_,_,_,_]) (p:=gb pu) (M:=[_]) (R:=O) b
 refine fa (rb ?_)
 iterate 3 refine st ?_
 refine Ae ((b.ba d0).Xk (ve.s d1 (ve.s d2 (ve.s d3 (ve.s d4 (ve.s d5 (ve.s d6 ve.z))))))) rfl (wl (yb xg (aa d4) (aa (Pa d7)) rfl (Rh rfl (Rh rfl (Rh ((b.get d1).Me) (Rh rfl (Rh rfl (Rh ((b.get d2).Me) Hs)))))) b d4 rfl hd Ma ?_))
 clear b; intro uN b
 refine ja (Ra ?_)
 replace b:=b.da Da
 obtain ⟨vN,wN,xN,lw,lm,ww,u⟩:=Sep.Gi b hw rfl; clear b
 subst lw; have b:=u; clear u
 replace b:=b.da Da
 obtain ⟨yN,zN,AN,ex,pm,rx,u⟩:=Sep.Gi b (kw.up lm) rfl; clear b
 subst ex; have b:=u; clear u
 obtain rfl:=Ea h
 refine Ad rfl (Qa.s (.a d4 xg (b.ba d2).cells rfl) Qa.z) ?_
 replace b:=((b.drop ia.z).drop ia.z).drop ia.z
 replace b:=b.vu (pre:=[]) (j:=0)
 exact ⟨_,_,_,_,_,rfl,(d.t (e.t (k.t (P.t (bv.t (lm.t pm)))))),b,(ww.up pm),rx⟩
theorem Nw (li:ga Fc I) {p_1:List va} {r:Wg×Vc} (m3:Ka I xa c2 p_1) (h:rn fu p_1=some r) (b:ka I J w (O)):Sb prog 7 [.slice xa p_1.length c2] w (fun v w'=>∃ (na:M) (a4:Option Addr) (c5:Nat) (ic:Option Addr) (eh:Nat),v=.tuple ⟨[.agg ⟨[.slice a4 r.1.Hg.length c5,.slice ic r.1.Tf.length eh]⟩,.agg ⟨[.int .i64 r.2.Ue,.int .i64 r.2.dd]⟩]⟩∧ga I na∧ka na J w' (O)∧Ka na a4 c5 r.1.Hg∧Ka na ic eh r.1.Tf):=by
 unfold rn at h
 refine enter func7 rfl (frm:=_::zd (zd (Ge (Xe (Ze (Ze [])))))) rfl (ea ?_)
 refine wl (bd zj b ?_); clear b; intro Ri pM qM b; refine fa ?_
 refine wl (bd wc b ?_); clear b; intro Qc rM sM b; refine fa ?_
 refine ob (ea (st ?_))
 obtain ⟨pi,g15,h⟩:=ha h
 refine Aa (XC li m3 g15 b) ?_
 rintro _ tM ⟨X,rfl,g,b⟩
 refine fa ?_
 refine wl (bd wc b ?_); clear b; intro uM vM wM b; refine fa ?_
 refine wl (yb wc (aa d4) (aa (wa d1)) rfl rfl b d0 rfl Ga Ma ?_)
 clear b; intro xM b
 refine rb (st (Ha ((b.ba d0).cell d0) (st (ja ?_))))
 refine Za h ?_ ?_
 intro io h
 refine db ?_
 refine Ub (rg 15 2) (by decide) (fun m w=>∃ (d:M) ,m=(yd (ng (xf 15 [])))∧Iq pi =some r∧ga X d∧ka d J w (.ba Ri 34 [.slice none 0 0,.slice none 0 0]::.ba Qc 26 [.int .i64 pi.Ue,.int .i64 pi.dd]::O)) (by rintro _ _ ⟨_,rfl,_⟩; rfl) ?_ ?_
 refine Td b ?_; clear b; intro yM b
 refine Pd (ze 0 [0,2,3] rfl (Jt zj rC ab.z) (Jb cd) (Fb 1 [1,3] rfl (Re wc (aa d4) (b.ba d0).cells rfl) (Jb ad) (Kb rfl rfl rfl rfl (Gb rfl) (yb zj (aa d2) (aa (wa d5)) rfl rfl b d2 rfl Ib Ma ?_))))
 clear b; intro zM b
 refine ⟨(Oa.s (Re wc (aa d4) (b.ba d0).cells rfl) Oa.z),?_⟩
 refine Kb rfl rfl rfl rfl (Gb rfl) (yb wc (aa d3) (aa (wa d6)) rfl rfl b d1 rfl kb Ma ?_)
 clear b; intro Mf b
 refine ⟨Oa.z,?_⟩
 refine Hd (za ?_)
 replace b:=(b.drop ia.z).da Da
 exact ⟨_,_,rfl,(xb (ie (Zc ta))),_,rfl,h,ga.r,b⟩
 rintro _ t AM ⟨BM,rfl,h,no,b⟩
 unfold Iq at h
 refine Vb (Dd (Ag (Kf pb))) (ra (Ra (Fa ?_)))
 obtain rfl:=Ea h
 refine Ad rfl (Qa.s (.a d2 zj (b.ba d0).cells rfl) (Qa.s (.a d3 wc (b.ba d1).cells rfl) Qa.z)) ?_
 replace b:=(b.drop ia.z).drop ia.z
 exact ⟨_,none,0,none,0,rfl,(g.t no),b,Ka.nil,Ka.nil⟩
 intro io h
 refine Va (ra (ea ?_))
 refine wl (hj b ?_); clear b; intro D CM DM b; refine fa ?_
 refine wl (hj b ?_); clear b; intro E EM FM b; refine fa ?_
 refine wl (hj b ?_); clear b; intro F GM HM b; refine fa ?_
 refine wl (Nd BI NI (ab.o rfl (aa (wa d7)) rfl rfl Ga (ab.o rfl (aa (wa d8)) rfl rfl kb (ab.o rfl (aa (wa d9)) rfl rfl Ib ab.z))) (ma (oc Ga)) ?_)
 refine wl (Ji (aa (Sa d0)) rfl b ?_); clear b; intro be IM JM b; refine fa ?_
 refine st (rb ?_)
 refine wl (bd zj b ?_); clear b; intro P KM LM b; refine fa ?_
 refine ob (ea (st (wl (Ja (Qd underlying22 (aa (Sa d2))) (ma (oc ec)) (st (ja (Qb ?_)))))))
 replace b:=b.Qh 81 (cb.sz zi)
 replace b:=(((((((b.drop (ia.s (ia.s (ia.s (ia.s (ia.s (ia.s ia.z))))))).da Da).da Eb).da bb).da ff).da Bi).da en).da gn
 refine Se ([7]++rg 25 67) (by decide +kernel) (fun n m w=>∃ d i163 q Y Z k Q R u Pi c173 j l x,m=(rh (Sc 7 (yd (Og (.i (.int .i64 i163)::(nk 25 (Rc 75 (Nj 85 []))))))))∧Vl fu p_1 n i163 q k u j=some r∧ga X d∧ka d J w (.ba Ri 34 [.slice none 0 0,.slice none 0 0]::.ba Qc 26 [.int .i64 0,.int .i64 0]::.map D Y Z::.map E Q R::.map F Pi c173::.ba be 78 [.map (some D),.map (some E),.map (some F)]::.ba P 34 [l,.slice none 0 0]::.row l 81 2 j.length x::O)∧je d Y Z q∧je d Q R k∧je d Pi c173 u∧pa d x j) (by rintro _ _ _ ⟨_,_,_,_,_,_,_,_,_,_,_,_,_,_,rfl,_⟩; rfl) _ _ (cf (lb (xb (ye (Na (Vf (qb (Cg ta)))))))) ⟨_,0,([]:List (List UInt8×Int)),[],0,([]:List (List UInt8×Int)),[],0,([]:List (List UInt8×va)),[],0,[],(.slice none 0 0),[],rfl,h,ga.r,b,(je.nil (κ:=List UInt8) (β:=Int) (μ:=X) (c:=0)),(je.nil (κ:=List UInt8) (β:=Int) (μ:=X) (c:=0)),(je.nil (κ:=List UInt8) (β:=va) (μ:=X) (c:=0)),pa.nil⟩ ?_
 rintro L _ t MM ⟨em,i163,q,Y,Z,k,Q,R,u,Pi,c173,j,l,x,rfl,h,f,b,ce,gc,hm,ok⟩
 rcases L with _|L
 cases h
 unfold Vl at h
 refine Te (Jh (Xc (Dd (Zg (kc (kl (Wc (Ik pb)))))))) (ea (st (ob ?_)))
 refine Za h ?_ ?_
 intro ro h
 refine Va (ra (db (Qb (ea ?_))))
 iterate 2 refine st ?_
 refine ob ?_
 refine Td b ?_; clear b; intro NM b
 refine Pd (la 0 [0,1,2,3,12] rfl (la 1 [1,2,3,12] rfl (la 2 [2,3,12] rfl (Fb 3 [3,12] rfl (jb No (aa (Sa d9)) ((b.ba d5).cell d2)) (qd Ga) (la 4 [4,6,7,8,12] rfl (la 5 [5,6,7,8,12] rfl ?_))))))
 obtain ⟨S,to,h⟩:=ha h
 obtain ⟨OM,PM,QM,Do,f323,Go⟩:=Pc.elem (m3.up (g.t f)) to
 obtain ⟨RM,SM,TM,UM,rfl,VM,WM⟩:=Go
 refine ze 6 [6,7,8,12] rfl (Mc underlying22 Oe (aa (ib d1)) (aa (ib d2)) Do) (qd ec) (la 7 [7,8,12] rfl (Fb 8 [8,12] rfl (jb Hb (aa (ib d4)) ((f323 _ b.a).one d1)) (qd cd) (la 9 [9,11,12] rfl (la 10 [10,11,12] rfl ?_))))
 obtain ⟨T,ap,h⟩:=ha h
 obtain ⟨XM,YM,ZM,ip,f337,jp⟩:=Pc.elem (m3.up (g.t f)) ap
 obtain ⟨mp,op,pp,sp,rfl,wp,Op⟩:=jp
 refine ze 11 [11,12] rfl (Mc underlying22 Oe (aa (ib d6)) (aa (ib d7)) ip) (qd Yd) ?_
 refine Kb rfl rfl rfl rfl (Gb rfl) (gq (κ:=List UInt8) (β:=va) (kk:=S.Name) (xx:=T) underlying76 underlying9 (aa (ib d0)) (aa (ib d5)) (aa (ib d8)) ⟨_,_,_,rfl,f337,(va.i ⟨mp,op,pp,sp,rfl,wp,Op⟩)⟩ b d4 hm Ma ?_); clear b; intro lc rc aN y dl A b; cases (show _=y from A)
 replace b:=Sep.te b hd
 refine ⟨Oa.z,?_⟩
 refine Hd (ra (ea ?_))
 iterate 2 refine st ?_
 obtain ⟨bN,eq,h⟩:=ha h
 obtain ⟨cN,dN,eN,Eq,f354,fr⟩:=Pc.elem (m3.up (g.t f)) eq
 obtain ⟨fN,gN,hN,iN,rfl,jN,kN⟩:=fr
 refine wl (Ja (Mc underlying22 Oe (aa (ib d9)) (aa (Bb d0)) Eq) (ma (Xd kb)) (st (Ha ((f354 _ b.a).one d0) (st (ja ?_)))))
 refine Za h ?_ ?_
 intro or h
 refine db ?_
 refine Ub (rg 45 14) (by decide) (fun m w=>∃ d fd id md,m=(qc (qc (ng (Rc 45 (Ih 55 [])))))∧Ys p_1 i163 k u j S T (Vl fu p_1 L) fd=some r∧ga em d∧ka d J w (.ba Ri 34 [.slice none 0 0,.slice none 0 0]::.ba Qc 26 [.int .i64 0,.int .i64 0]::.map D id md::.map E Q R::.map F lc rc::.ba be 78 [.map (some D),.map (some E),.map (some F)]::.ba P 34 [l,.slice none 0 0]::.row l 81 2 j.length x::O)∧je d id md fd) (by rintro _ _ ⟨_,_,_,_,rfl,_⟩; rfl) ?_ ?_
 refine Td b ?_; clear b; intro lN b
 refine Pd (la 0 [0,1,2,3,14] rfl (la 1 [1,2,3,14] rfl (la 2 [2,3,14] rfl (Fb 3 [3,14] rfl (jb Yh (aa (Bb d7)) ((b.ba d5).cell d0)) (Xd Yd) (la 4 [4,6,7,8,14] rfl (la 5 [5,6,7,8,14] rfl ?_))))))
 obtain ⟨lm,qr,h⟩:=ha h
 obtain ⟨mN,nN,oN,wr,pm,Fr⟩:=Pc.elem (m3.up (g.t f)) qr
 obtain ⟨pN,qN,rN,sN,rfl,tN,uN⟩:=Fr
 refine ze 6 [6,7,8,14] rfl (Mc underlying22 Oe (aa (Bb d9)) (aa (sb d0)) wr) (ee kb) (la 7 [7,8,14] rfl (Fb 8 [8,14] rfl (jb Hb (aa (sb d2)) ((pm _ b.a).one d1)) (ee ec) (la 9 [9,10,11,12,13,14] rfl (la 10 [10,11,12,13,14] rfl (la 11 [11,12,13,14] rfl (Fb 12 [12,13,14] rfl (jb Yh (aa (sb d6)) ((b.ba d5).cell d0)) (ee sd) (Kb rfl rfl rfl rfl (Gb rfl) (GB underlying75 (aa (sb d7)) (b.get d2) ce (ma (ee Yd)) ?_))))))))
 refine ⟨(Oa.s (jb Hb (aa (sb d2)) ((pm _ b.a).one d1)) (Oa.s (jb Yh (aa (Bb d7)) ((b.ba d5).cell d0)) Oa.z)),?_⟩
 refine Kb rfl rfl rfl rfl (Gb rfl) (gq (κ:=List UInt8) (β:=Int) (kk:=lm.Name) (xx:=(q.length:Int)) underlying75 underlying9 (aa (Bb d8)) (aa (sb d3)) (aa (sb d8)) rfl b d2 ce Ma ?_); clear b; intro Or vN wN y cs A b; cases (show _=y from A)
 replace b:=Sep.te b Ib
 refine ⟨Oa.z,?_⟩
 refine Hd (za ?_)
 exact ⟨_,_,rfl,(Xa (Xa (ie (qb (pf ta))))),_,(cc q lm.Name (q.length:Int)),Or,_,rfl,h,ga.r,b,cs⟩
 rintro _ t xN ⟨ds,fd,id,md,rfl,h,B,b,sm⟩
 unfold Ys at h
 refine Vb (vc (vc (Ag (Wc (ai pb))))) (ra ?_)
 refine Ub (rg 59 18) (by decide) (fun m w=>∃ d rd ge he,m=(Sd (mi (Rc 59 (ei 69 []))))∧Xs i163 k u S T fd (Vl fu p_1 L) rd=some r∧ga ds d∧ka d J w (.ba Ri 34 [.slice none 0 0,.slice none 0 0]::.ba Qc 26 [.int .i64 0,.int .i64 0]::.map D id md::.map E Q R::.map F lc rc::.ba be 78 [.map (some D),.map (some E),.map (some F)]::.ba P 34 [ge,.slice none 0 0]::.row ge 81 2 rd.length he::O)∧pa d he rd) (by rintro _ _ ⟨_,_,_,_,rfl,_⟩; rfl) ?_ ?_
 refine Td b ?_; clear b; intro yN b
 refine Pd (la 0 [0,1,16,17,18] rfl (Fb 1 [1,16,17,18] rfl (jb sq (aa (sb d9)) ((b.ba d6).cell d0)) (zg Ga) (la 2 [2,8,14,15,16,17,18] rfl (la 3 [3,5,6,7,8,14,15,16,17,18] rfl (la 4 [4,5,6,7,8,14,15,16,17,18] rfl ?_)))))
 obtain ⟨zN,es,h⟩:=ha h
 obtain ⟨AN,BN,CN,gs,is,ls⟩:=Pc.elem (m3.up (g.t (f.t B))) es
 obtain ⟨DN,EN,FN,GN,rfl,HN,IN⟩:=ls
 refine ze 5 [5,6,7,8,14,15,16,17,18] rfl (Mc underlying22 Oe (aa (Gc d2)) (aa (Gc d3)) gs) (zg hd) (la 6 [6,7,8,14,15,16,17,18] rfl (Fb 7 [7,8,14,15,16,17,18] rfl (Re Mb (aa (Gc d5)) ((is _ b.a).eg 2 2) rfl) (zg ad) (la 9 [9,11,12,13,14,15,16,17,18] rfl (la 10 [10,11,12,13,14,15,16,17,18] rfl ?_))))
 obtain ⟨el,ms,h⟩:=ha h
 obtain ⟨JN,KN,LN,os,Nm,rs⟩:=Pc.elem (m3.up (g.t (f.t B))) ms
 obtain ⟨MN,NN,ON,PN,rfl,QN,RN⟩:=rs
 refine ze 11 [11,12,13,14,15,16,17,18] rfl (Mc underlying22 Oe (aa (Gc d8)) (aa (Gc d9)) os) (Zf Ga) (la 12 [12,13,14,15,16,17,18] rfl (Fb 13 [13,14,15,16,17,18] rfl (jb Uc (aa (Oc d1)) ((Nm _ b.a).one d6)) (Zf Ib) ?_))
 obtain ⟨nl,us,h⟩:=ha h
 replace b:=(((b.da ff).da ff).da ff).da Bi
 refine Kb rfl rfl rfl rfl (Gb rfl) (td ss nd (sa (aa (Gc d1)) (sa (aa (Gc d6)) hb)) (lE (li.t (g.t (f.t B))) sm (gc.up B) (dl.up B) us b) ?_)
 rintro _ SN ⟨vs,rfl,ol,b⟩
 refine fa ?_
 refine ⟨(Oa.s (jb Uc (aa (Oc d1)) ((Nm _ (ol _ b.a)).one d6)) (Oa.s (jb sq (aa (sb d9)) ((b.ba d6).cell d0)) Oa.z)),?_⟩
 refine ze 14 [14,15,16,17,18] rfl (Jt tq OI (ab.o rfl (aa (Gc d7)) rfl rfl Ga (ab.o rfl (aa (Oc d2)) rfl rfl kb ab.z))) (Zf ec) ?_
 refine Kb rfl rfl rfl rfl (Gb rfl) (vj underlying31 tq rfl (aa (Oc d3)) rfl b ?_); clear b; intro TN UN VN b; refine fa ?_
 refine ⟨(Oa.s (jb sq (aa (sb d9)) ((b.ba d7).cell d0)) Oa.z),?_⟩
 obtain ⟨WN,fn,h⟩:=ha h
 have on:pa vs [.int .i64 nl,.int .i64 el.oe] [(zi.mk nl el.oe)]:=(pa.one (α:=zi) rfl)
 have ws:=pa.app (ok.up (B.t ol)) on fn
 refine Kb rfl rfl rfl rfl (Gb rfl) (xj underlying31 tq rfl (aa (Gc d0)) (aa (Oc d4)) b d8 (b.ba d0).cells on rfl fn (by decide) ?_); clear b; intro XN YN y A b; cases (show _=y from A)
 replace b:=Sep.te b Yd; refine fa ?_
 replace b:=b.drop ia.z
 refine ⟨Oa.z,?_⟩
 refine la 17 [17,18] rfl (Kb rfl rfl rfl rfl (Gb rfl) (Je sq (aa (Oc d6)) (aa (Oc d5)) (b.get d7).Me b d6 Ga rfl ad Ma ?_))
 clear b; intro ZN b
 refine ⟨Oa.z,?_⟩
 refine Hd (za ?_)
 replace b:=(((((((b.da gn).da gn).da Eb).da Bi).da Bi).da Bi).da gn).da gn
 exact ⟨_,_,rfl,(Yb (yf (qb (ag ta)))),_,_,_,(x++[.int .i64 nl,.int .i64 el.oe]),rfl,h,ol,b,ws⟩
 rintro _ t aO ⟨bO,rd,ge,he,rfl,h,le,b,xs⟩
 unfold Xs at h
 refine Vb (Ud (Qi (Wc (xi pb)))) ?_
 refine (fun h=>Pb (ra h)) ?_
 refine eb ?_
 obtain ⟨ys,Os,h⟩:=ha h
 refine wl (Ja (Gd (aa (Sa d4)) Ba Os) (ma (Zh kb)) (st (La (za ?_))))
 exact ⟨L,_,_,rfl,(cf (lb (xb (ye (Na (Vf (qb (Cg ta)))))))),⟨_,ys,fd,id,md,k,Q,R,(cc u S.Name T),lc,rc,rd,ge,he,rfl,h,(f.t (B.t le)),b,(sm.up le),(gc.up (B.t le)),(dl.up (B.t le)),xs⟩,Nat.lt_succ_self _⟩
 intro or h
 refine Ub (rg 77 14) (by decide) (fun m w=>∃ d ne Ne of,m=(Sd (qc (rh (Rc 77 (Ih 87 [])))))∧Zs i163 q u j S T (Vl fu p_1 L) ne=some r∧ga em d∧ka d J w (.ba Ri 34 [.slice none 0 0,.slice none 0 0]::.ba Qc 26 [.int .i64 0,.int .i64 0]::.map D Y Z::.map E Ne of::.map F lc rc::.ba be 78 [.map (some D),.map (some E),.map (some F)]::.ba P 34 [l,.slice none 0 0]::.row l 81 2 j.length x::O)∧je d Ne of ne) (by rintro _ _ ⟨_,_,_,_,rfl,_⟩; rfl) ?_ ?_
 refine Td b ?_; clear b; intro cO b
 refine Pd (la 0 [0,1,2,3,14] rfl (la 1 [1,2,3,14] rfl (la 2 [2,3,14] rfl (Fb 3 [3,14] rfl (jb Yh (aa (Oc d9)) ((b.ba d5).cell d1)) (qg Ga) (la 4 [4,6,7,8,14] rfl (la 5 [5,6,7,8,14] rfl ?_))))))
 obtain ⟨un,gt,h⟩:=ha h
 obtain ⟨dO,eO,fO,it,wn,lt⟩:=Pc.elem (m3.up (g.t f)) gt
 obtain ⟨gO,hO,iO,jO,rfl,kO,lO⟩:=lt
 refine ze 6 [6,7,8,14] rfl (Mc underlying22 Oe (aa (Nc d1)) (aa (Nc d2)) it) (qg ec) (la 7 [7,8,14] rfl (Fb 8 [8,14] rfl (jb Hb (aa (Nc d4)) ((wn _ b.a).one d1)) (qg cd) (la 9 [9,10,11,12,13,14] rfl (la 10 [10,11,12,13,14] rfl (la 11 [11,12,13,14] rfl (Fb 12 [12,13,14] rfl (jb Yh (aa (Nc d8)) ((b.ba d5).cell d1)) (qg Ed) (Kb rfl rfl rfl rfl (Gb rfl) (GB underlying75 (aa (Nc d9)) (b.get d3) gc (ma (Zh Ga)) ?_))))))))
 refine ⟨(Oa.s (jb Hb (aa (Nc d4)) ((wn _ b.a).one d1)) (Oa.s (jb Yh (aa (Oc d9)) ((b.ba d5).cell d1)) Oa.z)),?_⟩
 refine Kb rfl rfl rfl rfl (Gb rfl) (gq (κ:=List UInt8) (β:=Int) (kk:=un.Name) (xx:=(k.length:Int)) underlying75 underlying9 (aa (Nc d0)) (aa (Nc d5)) (aa (fe d0)) rfl b d3 gc Ma ?_); clear b; intro mt mO nO y rt A b; cases (show _=y from A)
 replace b:=Sep.te b ec
 refine ⟨Oa.z,?_⟩
 refine Hd (za ?_)
 exact ⟨_,_,rfl,(Yb (Xa (cf (qb (pf ta))))),_,(cc k un.Name (k.length:Int)),mt,_,rfl,h,ga.r,b,rt⟩
 rintro _ t oO ⟨pO,ne,Ne,of,rfl,h,wf,b,ut⟩
 unfold Zs at h
 refine Vb (Ud (vc (Jh (Wc (ai pb))))) ?_
 refine (fun h=>Pb (ra h)) ?_
 refine eb ?_
 obtain ⟨wt,hu,h⟩:=ha h
 refine wl (Ja (Gd (aa (Sa d4)) Ba hu) (ma (Zh kb)) (st (La (za ?_))))
 exact ⟨L,_,_,rfl,(cf (lb (xb (ye (Na (Vf (qb (Cg ta)))))))),⟨_,wt,q,Y,Z,ne,Ne,of,(cc u S.Name T),lc,rc,j,l,x,rfl,h,(f.t wf),b,(ce.up wf),ut,(dl.up wf),(ok.up wf)⟩,Nat.lt_succ_self _⟩
 intro ro h
 refine ke ?_
 refine (fun h=>jc (jc (pe h))) ?_
 refine ra (db (ea (st (wl (Ja (Qd underlying22 (aa (fe d2))) (ma (Zh ec)) (st (ja (Qb ?_))))))))
 replace b:=b.da Eb
 obtain ⟨qO,G,pu,b⟩:=Sep.ym b ce
 replace b:=b.da Eb
 obtain ⟨rO,H,bv,b⟩:=Sep.ym b (gc.up G)
 replace b:=b.da Eb
 obtain ⟨sO,K,hw,b⟩:=Sep.ym b (hm.up (G.t H))
 replace b:=b.da Eb
 obtain ⟨kw,C,lw,b⟩:=Sep.bu b
 replace b:=b.Qh 43 (cb.sz Hh)
 replace b:=(((b.da ff).da ff).da ff).da ff
 refine Se (rg 8 2++rg 95 33) (by decide +kernel) (fun n m w=>∃ d If N V W,m=(Kh (xf 8 (Sd (qc (yd (tf (.i (.int .i64 If)::(Uf 95 (Rc 115 (Yg 125 []))))))))))∧zl fu p_1 q k u j n If N=some r∧ga kw d∧ka d J w (.ba Ri 34 [.slice none 0 0,.slice none 0 0]::.ba Qc 26 [.int .i64 0,.int .i64 0]::.ba P 34 [l,V]::.row l 81 2 j.length x::.row V 43 6 N.length W::O)∧pa d W N) (by rintro _ _ _ ⟨_,_,_,_,_,rfl,_⟩; rfl) _ _ (lf (Zc (Yb (Xa (xb (gd (Na (zc (qb (ue ta)))))))))) ⟨_,0,[],(.slice none 0 0),[],rfl,h,ga.r,b,pa.nil⟩ ?_
 rintro wd _ t tO ⟨uO,If,N,V,W,rfl,h,p,b,pl⟩
 rcases wd with _|wd
 cases h
 unfold zl at h
 refine Te (fi (Kf (Ud (vc (Dd (Ff (kc (fg (Wc (qh pb)))))))))) (ea (st (ob ?_)))
 refine Za h ?_ ?_
 intro ww h
 refine Va (ra (db (Qb (ea ?_))))
 iterate 2 refine st ?_
 refine ob (ea ?_)
 iterate 2 refine st ?_
 obtain ⟨vO,ex,h⟩:=ha h
 obtain ⟨wO,xO,yO,rx,zx,ty⟩:=Pc.elem (m3.up (g.t (f.t (G.t (H.t (K.t (C.t p))))))) ex
 obtain ⟨zO,AO,BO,CO,rfl,DO,EO⟩:=ty
 refine wl (Ja (Mc underlying22 Oe (aa (fe d7)) (aa (fe d8)) rx) (ma (Zh Ed)) (st (Ha ((zx _ b.a).one d0) (st (ja ?_)))))
 refine Za h ?_ ?_
 intro Rz h
 refine ke ?_
 refine (fun h=>jc (pe h)) ?_
 refine ra (eb ?_)
 obtain ⟨AC,GE,h⟩:=ha h
 refine wl (Ja (Gd (aa (fe d4)) Ba GE) (ma (dc (oc sd))) (st (La (za ?_))))
 exact ⟨wd,_,_,rfl,(lf (Zc (Yb (Xa (xb (gd (Na (zc (qb (ue ta)))))))))),⟨_,AC,N,V,W,rfl,h,p,b,pl⟩,Nat.lt_succ_self _⟩
 intro Rz h
 refine Va (ra (ea ?_))
 iterate 3 refine st ?_
 obtain ⟨FO,LE,h⟩:=ha h
 obtain ⟨GO,HO,JO,NE,WF,RK⟩:=Pc.elem (m3.up (g.t (f.t (G.t (H.t (K.t (C.t p))))))) LE
 obtain ⟨KO,LO,MO,NO,rfl,WL,XL⟩:=RK
 refine wl (Ja (Mc underlying22 Oe (aa (Pa d4)) (aa (Pa d5)) NE) (ma (dc ad)) ?_)
 obtain ⟨e,YL,h⟩:=ha h
 refine Aa (pE (p_1:=(Pf.mk q k u)) (li.t (g.t (f.t (G.t (H.t (K.t (C.t p))))))) (pu.up (H.t (K.t (C.t p)))) (bv.up (K.t (C.t p))) (hw.up (C.t p)) (lw.up p) WL XL WF YL b) ?_
 rintro _ OO ⟨ZL,dg,bi,ci,ii,rfl,ul,b,aM,bM⟩
 refine fa ?_
 refine wl (bd xg b ?_); clear b; intro cM PO QO b; refine fa ?_
 refine wl (yb xg (aa d9) (aa (Pa d7)) rfl rfl b d0 rfl Ga Ma ?_)
 clear b; intro RO b
 refine ob (db ?_)
 refine Ub (rg 108 9) (by decide) (fun m w=>∃ d am,m=(Sd (Sd (Kh (Rl 108 (.i (.bool am)::[])))))∧So If N e (zl fu p_1 q k u j wd) am=some r∧ga ZL d∧ka d J w (.ba Ri 34 [.slice none 0 0,.slice none 0 0]::.ba Qc 26 [.int .i64 0,.int .i64 0]::.ba P 34 [l,V]::.row V 43 6 N.length W::.ba cM 43 [.int .i64 e.Kind,.int .i64 e.Params,.slice dg e.ij.length bi,.int .i64 e.Result,.int .i64 e.Hc,.slice ci e.Code.length ii]::.row l 81 2 j.length x::O)) (by rintro _ _ ⟨_,_,rfl,_⟩; rfl) ?_ ?_
 refine eb (st (Ha ((b.ba d0).cell d2) (wl (Ja (Qd underlying40 (aa (Pa d9))) (ma (dc (Jb Ga))) ?_))))
 iterate 2 refine st ?_
 refine me 112 h ?_ ?_
 intro dM h
 refine oa rfl rfl (oa rfl rfl (oa rfl rfl (oa rfl rfl (st (La (za ?_))))))
 replace b:=(((((b.da ff).da Da).da Bi).da Bi).da Bi).da Bi
 exact ⟨_,_,rfl,(Yb (Yb (lf (Uh (Na ta))))),_,true,rfl,h,ga.r,b⟩
 intro dM h
 refine Ta rfl (mc rfl (Pa (wa d2)) (de Ck (aa (Pa (wa d3))) ((b.ba d0).cell d5) (ma (dc (Jb hd))) (mc rfl (Pa (wa d2)) (Ja (Qd underlying41 (aa (Pa (wa d4)))) (ma (dc (Jb cd))) (Ta rfl (st (La (za ?_))))))))
 replace b:=(((((b.da ff).da Da).da Bi).da Bi).da Bi).da Bi
 exact ⟨_,_,rfl,(Yb (Yb (lf (Uh (Na ta))))),_,(decide ((4000:Int)<(e.Code.length:Int))),rfl,h,ga.r,b⟩
 rintro _ t SO ⟨eM,am,rfl,h,Fd,b⟩
 unfold So at h
 refine Vb (Ud (Ud (fi (Ym (kc pb))))) (ra ?_)
 refine ed h ?_ ?_
 intro fM h
 refine ea (wl (Nd zj rC ab.z (ma (dc (Jb Yd))) (st (wl (Nd wc Zi (ab.o rfl Ba rfl rfl Ga (ab.o rfl (aa (Pa (wa d9))) rfl rfl kb ab.z)) (ma (dc (oc Ga))) (wl (yb zj (aa d2) (aa (Pa (wa d8))) rfl rfl b d0 rfl Ga Ma ?_)))))))
 clear b; intro TO b
 refine wl (yb wc (aa d3) (aa (Pa (Sa d0))) rfl rfl b d1 rfl kb Ma ?_)
 clear b; intro UO b
 refine ja (Ra ?_)
 refine (fun h=>Fa (Ab (Fa (Fa (Ab (Fa h)))))) ?_
 obtain rfl:=Ea h
 refine Ad rfl (Qa.s (.a d2 zj (b.ba d0).cells rfl) (Qa.s (.a d3 wc (b.ba d1).cells rfl) Qa.z)) ?_
 replace b:=(((((b.drop ia.z).drop ia.z).drop ia.z).drop ia.z).drop ia.z).drop ia.z
 exact ⟨_,none,0,none,0,rfl,(g.t (f.t (G.t (H.t (K.t (C.t (p.t (ul.t Fd)))))))),b,Ka.nil,Ka.nil⟩
 intro fM h
 refine Va (ra (eb (st (Ha ((b.ba d2).cell d1) (Ae (b.ba d4).cells rfl ?_)))))
 refine wl (vj underlying32 xg rfl (aa (Pa (Sa d3))) rfl b ?_); clear b; intro VO WO XO b; refine fa ?_
 obtain ⟨gM,Fn,h⟩:=ha h
 have In:pa eM [.int .i64 e.Kind,.int .i64 e.Params,.slice dg e.ij.length bi,.int .i64 e.Result,.int .i64 e.Hc,.slice ci e.Code.length ii] [e]:=(pa.one (α:=Hh) (Hh.i ⟨dg,bi,ci,ii,rfl,(aM.up Fd),(bM.up Fd)⟩))
 have hM:=pa.app (pl.up (ul.t Fd)) In Fn
 refine wl (xj underlying32 xg rfl (aa (Pa (Sa d2))) (aa (Pa (Sa d4))) b d4 (b.ba d0).cells In rfl Fn (by decide) ?_); clear b; intro iM YO y A b; cases (show _=y from A)
 replace b:=Sep.te b hd; refine fa ?_
 replace b:=b.drop ia.z
 refine st (wl (Je nj (aa (Pa (Sa d6))) (aa (Pa (Sa d5))) (b.get d3).Me b d2 kb rfl Ib Ma ?_))
 clear b; intro ZO b
 refine La ?_
 refine (fun h=>Pb (ra h)) ?_
 refine eb ?_
 obtain ⟨jM,kM,h⟩:=ha h
 refine wl (Ja (Gd (aa (fe d4)) Ba kM) (ma (dc (oc sd))) (st (La (za ?_))))
 replace b:=(((((b.drop (ia.s (ia.s (ia.s (ia.s ia.z))))).da bb).da ff).da ff).da ff).da ff
 exact ⟨wd,_,_,rfl,(lf (Zc (Yb (Xa (xb (gd (Na (zc (qb (ue ta)))))))))),⟨_,jM,gM,iM,(W++[.int .i64 e.Kind,.int .i64 e.Params,.slice dg e.ij.length bi,.int .i64 e.Result,.int .i64 e.Hc,.slice ci e.Code.length ii]),rfl,h,(p.t (ul.t Fd)),b,hM⟩,Nat.lt_succ_self _⟩
 intro ww h
 refine ke ?_
 refine (fun h=>jc (jc (pe h))) ?_
 refine ra (ea (Ae (b.ba d2).cells rfl (wl (Nd wc Zi ab.z (ma (dc (oc Ed))) (wl (yb zj (aa d2) (aa (Pa (Sa d8))) rfl (Rh ((b.get d3).Me) (Rh ((b.get d4).Me) Hs)) b d0 rfl Ga Ma ?_))))))
 clear b; intro aP b
 refine wl (yb wc (aa d3) (aa (Pa (Sa d9))) rfl rfl b d1 rfl kb Ma ?_)
 clear b; intro bP b
 refine ja (Ra ?_)
 replace b:=b.da bb
 obtain ⟨cP,dP,eP,lM,co,mM,Id⟩:=Sep.Gi b (ok.up (G.t (H.t (K.t (C.t p))))) rfl; clear b
 subst lM; have b:=Id; clear Id
 replace b:=b.da bb
 obtain ⟨fP,gP,hP,nM,go,oM,Id⟩:=Sep.Gi b (pl.up co) rfl; clear b
 subst nM; have b:=Id; clear Id
 obtain rfl:=Ea h
 refine Ad rfl (Qa.s (.a d2 zj (b.ba d0).cells rfl) (Qa.s (.a d3 wc (b.ba d1).cells rfl) Qa.z)) ?_
 replace b:=((b.drop ia.z).drop ia.z).drop ia.z
 exact ⟨_,_,_,_,_,rfl,(g.t (f.t (G.t (H.t (K.t (C.t (p.t (co.t go)))))))),b,(mM.up go),oM⟩
end Go.Proofs.YthoigniombcphaaGreatDoor
set_option maxRecDepth 100000
set_option maxHeartbeats 20000000
namespace Go.Proofs.YthoigniombcphaaGreatDoor
open Go.bc Go.Dc Go.Y Tryz
variable {fu:Nat} {I:M} {J w:World} {O:List Wb}
theorem qE (e:ga Fc I)  {r:Bool}  (h:Mv fu =some r) (b:ka I J w (O)):Sb prog 4 [] w (fun v w'=>∃ (na:M) ,v=.bool r∧ga I na∧ka na J w' (O)):=by
 unfold Mv at h
 refine enter func4 rfl (frm:=Cf (zd (Ge (Xe (Xe []))))) rfl (ea (st (rb ?_)))
 obtain ⟨x,g2,h⟩:=ha h
 refine Aa (Iz e g2 b) ?_
 rintro _ y ⟨A,a4,c5,rfl,c,b,m6⟩
 refine fa ?_
 iterate 3 refine st ?_
 refine wl (bd wc b ?_); clear b; intro Le B C b; refine fa ?_
 refine st (wl (yb wc (aa d2) (aa d8) rfl rfl b d0 rfl Ga Ma ?_))
 clear b; intro D b
 refine rb (st ?_)
 obtain ⟨E,g10,h⟩:=ha h
 refine Aa (Nw (e.t c) m6 g10 b) ?_
 rintro _ F ⟨G,a12,Ly,Wd,Ps,rfl,d,b,m14,m17⟩
 refine fa ?_
 iterate 3 refine st ?_
 refine wl (bd zj b ?_); clear b; intro H K L b; refine fa ?_
 refine wl (bd wc b ?_); clear b; intro N P Q b; refine fa ?_
 refine wl (yb zj (aa d3) (aa (wa d2)) rfl rfl b d1 rfl kb Ma ?_)
 clear b; intro R b
 refine wl (yb wc (aa d4) (aa (wa d3)) rfl rfl b d0 rfl Ga Ma ?_)
 clear b; intro Mf b
 refine rb (st (Ha ((b.ba d2).cell d0) ?_))
 iterate 2 refine st ?_
 refine me 17 h ?_ ?_
 intro f h
 refine Ta rfl (mc rfl (wa d7) (de wu (aa (wa d8)) ((b.ba d0).cell d0) (ma (Jb Ed)) (Ta rfl ?_)))
 iterate 2 refine st ?_
 refine me 22 h ?_ ?_
 intro g h
 refine Ta rfl (mc rfl (Sa d2) (de nj (aa (Sa d3)) ((b.ba d1).cell d1) (ma (oc hd)) (mc rfl (Sa d2) (Ja (Qd underlying32 (aa (Sa d4))) (ma (oc cd)) (Ta rfl ?_)))))
 iterate 2 refine st ?_
 refine me 28 h ?_ ?_
 intro i h
 refine Ta rfl (mc rfl (Sa d8) (de nj (aa (Sa d9)) ((b.ba d1).cell d1) (ma (qd Ga)) ?_))
 obtain ⟨S,j,h⟩:=ha h
 obtain ⟨T,V,W,k,f31,m32⟩:=Pc.elem m17 j
 obtain ⟨X,Y,Z,c37,rfl,gc,lc⟩:=m32
 refine mc rfl (Sa d8) (Ja (Mc underlying32 xg (aa (ib d0)) Ba k) (ma (qd kb)) (Ta rfl (mc rfl (Sa d8) (de Ck (aa (ib d2)) ((f31 _ b.a).one d5) (ma (qd ec)) (mc rfl (Sa d8) (Ja (Qd underlying41 (aa (ib d3))) (ma (qd hd)) (Ta rfl ?_)))))))
 iterate 2 refine st ?_
 refine me 37 h ?_ ?_
 intro l h
 refine Ta rfl (mc rfl (ib d7) (de nj (aa (ib d8)) ((b.ba d1).cell d1) (ma (qd Ed)) ?_))
 obtain ⟨rc,m,h⟩:=ha h
 obtain ⟨fd,id,md,n,f46,o⟩:=Pc.elem m17 m
 obtain ⟨rd,c49,a51,wd,rfl,Fd,p⟩:=o
 refine mc rfl (ib d7) (Ja (Mc underlying32 xg (aa (ib d9)) Ba n) (ma (Xd Ga)) (Ta rfl (mc rfl (ib d7) (de Ck (aa (Bb d1)) ((f46 _ b.a).one d5) (ma (Xd Ib)) ?_))))
 obtain ⟨Id,q,h⟩:=ha h
 obtain ⟨be,ce,ge,s,f60,u⟩:=Pc.elem p q
 obtain rfl:=u
 refine mc rfl (ib d7) (Ja (Mc underlying41 Wm (aa (Bb d2)) Ba s) (ma (Xd ec)) (Ta rfl (mc rfl (ib d7) (de Uc (aa (Bb d4)) ((f60 _ b.a).one d0) (ma (Xd cd)) (Ta rfl ?_)))))
 iterate 2 refine st ?_
 refine ja (Ra ?_)
 obtain rfl:=Ea h
 refine Ob rfl d0 ?_
 replace b:=((b.drop ia.z).drop ia.z).drop ia.z
 exact ⟨_,rfl,(c.t d),b⟩
 intro l h
 refine oa rfl rfl (oa rfl rfl (oa rfl rfl (oa rfl rfl (oa rfl rfl (oa rfl rfl (oa rfl rfl (oa rfl rfl (oa rfl rfl ?_))))))))
 iterate 2 refine st ?_
 refine ja (Ra ?_)
 obtain rfl:=Ea h
 refine Ob rfl d0 ?_
 replace b:=((b.drop ia.z).drop ia.z).drop ia.z
 exact ⟨_,rfl,(c.t d),b⟩
 intro i h
 refine oa rfl rfl (oa rfl rfl (oa rfl rfl (oa rfl rfl (oa rfl rfl (oa rfl rfl (oa rfl rfl ?_))))))
 iterate 2 refine st ?_
 refine oa rfl rfl (oa rfl rfl (oa rfl rfl (oa rfl rfl (oa rfl rfl (oa rfl rfl (oa rfl rfl (oa rfl rfl (oa rfl rfl ?_))))))))
 iterate 2 refine st ?_
 refine ja (Ra ?_)
 obtain rfl:=Ea h
 refine Ob rfl d0 ?_
 replace b:=((b.drop ia.z).drop ia.z).drop ia.z
 exact ⟨_,rfl,(c.t d),b⟩
 intro g h
 refine oa rfl rfl (oa rfl rfl (oa rfl rfl (oa rfl rfl ?_)))
 iterate 2 refine st ?_
 refine oa rfl rfl (oa rfl rfl (oa rfl rfl (oa rfl rfl (oa rfl rfl (oa rfl rfl (oa rfl rfl ?_))))))
 iterate 2 refine st ?_
 refine oa rfl rfl (oa rfl rfl (oa rfl rfl (oa rfl rfl (oa rfl rfl (oa rfl rfl (oa rfl rfl (oa rfl rfl (oa rfl rfl ?_))))))))
 iterate 2 refine st ?_
 refine ja (Ra ?_)
 obtain rfl:=Ea h
 refine Ob rfl d0 ?_
 replace b:=((b.drop ia.z).drop ia.z).drop ia.z
 exact ⟨_,rfl,(c.t d),b⟩
 intro f h
 refine oa rfl rfl (oa rfl rfl (oa rfl rfl ?_))
 iterate 2 refine st ?_
 refine oa rfl rfl (oa rfl rfl (oa rfl rfl (oa rfl rfl ?_)))
 iterate 2 refine st ?_
 refine oa rfl rfl (oa rfl rfl (oa rfl rfl (oa rfl rfl (oa rfl rfl (oa rfl rfl (oa rfl rfl ?_))))))
 iterate 2 refine st ?_
 refine oa rfl rfl (oa rfl rfl (oa rfl rfl (oa rfl rfl (oa rfl rfl (oa rfl rfl (oa rfl rfl (oa rfl rfl (oa rfl rfl ?_))))))))
 iterate 2 refine st ?_
 refine ja (Ra ?_)
 obtain rfl:=Ea h
 refine Ob rfl d0 ?_
 replace b:=((b.drop ia.z).drop ia.z).drop ia.z
 exact ⟨_,rfl,(c.t d),b⟩
end Go.Proofs.YthoigniombcphaaGreatDoor
set_option maxRecDepth 100000
set_option maxHeartbeats 20000000
namespace Go.Proofs.YthoigniombcphaaGreatDoor
open Go.bc Go.Dc Go.Y Tryz
variable {U:Nat} {v2 v5:Value} {lg:List Value} {I:M} {J w:World} {O:List Wb}
theorem Kx (c:ga Fc I) {a:List UInt8} {r:Int} (m3:Bf I U v2) (m7:pa I lg a) (h:jq a=some r) (b:ka I J w (.ba U 53 [v2,v5]::.row v5 5 1 a.length lg::O)):Sb prog 12 [.pointer (some ⟨U,0,none⟩)] w (fun v w'=>∃ (na:M) ,v=.int .i64 r∧ga I na∧ka na J w' (.ba U 53 [v2,v5]::.row v5 5 1 a.length lg::O)):=by
 unfold jq at h
 refine enter func12 rfl (frm:=_::zd (Ge [])) rfl (ea (st (rb ?_)))
 iterate 3 refine st ?_
 refine Ha ((b.ba d0).cell d1) (wl (Ja (wj underlying49 (aa d6) (b.get d1).yj) (ma sd) (st (ja (Ra ?_)))))
 obtain rfl:=Ea h
 refine Ob rfl d2 ?_
 exact ⟨_,rfl,ga.r,b⟩
theorem oA (i:ga Fc I) {c:List UInt8} {b:UInt8} {r:Unit×List UInt8} (m3:Bf I U v2) (m7:pa I lg c) (h:Pt c b=some r) (a:ka I J w (.ba U 53 [v2,v5]::.row v5 5 1 c.length lg::O)):Sb prog 53 [.pointer (some ⟨U,0,none⟩),.int .u8 (b.toNat:Int)] w (fun v w'=>∃ (na:M) (d:Value) (v10:Value) (e:List Value),v=.nilIface∧ga I na∧ka na J w' (.ba U 53 [d,v10]::.row v10 5 1 r.2.length e::O)∧Bf na U d∧pa na e r.2):=by
 unfold Pt at h
 refine enter func53 rfl (frm:=_::_::Ge (Wf [])) rfl (ea (st (rb (st ?_))))
 refine wl (td NB nd (sa (aa d5) hb) (HA m3 a) ?_); clear a; rintro _ j ⟨rfl,a⟩; refine fa ?_
 have m13:Bf I U (.pointer (some ⟨U,0,none⟩)):=.inr rfl
 refine rb ?_
 iterate 4 refine st ?_
 refine Ha ((a.ba d0).cell d1) (st ?_)
 refine wl (xd underlying49 Iy (fb.s (aa (wa d2)) rfl fb.z) rfl rfl a ?_); clear a; intro k l m a; refine fa ?_
 obtain ⟨n,g19,h⟩:=ha h
 have m20:pa I [.int .u8 (b.toNat:Int)] [b]:=(pa.one (α:=UInt8) rfl)
 have m17:=pa.app m7 m20 g19
 refine wl (xj underlying49 Iy rfl (aa (wa d1)) (aa (wa d3)) a d2 (a.ba d0).cells m20 rfl g19 (by decide) ?_); clear a; intro o p f g a; cases (show _=f from g)
 replace a:=Sep.te a Ib; refine fa ?_
 replace a:=a.drop ia.z
 iterate 2 refine st ?_
 refine wl (Je Js (aa (wa d6)) (aa (wa d4)) (a.get d1).Me a d0 kb rfl Ga Ma ?_)
 clear a; intro q a
 refine rb (st (ja (Ra ?_)))
 obtain rfl:=Ea h
 refine Ob rfl d4 ?_
 exact ⟨_,(.pointer (some ⟨U,0,none⟩)),_,((lg++[.int .u8 (b.toNat:Int)]):List Value),rfl,ga.r,a,m13,m17⟩
theorem YA (i:ga Fc I) {c b:List UInt8} {r:Int×Unit×List UInt8} (m3:Bf I U v2) (m7:pa I lg c) (h:Xt c b=some r) (a:ka I J w (.ba U 53 [v2,v5]::.row v5 5 1 c.length lg::O)):Sb prog 54 [.pointer (some ⟨U,0,none⟩),S b] w (fun v w'=>∃ (na:M) (d:Value) (v10:Value) (e:List Value),v=.tuple ⟨[.int .i64 r.1,.nilIface]⟩∧ga I na∧ka na J w' (.ba U 53 [d,v10]::.row v10 5 1 r.2.2.length e::O)∧Bf na U d∧pa na e r.2.2):=by
 unfold Xt at h
 refine enter func54 rfl (frm:=_::_::zd (Ge (Wf []))) rfl (ea ?_)
 iterate 2 refine st ?_
 refine rb (st ?_)
 refine wl (td NB nd (sa (aa d6) hb) (HA m3 a) ?_); clear a; rintro _ j ⟨rfl,a⟩; refine fa ?_
 have m13:Bf I U (.pointer (some ⟨U,0,none⟩)):=.inr rfl
 refine rb ?_
 iterate 4 refine st ?_
 refine Ha ((a.ba d0).cell d1) (st ?_)
 obtain ⟨k,g15,h⟩:=ha h
 have m17:=pa.app m7 (pa.str b) g15
 refine wl (gF underlying49 underlying9 Iy (aa (wa d2)) (aa (wa d3)) a d1 g15 ?_); clear a; intro l m f g a; cases (show _=f from g)
 replace a:=Sep.te a kb; refine fa ?_
 iterate 2 refine st ?_
 refine wl (Je Js (aa (wa d6)) (aa (wa d4)) (a.get d1).Me a d0 kb rfl Ga Ma ?_)
 clear a; intro n a
 refine rb (st (wl (Ja (bl underlying9 (aa (wa d7))) (ma (Jb Yd)) ?_)))
 iterate 2 refine st ?_
 refine ja (Ra ?_)
 obtain rfl:=Ea h
 refine jl rfl d4 d5 ?_
 exact ⟨_,(.pointer (some ⟨U,0,none⟩)),_,((lg++Lib.strCells ⟨⟨b⟩⟩):List Value),rfl,ga.r,a,m13,m17⟩
end Go.Proofs.YthoigniombcphaaGreatDoor
set_option maxRecDepth 100000
set_option maxHeartbeats 20000000
namespace Go.Proofs.YthoigniombcphaaGreatDoor
open Go.bc Go.Dc Go.Y Tryz
variable {U Ie c2 c9 rj Cq fu jo:Nat} {xa Db od Vd:Option Addr} {v2 v5:Value} {lg:List Value} {I:M} {J w:World} {O:List Wb}
theorem Hv (d:ga Fc I) {p_1:Ya} {r:List UInt8}  (h:Hn p_1=some r) (a:ka I J w (O)):Sb prog 27 [.agg ⟨[.int .i64 p_1.Kind,S p_1.Nb]⟩] w (fun v w'=>∃ (na:M) ,v=S r∧ga I na∧ka na J w' (O)):=by
 unfold Hn at h
 refine enter func27 rfl (frm:=_::Wf []) rfl (ea ?_)
 refine wl (Ji (aa d0) rfl a ?_); clear a; intro U e f a; refine fa ?_
 refine st (ob (ea (st (Ha ((a.ba d0).cell d0) (ja (Qb (ea ?_)))))))
 iterate 2 refine st ?_
 refine ja ?_
 refine Za h ?_ ?_
 intro b h
 refine ea (st (ja (Ra ?_)))
 refine (fun h=>Ab (Fa h)) ?_
 obtain rfl:=Ea h
 refine Ob rfl d2 ?_
 replace a:=a.drop ia.z
 exact ⟨_,rfl,ga.r,a⟩
 intro b h
 refine ea ?_
 iterate 2 refine st ?_
 refine ja ?_
 refine Za h ?_ ?_
 intro c h
 refine ea (st (ja (Ra ?_)))
 refine (fun h=>Ab (Fa h)) ?_
 obtain rfl:=Ea h
 refine Ob rfl d2 ?_
 replace a:=a.drop ia.z
 exact ⟨_,rfl,ga.r,a⟩
 intro c h
 refine Va ?_
 refine (fun h=>Pb (ra h)) ?_
 refine ea (st (Ha ((a.ba d0).cell d1) (st (ja (Ra ?_)))))
 obtain rfl:=Ea h
 refine Ob rfl d2 ?_
 replace a:=a.drop ia.z
 exact ⟨_,rfl,ga.r,a⟩
theorem rE (x:ga Fc I) {p_1:Int} {r:List UInt8×Int}  (h:Ft p_1=some r) (b:ka I J w (O)):Sb prog 96 [.int .i64 p_1] w (fun v w'=>∃ (na:M) ,v=.tuple ⟨[S r.1,.int .i64 r.2]⟩∧ga I na∧ka na J w' (O)):=by
 unfold Ft at h
 refine enter func96 rfl (frm:=_::zd (zd (Wf (Xe [])))) rfl (ea ?_)
 iterate 2 refine st ?_
 refine ob (ea ?_)
 obtain ⟨y,g2,h⟩:=ha h
 refine Aa (Hz x g2 b) ?_
 rintro _ md ⟨A,a4,c5,rfl,g,b,m6⟩
 refine fa (wl (Ja (Qd underlying208 (aa d8)) (ma Ed) (st (ja (Qb ?_)))))
 refine Se (rg 2 6++rg 11 19) (by decide +kernel) (fun n m w=>∃ c i27,m=(vf (ml 2 (vf (.i (.int .i64 i27)::(Rc 11 (Rl 21 []))))))∧mv p_1 y n i27=some r∧ga A c∧ka c J w (O)) (by rintro _ _ _ ⟨_,_,rfl,_⟩; rfl) _ _ (Yc (di (Yc (Na (qb (Uh ta)))))) ⟨_,0,rfl,h,ga.r,b⟩ ?_
 rintro k _ t rd ⟨B,i27,rfl,h,d,b⟩
 rcases k with _|k
 cases h
 unfold mv at h
 refine Te (Jf (Em (Jf (kc (Wc (Ym pb)))))) (ea (st (ob ?_)))
 refine Za h ?_ ?_
 intro C h
 refine Va (ra (db (Qb (ea (st ?_)))))
 obtain ⟨wd,D,h⟩:=ha h
 obtain ⟨Fd,Id,be,E,f56,F⟩:=Pc.elem (m6.up d) D
 obtain ⟨G,rfl,H⟩:=F
 refine wl (Ja (Mc underlying208 Um (aa d8) (aa (wa d0)) E) (ma (Jb ec)) (Ae (f56 _ b.a) rfl ?_))
 refine wl (bd Um b ?_); clear b; intro ce ge he b; refine fa ?_
 refine st (wl (yb Um (aa d5) (aa (wa d4)) rfl rfl b d0 rfl Ga Ma ?_))
 clear b; intro le b
 refine rb (st (Ha ((b.ba d0).cell d0) ?_))
 obtain ⟨K,p,l,e⟩:=H
 refine wl (DA underlying75 (aa (wa d6)) b (l _ b.a) ?_); clear b; intro L ne Ne b; refine fa ?_
 refine ja (Qb ?_)
 obtain ⟨of,q,h⟩:=ha h
 replace b:=b.drop (ia.s ia.z)
 refine Se (rg 2 2++rg 6 2++rg 18 11) (by decide) (fun n m w=>∃ c j,m=(vf (xf 2 (vf (xf 6 (yd (Rc 18 (Sc 28 [])))))))∧some r=some r∧ga B c∧ka c J w (.aj L G p j p::O)∧zC c K j p_1 n) (by rintro _ _ _ ⟨_,_,rfl,_⟩; rfl) _ _ (Yc (Zc (Yc (Zc (xb (qb (lb ta))))))) ⟨_,[],rfl,rfl,ga.r,b,Sj.start⟩ ?_
 rintro wf _ t If ⟨dg,j,rfl,_,f,b,u⟩
 refine Te (Jf (Kf (Jf (Kf (Dd (Wc (Xc pb))))))) (ea ?_)
 refine wl (hB (aa (wa d7)) b d0 (l _ (f _ b.a)) e ?_ ?_)
 clear b; intro bi ci N o ii P Q b; cases (show _=P from Q)
 replace b:=Sep.te b Ga; refine fa ?_
 refine st (ob (Bm (aa (wa d9)) (Va (ra (Qb (ea (wl (EA (aa (wa d7)) b d0 (l _ (f _ b.a)) e o (ma (oc Ga)) ?_))))))))
 iterate 4 refine st ?_
 refine rb ?_
 iterate 3 refine st ?_
 refine ja ?_
 refine uy (aa (Sa d5)) (fun R=>?_) (fun T=>?_)
 obtain ⟨V,W⟩:=Sj.hit e o R q; subst W; replace h:=ao V h
 refine ea ?_
 iterate 2 refine st ?_
 obtain ⟨i87,X,h⟩:=ha h
 refine wl (Ja (Gd (aa (Sa d7)) Ba X) (ma (oc Yd)) ?_)
 iterate 2 refine st ?_
 refine ja (Ra ((fun h=>Ab (Fa (Ab (Ab (Fa (Fa (Ab (Fa h)))))))) ?_))
 obtain rfl:=Ea h
 refine jl rfl d2 d3 ?_
 replace b:=b.drop ia.z
 exact ⟨_,rfl,(g.t (d.t f)),b⟩
 obtain ⟨Y,Z,gc⟩:=Sj.step u e o T
 refine Va ?_
 refine (fun h=>Pb (za h)) ?_
 exact ⟨Y,_,_,rfl,(Yc (Zc (Yc (Zc (xb (qb (lb ta))))))),⟨_,(j++[N]),rfl,rfl,f,b,gc⟩,Z⟩
 intro lc; replace h:=bo (Sj.fin u e lc q) h; refine fa ?_
 refine st (ob (Cp (aa (wa d9)) (ke ?_)))
 refine (fun h=>jc (jc (pe h))) ?_
 refine (fun h=>Pb (ra h)) ?_
 refine eb ?_
 obtain ⟨i89,rc,h⟩:=ha h
 refine wl (Ja (Gd (aa (wa d0)) Ba rc) (ma (oc Ed)) (st (La (za ?_))))
 replace b:=b.drop ia.z
 exact ⟨k,_,_,rfl,(Yc (di (Yc (Na (qb (Uh ta)))))),⟨_,i89,rfl,h,(d.t f),b⟩,Nat.lt_succ_self _⟩
 intro C h
 refine ke ?_
 refine (fun h=>jc (jc (pe h))) ?_
 refine ra (db (ea (st (ja (Qb (ea ?_))))))
 iterate 2 refine st ?_
 refine ja ?_
 refine Za h ?_ ?_
 intro fd h
 refine ea ?_
 iterate 2 refine st ?_
 refine ja (Ra ?_)
 refine (fun h=>Ab (Fa h)) ?_
 obtain rfl:=Ea h
 refine jl rfl d2 d3 ?_
 exact ⟨_,rfl,(g.t d),b⟩
 intro fd h
 refine ea ?_
 iterate 2 refine st ?_
 refine ja ?_
 refine Za h ?_ ?_
 intro id h
 refine ea ?_
 iterate 2 refine st ?_
 refine ja (Ra ?_)
 refine (fun h=>Ab (Fa h)) ?_
 obtain rfl:=Ea h
 refine jl rfl d2 d3 ?_
 exact ⟨_,rfl,(g.t d),b⟩
 intro id h
 refine Va ?_
 refine (fun h=>Pb (ra h)) ?_
 refine ea ?_
 iterate 2 refine st ?_
 refine ja (Ra ?_)
 obtain rfl:=Ea h
 refine jl rfl d2 d3 ?_
 exact ⟨_,rfl,(g.t d),b⟩
theorem Mm {I:M} {J w:World} {O:List Wb} (q:ga Fc I) {U:Nat} {v2:Value} {g:List UInt8} {v5:Value} {lg:List Value} {f:List (List UInt8)} {Db:Option Addr} {c9:Nat} {r:List UInt8} (m3:Bf I U v2) (m7:pa I lg g) (m10:Ka I Db c9 f) (h:hk g f=some r) (b:ka I J w (.ba U 53 [v2,v5]::.row v5 5 1 g.length lg::O)):Kt prog 26 [.pointer (some ⟨U,0,none⟩),.slice Db f.length c9] w (fun v w'=>∃ (na:M) (v11:Value) (B:Value) (C:List Value),v=.tuple ⟨[]⟩∧ga I na∧ka na J w' (.ba U 53 [v11,B]::.row B 5 1 r.length C::O)∧Bf na U v11∧pa na C r):=by
 unfold hk at h
 refine Qx func26 rfl (frm:=[_,_,_,_,_,_,_,_,_,_,_,_,_,_,_,_,_,_,_,_,_,_,_,_,_,_,_]) rfl (ea (st (wl (Ja (Qd underlying131 (aa d6)) (ma sd) (st (ja (Qb ?_)))))))
 refine Se ([5]++rg 9 18) (by decide) (fun n m w=>∃ c i51 s j u x,m=(ng (Sc 5 (vf (.i (.int .i64 i51)::(Rc 9 (ei 19 []))))))∧qo f n i51 j=some r∧ga I c∧ka c J w (.ba U 53 [s,u]::.row u 5 1 j.length x::O)∧Bf c U s∧pa c x j) (by rintro _ _ _ ⟨_,_,_,_,_,_,rfl,_⟩; rfl) _ _ (ie (lb (Yc (Na (qb (ag ta)))))) ⟨_,0,v2,g,v5,lg,rfl,h,ga.r,b,m3,m7⟩ ?_
 rintro k _ t rd ⟨wd,i51,s,j,u,x,rfl,h,e,b,l,o⟩
 rcases k with _|k
 cases h
 unfold qo at h
 refine Te (Ag (Xc (Jf (kc (Wc (xi pb)))))) (ea (st (ob ?_)))
 refine Za h ?_ ?_
 intro E h
 refine Va (ra (db (Qb (ea ?_))))
 obtain ⟨F,G,h⟩:=ha h
 obtain ⟨Fd,Id,be,H,f103,K⟩:=Pc.elem (m10.up e) G
 obtain rfl:=K
 refine wl (Ja (Mc underlying131 Hb (aa d6) (aa d8) H) (ma (Jb Ga)) (Ha ((f103 _ b.a).one d0) (st (ob (ea ?_)))))
 iterate 3 refine st ?_
 obtain ⟨ce,L,h⟩:=ha h
 replace b:=(b.da Da).da Da
 refine Aa (Kx (q.t e) l o L b) ?_
 rintro _ ge ⟨N,rfl,d,b⟩
 refine fa (st (ja ?_))
 refine Ub (rg 17 4) (by decide) (fun m w=>∃ c y p z A,m=(yd (rh (Ih 17 [])))∧uv i51 F (qo f k) p=some r∧ga N c∧ka c J w (.ba U 53 [y,z]::.row z 5 1 p.length A::O)∧Bf c U y∧pa c A p) (by rintro _ _ ⟨_,_,_,_,_,rfl,_⟩; rfl) ?_ ?_
 refine Za h ?_ ?_
 intro P h
 refine eb ?_
 iterate 3 refine st ?_
 obtain ⟨Q,R,h⟩:=ha h
 replace b:=(b.da Da).da Da
 refine Aa (oA (q.t (e.t d)) (l.up d) (o.up d) R b) ?_
 rintro _ he ⟨le,ne,Ne,of,rfl,S,b,T,V⟩
 refine fa (La (za ?_))
 exact ⟨_,_,rfl,(xb (cf (pf ta))),_,_,Q.2,_,_,rfl,h,S,b,T,V⟩
 intro P h
 refine Va (za ?_)
 exact ⟨_,_,rfl,(xb (cf (pf ta))),_,_,_,_,_,rfl,h,ga.r,b,(l.up d),(o.up d)⟩
 rintro _ t wf ⟨If,y,p,z,A,rfl,h,D,b,W,X⟩
 unfold uv at h
 refine Vb (Dd (Jh (ai pb))) (ra (eb ?_))
 iterate 4 refine st ?_
 obtain ⟨Y,Z,h⟩:=ha h
 replace b:=(b.da Da).da Da
 refine Aa (YA (q.t (e.t (d.t D))) W X Z b) ?_
 rintro _ dg ⟨bi,gc,v131,lc,rfl,rc,b,fd,id⟩
 refine fa (La ?_)
 refine (fun h=>Pb (ra h)) ?_
 refine eb ?_
 obtain ⟨i134,md,h⟩:=ha h
 refine wl (Ja (Gd (aa d8) Ba md) (ma (oc ad)) (st (La (za ?_))))
 exact ⟨k,_,_,rfl,(ie (lb (Yc (Na (qb (ag ta)))))),⟨_,i134,gc,Y.2.2,v131,lc,rfl,h,(e.t (d.t (D.t rc))),b,fd,id⟩,Nat.lt_succ_self _⟩
 intro E h
 refine ke ?_
 refine (fun h=>jc (jc (pe h))) ?_
 obtain rfl:=Ea h
 refine Li rfl ?_
 exact ⟨_,_,_,_,rfl,e,b,l,o⟩
theorem Df (q:ga Fc I) {g:List UInt8} {f:List (List UInt8)} {r:List UInt8} (m3:Bf I U v2) (m7:pa I lg g) (m10:Ka I Db c9 f) (h:De g f=some r) (b:ka I J w (.ba U 53 [v2,v5]::.row v5 5 1 g.length lg::O)):Sb prog 26 [.pointer (some ⟨U,0,none⟩),.slice Db f.length c9] w (fun v w'=>∃ (na:M) (v11:Value) (B:Value) (C:List Value),v=.tuple ⟨[]⟩∧ga I na∧ka na J w' (.ba U 53 [v11,B]::.row B 5 1 r.length C::O)∧Bf na U v11∧pa na C r):=by
 unfold De at h
 refine enter func26 rfl (frm:=_::_::Ge (Xe [])) rfl (ea (st (wl (Ja (Qd underlying131 (aa d6)) (ma sd) (st (ja (Qb ?_)))))))
 refine Se ([5]++rg 9 18) (by decide) (fun n m w=>∃ c i51 s j u x,m=(ng (Sc 5 (vf (.i (.int .i64 i51)::(Rc 9 (ei 19 []))))))∧Gl f n i51 j=some r∧ga I c∧ka c J w (.ba U 53 [s,u]::.row u 5 1 j.length x::O)∧Bf c U s∧pa c x j) (by rintro _ _ _ ⟨_,_,_,_,_,_,rfl,_⟩; rfl) _ _ (ie (lb (Yc (Na (qb (ag ta)))))) ⟨_,0,v2,g,v5,lg,rfl,h,ga.r,b,m3,m7⟩ ?_
 rintro k _ t rd ⟨wd,i51,s,j,u,x,rfl,h,e,b,l,o⟩
 rcases k with _|k
 cases h
 unfold Gl at h
 refine Te (Ag (Xc (Jf (kc (Wc (xi pb)))))) (ea (st (ob ?_)))
 refine Za h ?_ ?_
 intro E h
 refine Va (ra (db (Qb (ea ?_))))
 obtain ⟨F,G,h⟩:=ha h
 obtain ⟨Fd,Id,be,H,f103,K⟩:=Pc.elem (m10.up e) G
 obtain rfl:=K
 refine wl (Ja (Mc underlying131 Hb (aa d6) (aa d8) H) (ma (Jb Ga)) (Ha ((f103 _ b.a).one d0) (st (ob (ea ?_)))))
 iterate 3 refine st ?_
 obtain ⟨ce,L,h⟩:=ha h
 replace b:=(b.da Da).da Da
 refine Aa (Kx (q.t e) l o L b) ?_
 rintro _ ge ⟨N,rfl,d,b⟩
 refine fa (st (ja ?_))
 refine Ub (rg 17 4) (by decide) (fun m w=>∃ c y p z A,m=(yd (rh (Ih 17 [])))∧Rr i51 F (Gl f k) p=some r∧ga N c∧ka c J w (.ba U 53 [y,z]::.row z 5 1 p.length A::O)∧Bf c U y∧pa c A p) (by rintro _ _ ⟨_,_,_,_,_,rfl,_⟩; rfl) ?_ ?_
 refine Za h ?_ ?_
 intro P h
 refine eb ?_
 iterate 3 refine st ?_
 obtain ⟨Q,R,h⟩:=ha h
 replace b:=(b.da Da).da Da
 refine Aa (oA (q.t (e.t d)) (l.up d) (o.up d) R b) ?_
 rintro _ he ⟨le,ne,Ne,of,rfl,S,b,T,V⟩
 refine fa (La (za ?_))
 exact ⟨_,_,rfl,(xb (cf (pf ta))),_,_,Q.2,_,_,rfl,h,S,b,T,V⟩
 intro P h
 refine Va (za ?_)
 exact ⟨_,_,rfl,(xb (cf (pf ta))),_,_,_,_,_,rfl,h,ga.r,b,(l.up d),(o.up d)⟩
 rintro _ t wf ⟨If,y,p,z,A,rfl,h,D,b,W,X⟩
 unfold Rr at h
 refine Vb (Dd (Jh (ai pb))) (ra (eb ?_))
 iterate 4 refine st ?_
 obtain ⟨Y,Z,h⟩:=ha h
 replace b:=(b.da Da).da Da
 refine Aa (YA (q.t (e.t (d.t D))) W X Z b) ?_
 rintro _ dg ⟨bi,gc,v131,lc,rfl,rc,b,fd,id⟩
 refine fa (La ?_)
 refine (fun h=>Pb (ra h)) ?_
 refine eb ?_
 obtain ⟨i134,md,h⟩:=ha h
 refine wl (Ja (Gd (aa d8) Ba md) (ma (oc ad)) (st (La (za ?_))))
 exact ⟨k,_,_,rfl,(ie (lb (Yc (Na (qb (ag ta)))))),⟨_,i134,gc,Y.2.2,v131,lc,rfl,h,(e.t (d.t (D.t rc))),b,fd,id⟩,Nat.lt_succ_self _⟩
 intro E h
 refine ke ?_
 refine (fun h=>jc (jc (pe h))) ?_
 obtain rfl:=Ea h
 refine Li rfl ?_
 exact ⟨_,_,_,_,rfl,e,b,l,o⟩
def pA (q:(List UInt8)→ua→Int→Option (List UInt8)):Prop:=∀ {I:M} {J w:World} {O:List Wb} (f:ga Fc I) {U:Nat} {v2:Value} {b:List UInt8} {v5:Value} {lg:List Value} {a:ua} {Ie jo:Nat} {od:Option Addr} {rj:Nat} {p_3:Int} {r:List UInt8} (m3:Bf I U v2) (m7:pa I lg b) (m12:Ka I od rj a.Kids) (m13:dd I Ie jo [.int .i64 a.Kind,.int .i64 a.N,S a.Name,.slice od a.Kids.length rj]) (h:q b a p_3=some r) (g:ka I J w (.ba U 53 [v2,v5]::.row v5 5 1 b.length lg::O)),Sb prog 73 [.pointer (some ⟨U,0,none⟩),.pointer (some ⟨Ie,jo,none⟩),.int .i64 p_3] w (fun v w'=>∃ (na:M) (c:Value) (d:Value) (e:List Value),v=.tuple ⟨[]⟩∧ga I na∧ka na J w' (.ba U 53 [c,d]::.row d 5 1 r.length e::O)∧Bf na U c∧pa na e r)
def qA (q:(List UInt8)→(List ua)→Option (List UInt8)):Prop:=∀ {I:M} {J w:World} {O:List Wb} (e:ga Fc I) {U:Nat} {v2:Value} {a:List UInt8} {v5:Value} {lg:List Value} {b:List ua} {Db:Option Addr} {c9:Nat} {r:List UInt8} (m3:Bf I U v2) (m7:pa I lg a) (m10:Ka I Db c9 b) (h:q a b=some r) (f:ka I J w (.ba U 53 [v2,v5]::.row v5 5 1 a.length lg::O)),Sb prog 98 [.pointer (some ⟨U,0,none⟩),.slice Db b.length c9] w (fun v w'=>∃ (na:M) (v11:Value) (c:Value) (d:List Value),v=.tuple ⟨[]⟩∧ga I na∧ka na J w' (.ba U 53 [v11,c]::.row c 5 1 r.length d::O)∧Bf na U v11∧pa na d r)
structure Lx (a:qk):Prop where
  gg:pA a.gg
  Qg:qA a.Qg
theorem XE {self:qk} (n:Lx self):pA (gg self):=by
 intro I J w O j U v2 wd v5 lg k Ie jo od rj p_3 r m3 m7 m12 m13 h b
 unfold gg at h
 refine qs func73 rfl (frm:=_::_::_::zd (zd (Ge (Wf (Ze (Ze (Ze []))))))) rfl (ea ?_)
 iterate 3 refine st ?_
 refine Ha ((m13 _ b.a).one d0) ?_
 obtain ⟨x,g20,h⟩:=ha h
 refine Aa (rE j g20 b) ?_
 rintro _ dQ ⟨go,rfl,c,b⟩
 refine fa ?_
 iterate 5 refine st ?_
 refine ob (ea ?_)
 iterate 3 refine st ?_
 refine ja ?_
 refine Za h ?_ ?_
 intro io h
 refine ea (st ?_)
 refine wl (xd underlying131 Hb (fb.s Ba rfl fb.z) rfl rfl b ?_); clear b; intro eQ fQ gQ b; refine fa ?_
 obtain ⟨hQ,d,no,b⟩:=Sep.ud (l:=([[40]]:List (List UInt8))) b (pa.one (α:=List UInt8) rfl) (Nat.le_of_ble_eq_true rfl)
 obtain ⟨Fd,ro,h⟩:=ha h
 replace b:=(b.da Da).da Da
 refine Aa (Df (j.t (c.t d)) (m3.up (c.t d)) (m7.up (c.t d)) no ro b) ?_
 rintro _ iQ ⟨to,v30,Id,em,rfl,f,b,p,q⟩
 refine fa (ja (eb (st ?_)))
 refine wl (xd underlying131 Hb (fb.s Ba rfl fb.z) rfl rfl b ?_); clear b; intro hm jQ kQ b; refine fa ?_
 refine wl (Bo nd (sa (aa (Sa d3)) (sa (aa (Sa d4)) hb)) Ma (rb ?_))
 iterate 3 refine st ?_
 refine Ha ((m13 _ ((c.t (d.t f)) _ b.a)).one d0) (ja (Qb (ea ?_)))
 iterate 2 refine st ?_
 refine ja ?_
 refine Za h ?_ ?_
 intro Do h
 refine eb ?_
 iterate 4 refine st ?_
 refine Ha ((m13 _ ((c.t (d.t f)) _ b.a)).one d1) ?_
 obtain ⟨Go,ap,h⟩:=ha h
 refine wl (td OB nd (sa (aa (Gc d1)) (sa Ba hb)) (gC (j.t (c.t (d.t f))) ap b) ?_); clear b; rintro _ lQ ⟨rfl,b⟩; refine fa ?_
 refine wl (xd underlying131 Hb (fb.s (aa (Gc d2)) rfl fb.z) rfl rfl b ?_); clear b; intro mQ nQ oQ b; refine fa ?_
 obtain ⟨pQ,T,ip,b⟩:=Sep.ud (l:=([Go]:List (List UInt8))) b (pa.one (α:=List UInt8) rfl) (Nat.le_of_ble_eq_true rfl)
 obtain ⟨qQ,jp,h⟩:=ha h
 replace b:=(b.da Eb).da Eb
 refine Aa (Df (j.t (c.t (d.t (f.t T)))) (p.up T) (q.up T) ip jp b) ?_
 rintro _ rQ ⟨sQ,tQ,v49,uQ,rfl,lm,b,mp,op⟩
 refine fa (La (Pb (wi ?_)))
 replace b:=b.da Eb
 obtain ⟨vQ,be,pp,b⟩:=Sep.ud (l:=([[41]]:List (List UInt8))) b (pa.one (α:=List UInt8) rfl) (Nat.le_of_ble_eq_true rfl)
 obtain ⟨wQ,sp,h⟩:=ha h
 replace b:=(b.da Da).da Da
 refine mj yk (Mm (j.t (c.t (d.t (f.t (T.t (lm.t be)))))) (mp.up be) (op.up be) pp sp b) ?_
 rintro _ Mf ⟨xQ,yQ,v59,zQ,rfl,wp,b,Op,eq⟩
 obtain rfl:=Ea h
 refine vg rfl Qa.z ?_
 exact ⟨_,_,_,_,rfl,(c.t (d.t (f.t (T.t (lm.t (be.t wp)))))),b,Op,eq⟩
 intro Do h
 refine ea ?_
 iterate 2 refine st ?_
 refine ja ?_
 refine Za h ?_ ?_
 intro Eq h
 refine eb (st ?_)
 refine wl (xd underlying131 Hb (fb.s Ba rfl (fb.s Ba rfl fb.z)) rfl rfl b ?_); clear b; intro AQ BQ CQ b; refine fa ?_
 iterate 3 refine st ?_
 refine Ha ((m13 _ ((c.t (d.t f)) _ b.a)).one d1) ?_
 obtain ⟨DQ,V,fr,b⟩:=Sep.ud (l:=([[102,97,108,115,101],[116,114,117,101]]:List (List UInt8))) b (pa.cons (α:=List UInt8) (cs:=[S [102,97,108,115,101]]) rfl (pa.cons (α:=List UInt8) (cs:=[S [116,114,117,101]]) rfl pa.nil)) (Nat.le_of_ble_eq_true rfl)
 obtain ⟨or,qr,h⟩:=ha h
 obtain ⟨EQ,FQ,GQ,wr,f73,Fr⟩:=Pc.elem fr qr
 obtain rfl:=Fr
 refine wl (Ja (Mc underlying131 Hb (aa (Gc d8)) (aa (Oc d2)) wr) (ma (Zf ec)) (Ha ((f73 _ b.a).one d0) ?_))
 refine wl (xd underlying131 Hb (fb.s (aa (Oc d4)) rfl fb.z) rfl rfl b ?_); clear b; intro HQ IQ JQ b; refine fa ?_
 obtain ⟨KQ,W,Or,b⟩:=Sep.ud (l:=([or]:List (List UInt8))) b (pa.one (α:=List UInt8) rfl) (Nat.le_of_ble_eq_true rfl)
 obtain ⟨LQ,ds,h⟩:=ha h
 replace b:=(b.da Eb).da Eb
 refine Aa (Df (j.t (c.t (d.t (f.t (V.t W))))) (p.up (V.t W)) (q.up (V.t W)) Or ds b) ?_
 rintro _ MQ ⟨NQ,OQ,PQ,QQ,rfl,pm,b,es,gs⟩
 refine fa (La (Pb (wi ?_)))
 replace b:=b.da Eb
 obtain ⟨RQ,ce,is,b⟩:=Sep.ud (l:=([[41]]:List (List UInt8))) b (pa.one (α:=List UInt8) rfl) (Nat.le_of_ble_eq_true rfl)
 obtain ⟨SQ,ls,h⟩:=ha h
 replace b:=(b.da Da).da Da
 refine mj yk (Mm (j.t (c.t (d.t (f.t (V.t (W.t (pm.t ce))))))) (es.up ce) (gs.up ce) is ls b) ?_
 rintro _ TQ ⟨UQ,VQ,WQ,XQ,rfl,ms,b,os,rs⟩
 obtain rfl:=Ea h
 refine vg rfl Qa.z ?_
 exact ⟨_,_,_,_,rfl,(c.t (d.t (f.t (V.t (W.t (pm.t (ce.t ms))))))),b,os,rs⟩
 intro Eq h
 refine ea ?_
 iterate 2 refine st ?_
 refine ja ?_
 refine Za h ?_ ?_
 intro us h
 refine eb ?_
 iterate 4 refine st ?_
 refine Ha ((m13 _ ((c.t (d.t f)) _ b.a)).one d2) ?_
 refine wl (xd underlying131 Hb (fb.s (aa (Nc d3)) rfl fb.z) rfl rfl b ?_); clear b; intro YQ ZQ aR b; refine fa ?_
 obtain ⟨bR,X,vs,b⟩:=Sep.ud (l:=([k.Name]:List (List UInt8))) b (pa.one (α:=List UInt8) rfl) (Nat.le_of_ble_eq_true rfl)
 obtain ⟨cR,ws,h⟩:=ha h
 replace b:=(b.da Eb).da Eb
 refine Aa (Df (j.t (c.t (d.t (f.t X)))) (p.up X) (q.up X) vs ws b) ?_
 rintro _ dR ⟨eR,v105,v107,fR,rfl,sm,b,xs,ys⟩
 refine fa (La (Pb (wi ?_)))
 replace b:=b.da Eb
 obtain ⟨gR,ge,Os,b⟩:=Sep.ud (l:=([[41]]:List (List UInt8))) b (pa.one (α:=List UInt8) rfl) (Nat.le_of_ble_eq_true rfl)
 obtain ⟨hR,gt,h⟩:=ha h
 replace b:=(b.da Da).da Da
 refine mj yk (Mm (j.t (c.t (d.t (f.t (X.t (sm.t ge)))))) (xs.up ge) (ys.up ge) Os gt b) ?_
 rintro _ iR ⟨jR,kR,v117,lR,rfl,it,b,lt,mt⟩
 obtain rfl:=Ea h
 refine vg rfl Qa.z ?_
 exact ⟨_,_,_,_,rfl,(c.t (d.t (f.t (X.t (sm.t (ge.t it)))))),b,lt,mt⟩
 intro us h
 refine db (ea ?_)
 iterate 2 refine st ?_
 refine ja ?_
 refine Ub ([88]) (by decide) (fun m w=>∃ u ol,m=(Sd (qc (yd (Og (.i (.bool ol)::(kh (Sc 88 [])))))))∧Cr self k x Fd ol=some r∧ga to u∧ka u J w (.ba U 53 [v30,Id]::.row Id 5 1 Fd.length em::.ba hm 9 [S [41]]::O)) (by rintro _ _ ⟨_,_,rfl,_⟩; rfl) ?_ ?_
 refine Za h ?_ ?_
 intro rt h
 refine Va (za ?_)
 replace b:=(b.da Eb).da Eb
 exact ⟨_,_,rfl,(Yb (Xa (xb (ye (Na (Ee (lb ta))))))),_,(decide (k.Kind=4)),rfl,h,ga.r,b⟩
 intro rt h
 refine eb ?_
 iterate 2 refine st ?_
 refine La (za ?_)
 replace b:=(b.da Eb).da Eb
 exact ⟨_,_,rfl,(Yb (Xa (xb (ye (Na (Ee (lb ta))))))),_,(decide (k.Kind=5)),rfl,h,ga.r,b⟩
 rintro _ t mR ⟨ut,ol,rfl,h,e,b⟩
 unfold Cr at h
 refine Vb (Ud (vc (Dd (Zg (kc (zh (Xc pb))))))) (ra ?_)
 refine ed h ?_ ?_
 intro wt h
 refine ea ?_
 iterate 2 refine st ?_
 refine wl (xd underlying131 Hb (fb.s (aa (fe d0)) rfl fb.z) rfl rfl b ?_); clear b; intro nR oR pR b; refine fa ?_
 obtain ⟨qR,A,fu,b⟩:=Sep.ud (l:=([x.1]:List (List UInt8))) b (pa.one (α:=List UInt8) rfl) (Nat.le_of_ble_eq_true rfl)
 obtain ⟨rR,hu,h⟩:=ha h
 replace b:=(b.da Da).da Da
 refine Aa (Df (j.t (c.t (d.t (f.t (e.t A))))) (p.up (e.t A)) (q.up (e.t A)) fu hu b) ?_
 rintro _ sR ⟨tR,v131,uR,vR,rfl,Y,b,pu,bv⟩
 refine fa (ja (eb ?_))
 iterate 4 refine st ?_
 refine Ha ((m13 _ ((c.t (d.t (f.t (e.t (A.t Y))))) _ b.a)).one d3) ?_
 obtain ⟨wR,hw,h⟩:=ha h
 obtain ⟨xR,yR,zR,kw,f142,lw⟩:=Pc.elem (m12.up (c.t (d.t (f.t (e.t (A.t Y)))))) hw
 obtain ⟨AR,c145,rfl,ww⟩:=ua.o lw
 refine wl (Ja (Mc underlying122 pc (aa (fe d7)) Ba kw) (ma (Zh Yd)) ?_)
 obtain ⟨BR,ex,h⟩:=ha h
 replace b:=(b.da Da).da Da
 refine Aa (n.gg (j.t (c.t (d.t (f.t (e.t (A.t Y)))))) pu bv ww f142 ex b) ?_
 rintro _ CR ⟨DR,ER,v152,FR,rfl,Nm,b,rx,xx⟩
 refine fa (La (Pb (wi ?_)))
 replace b:=b.da Eb
 obtain ⟨GR,he,zx,b⟩:=Sep.ud (l:=([[41]]:List (List UInt8))) b (pa.one (α:=List UInt8) rfl) (Nat.le_of_ble_eq_true rfl)
 obtain ⟨HR,ty,h⟩:=ha h
 replace b:=(b.da Da).da Da
 refine mj yk (Mm (j.t (c.t (d.t (f.t (e.t (A.t (Y.t (Nm.t he)))))))) (rx.up he) (xx.up he) zx ty b) ?_
 rintro _ IR ⟨JR,v160,v162,KR,rfl,sz,b,Rz,AC⟩
 obtain rfl:=Ea h
 refine vg rfl Qa.z ?_
 exact ⟨_,_,_,_,rfl,(c.t (d.t (f.t (e.t (A.t (Y.t (Nm.t (he.t sz)))))))),b,Rz,AC⟩
 intro wt h
 refine ea ?_
 iterate 2 refine st ?_
 refine ja ?_
 refine Za h ?_ ?_
 intro GE h
 refine eb ?_
 iterate 4 refine st ?_
 refine Ha ((m13 _ ((c.t (d.t (f.t e))) _ b.a)).one d2) ?_
 refine wl (xd underlying131 Hb (fb.s Ba rfl (fb.s Ba rfl (fb.s (aa (Pa d6)) rfl (fb.s Ba rfl fb.z)))) rfl rfl b ?_); clear b; intro LR MR NR b; refine fa ?_
 obtain ⟨OR,Z,LE,b⟩:=Sep.ud (l:=([[114,101,99,118],[40],k.Name,[41]]:List (List UInt8))) b (pa.cons (α:=List UInt8) (cs:=[S [114,101,99,118]]) rfl (pa.cons (α:=List UInt8) (cs:=[S [40]]) rfl (pa.cons (α:=List UInt8) (cs:=[S k.Name]) rfl (pa.cons (α:=List UInt8) (cs:=[S [41]]) rfl pa.nil)))) (Nat.le_of_ble_eq_true rfl)
 obtain ⟨PR,NE,h⟩:=ha h
 replace b:=(b.da Da).da Da
 refine Aa (Df (j.t (c.t (d.t (f.t (e.t Z))))) (p.up (e.t Z)) (q.up (e.t Z)) LE NE b) ?_
 rintro _ QR ⟨RR,v173,v175,SR,rfl,fn,b,WF,RK⟩
 refine fa (La (Pb (wi ?_)))
 replace b:=b.da Eb
 obtain ⟨TR,le,WL,b⟩:=Sep.ud (l:=([[41]]:List (List UInt8))) b (pa.one (α:=List UInt8) rfl) (Nat.le_of_ble_eq_true rfl)
 obtain ⟨UR,XL,h⟩:=ha h
 replace b:=(b.da Da).da Da
 refine mj yk (Mm (j.t (c.t (d.t (f.t (e.t (Z.t (fn.t le))))))) (WF.up le) (RK.up le) WL XL b) ?_
 rintro _ VR ⟨WR,v183,XR,YR,rfl,YL,b,ZL,aM⟩
 obtain rfl:=Ea h
 refine vg rfl Qa.z ?_
 exact ⟨_,_,_,_,rfl,(c.t (d.t (f.t (e.t (Z.t (fn.t (le.t YL))))))),b,ZL,aM⟩
 intro GE h
 refine ea ?_
 iterate 2 refine st ?_
 refine ja ?_
 refine Za h ?_ ?_
 intro bM h
 refine ea (st ?_)
 refine wl (xd underlying131 Hb (fb.s Ba rfl fb.z) rfl rfl b ?_); clear b; intro ZR aS bS b; refine fa ?_
 obtain ⟨cS,B,cM,b⟩:=Sep.ud (l:=([[121,105,101,108,100]]:List (List UInt8))) b (pa.one (α:=List UInt8) rfl) (Nat.le_of_ble_eq_true rfl)
 obtain ⟨dS,dM,h⟩:=ha h
 replace b:=(b.da Da).da Da
 refine Aa (Df (j.t (c.t (d.t (f.t (e.t B))))) (p.up (e.t B)) (q.up (e.t B)) cM dM b) ?_
 rintro _ eS ⟨fS,v196,v198,gS,rfl,gc,b,eM,fM⟩
 refine fa (ja (eb ?_))
 iterate 4 refine st ?_
 refine Ha ((m13 _ ((c.t (d.t (f.t (e.t (B.t gc))))) _ b.a)).one d3) ?_
 obtain ⟨hS,gM,h⟩:=ha h
 replace b:=(b.da Da).da Da
 refine Aa (n.Qg (j.t (c.t (d.t (f.t (e.t (B.t gc)))))) eM fM (m12.up (c.t (d.t (f.t (e.t (B.t gc)))))) gM b) ?_
 rintro _ iS ⟨jS,kS,v206,lS,rfl,on,b,hM,iM⟩
 refine fa (La (Pb (wi ?_)))
 replace b:=b.da Eb
 obtain ⟨mS,ne,jM,b⟩:=Sep.ud (l:=([[41]]:List (List UInt8))) b (pa.one (α:=List UInt8) rfl) (Nat.le_of_ble_eq_true rfl)
 obtain ⟨nS,kM,h⟩:=ha h
 replace b:=(b.da Da).da Da
 refine mj yk (Mm (j.t (c.t (d.t (f.t (e.t (B.t (gc.t (on.t ne)))))))) (hM.up ne) (iM.up ne) jM kM b) ?_
 rintro _ oS ⟨pS,qS,rS,sS,rfl,lM,b,mM,nM⟩
 obtain rfl:=Ea h
 refine vg rfl Qa.z ?_
 exact ⟨_,_,_,_,rfl,(c.t (d.t (f.t (e.t (B.t (gc.t (on.t (ne.t lM)))))))),b,mM,nM⟩
 intro bM h
 refine ea ?_
 iterate 2 refine st ?_
 refine ja ?_
 refine Za h ?_ ?_
 intro oM h
 refine ea (st ?_)
 refine wl (xd underlying131 Hb (fb.s Ba rfl fb.z) rfl rfl b ?_); clear b; intro tS uS vS b; refine fa ?_
 obtain ⟨wS,C,pM,b⟩:=Sep.ud (l:=([[114,101,115,117,109,101]]:List (List UInt8))) b (pa.one (α:=List UInt8) rfl) (Nat.le_of_ble_eq_true rfl)
 obtain ⟨xS,qM,h⟩:=ha h
 replace b:=(b.da Da).da Da
 refine Aa (Df (j.t (c.t (d.t (f.t (e.t C))))) (p.up (e.t C)) (q.up (e.t C)) pM qM b) ?_
 rintro _ yS ⟨zS,v227,v229,AS,rfl,lc,b,rM,sM⟩
 refine fa (ja (eb ?_))
 iterate 4 refine st ?_
 refine Ha ((m13 _ ((c.t (d.t (f.t (e.t (C.t lc))))) _ b.a)).one d3) ?_
 obtain ⟨BS,tM,h⟩:=ha h
 replace b:=(b.da Da).da Da
 refine Aa (n.Qg (j.t (c.t (d.t (f.t (e.t (C.t lc)))))) rM sM (m12.up (c.t (d.t (f.t (e.t (C.t lc)))))) tM b) ?_
 rintro _ CS ⟨DS,ES,FS,GS,rfl,un,b,uM,vM⟩
 refine fa (La (Pb (wi ?_)))
 replace b:=b.da Eb
 obtain ⟨HS,Ne,wM,b⟩:=Sep.ud (l:=([[41]]:List (List UInt8))) b (pa.one (α:=List UInt8) rfl) (Nat.le_of_ble_eq_true rfl)
 obtain ⟨IS,xM,h⟩:=ha h
 replace b:=(b.da Da).da Da
 refine mj yk (Mm (j.t (c.t (d.t (f.t (e.t (C.t (lc.t (un.t Ne)))))))) (uM.up Ne) (vM.up Ne) wM xM b) ?_
 rintro _ JS ⟨KS,LS,MS,NS,rfl,yM,b,zM,AM⟩
 obtain rfl:=Ea h
 refine vg rfl Qa.z ?_
 exact ⟨_,_,_,_,rfl,(c.t (d.t (f.t (e.t (C.t (lc.t (un.t (Ne.t yM)))))))),b,zM,AM⟩
 intro oM h
 refine ea ?_
 iterate 2 refine st ?_
 refine ja ?_
 refine Za h ?_ ?_
 intro BM h
 refine ea (st ?_)
 refine wl (xd underlying131 Hb (fb.s Ba rfl fb.z) rfl rfl b ?_); clear b; intro OS PS QS b; refine fa ?_
 obtain ⟨RS,D,CM,b⟩:=Sep.ud (l:=([[97,108,105,118,101]]:List (List UInt8))) b (pa.one (α:=List UInt8) rfl) (Nat.le_of_ble_eq_true rfl)
 obtain ⟨SS,DM,h⟩:=ha h
 replace b:=(b.da Da).da Da
 refine Aa (Df (j.t (c.t (d.t (f.t (e.t D))))) (p.up (e.t D)) (q.up (e.t D)) CM DM b) ?_
 rintro _ TS ⟨US,VS,WS,XS,rfl,rc,b,EM,FM⟩
 refine fa (ja (eb ?_))
 iterate 4 refine st ?_
 refine Ha ((m13 _ ((c.t (d.t (f.t (e.t (D.t rc))))) _ b.a)).one d3) ?_
 obtain ⟨YS,GM,h⟩:=ha h
 replace b:=(b.da Da).da Da
 refine Aa (n.Qg (j.t (c.t (d.t (f.t (e.t (D.t rc)))))) EM FM (m12.up (c.t (d.t (f.t (e.t (D.t rc)))))) GM b) ?_
 rintro _ ZS ⟨aT,bT,cT,dT,rfl,wn,b,HM,IM⟩
 refine fa (La (Pb (wi ?_)))
 replace b:=b.da Eb
 obtain ⟨eT,of,JM,b⟩:=Sep.ud (l:=([[41]]:List (List UInt8))) b (pa.one (α:=List UInt8) rfl) (Nat.le_of_ble_eq_true rfl)
 obtain ⟨fT,KM,h⟩:=ha h
 replace b:=(b.da Da).da Da
 refine mj yk (Mm (j.t (c.t (d.t (f.t (e.t (D.t (rc.t (wn.t of)))))))) (HM.up of) (IM.up of) JM KM b) ?_
 rintro _ gT ⟨hT,iT,jT,kT,rfl,LM,b,MM,NM⟩
 obtain rfl:=Ea h
 refine vg rfl Qa.z ?_
 exact ⟨_,_,_,_,rfl,(c.t (d.t (f.t (e.t (D.t (rc.t (wn.t (of.t LM)))))))),b,MM,NM⟩
 intro BM h
 refine ea ?_
 iterate 2 refine st ?_
 refine ja ?_
 refine Za h ?_ ?_
 intro OM h
 refine ea ?_
 iterate 4 refine st ?_
 refine Ha ((m13 _ ((c.t (d.t (f.t e))) _ b.a)).one d2) ?_
 refine wl (xd underlying131 Hb (fb.s Ba rfl (fb.s (aa (Pa (Bb d8))) rfl fb.z)) rfl rfl b ?_); clear b; intro lT mT nT b; refine fa ?_
 obtain ⟨oT,E,PM,b⟩:=Sep.ud (l:=([[115,116,97,114,116],k.Name]:List (List UInt8))) b (pa.cons (α:=List UInt8) (cs:=[S [115,116,97,114,116]]) rfl (pa.cons (α:=List UInt8) (cs:=[S k.Name]) rfl pa.nil)) (Nat.le_of_ble_eq_true rfl)
 obtain ⟨pT,QM,h⟩:=ha h
 replace b:=(b.da Da).da Da
 refine Aa (Df (j.t (c.t (d.t (f.t (e.t E))))) (p.up (e.t E)) (q.up (e.t E)) PM QM b) ?_
 rintro _ qT ⟨rT,sT,tT,uT,rfl,fd,b,RM,SM⟩
 refine fa (ja (eb ?_))
 iterate 4 refine st ?_
 refine Ha ((m13 _ ((c.t (d.t (f.t (e.t (E.t fd))))) _ b.a)).one d3) ?_
 obtain ⟨vT,TM,h⟩:=ha h
 replace b:=(b.da Da).da Da
 refine Aa (n.Qg (j.t (c.t (d.t (f.t (e.t (E.t fd)))))) RM SM (m12.up (c.t (d.t (f.t (e.t (E.t fd)))))) TM b) ?_
 rintro _ wT ⟨xT,yT,zT,AT,rfl,Fn,b,UM,VM⟩
 refine fa (La (Pb (wi ?_)))
 replace b:=b.da Eb
 obtain ⟨BT,wf,WM,b⟩:=Sep.ud (l:=([[41]]:List (List UInt8))) b (pa.one (α:=List UInt8) rfl) (Nat.le_of_ble_eq_true rfl)
 obtain ⟨CT,XM,h⟩:=ha h
 replace b:=(b.da Da).da Da
 refine mj yk (Mm (j.t (c.t (d.t (f.t (e.t (E.t (fd.t (Fn.t wf)))))))) (UM.up wf) (VM.up wf) WM XM b) ?_
 rintro _ DT ⟨ET,FT,GT,HT,rfl,YM,b,ZM,aN⟩
 obtain rfl:=Ea h
 refine vg rfl Qa.z ?_
 exact ⟨_,_,_,_,rfl,(c.t (d.t (f.t (e.t (E.t (fd.t (Fn.t (wf.t YM)))))))),b,ZM,aN⟩
 intro OM h
 refine ea ?_
 iterate 2 refine st ?_
 refine ja ?_
 refine Za h ?_ ?_
 intro bN h
 refine ea ?_
 iterate 4 refine st ?_
 refine Ha ((m13 _ ((c.t (d.t (f.t e))) _ b.a)).one d2) ?_
 refine wl (xd underlying131 Hb (fb.s (aa (Pa (Gc d3))) rfl fb.z) rfl rfl b ?_); clear b; intro IT JT KT b; refine fa ?_
 obtain ⟨LT,F,cN,b⟩:=Sep.ud (l:=([k.Name]:List (List UInt8))) b (pa.one (α:=List UInt8) rfl) (Nat.le_of_ble_eq_true rfl)
 obtain ⟨MT,dN,h⟩:=ha h
 replace b:=(b.da Da).da Da
 refine Aa (Df (j.t (c.t (d.t (f.t (e.t F))))) (p.up (e.t F)) (q.up (e.t F)) cN dN b) ?_
 rintro _ NT ⟨OT,PT,QT,RT,rfl,id,b,eN,fN⟩
 refine fa (ja (eb ?_))
 iterate 4 refine st ?_
 refine Ha ((m13 _ ((c.t (d.t (f.t (e.t (F.t id))))) _ b.a)).one d3) ?_
 obtain ⟨ST,gN,h⟩:=ha h
 replace b:=(b.da Da).da Da
 refine Aa (n.Qg (j.t (c.t (d.t (f.t (e.t (F.t id)))))) eN fN (m12.up (c.t (d.t (f.t (e.t (F.t id)))))) gN b) ?_
 rintro _ TT ⟨UT,VT,WT,XT,rfl,In,b,hN,iN⟩
 refine fa (La (Pb (wi ?_)))
 replace b:=b.da Eb
 obtain ⟨YT,If,jN,b⟩:=Sep.ud (l:=([[41]]:List (List UInt8))) b (pa.one (α:=List UInt8) rfl) (Nat.le_of_ble_eq_true rfl)
 obtain ⟨ZT,kN,h⟩:=ha h
 replace b:=(b.da Da).da Da
 refine mj yk (Mm (j.t (c.t (d.t (f.t (e.t (F.t (id.t (In.t If)))))))) (hN.up If) (iN.up If) jN kN b) ?_
 rintro _ aU ⟨bU,cU,dU,eU,rfl,lN,b,mN,nN⟩
 obtain rfl:=Ea h
 refine vg rfl Qa.z ?_
 exact ⟨_,_,_,_,rfl,(c.t (d.t (f.t (e.t (F.t (id.t (In.t (If.t lN)))))))),b,mN,nN⟩
 intro bN h
 refine ea ?_
 iterate 2 refine st ?_
 refine ob (ea ?_)
 iterate 2 refine st ?_
 refine ja ?_
 refine Ub (rg 32 2) (by decide) (fun m w=>∃ u pl,m=(Kh (.i (.int .i64 pl)::(qc (kg (xf 32 [])))))∧Br self k x Fd pl=some r∧ga ut u∧ka u J w (.ba U 53 [v30,Id]::.row Id 5 1 Fd.length em::.ba hm 9 [S [41]]::O)) (by rintro _ _ ⟨_,_,rfl,_⟩; rfl) ?_ ?_
 refine Za h ?_ ?_
 intro oN h
 refine eb (st ?_)
 obtain ⟨fU,pN,h⟩:=ha h
 refine wl (Ja (Gd (aa (ib d2)) Ba pN) (ma (qd ec)) (st (La (za ?_))))
 exact ⟨_,_,rfl,(lf (Na (Xa (Md (Zc ta))))),_,_,rfl,h,ga.r,b⟩
 intro oN h
 refine Va (za ?_)
 exact ⟨_,_,rfl,(lf (Na (Xa (Md (Zc ta))))),_,x.2,rfl,h,ga.r,b⟩
 rintro _ t gU ⟨hU,pl,rfl,h,v,b⟩
 unfold Br at h
 refine Vb (fi (kc (vc (sg (Kf pb))))) (ra (ea ?_))
 iterate 4 refine st ?_
 refine Ha ((m13 _ ((c.t (d.t (f.t (e.t v)))) _ b.a)).one d3) ?_
 obtain ⟨iU,qN,h⟩:=ha h
 obtain ⟨jU,kU,lU,rN,f354,sN⟩:=Pc.elem (m12.up (c.t (d.t (f.t (e.t v))))) qN
 obtain ⟨mU,nU,rfl,tN⟩:=ua.o sN
 refine wl (Ja (Mc underlying122 pc (aa (ib d8)) Ba rN) (ma (qd Ed)) (st ?_))
 obtain ⟨oU,uN,h⟩:=ha h
 replace b:=(b.da Da).da Da
 refine Aa (n.gg (j.t (c.t (d.t (f.t (e.t v))))) (p.up (e.t v)) (q.up (e.t v)) tN f354 uN b) ?_
 rintro _ pU ⟨qU,rU,sU,tU,rfl,R,b,vN,wN⟩
 refine fa (rb ?_)
 iterate 2 refine st ?_
 refine wl (xd underlying131 Hb (fb.s (aa (Bb d3)) rfl fb.z) rfl rfl b ?_); clear b; intro uU vU wU b; refine fa ?_
 obtain ⟨xU,G,xN,b⟩:=Sep.ud (l:=([x.1]:List (List UInt8))) b (pa.one (α:=List UInt8) rfl) (Nat.le_of_ble_eq_true rfl)
 obtain ⟨yU,yN,h⟩:=ha h
 replace b:=(b.da Da).da Da
 refine Aa (Df (j.t (c.t (d.t (f.t (e.t (v.t (R.t G))))))) (vN.up G) (wN.up G) xN yN b) ?_
 rintro _ zU ⟨AU,BU,CU,DU,rfl,md,b,zN,AN⟩
 refine fa (ja (eb ?_))
 iterate 4 refine st ?_
 refine Ha ((m13 _ ((c.t (d.t (f.t (e.t (v.t (R.t (G.t md))))))) _ b.a)).one d3) ?_
 obtain ⟨EU,BN,h⟩:=ha h
 obtain ⟨FU,GU,HU,CN,DN,EN⟩:=Pc.elem (m12.up (c.t (d.t (f.t (e.t (v.t (R.t (G.t md)))))))) BN
 obtain ⟨IU,JU,rfl,FN⟩:=ua.o EN
 refine wl (Ja (Mc underlying122 pc (aa (sb d0)) Ba CN) (ma (ee kb)) (st ?_))
 obtain ⟨KU,GN,h⟩:=ha h
 refine wl (Ja (Gd (aa (sb d2)) Ba GN) (ma (ee ec)) ?_)
 obtain ⟨LU,HN,h⟩:=ha h
 replace b:=(b.da Da).da Da
 refine Aa (n.gg (j.t (c.t (d.t (f.t (e.t (v.t (R.t (G.t md)))))))) zN AN FN DN HN b) ?_
 rintro _ MU ⟨NU,OU,PU,QU,rfl,co,b,IN,JN⟩
 refine fa (La (Pb (wi ?_)))
 replace b:=b.da Eb
 obtain ⟨RU,dg,KN,b⟩:=Sep.ud (l:=([[41]]:List (List UInt8))) b (pa.one (α:=List UInt8) rfl) (Nat.le_of_ble_eq_true rfl)
 obtain ⟨SU,LN,h⟩:=ha h
 replace b:=(b.da Da).da Da
 refine mj yk (Mm (j.t (c.t (d.t (f.t (e.t (v.t (R.t (G.t (md.t (co.t dg)))))))))) (IN.up dg) (JN.up dg) KN LN b) ?_
 rintro _ TU ⟨UU,VU,WU,XU,rfl,MN,b,NN,ON⟩
 obtain rfl:=Ea h
 refine vg rfl Qa.z ?_
 exact ⟨_,_,_,_,rfl,(c.t (d.t (f.t (e.t (v.t (R.t (G.t (md.t (co.t (dg.t MN)))))))))),b,NN,ON⟩
 intro io h
 refine Va (ra (ea ?_))
 iterate 3 refine st ?_
 refine Ha ((m13 _ (c _ b.a)).one d0) (ja (Qb (ea ?_)))
 iterate 2 refine st ?_
 refine ja ?_
 refine Za h ?_ ?_
 intro PN h
 refine eb ?_
 iterate 4 refine st ?_
 refine Ha ((m13 _ (c _ b.a)).one d1) ?_
 obtain ⟨QN,RN,h⟩:=ha h
 refine wl (td OB nd (sa (aa (Gc d1)) (sa Ba hb)) (gC (j.t c) RN b) ?_); clear b; rintro _ YU ⟨rfl,b⟩; refine fa ?_
 refine wl (xd underlying131 Hb (fb.s (aa (Gc d2)) rfl fb.z) rfl rfl b ?_); clear b; intro ZU aV bV b; refine fa ?_
 obtain ⟨cV,bi,SN,b⟩:=Sep.ud (l:=([QN]:List (List UInt8))) b (pa.one (α:=List UInt8) rfl) (Nat.le_of_ble_eq_true rfl)
 obtain ⟨r417,TN,h⟩:=ha h
 replace b:=(b.da Da).da Da
 refine Aa (Df (j.t (c.t bi)) (m3.up (c.t bi)) (m7.up (c.t bi)) SN TN b) ?_
 rintro _ dV ⟨eV,fV,gV,hV,rfl,UN,b,VN,WN⟩
 refine fa (La (Pb (wi ?_)))
 obtain rfl:=Ea h
 refine vg rfl Qa.z ?_
 exact ⟨_,_,_,_,rfl,(c.t (bi.t UN)),b,VN,WN⟩
 intro PN h
 refine ea ?_
 iterate 2 refine st ?_
 refine ja ?_
 refine Za h ?_ ?_
 intro XN h
 refine eb (st ?_)
 refine wl (xd underlying131 Hb (fb.s Ba rfl (fb.s Ba rfl fb.z)) rfl rfl b ?_); clear b; intro iV jV kV b; refine fa ?_
 iterate 3 refine st ?_
 refine Ha ((m13 _ (c _ b.a)).one d1) ?_
 obtain ⟨lV,ci,YN,b⟩:=Sep.ud (l:=([[102,97,108,115,101],[116,114,117,101]]:List (List UInt8))) b (pa.cons (α:=List UInt8) (cs:=[S [102,97,108,115,101]]) rfl (pa.cons (α:=List UInt8) (cs:=[S [116,114,117,101]]) rfl pa.nil)) (Nat.le_of_ble_eq_true rfl)
 obtain ⟨ZN,aO,h⟩:=ha h
 obtain ⟨mV,nV,oV,bO,cO,dO⟩:=Pc.elem YN aO
 obtain rfl:=dO
 refine wl (Ja (Mc underlying131 Hb (aa (Gc d8)) (aa (Oc d2)) bO) (ma (Zf ec)) (Ha ((cO _ b.a).one d0) ?_))
 refine wl (xd underlying131 Hb (fb.s (aa (Oc d4)) rfl fb.z) rfl rfl b ?_); clear b; intro pV qV rV b; refine fa ?_
 obtain ⟨sV,ii,eO,b⟩:=Sep.ud (l:=([ZN]:List (List UInt8))) b (pa.one (α:=List UInt8) rfl) (Nat.le_of_ble_eq_true rfl)
 obtain ⟨tV,fO,h⟩:=ha h
 replace b:=(b.da Da).da Da
 refine Aa (Df (j.t (c.t (ci.t ii))) (m3.up (c.t (ci.t ii))) (m7.up (c.t (ci.t ii))) eO fO b) ?_
 rintro _ uV ⟨vV,wV,xV,yV,rfl,gO,b,hO,iO⟩
 refine fa (La (Pb (wi ?_)))
 obtain rfl:=Ea h
 refine vg rfl Qa.z ?_
 exact ⟨_,_,_,_,rfl,(c.t (ci.t (ii.t gO))),b,hO,iO⟩
 intro XN h
 refine ea ?_
 iterate 2 refine st ?_
 refine ja ?_
 refine Za h ?_ ?_
 intro jO h
 refine eb ?_
 iterate 4 refine st ?_
 refine Ha ((m13 _ (c _ b.a)).one d2) ?_
 refine wl (xd underlying131 Hb (fb.s (aa (Nc d3)) rfl fb.z) rfl rfl b ?_); clear b; intro zV AV BV b; refine fa ?_
 obtain ⟨CV,li,kO,b⟩:=Sep.ud (l:=([k.Name]:List (List UInt8))) b (pa.one (α:=List UInt8) rfl) (Nat.le_of_ble_eq_true rfl)
 obtain ⟨DV,lO,h⟩:=ha h
 replace b:=(b.da Da).da Da
 refine Aa (Df (j.t (c.t li)) (m3.up (c.t li)) (m7.up (c.t li)) kO lO b) ?_
 rintro _ EV ⟨FV,GV,HV,IV,rfl,mO,b,nO,oO⟩
 refine fa (La (Pb (wi ?_)))
 obtain rfl:=Ea h
 refine vg rfl Qa.z ?_
 exact ⟨_,_,_,_,rfl,(c.t (li.t mO)),b,nO,oO⟩
 intro jO h
 refine db (ea ?_)
 iterate 2 refine st ?_
 refine ja ?_
 refine Ub ([88]) (by decide) (fun m w=>∃ u ul,m=(Sd (qc (yd (Og (.i (.bool ul)::(kh (Sc 88 [])))))))∧El self k wd x ul=some r∧ga go u∧ka u J w (.ba U 53 [v2,v5]::.row v5 5 1 wd.length lg::O)) (by rintro _ _ ⟨_,_,rfl,_⟩; rfl) ?_ ?_
 refine Za h ?_ ?_
 intro pO h
 refine Va (za ?_)
 exact ⟨_,_,rfl,(Yb (Xa (xb (ye (Na (Ee (lb ta))))))),_,(decide (k.Kind=4)),rfl,h,ga.r,b⟩
 intro pO h
 refine eb ?_
 iterate 2 refine st ?_
 refine La (za ?_)
 exact ⟨_,_,rfl,(Yb (Xa (xb (ye (Na (Ee (lb ta))))))),_,(decide (k.Kind=5)),rfl,h,ga.r,b⟩
 rintro _ t JV ⟨qO,ul,rfl,h,g,b⟩
 unfold El at h
 refine Vb (Ud (vc (Dd (Zg (kc (zh (Xc pb))))))) (ra ?_)
 refine ed h ?_ ?_
 intro rO h
 refine ea ?_
 iterate 2 refine st ?_
 refine wl (xd underlying131 Hb (fb.s (aa (fe d0)) rfl fb.z) rfl rfl b ?_); clear b; intro KV LV MV b; refine fa ?_
 obtain ⟨NV,H,sO,b⟩:=Sep.ud (l:=([x.1]:List (List UInt8))) b (pa.one (α:=List UInt8) rfl) (Nat.le_of_ble_eq_true rfl)
 obtain ⟨OV,tO,h⟩:=ha h
 replace b:=(b.da Da).da Da
 refine Aa (Df (j.t (c.t (g.t H))) (m3.up (c.t (g.t H))) (m7.up (c.t (g.t H))) sO tO b) ?_
 rintro _ PV ⟨QV,RV,SV,TV,rfl,pi,b,uO,vO⟩
 refine fa (ja (eb ?_))
 iterate 4 refine st ?_
 refine Ha ((m13 _ ((c.t (g.t (H.t pi))) _ b.a)).one d3) ?_
 obtain ⟨UV,wO,h⟩:=ha h
 obtain ⟨VV,WV,XV,xO,yO,zO⟩:=Pc.elem (m12.up (c.t (g.t (H.t pi)))) wO
 obtain ⟨YV,ZV,rfl,AO⟩:=ua.o zO
 refine wl (Ja (Mc underlying122 pc (aa (fe d7)) Ba xO) (ma (Zh Yd)) ?_)
 obtain ⟨aW,BO,h⟩:=ha h
 replace b:=(b.da Da).da Da
 refine Aa (n.gg (j.t (c.t (g.t (H.t pi)))) uO vO AO yO BO b) ?_
 rintro _ bW ⟨cW,dW,eW,fW,rfl,CO,b,DO,EO⟩
 refine fa (La (Pb (wi ?_)))
 obtain rfl:=Ea h
 refine vg rfl Qa.z ?_
 exact ⟨_,_,_,_,rfl,(c.t (g.t (H.t (pi.t CO)))),b,DO,EO⟩
 intro rO h
 refine ea ?_
 iterate 2 refine st ?_
 refine ja ?_
 refine Za h ?_ ?_
 intro FO h
 refine eb ?_
 iterate 4 refine st ?_
 refine Ha ((m13 _ ((c.t g) _ b.a)).one d2) ?_
 refine wl (xd underlying131 Hb (fb.s Ba rfl (fb.s Ba rfl (fb.s (aa (Pa d6)) rfl (fb.s Ba rfl fb.z)))) rfl rfl b ?_); clear b; intro gW hW iW b; refine fa ?_
 obtain ⟨jW,Pi,GO,b⟩:=Sep.ud (l:=([[114,101,99,118],[40],k.Name,[41]]:List (List UInt8))) b (pa.cons (α:=List UInt8) (cs:=[S [114,101,99,118]]) rfl (pa.cons (α:=List UInt8) (cs:=[S [40]]) rfl (pa.cons (α:=List UInt8) (cs:=[S k.Name]) rfl (pa.cons (α:=List UInt8) (cs:=[S [41]]) rfl pa.nil)))) (Nat.le_of_ble_eq_true rfl)
 obtain ⟨kW,HO,h⟩:=ha h
 replace b:=(b.da Da).da Da
 refine Aa (Df (j.t (c.t (g.t Pi))) (m3.up (c.t (g.t Pi))) (m7.up (c.t (g.t Pi))) GO HO b) ?_
 rintro _ lW ⟨mW,nW,oW,pW,rfl,JO,b,KO,LO⟩
 refine fa (La (Pb (wi ?_)))
 obtain rfl:=Ea h
 refine vg rfl Qa.z ?_
 exact ⟨_,_,_,_,rfl,(c.t (g.t (Pi.t JO))),b,KO,LO⟩
 intro FO h
 refine ea ?_
 iterate 2 refine st ?_
 refine ja ?_
 refine Za h ?_ ?_
 intro MO h
 refine ea (st ?_)
 refine wl (xd underlying131 Hb (fb.s Ba rfl fb.z) rfl rfl b ?_); clear b; intro qW lJ rW b; refine fa ?_
 obtain ⟨sW,K,NO,b⟩:=Sep.ud (l:=([[121,105,101,108,100]]:List (List UInt8))) b (pa.one (α:=List UInt8) rfl) (Nat.le_of_ble_eq_true rfl)
 obtain ⟨tW,OO,h⟩:=ha h
 replace b:=(b.da Da).da Da
 refine Aa (Df (j.t (c.t (g.t K))) (m3.up (c.t (g.t K))) (m7.up (c.t (g.t K))) NO OO b) ?_
 rintro _ uW ⟨vW,wW,xW,yW,rfl,kk,b,PO,QO⟩
 refine fa (ja (eb ?_))
 iterate 4 refine st ?_
 refine Ha ((m13 _ ((c.t (g.t (K.t kk))) _ b.a)).one d3) ?_
 obtain ⟨zW,RO,h⟩:=ha h
 replace b:=(b.da Da).da Da
 refine Aa (n.Qg (j.t (c.t (g.t (K.t kk)))) PO QO (m12.up (c.t (g.t (K.t kk)))) RO b) ?_
 rintro _ AW ⟨BW,CW,DW,EW,rfl,SO,b,TO,UO⟩
 refine fa (La (Pb (wi ?_)))
 obtain rfl:=Ea h
 refine vg rfl Qa.z ?_
 exact ⟨_,_,_,_,rfl,(c.t (g.t (K.t (kk.t SO)))),b,TO,UO⟩
 intro MO h
 refine ea ?_
 iterate 2 refine st ?_
 refine ja ?_
 refine Za h ?_ ?_
 intro VO h
 refine ea (st ?_)
 refine wl (xd underlying131 Hb (fb.s Ba rfl fb.z) rfl rfl b ?_); clear b; intro FW GW HW b; refine fa ?_
 obtain ⟨IW,L,WO,b⟩:=Sep.ud (l:=([[114,101,115,117,109,101]]:List (List UInt8))) b (pa.one (α:=List UInt8) rfl) (Nat.le_of_ble_eq_true rfl)
 obtain ⟨JW,XO,h⟩:=ha h
 replace b:=(b.da Da).da Da
 refine Aa (Df (j.t (c.t (g.t L))) (m3.up (c.t (g.t L))) (m7.up (c.t (g.t L))) WO XO b) ?_
 rintro _ KW ⟨LW,MW,NW,OW,rfl,mk,b,YO,ZO⟩
 refine fa (ja (eb ?_))
 iterate 4 refine st ?_
 refine Ha ((m13 _ ((c.t (g.t (L.t mk))) _ b.a)).one d3) ?_
 obtain ⟨PW,aP,h⟩:=ha h
 replace b:=(b.da Da).da Da
 refine Aa (n.Qg (j.t (c.t (g.t (L.t mk)))) YO ZO (m12.up (c.t (g.t (L.t mk)))) aP b) ?_
 rintro _ QW ⟨RW,SW,TW,UW,rfl,bP,b,cP,dP⟩
 refine fa (La (Pb (wi ?_)))
 obtain rfl:=Ea h
 refine vg rfl Qa.z ?_
 exact ⟨_,_,_,_,rfl,(c.t (g.t (L.t (mk.t bP)))),b,cP,dP⟩
 intro VO h
 refine ea ?_
 iterate 2 refine st ?_
 refine ja ?_
 refine Za h ?_ ?_
 intro eP h
 refine ea (st ?_)
 refine wl (xd underlying131 Hb (fb.s Ba rfl fb.z) rfl rfl b ?_); clear b; intro VW WW XW b; refine fa ?_
 obtain ⟨YW,M,fP,b⟩:=Sep.ud (l:=([[97,108,105,118,101]]:List (List UInt8))) b (pa.one (α:=List UInt8) rfl) (Nat.le_of_ble_eq_true rfl)
 obtain ⟨ZW,gP,h⟩:=ha h
 replace b:=(b.da Da).da Da
 refine Aa (Df (j.t (c.t (g.t M))) (m3.up (c.t (g.t M))) (m7.up (c.t (g.t M))) fP gP b) ?_
 rintro _ aX ⟨bX,cX,dX,eX,rfl,ok,b,hP,iP⟩
 refine fa (ja (eb ?_))
 iterate 4 refine st ?_
 refine Ha ((m13 _ ((c.t (g.t (M.t ok))) _ b.a)).one d3) ?_
 obtain ⟨fX,jP,h⟩:=ha h
 replace b:=(b.da Da).da Da
 refine Aa (n.Qg (j.t (c.t (g.t (M.t ok)))) hP iP (m12.up (c.t (g.t (M.t ok)))) jP b) ?_
 rintro _ gX ⟨hX,iX,jX,kX,rfl,kP,b,lP,mP⟩
 refine fa (La (Pb (wi ?_)))
 obtain rfl:=Ea h
 refine vg rfl Qa.z ?_
 exact ⟨_,_,_,_,rfl,(c.t (g.t (M.t (ok.t kP)))),b,lP,mP⟩
 intro eP h
 refine ea ?_
 iterate 2 refine st ?_
 refine ja ?_
 refine Za h ?_ ?_
 intro nP h
 refine ea ?_
 iterate 4 refine st ?_
 refine Ha ((m13 _ ((c.t g) _ b.a)).one d2) ?_
 refine wl (xd underlying131 Hb (fb.s Ba rfl (fb.s (aa (Pa (Bb d8))) rfl fb.z)) rfl rfl b ?_); clear b; intro lX mX nX b; refine fa ?_
 obtain ⟨oX,N,oP,b⟩:=Sep.ud (l:=([[115,116,97,114,116],k.Name]:List (List UInt8))) b (pa.cons (α:=List UInt8) (cs:=[S [115,116,97,114,116]]) rfl (pa.cons (α:=List UInt8) (cs:=[S k.Name]) rfl pa.nil)) (Nat.le_of_ble_eq_true rfl)
 obtain ⟨pX,pP,h⟩:=ha h
 replace b:=(b.da Da).da Da
 refine Aa (Df (j.t (c.t (g.t N))) (m3.up (c.t (g.t N))) (m7.up (c.t (g.t N))) oP pP b) ?_
 rintro _ qX ⟨rX,sX,tX,uX,rfl,dl,b,qP,rP⟩
 refine fa (ja (eb ?_))
 iterate 4 refine st ?_
 refine Ha ((m13 _ ((c.t (g.t (N.t dl))) _ b.a)).one d3) ?_
 obtain ⟨vX,sP,h⟩:=ha h
 replace b:=(b.da Da).da Da
 refine Aa (n.Qg (j.t (c.t (g.t (N.t dl)))) qP rP (m12.up (c.t (g.t (N.t dl)))) sP b) ?_
 rintro _ wX ⟨xX,yX,zX,AX,rfl,tP,b,uP,vP⟩
 refine fa (La (Pb (wi ?_)))
 obtain rfl:=Ea h
 refine vg rfl Qa.z ?_
 exact ⟨_,_,_,_,rfl,(c.t (g.t (N.t (dl.t tP)))),b,uP,vP⟩
 intro nP h
 refine ea ?_
 iterate 2 refine st ?_
 refine ja ?_
 refine Za h ?_ ?_
 intro wP h
 refine ea ?_
 iterate 4 refine st ?_
 refine Ha ((m13 _ ((c.t g) _ b.a)).one d2) ?_
 refine wl (xd underlying131 Hb (fb.s (aa (Pa (Gc d3))) rfl fb.z) rfl rfl b ?_); clear b; intro BX CX DX b; refine fa ?_
 obtain ⟨EX,P,xP,b⟩:=Sep.ud (l:=([k.Name]:List (List UInt8))) b (pa.one (α:=List UInt8) rfl) (Nat.le_of_ble_eq_true rfl)
 obtain ⟨FX,yP,h⟩:=ha h
 replace b:=(b.da Da).da Da
 refine Aa (Df (j.t (c.t (g.t P))) (m3.up (c.t (g.t P))) (m7.up (c.t (g.t P))) xP yP b) ?_
 rintro _ GX ⟨HX,IX,JX,KX,rfl,el,b,zP,AP⟩
 refine fa (ja (eb ?_))
 iterate 4 refine st ?_
 refine Ha ((m13 _ ((c.t (g.t (P.t el))) _ b.a)).one d3) ?_
 obtain ⟨LX,BP,h⟩:=ha h
 replace b:=(b.da Da).da Da
 refine Aa (n.Qg (j.t (c.t (g.t (P.t el)))) zP AP (m12.up (c.t (g.t (P.t el)))) BP b) ?_
 rintro _ MX ⟨NX,OX,PX,QX,rfl,CP,b,DP,EP⟩
 refine fa (La (Pb (wi ?_)))
 obtain rfl:=Ea h
 refine vg rfl Qa.z ?_
 exact ⟨_,_,_,_,rfl,(c.t (g.t (P.t (el.t CP)))),b,DP,EP⟩
 intro wP h
 refine ea ?_
 iterate 2 refine st ?_
 refine ob (ea ?_)
 iterate 2 refine st ?_
 refine ja ?_
 refine Ub (rg 32 2) (by decide) (fun m w=>∃ u am,m=(Kh (.i (.int .i64 am)::(qc (kg (xf 32 [])))))∧np self k wd x am=some r∧ga qO u∧ka u J w (.ba U 53 [v2,v5]::.row v5 5 1 wd.length lg::O)) (by rintro _ _ ⟨_,_,rfl,_⟩; rfl) ?_ ?_
 refine Za h ?_ ?_
 intro FP h
 refine eb (st ?_)
 obtain ⟨RX,GP,h⟩:=ha h
 refine wl (Ja (Gd (aa (ib d2)) Ba GP) (ma (qd ec)) (st (La (za ?_))))
 exact ⟨_,_,rfl,(lf (Na (Xa (Md (Zc ta))))),_,_,rfl,h,ga.r,b⟩
 intro FP h
 refine Va (za ?_)
 exact ⟨_,_,rfl,(lf (Na (Xa (Md (Zc ta))))),_,x.2,rfl,h,ga.r,b⟩
 rintro _ t SX ⟨TX,am,rfl,h,y,b⟩
 unfold np at h
 refine Vb (fi (kc (vc (sg (Kf pb))))) (ra (ea ?_))
 iterate 4 refine st ?_
 refine Ha ((m13 _ ((c.t (g.t y)) _ b.a)).one d3) ?_
 obtain ⟨UX,HP,h⟩:=ha h
 obtain ⟨VX,WX,XX,IP,JP,KP⟩:=Pc.elem (m12.up (c.t (g.t y))) HP
 obtain ⟨YX,ZX,rfl,LP⟩:=ua.o KP
 refine wl (Ja (Mc underlying122 pc (aa (ib d8)) Ba IP) (ma (qd Ed)) (st ?_))
 obtain ⟨aY,MP,h⟩:=ha h
 replace b:=(b.da Da).da Da
 refine Aa (n.gg (j.t (c.t (g.t y))) (m3.up (c.t (g.t y))) (m7.up (c.t (g.t y))) LP JP MP b) ?_
 rintro _ bY ⟨cY,dY,eY,fY,rfl,rd,b,NP,OP⟩
 refine fa (rb ?_)
 iterate 2 refine st ?_
 refine wl (xd underlying131 Hb (fb.s (aa (Bb d3)) rfl fb.z) rfl rfl b ?_); clear b; intro gY hY iY b; refine fa ?_
 obtain ⟨jY,Q,PP,b⟩:=Sep.ud (l:=([x.1]:List (List UInt8))) b (pa.one (α:=List UInt8) rfl) (Nat.le_of_ble_eq_true rfl)
 obtain ⟨kY,QP,h⟩:=ha h
 replace b:=(b.da Da).da Da
 refine Aa (Df (j.t (c.t (g.t (y.t (rd.t Q))))) (NP.up Q) (OP.up Q) PP QP b) ?_
 rintro _ lY ⟨mY,nY,oY,pY,rfl,nl,b,RP,SP⟩
 refine fa (ja (eb ?_))
 iterate 4 refine st ?_
 refine Ha ((m13 _ ((c.t (g.t (y.t (rd.t (Q.t nl))))) _ b.a)).one d3) ?_
 obtain ⟨qY,TP,h⟩:=ha h
 obtain ⟨rY,sY,tY,UP,VP,WP⟩:=Pc.elem (m12.up (c.t (g.t (y.t (rd.t (Q.t nl)))))) TP
 obtain ⟨uY,vY,rfl,XP⟩:=ua.o WP
 refine wl (Ja (Mc underlying122 pc (aa (sb d0)) Ba UP) (ma (ee kb)) (st ?_))
 obtain ⟨wY,YP,h⟩:=ha h
 refine wl (Ja (Gd (aa (sb d2)) Ba YP) (ma (ee ec)) ?_)
 obtain ⟨xY,ZP,h⟩:=ha h
 replace b:=(b.da Da).da Da
 refine Aa (n.gg (j.t (c.t (g.t (y.t (rd.t (Q.t nl)))))) RP SP XP VP ZP b) ?_
 rintro _ yY ⟨zY,AY,BY,CY,rfl,aQ,b,bQ,cQ⟩
 refine fa (La (Pb (wi ?_)))
 obtain rfl:=Ea h
 refine vg rfl Qa.z ?_
 exact ⟨_,_,_,_,rfl,(c.t (g.t (y.t (rd.t (Q.t (nl.t aQ)))))),b,bQ,cQ⟩
theorem YE {self:qk} (E:Lx self):qA (Qg self):=by
 intro I J w O f U v2 Ne v5 lg u Db c9 r m3 m7 m10 h a
 unfold Qg at h
 refine enter func98 rfl (frm:=_::_::Ge (Xe [])) rfl (ea (st ?_))
 refine wl (xd underlying131 Hb (fb.s Ba rfl fb.z) rfl rfl a ?_); clear a; intro of wf If a; refine fa ?_
 obtain ⟨dg,c,m18,a⟩:=Sep.ud (l:=([[40]]:List (List UInt8))) a (pa.one (α:=List UInt8) rfl) (Nat.le_of_ble_eq_true rfl)
 obtain ⟨F,g21,h⟩:=ha h
 replace a:=(a.da Da).da Da
 refine Aa (Df (f.t c) (m3.up c) (m7.up c) m18 g21 a) ?_
 rintro _ bi ⟨G,H,zf,K,rfl,e,a,m24,L⟩
 refine fa (ob (ea (st (wl (Ja (Qd underlying122 (aa d8)) (ma Ed) (st (ja (Qb ?_))))))))
 refine Se ([4]++rg 11 13) (by decide) (fun n m w=>∃ b i67 v g v70 x,m=(tf (Sc 4 (ng (.i (.int .i64 i67)::(Rc 11 (Yg 21 []))))))∧so self u n i67 g=some r∧ga G b∧ka b J w (.ba U 53 [v,v70]::.row v70 5 1 g.length x::O)∧Bf b U v∧pa b x g) (by rintro _ _ _ ⟨_,_,_,_,_,_,rfl,_⟩; rfl) _ _ (gd (lb (ie (Na (qb (ue ta)))))) ⟨_,0,H,F,zf,K,rfl,h,ga.r,a,m24,L⟩ ?_
 rintro j _ t ci ⟨M,i67,v,g,v70,x,rfl,h,d,a,y,A⟩
 rcases j with _|j
 cases h
 unfold so at h
 refine Te (Ff (Xc (Ag (kc (Wc (qh pb)))))) (ea (st (ob ?_)))
 refine Za h ?_ ?_
 intro N h
 refine Va (ra (db (Qb (ea ?_))))
 iterate 2 refine st ?_
 refine ob (ea ?_)
 iterate 2 refine st ?_
 refine ja ?_
 refine Ub (rg 15 3) (by decide) (fun m w=>∃ b v117 k B C,m=(yd (ng (Yg 15 [])))∧Dr self u i67 (so self u j) k=some r∧ga M b∧ka b J w (.ba U 53 [v117,B]::.row B 5 1 k.length C::O)∧Bf b U v117∧pa b C k) (by rintro _ _ ⟨_,_,_,_,_,rfl,_⟩; rfl) ?_ ?_
 refine Za h ?_ ?_
 intro P h
 refine eb (st ?_)
 refine wl (xd underlying131 Hb (fb.s Ba rfl fb.z) rfl rfl a ?_); clear a; intro ii li pi a; refine fa ?_
 obtain ⟨Pi,p,Q,a⟩:=Sep.ud (l:=([[44]]:List (List UInt8))) a (pa.one (α:=List UInt8) rfl) (Nat.le_of_ble_eq_true rfl)
 obtain ⟨kk,R,h⟩:=ha h
 replace a:=(a.da Da).da Da
 refine Aa (Df (f.t (c.t (e.t (d.t p)))) (y.up p) (A.up p) Q R a) ?_
 rintro _ mk ⟨ok,v131,dl,el,rfl,S,a,T,V⟩
 refine fa (La (za ?_))
 exact ⟨_,_,rfl,(xb (ie (ue ta))),_,_,_,_,_,rfl,h,(p.t S),a,T,V⟩
 intro P h
 refine Va (za ?_)
 exact ⟨_,_,rfl,(xb (ie (ue ta))),_,_,_,_,_,rfl,h,ga.r,a,y,A⟩
 rintro _ t nl ⟨ol,v117,k,B,C,rfl,h,D,a,W,X⟩
 unfold Dr at h
 refine Vb (Dd (Ag (qh pb))) (ra (eb ?_))
 iterate 3 refine st ?_
 obtain ⟨pl,Y,h⟩:=ha h
 obtain ⟨ul,am,em,Z,f145,gc⟩:=Pc.elem (m10.up (c.t (e.t (d.t D)))) Y
 obtain ⟨hm,c148,rfl,lc⟩:=ua.o gc
 refine wl (Ja (Mc underlying122 pc (aa (wa d9)) (aa (Sa d0)) Z) (ma (oc kb)) ?_)
 obtain ⟨rc,fd,h⟩:=ha h
 replace a:=(a.da Da).da Da
 refine Aa (E.gg (f.t (c.t (e.t (d.t D)))) W X lc f145 fd a) ?_
 rintro _ lm ⟨pm,id,md,rd,rfl,wd,a,Fd,Id⟩
 refine fa (La ?_)
 refine (fun h=>Pb (ra h)) ?_
 refine eb ?_
 obtain ⟨i158,be,h⟩:=ha h
 refine wl (Ja (Gd (aa (wa d0)) Ba be) (ma (oc ec)) (st (La (za ?_))))
 exact ⟨j,_,_,rfl,(gd (lb (ie (Na (qb (ue ta)))))),⟨_,i158,id,rc,md,rd,rfl,h,(d.t (D.t wd)),a,Fd,Id⟩,Nat.lt_succ_self _⟩
 intro N h
 refine ke ?_
 refine (fun h=>jc (jc (pe h))) ?_
 refine ra (eb (st ?_))
 refine wl (xd underlying131 Hb (fb.s Ba rfl fb.z) rfl rfl a ?_); clear a; intro sm Mf Nm a; refine fa ?_
 obtain ⟨fn,q,ce,a⟩:=Sep.ud (l:=([[41]]:List (List UInt8))) a (pa.one (α:=List UInt8) rfl) (Nat.le_of_ble_eq_true rfl)
 obtain ⟨on,ge,h⟩:=ha h
 replace a:=(a.da Da).da Da
 refine Aa (Df (f.t (c.t (e.t (d.t q)))) (y.up q) (A.up q) ce ge a) ?_
 rintro _ un ⟨wn,v167,Fn,In,rfl,he,a,le,ne⟩
 refine fa (La ?_)
 obtain rfl:=Ea h
 refine Li rfl ?_
 exact ⟨_,_,_,_,rfl,(c.t (e.t (d.t (q.t he)))),a,le,ne⟩
theorem Iv:∀ n,Lx (Il n)
  | 0=>⟨(by intro; intros; rename_i h _; cases h),(by intro; intros; rename_i h _; cases h)⟩
  | n+1=>⟨XE (Iv n),YE (Iv n)⟩
def rA (q:(List UInt8)→(List Wa)→Option (List UInt8)):Prop:=∀ {I:M} {J w:World} {O:List Wb} (e:ga Fc I) {U:Nat} {v2:Value} {a:List UInt8} {v5:Value} {lg:List Value} {b:List Wa} {Db:Option Addr} {c9:Nat} {r:List UInt8} (m3:Bf I U v2) (m7:pa I lg a) (m10:Ka I Db c9 b) (h:q a b=some r) (f:ka I J w (.ba U 53 [v2,v5]::.row v5 5 1 a.length lg::O)),Sb prog 29 [.pointer (some ⟨U,0,none⟩),.slice Db b.length c9] w (fun v w'=>∃ (na:M) (v11:Value) (c:Value) (d:List Value),v=.tuple ⟨[]⟩∧ga I na∧ka na J w' (.ba U 53 [v11,c]::.row c 5 1 r.length d::O)∧Bf na U v11∧pa na d r)
def sA (q:(List UInt8)→Wa→Option (List UInt8)):Prop:=∀ {I:M} {J w:World} {O:List Wb} (f:ga Fc I) {U:Nat} {v2:Value} {b:List UInt8} {v5:Value} {lg:List Value} {a:Wa} {Ie jo:Nat} {od:Option Addr} {rj:Nat} {Vd:Option Addr} {Cq:Nat} {c:Option Addr} {d:Nat} {r:List UInt8} (m3:Bf I U v2) (m7:pa I lg b) (m12:Ka I od rj a.X.Kids) (m15:Ka I Vd Cq a.Body) (m18:Ka I c d a.jd) (m19:dd I Ie jo [.int .i64 a.Kind,S a.Name,.int .i64 a.X.Kind,.int .i64 a.X.N,S a.X.Name,.slice od a.X.Kids.length rj,.slice Vd a.Body.length Cq,.slice c a.jd.length d]) (h:q b a=some r) (g:ka I J w (.ba U 53 [v2,v5]::.row v5 5 1 b.length lg::O)),Sb prog 56 [.pointer (some ⟨U,0,none⟩),.pointer (some ⟨Ie,jo,none⟩)] w (fun v w'=>∃ (na:M) (v20:Value) (Ec:Value) (e:List Value),v=.tuple ⟨[]⟩∧ga I na∧ka na J w' (.ba U 53 [v20,Ec]::.row Ec 5 1 r.length e::O)∧Bf na U v20∧pa na e r)
structure Mx (a:an):Prop where
  ik:rA a.ik
  Zk:sA a.Zk
theorem ZE {self:an} (y:Mx self):rA (ik self):=by
 intro I J w O j U v2 md v5 lg A Db c9 r m3 m7 m10 h a
 unfold ik at h
 refine enter func29 rfl (frm:=_::_::Xe []) rfl (ea (st ?_))
 refine wl (xd underlying131 Hb (fb.s Ba rfl fb.z) rfl rfl a ?_); clear a; intro rd wd Fd a; refine fa ?_
 obtain ⟨Id,b,m18,a⟩:=Sep.ud (l:=([[123]]:List (List UInt8))) a (pa.one (α:=List UInt8) rfl) (Nat.le_of_ble_eq_true rfl)
 obtain ⟨B,g21,h⟩:=ha h
 replace a:=(a.da Da).da Da
 refine Aa (Df (j.t b) (m3.up b) (m7.up b) m18 g21 a) ?_
 rintro _ be ⟨C,D,zf,E,rfl,d,a,m24,F⟩
 refine fa (ob (ea (st (wl (Ja (Qd underlying59 (aa d8)) (ma Ed) (st (ja (Qb ?_))))))))
 refine Se ([4]++rg 11 8) (by decide) (fun n m w=>∃ e i55 k f p q,m=(tf (Sc 4 (ng (.i (.int .i64 i55)::(ei 11 [])))))∧Er self A n i55 f=some r∧ga C e∧ka e J w (.ba U 53 [k,p]::.row p 5 1 f.length q::O)∧Bf e U k∧pa e q f) (by rintro _ _ _ ⟨_,_,_,_,_,_,rfl,_⟩; rfl) _ _ (gd (lb (ie (Na (ag ta))))) ⟨_,0,D,B,zf,E,rfl,h,ga.r,a,m24,F⟩ ?_
 rintro u _ t ce ⟨ge,i55,k,f,p,q,rfl,h,c,a,v,x⟩
 rcases u with _|u
 cases h
 unfold Er at h
 refine Te (Ff (Xc (Ag (kc (xi pb))))) (ea (st (ob ?_)))
 refine Za h ?_ ?_
 intro G h
 refine Va (ra (db (Qb (ea ?_))))
 iterate 2 refine st ?_
 refine ja (eb ?_)
 iterate 3 refine st ?_
 obtain ⟨he,H,h⟩:=ha h
 obtain ⟨le,ne,Ne,K,f99,L⟩:=Pc.elem (m10.up (b.t (d.t c))) H
 obtain ⟨of,wf,If,c105,a107,dg,rfl,M,N,P⟩:=Wa.o L
 refine wl (Ja (Mc underlying59 Yf (aa (wa d4)) (aa (wa d5)) K) (ma (Jb ad)) ?_)
 obtain ⟨Q,R,h⟩:=ha h
 replace a:=(a.da Da).da Da
 refine Aa (y.Zk (j.t (b.t (d.t c))) v x M N P f99 R a) ?_
 rintro _ bi ⟨ci,S,T,V,rfl,W,a,X,Y⟩
 refine fa (La ?_)
 refine (fun h=>Pb (ra h)) ?_
 refine eb ?_
 obtain ⟨i118,Z,h⟩:=ha h
 refine wl (Ja (Gd (aa (wa d0)) Ba Z) (ma (Jb Yd)) (st (La (za ?_))))
 exact ⟨u,_,_,rfl,(gd (lb (ie (Na (ag ta))))),⟨_,i118,S,Q,T,V,rfl,h,(c.t W),a,X,Y⟩,Nat.lt_succ_self _⟩
 intro G h
 refine ke ?_
 refine (fun h=>jc (jc (pe h))) ?_
 refine ra (eb (st ?_))
 refine wl (xd underlying131 Hb (fb.s Ba rfl fb.z) rfl rfl a ?_); clear a; intro ii li pi a; refine fa ?_
 obtain ⟨Pi,g,gc,a⟩:=Sep.ud (l:=([[125]]:List (List UInt8))) a (pa.one (α:=List UInt8) rfl) (Nat.le_of_ble_eq_true rfl)
 obtain ⟨kk,lc,h⟩:=ha h
 replace a:=(a.da Da).da Da
 refine Aa (Df (j.t (b.t (d.t (c.t g)))) (v.up g) (x.up g) gc lc a) ?_
 rintro _ mk ⟨ok,v127,dl,el,rfl,rc,a,fd,id⟩
 refine fa (La ?_)
 obtain rfl:=Ea h
 refine Li rfl ?_
 exact ⟨_,_,_,_,rfl,(b.t (d.t (c.t (g.t rc)))),a,fd,id⟩
theorem aF {fu:Nat} {self:an} (R:Mx self):sA (Zk fu self):=by
 intro I J w O n U v2 T v5 lg f Ie jo od rj Vd Cq Eq fr r m3 m7 m12 m15 m18 m19 h b
 unfold Zk at h
 refine enter func56 rfl (frm:=_::_::zd (Ze (Ze []))) rfl (db (ea ?_))
 iterate 3 refine st ?_
 refine Ha ((m19 _ b.a).one d0) (ja ?_)
 refine Ub (rg 8 83) (by decide +kernel) (fun m w=>∃ g zf A K L,m=(Kh (nk 8 (Uf 58 (Rc 78 (Yg 88 [])))))∧uo fu f A=some r∧ga I g∧ka g J w (.ba U 53 [zf,K]::.row K 5 1 A.length L::O)∧Bf g U zf∧pa g L A) (by rintro _ _ ⟨_,_,_,_,_,rfl,_⟩; rfl) ?_ ?_
 refine Qb (db (ea ?_))
 iterate 2 refine st ?_
 refine ja ?_
 refine Ub ([20]) (by decide) (fun m w=>∃ g M,m=(yd (Kh (.i (.bool M)::(kh (Sc 20 [])))))∧Hr fu self f T M=some r∧ga I g∧ka g J w (.ba U 53 [v2,v5]::.row v5 5 1 T.length lg::O)) (by rintro _ _ ⟨_,_,rfl,_⟩; rfl) ?_ ?_
 refine Za h ?_ ?_
 intro rc h
 refine Va (za ?_)
 exact ⟨_,_,rfl,(xb (lf (Na (Ee (lb ta))))),_,(decide (f.Kind=3)),rfl,h,ga.r,b⟩
 intro rc h
 refine eb ?_
 iterate 2 refine st ?_
 refine La (za ?_)
 exact ⟨_,_,rfl,(xb (lf (Na (Ee (lb ta))))),_,(decide (f.Kind=4)),rfl,h,ga.r,b⟩
 rintro _ t or ⟨V,M,rfl,h,d,b⟩
 unfold Hr at h
 refine Vb (Dd (fi (kc (zh (Xc pb))))) (ra ?_)
 refine ed h ?_ ?_
 intro fd h
 refine ea (st ?_)
 refine wl (hj b ?_); clear b; intro qr wr Fr b; refine fa ?_
 refine wl (Ph (κ:=Int) (β:=List UInt8) (kk:=3) (xx:=[105,102]) underlying95 underlying3 (aa (Sa d2)) Ba Ba rfl b d0 (je.nil (κ:=Int) (β:=List UInt8) (μ:=V) (c:=0)) Ma ?_); clear b; intro Or ds es o id p b; cases (show _=o from p)
 replace b:=Sep.te b Ga
 refine wl (Ph (κ:=Int) (β:=List UInt8) (kk:=4) (xx:=[119,104,105,108,101]) underlying95 underlying3 (aa (Sa d2)) Ba Ba rfl b d0 id Ma ?_); clear b; intro gs is ls o md p b; cases (show _=o from p)
 replace b:=Sep.te b Ga
 iterate 4 refine st ?_
 refine Ha ((m19 _ (d _ b.a)).one d0) ?_
 refine wl (gk (κ:=Int) (k:=f.Kind) (β:=List UInt8) (zx:=[]) underlying95 underlying3 (aa (Sa d3)) (aa (Sa d7)) Hw rfl (b.get d0) md ?_); rintro _ rfl; refine fa ?_
 refine wl (xd underlying131 Hb (fb.s (aa (Sa d8)) rfl fb.z) rfl rfl b ?_); clear b; intro ms os rs b; refine fa ?_
 obtain ⟨us,e,rd,b⟩:=Sep.ud (l:=([((vb (cc (cc ([]:List (Int×List UInt8)) 3 [105,102]) 4 [119,104,105,108,101]) f.Kind).getD [])]:List (List UInt8))) b (pa.one (α:=List UInt8) rfl) (Nat.le_of_ble_eq_true rfl)
 obtain ⟨vs,wd,h⟩:=ha h
 replace b:=(b.da Eb).da Eb
 refine Aa (Df (n.t (d.t e)) (m3.up (d.t e)) (m7.up (d.t e)) rd wd b) ?_
 rintro _ ws ⟨xs,ys,Os,gt,rfl,j,b,Fd,Id⟩
 refine fa (rb ?_)
 iterate 4 refine st ?_
 obtain ⟨it,be,h⟩:=ha h
 replace b:=(b.da Da).da Da
 refine Aa ((Iv fu).gg (n.t (d.t (e.t j))) Fd Id (m12.up (d.t (e.t j))) ((m19.up (d.t (e.t j))).eg 2 4) be b) ?_
 rintro _ lt ⟨mt,rt,ut,wt,rfl,q,b,ce,m64⟩
 refine fa (rb ?_)
 iterate 4 refine st ?_
 refine Ha ((m19 _ ((d.t (e.t (j.t q))) _ b.a)).one d6) ?_
 obtain ⟨W,ge,h⟩:=ha h
 replace b:=(b.da Da).da Da
 refine Aa (R.ik (n.t (d.t (e.t (j.t q)))) ce m64 (m15.up (d.t (e.t (j.t q)))) ge b) ?_
 rintro _ Mf ⟨he,le,v70,ne,rfl,v,b,X,Y⟩
 refine fa (ob (db ?_))
 refine Ub (rg 42 12) (by decide) (fun m w=>∃ g N,m=(qc (qc (vf (Rc 42 (xf 52 (.i (.bool N)::[]))))))∧Xp self f W N=some r∧ga he g∧ka g J w (.ba U 53 [le,v70]::.row v70 5 1 W.length ne::O)) (by rintro _ _ ⟨_,_,rfl,_⟩; rfl) ?_ ?_
 refine eb ?_
 iterate 3 refine st ?_
 refine Ha ((m19 _ ((d.t (e.t (j.t (q.t v)))) _ b.a)).one d0) ?_
 iterate 2 refine st ?_
 refine me 47 h ?_ ?_
 intro Ne h
 refine Ta rfl (Ta rfl (Ta rfl (mc rfl (Bb d7) (de Tn (aa (sb d0)) ((m19 _ ((d.t (e.t (j.t (q.t v)))) _ b.a)).one d7) (ma (ee kb)) (mc rfl (Bb d7) (Ja (Qd underlying59 (aa (sb d1))) (ma (ee Ib)) (Ta rfl (st (La (za ?_))))))))))
 replace b:=b.drop (ia.s (ia.s ia.z))
 exact ⟨_,_,rfl,(Xa (Xa (Yc (qb (Zc (Na ta)))))),_,(decide ((0:Int)<(f.jd.length:Int))),rfl,h,ga.r,b⟩
 intro Ne h
 refine oa rfl rfl (oa rfl rfl (oa rfl rfl (oa rfl rfl (oa rfl rfl (oa rfl rfl (st (La (za ?_))))))))
 replace b:=b.drop (ia.s (ia.s ia.z))
 exact ⟨_,_,rfl,(Xa (Xa (Yc (qb (Zc (Na ta)))))),_,false,rfl,h,ga.r,b⟩
 rintro _ t hu ⟨pu,N,rfl,h,u,b⟩
 unfold Xp at h
 refine Vb (vc (vc (Jf (Wc (Kf (kc pb)))))) (ra ?_)
 refine ed h ?_ ?_
 intro of h
 refine ea (st ?_)
 refine wl (xd underlying131 Hb (fb.s Ba rfl fb.z) rfl rfl b ?_); clear b; intro bv hw kw b; refine fa ?_
 obtain ⟨lw,x,wf,b⟩:=Sep.ud (l:=([[101,108,115,101]]:List (List UInt8))) b (pa.one (α:=List UInt8) rfl) (Nat.le_of_ble_eq_true rfl)
 obtain ⟨ww,If,h⟩:=ha h
 replace b:=(b.da Da).da Da
 refine Aa (Df (n.t (d.t (e.t (j.t (q.t (v.t (u.t x))))))) (X.up (u.t x)) (Y.up (u.t x)) wf If b) ?_
 rintro _ ex ⟨rx,ty,sz,Rz,rfl,B,b,dg,bi⟩
 refine fa (ja (eb ?_))
 iterate 4 refine st ?_
 refine Ha ((m19 _ ((d.t (e.t (j.t (q.t (v.t (u.t (x.t B))))))) _ b.a)).one d7) ?_
 obtain ⟨AC,ci,h⟩:=ha h
 replace b:=(b.da Da).da Da
 refine Aa (R.ik (n.t (d.t (e.t (j.t (q.t (v.t (u.t (x.t B)))))))) dg bi (m18.up (d.t (e.t (j.t (q.t (v.t (u.t (x.t B)))))))) ci b) ?_
 rintro _ GE ⟨LE,NE,WF,RK,rfl,ii,b,li,pi⟩
 refine fa (ja (Ra ?_))
 refine (fun h=>Ab (Fa (Fa h))) ?_
 obtain rfl:=Ea h
 refine Fs rfl ?_
 exact ⟨_,_,_,_,rfl,(d.t (e.t (j.t (q.t (v.t (u.t (x.t (B.t ii)))))))),b,li,pi⟩
 intro of h
 refine Va (ra (Ra ?_))
 refine (fun h=>Ab (Fa (Fa h))) ?_
 obtain rfl:=Ea h
 refine Fs rfl ?_
 exact ⟨_,_,_,_,rfl,(d.t (e.t (j.t (q.t (v.t u))))),b,(X.up u),(Y.up u)⟩
 intro fd h
 refine ea ?_
 iterate 2 refine st ?_
 refine ja ?_
 refine Za h ?_ ?_
 intro Pi h
 refine eb ?_
 iterate 4 refine st ?_
 refine Ha ((m19 _ (d _ b.a)).one d1) ?_
 refine wl (xd underlying131 Hb (fb.s Ba rfl (fb.s (aa (Oc d0)) rfl (fb.s Ba rfl fb.z))) rfl rfl b ?_); clear b; intro WL XL YL b; refine fa ?_
 obtain ⟨ZL,C,mk,b⟩:=Sep.ud (l:=([[108,101,116],f.Name,[61]]:List (List UInt8))) b (pa.cons (α:=List UInt8) (cs:=[S [108,101,116]]) rfl (pa.cons (α:=List UInt8) (cs:=[S f.Name]) rfl (pa.cons (α:=List UInt8) (cs:=[S [61]]) rfl pa.nil))) (Nat.le_of_ble_eq_true rfl)
 obtain ⟨aM,ok,h⟩:=ha h
 replace b:=(b.da Da).da Da
 refine Aa (Df (n.t (d.t C)) (m3.up (d.t C)) (m7.up (d.t C)) mk ok b) ?_
 rintro _ bM ⟨cM,v105,v107,dM,rfl,dl,b,el,nl⟩
 refine fa (La ?_)
 refine (fun h=>Pb (za h)) ?_
 exact ⟨_,_,rfl,(lf (Vf (zc (qb (ue ta))))),_,_,_,_,_,rfl,h,(d.t (C.t dl)),b,el,nl⟩
 intro Pi h
 refine ea ?_
 iterate 2 refine st ?_
 refine ja ?_
 refine Za h ?_ ?_
 intro ol h
 refine eb ?_
 iterate 4 refine st ?_
 refine Ha ((m19 _ (d _ b.a)).one d1) ?_
 refine wl (xd underlying131 Hb (fb.s (aa (Oc d9)) rfl (fb.s Ba rfl fb.z)) rfl rfl b ?_); clear b; intro eM fM gM b; refine fa ?_
 obtain ⟨hM,D,pl,b⟩:=Sep.ud (l:=([f.Name,[61]]:List (List UInt8))) b (pa.cons (α:=List UInt8) (cs:=[S f.Name]) rfl (pa.cons (α:=List UInt8) (cs:=[S [61]]) rfl pa.nil)) (Nat.le_of_ble_eq_true rfl)
 obtain ⟨iM,ul,h⟩:=ha h
 replace b:=(b.da Da).da Da
 refine Aa (Df (n.t (d.t D)) (m3.up (d.t D)) (m7.up (d.t D)) pl ul b) ?_
 rintro _ jM ⟨kM,lM,mM,nM,rfl,am,b,em,hm⟩
 refine fa (La ?_)
 refine (fun h=>Pb (za h)) ?_
 exact ⟨_,_,rfl,(lf (Vf (zc (qb (ue ta))))),_,_,_,_,_,rfl,h,(d.t (D.t am)),b,em,hm⟩
 intro ol h
 refine ea ?_
 iterate 2 refine st ?_
 refine ja ?_
 refine Za h ?_ ?_
 intro lm h
 refine eb ?_
 iterate 4 refine st ?_
 refine Ha ((m19 _ (d _ b.a)).one d1) ?_
 refine wl (xd underlying131 Hb (fb.s Ba rfl (fb.s (aa (Nc d8)) rfl fb.z)) rfl rfl b ?_); clear b; intro oM pM qM b; refine fa ?_
 obtain ⟨rM,E,pm,b⟩:=Sep.ud (l:=([[115,101,110,100],f.Name]:List (List UInt8))) b (pa.cons (α:=List UInt8) (cs:=[S [115,101,110,100]]) rfl (pa.cons (α:=List UInt8) (cs:=[S f.Name]) rfl pa.nil)) (Nat.le_of_ble_eq_true rfl)
 obtain ⟨sM,sm,h⟩:=ha h
 replace b:=(b.da Da).da Da
 refine Aa (Df (n.t (d.t E)) (m3.up (d.t E)) (m7.up (d.t E)) pm sm b) ?_
 rintro _ tM ⟨uM,v131,vM,wM,rfl,Nm,b,fn,on⟩
 refine fa (La ?_)
 refine (fun h=>Pb (za h)) ?_
 exact ⟨_,_,rfl,(lf (Vf (zc (qb (ue ta))))),_,_,_,_,_,rfl,h,(d.t (E.t Nm)),b,fn,on⟩
 intro lm h
 refine eb (st ?_)
 refine wl (hj b ?_); clear b; intro xM yM zM b; refine fa ?_
 refine wl (Ph (κ:=Int) (β:=List UInt8) (kk:=5) (xx:=[114,101,116,117,114,110]) underlying95 underlying3 (aa d9) Ba Ba rfl b d0 (je.nil (κ:=Int) (β:=List UInt8) (μ:=V) (c:=0)) Ma ?_); clear b; intro AM c139 BM o un p b; cases (show _=o from p)
 replace b:=Sep.te b Ga
 refine wl (Ph (κ:=Int) (β:=List UInt8) (kk:=6) (xx:=[115,116,111,112]) underlying95 underlying3 (aa d9) Ba Ba rfl b d0 un Ma ?_); clear b; intro CM DM EM o wn p b; cases (show _=o from p)
 replace b:=Sep.te b Ga
 refine wl (Ph (κ:=Int) (β:=List UInt8) (kk:=8) (xx:=[111,117,116]) underlying95 underlying3 (aa d9) Ba Ba rfl b d0 wn Ma ?_); clear b; intro FM c145 GM o Fn p b; cases (show _=o from p)
 replace b:=Sep.te b Ga
 refine wl (Ph (κ:=Int) (β:=List UInt8) (kk:=9) (xx:=[100,111]) underlying95 underlying3 (aa d9) Ba Ba rfl b d0 Fn Ma ?_); clear b; intro HM c148 IM o In p b; cases (show _=o from p)
 replace b:=Sep.te b Ga
 iterate 4 refine st ?_
 refine Ha ((m19 _ (d _ b.a)).one d0) ?_
 refine wl (gk (κ:=Int) (k:=f.Kind) (β:=List UInt8) (zx:=[]) underlying95 underlying3 (aa (wa d0)) (aa (wa d4)) Hw rfl (b.get d0) In ?_); rintro _ rfl; refine fa ?_
 refine wl (xd underlying131 Hb (fb.s (aa (wa d5)) rfl fb.z) rfl rfl b ?_); clear b; intro JM KM LM b; refine fa ?_
 obtain ⟨MM,F,co,b⟩:=Sep.ud (l:=([((vb (cc (cc (cc (cc ([]:List (Int×List UInt8)) 5 [114,101,116,117,114,110]) 6 [115,116,111,112]) 8 [111,117,116]) 9 [100,111]) f.Kind).getD [])]:List (List UInt8))) b (pa.one (α:=List UInt8) rfl) (Nat.le_of_ble_eq_true rfl)
 obtain ⟨NM,go,h⟩:=ha h
 replace b:=(b.da Eb).da Eb
 refine Aa (Df (n.t (d.t F)) (m3.up (d.t F)) (m7.up (d.t F)) co go b) ?_
 rintro _ OM ⟨PM,v159,QM,RM,rfl,io,b,no,ro⟩
 refine fa (La ?_)
 refine (fun h=>Pb (za h)) ?_
 replace b:=b.drop (ia.s (ia.s ia.z))
 exact ⟨_,_,rfl,(lf (Vf (zc (qb (ue ta))))),_,_,_,_,_,rfl,h,(d.t (F.t io)),b,no,ro⟩
 rintro _ t SM ⟨to,zf,A,K,L,rfl,h,y,b,Z,gc⟩
 unfold uo at h
 refine Vb (fi (kl (fg (Wc (qh pb))))) (ra (db (ea ?_)))
 iterate 3 refine st ?_
 refine Ha ((m19 _ (y _ b.a)).one d0) (st (ja ?_))
 refine Ub (rg 96 5) (by decide) (fun m w=>∃ g v167 G P Q,m=(Sd (qc (qc (Og (Hk 96 [])))))∧Gr G=some r∧ga to g∧ka g J w (.ba U 53 [v167,P]::.row P 5 1 G.length Q::O)∧Bf g U v167∧pa g Q G) (by rintro _ _ ⟨_,_,_,_,_,rfl,_⟩; rfl) ?_ ?_
 refine Za h ?_ ?_
 intro Do h
 refine eb ?_
 iterate 4 refine st ?_
 obtain ⟨TM,Go,h⟩:=ha h
 replace b:=(b.da Da).da Da
 refine Aa ((Iv fu).gg (n.t y) Z gc (m12.up y) ((m19.up y).eg 2 4) Go b) ?_
 rintro _ UM ⟨VM,WM,XM,YM,rfl,ap,b,ip,jp⟩
 refine fa (La (za ?_))
 exact ⟨_,_,rfl,(Yb (Xa (Xa (ye (Ah ta))))),_,_,_,_,_,rfl,h,ap,b,ip,jp⟩
 intro Do h
 refine Va (za ?_)
 exact ⟨_,_,rfl,(Yb (Xa (Xa (ye (Ah ta))))),_,_,_,_,_,rfl,h,ga.r,b,Z,gc⟩
 rintro _ t ZM ⟨aN,v167,G,P,Q,rfl,h,lc,b,mp,op⟩
 unfold Gr at h
 refine Vb (Ud (vc (vc (Zg (Ql pb))))) (ra (eb (st ?_)))
 refine wl (xd underlying131 Hb (fb.s Ba rfl fb.z) rfl rfl b ?_); clear b; intro bN cN dN b; refine fa ?_
 obtain ⟨eN,H,pp,b⟩:=Sep.ud (l:=([[59]]:List (List UInt8))) b (pa.one (α:=List UInt8) rfl) (Nat.le_of_ble_eq_true rfl)
 obtain ⟨fN,sp,h⟩:=ha h
 replace b:=(b.da Da).da Da
 refine Aa (Df (n.t (y.t (lc.t H))) (mp.up H) (op.up H) pp sp b) ?_
 rintro _ gN ⟨hN,iN,v194,jN,rfl,wp,b,Op,eq⟩
 refine fa (La ?_)
 obtain rfl:=Ea h
 refine Li rfl ?_
 exact ⟨_,_,_,_,rfl,(y.t (lc.t (H.t wp))),b,Op,eq⟩
theorem vx:∀ n,Mx (Co n)
  | 0=>⟨(by intro; intros; rename_i h _; cases h),(by intro; intros; rename_i h _; cases h)⟩
  | n+1=>⟨ZE (vx n),aF (vx n)⟩
theorem FF (f:ga Fc I) {Fd:List UInt8} {d:va} {r:List UInt8} (m3:Bf I U v2) (m7:pa I lg Fd) (m12:Ka I od rj d.Params) (m15:Ka I Vd Cq d.Body) (m16:dd I Ie jo [.int .i64 d.Kind,S d.Name,.int .i64 d.zb.Kind,S d.zb.Nb,.int .i64 d.Hc.Kind,S d.Hc.Nb,.int .i64 d.oe,.slice od d.Params.length rj,.slice Vd d.Body.length Cq]) (h:Yt fu Fd d=some r) (b:ka I J w (.ba U 53 [v2,v5]::.row v5 5 1 Fd.length lg::O)):Sb prog 11 [.pointer (some ⟨U,0,none⟩),.pointer (some ⟨Ie,jo,none⟩)] w (fun v w'=>∃ (na:M) (li:Value) (pi:Value) (Pi:List Value),v=.tuple ⟨[]⟩∧ga I na∧ka na J w' (.ba U 53 [li,pi]::.row pi 5 1 r.length Pi::O)∧Bf na U li∧pa na Pi r):=by
 unfold Yt at h
 refine enter func11 rfl (frm:=_::_::zd (zd (Ze (Ze [])))) rfl (db (ea ?_))
 iterate 3 refine st ?_
 refine Ha ((m16 _ b.a).one d0) (ja ?_)
 refine Ub (rg 4 2++rg 10 90) (by decide +kernel) (fun m w=>∃ e Ec E v24 Id,m=(tf (xf 4 (tf (nk 10 (Uf 60 (Uf 80 []))))))∧Sr fu d E=some r∧ga I e∧ka e J w (.ba U 53 [Ec,v24]::.row v24 5 1 E.length Id::O)∧Bf e U Ec∧pa e Id E) (by rintro _ _ ⟨_,_,_,_,_,rfl,_⟩; rfl) ?_ ?_
 refine Qb (ea ?_)
 iterate 2 refine st ?_
 refine ja ?_
 refine Za h ?_ ?_
 intro pl h
 refine db ?_
 refine Ub (rg 74 17) (by decide) (fun m w=>∃ e be F v31 ce,m=(Sd (qc (tf (Rc 74 (Nj 84 [])))))∧Bv F=some r∧ga I e∧ka e J w (.ba U 53 [be,v31]::.row v31 5 1 F.length ce::O)∧Bf e U be∧pa e ce F) (by rintro _ _ ⟨_,_,_,_,_,rfl,_⟩; rfl) ?_ ?_
 refine Td b ?_; clear b; intro aM b
 refine Pd (la 0 [0,16] rfl (la 1 [1,2,3,4,15,16] rfl (la 2 [2,3,4,15,16] rfl (la 3 [3,4,15,16] rfl (Fb 4 [4,15,16] rfl (jb Hb (aa (Oc d7)) ((m16 _ b.a).one d1)) (Zf Yd) (la 5 [5,6,7,8,9,14,15,16] rfl (la 6 [6,7,8,9,14,15,16] rfl (la 7 [7,8,9,14,15,16] rfl (Fb 8 [8,9,14,15,16] rfl (Re Mb (aa (Nc d1)) ((m16 _ b.a).eg 2 2) rfl) (qg Ib) (la 10 [10,11,12,13,14,15,16] rfl (la 11 [11,12,13,14,15,16] rfl (la 12 [12,13,14,15,16] rfl (Fb 13 [13,14,15,16] rfl (jb Uc (aa (Nc d6)) ((m16 _ b.a).one d6)) (qg sd) ?_)))))))))))))
 obtain ⟨mk,ul,h⟩:=ha h
 refine Kb rfl rfl rfl rfl (Gb rfl) (td MB nd (sa (aa (Nc d2)) hb) (Hv f ul b) ?_)
 rintro _ bM ⟨cM,rfl,q,b⟩
 refine fa ?_
 refine ⟨(Oa.s (jb Uc (aa (Nc d6)) ((m16 _ (q _ b.a)).one d6)) (Oa.s (jb Hb (aa (Oc d7)) ((m16 _ (q _ b.a)).one d1)) Oa.z)),?_⟩
 obtain ⟨ok,am,h⟩:=ha h
 refine Kb rfl rfl rfl rfl (Gb rfl) (td JG nd (sa (aa (Nc d7)) hb) (YG (f.t q) am b) ?_); clear b; rintro _ dM ⟨rfl,b⟩; refine fa ?_
 refine ⟨(Oa.s (jb Hb (aa (Oc d7)) ((m16 _ (q _ b.a)).one d1)) Oa.z),?_⟩
 refine Kb rfl rfl rfl rfl (Gb rfl) (xd underlying131 Hb (fb.s Ba rfl (fb.s (aa (Oc d8)) rfl (fb.s (aa (Nc d3)) rfl (fb.s (aa (Nc d8)) rfl (fb.s Ba rfl fb.z))))) rfl rfl b ?_); clear b; intro eM fM gM b; refine fa ?_
 refine ⟨Oa.z,?_⟩
 obtain ⟨hM,G,em,b⟩:=Sep.ud (l:=([[98,111,120],d.Name,mk,ok,[59]]:List (List UInt8))) b (pa.cons (α:=List UInt8) (cs:=[S [98,111,120]]) rfl (pa.cons (α:=List UInt8) (cs:=[S d.Name]) rfl (pa.cons (α:=List UInt8) (cs:=[S mk]) rfl (pa.cons (α:=List UInt8) (cs:=[S ok]) rfl (pa.cons (α:=List UInt8) (cs:=[S [59]]) rfl pa.nil))))) (Nat.le_of_ble_eq_true rfl)
 obtain ⟨iM,hm,h⟩:=ha h
 replace b:=(b.da Da).da Da
 refine Kb rfl rfl rfl rfl (Gb rfl) (td yk nd (sa (aa (Oc d4)) (sa (aa (Nc d9)) hb)) (Df (f.t (q.t G)) (m3.up (q.t G)) (m7.up (q.t G)) em hm b) ?_)
 rintro _ jM ⟨kM,lM,v49,mM,rfl,lm,b,pm,sm⟩
 refine fa ?_
 refine ⟨Oa.z,?_⟩
 refine Hd (za ?_)
 exact ⟨_,_,rfl,(Yb (Xa (gd (qb (Cg ta))))),_,_,_,_,_,rfl,h,(q.t (G.t lm)),b,pm,sm⟩
 rintro _ t nM ⟨oM,be,F,v31,ce,rfl,h,Nm,b,fn,on⟩
 unfold Bv at h
 refine Vb (Ud (vc (Ff (Wc (Ik pb))))) (ra (Ra ?_))
 refine (fun h=>Ab (Fa (Fa h))) ?_
 obtain rfl:=Ea h
 refine Fs rfl ?_
 exact ⟨_,_,_,_,rfl,Nm,b,fn,on⟩
 intro pl h
 refine ea ?_
 iterate 2 refine st ?_
 refine ja ?_
 refine Za h ?_ ?_
 intro un h
 refine eb ?_
 iterate 4 refine st ?_
 refine Ha ((m16 _ b.a).one d1) ?_
 refine wl (xd underlying131 Hb (fb.s Ba rfl (fb.s (aa (fe d7)) rfl fb.z)) rfl rfl b ?_); clear b; intro pM qM rM b; refine fa ?_
 obtain ⟨sM,H,wn,b⟩:=Sep.ud (l:=([[116,97,115,107],d.Name]:List (List UInt8))) b (pa.cons (α:=List UInt8) (cs:=[S [116,97,115,107]]) rfl (pa.cons (α:=List UInt8) (cs:=[S d.Name]) rfl pa.nil)) (Nat.le_of_ble_eq_true rfl)
 obtain ⟨tM,Fn,h⟩:=ha h
 replace b:=(b.da Da).da Da
 refine Aa (Df (f.t H) (m3.up H) (m7.up H) wn Fn b) ?_
 rintro _ Mf ⟨uM,vM,wM,xM,rfl,In,b,m64,co⟩
 refine fa (La ?_)
 refine (fun h=>Pb (za h)) ?_
 exact ⟨_,_,rfl,(gd (Zc (gd (Vf (zc (zc ta)))))),_,_,_,_,_,rfl,h,(H.t In),b,m64,co⟩
 intro un h
 refine db ?_
 refine Ub (rg 10 14) (by decide) (fun m w=>∃ e K B v70 L,m=(yd (Rc 10 (Ih 20 [])))∧xt fu d B=some r∧ga I e∧ka e J w (.ba U 53 [K,v70]::.row v70 5 1 B.length L::O)∧Bf e U K∧pa e L B) (by rintro _ _ ⟨_,_,_,_,_,rfl,_⟩; rfl) ?_ ?_
 refine Td b ?_; clear b; intro yM b
 refine Pd (la 0 [0,15] rfl (la 5 [5,6,7,8,9,14,15] rfl (la 6 [6,7,8,9,14,15] rfl (la 7 [7,8,9,14,15] rfl (Fb 8 [8,9,14,15] rfl (jb Uc (aa (wa d5)) ((m16 _ b.a).one d0)) (Jb ad) (la 10 [10,11,12,13,14,15] rfl (la 11 [11,12,13,14,15] rfl (la 12 [12,13,14,15] rfl (Fb 13 [13,14,15] rfl (jb Hb (aa (Sa d0)) ((m16 _ b.a).one d1)) (oc kb) ?_)))))))))
 refine Kb rfl rfl rfl rfl (Gb rfl) (hj b ?_); clear b; intro zM AM BM b; refine fa ?_
 refine ⟨(Oa.s (jb Hb (aa (Sa d0)) ((m16 _ b.a).one d1)) (Oa.s (jb Uc (aa (wa d5)) ((m16 _ b.a).one d0)) Oa.z)),?_⟩
 refine xC (i:=2) (j:=3) rfl rfl rfl rfl rfl rfl rfl (Gb rfl) (Gb rfl) ?_ ?_
 refine id (Ph (κ:=Int) (β:=List UInt8) (kk:=2) (xx:=[102,110]) underlying95 underlying3 (aa (wa d1)) Ba Ba rfl b d0 (je.nil (κ:=Int) (β:=List UInt8) (μ:=I) (c:=0)) Ma ?_); clear b; intro CM DM EM x go y b; cases (show _=x from y)
 replace b:=Sep.te b Ga
 refine ⟨(Oa.s (jb Hb (aa (Sa d0)) ((m16 _ b.a).one d1)) (Oa.s (jb Uc (aa (wa d5)) ((m16 _ b.a).one d0)) Oa.z)),?_⟩
 refine Kb rfl rfl rfl rfl (Gb rfl) (Ph (κ:=Int) (β:=List UInt8) (kk:=3) (xx:=[103,101,110]) underlying95 underlying3 (aa (wa d1)) Ba Ba rfl b d0 go Ma ?_); clear b; intro FM c80 GM x io y b; cases (show _=x from y)
 replace b:=Sep.te b Ga
 refine ⟨(Oa.s (jb Hb (aa (Sa d0)) ((m16 _ b.a).one d1)) (Oa.s (jb Uc (aa (wa d5)) ((m16 _ b.a).one d0)) Oa.z)),?_⟩
 refine la 4 [4,9,14,15] rfl ?_
 refine Kb rfl rfl rfl rfl (Gb rfl) (gk (κ:=Int) (k:=d.Kind) (β:=List UInt8) (zx:=[]) underlying95 underlying3 (aa (wa d2)) (aa (wa d6)) Hw rfl (b.get d0) io ?_); rintro _ rfl; refine fa ?_
 refine ⟨(Oa.s (jb Hb (aa (Sa d0)) ((m16 _ b.a).one d1)) Oa.z),?_⟩
 refine Kb rfl rfl rfl rfl (Gb rfl) (xd underlying131 Hb (fb.s (aa (wa d7)) rfl (fb.s (aa (Sa d1)) rfl (fb.s Ba rfl fb.z))) rfl rfl b ?_); clear b; intro HM IM JM b; refine fa ?_
 refine ⟨Oa.z,?_⟩
 obtain ⟨KM,N,no,b⟩:=Sep.ud (l:=([((vb (cc (cc ([]:List (Int×List UInt8)) 2 [102,110]) 3 [103,101,110]) d.Kind).getD []),d.Name,[40]]:List (List UInt8))) b (pa.cons (α:=List UInt8) (cs:=[S ((vb (cc (cc ([]:List (Int×List UInt8)) 2 [102,110]) 3 [103,101,110]) d.Kind).getD [])]) rfl (pa.cons (α:=List UInt8) (cs:=[S d.Name]) rfl (pa.cons (α:=List UInt8) (cs:=[S [40]]) rfl pa.nil))) (Nat.le_of_ble_eq_true rfl)
 obtain ⟨ro,ge,h⟩:=ha h
 replace b:=(b.da Eb).da Eb
 refine Kb rfl rfl rfl rfl (Gb rfl) (td yk nd (sa (aa (wa d0)) (sa (aa (Sa d2)) hb)) (Df (f.t N) (m3.up N) (m7.up N) no ge b) ?_)
 rintro _ LM ⟨MM,v91,v93,NM,rfl,to,b,Do,Go⟩
 refine fa ?_
 refine ⟨Oa.z,?_⟩
 refine Hd (za ?_)
 replace b:=b.drop (ia.s (ia.s ia.z))
 exact ⟨_,_,rfl,(xb (qb (pf ta))),_,_,_,_,_,rfl,h,(N.t to),b,Do,Go⟩
 obtain ⟨ro,ge,h⟩:=ha h
 refine id (Ph (κ:=Int) (β:=List UInt8) (kk:=3) (xx:=[103,101,110]) underlying95 underlying3 (aa (wa d1)) Ba Ba rfl b d0 (je.nil (κ:=Int) (β:=List UInt8) (μ:=I) (c:=0)) Ma ?_); clear b; intro OM PM QM x ap y b; cases (show _=x from y)
 replace b:=Sep.te b Ga
 refine ⟨(Oa.s (jb Hb (aa (Sa d0)) ((m16 _ b.a).one d1)) (Oa.s (jb Uc (aa (wa d5)) ((m16 _ b.a).one d0)) Oa.z)),?_⟩
 refine Kb rfl rfl rfl rfl (Gb rfl) (Ph (κ:=Int) (β:=List UInt8) (kk:=2) (xx:=[102,110]) underlying95 underlying3 (aa (wa d1)) Ba Ba rfl b d0 ap Ma ?_); clear b; intro RM SM TM x ip y b; cases (show _=x from y)
 replace b:=Sep.te b Ga
 refine ⟨(Oa.s (jb Hb (aa (Sa d0)) ((m16 _ b.a).one d1)) (Oa.s (jb Uc (aa (wa d5)) ((m16 _ b.a).one d0)) Oa.z)),?_⟩
 refine la 4 [4,9,14,15] rfl ?_
 refine Kb rfl rfl rfl rfl (Gb rfl) (gk (κ:=Int) (k:=d.Kind) (β:=List UInt8) (zx:=[]) underlying95 underlying3 (aa (wa d2)) (aa (wa d6)) Hw rfl (b.get d0) ip ?_); rintro _ rfl; refine fa ?_
 rw [show vb (cc (cc ([]:List (Int×List UInt8)) 3 [103,101,110]) 2 [102,110]) d.Kind=vb (cc (cc ([]:List (Int×List UInt8)) 2 [102,110]) 3 [103,101,110]) d.Kind from yE (by decide)]
 refine ⟨(Oa.s (jb Hb (aa (Sa d0)) ((m16 _ b.a).one d1)) Oa.z),?_⟩
 refine Kb rfl rfl rfl rfl (Gb rfl) (xd underlying131 Hb (fb.s (aa (wa d7)) rfl (fb.s (aa (Sa d1)) rfl (fb.s Ba rfl fb.z))) rfl rfl b ?_); clear b; intro UM VM WM b; refine fa ?_
 refine ⟨Oa.z,?_⟩
 obtain ⟨XM,P,jp,b⟩:=Sep.ud (l:=([((vb (cc (cc ([]:List (Int×List UInt8)) 2 [102,110]) 3 [103,101,110]) d.Kind).getD []),d.Name,[40]]:List (List UInt8))) b (pa.cons (α:=List UInt8) (cs:=[S ((vb (cc (cc ([]:List (Int×List UInt8)) 2 [102,110]) 3 [103,101,110]) d.Kind).getD [])]) rfl (pa.cons (α:=List UInt8) (cs:=[S d.Name]) rfl (pa.cons (α:=List UInt8) (cs:=[S [40]]) rfl pa.nil))) (Nat.le_of_ble_eq_true rfl)
 replace b:=(b.da Eb).da Eb
 refine Kb rfl rfl rfl rfl (Gb rfl) (td yk nd (sa (aa (wa d0)) (sa (aa (Sa d2)) hb)) (Df (f.t P) (m3.up P) (m7.up P) jp ge b) ?_)
 rintro _ YM ⟨ZM,v109,aN,bN,rfl,mp,b,op,pp⟩
 refine fa ?_
 refine ⟨Oa.z,?_⟩
 refine Hd (za ?_)
 replace b:=b.drop (ia.s (ia.s ia.z))
 exact ⟨_,_,rfl,(xb (qb (pf ta))),_,_,_,_,_,rfl,h,(P.t mp),b,op,pp⟩
 rintro _ t cN ⟨sp,K,B,v70,L,rfl,h,g,b,wp,Op⟩
 unfold xt at h
 refine Vb (Dd (Wc (ai pb))) (ra (db (ea ?_)))
 iterate 3 refine st ?_
 refine Ha ((m16 _ (g _ b.a)).one d7) (wl (Ja (Qd underlying58 (aa (Sa d7))) (ma (oc Yd)) (st (ja (Qb ?_)))))
 refine Se (rg 4 2++rg 30 18) (by decide) (fun n m w=>∃ e i162 he Q le ne,m=(tf (xf 4 (qc (kg (.i (.int .i64 i162)::(Rc 30 (ei 40 [])))))))∧Lm fu d n i162 Q=some r∧ga sp e∧ka e J w (.ba U 53 [he,le]::.row le 5 1 Q.length ne::O)∧Bf e U he∧pa e ne Q) (by rintro _ _ _ ⟨_,_,_,_,_,_,rfl,_⟩; rfl) _ _ (gd (Zc (Xa (Md (Na (qb (ag ta))))))) ⟨_,0,K,B,v70,L,rfl,h,ga.r,b,wp,Op⟩ ?_
 rintro C _ t dN ⟨eq,i162,he,Q,le,ne,rfl,h,o,b,Ne,of⟩
 rcases C with _|C
 cases h
 unfold Lm at h
 refine Te (Ff (Kf (vc (sg (kc (Wc (xi pb))))))) (ea (st (ob ?_)))
 refine Za h ?_ ?_
 intro Eq h
 refine Va (ra (db (Qb (ea (st ?_)))))
 obtain ⟨A,fr,h⟩:=ha h
 obtain ⟨eN,fN,gN,or,f224,qr⟩:=Pc.elem (m12.up (g.t o)) fr
 obtain rfl:=qr
 refine wl (Ja (Mc underlying58 yh (aa (Sa d7)) (aa (Sa d9)) or) (ma (qd Ib)) (Ae (f224 _ b.a) rfl ?_))
 refine wl (bd yh b ?_); clear b; intro wr hN iN b; refine fa ?_
 refine st (wl (yb yh (aa d5) (aa (ib d3)) rfl rfl b d0 rfl Ga Ma ?_))
 clear b; intro jN b
 refine ob (ea ?_)
 iterate 2 refine st ?_
 refine ja ?_
 refine Ub (rg 36 3) (by decide) (fun m w=>∃ e v228 R wf If,m=(qc (yd (Og (Yg 36 []))))∧Tr i162 A (Lm fu d C) R=some r∧ga eq e∧ka e J w (.ba U 53 [v228,wf]::.row wf 5 1 R.length If::.ba wr 86 [S A.Name,.int .i64 A.zb.Kind,S A.zb.Nb]::O)∧Bf e U v228∧pa e If R) (by rintro _ _ ⟨_,_,_,_,_,rfl,_⟩; rfl) ?_ ?_
 refine Za h ?_ ?_
 intro Fr h
 refine eb (st ?_)
 refine wl (xd underlying131 Hb (fb.s Ba rfl fb.z) rfl rfl b ?_); clear b; intro kN lN mN b; refine fa ?_
 obtain ⟨nN,T,Or,b⟩:=Sep.ud (l:=([[44]]:List (List UInt8))) b (pa.one (α:=List UInt8) rfl) (Nat.le_of_ble_eq_true rfl)
 obtain ⟨oN,ds,h⟩:=ha h
 replace b:=(b.da Eb).da Eb
 refine Aa (Df (f.t (g.t (o.t T))) (Ne.up T) (of.up T) Or ds b) ?_
 rintro _ pN ⟨qN,rN,sN,tN,rfl,es,b,gs,is⟩
 refine fa (La (za ?_))
 exact ⟨_,_,rfl,(Xa (xb (ye (ue ta)))),_,_,_,_,_,rfl,h,(T.t es),b,gs,is⟩
 intro Fr h
 refine Va (za ?_)
 replace b:=(b.da Eb).da Eb
 exact ⟨_,_,rfl,(Xa (xb (ye (ue ta)))),_,_,_,_,_,rfl,h,ga.r,b,Ne,of⟩
 rintro _ t uN ⟨ls,v228,R,wf,If,rfl,h,dg,b,ms,os⟩
 unfold Tr at h
 refine Vb (vc (Dd (Zg (qh pb)))) (ra ?_)
 refine Ub (rg 39 8) (by decide) (fun m w=>∃ e V D W X,m=(qc (yd (mi (ei 39 []))))∧Cv i162 (Lm fu d C) D=some r∧ga ls e∧ka e J w (.ba U 53 [V,W]::.row W 5 1 D.length X::O)∧Bf e U V∧pa e X D) (by rintro _ _ ⟨_,_,_,_,_,rfl,_⟩; rfl) ?_ ?_
 refine Td b ?_; clear b; intro vN b
 refine Pd (la 0 [0,7] rfl (la 1 [1,2,6,7] rfl (Fb 2 [2,6,7] rfl (jb Hb (aa (Bb d0)) ((b.ba d2).cell d0)) (Xd kb) (la 3 [3,4,5,6,7] rfl (Fb 4 [4,5,6,7] rfl (Re Mb (aa (Bb d2)) ((b.ba d2).Xk (ve.s d1 (ve.s d2 ve.z))) rfl) (Xd ec) ?_)))))
 obtain ⟨dl,rs,h⟩:=ha h
 refine Kb rfl rfl rfl rfl (Gb rfl) (td MB nd (sa (aa (Bb d3)) hb) (Hv (f.t (g.t (o.t dg))) rs b) ?_)
 rintro _ wN ⟨xN,rfl,Y,b⟩
 refine fa ?_
 refine ⟨(Oa.s (jb Hb (aa (Bb d0)) ((b.ba d2).cell d0)) Oa.z),?_⟩
 refine Kb rfl rfl rfl rfl (Gb rfl) (xd underlying131 Hb (fb.s (aa (Bb d1)) rfl (fb.s (aa (Bb d4)) rfl fb.z)) rfl rfl b ?_); clear b; intro yN zN AN b; refine fa ?_
 refine ⟨Oa.z,?_⟩
 obtain ⟨BN,Z,us,b⟩:=Sep.ud (l:=([A.Name,dl]:List (List UInt8))) b (pa.cons (α:=List UInt8) (cs:=[S A.Name]) rfl (pa.cons (α:=List UInt8) (cs:=[S dl]) rfl pa.nil)) (Nat.le_of_ble_eq_true rfl)
 obtain ⟨CN,vs,h⟩:=ha h
 replace b:=(b.da Da).da Da
 refine Kb rfl rfl rfl rfl (Gb rfl) (td yk nd (sa (aa (ib d9)) (sa (aa (Bb d5)) hb)) (Df (f.t (g.t (o.t (dg.t (Y.t Z))))) (ms.up (Y.t Z)) (os.up (Y.t Z)) us vs b) ?_)
 rintro _ DN ⟨EN,FN,GN,HN,rfl,ws,b,xs,ys⟩
 refine fa ?_
 refine ⟨Oa.z,?_⟩
 refine Hd (za ?_)
 replace b:=b.drop (ia.s (ia.s ia.z))
 exact ⟨_,_,rfl,(Xa (xb (yf (ag ta)))),_,_,_,_,_,rfl,h,(Y.t (Z.t ws)),b,xs,ys⟩
 rintro _ t IN ⟨JN,V,D,W,X,rfl,h,Os,b,gt,it⟩
 unfold Cv at h
 refine Vb (vc (Dd (Qi (xi pb)))) ?_
 refine (fun h=>Pb (ra h)) ?_
 refine eb ?_
 obtain ⟨lt,mt,h⟩:=ha h
 refine wl (Ja (Gd (aa (Sa d9)) Ba mt) (ma (Xd sd)) (st (La (za ?_))))
 exact ⟨C,_,_,rfl,(gd (Zc (Xa (Md (Na (qb (ag ta))))))),⟨_,lt,V,D,W,X,rfl,h,(o.t (dg.t Os)),b,gt,it⟩,Nat.lt_succ_self _⟩
 intro Eq h
 refine ke ?_
 refine (fun h=>jc (jc (pe h))) ?_
 refine ra (ea (st ?_))
 refine wl (xd underlying131 Hb (fb.s Ba rfl fb.z) rfl rfl b ?_); clear b; intro KN LN MN b; refine fa ?_
 obtain ⟨NN,p,rt,b⟩:=Sep.ud (l:=([[41]]:List (List UInt8))) b (pa.one (α:=List UInt8) rfl) (Nat.le_of_ble_eq_true rfl)
 obtain ⟨ON,ut,h⟩:=ha h
 replace b:=(b.da Da).da Da
 refine Aa (Df (f.t (g.t (o.t p))) (Ne.up p) (of.up p) rt ut b) ?_
 rintro _ PN ⟨wt,QN,RN,SN,rfl,u,b,el,nl⟩
 refine fa (ob (ea ?_))
 iterate 3 refine st ?_
 refine Ha ((m16 _ ((g.t (o.t (p.t u))) _ b.a)).one d0) (st (ja ?_))
 refine Ub (rg 56 8) (by decide) (fun m w=>∃ e bi gc ci ii,m=(Sd (Og (ei 56 [])))∧zn fu d gc=some r∧ga wt e∧ka e J w (.ba U 53 [bi,ci]::.row ci 5 1 gc.length ii::O)∧Bf e U bi∧pa e ii gc) (by rintro _ _ ⟨_,_,_,_,_,rfl,_⟩; rfl) ?_ ?_
 refine Za h ?_ ?_
 intro hu h
 refine eb ?_
 iterate 4 refine st ?_
 refine Ae ((m16 _ ((g.t (o.t (p.t u))) _ b.a)).eg 4 2) rfl ?_
 obtain ⟨ol,pu,h⟩:=ha h
 refine Aa (Hv (f.t (g.t (o.t (p.t u)))) pu b) ?_
 rintro _ TN ⟨UN,rfl,lc,b⟩
 refine fa ?_
 refine wl (xd underlying131 Hb (fb.s Ba rfl (fb.s (aa (Gc d1)) rfl (fb.s Ba rfl fb.z))) rfl rfl b ?_); clear b; intro VN WN XN b; refine fa ?_
 obtain ⟨YN,rc,bv,b⟩:=Sep.ud (l:=([[116,97,107,101,115],ol,[121,105,101,108,100,115]]:List (List UInt8))) b (pa.cons (α:=List UInt8) (cs:=[S [116,97,107,101,115]]) rfl (pa.cons (α:=List UInt8) (cs:=[S ol]) rfl (pa.cons (α:=List UInt8) (cs:=[S [121,105,101,108,100,115]]) rfl pa.nil))) (Nat.le_of_ble_eq_true rfl)
 obtain ⟨ZN,hw,h⟩:=ha h
 replace b:=(b.da Da).da Da
 refine Aa (Df (f.t (g.t (o.t (p.t (u.t (lc.t rc)))))) (el.up (lc.t rc)) (nl.up (lc.t rc)) bv hw b) ?_
 rintro _ aO ⟨bO,cO,dO,eO,rfl,kw,b,lw,ww⟩
 refine fa (La (za ?_))
 exact ⟨_,_,rfl,(Yb (ye (ag ta))),_,_,_,_,_,rfl,h,(lc.t (rc.t kw)),b,lw,ww⟩
 intro hu h
 refine Va (za ?_)
 exact ⟨_,_,rfl,(Yb (ye (ag ta))),_,_,_,_,_,rfl,h,ga.r,b,el,nl⟩
 rintro _ t fO ⟨gO,bi,gc,ci,ii,rfl,h,fd,b,ex,rx⟩
 unfold zn at h
 refine Vb (Ud (Zg (xi pb))) (ra (eb ?_))
 iterate 4 refine st ?_
 refine Ae ((m16 _ ((g.t (o.t (p.t (u.t fd)))) _ b.a)).eg 2 2) rfl ?_
 obtain ⟨ty,sz,h⟩:=ha h
 refine Aa (Hv (f.t (g.t (o.t (p.t (u.t fd))))) sz b) ?_
 rintro _ hO ⟨iO,rfl,md,b⟩
 refine fa ?_
 refine wl (xd underlying131 Hb (fb.s (aa (Gc d9)) rfl fb.z) rfl rfl b ?_); clear b; intro jO kO lO b; refine fa ?_
 obtain ⟨mO,rd,Rz,b⟩:=Sep.ud (l:=([ty]:List (List UInt8))) b (pa.one (α:=List UInt8) rfl) (Nat.le_of_ble_eq_true rfl)
 obtain ⟨nO,AC,h⟩:=ha h
 replace b:=(b.da Da).da Da
 refine Aa (Df (f.t (g.t (o.t (p.t (u.t (fd.t (md.t rd))))))) (ex.up (md.t rd)) (rx.up (md.t rd)) Rz AC b) ?_
 rintro _ oO ⟨pO,qO,rO,sO,rfl,GE,b,LE,NE⟩
 refine fa (La ?_)
 refine (fun h=>Pb (za h)) ?_
 exact ⟨_,_,rfl,(gd (Zc (gd (Vf (zc (zc ta)))))),_,_,_,_,_,rfl,h,(g.t (o.t (p.t (u.t (fd.t (md.t (rd.t GE))))))),b,LE,NE⟩
 rintro _ t tO ⟨uO,Ec,E,v24,Id,rfl,h,wd,b,WF,RK⟩
 unfold Sr at h
 refine Vb (Ff (Kf (Ff (kl (fg (fg pb)))))) (ra (eb ?_))
 iterate 4 refine st ?_
 refine Ha ((m16 _ (wd _ b.a)).one d8) ?_
 obtain ⟨vO,WL,h⟩:=ha h
 replace b:=(b.da Da).da Da
 refine Aa ((vx fu).ik (f.t wd) WF RK (m15.up wd) WL b) ?_
 rintro _ wO ⟨xO,yO,zO,AO,rfl,XL,b,YL,ZL⟩
 refine fa (La ?_)
 obtain rfl:=Ea h
 refine Li rfl ?_
 exact ⟨_,_,_,_,rfl,(wd.t XL),b,YL,ZL⟩
theorem DD (g:ga Fc I) {p_1:List va} {r:List UInt8×Vc} (m3:Ka I xa c2 p_1) (h:bq fu p_1=some r) (b:ka I J w (O)):Sb prog 5 [.slice xa p_1.length c2] w (fun v w'=>∃ (na:M) ,v=.tuple ⟨[S r.1,.agg ⟨[.int .i64 r.2.Ue,.int .i64 r.2.dd]⟩]⟩∧ga I na∧ka na J w' (O)):=by
 unfold bq at h
 refine enter func5 rfl (frm:=_::Cf (Ge (Wf (Xe [])))) rfl (ea (st ?_))
 refine wl (bd wc b ?_); clear b; intro x X Y b; refine fa ?_
 refine ob (ea (st ?_))
 obtain ⟨Z,g7,h⟩:=ha h
 refine Aa (Xw g m3 g7 b) ?_
 rintro _ gc ⟨y,rfl,c,b⟩
 refine fa ?_
 refine wl (bd wc b ?_); clear b; intro Fe lc rc b; refine fa ?_
 refine wl (yb wc (aa d4) (aa d8) rfl rfl b d0 rfl Ga Ma ?_)
 clear b; intro fd b
 refine rb (st (Ha ((b.ba d0).cell d0) (st (ja ?_))))
 refine Za h ?_ ?_
 intro A h
 refine db ?_
 refine Td b ?_; clear b; intro id b
 refine Pd (Fb 0 [0,2] rfl (Re wc (aa d4) (b.ba d0).cells rfl) (Jb Ib) (la 1 [1,2] rfl (Kb rfl rfl rfl rfl (Gb rfl) (yb wc (aa d3) (aa (wa d2)) rfl rfl b d1 rfl kb Ma ?_))))
 clear b; intro md b
 refine ⟨Oa.z,?_⟩
 refine Hd (ra (Ra (Fa ?_)))
 obtain rfl:=Ea h
 refine Ad rfl (Qa.s (.t d2) (Qa.s (.a d3 wc (b.ba d1).cells rfl) Qa.z)) ?_
 replace b:=(b.drop ia.z).drop ia.z
 exact ⟨_,rfl,c,b⟩
 intro A h
 refine Va (ra (ea (wl (Nd zI LI ab.z (ma (Jb ec)) ?_))))
 refine wl (Ji (aa (wa d3)) rfl b ?_); clear b; intro Qc rd wd b; refine fa ?_
 refine st (ob (ea (st (wl (Ja (Qd underlying22 (aa (wa d5))) (ma (Jb ad)) (st (ja (Qb ?_))))))))
 replace b:=b.Qh 5 (cb.sz UInt8)
 replace b:=((b.drop (ia.s (ia.s ia.z))).da Da).da Eb
 refine Se ([6]++rg 18 8) (by decide) (fun n m w=>∃ e i39 v40 f j k,m=(Og (Sc 6 (yd (.i (.int .i64 i39)::(ei 18 [])))))∧Rp fu p_1 n i39 f=some r∧ga y e∧ka e J w (.ba x 26 [.int .i64 0,.int .i64 0]::.ba Qc 53 [v40,j]::.row j 5 1 f.length k::O)∧Bf e Qc v40∧pa e k f) (by rintro _ _ _ ⟨_,_,_,_,_,_,rfl,_⟩; rfl) _ _ (ye (lb (xb (Na (ag ta))))) ⟨_,0,(.pointer none),[],(.slice none 0 0),[],rfl,h,ga.r,b,Bf.nil,pa.nil⟩ ?_
 rintro l _ t Mf ⟨Fd,i39,v40,f,j,k,rfl,h,d,b,u,p⟩
 rcases l with _|l
 cases h
 unfold Rp at h
 refine Te (Zg (Xc (Dd (kc (xi pb))))) (ea (st (ob ?_)))
 refine Za h ?_ ?_
 intro B h
 refine Va (ra (db (Qb (ea ?_))))
 iterate 2 refine st ?_
 refine ja (eb ?_)
 iterate 3 refine st ?_
 obtain ⟨Id,C,h⟩:=ha h
 obtain ⟨be,ce,ge,D,f80,E⟩:=Pc.elem (m3.up (c.t d)) C
 obtain ⟨he,le,a85,ne,rfl,F,G⟩:=E
 refine wl (Ja (Mc underlying22 Oe (aa (Sa d1)) (aa (Sa d2)) D) (ma (oc ec)) ?_)
 obtain ⟨H,K,h⟩:=ha h
 replace b:=(b.da Eb).da Eb
 refine Aa (FF (g.t (c.t d)) u p F G f80 K b) ?_
 rintro _ Ne ⟨of,v91,v93,L,rfl,N,b,P,Q⟩
 refine fa (La ?_)
 refine (fun h=>Pb (ra h)) ?_
 refine eb ?_
 obtain ⟨i96,R,h⟩:=ha h
 refine wl (Ja (Gd (aa (wa d7)) Ba R) (ma (oc cd)) (st (La (za ?_))))
 replace b:=((b.da Da).da Da).da Eb
 exact ⟨l,_,_,rfl,(ye (lb (xb (Na (ag ta))))),⟨_,i96,v91,H,v93,L,rfl,h,(d.t N),b,P,Q⟩,Nat.lt_succ_self _⟩
 intro B h
 refine ke ?_
 refine (fun h=>jc (jc (pe h))) ?_
 refine ra (db (ea ?_))
 iterate 3 refine st ?_
 obtain ⟨wf,T,h⟩:=ha h
 replace b:=(b.da Eb).da Eb
 refine Aa (Kx (g.t (c.t d)) u p T b) ?_
 rintro _ If ⟨dg,rfl,q,b⟩
 refine fa (st (ja ?_))
 refine Za h ?_ ?_
 intro V h
 refine ea (wl (Nd wc Zi (ab.o rfl Ba rfl rfl Ga ab.z) (ma (qd kb)) (st (wl (yb wc (aa d3) (aa (ib d1)) rfl rfl b d2 rfl Ib Ma ?_)))))
 clear b; intro bi b
 refine ja (Ra (Fa ?_))
 obtain rfl:=Ea h
 refine Ad rfl (Qa.s (.t d2) (Qa.s (.a d3 wc (b.ba d2).cells rfl) Qa.z)) ?_
 replace b:=((b.drop ia.z).drop ia.z).drop ia.z
 exact ⟨_,rfl,(c.t (d.t q)),b⟩
 intro V h
 refine Va (ra (ea ?_))
 iterate 3 refine st ?_
 replace b:=(b.da Da).da Da
 refine Aa (AE (p.up q) b) ?_
 rintro _ ci ⟨ii,rfl,W,b⟩; refine fa ?_
 refine wl (Nd wc Zi ab.z (ma (qd ad)) (st (wl (yb wc (aa d3) (aa (ib d6)) rfl rfl b d0 rfl Ga Ma ?_))))
 clear b; intro li b
 refine ja (Ra ?_)
 obtain rfl:=Ea h
 refine Ad rfl (Qa.s (.t d2) (Qa.s (.a d3 wc (b.ba d0).cells rfl) Qa.z)) ?_
 replace b:=b.drop ia.z
 exact ⟨_,rfl,(c.t (d.t (q.t W))),b⟩
end Go.Proofs.YthoigniombcphaaGreatDoor
set_option maxRecDepth 100000
set_option maxHeartbeats 20000000
namespace Go.Proofs.YthoigniombcphaaGreatDoor
open Go.bc Go.Dc Go.Y Tryz
variable {c2 c5 eh rj fu:Nat} {xa a4 ic od:Option Addr} {I:M} {J w:World} {O:List Wb}
theorem bF (y:ga Fc I) {p_1 d:List Int} {r:Bool} (m3:Ka I xa c2 p_1) (m6:Ka I a4 c5 d) (h:Qt p_1 d=some r) (b:ka I J w (O)):Sb prog 24 [.slice xa p_1.length c2,.slice a4 d.length c5] w (fun v w'=>∃ (na:M) ,v=.bool r∧ga I na∧ka na J w' (O)):=by
 unfold Qt at h
 refine enter func24 rfl (frm:=_::_::zd (zd (Xe []))) rfl (ea (st (ob (ea (st (wl (Ja (Qd underlying40 (aa d6)) (ma sd) (st (wl (Ja (Qd underlying40 (aa d8)) (ma Ed) (st (ja ?_))))))))))))
 refine Za h ?_ ?_
 intro g h
 refine ea (st (ja (Ra (Fa ?_))))
 obtain rfl:=Ea h
 refine Ob rfl d4 ?_
 exact ⟨_,rfl,ga.r,b⟩
 intro g h
 refine Va (ra (db (ea (st (wl (Ja (Qd underlying40 (aa (wa d1))) (ma (Jb Ib)) (st (ja (Qb ?_)))))))))
 refine Se (rg 4 2++rg 14 12) (by decide) (fun n m w=>∃ f i26,m=(tf (xf 4 (rh (.i (.int .i64 i26)::(Rc 14 (xf 24 []))))))∧Ir p_1 d n i26=some r∧ga I f∧ka f J w (O)) (by rintro _ _ _ ⟨_,_,rfl,_⟩; rfl) _ _ (gd (Zc (cf (Na (qb (Zc ta)))))) ⟨_,0,rfl,h,ga.r,b⟩ ?_
 rintro e _ t z ⟨A,i26,rfl,h,c,b⟩
 rcases e with _|e
 cases h
 unfold Ir at h
 refine Te (Ff (Kf (Jh (kc (Wc (Kf pb)))))) (ea (st (ob ?_)))
 refine Za h ?_ ?_
 intro j h
 refine Va (ra (db (Qb (ea ?_))))
 iterate 2 refine st ?_
 refine ob ?_
 refine Td b ?_; clear b; intro B b
 refine Pd (la 0 [0,2,3,8] rfl (la 1 [1,2,3,8] rfl ?_))
 obtain ⟨C,k,h⟩:=ha h
 obtain ⟨D,E,F,l,f53,o⟩:=Pc.elem (m3.up c) k
 obtain rfl:=o
 refine ze 2 [2,3,8] rfl (Mc underlying40 Uc (aa (wa d6)) (aa (wa d7)) l) (Jb Yd) (Fb 3 [3,8] rfl (jb Uc (aa (wa d8)) ((f53 _ b.a).one d0)) (Jb Ed) (la 4 [4,6,7,8] rfl (la 5 [5,6,7,8] rfl ?_)))
 obtain ⟨G,p,h⟩:=ha h
 obtain ⟨H,K,L,q,f61,s⟩:=Pc.elem (m6.up c) p
 obtain rfl:=s
 refine ze 6 [6,7,8] rfl (Mc underlying40 Uc (aa (Sa d0)) (aa (Sa d1)) q) (oc Ib) (Fb 7 [7,8] rfl (jb Uc (aa (Sa d2)) ((f61 _ b.a).one d0)) (oc ec) (la 8 [8] rfl (Hd (ra ?_))))
 refine Za h ?_ ?_
 intro u h
 refine ea (st (ja (Ra ?_)))
 refine (fun h=>Ab (Fa (Fa (Ab (Fa h))))) ?_
 obtain rfl:=Ea h
 refine Ob rfl d4 ?_
 exact ⟨_,rfl,c,b⟩
 intro u h
 refine Va ?_
 refine (fun h=>Pb (ra h)) ?_
 refine eb ?_
 obtain ⟨i65,x,h⟩:=ha h
 refine wl (Ja (Gd (aa (wa d3)) Ba x) (ma (oc cd)) (st (La (za ?_))))
 exact ⟨e,_,_,rfl,(gd (Zc (cf (Na (qb (Zc ta)))))),⟨_,i65,rfl,h,c,b⟩,Nat.lt_succ_self _⟩
 intro j h
 refine ke ?_
 refine (fun h=>jc (jc (pe h))) ?_
 refine ra (ea (st (ja (Ra ?_))))
 obtain rfl:=Ea h
 refine Ob rfl d4 ?_
 exact ⟨_,rfl,c,b⟩
theorem cF (ge:ga Fc I) {p_1 c:Wg} {r:Bool} (m3:Ka I xa c2 p_1.Hg) (m6:Ka I a4 c5 p_1.Tf) (m9:Ka I ic eh c.Hg) (m12:Ka I od rj c.Tf) (h:Rt p_1 c=some r) (b:ka I J w (O)):Sb prog 9 [.agg ⟨[.slice xa p_1.Hg.length c2,.slice a4 p_1.Tf.length c5]⟩,.agg ⟨[.slice ic c.Hg.length eh,.slice od c.Tf.length rj]⟩] w (fun v w'=>∃ (na:M) ,v=.bool r∧ga I na∧ka na J w' (O)):=by
 unfold Rt at h
 refine enter func9 rfl (frm:=_::_::Xe (Ze (Ze []))) rfl (ea ?_)
 refine wl (Ji (aa d0) rfl b ?_); clear b; intro Lg pp sp b; refine fa ?_
 refine wl (Ji (aa d1) rfl b ?_); clear b; intro u wp Op b; refine fa ?_
 refine st (ob (db ?_))
 refine Ub (rg 10 15) (by decide) (fun m w=>∃ d lc,m=(yd (Rc 10 (Hk 20 (.i (.bool lc)::[]))))∧vt p_1 c lc=some r∧ga I d∧ka d J w (.ba Lg 34 [.slice xa p_1.Hg.length c2,.slice a4 p_1.Tf.length c5]::.ba u 34 [.slice ic c.Hg.length eh,.slice od c.Tf.length rj]::O)) (by rintro _ _ ⟨_,_,rfl,_⟩; rfl) ?_ ?_
 refine eb (st (Ha ((b.ba d1).cell d0) (wl (Ja (Qd underlying31 (aa (wa d1))) (ma (Jb Ib)) (st (Ha ((b.ba d0).cell d0) (wl (Ja (Qd underlying31 (aa (wa d4))) (ma (Jb cd)) ?_))))))))
 iterate 2 refine st ?_
 refine me 17 h ?_ ?_
 intro he h
 refine oa rfl rfl (oa rfl rfl (oa rfl rfl (oa rfl rfl (oa rfl rfl (oa rfl rfl (oa rfl rfl (st (La (za ?_)))))))))
 replace b:=b.da Da
 exact ⟨_,_,rfl,(xb (qb (Ah (Na ta)))),_,true,rfl,h,ga.r,b⟩
 intro he h
 refine Ta rfl (mc rfl (wa d7) (de nj (aa (wa d8)) ((b.ba d1).cell d1) (ma (Jb Ed)) (mc rfl (wa d7) (Ja (Qd underlying32 (aa (wa d9))) (ma (oc Ga)) (Ta rfl (mc rfl (wa d7) (de nj (aa (Sa d1)) ((b.ba d0).cell d1) (ma (oc Ib)) (mc rfl (wa d7) (Ja (Qd underlying32 (aa (Sa d2))) (ma (oc ec)) (Ta rfl (st (La (za ?_)))))))))))))
 replace b:=b.da Da
 exact ⟨_,_,rfl,(xb (qb (Ah (Na ta)))),_,(decide ((p_1.Tf.length:Int)≠(c.Tf.length:Int))),rfl,h,ga.r,b⟩
 rintro _ t eq ⟨le,lc,rfl,h,g,b⟩
 unfold vt at h
 refine Vb (Dd (Wc (Ql (kc pb)))) (ra ?_)
 refine ed h ?_ ?_
 intro ne h
 refine ea (st (ja (Ra (Fa ?_))))
 obtain rfl:=Ea h
 refine Ob rfl d4 ?_
 replace b:=(b.drop ia.z).drop ia.z
 exact ⟨_,rfl,g,b⟩
 intro ne h
 refine Va (ra (db (ea (st (Ha ((b.ba d0).cell d0) (wl (Ja (Qd underlying31 (aa (Sa d7))) (ma (oc Yd)) (st (ja (Qb ?_))))))))))
 refine Se (rg 4 2++rg 30 14) (by decide) (fun n m w=>∃ d i39,m=(tf (xf 4 (qc (kg (.i (.int .i64 i39)::(Rc 30 (Ih 40 [])))))))∧Kr p_1 c n i39=some r∧ga le d∧ka d J w (.ba Lg 34 [.slice xa p_1.Hg.length c2,.slice a4 p_1.Tf.length c5]::.ba u 34 [.slice ic c.Hg.length eh,.slice od c.Tf.length rj]::O)) (by rintro _ _ _ ⟨_,_,rfl,_⟩; rfl) _ _ (gd (Zc (Xa (Md (Na (qb (pf ta))))))) ⟨_,0,rfl,h,ga.r,b⟩ ?_
 rintro rc _ t Eq ⟨Ne,i39,rfl,h,k,b⟩
 rcases rc with _|rc
 cases h
 unfold Kr at h
 refine Te (Ff (Kf (vc (sg (kc (Wc (ai pb))))))) (ea (st (ob ?_)))
 refine Za h ?_ ?_
 intro of h
 refine Va (ra (db (Qb (ea ?_))))
 iterate 2 refine st ?_
 refine ob ?_
 refine Td b ?_; clear b; intro fr b
 refine Pd (la 0 [0,1,3,4,10] rfl (Fb 1 [1,3,4,10] rfl (jb sq (aa (ib d2)) ((b.ba d0).cell d0)) (qd ec) (la 2 [2,3,4,10] rfl ?_)))
 obtain ⟨or,wf,h⟩:=ha h
 obtain ⟨qr,wr,Fr,If,f66,dg⟩:=Pc.elem (m3.up (g.t k)) wf
 obtain rfl:=dg
 refine ze 3 [3,4,10] rfl (Mc underlying31 tq (aa (ib d3)) (aa (ib d4)) If) (qd cd) (Fb 4 [4,10] rfl (Re tq (aa (ib d5)) (f66 _ b.a) rfl) (qd ad) (la 5 [5,6,8,9,10] rfl (Fb 6 [6,8,9,10] rfl (jb sq (aa (ib d7)) ((b.ba d1).cell d0)) (qd Yd) (la 7 [7,8,9,10] rfl ?_))))
 obtain ⟨Or,bi,h⟩:=ha h
 obtain ⟨cs,ds,es,ci,f74,ii⟩:=Pc.elem (m9.up (g.t k)) bi
 obtain rfl:=ii
 refine ze 8 [8,9,10] rfl (Mc underlying31 tq (aa (ib d8)) (aa (ib d9)) ci) (Xd Ga) (Fb 9 [9,10] rfl (Re tq (aa (Bb d0)) (f74 _ b.a) rfl) (Xd kb) (ze 10 [10] rfl (sw (dn.mk underlying81 II FI) (aa (ib d6)) (aa (Bb d1)) (nh.o rfl rfl rfl Uc d0 d0 (eq_int underlying3) (nh.o rfl rfl rfl Uc d1 d1 (eq_int underlying3) nh.z)) rfl) (Xd Ib) (Hd (ra ?_))))
 refine pj h ?_ ?_
 intro li h
 refine ea (st (ja (Ra ?_)))
 refine (fun h=>Ab (Fa (Fa (Ab (Fa h))))) ?_
 obtain rfl:=Ea h
 refine Ob rfl d4 ?_
 replace b:=(b.drop ia.z).drop ia.z
 exact ⟨_,rfl,(g.t k),b⟩
 intro li h
 refine Va ?_
 refine (fun h=>Pb (ra h)) ?_
 refine eb ?_
 obtain ⟨i77,pi,h⟩:=ha h
 refine wl (Ja (Gd (aa (Sa d9)) Ba pi) (ma (Xd ec)) (st (La (za ?_))))
 exact ⟨rc,_,_,rfl,(gd (Zc (Xa (Md (Na (qb (pf ta))))))),⟨_,i77,rfl,h,k,b⟩,Nat.lt_succ_self _⟩
 intro of h
 refine ke ?_
 refine (fun h=>jc (jc (pe h))) ?_
 refine ra (db (ea (st (Ha ((b.ba d0).cell d1) (wl (Ja (Qd underlying32 (aa (Bb d5))) (ma (Xd ad)) (st (ja (Qb ?_)))))))))
 refine Se ([4]++rg 6 4++rg 48 74) (by decide +kernel) (fun n m w=>∃ d i177,m=(tf (Sc 4 (kh (Ih 6 (qc (yd (rh (.i (.int .i64 i177)::(nk 48 (Uf 98 (Ih 118 [])))))))))))∧vn p_1 c n i177=some r∧ga Ne d∧ka d J w (.ba Lg 34 [.slice xa p_1.Hg.length c2,.slice a4 p_1.Tf.length c5]::.ba u 34 [.slice ic c.Hg.length eh,.slice od c.Tf.length rj]::O)) (by rintro _ _ _ ⟨_,_,rfl,_⟩; rfl) _ _ (gd (lb (Ee (pf (Xa (xb (cf (Na (Vf (zc (pf ta))))))))))) ⟨_,0,rfl,h,ga.r,b⟩ ?_
 rintro x _ t gs ⟨Pi,i177,rfl,h,q,b⟩
 rcases x with _|x
 cases h
 unfold vn at h
 refine Te (Ff (Xc (zh (ai (vc (Dd (Jh (kc (kl (fg (ai pb))))))))))) (ea (st (ob ?_)))
 refine Za h ?_ ?_
 intro kk h
 refine Va (ra (db (Qb (ea ?_))))
 iterate 2 refine st ?_
 refine ob ?_
 refine Ub (rg 50 10) (by decide) (fun m w=>∃ d B C D y E F G H l K L N P Q A R S T V p W X,m=(rh (.i (.pointer (some ⟨B,0,none⟩))::(.i (.pointer (some ⟨N,0,none⟩))::(qc (qc (kh (Rc 50 [])))))))∧vv i177 (vn p_1 c x) C D y G H l P Q A T V p=some r∧ga Pi d∧ka d J w (.ba Lg 34 [.slice xa p_1.Hg.length c2,.slice a4 p_1.Tf.length c5]::.ba u 34 [.slice ic c.Hg.length eh,.slice od c.Tf.length rj]::.ba B 43 [.int .i64 C,.int .i64 D,.slice E y.length F,.int .i64 G,.int .i64 H,.slice K l.length L]::.ba N 43 [.int .i64 P,.int .i64 Q,.slice R A.length S,.int .i64 T,.int .i64 V,.slice W p.length X]::O)∧Ka d E F y∧Ka d K L l∧Ka d R S A∧Ka d W X p) (by rintro _ _ ⟨_,_,_,_,_,_,_,_,_,_,_,_,_,_,_,_,_,_,_,_,_,_,_,rfl,_⟩; rfl) ?_ ?_
 refine Td b ?_; clear b; intro is b
 refine Pd (la 0 [0,1,3,4,12,13] rfl (Fb 1 [1,3,4,12,13] rfl (jb nj (aa (sb d0)) ((b.ba d0).cell d1)) (ee kb) (la 2 [2,3,4,12,13] rfl ?_)))
 obtain ⟨e,ok,h⟩:=ha h
 obtain ⟨ls,ms,os,dl,f310,el⟩:=Pc.elem (m6.up (g.t (k.t q))) ok
 obtain ⟨rs,us,vs,ws,rfl,wd,Fd⟩:=el
 refine ze 3 [3,4,12,13] rfl (Mc underlying32 xg (aa (sb d1)) (aa (sb d2)) dl) (ee ec) (Fb 4 [4,12,13] rfl (Re xg (aa (sb d3)) (f310 _ b.a) rfl) (ee hd) (la 5 [5,6,8,9,13] rfl (Fb 6 [6,8,9,13] rfl (jb nj (aa (sb d5)) ((b.ba d1).cell d1)) (ee ad) (la 7 [7,8,9,13] rfl ?_))))
 obtain ⟨f,nl,h⟩:=ha h
 obtain ⟨xs,ys,Os,ol,f324,pl⟩:=Pc.elem (m12.up (g.t (k.t q))) nl
 obtain ⟨gt,it,lt,mt,rfl,Id,be⟩:=pl
 refine ze 8 [8,9,13] rfl (Mc underlying32 xg (aa (sb d6)) (aa (sb d7)) ol) (ee Yd) (Fb 9 [9,13] rfl (Re xg (aa (sb d8)) (f324 _ b.a) rfl) (ee Ed) ?_)
 refine xC (i:=10) (j:=11) rfl rfl rfl rfl rfl rfl rfl (Gb rfl) (Gb rfl) ?_ ?_
 refine id (bd xg b ?_); clear b; intro rt Mf ut b; refine fa ?_
 refine ⟨(Oa.s (Re xg (aa (sb d8)) (f324 _ b.a) rfl) (Oa.s (jb nj (aa (sb d5)) ((b.ba d2).cell d1)) (Oa.s (Re xg (aa (sb d3)) (f310 _ b.a) rfl) (Oa.s (jb nj (aa (sb d0)) ((b.ba d1).cell d1)) Oa.z)))),?_⟩
 refine Kb rfl rfl rfl rfl (Gb rfl) (bd xg b ?_); clear b; intro wt fu hu b; refine fa ?_
 refine ⟨(Oa.s (Re xg (aa (sb d8)) (f324 _ b.a) rfl) (Oa.s (jb nj (aa (sb d5)) ((b.ba d3).cell d1)) (Oa.s (Re xg (aa (sb d3)) (f310 _ b.a) rfl) (Oa.s (jb nj (aa (sb d0)) ((b.ba d2).cell d1)) Oa.z)))),?_⟩
 refine Kb rfl rfl rfl rfl (Gb rfl) (yb xg (aa d7) (aa (sb d4)) rfl rfl b d1 rfl kb Ma ?_)
 clear b; intro pu b
 refine ⟨(Oa.s (Re xg (aa (sb d8)) (f324 _ b.a) rfl) (Oa.s (jb nj (aa (sb d5)) ((b.ba d3).cell d1)) Oa.z)),?_⟩
 refine Kb rfl rfl rfl rfl (Gb rfl) (yb xg (aa d8) (aa (sb d9)) rfl rfl b d0 rfl Ga Ma ?_)
 clear b; intro bv b
 refine ⟨Oa.z,?_⟩
 refine Hd (za ?_)
 replace b:=((b.da Da).da bb).da bb
 exact ⟨_,_,rfl,(cf (Na (Na (Xa (Xa (Ee (qb ta))))))),_,_,e.Kind,e.Params,e.ij,_,_,e.Result,e.Hc,e.Code,_,_,_,f.Kind,f.Params,f.ij,_,_,f.Result,f.Hc,f.Code,_,_,rfl,h,ga.r,b,wd,Fd,Id,be⟩
 refine id (bd xg b ?_); clear b; intro hw kw lw b; refine fa ?_
 refine ⟨(Oa.s (Re xg (aa (sb d8)) (f324 _ b.a) rfl) (Oa.s (jb nj (aa (sb d5)) ((b.ba d2).cell d1)) (Oa.s (Re xg (aa (sb d3)) (f310 _ b.a) rfl) (Oa.s (jb nj (aa (sb d0)) ((b.ba d1).cell d1)) Oa.z)))),?_⟩
 refine Kb rfl rfl rfl rfl (Gb rfl) (bd xg b ?_); clear b; intro ww ex rx b; refine fa ?_
 refine ⟨(Oa.s (Re xg (aa (sb d8)) (f324 _ b.a) rfl) (Oa.s (jb nj (aa (sb d5)) ((b.ba d3).cell d1)) (Oa.s (Re xg (aa (sb d3)) (f310 _ b.a) rfl) (Oa.s (jb nj (aa (sb d0)) ((b.ba d2).cell d1)) Oa.z)))),?_⟩
 refine Kb rfl rfl rfl rfl (Gb rfl) (yb xg (aa d7) (aa (sb d4)) rfl rfl b d0 rfl Ga Ma ?_)
 clear b; intro xx b
 refine ⟨(Oa.s (Re xg (aa (sb d8)) (f324 _ b.a) rfl) (Oa.s (jb nj (aa (sb d5)) ((b.ba d3).cell d1)) Oa.z)),?_⟩
 refine Kb rfl rfl rfl rfl (Gb rfl) (yb xg (aa d8) (aa (sb d9)) rfl rfl b d1 rfl kb Ma ?_)
 clear b; intro zx b
 refine ⟨Oa.z,?_⟩
 refine Hd (za ?_)
 replace b:=(((b.da Da).da Da).da bb).da bb
 exact ⟨_,_,rfl,(cf (Na (Na (Xa (Xa (Ee (qb ta))))))),_,_,e.Kind,e.Params,e.ij,_,_,e.Result,e.Hc,e.Code,_,_,_,f.Kind,f.Params,f.ij,_,_,f.Result,f.Hc,f.Code,_,_,rfl,h,ga.r,b,wd,Fd,Id,be⟩
 rintro _ t ty ⟨ul,B,C,D,y,E,F,G,H,l,K,L,N,P,Q,A,R,S,T,V,p,W,X,rfl,h,gc,b,am,em,hm,lm⟩
 unfold vv at h
 refine Vb (Jh (kc (kc (vc (vc (zh (Wc pb))))))) (ra (db (db ?_)))
 refine Ub (rg 60 42) (by decide +kernel) (fun m w=>∃ d fd,m=(Sd (yd (Uf 60 (Uf 80 (xf 100 (.i (.bool fd)::[]))))))∧vo i177 l p (vn p_1 c x) fd=some r∧ga ul d∧ka d J w (.ba Lg 34 [.slice xa p_1.Hg.length c2,.slice a4 p_1.Tf.length c5]::.ba u 34 [.slice ic c.Hg.length eh,.slice od c.Tf.length rj]::.ba B 43 [.int .i64 C,.int .i64 D,.slice E y.length F,.int .i64 G,.int .i64 H,.slice K l.length L]::.ba N 43 [.int .i64 P,.int .i64 Q,.slice R A.length S,.int .i64 T,.int .i64 V,.slice W p.length X]::O)) (by rintro _ _ ⟨_,_,rfl,_⟩; rfl) ?_ ?_
 refine eb (st (Ha ((b.ba d2).cell d0) (st (Ha ((b.ba d3).cell d0) ?_))))
 iterate 2 refine st ?_
 refine me 65 h ?_ ?_
 intro pm h
 refine oa rfl rfl (oa rfl rfl (oa rfl rfl (oa rfl rfl (oa rfl rfl ?_))))
 iterate 2 refine st ?_
 refine oa rfl rfl (oa rfl rfl (oa rfl rfl (oa rfl rfl (oa rfl rfl ?_))))
 iterate 2 refine st ?_
 refine oa rfl rfl (oa rfl rfl (oa rfl rfl (oa rfl rfl (oa rfl rfl ?_))))
 iterate 2 refine st ?_
 refine oa rfl rfl (oa rfl rfl (oa rfl rfl (oa rfl rfl (oa rfl rfl (oa rfl rfl ?_)))))
 iterate 2 refine st ?_
 refine oa rfl rfl (oa rfl rfl (oa rfl rfl (oa rfl rfl (oa rfl rfl (oa rfl rfl (oa rfl rfl (st (La (za ?_)))))))))
 exact ⟨_,_,rfl,(Yb (xb (zc (zc (Zc (Na ta)))))),_,true,rfl,h,ga.r,b⟩
 intro pm h
 refine Ta rfl (mc rfl (Gc d5) (de Uc (aa (Gc d6)) ((b.ba d2).cell d1) (ma (zg sd)) (Ta rfl (mc rfl (Gc d5) (de Uc (aa (Gc d8)) ((b.ba d3).cell d1) (ma (zg Ed)) (Ta rfl ?_))))))
 iterate 2 refine st ?_
 refine me 72 h ?_ ?_
 intro sm h
 refine oa rfl rfl (oa rfl rfl (oa rfl rfl (oa rfl rfl (oa rfl rfl ?_))))
 iterate 2 refine st ?_
 refine oa rfl rfl (oa rfl rfl (oa rfl rfl (oa rfl rfl (oa rfl rfl ?_))))
 iterate 2 refine st ?_
 refine oa rfl rfl (oa rfl rfl (oa rfl rfl (oa rfl rfl (oa rfl rfl (oa rfl rfl ?_)))))
 iterate 2 refine st ?_
 refine oa rfl rfl (oa rfl rfl (oa rfl rfl (oa rfl rfl (oa rfl rfl (oa rfl rfl (oa rfl rfl (st (La (za ?_)))))))))
 exact ⟨_,_,rfl,(Yb (xb (zc (zc (Zc (Na ta)))))),_,true,rfl,h,ga.r,b⟩
 intro sm h
 refine Ta rfl (mc rfl (Oc d2) (de Uc (aa (Oc d3)) ((b.ba d2).cell d3) (ma (Zf hd)) (Ta rfl (mc rfl (Oc d2) (de Uc (aa (Oc d5)) ((b.ba d3).cell d3) (ma (Zf ad)) (Ta rfl ?_))))))
 iterate 2 refine st ?_
 refine me 79 h ?_ ?_
 intro Nm h
 refine oa rfl rfl (oa rfl rfl (oa rfl rfl (oa rfl rfl (oa rfl rfl ?_))))
 iterate 2 refine st ?_
 refine oa rfl rfl (oa rfl rfl (oa rfl rfl (oa rfl rfl (oa rfl rfl (oa rfl rfl ?_)))))
 iterate 2 refine st ?_
 refine oa rfl rfl (oa rfl rfl (oa rfl rfl (oa rfl rfl (oa rfl rfl (oa rfl rfl (oa rfl rfl (st (La (za ?_)))))))))
 exact ⟨_,_,rfl,(Yb (xb (zc (zc (Zc (Na ta)))))),_,true,rfl,h,ga.r,b⟩
 intro Nm h
 refine Ta rfl (mc rfl (Oc d9) (de Uc (aa (Nc d0)) ((b.ba d2).cell d4) (ma (qg kb)) (Ta rfl (mc rfl (Oc d9) (de Uc (aa (Nc d2)) ((b.ba d3).cell d4) (ma (qg ec)) (Ta rfl ?_))))))
 iterate 2 refine st ?_
 refine me 86 h ?_ ?_
 intro fn h
 refine oa rfl rfl (oa rfl rfl (oa rfl rfl (oa rfl rfl (oa rfl rfl (oa rfl rfl ?_)))))
 iterate 2 refine st ?_
 refine oa rfl rfl (oa rfl rfl (oa rfl rfl (oa rfl rfl (oa rfl rfl (oa rfl rfl (oa rfl rfl (st (La (za ?_)))))))))
 exact ⟨_,_,rfl,(Yb (xb (zc (zc (Zc (Na ta)))))),_,true,rfl,h,ga.r,b⟩
 intro fn h
 refine Ta rfl (mc rfl (Nc d6) (de Aw (aa (Nc d7)) ((b.ba d2).cell d2) (ma (qg Yd)) (Ta rfl (mc rfl (Nc d6) (de Aw (aa (Nc d9)) ((b.ba d3).cell d2) (ma (Zh Ga)) ?_)))))
 obtain ⟨sz,on,h⟩:=ha h
 refine mc rfl (Nc d6) (td IG nd (sa (aa (Nc d8)) (sa (aa (fe d0)) hb)) (bF (ge.t (g.t (k.t (q.t gc)))) am hm on b) ?_)
 rintro _ Rz ⟨AC,rfl,ce,b⟩
 refine fa (Ta rfl ?_)
 iterate 2 refine st ?_
 refine Gw 94 h ?_ ?_
 intro un h
 refine oa rfl rfl (oa rfl rfl (oa rfl rfl (oa rfl rfl (oa rfl rfl (oa rfl rfl (oa rfl rfl (st (La (za ?_)))))))))
 exact ⟨_,_,rfl,(Yb (xb (zc (zc (Zc (Na ta)))))),_,true,rfl,h,ce,b⟩
 intro un h
 refine Ta rfl (mc rfl (fe d4) (de Ck (aa (fe d5)) ((b.ba d2).cell d5) (ma (Zh ad)) (mc rfl (fe d4) (Ja (Qd underlying41 (aa (fe d6))) (ma (Zh sd)) (Ta rfl (mc rfl (fe d4) (de Ck (aa (fe d8)) ((b.ba d3).cell d5) (ma (Zh Ed)) (mc rfl (fe d4) (Ja (Qd underlying41 (aa (fe d9))) (ma (dc Ga)) (Ta rfl (st (La (za ?_)))))))))))))
 exact ⟨_,_,rfl,(Yb (xb (zc (zc (Zc (Na ta)))))),_,(decide ((l.length:Int)≠(p.length:Int))),rfl,h,ce,b⟩
 rintro _ t GE ⟨wn,fd,rfl,h,Y,b⟩
 unfold vo at h
 refine Vb (Ud (Dd (fg (fg (Kf (kc pb)))))) (ra ?_)
 refine ed h ?_ ?_
 intro Fn h
 refine ea (st (ja (Ra ?_)))
 refine (fun h=>Fa (Ab (Fa (Fa (Ab (Fa h)))))) ?_
 obtain rfl:=Ea h
 refine Ob rfl d4 ?_
 replace b:=(((b.drop ia.z).drop ia.z).drop ia.z).drop ia.z
 exact ⟨_,rfl,(g.t (k.t (q.t (gc.t Y)))),b⟩
 intro Fn h
 refine Va (ra (ea (st (Ha ((b.ba d2).cell d5) (wl (Ja (Qd underlying41 (aa (Pa d4))) (ma (dc cd)) (st (ja (Qb ?_)))))))))
 refine Se ([4]++[9]++rg 107 14) (by decide) (fun n m w=>∃ d md,m=(tf (Sc 4 (tf (Sc 9 (Sd (qc (qc (Og (.i (.int .i64 md)::(Rc 107 (Ih 117 [])))))))))))∧Jr i177 l p (vn p_1 c x) n md=some r∧ga wn d∧ka d J w (.ba Lg 34 [.slice xa p_1.Hg.length c2,.slice a4 p_1.Tf.length c5]::.ba u 34 [.slice ic c.Hg.length eh,.slice od c.Tf.length rj]::.ba B 43 [.int .i64 C,.int .i64 D,.slice E y.length F,.int .i64 G,.int .i64 H,.slice K l.length L]::.ba N 43 [.int .i64 P,.int .i64 Q,.slice R A.length S,.int .i64 T,.int .i64 V,.slice W p.length X]::O)) (by rintro _ _ _ ⟨_,_,rfl,_⟩; rfl) _ _ (gd (lb (gd (lb (Yb (Xa (Xa (ye (Na (qb (pf ta))))))))))) ⟨_,0,rfl,h,ga.r,b⟩ ?_
 rintro rd _ t LE ⟨NE,md,rfl,h,Z,b⟩
 rcases rd with _|rd
 cases h
 unfold Jr at h
 refine Te (Ff (Xc (Ff (Xc (Ud (vc (vc (Zg (kc (Wc (ai pb))))))))))) (ea (st (ob ?_)))
 refine Za h ?_ ?_
 intro In h
 refine Va (ra (db (Qb (ea ?_))))
 iterate 2 refine st ?_
 refine ob ?_
 refine Td b ?_; clear b; intro WF b
 refine Pd (la 0 [0,1,3,4,10] rfl (Fb 1 [1,3,4,10] rfl (jb Ck (aa (Pa d9)) ((b.ba d2).cell d5)) (dc (Jb Ga)) (la 2 [2,3,4,10] rfl ?_)))
 obtain ⟨RK,co,h⟩:=ha h
 obtain ⟨WL,XL,YL,go,io,no⟩:=Pc.elem (em.up (Y.t Z)) co
 obtain rfl:=no
 refine ze 3 [3,4,10] rfl (Mc underlying41 Wm (aa (Pa (wa d0))) (aa (Pa (wa d1))) go) (dc (Jb Ib)) (Fb 4 [4,10] rfl (Re Wm (aa (Pa (wa d2))) (io _ b.a) rfl) (dc (Jb ec)) (la 5 [5,6,8,9,10] rfl (Fb 6 [6,8,9,10] rfl (jb Ck (aa (Pa (wa d4))) ((b.ba d3).cell d5)) (dc (Jb cd)) (la 7 [7,8,9,10] rfl ?_))))
 obtain ⟨ZL,ro,h⟩:=ha h
 obtain ⟨aM,bM,cM,to,Do,Go⟩:=Pc.elem (lm.up (Y.t Z)) ro
 obtain rfl:=Go
 refine ze 8 [8,9,10] rfl (Mc underlying41 Wm (aa (Pa (wa d5))) (aa (Pa (wa d6))) to) (dc (Jb sd)) (Fb 9 [9,10] rfl (Re Wm (aa (Pa (wa d7))) (Do _ b.a) rfl) (dc (Jb Yd)) (ze 10 [10] rfl (sw (dn.mk underlying45 HI EI) (aa (Pa (wa d3))) (aa (Pa (wa d8))) (nh.o rfl rfl rfl Uc d0 d0 (eq_int underlying3) (nh.o rfl rfl rfl Uc d1 d1 (eq_int underlying3) (nh.o rfl rfl rfl Po d2 d2 (eq_int underlying2) nh.z))) rfl) (dc (Jb Ed)) (Hd (ra ?_))))
 refine pj h ?_ ?_
 intro ap h
 refine ea (st (ja (Ra ((fun h=>Ab (Fa (Fa (Ab (Ab (Fa (Fa (Ab (Fa h))))))))) ?_))))
 obtain rfl:=Ea h
 refine Ob rfl d4 ?_
 replace b:=(((b.drop ia.z).drop ia.z).drop ia.z).drop ia.z
 exact ⟨_,rfl,(g.t (k.t (q.t (gc.t (Y.t Z))))),b⟩
 intro ap h
 refine Va ?_
 refine (fun h=>Pb (ra h)) ?_
 refine eb ?_
 obtain ⟨ip,jp,h⟩:=ha h
 refine wl (Ja (Gd (aa (Pa d6)) Ba jp) (ma (dc (oc Ga))) (st (La (za ?_))))
 exact ⟨rd,_,_,rfl,(gd (lb (gd (lb (Yb (Xa (Xa (ye (Na (qb (pf ta))))))))))),⟨_,ip,rfl,h,Z,b⟩,Nat.lt_succ_self _⟩
 intro In h
 refine ke ?_
 refine (fun h=>jc (jc (pe h))) ?_
 refine (fun h=>Pb (ra h)) ?_
 refine eb ?_
 obtain ⟨mp,op,h⟩:=ha h
 refine wl (Ja (Gd (aa (Bb d7)) Ba op) (ma (dc (oc kb))) (st (La (za ?_))))
 replace b:=(b.drop (ia.s (ia.s ia.z))).drop (ia.s (ia.s ia.z))
 exact ⟨x,_,_,rfl,(gd (lb (Ee (pf (Xa (xb (cf (Na (Vf (zc (pf ta))))))))))),⟨_,mp,rfl,h,(q.t (gc.t (Y.t Z))),b⟩,Nat.lt_succ_self _⟩
 intro kk h
 refine ke ?_
 refine (fun h=>jc (jc (pe h))) ?_
 refine ra (ea (st (ja (Ra ?_))))
 obtain rfl:=Ea h
 refine Ob rfl d4 ?_
 replace b:=(b.drop ia.z).drop ia.z
 exact ⟨_,rfl,(g.t (k.t q)),b⟩
theorem sE (e:ga Fc I) {p_1:List va} {r:Bool} (m3:Ka I xa c2 p_1) (h:Gt fu p_1=some r) (a:ka I J w (O)):Sb prog 3 [.slice xa p_1.length c2] w (fun v w'=>∃ (na:M) ,v=.bool r∧ga I na∧ka na J w' (O)):=by
 unfold Gt at h
 refine enter func3 rfl (frm:=_::Ge (Xe (Xe []))) rfl (ea (st (ob (ea ?_))))
 obtain ⟨B,g5,h⟩:=ha h
 refine Aa (qE e g5 a) ?_
 rintro _ C ⟨D,rfl,b,a⟩
 refine fa (st (ja ?_))
 refine pj h ?_ ?_
 intro j h
 refine ea (st (ja (Ra (Fa ?_))))
 obtain rfl:=Ea h
 refine Ob rfl d2 ?_
 exact ⟨_,rfl,b,a⟩
 intro j h
 refine Va (ra (ea (st ?_)))
 obtain ⟨E,g9,h⟩:=ha h
 refine Aa (DD (e.t b) (m3.up b) g9 a) ?_
 rintro _ F ⟨G,rfl,c,a⟩
 refine fa ?_
 iterate 3 refine st ?_
 refine wl (bd wc a ?_); clear a; intro H K L a; refine fa ?_
 refine st (wl (yb wc (aa d4) (aa (wa d5)) rfl rfl a d0 rfl Ga Ma ?_))
 clear a; intro N a
 refine ob (ea (st (Ha ((a.ba d0).cell d0) (st (ja ?_)))))
 refine Za h ?_ ?_
 intro k h
 refine ea (st (ja (Ra (Fa ?_))))
 obtain rfl:=Ea h
 refine Ob rfl d2 ?_
 replace a:=a.drop ia.z
 exact ⟨_,rfl,(b.t c),a⟩
 intro k h
 refine Va (ra (ea (st ?_)))
 obtain ⟨P,g15,h⟩:=ha h
 refine Aa (Iz (e.t (b.t c)) g15 a) ?_
 rintro _ Q ⟨R,Jc,bg,rfl,d,a,m19⟩
 refine fa ?_
 iterate 4 refine st ?_
 refine wl (yb wc (aa d4) (aa (Sa d3)) rfl rfl a d0 rfl Ga Ma ?_)
 clear a; intro S a
 refine ob (ea (st (Ha ((a.ba d0).cell d0) (st (ja ?_)))))
 refine Za h ?_ ?_
 intro l h
 refine ea (st (ja (Ra (Fa ?_))))
 obtain rfl:=Ea h
 refine Ob rfl d2 ?_
 replace a:=a.drop ia.z
 exact ⟨_,rfl,(b.t (c.t d)),a⟩
 intro l h
 refine Va (ra (ea (st ?_)))
 obtain ⟨T,g22,h⟩:=ha h
 refine Aa (WE (e.t (b.t (c.t d))) (m3.up (b.t (c.t d))) g22 a) ?_
 rintro _ V ⟨W,a24,X,rfl,f,a,m⟩
 refine fa ?_
 obtain ⟨Y,n,h⟩:=ha h
 refine Aa (Nw (e.t (b.t (c.t (d.t f)))) m n a) ?_
 rintro _ Mf ⟨Z,gc,c31,lc,rc,rfl,g,a,m32,p⟩
 refine fa ?_
 iterate 3 refine st ?_
 refine wl (bd zj a ?_); clear a; intro fd id md a; refine fa ?_
 refine wl (yb zj (aa d6) (aa (ib d1)) rfl rfl a d0 rfl Ga Ma ?_)
 clear a; intro rd a
 refine wl (yb wc (aa d4) (aa (ib d2)) rfl rfl a d1 rfl kb Ma ?_)
 clear a; intro wd a
 refine rb (st ?_)
 obtain ⟨Fd,q,h⟩:=ha h
 refine Aa (Nw (e.t (b.t (c.t (d.t (f.t g))))) (m19.up (f.t g)) q a) ?_
 rintro _ Id ⟨be,ce,ge,he,le,rfl,i,a,s,u⟩
 refine fa ?_
 iterate 3 refine st ?_
 refine wl (bd zj a ?_); clear a; intro ne Ne of a; refine fa ?_
 refine wl (bd wc a ?_); clear a; intro wf If dg a; refine fa ?_
 refine wl (yb zj (aa d7) (aa (ib d6)) rfl rfl a d1 rfl kb Ma ?_)
 clear a; intro rg a
 refine wl (yb wc (aa d8) (aa (ib d7)) rfl rfl a d0 rfl Ga Ma ?_)
 clear a; intro bi a
 refine rb (Ae (a.ba d3).cells rfl (Ae (a.ba d0).cells rfl (wl (MH (dn.mk underlying26 GI DI) (aa (ib d8)) (aa (ib d9)) (nh.o rfl rfl rfl wu d0 d0 (eq_int underlying24) (nh.o rfl rfl rfl Uc d1 d1 (eq_int underlying3) nh.z)) rfl (ma (Xd Ga)) (st ?_)))))
 refine Hy 41 h ?_ ?_
 intro x h
 refine mc rfl (Bb d1) (Dn zj (aa d6) (a.ba d2).cells rfl (ma (Xd Ib)) (mc rfl (Bb d1) (Dn zj (aa d7) (a.ba d1).cells rfl (ma (Xd ec)) ?_)))
 obtain ⟨ci,y,h⟩:=ha h
 refine mc rfl (Bb d1) (td TH nd (sa (aa (Bb d2)) (sa (aa (Bb d3)) hb)) (cF (e.t (b.t (c.t (d.t (f.t (g.t i)))))) (m32.up i) (p.up i) s u y a) ?_)
 rintro _ ii ⟨li,rfl,A,a⟩
 refine fa ?_
 iterate 2 refine st ?_
 refine ja (Ra ?_)
 obtain rfl:=Ea h
 refine Ob rfl d2 ?_
 replace a:=(((a.drop ia.z).drop ia.z).drop ia.z).drop ia.z
 exact ⟨_,rfl,(b.t (c.t (d.t (f.t (g.t (i.t A)))))),a⟩
 intro x h
 refine oa rfl rfl (oa rfl rfl (oa rfl rfl ?_))
 iterate 2 refine st ?_
 refine ja (Ra ?_)
 obtain rfl:=Ea h
 refine Ob rfl d2 ?_
 replace a:=(((a.drop ia.z).drop ia.z).drop ia.z).drop ia.z
 exact ⟨_,rfl,(b.t (c.t (d.t (f.t (g.t i))))),a⟩
end Go.Proofs.YthoigniombcphaaGreatDoor
