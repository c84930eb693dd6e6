/- Texts of GenWritten Pl. -/
import Derived.Test.YthoigniombcphaaGreatDoorCMd
import Derived.Test.YthoigniombcphaaGreatDoorCXu
import Derived.KernelRfl
set_option linter.unusedSimpArgs false
set_option linter.unusedVariables false
set_option linter.unusedSectionVars false
namespace Go.Y
open Go.bc Go.Dc
def Pm  (p_1:Pf) (a:Ya):Option Int :=
 if a.Kind=3 then
  (i64 (10+((vb p_1.lj a.Nb).getD 0))).bind fun i19 =>
  some i19
 else
  some a.Kind
def Lv  (c:List (List UInt8×Int)) (b:List (List UInt8×Int)) (d:List (List UInt8×va)) (a:Ya):Option Int :=
 if a.Kind=3 then
  (i64 (10+((vb b a.Nb).getD 0))).bind fun i22 =>
  some i22
 else
  some a.Kind
def Pg  (k:Pf) (b:Int) (c:Int) (d:List Int) (e:Int) (f:Int) (g:List Bc) (h:List (List (List UInt8×Int))) (i:Int) (p_3:Int) (j:Int):Option (Int×Int×Int×List Int×Int×Int×List Bc×List (List (List UInt8×Int))) :=
 (app g [(Bc.mk i p_3 j)]).bind fun a =>
 (i64 ((a.length:Int) - 1)).bind fun i44 =>
 some (i44,b,c,d,e,f,a,h)
def Bn  (b:Pf) (c:Int) (d:Int) (e:List Int) (f:Int) (g:Int) (a:List Bc) (h:List (List (List UInt8×Int))):Option Int :=
 some (a.length:Int)
def Qr  (k:Pf) (c:Int) (d:Int) (e:List Int) (f:Int) (g:Int) (h:List Bc) (a:List (List (List UInt8×Int))) (i:List UInt8) (p_3:Int):Option (Int×Int×Int×List Int×Int×Int×List Bc×List (List (List UInt8×Int))) :=
 (app e [p_3]).bind fun b =>
 (i64 ((b.length:Int) - 1)).bind fun i44 =>
 (i64 ((a.length:Int) - 1)).bind fun i46 =>
 (at_ a i46).bind fun j =>
 some (i44,c,d,b,f,g,h,(a.set i46.toNat (cc j i i44)))
def er (a:List UInt8) (b:List (List (List UInt8×Int))):Nat→Int→Option Int
 | 0,_=>none
 | n+1,i45 =>
  if (0:Int)≤i45 then
   (at_ b i45).bind fun c =>
   if (vb c a).isSome=true then
    some ((vb c a).getD 0)
   else
    (i64 (i45 - 1)).bind fun i77 =>
    er a b n i77
  else
   some 0
def bs (fu:Nat)  (c:Pf) (d:Int) (e:Int) (f:List Int) (g:Int) (h:Int) (i:List Bc) (a:List (List (List UInt8×Int))) (b:List UInt8):Option Int :=
 (i64 ((a.length:Int) - 1)).bind fun i28 =>
 er b a fu i28
structure yu where
 tj:Pf→Int→Int→(List Int)→Int→Int→(List Bc)→(List (List (List UInt8×Int)))→ua→Option (Int×Int×Int×List Int×Int×Int×List Bc×List (List (List UInt8×Int)))
def ax (a:Int×Int×Int×List Int×Int×Int×List Bc×List (List (List UInt8×Int))) (b:Int):Option (Int×Int×Int×List Int×Int×Int×List Bc×List (List (List UInt8×Int))) :=
 some (b,a.2.1,a.2.2.1,a.2.2.2.1,a.2.2.2.2.1,a.2.2.2.2.2.1,a.2.2.2.2.2.2.1,a.2.2.2.2.2.2.2)
def bx (a:Int×Int×Int×List Int×Int×Int×List Bc×List (List (List UInt8×Int))) (b:Int):Option (Int×Int×Int×List Int×Int×Int×List Bc×List (List (List UInt8×Int))) :=
 some (b,a.2.1,a.2.2.1,a.2.2.2.1,a.2.2.2.2.1,a.2.2.2.2.2.1,a.2.2.2.2.2.2.1,a.2.2.2.2.2.2.2)
def cx (a:Int×Int×Int×List Int×Int×Int×List Bc×List (List (List UInt8×Int))) (b:Int):Option (Int×Int×Int×List Int×Int×Int×List Bc×List (List (List UInt8×Int))) :=
 some (b,a.2.1,a.2.2.1,a.2.2.2.1,a.2.2.2.2.1,a.2.2.2.2.2.1,a.2.2.2.2.2.2.1,a.2.2.2.2.2.2.2)
def gr (c:ua) (a:Pf) (i77:Int) (i78:Int) (i79:Int) (i80:Int) (f:List Int) (g:List Bc) (h:List (List (List UInt8×Int))) (l:List Int) (m:Bool):Option (Int×Int×Int×List Int×Int×Int×List Bc×List (List (List UInt8×Int))) :=
 if m=true then
  (i64 (8+c.Kind)).bind fun n =>
  (i64 (n - 6)).bind fun o =>
  (Pg a i77 i78 f i79 i80 g h o 0 0).bind fun b =>
  if c.Kind≤10 then
   some (1,b.2.1,b.2.2.1,b.2.2.2.1,b.2.2.2.2.1,b.2.2.2.2.2.1,b.2.2.2.2.2.2.1,b.2.2.2.2.2.2.2)
  else
   some (2,b.2.1,b.2.2.1,b.2.2.2.1,b.2.2.2.2.1,b.2.2.2.2.2.1,b.2.2.2.2.2.2.1,b.2.2.2.2.2.2.2)
 else
  if c.Kind=19 then
   (Pg a i77 i78 f i79 i80 g h 23 ((vb a.lj c.Name).getD 0) 0).bind fun p =>
   ((vb a.defs c.Name)).bind fun q =>
   (Pm a q.zb).bind fun r =>
   ax p r
  else
   if c.Kind=20 then
    (Pg a i77 i78 f i79 i80 g h 27 ((vb a.boxes c.Name).getD 0) 0).bind fun s =>
    ((vb a.defs c.Name)).bind fun t =>
    (Pm a t.zb).bind fun u =>
    bx s u
   else
    if c.Kind=22 then
     (Pg a i77 i78 f i79 i80 g h 29 ((vb a.lj c.Name).getD 0) 0).bind fun i =>
     (i64 (10+((vb a.lj c.Name).getD 0))).bind fun v =>
     some (v,i.2.1,i.2.2.1,i.2.2.2.1,i.2.2.2.2.1,i.2.2.2.2.2.1,i.2.2.2.2.2.2.1,i.2.2.2.2.2.2.2)
    else
     if c.Kind=21 then
      (Pg a i77 i78 f i79 i80 g h 31 0 0).bind fun d =>
      some (d.2.2.2.2.2.1,d.2.1,d.2.2.1,d.2.2.2.1,d.2.2.2.2.1,d.2.2.2.2.2.1,d.2.2.2.2.2.2.1,d.2.2.2.2.2.2.2)
     else
      if c.Kind=24 then
       (Pg a i77 i78 f i79 i80 g h 32 0 0).bind fun j =>
       some (2,j.2.1,j.2.2.1,j.2.2.2.1,j.2.2.2.2.1,j.2.2.2.2.2.1,j.2.2.2.2.2.2.1,j.2.2.2.2.2.2.2)
      else
       (Pg a i77 i78 f i79 i80 g h 30 0 0).bind fun e =>
       (at_ l 0).bind fun w =>
       (i64 (w - 10)).bind fun x =>
       (zm a.lj x).bind fun k =>
       if k.isSome=true then
        ((vb a.defs ((k.getD ([],0)).1))).bind fun y =>
        (Pm a y.zb).bind fun z =>
        cx e z
       else
        some (0,e.2.1,e.2.2.1,e.2.2.2.1,e.2.2.2.2.1,e.2.2.2.2.2.1,e.2.2.2.2.2.2.1,e.2.2.2.2.2.2.2)
def hr (fu:Nat) (self:yu) (a:ua) (b:Pf):Nat→Int→Int→Int→Int→Int→(List Int)→(List Bc)→(List (List (List UInt8×Int)))→(List Int)→Option (Int×Int×Int×List Int×Int×Int×List Bc×List (List (List UInt8×Int)))
 | 0,_,_,_,_,_,_,_,_,_=>none
 | n+1,i76,i77,i78,i79,i80,c,d,e,l =>
  if i76<(a.Kids.length:Int) then
   (at_ a.Kids i76).bind fun o =>
   (self.tj b i77 i78 c i79 i80 d e o).bind fun f =>
   (app l [f.1]).bind fun p =>
   (i64 (i76+1)).bind fun i165 =>
   hr fu self a b n i165 f.2.1 f.2.2.1 f.2.2.2.2.1 f.2.2.2.2.2.1 f.2.2.2.1 f.2.2.2.2.2.2.1 f.2.2.2.2.2.2.2 p
  else
   if a.Kind=1 then
    (Pg b i77 i78 c i79 i80 d e 1 0 a.N).bind fun h =>
    some (1,h.2.1,h.2.2.1,h.2.2.2.1,h.2.2.2.2.1,h.2.2.2.2.2.1,h.2.2.2.2.2.2.1,h.2.2.2.2.2.2.2)
   else
    if a.Kind=2 then
     (Pg b i77 i78 c i79 i80 d e 2 a.N 0).bind fun i =>
     some (2,i.2.1,i.2.2.1,i.2.2.2.1,i.2.2.2.2.1,i.2.2.2.2.2.1,i.2.2.2.2.2.2.1,i.2.2.2.2.2.2.2)
    else
     if a.Kind=3 then
      (bs fu b i77 i78 c i79 i80 d e a.Name).bind fun m =>
      (Pg b i77 i78 c i79 i80 d e 3 m 0).bind fun g =>
      (at_ g.2.2.2.1 m).bind fun q =>
      some (q,g.2.1,g.2.2.1,g.2.2.2.1,g.2.2.2.2.1,g.2.2.2.2.2.1,g.2.2.2.2.2.2.1,g.2.2.2.2.2.2.2)
     else
      if a.Kind=4 then
       (Pg b i77 i78 c i79 i80 d e 6 0 0).bind fun j =>
       some (1,j.2.1,j.2.2.1,j.2.2.2.1,j.2.2.2.2.1,j.2.2.2.2.2.1,j.2.2.2.2.2.2.1,j.2.2.2.2.2.2.2)
      else
       if a.Kind=5 then
        (Pg b i77 i78 c i79 i80 d e 7 0 0).bind fun k =>
        some (2,k.2.1,k.2.2.1,k.2.2.2.1,k.2.2.2.2.1,k.2.2.2.2.2.1,k.2.2.2.2.2.2.1,k.2.2.2.2.2.2.2)
       else
        if (6:Int)≤a.Kind then
         gr a b i77 i78 i79 i80 c d e l (decide (a.Kind≤18))
        else
         gr a b i77 i78 i79 i80 c d e l false
def tj (fu:Nat) (self:yu) (b:Pf) (c:Int) (d:Int) (e:List Int) (f:Int) (g:Int) (h:List Bc) (i:List (List (List UInt8×Int))) (a:ua):Option (Int×Int×Int×List Int×Int×Int×List Bc×List (List (List UInt8×Int))) :=
 hr fu self a b (a.Kids.length+1) 0 c d f g e h i []
def zo:Nat→yu
 | 0=>⟨fun _ _ _ _ _ _ _ _ _=>none⟩
 | n+1=>⟨tj n (zo n)⟩
structure Gp where
 Ij:Pf→Int→Int→(List Int)→Int→Int→(List Bc)→(List (List (List UInt8×Int)))→(List Wa)→Option (Int×Int×List Int×Int×Int×List Bc×List (List (List UInt8×Int)))
 Om:Pf→Int→Int→(List Int)→Int→Int→(List Bc)→(List (List (List UInt8×Int)))→Wa→Option (Int×Int×List Int×Int×Int×List Bc×List (List (List UInt8×Int)))
def ir (self:Gp) (b:List Wa) (d:Pf):Nat→Int→Int→Int→Int→Int→(List Int)→(List Bc)→(List (List (List UInt8×Int)))→Option (Int×Int×List Int×Int×Int×List Bc×List (List (List UInt8×Int)))
 | 0,_,_,_,_,_,_,_,_=>none
 | n+1,i81,i82,i83,i84,i85,e,f,c =>
  if i81<(b.length:Int) then
   (at_ b i81).bind fun g =>
   (self.Om d i82 i83 e i84 i85 f c g).bind fun a =>
   (i64 (i81+1)).bind fun i163 =>
   ir self b d n i163 a.1 a.2.1 a.2.2.2.1 a.2.2.2.2.1 a.2.2.1 a.2.2.2.2.2.1 a.2.2.2.2.2.2
  else
   (i64 ((c.length:Int) - 1)).bind fun i165 =>
   (cut c 0 i165).bind fun h =>
   some (i82,i83,e,i84,i85,f,h)
def Ij (self:Gp) (b:Pf) (c:Int) (d:Int) (e:List Int) (f:Int) (g:Int) (h:List Bc) (i:List (List (List UInt8×Int))) (a:List Wa):Option (Int×Int×List Int×Int×Int×List Bc×List (List (List UInt8×Int))) :=
 (app i [[]]).bind fun j =>
 ir self a b (a.length+1) 0 c d f g e h j
def fv (a:Int×Int×List Int×Int×Int×List Bc×List (List (List UInt8×Int))) (b:List Bc):Option (Int×Int×List Int×Int×Int×List Bc×List (List (List UInt8×Int))) :=
 some (a.1,a.2.1,a.2.2.1,a.2.2.2.1,a.2.2.2.2.1,b,a.2.2.2.2.2.2)
def gv (self:Gp) (e:Wa) (c:Pf) (b:Int×Int×Int×List Int×Int×Int×List Bc×List (List (List UInt8×Int))) (f:List Bc):Option (Int×Int×List Int×Int×Int×List Bc×List (List (List UInt8×Int))) :=
 (self.Ij c b.2.1 b.2.2.1 b.2.2.2.1 b.2.2.2.2.1 b.2.2.2.2.2.1 f b.2.2.2.2.2.2.2 e.jd).bind fun a =>
 (Bn c a.1 a.2.1 a.2.2.1 a.2.2.2.1 a.2.2.2.2.1 a.2.2.2.2.2.1 a.2.2.2.2.2.2).bind fun g =>
 (at_ a.2.2.2.2.2.1 b.1).bind fun d =>
 fv a (a.2.2.2.2.2.1.set b.1.toNat (Bc.mk d.Op g d.N))
def hv (a:Int×Int×Int×List Int×Int×Int×List Bc×List (List (List UInt8×Int))) (b:List Bc):Option (Int×Int×List Int×Int×Int×List Bc×List (List (List UInt8×Int))) :=
 some (a.2.1,a.2.2.1,a.2.2.2.1,a.2.2.2.2.1,a.2.2.2.2.2.1,b,a.2.2.2.2.2.2.2)
def Om (fu:Nat) (self:Gp) (b:Pf) (t:Int) (u:Int) (v:List Int) (w:Int) (x:Int) (y:List Bc) (z:List (List (List UInt8×Int))) (c:Wa):Option (Int×Int×List Int×Int×Int×List Bc×List (List (List UInt8×Int))) :=
 if c.Kind=3 then
  ((zo fu).tj b t u v w x y z c.X).bind fun i =>
  (Pg b i.2.1 i.2.2.1 i.2.2.2.1 i.2.2.2.2.1 i.2.2.2.2.2.1 i.2.2.2.2.2.2.1 i.2.2.2.2.2.2.2 22 0 0).bind fun f =>
  (self.Ij b f.2.1 f.2.2.1 f.2.2.2.1 f.2.2.2.2.1 f.2.2.2.2.2.1 f.2.2.2.2.2.2.1 f.2.2.2.2.2.2.2 c.Body).bind fun j =>
  (Pg b j.1 j.2.1 j.2.2.1 j.2.2.2.1 j.2.2.2.2.1 j.2.2.2.2.2.1 j.2.2.2.2.2.2 21 0 0).bind fun d =>
  (Bn b d.2.1 d.2.2.1 d.2.2.2.1 d.2.2.2.2.1 d.2.2.2.2.2.1 d.2.2.2.2.2.2.1 d.2.2.2.2.2.2.2).bind fun C =>
  (at_ d.2.2.2.2.2.2.1 f.1).bind fun A =>
  gv self c b d (d.2.2.2.2.2.2.1.set f.1.toNat (Bc.mk A.Op C A.N))
 else
  if c.Kind=4 then
   (Bn b t u v w x y z).bind fun D =>
   ((zo fu).tj b t u v w x y z c.X).bind fun k =>
   (Pg b k.2.1 k.2.2.1 k.2.2.2.1 k.2.2.2.2.1 k.2.2.2.2.2.1 k.2.2.2.2.2.2.1 k.2.2.2.2.2.2.2 22 0 0).bind fun g =>
   (self.Ij b g.2.1 g.2.2.1 g.2.2.2.1 g.2.2.2.2.1 g.2.2.2.2.2.1 g.2.2.2.2.2.2.1 g.2.2.2.2.2.2.2 c.Body).bind fun l =>
   (Pg b l.1 l.2.1 l.2.2.1 l.2.2.2.1 l.2.2.2.2.1 l.2.2.2.2.2.1 l.2.2.2.2.2.2 21 D 0).bind fun e =>
   (Bn b e.2.1 e.2.2.1 e.2.2.2.1 e.2.2.2.2.1 e.2.2.2.2.2.1 e.2.2.2.2.2.2.1 e.2.2.2.2.2.2.2).bind fun E =>
   (at_ e.2.2.2.2.2.2.1 g.1).bind fun B =>
   hv e (e.2.2.2.2.2.2.1.set g.1.toNat (Bc.mk B.Op E B.N))
  else
   if c.Kind=6 then
    (Pg b t u v w x y z 25 0 0).bind fun m =>
    some (m.2.1,m.2.2.1,m.2.2.2.1,m.2.2.2.2.1,m.2.2.2.2.2.1,m.2.2.2.2.2.2.1,m.2.2.2.2.2.2.2)
   else
    ((zo fu).tj b t u v w x y z c.X).bind fun a =>
    if c.Kind=1 then
     (Qr b a.2.1 a.2.2.1 a.2.2.2.1 a.2.2.2.2.1 a.2.2.2.2.2.1 a.2.2.2.2.2.2.1 a.2.2.2.2.2.2.2 c.Name a.1).bind fun h =>
     (Pg b h.2.1 h.2.2.1 h.2.2.2.1 h.2.2.2.2.1 h.2.2.2.2.2.1 h.2.2.2.2.2.2.1 h.2.2.2.2.2.2.2 4 h.1 0).bind fun n =>
     some (n.2.1,n.2.2.1,n.2.2.2.1,n.2.2.2.2.1,n.2.2.2.2.2.1,n.2.2.2.2.2.2.1,n.2.2.2.2.2.2.2)
    else
     if c.Kind=2 then
      (bs fu b a.2.1 a.2.2.1 a.2.2.2.1 a.2.2.2.2.1 a.2.2.2.2.2.1 a.2.2.2.2.2.2.1 a.2.2.2.2.2.2.2 c.Name).bind fun F =>
      (Pg b a.2.1 a.2.2.1 a.2.2.2.1 a.2.2.2.2.1 a.2.2.2.2.2.1 a.2.2.2.2.2.2.1 a.2.2.2.2.2.2.2 4 F 0).bind fun o =>
      some (o.2.1,o.2.2.1,o.2.2.2.1,o.2.2.2.2.1,o.2.2.2.2.2.1,o.2.2.2.2.2.2.1,o.2.2.2.2.2.2.2)
     else
      if c.Kind=5 then
       (Pg b a.2.1 a.2.2.1 a.2.2.2.1 a.2.2.2.2.1 a.2.2.2.2.2.1 a.2.2.2.2.2.2.1 a.2.2.2.2.2.2.2 24 0 0).bind fun p =>
       some (p.2.1,p.2.2.1,p.2.2.2.1,p.2.2.2.2.1,p.2.2.2.2.2.1,p.2.2.2.2.2.2.1,p.2.2.2.2.2.2.2)
      else
       if c.Kind=7 then
        (Pg b a.2.1 a.2.2.1 a.2.2.2.1 a.2.2.2.2.1 a.2.2.2.2.2.1 a.2.2.2.2.2.2.1 a.2.2.2.2.2.2.2 26 ((vb b.boxes c.Name).getD 0) 0).bind fun q =>
        some (q.2.1,q.2.2.1,q.2.2.2.1,q.2.2.2.2.1,q.2.2.2.2.2.1,q.2.2.2.2.2.2.1,q.2.2.2.2.2.2.2)
       else
        if c.Kind=8 then
         (Pg b a.2.1 a.2.2.1 a.2.2.2.1 a.2.2.2.2.1 a.2.2.2.2.2.1 a.2.2.2.2.2.2.1 a.2.2.2.2.2.2.2 28 0 0).bind fun r =>
         some (r.2.1,r.2.2.1,r.2.2.2.1,r.2.2.2.2.1,r.2.2.2.2.2.1,r.2.2.2.2.2.2.1,r.2.2.2.2.2.2.2)
        else
         if c.Kind=9 then
          (Pg b a.2.1 a.2.2.1 a.2.2.2.1 a.2.2.2.2.1 a.2.2.2.2.2.1 a.2.2.2.2.2.2.1 a.2.2.2.2.2.2.2 5 0 0).bind fun s =>
          some (s.2.1,s.2.2.1,s.2.2.2.1,s.2.2.2.2.1,s.2.2.2.2.2.1,s.2.2.2.2.2.2.1,s.2.2.2.2.2.2.2)
         else
          some (a.2.1,a.2.2.1,a.2.2.2.1,a.2.2.2.2.1,a.2.2.2.2.2.1,a.2.2.2.2.2.2.1,a.2.2.2.2.2.2.2)
def Ao:Nat→Gp
 | 0=>⟨fun _ _ _ _ _ _ _ _ _=>none,fun _ _ _ _ _ _ _ _ _=>none⟩
 | n+1=>⟨Ij (Ao n),Om n (Ao n)⟩
def jr (p_1:Pf) (b:List (List (List UInt8×Int))) (i232:Int) (i233:Int) (i234:Int) (i235:Int) (c:List Int) (d:List Bc):Option Hh :=
 (Pg p_1 i232 i233 c i234 i235 d b 24 0 0).bind fun a =>
 some (Hh.mk a.2.1 a.2.2.1 a.2.2.2.1 a.2.2.2.2.1 a.2.2.2.2.2.1 a.2.2.2.2.2.2.1)
def kr (fu:Nat) (p_1:Pf) (e:va) (f:List (List (List UInt8×Int))) (i40:Int) (i41:Int) (i42:Int) (g:List Int) (h:List Bc) (i187:Int):Option Hh :=
 ((Ao fu).Ij p_1 i40 i41 g i42 i187 h f e.Body).bind fun a =>
 if e.Kind≠2 then
  (Pg p_1 a.1 a.2.1 a.2.2.1 a.2.2.2.1 a.2.2.2.2.1 a.2.2.2.2.2.1 a.2.2.2.2.2.2 25 0 0).bind fun d =>
  some (Hh.mk d.2.1 d.2.2.1 d.2.2.2.1 d.2.2.2.2.1 d.2.2.2.2.2.1 d.2.2.2.2.2.2.1)
 else
  if a.2.2.2.1=2 then
   (Pg p_1 a.1 a.2.1 a.2.2.1 a.2.2.2.1 a.2.2.2.2.1 a.2.2.2.2.2.1 a.2.2.2.2.2.2 2 0 0).bind fun b =>
   jr p_1 b.2.2.2.2.2.2.2 b.2.1 b.2.2.1 b.2.2.2.2.1 b.2.2.2.2.2.1 b.2.2.2.1 b.2.2.2.2.2.2.1
  else
   (Pg p_1 a.1 a.2.1 a.2.2.1 a.2.2.2.1 a.2.2.2.2.1 a.2.2.2.2.2.1 a.2.2.2.2.2.2 1 0 0).bind fun c =>
   jr p_1 c.2.2.2.2.2.2.2 c.2.1 c.2.2.1 c.2.2.2.2.1 c.2.2.2.2.2.1 c.2.2.2.1 c.2.2.2.2.2.2.1
def lr (fu:Nat) (p_1:Pf) (a:va) (b:List (List (List UInt8×Int))) (i40:Int) (i41:Int) (i42:Int) (i43:Int) (c:List Int) (d:List Bc):Option Hh :=
 if a.Kind=3 then
  (Pm p_1 a.Hc).bind fun e =>
  kr fu p_1 a b i40 i41 i42 c d e
 else
  kr fu p_1 a b i40 i41 i42 c d i43
def iv (i87:Int) (a:Int→(List (List (List UInt8×Int)))→Int→Int→Int→Int→(List Int)→(List Bc)→Option Hh) (b:List (List (List UInt8×Int))) (i150:Int) (i151:Int) (i152:Int) (i153:Int) (c:List Int) (d:List Bc):Option Hh :=
 (i64 (i87+1)).bind fun i181 =>
 a i181 b i150 i151 i152 i153 c d
def Sp (fu:Nat) (p_1:Pf) (b:va):Nat→Int→(List (List (List UInt8×Int)))→Int→Int→Int→Int→(List Int)→(List Bc)→Option Hh
 | 0,_,_,_,_,_,_,_,_=>none
 | n+1,i87,c,i92,i93,i94,i95,d,e =>
  if i87<(b.Params.length:Int) then
   (at_ b.Params i87).bind fun f =>
   (Pm p_1 f.zb).bind fun g =>
   (Qr p_1 i92 i93 d i94 i95 e c f.Name g).bind fun a =>
   iv i87 (Sp fu p_1 b n) a.2.2.2.2.2.2.2 a.2.1 a.2.2.1 a.2.2.2.2.1 a.2.2.2.2.2.1 a.2.2.2.1 a.2.2.2.2.2.2.1
  else
   lr fu p_1 b c i92 i93 i94 i95 d e
def jv (fu:Nat) (p_1:Pf) (a:va) (i53:Int):Option Hh :=
 Sp fu p_1 a (a.Params.length+1) 0 [([]:List (List UInt8×Int))] a.Kind (a.Params.length:Int) i53 0 [] []
def Et (fu:Nat)  (p_1:Pf) (a:va):Option Hh :=
 if a.Kind≠4 then
  (Pm p_1 a.zb).bind fun b =>
  jv fu p_1 a b
 else
  lr fu p_1 a [([]:List (List UInt8×Int))] a.Kind 0 0 0 [] []
def Iq (a:Vc) :Option (Wg×Vc) :=
 some ((Wg.mk ([]:List zi) ([]:List Hh)),a)
def Xs (i163:Int) (a:List (List UInt8×Int)) (b:List (List UInt8×va)) (c:va) (d:va) (e:List (List UInt8×Int)) (f:Int→(List (List UInt8×Int))→(List (List UInt8×Int))→(List (List UInt8×va))→(List zi)→Option (Wg×Vc)) (g:List zi):Option (Wg×Vc) :=
 (i64 (i163+1)).bind fun h =>
 f h e a (cc b c.Name d) g
def Ys (p_1:List va) (i163:Int) (a:List (List UInt8×Int)) (b:List (List UInt8×va)) (f:List zi) (c:va) (d:va) (g:Int→(List (List UInt8×Int))→(List (List UInt8×Int))→(List (List UInt8×va))→(List zi)→Option (Wg×Vc)) (e:List (List UInt8×Int)):Option (Wg×Vc) :=
 (at_ p_1 i163).bind fun h =>
 (at_ p_1 i163).bind fun i =>
 (Lv e a (cc b c.Name d) h.zb).bind fun j =>
 (app f [(zi.mk j i.oe)]).bind fun k =>
 Xs i163 a b c d e g k
def Zs (i163:Int) (a:List (List UInt8×Int)) (b:List (List UInt8×va)) (c:List zi) (d:va) (e:va) (f:Int→(List (List UInt8×Int))→(List (List UInt8×Int))→(List (List UInt8×va))→(List zi)→Option (Wg×Vc)) (g:List (List UInt8×Int)):Option (Wg×Vc) :=
 (i64 (i163+1)).bind fun h =>
 f h a g (cc b d.Name e) c
def So (a:Int) (b:List Hh) (c:Hh) (d:Int→(List Hh)→Option (Wg×Vc)) (e:Bool):Option (Wg×Vc) :=
 if e=true then
  some ((Wg.mk ([]:List zi) ([]:List Hh)),(Vc.mk 5 a))
 else
  (app b [c]).bind fun f =>
  (i64 (a+1)).bind fun g =>
  d g f
def zl (fu:Nat) (p_1:List va) (b:List (List UInt8×Int)) (c:List (List UInt8×Int)) (d:List (List UInt8×va)) (e:List zi):Nat→Int→(List Hh)→Option (Wg×Vc)
 | 0,_,_=>none
 | n+1,a,f =>
  if a<(p_1.length:Int) then
   (at_ p_1 a).bind fun h =>
   if h.Kind=1 then
    (i64 (a+1)).bind fun i =>
    zl fu p_1 b c d e n i f
   else
    (at_ p_1 a).bind fun j =>
    (Et fu (Pf.mk b c d) j).bind fun g =>
    if (200:Int)<(g.ij.length:Int) then
     So a f g (zl fu p_1 b c d e n) true
    else
     So a f g (zl fu p_1 b c d e n) (decide ((4000:Int)<(g.Code.length:Int)))
  else
   some ((Wg.mk e f),(Vc.mk 0 0))
def Vl (fu:Nat) (p_1:List va):Nat→Int→(List (List UInt8×Int))→(List (List UInt8×Int))→(List (List UInt8×va))→(List zi)→Option (Wg×Vc)
 | 0,_,_,_,_,_=>none
 | n+1,i163,a,b,c,d =>
  if i163<(p_1.length:Int) then
   (at_ p_1 i163).bind fun e =>
   (at_ p_1 i163).bind fun f =>
   (at_ p_1 i163).bind fun g =>
   if g.Kind=1 then
    (at_ p_1 i163).bind fun h =>
    Ys p_1 i163 b c d e f (Vl fu p_1 n) (cc a h.Name (a.length:Int))
   else
    (at_ p_1 i163).bind fun i =>
    Zs i163 a c d e f (Vl fu p_1 n) (cc b i.Name (b.length:Int))
  else
   zl fu p_1 a b c d (p_1.length+1) 0 []
def rn (fu:Nat)  (p_1:List va):Option (Wg×Vc) :=
 (qt fu p_1).bind fun a =>
 if a.Ue≠0 then
  Iq a
 else
  Vl fu p_1 (p_1.length+1) 0 ([]:List (List UInt8×Int)) ([]:List (List UInt8×Int)) ([]:List (List UInt8×va)) []
end Go.Y
namespace Go.Y
open Go.bc Go.Dc
def Mv (fu:Nat)  :Option Bool :=
 (dq fu [116,97,115,107,32,116,32,123,32,111,117,116,32,49,32,43,32,50,32,59,32,125]).bind fun b =>
 (rn fu b.1).bind fun a =>
 if b.2.Ue=0 then
  if a.2.Ue=0 then
   if (a.1.Tf.length:Int)=1 then
    (at_ a.1.Tf 0).bind fun c =>
    if (c.Code.length:Int)=5 then
     (at_ a.1.Tf 0).bind fun d =>
     (at_ d.Code 2).bind fun e =>
     some (decide (e.Op=8))
    else
     some false
   else
    some false
  else
   some false
 else
  some false
end Go.Y
namespace Go.Y
open Go.bc Go.Dc
def kv (p_1:Ya) (a:List UInt8):Option Ya :=
 some (Ya.mk p_1.Kind a)
def fq  (p_1:Ya):Option Ya :=
 if p_1.Kind≠3 then
  kv p_1 []
 else
  kv p_1 p_1.Nb
structure Lo where
 Hl:ua→Option ua
def lv (i56:Int) (a:Int→(List ua)→Option ua) (b:List ua):Option ua :=
 (i64 (i56+1)).bind fun i124 =>
 a i124 b
def Tp (self:Lo) (p_1:ua) (i16:Int) (a:List UInt8):Nat→Int→(List ua)→Option ua
 | 0,_,_=>none
 | n+1,i56,b =>
  if i56<(p_1.Kids.length:Int) then
   (at_ p_1.Kids i56).bind fun c =>
   (self.Hl c).bind fun d =>
   (ll 2513169434916 b [d]).bind fun e =>
   lv i56 (Tp self p_1 i16 a n) e
  else
   some (ua.mk p_1.Kind i16 a b)
def mr (self:Lo) (p_1:ua) (i16:Int) (a:List UInt8):Option ua :=
 Tp self p_1 i16 a (p_1.Kids.length+1) 0 []
def gp (self:Lo) (p_1:ua) (i16:Int) (a:Bool):Option ua :=
 if a=true then
  mr self p_1 i16 p_1.Name
 else
  mr self p_1 i16 []
def nr (self:Lo) (p_1:ua) (i16:Int):Option ua :=
 if p_1.Kind=3 then
  gp self p_1 i16 true
 else
  if p_1.Kind=20 then
   gp self p_1 i16 true
  else
   if p_1.Kind=19 then
    gp self p_1 i16 true
   else
    gp self p_1 i16 (decide (p_1.Kind=22))
def pr (self:Lo) (p_1:ua) (Lg:Bool):Option ua :=
 if Lg=true then
  nr self p_1 p_1.N
 else
  nr self p_1 0
def Hl (self:Lo) (p_1:ua):Option ua :=
 if p_1.Kind=1 then
  pr self p_1 true
 else
  pr self p_1 (decide (p_1.Kind=2))
def yn:Nat→Lo
 | 0=>⟨fun _=>none⟩
 | n+1=>⟨Hl (yn n)⟩
structure Pn where
 wk:(List Wa)→Option (List Wa)
def Tq (i77:Int) (a:List Wa) (b:Wa) (c:List UInt8) (i182:Int) (i183:Int) (d:List UInt8) (e:List ua) (f:List Wa) (g:Int→(List Wa)→Option (List Wa)) (h:List Wa):Option (List Wa) :=
 (ll 1099511627776 a [(Wa.mk b.Kind c (ua.mk i182 i183 d e) f h)]).bind fun i =>
 (i64 (i77+1)).bind fun i234 =>
 g i234 i
def Uq (self:Pn) (i77:Int) (b:List Wa) (a:Wa) (c:List UInt8) (i182:Int) (i183:Int) (d:List UInt8) (e:List ua) (f:Int→(List Wa)→Option (List Wa)) (g:List Wa):Option (List Wa) :=
 if a.Kind=3 then
  (self.wk a.jd).bind fun h =>
  Tq i77 b a c i182 i183 d e g f h
 else
  Tq i77 b a c i182 i183 d e g f []
def Vq (self:Pn) (i77:Int) (b:List Wa) (a:Wa) (c:List UInt8) (i182:Int) (i183:Int) (d:List UInt8) (e:List ua) (f:Int→(List Wa)→Option (List Wa)) (g:Bool):Option (List Wa) :=
 if g=true then
  (self.wk a.Body).bind fun h =>
  Uq self i77 b a c i182 i183 d e f h
 else
  Uq self i77 b a c i182 i183 d e f []
def Wq (self:Pn) (i77:Int) (b:List Wa) (a:Wa) (c:List UInt8) (d:Int→(List Wa)→Option (List Wa)) (i182:Int) (i183:Int) (e:List UInt8) (f:List ua):Option (List Wa) :=
 if a.Kind=3 then
  Vq self i77 b a c i182 i183 e f d true
 else
  Vq self i77 b a c i182 i183 e f d (decide (a.Kind=4))
def Xq (fu:Nat) (self:Pn) (i77:Int) (c:List Wa) (a:Wa) (d:Int→(List Wa)→Option (List Wa)) (e:List UInt8):Option (List Wa) :=
 if a.Kind≠6 then
  ((yn fu).Hl a.X).bind fun b =>
  Wq self i77 c a e d b.Kind b.N b.Name b.Kids
 else
  Wq self i77 c a e d 0 0 [] []
def Qp (fu:Nat) (self:Pn) (i77:Int) (b:List Wa) (a:Wa) (c:Int→(List Wa)→Option (List Wa)) (d:Bool):Option (List Wa) :=
 if d=true then
  Xq fu self i77 b a c a.Name
 else
  Xq fu self i77 b a c []
def Ui (fu:Nat) (self:Pn) (p_1:List Wa):Nat→Int→(List Wa)→Option (List Wa)
 | 0,_,_=>none
 | n+1,i77,b =>
  if i77<(p_1.length:Int) then
   (at_ p_1 i77).bind fun a =>
   if a.Kind=1 then
    Qp fu self i77 b a (Ui fu self p_1 n) true
   else
    if a.Kind=2 then
     Qp fu self i77 b a (Ui fu self p_1 n) true
    else
     Qp fu self i77 b a (Ui fu self p_1 n) (decide (a.Kind=7))
  else
   some b
def wk (fu:Nat) (self:Pn) (p_1:List Wa):Option (List Wa) :=
 Ui fu self p_1 (p_1.length+1) 0 []
def Gj:Nat→Pn
 | 0=>⟨fun _=>none⟩
 | n+1=>⟨wk n (Gj n)⟩
def Vp (i139:Int) (b:List va) (a:va) (c:Int) (d:List UInt8) (e:Int) (f:List Wa) (g:Int) (h:List UInt8) (i:Int→(List va)→Option (List va)) (j:List TParam):Option (List va) :=
 (ll 1099511627776 b [(va.mk a.Kind a.Name (Ya.mk c d) (Ya.mk g h) e j f)]).bind fun k =>
 (i64 (i139+1)).bind fun l =>
 i l k
def tv (a:Int) (b:Int→(List TParam)→Option (List va)) (c:List TParam):Option (List va) :=
 (i64 (a+1)).bind fun d =>
 b d c
def Wp (i139:Int) (c:List va) (a:va) (d:Int) (e:List UInt8) (f:Int) (g:List Wa) (h:Int) (i:List UInt8) (j:Int→(List va)→Option (List va)):Nat→Int→(List TParam)→Option (List va)
 | 0,_,_=>none
 | n+1,b,k =>
  if b<(a.Params.length:Int) then
   (at_ a.Params b).bind fun l =>
   (fq l.zb).bind fun m =>
   (ll 3518437208883 k [(TParam.mk l.Name (Ya.mk m.Kind m.Nb))]).bind fun o =>
   tv b (Wp i139 c a d e f g h i j n) o
  else
   Vp i139 c a d e f g h i j k
def xr (i139:Int) (b:List va) (a:va) (c:Int) (d:List UInt8) (e:Int) (f:List Wa) (g:Int) (h:List UInt8) (i:Int→(List va)→Option (List va)) (j:Bool):Option (List va) :=
 if j=true then
  Wp i139 b a c d e f g h i (a.Params.length+1) 0 []
 else
  Vp i139 b a c d e f g h i []
def yr (i139:Int) (b:List va) (a:va) (c:Int) (d:List UInt8) (e:Int) (f:List Wa) (g:Int→(List va)→Option (List va)) (h:Int) (i:List UInt8):Option (List va) :=
 if a.Kind=2 then
  xr i139 b a c d e f h i g true
 else
  xr i139 b a c d e f h i g (decide (a.Kind=3))
def zr (i139:Int) (b:List va) (a:va) (c:Int) (d:List UInt8) (e:Int→(List va)→Option (List va)) (f:Int) (g:List Wa):Option (List va) :=
 if a.Kind=3 then
  (fq a.Hc).bind fun h =>
  yr i139 b a c d f g e h.Kind h.Nb
 else
  yr i139 b a c d f g e 0 []
def Ar (fu:Nat) (i139:Int) (b:List va) (a:va) (c:Int→(List va)→Option (List va)) (d:Int) (e:List UInt8):Option (List va) :=
 if a.Kind=1 then
  zr i139 b a d e c a.oe []
 else
  ((Gj fu).wk a.Body).bind fun f =>
  zr i139 b a d e c 0 f
def Ei (fu:Nat) (p_1:List va):Nat→Int→(List va)→Option (List va)
 | 0,_,_=>none
 | n+1,i139,b =>
  if i139<(p_1.length:Int) then
   (at_ p_1 i139).bind fun a =>
   if a.Kind≠4 then
    (fq a.zb).bind fun c =>
    Ar fu i139 b a (Ei fu p_1 n) c.Kind c.Nb
   else
    Ar fu i139 b a (Ei fu p_1 n) 0 []
  else
   some b
def Ot (fu:Nat)  (p_1:List va):Option (List va) :=
 Ei fu p_1 (p_1.length+1) 0 []
end Go.Y
namespace Go.Y
open Go.bc Go.Dc
def jq  (a:List UInt8):Option Int :=
 some (a.length:Int)
def Pt  (a:List UInt8) (b:UInt8):Option (Unit×List UInt8) :=
 (app a [b]).bind fun c =>
 some ((),c)
def Xt  (b:List UInt8) (a:List UInt8):Option (Int×Unit×List UInt8) :=
 (app b a).bind fun c =>
 some ((a.length:Int),(),c)
end Go.Y
namespace Go.Y
open Go.bc Go.Dc
def Hn  (p_1:Ya):Option (List UInt8) :=
 if p_1.Kind=1 then
  some [110,117,109]
 else
  if p_1.Kind=2 then
   some [98,111,111,108]
  else
   some p_1.Nb
def mv (p_1:Int) (a:List pg):Nat→Int→Option (List UInt8×Int)
 | 0,_=>none
 | n+1,i27 =>
  if i27<(a.length:Int) then
   (at_ a i27).bind fun c =>
   (zm c.lk p_1).bind fun b =>
   if b.isSome=true then
    (i64 (i27+1)).bind fun i87 =>
    some ((b.getD ([],0)).1,i87)
   else
    (i64 (i27+1)).bind fun i89 =>
    mv p_1 a n i89
  else
   if p_1=4 then
    some ([45],6)
   else
    if p_1=5 then
     some ([110,111,116],6)
    else
     some ([],7)
def Ft  (p_1:Int):Option (List UInt8×Int) :=
 (Ct ).bind fun a =>
 mv p_1 a (a.length+1) 0
def uv (i51:Int) (a:List UInt8) (b:Int→(List UInt8)→Option (List UInt8)) (c:List UInt8):Option (List UInt8) :=
 (Xt c a).bind fun d =>
 (i64 (i51+1)).bind fun i134 =>
 b i134 d.2.2
def qo (a:List (List UInt8)):Nat→Int→(List UInt8)→Option (List UInt8)
 | 0,_,_=>none
 | n+1,i51,b =>
  if i51<(a.length:Int) then
   (at_ a i51).bind fun c =>
   (jq b).bind fun d =>
   if (0:Int)<d then
    (Pt b 32).bind fun e =>
    uv i51 c (qo a n) e.2
   else
    uv i51 c (qo a n) b
  else
   some b
def hk  (b:List UInt8) (a:List (List UInt8)):Option (List UInt8) :=
 qo a (a.length+1) 0 b
def Rr (i51:Int) (a:List UInt8) (b:Int→(List UInt8)→Option (List UInt8)) (c:List UInt8):Option (List UInt8) :=
 (Xt c a).bind fun d =>
 (i64 (i51+1)).bind fun i134 =>
 b i134 d.2.2
def Gl (a:List (List UInt8)):Nat→Int→(List UInt8)→Option (List UInt8)
 | 0,_,_=>none
 | n+1,i51,b =>
  if i51<(a.length:Int) then
   (at_ a i51).bind fun c =>
   (jq b).bind fun d =>
   if (0:Int)<d then
    (Pt b 32).bind fun e =>
    Rr i51 c (Gl a n) e.2
   else
    Rr i51 c (Gl a n) b
  else
   some b
def De  (b:List UInt8) (a:List (List UInt8)):Option (List UInt8) :=
 Gl a (a.length+1) 0 b
structure qk where
 gg:(List UInt8)→ua→Int→Option (List UInt8)
 Qg:(List UInt8)→(List ua)→Option (List UInt8)
def Br (self:qk) (a:ua) (b:List UInt8×Int) (c:List UInt8) (d:Int):Option (List UInt8) :=
 (at_ a.Kids 0).bind fun e =>
 (self.gg c e d).bind fun f =>
 (De f [b.1]).bind fun g =>
 (at_ a.Kids 1).bind fun h =>
 (i64 (b.2+1)).bind fun i =>
 (self.gg g h i).bind fun j =>
 (hk j [[41]]).bind fun k =>
 some k
def Cr (self:qk) (a:ua) (c:List UInt8×Int) (b:List UInt8) (d:Bool):Option (List UInt8) :=
 if d=true then
  (De b [c.1]).bind fun e =>
  (at_ a.Kids 0).bind fun f =>
  (self.gg e f 6).bind fun g =>
  (hk g [[41]]).bind fun h =>
  some h
 else
  if a.Kind=20 then
   (De b [[114,101,99,118],[40],a.Name,[41]]).bind fun i =>
   (hk i [[41]]).bind fun j =>
   some j
  else
   if a.Kind=21 then
    (De b [[121,105,101,108,100]]).bind fun k =>
    (self.Qg k a.Kids).bind fun l =>
    (hk l [[41]]).bind fun m =>
    some m
   else
    if a.Kind=23 then
     (De b [[114,101,115,117,109,101]]).bind fun n =>
     (self.Qg n a.Kids).bind fun o =>
     (hk o [[41]]).bind fun p =>
     some p
    else
     if a.Kind=24 then
      (De b [[97,108,105,118,101]]).bind fun q =>
      (self.Qg q a.Kids).bind fun r =>
      (hk r [[41]]).bind fun s =>
      some s
     else
      if a.Kind=22 then
       (De b [[115,116,97,114,116],a.Name]).bind fun t =>
       (self.Qg t a.Kids).bind fun u =>
       (hk u [[41]]).bind fun v =>
       some v
      else
       if a.Kind=19 then
        (De b [a.Name]).bind fun w =>
        (self.Qg w a.Kids).bind fun x =>
        (hk x [[41]]).bind fun y =>
        some y
       else
        if c.2=3 then
         (i64 (c.2+1)).bind fun z =>
         Br self a c b z
        else
         Br self a c b c.2
def np (self:qk) (a:ua) (c:List UInt8) (b:List UInt8×Int) (d:Int):Option (List UInt8) :=
 (at_ a.Kids 0).bind fun e =>
 (self.gg c e d).bind fun f =>
 (De f [b.1]).bind fun g =>
 (at_ a.Kids 1).bind fun h =>
 (i64 (b.2+1)).bind fun i =>
 (self.gg g h i).bind fun j =>
 some j
def El (self:qk) (a:ua) (b:List UInt8) (c:List UInt8×Int) (d:Bool):Option (List UInt8) :=
 if d=true then
  (De b [c.1]).bind fun e =>
  (at_ a.Kids 0).bind fun f =>
  (self.gg e f 6).bind fun g =>
  some g
 else
  if a.Kind=20 then
   (De b [[114,101,99,118],[40],a.Name,[41]]).bind fun h =>
   some h
  else
   if a.Kind=21 then
    (De b [[121,105,101,108,100]]).bind fun i =>
    (self.Qg i a.Kids).bind fun j =>
    some j
   else
    if a.Kind=23 then
     (De b [[114,101,115,117,109,101]]).bind fun k =>
     (self.Qg k a.Kids).bind fun l =>
     some l
    else
     if a.Kind=24 then
      (De b [[97,108,105,118,101]]).bind fun m =>
      (self.Qg m a.Kids).bind fun n =>
      some n
     else
      if a.Kind=22 then
       (De b [[115,116,97,114,116],a.Name]).bind fun o =>
       (self.Qg o a.Kids).bind fun p =>
       some p
      else
       if a.Kind=19 then
        (De b [a.Name]).bind fun q =>
        (self.Qg q a.Kids).bind fun r =>
        some r
       else
        if c.2=3 then
         (i64 (c.2+1)).bind fun s =>
         np self a b c s
        else
         np self a b c c.2
def gg (self:qk) (b:List UInt8) (a:ua) (p_3:Int):Option (List UInt8) :=
 (Ft a.Kind).bind fun c =>
 if c.2<p_3 then
  (De b [[40]]).bind fun d =>
  if a.Kind=1 then
   (Ho a.N).bind fun e =>
   (De d [e]).bind fun f =>
   (hk f [[41]]).bind fun g =>
   some g
  else
   if a.Kind=2 then
    (at_ [[102,97,108,115,101],[116,114,117,101]] a.N).bind fun h =>
    (De d [h]).bind fun i =>
    (hk i [[41]]).bind fun j =>
    some j
   else
    if a.Kind=3 then
     (De d [a.Name]).bind fun k =>
     (hk k [[41]]).bind fun l =>
     some l
    else
     if a.Kind=4 then
      Cr self a c d (decide (a.Kind=4))
     else
      Cr self a c d (decide (a.Kind=5))
 else
  if a.Kind=1 then
   (Ho a.N).bind fun m =>
   (De b [m]).bind fun r417 =>
   some r417
  else
   if a.Kind=2 then
    (at_ [[102,97,108,115,101],[116,114,117,101]] a.N).bind fun n =>
    (De b [n]).bind fun o =>
    some o
   else
    if a.Kind=3 then
     (De b [a.Name]).bind fun p =>
     some p
    else
     if a.Kind=4 then
      El self a b c (decide (a.Kind=4))
     else
      El self a b c (decide (a.Kind=5))
def Dr (self:qk) (a:List ua) (i67:Int) (b:Int→(List UInt8)→Option (List UInt8)) (c:List UInt8):Option (List UInt8) :=
 (at_ a i67).bind fun d =>
 (self.gg c d 1).bind fun e =>
 (i64 (i67+1)).bind fun i158 =>
 b i158 e
def so (self:qk) (a:List ua):Nat→Int→(List UInt8)→Option (List UInt8)
 | 0,_,_=>none
 | n+1,i67,b =>
  if i67<(a.length:Int) then
   if (0:Int)<i67 then
    (De b [[44]]).bind fun c =>
    Dr self a i67 (so self a n) c
   else
    Dr self a i67 (so self a n) b
  else
   (De b [[41]]).bind fun d =>
   some d
def Qg (self:qk) (b:List UInt8) (a:List ua):Option (List UInt8) :=
 (De b [[40]]).bind fun c =>
 so self a (a.length+1) 0 c
def Il:Nat→qk
 | 0=>⟨fun _ _ _=>none,fun _ _=>none⟩
 | n+1=>⟨gg (Il n),Qg (Il n)⟩
structure an where
 ik:(List UInt8)→(List Wa)→Option (List UInt8)
 Zk:(List UInt8)→Wa→Option (List UInt8)
def Er (self:an) (a:List Wa):Nat→Int→(List UInt8)→Option (List UInt8)
 | 0,_,_=>none
 | n+1,i55,b =>
  if i55<(a.length:Int) then
   (at_ a i55).bind fun c =>
   (self.Zk b c).bind fun d =>
   (i64 (i55+1)).bind fun i118 =>
   Er self a n i118 d
  else
   (De b [[125]]).bind fun e =>
   some e
def ik (self:an) (b:List UInt8) (a:List Wa):Option (List UInt8) :=
 (De b [[123]]).bind fun c =>
 Er self a (a.length+1) 0 c
def Gr  (a:List UInt8):Option (List UInt8) :=
 (De a [[59]]).bind fun b =>
 some b
def uo (fu:Nat) (a:Wa) (b:List UInt8):Option (List UInt8) :=
 if a.Kind≠6 then
  ((Il fu).gg b a.X 1).bind fun c =>
  Gr c
 else
  Gr b
def Xp (self:an) (b:Wa) (a:List UInt8) (c:Bool):Option (List UInt8) :=
 if c=true then
  (De a [[101,108,115,101]]).bind fun d =>
  (self.ik d b.jd).bind fun e =>
  some e
 else
  some a
def Hr (fu:Nat) (self:an) (a:Wa) (b:List UInt8) (d:Bool):Option (List UInt8) :=
 if d=true then
  (De b [((vb (cc (cc ([]:List (Int×List UInt8)) 3 [105,102]) 4 [119,104,105,108,101]) a.Kind).getD [])]).bind fun e =>
  ((Il fu).gg e a.X 1).bind fun f =>
  (self.ik f a.Body).bind fun c =>
  if a.Kind=3 then
   Xp self a c (decide ((0:Int)<(a.jd.length:Int)))
  else
   Xp self a c false
 else
  if a.Kind=1 then
   (De b [[108,101,116],a.Name,[61]]).bind fun g =>
   uo fu a g
  else
   if a.Kind=2 then
    (De b [a.Name,[61]]).bind fun h =>
    uo fu a h
   else
    if a.Kind=7 then
     (De b [[115,101,110,100],a.Name]).bind fun i =>
     uo fu a i
    else
     (De b [((vb (cc (cc (cc (cc ([]:List (Int×List UInt8)) 5 [114,101,116,117,114,110]) 6 [115,116,111,112]) 8 [111,117,116]) 9 [100,111]) a.Kind).getD [])]).bind fun j =>
     uo fu a j
def Zk (fu:Nat) (self:an) (b:List UInt8) (a:Wa):Option (List UInt8) :=
 if a.Kind=3 then
  Hr fu self a b (decide (a.Kind=3))
 else
  Hr fu self a b (decide (a.Kind=4))
def Co:Nat→an
 | 0=>⟨fun _ _=>none,fun _ _=>none⟩
 | n+1=>⟨ik (Co n),Zk n (Co n)⟩
def Sr (fu:Nat) (a:va) (b:List UInt8):Option (List UInt8) :=
 ((Co fu).ik b a.Body).bind fun c =>
 some c
def Bv  (a:List UInt8):Option (List UInt8) :=
 some a
def Cv (i162:Int) (a:Int→(List UInt8)→Option (List UInt8)) (b:List UInt8):Option (List UInt8) :=
 (i64 (i162+1)).bind fun c =>
 a c b
def Tr (i162:Int) (a:TParam) (b:Int→(List UInt8)→Option (List UInt8)) (c:List UInt8):Option (List UInt8) :=
 (Hn a.zb).bind fun d =>
 (De c [a.Name,d]).bind fun e =>
 Cv i162 b e
def zn (fu:Nat) (a:va) (b:List UInt8):Option (List UInt8) :=
 (Hn a.zb).bind fun c =>
 (De b [c]).bind fun d =>
 Sr fu a d
def Lm (fu:Nat) (a:va):Nat→Int→(List UInt8)→Option (List UInt8)
 | 0,_,_=>none
 | n+1,i162,b =>
  if i162<(a.Params.length:Int) then
   (at_ a.Params i162).bind fun c =>
   if (0:Int)<i162 then
    (De b [[44]]).bind fun e =>
    Tr i162 c (Lm fu a n) e
   else
    Tr i162 c (Lm fu a n) b
  else
   (De b [[41]]).bind fun d =>
   if a.Kind=3 then
    (Hn a.Hc).bind fun f =>
    (De d [[116,97,107,101,115],f,[121,105,101,108,100,115]]).bind fun g =>
    zn fu a g
   else
    zn fu a d
def xt (fu:Nat) (a:va) (b:List UInt8):Option (List UInt8) :=
 Lm fu a (a.Params.length+1) 0 b
def Yt (fu:Nat)  (b:List UInt8) (a:va):Option (List UInt8) :=
 if a.Kind=1 then
  (Hn a.zb).bind fun c =>
  (Ho a.oe).bind fun d =>
  (De b [[98,111,120],a.Name,c,d,[59]]).bind fun e =>
  Bv e
 else
  if a.Kind=4 then
   (De b [[116,97,115,107],a.Name]).bind fun f =>
   Sr fu a f
  else
   (De b [((vb (cc (cc ([]:List (Int×List UInt8)) 2 [102,110]) 3 [103,101,110]) a.Kind).getD []),a.Name,[40]]).bind fun g =>
   xt fu a g
def Rp (fu:Nat) (p_1:List va):Nat→Int→(List UInt8)→Option (List UInt8×Vc)
 | 0,_,_=>none
 | n+1,i39,a =>
  if i39<(p_1.length:Int) then
   (at_ p_1 i39).bind fun b =>
   (Yt fu a b).bind fun c =>
   (i64 (i39+1)).bind fun i96 =>
   Rp fu p_1 n i96 c
  else
   (jq a).bind fun d =>
   if (6000:Int)<d then
    some ([],(Vc.mk 4 0))
   else
    some (a,(Vc.mk 0 0))
def bq (fu:Nat)  (p_1:List va):Option (List UInt8×Vc) :=
 (Fj fu p_1).bind fun a =>
 if a.Ue≠0 then
  some ([],a)
 else
  Rp fu p_1 (p_1.length+1) 0 []
end Go.Y
namespace Go.Y
open Go.bc Go.Dc
def Ir (p_1:List Int) (a:List Int):Nat→Int→Option Bool
 | 0,_=>none
 | n+1,i26 =>
  if i26<(p_1.length:Int) then
   (at_ p_1 i26).bind fun b =>
   (at_ a i26).bind fun c =>
   if b≠c then
    some false
   else
    (i64 (i26+1)).bind fun i65 =>
    Ir p_1 a n i65
  else
   some true
def Qt  (p_1:List Int) (a:List Int):Option Bool :=
 if (p_1.length:Int)≠(a.length:Int) then
  some false
 else
  Ir p_1 a (p_1.length+1) 0
def Jr (i177:Int) (b:List Bc) (e:List Bc) (f:Int→Option Bool):Nat→Int→Option Bool
 | 0,_=>none
 | n+1,a =>
  if a<(b.length:Int) then
   (at_ b a).bind fun c =>
   (at_ e a).bind fun d =>
   if (Mi [(decide (c.Op=d.Op)),(decide (c.A=d.A)),(decide (c.N=d.N))])=true then
    (i64 (a+1)).bind fun g =>
    Jr i177 b e f n g
   else
    some false
  else
   (i64 (i177+1)).bind fun h =>
   f h
def vo (i177:Int) (a:List Bc) (b:List Bc) (c:Int→Option Bool) (d:Bool):Option Bool :=
 if d=true then
  some false
 else
  Jr i177 a b c (a.length+1) 0
def vv (i177:Int) (c:Int→Option Bool) (d:Int) (e:Int) (f:List Int) (g:Int) (h:Int) (a:List Bc) (i:Int) (j:Int) (k:List Int) (l:Int) (m:Int) (b:List Bc):Option Bool :=
 if d≠i then
  vo i177 a b c true
 else
  if e≠j then
   vo i177 a b c true
  else
   if g≠l then
    vo i177 a b c true
   else
    if h≠m then
     vo i177 a b c true
    else
     (Qt f k).bind fun n =>
     if n=true then
      vo i177 a b c (decide ((a.length:Int)≠(b.length:Int)))
     else
      vo i177 a b c true
def vn (p_1:Wg) (c:Wg):Nat→Int→Option Bool
 | 0,_=>none
 | n+1,i177 =>
  if i177<(p_1.Tf.length:Int) then
   (at_ p_1.Tf i177).bind fun a =>
   (at_ c.Tf i177).bind fun b =>
   vv i177 (vn p_1 c n) a.Kind a.Params a.ij a.Result a.Hc a.Code b.Kind b.Params b.ij b.Result b.Hc b.Code
  else
   some true
def Kr (p_1:Wg) (a:Wg):Nat→Int→Option Bool
 | 0,_=>none
 | n+1,i39 =>
  if i39<(p_1.Hg.length:Int) then
   (at_ p_1.Hg i39).bind fun b =>
   (at_ a.Hg i39).bind fun c =>
   if (Mi [(decide (b.zb=c.zb)),(decide (b.oe=c.oe))])=true then
    (i64 (i39+1)).bind fun i77 =>
    Kr p_1 a n i77
   else
    some false
  else
   vn p_1 a (p_1.Tf.length+1) 0
def vt (p_1:Wg) (a:Wg) (b:Bool):Option Bool :=
 if b=true then
  some false
 else
  Kr p_1 a (p_1.Hg.length+1) 0
def Rt  (p_1:Wg) (a:Wg):Option Bool :=
 if (p_1.Hg.length:Int)≠(a.Hg.length:Int) then
  vt p_1 a true
 else
  vt p_1 a (decide ((p_1.Tf.length:Int)≠(a.Tf.length:Int)))
def Gt (fu:Nat)  (p_1:List va):Option Bool :=
 (Mv fu).bind fun e =>
 if e=true then
  (bq fu p_1).bind fun c =>
  if c.2.Ue≠0 then
   some true
  else
   (dq fu c.1).bind fun d =>
   if d.2.Ue≠0 then
    some false
   else
    (Ot fu p_1).bind fun f =>
    (rn fu f).bind fun a =>
    (rn fu d.1).bind fun b =>
    if (Mi [(decide (a.2.Ue=b.2.Ue)),(decide (a.2.dd=b.2.dd))])=true then
     (Rt a.1 b.1).bind fun g =>
     some g
    else
     some false
 else
  some false
end Go.Y
namespace Go.Y
open Go.bc Go.Dc
theorem Cc {n:Int} (h:-9223372036854775808≤n∧n≤9223372036854775807):i64 n=some n:=if_pos h
theorem ca {α β:Type} {x:α} {f:α→Option β}:Option.bind (some x) f=f x:=rfl
theorem Rd {α:Type} {l:List α} {i:Nat}:at_ l (i:Int)=l[i]?:=by simp [at_]
theorem yg {α:Type} {l:List α} (h:0<l.length):at_ l 0=some l[0]:=by simp [at_,h]
theorem tC {α:Type} {l:List α} (h:1<l.length):at_ l 1=some l[1]:=by simp [at_,h]
theorem pz (c:UInt8):∃ b,uk c=some b:=by
 unfold uk
 split
 ·split <;> exact ⟨_,rfl⟩
 ·exact ⟨_,rfl⟩
theorem QD (c:UInt8):∃ b,An c=some b:=by
 unfold An
 split <;> exact ⟨_,rfl⟩
theorem gG (c:UInt8):∃ b,hl c=some b:=by
 obtain ⟨a,d⟩:=pz c
 obtain ⟨b,e⟩:=QD c
 unfold hl
 rw [d,ca,e,ca]
 split <;> exact ⟨_,rfl⟩
theorem Mz (l:List UInt8) (p:UInt8→Option Bool) (a:∀ c,∃ b,p c=some b) (qa:l.length≤65536):∀ (n i:Nat),i≤l.length→l.length<n+i→∃ r,Ej l p n (i:Int)=some r
 | 0,i,d,e=>by omega
 | n+1,i,d,e=>by
  rw [Ej]
  by_cases c:i<l.length
  ·obtain ⟨b,f⟩:=a l[i]
   rw [if_pos (by omega),Rd,List.getElem?_eq_getElem c,ca,f,ca]
   cases b with
   | true=>rw [Zl,if_pos rfl,Cc (by omega),ca]; exact Mz l p a qa n (i+1) c (by omega)
   | false=>exact ⟨_,rfl⟩
  ·rw [if_neg (by omega)]
   exact ⟨_,rfl⟩
theorem rr (fu:Nat) (i:20≤fu) (s:List UInt8):∃ b,tg fu s=some b:=by
 have a:∀ b,(b=true∨s.length≤12)→∃ r,Yj fu s b=some r:=by
  intro b c
  cases b with
  | true=>exact ⟨_,rfl⟩
  | false =>
   have j:s.length≤12:=by simpa using c
   obtain ⟨r,f⟩:=Mz s hl gG (by omega) fu 0 (by omega) (by omega)
   have g:qm fu s hl=some r:=f
   exact ⟨_,by rw [Yj,if_neg (by decide),g,ca]⟩
 rw [tg]
 by_cases d:(s.length:Int)<1
 ·rw [if_pos d]; exact a _ (.inl rfl)
 ·rw [if_neg d]
  by_cases e:(12:Int)<s.length
  ·rw [if_pos e]; exact a _ (.inl rfl)
  ·have h:0<s.length:=by omega
   obtain ⟨b,c⟩:=pz s[0]
   rw [if_neg e,yg h,ca,c,ca]
   cases b with
   | false=>rw [if_neg (by decide)]; exact a _ (.inl rfl)
   | true =>
    rw [if_pos rfl,cat,if_pos (by simp; omega),ca,cat,if_pos (by simp; omega),ca,Ds,if_pos (by decide +kernel),ca]
    exact a _ (.inr (by omega))
def jg (k:Int):Int:=if k≤3∨k=20 then 0 else if k≤5∨k=21∨k=24 then 1 else if k≤18∨k=23 then 2 else -1
theorem ix (k:Int):Bt k=some (jg k):=by
 unfold Bt jg
 by_cases a:k≤3
 ·rw [if_pos a,if_pos (.inl a)]; rfl
 ·rw [if_neg a]
  by_cases b:k=20
  ·rw [decide_eq_true b,if_pos (.inr b)]; rfl
  ·rw [decide_eq_false b,jt,if_neg (by decide),if_neg (show ¬ (k≤3∨k=20) by omega)]
   by_cases c:k≤5
   ·rw [if_pos c,if_pos (.inl c)]; rfl
   ·rw [if_neg c]
    by_cases d:k=21
    ·rw [if_pos d,if_pos (.inr (.inl d))]; rfl
    ·rw [if_neg d]
     by_cases e:k=24
     ·rw [decide_eq_true e,if_pos (.inr (.inr e))]; rfl
     ·rw [decide_eq_false e,Zq,if_neg (by decide),if_neg (show ¬ (k≤5∨k=21∨k=24) by omega)]
      by_cases f:k≤18
      ·rw [if_pos f,if_pos (.inl f)]; rfl
      ·rw [if_neg f]
       by_cases g:k=23
       ·rw [decide_eq_true g,if_pos (.inr g)]; rfl
       ·rw [decide_eq_false g,if_neg (show ¬ (k≤18∨k=23) by omega)]; rfl
theorem jx (node d:Int) (a:0≤node) (b:node≤4294967296):∃ e,cq node d=some (e,node+1)∧(e=0→node+1≤2000∧d≤40):=by
 unfold cq
 rw [Cc (by omega),ca]
 by_cases c:2000<node+1
 ·rw [if_pos c]; exact ⟨4,rfl,fun h=>absurd h (by decide)⟩
 ·rw [if_neg c]
  by_cases e:40<d
  ·rw [decide_eq_true e]; exact ⟨4,rfl,fun h=>absurd h (by decide)⟩
  ·rw [decide_eq_false e]; exact ⟨0,rfl,fun _=>⟨by omega,by omega⟩⟩
structure iy (x:ua):Prop where
 eq:0≤jg x.Kind→(x.Kids.length:Int)=jg x.Kind
 le:x.Kids.length≤6
def bh:Nat→ua→Prop
 | 0,_=>False
 | k+1,x=>1≤x.Kind∧x.Kind≤24∧iy x∧∀ y ∈ x.Kids,bh k y
def Mg:Nat→ua→Nat
 | 0,_=>0
 | k+1,x=>1+(x.Kids.map (Mg k)).sum
theorem hG (k:Int):jg k≤2:=by
 unfold jg
 split
 ·decide
 ·split
  ·decide
  ·split <;> decide
theorem RD:∀ (n:Nat) (x:ua) (d node:Int),62≤n+d→0≤d→d≤41→0≤node→node≤2000 →
  ∃ e k,(Nf n).Vg node x d=some (e,k)∧node≤k∧(e=0→k≤2000∧bh (41 - d).toNat x∧k=node+(Mg (41 - d).toNat x:Nat)):=by
 intro n
 induction n with
 | zero=>intro x d node C t u; omega
 | succ n D =>
  intro x d node C t u E Y
  show ∃ e k,Vg n (Nf n) node x d=some (e,k)∧_
  obtain ⟨b,F⟩:=rr n (by omega) x.Name
  obtain ⟨e,H,he⟩:=jx node d E (by omega)
  rw [Vg,H,ca]
  by_cases c:e=0
  ·subst c
   obtain ⟨Z,ya⟩:=he rfl
   rw [if_neg (by simp)]
   have K:(41 - d).toNat=(40 - d).toNat+1:=by omega
   rw [K]
   generalize a:(fun o:Option (Int×Int)=>∃ e k,o=some (e,k)∧node≤k∧(e=0→k≤2000∧bh ((40 - d).toNat+1) x∧k=node+(Mg ((40 - d).toNat+1) x:Nat)))=P
   have bad:∀ e:Int,e≠0→P (some (e,node+1)):=fun e h=>by rw [← a]; exact ⟨e,_,rfl,by omega,fun M=>absurd M h⟩
   have L:x.Kids.length≤6→∀ (m i:Nat) (c:Int),i≤x.Kids.length→x.Kids.length<m+i→0≤c→c≤2000 →
     ∃ e k,Vi (Nf n) x d m i c=some (e,k)∧c≤k∧(e=0→k≤2000∧(∀ y ∈ x.Kids.drop i,bh (40 - d).toNat y)∧k=c+(((x.Kids.drop i).map (Mg (40 - d).toNat)).sum:Nat)):=by
    intro qa m
    induction m with
    | zero=>intro i c t u; omega
    | succ m N =>
     intro i c g1 g2 g3 g4
     rw [Vi]
     by_cases q:i<x.Kids.length
     ·obtain ⟨e,k,sa,Q,R⟩:=D x.Kids[i] (d+1) c (by omega) (by omega) (by omega) g3 g4
      rw [if_pos (by omega),Rd,List.getElem?_eq_getElem q,ca,Cc (by omega),ca,sa,ca]
      by_cases z:e=0
      ·subst z
       obtain ⟨f1,f2,f3⟩:=R rfl
       rw [if_neg (by simp),Cc (by omega),ca]
       obtain ⟨S,T,g,V,j⟩:=N (i+1) k q (by omega) (by omega) f1
       refine ⟨S,T,g,by omega,fun l=>?_⟩
       obtain ⟨s1,s2,v⟩:=j l
       have W:(41 - (d+1)).toNat=(40 - d).toNat:=by omega
       rw [W] at f2 f3
       refine ⟨s1,fun y f=>?_,?_⟩
       ·rw [List.drop_eq_getElem_cons q] at f
        rcases List.mem_cons.1 f with rfl | f
        ·exact f2
        ·exact s2 y f
       ·rw [List.drop_eq_getElem_cons q,List.map_cons,List.sum_cons]
        omega
      ·rw [if_pos z]
       exact ⟨e,k,rfl,Q,fun h=>absurd h z⟩
     ·rw [if_neg (by omega),List.drop_eq_nil_of_le (by omega)]
      exact ⟨0,c,rfl,by omega,fun _=>⟨g4,by simp,by simp⟩⟩
   by_cases Ce:1≤x.Kind∧x.Kind≤24
   ·have p:∀ b,(b=false→iy x)→P (Al (Nf n) x d (0,node+1) b):=by
     intro b h
     cases b with
     | true=>exact bad 5 (by decide)
     | false =>
      have w:=h rfl
      rw [Al,if_neg (by decide),← a]
      obtain ⟨e,k,g,V,j⟩:=L w.le (x.Kids.length+1) 0 (node+1) (by omega) (by omega) (by omega) (by omega)
      refine ⟨e,k,g,by omega,fun l=>?_⟩
      obtain ⟨s1,s2,v⟩:=j l
      rw [List.drop_zero] at s2 v
      exact ⟨s1,⟨Ce.1,Ce.2,w,s2⟩,by rw [Mg]; omega⟩
    have gc:=hG x.Kind
    have A:∀ b,(b=false→0≤jg x.Kind→(x.Kids.length:Int)=jg x.Kind)→P (Bl (Nf n) x d (0,node+1) (jg x.Kind) b):=by
     intro b h
     cases b with
     | true=>rw [Bl,if_pos rfl]; exact p _ (fun h=>absurd h (by decide))
     | false =>
      rw [Bl,if_neg (by decide)]
      by_cases q:jg x.Kind<0
      ·rw [if_pos q]
       exact p _ fun ya=>⟨h rfl,by have:=of_decide_eq_false ya; omega⟩
      ·rw [if_neg q]
       exact p _ fun _=>⟨h rfl,by have:=h rfl (by omega); omega⟩
    have r:∀ b,P (sk (Nf n) x d (0,node+1) (jg x.Kind) b):=by
     intro b
     cases b with
     | true=>exact bad 7 (by decide)
     | false =>
      rw [sk,if_neg (by decide)]
      by_cases q:0≤jg x.Kind
      ·rw [if_pos q]
       exact A _ fun ya _=>by have:=of_decide_eq_false ya; omega
      ·rw [if_neg q]
       exact A _ fun _ h=>absurd h q
    have s:∀ b,P (Qk n (Nf n) x d (0,node+1) (jg x.Kind) b):=by
     intro re
     cases re with
     | true=>exact bad 3 (by decide)
     | false =>
      rw [Qk,if_neg (by decide),F]
      simp only [ca]
      split
      ·exact r _
      ·split
       ·exact r _
       ·split <;> exact r _
    have B:∀ b,P (Cl n (Nf n) x d (0,node+1) (jg x.Kind) b):=by
     intro re
     unfold Cl
     split
     ·exact s _
     ·split
      ·split <;> exact s _
      ·exact s _
    have X:∀ b,P (Zj n (Nf n) x d (0,node+1) b):=by
     intro re
     cases re with
     | true=>exact bad 1 (by decide)
     | false =>
      rw [Zj,if_neg (by decide),ix,ca]
      split
      ·split <;> exact B _
      ·exact B _
    have G:P (if x.Kind<1 then Zj n (Nf n) x d (0,node+1) true else Zj n (Nf n) x d (0,node+1) (decide ((24:Int)<x.Kind))):=by
     split <;> exact X _
    rw [← a] at G
    exact G
   ·have G:P (if x.Kind<1 then Zj n (Nf n) x d (0,node+1) true else Zj n (Nf n) x d (0,node+1) (decide ((24:Int)<x.Kind))):=by
     split
     ·exact bad 1 (by decide)
     ·rw [decide_eq_true (show 24<x.Kind by omega)]
      exact bad 1 (by decide)
    rw [← a] at G
    exact G
  ·rw [if_pos c]
   exact ⟨e,_,rfl,by omega,fun h=>absurd h c⟩
def Bj:Nat→Wa→Prop
 | 0,_=>False
 | k+1,s=>1≤s.Kind∧s.Kind≤9∧(s.Kind≠6→bh k s.X)∧((s.Kind=3∨s.Kind=4)→s.Body.length≤50∧∀ y ∈ s.Body,Bj k y)∧(s.Kind=3→s.jd.length≤50∧∀ y ∈ s.jd,Bj k y)
def we:Nat→Wa→Nat
 | 0,_=>0
 | k+1,s=>1+(if s.Kind=6 then 0 else Mg k s.X)+(if s.Kind=3∨s.Kind=4 then (s.Body.map (we k)).sum else 0)+(if s.Kind=3 then (s.jd.map (we k)).sum else 0)
theorem SD:∀ (n:Nat),(∀ (l:List Wa) (d node:Int),2*(42 - d)+65≤n→0≤d→d≤41→0≤node→node≤2000 →
   ∃ e k,(Of n).Xf node l d=some (e,k)∧node≤k∧(e=0→k≤2000∧(l.length≤50∧∀ y ∈ l,Bj (41 - d).toNat y)∧k=node+((l.map (we (41 - d).toNat)).sum:Nat))) ∧
  (∀ (x:Wa) (d node:Int),2*(42 - d)+64≤n→0≤d→d≤41→0≤node→node≤2000 →
   ∃ e k,(Of n).Wh node x d=some (e,k)∧node≤k∧(e=0→k≤2000∧Bj (41 - d).toNat x∧k=node+(we (41 - d).toNat x:Nat))):=by
 intro n
 induction n with
 | zero=>exact ⟨fun l d node D s t=>by omega,fun l d node D s t=>by omega⟩
 | succ n Q =>
  obtain ⟨R,S⟩:=Q
  refine ⟨fun l d node D s t j F=>?_,fun x d node D s t j F=>?_⟩
  ·show ∃ e k,Xf (Of n) node l d=some (e,k)∧_
   rw [Xf]
   by_cases qa:(50:Int)<l.length
   ·rw [if_pos qa]; exact ⟨5,node,rfl,by omega,fun h=>absurd h (by decide)⟩
   ·rw [if_neg qa]
    have L:∀ (m i:Nat) (c:Int),i≤l.length→l.length<m+i→0≤c→c≤2000 →
      ∃ e k,Xl (Of n) l d m i c=some (e,k)∧c≤k∧(e=0→k≤2000∧(∀ y ∈ l.drop i,Bj (41 - d).toNat y)∧k=c+(((l.drop i).map (we (41 - d).toNat)).sum:Nat)):=by
     intro m
     induction m with
     | zero=>intro i c s t; omega
     | succ m T =>
      intro i c g1 g2 g3 g4
      rw [Xl]
      by_cases q:i<l.length
      ·obtain ⟨e,k,sa,V,W⟩:=S l[i] d c (by omega) s t g3 g4
       rw [if_pos (by omega),Rd,List.getElem?_eq_getElem q,ca,sa,ca]
       by_cases z:e=0
       ·subst z
        obtain ⟨f1,f2,f3⟩:=W rfl
        rw [if_neg (by simp),Cc (by omega),ca]
        obtain ⟨Y,Z,g,u,f⟩:=T (i+1) k q (by omega) (by omega) f1
        refine ⟨Y,Z,g,by omega,fun v=>?_⟩
        obtain ⟨s1,s2,p⟩:=f v
        refine ⟨s1,fun y C=>?_,?_⟩
        ·rw [List.drop_eq_getElem_cons q] at C
         rcases List.mem_cons.1 C with rfl | C
         ·exact f2
         ·exact s2 y C
        ·rw [List.drop_eq_getElem_cons q,List.map_cons,List.sum_cons]
         omega
       ·rw [if_pos z]
        exact ⟨e,k,rfl,V,fun h=>absurd h z⟩
      ·rw [if_neg (by omega),List.drop_eq_nil_of_le (by omega)]
       exact ⟨0,c,rfl,by omega,fun _=>⟨g4,by simp,by simp⟩⟩
    obtain ⟨e,k,g,u,f⟩:=L (l.length+1) 0 node (by omega) (by omega) j F
    refine ⟨e,k,g,u,fun v=>?_⟩
    obtain ⟨s1,s2,p⟩:=f v
    rw [List.drop_zero] at s2 p
    exact ⟨s1,⟨by omega,s2⟩,p⟩
  ·show ∃ e k,Wh n (Of n) node x d=some (e,k)∧_
   obtain ⟨b,lc⟩:=rr n (by omega) x.Name
   obtain ⟨e,rc,he⟩:=jx node d j (by omega)
   rw [Wh,rc,ca]
   by_cases c:e=0
   ·subst c
    obtain ⟨wd,ya⟩:=he rfl
    rw [if_neg (by simp)]
    have fd:(41 - d).toNat=(40 - d).toNat+1:=by omega
    have H:(41 - (d+1)).toNat=(40 - d).toNat:=by omega
    rw [fd]
    generalize w:(fun o:Option (Int×Int)=>∃ e k,o=some (e,k)∧node≤k∧(e=0→k≤2000∧Bj ((40 - d).toNat+1) x∧k=node+(we ((40 - d).toNat+1) x:Nat)))=P
    have bad:∀ e c:Int,e≠0→node≤c→P (some (e,c)):=fun e c h K=>by rw [← w]; exact ⟨e,_,rfl,K,fun id=>absurd id h⟩
    have kids:=fun (l:List Wa) (c:Int) (K:node≤c) (md:c≤2000)=>R l (d+1) c (by omega) (by omega) (by omega) (by omega) md
    rw [H] at kids
    have G:P (if x.Kind<1 then Rk n (Of n) x d (0,node+1) true else Rk n (Of n) x d (0,node+1) (decide ((9:Int)<x.Kind))):=by
     by_cases Ce:1≤x.Kind∧x.Kind≤9
     ·have M:∀ (c:Int),node≤c→c≤2000→x.Kind≠6→bh (40 - d).toNat x.X→((x.Kind=3∨x.Kind=4)→x.Body.length≤50∧∀ y ∈ x.Body,Bj (40 - d).toNat y) →
        c=node+1+(Mg (40 - d).toNat x.X:Nat)+((if x.Kind=3∨x.Kind=4 then (x.Body.map (we (40 - d).toNat)).sum else 0:Nat):Int)→P (cm (Of n) x d c):=by
       intro c g1 g2 a A r gc
       rw [cm]
       by_cases B:x.Kind=3
       ·obtain ⟨e,k,g,u,f⟩:=kids x.jd c g1 g2
        rw [if_pos B,Cc (by omega),ca,g,ca]
        rw [← w]
        refine ⟨e,k,rfl,by omega,fun v=>?_⟩
        obtain ⟨s1,s2,p⟩:=f v
        refine ⟨s1,⟨Ce.1,Ce.2,fun _=>A,r,fun _=>s2⟩,?_⟩
        rw [we,if_neg a,if_pos B]
        omega
       ·rw [if_neg B,← w]
        refine ⟨0,c,rfl,g1,fun _=>⟨g2,⟨Ce.1,Ce.2,fun _=>A,r,fun h=>absurd h B⟩,?_⟩⟩
        rw [we,if_neg a,if_neg B]
        omega
      have N:∀ (c:Int) b,node≤c→c≤2000→x.Kind≠6→bh (40 - d).toNat x.X→(b=true ↔ x.Kind=3∨x.Kind=4)→c=node+1+(Mg (40 - d).toNat x.X:Nat)→P (dm (Of n) x d (0,c) b):=by
       intro c b g1 g2 a A r gc
       rw [dm]
       by_cases q:b=true
       ·obtain ⟨e,k,g,u,f⟩:=kids x.Body c g1 g2
        rw [if_pos q,Cc (by omega),ca,g,ca]
        by_cases z:e=0
        ·subst z
         obtain ⟨s1,s2,p⟩:=f rfl
         rw [if_neg (by simp)]
         exact M k (by omega) s1 a A (fun _=>s2) (by rw [if_pos (r.1 q)]; omega)
        ·rw [if_pos z]
         exact bad e k z (by omega)
       ·rw [if_neg q]
        exact M c g1 g2 a A (fun h=>absurd (r.2 h) q) (by rw [if_neg fun h=>q (r.2 h)]; omega)
      have E:∀ b,P (tk n (Of n) x d (0,node+1) b):=by
       intro b
       cases b with
       | true=>exact bad 7 _ (by decide) (by omega)
       | false =>
        rw [tk,if_neg (by decide)]
        by_cases a:x.Kind=6
        ·rw [if_pos a,← w]
         refine ⟨0,node+1,rfl,by omega,fun _=>⟨by omega,⟨Ce.1,Ce.2,fun h=>absurd a h,fun h=>by omega,fun h=>by omega⟩,?_⟩⟩
         rw [we,if_pos a,if_neg (by omega),if_neg (by omega)]
         omega
        ·obtain ⟨e,k,g,u,f⟩:=RD n x.X (d+1) (node+1) (by omega) (by omega) (by omega) (by omega) (by omega)
         rw [H] at f
         rw [if_neg a,Cc (by omega),ca,g,ca]
         by_cases z:e=0
         ·subst z
          obtain ⟨s1,s2,p⟩:=f rfl
          rw [if_neg (by simp)]
          split
          ·rename_i j
           exact N k true (by omega) s1 a s2 (by simp [j]) (by omega)
          ·rename_i j
           exact N k _ (by omega) s1 a s2 (by simp [j]) (by omega)
         ·rw [if_pos z]
          exact bad e k z (by omega)
      have rd:∀ b,P (Rk n (Of n) x d (0,node+1) b):=by
       intro re
       cases re with
       | true=>exact bad 1 _ (by decide) (by omega)
       | false =>
        rw [Rk,if_neg (by decide),lc]
        simp only [ca]
        split
        ·exact E _
        ·split
         ·exact E _
         ·split <;> exact E _
      split <;> exact rd _
     ·split
      ·exact bad 1 _ (by decide) (by omega)
      ·rw [decide_eq_true (show 9<x.Kind by omega)]
       exact bad 1 _ (by decide) (by omega)
    rw [← w] at G
    exact G
   ·rw [if_pos c]
    exact ⟨e,_,rfl,by omega,fun h=>absurd h c⟩
def Jk (t:Ya):Prop:=1≤t.Kind∧t.Kind≤3
theorem Dv (fu:Nat) (a:20≤fu) (t:Ya):∃ e,Yk fu t=some e∧(e=0→Jk t):=by
 obtain ⟨b,d⟩:=rr fu a t.Nb
 rw [Yk]
 by_cases c:1≤t.Kind∧t.Kind≤3
 ·rw [if_neg (by omega),decide_eq_false (by omega),Im,if_neg (by decide),d]
  simp only [ca]
  have:∀ b,∃ e,ot b=some e:=fun b=>by cases b <;> exact ⟨_,rfl⟩
  split
  ·obtain ⟨e,he⟩:=this (!b); exact ⟨e,he,fun _=>c⟩
  ·obtain ⟨e,he⟩:=this false; exact ⟨e,he,fun _=>c⟩
 ·split
  ·exact ⟨1,rfl,fun h=>absurd h (by decide)⟩
  ·rw [decide_eq_true (show 3<t.Kind by omega)]
   exact ⟨1,rfl,fun h=>absurd h (by decide)⟩
structure Tl (x:va):Prop where
 k1:1≤x.Kind
 Af:x.Kind≤4
 cg:x.Kind=2∨x.Kind=3→x.Params.length≤6∧∀ p ∈ x.Params,Jk p.zb
 Mh:x.Kind=3→Jk x.Hc
 ty:x.Kind≠4→Jk x.zb
 Kd:x.Kind≠1→x.Body.length≤50
 Rf:x.Kind≠1→∀ y ∈ x.Body,Bj 39 y
def Nk (x:va):Nat:=1+if x.Kind≠1 then (x.Body.map (we 39)).sum else 0
theorem HE (fu:Nat) (N:200≤fu) (x:va) (node:Int) (u:0≤node) (Q:node≤2000):∃ e k,xm fu node x=some (e,k)∧node≤k∧(e=0→k≤2000∧Tl x∧k=node+(Nk x:Nat)):=by
 obtain ⟨b,v⟩:=rr fu (by omega) x.Name
 obtain ⟨e,w,he⟩:=jx node 1 u (by omega)
 rw [xm,w,ca]
 by_cases c:e=0
 ·subst c
  obtain ⟨R,ya⟩:=he rfl
  rw [if_neg (by simp)]
  generalize j:(fun o:Option (Int×Int)=>∃ e k,o=some (e,k)∧node≤k∧(e=0→k≤2000∧Tl x∧k=node+(Nk x:Nat)))=P
  have bad:∀ e c:Int,e≠0→node≤c→P (some (e,c)):=fun e c h y=>by rw [← j]; exact ⟨e,_,rfl,y,fun A=>absurd A h⟩
  have G:P (if x.Kind<1 then Tk fu x (0,node+1) true else Tk fu x (0,node+1) (decide ((4:Int)<x.Kind))):=by
   by_cases Ce:1≤x.Kind∧x.Kind≤4
   ·have n:(x.Kind=2∨x.Kind=3→x.Params.length≤6∧∀ p ∈ x.Params,Jk p.zb)→(x.Kind=3→Jk x.Hc)→(x.Kind≠4→Jk x.zb)→P (im fu x (0,node+1)):=by
     intro g1 g2 g3
     rw [im]
     by_cases k1:x.Kind=1
     ·rw [if_neg (by simpa using k1)]
      have B:∀ b,P (tr (0,node+1) b):=by
       intro b
       cases b with
       | true=>exact bad 3 _ (by decide) (by omega)
       | false =>
        rw [← j]
        exact ⟨0,node+1,rfl,by omega,fun _=>⟨by omega,⟨Ce.1,Ce.2,g1,g2,g3,fun h=>absurd k1 h,fun h=>absurd k1 h⟩,by rw [Nk,if_neg (by simpa using k1)]; omega⟩⟩
      split <;> exact B _
     ·obtain ⟨e,k,C,S,D⟩:=(SD fu).1 x.Body 2 (node+1) (by omega) (by omega) (by omega) (by omega) (by omega)
      rw [if_pos k1,C,ca,← j]
      refine ⟨e,k,rfl,by omega,fun E=>?_⟩
      obtain ⟨s1,s2,F⟩:=D E
      exact ⟨s1,⟨Ce.1,Ce.2,g1,g2,g3,fun _=>s2.1,fun _=>s2.2⟩,by rw [Nk,if_pos k1]; rw [show (41 - (2:Int)).toNat=39 from rfl] at F; omega⟩
    have r:(x.Kind=2∨x.Kind=3→x.Params.length≤6∧∀ p ∈ x.Params,Jk p.zb)→(x.Kind=3→Jk x.Hc)→P (jm fu x (0,node+1)):=by
     intro g1 g2
     rw [jm]
     by_cases Af:x.Kind=4
     ·rw [if_neg (by simpa using Af)]
      exact n g1 g2 fun h=>absurd Af h
     ·obtain ⟨e,d,a⟩:=Dv fu (by omega) x.zb
      rw [if_pos Af,d,ca]
      by_cases z:e=0
      ·rw [if_neg (by simpa using z)]; exact n g1 g2 fun _=>a z
      ·rw [if_pos z]; exact bad e _ z (by omega)
    have s:(x.Kind=2∨x.Kind=3→x.Params.length≤6∧∀ p ∈ x.Params,Jk p.zb)→P (Sk fu x (0,node+1)):=by
     intro g1
     rw [Sk]
     by_cases l:x.Kind=3
     ·obtain ⟨e,d,a⟩:=Dv fu (by omega) x.Hc
      rw [if_pos l,d,ca]
      by_cases z:e=0
      ·rw [if_neg (by simpa using z)]; exact r g1 fun _=>a z
      ·rw [if_pos z]; exact bad e _ z (by omega)
     ·rw [if_neg l]
      exact r g1 fun h=>absurd h l
    have L:x.Params.length≤6→∀ (m i:Nat),i≤x.Params.length→x.Params.length<m+i→(∀ p ∈ x.Params.take i,Jk p.zb)→P (km fu x (0,node+1) m i):=by
     intro qa m
     induction m with
     | zero=>intro i d a; omega
     | succ m H =>
      intro i g1 g2 g3
      rw [km]
      by_cases q:i<x.Params.length
      ·obtain ⟨re,K⟩:=rr fu (by omega) x.Params[i].Name
       obtain ⟨e,d,a⟩:=Dv fu (by omega) x.Params[i].zb
       rw [if_pos (by omega),Rd,List.getElem?_eq_getElem q,ca,K,ca]
       cases re with
       | false=>rw [if_neg (by decide)]; exact bad 7 _ (by decide) (by omega)
       | true =>
        rw [if_pos rfl,d,ca]
        by_cases z:e=0
        ·rw [if_neg (by simpa using z),Cc (by omega),ca]
         refine H (i+1) q (by omega) fun p f=>?_
         rw [List.take_succ_eq_append_getElem q] at f
         rcases List.mem_append.1 f with f | f
         ·exact g3 p f
         ·rw [List.mem_singleton.1 f]; exact a z
        ·rw [if_pos z]; exact bad e _ z (by omega)
      ·rw [if_neg (by omega)]
       rw [List.take_of_length_le (by omega)] at g3
       exact s fun _=>⟨qa,g3⟩
    have t:∀ b,(b=true ↔ x.Kind=2∨x.Kind=3)→P (mm fu x (0,node+1) b):=by
     intro b g
     rw [mm]
     by_cases q:b=true
     ·rw [if_pos q]
      by_cases qa:(6:Int)<x.Params.length
      ·rw [if_pos qa]; exact bad 5 _ (by decide) (by omega)
      ·rw [if_neg qa]
       exact L (by omega) (x.Params.length+1) 0 (by omega) (by omega) (by simp)
     ·rw [if_neg q]
      exact s fun h=>absurd (g.2 h) q
    have M:∀ b,P (Tk fu x (0,node+1) b):=by
     intro re
     cases re with
     | true=>exact bad 1 _ (by decide) (by omega)
     | false =>
      rw [Tk,if_neg (by decide),v,ca]
      cases b with
      | false=>rw [if_neg (by decide)]; exact bad 7 _ (by decide) (by omega)
      | true =>
       rw [if_pos rfl]
       split
       ·rename_i a; exact t _ (by simp [a])
       ·rename_i a; exact t _ (by simp [a])
    split <;> exact M _
   ·split
    ·exact bad 1 _ (by decide) (by omega)
    ·rw [decide_eq_true (show 4<x.Kind by omega)]
     exact bad 1 _ (by decide) (by omega)
  rw [← j] at G
  exact G
 ·rw [if_pos c]
  exact ⟨e,_,rfl,by omega,fun h=>absurd h c⟩
structure Iw (l:List va):Prop where
 le:l.length≤30
 ok:∀ d ∈ l,Tl d
 n:(l.map Nk).sum≤2000
theorem kt (fu:Nat) (b:200≤fu) (l:List va):∃ f,Fj fu l=some f∧(f.Ue=0→f.dd=0∧Iw l):=by
 rw [Fj]
 by_cases qa:(30:Int)<l.length
 ·rw [if_pos qa]; exact ⟨_,rfl,fun h=>absurd h (by decide:(5:Int)≠0)⟩
 ·rw [if_neg qa]
  have L:∀ (m i:Nat) (c:Int),i≤l.length→l.length<m+i→0≤c→c≤2000→(∀ d ∈ l.take i,Tl d)→c=(((l.take i).map Nk).sum:Nat)→∃ f,Yl fu l m i c=some f∧(f.Ue=0→f.dd=0∧Iw l):=by
   intro m
   induction m with
   | zero=>intro i c n o; omega
   | succ m g =>
    intro i c g1 g2 g3 g4 g5 g6
    rw [Yl]
    by_cases q:i<l.length
    ·obtain ⟨e,k,sa,r,j⟩:=HE fu b l[i] c g3 g4
     rw [if_pos (by omega),Rd,List.getElem?_eq_getElem q,ca,sa,ca]
     by_cases z:e=0
     ·subst z
      obtain ⟨f1,f2,f3⟩:=j rfl
      rw [if_neg (by simp),Cc (by omega),ca]
      refine g (i+1) k q (by omega) (by omega) f1 (fun p a=>?_) ?_
      ·rw [List.take_succ_eq_append_getElem q] at a
       rcases List.mem_append.1 a with a | a
       ·exact g5 p a
       ·rw [List.mem_singleton.1 a]; exact f2
      ·rw [List.take_succ_eq_append_getElem q,List.map_append,List.sum_append,List.map_cons,List.map_nil,List.sum_cons,List.sum_nil]
       omega
     ·rw [if_pos z]
      exact ⟨_,rfl,fun h=>absurd h z⟩
    ·rw [if_neg (by omega)]
     rw [List.take_of_length_le (by omega)] at g5 g6
     exact ⟨_,rfl,fun _=>⟨rfl,by omega,g5,by omega⟩⟩
  exact L (l.length+1) 0 0 (by omega) (by omega) (by omega) (by omega) (by simp) (by simp)
end Go.Y
namespace Go.Y
open Go.bc Go.Dc
abbrev Ug:=List (List (List UInt8×Ya))
def hg (t:Ya):Ya:=if t.Kind≠3 then ⟨t.Kind,[]⟩ else t
theorem Hm (t:Ya):Km t=some (decide (t.Kind≠3)):=rfl
theorem gm (t:Ya):xn t=some (hg t):=by
 rw [xn,Hm,ca,hg]
 by_cases c:t.Kind≠3
 ·rw [decide_eq_true c,if_pos rfl,if_pos c]; rfl
 ·rw [decide_eq_false c,if_neg (by decide),if_neg c]; rfl
def bn (o:Option va) (k:Int):Bool:=match o with | some d=>decide (d.Kind=k) | none=>false
theorem Up (p:Zb) (kind:Int) (name:List UInt8):qp p kind name=some (vb p.named name,bn (vb p.named name) kind):=by
 rw [qp]
 cases h:vb p.named name with
 | none=>rfl
 | some d=>rfl
theorem pq {o:Option va} {k:Int} (h:bn o k=true):∃ d,o=some d∧d.Kind=k:=by
 cases o with
 | none=>cases h
 | some d=>exact ⟨d,rfl,of_decide_eq_true h⟩
def Ni (p:Zb) (t:Ya):Prop:=t.Kind=3→∃ d,vb p.named t.Nb=some d∧d.Kind=3
theorem Ni.bare {p:Zb} {t:Ya} (h:Ni p t):Ni p (hg t):=by
 unfold hg
 split
 ·rename_i c; exact fun a=>absurd a c
 ·exact h
theorem Ni.of {p:Zb} {t:Ya} (h:t.Kind≠3):Ni p t:=fun a=>absurd a h
theorem wo {t:Ya}:(hg t).Kind=t.Kind:=by
 unfold hg
 split <;> rfl
structure cl (p:Zb) (d:va):Prop where
 ty:d.Kind≠4→d.zb.Kind≠3
 Mh:d.Kind=3→d.Hc.Kind≠3
 cg:d.Kind=2∨d.Kind=3→∀ q ∈ d.Params,Ni p q.zb
 pl:d.Kind=2∨d.Kind=3→d.Params.length≤6
def Py (p:Zb):Prop:=∀ k d,vb p.named k=some d→cl p d
def Ek (p:Zb) (B:Ug):Prop:=∀ m ∈ B,∀ k t,vb m k=some t→Ni p t
structure vl (p:Zb) (d:va) (B:Ug):Prop where
 fo:Py p
 ya:cl p d
 mg:Ek p B
 Kd:B.length≤100
theorem dx {p:Zb} {B:Ug} (a:Ek p B) (qa:B.length≤100) (fu:Nat) (i:110≤fu) (d:va) (name:List UInt8):∃ t b,xo fu p d B name=some (t,b)∧(b=true→Ni p t):=by
 have L:∀ (n j:Nat),j≤B.length→j<n→∃ t b,Vo name B n ((j:Int) - 1)=some (t,b)∧(b=true→Ni p t):=by
  intro n
  induction n with
  | zero=>intro j c f; omega
  | succ n g =>
   intro j c f
   rw [Vo]
   cases j with
   | zero=>rw [if_neg (by omega)]; exact ⟨_,_,rfl,by simp⟩
   | succ j =>
    have e:((j+1:Nat):Int) - 1=(j:Int):=by omega
    rw [e,if_pos (by omega),Rd,List.getElem?_eq_getElem (show j<B.length by omega),ca]
    cases h:vb B[j] name with
    | none =>
     rw [if_neg (by simp),Cc (by omega),ca]
     exact g j (by omega) (by omega)
    | some t=>exact ⟨t,true,rfl,fun _=>a _ (List.getElem_mem _) _ _ h⟩
 rw [xo,Cc (by omega),ca]
 exact L fu B.length (by omega) (by omega)
def Calls (p:Zb):Nat→ua→Prop
 | 0,_=>False
 | k+1,x=>(x.Kind=19→∃ d,vb p.named x.Name=some d∧d.Kind=2)∧(x.Kind=22→∃ d,vb p.named x.Name=some d∧d.Kind=3)∧(x.Kind=20→∃ d,vb p.named x.Name=some d∧d.Kind=1)∧∀ y ∈ x.Kids,Calls p k y
theorem two {α:Type} {l:List α} (h:l.length=2):∃ a b,l=[a,b]:=by
 match l,h with
 | [a,b],_=>exact ⟨a,b,rfl⟩
theorem one {α:Type} {l:List α} (h:l.length=1):∃ a,l=[a]:=by
 match l,h with
 | [a],_=>exact ⟨a,rfl⟩
structure fI (n:Nat):Prop where
 typed:∀ (k:Nat) (p:Zb) (d:va) (B:Ug) (x:ua) (t:Ya),vl p d B→bh k x→3*k+111≤n→∃ e,(Sf n).Ng p d B x t=some e∧(e=0→Calls p k x)
 args:∀ (k:Nat) (p:Zb) (d:va) (B:Ug) (x:ua) (kind:Int),vl p d B→(∀ y ∈ x.Kids,bh k y)→x.Kids.length≤6→(kind=2∨kind=3)→3*k+112≤n →
  ∃ c e,(Sf n).dk p d B x kind=some (c,e)∧(e=0→∃ f,c=some f∧vb p.named x.Name=some f∧f.Kind=kind∧∀ y ∈ x.Kids,Calls p k y)
 both:∀ (k:Nat) (p:Zb) (d:va) (B:Ug) (x a b:ua),vl p d B→x.Kids=[a,b]→bh k a→bh k b→3*k+112≤n→∃ t e,(Sf n).Vk p d B x=some (t,e)∧(e=0→Calls p k a∧Calls p k b)
 handle:∀ (k:Nat) (p:Zb) (d:va) (B:Ug) (x:ua),vl p d B→bh k x→3*k+112≤n→∃ c e,(Sf n).ak p d B x=some (c,e)∧(e=0→(∃ f g,c=some f∧vb p.named g=some f∧f.Kind=3)∧Calls p k x)
 expr:∀ (k:Nat) (p:Zb) (d:va) (B:Ug) (x:ua),vl p d B→bh k x→3*k+110≤n→∃ t e,(Sf n).Gh p d B x=some (t,e)∧(e=0→Ni p t∧Calls p k x)
theorem Ku (r:Ya×Int) (b:Bool):ct r b=some (if b=true then 9 else r.2):=by cases b <;> rfl
theorem Mu (r s:Ya×Int) (b:Bool):Xo r s b=some (r.1,if b=true then 9 else s.2):=by cases b <;> rfl
theorem RB:∀ n,fI n:=by
 intro n
 induction n with
 | zero=>exact ⟨fun _ _ _ _ _ _ _ _ h=>by omega,fun _ _ _ _ _ _ _ _ _ _ h=>by omega,fun _ _ _ _ _ _ _ _ _ _ _ h=>by omega,fun _ _ _ _ _ _ _ h=>by omega,fun _ _ _ _ _ _ _ h=>by omega⟩
 | succ n u =>
  refine ⟨fun k p d B x t H A Q=>?_,fun k p d B x kind H A qa E Q=>?_,fun k p d B x a b H A j N Q=>?_,fun k p d B x H A Q=>?_,fun k p d B x H A Q=>?_⟩
  ·show ∃ e,Ng (Sf n) p d B x t=some e∧_
   obtain ⟨ld,e,r,o⟩:=u.expr k p d B x H A (by omega)
   rw [Ng,r,ca]
   by_cases z:e=0
   ·rw [if_pos z,gm,ca,Ku]
    exact ⟨_,rfl,fun _=>(o z).2⟩
   ·rw [if_neg z,Ku]
    exact ⟨e,rfl,fun h=>absurd h z⟩
  ·show ∃ v e,dk (Sf n) p d B x kind=some (v,e)∧_
   rw [dk,Up,ca]
   by_cases c:bn (vb p.named x.Name) kind=true
   ·obtain ⟨f,K,V⟩:=pq c
    rw [if_pos c,K]
    simp only [ca]
    have wd:=H.fo _ _ K
    have be:=wd.pl (by omega)
    by_cases q:(f.Params.length:Int)≠x.Kids.length
    ·rw [decide_eq_true q]; exact ⟨none,5,rfl,fun h=>absurd h (by decide)⟩
    ·rw [decide_eq_false q,et,if_neg (by decide)]
     simp only [ca]
     have L:∀ (m i:Nat),i≤f.Params.length→f.Params.length<m+i→∃ v e,Wo (Sf n) x p d B (some f,bn (some f) kind) f m i=some (v,e)∧(e=0→v=some f∧∀ y ∈ x.Kids.drop i,Calls p k y):=by
      intro m
      induction m with
      | zero=>intro i r o; omega
      | succ m W =>
       intro i r o
       rw [Wo]
       by_cases c:i<f.Params.length
       ·have rc:i<x.Kids.length:=by omega
        obtain ⟨e,sa,w⟩:=u.typed k p d B x.Kids[i] f.Params[i].zb H (A _ (List.getElem_mem _)) (by omega)
        rw [if_pos (by omega),Rd,List.getElem?_eq_getElem c,ca,Rd,List.getElem?_eq_getElem rc,ca,sa,ca]
        by_cases z:e=0
        ·rw [if_neg (by simpa using z),Cc (by omega),ca]
         obtain ⟨v,P,F,D⟩:=W (i+1) c (by omega)
         refine ⟨v,P,F,fun s=>⟨(D s).1,fun y C=>?_⟩⟩
         rw [List.drop_eq_getElem_cons rc] at C
         rcases List.mem_cons.1 C with rfl | C
         ·exact w z
         ·exact (D s).2 y C
        ·rw [if_pos z]; exact ⟨none,e,rfl,fun h=>absurd h z⟩
       ·rw [if_neg (by omega),List.drop_eq_nil_of_le (by omega)]
        exact ⟨some f,0,rfl,fun _=>⟨rfl,by simp⟩⟩
     obtain ⟨v,e,F,D⟩:=L (f.Params.length+1) 0 (by omega) (by omega)
     refine ⟨v,e,F,fun s=>?_⟩
     obtain ⟨s1,s2⟩:=D s
     rw [List.drop_zero] at s2
     exact ⟨f,s1,rfl,V,s2⟩
   ·rw [if_neg c]
    exact ⟨none,7,rfl,fun h=>absurd h (by decide)⟩
  ·show ∃ t e,Vk (Sf n) p d B x=some (t,e)∧_
   obtain ⟨t1,sa,r,o⟩:=u.expr k p d B a H j (by omega)
   obtain ⟨t2,w,g1,g2⟩:=u.expr k p d B b H N (by omega)
   have k0:at_ x.Kids 0=some a:=by rw [A]; rfl
   have k1:at_ x.Kids 1=some b:=by rw [A]; rfl
   rw [Vk,k0,ca,r,ca]
   by_cases z:sa=0
   ·rw [if_neg (by simpa using z),k1,ca,g1,ca]
    by_cases z2:w=0
    ·have fin:∀ re,∃ t e,Xo (t1,sa) (t2,w) re=some (t,e)∧(e=0→Calls p k a∧Calls p k b):=fun re=>by rw [Mu]; exact ⟨_,_,rfl,fun _=>⟨(o z).2,(g2 z2).2⟩⟩
     rw [if_pos z2]
     split
     ·rw [Hm,ca]; exact fin _
     ·exact fin _
    ·rw [if_neg z2,Mu]
     exact ⟨_,w,rfl,fun h=>absurd h z2⟩
   ·rw [if_pos z]
    exact ⟨_,sa,rfl,fun h=>absurd h z⟩
  ·show ∃ v e,ak (Sf n) p d B x=some (v,e)∧_
   obtain ⟨t,e,r,o⟩:=u.expr k p d B x H A (by omega)
   rw [ak,r,ca]
   by_cases z:e=0
   ·rw [if_neg (by simpa using z),Hm,ca]
    by_cases q:t.Kind≠3
    ·rw [if_pos (decide_eq_true q)]; exact ⟨none,9,rfl,fun h=>absurd h (by decide)⟩
    ·obtain ⟨f,f1,f2⟩:=(o z).1 (Decidable.not_not.1 q)
     rw [if_neg (by simpa using q)]
     exact ⟨_,0,rfl,fun _=>⟨⟨f,t.Nb,f1,f1,f2⟩,(o z).2⟩⟩
   ·rw [if_pos z]
    exact ⟨none,e,rfl,fun h=>absurd h z⟩
  ·show ∃ t e,Gh n (Sf n) p d B x=some (t,e)∧_
   cases k with
   | zero=>cases A
   | succ k =>
   obtain ⟨k1,ce,E,M⟩:=A
   have R:jg x.Kind=1→∃ a,x.Kids=[a]∧bh k a:=fun h=>by
    obtain ⟨a,j⟩:=one (l:=x.Kids) (by have:=E.eq (by omega); omega)
    exact ⟨a,j,M a (by simp [j])⟩
   have fd:jg x.Kind=2→∃ a b,x.Kids=[a,b]∧bh k a∧bh k b:=fun h=>by
    obtain ⟨a,b,j⟩:=two (l:=x.Kids) (by have:=E.eq (by omega); omega)
    exact ⟨a,b,j,M a (by simp [j]),M b (by simp [j])⟩
   have S:jg x.Kind=0→x.Kids=[]:=fun h=>List.length_eq_zero_iff.1 (by have:=E.eq (by omega); omega)
   have Aa:x.Kind≠19→x.Kind≠20→x.Kind≠22→(∀ y ∈ x.Kids,Calls p k y)→Calls p (k+1) x:=fun r o Fd Id=>⟨fun h=>absurd h r,fun h=>absurd h Fd,fun h=>absurd h o,Id⟩
   rw [Gh]
   by_cases X:x.Kind=1
   ·rw [if_pos X]
    exact ⟨_,0,rfl,fun _=>⟨.of (by decide),Aa (by omega) (by omega) (by omega) (by rw [S (by rw [X]; rfl)]; simp)⟩⟩
   rw [if_neg X]
   by_cases c2:x.Kind=2
   ·rw [if_pos c2]
    exact ⟨_,0,rfl,fun _=>⟨.of (by decide),Aa (by omega) (by omega) (by omega) (by rw [S (by rw [c2]; rfl)]; simp)⟩⟩
   rw [if_neg c2]
   by_cases c3:x.Kind=3
   ·obtain ⟨t,b,r,o⟩:=dx H.mg H.Kd n (by omega) d x.Name
    rw [if_pos c3,r,ca]
    cases b with
    | true=>exact ⟨t,0,rfl,fun _=>⟨o rfl,Aa (by omega) (by omega) (by omega) (by rw [S (by rw [c3]; rfl)]; simp)⟩⟩
    | false=>exact ⟨_,7,rfl,fun h=>absurd h (by decide)⟩
   rw [if_neg c3]
   by_cases c4:x.Kind=4
   ·obtain ⟨a,j,G⟩:=R (by rw [c4]; rfl)
    obtain ⟨e,sa,w⟩:=u.typed k p d B a ⟨1,[]⟩ H G (by omega)
    have k0:at_ x.Kids 0=some a:=by rw [j]; rfl
    rw [if_pos c4,k0,ca,fk,ca,ca,sa,ca]
    exact ⟨_,e,rfl,fun s=>⟨.of (by decide),Aa (by omega) (by omega) (by omega) (by rw [j]; simpa using w s)⟩⟩
   rw [if_neg c4]
   by_cases c5:x.Kind=5
   ·obtain ⟨a,j,G⟩:=R (by rw [c5]; rfl)
    obtain ⟨e,sa,w⟩:=u.typed k p d B a ⟨2,[]⟩ H G (by omega)
    have k0:at_ x.Kids 0=some a:=by rw [j]; rfl
    rw [if_pos c5,k0,ca,Di,ca,ca,sa,ca]
    exact ⟨_,e,rfl,fun s=>⟨.of (by decide),Aa (by omega) (by omega) (by omega) (by rw [j]; simpa using w s)⟩⟩
   rw [if_neg c5]
   have id:∀ b,(b=true ↔ x.Kind=11∨x.Kind=12)→∃ t e,Zo (Sf n) x p d B b=some (t,e)∧(e=0→Ni p t∧Calls p (k+1) x):=by
    intro b N
    rw [Zo]
    by_cases q:b=true
    ·have c:=N.1 q
     obtain ⟨a,T,j,Y,Qf⟩:=fd (by rcases c with c | c <;> rw [c] <;> rfl)
     obtain ⟨t,e,r,o⟩:=u.both k p d B x a T H j Y Qf (by omega)
     rw [if_pos q,r,ca,Di,ca]
     exact ⟨_,e,rfl,fun s=>⟨.of (by decide),Aa (by omega) (by omega) (by omega) (by rw [j]; simpa using o s)⟩⟩
    rw [if_neg q]
    have ge:x.Kind≠11:=fun h=>q (N.2 (.inl h))
    have he:x.Kind≠12:=fun h=>q (N.2 (.inr h))
    by_cases md:x.Kind=19
    ·obtain ⟨v,e,r,o⟩:=u.args k p d B x 2 H M E.le (.inl rfl) (by omega)
     rw [if_pos md,r,ca]
     by_cases z:e=0
     ·obtain ⟨f,rfl,g1,g2,g3⟩:=o z
      rw [if_neg (by simpa using z)]
      simp only [ca]
      rw [gm,ca]
      exact ⟨_,0,rfl,fun _=>⟨.of (by rw [wo]; exact (H.fo _ _ g1).ty (by omega)),⟨fun _=>⟨f,g1,g2⟩,fun h=>by omega,fun h=>by omega,g3⟩⟩⟩
     ·rw [if_pos z]
      exact ⟨_,e,rfl,fun h=>absurd h z⟩
    rw [if_neg md]
    by_cases c20:x.Kind=20
    ·rw [if_pos c20,Up,ca]
     by_cases c:bn (vb p.named x.Name) 1=true
     ·obtain ⟨f,K,V⟩:=pq c
      rw [if_pos c,K]
      simp only [ca]
      rw [gm,ca]
      exact ⟨_,0,rfl,fun _=>⟨.of (by rw [wo]; exact (H.fo _ _ K).ty (by omega)),⟨fun h=>by omega,fun h=>by omega,fun _=>⟨f,K,V⟩,by rw [S (by rw [c20]; rfl)]; simp⟩⟩⟩
     ·rw [if_neg c]
      exact ⟨_,7,rfl,fun h=>absurd h (by decide)⟩
    rw [if_neg c20]
    by_cases c21:x.Kind=21
    ·obtain ⟨a,j,G⟩:=R (by rw [c21]; rfl)
     obtain ⟨e,sa,w⟩:=u.typed k p d B a d.zb H G (by omega)
     have k0:at_ x.Kids 0=some a:=by rw [j]; rfl
     rw [if_pos c21]
     by_cases Z:d.Kind=3
     ·rw [if_neg (by simpa using Z),k0,ca,gm,ca,sa,ca]
      exact ⟨_,e,rfl,fun s=>⟨.of (by show (hg d.Hc).Kind≠3; rw [wo]; exact H.ya.Mh Z),Aa (by omega) (by omega) (by omega) (by rw [j]; simpa using w s)⟩⟩
     ·rw [if_pos Z]
      exact ⟨_,8,rfl,fun h=>absurd h (by decide)⟩
    rw [if_neg c21]
    by_cases rd:x.Kind=22
    ·obtain ⟨v,e,r,o⟩:=u.args k p d B x 3 H M E.le (.inr rfl) (by omega)
     rw [if_pos rd,r,ca]
     refine ⟨_,e,rfl,fun s=>?_⟩
     obtain ⟨f,-,g1,g2,g3⟩:=o s
     exact ⟨fun _=>⟨f,g1,g2⟩,⟨fun h=>by omega,fun _=>⟨f,g1,g2⟩,fun h=>by omega,g3⟩⟩
    rw [if_neg rd]
    by_cases gc:x.Kind=23
    ·obtain ⟨a,T,j,Y,Qf⟩:=fd (by rw [gc]; rfl)
     obtain ⟨v,e,r,o⟩:=u.handle k p d B a H Y (by omega)
     have k0:at_ x.Kids 0=some a:=by rw [j]; rfl
     have k1:at_ x.Kids 1=some T:=by rw [j]; rfl
     rw [if_pos gc,k0,ca,r,ca]
     by_cases z:e=0
     ·obtain ⟨⟨f,g,rfl,g1,g2⟩,g3⟩:=o z
      obtain ⟨P,F,D⟩:=u.typed k p d B T f.Hc H Qf (by omega)
      rw [if_neg (by simpa using z)]
      simp only [ca]
      rw [k1,ca,gm,ca,F,ca]
      exact ⟨_,P,rfl,fun s=>⟨.of (by show (hg f.zb).Kind≠3; rw [wo]; exact (H.fo _ _ g1).ty (by omega)),Aa (by omega) (by omega) (by omega) (by rw [j]; simpa using ⟨g3,D s⟩)⟩⟩
     ·rw [if_pos z]
      exact ⟨_,e,rfl,fun h=>absurd h z⟩
    rw [if_neg gc]
    by_cases c24:x.Kind=24
    ·obtain ⟨a,j,G⟩:=R (by rw [c24]; rfl)
     obtain ⟨v,e,r,o⟩:=u.handle k p d B a H G (by omega)
     have k0:at_ x.Kids 0=some a:=by rw [j]; rfl
     rw [if_pos c24,k0,ca,r,ca,Di,ca]
     exact ⟨_,e,rfl,fun s=>⟨.of (by decide),Aa (by omega) (by omega) (by omega) (by rw [j]; simpa using (o s).2)⟩⟩
    rw [if_neg c24]
    have L:∀ (i1 i2:Int) (s1 s2:List UInt8) (m i:Nat),i≤x.Kids.length→x.Kids.length<m+i→∃ e,Yo (Sf n) x p d B i1 s1 i2 s2 m i=some (⟨i2,s2⟩,e)∧(e=0→∀ y ∈ x.Kids.drop i,Calls p k y):=by
     intro i1 i2 s1 s2 m
     induction m with
     | zero=>intro i r o; omega
     | succ m W =>
      intro i r o
      rw [Yo]
      by_cases c:i<x.Kids.length
      ·have:=E.le
       obtain ⟨e,sa,w⟩:=u.typed k p d B x.Kids[i] ⟨i1,s1⟩ H (M _ (List.getElem_mem _)) (by omega)
       rw [if_pos (by omega),Rd,List.getElem?_eq_getElem c,ca,sa,ca]
       by_cases z:e=0
       ·rw [if_neg (by simpa using z),Cc (by omega),ca]
        obtain ⟨P,F,D⟩:=W (i+1) c (by omega)
        refine ⟨P,F,fun s y C=>?_⟩
        rw [List.drop_eq_getElem_cons c] at C
        rcases List.mem_cons.1 C with rfl | C
        ·exact w z
        ·exact D s y C
       ·rw [if_pos z]; exact ⟨e,rfl,fun h=>absurd h z⟩
      ·rw [if_neg (by omega),List.drop_eq_nil_of_le (by omega)]
       exact ⟨0,rfl,fun _=>by simp⟩
    have lc:∀ (i1 i2:Int) (s1 s2:List UInt8),i2≠3→∃ t e,Mp (Sf n) x p d B i1 s1 i2 s2=some (t,e)∧(e=0→Ni p t∧Calls p (k+1) x):=by
     intro i1 i2 s1 s2 h
     obtain ⟨e,r,o⟩:=L i1 i2 s1 s2 (x.Kids.length+1) 0 (by omega) (by omega)
     exact ⟨_,e,r,fun s=>⟨.of h,Aa (by omega) (by omega) (by omega) (by simpa using o s)⟩⟩
    rw [fk,ca,ca,Di]
    simp only [ca]
    split
    ·exact lc _ _ _ _ (by decide)
    ·split
     ·exact lc _ _ _ _ (by decide)
     ·exact lc _ _ _ _ (by decide)
   split
   ·rename_i h; exact id _ (by simp [h])
   ·rename_i h; exact id _ (by simp [h])
end Go.Y
namespace Go.Y
open Go.bc Go.Dc
theorem ck {κ β:Type} [DecidableEq κ]:∀ (m:List (κ×β)) (k e:κ) (x:β),vb (cc m k x) e=if k=e then some x else vb m e
 | [],k,e,x=>rfl
 | (a,b)::m,k,e,x=>by
  rw [cc]
  by_cases c:a=k
  ·subst c
   rw [if_pos rfl,vb,vb]
   by_cases d:a=e
   ·rw [if_pos d,if_pos d]
   ·rw [if_neg d,if_neg d,if_neg d]
  ·rw [if_neg c,vb,vb,ck m k e x]
   by_cases d:a=e
   ·rw [if_pos d,if_pos d,if_neg fun h=>c (d.trans h.symm)]
   ·rw [if_neg d,if_neg d]
def zk (p:Zb):Nat→Wa→Prop
 | 0,_=>False
 | k+1,s=>(s.Kind≠6→Calls p k s.X)∧((s.Kind=3∨s.Kind=4)→∀ y ∈ s.Body,zk p k y)∧(s.Kind=3→∀ y ∈ s.jd,zk p k y)∧(s.Kind=7→∃ d,vb p.named s.Name=some d∧d.Kind=1)
theorem Nz (p:Zb) (d:va) (B:Ug) (h:0<B.length) (a:B.length≤100):tp p d B=some (B.take (B.length - 1)):=by
 rw [tp,Cc (by omega),ca,cut,if_pos (by omega),ca,cv]
 simp
structure dH (n:Nat):Prop where
 stats:∀ (k:Nat) (p:Zb) (d:va) (B:Ug) (l:List Wa),vl p d B→l.length≤50→(∀ y ∈ l,Bj k y)→B.length+k≤90→5*k+130≤n →
  ∃ e,(ek n).sj p d B l=some (e,B)∧(e=0→∀ y ∈ l,zk p k y)
 stat:∀ (k:Nat) (p:Zb) (d:va) (B:Ug) (s:Wa),vl p d B→0<B.length→Bj k s→B.length+k≤91→5*k+129≤n →
  ∃ e a,(ek n).Wk p d B s=some (e,a)∧a.length=B.length∧a.take (B.length - 1)=B.take (B.length - 1)∧Ek p a∧(e=0→zk p k s)
theorem Nu (B:Ug) (r:Ya×Int) (b:Bool):ft B r b=some (if b=true then 9 else r.2,B):=by cases b <;> rfl
theorem iG:∀ n,dH n:=by
 intro n
 induction n with
 | zero=>exact ⟨fun _ _ _ _ _ _ _ _ _ h=>by omega,fun _ _ _ _ _ _ _ _ _ h=>by omega⟩
 | succ n K =>
  refine ⟨fun k p d B l H qa x gc lc=>?_,fun k p d B s H le x gc lc=>?_⟩
  ·show ∃ e,sj (ek n) p d B l=some (e,B)∧_
   rw [sj,app,if_pos (by simp; omega),ca,dt]
   have L:∀ (m i:Nat) (a:Ug),i≤l.length→l.length<m+i→a.length=B.length+1→a.take B.length=B→Ek p a →
     ∃ e,To (ek n) l p d m i a=some (e,B)∧(e=0→∀ y ∈ l.drop i,zk p k y):=by
    intro m
    induction m with
    | zero=>intro i a j g; omega
    | succ m rc =>
     intro i a j g g1 g2 g3
     rw [To]
     have pop:∀ C:Ug,C.length=B.length+1→C.take B.length=B→tp p d C=some B:=fun C sa v=>by
      rw [Nz p d C (by omega) (by omega),sa,Nat.add_sub_cancel,v]
     by_cases c:i<l.length
     ·obtain ⟨e,M,fd,N,S,id,md⟩:=K.stat k p d a l[i] ⟨H.fo,H.ya,g3,by omega⟩ (by omega) (x _ (List.getElem_mem _)) (by omega) (by omega)
      rw [g1,Nat.add_sub_cancel] at S
      rw [g1] at N
      have v:M.take B.length=B:=S.trans g2
      rw [if_pos (by omega),Rd,List.getElem?_eq_getElem c,ca,fd,ca]
      by_cases z:e=0
      ·rw [if_neg (by simpa using z),Cc (by omega),ca]
       obtain ⟨rd,s1,s2⟩:=rc (i+1) M c (by omega) N v id
       refine ⟨rd,s1,fun r y A=>?_⟩
       rw [List.drop_eq_getElem_cons c] at A
       rcases List.mem_cons.1 A with rfl | A
       ·exact md z
       ·exact s2 r y A
      ·rw [if_pos z]
       simp only []
       rw [pop M N v,ca]
       exact ⟨e,rfl,fun h=>absurd h z⟩
     ·rw [if_neg (by omega),pop a g1 g2,ca,List.drop_eq_nil_of_le (by omega)]
      exact ⟨0,rfl,fun _=>by simp⟩
   have:=L (l.length+1) 0 (B++[[]]) (by omega) (by omega) (by simp) (by simp) (fun m hm D t P=>by
    rcases List.mem_append.1 hm with hm | hm
    ·exact H.mg m hm D t P
    ·rw [List.mem_singleton.1 hm] at P; cases P)
   simpa using this
  ·show ∃ e a,Wk n (ek n) p d B s=some (e,a)∧_
   cases k with
   | zero=>cases x
   | succ k =>
   obtain ⟨k1,ne,w,T,he⟩:=x
   have E:=(RB n).typed k p d B s.X
   have Q:=(RB n).expr k p d B s.X
   have same:∀ e:Int,(e=0→zk p (k+1) s)→∀ o:Option (Int×Ug),o=some (e,B)→∃ e a,o=some (e,a)∧a.length=B.length∧a.take (B.length - 1)=B.take (B.length - 1)∧Ek p a∧(e=0→zk p (k+1) s) :=
    fun e h o wd=>⟨e,B,wd,rfl,rfl,H.mg,h⟩
   have cs:s.Kind≠3→s.Kind≠4→s.Kind≠7→(s.Kind≠6→Calls p k s.X)→zk p (k+1) s:=fun Fd Ne Id h=>⟨h,fun h=>by omega,fun h=>absurd h Fd,fun h=>absurd h Id⟩
   rw [Wk]
   by_cases V:s.Kind=1
   ·obtain ⟨t,e,j,g⟩:=Q H (w (by omega)) (by omega)
    rw [if_pos V,j,ca]
    by_cases z:e=0
    ·obtain ⟨ld,b,g1,g2⟩:=dx H.mg H.Kd n (by omega) d s.Name
     rw [if_neg (by simpa using z),g1,ca]
     cases b with
     | true=>exact same 7 (fun h=>absurd h (by decide)) _ rfl
     | false =>
      have be:B.length - 1<B.length:=by omega
      have sa:(B.length:Int) - 1=((B.length - 1:Nat):Int):=by omega
      rw [if_neg (by simp),Cc (by omega),ca,sa,Rd,List.getElem?_eq_getElem be,ca,Np]
      refine ⟨0,_,rfl,by simp,?_,fun m hm D u hu=>?_,fun _=>cs (by omega) (by omega) (by omega) fun _=>(g z).2⟩
      ·simp [List.take_set_of_le]
      ·rcases List.mem_or_eq_of_mem_set hm with hm | rfl
       ·exact H.mg m hm D u hu
       ·rw [ck] at hu
        split at hu
        ·obtain rfl:=Option.some.inj hu
         exact (g z).1
        ·exact H.mg _ (List.getElem_mem _) D u hu
    ·rw [if_pos z]
     exact same e (fun h=>absurd h z) _ rfl
   rw [if_neg V]
   by_cases c2:s.Kind=2
   ·obtain ⟨ld,b,g1,g2⟩:=dx H.mg H.Kd n (by omega) d s.Name
    rw [if_pos c2,g1,ca]
    cases b with
    | false=>exact same 7 (fun h=>absurd h (by decide)) _ rfl
    | true =>
     obtain ⟨e,j,g⟩:=E ld H (w (by omega)) (by omega)
     rw [if_pos rfl,j,ca]
     exact same e (fun r=>cs (by omega) (by omega) (by omega) fun _=>g r) _ rfl
   rw [if_neg c2]
   have W:∀ b,(b=true ↔ s.Kind=3∨s.Kind=4)→∃ e a,bp n (ek n) s p d B b=some (e,a)∧a.length=B.length∧a.take (B.length - 1)=B.take (B.length - 1)∧Ek p a∧(e=0→zk p (k+1) s):=by
    intro b R
    rw [bp]
    by_cases q:b=true
    ·have c:=R.1 q
     obtain ⟨e,j,g⟩:=E ⟨2,[]⟩ H (w (by omega)) (by omega)
     rw [if_pos q,Di,ca,j,ca]
     by_cases z:e=0
     ·rw [if_neg (by simpa using z)]
      obtain ⟨v,g1,g2⟩:=K.stats k p d B s.Body H (T c).1 (T c).2 (by omega) (by omega)
      rw [g1,ca]
      by_cases z2:v=0
      ·rw [if_neg (by simpa using z2)]
       by_cases c4:s.Kind=4
       ·rw [decide_eq_true c4]
        exact same v (fun _=>⟨fun _=>g z,fun _=>g2 z2,fun h=>by omega,fun h=>by omega⟩) _ rfl
       ·have c3:s.Kind=3:=by omega
        obtain ⟨ce,f1,f2⟩:=K.stats k p d B s.jd H (he c3).1 (he c3).2 (by omega) (by omega)
        rw [decide_eq_false c4,Nq,if_neg (by decide)]
        simp only []
        rw [f1,ca]
        exact same ce (fun r=>⟨fun _=>g z,fun _=>g2 z2,fun _=>f2 r,fun h=>by omega⟩) _ rfl
      ·rw [if_pos z2]
       exact same v (fun h=>absurd h z2) _ rfl
     ·rw [if_pos z]
      exact same e (fun h=>absurd h z) _ rfl
    rw [if_neg q]
    have F:s.Kind≠3:=fun h=>q (R.2 (.inl h))
    have G:s.Kind≠4:=fun h=>q (R.2 (.inr h))
    by_cases c5:s.Kind=5
    ·rw [if_pos c5]
     split
     ·exact same 8 (fun h=>absurd h (by decide)) _ rfl
     ·obtain ⟨e,j,g⟩:=E d.zb H (w (by omega)) (by omega)
      rw [j,ca]
      exact same e (fun r=>cs F G (by omega) fun _=>g r) _ rfl
    rw [if_neg c5]
    by_cases Tc:s.Kind=6
    ·rw [if_pos Tc]
     split
     ·exact same 8 (fun h=>absurd h (by decide)) _ rfl
     ·exact same 0 (fun r=>cs F G (by omega) fun h=>absurd Tc h) _ rfl
    rw [if_neg Tc]
    by_cases Y:s.Kind=7
    ·rw [if_pos Y,Up,ca]
     by_cases c:bn (vb p.named s.Name) 1=true
     ·obtain ⟨f,Z,ge⟩:=pq c
      obtain ⟨e,j,g⟩:=E f.zb H (w (by omega)) (by omega)
      rw [if_pos c,Z]
      simp only [ca]
      rw [j,ca]
      exact same e (fun r=>⟨fun _=>g r,fun h=>by omega,fun h=>by omega,fun _=>⟨f,Z,ge⟩⟩) _ rfl
     ·rw [if_neg c]
      exact same 7 (fun h=>absurd h (by decide)) _ rfl
    rw [if_neg Y]
    by_cases eh:s.Kind=8
    ·obtain ⟨t,e,j,g⟩:=Q H (w (by omega)) (by omega)
     rw [if_pos eh,j,ca]
     by_cases z:e=0
     ·rw [if_pos z,Hm,ca,Nu]
      exact same _ (fun _=>cs F G (by omega) fun _=>(g z).2) _ rfl
     ·rw [if_neg z,Nu]
      exact same e (fun h=>absurd h z) _ rfl
    rw [if_neg eh]
    by_cases c9:s.Kind=9
    ·obtain ⟨t,e,j,g⟩:=Q H (w (by omega)) (by omega)
     rw [if_pos c9,j,ca]
     exact same e (fun r=>cs F G (by omega) fun _=>(g r).2) _ rfl
    ·omega
   split
   ·rename_i h; exact W _ (by simp [h])
   ·rename_i h; exact W _ (by simp [h])
theorem TD (p:Zb) (t:Ya):∃ e,Dt p t=some e∧(e=0→Ni p t):=by
 rw [Dt,Hm,ca]
 by_cases c:t.Kind≠3
 ·rw [if_pos (decide_eq_true c)]; exact ⟨0,rfl,fun _=>.of c⟩
 ·rw [if_neg (by simpa using c),Up,ca]
  by_cases q:bn (vb p.named t.Nb) 3=true
  ·rw [if_pos q]; exact ⟨0,rfl,fun _ _=>pq q⟩
  ·rw [if_neg q]; exact ⟨7,rfl,fun h=>absurd h (by decide)⟩
theorem tD (p:Zb) (d:va) (ya:Tl d):∃ e,Pr p d=some e∧(e=0→cl p d):=by
 have f:∀ b,cp b=some (if b=true then 9 else 0):=fun b=>by cases b <;> rfl
 have o:(d.Kind=2∨d.Kind=3→∀ q ∈ d.Params,Ni p q.zb)→∃ e,Oq d=some e∧(e=0→cl p d):=by
  intro g
  rw [Oq]
  have l:d.Kind=2∨d.Kind=3→d.Params.length≤6:=fun h=>(ya.cg h).1
  by_cases c3:d.Kind=3
  ·rw [if_pos c3,Hm,ca]
   by_cases q:d.Hc.Kind≠3
   ·rw [if_pos (decide_eq_true q),if_pos (by omega),Hm,ca,f]
    refine ⟨_,rfl,fun n=>⟨fun _ h=>?_,fun _=>q,g,l⟩⟩
    simp [h] at n
   ·rw [if_neg (by simpa using q),f]
    exact ⟨9,rfl,fun h=>absurd h (by decide)⟩
  ·rw [if_neg c3]
   by_cases c4:d.Kind=4
   ·rw [if_neg (by simpa using c4),f]
    exact ⟨0,rfl,fun _=>⟨fun h=>absurd c4 h,fun h=>absurd h c3,g,l⟩⟩
   ·rw [if_pos c4,Hm,ca,f]
    refine ⟨_,rfl,fun n=>⟨fun _ h=>?_,fun h=>absurd h c3,g,l⟩⟩
    simp [h] at n
 have r:∀ b,(b=true ↔ d.Kind=2∨d.Kind=3)→∃ e,Qq p d b=some e∧(e=0→cl p d):=by
  intro b s
  rw [Qq]
  by_cases q:b=true
  ·rw [if_pos q]
   have B:=ya.cg (s.1 q)
   have L:∀ (m i:Nat) (S:List (List UInt8×Int)),i≤d.Params.length→d.Params.length<m+i→(∀ k c,vb S k=some c→0≤c∧c≤1)→(∀ q ∈ d.Params.take i,Ni p q.zb)→∃ e,Pq p d m i S=some e∧(e=0→cl p d):=by
    intro m
    induction m with
    | zero=>intro i S t u; omega
    | succ m x =>
     intro i S t u g1 g2
     rw [Pq]
     by_cases c:i<d.Params.length
     ·have C:0≤(vb S d.Params[i].Name).getD 0∧(vb S d.Params[i].Name).getD 0≤1:=by
       cases h:vb S d.Params[i].Name with
       | none=>decide
       | some v=>exact g1 _ _ h
      rw [if_pos (by omega),Rd,List.getElem?_eq_getElem c,ca,Cc (by omega),ca,ck,if_pos rfl]
      simp only [Option.getD_some]
      by_cases w:(1:Int)<(vb S d.Params[i].Name).getD 0+1
      ·rw [if_pos w]; exact ⟨7,rfl,fun h=>absurd h (by decide)⟩
      ·obtain ⟨e,sa,A⟩:=TD p d.Params[i].zb
       rw [if_neg w,sa,ca]
       by_cases z:e=0
       ·rw [if_neg (by simpa using z),Cc (by omega),ca]
        refine x (i+1) _ c (by omega) (fun k v j=>?_) fun y a=>?_
        ·rw [ck] at j
         split at j
         ·obtain rfl:=Option.some.inj j
          omega
         ·exact g1 _ _ j
        ·rw [List.take_succ_eq_append_getElem c] at a
         rcases List.mem_append.1 a with a | a
         ·exact g2 y a
         ·rw [List.mem_singleton.1 a]; exact A z
       ·rw [if_pos z]; exact ⟨e,rfl,fun h=>absurd h z⟩
     ·rw [if_neg (by omega)]
      rw [List.take_of_length_le (by omega)] at g2
      exact o fun _=>g2
   exact L (d.Params.length+1) 0 [] (by omega) (by omega) (fun k c h=>by cases h) (by simp)
  ·rw [if_neg q]
   exact o fun h=>absurd (s.2 h) q
 rw [Pr]
 split
 ·rename_i h; exact r _ (by simp [h])
 ·rename_i h; exact r _ (by simp [h])
theorem uD (fu:Nat) (z:500≤fu) (p:Zb) (d:va) (q:Py p) (f:cl p d) (ya:Tl d):∃ e,yo fu p d=some e∧(e=0→d.Kind≠1→∀ y ∈ d.Body,zk p 39 y):=by
 rw [yo]
 by_cases b:d.Kind=1
 ·rw [if_pos b]; exact ⟨0,rfl,fun _ h=>absurd b h⟩
 ·rw [if_neg b]
  have l:∀ B:Ug,B.length=1→Ek p B→∃ e,dp fu p d B=some e∧(e=0→d.Kind≠1→∀ y ∈ d.Body,zk p 39 y):=by
   intro B n g
   obtain ⟨e,r,s⟩:=(iG fu).stats 39 p d B d.Body ⟨q,f,g,by omega⟩ (ya.Kd b) (ya.Rf b) (by omega) (by omega)
   rw [dp,r,ca]
   exact ⟨e,rfl,fun u _=>s u⟩
  by_cases c4:d.Kind=4
  ·rw [if_neg (by simpa using c4)]
   exact l _ rfl (fun m hm k t a=>by rw [List.mem_singleton.1 hm] at a; cases a)
  ·rw [if_pos c4]
   have o:d.Kind=2∨d.Kind=3:=by have:=ya.k1; have:=ya.Af; omega
   have A:=f.pl o
   have L:∀ (m i:Nat) (B:Ug),i≤d.Params.length→d.Params.length<m+i→B.length=1→Ek p B→∃ e,po fu p d m i B=some e∧(e=0→d.Kind≠1→∀ y ∈ d.Body,zk p 39 y):=by
    intro m
    induction m with
    | zero=>intro i B n g; omega
    | succ m v =>
     intro i B n g g1 g2
     rw [po]
     by_cases c:i<d.Params.length
     ·have w:0<B.length:=by omega
      rw [if_pos (by omega),Rd,List.getElem?_eq_getElem c,ca,yg w,ca,gm,ca,ht,Cc (by omega),ca]
      refine v (i+1) _ c (by omega) (by simpa using g1) fun x j k t a=>?_
      rcases List.mem_or_eq_of_mem_set j with j | rfl
      ·exact g2 x j k t a
      ·rw [ck] at a
       split at a
       ·obtain rfl:=Option.some.inj a
        exact (f.cg o _ (List.getElem_mem _)).bare
       ·exact g2 _ (List.getElem_mem _) k t a
     ·rw [if_neg (by omega)]
      exact l B g1 g2
   exact L (d.Params.length+1) 0 _ (by omega) (by omega) rfl (fun m hm k t a=>by rw [List.mem_singleton.1 hm] at a; cases a)
structure Bk (p:Zb) (l:List va):Prop where
 ok:Iw l
 Fg:∀ d ∈ l,vb p.named d.Name=some d
 only:∀ k d,vb p.named k=some d→d ∈ l∧d.Name=k
 hn:l.Pairwise fun a b=>a.Name≠b.Name
 Mh:∃ d ∈ l,d.Kind=4
 ya:∀ d ∈ l,cl p d
 cs:∀ d ∈ l,d.Kind≠1→∀ y ∈ d.Body,zk p 39 y
theorem cz (fu:Nat) (E:500≤fu) (l:List va):∃ p f,lp fu l=some (p,f)∧(f.Ue=0→Bk p l):=by
 obtain ⟨f,j,n⟩:=kt fu (by omega) l
 rw [lp,j,ca]
 by_cases z:f.Ue=0
 ·obtain ⟨-,ok⟩:=n z
  have qa:=ok.le
  rw [if_neg (by simpa using z)]
  have F:∀ (N:List (List UInt8×va)),(∀ d ∈ l,vb N d.Name=some d)→(∀ k d,vb N k=some d→d ∈ l∧d.Name=k)→l.Pairwise (fun a b=>a.Name≠b.Name)→(∃ d ∈ l,d.Kind=4)→(∀ d ∈ l,cl ⟨l,N⟩ d) →
    ∀ (m i:Nat),i≤l.length→l.length<m+i→(∀ d ∈ l.take i,d.Kind≠1→∀ y ∈ d.Body,zk ⟨l,N⟩ 39 y)→∃ p f,lo fu l N m i=some (p,f)∧(f.Ue=0→Bk p l):=by
   intro N r q s u w m
   induction m with
   | zero=>intro i j n; omega
   | succ m o =>
    intro i j n g
    rw [lo]
    by_cases c:i<l.length
    ·obtain ⟨e,sa,x⟩:=uD fu E ⟨l,N⟩ l[i] (fun k d ya=>w d (q k d ya).1) (w _ (List.getElem_mem _)) (ok.ok _ (List.getElem_mem _))
     rw [if_pos (by omega),Rd,List.getElem?_eq_getElem c,ca,sa,ca]
     by_cases z:e=0
     ·rw [if_neg (by simpa using z),Cc (by omega),ca]
      refine o (i+1) c (by omega) fun d ya=>?_
      rw [List.take_succ_eq_append_getElem c] at ya
      rcases List.mem_append.1 ya with ya | ya
      ·exact g d ya
      ·rw [List.mem_singleton.1 ya]; exact x z
     ·rw [if_pos z]; exact ⟨_,_,rfl,fun h=>absurd h z⟩
    ·rw [if_neg (by omega)]
     rw [List.take_of_length_le (by omega)] at g
     exact ⟨_,_,rfl,fun _=>⟨ok,r,q,s,u,w,g⟩⟩
  have G:∀ (N:List (List UInt8×va)),(∀ d ∈ l,vb N d.Name=some d)→(∀ k d,vb N k=some d→d ∈ l∧d.Name=k)→l.Pairwise (fun a b=>a.Name≠b.Name)→(∃ d ∈ l,d.Kind=4) →
    ∀ (m i:Nat),i≤l.length→l.length<m+i→(∀ d ∈ l.take i,cl ⟨l,N⟩ d)→∃ p f,mo fu l N m i=some (p,f)∧(f.Ue=0→Bk p l):=by
   intro N r q s u m
   induction m with
   | zero=>intro i j n; omega
   | succ m o =>
    intro i j n g
    rw [mo]
    by_cases c:i<l.length
    ·obtain ⟨e,sa,x⟩:=tD ⟨l,N⟩ l[i] (ok.ok _ (List.getElem_mem _))
     rw [if_pos (by omega),Rd,List.getElem?_eq_getElem c,ca,sa,ca]
     by_cases z:e=0
     ·rw [if_neg (by simpa using z),Cc (by omega),ca]
      refine o (i+1) c (by omega) fun d ya=>?_
      rw [List.take_succ_eq_append_getElem c] at ya
      rcases List.mem_append.1 ya with ya | ya
      ·exact g d ya
      ·rw [List.mem_singleton.1 ya]; exact x z
     ·rw [if_pos z]; exact ⟨_,_,rfl,fun h=>absurd h z⟩
    ·rw [if_neg (by omega)]
     rw [List.take_of_length_le (by omega)] at g
     exact F N r q s u g (l.length+1) 0 (by omega) (by omega) (by simp)
  have H:∀ (m i:Nat) (t:Int) (N:List (List UInt8×va)),i≤l.length→l.length<m+i→0≤t→t≤i→(t≠0→∃ d ∈ l,d.Kind=4)→(∀ d ∈ l.take i,vb N d.Name=some d)→(∀ k d,vb N k=some d→d ∈ l.take i∧d.Name=k)→(l.take i).Pairwise (fun a b=>a.Name≠b.Name) →
    ∃ p f,oo fu l m t i N=some (p,f)∧(f.Ue=0→Bk p l):=by
   intro m
   induction m with
   | zero=>intro i t N j n; omega
   | succ m o =>
    intro i t N j n g1 g2 g3 g4 g5 g6
    rw [oo]
    by_cases c:i<l.length
    ·have hb:at_ l (i:Int)=some l[i]:=by rw [Rd,List.getElem?_eq_getElem c]
     rw [if_pos (by omega),hb,ca]
     cases h:vb N l[i].Name with
     | some v=>rw [if_pos (by simp)]; exact ⟨_,_,rfl,fun h=>absurd h (by decide:(7:Int)≠0)⟩
     | none =>
      rw [if_neg (by simp)]
      simp only [ca]
      have hm:l[i] ∈ l:=List.getElem_mem _
      have Mh:=List.take_succ_eq_append_getElem c
      have A:∀ d ∈ l.take i,d.Name≠l[i].Name:=fun d ya he=>by
       have:=g4 d ya
       rw [he,h] at this
       cases this
      have B:∀ d ∈ l.take (i+1),vb (cc N l[i].Name l[i]) d.Name=some d:=by
       intro d ya
       rw [Mh] at ya
       rw [ck]
       rcases List.mem_append.1 ya with ya | ya
       ·rw [if_neg fun he=>A d ya he.symm]; exact g4 d ya
       ·rw [List.mem_singleton.1 ya,if_pos rfl]
      have C:∀ k d,vb (cc N l[i].Name l[i]) k=some d→d ∈ l.take (i+1)∧d.Name=k:=by
       intro k d ya
       rw [ck] at ya
       rw [Mh]
       split at ya
       ·rename_i K
        obtain rfl:=Option.some.inj ya
        exact ⟨List.mem_append.2 (.inr (List.mem_singleton.2 rfl)),K⟩
       ·obtain ⟨L,M⟩:=g5 k d ya
        exact ⟨List.mem_append.2 (.inl L),M⟩
      have D:(l.take (i+1)).Pairwise (fun a b=>a.Name≠b.Name):=by
       rw [Mh,List.pairwise_append]
       refine ⟨g6,List.pairwise_singleton _ _,fun a P b Q=>?_⟩
       rw [List.mem_singleton.1 Q]
       exact A a P
      by_cases Af:l[i].Kind=4
      ·rw [if_pos Af,Cc (by omega),ca,Cc (by omega),ca]
       exact o (i+1) (t+1) _ c (by omega) (by omega) (by omega) (fun _=>⟨_,hm,Af⟩) B C D
      ·rw [if_neg Af,Cc (by omega),ca]
       exact o (i+1) t _ c (by omega) g1 (by omega) g3 B C D
    ·rw [if_neg (by omega)]
     rw [List.take_of_length_le (by omega)] at g4 g5 g6
     by_cases t0:t=0
     ·rw [if_pos t0]; exact ⟨_,_,rfl,fun h=>absurd h (by decide:(6:Int)≠0)⟩
     ·rw [if_neg t0]
      exact G N g4 g5 g6 (g3 t0) (l.length+1) 0 (by omega) (by omega) (by simp)
  exact H (l.length+1) 0 0 [] (by omega) (by omega) (by omega) (by omega) (fun h=>absurd rfl h) (by simp) (fun k d h=>by cases h) (by simp)
 ·rw [if_pos z]
  exact ⟨_,_,rfl,fun h=>absurd h z⟩
end Go.Y
namespace Go.Y
open Go.bc Go.Dc
def Jg (B:Ug):Prop:=∃ m ∈ B,m≠[]
def Sb (p:Zb) (V:Prop):Nat→ua→Prop
 | 0,_=>False
 | k+1,x=>(x.Kind=19→∃ d,vb p.named x.Name=some d∧d.Kind=2)∧(x.Kind=22→∃ d,vb p.named x.Name=some d∧d.Kind=3)∧(x.Kind=20→∃ d,vb p.named x.Name=some d∧d.Kind=1)∧(x.Kind=3→V)∧∀ y ∈ x.Kids,Sb p V k y
theorem Sb.mono {p:Zb} {V f:Prop} (h:V→f):∀ {k:Nat} {x:ua},Sb p V k x→Sb p f k x
 | 0,_,g=>g
 | k+1,x,⟨a,b,c,d,e⟩=>⟨a,b,c,fun q=>h (d q),fun y i=>Sb.mono h (e y i)⟩
def Vh (C:Prop→Wa→Prop):Prop→List Wa→Prop
 | _,[]=>True
 | V,s::t=>C V s∧Vh C (V∨s.Kind=1) t
def Dg (p:Zb):Nat→Prop→Wa→Prop
 | 0,_,_=>False
 | k+1,V,s=>(s.Kind≠6→Sb p V k s.X)∧((s.Kind=3∨s.Kind=4)→Vh (Dg p k) V s.Body)∧(s.Kind=3→Vh (Dg p k) V s.jd)∧(s.Kind=7→∃ d,vb p.named s.Name=some d∧d.Kind=1)∧(s.Kind=2→V)
theorem Vh.mono {C:Prop→Wa→Prop} (d:∀ (V c:Prop) (s:Wa),(V→c)→C V s→C c s):∀ {V c:Prop} {l:List Wa},(V→c)→Vh C V l→Vh C c l
 | _,_,[],h,g=>g
 | V,c,s::t,h,⟨a,b⟩=>⟨d V c s h a,Vh.mono d (fun q=>q.imp h id) b⟩
theorem Dg.mono {p:Zb}:∀ {k:Nat} {V f:Prop} {s:Wa},(V→f)→Dg p k V s→Dg p k f s
 | 0,_,_,_,h,g=>g
 | k+1,V,f,s,h,⟨a,b,c,d,e⟩=>⟨fun q=>Sb.mono h (a q),fun q=>Vh.mono (C:=Dg p k) (fun _ _ _ h=>Dg.mono h) h (b q),fun q=>Vh.mono (C:=Dg p k) (fun _ _ _ h=>Dg.mono h) h (c q),d,fun q=>h (e q)⟩
theorem sy {p:Zb} {B:Ug} (a:Ek p B) (qa:B.length≤100) (fu:Nat) (i:110≤fu) (d:va) (name:List UInt8):∃ t b,xo fu p d B name=some (t,b)∧(b=true→Ni p t∧Jg B):=by
 have L:∀ (n j:Nat),j≤B.length→j<n→∃ t b,Vo name B n ((j:Int) - 1)=some (t,b)∧(b=true→Ni p t∧Jg B):=by
  intro n
  induction n with
  | zero=>intro j c f; omega
  | succ n g =>
   intro j c f
   rw [Vo]
   cases j with
   | zero=>rw [if_neg (by omega)]; exact ⟨_,_,rfl,by simp⟩
   | succ j =>
    have e:((j+1:Nat):Int) - 1=(j:Int):=by omega
    rw [e,if_pos (by omega),Rd,List.getElem?_eq_getElem (show j<B.length by omega),ca]
    cases h:vb B[j] name with
    | none =>
     rw [if_neg (by simp),Cc (by omega),ca]
     exact g j (by omega) (by omega)
    | some t=>exact ⟨t,true,rfl,fun _=>⟨a _ (List.getElem_mem _) _ _ h,⟨B[j],List.getElem_mem _,fun e=>by rw [e] at h; cases h⟩⟩⟩
 rw [xo,Cc (by omega),ca]
 exact L fu B.length (by omega) (by omega)
structure eH (n:Nat):Prop where
 typed:∀ (k:Nat) (p:Zb) (d:va) (B:Ug) (x:ua) (t:Ya),vl p d B→bh k x→3*k+111≤n→∃ e,(Sf n).Ng p d B x t=some e∧(e=0→Sb p (Jg B) k x)
 args:∀ (k:Nat) (p:Zb) (d:va) (B:Ug) (x:ua) (kind:Int),vl p d B→(∀ y ∈ x.Kids,bh k y)→x.Kids.length≤6→(kind=2∨kind=3)→3*k+112≤n →
  ∃ c e,(Sf n).dk p d B x kind=some (c,e)∧(e=0→∃ f,c=some f∧vb p.named x.Name=some f∧f.Kind=kind∧∀ y ∈ x.Kids,Sb p (Jg B) k y)
 both:∀ (k:Nat) (p:Zb) (d:va) (B:Ug) (x a b:ua),vl p d B→x.Kids=[a,b]→bh k a→bh k b→3*k+112≤n→∃ t e,(Sf n).Vk p d B x=some (t,e)∧(e=0→Sb p (Jg B) k a∧Sb p (Jg B) k b)
 handle:∀ (k:Nat) (p:Zb) (d:va) (B:Ug) (x:ua),vl p d B→bh k x→3*k+112≤n→∃ c e,(Sf n).ak p d B x=some (c,e)∧(e=0→(∃ f g,c=some f∧vb p.named g=some f∧f.Kind=3)∧Sb p (Jg B) k x)
 expr:∀ (k:Nat) (p:Zb) (d:va) (B:Ug) (x:ua),vl p d B→bh k x→3*k+110≤n→∃ t e,(Sf n).Gh p d B x=some (t,e)∧(e=0→Ni p t∧Sb p (Jg B) k x)
theorem lB:∀ n,eH n:=by
 intro n
 induction n with
 | zero=>exact ⟨fun _ _ _ _ _ _ _ _ h=>by omega,fun _ _ _ _ _ _ _ _ _ _ h=>by omega,fun _ _ _ _ _ _ _ _ _ _ _ h=>by omega,fun _ _ _ _ _ _ _ h=>by omega,fun _ _ _ _ _ _ _ h=>by omega⟩
 | succ n u =>
  refine ⟨fun k p d B x t H A Q=>?_,fun k p d B x kind H A qa E Q=>?_,fun k p d B x a b H A j N Q=>?_,fun k p d B x H A Q=>?_,fun k p d B x H A Q=>?_⟩
  ·show ∃ e,Ng (Sf n) p d B x t=some e∧_
   obtain ⟨ld,e,r,o⟩:=u.expr k p d B x H A (by omega)
   rw [Ng,r,ca]
   by_cases z:e=0
   ·rw [if_pos z,gm,ca,Ku]
    exact ⟨_,rfl,fun _=>(o z).2⟩
   ·rw [if_neg z,Ku]
    exact ⟨e,rfl,fun h=>absurd h z⟩
  ·show ∃ v e,dk (Sf n) p d B x kind=some (v,e)∧_
   rw [dk,Up,ca]
   by_cases c:bn (vb p.named x.Name) kind=true
   ·obtain ⟨f,K,V⟩:=pq c
    rw [if_pos c,K]
    simp only [ca]
    have wd:=H.fo _ _ K
    have ce:=wd.pl (by omega)
    by_cases q:(f.Params.length:Int)≠x.Kids.length
    ·rw [decide_eq_true q]; exact ⟨none,5,rfl,fun h=>absurd h (by decide)⟩
    ·rw [decide_eq_false q,et,if_neg (by decide)]
     simp only [ca]
     have L:∀ (m i:Nat),i≤f.Params.length→f.Params.length<m+i→∃ v e,Wo (Sf n) x p d B (some f,bn (some f) kind) f m i=some (v,e)∧(e=0→v=some f∧∀ y ∈ x.Kids.drop i,Sb p (Jg B) k y):=by
      intro m
      induction m with
      | zero=>intro i r o; omega
      | succ m W =>
       intro i r o
       rw [Wo]
       by_cases c:i<f.Params.length
       ·have rc:i<x.Kids.length:=by omega
        obtain ⟨e,sa,w⟩:=u.typed k p d B x.Kids[i] f.Params[i].zb H (A _ (List.getElem_mem _)) (by omega)
        rw [if_pos (by omega),Rd,List.getElem?_eq_getElem c,ca,Rd,List.getElem?_eq_getElem rc,ca,sa,ca]
        by_cases z:e=0
        ·rw [if_neg (by simpa using z),Cc (by omega),ca]
         obtain ⟨v,P,F,D⟩:=W (i+1) c (by omega)
         refine ⟨v,P,F,fun s=>⟨(D s).1,fun y C=>?_⟩⟩
         rw [List.drop_eq_getElem_cons rc] at C
         rcases List.mem_cons.1 C with rfl | C
         ·exact w z
         ·exact (D s).2 y C
        ·rw [if_pos z]; exact ⟨none,e,rfl,fun h=>absurd h z⟩
       ·rw [if_neg (by omega),List.drop_eq_nil_of_le (by omega)]
        exact ⟨some f,0,rfl,fun _=>⟨rfl,by simp⟩⟩
     obtain ⟨v,e,F,D⟩:=L (f.Params.length+1) 0 (by omega) (by omega)
     refine ⟨v,e,F,fun s=>?_⟩
     obtain ⟨s1,s2⟩:=D s
     rw [List.drop_zero] at s2
     exact ⟨f,s1,rfl,V,s2⟩
   ·rw [if_neg c]
    exact ⟨none,7,rfl,fun h=>absurd h (by decide)⟩
  ·show ∃ t e,Vk (Sf n) p d B x=some (t,e)∧_
   obtain ⟨t1,sa,r,o⟩:=u.expr k p d B a H j (by omega)
   obtain ⟨t2,w,g1,g2⟩:=u.expr k p d B b H N (by omega)
   have k0:at_ x.Kids 0=some a:=by rw [A]; rfl
   have k1:at_ x.Kids 1=some b:=by rw [A]; rfl
   rw [Vk,k0,ca,r,ca]
   by_cases z:sa=0
   ·rw [if_neg (by simpa using z),k1,ca,g1,ca]
    by_cases z2:w=0
    ·have fin:∀ re,∃ t e,Xo (t1,sa) (t2,w) re=some (t,e)∧(e=0→Sb p (Jg B) k a∧Sb p (Jg B) k b):=fun re=>by rw [Mu]; exact ⟨_,_,rfl,fun _=>⟨(o z).2,(g2 z2).2⟩⟩
     rw [if_pos z2]
     split
     ·rw [Hm,ca]; exact fin _
     ·exact fin _
    ·rw [if_neg z2,Mu]
     exact ⟨_,w,rfl,fun h=>absurd h z2⟩
   ·rw [if_pos z]
    exact ⟨_,sa,rfl,fun h=>absurd h z⟩
  ·show ∃ v e,ak (Sf n) p d B x=some (v,e)∧_
   obtain ⟨t,e,r,o⟩:=u.expr k p d B x H A (by omega)
   rw [ak,r,ca]
   by_cases z:e=0
   ·rw [if_neg (by simpa using z),Hm,ca]
    by_cases q:t.Kind≠3
    ·rw [if_pos (decide_eq_true q)]; exact ⟨none,9,rfl,fun h=>absurd h (by decide)⟩
    ·obtain ⟨f,f1,f2⟩:=(o z).1 (Decidable.not_not.1 q)
     rw [if_neg (by simpa using q)]
     exact ⟨_,0,rfl,fun _=>⟨⟨f,t.Nb,f1,f1,f2⟩,(o z).2⟩⟩
   ·rw [if_pos z]
    exact ⟨none,e,rfl,fun h=>absurd h z⟩
  ·show ∃ t e,Gh n (Sf n) p d B x=some (t,e)∧_
   cases k with
   | zero=>cases A
   | succ k =>
   obtain ⟨k1,ge,E,M⟩:=A
   have R:jg x.Kind=1→∃ a,x.Kids=[a]∧bh k a:=fun h=>by
    obtain ⟨a,j⟩:=one (l:=x.Kids) (by have:=E.eq (by omega); omega)
    exact ⟨a,j,M a (by simp [j])⟩
   have fd:jg x.Kind=2→∃ a b,x.Kids=[a,b]∧bh k a∧bh k b:=fun h=>by
    obtain ⟨a,b,j⟩:=two (l:=x.Kids) (by have:=E.eq (by omega); omega)
    exact ⟨a,b,j,M a (by simp [j]),M b (by simp [j])⟩
   have S:jg x.Kind=0→x.Kids=[]:=fun h=>List.length_eq_zero_iff.1 (by have:=E.eq (by omega); omega)
   have Aa:x.Kind≠19→x.Kind≠20→x.Kind≠22→x.Kind≠3→(∀ y ∈ x.Kids,Sb p (Jg B) k y)→Sb p (Jg B) (k+1) x:=fun r o Fd Id be=>⟨fun h=>absurd h r,fun h=>absurd h Fd,fun h=>absurd h o,fun h=>absurd h Id,be⟩
   rw [Gh]
   by_cases X:x.Kind=1
   ·rw [if_pos X]
    exact ⟨_,0,rfl,fun _=>⟨.of (by decide),Aa (by omega) (by omega) (by omega) (by omega) (by rw [S (by rw [X]; rfl)]; simp)⟩⟩
   rw [if_neg X]
   by_cases c2:x.Kind=2
   ·rw [if_pos c2]
    exact ⟨_,0,rfl,fun _=>⟨.of (by decide),Aa (by omega) (by omega) (by omega) (by omega) (by rw [S (by rw [c2]; rfl)]; simp)⟩⟩
   rw [if_neg c2]
   by_cases c3:x.Kind=3
   ·obtain ⟨t,b,r,o⟩:=sy H.mg H.Kd n (by omega) d x.Name
    rw [if_pos c3,r,ca]
    cases b with
    | true=>exact ⟨t,0,rfl,fun _=>⟨(o rfl).1,⟨fun h=>by omega,fun h=>by omega,fun h=>by omega,fun _=>(o rfl).2,by rw [S (by rw [c3]; rfl)]; simp⟩⟩⟩
    | false=>exact ⟨_,7,rfl,fun h=>absurd h (by decide)⟩
   rw [if_neg c3]
   by_cases c4:x.Kind=4
   ·obtain ⟨a,j,G⟩:=R (by rw [c4]; rfl)
    obtain ⟨e,sa,w⟩:=u.typed k p d B a ⟨1,[]⟩ H G (by omega)
    have k0:at_ x.Kids 0=some a:=by rw [j]; rfl
    rw [if_pos c4,k0,ca,fk,ca,ca,sa,ca]
    exact ⟨_,e,rfl,fun s=>⟨.of (by decide),Aa (by omega) (by omega) (by omega) (by omega) (by rw [j]; simpa using w s)⟩⟩
   rw [if_neg c4]
   by_cases c5:x.Kind=5
   ·obtain ⟨a,j,G⟩:=R (by rw [c5]; rfl)
    obtain ⟨e,sa,w⟩:=u.typed k p d B a ⟨2,[]⟩ H G (by omega)
    have k0:at_ x.Kids 0=some a:=by rw [j]; rfl
    rw [if_pos c5,k0,ca,Di,ca,ca,sa,ca]
    exact ⟨_,e,rfl,fun s=>⟨.of (by decide),Aa (by omega) (by omega) (by omega) (by omega) (by rw [j]; simpa using w s)⟩⟩
   rw [if_neg c5]
   have id:∀ b,(b=true ↔ x.Kind=11∨x.Kind=12)→∃ t e,Zo (Sf n) x p d B b=some (t,e)∧(e=0→Ni p t∧Sb p (Jg B) (k+1) x):=by
    intro b N
    rw [Zo]
    by_cases q:b=true
    ·have c:=N.1 q
     obtain ⟨a,T,j,Y,Qf⟩:=fd (by rcases c with c | c <;> rw [c] <;> rfl)
     obtain ⟨t,e,r,o⟩:=u.both k p d B x a T H j Y Qf (by omega)
     rw [if_pos q,r,ca,Di,ca]
     exact ⟨_,e,rfl,fun s=>⟨.of (by decide),Aa (by omega) (by omega) (by omega) (by omega) (by rw [j]; simpa using o s)⟩⟩
    rw [if_neg q]
    have he:x.Kind≠11:=fun h=>q (N.2 (.inl h))
    have ne:x.Kind≠12:=fun h=>q (N.2 (.inr h))
    by_cases md:x.Kind=19
    ·obtain ⟨v,e,r,o⟩:=u.args k p d B x 2 H M E.le (.inl rfl) (by omega)
     rw [if_pos md,r,ca]
     by_cases z:e=0
     ·obtain ⟨f,rfl,g1,g2,g3⟩:=o z
      rw [if_neg (by simpa using z)]
      simp only [ca]
      rw [gm,ca]
      exact ⟨_,0,rfl,fun _=>⟨.of (by rw [wo]; exact (H.fo _ _ g1).ty (by omega)),⟨fun _=>⟨f,g1,g2⟩,fun h=>by omega,fun h=>by omega,fun h=>by omega,g3⟩⟩⟩
     ·rw [if_pos z]
      exact ⟨_,e,rfl,fun h=>absurd h z⟩
    rw [if_neg md]
    by_cases c20:x.Kind=20
    ·rw [if_pos c20,Up,ca]
     by_cases c:bn (vb p.named x.Name) 1=true
     ·obtain ⟨f,K,V⟩:=pq c
      rw [if_pos c,K]
      simp only [ca]
      rw [gm,ca]
      exact ⟨_,0,rfl,fun _=>⟨.of (by rw [wo]; exact (H.fo _ _ K).ty (by omega)),⟨fun h=>by omega,fun h=>by omega,fun _=>⟨f,K,V⟩,fun h=>by omega,by rw [S (by rw [c20]; rfl)]; simp⟩⟩⟩
     ·rw [if_neg c]
      exact ⟨_,7,rfl,fun h=>absurd h (by decide)⟩
    rw [if_neg c20]
    by_cases c21:x.Kind=21
    ·obtain ⟨a,j,G⟩:=R (by rw [c21]; rfl)
     obtain ⟨e,sa,w⟩:=u.typed k p d B a d.zb H G (by omega)
     have k0:at_ x.Kids 0=some a:=by rw [j]; rfl
     rw [if_pos c21]
     by_cases Z:d.Kind=3
     ·rw [if_neg (by simpa using Z),k0,ca,gm,ca,sa,ca]
      exact ⟨_,e,rfl,fun s=>⟨.of (by show (hg d.Hc).Kind≠3; rw [wo]; exact H.ya.Mh Z),Aa (by omega) (by omega) (by omega) (by omega) (by rw [j]; simpa using w s)⟩⟩
     ·rw [if_pos Z]
      exact ⟨_,8,rfl,fun h=>absurd h (by decide)⟩
    rw [if_neg c21]
    by_cases rd:x.Kind=22
    ·obtain ⟨v,e,r,o⟩:=u.args k p d B x 3 H M E.le (.inr rfl) (by omega)
     rw [if_pos rd,r,ca]
     refine ⟨_,e,rfl,fun s=>?_⟩
     obtain ⟨f,-,g1,g2,g3⟩:=o s
     exact ⟨fun _=>⟨f,g1,g2⟩,⟨fun h=>by omega,fun _=>⟨f,g1,g2⟩,fun h=>by omega,fun h=>by omega,g3⟩⟩
    rw [if_neg rd]
    by_cases gc:x.Kind=23
    ·obtain ⟨a,T,j,Y,Qf⟩:=fd (by rw [gc]; rfl)
     obtain ⟨v,e,r,o⟩:=u.handle k p d B a H Y (by omega)
     have k0:at_ x.Kids 0=some a:=by rw [j]; rfl
     have k1:at_ x.Kids 1=some T:=by rw [j]; rfl
     rw [if_pos gc,k0,ca,r,ca]
     by_cases z:e=0
     ·obtain ⟨⟨f,g,rfl,g1,g2⟩,g3⟩:=o z
      obtain ⟨P,F,D⟩:=u.typed k p d B T f.Hc H Qf (by omega)
      rw [if_neg (by simpa using z)]
      simp only [ca]
      rw [k1,ca,gm,ca,F,ca]
      exact ⟨_,P,rfl,fun s=>⟨.of (by show (hg f.zb).Kind≠3; rw [wo]; exact (H.fo _ _ g1).ty (by omega)),Aa (by omega) (by omega) (by omega) (by omega) (by rw [j]; simpa using ⟨g3,D s⟩)⟩⟩
     ·rw [if_pos z]
      exact ⟨_,e,rfl,fun h=>absurd h z⟩
    rw [if_neg gc]
    by_cases c24:x.Kind=24
    ·obtain ⟨a,j,G⟩:=R (by rw [c24]; rfl)
     obtain ⟨v,e,r,o⟩:=u.handle k p d B a H G (by omega)
     have k0:at_ x.Kids 0=some a:=by rw [j]; rfl
     rw [if_pos c24,k0,ca,r,ca,Di,ca]
     exact ⟨_,e,rfl,fun s=>⟨.of (by decide),Aa (by omega) (by omega) (by omega) (by omega) (by rw [j]; simpa using (o s).2)⟩⟩
    rw [if_neg c24]
    have L:∀ (i1 i2:Int) (s1 s2:List UInt8) (m i:Nat),i≤x.Kids.length→x.Kids.length<m+i→∃ e,Yo (Sf n) x p d B i1 s1 i2 s2 m i=some (⟨i2,s2⟩,e)∧(e=0→∀ y ∈ x.Kids.drop i,Sb p (Jg B) k y):=by
     intro i1 i2 s1 s2 m
     induction m with
     | zero=>intro i r o; omega
     | succ m W =>
      intro i r o
      rw [Yo]
      by_cases c:i<x.Kids.length
      ·have:=E.le
       obtain ⟨e,sa,w⟩:=u.typed k p d B x.Kids[i] ⟨i1,s1⟩ H (M _ (List.getElem_mem _)) (by omega)
       rw [if_pos (by omega),Rd,List.getElem?_eq_getElem c,ca,sa,ca]
       by_cases z:e=0
       ·rw [if_neg (by simpa using z),Cc (by omega),ca]
        obtain ⟨P,F,D⟩:=W (i+1) c (by omega)
        refine ⟨P,F,fun s y C=>?_⟩
        rw [List.drop_eq_getElem_cons c] at C
        rcases List.mem_cons.1 C with rfl | C
        ·exact w z
        ·exact D s y C
       ·rw [if_pos z]; exact ⟨e,rfl,fun h=>absurd h z⟩
      ·rw [if_neg (by omega),List.drop_eq_nil_of_le (by omega)]
       exact ⟨0,rfl,fun _=>by simp⟩
    have lc:∀ (i1 i2:Int) (s1 s2:List UInt8),i2≠3→∃ t e,Mp (Sf n) x p d B i1 s1 i2 s2=some (t,e)∧(e=0→Ni p t∧Sb p (Jg B) (k+1) x):=by
     intro i1 i2 s1 s2 h
     obtain ⟨e,r,o⟩:=L i1 i2 s1 s2 (x.Kids.length+1) 0 (by omega) (by omega)
     exact ⟨_,e,r,fun s=>⟨.of h,Aa (by omega) (by omega) (by omega) (by omega) (by simpa using o s)⟩⟩
    rw [fk,ca,ca,Di]
    simp only [ca]
    split
    ·exact lc _ _ _ _ (by decide)
    ·split
     ·exact lc _ _ _ _ (by decide)
     ·exact lc _ _ _ _ (by decide)
   split
   ·rename_i h; exact id _ (by simp [h])
   ·rename_i h; exact id _ (by simp [h])
structure fH (n:Nat):Prop where
 stats:∀ (k:Nat) (p:Zb) (d:va) (B:Ug) (l:List Wa),vl p d B→l.length≤50→(∀ y ∈ l,Bj k y)→B.length+k≤90→5*k+130≤n →
  ∃ e,(ek n).sj p d B l=some (e,B)∧(e=0→Vh (Dg p k) (Jg B) l)
 stat:∀ (k:Nat) (p:Zb) (d:va) (B:Ug) (s:Wa),vl p d B→0<B.length→Bj k s→B.length+k≤91→5*k+129≤n →
  ∃ e a,(ek n).Wk p d B s=some (e,a)∧a.length=B.length∧a.take (B.length - 1)=B.take (B.length - 1)∧Ek p a∧(e=0→Dg p k (Jg B) s)∧(Jg a→Jg B∨s.Kind=1)
theorem pF:∀ n,fH n:=by
 intro n
 induction n with
 | zero=>exact ⟨fun _ _ _ _ _ _ _ _ _ h=>by omega,fun _ _ _ _ _ _ _ _ _ h=>by omega⟩
 | succ n F =>
  refine ⟨fun k p d B l H qa x Z gc=>?_,fun k p d B s H le x Z gc=>?_⟩
  ·show ∃ e,sj (ek n) p d B l=some (e,B)∧_
   rw [sj,app,if_pos (by simp; omega),ca,dt]
   have L:∀ (m i:Nat) (a:Ug),i≤l.length→l.length<m+i→a.length=B.length+1→a.take B.length=B→Ek p a →
     ∃ e,To (ek n) l p d m i a=some (e,B)∧(e=0→Vh (Dg p k) (Jg a) (l.drop i)):=by
    intro m
    induction m with
    | zero=>intro i a j g; omega
    | succ m lc =>
     intro i a j g g1 g2 g3
     rw [To]
     have pop:∀ C:Ug,C.length=B.length+1→C.take B.length=B→tp p d C=some B:=fun C sa v=>by
      rw [Nz p d C (by omega) (by omega),sa,Nat.add_sub_cancel,v]
     by_cases c:i<l.length
     ·obtain ⟨e,G,rc,K,R,fd,id,md⟩:=F.stat k p d a l[i] ⟨H.fo,H.ya,g3,by omega⟩ (by omega) (x _ (List.getElem_mem _)) (by omega) (by omega)
      rw [g1,Nat.add_sub_cancel] at R
      rw [g1] at K
      have v:G.take B.length=B:=R.trans g2
      rw [if_pos (by omega),Rd,List.getElem?_eq_getElem c,ca,rc,ca]
      by_cases z:e=0
      ·rw [if_neg (by simpa using z),Cc (by omega),ca]
       obtain ⟨rd,s1,s2⟩:=lc (i+1) G c (by omega) K v fd
       refine ⟨rd,s1,fun r=>?_⟩
       rw [List.drop_eq_getElem_cons c]
       exact ⟨id z,Vh.mono (C:=Dg p k) (fun _ _ _ h=>Dg.mono h) md (s2 r)⟩
      ·rw [if_pos z]
       simp only []
       rw [pop G K v,ca]
       exact ⟨e,rfl,fun h=>absurd h z⟩
     ·rw [if_neg (by omega),pop a g1 g2,ca,List.drop_eq_nil_of_le (by omega)]
      exact ⟨0,rfl,fun _=>trivial⟩
   have:=L (l.length+1) 0 (B++[[]]) (by omega) (by omega) (by simp) (by simp) (fun m hm y t M=>by
    rcases List.mem_append.1 hm with hm | hm
    ·exact H.mg m hm y t M
    ·rw [List.mem_singleton.1 hm] at M; cases M)
   obtain ⟨e,sa,v⟩:=this
   rw [List.drop_zero] at v
   refine ⟨e,sa,fun r=>Vh.mono (C:=Dg p k) (fun _ _ _ h=>Dg.mono h) (fun ⟨m,hm,S⟩=>?_) (v r)⟩
   rcases List.mem_append.1 hm with hm | hm
   ·exact ⟨m,hm,S⟩
   ·exact absurd (List.mem_singleton.1 hm) S
  ·show ∃ e a,Wk n (ek n) p d B s=some (e,a)∧_
   cases k with
   | zero=>cases x
   | succ k =>
   obtain ⟨k1,ne,w,T,he⟩:=x
   have A:=(lB n).typed k p d B s.X
   have N:=(lB n).expr k p d B s.X
   have same:∀ e:Int,(e=0→Dg p (k+1) (Jg B) s)→∀ o:Option (Int×Ug),o=some (e,B)→∃ e a,o=some (e,a)∧a.length=B.length∧a.take (B.length - 1)=B.take (B.length - 1)∧Ek p a∧(e=0→Dg p (k+1) (Jg B) s)∧(Jg a→Jg B∨s.Kind=1) :=
    fun e h o wd=>⟨e,B,wd,rfl,rfl,H.mg,h,.inl⟩
   have cs:s.Kind≠3→s.Kind≠4→s.Kind≠7→(s.Kind=2→Jg B)→(s.Kind≠6→Sb p (Jg B) k s.X)→Dg p (k+1) (Jg B) s:=fun Fd Ne Id g h=>⟨h,fun h=>by omega,fun h=>absurd h Fd,fun h=>absurd h Id,g⟩
   rw [Wk]
   by_cases P:s.Kind=1
   ·obtain ⟨t,e,j,g⟩:=N H (w (by omega)) (by omega)
    rw [if_pos P,j,ca]
    by_cases z:e=0
    ·obtain ⟨ld,b,g1,g2⟩:=sy H.mg H.Kd n (by omega) d s.Name
     rw [if_neg (by simpa using z),g1,ca]
     cases b with
     | true=>exact same 7 (fun h=>absurd h (by decide)) _ rfl
     | false =>
      have be:B.length - 1<B.length:=by omega
      have sa:(B.length:Int) - 1=((B.length - 1:Nat):Int):=by omega
      rw [if_neg (by simp),Cc (by omega),ca,sa,Rd,List.getElem?_eq_getElem be,ca,Np]
      refine ⟨0,_,rfl,by simp,?_,fun m hm y u hu=>?_,fun _=>cs (by omega) (by omega) (by omega) (fun h=>by omega) fun _=>(g z).2,fun _=>.inr P⟩
      ·simp [List.take_set_of_le]
      ·rcases List.mem_or_eq_of_mem_set hm with hm | rfl
       ·exact H.mg m hm y u hu
       ·rw [ck] at hu
        split at hu
        ·obtain rfl:=Option.some.inj hu
         exact (g z).1
        ·exact H.mg _ (List.getElem_mem _) y u hu
    ·rw [if_pos z]
     exact same e (fun h=>absurd h z) _ rfl
   rw [if_neg P]
   by_cases c2:s.Kind=2
   ·obtain ⟨ld,b,g1,g2⟩:=sy H.mg H.Kd n (by omega) d s.Name
    rw [if_pos c2,g1,ca]
    cases b with
    | false=>exact same 7 (fun h=>absurd h (by decide)) _ rfl
    | true =>
     obtain ⟨e,j,g⟩:=A ld H (w (by omega)) (by omega)
     rw [if_pos rfl,j,ca]
     exact same e (fun r=>cs (by omega) (by omega) (by omega) (fun _=>(g2 rfl).2) fun _=>g r) _ rfl
   rw [if_neg c2]
   have V:∀ b,(b=true ↔ s.Kind=3∨s.Kind=4)→∃ e a,bp n (ek n) s p d B b=some (e,a)∧a.length=B.length∧a.take (B.length - 1)=B.take (B.length - 1)∧Ek p a∧(e=0→Dg p (k+1) (Jg B) s)∧(Jg a→Jg B∨s.Kind=1):=by
    intro b Q
    rw [bp]
    by_cases q:b=true
    ·have c:=Q.1 q
     obtain ⟨e,j,g⟩:=A ⟨2,[]⟩ H (w (by omega)) (by omega)
     rw [if_pos q,Di,ca,j,ca]
     by_cases z:e=0
     ·rw [if_neg (by simpa using z)]
      obtain ⟨v,g1,g2⟩:=F.stats k p d B s.Body H (T c).1 (T c).2 (by omega) (by omega)
      rw [g1,ca]
      by_cases z2:v=0
      ·rw [if_neg (by simpa using z2)]
       by_cases c4:s.Kind=4
       ·rw [decide_eq_true c4]
        exact same v (fun _=>⟨fun _=>g z,fun _=>g2 z2,fun h=>by omega,fun h=>by omega,fun h=>by omega⟩) _ rfl
       ·have c3:s.Kind=3:=by omega
        obtain ⟨ce,f1,f2⟩:=F.stats k p d B s.jd H (he c3).1 (he c3).2 (by omega) (by omega)
        rw [decide_eq_false c4,Nq,if_neg (by decide)]
        simp only []
        rw [f1,ca]
        exact same ce (fun r=>⟨fun _=>g z,fun _=>g2 z2,fun _=>f2 r,fun h=>by omega,fun h=>by omega⟩) _ rfl
      ·rw [if_pos z2]
       exact same v (fun h=>absurd h z2) _ rfl
     ·rw [if_pos z]
      exact same e (fun h=>absurd h z) _ rfl
    rw [if_neg q]
    have D:s.Kind≠3:=fun h=>q (Q.2 (.inl h))
    have E:s.Kind≠4:=fun h=>q (Q.2 (.inr h))
    by_cases c5:s.Kind=5
    ·rw [if_pos c5]
     split
     ·exact same 8 (fun h=>absurd h (by decide)) _ rfl
     ·obtain ⟨e,j,g⟩:=A d.zb H (w (by omega)) (by omega)
      rw [j,ca]
      exact same e (fun r=>cs D E (by omega) (fun h=>absurd h c2) fun _=>g r) _ rfl
    rw [if_neg c5]
    by_cases Tc:s.Kind=6
    ·rw [if_pos Tc]
     split
     ·exact same 8 (fun h=>absurd h (by decide)) _ rfl
     ·exact same 0 (fun r=>cs D E (by omega) (fun h=>absurd h c2) fun h=>absurd Tc h) _ rfl
    rw [if_neg Tc]
    by_cases W:s.Kind=7
    ·rw [if_pos W,Up,ca]
     by_cases c:bn (vb p.named s.Name) 1=true
     ·obtain ⟨f,Y,ge⟩:=pq c
      obtain ⟨e,j,g⟩:=A f.zb H (w (by omega)) (by omega)
      rw [if_pos c,Y]
      simp only [ca]
      rw [j,ca]
      exact same e (fun r=>⟨fun _=>g r,fun h=>by omega,fun h=>by omega,fun _=>⟨f,Y,ge⟩,fun h=>by omega⟩) _ rfl
     ·rw [if_neg c]
      exact same 7 (fun h=>absurd h (by decide)) _ rfl
    rw [if_neg W]
    by_cases eh:s.Kind=8
    ·obtain ⟨t,e,j,g⟩:=N H (w (by omega)) (by omega)
     rw [if_pos eh,j,ca]
     by_cases z:e=0
     ·rw [if_pos z,Hm,ca,Nu]
      exact same _ (fun _=>cs D E (by omega) (fun h=>absurd h c2) fun _=>(g z).2) _ rfl
     ·rw [if_neg z,Nu]
      exact same e (fun h=>absurd h z) _ rfl
    rw [if_neg eh]
    by_cases c9:s.Kind=9
    ·obtain ⟨t,e,j,g⟩:=N H (w (by omega)) (by omega)
     rw [if_pos c9,j,ca]
     exact same e (fun r=>cs D E (by omega) (fun h=>absurd h c2) fun _=>(g r).2) _ rfl
    ·omega
   split
   ·rename_i h; exact V _ (by simp [h])
   ·rename_i h; exact V _ (by simp [h])
theorem gI (fu:Nat) (A:500≤fu) (p:Zb) (d:va) (r:Py p) (f:cl p d) (ya:Tl d):∃ e,yo fu p d=some e∧(e=0→d.Kind≠1→Vh (Dg p 39) (d.Kind≠4∧d.Params≠[]) d.Body):=by
 rw [yo]
 by_cases b:d.Kind=1
 ·rw [if_pos b]; exact ⟨0,rfl,fun _ h=>absurd b h⟩
 ·rw [if_neg b]
  have n:∀ B:Ug,B.length=1→Ek p B→(Jg B→d.Kind≠4∧d.Params≠[])→∃ e,dp fu p d B=some e∧(e=0→d.Kind≠1→Vh (Dg p 39) (d.Kind≠4∧d.Params≠[]) d.Body):=by
   intro B o g s
   obtain ⟨e,u,v⟩:=(pF fu).stats 39 p d B d.Body ⟨r,f,g,by omega⟩ (ya.Kd b) (ya.Rf b) (by omega) (by omega)
   rw [dp,u,ca]
   exact ⟨e,rfl,fun w _=>Vh.mono (C:=Dg p 39) (fun _ _ _ h=>Dg.mono h) s (v w)⟩
  by_cases c4:d.Kind=4
  ·rw [if_neg (by simpa using c4)]
   exact n _ rfl (fun m hm k t a=>by rw [List.mem_singleton.1 hm] at a; cases a) (fun ⟨m,hm,j⟩=>absurd (List.mem_singleton.1 hm) j)
  ·rw [if_pos c4]
   have q:d.Kind=2∨d.Kind=3:=by have:=ya.k1; have:=ya.Af; omega
   have D:=f.pl q
   have L:∀ (m i:Nat) (B:Ug),i≤d.Params.length→d.Params.length<m+i→B.length=1→Ek p B→(Jg B→d.Kind≠4∧d.Params≠[])→∃ e,po fu p d m i B=some e∧(e=0→d.Kind≠1→Vh (Dg p 39) (d.Kind≠4∧d.Params≠[]) d.Body):=by
    intro m
    induction m with
    | zero=>intro i B o g; omega
    | succ m x =>
     intro i B o g g1 g2 g3
     rw [po]
     by_cases c:i<d.Params.length
     ·have y:0<B.length:=by omega
      rw [if_pos (by omega),Rd,List.getElem?_eq_getElem c,ca,yg y,ca,gm,ca,ht,Cc (by omega),ca]
      refine x (i+1) _ c (by omega) (by simpa using g1) (fun z l k t a=>?_) fun _=>⟨c4,fun e=>by rw [e] at c; exact absurd c (by simp)⟩
      rcases List.mem_or_eq_of_mem_set l with l | rfl
      ·exact g2 z l k t a
      ·rw [ck] at a
       split at a
       ·obtain rfl:=Option.some.inj a
        exact (f.cg q _ (List.getElem_mem _)).bare
       ·exact g2 _ (List.getElem_mem _) k t a
     ·rw [if_neg (by omega)]
      exact n B g1 g2 g3
   exact L (d.Params.length+1) 0 _ (by omega) (by omega) rfl (fun m hm k t a=>by rw [List.mem_singleton.1 hm] at a; cases a) (fun ⟨m,hm,j⟩=>absurd (List.mem_singleton.1 hm) j)
end Go.Y
namespace Go.Y
open Go.bc Go.Dc
abbrev Nm:=List UInt8
def Tj:Nat→ua→List Nm
 | 0,_=>[]
 | k+1,x=>(if x.Kind=19∨x.Kind=22 then [x.Name] else [])++(x.Kids.map (Tj k)).flatten
def Ok:Nat→ua→List Nm
 | 0,_=>[]
 | k+1,x=>(if x.Kind=20 then [x.Name] else [])++(x.Kids.map (Ok k)).flatten
def Ci:Nat→Wa→List Nm
 | 0,_=>[]
 | k+1,s=>(if s.Kind=6 then [] else Tj k s.X)++(if s.Kind=3∨s.Kind=4 then (s.Body.map (Ci k)).flatten else [])++(if s.Kind=3 then (s.jd.map (Ci k)).flatten else [])
def dj:Nat→Wa→List Nm
 | 0,_=>[]
 | k+1,s=>(if s.Kind=6 then [] else Ok k s.X)++(if s.Kind=3∨s.Kind=4 then (s.Body.map (dj k)).flatten else [])++(if s.Kind=3 then (s.jd.map (dj k)).flatten else [])
def ej:Nat→Wa→List Nm
 | 0,_=>[]
 | k+1,s=>(if s.Kind=7 then [s.Name] else [])++(if s.Kind=3∨s.Kind=4 then (s.Body.map (ej k)).flatten else [])++(if s.Kind=3 then (s.jd.map (ej k)).flatten else [])
theorem xk {α β:Type} (f:α→List β) (g:α→Nat) (h:∀ x,(f x).length≤g x):∀ l:List α,(l.map f).flatten.length≤(l.map g).sum
 | []=>by simp
 | x::l=>by
  have:=xk f g h l
  have:=h x
  simp only [List.map_cons,List.flatten_cons,List.length_append,List.sum_cons]
  omega
theorem jy {α:Type} (g:α→Nat):∀ (l:List α) (x:α),x ∈ l→g x≤(l.map g).sum
 | y::l,x,h=>by
  rw [List.map_cons,List.sum_cons]
  rcases List.mem_cons.1 h with rfl | h
  ·omega
  ·have:=jy g l x h; omega
theorem tw:∀ (k:Nat) (x:ua),(Tj k x).length≤Mg k x
 | 0,x=>by simp [Tj]
 | k+1,x=>by
  have:=xk (Tj k) (Mg k) (tw k) x.Kids
  rw [Tj,Mg,List.length_append]
  split <;> simp only [List.length_cons,List.length_nil] <;> omega
theorem uw:∀ (k:Nat) (x:ua),(Ok k x).length≤Mg k x
 | 0,x=>by simp [Ok]
 | k+1,x=>by
  have:=xk (Ok k) (Mg k) (uw k) x.Kids
  rw [Ok,Mg,List.length_append]
  split <;> simp only [List.length_cons,List.length_nil] <;> omega
theorem lu:∀ (k:Nat) (x:Wa),(Ci k x).length≤we k x
 | 0,x=>by simp [Ci]
 | k+1,x=>by
  have:=xk (Ci k) (we k) (lu k) x.Body
  have:=xk (Ci k) (we k) (lu k) x.jd
  have:=tw k x.X
  rw [Ci,we,List.length_append,List.length_append]
  split <;> split <;> split <;> (try simp only [List.length_nil]) <;> omega
theorem mu:∀ (k:Nat) (x:Wa),(dj k x).length≤we k x
 | 0,x=>by simp [dj]
 | k+1,x=>by
  have:=xk (dj k) (we k) (mu k) x.Body
  have:=xk (dj k) (we k) (mu k) x.jd
  have:=uw k x.X
  rw [dj,we,List.length_append,List.length_append]
  split <;> split <;> split <;> (try simp only [List.length_nil]) <;> omega
theorem nu:∀ (k:Nat) (x:Wa),(ej k x).length≤we k x
 | 0,x=>by simp [ej]
 | k+1,x=>by
  have:=xk (ej k) (we k) (nu k) x.Body
  have:=xk (ej k) (we k) (nu k) x.jd
  rw [ej,we,List.length_append,List.length_append]
  by_cases a:x.Kind=7
  ·rw [if_pos a,if_neg (by omega),if_neg (by omega),if_neg (by omega),if_neg (by omega),if_neg (by omega)]
   simp
  ·rw [if_neg a]
   split <;> split <;> split <;> (try simp only [List.length_nil]) <;> omega
theorem hi {α:Type} {l xs:List α} (h:l.length+xs.length≤4294967296):app l xs=some (l++xs):=if_pos h
theorem vD:∀ (n k:Nat) (x:ua) (c s r:List Nm),k≤n→bh k x→c.length+Mg k x≤1000000→r.length+Mg k x≤1000000→(rp n).Fl c s r x=some (c++Tj k x,s,r++Ok k x):=by
 intro n
 induction n with
 | zero =>
  intro k x c s r e a
  obtain rfl:k=0:=by omega
  cases a
 | succ n l =>
  intro k x c s r e a o p
  cases k with
  | zero=>cases a
  | succ k =>
  obtain ⟨k1,w,t,u⟩:=a
  show Fl (rp n) c s r x=_
  have L:∀ (m i:Nat) (c r:List Nm),i≤x.Kids.length→x.Kids.length<m+i→c.length+((x.Kids.drop i).map (Mg k)).sum≤1000000→r.length+((x.Kids.drop i).map (Mg k)).sum≤1000000 →
    Rq (rp n) x m i c s r=some (c++((x.Kids.drop i).map (Tj k)).flatten,s,r++((x.Kids.drop i).map (Ok k)).flatten):=by
   intro m
   induction m with
   | zero=>intro i c r e a; omega
   | succ m v =>
    intro i c r g1 g2 g3 g4
    rw [Rq]
    have qa:=t.le
    by_cases q:i<x.Kids.length
    ·rw [List.drop_eq_getElem_cons q,List.map_cons,List.sum_cons] at g3 g4
     have U:=tw k x.Kids[i]
     have y:=uw k x.Kids[i]
     rw [if_pos (by omega),Rd,List.getElem?_eq_getElem q,ca,l k x.Kids[i] c s r (by omega) (u _ (List.getElem_mem _)) (by omega) (by omega),ca,Cc (by omega),ca]
     refine (v (i+1) _ _ q (by omega) (by simp only [List.length_append]; omega) (by simp only [List.length_append]; omega)).trans ?_
     rw [List.drop_eq_getElem_cons q]
     simp only [List.map_cons,List.flatten_cons,List.append_assoc]
    ·rw [if_neg (by omega),List.drop_eq_nil_of_le (by omega)]
     simp
  have d:∀ c r:List Nm,c.length+(x.Kids.map (Mg k)).sum≤1000000→r.length+(x.Kids.map (Mg k)).sum≤1000000→Pp (rp n) x s c r=some (c++(x.Kids.map (Tj k)).flatten,s,r++(x.Kids.map (Ok k)).flatten):=by
   intro c r g1 g2
   have:=L (x.Kids.length+1) 0 c r (by omega) (by omega) (by simpa using g1) (by simpa using g2)
   simpa [Pp] using this
  rw [Mg] at o p
  have f:∀ b,(b=true ↔ x.Kind=19∨x.Kind=22)→Sq (rp n) c x s r b=some (c++Tj (k+1) x,s,r++Ok (k+1) x):=by
   intro b g
   rw [Sq,Tj,Ok]
   by_cases q:b=true
   ·have:=g.1 q
    rw [if_pos q,hi (by simp; omega),ca,Vu,d _ _ (by simp; omega) (by omega),if_pos this,if_neg (by omega)]
    simp
   ·rw [if_neg q]
    have j:¬ (x.Kind=19∨x.Kind=22):=fun h=>q (g.2 h)
    by_cases c20:x.Kind=20
    ·rw [if_pos c20,hi (by simp; omega),ca,Wu,d _ _ (by omega) (by simp; omega),if_neg j,if_pos c20]
     simp
    ·rw [if_neg c20,d _ _ (by omega) (by omega),if_neg j,if_neg c20]
     simp
  rw [Fl]
  split
  ·rename_i h; exact f _ (by simp [h])
  ·rename_i h; exact f _ (by simp [h])
theorem YC:∀ (n k:Nat) (l:List Wa) (c s r:List Nm),k+1≤n→l.length≤50→(∀ y ∈ l,Bj k y)→c.length+(l.map (we k)).sum≤1000000→s.length+(l.map (we k)).sum≤1000000→r.length+(l.map (we k)).sum≤1000000 →
  (vk n).bk c s r l=some (c++(l.map (Ci k)).flatten,s++(l.map (ej k)).flatten,r++(l.map (dj k)).flatten):=by
 intro n
 induction n with
 | zero=>intro k l c s r t; omega
 | succ n u =>
  intro k l c s r t qa D g E F
  show bk n (vk n) c s r l=_
  have L:∀ (m i:Nat) (c s r:List Nm),i≤l.length→l.length<m+i→c.length+((l.drop i).map (we k)).sum≤1000000→s.length+((l.drop i).map (we k)).sum≤1000000→r.length+((l.drop i).map (we k)).sum≤1000000 →
    Xj n (vk n) l m i c s r=some (c++((l.drop i).map (Ci k)).flatten,s++((l.drop i).map (ej k)).flatten,r++((l.drop i).map (dj k)).flatten):=by
   intro m
   induction m with
   | zero=>intro i c s r t N; omega
   | succ m G =>
    intro i c s r g1 g2 g3 g4 g5
    rw [Xj]
    by_cases q:i<l.length
    ·rw [List.drop_eq_getElem_cons q,List.map_cons,List.sum_cons] at g3 g4 g5
     rw [if_pos (by omega),Rd,List.getElem?_eq_getElem q,ca]
     have v:=D _ (List.getElem_mem q)
     have U:=lu k l[i]
     have H:=nu k l[i]
     have nb:=mu k l[i]
     have rb:=fun tc a r' (sa:tc=c++Ci k l[i]) (d:a=s++ej k l[i]) (e:r'=r++dj k l[i]) =>
      (G (i+1) tc a r' q (by omega) (by rw [sa,List.length_append]; omega) (by rw [d,List.length_append]; omega) (by rw [e,List.length_append]; omega)).trans
       (show _=some (c++((l.drop i).map (Ci k)).flatten,s++((l.drop i).map (ej k)).flatten,r++((l.drop i).map (dj k)).flatten) by
        rw [List.drop_eq_getElem_cons q,sa,d,e]
        simp only [List.map_cons,List.flatten_cons,List.append_assoc])
     generalize l[i]=y at *
     cases k with
     | zero=>cases v
     | succ k =>
     obtain ⟨k1,P,K,w,x⟩:=v
     rw [we] at g3 g4 g5
     rw [Ci] at U rb
     rw [ej] at H rb
     rw [dj] at nb rb
     have z:∀ tc a r',(y.Kind=3→tc.length+(y.jd.map (we k)).sum≤1000000∧a.length+(y.jd.map (we k)).sum≤1000000∧r'.length+(y.jd.map (we k)).sum≤1000000) →
       tc=c++((if y.Kind=6 then [] else Tj k y.X)++(if y.Kind=3∨y.Kind=4 then (y.Body.map (Ci k)).flatten else []))→a=s++((if y.Kind=7 then [y.Name] else [])++(if y.Kind=3∨y.Kind=4 then (y.Body.map (ej k)).flatten else [])) →
       r'=r++((if y.Kind=6 then [] else Ok k y.X)++(if y.Kind=3∨y.Kind=4 then (y.Body.map (dj k)).flatten else [])) →
       Jq (vk n) i y (Xj n (vk n) l m) tc a r'=some (c++((l.drop i).map (Ci (k+1))).flatten,s++((l.drop i).map (ej (k+1))).flatten,r++((l.drop i).map (dj (k+1))).flatten):=by
      intro tc a r' j sa d e
      rw [Jq]
      by_cases c3:y.Kind=3
      ·obtain ⟨M,z2,z3⟩:=j c3
       rw [if_pos c3,u k y.jd tc a r' (by omega) (x c3).1 (x c3).2 M z2 z3,ca,Cc (by omega),ca]
       refine rb _ _ _ ?_ ?_ ?_
       ·rw [sa]; simp only [if_pos c3,List.append_assoc]
       ·rw [d]; simp only [if_pos c3,List.append_assoc]
       ·rw [e]; simp only [if_pos c3,List.append_assoc]
      ·rw [if_neg c3,Cc (by omega),ca]
       refine rb _ _ _ ?_ ?_ ?_
       ·rw [sa]; simp only [if_neg c3,List.append_nil]
       ·rw [d]; simp only [if_neg c3,List.append_nil]
       ·rw [e]; simp only [if_neg c3,List.append_nil]
     have A:∀ tc a r' b,(b=true ↔ y.Kind=3∨y.Kind=4)→tc=c++(if y.Kind=6 then [] else Tj k y.X)→a=s++(if y.Kind=7 then [y.Name] else [])→r'=r++(if y.Kind=6 then [] else Ok k y.X) →
       Kq (vk n) i y tc a r' (Xj n (vk n) l m) b=some (c++((l.drop i).map (Ci (k+1))).flatten,s++((l.drop i).map (ej (k+1))).flatten,r++((l.drop i).map (dj (k+1))).flatten):=by
      intro tc a r' b j sa d e
      rw [Kq]
      have Q:=tw k y.X
      have R:=uw k y.X
      have S:=xk (Ci k) (we k) (lu k) y.Body
      have T:=xk (ej k) (we k) (nu k) y.Body
      have V:=xk (dj k) (we k) (mu k) y.Body
      by_cases q:b=true
      ·have f:=j.1 q
       rw [if_neg (show y.Kind≠6 by omega),if_pos f] at g3 g4 g5
       rw [if_neg (show y.Kind≠6 by omega)] at sa e
       rw [if_neg (show y.Kind≠7 by omega)] at d
       have W:tc.length=c.length+(Tj k y.X).length:=by rw [sa,List.length_append]
       have Y:a.length=s.length:=by rw [d]; simp
       have Z:r'.length=r.length+(Ok k y.X).length:=by rw [e,List.length_append]
       rw [if_pos q,u k y.Body tc a r' (by omega) (w f).1 (w f).2 (by omega) (by omega) (by omega),ca]
       refine z _ _ _ (fun g=>?_) ?_ ?_ ?_
       ·rw [if_pos g] at g3 g4 g5
        simp only [List.length_append]
        omega
       ·rw [sa,if_neg (show y.Kind≠6 by omega),if_pos f,List.append_assoc]
       ·rw [d,if_neg (show y.Kind≠7 by omega),if_pos f,List.append_assoc]
       ·rw [e,if_neg (show y.Kind≠6 by omega),if_pos f,List.append_assoc]
      ·have o:¬ (y.Kind=3∨y.Kind=4):=fun h=>q (j.2 h)
       rw [if_neg q]
       refine z _ _ _ (fun g=>absurd (.inl g) o) ?_ ?_ ?_
       ·rw [sa,if_neg o,List.append_nil]
       ·rw [d,if_neg o,List.append_nil]
       ·rw [e,if_neg o,List.append_nil]
     have B:∀ a,a=s++(if y.Kind=7 then [y.Name] else [])→Mq n (vk n) i c r y (Xj n (vk n) l m) a=some (c++((l.drop i).map (Ci (k+1))).flatten,s++((l.drop i).map (ej (k+1))).flatten,r++((l.drop i).map (dj (k+1))).flatten):=by
      intro a d
      have C:∀ tc r',tc=c++(if y.Kind=6 then [] else Tj k y.X)→r'=r++(if y.Kind=6 then [] else Ok k y.X)→Lq (vk n) i y (Xj n (vk n) l m) tc a r'=some (c++((l.drop i).map (Ci (k+1))).flatten,s++((l.drop i).map (ej (k+1))).flatten,r++((l.drop i).map (dj (k+1))).flatten):=by
       intro tc r' sa e
       rw [Lq]
       split
       ·rename_i h; exact A _ _ _ _ (by simp [h]) sa d e
       ·rename_i h; exact A _ _ _ _ (by simp [h]) sa d e
      rw [Mq]
      by_cases Tc:y.Kind=6
      ·rw [if_neg (by simpa using Tc)]
       exact C _ _ (by rw [if_pos Tc,List.append_nil]) (by rw [if_pos Tc,List.append_nil])
      ·rw [if_neg Tc] at g3 g4 g5
       rw [if_pos Tc,vD n k y.X c a r (by omega) (K Tc) (by omega) (by omega),ca]
       exact C _ _ (by rw [if_neg Tc]) (by rw [if_neg Tc])
     by_cases p:y.Kind=7
     ·rw [if_pos p,hi (by simp; omega),ca,Pu]
      exact B _ (by rw [if_pos p])
     ·rw [if_neg p]
      exact B _ (by rw [if_neg p,List.append_nil])
    ·rw [if_neg (by omega),List.drop_eq_nil_of_le (by omega)]
     simp
  rw [bk]
  have:=L (l.length+1) 0 c s r (by omega) (by omega) (by simpa using g) (by simpa using E) (by simpa using F)
  simpa using this
end Go.Y
namespace Go.Y
open Go.bc Go.Dc
theorem Ht {α β:Type} {f:α→List β} {l:List α} {b:β} (h:b ∈ (l.map f).flatten):∃ a ∈ l,b ∈ f a:=by
 obtain ⟨q,c,d⟩:=List.mem_flatten.1 h
 obtain ⟨a,e,rfl⟩:=List.mem_map.1 c
 exact ⟨a,e,d⟩
theorem Vv {β:Type} {c:Prop} [Decidable c] {l m:List β} {b:β} (h:b ∈ (if c then l else m)):(c∧b ∈ l)∨(¬ c∧b ∈ m):=by
 by_cases q:c
 ·rw [if_pos q] at h; exact .inl ⟨q,h⟩
 ·rw [if_neg q] at h; exact .inr ⟨q,h⟩
theorem mB {p:Zb}:∀ (k:Nat) (x:ua),Calls p k x→∀ c ∈ Tj k x,∃ d,vb p.named c=some d∧(d.Kind=2∨d.Kind=3)
 | 0,x,h=>by cases h
 | k+1,x,h=>by
  obtain ⟨f,g,m,i⟩:=h
  intro c b
  rw [Tj] at b
  rcases List.mem_append.1 b with b | b
  ·rcases Vv b with ⟨q,b⟩ | ⟨q,b⟩
   ·rw [List.mem_singleton.1 b]
    rcases q with q | q
    ·obtain ⟨d,sa,e⟩:=f q; exact ⟨d,sa,.inl e⟩
    ·obtain ⟨d,sa,e⟩:=g q; exact ⟨d,sa,.inr e⟩
   ·cases b
  ·obtain ⟨a,j,l⟩:=Ht b
   exact mB k a (i a j) c l
theorem Fx {p:Zb}:∀ (k:Nat) (x:Wa),zk p k x→∀ c ∈ Ci k x,∃ d,vb p.named c=some d∧(d.Kind=2∨d.Kind=3)
 | 0,x,h=>by cases h
 | k+1,x,h=>by
  obtain ⟨g,i,j,l⟩:=h
  intro c b
  rw [Ci] at b
  rcases List.mem_append.1 b with b | b
  ·rcases List.mem_append.1 b with b | b
   ·rcases Vv b with ⟨q,b⟩ | ⟨q,b⟩
    ·cases b
    ·exact mB k _ (g q) c b
   ·rcases Vv b with ⟨q,b⟩ | ⟨q,b⟩
    ·obtain ⟨a,e,f⟩:=Ht b
     exact Fx k a (i q a e) c f
    ·cases b
  ·rcases Vv b with ⟨q,b⟩ | ⟨q,b⟩
   ·obtain ⟨a,e,f⟩:=Ht b
    exact Fx k a (j q a e) c f
   ·cases b
def Jp (d:va):List Nm:=(d.Body.map (Ci 39)).flatten
def Ss (d:va):List Nm:=(d.Body.map (ej 39)).flatten
def Ts (d:va):List Nm:=(d.Body.map (dj 39)).flatten
def Dm (N:List (Nm×va)):List Nm→List Nm→List (Option va)→List Nm×List (Option va)
 | [],a,todo=>(a,todo)
 | c::cs,a,todo=>if a.contains c=true then Dm N cs a todo else Dm N cs (a++[c]) (todo++[vb N c])
def Aq (N:List (Nm×va)):Nat→List Nm→List (Option va)→List Nm→List Nm→Option nf
 | 0,_,_,_,_=>none
 | n+1,a,[],s,r=>some ⟨[],s,r⟩
 | n+1,a,none::t,s,r=>none
 | n+1,a,some d::t,s,r=>Aq N n (Dm N (Jp d) a t).1 (Dm N (Jp d) a t).2 (s++Ss d) (r++Ts d)
def zu (l:List va) (a:List Nm):Nat:=(l.filter fun d=>!a.contains d.Name).length
theorem filter_le {α:Type} (P Q:α→Bool) (h:∀ x,Q x=true→P x=true):∀ l:List α,(l.filter Q).length≤(l.filter P).length
 | []=>by simp
 | x::l=>by
  have a:=filter_le P Q h l
  rw [List.filter_cons,List.filter_cons]
  by_cases q:Q x=true
  ·rw [if_pos q,if_pos (h x q),List.length_cons,List.length_cons]; omega
  ·rw [if_neg q]
   split
   ·rw [List.length_cons]; omega
   ·exact a
theorem filter_lt {α:Type} (P Q:α→Bool) (h:∀ x,Q x=true→P x=true):∀ (l:List α) (x:α),x ∈ l→P x=true→Q x=false→(l.filter Q).length<(l.filter P).length
 | y::l,x,a,b,c=>by
  have le:=filter_le P Q h l
  rw [List.filter_cons,List.filter_cons]
  rcases List.mem_cons.1 a with rfl | a
  ·rw [if_pos b,if_neg (by simp [c]),List.length_cons]; omega
  ·have d:=filter_lt P Q h l x a b c
   by_cases q:Q y=true
   ·rw [if_pos q,if_pos (h y q),List.length_cons,List.length_cons]; omega
   ·rw [if_neg q]
    split
    ·rw [List.length_cons]; omega
    ·exact d
theorem jG (l:List va) (a:List Nm) (d:va) (ya:d ∈ l) (h:a.contains d.Name=false):zu l (a++[d.Name])<zu l a:=by
 refine filter_lt _ _ (fun x b=>?_) l d ya (by simpa using h) (by simp)
 simp only [Bool.not_eq_true',List.contains_eq_mem,List.mem_append,decide_eq_false_iff_not] at b ⊢
 exact fun h=>b (.inl h)
structure Au (p:Zb) (l:List va) (a:List Nm) (todo:List (Option va)) (q:Nat):Prop where
 qa:a.length+zu l a≤30
 Qy:∀ o ∈ todo,∃ d ∈ l,o=some d∧d.Kind≠1
 q:zu l a+todo.length≤q
theorem Wv {p:Zb} {l:List va} (R:Bk p l):∀ (cs:List Nm) (a:List Nm) (todo:List (Option va)) (q:Nat),(∀ c ∈ cs,∃ d,vb p.named c=some d∧(d.Kind=2∨d.Kind=3))→Au p l a todo q→Au p l (Dm p.named cs a todo).1 (Dm p.named cs a todo).2 q
 | [],a,todo,q,h,T=>T
 | c::cs,a,todo,q,h,T=>by
  rw [Dm]
  have e:∀ c ∈ cs,∃ d,vb p.named c=some d∧(d.Kind=2∨d.Kind=3):=fun c f=>h c (List.mem_cons_of_mem _ f)
  by_cases k:a.contains c=true
  ·rw [if_pos k]; exact Wv R cs a todo q e T
  ·rw [if_neg k]
   obtain ⟨d,sa,i⟩:=h c (List.mem_cons_self ..)
   obtain ⟨m1,m2⟩:=R.only _ _ sa
   have g:=jG l a d m1 (by rw [m2]; simpa using k)
   rw [m2] at g
   refine Wv R cs _ _ q e ⟨?_,fun o b=>?_,?_⟩
   ·rw [List.length_append,List.length_singleton]; have:=T.qa; omega
   ·rcases List.mem_append.1 b with b | b
    ·exact T.Qy o b
    ·rw [List.mem_singleton.1 b]; exact ⟨d,m1,sa,by omega⟩
   ·rw [List.length_append,List.length_singleton]; have:=T.q; omega
theorem UD {p:Zb} {l:List va} (R:Bk p l) (u:List Nm×List Nm×List Nm) (s r:List Nm) (K:List Nm→List (Option va)→List Nm→List Nm→Option nf) (hu:∀ c ∈ u.1,∃ d,vb p.named c=some d∧(d.Kind=2∨d.Kind=3)) (qa:u.1.length≤1000000) :
  ∀ (m i:Nat) (a:List Nm) (todo:List (Option va)) (q:Nat),i≤u.1.length→u.1.length<m+i→q≤1000→Au p l a todo q →
   Lp p u s r K m i a todo=K (Dm p.named (u.1.drop i) a todo).1 (Dm p.named (u.1.drop i) a todo).2 s r:=by
 intro m
 induction m with
 | zero=>intro i a todo q g h; omega
 | succ m b =>
  intro i a todo q g h e T
  rw [Lp]
  by_cases c:i<u.1.length
  ·rw [if_pos (by omega),Rd,List.getElem?_eq_getElem c,ca,List.drop_eq_getElem_cons c,Dm]
   have j:=hu _ (List.getElem_mem c)
   by_cases k:a.contains u.1[i]=true
   ·rw [if_pos k,if_pos k,Cc (by omega),ca]
    exact b (i+1) a todo q c (by omega) e T
   ·have o:=T.qa
    have t:=T.q
    have f:=Wv R [u.1[i]] a todo q (fun c n=>by rw [List.mem_singleton.1 n]; exact j) T
    rw [Dm,if_neg k,Dm] at f
    rw [if_neg k,if_neg k,hi (by simp; omega),ca,hi (by simp; omega),ca,Cc (by omega),ca]
    exact b (i+1) _ _ q c (by omega) e f
  ·rw [if_neg (by omega),List.drop_eq_nil_of_le (by omega)]
   rfl
theorem IE {p:Zb} {l:List va} (R:Bk p l) (fu:Nat) (c:500≤fu) (d:va) (ya:d ∈ l) (a:d.Kind≠1):(vk fu).bk [] [] [] d.Body=some (Jp d,Ss d,Ts d)∧(Jp d).length≤2000∧(Ss d).length≤2000∧(Ts d).length≤2000:=by
 have ok:=R.ok.ok d ya
 have b:Nk d≤2000:=Nat.le_trans (jy Nk l d ya) R.ok.n
 rw [Nk,if_pos a] at b
 have:=YC fu 39 d.Body [] [] [] (by omega) (ok.Kd a) (ok.Rf a) (by simp; omega) (by simp; omega) (by simp; omega)
 have xa:=xk (Ci 39) (we 39) (lu 39) d.Body
 have a2:=xk (ej 39) (we 39) (nu 39) d.Body
 have a3:=xk (dj 39) (we 39) (mu 39) d.Body
 exact ⟨by rw [this]; rfl,by rw [Jp]; omega,by rw [Ss]; omega,by rw [Ts]; omega⟩
theorem VD {p:Zb} {l:List va} (R:Bk p l) (fu:Nat) (h:500≤fu):∀ (n q:Nat) (b:List Nm) (todo:List (Option va)) (s r:List Nm),q<n→q≤1000→Au p l b todo q→s.length+2000*q≤1000000000→r.length+2000*q≤1000000000 →
  Uo fu p n b todo s r=Aq p.named n b todo s r∧(∃ u,Aq p.named n b todo s r=some u∧u.calls=[]):=by
 intro n
 induction n with
 | zero=>intro q b todo s r i; omega
 | succ n j =>
  intro q b todo s r i A T U B
  rw [Uo]
  cases todo with
  | nil=>exact ⟨by rw [if_neg (by simp)]; rfl,_,rfl,rfl⟩
  | cons o t =>
   obtain ⟨d,ya,rfl,k1⟩:=T.Qy o (List.mem_cons_self ..)
   obtain ⟨Cf,zd,C,D⟩:=IE R fu h d ya k1
   have k:=T.q
   have m:=T.qa
   rw [List.length_cons] at k
   have sa:at_ (some d::t) 0=some (some d):=rfl
   have v:cut (some d::t) 1 ((some d::t).length:Int)=some t:=by
    rw [cut,if_pos (by simp; omega)]
    simp
   have e:∀ c ∈ Jp d,∃ f,vb p.named c=some f∧(f.Kind=2∨f.Kind=3):=fun c e=>by
    obtain ⟨a,w,x⟩:=Ht e
    exact Fx 39 a (R.cs d ya k1 a w) c x
   have g:Au p l b t (q - 1):=⟨m,fun o y=>T.Qy o (List.mem_cons_of_mem _ y),by omega⟩
   have z:=Wv R (Jp d) b t (q - 1) e g
   rw [if_pos (by simp),sa,ca,v,ca,ca,Cf,ca,hi (by simp only []; omega),ca,hi (by simp only []; omega),ca,Qu]
   rw [show ((0:Int))=((0:Nat):Int) from rfl,UD R (Jp d,Ss d,Ts d) _ _ _ e (by simp only []; omega) _ 0 b t (q - 1) (by omega) (by simp only []; omega) (by omega) g,List.drop_zero]
   rw [Aq]
   exact j (q - 1) _ _ (s++Ss d) (r++Ts d) (by omega) (by omega) z (by rw [List.length_append]; omega) (by rw [List.length_append]; omega)
theorem kG {p:Zb} {l:List va} (R:Bk p l) (fu:Nat) (a:500≤fu) (d:va) (ya:d ∈ l) (b:d.Kind≠1):qv fu p d=Aq p.named fu [] [some d] [] []∧(∃ u,Aq p.named fu [] [some d] [] []=some u∧u.calls=[]):=by
 have c:zu l []≤30:=Nat.le_trans (List.length_filter_le _ _) R.ok.le
 exact VD R fu a fu 31 [] [some d] [] [] (by omega) (by omega) ⟨by simpa using c,fun o e=>by rw [List.mem_singleton.1 e]; exact ⟨d,ya,rfl,b⟩,by simp; omega⟩ (by simp) (by simp)
def Yn:nf:=⟨[],[],[]⟩
def wq (L:List (Nm×nf)) (b:Nm):List va→Nm→Nm→Option (Nm×Nm)
 | [],w,r=>some (w,r)
 | t::a,w,r=>if t.Kind≠4 then wq L b a w r else
   if ((vb L t.Name).getD Yn).Ol.contains b=true∧w≠[] then none else
   if ((vb L t.Name).getD Yn).Ak.contains b=true∧r≠[] then none else
   wq L b a (if ((vb L t.Name).getD Yn).Ol.contains b=true then t.Name else w) (if ((vb L t.Name).getD Yn).Ak.contains b=true then t.Name else r)
def xq (L:List (Nm×nf)) (l:List va):List va→Int→List hh→List hh×Vc
 | [],i,acc=>(acc,⟨0,0⟩)
 | x::xs,i,acc=>if x.Kind≠1 then xq L l xs (i+1) acc else
   match wq L x.Name l [] [] with
   | none=>([],⟨8,i⟩)
   | some (w,r)=>xq L l xs (i+1) (acc++[⟨x.Name,w,r⟩])
def Ks (N:List (Nm×va)) (fu:Nat):List va→List (Nm×nf)→List (Nm×nf)
 | [],L=>L
 | d::ds,L=>if d.Kind=4 then Ks N fu ds (cc L d.Name ((Aq N fu [] [some d] [] []).getD Yn)) else Ks N fu ds L
theorem qF (l:List va) (qa:l.length≤30) (L:List (Nm×nf)) (i:Int) (acc:List hh) (x:va) (K:Int→List hh→Option (List hh×Vc)) (f:0≤i∧i≤1000) (g:acc.length≤1000) :
  ∀ (m j:Nat) (w r:Nm),j≤l.length→l.length<m+j→Gm l L i acc x K m j w r=match wq L x.Name (l.drop j) w r with | none=>some ([],⟨8,i⟩) | some (w',r')=>K (i+1) (acc++[⟨x.Name,w',r'⟩]):=by
 intro m
 induction m with
 | zero=>intro j w r b d; omega
 | succ m e =>
  intro j w r b d
  rw [Gm]
  by_cases c:j<l.length
  ·rw [if_pos (by omega),Rd,List.getElem?_eq_getElem c,ca,List.drop_eq_getElem_cons c,wq]
   have hb:(nf.mk [] [] [])=Yn:=rfl
   have rb:=fun w r=>e (j+1) w r c (by omega)
   generalize l[j]=t at *
   by_cases Af:t.Kind≠4
   ·rw [if_pos Af,if_pos Af,Cc (by omega),ca]
    exact rb w r
   ·rw [if_neg Af,if_neg Af,hb]
    have a:∀ w',Hq L i x j r t (Gm l L i acc x K m) w'=if ((vb L t.Name).getD Yn).Ak.contains x.Name=true∧r≠[] then some ([],⟨8,i⟩) else
      match wq L x.Name (l.drop (j+1)) w' (if ((vb L t.Name).getD Yn).Ak.contains x.Name=true then t.Name else r) with | none=>some ([],⟨8,i⟩) | some (w',r')=>K (i+1) (acc++[⟨x.Name,w',r'⟩]):=by
     intro w'
     rw [Hq,hb]
     by_cases q:((vb L t.Name).getD Yn).Ak.contains x.Name=true
     ·rw [if_pos q]
      by_cases z:r≠[]
      ·rw [if_pos z,if_pos ⟨q,z⟩]
      ·rw [if_neg z,if_neg (fun h=>z h.2),if_pos q,Gq,Cc (by omega),ca]
       exact rb _ _
     ·rw [if_neg q,if_neg (fun h=>q h.1),if_neg q,Gq,Cc (by omega),ca]
      exact rb _ _
    by_cases q:((vb L t.Name).getD Yn).Ol.contains x.Name=true
    ·rw [if_pos q]
     by_cases z:w≠[]
     ·rw [if_pos z,if_pos ⟨q,z⟩]
     ·rw [if_neg z,if_neg (fun h=>z h.2),if_pos q,a]
      split <;> rfl
    ·rw [if_neg q,if_neg (fun h=>q h.1),if_neg q,a]
     split <;> rfl
  ·rw [if_neg (by omega),List.drop_eq_nil_of_le (by omega),hi (by simp; omega),ca,Cc (by omega),ca]
   rfl
theorem rF (l:List va) (qa:l.length≤30) (L:List (Nm×nf)):∀ (m i:Nat) (acc:List hh),i≤l.length→l.length<m+i→acc.length≤i→pn l L m i acc=some (xq L l (l.drop i) i acc):=by
 intro m
 induction m with
 | zero=>intro i acc b d; omega
 | succ m a =>
  intro i acc b d e
  rw [pn]
  by_cases c:i<l.length
  ·rw [if_pos (by omega),Rd,List.getElem?_eq_getElem c,ca,List.drop_eq_getElem_cons c,xq]
   by_cases k1:l[i].Kind≠1
   ·rw [if_pos k1,if_pos k1,Cc (by omega),ca]
    exact a (i+1) acc c (by omega) (by omega)
   ·rw [if_neg k1,if_neg k1,show ((0:Int))=((0:Nat):Int) from rfl,qF l qa L i acc l[i] _ (by omega) (by omega) _ 0 [] [] (by omega) (by omega),List.drop_zero]
    cases h:wq L l[i].Name l [] [] with
    | none=>rfl
    | some v=>exact a (i+1) _ c (by omega) (by simp; omega)
  ·rw [if_neg (by omega),List.drop_eq_nil_of_le (by omega)]
   rfl
theorem sF {p:Zb} {l:List va} (R:Bk p l) (fu:Nat) (b:500≤fu) (f:Vc):∀ (m i:Nat) (L:List (Nm×nf)),i≤l.length→l.length<m+i→Ro fu l (p,f) m i L=some (xq (Ks p.named fu (l.drop i) L) l l 0 []):=by
 have qa:=R.ok.le
 intro m
 induction m with
 | zero=>intro i L d e; omega
 | succ m a =>
  intro i L d e
  rw [Ro]
  by_cases c:i<l.length
  ·have hb:at_ l (i:Int)=some l[i]:=by rw [Rd,List.getElem?_eq_getElem c]
   rw [if_pos (by omega),hb,ca,List.drop_eq_getElem_cons c,Ks]
   by_cases Af:l[i].Kind=4
   ·obtain ⟨g,u,h,-⟩:=kG R fu b l[i] (List.getElem_mem _) (by omega)
    rw [if_pos Af,if_pos Af]
    simp only [ca]
    rw [g,h,ca,Lu,Cc (by omega),ca]
    exact a (i+1) _ c (by omega)
   ·rw [if_neg Af,if_neg Af,Cc (by omega),ca]
    exact a (i+1) L c (by omega)
  ·rw [if_neg (by omega),List.drop_eq_nil_of_le (by omega)]
   exact rF l qa L (l.length+1) 0 [] (by omega) (by omega) (by simp)
theorem KC (fu:Nat) (a:500≤fu) (l:List va):∃ p f,lp fu l=some (p,f)∧((f.Ue≠0∧cr fu l=some ([],f))∨(f.Ue=0∧Bk p l∧cr fu l=some (xq (Ks p.named fu l []) l l 0 []))):=by
 obtain ⟨p,f,b,c⟩:=cz fu a l
 refine ⟨p,f,b,?_⟩
 rw [cr,b,ca]
 by_cases z:f.Ue=0
 ·rw [if_neg (by simpa using z)]
  exact .inr ⟨z,c z,sF (c z) fu a f (l.length+1) 0 [] (by omega) (by omega)⟩
 ·rw [if_pos z]
  exact .inl ⟨z,rfl⟩
end Go.Y
namespace Go.Y
def Bq:Nat→ua→Prop
 | 0,_=>False
 | k+1,x=>x.Kids.length≤2513169434916∧∀ y ∈ x.Kids,Bq k y
def Zn:Nat→Wa→Prop
 | 0,_=>False
 | k+1,s=>Bq k s.X∧(s.Body.length≤1099511627776∧∀ y ∈ s.Body,Zn k y)∧(s.jd.length≤1099511627776∧∀ y ∈ s.jd,Zn k y)
def Fu (k:Nat) (d:va):Prop:=d.Params.length≤3518437208883∧d.Body.length≤1099511627776∧∀ y ∈ d.Body,Zn k y
def Gu (k:Nat) (l:List va):Prop:=l.length≤1099511627776∧∀ d ∈ l,Fu k d
end Go.Y
namespace Go.Y
open Go.bc Go.Dc
def xl {α:Type} (R:α→α→Prop) (l Ia:List α):Prop:=Ia.length=l.length∧∀ (i:Nat) (y:α),l[i]?=some y→∃ a,Ia[i]?=some a∧R y a
theorem xl.at {α:Type} {R:α→α→Prop} {l Ia:List α} (h:xl R l Ia) {i:Nat} (b:i<l.length):∃ a:i<Ia.length,R l[i] Ia[i]:=by
 have a:i<Ia.length:=by rw [h.1]; exact b
 obtain ⟨c,e,r⟩:=h.2 i _ (List.getElem?_eq_getElem b)
 rw [List.getElem?_eq_getElem a] at e
 obtain rfl:=Option.some.inj e
 exact ⟨a,r⟩
end Go.Y
namespace Go.Y
open Go.bc Go.Dc
theorem fh {α β:Type} {f:α→Option β}:Option.bind (none:Option α) f=none:=rfl
end Go.Y
namespace Go.Y
open Go.bc Go.Dc
def Hf:Nat→ua→ua
 | 0,x=>x
 | k+1,x=>ua.mk x.Kind (if x.Kind=1∨x.Kind=2 then x.N else 0) (if x.Kind=3∨x.Kind=20∨x.Kind=19∨x.Kind=22 then x.Name else []) (x.Kids.map (Hf k))
def gf:Nat→Wa→Wa
 | 0,s=>s
 | k+1,s=>Wa.mk s.Kind (if s.Kind=1∨s.Kind=2∨s.Kind=7 then s.Name else []) (if s.Kind≠6 then Hf k s.X else ua.mk 0 0 [] []) (if s.Kind=3∨s.Kind=4 then s.Body.map (gf k) else []) (if s.Kind=3 then s.jd.map (gf k) else [])
def jf (k:Nat) (d:va):va:=va.mk d.Kind d.Name (if d.Kind≠4 then hg d.zb else Ya.mk 0 []) (if d.Kind=3 then hg d.Hc else Ya.mk 0 []) (if d.Kind=1 then d.oe else 0)
 (if d.Kind=2∨d.Kind=3 then d.Params.map (fun q=>TParam.mk q.Name (hg q.zb)) else []) (if d.Kind=1 then [] else d.Body.map (gf k))
theorem Ux (t:Ya):fq t=some (hg t):=by
 rw [fq,hg]
 split
 ·rfl
 ·cases t; rfl
theorem Xv {α:Type} {B:Nat} {l xs:List α} (h:l.length+xs.length≤B):ll B l xs=some (l++xs):=if_pos h
theorem lG:∀ (n k:Nat) (x:ua),k≤n→Bq k x→(yn n).Hl x=some (Hf k x):=by
 intro n
 induction n with
 | zero =>
  intro k x l a
  obtain rfl:k=0:=by omega
  cases a
 | succ n t =>
  intro k x l a
  cases k with
  | zero=>cases a
  | succ k =>
  obtain ⟨qa,u⟩:=a
  show Hl (yn n) x=_
  have L:∀ (i:Int) (s:Nm) (m j:Nat) (acc:List ua),j≤x.Kids.length→x.Kids.length<m+j→acc.length≤j→Tp (yn n) x i s m j acc=some (ua.mk x.Kind i s (acc++(x.Kids.drop j).map (Hf k))):=by
   intro i s m
   induction m with
   | zero=>intro j acc l a; omega
   | succ m v =>
    intro j acc g1 g2 g3
    rw [Tp]
    by_cases c:j<x.Kids.length
    ·rw [if_pos (by omega),Rd,List.getElem?_eq_getElem c,ca,t k x.Kids[j] (by omega) (u _ (List.getElem_mem c)),ca,Xv (by simp; omega),ca,lv,Cc (by omega),ca]
     refine (v (j+1) _ c (by omega) (by simp; omega)).trans ?_
     rw [List.drop_eq_getElem_cons c]
     simp only [List.map_cons,List.append_assoc,List.singleton_append]
    ·rw [if_neg (by omega),List.drop_eq_nil_of_le (by omega)]
     simp
  have o:∀ (i:Int) (s:Nm),mr (yn n) x i s=some (ua.mk x.Kind i s (x.Kids.map (Hf k))):=by
   intro i s
   have:=L i s (x.Kids.length+1) 0 [] (by omega) (by omega) (by simp)
   simpa [mr] using this
  have p:∀ i:Int,nr (yn n) x i=some (ua.mk x.Kind i (if x.Kind=3∨x.Kind=20∨x.Kind=19∨x.Kind=22 then x.Name else []) (x.Kids.map (Hf k))):=by
   intro i
   have e:∀ b,(b=true ↔ x.Kind=3∨x.Kind=20∨x.Kind=19∨x.Kind=22)→gp (yn n) x i b=some (ua.mk x.Kind i (if x.Kind=3∨x.Kind=20∨x.Kind=19∨x.Kind=22 then x.Name else []) (x.Kids.map (Hf k))):=by
    intro b d
    rw [gp]
    by_cases q:b=true
    ·rw [if_pos q,if_pos (d.1 q),o]
    ·rw [if_neg q,if_neg (fun h=>q (d.2 h)),o]
   rw [nr]
   by_cases c3:x.Kind=3
   ·rw [if_pos c3]; exact e _ (by simp [c3])
   rw [if_neg c3]
   by_cases c20:x.Kind=20
   ·rw [if_pos c20]; exact e _ (by simp [c20])
   rw [if_neg c20]
   by_cases f:x.Kind=19
   ·rw [if_pos f]; exact e _ (by simp [f])
   rw [if_neg f]
   exact e _ (by simp [c3,c20,f])
  have r:∀ b,(b=true ↔ x.Kind=1∨x.Kind=2)→pr (yn n) x b=some (Hf (k+1) x):=by
   intro b d
   rw [pr,Hf]
   by_cases q:b=true
   ·rw [if_pos q,if_pos (d.1 q),p]
   ·rw [if_neg q,if_neg (fun h=>q (d.2 h)),p]
  rw [Hl]
  by_cases g:x.Kind=1
  ·rw [if_pos g]; exact r _ (by simp [g])
  ·rw [if_neg g]; exact r _ (by simp [g])
theorem tF:∀ (n k:Nat) (l:List Wa),k+1≤n→l.length≤1099511627776→(∀ y ∈ l,Zn k y)→(Gj n).wk l=some (l.map (gf k)):=by
 intro n
 induction n with
 | zero=>intro k l g; omega
 | succ n j =>
  intro k l g qa E
  show wk n (Gj n) l=_
  have L:∀ (m i:Nat) (acc:List Wa),i≤l.length→l.length<m+i→acc.length≤i→Ui n (Gj n) l m i acc=some (acc++(l.drop i).map (gf k)):=by
   intro m
   induction m with
   | zero=>intro i acc g P; omega
   | succ m F =>
    intro i acc g1 g2 g3
    rw [Ui]
    by_cases c:i<l.length
    ·rw [if_pos (by omega),Rd,List.getElem?_eq_getElem c,ca]
     have o:=E _ (List.getElem_mem c)
     have rb:=fun z (d:z=gf k l[i])=>(F (i+1) (acc++[z]) c (by omega) (by simp; omega)).trans (show _=some (acc++(l.drop i).map (gf k)) by
      rw [List.drop_eq_getElem_cons c,d]
      simp only [List.map_cons,List.append_assoc,List.singleton_append])
     generalize l[i]=y at *
     cases k with
     | zero=>cases o
     | succ k =>
     obtain ⟨G,⟨H,K⟩,⟨M,N⟩⟩:=o
     have p:∀ (s:Nm) (a b:Int) (t:Nm) (q:List ua) (Rf el:List Wa),Wa.mk y.Kind s (ua.mk a b t q) Rf el=gf (k+1) y→Tq (i:Int) acc y s a b t q Rf (Ui n (Gj n) l m) el=some (acc++(l.drop i).map (gf (k+1))):=by
      intro s a b t q Rf el d
      rw [Tq,Xv (by simp; omega),ca,Cc (by omega),ca]
      exact rb _ d
     have r:∀ (s:Nm) (a b:Int) (t:Nm) (q:List ua) (Rf:List Wa),Wa.mk y.Kind s (ua.mk a b t q) Rf (if y.Kind=3 then y.jd.map (gf k) else [])=gf (k+1) y→Uq (Gj n) (i:Int) acc y s a b t q (Ui n (Gj n) l m) Rf=some (acc++(l.drop i).map (gf (k+1))):=by
      intro s a b t q Rf d
      rw [Uq]
      by_cases c3:y.Kind=3
      ·rw [if_pos c3] at d ⊢
       rw [j k y.jd (by omega) M N,ca]
       exact p _ _ _ _ _ _ _ d
      ·rw [if_neg c3] at d ⊢
       exact p _ _ _ _ _ _ _ d
     have u:∀ (s:Nm) (a b:Int) (t:Nm) (q:List ua) (v:Bool),(v=true ↔ y.Kind=3∨y.Kind=4)→Wa.mk y.Kind s (ua.mk a b t q) (if y.Kind=3∨y.Kind=4 then y.Body.map (gf k) else []) (if y.Kind=3 then y.jd.map (gf k) else [])=gf (k+1) y→Vq (Gj n) (i:Int) acc y s a b t q (Ui n (Gj n) l m) v=some (acc++(l.drop i).map (gf (k+1))):=by
      intro s a b t q v x d
      rw [Vq]
      by_cases w:v=true
      ·rw [if_pos (x.1 w)] at d
       rw [if_pos w,j k y.Body (by omega) H K,ca]
       exact r _ _ _ _ _ _ d
      ·rw [if_neg (fun h=>w (x.2 h))] at d
       rw [if_neg w]
       exact r _ _ _ _ _ _ d
     have A:∀ (s:Nm) (a b:Int) (t:Nm) (q:List ua),Wa.mk y.Kind s (ua.mk a b t q) (if y.Kind=3∨y.Kind=4 then y.Body.map (gf k) else []) (if y.Kind=3 then y.jd.map (gf k) else [])=gf (k+1) y→Wq (Gj n) (i:Int) acc y s (Ui n (Gj n) l m) a b t q=some (acc++(l.drop i).map (gf (k+1))):=by
      intro s a b t q d
      rw [Wq]
      by_cases c3:y.Kind=3
      ·rw [if_pos c3]; exact u _ _ _ _ _ _ (by simp [c3]) d
      ·rw [if_neg c3]; exact u _ _ _ _ _ _ (by simp [c3]) d
     have B:∀ s:Nm,s=(if y.Kind=1∨y.Kind=2∨y.Kind=7 then y.Name else [])→Xq n (Gj n) (i:Int) acc y (Ui n (Gj n) l m) s=some (acc++(l.drop i).map (gf (k+1))):=by
      intro s C
      rw [Xq]
      by_cases Tc:y.Kind≠6
      ·rw [if_pos Tc,lG n k y.X (by omega) G,ca]
       refine A _ _ _ _ _ ?_
       rw [gf,if_pos Tc,← C]
       generalize Hf k y.X=z
       cases z
       rfl
      ·rw [if_neg Tc]
       refine A _ _ _ _ _ ?_
       rw [gf,if_neg Tc,← C]
     have f:∀ b,(b=true ↔ y.Kind=1∨y.Kind=2∨y.Kind=7)→Qp n (Gj n) (i:Int) acc y (Ui n (Gj n) l m) b=some (acc++(l.drop i).map (gf (k+1))):=by
      intro b D
      rw [Qp]
      by_cases q:b=true
      ·rw [if_pos q]; exact B _ (by rw [if_pos (D.1 q)])
      ·rw [if_neg q]; exact B _ (by rw [if_neg (fun h=>q (D.2 h))])
     by_cases e:y.Kind=1
     ·rw [if_pos e]; exact f _ (by simp [e])
     rw [if_neg e]
     by_cases c2:y.Kind=2
     ·rw [if_pos c2]; exact f _ (by simp [c2])
     rw [if_neg c2]
     exact f _ (by simp [e,c2])
    ·rw [if_neg (by omega),List.drop_eq_nil_of_le (by omega)]
     simp
  have:=L (l.length+1) 0 [] (by omega) (by omega) (by simp)
  simpa [wk] using this
theorem gH (fu k:Nat) (l:List va) (B:k+1≤fu) (qa:Gu k l):Ot fu l=some (l.map (jf k)):=by
 have L:∀ (m i:Nat) (acc:List va),i≤l.length→l.length<m+i→acc.length≤i→Ei fu l m i acc=some (acc++(l.drop i).map (jf k)):=by
  have H:=qa.1
  intro m
  induction m with
  | zero=>intro i acc e g; omega
  | succ m C =>
   intro i acc g1 g2 g3
   rw [Ei]
   by_cases c:i<l.length
   ·rw [if_pos (by omega),Rd,List.getElem?_eq_getElem c,ca]
    obtain ⟨K,D,E⟩:=qa.2 _ (List.getElem_mem c)
    have rb:=fun z (d:z=jf k l[i])=>(C (i+1) (acc++[z]) c (by omega) (by simp; omega)).trans (show _=some (acc++(l.drop i).map (jf k)) by
     rw [List.drop_eq_getElem_cons c,d]
     simp only [List.map_cons,List.append_assoc,List.singleton_append])
    generalize l[i]=y at *
    have n:∀ (a:Int) (s:Nm) (Nh:Int) (Rf:List Wa) (b:Int) (t:Nm) (cg:List TParam),va.mk y.Kind y.Name (Ya.mk a s) (Ya.mk b t) Nh cg Rf=jf k y→Vp (i:Int) acc y a s Nh Rf b t (Ei fu l m) cg=some (acc++(l.drop i).map (jf k)):=by
     intro a s Nh Rf b t cg d
     rw [Vp,Xv (by simp; omega),ca,Cc (by omega),ca]
     exact rb _ d
    have o:∀ (a:Int) (s:Nm) (Nh:Int) (Rf:List Wa) (b:Int) (t:Nm) (v:Bool),(v=true ↔ y.Kind=2∨y.Kind=3)→va.mk y.Kind y.Name (Ya.mk a s) (Ya.mk b t) Nh (if y.Kind=2∨y.Kind=3 then y.Params.map (fun q=>TParam.mk q.Name (hg q.zb)) else []) Rf=jf k y→xr (i:Int) acc y a s Nh Rf b t (Ei fu l m) v=some (acc++(l.drop i).map (jf k)):=by
     intro a s Nh Rf b t v p d
     rw [xr]
     by_cases w:v=true
     ·rw [if_pos (p.1 w)] at d
      rw [if_pos w]
      have F:∀ (m2 j:Nat) (cg:List TParam),j≤y.Params.length→y.Params.length<m2+j→cg.length≤j→Wp (i:Int) acc y a s Nh Rf b t (Ei fu l m) m2 j cg=Vp (i:Int) acc y a s Nh Rf b t (Ei fu l m) (cg++(y.Params.drop j).map (fun q=>TParam.mk q.Name (hg q.zb))):=by
       intro m2
       induction m2 with
       | zero=>intro j cg e g; omega
       | succ m2 G =>
        intro j cg g4 g5 g6
        rw [Wp]
        by_cases c2:j<y.Params.length
        ·rw [if_pos (by omega),Rd,List.getElem?_eq_getElem c2,ca,Ux,ca,Xv (by simp; omega),ca,tv,Cc (by omega),ca]
         refine (G (j+1) _ c2 (by omega) (by simp; omega)).trans ?_
         rw [List.drop_eq_getElem_cons c2]
         simp only [List.map_cons,List.append_assoc,List.singleton_append]
        ·rw [if_neg (by omega),List.drop_eq_nil_of_le (by omega)]
         simp
      have:=F (y.Params.length+1) 0 [] (by omega) (by omega) (by simp)
      simp only [List.drop_zero,List.nil_append] at this
      rw [show ((0:Nat):Int)=0 from rfl] at this
      rw [this]
      exact n _ _ _ _ _ _ _ d
     ·rw [if_neg (fun h=>w (p.2 h))] at d
      rw [if_neg w]
      exact n _ _ _ _ _ _ _ d
    have r:∀ (a:Int) (s:Nm) (Nh:Int) (Rf:List Wa) (b:Int) (t:Nm),va.mk y.Kind y.Name (Ya.mk a s) (Ya.mk b t) Nh (if y.Kind=2∨y.Kind=3 then y.Params.map (fun q=>TParam.mk q.Name (hg q.zb)) else []) Rf=jf k y→yr (i:Int) acc y a s Nh Rf (Ei fu l m) b t=some (acc++(l.drop i).map (jf k)):=by
     intro a s Nh Rf b t d
     rw [yr]
     by_cases c2:y.Kind=2
     ·rw [if_pos c2]; exact o _ _ _ _ _ _ _ (by simp [c2]) d
     ·rw [if_neg c2]; exact o _ _ _ _ _ _ _ (by simp [c2]) d
    have u:∀ (a:Int) (s:Nm) (Nh:Int) (Rf:List Wa),Ya.mk a s=(if y.Kind≠4 then hg y.zb else Ya.mk 0 [])→Nh=(if y.Kind=1 then y.oe else 0)→Rf=(if y.Kind=1 then [] else y.Body.map (gf k))→zr (i:Int) acc y a s (Ei fu l m) Nh Rf=some (acc++(l.drop i).map (jf k)):=by
     intro a s Nh Rf e g x
     rw [zr]
     by_cases c3:y.Kind=3
     ·rw [if_pos c3,Ux,ca]
      refine r _ _ _ _ _ _ ?_
      rw [jf,e,g,x,if_pos c3]
     ·rw [if_neg c3]
      refine r _ _ _ _ _ _ ?_
      rw [jf,e,g,x,if_neg c3]
    have A:∀ (a:Int) (s:Nm),Ya.mk a s=(if y.Kind≠4 then hg y.zb else Ya.mk 0 [])→Ar fu (i:Int) acc y (Ei fu l m) a s=some (acc++(l.drop i).map (jf k)):=by
     intro a s e
     rw [Ar]
     by_cases f:y.Kind=1
     ·rw [if_pos f]
      exact u _ _ _ _ e (by rw [if_pos f]) (by rw [if_pos f])
     ·rw [if_neg f,tF fu k y.Body B D E,ca]
      exact u _ _ _ _ e (by rw [if_neg f]) (by rw [if_neg f])
    by_cases c4:y.Kind≠4
    ·rw [if_pos c4,Ux,ca]
     exact A _ _ (by rw [if_pos c4])
    ·rw [if_neg c4]
     exact A _ _ (by rw [if_neg c4])
   ·rw [if_neg (by omega),List.drop_eq_nil_of_le (by omega)]
    simp
 have:=L (l.length+1) 0 [] (by omega) (by omega) (by simp)
 simpa [Ot] using this
def Lw:Nat→ua→ua→Prop
 | 0,_,_=>False
 | k+1,x,a=>a.Kind=x.Kind∧(x.Kind=1∨x.Kind=2→a.N=x.N)∧(x.Kind=3∨x.Kind=20∨x.Kind=19∨x.Kind=22→a.Name=x.Name)∧xl (Lw k) x.Kids a.Kids
def Fq:Nat→Wa→Wa→Prop
 | 0,_,_=>False
 | k+1,s,a=>a.Kind=s.Kind∧(s.Kind=1∨s.Kind=2∨s.Kind=7→a.Name=s.Name)∧(s.Kind≠6→Lw k s.X a.X)∧(s.Kind=3∨s.Kind=4→xl (Fq k) s.Body a.Body)∧(s.Kind=3→xl (Fq k) s.jd a.jd)
theorem xl.map {α:Type} {R:α→α→Prop} {f:α→α} {l:List α} (h:∀ y ∈ l,R y (f y)):xl R l (l.map f) :=
 ⟨by simp,fun i y a=>⟨f y,by rw [List.getElem?_map,a]; rfl,h y (List.mem_of_getElem? a)⟩⟩
theorem OA:∀ (k:Nat) (x:ua),Bq k x→Lw k x (Hf k x)
 | 0,x,h=>by cases h
 | k+1,x,h=>⟨rfl,fun c=>by simp only [Hf]; rw [if_pos c],fun c=>by simp only [Hf]; rw [if_pos c],xl.map fun y a=>OA k y (h.2 y a)⟩
theorem Gx:∀ (k:Nat) (x:Wa),Zn k x→Fq k x (gf k x)
 | 0,x,h=>by cases h
 | k+1,x,h=>⟨rfl,fun c=>by simp only [gf]; rw [if_pos c],fun c=>by simp only [gf]; rw [if_pos c]; exact OA k _ h.1,fun c=>by simp only [gf]; rw [if_pos c]; exact xl.map fun y a=>Gx k y (h.2.1.2 y a),fun c=>by simp only [gf]; rw [if_pos c]; exact xl.map fun y a=>Gx k y (h.2.2.2 y a)⟩
theorem JE:∀ (n k:Nat) (x a:ua) (d node:Int),Lw k x a→(Nf n).Vg node a d=(Nf n).Vg node x d:=by
 intro n
 induction n with
 | zero=>intro k x a d node h; rfl
 | succ n A =>
  intro k x a d node h
  cases k with
  | zero=>cases h
  | succ k =>
  obtain ⟨j,t,p,f⟩:=h
  show Vg n (Nf n) node a d=Vg n (Nf n) node x d
  have L:∀ (m i:Nat) (c:Int),Vi (Nf n) a d m i c=Vi (Nf n) x d m i c:=by
   intro m
   induction m with
   | zero=>intro i c; rfl
   | succ m B =>
    intro i c
    rw [Vi,Vi,f.1]
    by_cases q:i<x.Kids.length
    ·obtain ⟨C,r⟩:=f.at q
     rw [if_pos (by omega),if_pos (by omega),Rd,List.getElem?_eq_getElem C,ca,Rd,List.getElem?_eq_getElem q,ca]
     generalize i64 (d+1)=o
     cases o with
     | none=>rw [fh,fh]
     | some u =>
      rw [ca,ca,A k x.Kids[i] a.Kids[i] u c r]
      generalize (Nf n).Vg c x.Kids[i] u=o
      cases o with
      | none=>rw [fh,fh]
      | some e =>
       rw [ca,ca]
       by_cases z:e.1≠0
       ·rw [if_pos z,if_pos z]
       ·rw [if_neg z,if_neg z]
        by_cases w:(i:Int)+1≤9223372036854775807
        ·rw [Cc (by omega),ca,ca]
         exact B (i+1) e.2
        ·rw [i64,if_neg (by omega),fh,fh]
    ·rw [if_neg (by omega),if_neg (by omega)]
  have s:∀ (r:Int×Int) b,Al (Nf n) a d r b=Al (Nf n) x d r b:=by
   intro r b
   rw [Al,Al,f.1]
   have:=L (x.Kids.length+1) 0 r.2
   rw [show ((0:Nat):Int)=0 from rfl] at this
   rw [this]
  have v:∀ (r:Int×Int) (q:Int) b,Bl (Nf n) a d r q b=Bl (Nf n) x d r q b:=by
   intro r q b
   rw [Bl,Bl,f.1,s,s,s]
  have D:∀ (r:Int×Int) (q:Int) b,sk (Nf n) a d r q b=sk (Nf n) x d r q b:=by
   intro r q b
   rw [sk,sk,f.1,v,v]
  have E:∀ (r:Int×Int) b,1≤x.Kind→x.Kind≤24→Qk n (Nf n) a d r (jg x.Kind) b=Qk n (Nf n) x d r (jg x.Kind) b:=by
   intro r b k1 l
   rw [Qk,Qk,j]
   simp only [D]
   by_cases q:b=true
   ·rw [if_pos q,if_pos q]
   rw [if_neg q,if_neg q]
   by_cases c3:x.Kind=3
   ·rw [if_pos c3,if_pos c3,p (.inl c3)]
   rw [if_neg c3,if_neg c3]
   by_cases c20:x.Kind=20
   ·rw [if_pos c20,if_pos c20,p (.inr (.inl c20))]
   rw [if_neg c20,if_neg c20]
   by_cases c:jg x.Kind<0
   ·rw [if_pos c,if_pos c,p (.inr (.inr ?_))]
    unfold jg at c
    split at c
    ·omega
    ·split at c
     ·omega
     ·split at c
      ·omega
      ·omega
   ·rw [if_neg c,if_neg c]
  have F:∀ (r:Int×Int) b,1≤x.Kind→x.Kind≤24→Cl n (Nf n) a d r (jg x.Kind) b=Cl n (Nf n) x d r (jg x.Kind) b:=by
   intro r b k1 l
   rw [Cl,Cl,j]
   simp only [E _ _ k1 l]
   by_cases q:b=true
   ·rw [if_pos q,if_pos q]
   rw [if_neg q,if_neg q]
   by_cases c2:x.Kind=2
   ·rw [if_pos c2,if_pos c2,t (.inr c2)]
   ·rw [if_neg c2,if_neg c2]
  have y:∀ (r:Int×Int) b,(b=false→1≤x.Kind∧x.Kind≤24)→Zj n (Nf n) a d r b=Zj n (Nf n) x d r b:=by
   intro r b G
   rw [Zj,Zj,j,ix]
   by_cases q:b=true
   ·rw [if_pos q,if_pos q]
   ·obtain ⟨k1,l⟩:=G (by simpa using q)
    rw [if_neg q,if_neg q,ca,ca]
    simp only [F _ _ k1 l]
    by_cases g:x.Kind=1
    ·rw [if_pos g,if_pos g,t (.inl g)]
    ·rw [if_neg g,if_neg g]
  rw [Vg,Vg,j]
  congr 1
  funext r
  by_cases z:r.1≠0
  ·rw [if_pos z,if_pos z]
  ·rw [if_neg z,if_neg z]
   by_cases c:x.Kind<1
   ·rw [if_pos c,if_pos c,y r true fun h=>by cases h]
   ·rw [if_neg c,if_neg c,y r _ fun h=>⟨by omega,by have:=of_decide_eq_false h; omega⟩]
theorem KE:∀ (n:Nat),(∀ (k:Nat) (l Ia:List Wa) (d node:Int),xl (Fq k) l Ia→(Of n).Xf node Ia d=(Of n).Xf node l d)∧(∀ (k:Nat) (x a:Wa) (d node:Int),Fq k x a→(Of n).Wh node a d=(Of n).Wh node x d):=by
 intro n
 induction n with
 | zero=>exact ⟨fun _ _ _ _ _ _=>rfl,fun _ _ _ _ _ _=>rfl⟩
 | succ n v =>
  obtain ⟨t,y⟩:=v
  refine ⟨fun k l Ia d node h=>?_,fun k x a d node h=>?_⟩
  ·show Xf (Of n) node Ia d=Xf (Of n) node l d
   have L:∀ (m i:Nat) (c:Int),Xl (Of n) Ia d m i c=Xl (Of n) l d m i c:=by
    intro m
    induction m with
    | zero=>intro i c; rfl
    | succ m A =>
     intro i c
     rw [Xl,Xl,h.1]
     by_cases q:i<l.length
     ·obtain ⟨B,r⟩:=h.at q
      rw [if_pos (by omega),if_pos (by omega),Rd,List.getElem?_eq_getElem B,ca,Rd,List.getElem?_eq_getElem q,ca,y k l[i] Ia[i] d c r]
      generalize (Of n).Wh c l[i] d=o
      cases o with
      | none=>rw [fh,fh]
      | some e =>
       rw [ca,ca]
       by_cases z:e.1≠0
       ·rw [if_pos z,if_pos z]
       ·rw [if_neg z,if_neg z]
        by_cases w:(i:Int)+1≤9223372036854775807
        ·rw [Cc (by omega),ca,ca]
         exact A (i+1) e.2
        ·rw [i64,if_neg (by omega),fh,fh]
     ·rw [if_neg (by omega),if_neg (by omega)]
   rw [Xf,Xf,h.1]
   have:=L (l.length+1) 0 node
   rw [show ((0:Nat):Int)=0 from rfl] at this
   rw [this]
  ·show Wh n (Of n) node a d=Wh n (Of n) node x d
   cases k with
   | zero=>cases h
   | succ k =>
   obtain ⟨p,s,C,D,E⟩:=h
   have F:∀ c,cm (Of n) a d c=cm (Of n) x d c:=by
    intro c
    rw [cm,cm,p]
    by_cases c3:x.Kind=3
    ·rw [if_pos c3,if_pos c3]
     generalize i64 (d+1)=o
     cases o with
     | none=>rw [fh,fh]
     | some f=>rw [ca,ca,t k x.jd a.jd f c (E c3)]
    ·rw [if_neg c3,if_neg c3]
   have u:∀ (r:Int×Int) b,(b=true→x.Kind=3∨x.Kind=4)→dm (Of n) a d r b=dm (Of n) x d r b:=by
    intro r b G
    rw [dm,dm]
    simp only [F]
    by_cases q:b=true
    ·rw [if_pos q,if_pos q]
     generalize i64 (d+1)=o
     cases o with
     | none=>rw [fh,fh]
     | some f=>rw [ca,ca,t k x.Body a.Body f r.2 (D (G q))]
    ·rw [if_neg q,if_neg q]
   have H:∀ (r:Int×Int) b,tk n (Of n) a d r b=tk n (Of n) x d r b:=by
    intro r b
    rw [tk,tk,p]
    by_cases q:b=true
    ·rw [if_pos q,if_pos q]
    rw [if_neg q,if_neg q]
    by_cases Tc:x.Kind=6
    ·rw [if_pos Tc,if_pos Tc]
    rw [if_neg Tc,if_neg Tc]
    generalize i64 (d+1)=o
    cases o with
    | none=>rw [fh,fh]
    | some f =>
     rw [ca,ca,JE n k x.X a.X f r.2 (C Tc)]
     generalize (Nf n).Vg r.2 x.X f=o
     cases o with
     | none=>rw [fh,fh]
     | some e =>
      rw [ca,ca]
      by_cases z:e.1≠0
      ·rw [if_pos z,if_pos z]
      rw [if_neg z,if_neg z]
      by_cases c3:x.Kind=3
      ·rw [if_pos c3,if_pos c3,u e true fun _=>.inl c3]
      ·rw [if_neg c3,if_neg c3,u e _ fun h=>.inr (of_decide_eq_true h)]
   have K:∀ (r:Int×Int) b,Rk n (Of n) a d r b=Rk n (Of n) x d r b:=by
    intro r b
    rw [Rk,Rk,p]
    simp only [H]
    by_cases q:b=true
    ·rw [if_pos q,if_pos q]
    rw [if_neg q,if_neg q]
    by_cases g:x.Kind=1
    ·rw [if_pos g,if_pos g,s (.inl g)]
    rw [if_neg g,if_neg g]
    by_cases c2:x.Kind=2
    ·rw [if_pos c2,if_pos c2,s (.inr (.inl c2))]
    rw [if_neg c2,if_neg c2]
    by_cases j:x.Kind=7
    ·rw [if_pos j,if_pos j,s (.inr (.inr j))]
    ·rw [if_neg j,if_neg j]
   rw [Wh,Wh,p]
   simp only [K]
theorem Hx (fu:Nat) (t:Ya):Yk fu (hg t)=Yk fu t:=by
 have a:=wo (t:=t)
 have:∀ b,Im fu (hg t) b=Im fu t b:=by
  intro b
  rw [Im,Im,a]
  by_cases c:t.Kind=3
  ·have e:hg t=t:=by rw [hg,if_neg (by simpa using c)]
   rw [e]
  ·rw [if_neg c,if_neg c]
 rw [Yk,Yk,a,this,this]
theorem uF (fu k:Nat) (d:va) (node:Int) (ya:Fu k d):xm fu node (jf k d)=xm fu node d:=by
 have a:(jf k d).Kind=d.Kind:=rfl
 have p:(jf k d).Name=d.Name:=rfl
 have s:∀ r:Int×Int,im fu (jf k d) r=im fu d r:=by
  intro r
  rw [im,im,a]
  by_cases c:d.Kind≠1
  ·have f:xl (Fq k) d.Body (jf k d).Body:=by
    show xl (Fq k) d.Body (if d.Kind=1 then [] else d.Body.map (gf k))
    rw [if_neg c]
    exact xl.map fun y t=>Gx k y (ya.2.2 y t)
   rw [if_pos c,if_pos c,(KE fu).1 k d.Body (jf k d).Body 2 r.2 f]
  ·have u:(jf k d).oe=d.oe:=by
    show (if d.Kind=1 then d.oe else 0)=d.oe
    rw [if_pos (Decidable.not_not.1 c)]
   rw [if_neg c,if_neg c,u]
 have x:∀ r:Int×Int,jm fu (jf k d) r=jm fu d r:=by
  intro r
  rw [jm,jm,a]
  simp only [s]
  by_cases c:d.Kind≠4
  ·have g:(jf k d).zb=hg d.zb:=by
    show (if d.Kind≠4 then hg d.zb else _)=_
    rw [if_pos c]
   rw [if_pos c,if_pos c,g,Hx]
  ·rw [if_neg c,if_neg c]
 have j:∀ r:Int×Int,Sk fu (jf k d) r=Sk fu d r:=by
  intro r
  rw [Sk,Sk,a]
  simp only [x]
  by_cases c:d.Kind=3
  ·have g:(jf k d).Hc=hg d.Hc:=by
    show (if d.Kind=3 then hg d.Hc else _)=_
    rw [if_pos c]
   rw [if_pos c,if_pos c,g,Hx]
  ·rw [if_neg c,if_neg c]
 have l:∀ (r:Int×Int) b,(b=true→d.Kind=2∨d.Kind=3)→mm fu (jf k d) r b=mm fu d r b:=by
  intro r b f
  rw [mm,mm]
  simp only [j]
  by_cases q:b=true
  ·have n:(jf k d).Params=d.Params.map (fun q=>TParam.mk q.Name (hg q.zb)):=by
    show (if d.Kind=2∨d.Kind=3 then _ else _)=_
    rw [if_pos (f q)]
   have L:∀ (m i:Nat),km fu (jf k d) r m i=km fu d r m i:=by
    intro m
    induction m with
    | zero=>intro i; rfl
    | succ m A =>
     intro i
     rw [km,km,n,List.length_map]
     by_cases w:i<d.Params.length
     ·rw [if_pos (by omega),if_pos (by omega),Rd,List.getElem?_map,List.getElem?_eq_getElem w,Rd,List.getElem?_eq_getElem w,ca]
      simp only [Option.map_some,ca]
      rw [Hx]
      generalize tg fu d.Params[i].Name=o
      cases o with
      | none=>rw [fh,fh]
      | some v =>
       rw [ca,ca]
       by_cases y:v=true
       ·rw [if_pos y,if_pos y]
        generalize Yk fu d.Params[i].zb=o
        cases o with
        | none=>rw [fh,fh]
        | some e =>
         rw [ca,ca]
         by_cases z:e≠0
         ·rw [if_pos z,if_pos z]
         ·rw [if_neg z,if_neg z]
          have hle:=ya.1
          rw [Cc (by omega),ca,ca]
          exact A (i+1)
       ·rw [if_neg y,if_neg y]
     ·rw [if_neg (by omega),if_neg (by omega),j]
   have e:=L (d.Params.length+1) 0
   rw [show ((0:Nat):Int)=0 from rfl] at e
   rw [if_pos q,if_pos q,n,List.length_map,e]
  ·rw [if_neg q,if_neg q]
 have B:∀ (r:Int×Int) b,Tk fu (jf k d) r b=Tk fu d r b:=by
  intro r b
  rw [Tk,Tk,a,p]
  by_cases c2:d.Kind=2
  ·rw [if_pos c2,if_pos c2,l r true fun _=>.inl c2]
  ·rw [if_neg c2,if_neg c2,l r _ fun h=>.inr (of_decide_eq_true h)]
 rw [xm,xm,a]
 simp only [B]
theorem WD (fu k:Nat) (l:List va) (qa:Gu k l):Fj fu (l.map (jf k))=Fj fu l:=by
 have L:∀ (m i:Nat) (c:Int),Yl fu (l.map (jf k)) m i c=Yl fu l m i c:=by
  intro m
  induction m with
  | zero=>intro i c; rfl
  | succ m a =>
   intro i c
   rw [Yl,Yl,List.length_map]
   by_cases w:i<l.length
   ·rw [if_pos (by omega),if_pos (by omega),Rd,List.getElem?_map,List.getElem?_eq_getElem w,Rd,List.getElem?_eq_getElem w,ca]
    simp only [Option.map_some,ca]
    rw [uF fu k _ c (qa.2 _ (List.getElem_mem w))]
    generalize xm fu c l[i]=o
    cases o with
    | none=>rw [fh,fh]
    | some e =>
     rw [ca,ca]
     by_cases z:e.1≠0
     ·rw [if_pos z,if_pos z]
     ·have:=qa.1
      rw [if_neg z,if_neg z,Cc (by omega),ca,ca]
      exact a (i+1) e.2
   ·rw [if_neg (by omega),if_neg (by omega)]
 rw [Fj,Fj,List.length_map]
 have:=L (l.length+1) 0 0
 rw [show ((0:Nat):Int)=0 from rfl] at this
 rw [this]
end Go.Y
namespace Go.Y
open Go.bc Go.Dc
theorem Jy {α β:Type} {f:α→Option β}:Option.bind (none:Option α) f=none:=rfl
section
variable {fu:Nat} {l:List va}
theorem hH (qa:l.length≤30) (N:List (Nm×va)) (p:Zb) (f:Vc):∀ (m i:Nat),lo fu l N m i=some (p,f)→f.Ue=0→p=⟨l,N⟩∧∀ j (a:j<l.length),i≤j→yo fu ⟨l,N⟩ l[j]=some 0:=by
 intro m
 induction m with
 | zero=>intro i h; cases h
 | succ m d =>
  intro i h b
  rw [lo] at h
  by_cases c:i<l.length
  ·rw [if_pos (by omega),Rd,List.getElem?_eq_getElem c,ca] at h
   cases e:yo fu ⟨l,N⟩ l[i] with
   | none=>rw [e,Jy] at h; cases h
   | some r =>
    rw [e,ca] at h
    by_cases z:r≠0
    ·rw [if_pos z] at h
     obtain ⟨rfl,rfl⟩:=Prod.mk.inj (Option.some.inj h)
     exact absurd b z
    ·rw [if_neg z,Cc (by omega),ca] at h
     obtain ⟨g,k⟩:=d (i+1) h b
     refine ⟨g,fun j a n=>?_⟩
     by_cases q:j=i
     ·subst q; rw [e,Decidable.not_not.1 z]
     ·exact k j a (by omega)
  ·rw [if_neg (by omega)] at h
   obtain ⟨rfl,rfl⟩:=Prod.mk.inj (Option.some.inj h)
   exact ⟨rfl,fun j a n=>by omega⟩
theorem iH (qa:l.length≤30) (N:List (Nm×va)) (p:Zb) (f:Vc):∀ (m i:Nat),mo fu l N m i=some (p,f)→f.Ue=0→lo fu l N (l.length+1) 0=some (p,f):=by
 intro m
 induction m with
 | zero=>intro i h; cases h
 | succ m b =>
  intro i h a
  rw [mo] at h
  by_cases c:i<l.length
  ·rw [if_pos (by omega),Rd,List.getElem?_eq_getElem c,ca] at h
   cases e:Pr ⟨l,N⟩ l[i] with
   | none=>rw [e,Jy] at h; cases h
   | some r =>
    rw [e,ca] at h
    by_cases z:r≠0
    ·rw [if_pos z] at h
     obtain ⟨rfl,rfl⟩:=Prod.mk.inj (Option.some.inj h)
     exact absurd a z
    ·rw [if_neg z,Cc (by omega),ca] at h
     exact b (i+1) h a
  ·rw [if_neg (by omega)] at h
   exact h
theorem jH (qa:l.length≤30) (p:Zb) (f:Vc):∀ (m i:Nat) (t:Int) (N:List (Nm×va)),oo fu l m t i N=some (p,f)→f.Ue=0→∃ N,mo fu l N (l.length+1) 0=some (p,f):=by
 intro m
 induction m with
 | zero=>intro i t N h; cases h
 | succ m b =>
  intro i t N h a
  rw [oo] at h
  by_cases c:i<l.length
  ·have hb:at_ l (i:Int)=some l[i]:=by rw [Rd,List.getElem?_eq_getElem c]
   rw [if_pos (by omega),hb,ca] at h
   by_cases q:(vb N l[i].Name).isSome=true
   ·rw [if_pos q] at h
    obtain ⟨rfl,rfl⟩:=Prod.mk.inj (Option.some.inj h)
    exact absurd a (by show ¬ (7:Int)=0; decide)
   ·rw [if_neg q,ca,ca,ca] at h
    by_cases Af:l[i].Kind=4
    ·rw [if_pos Af] at h
     cases e:i64 (t+1) with
     | none=>rw [e,Jy] at h; cases h
     | some ld =>
      rw [e,ca,Cc (by omega),ca] at h
      exact b (i+1) ld _ h a
    ·rw [if_neg Af,Cc (by omega),ca] at h
     exact b (i+1) t _ h a
  ·rw [if_neg (by omega)] at h
   by_cases t0:t=0
   ·rw [if_pos t0] at h
    obtain ⟨rfl,rfl⟩:=Prod.mk.inj (Option.some.inj h)
    exact absurd a (by show ¬ (6:Int)=0; decide)
   ·rw [if_neg t0] at h
    exact ⟨N,h⟩
theorem XD (b:500≤fu) {p:Zb} {f:Vc} (h:lp fu l=some (p,f)) (a:f.Ue=0):Bk p l∧∀ d ∈ l,d.Kind≠1→Vh (Dg p 39) (d.Kind≠4∧d.Params≠[]) d.Body:=by
 obtain ⟨r,s,c,i⟩:=cz fu b l
 rw [h] at c
 obtain ⟨rfl,rfl⟩:=Prod.mk.inj (Option.some.inj c)
 have R:=i a
 refine ⟨R,?_⟩
 have qa:=R.ok.le
 obtain ⟨g,g1,-⟩:=kt fu (by omega) l
 rw [lp,g1,ca] at h
 by_cases z:g.Ue≠0
 ·rw [if_pos z] at h
  obtain ⟨-,rfl⟩:=Prod.mk.inj (Option.some.inj h)
  exact absurd a z
 ·rw [if_neg z] at h
  obtain ⟨N,h⟩:=jH qa p f _ 0 0 _ h a
  obtain ⟨rfl,m⟩:=hH qa N p f _ 0 (iH qa N p f _ 0 h a) a
  intro d ya k1
  obtain ⟨j,n,rfl⟩:=List.getElem_of_mem ya
  obtain ⟨e,sa,o⟩:=gI fu b ⟨l,N⟩ l[j] (fun k d q=>R.ya d (R.only k d q).1) (R.ya _ ya) (R.ok.ok _ ya)
  rw [m j n (Nat.zero_le _)] at sa
  exact o (Option.some.inj sa).symm k1
end
end Go.Y
namespace Go.Y
open Go.bc Go.Dc
abbrev Uj:=List (List (Nm×Int))
structure Qn (p:Zb) (T:Pf):Prop where
 Qo:∀ n d,vb p.named n=some d→vb T.defs n=some d
 un:∀ n d,vb p.named n=some d→d.Kind≠1→∃ u,vb T.lj n=some u∧0≤u∧u≤30
 vJ:∀ n u,vb T.lj n=some u→zm T.lj u=some (some (n,u))
 wJ:∀ y,y<0→zm T.lj y=some none
 ok:∀ n d,vb p.named n=some d→Tl d∧cl p d
def jn (p:Zb) (T:Pf) (t:Int):Prop:=(0≤t∧t≤9)∨∃ n d u,vb p.named n=some d∧d.Kind=3∧vb T.lj n=some u∧t=10+u∧0≤u∧u≤30
variable {p:Zb} {T:Pf}
theorem Ev (H:Qn p T) {t:Ya} (h:Jk t) (e:Ni p t):∃ r,Pm T t=some r∧jn p T r:=by
 obtain ⟨a,b⟩:=h
 rw [Pm]
 by_cases c:t.Kind=3
 ·obtain ⟨d,d1,d2⟩:=e c
  obtain ⟨u,Cf,zd,f⟩:=H.un _ d d1 (by omega)
  rw [if_pos c,Cf]
  show ∃ r,Option.bind (i64 (10+u)) _=some r∧_
  rw [Cc (by omega),ca]
  exact ⟨_,rfl,.inr ⟨_,d,u,d1,d2,Cf,rfl,zd,f⟩⟩
 ·rw [if_neg c]
  exact ⟨_,rfl,.inl (by omega)⟩
theorem sx (H:Qn p T) {n:Nm} {d:va} (h:vb p.named n=some d) (Af:d.Kind≠4):∃ r,Pm T d.zb=some r∧jn p T r:=by
 obtain ⟨o,ya⟩:=H.ok n d h
 exact Ev H (o.ty Af) (.of (ya.ty Af))
structure Qe (p:Zb) (T:Pf) (loca:List Int) (take:Int) (bloc:Uj):Prop where
 Cj:∀ t ∈ loca,jn p T t
 Mh:jn p T take
 Kd:∀ m ∈ bloc,∀ n k,vb m n=some k→0≤k∧k<loca.length
 Pb:bloc.length≤100
 th:loca.length≤100000
theorem Fv {kind para:Int} {loca:List Int} {resu take:Int} {code:List Bc} {bloc:Uj} (a b c:Int) (h:code.length≤2000000) :
  Pg T kind para loca resu take code bloc a b c=some ((code.length:Int),kind,para,loca,resu,take,code++[⟨a,b,c⟩],bloc):=by
 rw [Pg,hi (by simp; omega),ca,Cc (by simp; omega),ca]
 simp
theorem Oz {kind para:Int} {loca:List Int} {resu take:Int} {code:List Bc} {bloc:Uj} (j:Qe p T loca take bloc) (fu:Nat) (d:110≤fu) (name:Nm) :
  ∃ k,bs fu T kind para loca resu take code bloc name=some k∧0≤k∧(loca≠[]→k<loca.length):=by
 have f:=j.Pb
 have L:∀ (n i:Nat),i≤bloc.length→i<n→∃ k,er name bloc n ((i:Int) - 1)=some k∧0≤k∧(loca≠[]→k<loca.length):=by
  intro n
  induction n with
  | zero=>intro i a b; omega
  | succ n c =>
   intro i a b
   rw [er]
   cases i with
   | zero =>
    rw [if_neg (by omega)]
    refine ⟨0,rfl,by omega,fun h=>?_⟩
    have:=List.length_pos_iff.2 h
    omega
   | succ i =>
    have e:((i+1:Nat):Int) - 1=(i:Int):=by omega
    rw [e,if_pos (by omega),Rd,List.getElem?_eq_getElem (show i<bloc.length by omega),ca]
    cases h:vb bloc[i] name with
    | none =>
     rw [if_neg (by simp),Cc (by omega),ca]
     exact c i (by omega) (by omega)
    | some t =>
     have:=j.Kd _ (List.getElem_mem _) _ _ h
     exact ⟨t,rfl,this.1,fun _=>this.2⟩
 rw [bs,Cc (by omega),ca]
 exact L fu bloc.length (by omega) (by omega)
theorem LC (H:Qn p T) {k:Nat} {x:ua} {V:Prop} {kind para:Int} {loca:List Int} {resu take:Int} {code:List Bc} {bloc:Uj} {l:List Int} (s:bh (k+1) x) (v:Sb p V (k+1) x) (j:Qe p T loca take bloc) (qa:code.length≤1000000) (E:l.length=x.Kids.length) (w:∀ t ∈ l,jn p T t)
  (F:¬ (x.Kind≤5)) (b:Bool) (m:b=true ↔ x.Kind≤18):∃ t i,gr x T kind para resu take loca code bloc l b=some (t,kind,para,loca,resu,take,code++[i],bloc)∧jn p T t:=by
 obtain ⟨k1,G,y,K⟩:=s
 obtain ⟨z,A,c20,-,-⟩:=v
 have P:=fun a b c=>Fv (T:=T) (kind:=kind) (para:=para) (loca:=loca) (resu:=resu) (take:=take) (bloc:=bloc) a b c (show code.length≤2000000 by omega)
 rw [gr]
 by_cases q:b=true
 ·have:=m.1 q
  rw [if_pos q,Cc (by omega),ca,Cc (by omega),ca,P,ca]
  split
  ·exact ⟨1,_,rfl,.inl (by omega)⟩
  ·exact ⟨2,_,rfl,.inl (by omega)⟩
 have L:¬ x.Kind≤18:=fun h=>q (m.2 h)
 rw [if_neg q]
 by_cases d19:x.Kind=19
 ·obtain ⟨d,d1,d2⟩:=z d19
  obtain ⟨r,f,g⟩:=sx H d1 (by omega)
  rw [if_pos d19,P,ca,H.Qo _ _ d1,ca,f,ca]
  exact ⟨r,_,rfl,g⟩
 rw [if_neg d19]
 by_cases d20:x.Kind=20
 ·obtain ⟨d,d1,d2⟩:=c20 d20
  obtain ⟨r,f,g⟩:=sx H d1 (by omega)
  rw [if_pos d20,P,ca,H.Qo _ _ d1,ca,f,ca]
  exact ⟨r,_,rfl,g⟩
 rw [if_neg d20]
 by_cases d22:x.Kind=22
 ·obtain ⟨d,d1,d2⟩:=A d22
  obtain ⟨u,Cf,zd,B⟩:=H.un _ d d1 (by omega)
  rw [if_pos d22,P,ca,Cf]
  show ∃ t i,Option.bind (i64 (10+u)) _=_∧_
  rw [Cc (by omega),ca]
  exact ⟨_,_,rfl,.inr ⟨_,d,u,d1,d2,Cf,rfl,zd,B⟩⟩
 rw [if_neg d22]
 by_cases d21:x.Kind=21
 ·rw [if_pos d21,P,ca]
  exact ⟨take,_,rfl,j.Mh⟩
 rw [if_neg d21]
 by_cases d24:x.Kind=24
 ·rw [if_pos d24,P,ca]
  exact ⟨2,_,rfl,.inl (by omega)⟩
 rw [if_neg d24]
 have d23:x.Kind=23:=by omega
 have M:x.Kids.length=2:=by have:=y.eq (by rw [d23]; decide); rw [d23] at this; have e:jg 23=2:=(by decide); omega
 have o:0<l.length:=by omega
 rw [P,ca,yg o,ca]
 rcases w _ (List.getElem_mem o) with ⟨xa,a2⟩ | ⟨n,d,u,sa,N,C,D,Q,R⟩
 ·rw [Cc (by omega),ca,H.wJ _ (by omega),ca]
  exact ⟨0,_,rfl,.inl (by omega)⟩
 ·rw [Cc (by omega),ca,D,show (10+u - 10:Int)=u by omega,H.vJ _ _ C,ca]
  obtain ⟨r,f,g⟩:=sx H sa (by omega)
  rw [if_pos (show (some (n,u):Option (Nm×Int)).isSome=true from rfl)]
  show ∃ t i,Option.bind (vb T.defs n) _=_∧_
  rw [H.Qo _ _ sa,ca,f,ca]
  exact ⟨r,_,rfl,g⟩
theorem YD (H:Qn p T):∀ (n k:Nat) (x:ua) (V:Prop) (kind para:Int) (loca:List Int) (resu take:Int) (code:List Bc) (bloc:Uj),130+k≤n→bh k x→Sb p V k x→(V→loca≠[])→Qe p T loca take bloc→code.length+Mg k x≤1000000 →
  ∃ t tc,(zo n).tj T kind para loca resu take code bloc x=some (t,kind,para,loca,resu,take,code++tc,bloc)∧tc.length=Mg k x∧jn p T t:=by
 intro n
 induction n with
 | zero=>intro k x V kind para loca resu take code bloc h; omega
 | succ n w =>
  intro k x V kind para loca resu take code bloc M g q r j qa
  cases k with
  | zero=>cases g
  | succ k =>
  show ∃ t tc,tj n (zo n) T kind para loca resu take code bloc x=_∧_
  have y:=g
  have z:=q
  obtain ⟨k1,N,A,B⟩:=g
  obtain ⟨Q,R,c20,c3,C⟩:=q
  have S:=A.le
  rw [Mg] at qa ⊢
  rw [tj]
  have L:∀ (m i:Nat) (code:List Bc) (d:List Int),i≤x.Kids.length→x.Kids.length<m+i→d.length=i→(∀ t ∈ d,jn p T t)→code.length+(((x.Kids.drop i).map (Mg k)).sum+1)≤1000000 →
    ∃ t tc,hr n (zo n) x T m i kind para resu take loca code bloc d=some (t,kind,para,loca,resu,take,code++tc,bloc)∧tc.length=((x.Kids.drop i).map (Mg k)).sum+1∧jn p T t:=by
   intro m
   induction m with
   | zero=>intro i code d D E; omega
   | succ m F =>
    intro i code d D E G s l
    rw [hr]
    by_cases c:i<x.Kids.length
    ·have hm:x.Kids[i] ∈ x.Kids:=List.getElem_mem _
     rw [List.drop_eq_getElem_cons c,List.map_cons,List.sum_cons] at l ⊢
     obtain ⟨t,v,sa,f,e⟩:=w k x.Kids[i] V kind para loca resu take code bloc (by omega) (B _ hm) (C _ hm) r j (by omega)
     rw [if_pos (by omega),Rd,List.getElem?_eq_getElem c,ca,sa,ca]
     simp only []
     rw [hi (by simp; omega),ca,Cc (by omega),ca]
     obtain ⟨ld,c2,f1,f2,f3⟩:=F (i+1) (code++v) (d++[t]) c (by omega) (by simp [G]) (fun u hu=>by
      rcases List.mem_append.1 hu with hu | hu
      ·exact s u hu
      ·rw [List.mem_singleton.1 hu]; exact e) (by rw [List.length_append]; omega)
     refine ⟨ld,v++c2,?_,by rw [List.length_append]; omega,f3⟩
     rw [← List.append_assoc]
     exact f1
    ·have ya:x.Kids.drop i=[]:=List.drop_eq_nil_of_le (by omega)
     rw [ya] at l ⊢
     simp only [List.map_nil,List.sum_nil] at l ⊢
     have P:=fun a b c=>Fv (T:=T) (kind:=kind) (para:=para) (loca:=loca) (resu:=resu) (take:=take) (bloc:=bloc) a b c (show code.length≤2000000 by omega)
     rw [if_neg (by omega)]
     by_cases d1:x.Kind=1
     ·rw [if_pos d1,P,ca]; exact ⟨1,[_],rfl,rfl,.inl (by omega)⟩
     rw [if_neg d1]
     by_cases d2:x.Kind=2
     ·rw [if_pos d2,P,ca]; exact ⟨2,[_],rfl,rfl,.inl (by omega)⟩
     rw [if_neg d2]
     by_cases d3:x.Kind=3
     ·have K:=r (c3 d3)
      obtain ⟨i,sa,f,e⟩:=Oz (kind:=kind) (para:=para) (resu:=resu) (code:=code) j n (by omega) x.Name
      have e:=e K
      obtain ⟨o,rfl⟩:∃ o:Nat,i=(o:Int):=⟨i.toNat,by omega⟩
      rw [if_pos d3,sa,ca,P,ca]
      simp only []
      rw [Rd,List.getElem?_eq_getElem (show o<loca.length by omega),ca]
      exact ⟨_,[_],rfl,rfl,j.Cj _ (List.getElem_mem _)⟩
     rw [if_neg d3]
     by_cases d4:x.Kind=4
     ·rw [if_pos d4,P,ca]; exact ⟨1,[_],rfl,rfl,.inl (by omega)⟩
     rw [if_neg d4]
     by_cases d5:x.Kind=5
     ·rw [if_pos d5,P,ca]; exact ⟨2,[_],rfl,rfl,.inl (by omega)⟩
     rw [if_neg d5,if_pos (by omega)]
     obtain ⟨t,i,sa,f⟩:=LC (kind:=kind) (para:=para) (resu:=resu) H y z j (show code.length≤1000000 by omega) (show d.length=x.Kids.length by omega) s (by omega) (decide (x.Kind≤18)) (by simp)
     exact ⟨t,[i],sa,rfl,f⟩
  obtain ⟨t,tc,sa,f,e⟩:=L (x.Kids.length+1) 0 code [] (by omega) (by omega) rfl (by simp) (by rw [List.drop_zero]; omega)
  refine ⟨t,tc,sa,?_,e⟩
  rw [f,List.drop_zero]
  omega
structure Left (p:Zb) (T:Pf) (loca:List Int) (take:Int) (code:List Bc) (b q:Nat) (a:List Int) (d:List Bc) (e:Uj):Prop where
 j:Qe p T a take e
 b:e.length=b
 c:code.length≤d.length
 tc:d.length≤code.length+4*q
 l:loca.length≤a.length
 Ia:a.length≤loca.length+q
theorem Left.ne {loca a:List Int} {take:Int} {code c:List Bc} {b q:Nat} {d:Uj} (h:Left p T loca take code b q a c d) (e:loca≠[]):a≠[]:=by
 have:=h.l
 have:=List.length_pos_iff.2 e
 exact List.length_pos_iff.1 (by omega)
theorem Qe.take {loca:List Int} {take:Int} {bloc:Uj} (j:Qe p T loca take bloc) (n:Nat):Qe p T loca take (bloc.take n) :=
 ⟨j.Cj,j.Mh,fun m hm=>j.Kd m (List.mem_of_mem_take hm),by have:=j.Pb; rw [List.length_take]; omega,j.th⟩
theorem qz {kind para:Int} {loca:List Int} {resu take:Int} {code:List Bc} {bloc:Uj} (j:Qe p T loca take bloc) (name:Nm) (t:Int) (d:jn p T t) (e:0<bloc.length) (qa:loca.length<100000) :
  ∃ b,Qr T kind para loca resu take code bloc name t=some ((loca.length:Int),kind,para,loca++[t],resu,take,code,b)∧b.length=bloc.length∧Qe p T (loca++[t]) take b:=by
 have f:=j.Pb
 have c:bloc.length - 1<bloc.length:=by omega
 have sa:(bloc.length:Int) - 1=((bloc.length - 1:Nat):Int):=by omega
 refine ⟨bloc.set (bloc.length - 1) (cc bloc[bloc.length - 1] name (loca.length:Int)),?_,by simp,?_,j.Mh,?_,by simpa using j.Pb,by simp; omega⟩
 ·rw [Qr,hi (by simp; omega),ca,Cc (by simp; omega),ca,Cc (by omega),ca,sa,Rd,List.getElem?_eq_getElem c,ca]
  simp
 ·intro u hu
  rcases List.mem_append.1 hu with hu | hu
  ·exact j.Cj u hu
  ·rw [List.mem_singleton.1 hu]; exact d
 ·intro m hm n k a
  rw [List.length_append,List.length_singleton]
  rcases List.mem_or_eq_of_mem_set hm with hm | rfl
  ·have:=j.Kd m hm n k a; omega
  ·rw [ck] at a
   split at a
   ·obtain rfl:=Option.some.inj a; omega
   ·have:=j.Kd _ (List.getElem_mem c) n k a; omega
structure RI (p:Zb) (T:Pf) (n:Nat):Prop where
 body:∀ (k:Nat) (l:List Wa) (V:Prop) (kind para:Int) (loca:List Int) (resu take:Int) (code:List Bc) (bloc:Uj),l.length≤50→(∀ y ∈ l,Bj k y)→Vh (Dg p k) V l→bloc.length+k≤90→5*k+160≤n→(V→loca≠[])→Qe p T loca take bloc→code.length+4*(l.map (we k)).sum≤100000→loca.length+(l.map (we k)).sum≤100000 →
  ∃ a b c,(Ao n).Ij T kind para loca resu take code bloc l=some (kind,para,a,resu,take,b,c)∧Left p T loca take code bloc.length (l.map (we k)).sum a b c
 stat:∀ (k:Nat) (s:Wa) (V:Prop) (kind para:Int) (loca:List Int) (resu take:Int) (code:List Bc) (bloc:Uj),Bj k s→Dg p k V s→0<bloc.length→bloc.length+k≤91→5*k+159≤n→(V→loca≠[])→Qe p T loca take bloc→code.length+4*we k s≤100000→loca.length+we k s≤100000 →
  ∃ a b c,(Ao n).Om T kind para loca resu take code bloc s=some (kind,para,a,resu,take,b,c)∧Left p T loca take code bloc.length (we k s) a b c∧(s.Kind=1→a≠[])
theorem vF {α:Type} {l:List α} (h:0<l.length):cut l 0 ((l.length:Int) - 1)=some (l.take (l.length - 1)):=by
 rw [cut,if_pos (by omega)]
 simp
theorem SI (H:Qn p T):∀ n,RI p T n:=by
 intro n
 induction n with
 | zero=>exact ⟨fun _ _ _ _ _ _ _ _ _ _ _ _ _ _ h=>by omega,fun _ _ _ _ _ _ _ _ _ _ _ _ _ _ h=>by omega⟩
 | succ n A =>
  refine ⟨fun k l V kind para loca resu take code bloc qa B u gc lc f j v w=>?_,fun k s V kind para loca resu take code bloc B u rc gc lc f j v w=>?_⟩
  ·show ∃ C D F,Ij (Ao n) T kind para loca resu take code bloc l=_∧_
   have Ne:=j.Pb
   rw [Ij,hi (by simp; omega),ca]
   have L:∀ (m i:Nat) (V:Prop) (loca:List Int) (code:List Bc) (Kd:Uj),i≤l.length→l.length<m+i→Vh (Dg p k) V (l.drop i)→(V→loca≠[])→Kd.length=bloc.length+1→Qe p T loca take Kd→code.length+4*((l.drop i).map (we k)).sum≤100000→loca.length+((l.drop i).map (we k)).sum≤100000 →
     ∃ C D F,ir (Ao n) l T m i kind para resu take loca code Kd=some (kind,para,C,resu,take,D,F)∧Left p T loca take code bloc.length ((l.drop i).map (we k)).sum C D F:=by
    intro m
    induction m with
    | zero=>intro i V loca code Kd fd id; omega
    | succ m md =>
     intro i V loca code Kd fd id u f of j v w
     rw [ir]
     by_cases c:i<l.length
     ·have hm:l[i] ∈ l:=List.getElem_mem _
      rw [List.drop_eq_getElem_cons c] at u
      rw [List.drop_eq_getElem_cons c,List.map_cons,List.sum_cons] at v w ⊢
      obtain ⟨v1,v2⟩:=u
      obtain ⟨y,rd,o,sa,e,z⟩:=A.stat k l[i] V kind para loca resu take code Kd (B _ hm) v1 (by omega) (by omega) (by omega) f j (by omega) (by omega)
      have xa:=e.b; have a2:=e.c; have a3:=e.tc; have a4:=e.l; have a5:=e.Ia
      rw [if_pos (by omega),Rd,List.getElem?_eq_getElem c,ca,sa,ca]
      simp only []
      rw [Cc (by omega),ca]
      obtain ⟨K,wd,M,f1,f2⟩:=md (i+1) _ y rd o c (by omega) v2 (fun q=>q.elim (fun q=>e.ne (f q)) z) (by omega) e.j (by omega) (by omega)
      have U:=f2.b; have G:=f2.c; have nb:=f2.tc; have S:=f2.l; have ef:=f2.Ia
      exact ⟨K,wd,M,f1,f2.j,U,by omega,by omega,by omega,by omega⟩
     ·have ya:l.drop i=[]:=List.drop_eq_nil_of_le (by omega)
      rw [ya] at v w ⊢
      rw [if_neg (by omega),Cc (by omega),ca,vF (by omega),ca]
      exact ⟨loca,code,_,rfl,j.take _,by rw [List.length_take]; omega,Nat.le_refl _,by omega,Nat.le_refl _,by omega⟩
   have:=L (l.length+1) 0 V loca code (bloc++[[]]) (by omega) (by omega) u f (by simp) ⟨j.Cj,j.Mh,(fun m hm n k N=>by
    rcases List.mem_append.1 hm with hm | hm
    ·exact j.Kd m hm n k N
    ·rw [List.mem_singleton.1 hm] at N; cases N),by rw [List.length_append]; simp; omega,j.th⟩ v w
   exact this
  ·show ∃ C D F,Om n (Ao n) T kind para loca resu take code bloc s=_∧_
   cases k with
   | zero=>cases B
   | succ k =>
   obtain ⟨k1,wf,Fd,W,Id⟩:=B
   obtain ⟨be,Y,ce,If,v2⟩:=u
   have r:we (k+1) s=1+(if s.Kind=6 then 0 else Mg k s.X)+(if s.Kind=3∨s.Kind=4 then (s.Body.map (we k)).sum else 0)+(if s.Kind=3 then (s.jd.map (we k)).sum else 0):=rfl
   generalize we (k+1) s=Q at v w r ⊢
   have P:=fun (kind para:Int) (loca:List Int) (resu take:Int) (code:List Bc) (bloc:Uj) (a b c:Int) (h:code.length≤2000000)=>Fv (T:=T) (kind:=kind) (para:=para) (loca:=loca) (resu:=resu) (take:=take) (bloc:=bloc) a b c h
   have E:s.Kind≠6→∃ t tc,(zo n).tj T kind para loca resu take code bloc s.X=some (t,kind,para,loca,resu,take,code++tc,bloc)∧tc.length=Mg k s.X∧jn p T t:=fun h=>by
    rw [if_neg h] at r
    exact YD H n k s.X V kind para loca resu take code bloc (by omega) (Fd h) (be h) f j (by omega)
   rw [Om]
   by_cases d3:s.Kind=3
   ·obtain ⟨t,d,sa,e,z⟩:=E (by omega)
    obtain ⟨U,G⟩:=W (.inl d3)
    obtain ⟨nb,S⟩:=Id d3
    rw [if_neg (by omega),if_pos (.inl d3),if_pos d3] at r
    rw [if_pos d3,sa,ca]
    simp only []
    rw [P _ _ _ _ _ (code++d) _ _ _ _ (by simp; omega),ca]
    simp only []
    obtain ⟨y,g,o,f1,f2⟩:=A.body k s.Body V kind para loca resu take (code++d++[⟨22,0,0⟩]) bloc U G (Y (.inl d3)) (by omega) (by omega) f j (by simp; omega) (by omega)
    have g1:=f2.b; have g2:=f2.c; have g3:=f2.tc; have g4:=f2.l; have g5:=f2.Ia
    simp only [List.length_append,List.length_singleton] at g2 g3
    rw [f1,ca]
    simp only []
    rw [P _ _ _ _ _ g _ _ _ _ (by omega),ca,Bn,ca]
    simp only []
    have R:(code++d).length<(g++[(⟨21,0,0⟩:Bc)]).length:=by simp; omega
    rw [Rd,List.getElem?_eq_getElem R,ca,gv]
    simp only []
    generalize ge:(g++[(⟨21,0,0⟩:Bc)]).set _ _=Z
    have dg:Z.length=g.length+1:=by rw [← ge]; simp
    obtain ⟨K,he,M,le,x⟩:=A.body k s.jd V kind para y resu take Z o nb S (ce d3) (by omega) (by omega) (fun q=>f2.ne (f q)) f2.j (by omega) (by omega)
    have s1:=x.b; have s2:=x.c; have rg:=x.tc; have bi:=x.l; have ci:=x.Ia
    rw [le,ca,Bn,ca]
    simp only []
    rw [Rd,List.getElem?_eq_getElem (show g.length<he.length by omega),ca,fv]
    exact ⟨K,_,M,rfl,⟨x.j,by omega,by rw [List.length_set]; omega,by rw [List.length_set]; omega,by omega,by omega⟩,fun h=>by omega⟩
   rw [if_neg d3]
   by_cases d4:s.Kind=4
   ·obtain ⟨t,d,sa,e,z⟩:=E (by omega)
    obtain ⟨U,G⟩:=W (.inr d4)
    rw [if_neg (by omega),if_pos (.inr d4),if_neg d3] at r
    rw [if_pos d4,Bn,ca,sa,ca]
    simp only []
    rw [P _ _ _ _ _ (code++d) _ _ _ _ (by simp; omega),ca]
    simp only []
    obtain ⟨y,g,o,f1,f2⟩:=A.body k s.Body V kind para loca resu take (code++d++[⟨22,0,0⟩]) bloc U G (Y (.inr d4)) (by omega) (by omega) f j (by simp; omega) (by omega)
    have g1:=f2.b; have g2:=f2.c; have g3:=f2.tc; have g4:=f2.l; have g5:=f2.Ia
    simp only [List.length_append,List.length_singleton] at g2 g3
    rw [f1,ca]
    simp only []
    rw [P _ _ _ _ _ g _ _ _ _ (by omega),ca,Bn,ca]
    simp only []
    have R:(code++d).length<(g++[(⟨21,(code.length:Int),0⟩:Bc)]).length:=by simp; omega
    rw [Rd,List.getElem?_eq_getElem R,ca,hv]
    exact ⟨y,_,o,rfl,⟨f2.j,by omega,by simp; omega,by simp; omega,by omega,by omega⟩,fun h=>by omega⟩
   rw [if_neg d4]
   rw [if_neg (show ¬ (s.Kind=3∨s.Kind=4) by omega),if_neg d3] at r
   by_cases d6:s.Kind=6
   ·rw [if_pos d6] at r
    rw [if_pos d6,P _ _ _ _ _ code _ _ _ _ (by omega),ca]
    exact ⟨loca,_,bloc,rfl,⟨j,rfl,by simp only [List.length_append,List.length_singleton]; omega,by simp only [List.length_append,List.length_singleton]; omega,Nat.le_refl _,by omega⟩,fun h=>by omega⟩
   rw [if_neg d6]
   rw [if_neg d6] at r
   obtain ⟨t,d,sa,e,z⟩:=E d6
   rw [sa,ca]
   simp only []
   by_cases d1:s.Kind=1
   ·obtain ⟨o,f1,f2,f3⟩:=qz (kind:=kind) (para:=para) (resu:=resu) (code:=code++d) j s.Name t z rc (by omega)
    rw [if_pos d1,f1,ca]
    simp only []
    rw [P _ _ _ _ _ (code++d) _ _ _ _ (by simp; omega),ca]
    exact ⟨loca++[t],_,o,rfl,⟨f3,f2,by simp only [List.length_append,List.length_singleton]; omega,by simp only [List.length_append,List.length_singleton]; omega,by simp only [List.length_append,List.length_singleton]; omega,by simp only [List.length_append,List.length_singleton]; omega⟩,fun _=>by simp⟩
   rw [if_neg d1]
   have fin:∀ i:Bc,Left p T loca take code bloc.length Q loca (code++d++[i]) bloc:=fun i=>⟨j,rfl,by simp only [List.length_append,List.length_singleton]; omega,by simp only [List.length_append,List.length_singleton]; omega,Nat.le_refl _,by omega⟩
   by_cases d2:s.Kind=2
   ·obtain ⟨i,f1,-,-⟩:=Oz (kind:=kind) (para:=para) (resu:=resu) (code:=code++d) j n (by omega) s.Name
    rw [if_pos d2,f1,ca,P _ _ _ _ _ (code++d) _ _ _ _ (by simp; omega),ca]
    exact ⟨loca,_,bloc,rfl,fin _,fun h=>by omega⟩
   rw [if_neg d2]
   by_cases d5:s.Kind=5
   ·rw [if_pos d5,P _ _ _ _ _ (code++d) _ _ _ _ (by simp; omega),ca]
    exact ⟨loca,_,bloc,rfl,fin _,fun h=>by omega⟩
   rw [if_neg d5]
   by_cases d7:s.Kind=7
   ·rw [if_pos d7,P _ _ _ _ _ (code++d) _ _ _ _ (by simp; omega),ca]
    exact ⟨loca,_,bloc,rfl,fin _,fun h=>by omega⟩
   rw [if_neg d7]
   by_cases d8:s.Kind=8
   ·rw [if_pos d8,P _ _ _ _ _ (code++d) _ _ _ _ (by simp; omega),ca]
    exact ⟨loca,_,bloc,rfl,fin _,fun h=>by omega⟩
   rw [if_neg d8]
   have d9:s.Kind=9:=by omega
   rw [if_pos d9,P _ _ _ _ _ (code++d) _ _ _ _ (by simp; omega),ca]
   exact ⟨loca,_,bloc,rfl,fin _,fun h=>by omega⟩
end Go.Y
namespace Go.Y
open Go.bc Go.Dc
section
variable {p:Zb} {T:Pf}
theorem Vy (H:Qn p T) (fu:Nat) (k:500≤fu) (d:va) (V:Prop) (ok:Tl d) (k1:d.Kind≠1) (f:Vh (Dg p 39) V d.Body) (l:(d.Body.map (we 39)).sum≤2000) (bloc:Uj) (para resu:Int) (loca:List Int) (take:Int) (m:bloc.length=1) (g:V→loca≠[]) (j:Qe p T loca take bloc) (qa:loca.length≤100) :
  ∃ u,kr fu T d bloc d.Kind para resu loca [] take=some u∧u.Kind=d.Kind:=by
 obtain ⟨n,e,o,sa,i⟩:=(SI H fu).body 39 d.Body V d.Kind para loca resu take [] bloc (ok.Kd k1) (ok.Rf k1) f (by omega) (by omega) g j (by simp; omega) (by omega)
 have a3:=i.tc
 simp only [List.length_nil] at a3
 have P:=fun (kind para:Int) (loca:List Int) (resu take:Int) (code:List Bc) (bloc:Uj) (a b c:Int) (h:code.length≤2000000)=>Fv (T:=T) (kind:=kind) (para:=para) (loca:=loca) (resu:=resu) (take:=take) (bloc:=bloc) a b c h
 rw [kr,sa,ca]
 simp only []
 by_cases c:d.Kind≠2
 ·rw [if_pos c,P _ _ _ _ _ e _ _ _ _ (by omega),ca]
  exact ⟨_,rfl,rfl⟩
 ·rw [if_neg c]
  by_cases q:resu=2
  ·rw [if_pos q,P _ _ _ _ _ e _ _ _ _ (by omega),ca,jr]
   simp only []
   rw [P _ _ _ _ _ (e++[_]) _ _ _ _ (by simp; omega),ca]
   exact ⟨_,rfl,rfl⟩
  ·rw [if_neg q,P _ _ _ _ _ e _ _ _ _ (by omega),ca,jr]
   simp only []
   rw [P _ _ _ _ _ (e++[_]) _ _ _ _ (by simp; omega),ca]
   exact ⟨_,rfl,rfl⟩
theorem Wy (H:Qn p T) (fu:Nat) (a:500≤fu) (d:va) (V:Prop) (ok:Tl d) (ya:cl p d) (k1:d.Kind≠1) (b:Vh (Dg p 39) V d.Body) (e:(d.Body.map (we 39)).sum≤2000) (bloc:Uj) (para resu:Int) (loca:List Int) (f:bloc.length=1) (g:V→loca≠[]) (j:Qe p T loca 0 bloc) (qa:loca.length≤100) :
  ∃ u,lr fu T d bloc d.Kind para resu 0 loca []=some u∧u.Kind=d.Kind:=by
 rw [lr]
 by_cases c:d.Kind=3
 ·obtain ⟨r,h,i⟩:=Ev H (ok.Mh c) (.of (ya.Mh c))
  rw [if_pos c,h,ca]
  exact Vy H fu a d V ok k1 b e bloc para resu loca r f g ⟨j.Cj,i,j.Kd,j.Pb,j.th⟩ qa
 ·rw [if_neg c]
  exact Vy H fu a d V ok k1 b e bloc para resu loca 0 f g j qa
theorem ZD (H:Qn p T) (fu:Nat) (a:500≤fu) (d:va) (ok:Tl d) (ya:cl p d) (k1:d.Kind≠1) (b:Vh (Dg p 39) (d.Kind≠4∧d.Params≠[]) d.Body) (e:(d.Body.map (we 39)).sum≤2000) :
  ∃ u,Et fu T d=some u∧u.Kind=d.Kind:=by
 have f:Qe p T [] 0 [[]]:=⟨by simp,.inl (by omega),(fun m hm n k g=>by rw [List.mem_singleton.1 hm] at g; cases g),by simp,by simp⟩
 rw [Et]
 by_cases c4:d.Kind=4
 ·rw [if_neg (by simpa using c4)]
  exact Wy H fu a d _ ok ya k1 b e _ 0 0 [] rfl (fun h=>absurd c4 h.1) f (by simp)
 ·have l:d.Kind=2∨d.Kind=3:=by have:=ok.k1; have:=ok.Af; omega
  obtain ⟨z,o⟩:=ok.cg l
  obtain ⟨r,q,A⟩:=Ev H (ok.ty c4) (.of (ya.ty c4))
  rw [if_pos c4,q,ca,jv]
  have L:∀ (m i:Nat) (bloc:Uj) (loca:List Int),i≤d.Params.length→d.Params.length<m+i→bloc.length=1→loca.length=i→Qe p T loca 0 bloc→∃ u,Sp fu T d m i bloc d.Kind (d.Params.length:Int) r 0 loca []=some u∧u.Kind=d.Kind:=by
   intro m
   induction m with
   | zero=>intro i bloc loca s v; omega
   | succ m w =>
    intro i bloc loca s v x qa j
    rw [Sp]
    by_cases c:i<d.Params.length
    ·have hm:d.Params[i] ∈ d.Params:=List.getElem_mem _
     obtain ⟨t,t1,t2⟩:=Ev H (o _ hm) (ya.cg l _ hm)
     obtain ⟨y,f1,f2,f3⟩:=qz (kind:=d.Kind) (para:=(d.Params.length:Int)) (resu:=r) (code:=[]) j d.Params[i].Name t t2 (by omega) (by omega)
     rw [if_pos (by omega),Rd,List.getElem?_eq_getElem c,ca,t1,ca,f1,ca,iv,Cc (by omega),ca]
     exact w (i+1) y (loca++[t]) c (by omega) (by omega) (by simp [qa]) f3
    ·rw [if_neg (by omega)]
     exact Wy H fu a d _ ok ya k1 b e bloc _ r loca x (fun h=>by
      have:=List.length_pos_iff.2 h.2
      exact List.length_pos_iff.1 (by omega)) j (by omega)
  exact L (d.Params.length+1) 0 _ [] (by omega) (by omega) rfl rfl f
end
theorem PA {κ β:Type} [DecidableEq κ]:∀ (m:List (κ×β)) (k:κ) (x:β),vb m k=none→cc m k x=m++[(k,x)]
 | [],k,x,_=>rfl
 | (a,b)::m,k,x,h=>by
  rw [vb] at h
  by_cases c:a=k
  ·rw [if_pos c] at h; cases h
  ·rw [if_neg c] at h
   rw [cc,if_neg c,PA m k x h]
   rfl
theorem Ix {κ β:Type} [DecidableEq κ]:∀ (m:List (κ×β)) (k:κ) (x:β),vb m k=some x→(k,x) ∈ m
 | (a,b)::m,k,x,h=>by
  rw [vb] at h
  by_cases c:a=k
  ·rw [if_pos c] at h; cases h; rw [c]; exact List.mem_cons_self ..
  ·rw [if_neg c] at h; exact List.mem_cons_of_mem _ (Ix m k x h)
theorem filter_one {α:Type} (f:α→Int) (y:Int):∀ (l:List α) (x:α),(l.Pairwise fun a b=>f a≠f b)→x ∈ l→f x=y→(l.filter fun a=>decide (f a=y))=[x]
 | a::l,x,h,c,d=>by
  obtain ⟨e,g⟩:=List.pairwise_cons.1 h
  rcases List.mem_cons.1 c with rfl | c
  ·rw [List.filter_cons_of_pos (by simpa using d)]
   rw [List.filter_eq_nil_iff.2 fun b i=>by have:=e b i; simp; omega]
  ·rw [List.filter_cons_of_neg (by have:=e x c; simp; omega)]
   exact filter_one f y l x g c d
structure Ky (l:List va) (i:Nat) (c:List (Nm×Int)) (D:List (Nm×va)) (m:List zi):Prop where
 le:c.length≤i
 lt:∀ x ∈ c,0≤x.2∧x.2<c.length
 ne:c.Pairwise fun a b=>a.2≠b.2
 Fg:∀ n u,vb c n=some u→∃ d ∈ l.take i,d.Name=n
 un:∀ d ∈ l.take i,d.Kind≠1→∃ u,vb c d.Name=some u
 Qo:∀ d ∈ l.take i,vb D d.Name=some d
 Oh:m=((l.take i).filter fun d=>decide (d.Kind=1)).map fun d=>⟨d.zb.Kind,d.oe⟩
theorem Ky.mJ {p:Zb} {l:List va} (R:Bk p l) {c B:List (Nm×Int)} {D:List (Nm×va)} {m:List zi} (h:Ky l l.length c D m):Qn p ⟨B,c,D⟩:=by
 have f:l.take l.length=l:=List.take_length
 have qa:=R.ok.le
 refine ⟨fun n d ya=>?_,fun n d ya k1=>?_,fun n u hu=>?_,fun y i=>?_,fun n d ya=>?_⟩
 ·obtain ⟨a,rfl⟩:=R.only n d ya
  exact h.Qo d (by rw [f]; exact a)
 ·obtain ⟨a,rfl⟩:=R.only n d ya
  obtain ⟨u,hu⟩:=h.un d (by rw [f]; exact a) k1
  have:=h.lt _ (Ix _ _ _ hu)
  have:=h.le
  refine ⟨u,hu,?_⟩
  simp only at *
  omega
 ·show zm c u=_
  rw [zm,filter_one (fun e:Nm×Int=>e.2) u c (n,u) h.ne (Ix _ _ _ hu) rfl]
  rfl
 ·show zm c y=_
  rw [zm,List.filter_eq_nil_iff.2 fun b g=>by have:=h.lt b g; simp; omega]
  rfl
 ·obtain ⟨a,-⟩:=R.only n d ya
  exact ⟨R.ok.ok d a,R.ya d a⟩
section
variable {p:Zb} {l:List va} {fu:Nat}
theorem nv {i:Nat} (c:i<l.length) (P:va→Bool):(l.take (i+1)).filter P=(l.take i).filter P++[l[i]].filter P:=by
 rw [List.take_succ_eq_append_getElem c,List.filter_append]
theorem ZC (R:Bk p l) (k:∀ d ∈ l,d.Kind≠1→Vh (Dg p 39) (d.Kind≠4∧d.Params≠[]) d.Body) (o:500≤fu) (B a:List (Nm×Int)) (D:List (Nm×va)) (Oh:List zi) (H:Qn p ⟨B,a,D⟩):∀ (m i:Nat) (us:List Hh),i≤l.length→l.length<m+i→us.map (·.Kind)=((l.take i).filter fun d=>decide (d.Kind≠1)).map (·.Kind) →
  ∃ r f,zl fu l B a D Oh m i us=some (r,f)∧(f.Ue=0→r.Hg=Oh∧r.Tf.map (·.Kind)=(l.filter fun d=>decide (d.Kind≠1)).map (·.Kind)):=by
 have qa:=R.ok.le
 intro m
 induction m with
 | zero=>intro i us s t; omega
 | succ m g =>
  intro i us s t hu
  have w:us.length≤30:=by
   have e:=congrArg List.length hu
   rw [List.length_map,List.length_map] at e
   have:=List.length_filter_le (fun d:va=>decide (d.Kind≠1)) (l.take i)
   rw [List.length_take] at this
   omega
  rw [zl]
  by_cases c:i<l.length
  ·have hm:l[i] ∈ l:=List.getElem_mem _
   have hb:at_ l (i:Int)=some l[i]:=by rw [Rd,List.getElem?_eq_getElem c]
   rw [if_pos (by omega),hb,ca]
   by_cases k1:l[i].Kind=1
   ·rw [if_pos k1,Cc (by omega),ca]
    refine g (i+1) us c (by omega) ?_
    rw [nv c,List.filter_cons_of_neg (by simpa using k1),List.filter_nil,List.append_nil]
    exact hu
   ·have v:(l[i].Body.map (we 39)).sum≤2000:=by
     have h:=jy Nk l l[i] hm
     have:=R.ok.n
     rw [Nk,if_pos k1] at h
     omega
    obtain ⟨u,Cf,zd⟩:=ZD H fu o l[i] (R.ok.ok _ hm) (R.ya _ hm) k1 (k _ hm k1) v
    rw [if_neg k1,ca,Cf,ca]
    have j:∀ b,∃ r f,So (i:Int) us u (zl fu l B a D Oh m) b=some (r,f)∧(f.Ue=0→r.Hg=Oh∧r.Tf.map (·.Kind)=(l.filter fun d=>decide (d.Kind≠1)).map (·.Kind)):=by
     intro b
     rw [So]
     by_cases q:b=true
     ·rw [if_pos q]
      exact ⟨_,_,rfl,fun h=>absurd h (by show ¬ (5:Int)=0; decide)⟩
     ·rw [if_neg q,hi (by simp; omega),ca,Cc (by omega),ca]
      refine g (i+1) (us++[u]) c (by omega) ?_
      rw [nv c,List.filter_cons_of_pos (by simpa using k1),List.filter_nil,List.map_append,List.map_append,hu]
      simp [zd]
    split
    ·exact j _
    ·exact j _
  ·rw [if_neg (by omega)]
   rw [List.take_of_length_le (by omega)] at hu
   exact ⟨_,_,rfl,fun _=>⟨rfl,hu⟩⟩
theorem aD (R:Bk p l) (w:∀ d ∈ l,d.Kind≠1→Vh (Dg p 39) (d.Kind≠4∧d.Params≠[]) d.Body) (y:500≤fu):∀ (m i:Nat) (B g:List (Nm×Int)) (D:List (Nm×va)) (Oh:List zi),i≤l.length→l.length<m+i→Ky l i g D Oh →
  ∃ r f,Vl fu l m i B g D Oh=some (r,f)∧(f.Ue=0→r.Hg=((l.filter fun d=>decide (d.Kind=1)).map fun d=>⟨d.zb.Kind,d.oe⟩)∧r.Tf.map (·.Kind)=(l.filter fun d=>decide (d.Kind≠1)).map (·.Kind)):=by
 have qa:=R.ok.le
 intro m
 induction m with
 | zero=>intro i B g D Oh z A; omega
 | succ m v =>
  intro i B g D Oh z A h
  rw [Vl]
  by_cases c:i<l.length
  ·have hm:l[i] ∈ l:=List.getElem_mem _
   have hb:at_ l (i:Int)=some l[i]:=by rw [Rd,List.getElem?_eq_getElem c]
   have Mh:=List.take_succ_eq_append_getElem c
   have s:∀ d ∈ l.take i,d.Name≠l[i].Name:=fun d ya=>by
    obtain ⟨j,C,rfl⟩:=List.getElem_of_mem ya
    rw [List.length_take] at C
    rw [List.getElem_take]
    exact (List.pairwise_iff_getElem.1 R.hn) j i (by omega) c (by omega)
   have Qo:∀ d ∈ l.take (i+1),vb (cc D l[i].Name l[i]) d.Name=some d:=by
    intro d ya
    rw [Mh] at ya
    rw [ck]
    rcases List.mem_append.1 ya with ya | ya
    ·rw [if_neg fun he=>s d ya he.symm]; exact h.Qo d ya
    ·rw [List.mem_singleton.1 ya,if_pos rfl]
   rw [if_pos (by omega),hb,ca,ca,ca]
   by_cases k1:l[i].Kind=1
   ·have E:l[i].zb.Kind≠3:=(R.ya _ hm).ty (by omega)
    have L:Oh.length≤30:=by
     rw [h.Oh,List.length_map]
     have:=List.length_filter_le (fun d:va=>decide (d.Kind=1)) (l.take i)
     rw [List.length_take] at this
     omega
    rw [if_pos k1,ca,Ys,hb,ca,ca,Lv,if_neg E,ca,hi (by simp; omega),ca,Xs,Cc (by omega),ca]
    refine v (i+1) _ g _ _ c (by omega) ⟨by have:=h.le; omega,h.lt,h.ne,fun n u hu=>?_,fun d ya k=>?_,Qo,?_⟩
    ·obtain ⟨d,d1,d2⟩:=h.Fg n u hu
     exact ⟨d,by rw [Mh]; exact List.mem_append.2 (.inl d1),d2⟩
    ·rw [Mh] at ya
     rcases List.mem_append.1 ya with ya | ya
     ·exact h.un d ya k
     ·rw [List.mem_singleton.1 ya] at k; exact absurd k1 k
    ·rw [nv c,List.filter_cons_of_pos (by simpa using k1),List.filter_nil,List.map_append,h.Oh]
     rfl
   ·have F:vb g l[i].Name=none:=by
     cases e:vb g l[i].Name with
     | none=>rfl
     | some u =>
      obtain ⟨d,d1,d2⟩:=h.Fg _ u e
      exact absurd d2 (s d d1)
    have t:=PA g l[i].Name (g.length:Int) F
    rw [if_neg k1,ca,Zs,Cc (by omega),ca]
    refine v (i+1) B _ _ Oh c (by omega) ⟨?_,fun x o=>?_,?_,fun n u hu=>?_,fun d ya k=>?_,Qo,?_⟩
    ·rw [t,List.length_append,List.length_singleton]; have:=h.le; omega
    ·rw [t] at o ⊢
     rw [List.length_append,List.length_singleton]
     rcases List.mem_append.1 o with o | o
     ·have:=h.lt x o; omega
     ·rw [List.mem_singleton.1 o]; simp only; omega
    ·rw [t,List.pairwise_append]
     refine ⟨h.ne,List.pairwise_singleton _ _,fun a G b q=>?_⟩
     rw [List.mem_singleton.1 q]
     have:=h.lt a G
     simp only
     omega
    ·rw [ck] at hu
     rw [Mh]
     split at hu
     ·rename_i k
      exact ⟨l[i],List.mem_append.2 (.inr (List.mem_singleton.2 rfl)),k⟩
     ·obtain ⟨d,d1,d2⟩:=h.Fg n u hu
      exact ⟨d,List.mem_append.2 (.inl d1),d2⟩
    ·rw [Mh] at ya
     rw [ck]
     rcases List.mem_append.1 ya with ya | ya
     ·rw [if_neg fun he=>s d ya he.symm]; exact h.un d ya k
     ·rw [List.mem_singleton.1 ya,if_pos rfl]; exact ⟨_,rfl⟩
    ·rw [nv c,List.filter_cons_of_neg (by simpa using k1),List.filter_nil,List.append_nil]
     exact h.Oh
  ·rw [if_neg (by omega)]
   have e:i=l.length:=by omega
   subst e
   have q:=h.Oh
   rw [List.take_length] at q
   obtain ⟨r,f,sa,H⟩:=ZC R w y B g D Oh (h.mJ R) (l.length+1) 0 [] (by omega) (by omega) (by simp)
   refine ⟨r,f,sa,fun K=>?_⟩
   obtain ⟨s1,s2⟩:=H K
   exact ⟨s1.trans q,s2⟩
theorem MC (b:500≤fu) (l:List va):∃ r f,rn fu l=some (r,f)∧(f.Ue=0→l.length≤30∧r.Hg=((l.filter fun d=>decide (d.Kind=1)).map fun d=>⟨d.zb.Kind,d.oe⟩)∧r.Tf.map (·.Kind)=(l.filter fun d=>decide (d.Kind≠1)).map (·.Kind)):=by
 obtain ⟨p,f,c,e⟩:=KC fu b l
 rcases e with ⟨z,h⟩ | ⟨z,R,h⟩
 ·rw [rn,qt,h,ca,ca,if_pos z,Iq]
  exact ⟨_,f,rfl,fun a=>absurd a z⟩
 ·obtain ⟨-,g⟩:=XD b c z
  rw [rn,qt,h,ca,ca]
  by_cases q:(xq (Ks p.named fu l []) l l 0 []).2.Ue≠0
  ·rw [if_pos q,Iq]
   exact ⟨_,_,rfl,fun a=>absurd a q⟩
  ·rw [if_neg q]
   obtain ⟨r,f,sa,i⟩:=aD R g b (l.length+1) 0 [] [] [] [] (by omega) (by omega) ⟨by simp,by simp,List.Pairwise.nil,(fun n u h=>by cases h),by simp,by simp,by simp⟩
   exact ⟨r,f,sa,fun a=>⟨R.ok.le,i a⟩⟩
end
end Go.Y
