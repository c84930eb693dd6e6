/- Texts of Xu. -/
import Derived.Test.YtafjdiifkckmbaaGreatDoorCXt
import Derived.Laws.MakeOwn
import Derived.Laws.CopyRow
import Derived.Laws.IdiomCopy
import Derived.Shelf.Strconv.ParseIntPublic10
import Derived.Lib.IndexMore
import Derived.Sort.Row
import Derived.LaidEql
import Derived.ArgAppend
import Derived.KernelRfl
set_option linter.unusedSimpArgs false
set_option linter.unusedVariables false
set_option linter.unusedSectionVars false
namespace Go.Kf
section
open Go.Mc Go.RowKit
theorem qa.split {α:Type}[Ma α]{μ:M}:∀ {l:List α}{cells:List Value}{i:Nat}{x:α},qa μ cells l->l[i]?=some x ->
  ∃ Mh cs Tc,cells=Mh++(cs++Tc)/\Mh.length=i*Ma.sz α/\Ma.cs μ cs x/\∀ (J:M) (a:List Value) (c:α),ha μ J->Ma.cs J a c->qa J (Mh++(a++Tc)) (l.set i c)
 | [],cells,i,x,h,b=>by simp at b
 | y::l,cells,i,x,h,b=>by
  rw [qa] at h;obtain ⟨cs,t,rfl,d,g⟩:=h;cases i with
  | zero =>
   simp at b;subst b;exact ⟨[],cs,t,rfl,by simp,d,λJ a c ma f=>⟨a,t,rfl,f,g.up ma⟩⟩
  | succ i =>
   simp at b;obtain ⟨Mh,Sw,Tc,rfl,e,m,st⟩:=qa.split g b;exact ⟨cs++Mh,Sw,Tc,by simp,by simp [e,Ma.Uh d,Nat.add_mul];omega,m,λJ a c ma f=>⟨cs,Mh++(a++Tc),by simp,Ma.up ma d,st J a c ma f⟩⟩
theorem _root_.Go.Mc.Row.Fm {α:Type}[Ma α]{w:World}{T:TypeId}{n:Nat}{μ:M}{v:Value}{cells:List Value}{l:List α}{i:Int}{x:α}(h:Row w v T (Ma.sz α) n cells) (d:qa μ cells l) (y:l.length=n) (g:at_ l i=some x) :
  ∃ b o Mh cs Tc,cells=Mh++(cs++Tc)/\Bk v (Ma.sz α) i b o/\(∀ w T a,Row w v T (Ma.sz α) n (Mh++(a++Tc))->a.length=Ma.sz α->lj w b o a)/\Ma.cs μ cs x/\Mh.length=i.toNat*Ma.sz α /\
   (∀ (J:M) (a:List Value) (f:α),ha μ J->Ma.cs J a f->qa J (Mh++(a++Tc)) (l.set i.toNat f))/\qa μ (Mh++(cs++Tc)) l:=by
 obtain ⟨p,z,q⟩:=Wu g;obtain ⟨b,o,c,rfl,A⟩:=h.Pn (by omega);obtain ⟨Mh,cs,Tc,rfl,e,m,st⟩:=d.split q;refine ⟨b,o+i.toNat*Ma.sz α,Mh,cs,Tc,rfl,⟨o,_,_,rfl,p,by omega,rfl⟩,?_,m,e,st,d⟩;intro B C a r ma j u k;obtain ⟨Qc,D,c',Pa,s⟩:=r.Pn (by omega);simp at Pa;obtain ⟨⟨rfl,rfl⟩,rfl⟩:=Pa;have t:j<a.length:=(List.getElem?_eq_some_iff.1 k).1;have:=s (Mh.length+j) u (by rw [List.getElem?_append_right (by omega),show Mh.length+j - Mh.length=j by omega,List.getElem?_append_left t];exact k);rw [e,<- Nat.add_assoc] at this;exact this
theorem Zz {Mh cs a Tc vs:List Value}{i off sz:Nat}(pl:Mh.length=i*sz) (h:cs.take off++vs++cs.drop (off+vs.length)=a) (ma:off+vs.length<=cs.length) :
  (Mh++(cs++Tc)).take (i*sz+off)++vs++(Mh++(cs++Tc)).drop (i*sz+off+vs.length)=Mh++(a++Tc):=by
 subst h;rw [<- pl,Nat.add_assoc,List.take_append,List.drop_append];simp [List.take_append_of_le_length (show off<=cs.length by omega),List.drop_append_of_le_length ma,List.take_of_length_le (show Mh.length<=Mh.length+off by omega),List.drop_of_length_le (show Mh.length<=Mh.length+(off+vs.length) by omega)]
section
variable {P:Program}{Q:Exit->Act->World->Prop}{K:List Value->List Deferred->World->Prop}{fr Aa:List Value}{ds:List Deferred}{w:World}
variable {dst:Option Tmp}{ty:TypeId}{pos:String}{after:Array Edge}{g:Option (Nat×Bool)}
variable {da:World}{rs rs':List Ha}{μ J:M}
variable {T:TypeId}
theorem oe.two {es:List MapEntry}{c:Nat}{k0 k1:List UInt8}{x0 x1:Int}(h:oe μ es c [(k0,x0),(k1,x1)]) :
  ∃ zd od,es=[⟨S k0,.int .i64 x0,zd⟩,⟨S k1,.int .i64 x1,od⟩]/\zd<od/\od<c:=by
 obtain ⟨e,i,j⟩:=h
 match es,e,i,j with
 | [],e,_,_=>simp [Ig] at e
 | [a],e,_,_ =>
  rw [Ig] at e;obtain ⟨k,x,t,g,-,-,f⟩:=e;simp [Ig] at f g;simp [f] at g
 | [a,b],e,i,j =>
  rw [Ig] at e;obtain ⟨k,x,t,g,l,m,f⟩:=e;rw [Ig] at f;obtain ⟨k',s,hb,n,o,p,q⟩:=f;subst n;simp only [List.cons.injEq,Prod.mk.injEq] at g;obtain ⟨⟨rfl,rfl⟩,⟨rfl,rfl⟩,-⟩:=g;obtain ⟨u,v,r⟩:=a;obtain ⟨w,bv,bb⟩:=b;have m:v=.int .i64 x0:=m;have p:bv=.int .i64 x1:=p;have l:u=S k0:=l;have o:w=S k1:=o;subst l o m p;have y:r<bb:=List.rel_of_pairwise_cons j (List.mem_singleton.2 rfl);have z:bb<c:=i ⟨S k1,.int .i64 x1,bb⟩ (by simp);exact ⟨r,bb,rfl,y,z⟩
 | a::b::d::es,e,_,_ =>
  rw [Ig] at e;obtain ⟨k,x,t,g,-,-,f⟩:=e;rw [Ig] at f;obtain ⟨k',s,hb,n,-,-,q⟩:=f;rw [Ig] at q;obtain ⟨B,C,D,A,-,-,-⟩:=q;subst A n;simp at g
theorem CA (w:World) (b:Nat) (o:Obj) (a:b<w.heap.size):Yi (λk=>k≠b) w { w with heap:=w.heap.setIfInBounds b o }/\({ w with heap:=w.heap.setIfInBounds b o }:World).heap[b]?=some o :=
 ⟨⟨rfl,rfl,rfl,by simp,λj _ c=>by simp [Array.getElem?_setIfInBounds,Ne.symm c]⟩,by simp [a]⟩
theorem XQ {x:Operand}{b m c j k zd od:Nat}{d e oa f:Value}(p:ab fr x (.pointer (some ⟨b,0,none⟩))) (h:fa μ da w rs) (l:fc rs j (.qn b m c [] c)) (z:fc rs k (.map m [⟨d,e,zd⟩,⟨oa,f,od⟩] c)) (C:zd<od) (q:od<c)
  (A:∀ w' rs',Zb rs j (.qn b m c [zd] c) rs'->fa μ da w' rs'->Rg fr dst (.tuple ⟨[.bool true,d,e]⟩) λAa=>K Aa ds w')
  (hB:∀ w' rs',Zb rs j (.qn b m c [od] c) rs'->fa μ da w' rs'->Rg fr dst (.tuple ⟨[.bool true,oa,f]⟩) λAa=>K Aa ds w') :
  yd P (Oper.mk dst (.next x false) ty pos after g) fr ds w K Q:=by
 have i:w.heap[b]?=some (.mapIter (some m) c ⟨[]⟩ c):=h.get l;have r:w.heap[m]?=some (.map ⟨[⟨d,e,zd⟩,⟨oa,f,od⟩]⟩ c):=h.get z;have s:b<w.heap.size:=(Array.getElem?_eq_some_iff.1 i).1;have t:w.drew.heap[b]?=some (.mapIter (some m) c ⟨[]⟩ c):=i;have u:zd<c:=by omega
 have v:¬ zd ≥ c:=by omega
 have y:¬ od ≥ c:=by omega
 by_cases Ea:(w.tape w.drawn (.mapNext 2)) % 2=0
 ·obtain ⟨n,o⟩:=CA w.drew b (.mapIter (some m) c ⟨[zd]⟩ c) s;obtain ⟨Aa,a⟩:=Xi fr dst (.tuple ⟨[.bool true,d,e]⟩);refine Qh (w':={ w.drew with heap:=w.drew.heap.setIfInBounds b (.mapIter (some m) c ⟨[zd]⟩ c) }) ?_ a<|A _ _ rfl ((h.drew (w':=w.drew) rfl rfl rfl rfl).put (b:=b) l rfl rfl rfl o n) Aa a;simp [execOp,p ds,Instr.next,getObj,setObj,Sem.run,i,r,Result.andThen,u,q,v,y,choose,Question.forced,Question.cut,Ea,t]
 ·have B:(w.tape w.drawn (.mapNext 2)) % 2=1:=by omega
  obtain ⟨n,o⟩:=CA w.drew b (.mapIter (some m) c ⟨[od]⟩ c) s;obtain ⟨Aa,a⟩:=Xi fr dst (.tuple ⟨[.bool true,oa,f]⟩);refine Qh (w':={ w.drew with heap:=w.drew.heap.setIfInBounds b (.mapIter (some m) c ⟨[od]⟩ c) }) ?_ a<|hB _ _ rfl ((h.drew (w':=w.drew) rfl rfl rfl rfl).put (b:=b) l rfl rfl rfl o n) Aa a;simp [execOp,p ds,Instr.next,getObj,setObj,Sem.run,i,r,Result.andThen,u,q,v,y,choose,Question.forced,Question.cut,B,t]
theorem YQ {x:Operand}{b m c j k zd od:Nat}{d e oa a:Value}(p:ab fr x (.pointer (some ⟨b,0,none⟩))) (f:fa μ da w rs) (l:fc rs j (.qn b m c [zd] c)) (q:fc rs k (.map m [⟨d,e,zd⟩,⟨oa,a,od⟩] c)) (E:zd<od) (r:od<c)
  (s:∀ w' rs',Zb rs j (.qn b m c [zd,od] c) rs'->fa μ da w' rs'->Rg fr dst (.tuple ⟨[.bool true,oa,a]⟩) λAa=>K Aa ds w') :
  yd P (Oper.mk dst (.next x false) ty pos after g) fr ds w K Q:=by
 have n:w.heap[b]?=some (.mapIter (some m) c ⟨[zd]⟩ c):=f.get l;have t:w.heap[m]?=some (.map ⟨[⟨d,e,zd⟩,⟨oa,a,od⟩]⟩ c):=f.get q;have u:b<w.heap.size:=(Array.getElem?_eq_some_iff.1 n).1;have v:¬ zd ≥ c:=by omega
 have y:¬ od ≥ c:=by omega
 have z:¬ ∀ (i:Nat) (x:i<2),c<=([⟨d,e,zd⟩,⟨oa,a,od⟩]:List MapEntry)[i].born:=λh=>by have:=h 0 (by decide);simp at this;omega
 have A:¬ od=zd:=by omega
 have B:¬ zd=od:=by omega
 obtain ⟨C,D⟩:=CA w b (.mapIter (some m) c ⟨[zd,od]⟩ c) u;obtain ⟨Aa,o⟩:=Xi fr dst (.tuple ⟨[.bool true,oa,a]⟩);refine Qh (w':={ w with heap:=w.heap.setIfInBounds b (.mapIter (some m) c ⟨[zd,od]⟩ c) }) ?_ o<|s _ _ rfl (f.put (b:=b) l rfl rfl rfl D C) Aa o;simp [execOp,p ds,Instr.next,getObj,setObj,Sem.run,n,t,Result.andThen,r,v,y,A,B,z,choose,Question.forced]
theorem zP {x:Operand}{b m c j k zd od:Nat}{a d oa e:Value}(p:ab fr x (.pointer (some ⟨b,0,none⟩))) (f:fa μ da w rs) (l:fc rs j (.qn b m c [od] c)) (q:fc rs k (.map m [⟨a,d,zd⟩,⟨oa,e,od⟩] c)) (E:zd<od) (F:od<c)
  (r:∀ w' rs',Zb rs j (.qn b m c [od,zd] c) rs'->fa μ da w' rs'->Rg fr dst (.tuple ⟨[.bool true,a,d]⟩) λAa=>K Aa ds w') :
  yd P (Oper.mk dst (.next x false) ty pos after g) fr ds w K Q:=by
 have n:w.heap[b]?=some (.mapIter (some m) c ⟨[od]⟩ c):=f.get l;have s:w.heap[m]?=some (.map ⟨[⟨a,d,zd⟩,⟨oa,e,od⟩]⟩ c):=f.get q;have t:b<w.heap.size:=(Array.getElem?_eq_some_iff.1 n).1;have u:zd<c:=by omega
 have v:¬ zd ≥ c:=by omega
 have y:¬ od ≥ c:=by omega
 have z:¬ ∀ (i:Nat) (x:i<2),c<=([⟨a,d,zd⟩,⟨oa,e,od⟩]:List MapEntry)[i].born:=λh=>by have:=h 0 (by decide);simp at this;omega
 have A:¬ od=zd:=by omega
 have B:¬ zd=od:=by omega
 obtain ⟨C,D⟩:=CA w b (.mapIter (some m) c ⟨[od,zd]⟩ c) t;obtain ⟨Aa,o⟩:=Xi fr dst (.tuple ⟨[.bool true,a,d]⟩);refine Qh (w':={ w with heap:=w.heap.setIfInBounds b (.mapIter (some m) c ⟨[od,zd]⟩ c) }) ?_ o<|r _ _ rfl (f.put (b:=b) l rfl rfl rfl D C) Aa o;simp [execOp,p ds,Instr.next,getObj,setObj,Sem.run,n,s,Result.andThen,u,v,y,A,B,z,choose,Question.forced]
theorem xJ {x:Operand}{b m c j k zd od p q:Nat}{a d oa e:Value}(l:ab fr x (.pointer (some ⟨b,0,none⟩))) (f:fa μ da w rs) (n:fc rs j (.qn b m c [p,q] c)) (o:fc rs k (.map m [⟨a,d,zd⟩,⟨oa,e,od⟩] c)) (B:zd<od) (C:od<c) (r:p=zd/\q=od\/p=od/\q=zd)
  (Ea:Bf fr dst (.tuple ⟨[.bool false]⟩) Aa) (h:K Aa ds w) :
  yd P (Oper.mk dst (.next x false) ty pos after g) fr ds w K Q:=by
 have s:w.heap[b]?=some (.mapIter (some m) c ⟨[p,q]⟩ c):=f.get n;have t:w.heap[m]?=some (.map ⟨[⟨a,d,zd⟩,⟨oa,e,od⟩]⟩ c):=f.get o;have u:¬ zd ≥ c:=by omega
 have v:¬ od ≥ c:=by omega
 have y:¬ ∀ (i:Nat) (x:i<2),c<=([⟨a,d,zd⟩,⟨oa,e,od⟩]:List MapEntry)[i].born:=λh=>by have:=h 0 (by decide);simp at this;omega
 have z:¬ od=zd:=by omega
 have A:¬ zd=od:=by omega
 refine Qh (w':=w) ?_ Ea h;rcases r with ⟨rfl,rfl⟩ | ⟨rfl,rfl⟩<;>simp [execOp,l ds,Instr.next,getObj,setObj,Sem.run,s,t,Result.andThen,u,v,z,A,y,choose,Question.forced]
theorem SA {x:Operand}{b m c j k zd od:Nat}{a d oa f:Value}{seen:List Nat}{e:MapEntry}(l:ab fr x (.pointer (some ⟨b,0,none⟩))) (i:fa μ da w rs) (n:fc rs j (.qn b m c seen c)) (o:fc rs k (.map m [⟨a,d,zd⟩,⟨oa,f,od⟩] c)) (y:zd<od)
  (p:seen.getLast?=some e.born) (q:e=⟨a,d,zd⟩\/e=⟨oa,f,od⟩) (Ea:Bf fr dst (.tuple ⟨[e.key,e.val]⟩) Aa) (h:K Aa ds w) :
  yd P (Oper.mk dst (.entry x) ty pos after g) fr ds w K Q:=by
 have r:w.heap[b]?=some (.mapIter (some m) c ⟨seen⟩ c):=i.get n;have s:w.heap[m]?=some (.map ⟨[⟨a,d,zd⟩,⟨oa,f,od⟩]⟩ c):=i.get o;have t:¬ od=zd:=by omega
 have u:¬ zd=od:=by omega
 have v:(⟨seen⟩:Array Nat).back?=some e.born:=by rw [<- p];simp [Array.back?,List.getLast?_eq_getElem?]
 refine Qh (w':=w) ?_ Ea h;rcases q with rfl | rfl<;>simp [execOp,l ds,Instr.entry,getObj,Sem.run,r,s,Result.andThen,v,t,u]
end
end
section
open Go.Mc Go.RowKit
section
variable {P:Program}{Q:Exit->Act->World->Prop}{K:List Value->List Deferred->World->Prop}{fr Aa:List Value}{ds:List Deferred}{w:World}
variable {dst:Option Tmp}{ty:TypeId}{pos:String}{after:Array Edge}{g:Option (Nat×Bool)}
structure VE (P:Program) (f:FuncId) (args:List Value) (w:World) (R:Value->World->Prop):Prop where
 out:CallsD P f ⟨args⟩ .returning w λe a w'=>a=.returning/\okV R e w'
theorem TK {fn:Func}{R b:Value->World->Prop}{k:FuncId}{cap vs:List Value}(d:fb P k) (f:VE P k (vs++cap) w b) (h:∀ v w',b v w'->It P fn R .ret (F fr ds) w') :
  It P fn R .ret (F fr (⟨.fn (.func k) ⟨cap⟩,⟨vs⟩⟩::ds)) w:=by
 refine ⟨by simp,.func k,⟨cap⟩,k,⟨vs++cap⟩,rfl,?_,?_⟩
 ·have:=d.out ⟨vs++cap⟩ w;simp [invoke,this]
 ·refine f.out.mono λe g w' a=>?_;obtain ⟨rfl,a⟩:=a;cases e with
  | returned v=>exact h v w' a
  | panicked c=>exact a.elim
  | outgrown=>exact a.elim
theorem JS {P:Program}{T:TypeId}{ms:Array (String×TypeId)}{v:Value}{b:Bool}(e:P.underlying T=some (.interface ms)) (Pa:(v=.nilIface/\b=true)\/((∃ a c,v=.iface a c)/\b=false)):Rr P 1 T v .nilIface b:=⟨λd w Ea=>by
 cases d with
 | zero=>omega
 | succ d=>rcases Pa with ⟨rfl,rfl⟩ | ⟨⟨a,c,rfl⟩,rfl⟩ <;> simp [Op.equalIn,run_underlying e]⟩
theorem BF {x:Operand}{t hb:TypeId}{v:Value}{b:Bool}{ms:Array (String×TypeId)}(d:P.underlying t=some (.interface ms)) (e:ab fr x v) (Pa:(v=.nilIface/\b=true)\/((∃ a c,v=.iface a c)/\b=false)) (f:Bf fr dst (.bool b) Aa) (k:K Aa ds w) :
  yd P (Oper.mk dst (.binOp .eql t x (.const .nilIface) hb) ty pos after g) fr ds w K Q:=by
 refine Pb ⟨λds w=>?_⟩ f k;have h:=e ds;have i:(F fr ds).eval (.const .nilIface)=.nilIface:=rfl;have j:=(JS d Pa).out Op.maxDepth w (by decide);rcases Pa with ⟨rfl,rfl⟩ | ⟨⟨a,c,rfl⟩,rfl⟩<;>simp [execOp,h,i,eqGuard,binOp,Op.equal,j]
end
end
section
open Go.Mc Go.RowKit
def DW (agg:Bool) (cs:List Value):Value:=if agg then .agg ⟨cs⟩ else cs.headD undef
structure Hr (P:Program) (I:M) (K:Nat) (JB:List Value){α:Type}[Ma α] (agg:Bool) (d:α->Option Bool):Prop where
 KB:fb P K
 call:∀ {Ta:M}{da a:World}{rs:List Ha}{x:α}{b:Bool}{cs:List Value},ha I Ta->Ma.cs Ta cs x->d x=some b->fa Ta da a rs->kb P K ([DW agg cs]++JB) a (λv w'=>∃ c,v=.bool b/\ha Ta c/\fa c da w' rs)
theorem Hr.up {P:Program}{μ J:M}{K:Nat}{JB:List Value}{α:Type}[Ma α]{agg:Bool}{a:α->Option Bool}(h:Hr P μ K JB agg a) (l:ha μ J):Hr P J K JB agg a:=⟨h.KB,λma=>h.call (l.t ma)⟩
end
section
open Go.Mc Go.RowKit
section
variable {P : Program}{Q : Exit -> Act -> World -> Prop}{K : List Value -> List Deferred -> World -> Prop}{fr Aa : List Value}{ds : List Deferred}{w w' : World}
variable {dst : Option Tmp}{ty : TypeId}{pos : String}{after : Array Edge}{g : Option (Nat × Bool)}
variable {da : World}{rs rs' : List Ha}{μ J : M}
variable {T : TypeId}{d : TypeDesc}{pc : Bool}{Dc : List Value}{n m : Nat}
theorem _root_.Go.Mc.Sep.newRow {S Ic : Nat -> Prop}{A : World -> Prop}{v : Value}{sz k : Nat}{xs : List Value}(a : Sep S Ic da w rs A) (c : Grow w w') (g : Row w' v T sz k xs) (d : ∀ b, v.ownBlock = some b -> w.heap.size <= b) :
    Sep S Ic da w' (.row v T sz k xs :: rs) A where
  keeps := a.keeps.trans c.keeps
  all r i := by
    rcases List.mem_cons.1 i with rfl | h
    · exact g
    · exact (a.grow c).all r h
  ti := by
    cases Pa : v.ownBlock with
    | none => simp only [blocks, List.filterMap_cons, Ha.block, Pa]; exact a.ti
    | some b =>
      simp only [blocks, List.filterMap_cons, Ha.block, Pa, List.nodup_cons];exact ⟨λhm => by have := a.lt hm;have := d b Pa;omega, a.ti⟩
  new b hm := by
    cases Pa : v.ownBlock with
    | none => simp only [blocks, List.filterMap_cons, Ha.block, Pa] at hm; exact a.new b hm
    | some Qc =>
      simp only [blocks, List.filterMap_cons, Ha.block, Pa, List.mem_cons] at hm;rcases hm with rfl | hm
      · exact .inl<|Nat.le_trans a.keeps.size<|d _ Pa
      · exact a.new b hm
  bj := λj l m => a.bj j (Nat.le_trans c.size l) λk f e => (m k (Nat.lt_of_lt_of_le f c.size) ⟨e.1, λhm => by
    cases Pa : v.ownBlock with
    | none => simp only [blocks, List.filterMap_cons, Ha.block, Pa] at hm; exact e.2 hm
    | some Qc =>
      simp only [blocks, List.filterMap_cons, Ha.block, Pa, List.mem_cons] at hm;rcases hm with rfl | hm
      · have := d _ Pa;omega
      · exact e.2 hm⟩).trans (c.ea k f trivial)
theorem YC {e : TypeId}{sz k base : Nat}{v : Value}{xs : List Value}(h : w.ownsRow base e sz v k xs) : Row w v e sz k xs /\ ∀ b, v.ownBlock = some b -> base <= b := by
  obtain ⟨a, d⟩ := h;rcases d with ⟨rfl, rfl⟩ | ⟨g, cap, cur, rfl, c, f, i, j, n, l⟩
  · exact ⟨⟨a, .inl ⟨rfl, rfl⟩⟩, λb c => by simp [Value.ownBlock] at c⟩
  · exact ⟨⟨a, .inr ⟨g, 0, cap, cur, rfl, f, i, j, by omega, by simpa using l⟩⟩, λb m => by simp [Value.ownBlock] at m;omega⟩
def Tw (n : Int) : Option Nat := if 0 <= n /\ n <= 65536 then some n.toNat else none
theorem KS {n : Int}{k : Nat}(h : Tw n = some k) : n = k /\ k <= 65536 := by
  unfold Tw at h;split at h
  · rename_i a;have := Option.some.inj h;omega
  · cases h
theorem AP (z : Value) (k : Nat) : madeCells #[z] k = (List.replicate k z).toArray := by
  apply Array.ext';simp only [madeCells, Array.toList_map, Array.toList_range];apply List.ext_getElem?;intro i;simp only [List.getElem?_map, List.getElem?_range', List.getElem?_replicate];by_cases h : i < k
  · simp [h, Nat.mod_one]
  · simp [h]
theorem LD {x y : Operand}{e : TypeId}{z : Value}{bytes k : Nat}{c d : IntKind}{n : Int}(f : P.underlying T = some (.slice e)) (j : wb P e pc [z] 1 bytes) (A : bytes <= 4096) (l : ab fr x (.int c n)) (m : ab fr y (.int d n)) (o : Tw n = some k) (p : fa μ da w rs)
    (h : ∀ b w', fa μ da w' (.row (.slice (some ⟨b, 0, none⟩) k k) e 1 k (List.replicate k z):: rs) -> Rg fr dst (.slice (some ⟨b, 0, none⟩) k k) λAa => K Aa ds w') :
    yd P (Oper.mk dst (.makeSlice T x y) ty pos after g) fr ds w K Q := by
  obtain ⟨rfl, q⟩ := KS o;obtain ⟨i, r, s, t, u, v, B⟩ := j.inf;have C : i.bytes * k <= 4096 * 65536 := Nat.mul_le_mul (by omega) q;have a := run_make (P := P) w T e i r f s t c d k k (by omega) (Int.le_refl _) (by rw [<- Int.natCast_mul];omega) (by omega);simp only [Int.toNat_natCast, v, Nat.mul_one, u] at a;rw [AP] at a;obtain ⟨Aa, Ea⟩ := Xi fr dst (.slice (some ⟨w.heap.size, 0, none⟩) k k);refine Qh (w' := w.alloc (.cells (List.replicate k z).toArray e)) ?_ Ea<|h _ _ (p.alloc rfl ⟨by simp, .inr ⟨_, 0, _, _, rfl, heap_alloc_new w _, Nat.le_refl _, by simp only [maxLen];omega, by simp, by simp⟩⟩) Aa Ea;simp only [execOp, l ds, m ds, Sem.run_bind, a, Result.andThen_ok, Sem.run_pure]
theorem bB {α : Type}[Ma α]{z : Value}{x : α}(h : ∀ μ : M, Ma.cs μ [z] x) : ∀ k, qa μ (List.replicate k z) (List.replicate k x)
  | 0 => rfl
  | k + 1 => ⟨[z], _, rfl, h μ, bB h k⟩
theorem EU {t e : TypeId}{v : Value}{a : Option Addr}{k c : Nat}(b : P.underlying t = some (.slice e)) : Rr P 1 t (.slice a k c) (.slice none 0 0) a.isNone := ⟨λd w Ea => by
  cases d with
  | zero => omega
  | succ d => cases a <;> simp [Op.equalIn, run_underlying b]⟩
theorem ZQ {x : Operand}{t hb e : TypeId}{a : Option Addr}{k c : Nat}(b : P.underlying t = some (.slice e)) (d : ab fr x (.slice a k c)) (f : Bf fr dst (.bool a.isNone) Aa) (h : K Aa ds w) :
    yd P (Oper.mk dst (.binOp .eql t x (.const (.slice none 0 0)) hb) ty pos after g) fr ds w K Q := by
  refine Pb ⟨λds w => ?_⟩ f h;have i := d ds;have j : (F fr ds).eval (.const (.slice none 0 0)) = .slice none 0 0 := rfl;have l := (EU (v := .nilIface) (a := a) (k := k) (c := c) b).out Op.maxDepth w (by decide);simp [execOp, i, j, eqGuard, binOp, Op.equal, l]
def small {α : Type}(l : List α) : Option Unit := if l.length <= 65536 then some () else none
theorem DA {α : Type}{l : List α}{u : Unit}(h : small l = some u) : l.length <= 65536 := by
  unfold small at h;split at h
  · assumption
  · cases h
theorem qa.UK {α : Type}[Ma α] : ∀ {l : List α}{cells : List Value}(i : Nat), qa μ cells l -> qa μ (cells.take (i * Ma.sz α)) (l.take i)
  | [], cells, i, h => by rw [qa] at h; subst h; simp [qa]
  | x :: l, cells, 0, h => by simp [qa]
  | x :: l, cells, i + 1, h => by
    rw [qa] at h;obtain ⟨cs, t, rfl, a, b⟩ := h;rw [List.take_succ_cons, qa];refine ⟨cs, t.take (i * Ma.sz α), ?_, a, qa.UK i b⟩;have e : (i + 1) * Ma.sz α = cs.length + i * Ma.sz α := by rw [Nat.add_mul, Ma.Uh a];omega
    rw [e, List.take_append];simp [List.take_of_length_le (show cs.length <= cs.length + i * Ma.sz α by omega)]
theorem Row.aW {α : Type}[Ma α]{v : Value}{cells : List Value}{l Ba : List α}{j : Int}(h : Row w v T (Ma.sz α) l.length cells) (c : qa μ cells l) (g : cut l 0 j = some Ba) :
    ∃ a b, nv v (Ma.sz α) none (some j) a /\ a.ownBlock = v.ownBlock /\ (∀ w T, Row w v T (Ma.sz α) l.length cells -> Row w a T (Ma.sz α) Ba.length b) /\ qa μ b Ba := by
  obtain ⟨⟨m, d, e⟩, rfl⟩ := nw g;obtain ⟨a, ua, f, i⟩ := Row.SK h d e;refine ⟨a, cells.take (j.toNat * Ma.sz α), ua, f, λw T k => ?_, by simpa using c.UK j.toNat⟩;have := i w T k;have ma : ((l.take j.toNat).drop (0 : Int).toNat).length = j.toNat := by simp;omega
  rw [ma];exact this
theorem aR {recv : Operand}{xs : List Operand}{tys : Array TypeId}{name : String}{k : FuncId}{t : TypeId}{a : Value}{vs : List Value}(b : ∀ w, (method (P.types.size + Made.depth) t a name).run P w = .ok (k, a) w) (c : fb P k) (d : ab fr recv (.iface t a)) (e : Pm fr xs vs) :
    (execOp (F fr ds).eval (Oper.mk dst (.call { callee := .invoke recv name, args := ⟨xs⟩, argTypes := tys }) ty pos after g)).run P w = .ok (.enter k ⟨a :: vs⟩) w := by
  have f := d ds;have h := e ds;have i := c.out ⟨a :: vs⟩ w;have j := b w;simp [execOp, resolve, f, invoke, callMethod, h, i, j]
theorem TA {recv : Operand}{xs : List Operand}{tys : Array TypeId}{name : String}{k : FuncId}{t : TypeId}{a : Value}{vs : List Value}{R : Value -> World -> Prop}(b : ∀ w, (method (P.types.size + Made.depth) t a name).run P w = .ok (k, a) w) (c : fb P k) (d : ab fr recv (.iface t a)) (e : Pm fr xs vs)
    (f : kb P k (a :: vs) w R) (h : ∀ v w', R v w' -> Rg fr dst v λAa => K Aa ds w') : yd P (Oper.mk dst (.call { callee := .invoke recv name, args := ⟨xs⟩, argTypes := tys }) ty pos after g) fr ds w K Q :=
  OA (args := a :: vs) (aR b c d e) f h
end
end
section
open Go.Mc Go.RowKit
section
variable {P:Program}{Q:Exit->Act->World->Prop}{K:List Value->List Deferred->World->Prop}{fr Aa:List Value}{ds:List Deferred}{w w':World}
variable {dst:Option Tmp}{ty:TypeId}{pos:String}{after:Array Edge}{g:Option (Nat×Bool)}
variable {da:World}{rs rs':List Ha}{μ J:M}
variable {T:TypeId}{d:TypeDesc}{pc:Bool}{Dc:List Value}{n m:Nat}
def Vt (a b:Int):Option Int:=if b=0 then none else some (a.tmod b)
theorem ot {a b c:Int}(h:Vt a b=some c):b≠0/\a.tmod b=c:=by
 unfold Vt at h;split at h
 ·cases h
 ·rename_i d;exact ⟨d,Option.some.inj h⟩
theorem Bk.uniq {v:Value}{sz:Nat}{i:Int}{b o Qc a:Nat}(h:Bk v sz i b o) (d:Bk v sz i Qc a):b=Qc/\o=a:=by
 obtain ⟨e,n,c,rfl,_,_,rfl⟩:=h.out;obtain ⟨f,od,eb,he,_,_,rfl⟩:=d.out;cases he;exact ⟨rfl,rfl⟩
theorem LS {x y:Operand}{t hb:TypeId}{d:TypeDesc}{a b:Int}(k:P.underlying t=some d) (c:ab fr x (.int .i64 a)) (f:ab fr y (.int .i64 b)):Cf P (Oper.mk dst (.call { callee:=.builtin .min,args:=#[x,y],argTypes:=#[t,hb] }) ty pos after g) fr (.int .i64 (min a b)):=⟨λds w=>by
 have i:=c ds;have j:=f ds;have e:min a b=if b<a then b else a:=by simp only [Int.min_def];split<;>split<;>omega
 rw [e];by_cases h:b<a<;>simp [execOp,resolve,invoke,builtin,i,j,Builtin.min_,Builtin.min2,h]⟩
theorem MS {x y:Operand}{t hb:TypeId}{d:TypeDesc}{a b:Int}(k:P.underlying t=some d) (c:ab fr x (.int .i64 a)) (f:ab fr y (.int .i64 b)):Cf P (Oper.mk dst (.call { callee:=.builtin .max,args:=#[x,y],argTypes:=#[t,hb] }) ty pos after g) fr (.int .i64 (max a b)):=⟨λds w=>by
 have i:=c ds;have j:=f ds;have e:max a b=if a<b then b else a:=by simp only [Int.max_def];split<;>split<;>omega
 rw [e];by_cases h:a<b<;>simp [execOp,resolve,invoke,builtin,i,j,Builtin.max_,Builtin.max2,h]⟩
theorem FU {t:TypeId}{Hg rs:Array TypeId}{a:Bool}(b:P.underlying t=some (.func Hg rs a)):Rr P 1 t .nilFunc .nilFunc true:=⟨λd w Ea=>by
 cases d with
 | zero=>omega
 | succ d=>simp [Op.equalIn,run_underlying b]⟩
theorem GU {t e:TypeId}(a:P.underlying t=some (.pointer e)):Rr P 1 t (.pointer none) (.pointer none) true:=⟨λd w Ea=>by
 cases d with
 | zero=>omega
 | succ d=>simp [Op.equalIn,run_underlying a]⟩
theorem sO {x:Operand}{t hb:TypeId}{Hg rs:Array TypeId}{a:Bool}(b:P.underlying t=some (.func Hg rs a)) (c:ab fr x .nilFunc):Cf P (Oper.mk dst (.binOp .neq t x (.const .nilFunc) hb) ty pos after g) fr (.bool false):=⟨λds w=>by
 have d:=c ds;have e:(F fr ds).eval (.const .nilFunc)=.nilFunc:=rfl;have f:=(FU b).out Op.maxDepth w (by decide);simp [execOp,d,e,eqGuard,binOp,Op.equal,f]⟩
theorem tO {x:Operand}{t hb e:TypeId}(a:P.underlying t=some (.pointer e)) (b:ab fr x (.pointer none)):Cf P (Oper.mk dst (.binOp .eql t x (.const (.pointer none)) hb) ty pos after g) fr (.bool true):=⟨λds w=>by
 have c:=b ds;have d:(F fr ds).eval (.const (.pointer none))=.pointer none:=rfl;have f:=(GU a).out Op.maxDepth w (by decide);simp [execOp,c,d,eqGuard,binOp,Op.equal,f]⟩
theorem uO {x:Operand}{t hb e:TypeId}(a:P.underlying t=some (.pointer e)) (b:ab fr x (.pointer none)) (c:Bf fr dst (.bool true) Aa) (h:K Aa ds w):yd P (Oper.mk dst (.binOp .eql t x (.const (.pointer none)) hb) ty pos after g) fr ds w K Q:=Pb (tO a b) c h
end
end
section
open Go.Mc Go.RowKit
instance:Ma UInt8 where
 sz:=1
 pos:=by decide
 cs _ l x:=l=[.int .u8 x.toNat]
 Uh h:=by rw [h];rfl
 up _ h:=h
 pg h:=by rw [h];rfl
def EG (l:List UInt8):Option Int:=if l.length<=9223372036854775806 then (match Lib.parseIntB 64 l with | .ok v=>some v | _=>none) else none
def rB (l sub:List UInt8):Option Bool:=if l.length<4294967281 then some (Lib.contains l sub) else none
end
section
open Go.Mc Go.RowKit
section
variable {μ Jl:M}{da w w':World}{rs:List Ha}{T:TypeId}
def LB (w:World) (Jl:M):Prop:=∀ w',Jl w'->w.heap.size<=w'.heap.size/\∀ k,k<w.heap.size->w'.heap[k]?=w.heap[k]?
theorem _root_.Go.Mc.Sep.borrow (h:fa μ da w rs):∃ Jl,ha μ Jl/\fa Jl w w []/\LB w Jl:=by
 refine ⟨λw'=>μ w'/\(w.heap.size<=w'.heap.size/\∀ k,k<w.heap.size->w'.heap[k]?=w.heap[k]?),λ_ a=>a.1,Sep.start w _ _ ?_,λ_ a=>a.2⟩;intro w' c d;exact ⟨h.bj w' c λk b _=>d k b trivial,c,λk b=>d k b trivial⟩
theorem LB.holds {r:Ha}(a:LB w Jl) (h:r.holds w) (c:Jl w'):r.holds w':=holds_of h λb d=>(a w' c).2 b (BH h d)
theorem _root_.Go.Mc.Row.shape {v:Value}{sz n:Nat}{xs:List Value}(h:Row w v T sz n xs):∃ a c,v=.slice a n c:=by
 rcases h.2 with ⟨rfl,rfl⟩ | ⟨g,o,cap,cur,rfl,-⟩
 ·exact ⟨_,_,rfl⟩
 ·exact ⟨_,_,rfl⟩
theorem _root_.Go.Mc.Row.rd {α:Type}[Ma α]{a:Option Addr}{c:Nat}{cells:List Value}{l:List α}(k:LB w Jl) (hle:ha μ Jl) (h:Row w (.slice a l.length c) T (Ma.sz α) l.length cells) (m:qa μ cells l):ya Jl a c l:=by
 have n:∀ w',Jl w'->Row w' (.slice a l.length c) T (Ma.sz α) l.length cells:=λw' p=>k.holds (r:=.row (.slice a l.length c) T (Ma.sz α) l.length cells) h p;rcases h.2 with ⟨e,q⟩ | ⟨g,o,cap,cur,e,C,s,t,D,E⟩
 ·obtain rfl:=List.eq_nil_of_length_eq_zero q;obtain ⟨rfl,-,rfl⟩:=Value.slice.inj e;exact ya.nil
 ·obtain ⟨rfl,-,rfl⟩:=Value.slice.inj e;refine ⟨s,t,.inr ⟨g,o,rfl,λi=>(cells.drop<|i*Ma.sz α).take (Ma.sz α),λi x f=>⟨?_,Ma.up hle<|m.get f⟩⟩⟩;intro v y j u d;have z:0<l.length:=by have:=(List.getElem?_eq_some_iff.1 f).1;omega
  obtain ⟨b,F,c,Pa,A⟩:=(n v y).Pn z;simp at Pa;obtain ⟨⟨rfl,rfl⟩,rfl⟩:=Pa;have B:j<Ma.sz α:=by
   have:=(List.getElem?_eq_some_iff.1 d).1;simp at this;omega
  rw [List.getElem?_take_of_lt B,List.getElem?_drop] at d;have:=A _ u d;rw [<- Nat.add_assoc] at this;exact this
end
section
variable {P:Program}{Q:Exit->Act->World->Prop}{K:List Value->List Deferred->World->Prop}{fr Aa:List Value}{ds:List Deferred}{w w':World}
variable {dst:Option Tmp}{ty:TypeId}{pos:String}{after:Array Edge}{g:Option (Nat×Bool)}{T:TypeId}{pc:Bool}{Dc:List Value}{rs rs':List Ha}{μ:M}{da:World}
end
end
section
open Go.Mc Go.RowKit
section
variable {P:Program}{Q:Exit->Act->World->Prop}{K:List Value->List Deferred->World->Prop}{fr Aa:List Value}{ds:List Deferred}{w:World}
variable {dst:Option Tmp}{ty:TypeId}{pos:String}{after:Array Edge}{g:Option (Nat×Bool)}
variable {da:World}{rs rs':List Ha}{μ J:M}{Jg α:Type}
def FG (V:Jg->Value) (r:Except Jg α) (R:α->Value->World->Prop) (E:World->Prop):Ending->World->Prop
 | .returned v,w=>∃ x,r=.ok x/\R x v w
 | .panicked a,w=>∃ e,r=.error e/\a=[{ v:=V e,recovered:=false }]/\E w
 | .outgrown,_=>False
structure qc (P:Program) (f:FuncId) (args:List Value) (w:World) (V:Jg->Value) (r:Except Jg α) (R:α->Value->World->Prop) (E:World->Prop):Prop where
 out:Calls P f ⟨args⟩ w (FG V r R E)
def Jt (P:Program) (fn:Func) (V:Jg->Value) (r:Except Jg α) (R:α->Value->World->Prop) (E:World->Prop):Exit->Act->World->Prop:=bodyPost P fn (FG V r R E)
theorem jf {f:FuncId}{fn:Func}{c:Code}{args frm:List Value}{V:Jg->Value}{r:Except Jg α}{R:α->Value->World->Prop}{E:World->Prop}(a:P.funcs[f]?=some fn) (b:fn.body=some c)
  (d:args++List.replicate (fn.ntmps - args.length) undef=frm) (h:xd P c (Jt P fn V r R E) frm [] w):qc P f args w V r R E:=by
 refine ⟨calls_of_wp a b ?_⟩;subst d;have:(⟨args⟩:Array Value)++Array.replicate (fn.ntmps - args.length) undef=⟨args++List.replicate (fn.ntmps - args.length) undef⟩:=by
  apply Array.ext';simp
 have h:=h.out;simpa [F,Jt,this] using h
variable {fn:Func}{V:Jg->Value}{x:α}{r:Except Jg α}{R:α->Value->World->Prop}{E:World->Prop}
theorem EW {a:Act}(h:sq P fn (R x) .ret a w):Jt P fn V (.ok x) R E .ret a w:=by
 obtain ⟨b,v,c,d⟩:=h;exact ⟨b,v,c,x,rfl,d⟩
theorem bW {a:Act}(h:sq P fn (R x) .normal a w):Jt P fn V (.ok x) R E .normal a w:=by
 obtain ⟨b,v,c,d⟩:=h;exact ⟨b,v,c,x,rfl,d⟩
theorem WG {e:Jg}(h:E w):Jt P fn V (.error e) R E (.panic [{ v:=V e,recovered:=false }]) (F fr []) w:=⟨rfl,e,rfl,rfl,h⟩
def Aw (P:Program) (fn:Func) (R:Value->World->Prop):Exit->Act->World->Prop:=bodyPostD P fn (okV R)
def cB (fn:Func):List Nat:=fn.results.toList.map λr=>match r with | .tmp t=>t | .cell a _=>a
theorem wN {b:List Value}{d:Nat}{v:Value}{r:ResultVar}(h:(match r with | .tmp t=>t | .cell a _=>a)≠d):vo ⟨b.set d v⟩ r=vo ⟨b⟩ r:=by
 cases r with
 | tmp t =>
  have:t≠d:=h;simp [vo,List.getElem?_set,Ne.symm this]
 | cell a t =>
  have:a≠d:=h;simp [vo,List.getElem?_set,Ne.symm this]
theorem TM {fn:Func}{b:List Value}{d:Nat}{v:Value}(h:(cB fn).contains d=false):results fn ⟨b.set d v⟩=results fn ⟨b⟩:=by
 rw [mD,mD];have key:∀ l:List ResultVar,(∀ r ∈ l,(match r with | .tmp t=>t | .cell a _=>a)≠d)->l.mapM (vo ⟨b.set d v⟩)=l.mapM (vo ⟨b⟩):=by
  intro l ma
  induction l with
  | nil=>rfl
  | cons r l f =>
   rw [List.mapM_cons,List.mapM_cons,wN (ma r (by simp)),f λr c=>ma r (by simp [c])]
 have g:∀ r ∈ fn.results.toList,(match r with | .tmp t=>t | .cell a _=>a)≠d:=by
  intro r c e;have:d ∈ cB fn:=List.mem_map.2 ⟨r,c,e⟩;simp [List.contains_iff_mem,this] at h
 rw [Array.mapM_eq_mapM_toList,Array.mapM_eq_mapM_toList,key _ g]
theorem Leaves.set {fn:Func}{g:List Value}{d:Nat}{v:Value}{R:Ending->World->Prop}(h:(cB fn).contains d=false):∀ (ds:List Deferred) (u:FrameMode) (w:World),Leaves P fn ⟨g.set d v⟩ R ds u w->Leaves P fn ⟨g⟩ R ds u w
 | [],.returning,w,ma=>by
  obtain ⟨x,a,b⟩:=ma;exact ⟨x,by rw [<- a,TM h],b⟩
 | [],.panicking i,w,ma=>ma
 | [],.run,w,ma=>ma
 | l::ds,u,w,ma=>by
  obtain ⟨j,Fj,cap,f,args,a,b,k⟩:=ma;refine ⟨j,Fj,cap,f,args,a,b,k.mono λe m w' c=>?_⟩;cases e with
  | returned x=>exact Leaves.set h ds _ _ c
  | panicked i=>exact Leaves.set h ds _ _ c
  | outgrown=>exact c
theorem pv {fn:Func}{R:Value->World->Prop}{a:List PanicEntry}{d:Nat}{v:Value}(Ea:(cB fn).contains d=false) (h:Aw P fn R (.panic a) (F (fr.set d v) ds) w):Aw P fn R (.panic a) (F fr ds) w:=Leaves.set Ea _ _ _ h
theorem bR {f:FuncId}{fn:Func}{c:Code}{args frm:List Value}{R:Value->World->Prop}(a:P.funcs[f]?=some fn) (b:fn.body=some c)
  (d:args++List.replicate (fn.ntmps - args.length) undef=frm) (h:xd P c (Aw P fn R) frm [] w):kb P f args w R:=by
 refine ⟨Calls.mono (calls_of_wp_defers (R:=okV R) a b ?_) λe w g=>by cases e<;>exact g⟩;subst d;have ua:(⟨args⟩:Array Value)++Array.replicate (fn.ntmps - args.length) undef=⟨args++List.replicate (fn.ntmps - args.length) undef⟩:=by
  apply Array.ext';simp
 have h:=h.out;simpa [F,ua,Aw] using h
theorem QL {fn:Func}{R:Value->World->Prop}{a:Act}(h:It P fn R .ret a w):Aw P fn R .ret a w:=h
structure XI (P:Program) (f:FuncId) (args:List Value) (a:List PanicEntry) (w:World) (R:World->Prop):Prop where
 out:CallsD P f ⟨args⟩ (.panicking a) w λe b w'=>settle b=.returning/\okV (λ_ w'=>R w') e w'
theorem FW {fn:Func}{R:Value->World->Prop}{v:Value}{b:World->Prop}{k:FuncId}{cap vs:List Value}(d:fb P k) (f:XI P k (vs++cap) [{ v,recovered:=false }] w b) (h:∀ w',b w'->It P fn R .ret (F fr ds) w') :
  Aw P fn R (.panic [{ v,recovered:=false }]) (F fr (⟨.fn (.func k) ⟨cap⟩,⟨vs⟩⟩::ds)) w:=by
 refine ⟨by simp,.func k,⟨cap⟩,k,⟨vs++cap⟩,rfl,?_,?_⟩
 ·have:=d.out ⟨vs++cap⟩ w;simp [invoke,this]
 ·refine f.out.mono λe g w' a=>?_;obtain ⟨i,a⟩:=a;cases e with
  | returned v =>
   show Leaves P fn ⟨fr⟩ (okV R) ds (settle g) w';rw [i];exact h w' a
  | panicked c=>exact a.elim
  | outgrown=>exact a.elim
end
end
section
open Go.Mc Go.RowKit
section
variable {P:Program}{Q:Exit->Act->World->Prop}{K:List Value->List Deferred->World->Prop}{fr Aa:List Value}{ds:List Deferred}{w:World}
variable {dst:Option Tmp}{ty:TypeId}{pos:String}{after:Array Edge}{g:Option (Nat×Bool)}{Jg α:Type}
variable {V:Jg->Value}{r:Except Jg α}{R:α->Value->World->Prop}{E:World->Prop}
theorem Mu {f:Operand}{xs:List Operand}{tys:Array TypeId}{k:FuncId}{cap vs:List Value}(d:fb P k) (i:ab fr f (.func (.func k) #[] ⟨cap⟩)) (j:Pm fr xs vs)
  (l:qc P k (vs++cap) w V r R E) (h:∀ x v w',r=.ok x->R x v w'->Rg fr dst v λAa=>K Aa ds w') (m:∀ e w',r=.error e->E w'->Q (.panic [{ v:=V e,recovered:=false }]) (F fr ds) w'):yd P (Oper.mk dst (.call { callee:=.value f,args:=⟨xs⟩,argTypes:=tys }) ty pos after g) fr ds w K Q:=by
 constructor;intro p n;have o:=hE (w:=w) (dst:=dst) (ty:=ty) (pos:=pos) (after:=after) (g:=g) (tys:=tys) (ds:=ds) (cap:=cap) d i j;unfold Oper.wp;rw [o,Oper.upon_enter];exact Calls.mono l.out λe w' a=>by
  cases e with
  | returned v =>
   obtain ⟨x,b,c⟩:=a;obtain ⟨Aa,Ea⟩:=Xi fr dst v;exact Ea.rw<|n _ _ _<|h x v w' b c Aa Ea
  | panicked q =>
   obtain ⟨e,b,rfl,c⟩:=a;exact m e w' b c
  | outgrown=>exact a.elim
theorem jC {fn:Func}{e:Jg}(a:r=.error e) (h:E w):Jt P fn V r R E (.panic [{ v:=V e,recovered:=false }]) (F fr []) w:=by subst a;exact WG h
theorem kg {fn:Func}{t:Tmp}{x:α}{v:Value}(a:fn.results=#[.tmp t]) (ma:fc fr t v) (b:r=.ok x) (h:R x v w):Jt P fn V r R E .ret (F fr []) w:=by subst b;exact EW (Od a ma h)
theorem Dp {fn:Func}{t:Tmp}{v:Value}(a:fn.results=#[.tmp t]) (ma:fc fr t v) (h:∃ x,r=.ok x/\R x v w):Jt P fn V r R E .ret (F fr []) w:=by obtain ⟨x,b,h⟩:=h;exact kg a ma b h
end
section
variable {P:Program}{Q:Exit->Act->World->Prop}{K:List Value->List Deferred->World->Prop}{fr Aa:List Value}{ds:List Deferred}{w:World}
variable {dst:Option Tmp}{ty:TypeId}{pos:String}{after:Array Edge}{g:Option (Nat×Bool)}
theorem NS {x y:Operand}{t hb b:TypeId}{pc:Bool}{Dc:List Value}{n m:Nat}{a:Addr}(c:P.underlying t=some (.pointer b)) (e:wb P b pc Dc n m)
  (f:ab fr x (.pointer (some a))) (i:ab fr y (.pointer (some a))) (Ea:Bf fr dst (.bool true) Aa) (h:K Aa ds w):yd P (Oper.mk dst (.binOp .eql t x y hb) ty pos after g) fr ds w K Q:=by
 obtain ⟨j,-,k,-⟩:=e.inf;refine Qh (w':=w) ?_ Ea h;have ua:=f ds;have l:=i ds;have o:∀ d:Nat,(Op.equalIn (d+1) t (.pointer (some a)) (.pointer (some a))).run P w=.ok true w:=λd=>by
  simp [Op.equalIn,run_underlying c,sizeOf,typeInfo,k,run_sameAddr_same]
 have p:(Op.equalIn Op.maxDepth t (.pointer (some a)) (.pointer (some a))).run P w=.ok true w:=o 9999;simp [execOp,ua,l,eqGuard,binOp,Op.equal,p]
theorem kK {x y:Operand}{t hb c e Fa:TypeId}{pc:Bool}{Dc:List Value}{n m:Nat}{a b:Nat}{Xa f:List Value}(i:P.underlying t=some (.pointer c)) (k:wb P c pc Dc n m) (l:n≠0) (o:a≠b) (p:Ak w a e Xa) (q:Ak w b Fa f)
  (r:ab fr x (.pointer (some ⟨a,0,none⟩))) (s:ab fr y (.pointer (some ⟨b,0,none⟩))) (Ea:Bf fr dst (.bool false) Aa) (h:K Aa ds w):yd P (Oper.mk dst (.binOp .eql t x y hb) ty pos after g) fr ds w K Q:=by
 obtain ⟨j,z,u,-,-,v,-⟩:=k.inf;have A:j.size≠0:=by rw [v];exact l
 refine Qh (w':=w) ?_ Ea h;have ua:=r ds;have B:=s ds;have qb:(sameAddr ⟨a,0,none⟩ ⟨b,0,none⟩).run P w=.ok false w:=run_sameAddr_other w (λh=>by cases h;exact o rfl) p q;have C:∀ d:Nat,(Op.equalIn (d+1) t (.pointer (some ⟨a,0,none⟩)) (.pointer (some ⟨b,0,none⟩))).run P w=.ok false w:=λd=>by
  simp [Op.equalIn,run_underlying i,sizeOf,typeInfo,u,A,qb]
 have D:(Op.equalIn Op.maxDepth t (.pointer (some ⟨a,0,none⟩)) (.pointer (some ⟨b,0,none⟩))).run P w=.ok false w:=C 9999;simp [execOp,ua,B,eqGuard,binOp,Op.equal,D]
theorem lK {x:Operand}{t hb:TypeId}{v:Value}{b:Bool}{kx:TypeDesc}(a:P.underlying t=some kx) (e:(match kx with | .func _ _ _=>true | _=>false)=true) (Pa:(v=.nilFunc/\b=false)\/((∃ k c d,v=.func k c d)/\b=true))
  (f:ab fr x v) (Ea:Bf fr dst (.bool b) Aa) (h:K Aa ds w):yd P (Oper.mk dst (.binOp .neq t x (.const .nilFunc) hb) ty pos after g) fr ds w K Q:=by
 refine Qh (w':=w) ?_ Ea h;have ua:=f ds;have i:(F fr ds).eval (.const .nilFunc)=.nilFunc:=rfl;have j:∀ d:Nat,(Op.equalIn (d+1) t v .nilFunc).run P w=.ok (!b) w:=λd=>by
  rcases Pa with ⟨rfl,rfl⟩ | ⟨⟨k,c,d,rfl⟩,rfl⟩<;>cases kx<;>simp at e<;>simp [Op.equalIn,run_underlying a]
 have l:(Op.equalIn Op.maxDepth t v .nilFunc).run P w=.ok (!b) w:=j 9999;simp [execOp,ua,i,eqGuard,binOp,Op.equal,l]
end
section
variable {P:Program}{Q:Exit->Act->World->Prop}{K:List Value->List Deferred->World->Prop}{fr Aa:List Value}{ds:List Deferred}{w da:World}
variable {dst:Option Tmp}{ty:TypeId}{pos:String}{after:Array Edge}{g:Option (Nat×Bool)}{μ:M}{rs:List Ha}{T:TypeId}{pc:Bool}{Dc:List Value}
theorem VK {α:Type}[Ma α]{x y z:Operand}{a:Option Addr}{c m:Nat}{xs:List α}{e:TypeId}(f:P.underlying T=some (.slice e)) (i:wb P e pc Dc (Ma.sz α) m) (j:ab fr x (.slice a xs.length c)) (k:ab fr y (.int .i64 xs.length)) (l:ab fr z (.int .i64 xs.length)) (h:ya μ a c xs) :
  Cf P (Oper.mk dst (.slice T x none (some y) (some z)) ty pos after g) fr (.slice a xs.length xs.length):=by
 refine ⟨λds w=>?_⟩;have hle:=h.le;have ua:((xs.length:Nat):Int)<=(c:Int):=by omega
 have qb:(if xs.length=0 then a else a.map (·.add (0*Ma.sz α)))=a:=by
  rcases h.el with rfl | ⟨b,o,rfl,-⟩
  ·simp
  ·split<;>simp [Addr.add]
 have d:(execOp (F fr ds).eval (Oper.mk dst (.slice T x none (some y) (some z)) ty pos after g)).run P w=.ok (.value (.slice (if xs.length=0 then a else a.map (·.add (0*Ma.sz α))) xs.length xs.length)) w:=by
  simp [execOp,j ds,k ds,l ds,Instr.sliceAt,Instr.slice,run_underlying f,Instr.sliceBounds,Instr.sliceBound,asIntOf,i.sizeOf,hle]
 rw [qb] at d;exact d
theorem ya.full {α:Type}[Ma α]{a:Option Addr}{c:Nat}{xs:List α}(h:ya μ a c xs):ya μ a xs.length xs:=⟨Nat.le_refl _,Nat.le_trans h.le h.cap,h.el⟩
theorem mK {α:Type}[Ma α]{t:TypeId}{s x:Operand}{bytes b A c:Nat}{a:Option Addr}{news:List Value}{xs ys Ba:List α}(G:P.underlying t=some (.slice T)) (H:wb P T pc Dc (Ma.sz α) bytes) (L:Dc.length=Ma.sz α)
  (M:ab fr s (.slice a xs.length xs.length)) (N:ab fr x (.slice (some ⟨b,0,none⟩) A c)) (O:ya μ a xs.length xs) (d:fa μ da w rs) (R:lj w b 0 news) (o:qa μ news ys) (bb:ys.length=A) (ol:0<A) (Gb:app xs ys=some Ba) (S:bytes<=4096)
  (h:∀ l U w',qa μ U Ba->fa μ da w' (.row l T (Ma.sz α) Ba.length U::rs)->Rg fr dst l λAa=>K Aa ds w') :
  yd P (Oper.mk dst (.call { callee:=.builtin .append,args:=#[s,x],argTypes:=#[t,t] }) ty pos after g) fr ds w K Q:=by
 obtain ⟨rfl,V⟩:=ow Gb;obtain ⟨p,B,gc⟩:=ya.cells O;subst bb;have W:=o.len;have lc:(xs.length+ys.length)*bytes<=140737488355328:=Nat.le_trans (Nat.mul_le_mul V S) (by decide);have rc:a=none->xs=[]:=λfd=>by
  rcases O.el with q | ⟨Qc,id,q,-⟩
  ·exact q
  ·rw [fd] at q;cases q
 cases a with
 | none =>
  have:=rc rfl;subst this;refine Gu (k:=0) (n:=0) (xs:=[]) G H (by simp [L,Ma.pos]) M N (d.ri T<|Ma.sz α) rfl R W o.pg ⟨by simpa using V,S⟩ λl w' rs' md nd=>?_;cases (show _=rs' from md);exact h l news w' o (by simpa using nd)
 | some xC =>
  obtain ⟨i,z,ua,C,rd,wd,Fd⟩:∃ (i:TypeInfo) (z:Value),P.info? T=some i/\i.zero=some z/\i.size=Ma.sz α/\i.bytes=bytes/\z.cells.size=Ma.sz α:=by
   obtain ⟨i,z,Id,be,ce,ge,ne⟩:=H.inf;exact ⟨i,z,Id,be,ge,ne,by rw [ce];exact L⟩
  have hold:∀ j u,p[j]?=some u->w.cell? (xC.add j)=some u:=λj u y=>by
   have D:xs≠[]:=by
    rintro rfl;have:p=[]:=B;subst this;simp at y
   obtain ⟨Qc,id,Ne,of⟩:=gc D;cases Ne;rw [il];exact of _ d.a j u y
  obtain ⟨l,w',wf,If,e⟩:=run_append_arg_grows (P:=P) w t ty T i z (Ma.sz α) bytes G ua C rd wd Fd Ma.pos xC xs.length xs.length p B.len hold ⟨b,0,none⟩ ys.length c news W (λj u y=>by rw [il];exact R j u y) (by omega) (by unfold maxLen;omega) lc;obtain ⟨Aa,Ea⟩:=Xi fr dst l;have D:¬ (l=.slice none 0 0/\xs.length+ys.length=0):=λq=>by omega
  obtain ⟨dg,q⟩:=If;obtain ⟨f,cap,cur,rfl,rg,X,eb,c2,c3,c4⟩:=q.resolve_left D;have bi:Grow w w':=⟨e.os,e.tape,e.output,e.size,λk ci _=>e.block k ci (by simp)⟩;have Y:=d.grow bi;have ii:f ∉ blocks rs:=λE=>by have:=d.lt E;omega
  have pl:f<w'.heap.size:=(Array.getElem?_eq_some_iff.1 X).1;have li:fa μ da w' (.row (.slice (some ⟨f,0,none⟩) (xs.length+ys.length) cap) T (Ma.sz α) (xs++ys).length (p++news)::rs):=by
   refine ⟨Y.keeps,λr F=>?_,?_,λb m=>?_,?_⟩
   ·rcases List.mem_cons.1 F with rfl | F
    ·rw [List.length_append];exact ⟨dg,.inr ⟨f,0,cap,cur,rfl,X,eb,c2,by omega,by simpa using c4⟩⟩
    ·exact Y.all r F
   ·show (f::blocks rs).Nodup;exact List.nodup_cons.2 ⟨ii,d.ti⟩
   ·rcases List.mem_cons.1 (show b ∈ f::blocks rs from m) with rfl | m
    ·exact .inl<|Nat.le_trans d.keeps.size rg
    ·exact d.new b m
   ·intro pi Pi dl;refine d.bj pi (Nat.le_trans e.size Pi) λb m Z=>?_;have nl:b≠f:=by omega
    exact (dl b (by have:=e.size;omega) ⟨Z.1,λE=>(List.mem_cons.1 (show b ∈ f::blocks rs from E)).elim nl Z.2⟩).trans (e.block b m (by simp))
  refine Qh (v:=_) (w':=w') ?_ Ea<|h _ _ w' (o.cat B) li Aa Ea;have ua:=M ds;have C:=N ds;simp [execOp,resolve,invoke,builtin,ua,C,wf]
end
section
variable {S Ic:Nat->Prop}{da w:World}{A:World->Prop}
theorem _root_.Go.Mc.Sep.GG {a g t:List Ha}(h:Sep S Ic da w (g++(a++t)) A):Sep S Ic da w (a++(g++t)) A:=h.perm (by
 rw [<- List.append_assoc,<- List.append_assoc];exact List.perm_append_comm.append_right t)
end
structure vc where
 b:Nat
instance:Ma vc where
 sz:=1
 pos:=by decide
 cs _ l x:=l=[.pointer (some ⟨x.b,0,none⟩)]
 Uh h:=by subst h;rfl
 up _ h:=h
 pg h:=by subst h;rfl
structure om where
 b:Option Nat
instance:Lh om where
 jj _ v x:=v=match x.b with | none=>.pointer none | some b=>.pointer (some ⟨b,0,none⟩)
 up _ h:=h
section
variable {P:Program}{Q:Exit->Act->World->Prop}{K:List Value->List Deferred->World->Prop}{fr Aa:List Value}{ds:List Deferred}{w:World}
variable {dst:Option Tmp}{ty:TypeId}{pos:String}{after:Array Edge}{g:Option (Nat×Bool)}
theorem cR {x:Operand}{t:TypeId}{v:Value}(a:ab fr x (.iface t v)) (h:Q (.panic [{ v:=.iface t v,recovered:=false }]) (F fr ds) w):yd P (Oper.mk dst (.panic x) ty pos after g) fr ds w K Q:=by
 constructor;intro b c;have e:(execOp (F fr ds).eval (Oper.mk dst (.panic x) ty pos after g)).run P w=.halt (.panic (.iface t v)) w:=by
  simp [execOp,a ds];rfl
 unfold Oper.wp;rw [e,Oper.upon_panic];exact h
theorem dR {x:Operand}{t:TypeId}{v:Value}(a:P.concrete t=true) (b:ab fr x v) (c:Bf fr dst (.iface t v) Aa) (h:K Aa ds w):yd P (Oper.mk dst (.makeInterface t x) ty pos after g) fr ds w K Q:=by
 refine Qh (v:=.iface t v) (w':=w) ?_ c h;have:=run_makeInterface (P:=P) (w:=w) t v a;simp [execOp,b ds,this]
end
end
section
open Go.Mc Go.RowKit
section
variable {P:Program}{Q:Exit->Act->World->Prop}{K:List Value->List Deferred->World->Prop}{fr Aa:List Value}{ds:List Deferred}{w da:World}
variable {dst:Option Tmp}{ty:TypeId}{pos:String}{after:Array Edge}{g:Option (Nat×Bool)}{S Ic:Nat->Prop}{A:World->Prop}{rs rs':List Ha}{T:TypeId}
def Xl (es:List MapEntry) (c:Nat) (k z:Value):List MapEntry:=match Fk es k with
 | some (i,_)=>es.modify i λe=>{ e with key:=k }
 | none=>es++[{ key:=k,val:=z,born:=c }]
def cp (es:List MapEntry) (c:Nat) (k:Value):Nat:=match Fk es k with
 | some (i,_)=>((es[i]?).map (·.born)).getD 0
 | none=>c
theorem OS {x y:Operand}{me ba:TypeId}{d:TypeDesc}{kv z:Value}{b c k:Nat}{es:List MapEntry}(m:P.underlying T=some (.map me ba)) (n:P.underlying me=some d) (C:∀ w,(zeroValue ba).run P w=.ok z w) (o:ab fr x (.map (some b))) (p:ab fr y kv) (a:Hk d kv)
  (q:Sep S Ic da w rs A) (ma:fc rs k (.map b es c)) (r:∀ e ∈ es,Hk d e.key)
  (h:∀ u w' rs',Zb rs k (.map b (Xl es c kv z) (Nj es c kv)) rs'->Sep S Ic da w' rs' A->Rg fr dst (.tuple #[u,.int .i64 (cp es c kv)]) λAa=>K Aa ds w'):yd P (Oper.mk dst (.mapEntry T x y) ty pos after g) fr ds w K Q:=by
 have f:w.heap[b]?=some (.map ⟨es⟩ c):=q.get ma;have D:b<w.heap.size:=(Array.getElem?_eq_some_iff.1 f).1
 let w':World:={ w with heap:=w.heap.setIfInBounds b (.map ⟨Xl es c kv z⟩ (Nj es c kv)) }
 have E:Yi (λk=>k≠b) w w':=⟨rfl,rfl,rfl,by simp [w'],λj _ F=>by simp [w',Array.getElem?_setIfInBounds,Ne.symm F]⟩;have s:=q.put (b:=b) (r':=.map b (Xl es c kv z) (Nj es c kv)) (w':=w') ma rfl rfl rfl (by show w'.heap[b]?=_;simp [w',D]) E;have t:=run_checkKey (P:=P) (w:=w) (b:=false) n a;have v:=run_findKey (P:=P) (w:=w) n a r;cases l:Fk es kv with
 | none =>
  obtain ⟨Aa,Ea⟩:=Xi fr dst (.tuple #[z,.int .i64 (cp es c kv)]);refine Qh (w':=w') ?_ Ea<|h z w' _ rfl s Aa Ea;simp [execOp,o ds,p ds,Instr.mapEntry,run_underlying m,getObj,setObj,Sem.run,f,Result.andThen,t,v,l,w',Xl,Nj,cp,C,goInt]
 | some e =>
  obtain ⟨i,u⟩:=e;obtain ⟨e,B,G,-⟩:=nD l;have H:=zI a (r e (List.mem_of_getElem? B)) G;obtain ⟨Aa,Ea⟩:=Xi fr dst (.tuple #[u,.int .i64 (cp es c kv)]);refine Qh (w':=w') ?_ Ea<|h u w' _ rfl s Aa Ea;simp [execOp,o ds,p ds,Instr.mapEntry,run_underlying m,getObj,setObj,Sem.run,f,Result.andThen,t,v,l,B,Instr.keyThatStays,H,w',Xl,Nj,cp,goInt]
theorem YI {α:Type}{f:α->α}{e:α}:∀ {es:List α},(es++[e]).modify es.length f=es++[f e]
 | []=>rfl
 | a::es=>by
  show (a::(es++[e])).modify (es.length+1) f=a::(es++[f e]);rw [List.modify_succ_cons,YI]
theorem BP {es:List MapEntry}{c:Nat}{kv z:Value}(k:∀ e ∈ es,e.born<c) (l:es.Pairwise λa b=>a.born<b.born):(Xl es c kv z).findIdx? (λe=>((e.born:Int) == ((cp es c kv:Nat):Int)))=some (match Fk es kv with | some (i,_)=>i | none=>es.length):=by
 rw [List.findIdx?_eq_some_iff_getElem];cases f:Fk es kv with
 | none =>
  simp only [Xl,cp,f];refine ⟨by simp,by simp,λj d=>?_⟩;have:=k _ (List.getElem_mem (by simpa using d:j<es.length));rw [List.getElem_append_left (by simpa using d)];simp only [beq_iff_eq];omega
 | some e =>
  obtain ⟨i,u⟩:=e;obtain ⟨e,g,n,-⟩:=nD f;obtain ⟨h,rfl⟩:=List.getElem?_eq_some_iff.1 g;simp only [Xl,cp,f,g,Option.map_some,Option.getD_some];refine ⟨by simpa using h,by simp,λj d=>?_⟩;have m:j<es.length:=by have:j<i:=d;omega
  have:=List.pairwise_iff_getElem.1 l j i m h d;rw [List.getElem_modify];split
  ·omega
  ·simp only [beq_iff_eq];omega
theorem PS {x s z:Operand}{kv v d:Value}{b c k:Nat}{es:List MapEntry}(o:ab fr x (.map (some b))) (p:ab fr s (.int .i64 (cp es c kv))) (q:ab fr z v)
  (r:Sep S Ic da w rs A) (ma:fc rs k (.map b (Xl es c kv d) (Nj es c kv))) (t:∀ e ∈ es,e.born<c) (y:es.Pairwise λa b=>a.born<b.born)
  (Ea:Bf fr dst undef Aa) (h:∀ w' rs',Zb rs k (.map b (putAt es c kv v) (Nj es c kv)) rs'->Sep S Ic da w' rs' A->K Aa ds w'):yd P (Oper.mk dst (.entryStore T x s z) ty pos after g) fr ds w K Q:=by
 have m:w.heap[b]?=some (.map ⟨Xl es c kv d⟩ (Nj es c kv)):=r.get ma;have B:b<w.heap.size:=(Array.getElem?_eq_some_iff.1 m).1
 let w':World:={ w with heap:=w.heap.setIfInBounds b (.map ⟨putAt es c kv v⟩ (Nj es c kv)) }
 have C:Yi (λk=>k≠b) w w':=⟨rfl,rfl,rfl,by simp [w'],λj _ D=>by simp [w',Array.getElem?_setIfInBounds,Ne.symm D]⟩;have E:=r.put (b:=b) (r':=.map b (putAt es c kv v) (Nj es c kv)) (w':=w') ma rfl rfl rfl (by show w'.heap[b]?=_;simp [w',B]) C;refine CB (w':=w') ?_ Ea<|h w' _ rfl E;have f:=BP (kv:=kv) (z:=d) t y;cases l:Fk es kv with
 | none =>
  rw [l] at f;have n:(Xl es c kv d).modify es.length (λe=>{ e with val:=v })=putAt es c kv v:=by
   simp only [Xl,putAt,l];exact YI
  simp [execOp,o ds,p ds,q ds,Instr.entryStore,getObj,setObj,Sem.run,m,Result.andThen,asInt,asIntOf,f,n,w']
 | some e =>
  obtain ⟨i,u⟩:=e;rw [l] at f;have n:(Xl es c kv d).modify i (λe=>{ e with val:=v })=putAt es c kv v:=by
   simp only [Xl,putAt,l];rw [List.modify_modify_eq];rfl
  simp [execOp,o ds,p ds,q ds,Instr.entryStore,getObj,setObj,Sem.run,m,Result.andThen,asInt,asIntOf,f,n,w']
end
section
variable {P:Program}{Q:Exit->Act->World->Prop}{K:List Value->List Deferred->World->Prop}{fr Aa:List Value}{ds:List Deferred}{w da:World}
variable {dst:Option Tmp}{ty:TypeId}{pos:String}{after:Array Edge}{g:Option (Nat×Bool)}{μ:M}{rs rs':List Ha}{T:TypeId}
variable {κ β:Type}[DecidableEq κ] [gb κ] [Lh β]
theorem yJ {x y:Operand}{me ba:TypeId}{z:Value}{b c k:Nat}{es:List MapEntry}{kk:κ}{m:List (κ×β)}(a:P.underlying T=some (.map me ba)) (d:P.underlying me=some (gb.bd (κ:=κ))) (e:∀ w,(zeroValue ba).run P w=.ok z w) (f:ab fr x (.map (some b))) (i:ab fr y (gb.key kk))
  (j:fa μ da w rs) (ma:fc rs k (.map b es c)) (l:oe μ es c m)
  (h:∀ u w' rs',Zb rs k (.map b (Xl es c (gb.key kk) z) (Nj es c (gb.key kk))) rs'->fa μ da w' rs'->Rg fr dst (.tuple #[u,.int .i64 (cp es c (gb.key kk))]) λAa=>K Aa ds w'):yd P (Oper.mk dst (.mapEntry T x y) ty pos after g) fr ds w K Q :=
 OS a d e f i (gb.me kk) j ma l.kv.keys h
theorem zJ {x s z:Operand}{v e:Value}{b c k:Nat}{es:List MapEntry}{kk:κ}{m:List (κ×β)}{xx:β}(f:ab fr x (.map (some b))) (i:ab fr s (.int .i64 (cp es c (gb.key kk)))) (j:ab fr z v) (Pa:Lh.jj μ v xx)
  (l:fa μ da w rs) (ma:fc rs k (.map b (Xl es c (gb.key kk) e) (Nj es c (gb.key kk)))) (a:oe μ es c m)
  (Ea:Bf fr dst undef Aa) (h:∀ d c' w' rs',oe μ d c' (kd m kk xx)->Zb rs k (.map b d c') rs'->fa μ da w' rs'->K Aa ds w'):yd P (Oper.mk dst (.entryStore T x s z) ty pos after g) fr ds w K Q :=
 PS f i j l ma a.lt a.inc Ea λw' rs'=>h _ _ w' rs' (a.put kk Pa)
end
section
variable {P:Program}{Q:Exit->Act->World->Prop}{K:List Value->List Deferred->World->Prop}{fr Aa:List Value}{ds:List Deferred}{w:World}
variable {dst:Option Tmp}{ty:TypeId}{pos:String}{after:Array Edge}{g:Option (Nat×Bool)}
theorem HU {x:Operand}{a t:TypeId}{v:Value}{d:TypeDesc}(b:P.underlying t=some d) (Ea:(match d with | .interface _=>false | _=>true)=true) (c:ab fr x (.iface t v)) (e:Bf fr dst (.tuple #[v,.bool true]) Aa) (h:K Aa ds w):yd P (Oper.mk dst (.typeAssert x a t true) ty pos after g) fr ds w K Q:=by
 refine Qh (v:=.tuple #[v,.bool true]) (w':=w) ?_ e h;have ua:=c ds;have f:(Instr.typeAssert (.iface t v) a t true).run P w=.ok (.tuple #[v,.bool true]) w:=by
  unfold Instr.typeAssert;simp only [Sem.run_bind,run_underlying b,Result.andThen_ok];cases d<;>first | (simp at Ea;done) | simp
 simp [execOp,ua,f]
end
end
section
open Go.Mc Go.RowKit
theorem Qb {α:Type}{c:Prop}[Decidable c]{y:Option α}{r:α}{G:Prop}(h:(if c then none else y)=some r) (a:c):G:=by rw [if_pos a] at h;cases h
theorem Wg {α:Type}{c:Prop}[Decidable c]{x:Option α}{r:α}{G:Prop}(h:(if c then x else none)=some r) (a:¬ c):G:=by rw [if_neg a] at h;cases h
section
variable {P:Program}{Q Q':Exit->Act->World->Prop}{fr Aa:List Value}{ds:List Deferred}{w:World}{ops:Array Oper}{y:Code}{id:Nat}{l:List Oper}
theorem vm (h:xd P y Q' fr ds w):He P ops (Exit.then (Mp P y Q') Q) [] fr ds w:=ah (gg h)
theorem bl (h:He P l.toArray (Exit.then (Mp P y Q) Q) l fr ds w):xd P (.seq (.region id l.toArray false) y) Q fr ds w:=la (Ph h)
theorem Vh (h:He P l.toArray (Exit.then (Mp P y Q') Q') l fr ds w):He P ops (Exit.then (Mp P (.seq (.region id l.toArray false) y) Q') Q) [] fr ds w:=ah (gg (la (Ph h)))
theorem zn {x:Code}(h:xd P x (Exit.then (Mp P y Q') Q') fr ds w):He P ops (Exit.then (Mp P (.seq x y) Q') Q) [] fr ds w:=ah (gg (la h))
variable {R R':List Nat}{dst:Tmp}{op:Op}{ty:TypeId}{pos:String}{after:Array Edge}{v:Value}{Wa:List Mon}{j d:Nat}{b Qc:Bool}
theorem cl (i:Nat) (S:List Nat) (a:(decide R.Nodup && enabled ops R i && waits ops R S i && jn ops S R i && S.contains i,R.erase i,ops[i]?)=(true,R',some ⟨some dst,op,ty,pos,after,none⟩)) (Pa:Cf P ⟨some dst,op,ty,pos,after,none⟩ fr v) (b:Zb fr dst v Aa) (h:Zd P ops Q Wa R' Aa ds w) (c:ml Q dst:=by first | exact λ_ _ _ _ _ h=>h | exact Ek λ_ _ _ h=>h.2 | exact Ek λ_ _ _ h=>h.2.2):Zd P ops Q Wa R fr ds w:=mg S c (congrArg (·.1) a) (congrArg (·.2.1) a) (congrArg (·.2.2) a) Pa b h
theorem Oc (i:Nat) (S:List Nat) (a:(decide R.Nodup && enabled ops R i && waits ops R S i && jn ops S R i && S.contains i,R.erase i,ops[i]?)=(true,R',some ⟨some dst,op,ty,pos,after,none⟩)) (Pa:lk P ⟨some dst,op,ty,pos,after,none⟩ fr w v) (b:Zb fr dst v Aa) (h:Zd P ops Q ((S,λw'=>lk P ⟨some dst,op,ty,pos,after,none⟩ fr w' v)::Wa) R' Aa ds w) (c:ml Q dst:=by first | exact λ_ _ _ _ _ h=>h | exact Ek λ_ _ _ h=>h.2 | exact Ek λ_ _ _ h=>h.2.2):Zd P ops Q Wa R fr ds w:=ck S c (congrArg (·.1) a) (congrArg (·.2.1) a) (congrArg (·.2.2) a) Pa b h
end
class Dh (l:List Value) (n:Nat) (v:outParam Value):Prop where out:fc l n v
instance {v:Value}{l:List Value}:Dh (v::l) 0 v:=⟨rfl⟩
instance {a v:Value}{l:List Value}{n:Nat}[h:Dh l n v]:Dh (a::l) (n+1) v:=⟨h.out⟩
instance (priority:=2000){c0 eb c2 c3 c4 c5 Wc tg Rf c9 v:Value}{l:List Value}{n:Nat}[h:Dh l n v]:Dh (c0::eb::c2::c3::c4::c5::Wc::tg::Rf::c9::l) (n+10) v:=⟨h.out⟩
class Qf (l:List Value) (n:Nat) (v:Value) (Ba:outParam (List Value)):Prop where out:Zb l n v Ba
instance {a v:Value}{l:List Value}:Qf (a::l) 0 v (v::l):=⟨rfl⟩
instance {a v:Value}{l Ba:List Value}{n:Nat}[h:Qf l n v Ba]:Qf (a::l) (n+1) v (a::Ba):=⟨congrArg (a::·) h.out⟩
instance (priority:=2000){c0 eb c2 c3 c4 c5 Wc tg Rf c9 v:Value}{l Ba:List Value}{n:Nat}[h:Qf l n v Ba]:Qf (c0::eb::c2::c3::c4::c5::Wc::tg::Rf::c9::l) (n+10) v (c0::eb::c2::c3::c4::c5::Wc::tg::Rf::c9::Ba):=⟨congrArg (c0::eb::c2::c3::c4::c5::Wc::tg::Rf::c9::·) h.out⟩
class tc (fr:List Value) (x:Operand) (v:outParam Value):Prop where out:ab fr x v
instance {fr:List Value}{n:Nat}{v:Value}[h:Dh fr n v]:tc fr (.tmp n) v:=⟨ba h.out⟩
instance {fr:List Value}{v:Value}:tc fr (.const v) v:=⟨db⟩
class Si (P:Program) (op:Op) (fr:List Value) (v:outParam Value):Prop where out:∀ dst ty pos after g,Cf P (Oper.mk dst op ty pos after g) fr v
section
variable {P:Program}{fr:List Value}{x y c:Operand}{v:Value}{t hb:TypeId}{k:IntKind}{a b:Int}
instance [h:tc fr x v]:Si P (.move x) fr v:=⟨λ_ _ _ _ _=>Vl h.out⟩
instance [h:tc fr x v]:Si P (.assign x) fr v:=⟨λ_ _ _ _ _=>gE h.out⟩
instance {a:Addr}[h:tc fr x (.pointer (some a))]:Si P (.nilCheck x) fr (.pointer (some a)):=⟨λ_ _ _ _ _=>bq h.out⟩
instance [c:tc fr x (.int k a)] [d:tc fr y (.int k b)]:Si P (.binOp .eql t x y hb) fr (.bool (decide (a=b))):=⟨λ_ _ _ _ _=>tU c.out d.out⟩
instance [c:tc fr x (.int k a)] [d:tc fr y (.int k b)]:Si P (.binOp .neq t x y hb) fr (.bool (decide (a≠b))):=⟨λ_ _ _ _ _=>uU c.out d.out⟩
instance [c:tc fr x (.int k a)] [d:tc fr y (.int k b)]:Si P (.binOp .lss t x y hb) fr (.bool (decide (a<b))):=⟨λ_ _ _ _ _=>NK c.out d.out⟩
instance [c:tc fr x (.int k a)] [d:tc fr y (.int k b)]:Si P (.binOp .leq t x y hb) fr (.bool (decide (a<=b))):=⟨λ_ _ _ _ _=>qU c.out d.out⟩
instance [c:tc fr x (.int k a)] [d:tc fr y (.int k b)]:Si P (.binOp .gtr t x y hb) fr (.bool (decide (b<a))):=⟨λ_ _ _ _ _=>rU c.out d.out⟩
instance [c:tc fr x (.int k a)] [d:tc fr y (.int k b)]:Si P (.binOp .geq t x y hb) fr (.bool (decide (b<=a))):=⟨λ_ _ _ _ _=>sU c.out d.out⟩
end
section
variable {P:Program}{Q:Exit->Act->World->Prop}{fr Aa:List Value}{ds:List Deferred}{w:World}{ops:Array Oper}{rest:List Oper}{d:Tmp}{op:Op}{ty:TypeId}{pos:String}{after:Array Edge}{v:Value}
theorem st [a:Si P op fr v] [b:Qf fr d v Aa] (h:He P ops Q rest Aa ds w):He P ops Q (⟨some d,op,ty,pos,after,none⟩::rest) fr ds w:=wl (Pb (a.out _ _ _ _ _) (wa b.out) h)
end
class Ir (fr:List Value) (xs:List Operand) (vs:outParam (List Value)):Prop where out:Pm fr xs vs
instance {fr:List Value}:Ir fr [] []:=⟨qb⟩
instance {fr:List Value}{x:Operand}{v:Value}{xs:List Operand}{vs:List Value}[h:tc fr x v] [k:Ir fr xs vs]:Ir fr (x::xs) (v::vs):=⟨ua h.out k.out⟩
section
variable {P:Program}{fr:List Value}{x y c:Operand}{v:Value}{t hb T:TypeId}{b:Nat}{o off i:Nat}{vs:List Value}{q:Bool}
instance [a:Wb P T i off] [h:tc fr x (.pointer (some ⟨b,o,none⟩))]:Si P (.fieldAddr T x i) fr (.pointer (some ⟨b,o+off,none⟩)):=⟨λ_ _ _ _ _=>bm a h.out rfl⟩
instance [a:tc fr c (.bool true)] [h:tc fr x v]:Si P (.pick c x y) fr v:=⟨λ_ _ _ _ _=>QQ a.out h.out⟩
instance [a:tc fr c (.bool false)] [h:tc fr y v]:Si P (.pick c x y) fr v:=⟨λ_ _ _ _ _=>RQ a.out h.out⟩
instance [h:tc fr x (.bool q)]:Si P (.unOp .not t x) fr (.bool (!q)):=⟨λ_ _ _ _ _=>wU h.out⟩
instance [h:tc fr x (.tuple ⟨vs⟩)] [k:Dh vs i v]:Si P (.extract x i) fr v:=⟨λ_ _ _ _ _=>vF h.out k.out⟩
end
section
variable {P:Program}{Q:Exit->Act->World->Prop}{fr Aa:List Value}{ds:List Deferred}{w:World}{ops:Array Oper}{rest:List Oper}{d:Tmp}{op:Op}{ty:TypeId}{pos:String}{after:Array Edge}{v:Value}{j e:Nat}{b Qc:Bool}
theorem yC [a:Si P op fr v] [c:Qf fr d v Aa] (f:(ops[j]?).bind (·.dst)=some e) [ma:Dh fr e (.bool b)] (h:He P ops Q rest Aa ds w):He P ops Q (⟨some d,op,ty,pos,after,some (j,b)⟩::rest) fr ds w:=lg f ma.out (Pb (a.out _ _ _ _ _) (wa c.out) h)
theorem hs [a:Qf fr d undef Aa] (c:(ops[j]?).bind (·.dst)=some e) [ma:Dh fr e (.bool Qc)] (f:(Qc == b)=false) (h:He P ops Q rest Aa ds w):He P ops Q (⟨some d,op,ty,pos,after,some (j,b)⟩::rest) fr ds w:=wn c ma.out f (wa a.out) h
theorem Hh {T:TypeId}{Dc:List Value}{n m o q:Nat}{x:Operand}[a:wb P T false Dc n m] (b:w.cell? ⟨q,o,none⟩=some v) [c:tc fr x (.pointer (some ⟨q,o,none⟩))] [e:Qf fr d v Aa] (h:He P ops Q rest Aa ds w):He P ops Q (⟨some d,.load T x,ty,pos,after,none⟩::rest) fr ds w:=wl (hp a c.out b (wa e.out) h)
theorem bg {T:TypeId}{Dc cs:List Value}{n m o q:Nat}{x:Operand}[a:wb P T true Dc n m] (b:lj w q o cs) (c:cs.length=n) [e:tc fr x (.pointer (some ⟨q,o,none⟩))] [f:Qf fr d (.agg ⟨cs⟩) Aa] (h:He P ops Q rest Aa ds w):He P ops Q (⟨some d,.load T x,ty,pos,after,none⟩::rest) fr ds w:=wl (fp a e.out b c (wa f.out) h)
theorem Xa {dst:Option Tmp}{xs:List Operand}{tys:Array TypeId}{k:FuncId}{vs:List Value}{R:Value->World->Prop}[a:fb P k] [b:Ir fr xs vs] (c:kb P k vs w R) (h:∀ v w',R v w'->Rg fr dst v λAa=>He P ops Q rest Aa ds w') :
  He P ops Q (⟨dst,.call { callee:=.value (.func k),args:=⟨xs⟩,argTypes:=tys },ty,pos,after,none⟩::rest) fr ds w:=wl (jd a yc b.out c h)
theorem kC {id:Nat}{l:List Oper}{μ:M}{da:World}{rs:List Ha}(a:fa μ da w rs) (h:∀ w',fa μ da w' rs->gH P l.toArray Q (List.range l.length) fr ds w') (b:P.follows .mixedOrders=true:=by kernel_rfl) (c:(List.range l.toArray.size).all (λi=>(pj l.toArray i).all λj=>decide (j<i))=true:=by rfl):xd P (.region id l.toArray true) Q fr ds w :=
 CU b c λw' d e f g=>h w' (a.drew d e f g)
theorem ta {v:Value}{K:List Value->Prop}[a:Qf fr d v Aa] (h:K Aa):Rg fr (some d) v K:=pu (wa a.out) h
theorem wi {Wa:List Mon}{R R':List Nat}(i:Nat) (S:List Nat) (a:(decide R.Nodup && enabled ops R i && waits ops R S i && jn ops S R i && S.contains i,R.erase i,ops[i]?)=(true,R',some ⟨some d,op,ty,pos,after,none⟩)) [Pa:Si P op fr v] [b:Qf fr d v Aa] (h:Zd P ops Q Wa R' Aa ds w) (c:ml Q d:=by first | exact λ_ _ _ _ _ h=>h | exact Ek λ_ _ _ h=>h.2 | exact Ek λ_ _ _ h=>h.2.2):Zd P ops Q Wa R fr ds w :=
 cl i S a (Pa.out _ _ _ _ _) b.out h c
end
section
variable {rs rs':List Ha}{oa a2 a3 a4 a5 zb Cb lb a9 ld mc a12 r:Ha}
theorem vb:Hc (oa::r::rs) 1 (r::oa::rs):=.s (Hc.z)
theorem Xb:Hc (oa::a2::r::rs) 2 (r::oa::a2::rs):=.s (.s (Hc.z))
theorem Ab:Hc (oa::a2::a3::r::rs) 3 (r::oa::a2::a3::rs):=.s (.s (.s (Hc.z)))
theorem kc:Hc (oa::a2::a3::a4::r::rs) 4 (r::oa::a2::a3::a4::rs):=.s (.s (.s (.s (Hc.z))))
theorem jh:Hc (oa::a2::a3::a4::a5::r::rs) 5 (r::oa::a2::a3::a4::a5::rs):=.s (.s (.s (.s (.s (Hc.z)))))
theorem Xf:Hc (oa::a2::a3::a4::a5::zb::r::rs) 6 (r::oa::a2::a3::a4::a5::zb::rs):=.s (.s (.s (.s (.s (.s (Hc.z))))))
theorem nk:Hc (oa::a2::a3::a4::a5::zb::Cb::r::rs) 7 (r::oa::a2::a3::a4::a5::zb::Cb::rs):=.s (.s (.s (.s (.s (.s (.s (Hc.z)))))))
end
section
variable {P:Program}{Q:Exit->Act->World->Prop}{fr Fi Gi:List Value}{ds:List Deferred}{w:World}{ops:Array Oper}{l:List Oper}{R:List Nat}{Wa:List Mon}{c:Operand}{x y:Code}{p:Prop}[Decidable p]{b:Bool}{d:Nat}{α:Type}{A B:Option α}{r:α}
theorem Hb (h:(if p then A else B)=some r) [a:tc fr c (.bool (decide p))] (b:p->A=some r->xd P x Q fr ds w) (d:¬ p->B=some r->xd P y Q fr ds w):xd P (.cond c x y) Q fr ds w:=Rb a.out (λq=>b q (Uf q h)) (λq=>d q (Fb q h))
theorem Hf (h:(if b=true then A else B)=some r) [a:tc fr c (.bool b)] (d:b=true->A=some r->xd P x Q fr ds w) (e:¬ b=true->B=some r->xd P y Q fr ds w):xd P (.cond c x y) Q fr ds w:=qj a.out (λq=>d q (Uf q h)) (λq=>e q (Fb q h))
theorem sn (h:(if b=true then A else B)=some r) [a:tc fr c (.bool (!b))] (d:¬ b=true->B=some r->xd P x Q fr ds w) (e:b=true->A=some r->xd P y Q fr ds w):xd P (.cond c x y) Q fr ds w:=Xu a.out (λq=>d q (Fb q h)) (λq=>e q (Uf q h))
theorem og (d:Nat) (h:(if p then A else B)=some r) [ma:Dh fr d (.bool (decide p))] [a:Qf fr d (.bool true) Fi] [b:Qf fr d (.bool false) Gi] (c:p->A=some r->He P ops Q l Fi ds w) (e:¬ p->B=some r->He P ops Q l Gi ds w):He P ops Q l fr ds w:=gf ma.out a.out b.out (λq=>c q (Uf q h)) (λq=>e q (Fb q h))
theorem RL (d:Nat) (h:(if b=true then A else B)=some r) [ma:Dh fr d (.bool b)] [a:Qf fr d (.bool true) Fi] [c:Qf fr d (.bool false) Gi] (e:b=true->A=some r->He P ops Q l Fi ds w) (f:¬ b=true->B=some r->He P ops Q l Gi ds w):He P ops Q l fr ds w:=pL ma.out a.out c.out (λq=>e q (Uf q h)) (λq=>f q (Fb q h))
theorem XG (d:Nat) (h:(if b=true then A else B)=some r) [ma:Dh fr d (.bool (!b))] [a:Qf fr d (.bool true) Fi] [c:Qf fr d (.bool false) Gi] (e:¬ b=true->B=some r->He P ops Q l Fi ds w) (f:b=true->A=some r->He P ops Q l Gi ds w):He P ops Q l fr ds w:=PK ma.out a.out c.out (λq=>e q (Fb q h)) (λq=>f q (Uf q h))
theorem Uw (d:Nat) (h:(if p then A else B)=some r) [ma:Dh fr d (.bool (decide p))] [a:Qf fr d (.bool true) Fi] [b:Qf fr d (.bool false) Gi] (c:p->A=some r->Zd P ops Q Wa R Fi ds w) (e:¬ p->B=some r->Zd P ops Q Wa R Gi ds w):Zd P ops Q Wa R fr ds w:=Gr ma.out a.out b.out (λq=>c q (Uf q h)) (λq=>e q (Fb q h))
theorem YG (d:Nat) (h:(if b=true then A else B)=some r) [ma:Dh fr d (.bool b)] [a:Qf fr d (.bool true) Fi] [c:Qf fr d (.bool false) Gi] (e:b=true->A=some r->Zd P ops Q Wa R Fi ds w) (f:¬ b=true->B=some r->Zd P ops Q Wa R Gi ds w):Zd P ops Q Wa R fr ds w:=PL ma.out a.out c.out (λq=>e q (Uf q h)) (λq=>f q (Fb q h))
end
abbrev Kd (l:List Value):List Value:=undef::l
abbrev ib (l:List Value):List Value:=undef::undef::l
abbrev Jc (l:List Value):List Value:=undef::undef::undef::undef::undef::l
abbrev pd (l:List Value):List Value:=undef::undef::undef::undef::undef::undef::undef::undef::undef::undef::l
abbrev Sb (l:List Value):List Value:=undef::undef::undef::undef::undef::undef::undef::undef::undef::undef::undef::undef::undef::undef::undef::undef::undef::undef::undef::undef::l
abbrev Mb (l:List Value):List Value:=undef::undef::undef::undef::undef::undef::undef::undef::undef::undef::undef::undef::undef::undef::undef::undef::undef::undef::undef::undef::undef::undef::undef::undef::undef::undef::undef::undef::undef::undef::undef::undef::undef::undef::undef::undef::undef::undef::undef::undef::undef::undef::undef::undef::undef::undef::undef::undef::undef::undef::l
end
section
open Go.Mc
abbrev ga (b o:Nat):Value:=.pointer (some ⟨b,o,none⟩)
section
variable {P:Program}{Q Q':Exit->Act->World->Prop}{fr Aa:List Value}{ds:List Deferred}{w:World}{ops:Array Oper}{x y z:Code}{id:Nat}{l:List Oper}{c:Operand}{p:Prop}[Decidable p]
end
section
variable {P:Program}{ops:Array Oper}{Q:Exit->Act->World->Prop}{fr Aa:List Value}{ds:List Deferred}{w:World}
variable {Wa:List Mon}{R R':List Nat}{dst d:Tmp}{op:Op}{ty:TypeId}{pos:String}{after:Array Edge}{v:Value}{T:TypeId}{Dc cs:List Value}{n m o q:Nat}{x:Operand}{rest:List Oper}
theorem iu (i:Nat) (S:List Nat) (a:(decide R.Nodup && enabled ops R i && waits ops R S i && jn ops S R i && S.contains i,R.erase i,ops[i]?)=(true,R',some ⟨some dst,.load T x,ty,pos,after,none⟩)) (b:w.cell? ⟨q,o,none⟩=some v) [c:wb P T false Dc n m] [d:tc fr x (.pointer (some ⟨q,o,none⟩))] [e:Qf fr dst v Aa] (h:Zd P ops Q ((S,λw'=>lk P ⟨some dst,.load T x,ty,pos,after,none⟩ fr w' v)::Wa) R' Aa ds w) (f:ml Q dst:=by first | exact λ_ _ _ _ _ h=>h | exact Ek λ_ _ _ h=>h.2 | exact Ek λ_ _ _ h=>h.2.2):Zd P ops Q Wa R fr ds w:=Oc i S a (Md c d.out b) e.out h f
theorem xc {μ:M}{da:World}{rs:List Ha}(a:fa μ da w rs) [c:tc fr x v] (h:∀ b w',w.heap.size<=b->fa μ da w' (.ea b T cs::rs)->Rg fr dst (ga b 0) λAa=>He P ops Q rest Aa ds w') (d:v.cells=⟨cs⟩:=by rfl):He P ops Q (⟨some dst,.box T x,ty,pos,after,none⟩::rest) fr ds w:=wl (On c.out d a h)
end
theorem GW {Jg α:Type}{V:Jg->Value}{r:Except Jg α}{R:α->Value->World->Prop}{E:World->Prop}{w:World}{e:Jg}(a:r=.error e) (h:E w):([]:List Deferred)=[]/\FG V r R E (.panicked [{ v:=V e,recovered:=false }]) w:=⟨rfl,e,a,rfl,h⟩
section
variable {Jg α:Type}{P:Program}{V:Jg->Value}{r:Except Jg α}{R:α->Value->World->Prop}{E:World->Prop}{fr:List Value}{ds:List Deferred}{w:World}{dst:Option Tmp}{ty:TypeId}{pos:String}{after:Array Edge}{g:Option (Nat×Bool)}{K:List Value->List Deferred->World->Prop}{Q:Exit->Act->World->Prop}
instance {f:Nat}:tc fr (.func f) (.func (.func f) #[] #[]):=⟨yc⟩
theorem yg {f:Operand}{xs:List Operand}{tys:Array TypeId}{k:FuncId}{cap vs:List Value}[c:fb P k] [d:tc fr f (.func (.func k) #[] ⟨cap⟩)] [i:Ir fr xs vs]
  (j:qc P k (vs++cap) w V r R E) (h:∀ x v w',r=.ok x->R x v w'->Rg fr dst v λAa=>K Aa ds w') (l:∀ e w',r=.error e->E w'->Q (.panic [{ v:=V e,recovered:=false }]) (F fr ds) w':=by exact λ_ _ a b=>GW a b):yd P (Oper.mk dst (.call { callee:=.value f,args:=⟨xs⟩,argTypes:=tys }) ty pos after g) fr ds w K Q:=Mu c d.out i.out j h l
end
section
variable {P:Program}{ops:Array Oper}{Q:Exit->Act->World->Prop}{fr:List Value}{ds:List Deferred}{w:World}
theorem Za {Wa Ns':List Mon}{R:List Nat}{i:Nat}{R':List Nat}{o:Oper}(a:(pB ops R,R.erase i,Hi i Wa,ops[i]?,o.guard)=([i],R',Ns',some o,none)) (h:yd P o fr ds w (uu P ops Q Ns' R') Q):Zd P ops Q Wa R fr ds w :=
 vi (congrArg (·.1) a) (congrArg (·.2.1) a) (congrArg (·.2.2.1) a) (congrArg (·.2.2.2.1) a) (ij (congrArg (·.2.2.2.2) a)) h
end
end
section
open Go.Mc Go.RowKit
abbrev ca (n:Int):Value:=.int .i64 n
class Eh (P:Program) (t:TypeId) (u:outParam TypeDesc):Prop where out:P.underlying t=some u
instance {fr:List Value}{l:List UInt8}:tc fr (.const (.string ⟨⟨l⟩⟩)) (S l):=⟨db⟩
section
variable {P:Program}{fr:List Value}{x y z:Operand}{v:Value}{t hb e T vf:TypeId}{k k':IntKind}{a b:Int}{s Bb:List UInt8}{n m c:Nat}{xC:Option Addr}{p q:Bool}{u:TypeDesc}{Dc:List Value}{pc:Bool}
instance [hu:Eh P t .string] [h:tc fr x (S s)]:Si P (.call { callee:=.builtin .len,args:=#[x],argTypes:=#[t] }) fr (.int .i64 s.length):=⟨λ_ _ _ _ _=>AS hu.out h.out⟩
instance [hu:Eh P t (.slice e)] [h:tc fr x (.slice xC n c)]:Si P (.call { callee:=.builtin .len,args:=#[x],argTypes:=#[t] }) fr (.int .i64 n):=⟨λ_ _ _ _ _=>ew hu.out h.out⟩
instance [a:tc fr x (S s)] [b:tc fr y (S Bb)]:Si P (.binOp .eql t x y hb) fr (.bool (decide (s=Bb))):=⟨λ_ _ _ _ _=>yU a.out b.out⟩
instance [a:tc fr x (S s)] [b:tc fr y (S Bb)]:Si P (.binOp .neq t x y hb) fr (.bool (decide (s≠Bb))):=⟨λ_ _ _ _ _=>zU a.out b.out⟩
instance {f:Nat}{xs ys:List Operand}{vs us:List Value}[a:Ir fr xs vs] [hu:Ir fr ys us]:Si P (.makeFunc (.func f) ⟨xs⟩ ⟨ys⟩) fr (.func (.func f) ⟨vs⟩ ⟨us⟩):=⟨λ_ _ _ _ _=>cK a.out hu.out⟩
instance (priority:=2000){b off i:Nat}[a:Wb P T i off] [h:tc fr x (.pointer (some ⟨b,0,none⟩))]:Si P (.fieldAddr T x i) fr (.pointer (some ⟨b,off,none⟩)):=⟨λ_ _ _ _ _=>bm a h.out (Nat.zero_add _)⟩
instance {d:TypeDesc}[hu:Eh P t d] [c:tc fr x (.int .i64 a)] [e:tc fr y (.int .i64 b)]:Si P (.call { callee:=.builtin .min,args:=#[x,y],argTypes:=#[t,hb] }) fr (.int .i64 (min a b)):=⟨λ_ _ _ _ _=>LS hu.out c.out e.out⟩
instance {d:TypeDesc}[hu:Eh P t d] [c:tc fr x (.int .i64 a)] [e:tc fr y (.int .i64 b)]:Si P (.call { callee:=.builtin .max,args:=#[x,y],argTypes:=#[t,hb] }) fr (.int .i64 (max a b)):=⟨λ_ _ _ _ _=>MS hu.out c.out e.out⟩
end
class ju {β:Type}(P:Program) (op:Op) (fr:List Value) (o:outParam (Option β)) (v:outParam (β->Value)):Prop where out:∀ x,o=some x->∀ dst ty pos after g,Cf P (Oper.mk dst op ty pos after g) fr (v x)
section
variable {P:Program}{fr:List Value}{x y jk up:Operand}{t hb:TypeId}{k:IntKind}{a b:Int}{s Bb:List UInt8}
instance [d:tc fr x (.int .i64 a)] [e:tc fr y (.int .i64 b)]:ju P (.binOp .add t x y hb) fr (i64 (a+b)) (λc=>.int .i64 c):=⟨λ_ h _ _ _ _ _=>xt d.out e.out h⟩
instance [d:tc fr x (.int .i64 a)] [e:tc fr y (.int .i64 b)]:ju P (.binOp .sub t x y hb) fr (i64 (a - b)) (λc=>.int .i64 c):=⟨λ_ h _ _ _ _ _=>pw d.out e.out h⟩
instance [hu:Eh P t .string] [b:tc fr x (S s)] [d:tc fr y (.int k a)]:ju P (.index t x y) fr (at_ s a) (λc=>.int .u8 c.toNat):=⟨λ_ h _ _ _ _ _=>GS hu.out b.out d.out h⟩
instance [a:tc fr x (S s)] [b:tc fr y (S Bb)]:ju P (.binOp .add t x y hb) fr (cat s Bb) (λc=>S c):=⟨λ_ h _ _ _ _ _=>HS a.out b.out h⟩
instance [hu:Eh P t .string] [b:tc fr x (S s)] [d:tc fr jk (.int .i64 a)]:ju P (.slice t x (some jk) none none) fr (cut s a s.length) (λc=>S c):=⟨λ_ h _ _ _ _ _=>wP hu.out b.out d.out h⟩
instance [hu:Eh P t .string] [a:tc fr x (S s)] [d:tc fr up (.int .i64 b)]:ju P (.slice t x none (some up) none) fr (cut s 0 b) (λc=>S c):=⟨λ_ h _ _ _ _ _=>xP hu.out a.out d.out h⟩
end
class Al (rs:List Ha) (b:Nat) (T:outParam TypeId) (cs:outParam (List Value)):Prop where out:∃ n,fc rs n (.ea b T cs)
instance {b:Nat}{T:TypeId}{cs:List Value}{rs:List Ha}:Al (.ea b T cs::rs) b T cs:=⟨0,rfl⟩
instance (priority:=low){b:Nat}{T:TypeId}{cs:List Value}{r:Ha}{rs:List Ha}[h:Al rs b T cs]:Al (r::rs) b T cs:=⟨h.out.elim λn k=>⟨n+1,k⟩⟩
instance {b:Nat}{T:TypeId}{cs:List Value}{r:Ha}{l rs:List Ha}[h:Al (r::(l++rs)) b T cs]:Al ((r::l)++rs) b T cs:=h
instance {b:Nat}{T:TypeId}{cs:List Value}{rs:List Ha}[h:Al rs b T cs]:Al ([]++rs) b T cs:=h
theorem Al.cell {μ:M}{da w:World}{rs:List Ha}{b i:Nat}{T:TypeId}{cs:List Value}{v:Value}(a:fa μ da w rs) [h:Al rs b T cs] [k:Dh cs i v]:w.cell? ⟨b,i,none⟩=some v:=h.out.elim λ_ q=>(a.ea q).cell k.out
theorem xa.cell {μ J:M}{da w:World}{rs:List Ha}{b o i:Nat}{cs:List Value}{v:Value}(c:xa μ b o cs) (le:ha μ J) (d:fa J da w rs) [k:Dh cs i v]:w.cell? ⟨b,o+i,none⟩=some v:=(c _ (le _ d.a)).one k.out
class dv (rs:List Ha) (v:Value) (n:outParam Nat):Prop where out:∀ {μ:M}{da w:World},fa μ da w rs->EB v n
instance {v:Value}{T:TypeId}{sz n:Nat}{xs:List Value}{rs:List Ha}:dv (.row v T sz n xs::rs) v n:=⟨λa=>(a.get (n:=0) rfl:Row _ _ _ _ _ _).vp⟩
instance (priority:=low){v:Value}{n:Nat}{r:Ha}{rs:List Ha}[h:dv rs v n]:dv (r::rs) v n:=⟨λa=>h.out (a.drop ja.z)⟩
instance {v:Value}{n:Nat}{r:Ha}{l rs:List Ha}[h:dv (r::(l++rs)) v n]:dv ((r::l)++rs) v n:=h
def fwd (ops:Array Oper) (R:List Nat) (i:Nat):List Nat:=R.foldl (λS j=>if j == i || (pj ops j).any S.contains then S++[j] else S) []
section
variable {ops:Array Oper}{i:Nat}
def mn (ops:Array Oper) (i:Nat) (S:List Nat) (j:Nat):List Nat:=if j == i || (pj ops j).any S.contains then S++[j] else S
theorem ZI {S:List Nat}{j k:Nat}(h:k ∈ S):k ∈ mn ops i S j:=by unfold mn;split<;>simp [h]
theorem AJ {R S:List Nat}{k:Nat}(h:k ∈ S):k ∈ R.foldl (mn ops i) S:=by
 induction R generalizing S with
 | nil=>exact h
 | cons a R b=>exact b (ZI h)
theorem WE {R0:List Nat}:∀ (R S:List Nat),(∀ j ∈ R,j ∈ R0)->(∀ j ∈ S,j ∈ R0/\(j=i\/∃ k ∈ S,k ∈ pj ops j))->∀ j ∈ R.foldl (mn ops i) S,j ∈ R0/\(j=i\/∃ k ∈ R.foldl (mn ops i) S,k ∈ pj ops j)
 | [],S,_,h=>h
 | a::R,S,e,h=>WE R _ (λj b=>e j (.tail _ b)) λj b=>by
  unfold mn at b ⊢;split at b
  ·rename_i c;rw [if_pos c];rcases List.mem_append.1 b with b | b
   ·obtain ⟨f,g⟩:=h j b;exact ⟨f,g.imp_right λ⟨k,d,q⟩=>⟨k,List.mem_append_left _ d,q⟩⟩
   ·obtain rfl:=List.mem_singleton.1 b;refine ⟨e j<|.head _,?_⟩;simp only [Bool.or_eq_true,beq_iff_eq,List.any_eq_true,List.contains_iff_mem] at c;exact c.imp_right λ⟨k,q,d⟩=>⟨k,List.mem_append_left _ d,q⟩
  ·rename_i c;rw [if_neg c];exact h j b
theorem BJ {j:Nat}:∀ (R S:List Nat),i ∈ S->j ∈ R->i ∈ pj ops j->j ∈ R.foldl (mn ops i) S
 | a::R,S,c,b,Ea=>by
  rcases List.mem_cons.1 b with rfl | b
  ·refine AJ (S:=mn ops i S j) ?_;unfold mn;rw [if_pos (by simp only [Bool.or_eq_true,beq_iff_eq,List.any_eq_true,List.contains_iff_mem];exact .inr ⟨i,Ea,c⟩)];simp
  ·exact BJ R _ (ZI c) b Ea
theorem nK {R:List Nat}:fwd ops R i=R.foldl (mn ops i) []:=rfl
theorem aJ {R:List Nat}:i ∈ fwd ops (i::R) i:=by
 rw [nK];refine AJ (R:=R) (S:=mn ops i [] i) ?_;unfold mn;simp
theorem vO {R:List Nat}:waits ops R (fwd ops R i) i=true:=by
 unfold waits;rw [List.all_eq_true];intro j b;have:=WE (ops:=ops) (i:=i) (R0:=R) R [] (λ_ h=>h) (by simp) j b;simp only [Bool.or_eq_true,beq_iff_eq,List.any_eq_true,Bool.and_eq_true,List.contains_iff_mem];refine this.2.imp_right λ⟨k,a,q⟩=>⟨k,a,q,?_⟩;exact (WE (ops:=ops) (i:=i) (R0:=R) R [] (λ_ h=>h) (by simp) k a).1
def dz (ops:Array Oper) (R:List Nat) (i:Nat):Bool :=
 match ops[i]? with
 | some o=>match o.dst with
  | some d=>zr o.op && R.all λj=>(match ops[j]? with
    | some p=>zr p.op && !(reads ops p).contains d && p.dst != some d && (match p.dst with | some e=>!(reads ops o).contains e | none=>true)
    | none=>true) || (pj ops j).contains i
  | _=>false
 | none=>false
theorem IU {R:List Nat}(h:dz ops R i=true):jn ops (fwd ops (i::R) i) (i::R) i=true:=by
 unfold dz at h;unfold jn;cases b:ops[i]? with
 | none=>rw [b] at h; cases h
 | some o =>
  rw [b] at h;simp only at h ⊢;cases Ea:o.dst with
  | none=>rw [Ea] at h; cases h
  | some d =>
   rw [Ea] at h;simp only [Bool.and_eq_true,List.all_eq_true] at h ⊢;refine ⟨h.1,λj a=>?_⟩;rcases List.mem_cons.1 a with rfl | a
   ·rw [Bool.or_eq_true];exact .inl<|List.contains_iff_mem.2 aJ
   ·rw [Bool.or_eq_true];rcases (Bool.or_eq_true _ _).mp (h.2 j a) with k | k
    ·exact .inr k
    ·refine .inl<|List.contains_iff_mem.2 ?_;rw [nK];exact BJ R (mn ops i [] i) (by unfold mn;simp) a<|List.contains_iff_mem.1 k
def Gw:List Nat->Bool
 | a::l=>!l.contains a && Gw l
 | []=>true
theorem CJ:∀ {l:List Nat},Gw l=true->l.Nodup
 | [],_=>List.nodup_nil
 | a::l,h=>by
  simp only [Gw,Bool.and_eq_true,Bool.not_eq_true',List.contains_eq_mem,decide_eq_false_iff_not] at h;exact List.nodup_cons.2 ⟨h.1,CJ h.2⟩
theorem eR {R R':List Nat}(p:R.Perm R'):enabled ops R i=enabled ops R' i:=by
 have:∀ x,R.contains x=R'.contains x:=λx=>by rw [Bool.eq_iff_iff,List.contains_iff_mem,List.contains_iff_mem];exact p.mem_iff
 simp only [enabled,this]
theorem _root_.Go.Mc.Wl.perm {R a:List Nat}(h:Wl ops R a):∀ {R':List Nat},R.Perm R'->Wl ops R' a:=by
 induction h with
 | z=>intro R' p; rw [List.nil_perm.1 p]; exact .z
 | s h t b=>intro R' p; exact .s ((eR p).symm.trans h)<|b<|p.erase _
theorem Qn {R:List Nat}(h:(Gw (i::R) && ((pj ops i).all λj=>!(i::R).contains j) && dz ops R i)=true):(decide (i::R).Nodup && enabled ops (i::R) i && waits ops (i::R) (fwd ops (i::R) i) i && jn ops (fwd ops (i::R) i) (i::R) i && (fwd ops (i::R) i).contains i)=true:=by
 simp only [Bool.and_eq_true] at h;simp only [Bool.and_eq_true,decide_eq_true_eq];exact ⟨⟨⟨⟨CJ h.1.1,by unfold enabled;simp only [Bool.and_eq_true];exact ⟨by simp,h.1.2⟩⟩,vO⟩,IU h.2⟩,List.contains_iff_mem.2 aJ⟩
end
section
variable {P:Program}{Q:Exit->Act->World->Prop}{fr Aa:List Value}{ds:List Deferred}{w:World}{ops:Array Oper}{rest:List Oper}{d:Tmp}{op:Op}{ty:TypeId}{pos:String}{after:Array Edge}{v:Value}{β XL:Type}{o:Option β}{f:β->Option XL}{r:XL}{Fj:β->Value}{zC:β->List Value}{T:TypeId}{Dc:List Value}{n m i:Nat}{a:Addr}{x:Operand}{R R':List Nat}{Wa:List Mon}
theorem qg (h:Option.bind o f=some r) [b:ju P op fr o Fj] [c:∀ x,Qf fr d (Fj x) (zC x)] (k:∀ x,o=some x->f x=some r->He P ops Q rest (zC x) ds w):He P ops Q (⟨some d,op,ty,pos,after,none⟩::rest) fr ds w :=
 Exists.elim (td h) λx a=>wl (Pb (b.out x a.1 _ _ _ _ _) (wa (c x).out) (k x a.1 a.2))
variable {b j e:Nat}{q pk:Bool}{μ Ta:M}{da:World}{rs:List Ha}{cs:List Value}{vf:TypeId}{p:Nat}
theorem lC (a:fa μ da w rs) [c:wb P T false Dc n m] [e:tc fr x (.pointer (some ⟨b,p,none⟩))] [f:Al rs b vf cs] [ma:Dh cs p v] [g:Qf fr d v Aa] (h:He P ops Q rest Aa ds w):He P ops Q (⟨some d,.load T x,ty,pos,after,none⟩::rest) fr ds w:=Hh (Al.cell a) h
theorem mC (a:fa μ da w rs) (c:xa Ta b p cs) (le:ha Ta μ) [e:wb P T false Dc n m] [f:tc fr x (.pointer (some ⟨b,p+i,none⟩))] [ma:Dh cs i v] [g:Qf fr d v Aa] (h:He P ops Q rest Aa ds w):He P ops Q (⟨some d,.load T x,ty,pos,after,none⟩::rest) fr ds w:=Hh (xa.cell c le a) h
theorem nC (a:fa μ da w rs) (c:xa Ta b p cs) (le:ha Ta μ) [e:wb P T false Dc n m] [f:tc fr x (.pointer (some ⟨b,p,none⟩))] [ma:Dh cs 0 v] [g:Qf fr d v Aa] (h:He P ops Q rest Aa ds w):He P ops Q (⟨some d,.load T x,ty,pos,after,none⟩::rest) fr ds w:=Hh (xa.cell (i:=0) c le a) h
theorem Nh {t:TypeId}{y:Operand}(a:fa μ da w rs) [b:Eh P t (.slice T)] [c:tc fr y v] [e:dv rs v n] [f:Qf fr d (.int .i64 n) Aa] (h:He P ops Q rest Aa ds w):He P ops Q (⟨some d,.call { callee:=.builtin .len,args:=#[y],argTypes:=#[t] },ty,pos,after,none⟩::rest) fr ds w:=wl (Pb (fq b.out c.out (e.out a)) (wa f.out) h)
theorem hH {dst:Option Tmp}(a:(ops[j]?).bind (·.dst)=some e) [ma:Dh fr e (.bool q)] (h:He P ops Q (⟨dst,op,ty,pos,after,none⟩::rest) fr ds w):He P ops Q (⟨dst,op,ty,pos,after,some (j,q)⟩::rest) fr ds w:=by
 have k:=h.out;have ma:=ma.out;constructor;unfold wpList at k ⊢;rw [if_pos (by simp [Region.wanted])] at k;rw [if_pos (by
  unfold fc at ma;simp only [Region.wanted,yielded,a,F];simp [ma])]
 exact k
def An (ops:Array Oper) (R:List Nat) (i:Nat) (Q:Exit->Act->World->Prop) (d:Nat):Prop:=(Gw (i::R) && ((pj ops i).all λj=>!(i::R).contains j) && dz ops R i)=true/\ml Q d
theorem Xn (h:(Gw (i::R) && ((pj ops i).all λj=>!(i::R).contains j) && dz ops R i)=true:=by decide +kernel) (a:ml Q d:=by first | exact λ_ _ _ _ _ h=>h | exact Ek λ_ _ _ h=>h.2 | exact Ek λ_ _ _ h=>h.2.2):An ops R i Q d:=⟨h,a⟩
structure Vj (P:Program) (ops:Array Oper) (Q:Exit->Act->World->Prop) (Wa:List Mon) (i:Nat) (R:List Nat) (o:Oper) (fr:List Value) (ds:List Deferred) (w:World):Prop where
 out:ops[i]?=some o->Zd P ops Q Wa (i::R) fr ds w
theorem SL {dst:Option Tmp}{g:Option (Nat×Bool)}(a:ops[i]?=some ⟨dst,op,ty,pos,after,g⟩) (h:Vj P ops Q Wa i R ⟨dst,op,ty,pos,after,g⟩ fr ds w):Zd P ops Q Wa (i::R) fr ds w:=h.out a
theorem tL {j:Nat}{dst:Option Tmp}{g:Option (Nat×Bool)}(a:ops[i]?=some ⟨dst,op,ty,pos,after,g⟩) (h:Vj P ops Q Wa i (j::R) ⟨dst,op,ty,pos,after,g⟩ fr ds w):Zd P ops Q Wa (j::i::R) fr ds w:=⟨λb c d=>(h.out a).out b c (d.perm (List.Perm.swap ..))⟩
theorem uL {j k:Nat}{dst:Option Tmp}{g:Option (Nat×Bool)}(a:ops[i]?=some ⟨dst,op,ty,pos,after,g⟩) (h:Vj P ops Q Wa i (j::k::R) ⟨dst,op,ty,pos,after,g⟩ fr ds w):Zd P ops Q Wa (j::k::i::R) fr ds w:=⟨λb c d=>(h.out a).out b c (d.perm (List.perm_append_comm (l₁:=[j,k]) (l₂:=[i]) |>.append_right R))⟩
theorem lx (h:Vj P ops Q Wa i R ⟨some d,op,ty,pos,after,none⟩ fr ds w):Vj P ops Q Wa i R ⟨some d,op,ty,pos,after,none⟩ fr ds w:=h
theorem mx (h:Vj P ops Q Wa i R ⟨some d,.load T x,ty,pos,after,none⟩ fr ds w):Vj P ops Q Wa i R ⟨some d,.load T x,ty,pos,after,none⟩ fr ds w:=h
theorem nx {t:TypeId}{y:Operand}(h:Vj P ops Q Wa i R ⟨some d,.call { callee:=.builtin .len,args:=#[y],argTypes:=#[t] },ty,pos,after,none⟩ fr ds w):Vj P ops Q Wa i R ⟨some d,.call { callee:=.builtin .len,args:=#[y],argTypes:=#[t] },ty,pos,after,none⟩ fr ds w:=h
theorem ox {j:Nat}{q:Bool}(h:Vj P ops Q Wa i R ⟨some d,op,ty,pos,after,some (j,q)⟩ fr ds w):Vj P ops Q Wa i R ⟨some d,op,ty,pos,after,some (j,q)⟩ fr ds w:=h
theorem px {j:Nat}{q:Bool}(h:Vj P ops Q Wa i R ⟨some d,.load T x,ty,pos,after,some (j,q)⟩ fr ds w):Vj P ops Q Wa i R ⟨some d,.load T x,ty,pos,after,some (j,q)⟩ fr ds w:=h
theorem Ko [Pa:Si P op fr v] [b:Qf fr d v Aa] (h:Zd P ops Q Wa R Aa ds w) (a:An ops R i Q d:=by exact Xn):Vj P ops Q Wa i R ⟨some d,op,ty,pos,after,none⟩ fr ds w:=.mk λc =>
 mg _ a.2 (Qn a.1) (List.erase_cons_head ..) c (Pa.out _ _ _ _ _) b.out h
theorem Vw {j e:Nat}{q:Bool}(b:(ops[j]?).bind (·.dst)=some e) [ma:Dh fr e (.bool q)] [Pa:Si P op fr v] [c:Qf fr d v Aa] (h:Zd P ops Q Wa R Aa ds w) (a:An ops R i Q d:=by exact Xn):Vj P ops Q Wa i R ⟨some d,op,ty,pos,after,some (j,q)⟩ fr ds w:=.mk λf =>
 hK _ a.2 (Qn a.1) (List.erase_cons_head ..) f b ma.out (Pa.out _ _ _ _ _) c.out h
theorem Lo {j e:Nat}{q pk:Bool}(b:(ops[j]?).bind (·.dst)=some e) [ma:Dh fr e (.bool pk)] (c:(pk == q)=false) [f:Qf fr d undef Aa] (h:Zd P ops Q Wa R Aa ds w) (a:An ops R i Q d:=by exact Xn):Vj P ops Q Wa i R ⟨some d,op,ty,pos,after,some (j,q)⟩ fr ds w:=.mk λg =>
 IS _ a.2 (Qn a.1) (List.erase_cons_head ..) g b ma.out c f.out h
theorem HW (h:Option.bind o f=some r) [c:ju P op fr o Fj] [e:∀ x,Qf fr d (Fj x) (zC x)] (k:∀ x,o=some x->f x=some r->Zd P ops Q Wa R (zC x) ds w) (b:An ops R i Q d:=by exact Xn):Vj P ops Q Wa i R ⟨some d,op,ty,pos,after,none⟩ fr ds w:=.mk λg =>
 Exists.elim (td h) λx a=>mg _ b.2 (Qn b.1) (List.erase_cons_head ..) g (c.out x a.1 _ _ _ _ _) (e x).out (k x a.1 a.2)
theorem Ww {t:TypeId}{y:Operand}(b:fa μ da w rs) [c:Eh P t (.slice T)] [e:tc fr y v] [f:dv rs v n] [g:Qf fr d (.int .i64 n) Aa] (h:Zd P ops Q Wa R Aa ds w) (a:An ops R i Q d:=by exact Xn):Vj P ops Q Wa i R ⟨some d,.call { callee:=.builtin .len,args:=#[y],argTypes:=#[t] },ty,pos,after,none⟩ fr ds w:=.mk λj =>
 mg _ a.2 (Qn a.1) (List.erase_cons_head ..) j (fq c.out e.out (f.out b)) g.out h
theorem Hw (c:fa μ da w rs) [e:wb P T false Dc n m] [f:tc fr x (.pointer (some ⟨b,p,none⟩))] [k:Al rs b vf cs] [ma:Dh cs p v] [g:Qf fr d v Aa] (h:Zd P ops Q ((fwd ops (i::R) i,λw'=>lk P ⟨some d,.load T x,ty,pos,after,none⟩ fr w' v)::Wa) R Aa ds w) (a:An ops R i Q d:=by exact Xn):Vj P ops Q Wa i R ⟨some d,.load T x,ty,pos,after,none⟩ fr ds w:=.mk λj =>
 ck _ a.2 (Qn a.1) (List.erase_cons_head ..) j (Md e f.out (Al.cell c)) g.out h
theorem Iw {k:Nat}(c:fa μ da w rs) (e:xa Ta b p cs) (le:ha Ta μ) [f:wb P T false Dc n m] [g:tc fr x (.pointer (some ⟨b,p+k,none⟩))] [ma:Dh cs k v] [j:Qf fr d v Aa] (h:Zd P ops Q ((fwd ops (i::R) i,λw'=>lk P ⟨some d,.load T x,ty,pos,after,none⟩ fr w' v)::Wa) R Aa ds w) (a:An ops R i Q d:=by exact Xn):Vj P ops Q Wa i R ⟨some d,.load T x,ty,pos,after,none⟩ fr ds w:=.mk λl =>
 ck _ a.2 (Qn a.1) (List.erase_cons_head ..) l (Md f g.out (xa.cell e le c)) j.out h
theorem Jw {j e:Nat}{q:Bool}(c:fa μ da w rs) (f:(ops[j]?).bind (·.dst)=some e) [ma:Dh fr e (.bool q)] [g:wb P T false Dc n m] [k:tc fr x (.pointer (some ⟨b,p,none⟩))] [r:Al rs b vf cs] [s:Dh cs p v] [l:Qf fr d v Aa] (h:Zd P ops Q ((fwd ops (i::R) i,λw'=>lk P ⟨some d,.load T x,ty,pos,after,some (j,q)⟩ fr w' v)::Wa) R Aa ds w) (a:An ops R i Q d:=by exact Xn):Vj P ops Q Wa i R ⟨some d,.load T x,ty,pos,after,some (j,q)⟩ fr ds w:=.mk λo =>
 gK _ a.2 (Qn a.1) (List.erase_cons_head ..) o f ma.out (Md g k.out (Al.cell c)) l.out h
theorem ze (b:ops[i]?=some ⟨some d,op,ty,pos,after,none⟩) (Pa:Cf P ⟨some d,op,ty,pos,after,none⟩ fr v) (c:Zb fr d v Aa) (h:Zd P ops Q Wa R Aa ds w) (a:An ops R i Q d:=by exact Xn):Zd P ops Q Wa (i::R) fr ds w :=
 mg _ a.2 (Qn a.1) (List.erase_cons_head ..) b Pa c h
theorem Sr {j e:Nat}{q:Bool}(b:ops[i]?=some ⟨some d,op,ty,pos,after,some (j,q)⟩) (c:(ops[j]?).bind (·.dst)=some e) [ma:Dh fr e (.bool q)] (Pa:Cf P ⟨some d,op,ty,pos,after,some (j,q)⟩ fr v) (f:Zb fr d v Aa) (h:Zd P ops Q Wa R Aa ds w) (a:An ops R i Q d:=by exact Xn):Zd P ops Q Wa (i::R) fr ds w :=
 hK _ a.2 (Qn a.1) (List.erase_cons_head ..) b c ma.out Pa f h
theorem Kh (b:ops[i]?=some ⟨some d,op,ty,pos,after,none⟩) (Pa:lk P ⟨some d,op,ty,pos,after,none⟩ fr w v) (c:Zb fr d v Aa) (h:Zd P ops Q ((fwd ops (i::R) i,λw'=>lk P ⟨some d,op,ty,pos,after,none⟩ fr w' v)::Wa) R Aa ds w) (a:An ops R i Q d:=by exact Xn):Zd P ops Q Wa (i::R) fr ds w :=
 ck _ a.2 (Qn a.1) (List.erase_cons_head ..) b Pa c h
theorem vl {j e:Nat}{q:Bool}(b:ops[i]?=some ⟨some d,op,ty,pos,after,some (j,q)⟩) (c:(ops[j]?).bind (·.dst)=some e) [ma:Dh fr e (.bool q)] (Pa:lk P ⟨some d,op,ty,pos,after,some (j,q)⟩ fr w v) (f:Zb fr d v Aa) (h:Zd P ops Q ((fwd ops (i::R) i,λw'=>lk P ⟨some d,op,ty,pos,after,some (j,q)⟩ fr w' v)::Wa) R Aa ds w) (a:An ops R i Q d:=by exact Xn):Zd P ops Q Wa (i::R) fr ds w :=
 gK _ a.2 (Qn a.1) (List.erase_cons_head ..) b c ma.out Pa f h
theorem Kw (c:fa μ da w rs) (e:xa Ta b p cs) (le:ha Ta μ) [f:wb P T false Dc n m] [g:tc fr x (.pointer (some ⟨b,p,none⟩))] [ma:Dh cs 0 v] [j:Qf fr d v Aa] (h:Zd P ops Q ((fwd ops (i::R) i,λw'=>lk P ⟨some d,.load T x,ty,pos,after,none⟩ fr w' v)::Wa) R Aa ds w) (a:An ops R i Q d:=by exact Xn):Vj P ops Q Wa i R ⟨some d,.load T x,ty,pos,after,none⟩ fr ds w:=.mk λk =>
 ck _ a.2 (Qn a.1) (List.erase_cons_head ..) k (Md f g.out (xa.cell (i:=0) e le c)) j.out h
theorem sz {y:Code}{Q':Exit->Act->World->Prop}(h:xd P y Q' fr ds w):Zd P ops (Exit.then (Mp P y Q') Q) Wa [] fr ds w:=qy (gg h)
theorem zf {id:Nat}{l:List Oper}(a:fa μ da w rs) (h:∀ w',fa μ da w' rs->Zd P l.toArray Q [] (List.range l.length) fr ds w') (b:P.follows .mixedOrders=true:=by kernel_rfl) (c:(List.range l.toArray.size).all (λi=>(pj l.toArray i).all λj=>decide (j<i))=true:=by decide +kernel):xd P (.region id l.toArray true) Q fr ds w :=
 kC a (λw' d=>BA (h w' d)) b c
theorem Sd {id:Nat}{l:List Oper}{y:Code}(a:fa μ da w rs) (h:∀ w',fa μ da w' rs->Zd P l.toArray (Exit.then (Mp P y Q) Q) [] (List.range l.length) fr ds w') (b:P.follows .mixedOrders=true:=by kernel_rfl) (c:(List.range l.toArray.size).all (λi=>(pj l.toArray i).all λj=>decide (j<i))=true:=by decide +kernel):xd P (.seq (.region id l.toArray true) y) Q fr ds w :=
 la (zf a h b c)
end
def Tr:List Go.Mc.gb->List Value->List Value->List Value
 | [],l,_=>l
 | .k::m,a::l,_::Ba=>a::Tr m l Ba
 | .o _::m,_::l,b::Ba=>b::Tr m l Ba
 | .i v::m,_::l,_::Ba=>v::Tr m l Ba
 | _::_,_,Ba=>undef::Ba
theorem ne_self {l:List Value}{v:Value}(h:v::l=l):False:=by have:=congrArg List.length h;simp at this
theorem JU:∀ {m:List Go.Mc.gb}{l Ba:List Value},Tr m l Ba=Ba->We m l Ba:=by
 intro m
 induction m with
 | nil=>intro l Ba h; unfold Tr at h; subst h; exact .z
 | cons a m b =>
  intro l Ba h;cases l with
  | nil=>cases a <;> cases Ba <;> exact (ne_self h).elim
  | cons x l=>cases Ba with
   | nil=>cases a <;> exact (ne_self h).elim
   | cons y Ba=>cases a with
    | k=>simp only [Tr,List.cons.injEq] at h; rw [<- h.1]; exact .k<|b h.2
    | o n=>simp only [Tr,List.cons.injEq] at h; exact .o<|b h.2
    | i v=>simp only [Tr,List.cons.injEq] at h; rw [<- h.1]; exact .i<|b h.2
theorem pc {m:List Go.Mc.gb}{l Ba:List Value}(h:Tr m l Ba=Ba:=by rfl):We m l Ba:=JU h
class Yn (t:Nat->Value) (m:List Go.Mc.gb) (l:List Value) (Ba:outParam (List Value)):Prop where out:Jf t m l Ba
section
variable {t:Nat->Value}{m:List Go.Mc.gb}{l Ba:List Value}{a v c0 eb c2 c3 c4 c5 Wc tg Rf c9:Value}{n zd od Bn qx sx tx YL ZL aM bM:Nat}
instance:Yn t [] l l:=⟨Hl⟩
instance [h:Yn t m l Ba]:Yn t (.k::m) (a::l) (a::Ba):=⟨mk h.out⟩
instance [h:Yn t m l Ba]:Yn t (.o n::m) (a::l) (t n::Ba):=⟨nb h.out⟩
instance [h:Yn t m l Ba]:Yn t (.i v::m) (a::l) (v::Ba):=⟨gx h.out⟩
instance (priority:=2000) [h:Yn t m l Ba]:Yn t (.k::.k::.k::.k::.k::.k::.k::.k::.k::.k::m) (c0::eb::c2::c3::c4::c5::Wc::tg::Rf::c9::l) (c0::eb::c2::c3::c4::c5::Wc::tg::Rf::c9::Ba):=⟨mk (mk (mk (mk (mk (mk (mk (mk (mk (mk h.out)))))))))⟩
instance (priority:=2000) [h:Yn t m l Ba]:Yn t (.o zd::.o od::.o Bn::.o qx::.o sx::.o tx::.o YL::.o ZL::.o aM::.o bM::m) (c0::eb::c2::c3::c4::c5::Wc::tg::Rf::c9::l) (t zd::t od::t Bn::t qx::t sx::t tx::t YL::t ZL::t aM::t bM::Ba):=⟨nb (nb (nb (nb (nb (nb (nb (nb (nb (nb h.out)))))))))⟩
end
section
variable {P:Program}{Q Q':Exit->Act->World->Prop}{ds:List Deferred}{w:World}{t:Nat->Value}{ms:List Go.Mc.gb}{a b fr:List Value}{c y:Code}
theorem BC [e:Yn t ms a b] (h:xd P y Q' b ds w):Exit.then (Mp P y Q') Q .normal (F (si t ms a) ds) w:=Qm e.out (gg h)
theorem iH [e:Yn t ms a b] (h:xd P c Q b ds w):xd P c Q (si t ms a) ds w:=CG e.out h
theorem Uc (b:List Nat) (a:List Go.Mc.gb->World->Prop) (h:xd P c (Exit.then (λe w'=>∃ m Aa,e=F Aa ds/\We m fr Aa/\a m w') Q) fr ds w) (k:∀ m t w,a m w->Q .normal (F (si t m fr) ds) w) (f:b.Nodup:=by decide +kernel) (g:∀ m w,a m w->opens m=b:=by intro _ _ d;(repeat first | (obtain ⟨rfl,_⟩:=d;rfl) | obtain ⟨_,d⟩:=d)):xd P c Q fr ds w:=qB b f a g h k
theorem kf (b:List Nat) (a:Nat->List Go.Mc.gb->World->Prop){zd:Nat}{d:List Go.Mc.gb}(h:a zd d w) (round:∀ n m t w,a n m w->xd P c (Exit.then (λi w'=>∃ f g Aa,i=F Aa ds/\We g fr Aa/\a f g w'/\f<n) Q) (si t m fr) ds w) (j:We d fr fr:=by exact pc) (k:b.Nodup:=by decide +kernel) (l:∀ n m w,a n m w->opens m=b:=by intro _ _ _ e;(repeat first | (obtain ⟨rfl,_⟩:=e;rfl) | obtain ⟨_,e⟩:=e)):xd P (.loop c) Q fr ds w:=wo b k a l zd d j h round
end
structure Gd (A:Prop):Prop where out:A
theorem le {μ J:M}(h:ha μ J:=by repeat first | exact ha.r | with_reducible assumption | refine ha.t ?_ (by with_reducible assumption)):ha μ J:=h
section
variable {P:Program}{fr:List Value}{w:World}{T:TypeId}{Dc:List Value}{n m i b p:Nat}{x:Operand}{v:Value}{μ Ta:M}{da:World}{rs:List Ha}{cs:List Value}{vf:TypeId}{dst:Option Tmp}{ty:TypeId}{pos:String}{after:Array Edge}{g:Option (Nat×Bool)}
theorem IW (a:fa μ da w rs) [c:wb P T false Dc n m] [d:tc fr x (.pointer (some ⟨b,p,none⟩))] [e:Al rs b vf cs] [ma:Dh cs p v]:lk P (Oper.mk dst (.load T x) ty pos after g) fr w v:=Md c d.out (Al.cell a)
theorem JW (a:fa μ da w rs) (c:xa Ta b p cs) (le:ha Ta μ) [d:wb P T false Dc n m] [e:tc fr x (.pointer (some ⟨b,p+i,none⟩))] [ma:Dh cs i v]:lk P (Oper.mk dst (.load T x) ty pos after g) fr w v:=Md d e.out (xa.cell c le a)
end
theorem KW {P:Program}{fr:List Value}{w:World}{T:TypeId}{Dc:List Value}{n m b p:Nat}{x:Operand}{v:Value}{μ Ta:M}{da:World}{rs:List Ha}{cs:List Value}{dst:Option Tmp}{ty:TypeId}{pos:String}{after:Array Edge}{g:Option (Nat×Bool)}(a:fa μ da w rs) (c:xa Ta b p cs) (le:ha Ta μ) [d:wb P T false Dc n m] [e:tc fr x (.pointer (some ⟨b,p,none⟩))] [ma:Dh cs 0 v]:lk P (Oper.mk dst (.load T x) ty pos after g) fr w v:=Md d e.out (xa.cell (i:=0) c le a)
theorem vu {P:Program}{ops:Array Oper}{Q:Exit->Act->World->Prop}{Wa:List Mon}{R:List Nat}{fr:List Value}{ds:List Deferred}{w:World}(k:Zd P ops Q Wa R fr ds w) (a:ud Wa w:=by repeat first | exact ud.z | refine ud.s (IW (by with_reducible assumption)) ?_ | refine ud.s (JW (by with_reducible assumption) (by with_reducible assumption) le) ?_ | refine ud.s (KW (by with_reducible assumption) (by with_reducible assumption) le) ?_):uu P ops Q Wa R fr ds w:=⟨a,k⟩
section
variable {P:Program}{Q:Exit->Act->World->Prop}{fr:List Value}{ds:List Deferred}{w:World}{ops:Array Oper}{l:List Oper}{c:Code}{R:List Nat}{Wa:List Mon}
theorem cM (h:He P ops Q l fr ds w):He P ops Q l fr ds w:=h
theorem CC (h:xd P c Q fr ds w):xd P c Q fr ds w:=h
theorem dM (h:Zd P ops Q Wa R fr ds w):Zd P ops Q Wa R fr ds w:=h
theorem eM (h:uu P ops Q Wa R fr ds w):uu P ops Q Wa R fr ds w:=h
theorem DC {d:Option Tmp}{v:Value}{K:List Value->Prop}(h:Rg fr d v K):Rg fr d v K:=h
theorem EC {id:Nat}{e:Exit}{a:Act}(h:Exit.inBlock id Q e a w):Exit.inBlock id Q e a w:=h
end
theorem go {α:Type}{o:Option α}{r:α}{A B:Prop}(h:o=some r) (k:A) (a:Gd A->o=some r->B:=by intro kk h;(repeat first | ((with_reducible refine cM ?_);first | refine st ?_ | refine vm ?_ | refine lC (by with_reducible assumption) ?_ | (refine hH rfl ?_;first | refine st ?_ | refine lC (by with_reducible assumption) ?_ | refine mC (by with_reducible assumption) (by with_reducible assumption) le ?_ | refine nC (by with_reducible assumption) (by with_reducible assumption) le ?_) | refine hs rfl rfl ?_ | refine Nh (by with_reducible assumption) ?_ | refine mC (by with_reducible assumption) (by with_reducible assumption) le ?_ | refine nC (by with_reducible assumption) (by with_reducible assumption) le ?_ | refine qg h (λxx b h=>?_) | (refine hH rfl ?_;refine qg h (λxx b h=>?_)) | refine ah ?_) | ((with_reducible refine CC ?_);first | with_reducible refine iH ?_ | with_reducible refine bl ?_ | with_reducible refine Ph ?_ | with_reducible refine Ni ?_ | with_reducible refine Tn ?_ | with_reducible refine Ft ?_) | ((with_reducible refine DC ?_);refine ta ?_) | refine BC ?_ | with_reducible refine gg ?_ | with_reducible refine dj ?_ | with_reducible refine Nq ?_ | with_reducible refine Oo ?_ | with_reducible refine bn ?_ | with_reducible refine ru ?_ | with_reducible refine su ?_ | ((with_reducible refine EC ?_);refine zh rfl ?_));revert h;(repeat revert xx);exact kk.out):B:=a ⟨k⟩ h
theorem aa {A B:Prop}(k:A) (a:Gd A->B:=by intro kk;(repeat first | ((with_reducible refine cM ?_);first | refine st ?_ | refine vm ?_ | refine lC (by with_reducible assumption) ?_ | (refine hH rfl ?_;first | refine st ?_ | refine lC (by with_reducible assumption) ?_ | refine mC (by with_reducible assumption) (by with_reducible assumption) le ?_ | refine nC (by with_reducible assumption) (by with_reducible assumption) le ?_) | refine hs rfl rfl ?_ | refine Nh (by with_reducible assumption) ?_ | refine mC (by with_reducible assumption) (by with_reducible assumption) le ?_ | refine nC (by with_reducible assumption) (by with_reducible assumption) le ?_ | refine ah ?_) | ((with_reducible refine CC ?_);first | with_reducible refine iH ?_ | with_reducible refine bl ?_ | with_reducible refine Ph ?_ | with_reducible refine Ni ?_ | with_reducible refine Tn ?_ | with_reducible refine Ft ?_) | ((with_reducible refine DC ?_);refine ta ?_) | refine BC ?_ | with_reducible refine gg ?_ | with_reducible refine dj ?_ | with_reducible refine Nq ?_ | with_reducible refine Oo ?_ | with_reducible refine bn ?_ | with_reducible refine ru ?_ | with_reducible refine su ?_ | ((with_reducible refine EC ?_);refine zh rfl ?_));exact kk.out):B:=a ⟨k⟩
theorem gs {α:Type}{o:Option α}{r:α}{A B:Prop}(h:o=some r) (k:A) (a:Gd A->o=some r->B:=by intro kk h;(repeat first | ((with_reducible refine dM ?_);first | (refine SL rfl ?_;first | ((with_reducible refine mx ?_);first | refine Hw (by with_reducible assumption) ?_ | refine Iw (by with_reducible assumption) (by with_reducible assumption) le ?_ | refine Kw (by with_reducible assumption) (by with_reducible assumption) le ?_) | ((with_reducible refine nx ?_);first | refine Ww (by with_reducible assumption) ?_ | refine Ko ?_) | ((with_reducible refine lx ?_);first | refine Ko ?_ | refine HW h (λxx b h=>?_)) | ((with_reducible refine px ?_);first | refine Lo rfl rfl ?_ | refine Jw (by with_reducible assumption) rfl ?_) | ((with_reducible refine ox ?_);first | refine Vw rfl ?_ | refine Lo rfl rfl ?_)) | refine sz ?_ | refine qy ?_ | (refine tL rfl ?_;first | ((with_reducible refine mx ?_);first | refine Hw (by with_reducible assumption) ?_ | refine Iw (by with_reducible assumption) (by with_reducible assumption) le ?_ | refine Kw (by with_reducible assumption) (by with_reducible assumption) le ?_) | ((with_reducible refine nx ?_);first | refine Ww (by with_reducible assumption) ?_ | refine Ko ?_) | ((with_reducible refine lx ?_);refine Ko ?_) | ((with_reducible refine px ?_);first | refine Lo rfl rfl ?_ | refine Jw (by with_reducible assumption) rfl ?_) | ((with_reducible refine ox ?_);first | refine Vw rfl ?_ | refine Lo rfl rfl ?_)) | (refine uL rfl ?_;first | ((with_reducible refine mx ?_);first | refine Hw (by with_reducible assumption) ?_ | refine Iw (by with_reducible assumption) (by with_reducible assumption) le ?_ | refine Kw (by with_reducible assumption) (by with_reducible assumption) le ?_) | ((with_reducible refine nx ?_);first | refine Ww (by with_reducible assumption) ?_ | refine Ko ?_) | ((with_reducible refine lx ?_);refine Ko ?_) | ((with_reducible refine px ?_);first | refine Lo rfl rfl ?_ | refine Jw (by with_reducible assumption) rfl ?_) | ((with_reducible refine ox ?_);first | refine Vw rfl ?_ | refine Lo rfl rfl ?_))) | ((with_reducible refine eM ?_);refine vu ?_) | ((with_reducible refine CC ?_);first | with_reducible refine Ni ?_ | with_reducible refine Tn ?_ | with_reducible refine Ft ?_) | ((with_reducible refine DC ?_);refine ta ?_) | refine BC ?_ | with_reducible refine gg ?_ | with_reducible refine dj ?_ | with_reducible refine Nq ?_ | with_reducible refine Oo ?_ | with_reducible refine bn ?_ | with_reducible refine ru ?_ | with_reducible refine su ?_ | ((with_reducible refine EC ?_);refine zh rfl ?_));revert h;(repeat revert xx);exact kk.out):B:=a ⟨k⟩ h
theorem sa {A B:Prop}(k:A) (a:Gd A->B:=by intro kk;(repeat first | ((with_reducible refine dM ?_);first | (refine SL rfl ?_;first | ((with_reducible refine mx ?_);first | refine Hw (by with_reducible assumption) ?_ | refine Iw (by with_reducible assumption) (by with_reducible assumption) le ?_ | refine Kw (by with_reducible assumption) (by with_reducible assumption) le ?_) | ((with_reducible refine nx ?_);first | refine Ww (by with_reducible assumption) ?_ | refine Ko ?_) | ((with_reducible refine lx ?_);refine Ko ?_) | ((with_reducible refine px ?_);first | refine Lo rfl rfl ?_ | refine Jw (by with_reducible assumption) rfl ?_) | ((with_reducible refine ox ?_);first | refine Vw rfl ?_ | refine Lo rfl rfl ?_)) | refine sz ?_ | refine qy ?_ | (refine tL rfl ?_;first | ((with_reducible refine mx ?_);first | refine Hw (by with_reducible assumption) ?_ | refine Iw (by with_reducible assumption) (by with_reducible assumption) le ?_ | refine Kw (by with_reducible assumption) (by with_reducible assumption) le ?_) | ((with_reducible refine nx ?_);first | refine Ww (by with_reducible assumption) ?_ | refine Ko ?_) | ((with_reducible refine lx ?_);refine Ko ?_) | ((with_reducible refine px ?_);first | refine Lo rfl rfl ?_ | refine Jw (by with_reducible assumption) rfl ?_) | ((with_reducible refine ox ?_);first | refine Vw rfl ?_ | refine Lo rfl rfl ?_)) | (refine uL rfl ?_;first | ((with_reducible refine mx ?_);first | refine Hw (by with_reducible assumption) ?_ | refine Iw (by with_reducible assumption) (by with_reducible assumption) le ?_ | refine Kw (by with_reducible assumption) (by with_reducible assumption) le ?_) | ((with_reducible refine nx ?_);first | refine Ww (by with_reducible assumption) ?_ | refine Ko ?_) | ((with_reducible refine lx ?_);refine Ko ?_) | ((with_reducible refine px ?_);first | refine Lo rfl rfl ?_ | refine Jw (by with_reducible assumption) rfl ?_) | ((with_reducible refine ox ?_);first | refine Vw rfl ?_ | refine Lo rfl rfl ?_))) | ((with_reducible refine eM ?_);refine vu ?_) | ((with_reducible refine CC ?_);first | with_reducible refine Ni ?_ | with_reducible refine Tn ?_ | with_reducible refine Ft ?_) | ((with_reducible refine DC ?_);refine ta ?_) | refine BC ?_ | with_reducible refine gg ?_ | with_reducible refine dj ?_ | with_reducible refine Nq ?_ | with_reducible refine Oo ?_ | with_reducible refine bn ?_ | with_reducible refine ru ?_ | with_reducible refine su ?_ | ((with_reducible refine EC ?_);refine zh rfl ?_));exact kk.out):B:=a ⟨k⟩
theorem RW {μ J:M}(h:ha μ J):ha μ J:=h
theorem SW {m:List Go.Mc.gb}{l Ba:List Value}(h:We m l Ba):We m l Ba:=h
theorem ex {G:Prop}(a:G:=by
 (with_reducible repeat' first | apply And.intro | apply Exists.intro)
 (all_goals try ((with_reducible show _=some _);first | with_reducible assumption | assumption))
 (all_goals try ((with_reducible show fa _ _ _ _);first | with_reducible assumption | assumption))
 (all_goals try ((with_reducible show _=_);rfl))
 (all_goals try first | with_reducible assumption | with_reducible exact qa.nil | with_reducible exact ya.nil | ((with_reducible refine qa.up ?_ (by with_reducible assumption));exact le) | ((with_reducible refine Ie.up ?_ (by with_reducible assumption));exact le) | ((with_reducible refine tu.up ?_ (by with_reducible assumption));exact le) | ((with_reducible refine re.up ?_ (by with_reducible assumption));exact le) | ((with_reducible refine Ig.up ?_ (by with_reducible assumption));exact le) | ((with_reducible refine ya.up (by with_reducible assumption) ?_);exact le) | ((with_reducible refine xa.up (by with_reducible assumption) ?_);exact le) | ((with_reducible refine Df.up (by with_reducible assumption) ?_);exact le) | ((with_reducible refine oe.up (by with_reducible assumption) ?_);exact le) | ((with_reducible refine Vf.up (by with_reducible assumption) ?_);exact le) | ((with_reducible refine J1.up (by with_reducible assumption) ?_);exact le) | ((with_reducible refine Ah.up (by with_reducible assumption) ?_);exact le) | ((with_reducible refine th.up (by with_reducible assumption) ?_);exact le) | ((with_reducible refine Hr.up (by with_reducible assumption) ?_);exact le) | ((with_reducible refine Ck.up (by with_reducible assumption) ?_);exact le))
 (all_goals try first | ((with_reducible refine RW ?_);exact le) | ((with_reducible refine SW ?_);exact pc) | with_reducible exact Nat.lt_succ_self _)):G:=a
end
section
open Go.Mc Go.RowKit
theorem uc {G:Prop}(a:G:=by
 first
 | (refine Od rfl Dh.out ?_; exact ex)
 | (refine aa ?_; first | (refine Od rfl Dh.out ?_; exact ex) | exact ex)):G:=a
theorem Fc {α:Type}{x r:α}{B:Prop}(h:some x=some r) (a:x=r->B:=by
 intro h;subst h;exact uc):B:=a (Option.some.inj h)
theorem ra {α β:Type}{x:Option α}{f:α->Option β}{r:β}{G:Prop}(h:Option.bind x f=some r) (k:∀ a,x=some a->f a=some r->G):G:=let ⟨a,e,h⟩:=td h;k a e h
end
theorem jo {α : Type}{a b : α}(h : some a = some b) : a = b := Option.some.inj h
abbrev rg : Nat -> Nat -> List Nat := λa b => List.range' a b
end Go.Kf
