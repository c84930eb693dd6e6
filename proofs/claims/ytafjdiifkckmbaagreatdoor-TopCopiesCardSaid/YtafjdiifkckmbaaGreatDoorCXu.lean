/- Texts of Xu. -/
import Derived.Test.YtafjdiifkckmbaaGreatDoorCXt
import Derived.Laws.MakeOwn
import Derived.Laws.CopyRow
import Derived.Laws.IdiomCopy
import Derived.Shelf.Strconv.ParseIntPublic10
import Derived.Lib.IndexMore
import Derived.Sort.Row
import Derived.LaidEql
import Derived.ArgAppend
import Derived.KernelRfl
set_option linter.unusedSimpArgs false
set_option linter.unusedVariables false
set_option linter.unusedSectionVars false
namespace Go.Re
section
open Go.Bc Go.RowKit
theorem qa.split {α:Type}[Ja α]{μ:M}:∀ {l:List α}{cells:List Value}{i:Nat}{x:α},qa μ cells l->l[i]?=some x ->
  ∃ Jh cs Tc,cells=Jh++(cs++Tc)/\Jh.length=i*Ja.sz α/\Ja.cs μ cs x/\∀ (J:M) (a:List Value) (c:α),ha μ J->Ja.cs J a c->qa J (Jh++(a++Tc)) (l.set i c)
 | [],cells,i,x,h,b=>by simp at b
 | y::l,cells,i,x,h,b=>by
  rw [qa] at h;obtain ⟨cs,t,rfl,d,g⟩:=h;cases i with
  | zero =>
   simp at b;subst b;exact ⟨[],cs,t,rfl,by simp,d,λJ a c la f=>⟨a,t,rfl,f,g.up la⟩⟩
  | succ i =>
   simp at b;obtain ⟨Jh,Dw,Tc,rfl,e,m,st⟩:=qa.split g b;exact ⟨cs++Jh,Dw,Tc,by simp,by simp [e,Ja.Qh d,Nat.add_mul];omega,m,λJ a c la f=>⟨cs,Jh++(a++Tc),by simp,Ja.up la d,st J a c la f⟩⟩
theorem _root_.Go.Bc.Row.Bm {α:Type}[Ja α]{w:World}{T:TypeId}{n:Nat}{μ:M}{v:Value}{cells:List Value}{l:List α}{i:Int}{x:α}(h:Row w v T (Ja.sz α) n cells) (d:qa μ cells l) (y:l.length=n) (g:at_ l i=some x) :
  ∃ b o Jh cs Tc,cells=Jh++(cs++Tc)/\Dk v (Ja.sz α) i b o/\(∀ w T a,Row w v T (Ja.sz α) n (Jh++(a++Tc))->a.length=Ja.sz α->dj w b o a)/\Ja.cs μ cs x/\Jh.length=i.toNat*Ja.sz α /\
   (∀ (J:M) (a:List Value) (f:α),ha μ J->Ja.cs J a f->qa J (Jh++(a++Tc)) (l.set i.toNat f))/\qa μ (Jh++(cs++Tc)) l:=by
 obtain ⟨p,z,q⟩:=Ju g;obtain ⟨b,o,c,rfl,A⟩:=h.Ln (by omega);obtain ⟨Jh,cs,Tc,rfl,e,m,st⟩:=d.split q;refine ⟨b,o+i.toNat*Ja.sz α,Jh,cs,Tc,rfl,⟨o,_,_,rfl,p,by omega,rfl⟩,?_,m,e,st,d⟩;intro B C a r la j u k;obtain ⟨Rc,D,c',Oa,s⟩:=r.Ln (by omega);simp at Oa;obtain ⟨⟨rfl,rfl⟩,rfl⟩:=Oa;have t:j<a.length:=(List.getElem?_eq_some_iff.1 k).1;have:=s (Jh.length+j) u (by rw [List.getElem?_append_right (by omega),show Jh.length+j - Jh.length=j by omega,List.getElem?_append_left t];exact k);rw [e,<- Nat.add_assoc] at this;exact this
theorem Pz {Jh cs a Tc vs:List Value}{i off sz:Nat}(pl:Jh.length=i*sz) (h:cs.take off++vs++cs.drop (off+vs.length)=a) (la:off+vs.length<=cs.length) :
  (Jh++(cs++Tc)).take (i*sz+off)++vs++(Jh++(cs++Tc)).drop (i*sz+off+vs.length)=Jh++(a++Tc):=by
 subst h;rw [<- pl,Nat.add_assoc,List.take_append,List.drop_append];simp [List.take_append_of_le_length (show off<=cs.length by omega),List.drop_append_of_le_length la,List.take_of_length_le (show Jh.length<=Jh.length+off by omega),List.drop_of_length_le (show Jh.length<=Jh.length+(off+vs.length) by omega)]
section
variable {P:Program}{Q:Exit->Act->World->Prop}{K:List Value->List Deferred->World->Prop}{fr ya:List Value}{ds:List Deferred}{w:World}
variable {dst:Option Tmp}{ty:TypeId}{pos:String}{after:Array Edge}{g:Option (Nat×Bool)}
variable {da:World}{rs rs':List Ha}{μ J:M}
variable {T:TypeId}
theorem ke.two {es:List MapEntry}{c:Nat}{k0 k1:List UInt8}{x0 x1:Int}(h:ke μ es c [(k0,x0),(k1,x1)]) :
  ∃ vd ld,es=[⟨S k0,.int .i64 x0,vd⟩,⟨S k1,.int .i64 x1,ld⟩]/\vd<ld/\ld<c:=by
 obtain ⟨e,i,j⟩:=h
 match es,e,i,j with
 | [],e,_,_=>simp [Cg] at e
 | [a],e,_,_ =>
  rw [Cg] at e;obtain ⟨k,x,t,g,-,-,f⟩:=e;simp [Cg] at f g;simp [f] at g
 | [a,b],e,i,j =>
  rw [Cg] at e;obtain ⟨k,x,t,g,l,m,f⟩:=e;rw [Cg] at f;obtain ⟨k',s,cb,n,o,p,q⟩:=f;subst n;simp only [List.cons.injEq,Prod.mk.injEq] at g;obtain ⟨⟨rfl,rfl⟩,⟨rfl,rfl⟩,-⟩:=g;obtain ⟨u,v,r⟩:=a;obtain ⟨w,bv,bb⟩:=b;have m:v=.int .i64 x0:=m;have p:bv=.int .i64 x1:=p;have l:u=S k0:=l;have o:w=S k1:=o;subst l o m p;have y:r<bb:=List.rel_of_pairwise_cons j (List.mem_singleton.2 rfl);have z:bb<c:=i ⟨S k1,.int .i64 x1,bb⟩ (by simp);exact ⟨r,bb,rfl,y,z⟩
 | a::b::d::es,e,_,_ =>
  rw [Cg] at e;obtain ⟨k,x,t,g,-,-,f⟩:=e;rw [Cg] at f;obtain ⟨k',s,cb,n,-,-,q⟩:=f;rw [Cg] at q;obtain ⟨B,C,D,A,-,-,-⟩:=q;subst A n;simp at g
theorem sA (w:World) (b:Nat) (o:Obj) (a:b<w.heap.size):Ui (λk=>k≠b) w { w with heap:=w.heap.setIfInBounds b o }/\({ w with heap:=w.heap.setIfInBounds b o }:World).heap[b]?=some o :=
 ⟨⟨rfl,rfl,rfl,by simp,λj _ c=>by simp [Array.getElem?_setIfInBounds,Ne.symm c]⟩,by simp [a]⟩
theorem NQ {x:Operand}{b m c j k vd ld:Nat}{d e pa f:Value}(p:ab fr x (.pointer (some ⟨b,0,none⟩))) (h:fa μ da w rs) (l:Zb rs j (.nn b m c [] c)) (z:Zb rs k (.map m [⟨d,e,vd⟩,⟨pa,f,ld⟩] c)) (C:vd<ld) (q:ld<c)
  (A:∀ w' rs',Xb rs j (.nn b m c [vd] c) rs'->fa μ da w' rs'->Hg fr dst (.tuple ⟨[.bool true,d,e]⟩) λya=>K ya ds w')
  (hB:∀ w' rs',Xb rs j (.nn b m c [ld] c) rs'->fa μ da w' rs'->Hg fr dst (.tuple ⟨[.bool true,pa,f]⟩) λya=>K ya ds w') :
  pd P (Oper.mk dst (.next x false) ty pos after g) fr ds w K Q:=by
 have i:w.heap[b]?=some (.mapIter (some m) c ⟨[]⟩ c):=h.get l;have r:w.heap[m]?=some (.map ⟨[⟨d,e,vd⟩,⟨pa,f,ld⟩]⟩ c):=h.get z;have s:b<w.heap.size:=(Array.getElem?_eq_some_iff.1 i).1;have t:w.drew.heap[b]?=some (.mapIter (some m) c ⟨[]⟩ c):=i;have u:vd<c:=by omega
 have v:¬ vd ≥ c:=by omega
 have y:¬ ld ≥ c:=by omega
 by_cases Ca:(w.tape w.drawn (.mapNext 2)) % 2=0
 ·obtain ⟨n,o⟩:=sA w.drew b (.mapIter (some m) c ⟨[vd]⟩ c) s;obtain ⟨ya,a⟩:=Fi fr dst (.tuple ⟨[.bool true,d,e]⟩);refine Fh (w':={ w.drew with heap:=w.drew.heap.setIfInBounds b (.mapIter (some m) c ⟨[vd]⟩ c) }) ?_ a<|A _ _ rfl ((h.drew (w':=w.drew) rfl rfl rfl rfl).put (b:=b) l rfl rfl rfl o n) ya a;simp [execOp,p ds,Instr.next,getObj,setObj,Sem.run,i,r,Result.andThen,u,q,v,y,choose,Question.forced,Question.cut,Ca,t]
 ·have B:(w.tape w.drawn (.mapNext 2)) % 2=1:=by omega
  obtain ⟨n,o⟩:=sA w.drew b (.mapIter (some m) c ⟨[ld]⟩ c) s;obtain ⟨ya,a⟩:=Fi fr dst (.tuple ⟨[.bool true,pa,f]⟩);refine Fh (w':={ w.drew with heap:=w.drew.heap.setIfInBounds b (.mapIter (some m) c ⟨[ld]⟩ c) }) ?_ a<|hB _ _ rfl ((h.drew (w':=w.drew) rfl rfl rfl rfl).put (b:=b) l rfl rfl rfl o n) ya a;simp [execOp,p ds,Instr.next,getObj,setObj,Sem.run,i,r,Result.andThen,u,q,v,y,choose,Question.forced,Question.cut,B,t]
theorem OQ {x:Operand}{b m c j k vd ld:Nat}{d e pa a:Value}(p:ab fr x (.pointer (some ⟨b,0,none⟩))) (f:fa μ da w rs) (l:Zb rs j (.nn b m c [vd] c)) (q:Zb rs k (.map m [⟨d,e,vd⟩,⟨pa,a,ld⟩] c)) (E:vd<ld) (r:ld<c)
  (s:∀ w' rs',Xb rs j (.nn b m c [vd,ld] c) rs'->fa μ da w' rs'->Hg fr dst (.tuple ⟨[.bool true,pa,a]⟩) λya=>K ya ds w') :
  pd P (Oper.mk dst (.next x false) ty pos after g) fr ds w K Q:=by
 have n:w.heap[b]?=some (.mapIter (some m) c ⟨[vd]⟩ c):=f.get l;have t:w.heap[m]?=some (.map ⟨[⟨d,e,vd⟩,⟨pa,a,ld⟩]⟩ c):=f.get q;have u:b<w.heap.size:=(Array.getElem?_eq_some_iff.1 n).1;have v:¬ vd ≥ c:=by omega
 have y:¬ ld ≥ c:=by omega
 have z:¬ ∀ (i:Nat) (x:i<2),c<=([⟨d,e,vd⟩,⟨pa,a,ld⟩]:List MapEntry)[i].born:=λh=>by have:=h 0 (by decide);simp at this;omega
 have A:¬ ld=vd:=by omega
 have B:¬ vd=ld:=by omega
 obtain ⟨C,D⟩:=sA w b (.mapIter (some m) c ⟨[vd,ld]⟩ c) u;obtain ⟨ya,o⟩:=Fi fr dst (.tuple ⟨[.bool true,pa,a]⟩);refine Fh (w':={ w with heap:=w.heap.setIfInBounds b (.mapIter (some m) c ⟨[vd,ld]⟩ c) }) ?_ o<|s _ _ rfl (f.put (b:=b) l rfl rfl rfl D C) ya o;simp [execOp,p ds,Instr.next,getObj,setObj,Sem.run,n,t,Result.andThen,r,v,y,A,B,z,choose,Question.forced]
theorem jP {x:Operand}{b m c j k vd ld:Nat}{a d pa e:Value}(p:ab fr x (.pointer (some ⟨b,0,none⟩))) (f:fa μ da w rs) (l:Zb rs j (.nn b m c [ld] c)) (q:Zb rs k (.map m [⟨a,d,vd⟩,⟨pa,e,ld⟩] c)) (E:vd<ld) (F:ld<c)
  (r:∀ w' rs',Xb rs j (.nn b m c [ld,vd] c) rs'->fa μ da w' rs'->Hg fr dst (.tuple ⟨[.bool true,a,d]⟩) λya=>K ya ds w') :
  pd P (Oper.mk dst (.next x false) ty pos after g) fr ds w K Q:=by
 have n:w.heap[b]?=some (.mapIter (some m) c ⟨[ld]⟩ c):=f.get l;have s:w.heap[m]?=some (.map ⟨[⟨a,d,vd⟩,⟨pa,e,ld⟩]⟩ c):=f.get q;have t:b<w.heap.size:=(Array.getElem?_eq_some_iff.1 n).1;have u:vd<c:=by omega
 have v:¬ vd ≥ c:=by omega
 have y:¬ ld ≥ c:=by omega
 have z:¬ ∀ (i:Nat) (x:i<2),c<=([⟨a,d,vd⟩,⟨pa,e,ld⟩]:List MapEntry)[i].born:=λh=>by have:=h 0 (by decide);simp at this;omega
 have A:¬ ld=vd:=by omega
 have B:¬ vd=ld:=by omega
 obtain ⟨C,D⟩:=sA w b (.mapIter (some m) c ⟨[ld,vd]⟩ c) t;obtain ⟨ya,o⟩:=Fi fr dst (.tuple ⟨[.bool true,a,d]⟩);refine Fh (w':={ w with heap:=w.heap.setIfInBounds b (.mapIter (some m) c ⟨[ld,vd]⟩ c) }) ?_ o<|r _ _ rfl (f.put (b:=b) l rfl rfl rfl D C) ya o;simp [execOp,p ds,Instr.next,getObj,setObj,Sem.run,n,s,Result.andThen,u,v,y,A,B,z,choose,Question.forced]
theorem mJ {x:Operand}{b m c j k vd ld p q:Nat}{a d pa e:Value}(l:ab fr x (.pointer (some ⟨b,0,none⟩))) (f:fa μ da w rs) (n:Zb rs j (.nn b m c [p,q] c)) (o:Zb rs k (.map m [⟨a,d,vd⟩,⟨pa,e,ld⟩] c)) (B:vd<ld) (C:ld<c) (r:p=vd/\q=ld\/p=ld/\q=vd)
  (Ca:zf fr dst (.tuple ⟨[.bool false]⟩) ya) (h:K ya ds w) :
  pd P (Oper.mk dst (.next x false) ty pos after g) fr ds w K Q:=by
 have s:w.heap[b]?=some (.mapIter (some m) c ⟨[p,q]⟩ c):=f.get n;have t:w.heap[m]?=some (.map ⟨[⟨a,d,vd⟩,⟨pa,e,ld⟩]⟩ c):=f.get o;have u:¬ vd ≥ c:=by omega
 have v:¬ ld ≥ c:=by omega
 have y:¬ ∀ (i:Nat) (x:i<2),c<=([⟨a,d,vd⟩,⟨pa,e,ld⟩]:List MapEntry)[i].born:=λh=>by have:=h 0 (by decide);simp at this;omega
 have z:¬ ld=vd:=by omega
 have A:¬ vd=ld:=by omega
 refine Fh (w':=w) ?_ Ca h;rcases r with ⟨rfl,rfl⟩ | ⟨rfl,rfl⟩<;>simp [execOp,l ds,Instr.next,getObj,setObj,Sem.run,s,t,Result.andThen,u,v,z,A,y,choose,Question.forced]
theorem JA {x:Operand}{b m c j k vd ld:Nat}{a d pa f:Value}{seen:List Nat}{e:MapEntry}(l:ab fr x (.pointer (some ⟨b,0,none⟩))) (i:fa μ da w rs) (n:Zb rs j (.nn b m c seen c)) (o:Zb rs k (.map m [⟨a,d,vd⟩,⟨pa,f,ld⟩] c)) (y:vd<ld)
  (p:seen.getLast?=some e.born) (q:e=⟨a,d,vd⟩\/e=⟨pa,f,ld⟩) (Ca:zf fr dst (.tuple ⟨[e.key,e.val]⟩) ya) (h:K ya ds w) :
  pd P (Oper.mk dst (.entry x) ty pos after g) fr ds w K Q:=by
 have r:w.heap[b]?=some (.mapIter (some m) c ⟨seen⟩ c):=i.get n;have s:w.heap[m]?=some (.map ⟨[⟨a,d,vd⟩,⟨pa,f,ld⟩]⟩ c):=i.get o;have t:¬ ld=vd:=by omega
 have u:¬ vd=ld:=by omega
 have v:(⟨seen⟩:Array Nat).back?=some e.born:=by rw [<- p];simp [Array.back?,List.getLast?_eq_getElem?]
 refine Fh (w':=w) ?_ Ca h;rcases q with rfl | rfl<;>simp [execOp,l ds,Instr.entry,getObj,Sem.run,r,s,Result.andThen,v,t,u]
end
end
section
open Go.Bc Go.RowKit
section
variable {P:Program}{Q:Exit->Act->World->Prop}{K:List Value->List Deferred->World->Prop}{fr ya:List Value}{ds:List Deferred}{w:World}
variable {dst:Option Tmp}{ty:TypeId}{pos:String}{after:Array Edge}{g:Option (Nat×Bool)}
structure IE (P:Program) (f:FuncId) (args:List Value) (w:World) (R:Value->World->Prop):Prop where
 out:CallsD P f ⟨args⟩ .returning w λe a w'=>a=.returning/\okV R e w'
theorem HK {fn:Func}{R b:Value->World->Prop}{k:FuncId}{cap vs:List Value}(d:fb P k) (f:IE P k (vs++cap) w b) (h:∀ v w',b v w'->nt P fn R .ret (F fr ds) w') :
  nt P fn R .ret (F fr (⟨.fn (.func k) ⟨cap⟩,⟨vs⟩⟩::ds)) w:=by
 refine ⟨by simp,.func k,⟨cap⟩,k,⟨vs++cap⟩,rfl,?_,?_⟩
 ·have:=d.out ⟨vs++cap⟩ w;simp [invoke,this]
 ·refine f.out.mono λe g w' a=>?_;obtain ⟨rfl,a⟩:=a;cases e with
  | returned v=>exact h v w' a
  | panicked c=>exact a.elim
  | outgrown=>exact a.elim
theorem BS {P:Program}{T:TypeId}{ms:Array (String×TypeId)}{v:Value}{b:Bool}(e:P.underlying T=some (.interface ms)) (Oa:(v=.nilIface/\b=true)\/((∃ a c,v=.iface a c)/\b=false)):Cr P 1 T v .nilIface b:=⟨λd w Ca=>by
 cases d with
 | zero=>omega
 | succ d=>rcases Oa with ⟨rfl,rfl⟩ | ⟨⟨a,c,rfl⟩,rfl⟩ <;> simp [Op.equalIn,run_underlying e]⟩
theorem qF {x:Operand}{t cb:TypeId}{v:Value}{b:Bool}{ms:Array (String×TypeId)}(d:P.underlying t=some (.interface ms)) (e:ab fr x v) (Oa:(v=.nilIface/\b=true)\/((∃ a c,v=.iface a c)/\b=false)) (f:zf fr dst (.bool b) ya) (k:K ya ds w) :
  pd P (Oper.mk dst (.binOp .eql t x (.const .nilIface) cb) ty pos after g) fr ds w K Q:=by
 refine Ob ⟨λds w=>?_⟩ f k;have h:=e ds;have i:(F fr ds).eval (.const .nilIface)=.nilIface:=rfl;have j:=(BS d Oa).out Op.maxDepth w (by decide);rcases Oa with ⟨rfl,rfl⟩ | ⟨⟨a,c,rfl⟩,rfl⟩<;>simp [execOp,h,i,eqGuard,binOp,Op.equal,j]
end
end
section
open Go.Bc Go.RowKit
def xW (agg:Bool) (cs:List Value):Value:=if agg then .agg ⟨cs⟩ else cs.headD undef
structure vr (P:Program) (I:M) (K:Nat) (zB:List Value){α:Type}[Ja α] (agg:Bool) (d:α->Option Bool):Prop where
 AB:fb P K
 call:∀ {Ta:M}{da a:World}{rs:List Ha}{x:α}{b:Bool}{cs:List Value},ha I Ta->Ja.cs Ta cs x->d x=some b->fa Ta da a rs->kb P K ([xW agg cs]++zB) a (λv w'=>∃ c,v=.bool b/\ha Ta c/\fa c da w' rs)
theorem vr.up {P:Program}{μ J:M}{K:Nat}{zB:List Value}{α:Type}[Ja α]{agg:Bool}{a:α->Option Bool}(h:vr P μ K zB agg a) (l:ha μ J):vr P J K zB agg a:=⟨h.AB,λla=>h.call (l.t la)⟩
end
section
open Go.Bc Go.RowKit
section
variable {P : Program}{Q : Exit -> Act -> World -> Prop}{K : List Value -> List Deferred -> World -> Prop}{fr ya : List Value}{ds : List Deferred}{w w' : World}
variable {dst : Option Tmp}{ty : TypeId}{pos : String}{after : Array Edge}{g : Option (Nat × Bool)}
variable {da : World}{rs rs' : List Ha}{μ J : M}
variable {T : TypeId}{d : TypeDesc}{mc : Bool}{zc : List Value}{n m : Nat}
theorem _root_.Go.Bc.Sep.newRow {S Jc : Nat -> Prop}{A : World -> Prop}{v : Value}{sz k : Nat}{xs : List Value}(a : Sep S Jc da w rs A) (c : Grow w w') (g : Row w' v T sz k xs) (d : ∀ b, v.ownBlock = some b -> w.heap.size <= b) :
    Sep S Jc da w' (.row v T sz k xs :: rs) A where
  keeps := a.keeps.trans c.keeps
  all r i := by
    rcases List.mem_cons.1 i with rfl | h
    · exact g
    · exact (a.grow c).all r h
  oi := by
    cases Oa : v.ownBlock with
    | none => simp only [blocks, List.filterMap_cons, Ha.block, Oa]; exact a.oi
    | some b =>
      simp only [blocks, List.filterMap_cons, Ha.block, Oa, List.nodup_cons];exact ⟨λhm => by have := a.lt hm;have := d b Oa;omega, a.oi⟩
  new b hm := by
    cases Oa : v.ownBlock with
    | none => simp only [blocks, List.filterMap_cons, Ha.block, Oa] at hm; exact a.new b hm
    | some Rc =>
      simp only [blocks, List.filterMap_cons, Ha.block, Oa, List.mem_cons] at hm;rcases hm with rfl | hm
      · exact .inl<|Nat.le_trans a.keeps.size<|d _ Oa
      · exact a.new b hm
  Xi := λj l m => a.Xi j (Nat.le_trans c.size l) λk f e => (m k (Nat.lt_of_lt_of_le f c.size) ⟨e.1, λhm => by
    cases Oa : v.ownBlock with
    | none => simp only [blocks, List.filterMap_cons, Ha.block, Oa] at hm; exact e.2 hm
    | some Rc =>
      simp only [blocks, List.filterMap_cons, Ha.block, Oa, List.mem_cons] at hm;rcases hm with rfl | hm
      · have := d _ Oa;omega
      · exact e.2 hm⟩).trans (c.ea k f trivial)
theorem RC {e : TypeId}{sz k base : Nat}{v : Value}{xs : List Value}(h : w.ownsRow base e sz v k xs) : Row w v e sz k xs /\ ∀ b, v.ownBlock = some b -> base <= b := by
  obtain ⟨a, d⟩ := h;rcases d with ⟨rfl, rfl⟩ | ⟨g, cap, cur, rfl, c, f, i, j, n, l⟩
  · exact ⟨⟨a, .inl ⟨rfl, rfl⟩⟩, λb c => by simp [Value.ownBlock] at c⟩
  · exact ⟨⟨a, .inr ⟨g, 0, cap, cur, rfl, f, i, j, by omega, by simpa using l⟩⟩, λb m => by simp [Value.ownBlock] at m;omega⟩
def Ew (n : Int) : Option Nat := if 0 <= n /\ n <= 65536 then some n.toNat else none
theorem CS {n : Int}{k : Nat}(h : Ew n = some k) : n = k /\ k <= 65536 := by
  unfold Ew at h;split at h
  · rename_i a;have := Option.some.inj h;omega
  · cases h
theorem kP (z : Value) (k : Nat) : madeCells #[z] k = (List.replicate k z).toArray := by
  apply Array.ext';simp only [madeCells, Array.toList_map, Array.toList_range];apply List.ext_getElem?;intro i;simp only [List.getElem?_map, List.getElem?_range', List.getElem?_replicate];by_cases h : i < k
  · simp [h, Nat.mod_one]
  · simp [h]
theorem ED {x y : Operand}{e : TypeId}{z : Value}{bytes k : Nat}{c d : IntKind}{n : Int}(f : P.underlying T = some (.slice e)) (j : wb P e mc [z] 1 bytes) (A : bytes <= 4096) (l : ab fr x (.int c n)) (m : ab fr y (.int d n)) (o : Ew n = some k) (p : fa μ da w rs)
    (h : ∀ b w', fa μ da w' (.row (.slice (some ⟨b, 0, none⟩) k k) e 1 k (List.replicate k z):: rs) -> Hg fr dst (.slice (some ⟨b, 0, none⟩) k k) λya => K ya ds w') :
    pd P (Oper.mk dst (.makeSlice T x y) ty pos after g) fr ds w K Q := by
  obtain ⟨rfl, q⟩ := CS o;obtain ⟨i, r, s, t, u, v, B⟩ := j.inf;have C : i.bytes * k <= 4096 * 65536 := Nat.mul_le_mul (by omega) q;have a := run_make (P := P) w T e i r f s t c d k k (by omega) (Int.le_refl _) (by rw [<- Int.natCast_mul];omega) (by omega);simp only [Int.toNat_natCast, v, Nat.mul_one, u] at a;rw [kP] at a;obtain ⟨ya, Ca⟩ := Fi fr dst (.slice (some ⟨w.heap.size, 0, none⟩) k k);refine Fh (w' := w.alloc (.cells (List.replicate k z).toArray e)) ?_ Ca<|h _ _ (p.alloc rfl ⟨by simp, .inr ⟨_, 0, _, _, rfl, heap_alloc_new w _, Nat.le_refl _, by simp only [maxLen];omega, by simp, by simp⟩⟩) ya Ca;simp only [execOp, l ds, m ds, Sem.run_bind, a, Result.andThen_ok, Sem.run_pure]
theorem RA {α : Type}[Ja α]{z : Value}{x : α}(h : ∀ μ : M, Ja.cs μ [z] x) : ∀ k, qa μ (List.replicate k z) (List.replicate k x)
  | 0 => rfl
  | k + 1 => ⟨[z], _, rfl, h μ, RA h k⟩
theorem CU {t e : TypeId}{v : Value}{a : Option Addr}{k c : Nat}(b : P.underlying t = some (.slice e)) : Cr P 1 t (.slice a k c) (.slice none 0 0) a.isNone := ⟨λd w Ca => by
  cases d with
  | zero => omega
  | succ d => cases a <;> simp [Op.equalIn, run_underlying b]⟩
theorem PQ {x : Operand}{t cb e : TypeId}{a : Option Addr}{k c : Nat}(b : P.underlying t = some (.slice e)) (d : ab fr x (.slice a k c)) (f : zf fr dst (.bool a.isNone) ya) (h : K ya ds w) :
    pd P (Oper.mk dst (.binOp .eql t x (.const (.slice none 0 0)) cb) ty pos after g) fr ds w K Q := by
  refine Ob ⟨λds w => ?_⟩ f h;have i := d ds;have j : (F fr ds).eval (.const (.slice none 0 0)) = .slice none 0 0 := rfl;have l := (CU (v := .nilIface) (a := a) (k := k) (c := c) b).out Op.maxDepth w (by decide);simp [execOp, i, j, eqGuard, binOp, Op.equal, l]
def small {α : Type}(l : List α) : Option Unit := if l.length <= 65536 then some () else none
theorem tA {α : Type}{l : List α}{u : Unit}(h : small l = some u) : l.length <= 65536 := by
  unfold small at h;split at h
  · assumption
  · cases h
theorem qa.IK {α : Type}[Ja α] : ∀ {l : List α}{cells : List Value}(i : Nat), qa μ cells l -> qa μ (cells.take (i * Ja.sz α)) (l.take i)
  | [], cells, i, h => by rw [qa] at h; subst h; simp [qa]
  | x :: l, cells, 0, h => by simp [qa]
  | x :: l, cells, i + 1, h => by
    rw [qa] at h;obtain ⟨cs, t, rfl, a, b⟩ := h;rw [List.take_succ_cons, qa];refine ⟨cs, t.take (i * Ja.sz α), ?_, a, qa.IK i b⟩;have e : (i + 1) * Ja.sz α = cs.length + i * Ja.sz α := by rw [Nat.add_mul, Ja.Qh a];omega
    rw [e, List.take_append];simp [List.take_of_length_le (show cs.length <= cs.length + i * Ja.sz α by omega)]
theorem Row.VV {α : Type}[Ja α]{v : Value}{cells : List Value}{l Aa : List α}{j : Int}(h : Row w v T (Ja.sz α) l.length cells) (c : qa μ cells l) (g : cut l 0 j = some Aa) :
    ∃ a b, Zu v (Ja.sz α) none (some j) a /\ a.ownBlock = v.ownBlock /\ (∀ w T, Row w v T (Ja.sz α) l.length cells -> Row w a T (Ja.sz α) Aa.length b) /\ qa μ b Aa := by
  obtain ⟨⟨m, d, e⟩, rfl⟩ := Yv g;obtain ⟨a, sa, f, i⟩ := Row.GK h d e;refine ⟨a, cells.take (j.toNat * Ja.sz α), sa, f, λw T k => ?_, by simpa using c.IK j.toNat⟩;have := i w T k;have la : ((l.take j.toNat).drop (0 : Int).toNat).length = j.toNat := by simp;omega
  rw [la];exact this
theorem QQ {recv : Operand}{xs : List Operand}{tys : Array TypeId}{name : String}{k : FuncId}{t : TypeId}{a : Value}{vs : List Value}(b : ∀ w, (method (P.types.size + Made.depth) t a name).run P w = .ok (k, a) w) (c : fb P k) (d : ab fr recv (.iface t a)) (e : Om fr xs vs) :
    (execOp (F fr ds).eval (Oper.mk dst (.call { callee := .invoke recv name, args := ⟨xs⟩, argTypes := tys }) ty pos after g)).run P w = .ok (.enter k ⟨a :: vs⟩) w := by
  have f := d ds;have h := e ds;have i := c.out ⟨a :: vs⟩ w;have j := b w;simp [execOp, resolve, f, invoke, callMethod, h, i, j]
theorem KA {recv : Operand}{xs : List Operand}{tys : Array TypeId}{name : String}{k : FuncId}{t : TypeId}{a : Value}{vs : List Value}{R : Value -> World -> Prop}(b : ∀ w, (method (P.types.size + Made.depth) t a name).run P w = .ok (k, a) w) (c : fb P k) (d : ab fr recv (.iface t a)) (e : Om fr xs vs)
    (f : kb P k (a :: vs) w R) (h : ∀ v w', R v w' -> Hg fr dst v λya => K ya ds w') : pd P (Oper.mk dst (.call { callee := .invoke recv name, args := ⟨xs⟩, argTypes := tys }) ty pos after g) fr ds w K Q :=
  FA (args := a :: vs) (QQ b c d e) f h
end
end
section
open Go.Bc Go.RowKit
section
variable {P:Program}{Q:Exit->Act->World->Prop}{K:List Value->List Deferred->World->Prop}{fr ya:List Value}{ds:List Deferred}{w w':World}
variable {dst:Option Tmp}{ty:TypeId}{pos:String}{after:Array Edge}{g:Option (Nat×Bool)}
variable {da:World}{rs rs':List Ha}{μ J:M}
variable {T:TypeId}{d:TypeDesc}{mc:Bool}{zc:List Value}{n m:Nat}
def Dt (a b:Int):Option Int:=if b=0 then none else some (a.tmod b)
theorem Rs {a b c:Int}(h:Dt a b=some c):b≠0/\a.tmod b=c:=by
 unfold Dt at h;split at h
 ·cases h
 ·rename_i d;exact ⟨d,Option.some.inj h⟩
theorem Dk.uniq {v:Value}{sz:Nat}{i:Int}{b o Rc a:Nat}(h:Dk v sz i b o) (d:Dk v sz i Rc a):b=Rc/\o=a:=by
 obtain ⟨e,n,c,rfl,_,_,rfl⟩:=h.out;obtain ⟨f,ld,gb,he,_,_,rfl⟩:=d.out;cases he;exact ⟨rfl,rfl⟩
theorem DS {x y:Operand}{t cb:TypeId}{d:TypeDesc}{a b:Int}(k:P.underlying t=some d) (c:ab fr x (.int .i64 a)) (f:ab fr y (.int .i64 b)):Af P (Oper.mk dst (.call { callee:=.builtin .min,args:=#[x,y],argTypes:=#[t,cb] }) ty pos after g) fr (.int .i64 (min a b)):=⟨λds w=>by
 have i:=c ds;have j:=f ds;have e:min a b=if b<a then b else a:=by simp only [Int.min_def];split<;>split<;>omega
 rw [e];by_cases h:b<a<;>simp [execOp,resolve,invoke,builtin,i,j,Builtin.min_,Builtin.min2,h]⟩
theorem ES {x y:Operand}{t cb:TypeId}{d:TypeDesc}{a b:Int}(k:P.underlying t=some d) (c:ab fr x (.int .i64 a)) (f:ab fr y (.int .i64 b)):Af P (Oper.mk dst (.call { callee:=.builtin .max,args:=#[x,y],argTypes:=#[t,cb] }) ty pos after g) fr (.int .i64 (max a b)):=⟨λds w=>by
 have i:=c ds;have j:=f ds;have e:max a b=if a<b then b else a:=by simp only [Int.max_def];split<;>split<;>omega
 rw [e];by_cases h:a<b<;>simp [execOp,resolve,invoke,builtin,i,j,Builtin.max_,Builtin.max2,h]⟩
theorem DU {t:TypeId}{zg rs:Array TypeId}{a:Bool}(b:P.underlying t=some (.func zg rs a)):Cr P 1 t .nilFunc .nilFunc true:=⟨λd w Ca=>by
 cases d with
 | zero=>omega
 | succ d=>simp [Op.equalIn,run_underlying b]⟩
theorem EU {t e:TypeId}(a:P.underlying t=some (.pointer e)):Cr P 1 t (.pointer none) (.pointer none) true:=⟨λd w Ca=>by
 cases d with
 | zero=>omega
 | succ d=>simp [Op.equalIn,run_underlying a]⟩
theorem cO {x:Operand}{t cb:TypeId}{zg rs:Array TypeId}{a:Bool}(b:P.underlying t=some (.func zg rs a)) (c:ab fr x .nilFunc):Af P (Oper.mk dst (.binOp .neq t x (.const .nilFunc) cb) ty pos after g) fr (.bool false):=⟨λds w=>by
 have d:=c ds;have e:(F fr ds).eval (.const .nilFunc)=.nilFunc:=rfl;have f:=(DU b).out Op.maxDepth w (by decide);simp [execOp,d,e,eqGuard,binOp,Op.equal,f]⟩
theorem dO {x:Operand}{t cb e:TypeId}(a:P.underlying t=some (.pointer e)) (b:ab fr x (.pointer none)):Af P (Oper.mk dst (.binOp .eql t x (.const (.pointer none)) cb) ty pos after g) fr (.bool true):=⟨λds w=>by
 have c:=b ds;have d:(F fr ds).eval (.const (.pointer none))=.pointer none:=rfl;have f:=(EU a).out Op.maxDepth w (by decide);simp [execOp,c,d,eqGuard,binOp,Op.equal,f]⟩
theorem eO {x:Operand}{t cb e:TypeId}(a:P.underlying t=some (.pointer e)) (b:ab fr x (.pointer none)) (c:zf fr dst (.bool true) ya) (h:K ya ds w):pd P (Oper.mk dst (.binOp .eql t x (.const (.pointer none)) cb) ty pos after g) fr ds w K Q:=Ob (dO a b) c h
end
end
section
open Go.Bc Go.RowKit
instance:Ja UInt8 where
 sz:=1
 pos:=by decide
 cs _ l x:=l=[.int .u8 x.toNat]
 Qh h:=by rw [h];rfl
 up _ h:=h
 fg h:=by rw [h];rfl
def qG (l:List UInt8):Option Int:=if l.length<=9223372036854775806 then (match Lib.parseIntB 64 l with | .ok v=>some v | _=>none) else none
def gB (l sub:List UInt8):Option Bool:=if l.length<4294967281 then some (Lib.contains l sub) else none
end
section
open Go.Bc Go.RowKit
section
variable {μ Fl:M}{da w w':World}{rs:List Ha}{T:TypeId}
def BB (w:World) (Fl:M):Prop:=∀ w',Fl w'->w.heap.size<=w'.heap.size/\∀ k,k<w.heap.size->w'.heap[k]?=w.heap[k]?
theorem _root_.Go.Bc.Sep.borrow (h:fa μ da w rs):∃ Fl,ha μ Fl/\fa Fl w w []/\BB w Fl:=by
 refine ⟨λw'=>μ w'/\(w.heap.size<=w'.heap.size/\∀ k,k<w.heap.size->w'.heap[k]?=w.heap[k]?),λ_ a=>a.1,Sep.start w _ _ ?_,λ_ a=>a.2⟩;intro w' c d;exact ⟨h.Xi w' c λk b _=>d k b trivial,c,λk b=>d k b trivial⟩
theorem BB.holds {r:Ha}(a:BB w Fl) (h:r.holds w) (c:Fl w'):r.holds w':=holds_of h λb d=>(a w' c).2 b (sH h d)
theorem _root_.Go.Bc.Row.shape {v:Value}{sz n:Nat}{xs:List Value}(h:Row w v T sz n xs):∃ a c,v=.slice a n c:=by
 rcases h.2 with ⟨rfl,rfl⟩ | ⟨g,o,cap,cur,rfl,-⟩
 ·exact ⟨_,_,rfl⟩
 ·exact ⟨_,_,rfl⟩
theorem _root_.Go.Bc.Row.rd {α:Type}[Ja α]{a:Option Addr}{c:Nat}{cells:List Value}{l:List α}(k:BB w Fl) (hle:ha μ Fl) (h:Row w (.slice a l.length c) T (Ja.sz α) l.length cells) (m:qa μ cells l):za Fl a c l:=by
 have n:∀ w',Fl w'->Row w' (.slice a l.length c) T (Ja.sz α) l.length cells:=λw' p=>k.holds (r:=.row (.slice a l.length c) T (Ja.sz α) l.length cells) h p;rcases h.2 with ⟨e,q⟩ | ⟨g,o,cap,cur,e,C,s,t,D,E⟩
 ·obtain rfl:=List.eq_nil_of_length_eq_zero q;obtain ⟨rfl,-,rfl⟩:=Value.slice.inj e;exact za.nil
 ·obtain ⟨rfl,-,rfl⟩:=Value.slice.inj e;refine ⟨s,t,.inr ⟨g,o,rfl,λi=>(cells.drop<|i*Ja.sz α).take (Ja.sz α),λi x f=>⟨?_,Ja.up hle<|m.get f⟩⟩⟩;intro v y j u d;have z:0<l.length:=by have:=(List.getElem?_eq_some_iff.1 f).1;omega
  obtain ⟨b,F,c,Oa,A⟩:=(n v y).Ln z;simp at Oa;obtain ⟨⟨rfl,rfl⟩,rfl⟩:=Oa;have B:j<Ja.sz α:=by
   have:=(List.getElem?_eq_some_iff.1 d).1;simp at this;omega
  rw [List.getElem?_take_of_lt B,List.getElem?_drop] at d;have:=A _ u d;rw [<- Nat.add_assoc] at this;exact this
def Et {α:Type}(B:Nat) (l:List α) (xs:List α):Option (List α):=if l.length+xs.length<=B then some (l++xs) else none
theorem nJ {α:Type}{B:Nat}{a b c:List α}(h:Et B a b=some c):c=a++b/\a.length+b.length<=B:=by
 unfold Et at h;split at h
 ·rename_i k;exact ⟨(Option.some.inj h).symm,k⟩
 ·cases h
theorem qa.Et {α:Type}[Ja α]{B:Nat}{cells news:List Value}{l xs Aa:List α}(h:qa μ cells l) (k:qa μ news xs) (g:Et B l xs=some Aa):qa μ (cells++news) Aa:=by
 obtain ⟨rfl,-⟩:=nJ g;exact qa.cat k h
end
section
variable {P:Program}{Q:Exit->Act->World->Prop}{K:List Value->List Deferred->World->Prop}{fr ya:List Value}{ds:List Deferred}{w w':World}
variable {dst:Option Tmp}{ty:TypeId}{pos:String}{after:Array Edge}{g:Option (Nat×Bool)}{T:TypeId}{mc:Bool}{zc:List Value}{rs rs':List Ha}{μ:M}{da:World}
theorem RQ {α:Type}[Ja α]{B:Nat}{t:TypeId}{s x:Operand}{v:Value}{bytes k b f c:Nat}{cells news:List Value}{l ys Aa:List α}(n:P.underlying t=some (.slice T)) (o:wb P T mc zc (Ja.sz α) bytes) (p:zc.length=Ja.sz α)
  (q:ab fr s v) (r:ab fr x (.slice (some ⟨b,0,none⟩) f c)) (i:fa μ da w rs) (la:Zb rs k (.row v T (Ja.sz α) l.length cells)) (y:dj w b 0 news) (m:qa μ news ys) (z:ys.length=f) (A:Et B l ys=some Aa) (C:B*bytes<=140737488355328/\B<=9223372036854775807)
  (h:∀ d w' rs',Xb rs k (.row d T (Ja.sz α) Aa.length (cells++news)) rs'->fa μ da w' rs'->Hg fr dst d λya=>K ya ds w') :
  pd P (Oper.mk dst (.call { callee:=.builtin .append,args:=#[s,x],argTypes:=#[t,t] }) ty pos after g) fr ds w K Q:=by
 obtain ⟨rfl,D⟩:=nJ A;subst z;have E:(l.length+ys.length)*bytes<=140737488355328:=Nat.le_trans (Nat.mul_le_mul_right _ D) C.1;obtain ⟨d,w',F,G,H,Oa⟩:=gH (P:=P) (ty:=ty) n o p Ja.pos (i.get la) (a:=⟨b,0,none⟩) (c:=c) m.len (λj u e=>by rw [tk];exact y j u e) (λu e=>oA (List.all_eq_true.1 m.fg u e)) (by unfold maxLen;omega) E;obtain ⟨ya,Ca⟩:=Fi fr dst d;have L:(l++ys).length=l.length+ys.length:=List.length_append;rw [L] at h;refine Fh (v:=d) (w':=w') ?_ Ca<|h d w' _ rfl (i.row la rfl G H Oa) ya Ca;have sa:=q ds;have M:=r ds;simp [execOp,resolve,invoke,builtin,sa,M,F]
end
end
section
open Go.Bc Go.RowKit
section
variable {P:Program}{Q:Exit->Act->World->Prop}{K:List Value->List Deferred->World->Prop}{fr ya:List Value}{ds:List Deferred}{w:World}
variable {dst:Option Tmp}{ty:TypeId}{pos:String}{after:Array Edge}{g:Option (Nat×Bool)}
variable {da:World}{rs rs':List Ha}{μ J:M}{Dg α:Type}
def rG (V:Dg->Value) (r:Except Dg α) (R:α->Value->World->Prop) (E:World->Prop):Ending->World->Prop
 | .returned v,w=>∃ x,r=.ok x/\R x v w
 | .panicked a,w=>∃ e,r=.error e/\a=[{ v:=V e,recovered:=false }]/\E w
 | .outgrown,_=>False
structure nc (P:Program) (f:FuncId) (args:List Value) (w:World) (V:Dg->Value) (r:Except Dg α) (R:α->Value->World->Prop) (E:World->Prop):Prop where
 out:Calls P f ⟨args⟩ w (rG V r R E)
def ot (P:Program) (fn:Func) (V:Dg->Value) (r:Except Dg α) (R:α->Value->World->Prop) (E:World->Prop):Exit->Act->World->Prop:=bodyPost P fn (rG V r R E)
theorem jf {f:FuncId}{fn:Func}{c:Code}{args frm:List Value}{V:Dg->Value}{r:Except Dg α}{R:α->Value->World->Prop}{E:World->Prop}(a:P.funcs[f]?=some fn) (b:fn.body=some c)
  (d:args++List.replicate (fn.ntmps - args.length) undef=frm) (h:ud P c (ot P fn V r R E) frm [] w):nc P f args w V r R E:=by
 refine ⟨calls_of_wp a b ?_⟩;subst d;have:(⟨args⟩:Array Value)++Array.replicate (fn.ntmps - args.length) undef=⟨args++List.replicate (fn.ntmps - args.length) undef⟩:=by
  apply Array.ext';simp
 have h:=h.out;simpa [F,ot,this] using h
variable {fn:Func}{V:Dg->Value}{x:α}{r:Except Dg α}{R:α->Value->World->Prop}{E:World->Prop}
theorem yW {a:Act}(h:lq P fn (R x) .ret a w):ot P fn V (.ok x) R E .ret a w:=by
 obtain ⟨b,v,c,d⟩:=h;exact ⟨b,v,c,x,rfl,d⟩
theorem WV {a:Act}(h:lq P fn (R x) .normal a w):ot P fn V (.ok x) R E .normal a w:=by
 obtain ⟨b,v,c,d⟩:=h;exact ⟨b,v,c,x,rfl,d⟩
theorem JG {e:Dg}(h:E w):ot P fn V (.error e) R E (.panic [{ v:=V e,recovered:=false }]) (F fr []) w:=⟨rfl,e,rfl,rfl,h⟩
def iw (P:Program) (fn:Func) (R:Value->World->Prop):Exit->Act->World->Prop:=bodyPostD P fn (okV R)
def SA (fn:Func):List Nat:=fn.results.toList.map λr=>match r with | .tmp t=>t | .cell a _=>a
theorem fN {b:List Value}{d:Nat}{v:Value}{r:ResultVar}(h:(match r with | .tmp t=>t | .cell a _=>a)≠d):po ⟨b.set d v⟩ r=po ⟨b⟩ r:=by
 cases r with
 | tmp t =>
  have:t≠d:=h;simp [po,List.getElem?_set,Ne.symm this]
 | cell a t =>
  have:a≠d:=h;simp [po,List.getElem?_set,Ne.symm this]
theorem BM {fn:Func}{b:List Value}{d:Nat}{v:Value}(h:(SA fn).contains d=false):results fn ⟨b.set d v⟩=results fn ⟨b⟩:=by
 rw [fD,fD];have key:∀ l:List ResultVar,(∀ r ∈ l,(match r with | .tmp t=>t | .cell a _=>a)≠d)->l.mapM (po ⟨b.set d v⟩)=l.mapM (po ⟨b⟩):=by
  intro l la
  induction l with
  | nil=>rfl
  | cons r l f =>
   rw [List.mapM_cons,List.mapM_cons,fN (la r (by simp)),f λr c=>la r (by simp [c])]
 have g:∀ r ∈ fn.results.toList,(match r with | .tmp t=>t | .cell a _=>a)≠d:=by
  intro r c e;have:d ∈ SA fn:=List.mem_map.2 ⟨r,c,e⟩;simp [List.contains_iff_mem,this] at h
 rw [Array.mapM_eq_mapM_toList,Array.mapM_eq_mapM_toList,key _ g]
theorem Leaves.set {fn:Func}{g:List Value}{d:Nat}{v:Value}{R:Ending->World->Prop}(h:(SA fn).contains d=false):∀ (ds:List Deferred) (u:FrameMode) (w:World),Leaves P fn ⟨g.set d v⟩ R ds u w->Leaves P fn ⟨g⟩ R ds u w
 | [],.returning,w,la=>by
  obtain ⟨x,a,b⟩:=la;exact ⟨x,by rw [<- a,BM h],b⟩
 | [],.panicking i,w,la=>la
 | [],.run,w,la=>la
 | l::ds,u,w,la=>by
  obtain ⟨j,Fj,cap,f,args,a,b,k⟩:=la;refine ⟨j,Fj,cap,f,args,a,b,k.mono λe m w' c=>?_⟩;cases e with
  | returned x=>exact Leaves.set h ds _ _ c
  | panicked i=>exact Leaves.set h ds _ _ c
  | outgrown=>exact c
theorem dv {fn:Func}{R:Value->World->Prop}{a:List PanicEntry}{d:Nat}{v:Value}(Ca:(SA fn).contains d=false) (h:iw P fn R (.panic a) (F (fr.set d v) ds) w):iw P fn R (.panic a) (F fr ds) w:=Leaves.set Ca _ _ _ h
theorem SQ {f:FuncId}{fn:Func}{c:Code}{args frm:List Value}{R:Value->World->Prop}(a:P.funcs[f]?=some fn) (b:fn.body=some c)
  (d:args++List.replicate (fn.ntmps - args.length) undef=frm) (h:ud P c (iw P fn R) frm [] w):kb P f args w R:=by
 refine ⟨Calls.mono (calls_of_wp_defers (R:=okV R) a b ?_) λe w g=>by cases e<;>exact g⟩;subst d;have sa:(⟨args⟩:Array Value)++Array.replicate (fn.ntmps - args.length) undef=⟨args++List.replicate (fn.ntmps - args.length) undef⟩:=by
  apply Array.ext';simp
 have h:=h.out;simpa [F,sa,iw] using h
theorem DL {fn:Func}{R:Value->World->Prop}{a:Act}(h:nt P fn R .ret a w):iw P fn R .ret a w:=h
structure QI (P:Program) (f:FuncId) (args:List Value) (a:List PanicEntry) (w:World) (R:World->Prop):Prop where
 out:CallsD P f ⟨args⟩ (.panicking a) w λe b w'=>settle b=.returning/\okV (λ_ w'=>R w') e w'
theorem zW {fn:Func}{R:Value->World->Prop}{v:Value}{b:World->Prop}{k:FuncId}{cap vs:List Value}(d:fb P k) (f:QI P k (vs++cap) [{ v,recovered:=false }] w b) (h:∀ w',b w'->nt P fn R .ret (F fr ds) w') :
  iw P fn R (.panic [{ v,recovered:=false }]) (F fr (⟨.fn (.func k) ⟨cap⟩,⟨vs⟩⟩::ds)) w:=by
 refine ⟨by simp,.func k,⟨cap⟩,k,⟨vs++cap⟩,rfl,?_,?_⟩
 ·have:=d.out ⟨vs++cap⟩ w;simp [invoke,this]
 ·refine f.out.mono λe g w' a=>?_;obtain ⟨i,a⟩:=a;cases e with
  | returned v =>
   show Leaves P fn ⟨fr⟩ (okV R) ds (settle g) w';rw [i];exact h w' a
  | panicked c=>exact a.elim
  | outgrown=>exact a.elim
end
end
section
open Go.Bc Go.RowKit
section
variable {P:Program}{Q:Exit->Act->World->Prop}{K:List Value->List Deferred->World->Prop}{fr ya:List Value}{ds:List Deferred}{w:World}
variable {dst:Option Tmp}{ty:TypeId}{pos:String}{after:Array Edge}{g:Option (Nat×Bool)}{Dg α:Type}
variable {V:Dg->Value}{r:Except Dg α}{R:α->Value->World->Prop}{E:World->Prop}
theorem yu {f:Operand}{xs:List Operand}{tys:Array TypeId}{k:FuncId}{cap vs:List Value}(d:fb P k) (i:ab fr f (.func (.func k) #[] ⟨cap⟩)) (j:Om fr xs vs)
  (l:nc P k (vs++cap) w V r R E) (h:∀ x v w',r=.ok x->R x v w'->Hg fr dst v λya=>K ya ds w') (m:∀ e w',r=.error e->E w'->Q (.panic [{ v:=V e,recovered:=false }]) (F fr ds) w'):pd P (Oper.mk dst (.call { callee:=.value f,args:=⟨xs⟩,argTypes:=tys }) ty pos after g) fr ds w K Q:=by
 constructor;intro p n;have o:=YD (w:=w) (dst:=dst) (ty:=ty) (pos:=pos) (after:=after) (g:=g) (tys:=tys) (ds:=ds) (cap:=cap) d i j;unfold Oper.wp;rw [o,Oper.upon_enter];exact Calls.mono l.out λe w' a=>by
  cases e with
  | returned v =>
   obtain ⟨x,b,c⟩:=a;obtain ⟨ya,Ca⟩:=Fi fr dst v;exact Ca.rw<|n _ _ _<|h x v w' b c ya Ca
  | panicked q =>
   obtain ⟨e,b,rfl,c⟩:=a;exact m e w' b c
  | outgrown=>exact a.elim
theorem aC {fn:Func}{e:Dg}(a:r=.error e) (h:E w):ot P fn V r R E (.panic [{ v:=V e,recovered:=false }]) (F fr []) w:=by subst a;exact JG h
theorem eg {fn:Func}{t:Tmp}{x:α}{v:Value}(a:fn.results=#[.tmp t]) (la:Zb fr t v) (b:r=.ok x) (h:R x v w):ot P fn V r R E .ret (F fr []) w:=by subst b;exact yW (Hd a la h)
theorem zp {fn:Func}{t:Tmp}{v:Value}(a:fn.results=#[.tmp t]) (la:Zb fr t v) (h:∃ x,r=.ok x/\R x v w):ot P fn V r R E .ret (F fr []) w:=by obtain ⟨x,b,h⟩:=h;exact eg a la b h
end
section
variable {P:Program}{Q:Exit->Act->World->Prop}{K:List Value->List Deferred->World->Prop}{fr ya:List Value}{ds:List Deferred}{w:World}
variable {dst:Option Tmp}{ty:TypeId}{pos:String}{after:Array Edge}{g:Option (Nat×Bool)}
theorem GS {x y:Operand}{t cb b:TypeId}{mc:Bool}{zc:List Value}{n m:Nat}{a:Addr}(c:P.underlying t=some (.pointer b)) (e:wb P b mc zc n m)
  (f:ab fr x (.pointer (some a))) (i:ab fr y (.pointer (some a))) (Ca:zf fr dst (.bool true) ya) (h:K ya ds w):pd P (Oper.mk dst (.binOp .eql t x y cb) ty pos after g) fr ds w K Q:=by
 obtain ⟨j,-,k,-⟩:=e.inf;refine Fh (w':=w) ?_ Ca h;have sa:=f ds;have l:=i ds;have o:∀ d:Nat,(Op.equalIn (d+1) t (.pointer (some a)) (.pointer (some a))).run P w=.ok true w:=λd=>by
  simp [Op.equalIn,run_underlying c,sizeOf,typeInfo,k,run_sameAddr_same]
 have p:(Op.equalIn Op.maxDepth t (.pointer (some a)) (.pointer (some a))).run P w=.ok true w:=o 9999;simp [execOp,sa,l,eqGuard,binOp,Op.equal,p]
theorem ZJ {x y:Operand}{t cb c e Ea:TypeId}{mc:Bool}{zc:List Value}{n m:Nat}{a b:Nat}{Xa f:List Value}(i:P.underlying t=some (.pointer c)) (k:wb P c mc zc n m) (l:n≠0) (o:a≠b) (p:Ck w a e Xa) (q:Ck w b Ea f)
  (r:ab fr x (.pointer (some ⟨a,0,none⟩))) (s:ab fr y (.pointer (some ⟨b,0,none⟩))) (Ca:zf fr dst (.bool false) ya) (h:K ya ds w):pd P (Oper.mk dst (.binOp .eql t x y cb) ty pos after g) fr ds w K Q:=by
 obtain ⟨j,z,u,-,-,v,-⟩:=k.inf;have A:j.size≠0:=by rw [v];exact l
 refine Fh (w':=w) ?_ Ca h;have sa:=r ds;have B:=s ds;have lb:(sameAddr ⟨a,0,none⟩ ⟨b,0,none⟩).run P w=.ok false w:=run_sameAddr_other w (λh=>by cases h;exact o rfl) p q;have C:∀ d:Nat,(Op.equalIn (d+1) t (.pointer (some ⟨a,0,none⟩)) (.pointer (some ⟨b,0,none⟩))).run P w=.ok false w:=λd=>by
  simp [Op.equalIn,run_underlying i,sizeOf,typeInfo,u,A,lb]
 have D:(Op.equalIn Op.maxDepth t (.pointer (some ⟨a,0,none⟩)) (.pointer (some ⟨b,0,none⟩))).run P w=.ok false w:=C 9999;simp [execOp,sa,B,eqGuard,binOp,Op.equal,D]
theorem aK {x:Operand}{t cb:TypeId}{v:Value}{b:Bool}{Tw:TypeDesc}(a:P.underlying t=some Tw) (e:(match Tw with | .func _ _ _=>true | _=>false)=true) (Oa:(v=.nilFunc/\b=false)\/((∃ k c d,v=.func k c d)/\b=true))
  (f:ab fr x v) (Ca:zf fr dst (.bool b) ya) (h:K ya ds w):pd P (Oper.mk dst (.binOp .neq t x (.const .nilFunc) cb) ty pos after g) fr ds w K Q:=by
 refine Fh (w':=w) ?_ Ca h;have sa:=f ds;have i:(F fr ds).eval (.const .nilFunc)=.nilFunc:=rfl;have j:∀ d:Nat,(Op.equalIn (d+1) t v .nilFunc).run P w=.ok (!b) w:=λd=>by
  rcases Oa with ⟨rfl,rfl⟩ | ⟨⟨k,c,d,rfl⟩,rfl⟩<;>cases Tw<;>simp at e<;>simp [Op.equalIn,run_underlying a]
 have l:(Op.equalIn Op.maxDepth t v .nilFunc).run P w=.ok (!b) w:=j 9999;simp [execOp,sa,i,eqGuard,binOp,Op.equal,l]
end
section
variable {P:Program}{Q:Exit->Act->World->Prop}{K:List Value->List Deferred->World->Prop}{fr ya:List Value}{ds:List Deferred}{w da:World}
variable {dst:Option Tmp}{ty:TypeId}{pos:String}{after:Array Edge}{g:Option (Nat×Bool)}{μ:M}{rs:List Ha}{T:TypeId}{mc:Bool}{zc:List Value}
theorem JK {α:Type}[Ja α]{x y z:Operand}{a:Option Addr}{c m:Nat}{xs:List α}{e:TypeId}(f:P.underlying T=some (.slice e)) (i:wb P e mc zc (Ja.sz α) m) (j:ab fr x (.slice a xs.length c)) (k:ab fr y (.int .i64 xs.length)) (l:ab fr z (.int .i64 xs.length)) (h:za μ a c xs) :
  Af P (Oper.mk dst (.slice T x none (some y) (some z)) ty pos after g) fr (.slice a xs.length xs.length):=by
 refine ⟨λds w=>?_⟩;have hle:=h.le;have sa:((xs.length:Nat):Int)<=(c:Int):=by omega
 have lb:(if xs.length=0 then a else a.map (·.add (0*Ja.sz α)))=a:=by
  rcases h.el with rfl | ⟨b,o,rfl,-⟩
  ·simp
  ·split<;>simp [Addr.add]
 have d:(execOp (F fr ds).eval (Oper.mk dst (.slice T x none (some y) (some z)) ty pos after g)).run P w=.ok (.value (.slice (if xs.length=0 then a else a.map (·.add (0*Ja.sz α))) xs.length xs.length)) w:=by
  simp [execOp,j ds,k ds,l ds,Instr.sliceAt,Instr.slice,run_underlying f,Instr.sliceBounds,Instr.sliceBound,asIntOf,i.sizeOf,hle]
 rw [lb] at d;exact d
theorem za.full {α:Type}[Ja α]{a:Option Addr}{c:Nat}{xs:List α}(h:za μ a c xs):za μ a xs.length xs:=⟨Nat.le_refl _,Nat.le_trans h.le h.cap,h.el⟩
theorem bK {α:Type}[Ja α]{t:TypeId}{s x:Operand}{bytes b A c:Nat}{a:Option Addr}{news:List Value}{xs ys Aa:List α}(G:P.underlying t=some (.slice T)) (H:wb P T mc zc (Ja.sz α) bytes) (L:zc.length=Ja.sz α)
  (M:ab fr s (.slice a xs.length xs.length)) (N:ab fr x (.slice (some ⟨b,0,none⟩) A c)) (O:za μ a xs.length xs) (d:fa μ da w rs) (R:dj w b 0 news) (o:qa μ news ys) (bb:ys.length=A) (ol:0<A) (Gb:app xs ys=some Aa) (S:bytes<=4096)
  (h:∀ l U w',qa μ U Aa->fa μ da w' (.row l T (Ja.sz α) Aa.length U::rs)->Hg fr dst l λya=>K ya ds w') :
  pd P (Oper.mk dst (.call { callee:=.builtin .append,args:=#[s,x],argTypes:=#[t,t] }) ty pos after g) fr ds w K Q:=by
 obtain ⟨rfl,V⟩:=Eu Gb;obtain ⟨p,B,gc⟩:=za.cells O;subst bb;have W:=o.len;have lc:(xs.length+ys.length)*bytes<=140737488355328:=Nat.le_trans (Nat.mul_le_mul V S) (by decide);have rc:a=none->xs=[]:=λfd=>by
  rcases O.el with q | ⟨Rc,id,q,-⟩
  ·exact q
  ·rw [fd] at q;cases q
 cases a with
 | none =>
  have:=rc rfl;subst this;refine su (k:=0) (n:=0) (xs:=[]) G H (by simp [L,Ja.pos]) M N (d.mi T<|Ja.sz α) rfl R W o.fg ⟨by simpa using V,S⟩ λl w' rs' md nd=>?_;cases (show _=rs' from md);exact h l news w' o (by simpa using nd)
 | some qC =>
  obtain ⟨i,z,sa,C,rd,wd,Fd⟩:∃ (i:TypeInfo) (z:Value),P.info? T=some i/\i.zero=some z/\i.size=Ja.sz α/\i.bytes=bytes/\z.cells.size=Ja.sz α:=by
   obtain ⟨i,z,Id,be,ce,ge,ne⟩:=H.inf;exact ⟨i,z,Id,be,ge,ne,by rw [ce];exact L⟩
  have hold:∀ j u,p[j]?=some u->w.cell? (qC.add j)=some u:=λj u y=>by
   have D:xs≠[]:=by
    rintro rfl;have:p=[]:=B;subst this;simp at y
   obtain ⟨Rc,id,Ne,of⟩:=gc D;cases Ne;rw [tk];exact of _ d.a j u y
  obtain ⟨l,w',wf,If,e⟩:=run_append_arg_grows (P:=P) w t ty T i z (Ja.sz α) bytes G sa C rd wd Fd Ja.pos qC xs.length xs.length p B.len hold ⟨b,0,none⟩ ys.length c news W (λj u y=>by rw [tk];exact R j u y) (by omega) (by unfold maxLen;omega) lc;obtain ⟨ya,Ca⟩:=Fi fr dst l;have D:¬ (l=.slice none 0 0/\xs.length+ys.length=0):=λq=>by omega
  obtain ⟨dg,q⟩:=If;obtain ⟨f,cap,cur,rfl,rg,X,gb,c2,c3,c4⟩:=q.resolve_left D;have bi:Grow w w':=⟨e.os,e.tape,e.output,e.size,λk ci _=>e.block k ci (by simp)⟩;have Y:=d.grow bi;have ii:f ∉ blocks rs:=λE=>by have:=d.lt E;omega
  have pl:f<w'.heap.size:=(Array.getElem?_eq_some_iff.1 X).1;have li:fa μ da w' (.row (.slice (some ⟨f,0,none⟩) (xs.length+ys.length) cap) T (Ja.sz α) (xs++ys).length (p++news)::rs):=by
   refine ⟨Y.keeps,λr F=>?_,?_,λb m=>?_,?_⟩
   ·rcases List.mem_cons.1 F with rfl | F
    ·rw [List.length_append];exact ⟨dg,.inr ⟨f,0,cap,cur,rfl,X,gb,c2,by omega,by simpa using c4⟩⟩
    ·exact Y.all r F
   ·show (f::blocks rs).Nodup;exact List.nodup_cons.2 ⟨ii,d.oi⟩
   ·rcases List.mem_cons.1 (show b ∈ f::blocks rs from m) with rfl | m
    ·exact .inl<|Nat.le_trans d.keeps.size rg
    ·exact d.new b m
   ·intro pi Pi dl;refine d.Xi pi (Nat.le_trans e.size Pi) λb m Z=>?_;have nl:b≠f:=by omega
    exact (dl b (by have:=e.size;omega) ⟨Z.1,λE=>(List.mem_cons.1 (show b ∈ f::blocks rs from E)).elim nl Z.2⟩).trans (e.block b m (by simp))
  refine Fh (v:=_) (w':=w') ?_ Ca<|h _ _ w' (o.cat B) li ya Ca;have sa:=M ds;have C:=N ds;simp [execOp,resolve,invoke,builtin,sa,C,wf]
end
section
variable {S Jc:Nat->Prop}{da w:World}{A:World->Prop}
theorem _root_.Go.Bc.Sep.sG {a g t:List Ha}(h:Sep S Jc da w (g++(a++t)) A):Sep S Jc da w (a++(g++t)) A:=h.perm (by
 rw [<- List.append_assoc,<- List.append_assoc];exact List.perm_append_comm.append_right t)
end
structure vc where
 b:Nat
instance:Ja vc where
 sz:=1
 pos:=by decide
 cs _ l x:=l=[.pointer (some ⟨x.b,0,none⟩)]
 Qh h:=by subst h;rfl
 up _ h:=h
 fg h:=by subst h;rfl
structure km where
 b:Option Nat
instance:Ih km where
 ij _ v x:=v=match x.b with | none=>.pointer none | some b=>.pointer (some ⟨b,0,none⟩)
 up _ h:=h
section
variable {P:Program}{Q:Exit->Act->World->Prop}{K:List Value->List Deferred->World->Prop}{fr ya:List Value}{ds:List Deferred}{w:World}
variable {dst:Option Tmp}{ty:TypeId}{pos:String}{after:Array Edge}{g:Option (Nat×Bool)}
theorem TQ {x:Operand}{t:TypeId}{v:Value}(a:ab fr x (.iface t v)) (h:Q (.panic [{ v:=.iface t v,recovered:=false }]) (F fr ds) w):pd P (Oper.mk dst (.panic x) ty pos after g) fr ds w K Q:=by
 constructor;intro b c;have e:(execOp (F fr ds).eval (Oper.mk dst (.panic x) ty pos after g)).run P w=.halt (.panic (.iface t v)) w:=by
  simp [execOp,a ds];rfl
 unfold Oper.wp;rw [e,Oper.upon_panic];exact h
theorem UQ {x:Operand}{t:TypeId}{v:Value}(a:P.concrete t=true) (b:ab fr x v) (c:zf fr dst (.iface t v) ya) (h:K ya ds w):pd P (Oper.mk dst (.makeInterface t x) ty pos after g) fr ds w K Q:=by
 refine Fh (v:=.iface t v) (w':=w) ?_ c h;have:=run_makeInterface (P:=P) (w:=w) t v a;simp [execOp,b ds,this]
end
end
section
open Go.Bc Go.RowKit
section
variable {P:Program}{Q:Exit->Act->World->Prop}{K:List Value->List Deferred->World->Prop}{fr ya:List Value}{ds:List Deferred}{w da:World}
variable {dst:Option Tmp}{ty:TypeId}{pos:String}{after:Array Edge}{g:Option (Nat×Bool)}{S Jc:Nat->Prop}{A:World->Prop}{rs rs':List Ha}{T:TypeId}
def Ul (es:List MapEntry) (c:Nat) (k z:Value):List MapEntry:=match Ik es k with
 | some (i,_)=>es.modify i λe=>{ e with key:=k }
 | none=>es++[{ key:=k,val:=z,born:=c }]
def Uo (es:List MapEntry) (c:Nat) (k:Value):Nat:=match Ik es k with
 | some (i,_)=>((es[i]?).map (·.born)).getD 0
 | none=>c
theorem HS {x y:Operand}{je ba:TypeId}{d:TypeDesc}{kv z:Value}{b c k:Nat}{es:List MapEntry}(m:P.underlying T=some (.map je ba)) (n:P.underlying je=some d) (C:∀ w,(zeroValue ba).run P w=.ok z w) (o:ab fr x (.map (some b))) (p:ab fr y kv) (a:Kk d kv)
  (q:Sep S Jc da w rs A) (la:Zb rs k (.map b es c)) (r:∀ e ∈ es,Kk d e.key)
  (h:∀ u w' rs',Xb rs k (.map b (Ul es c kv z) (Nj es c kv)) rs'->Sep S Jc da w' rs' A->Hg fr dst (.tuple #[u,.int .i64 (Uo es c kv)]) λya=>K ya ds w'):pd P (Oper.mk dst (.mapEntry T x y) ty pos after g) fr ds w K Q:=by
 have f:w.heap[b]?=some (.map ⟨es⟩ c):=q.get la;have D:b<w.heap.size:=(Array.getElem?_eq_some_iff.1 f).1
 let w':World:={ w with heap:=w.heap.setIfInBounds b (.map ⟨Ul es c kv z⟩ (Nj es c kv)) }
 have E:Ui (λk=>k≠b) w w':=⟨rfl,rfl,rfl,by simp [w'],λj _ F=>by simp [w',Array.getElem?_setIfInBounds,Ne.symm F]⟩;have s:=q.put (b:=b) (r':=.map b (Ul es c kv z) (Nj es c kv)) (w':=w') la rfl rfl rfl (by show w'.heap[b]?=_;simp [w',D]) E;have t:=run_checkKey (P:=P) (w:=w) (b:=false) n a;have v:=run_findKey (P:=P) (w:=w) n a r;cases l:Ik es kv with
 | none =>
  obtain ⟨ya,Ca⟩:=Fi fr dst (.tuple #[z,.int .i64 (Uo es c kv)]);refine Fh (w':=w') ?_ Ca<|h z w' _ rfl s ya Ca;simp [execOp,o ds,p ds,Instr.mapEntry,run_underlying m,getObj,setObj,Sem.run,f,Result.andThen,t,v,l,w',Ul,Nj,Uo,C,goInt]
 | some e =>
  obtain ⟨i,u⟩:=e;obtain ⟨e,B,G,-⟩:=gD l;have H:=rI a (r e (List.mem_of_getElem? B)) G;obtain ⟨ya,Ca⟩:=Fi fr dst (.tuple #[u,.int .i64 (Uo es c kv)]);refine Fh (w':=w') ?_ Ca<|h u w' _ rfl s ya Ca;simp [execOp,o ds,p ds,Instr.mapEntry,run_underlying m,getObj,setObj,Sem.run,f,Result.andThen,t,v,l,B,Instr.keyThatStays,H,w',Ul,Nj,Uo,goInt]
theorem RI {α:Type}{f:α->α}{e:α}:∀ {es:List α},(es++[e]).modify es.length f=es++[f e]
 | []=>rfl
 | a::es=>by
  show (a::(es++[e])).modify (es.length+1) f=a::(es++[f e]);rw [List.modify_succ_cons,RI]
theorem lP {es:List MapEntry}{c:Nat}{kv z:Value}(k:∀ e ∈ es,e.born<c) (l:es.Pairwise λa b=>a.born<b.born):(Ul es c kv z).findIdx? (λe=>((e.born:Int) == ((Uo es c kv:Nat):Int)))=some (match Ik es kv with | some (i,_)=>i | none=>es.length):=by
 rw [List.findIdx?_eq_some_iff_getElem];cases f:Ik es kv with
 | none =>
  simp only [Ul,Uo,f];refine ⟨by simp,by simp,λj d=>?_⟩;have:=k _ (List.getElem_mem (by simpa using d:j<es.length));rw [List.getElem_append_left (by simpa using d)];simp only [beq_iff_eq];omega
 | some e =>
  obtain ⟨i,u⟩:=e;obtain ⟨e,g,n,-⟩:=gD f;obtain ⟨h,rfl⟩:=List.getElem?_eq_some_iff.1 g;simp only [Ul,Uo,f,g,Option.map_some,Option.getD_some];refine ⟨by simpa using h,by simp,λj d=>?_⟩;have m:j<es.length:=by have:j<i:=d;omega
  have:=List.pairwise_iff_getElem.1 l j i m h d;rw [List.getElem_modify];split
  ·omega
  ·simp only [beq_iff_eq];omega
theorem IS {x s z:Operand}{kv v d:Value}{b c k:Nat}{es:List MapEntry}(o:ab fr x (.map (some b))) (p:ab fr s (.int .i64 (Uo es c kv))) (q:ab fr z v)
  (r:Sep S Jc da w rs A) (la:Zb rs k (.map b (Ul es c kv d) (Nj es c kv))) (t:∀ e ∈ es,e.born<c) (y:es.Pairwise λa b=>a.born<b.born)
  (Ca:zf fr dst undef ya) (h:∀ w' rs',Xb rs k (.map b (putAt es c kv v) (Nj es c kv)) rs'->Sep S Jc da w' rs' A->K ya ds w'):pd P (Oper.mk dst (.entryStore T x s z) ty pos after g) fr ds w K Q:=by
 have m:w.heap[b]?=some (.map ⟨Ul es c kv d⟩ (Nj es c kv)):=r.get la;have B:b<w.heap.size:=(Array.getElem?_eq_some_iff.1 m).1
 let w':World:={ w with heap:=w.heap.setIfInBounds b (.map ⟨putAt es c kv v⟩ (Nj es c kv)) }
 have C:Ui (λk=>k≠b) w w':=⟨rfl,rfl,rfl,by simp [w'],λj _ D=>by simp [w',Array.getElem?_setIfInBounds,Ne.symm D]⟩;have E:=r.put (b:=b) (r':=.map b (putAt es c kv v) (Nj es c kv)) (w':=w') la rfl rfl rfl (by show w'.heap[b]?=_;simp [w',B]) C;refine sB (w':=w') ?_ Ca<|h w' _ rfl E;have f:=lP (kv:=kv) (z:=d) t y;cases l:Ik es kv with
 | none =>
  rw [l] at f;have n:(Ul es c kv d).modify es.length (λe=>{ e with val:=v })=putAt es c kv v:=by
   simp only [Ul,putAt,l];exact RI
  simp [execOp,o ds,p ds,q ds,Instr.entryStore,getObj,setObj,Sem.run,m,Result.andThen,asInt,asIntOf,f,n,w']
 | some e =>
  obtain ⟨i,u⟩:=e;rw [l] at f;have n:(Ul es c kv d).modify i (λe=>{ e with val:=v })=putAt es c kv v:=by
   simp only [Ul,putAt,l];rw [List.modify_modify_eq];rfl
  simp [execOp,o ds,p ds,q ds,Instr.entryStore,getObj,setObj,Sem.run,m,Result.andThen,asInt,asIntOf,f,n,w']
end
section
variable {P:Program}{Q:Exit->Act->World->Prop}{K:List Value->List Deferred->World->Prop}{fr ya:List Value}{ds:List Deferred}{w da:World}
variable {dst:Option Tmp}{ty:TypeId}{pos:String}{after:Array Edge}{g:Option (Nat×Bool)}{μ:M}{rs rs':List Ha}{T:TypeId}
variable {κ β:Type}[DecidableEq κ] [hb κ] [Ih β]
theorem oJ {x y:Operand}{je ba:TypeId}{z:Value}{b c k:Nat}{es:List MapEntry}{kk:κ}{m:List (κ×β)}(a:P.underlying T=some (.map je ba)) (d:P.underlying je=some (hb.hd (κ:=κ))) (e:∀ w,(zeroValue ba).run P w=.ok z w) (f:ab fr x (.map (some b))) (i:ab fr y (hb.key kk))
  (j:fa μ da w rs) (la:Zb rs k (.map b es c)) (l:ke μ es c m)
  (h:∀ u w' rs',Xb rs k (.map b (Ul es c (hb.key kk) z) (Nj es c (hb.key kk))) rs'->fa μ da w' rs'->Hg fr dst (.tuple #[u,.int .i64 (Uo es c (hb.key kk))]) λya=>K ya ds w'):pd P (Oper.mk dst (.mapEntry T x y) ty pos after g) fr ds w K Q :=
 HS a d e f i (hb.je kk) j la l.kv.keys h
theorem pJ {x s z:Operand}{v e:Value}{b c k:Nat}{es:List MapEntry}{kk:κ}{m:List (κ×β)}{xx:β}(f:ab fr x (.map (some b))) (i:ab fr s (.int .i64 (Uo es c (hb.key kk)))) (j:ab fr z v) (Oa:Ih.ij μ v xx)
  (l:fa μ da w rs) (la:Zb rs k (.map b (Ul es c (hb.key kk) e) (Nj es c (hb.key kk)))) (a:ke μ es c m)
  (Ca:zf fr dst undef ya) (h:∀ d c' w' rs',ke μ d c' (dd m kk xx)->Xb rs k (.map b d c') rs'->fa μ da w' rs'->K ya ds w'):pd P (Oper.mk dst (.entryStore T x s z) ty pos after g) fr ds w K Q :=
 IS f i j l la a.lt a.inc Ca λw' rs'=>h _ _ w' rs' (a.put kk Oa)
end
section
variable {P:Program}{Q:Exit->Act->World->Prop}{K:List Value->List Deferred->World->Prop}{fr ya:List Value}{ds:List Deferred}{w:World}
variable {dst:Option Tmp}{ty:TypeId}{pos:String}{after:Array Edge}{g:Option (Nat×Bool)}
theorem FU {x:Operand}{a t:TypeId}{v:Value}{d:TypeDesc}(b:P.underlying t=some d) (Ca:(match d with | .interface _=>false | _=>true)=true) (c:ab fr x (.iface t v)) (e:zf fr dst (.tuple #[v,.bool true]) ya) (h:K ya ds w):pd P (Oper.mk dst (.typeAssert x a t true) ty pos after g) fr ds w K Q:=by
 refine Fh (v:=.tuple #[v,.bool true]) (w':=w) ?_ e h;have sa:=c ds;have f:(Instr.typeAssert (.iface t v) a t true).run P w=.ok (.tuple #[v,.bool true]) w:=by
  unfold Instr.typeAssert;simp only [Sem.run_bind,run_underlying b,Result.andThen_ok];cases d<;>first | (simp at Ca;done) | simp
 simp [execOp,sa,f]
end
end
section
open Go.Bc Go.RowKit
theorem Pb {α:Type}{c:Prop}[Decidable c]{y:Option α}{r:α}{G:Prop}(h:(if c then none else y)=some r) (a:c):G:=by rw [if_pos a] at h;cases h
theorem Tg {α:Type}{c:Prop}[Decidable c]{x:Option α}{r:α}{G:Prop}(h:(if c then x else none)=some r) (a:¬ c):G:=by rw [if_neg a] at h;cases h
section
variable {P:Program}{Q Q':Exit->Act->World->Prop}{fr ya:List Value}{ds:List Deferred}{w:World}{ops:Array Oper}{y:Code}{id:Nat}{l:List Oper}
theorem rm (h:ud P y Q' fr ds w):Ee P ops (Exit.then (Gp P y Q') Q) [] fr ds w:=Yg (ag h)
theorem Xk (h:Ee P l.toArray (Exit.then (Gp P y Q) Q) l fr ds w):ud P (.seq (.region id l.toArray false) y) Q fr ds w:=ma (Nh h)
theorem Rh (h:Ee P l.toArray (Exit.then (Gp P y Q') Q') l fr ds w):Ee P ops (Exit.then (Gp P (.seq (.region id l.toArray false) y) Q') Q) [] fr ds w:=Yg (ag (ma (Nh h)))
theorem yn {x:Code}(h:ud P x (Exit.then (Gp P y Q') Q') fr ds w):Ee P ops (Exit.then (Gp P (.seq x y) Q') Q) [] fr ds w:=Yg (ag (ma h))
variable {R R':List Nat}{dst:Tmp}{op:Op}{ty:TypeId}{pos:String}{after:Array Edge}{v:Value}{Va:List Mon}{j d:Nat}{b Rc:Bool}
theorem Yk (i:Nat) (S:List Nat) (a:(decide R.Nodup && enabled ops R i && waits ops R S i && en ops S R i && S.contains i,R.erase i,ops[i]?)=(true,R',some ⟨some dst,op,ty,pos,after,none⟩)) (Oa:Af P ⟨some dst,op,ty,pos,after,none⟩ fr v) (b:Xb fr dst v ya) (h:Ud P ops Q Va R' ya ds w) (c:gl Q dst:=by first | exact λ_ _ _ _ _ h=>h | exact Gk λ_ _ _ h=>h.2 | exact Gk λ_ _ _ h=>h.2.2):Ud P ops Q Va R fr ds w:=gg S c (congrArg (·.1) a) (congrArg (·.2.1) a) (congrArg (·.2.2) a) Oa b h
theorem Qc (i:Nat) (S:List Nat) (a:(decide R.Nodup && enabled ops R i && waits ops R S i && en ops S R i && S.contains i,R.erase i,ops[i]?)=(true,R',some ⟨some dst,op,ty,pos,after,none⟩)) (Oa:lk P ⟨some dst,op,ty,pos,after,none⟩ fr w v) (b:Xb fr dst v ya) (h:Ud P ops Q ((S,λw'=>lk P ⟨some dst,op,ty,pos,after,none⟩ fr w' v)::Va) R' ya ds w) (c:gl Q dst:=by first | exact λ_ _ _ _ _ h=>h | exact Gk λ_ _ _ h=>h.2 | exact Gk λ_ _ _ h=>h.2.2):Ud P ops Q Va R fr ds w:=bk S c (congrArg (·.1) a) (congrArg (·.2.1) a) (congrArg (·.2.2) a) Oa b h
end
class Bh (l:List Value) (n:Nat) (v:outParam Value):Prop where out:Zb l n v
instance {v:Value}{l:List Value}:Bh (v::l) 0 v:=⟨rfl⟩
instance {a v:Value}{l:List Value}{n:Nat}[h:Bh l n v]:Bh (a::l) (n+1) v:=⟨h.out⟩
instance (priority:=2000){c0 gb c2 c3 c4 c5 Uc ng Lf c9 v:Value}{l:List Value}{n:Nat}[h:Bh l n v]:Bh (c0::gb::c2::c3::c4::c5::Uc::ng::Lf::c9::l) (n+10) v:=⟨h.out⟩
class Jf (l:List Value) (n:Nat) (v:Value) (Aa:outParam (List Value)):Prop where out:Xb l n v Aa
instance {a v:Value}{l:List Value}:Jf (a::l) 0 v (v::l):=⟨rfl⟩
instance {a v:Value}{l Aa:List Value}{n:Nat}[h:Jf l n v Aa]:Jf (a::l) (n+1) v (a::Aa):=⟨congrArg (a::·) h.out⟩
instance (priority:=2000){c0 gb c2 c3 c4 c5 Uc ng Lf c9 v:Value}{l Aa:List Value}{n:Nat}[h:Jf l n v Aa]:Jf (c0::gb::c2::c3::c4::c5::Uc::ng::Lf::c9::l) (n+10) v (c0::gb::c2::c3::c4::c5::Uc::ng::Lf::c9::Aa):=⟨congrArg (c0::gb::c2::c3::c4::c5::Uc::ng::Lf::c9::·) h.out⟩
class sc (fr:List Value) (x:Operand) (v:outParam Value):Prop where out:ab fr x v
instance {fr:List Value}{n:Nat}{v:Value}[h:Bh fr n v]:sc fr (.tmp n) v:=⟨ba h.out⟩
instance {fr:List Value}{v:Value}:sc fr (.const v) v:=⟨db⟩
class Ii (P:Program) (op:Op) (fr:List Value) (v:outParam Value):Prop where out:∀ dst ty pos after g,Af P (Oper.mk dst op ty pos after g) fr v
section
variable {P:Program}{fr:List Value}{x y c:Operand}{v:Value}{t cb:TypeId}{k:IntKind}{a b:Int}
instance [h:sc fr x v]:Ii P (.move x) fr v:=⟨λ_ _ _ _ _=>Sl h.out⟩
instance [h:sc fr x v]:Ii P (.assign x) fr v:=⟨λ_ _ _ _ _=>XD h.out⟩
instance {a:Addr}[h:sc fr x (.pointer (some a))]:Ii P (.nilCheck x) fr (.pointer (some a)):=⟨λ_ _ _ _ _=>Wp h.out⟩
instance [c:sc fr x (.int k a)] [d:sc fr y (.int k b)]:Ii P (.binOp .eql t x y cb) fr (.bool (decide (a=b))):=⟨λ_ _ _ _ _=>rU c.out d.out⟩
instance [c:sc fr x (.int k a)] [d:sc fr y (.int k b)]:Ii P (.binOp .neq t x y cb) fr (.bool (decide (a≠b))):=⟨λ_ _ _ _ _=>sU c.out d.out⟩
instance [c:sc fr x (.int k a)] [d:sc fr y (.int k b)]:Ii P (.binOp .lss t x y cb) fr (.bool (decide (a<b))):=⟨λ_ _ _ _ _=>CK c.out d.out⟩
instance [c:sc fr x (.int k a)] [d:sc fr y (.int k b)]:Ii P (.binOp .leq t x y cb) fr (.bool (decide (a<=b))):=⟨λ_ _ _ _ _=>oU c.out d.out⟩
instance [c:sc fr x (.int k a)] [d:sc fr y (.int k b)]:Ii P (.binOp .gtr t x y cb) fr (.bool (decide (b<a))):=⟨λ_ _ _ _ _=>pU c.out d.out⟩
instance [c:sc fr x (.int k a)] [d:sc fr y (.int k b)]:Ii P (.binOp .geq t x y cb) fr (.bool (decide (b<=a))):=⟨λ_ _ _ _ _=>qU c.out d.out⟩
end
section
variable {P:Program}{Q:Exit->Act->World->Prop}{fr ya:List Value}{ds:List Deferred}{w:World}{ops:Array Oper}{rest:List Oper}{d:Tmp}{op:Op}{ty:TypeId}{pos:String}{after:Array Edge}{v:Value}
theorem st [a:Ii P op fr v] [b:Jf fr d v ya] (h:Ee P ops Q rest ya ds w):Ee P ops Q (⟨some d,op,ty,pos,after,none⟩::rest) fr ds w:=wl (Ob (a.out _ _ _ _ _) (wa b.out) h)
end
class xr (fr:List Value) (xs:List Operand) (vs:outParam (List Value)):Prop where out:Om fr xs vs
instance {fr:List Value}:xr fr [] []:=⟨lb⟩
instance {fr:List Value}{x:Operand}{v:Value}{xs:List Operand}{vs:List Value}[h:sc fr x v] [k:xr fr xs vs]:xr fr (x::xs) (v::vs):=⟨sa h.out k.out⟩
section
variable {P:Program}{fr:List Value}{x y c:Operand}{v:Value}{t cb T:TypeId}{b:Nat}{o off i:Nat}{vs:List Value}{q:Bool}
instance [a:Vb P T i off] [h:sc fr x (.pointer (some ⟨b,o,none⟩))]:Ii P (.fieldAddr T x i) fr (.pointer (some ⟨b,o+off,none⟩)):=⟨λ_ _ _ _ _=>Xl a h.out rfl⟩
instance [a:sc fr c (.bool true)] [h:sc fr x v]:Ii P (.pick c x y) fr v:=⟨λ_ _ _ _ _=>FQ a.out h.out⟩
instance [a:sc fr c (.bool false)] [h:sc fr y v]:Ii P (.pick c x y) fr v:=⟨λ_ _ _ _ _=>HQ a.out h.out⟩
instance [h:sc fr x (.bool q)]:Ii P (.unOp .not t x) fr (.bool (!q)):=⟨λ_ _ _ _ _=>uU h.out⟩
instance [h:sc fr x (.tuple ⟨vs⟩)] [k:Bh vs i v]:Ii P (.extract x i) fr v:=⟨λ_ _ _ _ _=>kF h.out k.out⟩
end
section
variable {P:Program}{Q:Exit->Act->World->Prop}{fr ya:List Value}{ds:List Deferred}{w:World}{ops:Array Oper}{rest:List Oper}{d:Tmp}{op:Op}{ty:TypeId}{pos:String}{after:Array Edge}{v:Value}{j e:Nat}{b Rc:Bool}
theorem rC [a:Ii P op fr v] [c:Jf fr d v ya] (f:(ops[j]?).bind (·.dst)=some e) [la:Bh fr e (.bool b)] (h:Ee P ops Q rest ya ds w):Ee P ops Q (⟨some d,op,ty,pos,after,some (j,b)⟩::rest) fr ds w:=mg f la.out (Ob (a.out _ _ _ _ _) (wa c.out) h)
theorem Lr [a:Jf fr d undef ya] (c:(ops[j]?).bind (·.dst)=some e) [la:Bh fr e (.bool Rc)] (f:(Rc == b)=false) (h:Ee P ops Q rest ya ds w):Ee P ops Q (⟨some d,op,ty,pos,after,some (j,b)⟩::rest) fr ds w:=wn c la.out f (wa a.out) h
theorem Dh {T:TypeId}{zc:List Value}{n m o q:Nat}{x:Operand}[a:wb P T false zc n m] (b:w.cell? ⟨q,o,none⟩=some v) [c:sc fr x (.pointer (some ⟨q,o,none⟩))] [e:Jf fr d v ya] (h:Ee P ops Q rest ya ds w):Ee P ops Q (⟨some d,.load T x,ty,pos,after,none⟩::rest) fr ds w:=wl (bp a c.out b (wa e.out) h)
theorem Yf {T:TypeId}{zc cs:List Value}{n m o q:Nat}{x:Operand}[a:wb P T true zc n m] (b:dj w q o cs) (c:cs.length=n) [e:sc fr x (.pointer (some ⟨q,o,none⟩))] [f:Jf fr d (.agg ⟨cs⟩) ya] (h:Ee P ops Q rest ya ds w):Ee P ops Q (⟨some d,.load T x,ty,pos,after,none⟩::rest) fr ds w:=wl (Yo a e.out b c (wa f.out) h)
theorem Xa {dst:Option Tmp}{xs:List Operand}{tys:Array TypeId}{k:FuncId}{vs:List Value}{R:Value->World->Prop}[a:fb P k] [b:xr fr xs vs] (c:kb P k vs w R) (h:∀ v w',R v w'->Hg fr dst v λya=>Ee P ops Q rest ya ds w') :
  Ee P ops Q (⟨dst,.call { callee:=.value (.func k),args:=⟨xs⟩,argTypes:=tys },ty,pos,after,none⟩::rest) fr ds w:=wl (od a Cc b.out c h)
theorem bC {id:Nat}{l:List Oper}{μ:M}{da:World}{rs:List Ha}(a:fa μ da w rs) (h:∀ w',fa μ da w' rs->WG P l.toArray Q (List.range l.length) fr ds w') (b:P.follows .mixedOrders=true:=by kernel_rfl) (c:(List.range l.toArray.size).all (λi=>(nj l.toArray i).all λj=>decide (j<i))=true:=by rfl):ud P (.region id l.toArray true) Q fr ds w :=
 AU b c λw' d e f g=>h w' (a.drew d e f g)
theorem ua {v:Value}{K:List Value->Prop}[a:Jf fr d v ya] (h:K ya):Hg fr (some d) v K:=pu (wa a.out) h
theorem ri {Va:List Mon}{R R':List Nat}(i:Nat) (S:List Nat) (a:(decide R.Nodup && enabled ops R i && waits ops R S i && en ops S R i && S.contains i,R.erase i,ops[i]?)=(true,R',some ⟨some d,op,ty,pos,after,none⟩)) [Oa:Ii P op fr v] [b:Jf fr d v ya] (h:Ud P ops Q Va R' ya ds w) (c:gl Q d:=by first | exact λ_ _ _ _ _ h=>h | exact Gk λ_ _ _ h=>h.2 | exact Gk λ_ _ _ h=>h.2.2):Ud P ops Q Va R fr ds w :=
 Yk i S a (Oa.out _ _ _ _ _) b.out h c
end
section
variable {rs rs':List Ha}{pa a2 a3 a4 a5 zb Ab mb a9 gd jc a12 r:Ha}
theorem sb:Ic (pa::r::rs) 1 (r::pa::rs):=.s (Ic.z)
theorem Wb:Ic (pa::a2::r::rs) 2 (r::pa::a2::rs):=.s (.s (Ic.z))
theorem Bb:Ic (pa::a2::a3::r::rs) 3 (r::pa::a2::a3::rs):=.s (.s (.s (Ic.z)))
theorem tc:Ic (pa::a2::a3::a4::r::rs) 4 (r::pa::a2::a3::a4::rs):=.s (.s (.s (.s (Ic.z))))
theorem gh:Ic (pa::a2::a3::a4::a5::r::rs) 5 (r::pa::a2::a3::a4::a5::rs):=.s (.s (.s (.s (.s (Ic.z)))))
theorem Vf:Ic (pa::a2::a3::a4::a5::zb::r::rs) 6 (r::pa::a2::a3::a4::a5::zb::rs):=.s (.s (.s (.s (.s (.s (Ic.z))))))
theorem nk:Ic (pa::a2::a3::a4::a5::zb::Ab::r::rs) 7 (r::pa::a2::a3::a4::a5::zb::Ab::rs):=.s (.s (.s (.s (.s (.s (.s (Ic.z)))))))
end
section
variable {P:Program}{Q:Exit->Act->World->Prop}{fr xi yi:List Value}{ds:List Deferred}{w:World}{ops:Array Oper}{l:List Oper}{R:List Nat}{Va:List Mon}{c:Operand}{x y:Code}{p:Prop}[Decidable p]{b:Bool}{d:Nat}{α:Type}{A B:Option α}{r:α}
theorem Jb (h:(if p then A else B)=some r) [a:sc fr c (.bool (decide p))] (b:p->A=some r->ud P x Q fr ds w) (d:¬ p->B=some r->ud P y Q fr ds w):ud P (.cond c x y) Q fr ds w:=Qb a.out (λq=>b q (Sf q h)) (λq=>d q (Eb q h))
theorem Kf (h:(if b=true then A else B)=some r) [a:sc fr c (.bool b)] (d:b=true->A=some r->ud P x Q fr ds w) (e:¬ b=true->B=some r->ud P y Q fr ds w):ud P (.cond c x y) Q fr ds w:=oj a.out (λq=>d q (Sf q h)) (λq=>e q (Eb q h))
theorem qn (h:(if b=true then A else B)=some r) [a:sc fr c (.bool (!b))] (d:¬ b=true->B=some r->ud P x Q fr ds w) (e:b=true->A=some r->ud P y Q fr ds w):ud P (.cond c x y) Q fr ds w:=Ku a.out (λq=>d q (Eb q h)) (λq=>e q (Sf q h))
theorem Zf (d:Nat) (h:(if p then A else B)=some r) [la:Bh fr d (.bool (decide p))] [a:Jf fr d (.bool true) xi] [b:Jf fr d (.bool false) yi] (c:p->A=some r->Ee P ops Q l xi ds w) (e:¬ p->B=some r->Ee P ops Q l yi ds w):Ee P ops Q l fr ds w:=cf la.out a.out b.out (λq=>c q (Sf q h)) (λq=>e q (Eb q h))
theorem EL (d:Nat) (h:(if b=true then A else B)=some r) [la:Bh fr d (.bool b)] [a:Jf fr d (.bool true) xi] [c:Jf fr d (.bool false) yi] (e:b=true->A=some r->Ee P ops Q l xi ds w) (f:¬ b=true->B=some r->Ee P ops Q l yi ds w):Ee P ops Q l fr ds w:=dL la.out a.out c.out (λq=>e q (Sf q h)) (λq=>f q (Eb q h))
theorem KG (d:Nat) (h:(if b=true then A else B)=some r) [la:Bh fr d (.bool (!b))] [a:Jf fr d (.bool true) xi] [c:Jf fr d (.bool false) yi] (e:¬ b=true->B=some r->Ee P ops Q l xi ds w) (f:b=true->A=some r->Ee P ops Q l yi ds w):Ee P ops Q l fr ds w:=EK la.out a.out c.out (λq=>e q (Eb q h)) (λq=>f q (Sf q h))
theorem LG (d:Nat) (h:(if p then A else B)=some r) [la:Bh fr d (.bool (decide p))] [a:Jf fr d (.bool true) xi] [b:Jf fr d (.bool false) yi] (c:p->A=some r->Ud P ops Q Va R xi ds w) (e:¬ p->B=some r->Ud P ops Q Va R yi ds w):Ud P ops Q Va R fr ds w:=ur la.out a.out b.out (λq=>c q (Sf q h)) (λq=>e q (Eb q h))
theorem AW (d:Nat) (h:(if b=true then A else B)=some r) [la:Bh fr d (.bool b)] [a:Jf fr d (.bool true) xi] [c:Jf fr d (.bool false) yi] (e:b=true->A=some r->Ud P ops Q Va R xi ds w) (f:¬ b=true->B=some r->Ud P ops Q Va R yi ds w):Ud P ops Q Va R fr ds w:=CL la.out a.out c.out (λq=>e q (Sf q h)) (λq=>f q (Eb q h))
end
abbrev Dd (l:List Value):List Value:=undef::l
abbrev jb (l:List Value):List Value:=undef::undef::l
abbrev Kc (l:List Value):List Value:=undef::undef::undef::undef::undef::l
abbrev kd (l:List Value):List Value:=undef::undef::undef::undef::undef::undef::undef::undef::undef::undef::l
abbrev Sb (l:List Value):List Value:=undef::undef::undef::undef::undef::undef::undef::undef::undef::undef::undef::undef::undef::undef::undef::undef::undef::undef::undef::undef::l
abbrev Mb (l:List Value):List Value:=undef::undef::undef::undef::undef::undef::undef::undef::undef::undef::undef::undef::undef::undef::undef::undef::undef::undef::undef::undef::undef::undef::undef::undef::undef::undef::undef::undef::undef::undef::undef::undef::undef::undef::undef::undef::undef::undef::undef::undef::undef::undef::undef::undef::undef::undef::undef::undef::undef::undef::l
end
section
open Go.Bc
abbrev ga (b o:Nat):Value:=.pointer (some ⟨b,o,none⟩)
section
variable {P:Program}{Q Q':Exit->Act->World->Prop}{fr ya:List Value}{ds:List Deferred}{w:World}{ops:Array Oper}{x y z:Code}{id:Nat}{l:List Oper}{c:Operand}{p:Prop}[Decidable p]
end
section
variable {P:Program}{ops:Array Oper}{Q:Exit->Act->World->Prop}{fr ya:List Value}{ds:List Deferred}{w:World}
variable {Va:List Mon}{R R':List Nat}{dst d:Tmp}{op:Op}{ty:TypeId}{pos:String}{after:Array Edge}{v:Value}{T:TypeId}{zc cs:List Value}{n m o q:Nat}{x:Operand}{rest:List Oper}
theorem Pt (i:Nat) (S:List Nat) (a:(decide R.Nodup && enabled ops R i && waits ops R S i && en ops S R i && S.contains i,R.erase i,ops[i]?)=(true,R',some ⟨some dst,.load T x,ty,pos,after,none⟩)) (b:w.cell? ⟨q,o,none⟩=some v) [c:wb P T false zc n m] [d:sc fr x (.pointer (some ⟨q,o,none⟩))] [e:Jf fr dst v ya] (h:Ud P ops Q ((S,λw'=>lk P ⟨some dst,.load T x,ty,pos,after,none⟩ fr w' v)::Va) R' ya ds w) (f:gl Q dst:=by first | exact λ_ _ _ _ _ h=>h | exact Gk λ_ _ _ h=>h.2 | exact Gk λ_ _ _ h=>h.2.2):Ud P ops Q Va R fr ds w:=Qc i S a (Yd c d.out b) e.out h f
theorem wc {μ:M}{da:World}{rs:List Ha}(a:fa μ da w rs) [c:sc fr x v] (h:∀ b w',w.heap.size<=b->fa μ da w' (.ea b T cs::rs)->Hg fr dst (ga b 0) λya=>Ee P ops Q rest ya ds w') (d:v.cells=⟨cs⟩:=by rfl):Ee P ops Q (⟨some dst,.box T x,ty,pos,after,none⟩::rest) fr ds w:=wl (Kn c.out d a h)
end
theorem BW {Dg α:Type}{V:Dg->Value}{r:Except Dg α}{R:α->Value->World->Prop}{E:World->Prop}{w:World}{e:Dg}(a:r=.error e) (h:E w):([]:List Deferred)=[]/\rG V r R E (.panicked [{ v:=V e,recovered:=false }]) w:=⟨rfl,e,a,rfl,h⟩
section
variable {Dg α:Type}{P:Program}{V:Dg->Value}{r:Except Dg α}{R:α->Value->World->Prop}{E:World->Prop}{fr:List Value}{ds:List Deferred}{w:World}{dst:Option Tmp}{ty:TypeId}{pos:String}{after:Array Edge}{g:Option (Nat×Bool)}{K:List Value->List Deferred->World->Prop}{Q:Exit->Act->World->Prop}
instance {f:Nat}:sc fr (.func f) (.func (.func f) #[] #[]):=⟨Cc⟩
theorem ug {f:Operand}{xs:List Operand}{tys:Array TypeId}{k:FuncId}{cap vs:List Value}[c:fb P k] [d:sc fr f (.func (.func k) #[] ⟨cap⟩)] [i:xr fr xs vs]
  (j:nc P k (vs++cap) w V r R E) (h:∀ x v w',r=.ok x->R x v w'->Hg fr dst v λya=>K ya ds w') (l:∀ e w',r=.error e->E w'->Q (.panic [{ v:=V e,recovered:=false }]) (F fr ds) w':=by exact λ_ _ a b=>BW a b):pd P (Oper.mk dst (.call { callee:=.value f,args:=⟨xs⟩,argTypes:=tys }) ty pos after g) fr ds w K Q:=yu c d.out i.out j h l
end
section
variable {P:Program}{ops:Array Oper}{Q:Exit->Act->World->Prop}{fr:List Value}{ds:List Deferred}{w:World}
theorem Za {Va Ns':List Mon}{R:List Nat}{i:Nat}{R':List Nat}{o:Oper}(a:(eB ops R,R.erase i,zi i Va,ops[i]?,o.guard)=([i],R',Ns',some o,none)) (h:pd P o fr ds w (bu P ops Q Ns' R') Q):Ud P ops Q Va R fr ds w :=
 tj (congrArg (·.1) a) (congrArg (·.2.1) a) (congrArg (·.2.2.1) a) (congrArg (·.2.2.2.1) a) (hj (congrArg (·.2.2.2.2) a)) h
end
end
section
open Go.Bc Go.RowKit
abbrev ca (n:Int):Value:=.int .i64 n
class Gh (P:Program) (t:TypeId) (u:outParam TypeDesc):Prop where out:P.underlying t=some u
instance {fr:List Value}{l:List UInt8}:sc fr (.const (.string ⟨⟨l⟩⟩)) (S l):=⟨db⟩
section
variable {P:Program}{fr:List Value}{x y z:Operand}{v:Value}{t cb e T Ef:TypeId}{k k':IntKind}{a b:Int}{s Ib:List UInt8}{n m c:Nat}{qC:Option Addr}{p q:Bool}{u:TypeDesc}{zc:List Value}{mc:Bool}
instance [hu:Gh P t .string] [h:sc fr x (S s)]:Ii P (.call { callee:=.builtin .len,args:=#[x],argTypes:=#[t] }) fr (.int .i64 s.length):=⟨λ_ _ _ _ _=>sS hu.out h.out⟩
instance [hu:Gh P t (.slice e)] [h:sc fr x (.slice qC n c)]:Ii P (.call { callee:=.builtin .len,args:=#[x],argTypes:=#[t] }) fr (.int .i64 n):=⟨λ_ _ _ _ _=>Tv hu.out h.out⟩
instance [a:sc fr x (S s)] [b:sc fr y (S Ib)]:Ii P (.binOp .eql t x y cb) fr (.bool (decide (s=Ib))):=⟨λ_ _ _ _ _=>wU a.out b.out⟩
instance [a:sc fr x (S s)] [b:sc fr y (S Ib)]:Ii P (.binOp .neq t x y cb) fr (.bool (decide (s≠Ib))):=⟨λ_ _ _ _ _=>xU a.out b.out⟩
instance {f:Nat}{xs ys:List Operand}{vs us:List Value}[a:xr fr xs vs] [hu:xr fr ys us]:Ii P (.makeFunc (.func f) ⟨xs⟩ ⟨ys⟩) fr (.func (.func f) ⟨vs⟩ ⟨us⟩):=⟨λ_ _ _ _ _=>SJ a.out hu.out⟩
instance (priority:=2000){b off i:Nat}[a:Vb P T i off] [h:sc fr x (.pointer (some ⟨b,0,none⟩))]:Ii P (.fieldAddr T x i) fr (.pointer (some ⟨b,off,none⟩)):=⟨λ_ _ _ _ _=>Xl a h.out (Nat.zero_add _)⟩
instance {d:TypeDesc}[hu:Gh P t d] [c:sc fr x (.int .i64 a)] [e:sc fr y (.int .i64 b)]:Ii P (.call { callee:=.builtin .min,args:=#[x,y],argTypes:=#[t,cb] }) fr (.int .i64 (min a b)):=⟨λ_ _ _ _ _=>DS hu.out c.out e.out⟩
instance {d:TypeDesc}[hu:Gh P t d] [c:sc fr x (.int .i64 a)] [e:sc fr y (.int .i64 b)]:Ii P (.call { callee:=.builtin .max,args:=#[x,y],argTypes:=#[t,cb] }) fr (.int .i64 (max a b)):=⟨λ_ _ _ _ _=>ES hu.out c.out e.out⟩
end
class Qt {β:Type}(P:Program) (op:Op) (fr:List Value) (o:outParam (Option β)) (v:outParam (β->Value)):Prop where out:∀ x,o=some x->∀ dst ty pos after g,Af P (Oper.mk dst op ty pos after g) fr (v x)
section
variable {P:Program}{fr:List Value}{x y jk up:Operand}{t cb:TypeId}{k:IntKind}{a b:Int}{s Ib:List UInt8}
instance [d:sc fr x (.int .i64 a)] [e:sc fr y (.int .i64 b)]:Qt P (.binOp .add t x y cb) fr (i64 (a+b)) (λc=>.int .i64 c):=⟨λ_ h _ _ _ _ _=>Fu d.out e.out h⟩
instance [d:sc fr x (.int .i64 a)] [e:sc fr y (.int .i64 b)]:Qt P (.binOp .sub t x y cb) fr (i64 (a - b)) (λc=>.int .i64 c):=⟨λ_ h _ _ _ _ _=>Zv d.out e.out h⟩
instance [hu:Gh P t .string] [b:sc fr x (S s)] [d:sc fr y (.int k a)]:Qt P (.index t x y) fr (at_ s a) (λc=>.int .u8 c.toNat):=⟨λ_ h _ _ _ _ _=>xS hu.out b.out d.out h⟩
instance [a:sc fr x (S s)] [b:sc fr y (S Ib)]:Qt P (.binOp .add t x y cb) fr (cat s Ib) (λc=>S c):=⟨λ_ h _ _ _ _ _=>yS a.out b.out h⟩
instance [hu:Gh P t .string] [b:sc fr x (S s)] [d:sc fr jk (.int .i64 a)]:Qt P (.slice t x (some jk) none none) fr (cut s a s.length) (λc=>S c):=⟨λ_ h _ _ _ _ _=>gP hu.out b.out d.out h⟩
instance [hu:Gh P t .string] [a:sc fr x (S s)] [d:sc fr up (.int .i64 b)]:Qt P (.slice t x none (some up) none) fr (cut s 0 b) (λc=>S c):=⟨λ_ h _ _ _ _ _=>hP hu.out a.out d.out h⟩
end
class sl (rs:List Ha) (b:Nat) (T:outParam TypeId) (cs:outParam (List Value)):Prop where out:∃ n,Zb rs n (.ea b T cs)
instance {b:Nat}{T:TypeId}{cs:List Value}{rs:List Ha}:sl (.ea b T cs::rs) b T cs:=⟨0,rfl⟩
instance (priority:=low){b:Nat}{T:TypeId}{cs:List Value}{r:Ha}{rs:List Ha}[h:sl rs b T cs]:sl (r::rs) b T cs:=⟨h.out.elim λn k=>⟨n+1,k⟩⟩
instance {b:Nat}{T:TypeId}{cs:List Value}{r:Ha}{l rs:List Ha}[h:sl (r::(l++rs)) b T cs]:sl ((r::l)++rs) b T cs:=h
instance {b:Nat}{T:TypeId}{cs:List Value}{rs:List Ha}[h:sl rs b T cs]:sl ([]++rs) b T cs:=h
theorem sl.cell {μ:M}{da w:World}{rs:List Ha}{b i:Nat}{T:TypeId}{cs:List Value}{v:Value}(a:fa μ da w rs) [h:sl rs b T cs] [k:Bh cs i v]:w.cell? ⟨b,i,none⟩=some v:=h.out.elim λ_ q=>(a.ea q).cell k.out
theorem xa.cell {μ J:M}{da w:World}{rs:List Ha}{b o i:Nat}{cs:List Value}{v:Value}(c:xa μ b o cs) (le:ha μ J) (d:fa J da w rs) [k:Bh cs i v]:w.cell? ⟨b,o+i,none⟩=some v:=(c _ (le _ d.a)).one k.out
class Qu (rs:List Ha) (v:Value) (n:outParam Nat):Prop where out:∀ {μ:M}{da w:World},fa μ da w rs->uB v n
instance {v:Value}{T:TypeId}{sz n:Nat}{xs:List Value}{rs:List Ha}:Qu (.row v T sz n xs::rs) v n:=⟨λa=>(a.get (n:=0) rfl:Row _ _ _ _ _ _).lp⟩
instance (priority:=low){v:Value}{n:Nat}{r:Ha}{rs:List Ha}[h:Qu rs v n]:Qu (r::rs) v n:=⟨λa=>h.out (a.drop ja.z)⟩
instance {v:Value}{n:Nat}{r:Ha}{l rs:List Ha}[h:Qu (r::(l++rs)) v n]:Qu ((r::l)++rs) v n:=h
def fwd (ops:Array Oper) (R:List Nat) (i:Nat):List Nat:=R.foldl (λS j=>if j == i || (nj ops j).any S.contains then S++[j] else S) []
section
variable {ops:Array Oper}{i:Nat}
def kn (ops:Array Oper) (i:Nat) (S:List Nat) (j:Nat):List Nat:=if j == i || (nj ops j).any S.contains then S++[j] else S
theorem SI {S:List Nat}{j k:Nat}(h:k ∈ S):k ∈ kn ops i S j:=by unfold kn;split<;>simp [h]
theorem qJ {R S:List Nat}{k:Nat}(h:k ∈ S):k ∈ R.foldl (kn ops i) S:=by
 induction R generalizing S with
 | nil=>exact h
 | cons a R b=>exact b (SI h)
theorem JE {R0:List Nat}:∀ (R S:List Nat),(∀ j ∈ R,j ∈ R0)->(∀ j ∈ S,j ∈ R0/\(j=i\/∃ k ∈ S,k ∈ nj ops j))->∀ j ∈ R.foldl (kn ops i) S,j ∈ R0/\(j=i\/∃ k ∈ R.foldl (kn ops i) S,k ∈ nj ops j)
 | [],S,_,h=>h
 | a::R,S,e,h=>JE R _ (λj b=>e j (.tail _ b)) λj b=>by
  unfold kn at b ⊢;split at b
  ·rename_i c;rw [if_pos c];rcases List.mem_append.1 b with b | b
   ·obtain ⟨f,g⟩:=h j b;exact ⟨f,g.imp_right λ⟨k,d,q⟩=>⟨k,List.mem_append_left _ d,q⟩⟩
   ·obtain rfl:=List.mem_singleton.1 b;refine ⟨e j<|.head _,?_⟩;simp only [Bool.or_eq_true,beq_iff_eq,List.any_eq_true,List.contains_iff_mem] at c;exact c.imp_right λ⟨k,q,d⟩=>⟨k,List.mem_append_left _ d,q⟩
  ·rename_i c;rw [if_neg c];exact h j b
theorem rJ {j:Nat}:∀ (R S:List Nat),i ∈ S->j ∈ R->i ∈ nj ops j->j ∈ R.foldl (kn ops i) S
 | a::R,S,c,b,Ca=>by
  rcases List.mem_cons.1 b with rfl | b
  ·refine qJ (S:=kn ops i S j) ?_;unfold kn;rw [if_pos (by simp only [Bool.or_eq_true,beq_iff_eq,List.any_eq_true,List.contains_iff_mem];exact .inr ⟨i,Ca,c⟩)];simp
  ·exact rJ R _ (SI c) b Ca
theorem cK {R:List Nat}:fwd ops R i=R.foldl (kn ops i) []:=rfl
theorem TI {R:List Nat}:i ∈ fwd ops (i::R) i:=by
 rw [cK];refine qJ (R:=R) (S:=kn ops i [] i) ?_;unfold kn;simp
theorem fO {R:List Nat}:waits ops R (fwd ops R i) i=true:=by
 unfold waits;rw [List.all_eq_true];intro j b;have:=JE (ops:=ops) (i:=i) (R0:=R) R [] (λ_ h=>h) (by simp) j b;simp only [Bool.or_eq_true,beq_iff_eq,List.any_eq_true,Bool.and_eq_true,List.contains_iff_mem];refine this.2.imp_right λ⟨k,a,q⟩=>⟨k,a,q,?_⟩;exact (JE (ops:=ops) (i:=i) (R0:=R) R [] (λ_ h=>h) (by simp) k a).1
def Qy (ops:Array Oper) (R:List Nat) (i:Nat):Bool :=
 match ops[i]? with
 | some o=>match o.dst with
  | some d=>lr o.op && R.all λj=>(match ops[j]? with
    | some p=>lr p.op && !(reads ops p).contains d && p.dst != some d && (match p.dst with | some e=>!(reads ops o).contains e | none=>true)
    | none=>true) || (nj ops j).contains i
  | _=>false
 | none=>false
theorem GU {R:List Nat}(h:Qy ops R i=true):en ops (fwd ops (i::R) i) (i::R) i=true:=by
 unfold Qy at h;unfold en;cases b:ops[i]? with
 | none=>rw [b] at h; cases h
 | some o =>
  rw [b] at h;simp only at h ⊢;cases Ca:o.dst with
  | none=>rw [Ca] at h; cases h
  | some d =>
   rw [Ca] at h;simp only [Bool.and_eq_true,List.all_eq_true] at h ⊢;refine ⟨h.1,λj a=>?_⟩;rcases List.mem_cons.1 a with rfl | a
   ·rw [Bool.or_eq_true];exact .inl<|List.contains_iff_mem.2 TI
   ·rw [Bool.or_eq_true];rcases (Bool.or_eq_true _ _).mp (h.2 j a) with k | k
    ·exact .inr k
    ·refine .inl<|List.contains_iff_mem.2 ?_;rw [cK];exact rJ R (kn ops i [] i) (by unfold kn;simp) a<|List.contains_iff_mem.1 k
def qw:List Nat->Bool
 | a::l=>!l.contains a && qw l
 | []=>true
theorem sJ:∀ {l:List Nat},qw l=true->l.Nodup
 | [],_=>List.nodup_nil
 | a::l,h=>by
  simp only [qw,Bool.and_eq_true,Bool.not_eq_true',List.contains_eq_mem,decide_eq_false_iff_not] at h;exact List.nodup_cons.2 ⟨h.1,sJ h.2⟩
theorem VQ {R R':List Nat}(p:R.Perm R'):enabled ops R i=enabled ops R' i:=by
 have:∀ x,R.contains x=R'.contains x:=λx=>by rw [Bool.eq_iff_iff,List.contains_iff_mem,List.contains_iff_mem];exact p.mem_iff
 simp only [enabled,this]
theorem _root_.Go.Bc.Tl.perm {R a:List Nat}(h:Tl ops R a):∀ {R':List Nat},R.Perm R'->Tl ops R' a:=by
 induction h with
 | z=>intro R' p; rw [List.nil_perm.1 p]; exact .z
 | s h t b=>intro R' p; exact .s ((VQ p).symm.trans h)<|b<|p.erase _
theorem Mn {R:List Nat}(h:(qw (i::R) && ((nj ops i).all λj=>!(i::R).contains j) && Qy ops R i)=true):(decide (i::R).Nodup && enabled ops (i::R) i && waits ops (i::R) (fwd ops (i::R) i) i && en ops (fwd ops (i::R) i) (i::R) i && (fwd ops (i::R) i).contains i)=true:=by
 simp only [Bool.and_eq_true] at h;simp only [Bool.and_eq_true,decide_eq_true_eq];exact ⟨⟨⟨⟨sJ h.1.1,by unfold enabled;simp only [Bool.and_eq_true];exact ⟨by simp,h.1.2⟩⟩,fO⟩,GU h.2⟩,List.contains_iff_mem.2 TI⟩
end
section
variable {P:Program}{Q:Exit->Act->World->Prop}{fr ya:List Value}{ds:List Deferred}{w:World}{ops:Array Oper}{rest:List Oper}{d:Tmp}{op:Op}{ty:TypeId}{pos:String}{after:Array Edge}{v:Value}{β ML:Type}{o:Option β}{f:β->Option ML}{r:ML}{Fj:β->Value}{sC:β->List Value}{T:TypeId}{zc:List Value}{n m i:Nat}{a:Addr}{x:Operand}{R R':List Nat}{Va:List Mon}
theorem jg (h:Option.bind o f=some r) [b:Qt P op fr o Fj] [c:∀ x,Jf fr d (Fj x) (sC x)] (k:∀ x,o=some x->f x=some r->Ee P ops Q rest (sC x) ds w):Ee P ops Q (⟨some d,op,ty,pos,after,none⟩::rest) fr ds w :=
 Exists.elim (te h) λx a=>wl (Ob (b.out x a.1 _ _ _ _ _) (wa (c x).out) (k x a.1 a.2))
variable {b j e:Nat}{q pk:Bool}{μ Ta:M}{da:World}{rs:List Ha}{cs:List Value}{Ef:TypeId}{p:Nat}
theorem cC (a:fa μ da w rs) [c:wb P T false zc n m] [e:sc fr x (.pointer (some ⟨b,p,none⟩))] [f:sl rs b Ef cs] [la:Bh cs p v] [g:Jf fr d v ya] (h:Ee P ops Q rest ya ds w):Ee P ops Q (⟨some d,.load T x,ty,pos,after,none⟩::rest) fr ds w:=Dh (sl.cell a) h
theorem dC (a:fa μ da w rs) (c:xa Ta b p cs) (le:ha Ta μ) [e:wb P T false zc n m] [f:sc fr x (.pointer (some ⟨b,p+i,none⟩))] [la:Bh cs i v] [g:Jf fr d v ya] (h:Ee P ops Q rest ya ds w):Ee P ops Q (⟨some d,.load T x,ty,pos,after,none⟩::rest) fr ds w:=Dh (xa.cell c le a) h
theorem eC (a:fa μ da w rs) (c:xa Ta b p cs) (le:ha Ta μ) [e:wb P T false zc n m] [f:sc fr x (.pointer (some ⟨b,p,none⟩))] [la:Bh cs 0 v] [g:Jf fr d v ya] (h:Ee P ops Q rest ya ds w):Ee P ops Q (⟨some d,.load T x,ty,pos,after,none⟩::rest) fr ds w:=Dh (xa.cell (i:=0) c le a) h
theorem Kh {t:TypeId}{y:Operand}(a:fa μ da w rs) [b:Gh P t (.slice T)] [c:sc fr y v] [e:Qu rs v n] [f:Jf fr d (.int .i64 n) ya] (h:Ee P ops Q rest ya ds w):Ee P ops Q (⟨some d,.call { callee:=.builtin .len,args:=#[y],argTypes:=#[t] },ty,pos,after,none⟩::rest) fr ds w:=wl (Ob (Zp b.out c.out (e.out a)) (wa f.out) h)
theorem XG {dst:Option Tmp}(a:(ops[j]?).bind (·.dst)=some e) [la:Bh fr e (.bool q)] (h:Ee P ops Q (⟨dst,op,ty,pos,after,none⟩::rest) fr ds w):Ee P ops Q (⟨dst,op,ty,pos,after,some (j,q)⟩::rest) fr ds w:=by
 have k:=h.out;have la:=la.out;constructor;unfold wpList at k ⊢;rw [if_pos (by simp [Region.wanted])] at k;rw [if_pos (by
  unfold Zb at la;simp only [Region.wanted,yielded,a,F];simp [la])]
 exact k
def zn (ops:Array Oper) (R:List Nat) (i:Nat) (Q:Exit->Act->World->Prop) (d:Nat):Prop:=(qw (i::R) && ((nj ops i).all λj=>!(i::R).contains j) && Qy ops R i)=true/\gl Q d
theorem Tn (h:(qw (i::R) && ((nj ops i).all λj=>!(i::R).contains j) && Qy ops R i)=true:=by decide +kernel) (a:gl Q d:=by first | exact λ_ _ _ _ _ h=>h | exact Gk λ_ _ _ h=>h.2 | exact Gk λ_ _ _ h=>h.2.2):zn ops R i Q d:=⟨h,a⟩
structure Vj (P:Program) (ops:Array Oper) (Q:Exit->Act->World->Prop) (Va:List Mon) (i:Nat) (R:List Nat) (o:Oper) (fr:List Value) (ds:List Deferred) (w:World):Prop where
 out:ops[i]?=some o->Ud P ops Q Va (i::R) fr ds w
theorem FL {dst:Option Tmp}{g:Option (Nat×Bool)}(a:ops[i]?=some ⟨dst,op,ty,pos,after,g⟩) (h:Vj P ops Q Va i R ⟨dst,op,ty,pos,after,g⟩ fr ds w):Ud P ops Q Va (i::R) fr ds w:=h.out a
theorem hL {j:Nat}{dst:Option Tmp}{g:Option (Nat×Bool)}(a:ops[i]?=some ⟨dst,op,ty,pos,after,g⟩) (h:Vj P ops Q Va i (j::R) ⟨dst,op,ty,pos,after,g⟩ fr ds w):Ud P ops Q Va (j::i::R) fr ds w:=⟨λb c d=>(h.out a).out b c (d.perm (List.Perm.swap ..))⟩
theorem iL {j k:Nat}{dst:Option Tmp}{g:Option (Nat×Bool)}(a:ops[i]?=some ⟨dst,op,ty,pos,after,g⟩) (h:Vj P ops Q Va i (j::k::R) ⟨dst,op,ty,pos,after,g⟩ fr ds w):Ud P ops Q Va (j::k::i::R) fr ds w:=⟨λb c d=>(h.out a).out b c (d.perm (List.perm_append_comm (l₁:=[j,k]) (l₂:=[i]) |>.append_right R))⟩
theorem Uw (h:Vj P ops Q Va i R ⟨some d,op,ty,pos,after,none⟩ fr ds w):Vj P ops Q Va i R ⟨some d,op,ty,pos,after,none⟩ fr ds w:=h
theorem Vw (h:Vj P ops Q Va i R ⟨some d,.load T x,ty,pos,after,none⟩ fr ds w):Vj P ops Q Va i R ⟨some d,.load T x,ty,pos,after,none⟩ fr ds w:=h
theorem Ww {t:TypeId}{y:Operand}(h:Vj P ops Q Va i R ⟨some d,.call { callee:=.builtin .len,args:=#[y],argTypes:=#[t] },ty,pos,after,none⟩ fr ds w):Vj P ops Q Va i R ⟨some d,.call { callee:=.builtin .len,args:=#[y],argTypes:=#[t] },ty,pos,after,none⟩ fr ds w:=h
theorem Xw {j:Nat}{q:Bool}(h:Vj P ops Q Va i R ⟨some d,op,ty,pos,after,some (j,q)⟩ fr ds w):Vj P ops Q Va i R ⟨some d,op,ty,pos,after,some (j,q)⟩ fr ds w:=h
theorem Yw {j:Nat}{q:Bool}(h:Vj P ops Q Va i R ⟨some d,.load T x,ty,pos,after,some (j,q)⟩ fr ds w):Vj P ops Q Va i R ⟨some d,.load T x,ty,pos,after,some (j,q)⟩ fr ds w:=h
theorem Ho [Oa:Ii P op fr v] [b:Jf fr d v ya] (h:Ud P ops Q Va R ya ds w) (a:zn ops R i Q d:=by exact Tn):Vj P ops Q Va i R ⟨some d,op,ty,pos,after,none⟩ fr ds w:=.mk λc =>
 gg _ a.2 (Mn a.1) (List.erase_cons_head ..) c (Oa.out _ _ _ _ _) b.out h
theorem Fw {j e:Nat}{q:Bool}(b:(ops[j]?).bind (·.dst)=some e) [la:Bh fr e (.bool q)] [Oa:Ii P op fr v] [c:Jf fr d v ya] (h:Ud P ops Q Va R ya ds w) (a:zn ops R i Q d:=by exact Tn):Vj P ops Q Va i R ⟨some d,op,ty,pos,after,some (j,q)⟩ fr ds w:=.mk λf =>
 XJ _ a.2 (Mn a.1) (List.erase_cons_head ..) f b la.out (Oa.out _ _ _ _ _) c.out h
theorem Io {j e:Nat}{q pk:Bool}(b:(ops[j]?).bind (·.dst)=some e) [la:Bh fr e (.bool pk)] (c:(pk == q)=false) [f:Jf fr d undef ya] (h:Ud P ops Q Va R ya ds w) (a:zn ops R i Q d:=by exact Tn):Vj P ops Q Va i R ⟨some d,op,ty,pos,after,some (j,q)⟩ fr ds w:=.mk λg =>
 zS _ a.2 (Mn a.1) (List.erase_cons_head ..) g b la.out c f.out h
theorem CW (h:Option.bind o f=some r) [c:Qt P op fr o Fj] [e:∀ x,Jf fr d (Fj x) (sC x)] (k:∀ x,o=some x->f x=some r->Ud P ops Q Va R (sC x) ds w) (b:zn ops R i Q d:=by exact Tn):Vj P ops Q Va i R ⟨some d,op,ty,pos,after,none⟩ fr ds w:=.mk λg =>
 Exists.elim (te h) λx a=>gg _ b.2 (Mn b.1) (List.erase_cons_head ..) g (c.out x a.1 _ _ _ _ _) (e x).out (k x a.1 a.2)
theorem Gw {t:TypeId}{y:Operand}(b:fa μ da w rs) [c:Gh P t (.slice T)] [e:sc fr y v] [f:Qu rs v n] [g:Jf fr d (.int .i64 n) ya] (h:Ud P ops Q Va R ya ds w) (a:zn ops R i Q d:=by exact Tn):Vj P ops Q Va i R ⟨some d,.call { callee:=.builtin .len,args:=#[y],argTypes:=#[t] },ty,pos,after,none⟩ fr ds w:=.mk λj =>
 gg _ a.2 (Mn a.1) (List.erase_cons_head ..) j (Zp c.out e.out (f.out b)) g.out h
theorem sw (c:fa μ da w rs) [e:wb P T false zc n m] [f:sc fr x (.pointer (some ⟨b,p,none⟩))] [k:sl rs b Ef cs] [la:Bh cs p v] [g:Jf fr d v ya] (h:Ud P ops Q ((fwd ops (i::R) i,λw'=>lk P ⟨some d,.load T x,ty,pos,after,none⟩ fr w' v)::Va) R ya ds w) (a:zn ops R i Q d:=by exact Tn):Vj P ops Q Va i R ⟨some d,.load T x,ty,pos,after,none⟩ fr ds w:=.mk λj =>
 bk _ a.2 (Mn a.1) (List.erase_cons_head ..) j (Yd e f.out (sl.cell c)) g.out h
theorem tw {k:Nat}(c:fa μ da w rs) (e:xa Ta b p cs) (le:ha Ta μ) [f:wb P T false zc n m] [g:sc fr x (.pointer (some ⟨b,p+k,none⟩))] [la:Bh cs k v] [j:Jf fr d v ya] (h:Ud P ops Q ((fwd ops (i::R) i,λw'=>lk P ⟨some d,.load T x,ty,pos,after,none⟩ fr w' v)::Va) R ya ds w) (a:zn ops R i Q d:=by exact Tn):Vj P ops Q Va i R ⟨some d,.load T x,ty,pos,after,none⟩ fr ds w:=.mk λl =>
 bk _ a.2 (Mn a.1) (List.erase_cons_head ..) l (Yd f g.out (xa.cell e le c)) j.out h
theorem uw {j e:Nat}{q:Bool}(c:fa μ da w rs) (f:(ops[j]?).bind (·.dst)=some e) [la:Bh fr e (.bool q)] [g:wb P T false zc n m] [k:sc fr x (.pointer (some ⟨b,p,none⟩))] [r:sl rs b Ef cs] [s:Bh cs p v] [l:Jf fr d v ya] (h:Ud P ops Q ((fwd ops (i::R) i,λw'=>lk P ⟨some d,.load T x,ty,pos,after,some (j,q)⟩ fr w' v)::Va) R ya ds w) (a:zn ops R i Q d:=by exact Tn):Vj P ops Q Va i R ⟨some d,.load T x,ty,pos,after,some (j,q)⟩ fr ds w:=.mk λo =>
 WJ _ a.2 (Mn a.1) (List.erase_cons_head ..) o f la.out (Yd g k.out (sl.cell c)) l.out h
theorem ue (b:ops[i]?=some ⟨some d,op,ty,pos,after,none⟩) (Oa:Af P ⟨some d,op,ty,pos,after,none⟩ fr v) (c:Xb fr d v ya) (h:Ud P ops Q Va R ya ds w) (a:zn ops R i Q d:=by exact Tn):Ud P ops Q Va (i::R) fr ds w :=
 gg _ a.2 (Mn a.1) (List.erase_cons_head ..) b Oa c h
theorem GL {j e:Nat}{q:Bool}(b:ops[i]?=some ⟨some d,op,ty,pos,after,some (j,q)⟩) (c:(ops[j]?).bind (·.dst)=some e) [la:Bh fr e (.bool q)] (Oa:Af P ⟨some d,op,ty,pos,after,some (j,q)⟩ fr v) (f:Xb fr d v ya) (h:Ud P ops Q Va R ya ds w) (a:zn ops R i Q d:=by exact Tn):Ud P ops Q Va (i::R) fr ds w :=
 XJ _ a.2 (Mn a.1) (List.erase_cons_head ..) b c la.out Oa f h
theorem Hh (b:ops[i]?=some ⟨some d,op,ty,pos,after,none⟩) (Oa:lk P ⟨some d,op,ty,pos,after,none⟩ fr w v) (c:Xb fr d v ya) (h:Ud P ops Q ((fwd ops (i::R) i,λw'=>lk P ⟨some d,op,ty,pos,after,none⟩ fr w' v)::Va) R ya ds w) (a:zn ops R i Q d:=by exact Tn):Ud P ops Q Va (i::R) fr ds w :=
 bk _ a.2 (Mn a.1) (List.erase_cons_head ..) b Oa c h
theorem rp {j e:Nat}{q:Bool}(b:ops[i]?=some ⟨some d,op,ty,pos,after,some (j,q)⟩) (c:(ops[j]?).bind (·.dst)=some e) [la:Bh fr e (.bool q)] (Oa:lk P ⟨some d,op,ty,pos,after,some (j,q)⟩ fr w v) (f:Xb fr d v ya) (h:Ud P ops Q ((fwd ops (i::R) i,λw'=>lk P ⟨some d,op,ty,pos,after,some (j,q)⟩ fr w' v)::Va) R ya ds w) (a:zn ops R i Q d:=by exact Tn):Ud P ops Q Va (i::R) fr ds w :=
 WJ _ a.2 (Mn a.1) (List.erase_cons_head ..) b c la.out Oa f h
theorem vw (c:fa μ da w rs) (e:xa Ta b p cs) (le:ha Ta μ) [f:wb P T false zc n m] [g:sc fr x (.pointer (some ⟨b,p,none⟩))] [la:Bh cs 0 v] [j:Jf fr d v ya] (h:Ud P ops Q ((fwd ops (i::R) i,λw'=>lk P ⟨some d,.load T x,ty,pos,after,none⟩ fr w' v)::Va) R ya ds w) (a:zn ops R i Q d:=by exact Tn):Vj P ops Q Va i R ⟨some d,.load T x,ty,pos,after,none⟩ fr ds w:=.mk λk =>
 bk _ a.2 (Mn a.1) (List.erase_cons_head ..) k (Yd f g.out (xa.cell (i:=0) e le c)) j.out h
theorem sz {y:Code}{Q':Exit->Act->World->Prop}(h:ud P y Q' fr ds w):Ud P ops (Exit.then (Gp P y Q') Q) Va [] fr ds w:=fy (ag h)
theorem Gf {id:Nat}{l:List Oper}(a:fa μ da w rs) (h:∀ w',fa μ da w' rs->Ud P l.toArray Q [] (List.range l.length) fr ds w') (b:P.follows .mixedOrders=true:=by kernel_rfl) (c:(List.range l.toArray.size).all (λi=>(nj l.toArray i).all λj=>decide (j<i))=true:=by decide +kernel):ud P (.region id l.toArray true) Q fr ds w :=
 bC a (λw' d=>rA (h w' d)) b c
theorem Ld {id:Nat}{l:List Oper}{y:Code}(a:fa μ da w rs) (h:∀ w',fa μ da w' rs->Ud P l.toArray (Exit.then (Gp P y Q) Q) [] (List.range l.length) fr ds w') (b:P.follows .mixedOrders=true:=by kernel_rfl) (c:(List.range l.toArray.size).all (λi=>(nj l.toArray i).all λj=>decide (j<i))=true:=by decide +kernel):ud P (.seq (.region id l.toArray true) y) Q fr ds w :=
 ma (Gf a h b c)
end
def Er:List Go.Bc.hb->List Value->List Value->List Value
 | [],l,_=>l
 | .k::m,a::l,_::Aa=>a::Er m l Aa
 | .o _::m,_::l,b::Aa=>b::Er m l Aa
 | .i v::m,_::l,_::Aa=>v::Er m l Aa
 | _::_,_,Aa=>undef::Aa
theorem ne_self {l:List Value}{v:Value}(h:v::l=l):False:=by have:=congrArg List.length h;simp at this
theorem HU:∀ {m:List Go.Bc.hb}{l Aa:List Value},Er m l Aa=Aa->We m l Aa:=by
 intro m
 induction m with
 | nil=>intro l Aa h; unfold Er at h; subst h; exact .z
 | cons a m b =>
  intro l Aa h;cases l with
  | nil=>cases a <;> cases Aa <;> exact (ne_self h).elim
  | cons x l=>cases Aa with
   | nil=>cases a <;> exact (ne_self h).elim
   | cons y Aa=>cases a with
    | k=>simp only [Er,List.cons.injEq] at h; rw [<- h.1]; exact .k<|b h.2
    | o n=>simp only [Er,List.cons.injEq] at h; exact .o<|b h.2
    | i v=>simp only [Er,List.cons.injEq] at h; rw [<- h.1]; exact .i<|b h.2
theorem mc {m:List Go.Bc.hb}{l Aa:List Value}(h:Er m l Aa=Aa:=by rfl):We m l Aa:=HU h
class Un (t:Nat->Value) (m:List Go.Bc.hb) (l:List Value) (Aa:outParam (List Value)):Prop where out:Df t m l Aa
section
variable {t:Nat->Value}{m:List Go.Bc.hb}{l Aa:List Value}{a v c0 gb c2 c3 c4 c5 Uc ng Lf c9:Value}{n vd ld ao Zw ax bx NL OL PL QL:Nat}
instance:Un t [] l l:=⟨Dl⟩
instance [h:Un t m l Aa]:Un t (.k::m) (a::l) (a::Aa):=⟨mk h.out⟩
instance [h:Un t m l Aa]:Un t (.o n::m) (a::l) (t n::Aa):=⟨nb h.out⟩
instance [h:Un t m l Aa]:Un t (.i v::m) (a::l) (v::Aa):=⟨Pw h.out⟩
instance (priority:=2000) [h:Un t m l Aa]:Un t (.k::.k::.k::.k::.k::.k::.k::.k::.k::.k::m) (c0::gb::c2::c3::c4::c5::Uc::ng::Lf::c9::l) (c0::gb::c2::c3::c4::c5::Uc::ng::Lf::c9::Aa):=⟨mk (mk (mk (mk (mk (mk (mk (mk (mk (mk h.out)))))))))⟩
instance (priority:=2000) [h:Un t m l Aa]:Un t (.o vd::.o ld::.o ao::.o Zw::.o ax::.o bx::.o NL::.o OL::.o PL::.o QL::m) (c0::gb::c2::c3::c4::c5::Uc::ng::Lf::c9::l) (t vd::t ld::t ao::t Zw::t ax::t bx::t NL::t OL::t PL::t QL::Aa):=⟨nb (nb (nb (nb (nb (nb (nb (nb (nb (nb h.out)))))))))⟩
end
section
variable {P:Program}{Q Q':Exit->Act->World->Prop}{ds:List Deferred}{w:World}{t:Nat->Value}{ms:List Go.Bc.hb}{a b fr:List Value}{c y:Code}
theorem tC [e:Un t ms a b] (h:ud P y Q' b ds w):Exit.then (Gp P y Q') Q .normal (F (ni t ms a) ds) w:=Pm e.out (ag h)
theorem YG [e:Un t ms a b] (h:ud P c Q b ds w):ud P c Q (ni t ms a) ds w:=oG e.out h
theorem Wc (b:List Nat) (a:List Go.Bc.hb->World->Prop) (h:ud P c (Exit.then (λe w'=>∃ m ya,e=F ya ds/\We m fr ya/\a m w') Q) fr ds w) (k:∀ m t w,a m w->Q .normal (F (ni t m fr) ds) w) (f:b.Nodup:=by decide +kernel) (g:∀ m w,a m w->opens m=b:=by intro _ _ d;(repeat first | (obtain ⟨rfl,_⟩:=d;rfl) | obtain ⟨_,d⟩:=d)):ud P c Q fr ds w:=fB b f a g h k
theorem nf (b:List Nat) (a:Nat->List Go.Bc.hb->World->Prop){vd:Nat}{d:List Go.Bc.hb}(h:a vd d w) (round:∀ n m t w,a n m w->ud P c (Exit.then (λi w'=>∃ f g ya,i=F ya ds/\We g fr ya/\a f g w'/\f<n) Q) (ni t m fr) ds w) (j:We d fr fr:=by exact mc) (k:b.Nodup:=by decide +kernel) (l:∀ n m w,a n m w->opens m=b:=by intro _ _ _ e;(repeat first | (obtain ⟨rfl,_⟩:=e;rfl) | obtain ⟨_,e⟩:=e)):ud P (.loop c) Q fr ds w:=qo b k a l vd d j h round
end
structure Ed (A:Prop):Prop where out:A
theorem le {μ J:M}(h:ha μ J:=by repeat first | exact ha.r | with_reducible assumption | refine ha.t ?_ (by with_reducible assumption)):ha μ J:=h
section
variable {P:Program}{fr:List Value}{w:World}{T:TypeId}{zc:List Value}{n m i b p:Nat}{x:Operand}{v:Value}{μ Ta:M}{da:World}{rs:List Ha}{cs:List Value}{Ef:TypeId}{dst:Option Tmp}{ty:TypeId}{pos:String}{after:Array Edge}{g:Option (Nat×Bool)}
theorem DW (a:fa μ da w rs) [c:wb P T false zc n m] [d:sc fr x (.pointer (some ⟨b,p,none⟩))] [e:sl rs b Ef cs] [la:Bh cs p v]:lk P (Oper.mk dst (.load T x) ty pos after g) fr w v:=Yd c d.out (sl.cell a)
theorem EW (a:fa μ da w rs) (c:xa Ta b p cs) (le:ha Ta μ) [d:wb P T false zc n m] [e:sc fr x (.pointer (some ⟨b,p+i,none⟩))] [la:Bh cs i v]:lk P (Oper.mk dst (.load T x) ty pos after g) fr w v:=Yd d e.out (xa.cell c le a)
end
theorem FW {P:Program}{fr:List Value}{w:World}{T:TypeId}{zc:List Value}{n m b p:Nat}{x:Operand}{v:Value}{μ Ta:M}{da:World}{rs:List Ha}{cs:List Value}{dst:Option Tmp}{ty:TypeId}{pos:String}{after:Array Edge}{g:Option (Nat×Bool)}(a:fa μ da w rs) (c:xa Ta b p cs) (le:ha Ta μ) [d:wb P T false zc n m] [e:sc fr x (.pointer (some ⟨b,p,none⟩))] [la:Bh cs 0 v]:lk P (Oper.mk dst (.load T x) ty pos after g) fr w v:=Yd d e.out (xa.cell (i:=0) c le a)
theorem cu {P:Program}{ops:Array Oper}{Q:Exit->Act->World->Prop}{Va:List Mon}{R:List Nat}{fr:List Value}{ds:List Deferred}{w:World}(k:Ud P ops Q Va R fr ds w) (a:qd Va w:=by repeat first | exact qd.z | refine qd.s (DW (by with_reducible assumption)) ?_ | refine qd.s (EW (by with_reducible assumption) (by with_reducible assumption) le) ?_ | refine qd.s (FW (by with_reducible assumption) (by with_reducible assumption) le) ?_):bu P ops Q Va R fr ds w:=⟨a,k⟩
section
variable {P:Program}{Q:Exit->Act->World->Prop}{fr:List Value}{ds:List Deferred}{w:World}{ops:Array Oper}{l:List Oper}{c:Code}{R:List Nat}{Va:List Mon}
theorem RL (h:Ee P ops Q l fr ds w):Ee P ops Q l fr ds w:=h
theorem uC (h:ud P c Q fr ds w):ud P c Q fr ds w:=h
theorem SL (h:Ud P ops Q Va R fr ds w):Ud P ops Q Va R fr ds w:=h
theorem TL (h:bu P ops Q Va R fr ds w):bu P ops Q Va R fr ds w:=h
theorem vC {d:Option Tmp}{v:Value}{K:List Value->Prop}(h:Hg fr d v K):Hg fr d v K:=h
theorem wC {id:Nat}{e:Exit}{a:Act}(h:Exit.inBlock id Q e a w):Exit.inBlock id Q e a w:=h
end
theorem go {α:Type}{o:Option α}{r:α}{A B:Prop}(h:o=some r) (k:A) (a:Ed A->o=some r->B:=by intro kk h;(repeat first | ((with_reducible refine RL ?_);first | refine st ?_ | refine rm ?_ | refine cC (by with_reducible assumption) ?_ | (refine XG rfl ?_;first | refine st ?_ | refine cC (by with_reducible assumption) ?_ | refine dC (by with_reducible assumption) (by with_reducible assumption) le ?_ | refine eC (by with_reducible assumption) (by with_reducible assumption) le ?_) | refine Lr rfl rfl ?_ | refine Kh (by with_reducible assumption) ?_ | refine dC (by with_reducible assumption) (by with_reducible assumption) le ?_ | refine eC (by with_reducible assumption) (by with_reducible assumption) le ?_ | refine jg h (λxx b h=>?_) | (refine XG rfl ?_;refine jg h (λxx b h=>?_)) | refine Yg ?_) | ((with_reducible refine uC ?_);first | with_reducible refine YG ?_ | with_reducible refine Xk ?_ | with_reducible refine Nh ?_ | with_reducible refine Ei ?_ | with_reducible refine Pn ?_ | with_reducible refine ht ?_) | ((with_reducible refine vC ?_);refine ua ?_) | refine tC ?_ | with_reducible refine ag ?_ | with_reducible refine aj ?_ | with_reducible refine Bq ?_ | with_reducible refine Ko ?_ | with_reducible refine Ym ?_ | with_reducible refine Yt ?_ | with_reducible refine Zt ?_ | ((with_reducible refine wC ?_);refine wh rfl ?_));revert h;(repeat revert xx);exact kk.out):B:=a ⟨k⟩ h
theorem aa {A B:Prop}(k:A) (a:Ed A->B:=by intro kk;(repeat first | ((with_reducible refine RL ?_);first | refine st ?_ | refine rm ?_ | refine cC (by with_reducible assumption) ?_ | (refine XG rfl ?_;first | refine st ?_ | refine cC (by with_reducible assumption) ?_ | refine dC (by with_reducible assumption) (by with_reducible assumption) le ?_ | refine eC (by with_reducible assumption) (by with_reducible assumption) le ?_) | refine Lr rfl rfl ?_ | refine Kh (by with_reducible assumption) ?_ | refine dC (by with_reducible assumption) (by with_reducible assumption) le ?_ | refine eC (by with_reducible assumption) (by with_reducible assumption) le ?_ | refine Yg ?_) | ((with_reducible refine uC ?_);first | with_reducible refine YG ?_ | with_reducible refine Xk ?_ | with_reducible refine Nh ?_ | with_reducible refine Ei ?_ | with_reducible refine Pn ?_ | with_reducible refine ht ?_) | ((with_reducible refine vC ?_);refine ua ?_) | refine tC ?_ | with_reducible refine ag ?_ | with_reducible refine aj ?_ | with_reducible refine Bq ?_ | with_reducible refine Ko ?_ | with_reducible refine Ym ?_ | with_reducible refine Yt ?_ | with_reducible refine Zt ?_ | ((with_reducible refine wC ?_);refine wh rfl ?_));exact kk.out):B:=a ⟨k⟩
theorem gs {α:Type}{o:Option α}{r:α}{A B:Prop}(h:o=some r) (k:A) (a:Ed A->o=some r->B:=by intro kk h;(repeat first | ((with_reducible refine SL ?_);first | (refine FL rfl ?_;first | ((with_reducible refine Vw ?_);first | refine sw (by with_reducible assumption) ?_ | refine tw (by with_reducible assumption) (by with_reducible assumption) le ?_ | refine vw (by with_reducible assumption) (by with_reducible assumption) le ?_) | ((with_reducible refine Ww ?_);first | refine Gw (by with_reducible assumption) ?_ | refine Ho ?_) | ((with_reducible refine Uw ?_);first | refine Ho ?_ | refine CW h (λxx b h=>?_)) | ((with_reducible refine Yw ?_);first | refine Io rfl rfl ?_ | refine uw (by with_reducible assumption) rfl ?_) | ((with_reducible refine Xw ?_);first | refine Fw rfl ?_ | refine Io rfl rfl ?_)) | refine sz ?_ | refine fy ?_ | (refine hL rfl ?_;first | ((with_reducible refine Vw ?_);first | refine sw (by with_reducible assumption) ?_ | refine tw (by with_reducible assumption) (by with_reducible assumption) le ?_ | refine vw (by with_reducible assumption) (by with_reducible assumption) le ?_) | ((with_reducible refine Ww ?_);first | refine Gw (by with_reducible assumption) ?_ | refine Ho ?_) | ((with_reducible refine Uw ?_);refine Ho ?_) | ((with_reducible refine Yw ?_);first | refine Io rfl rfl ?_ | refine uw (by with_reducible assumption) rfl ?_) | ((with_reducible refine Xw ?_);first | refine Fw rfl ?_ | refine Io rfl rfl ?_)) | (refine iL rfl ?_;first | ((with_reducible refine Vw ?_);first | refine sw (by with_reducible assumption) ?_ | refine tw (by with_reducible assumption) (by with_reducible assumption) le ?_ | refine vw (by with_reducible assumption) (by with_reducible assumption) le ?_) | ((with_reducible refine Ww ?_);first | refine Gw (by with_reducible assumption) ?_ | refine Ho ?_) | ((with_reducible refine Uw ?_);refine Ho ?_) | ((with_reducible refine Yw ?_);first | refine Io rfl rfl ?_ | refine uw (by with_reducible assumption) rfl ?_) | ((with_reducible refine Xw ?_);first | refine Fw rfl ?_ | refine Io rfl rfl ?_))) | ((with_reducible refine TL ?_);refine cu ?_) | ((with_reducible refine uC ?_);first | with_reducible refine Ei ?_ | with_reducible refine Pn ?_ | with_reducible refine ht ?_) | ((with_reducible refine vC ?_);refine ua ?_) | refine tC ?_ | with_reducible refine ag ?_ | with_reducible refine aj ?_ | with_reducible refine Bq ?_ | with_reducible refine Ko ?_ | with_reducible refine Ym ?_ | with_reducible refine Yt ?_ | with_reducible refine Zt ?_ | ((with_reducible refine wC ?_);refine wh rfl ?_));revert h;(repeat revert xx);exact kk.out):B:=a ⟨k⟩ h
theorem ta {A B:Prop}(k:A) (a:Ed A->B:=by intro kk;(repeat first | ((with_reducible refine SL ?_);first | (refine FL rfl ?_;first | ((with_reducible refine Vw ?_);first | refine sw (by with_reducible assumption) ?_ | refine tw (by with_reducible assumption) (by with_reducible assumption) le ?_ | refine vw (by with_reducible assumption) (by with_reducible assumption) le ?_) | ((with_reducible refine Ww ?_);first | refine Gw (by with_reducible assumption) ?_ | refine Ho ?_) | ((with_reducible refine Uw ?_);refine Ho ?_) | ((with_reducible refine Yw ?_);first | refine Io rfl rfl ?_ | refine uw (by with_reducible assumption) rfl ?_) | ((with_reducible refine Xw ?_);first | refine Fw rfl ?_ | refine Io rfl rfl ?_)) | refine sz ?_ | refine fy ?_ | (refine hL rfl ?_;first | ((with_reducible refine Vw ?_);first | refine sw (by with_reducible assumption) ?_ | refine tw (by with_reducible assumption) (by with_reducible assumption) le ?_ | refine vw (by with_reducible assumption) (by with_reducible assumption) le ?_) | ((with_reducible refine Ww ?_);first | refine Gw (by with_reducible assumption) ?_ | refine Ho ?_) | ((with_reducible refine Uw ?_);refine Ho ?_) | ((with_reducible refine Yw ?_);first | refine Io rfl rfl ?_ | refine uw (by with_reducible assumption) rfl ?_) | ((with_reducible refine Xw ?_);first | refine Fw rfl ?_ | refine Io rfl rfl ?_)) | (refine iL rfl ?_;first | ((with_reducible refine Vw ?_);first | refine sw (by with_reducible assumption) ?_ | refine tw (by with_reducible assumption) (by with_reducible assumption) le ?_ | refine vw (by with_reducible assumption) (by with_reducible assumption) le ?_) | ((with_reducible refine Ww ?_);first | refine Gw (by with_reducible assumption) ?_ | refine Ho ?_) | ((with_reducible refine Uw ?_);refine Ho ?_) | ((with_reducible refine Yw ?_);first | refine Io rfl rfl ?_ | refine uw (by with_reducible assumption) rfl ?_) | ((with_reducible refine Xw ?_);first | refine Fw rfl ?_ | refine Io rfl rfl ?_))) | ((with_reducible refine TL ?_);refine cu ?_) | ((with_reducible refine uC ?_);first | with_reducible refine Ei ?_ | with_reducible refine Pn ?_ | with_reducible refine ht ?_) | ((with_reducible refine vC ?_);refine ua ?_) | refine tC ?_ | with_reducible refine ag ?_ | with_reducible refine aj ?_ | with_reducible refine Bq ?_ | with_reducible refine Ko ?_ | with_reducible refine Ym ?_ | with_reducible refine Yt ?_ | with_reducible refine Zt ?_ | ((with_reducible refine wC ?_);refine wh rfl ?_));exact kk.out):B:=a ⟨k⟩
theorem MW {μ J:M}(h:ha μ J):ha μ J:=h
theorem NW {m:List Go.Bc.hb}{l Aa:List Value}(h:We m l Aa):We m l Aa:=h
theorem ex {G:Prop}(a:G:=by
 (with_reducible repeat' first | apply And.intro | apply Exists.intro)
 (all_goals try ((with_reducible show _=some _);first | with_reducible assumption | assumption))
 (all_goals try ((with_reducible show fa _ _ _ _);first | with_reducible assumption | assumption))
 (all_goals try ((with_reducible show _=_);rfl))
 (all_goals try first | with_reducible assumption | with_reducible exact qa.nil | with_reducible exact za.nil | ((with_reducible refine qa.up ?_ (by with_reducible assumption));exact le) | ((with_reducible refine Fe.up ?_ (by with_reducible assumption));exact le) | ((with_reducible refine au.up ?_ (by with_reducible assumption));exact le) | ((with_reducible refine me.up ?_ (by with_reducible assumption));exact le) | ((with_reducible refine Cg.up ?_ (by with_reducible assumption));exact le) | ((with_reducible refine za.up (by with_reducible assumption) ?_);exact le) | ((with_reducible refine xa.up (by with_reducible assumption) ?_);exact le) | ((with_reducible refine Bf.up (by with_reducible assumption) ?_);exact le) | ((with_reducible refine ke.up (by with_reducible assumption) ?_);exact le) | ((with_reducible refine Tf.up (by with_reducible assumption) ?_);exact le) | ((with_reducible refine D1.up (by with_reducible assumption) ?_);exact le) | ((with_reducible refine xh.up (by with_reducible assumption) ?_);exact le) | ((with_reducible refine qh.up (by with_reducible assumption) ?_);exact le) | ((with_reducible refine vr.up (by with_reducible assumption) ?_);exact le) | ((with_reducible refine Ek.up (by with_reducible assumption) ?_);exact le))
 (all_goals try first | ((with_reducible refine MW ?_);exact le) | ((with_reducible refine NW ?_);exact mc) | with_reducible exact Nat.lt_succ_self _)):G:=a
end
section
open Go.Bc Go.RowKit
theorem uc {G:Prop}(a:G:=by
 first
 | (refine Hd rfl Bh.out ?_; exact ex)
 | (refine aa ?_; first | (refine Hd rfl Bh.out ?_; exact ex) | exact ex)):G:=a
theorem Lc {α:Type}{x r:α}{B:Prop}(h:some x=some r) (a:x=r->B:=by
 intro h;subst h;exact uc):B:=a (Option.some.inj h)
theorem ra {α β:Type}{x:Option α}{f:α->Option β}{r:β}{G:Prop}(h:Option.bind x f=some r) (k:∀ a,x=some a->f a=some r->G):G:=let ⟨a,e,h⟩:=te h;k a e h
end
theorem lv {α : Type}{a b : α}(h : some a = some b) : a = b := Option.some.inj h
abbrev rg : Nat -> Nat -> List Nat := λa b => List.range' a b
end Go.Re
