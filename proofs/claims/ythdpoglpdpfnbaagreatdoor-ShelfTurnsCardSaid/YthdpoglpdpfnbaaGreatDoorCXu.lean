/- The shelf: texts of Xu. -/
import Derived.Test.YthdpoglpdpfnbaaGreatDoorCXt
import Derived.Laws.MakeOwn
import Derived.Laws.CopyRow
import Derived.Laws.IdiomCopy
import Derived.Lib.AppendZeros
import Derived.Shelf.Strconv.ParseIntPublic10
import Derived.Lib.IndexMore
import Derived.Sort.Row
set_option linter.unusedSimpArgs false
set_option linter.unusedVariables false
set_option linter.unusedSectionVars false
namespace Go.hd
open Go.wc Go.RowKit
theorem ma.split {α:Type}[Ta α]{μ:M}:∀ {l:List α}{cells:List Value}{i:Nat}{x:α},ma μ cells l→l[i]?=some x →
  ∃ Uc cs Gj,cells=Uc++(cs++Gj)∧Uc.length=i*Ta.sz α∧Ta.cs μ cs x∧∀ (I:M) (a:List Value) (c:α),ga μ I→Ta.cs I a c→ma I (Uc++(a++Gj)) (l.set i c)
 | [],cells,i,x,h,b=>by simp at b
 | y::l,cells,i,x,h,b=>by
  rw [ma] at h;obtain ⟨cs,t,rfl,f,j⟩:=h;cases i with
  | zero =>
   simp at b;subst b;exact ⟨[],cs,t,rfl,by simp,f,fun I a c d g=>⟨a,t,rfl,g,j.up d⟩⟩
  | succ i =>
   simp at b;obtain ⟨Uc,Mm,Gj,rfl,e,m,st⟩:=ma.split j b;exact ⟨cs++Uc,Mm,Gj,by simp,by simp [e,Ta.nh f,Nat.add_mul];omega,m,fun I a c d g=>⟨cs,Uc++(a++Gj),by simp,Ta.up d f,st I a c d g⟩⟩
theorem _root_.Go.wc.Row.Kh {α:Type}[Ta α]{w:World}{T:TypeId}{n:Nat}{μ:M}{v:Value}{cells:List Value}{l:List α}{i:Int}{x:α}(h:Row w v T (Ta.sz α) n cells) (d:ma μ cells l) (z:l.length=n) (g:at_ l i=some x) :
  ∃ b o Uc cs Gj,cells=Uc++(cs++Gj)∧Lj v (Ta.sz α) i b o∧(∀ w T a,Row w v T (Ta.sz α) n (Uc++(a++Gj))→a.length=Ta.sz α→Yi w b o a)∧Ta.cs μ cs x∧Uc.length=i.toNat*Ta.sz α ∧
   (∀ (I:M) (a:List Value) (f:α),ga μ I→Ta.cs I a f→ma I (Uc++(a++Gj)) (l.set i.toNat f))∧ma μ (Uc++(cs++Gj)) l:=by
 obtain ⟨q,A,r⟩:=ur g;obtain ⟨b,o,c,rfl,hc⟩:=h.Eo (by omega);obtain ⟨Uc,cs,Gj,rfl,e,m,st⟩:=d.split r;refine ⟨b,o+i.toNat*Ta.sz α,Uc,cs,Gj,rfl,⟨o,_,_,rfl,q,by omega,rfl⟩,?_,m,e,st,d⟩;intro B C a s D j u k;obtain ⟨b',F,c',p,t⟩:=s.Eo (by omega);simp at p;obtain ⟨⟨rfl,rfl⟩,rfl⟩:=p;have y:j<a.length:=(List.getElem?_eq_some_iff.1 k).1;have:=t (Uc.length+j) u (by rw [List.getElem?_append_right (by omega),show Uc.length+j - Uc.length=j by omega,List.getElem?_append_left y];exact k);rw [e,← Nat.add_assoc] at this;exact this
theorem Bl {Uc cs a Gj vs:List Value}{i off sz:Nat}(pl:Uc.length=i*sz) (h:cs.take off++vs++cs.drop (off+vs.length)=a) (b:off+vs.length≤cs.length) :
  (Uc++(cs++Gj)).take (i*sz+off)++vs++(Uc++(cs++Gj)).drop (i*sz+off+vs.length)=Uc++(a++Gj):=by
 subst h;rw [← pl,Nat.add_assoc,List.take_append,List.drop_append];simp [List.take_append_of_le_length (show off≤cs.length by omega),List.drop_append_of_le_length b,List.take_of_length_le (show Uc.length≤Uc.length+off by omega),List.drop_of_length_le (show Uc.length≤Uc.length+(off+vs.length) by omega)]
section
variable {P:Program}{Q:Exit→Act→World→Prop}{K:List Value→List Deferred→World→Prop}{fr V:List Value}{ds:List Deferred}{w:World}
variable {dst:Option Tmp}{ty:TypeId}{pos:String}{after:Array Edge}{g:Option (Nat×Bool)}
variable {w0:World}{rs rs':List Fb}{μ I:M}
variable {T:TypeId}
theorem Dd.two {es:List MapEntry}{c:Nat}{k0 k1:List UInt8}{x0 x1:Int}(h:Dd μ es c [(k0,x0),(k1,x1)]) :
  ∃ u j,es=[⟨S k0,.int .i64 x0,u⟩,⟨S k1,.int .i64 x1,j⟩]∧u<j∧j<c:=by
 obtain ⟨e,l,m⟩:=h
 match es,e,l,m with
 | [],e,_,_=>simp [pf] at e
 | [a],e,_,_ =>
  rw [pf] at e;obtain ⟨k,x,t,g,-,-,f⟩:=e;simp [pf] at f g;simp [f] at g
 | [a,b],e,l,m =>
  rw [pf] at e;obtain ⟨k,x,t,g,n,o,f⟩:=e;rw [pf] at f;obtain ⟨w,y,t',p,q,r,s⟩:=f;subst p;simp only [List.cons.injEq,Prod.mk.injEq] at g;obtain ⟨⟨rfl,rfl⟩,⟨rfl,rfl⟩,-⟩:=g;obtain ⟨z,A,v⟩:=a;obtain ⟨B,bv,i⟩:=b;have o:A=.int .i64 x0:=o;have r:bv=.int .i64 x1:=r;have n:z=S k0:=n;have q:B=S k1:=q;subst n q o r;have C:v<i:=List.rel_of_pairwise_cons m (List.mem_singleton.2 rfl);have D:i<c:=l ⟨S k1,.int .i64 x1,i⟩ (by simp);exact ⟨v,i,rfl,C,D⟩
 | a::b::d::es,e,_,_ =>
  rw [pf] at e;obtain ⟨k,x,t,g,-,-,f⟩:=e;rw [pf] at f;obtain ⟨w,y,t',p,-,-,s⟩:=f;rw [pf] at s;obtain ⟨G,H,K,F,-,-,-⟩:=s;subst F p;simp at g
theorem Gp (w:World) (b:Nat) (o:Obj) (a:b<w.heap.size):di (fun k=>k≠b) w { w with heap:=w.heap.setIfInBounds b o }∧({ w with heap:=w.heap.setIfInBounds b o }:World).heap[b]?=some o :=
 ⟨⟨rfl,rfl,rfl,by simp,fun j _ c=>by simp [Array.getElem?_setIfInBounds,Ne.symm c]⟩,by simp [a]⟩
theorem xF {x:Operand}{b m c i k a d:Nat}{a0 v0 O v1:Value}(n:pb fr x (.pointer (some ⟨b,0,none⟩))) (f:la μ w0 w rs) (cb:yc rs i (.hj b m c [] c)) (hm:yc rs k (.map m [⟨a0,v0,a⟩,⟨O,v1,d⟩] c)) (A:a<d) (o:d<c)
  (v:∀ w' rs',tc rs i (.hj b m c [a] c) rs'→la μ w0 w' rs'→Og fr dst (.tuple ⟨[.bool true,a0,v0]⟩) fun V=>K V ds w')
  (y:∀ w' rs',tc rs i (.hj b m c [d] c) rs'→la μ w0 w' rs'→Og fr dst (.tuple ⟨[.bool true,O,v1]⟩) fun V=>K V ds w') :
  Md P (Oper.mk dst (.next x false) ty pos after g) fr ds w K Q:=by
 have h:w.heap[b]?=some (.mapIter (some m) c ⟨[]⟩ c):=f.get cb;have p:w.heap[m]?=some (.map ⟨[⟨a0,v0,a⟩,⟨O,v1,d⟩]⟩ c):=f.get hm;have q:b<w.heap.size:=(Array.getElem?_eq_some_iff.1 h).1;have r:w.drew.heap[b]?=some (.mapIter (some m) c ⟨[]⟩ c):=h;have s:a<c:=by omega
 have t:¬ a ≥ c:=by omega
 have u:¬ d ≥ c:=by omega
 by_cases rb:(w.tape w.drawn (.mapNext 2)) % 2=0
 ·obtain ⟨j,l⟩:=Gp w.drew b (.mapIter (some m) c ⟨[a]⟩ c) q;obtain ⟨V,e⟩:=Ih fr dst (.tuple ⟨[.bool true,a0,v0]⟩);refine bh (w':={ w.drew with heap:=w.drew.heap.setIfInBounds b (.mapIter (some m) c ⟨[a]⟩ c) }) ?_ e (v _ _ rfl ((f.drew (w':=w.drew) rfl rfl rfl rfl).put (b:=b) cb rfl rfl rfl l j) V e);simp [execOp,n ds,Instr.next,getObj,setObj,Sem.run,h,p,Result.andThen,s,o,t,u,choose,Question.forced,Question.cut,rb,r]
 ·have z:(w.tape w.drawn (.mapNext 2)) % 2=1:=by omega
  obtain ⟨j,l⟩:=Gp w.drew b (.mapIter (some m) c ⟨[d]⟩ c) q;obtain ⟨V,e⟩:=Ih fr dst (.tuple ⟨[.bool true,O,v1]⟩);refine bh (w':={ w.drew with heap:=w.drew.heap.setIfInBounds b (.mapIter (some m) c ⟨[d]⟩ c) }) ?_ e (y _ _ rfl ((f.drew (w':=w.drew) rfl rfl rfl rfl).put (b:=b) cb rfl rfl rfl l j) V e);simp [execOp,n ds,Instr.next,getObj,setObj,Sem.run,h,p,Result.andThen,s,o,t,u,choose,Question.forced,Question.cut,z,r]
theorem yF {x:Operand}{b m c f k a d:Nat}{a0 v0 O v1:Value}(n:pb fr x (.pointer (some ⟨b,0,none⟩))) (e:la μ w0 w rs) (cb:yc rs f (.hj b m c [a] c)) (hm:yc rs k (.map m [⟨a0,v0,a⟩,⟨O,v1,d⟩] c)) (B:a<d) (o:d<c)
  (p:∀ w' rs',tc rs f (.hj b m c [a,d] c) rs'→la μ w0 w' rs'→Og fr dst (.tuple ⟨[.bool true,O,v1]⟩) fun V=>K V ds w') :
  Md P (Oper.mk dst (.next x false) ty pos after g) fr ds w K Q:=by
 have j:w.heap[b]?=some (.mapIter (some m) c ⟨[a]⟩ c):=e.get cb;have q:w.heap[m]?=some (.map ⟨[⟨a0,v0,a⟩,⟨O,v1,d⟩]⟩ c):=e.get hm;have r:b<w.heap.size:=(Array.getElem?_eq_some_iff.1 j).1;have s:¬ a ≥ c:=by omega
 have t:¬ d ≥ c:=by omega
 have u:¬ ∀ (i:Nat) (x:i<2),c≤([⟨a0,v0,a⟩,⟨O,v1,d⟩]:List MapEntry)[i].born:=fun h=>by have:=h 0 (by decide);simp at this;omega
 have v:¬ d=a:=by omega
 have y:¬ a=d:=by omega
 obtain ⟨z,A⟩:=Gp w b (.mapIter (some m) c ⟨[a,d]⟩ c) r;obtain ⟨V,l⟩:=Ih fr dst (.tuple ⟨[.bool true,O,v1]⟩);refine bh (w':={ w with heap:=w.heap.setIfInBounds b (.mapIter (some m) c ⟨[a,d]⟩ c) }) ?_ l (p _ _ rfl (e.put (b:=b) cb rfl rfl rfl A z) V l);simp [execOp,n ds,Instr.next,getObj,setObj,Sem.run,j,q,Result.andThen,o,s,t,v,y,u,choose,Question.forced]
theorem HE {x:Operand}{b m c f k d a:Nat}{a0 v0 O v1:Value}(n:pb fr x (.pointer (some ⟨b,0,none⟩))) (e:la μ w0 w rs) (cb:yc rs f (.hj b m c [a] c)) (hm:yc rs k (.map m [⟨a0,v0,d⟩,⟨O,v1,a⟩] c)) (B:d<a) (C:a<c)
  (o:∀ w' rs',tc rs f (.hj b m c [a,d] c) rs'→la μ w0 w' rs'→Og fr dst (.tuple ⟨[.bool true,a0,v0]⟩) fun V=>K V ds w') :
  Md P (Oper.mk dst (.next x false) ty pos after g) fr ds w K Q:=by
 have j:w.heap[b]?=some (.mapIter (some m) c ⟨[a]⟩ c):=e.get cb;have p:w.heap[m]?=some (.map ⟨[⟨a0,v0,d⟩,⟨O,v1,a⟩]⟩ c):=e.get hm;have q:b<w.heap.size:=(Array.getElem?_eq_some_iff.1 j).1;have r:d<c:=by omega
 have s:¬ d ≥ c:=by omega
 have t:¬ a ≥ c:=by omega
 have u:¬ ∀ (i:Nat) (x:i<2),c≤([⟨a0,v0,d⟩,⟨O,v1,a⟩]:List MapEntry)[i].born:=fun h=>by have:=h 0 (by decide);simp at this;omega
 have v:¬ a=d:=by omega
 have y:¬ d=a:=by omega
 obtain ⟨z,A⟩:=Gp w b (.mapIter (some m) c ⟨[a,d]⟩ c) q;obtain ⟨V,l⟩:=Ih fr dst (.tuple ⟨[.bool true,a0,v0]⟩);refine bh (w':={ w with heap:=w.heap.setIfInBounds b (.mapIter (some m) c ⟨[a,d]⟩ c) }) ?_ l (o _ _ rfl (e.put (b:=b) cb rfl rfl rfl A z) V l);simp [execOp,n ds,Instr.next,getObj,setObj,Sem.run,j,p,Result.andThen,r,s,t,v,y,u,choose,Question.forced]
theorem dB {x:Operand}{b m c f k d a p q:Nat}{a0 v0 O v1:Value}(j:pb fr x (.pointer (some ⟨b,0,none⟩))) (e:la μ w0 w rs) (cb:yc rs f (.hj b m c [p,q] c)) (hm:yc rs k (.map m [⟨a0,v0,d⟩,⟨O,v1,a⟩] c)) (y:d<a) (z:a<c) (l:p=d∧q=a∨p=a∧q=d)
  (rb:rf fr dst (.tuple ⟨[.bool false]⟩) V) (h:K V ds w) :
  Md P (Oper.mk dst (.next x false) ty pos after g) fr ds w K Q:=by
 have n:w.heap[b]?=some (.mapIter (some m) c ⟨[p,q]⟩ c):=e.get cb;have o:w.heap[m]?=some (.map ⟨[⟨a0,v0,d⟩,⟨O,v1,a⟩]⟩ c):=e.get hm;have r:¬ d ≥ c:=by omega
 have s:¬ a ≥ c:=by omega
 have t:¬ ∀ (i:Nat) (x:i<2),c≤([⟨a0,v0,d⟩,⟨O,v1,a⟩]:List MapEntry)[i].born:=fun h=>by have:=h 0 (by decide);simp at this;omega
 have u:¬ a=d:=by omega
 have v:¬ d=a:=by omega
 refine bh (w':=w) ?_ rb h;rcases l with ⟨rfl,rfl⟩ | ⟨rfl,rfl⟩<;>simp [execOp,j ds,Instr.next,getObj,setObj,Sem.run,n,o,Result.andThen,r,s,u,v,t,choose,Question.forced]
theorem zu {x:Operand}{b m c i k a d:Nat}{a0 v0 O v1:Value}{seen:List Nat}{e:MapEntry}(j:pb fr x (.pointer (some ⟨b,0,none⟩))) (f:la μ w0 w rs) (cb:yc rs i (.hj b m c seen c)) (hm:yc rs k (.map m [⟨a0,v0,a⟩,⟨O,v1,d⟩] c)) (s:a<d)
  (l:seen.getLast?=some e.born) (he:e=⟨a0,v0,a⟩∨e=⟨O,v1,d⟩) (rb:rf fr dst (.tuple ⟨[e.key,e.val]⟩) V) (h:K V ds w) :
  Md P (Oper.mk dst (.entry x) ty pos after g) fr ds w K Q:=by
 have n:w.heap[b]?=some (.mapIter (some m) c ⟨seen⟩ c):=f.get cb;have o:w.heap[m]?=some (.map ⟨[⟨a0,v0,a⟩,⟨O,v1,d⟩]⟩ c):=f.get hm;have p:¬ d=a:=by omega
 have q:¬ a=d:=by omega
 have r:(⟨seen⟩:Array Nat).back?=some e.born:=by rw [← l];simp [Array.back?,List.getLast?_eq_getElem?]
 refine bh (w':=w) ?_ rb h;rcases he with rfl | rfl<;>simp [execOp,j ds,Instr.entry,getObj,Sem.run,n,o,Result.andThen,r,p,q]
end
end Go.hd
namespace Go.hd
open Go.wc Go.RowKit
section
variable {P:Program}{Q:Exit→Act→World→Prop}{K:List Value→List Deferred→World→Prop}{fr V:List Value}{ds:List Deferred}{w:World}
variable {dst:Option Tmp}{ty:TypeId}{pos:String}{after:Array Edge}{g:Option (Nat×Bool)}
structure eB (P:Program) (f:FuncId) (args:List Value) (w:World) (R:Value→World→Prop):Prop where
 out:CallsD P f ⟨args⟩ .returning w fun e a w'=>a=.returning∧okV R e w'
theorem UH {fn:Func}{R a:Value→World→Prop}{k:FuncId}{cap vs:List Value}(b:Lb P k) (hc:eB P k (vs++cap) w a) (h:∀ v w',a v w'→hq P fn R .ret (F fr ds) w') :
  hq P fn R .ret (F fr (⟨.fn (.func k) ⟨cap⟩,⟨vs⟩⟩::ds)) w:=by
 refine ⟨by simp,.func k,⟨cap⟩,k,⟨vs++cap⟩,rfl,?_,?_⟩
 ·have:=b.out ⟨vs++cap⟩ w;simp [invoke,this]
 ·refine hc.out.mono fun e d w' he=>?_;obtain ⟨rfl,he⟩:=he;cases e with
  | returned v=>exact h v w' he
  | panicked c=>exact he.elim
  | outgrown=>exact he.elim
theorem MG {P:Program}{T:TypeId}{ms:Array (String×TypeId)}{v:Value}{b:Bool}(hu:P.underlying T=some (.interface ms)) (e:(v=.nilIface∧b=true)∨((∃ a c,v=.iface a c)∧b=false)):Tn P 1 T v .nilIface b:=⟨fun d w rb=>by
 cases d with
 | zero=>omega
 | succ d=>rcases e with ⟨rfl,rfl⟩ | ⟨⟨a,c,rfl⟩,rfl⟩ <;> simp [Op.equalIn,run_underlying hu]⟩
theorem NG {x:Operand}{t t':TypeId}{v:Value}{b:Bool}{ms:Array (String×TypeId)}(hu:P.underlying t=some (.interface ms)) (e:pb fr x v) (d:(v=.nilIface∧b=true)∨((∃ a c,v=.iface a c)∧b=false)) (f:rf fr dst (.bool b) V) (k:K V ds w) :
  Md P (Oper.mk dst (.binOp .eql t x (.const .nilIface) t') ty pos after g) fr ds w K Q:=by
 refine wa ⟨fun ds w=>?_⟩ f k;have h:=e ds;have i:(F fr ds).eval (.const .nilIface)=.nilIface:=rfl;have j:=(MG hu d).out Op.maxDepth w (by decide);rcases d with ⟨rfl,rfl⟩ | ⟨⟨a,c,rfl⟩,rfl⟩<;>simp [execOp,h,i,eqGuard,binOp,Op.equal,j]
end
end Go.hd
namespace Go.hd
open Go.wc Go.RowKit
def PI (agg:Bool) (cs:List Value):Value:=if agg then .agg ⟨cs⟩ else cs.headD undef
structure Im (P:Program) (E:M) (K:Nat) (e:List Value){α:Type}[Ta α] (agg:Bool) (f:α→Option Bool):Prop where
 Gr:Lb P K
 call:∀ {a:M}{w0 c:World}{rs:List Fb}{x:α}{b:Bool}{cs:List Value},ga E a→Ta.cs a cs x→f x=some b→la a w0 c rs→Ab P K ([PI agg cs]++e) c (fun v w'=>∃ d,v=.bool b∧ga a d∧la d w0 w' rs)
theorem Im.up {P:Program}{μ I:M}{K:Nat}{a:List Value}{α:Type}[Ta α]{agg:Bool}{b:α→Option Bool}(h:Im P μ K a agg b) (l:ga μ I):Im P I K a agg b:=⟨h.Gr,fun c=>h.call (l.t c)⟩
end Go.hd
namespace Go.hd
open Go.wc Go.RowKit
section
variable {P : Program}{Q : Exit → Act → World → Prop}{K : List Value → List Deferred → World → Prop}{fr V : List Value}{ds : List Deferred}{w w' : World}
variable {dst : Option Tmp}{ty : TypeId}{pos : String}{after : Array Edge}{g : Option (Nat × Bool)}
variable {w0 : World}{rs rs' : List Fb}{μ I : M}
variable {T : TypeId}{d : TypeDesc}{Ef : Bool}{Ed : List Value}{n m : Nat}
theorem _root_.Go.wc.Sep.newRow {S Od : Nat → Prop}{A : World → Prop}{v : Value}{sz k : Nat}{xs : List Value}(c : Sep S Od w0 w rs A) (d : Grow w w') (i : Row w' v T sz k xs) (e : ∀ b, v.ownBlock = some b → w.heap.size ≤ b) :
    Sep S Od w0 w' (.row v T sz k xs :: rs) A where
  keeps := c.keeps.trans d.keeps
  all r j := by
    rcases List.mem_cons.1 j with rfl | h
    · exact i
    · exact (c.grow d).all r h
  ki := by
    cases a : v.ownBlock with
    | none => simp only [blocks, List.filterMap_cons, Fb.block, a]; exact c.ki
    | some b =>
      simp only [blocks, List.filterMap_cons, Fb.block, a, List.nodup_cons];exact ⟨fun hm => by have := c.lt hm;have := e b a;omega, c.ki⟩
  new b hm := by
    cases a : v.ownBlock with
    | none => simp only [blocks, List.filterMap_cons, Fb.block, a] at hm; exact c.new b hm
    | some b' =>
      simp only [blocks, List.filterMap_cons, Fb.block, a, List.mem_cons] at hm;rcases hm with rfl | hm
      · exact .inl (Nat.le_trans c.keeps.size (e _ a))
      · exact c.new b hm
  Ci := fun l m n => c.Ci l (Nat.le_trans d.size m) fun k g f => (n k (Nat.lt_of_lt_of_le g d.size) ⟨f.1, fun hm => by
    cases a : v.ownBlock with
    | none => simp only [blocks, List.filterMap_cons, Fb.block, a] at hm; exact f.2 hm
    | some b' =>
      simp only [blocks, List.filterMap_cons, Fb.block, a, List.mem_cons] at hm;rcases hm with rfl | hm
      · have := e _ a;omega
      · exact f.2 hm⟩).trans (d.ba k g trivial)
theorem Zv {e : TypeId}{sz k base : Nat}{v : Value}{xs : List Value}(h : w.ownsRow base e sz v k xs) : Row w v e sz k xs ∧ ∀ b, v.ownBlock = some b → base ≤ b := by
  obtain ⟨a, d⟩ := h;rcases d with ⟨rfl, rfl⟩ | ⟨g, cap, cur, rfl, c, f, i, j, n, l⟩
  · exact ⟨⟨a, .inl ⟨rfl, rfl⟩⟩, fun b c => by simp [Value.ownBlock] at c⟩
  · exact ⟨⟨a, .inr ⟨g, 0, cap, cur, rfl, f, i, j, by omega, by simpa using l⟩⟩, fun b m => by simp [Value.ownBlock] at m;omega⟩
def Qk (n : Int) : Option Nat := if 0 ≤ n ∧ n ≤ 65536 then some n.toNat else none
theorem OG {n : Int}{k : Nat}(h : Qk n = some k) : n = k ∧ k ≤ 65536 := by
  unfold Qk at h;split at h
  · rename_i hc;have := Option.some.inj h;omega
  · cases h
theorem IE (z : Value) (k : Nat) : madeCells #[z] k = (List.replicate k z).toArray := by
  apply Array.ext';simp only [madeCells, Array.toList_map, Array.toList_range];apply List.ext_getElem?;intro i;simp only [List.getElem?_map, List.getElem?_range', List.getElem?_replicate];by_cases h : i < k
  · simp [h, Nat.mod_one]
  · simp [h]
theorem mo {x y : Operand}{e : TypeId}{z : Value}{bytes k : Nat}{c d : IntKind}{n : Int}(f : P.underlying T = some (.slice e)) (j : Kc P e Ef [z] 1 bytes) (v : bytes ≤ 4096) (l : pb fr x (.int c n)) (m : pb fr y (.int d n)) (o : Qk n = some k) (p : la μ w0 w rs)
    (h : ∀ b w', la μ w0 w' (.row (.slice (some ⟨b, 0, none⟩) k k) e 1 k (List.replicate k z):: rs) → Og fr dst (.slice (some ⟨b, 0, none⟩) k k) fun V => K V ds w') :
    Md P (Oper.mk dst (.makeSlice T x y) ty pos after g) fr ds w K Q := by
  obtain ⟨rfl, q⟩ := OG o;obtain ⟨i, r, cb, s, t, u, A⟩ := j.inf;have hm : i.bytes * k ≤ 4096 * 65536 := Nat.mul_le_mul (by omega) q;have a := run_make (P := P) w T e i r f cb s c d k k (by omega) (Int.le_refl _) (by rw [← Int.natCast_mul]; omega) (by omega)
  simp only [Int.toNat_natCast, u, Nat.mul_one, t] at a;rw [IE] at a;obtain ⟨V, rb⟩ := Ih fr dst (.slice (some ⟨w.heap.size, 0, none⟩) k k);refine bh (w' := w.alloc (.cells (List.replicate k z).toArray e)) ?_ rb (h _ _ (p.alloc rfl ⟨by simp, .inr ⟨_, 0, _, _, rfl, heap_alloc_new w _, Nat.le_refl _, by simp only [maxLen];omega, by simp, by simp⟩⟩) V rb);simp only [execOp, l ds, m ds, Sem.run_bind, a, Result.andThen_ok, Sem.run_pure]
theorem zn {α : Type}[Ta α]{z : Value}{x : α}(h : ∀ μ : M, Ta.cs μ [z] x) : ∀ k, ma μ (List.replicate k z) (List.replicate k x)
  | 0 => rfl
  | k + 1 => ⟨[z], _, rfl, h μ, zn h k⟩
theorem VH {t e : TypeId}{v : Value}{a : Option Addr}{k c : Nat}(hu : P.underlying t = some (.slice e)) : Tn P 1 t (.slice a k c) (.slice none 0 0) a.isNone := ⟨fun d w rb => by
  cases d with
  | zero => omega
  | succ d => cases a <;> simp [Op.equalIn, run_underlying hu]⟩
theorem zF {x : Operand}{t t' e : TypeId}{a : Option Addr}{k c : Nat}(hu : P.underlying t = some (.slice e)) (b : pb fr x (.slice a k c)) (d : rf fr dst (.bool a.isNone) V) (h : K V ds w) :
    Md P (Oper.mk dst (.binOp .eql t x (.const (.slice none 0 0)) t') ty pos after g) fr ds w K Q := by
  refine wa ⟨fun ds w => ?_⟩ d h;have f := b ds;have i : (F fr ds).eval (.const (.slice none 0 0)) = .slice none 0 0 := rfl;have j := (VH (v := .nilIface) (a := a) (k := k) (c := c) hu).out Op.maxDepth w (by decide);simp [execOp, f, i, eqGuard, binOp, Op.equal, j]
def small {α : Type}(l : List α) : Option Unit := if l.length ≤ 65536 then some () else none
theorem en {α : Type}{l : List α}{u : Unit}(h : small l = some u) : l.length ≤ 65536 := by
  unfold small at h;split at h
  · assumption
  · cases h
theorem ma.my {α : Type}[Ta α] : ∀ {l : List α}{cells : List Value}(i : Nat), ma μ cells l → ma μ (cells.take (i * Ta.sz α)) (l.take i)
  | [], cells, i, h => by rw [ma] at h; subst h; simp [ma]
  | x :: l, cells, 0, h => by simp [ma]
  | x :: l, cells, i + 1, h => by
    rw [ma] at h;obtain ⟨cs, t, rfl, a, b⟩ := h;rw [List.take_succ_cons, ma];refine ⟨cs, t.take (i * Ta.sz α), ?_, a, ma.my i b⟩;have e : (i + 1) * Ta.sz α = cs.length + i * Ta.sz α := by rw [Nat.add_mul, Ta.nh a];omega
    rw [e, List.take_append];simp [List.take_of_length_le (show cs.length ≤ cs.length + i * Ta.sz α by omega)]
theorem Row.Sy {α : Type}[Ta α]{v : Value}{cells : List Value}{l b : List α}{j : Int}(h : Row w v T (Ta.sz α) l.length cells) (hm : ma μ cells l) (g : cut l 0 j = some b) :
    ∃ a c, Un v (Ta.sz α) none (some j) a ∧ a.ownBlock = v.ownBlock ∧ (∀ w T, Row w v T (Ta.sz α) l.length cells → Row w a T (Ta.sz α) b.length c) ∧ ma μ c b := by
  obtain ⟨⟨n, d, e⟩, rfl⟩ := Yp g;obtain ⟨a, qa, f, i⟩ := Row.ZB h d e;refine ⟨a, cells.take (j.toNat * Ta.sz α), qa, f, fun w T k => ?_, by simpa using hm.my j.toNat⟩;have := i w T k;have m : ((l.take j.toNat).drop (0 : Int).toNat).length = j.toNat := by simp;omega
  rw [m];exact this
theorem AF {recv : Operand}{xs : List Operand}{tys : Array TypeId}{name : String}{k : FuncId}{t : TypeId}{a : Value}{vs : List Value}(hm : ∀ w, (method (P.types.size + Made.depth) t a name).run P w = .ok (k, a) w) (b : Lb P k) (c : pb fr recv (.iface t a)) (d : Bk fr xs vs) :
    (execOp (F fr ds).eval (Oper.mk dst (.call { callee := .invoke recv name, args := ⟨xs⟩, argTypes := tys }) ty pos after g)).run P w = .ok (.enter k ⟨a :: vs⟩) w := by
  have e := c ds;have f := d ds;have h := b.out ⟨a :: vs⟩ w;have i := hm w;simp [execOp, resolve, e, invoke, callMethod, f, h, i]
theorem fB {recv : Operand}{xs : List Operand}{tys : Array TypeId}{name : String}{k : FuncId}{t : TypeId}{a : Value}{vs : List Value}{R : Value → World → Prop}(hm : ∀ w, (method (P.types.size + Made.depth) t a name).run P w = .ok (k, a) w) (b : Lb P k) (c : pb fr recv (.iface t a)) (d : Bk fr xs vs)
    (hc : Ab P k (a :: vs) w R) (h : ∀ v w', R v w' → Og fr dst v fun V => K V ds w') : Md P (Oper.mk dst (.call { callee := .invoke recv name, args := ⟨xs⟩, argTypes := tys }) ty pos after g) fr ds w K Q :=
  uu (args := a :: vs) (AF hm b c d) hc h
theorem PG {x : Operand}{e : TypeId}{b : Nat}(hu : P.underlying T = some (.pointer e)) (a : pb fr x (.pointer (some ⟨b, 0, none⟩))) : bf P (Oper.mk dst (.makeInterface T x) ty pos after g) fr (.iface T (.pointer (some ⟨b, 0, none⟩))):= ⟨fun ds w => by
  have c := a ds;simp [execOp, c, Instr.makeInterface, run_underlying hu]⟩
end
end Go.hd
namespace Go.hd
open Go.wc Go.RowKit
section
variable {P:Program}{Q:Exit→Act→World→Prop}{K:List Value→List Deferred→World→Prop}{fr V:List Value}{ds:List Deferred}{w w':World}
variable {dst:Option Tmp}{ty:TypeId}{pos:String}{after:Array Edge}{g:Option (Nat×Bool)}
variable {w0:World}{rs rs':List Fb}{μ I:M}
variable {T:TypeId}{d:TypeDesc}{Ef:Bool}{Ed:List Value}{n m:Nat}
def Mo (a b:Int):Option Int:=if b=0 then none else some (a.tmod b)
theorem Au {a b c:Int}(h:Mo a b=some c):b≠0∧a.tmod b=c:=by
 unfold Mo at h;split at h
 ·cases h
 ·rename_i d;exact ⟨d,Option.some.inj h⟩
theorem Lj.uniq {v:Value}{sz:Nat}{i:Int}{b o b' a:Nat}(h:Lj v sz i b o) (d:Lj v sz i b' a):b=b'∧o=a:=by
 obtain ⟨e,n,c,rfl,_,_,rfl⟩:=h.out;obtain ⟨f,g,j,he,_,_,rfl⟩:=d.out;cases he;exact ⟨rfl,rfl⟩
theorem DA {α:Type}{w:World}{v:Value}{T sz i:Nat}{x:α}{l:List α}{cs:List Value}(h:Row w v T sz (l.set i x).length cs):Row w v T sz l.length cs:=by
 rwa [List.length_set] at h
theorem JE {α:Type}{l:List α}{k:Nat}{x:α}(h:l[k]?=some x):l.set k x=l:=by
 apply List.ext_getElem?;intro i;rw [List.getElem?_set];split
 ·rename_i e;subst e;rw [if_pos (List.getElem?_eq_some_iff.1 h).1,h]
 ·rfl
def Ro {α:Type}(l ys:List α):List α:=ys.take l.length++l.drop ys.length
theorem BF {α:Type}(l ys:List α):(Ro l ys).length=l.length:=by simp [Ro];omega
theorem QG {α:Type}[Ta α] (c:Ta.sz α=1){l ys:List α}{cells news:List Value}(h:ma μ cells l) (k:ma μ news ys):ma μ (news.take l.length++cells.drop ys.length) (Ro l ys):=by
 have a:=k.my l.length;have b:=h.drop ys.length;rw [c,Nat.mul_one] at a b;exact ma.cat b a
theorem RG {α:Type}[Ta α]{t t':TypeId}{x y:Operand}{v:Value}{bytes k c:Nat}{a:Option Addr}{cells news:List Value}{l ys:List α}(A:Ta.sz α=1) (M:P.underlying t=some (.slice T)) (U:Kc P T Ef Ed 1 bytes)
  (W:pb fr x v) (X:pb fr y (.slice a ys.length c)) (m:la μ w0 w rs) (B:yc rs k (.row v T 1 l.length cells)) (p:ma μ cells l) (hm:ma μ news ys) (Y:ys≠[]→∃ b o,a=some ⟨b,o,none⟩∧uc μ b o news)
  (h:∀ n w' rs',tc rs k (.row v T 1 l.length (news.take l.length++cells.drop ys.length)) rs'→la μ w0 w' rs'→Og fr dst (.int .i64 n) fun V=>K V ds w') :
  Md P (Oper.mk dst (.call { callee:=.builtin .copy,args:=#[x,y],argTypes:=#[t,t'] }) ty pos after g) fr ds w K Q:=by
 have N:Row w v T 1 l.length cells:=m.get B;have q:news.length=ys.length:=by have:=hm.len;rw [A] at this;omega
 have R:(P.info? T).map (·.size)=some 1:=by
  obtain ⟨i,z,cb,-,-,Z,-⟩:=U.inf;rw [cb];simp [Z]
 have run:∀ {r:Int}{w'},(Builtin.copy_ #[t,t'] ty #[v,.slice a ys.length c]).run P w=.ok (.int .i64 r) w' →
   (execOp (F fr ds).eval (Oper.mk dst (.call { callee:=.builtin .copy,args:=#[x,y],argTypes:=#[t,t'] }) ty pos after g)).run P w=.ok (.value (.int .i64 r)) w':=fun p=>by
  have gc:=W ds;have lc:=X ds;simp [execOp,resolve,invoke,builtin,gc,lc,p]
 by_cases d:ys.length=0∨l.length=0
 ·obtain ⟨V,rb⟩:=Ih fr dst (.int .i64 (0:Nat));have rc:Nat.min ys.length l.length=0:=by rcases d with d | d<;>simp [d,Nat.min_def]<;>omega
  have fd:news.take l.length++cells.drop ys.length=cells:=by
   have hc:=p.len;rw [A] at hc;rcases d with d | d
   ·rw [d] at q ⊢;simp [List.eq_nil_of_length_eq_zero q]
   ·simp [d,List.eq_nil_of_length_eq_zero (show cells.length=0 by omega)]
  obtain ⟨C,D,G,rfl,id⟩:∃ C D G,v=.slice C D G∧D=l.length:=by
   rcases N.2 with ⟨rfl,H⟩ | ⟨g,o,cap,cur,rfl,-⟩
   ·exact ⟨none,0,0,rfl,H.symm⟩
   ·exact ⟨_,_,_,rfl,rfl⟩
  subst id;refine bh (w':=w) (run (r:=((0:Nat):Int)) ?_) rb (h _ w rs ?_ m V rb)
  ·have:=run_copy_none (P:=P) w t t' ty T C a l.length G ys.length c M R rc;simpa [goInt] using this
  ·rw [fd];unfold tc yc at *;exact JE B
 ·have md:ys≠[]:=fun e=>d (.inl (by simp [e]));obtain ⟨rd,pe,rfl,wd⟩:=Y md;have Fd:=p.len;rw [A,Nat.mul_one] at Fd;rcases N.2 with ⟨rfl,H⟩ | ⟨f,o,cap,cur,rfl,S,Id,be,Ne,ce⟩
  ·exact absurd (.inr H) d
  ·obtain ⟨V,rb⟩:=Ih fr dst (.int .i64 ((news.take l.length).length:Nat));have of:(news.take l.length).length≤l.length:=by simp;omega
   have ge:bj w f T cur.toList:=S;have he:=hm.Rg;have le:=run_copy_row (P:=P) w t t' ty T f o l.length cap ⟨rd,pe,none⟩ ys.length c cur T (news.take l.length) M R S (by simp [q,Nat.min_comm]) (fun j u s=>by
    rw [List.getElem?_take] at s;split at s
    ·have:=wd w m.a j u s;rwa [ak]
    ·cases s) (by omega) (fun u hu=>bu (List.all_eq_true.1 he u (List.mem_of_mem_take hu)))
   have key:di (fun k=>k≠f) w (w.setRow f (cur.toList.take o++news.take l.length++cur.toList.drop (o+(news.take l.length).length)).toArray):=⟨rfl,rfl,rfl,by simp [World.setRow],fun k wf ne=>setRow_other w f k _ ne⟩;refine bh (w':=w.setRow f (cur.toList.take o++news.take l.length++cur.toList.drop (o+(news.take l.length).length)).toArray) (run (r:=((news.take l.length).length:Nat)) (by rw [le];rfl)) rb (h _ _ _ rfl (m.put (b:=f) B rfl rfl rfl ?_ key) V rb);refine ⟨by simp;omega,.inr ⟨f,o,cap,_,rfl,setRow_heap w f ⟨cur.toList⟩ _ T (0,0) ge,Id,be,?_,?_⟩⟩
   ·simp;omega
   ·have:=Hz cur.toList (news.take l.length) o 0 (l.length*1) (by omega) (by simp;omega);simp only [Nat.add_zero,List.take_zero,List.nil_append,Nat.zero_add] at this;rw [List.toList_toArray,this,ce];congr 1;by_cases hle:ys.length≤l.length
    ·simp [q,Nat.min_eq_right hle]
    ·rw [List.drop_eq_nil_of_le (by simp;omega),List.drop_eq_nil_of_le (by omega)]
theorem SG {x y:Operand}{t t':TypeId}{d:TypeDesc}{a b:Int}(hu:P.underlying t=some d) (c:pb fr x (.int .i64 a)) (f:pb fr y (.int .i64 b)):bf P (Oper.mk dst (.call { callee:=.builtin .min,args:=#[x,y],argTypes:=#[t,t'] }) ty pos after g) fr (.int .i64 (min a b)):=⟨fun ds w=>by
 have i:=c ds;have j:=f ds;have e:min a b=if b<a then b else a:=by simp only [Int.min_def];split<;>split<;>omega
 rw [e];by_cases h:b<a<;>simp [execOp,resolve,invoke,builtin,i,j,Builtin.min_,Builtin.min2,h]⟩
theorem TG {x y:Operand}{t t':TypeId}{d:TypeDesc}{a b:Int}(hu:P.underlying t=some d) (c:pb fr x (.int .i64 a)) (f:pb fr y (.int .i64 b)):bf P (Oper.mk dst (.call { callee:=.builtin .max,args:=#[x,y],argTypes:=#[t,t'] }) ty pos after g) fr (.int .i64 (max a b)):=⟨fun ds w=>by
 have i:=c ds;have j:=f ds;have e:max a b=if a<b then b else a:=by simp only [Int.max_def];split<;>split<;>omega
 rw [e];by_cases h:a<b<;>simp [execOp,resolve,invoke,builtin,i,j,Builtin.max_,Builtin.max2,h]⟩
theorem WH {t:TypeId}{Vk rs:Array TypeId}{a:Bool}(hu:P.underlying t=some (.func Vk rs a)):Tn P 1 t .nilFunc .nilFunc true:=⟨fun d w rb=>by
 cases d with
 | zero=>omega
 | succ d=>simp [Op.equalIn,run_underlying hu]⟩
theorem eE {x:Operand}{t t':TypeId}{Vk rs:Array TypeId}{a:Bool}(hu:P.underlying t=some (.func Vk rs a)) (b:pb fr x .nilFunc):bf P (Oper.mk dst (.binOp .neq t x (.const .nilFunc) t') ty pos after g) fr (.bool false):=⟨fun ds w=>by
 have c:=b ds;have d:(F fr ds).eval (.const .nilFunc)=.nilFunc:=rfl;have e:=(WH hu).out Op.maxDepth w (by decide);simp [execOp,c,d,eqGuard,binOp,Op.equal,e]⟩
end
end Go.hd
namespace Go.hd
open Go.wc Go.RowKit
section
variable {P:Program}{Q:Exit→Act→World→Prop}{K:List Value→List Deferred→World→Prop}{fr V:List Value}{ds:List Deferred}{w w':World}
variable {dst:Option Tmp}{ty:TypeId}{pos:String}{after:Array Edge}{g:Option (Nat×Bool)}
variable {w0:World}{rs rs':List Fb}{μ I:M}
variable {T:TypeId}{d:TypeDesc}{Ef:Bool}{Ed:List Value}{n m:Nat}
def mv (n:Int):Option Nat:=if 0<n∧n≤65536 then some n.toNat else none
theorem CF {n:Int}{k:Nat}(h:mv n=some k):n=k∧0<k∧k≤65536:=by
 unfold mv at h;split at h
 ·rename_i hc;have:=Option.some.inj h;omega
 ·cases h
theorem DB {x:Operand}{t e:TypeId}(a:P.underlying t=some (.slice e)) (b:pb fr x (.slice none 0 0)):bf P (Oper.mk dst (.call { callee:=.builtin .cap,args:=#[x],argTypes:=#[t] }) ty pos after g) fr ((.int .i64 0)):=by
 refine ⟨fun ds w=>?_⟩;have c:=b ds;simp [execOp,c,resolve,invoke,builtin,Builtin.cap_,run_underlying a,goInt]
theorem DF {sz:Nat}:Un (.slice none 0 0) sz none (some 0) (.slice none 0 0):=⟨none,0,0,rfl,by decide,by decide,by decide,rfl⟩
theorem tD (z:List Value):∀ k,(Builtin.zeroCells z.toArray k).toList=(List.replicate k z).flatten:=by
 intro k;simp only [Builtin.zeroCells,Array.toList_map,Array.toList_range,List.size_toArray]
 induction k with
 | zero=>simp
 | succ k a =>
  rw [List.replicate_succ',List.flatten_append,← a,Nat.add_mul,Nat.one_mul,List.range_add,List.map_append,List.flatten_cons,List.flatten_nil,List.append_nil,List.map_map];congr 1;apply List.ext_getElem?;intro i;rw [List.getElem?_map];by_cases cb:i<z.length
  ·rw [List.getElem?_range cb];simp [Nat.mod_eq_of_lt cb,cb]
  ·rw [List.getElem?_eq_none (by simp;omega),List.getElem?_eq_none (by omega)];rfl
theorem gB {α:Type}[Ta α]{z:List Value}{x:α}(h:∀ μ:M,Ta.cs μ z x):∀ k,ma μ (List.replicate k z).flatten (List.replicate k x)
 | 0=>rfl
 | k+1=>⟨z,_,rfl,h μ,gB h k⟩
theorem UG {t Wk e:TypeId}{x y:Operand}{z:List Value}{sz bytes k:Nat}{a:IntKind}{n:Int}(p:P.underlying t=some (.slice e)) (q:P.underlying Wk=some (.int a)) (r:Kc P e Ef z sz bytes) (f:(decide (bytes≤4096) && (z.length == sz && decide (0<sz)))=true)
  (s:pb fr x (.slice none 0 0)) (u:pb fr y (.int a n)) (A:mv n=some k) (B:la μ w0 w rs)
  (h:∀ b c w',la μ w0 w' (.row (.slice (some ⟨b,0,none⟩) k c) e sz k (List.replicate k z).flatten::rs)→Og fr dst (.slice (some ⟨b,0,none⟩) k c) fun V=>K V ds w') :
  Md P (Oper.mk dst (.call { callee:=.builtin .append,args:=#[x,y],argTypes:=#[t,Wk] }) ty pos after g) fr ds w K Q:=by
 obtain ⟨rfl,C,D⟩:=CF A;simp only [Bool.and_eq_true,beq_iff_eq,decide_eq_true_eq] at f;obtain ⟨F,j,G⟩:=f;obtain ⟨i,d,cb,H,M,N,R⟩:=r.inf;subst N;subst R;have W:k*i.bytes≤65536*4096:=Nat.mul_le_mul D F;have S:=Go.Lib.run_append_nil_zeros (P:=P) w t Wk ty e i d a a p q cb H k C G (by omega) (by omega);obtain ⟨V,rb⟩:=Ih fr dst (.slice (some ⟨w.heap.size,0,none⟩) k (grownCap w k 0 e));have l:=grownCap_ge w k 0 e;have T:grownCap w k 0 e≤maxLen:=grownCap_le_maxLen w k 0 e (by unfold maxLen;omega);have m:d.cells=z.toArray:=M;have o:((List.replicate k z).flatten).length=k*i.size:=by
  simp [j]
 have qa:=s ds;have U:=u ds;have hmul:k*i.size≤grownCap w k 0 e*i.size:=Nat.mul_le_mul_right _ l;refine bh (v:=.slice (some ⟨w.heap.size,0,none⟩) k (grownCap w k 0 e)) (w':=w.drew.alloc (.cells (Builtin.zeroCells d.cells k++Builtin.zeroCells d.cells (grownCap w k 0 e - k)) e)) ?_ rb (h _ _ _ ((B.drew (w':=w.drew) rfl rfl rfl rfl).alloc rfl ⟨o,.inr ⟨_,0,_,_,rfl,heap_alloc_new w.drew _,l,T,?_,?_⟩⟩) V rb)
 ·simp [execOp,resolve,invoke,builtin,qa,U,S]
 ·simp only [Array.size_append,size_zeroCells,m,List.size_toArray,j,← Nat.add_mul,Nat.zero_add];exact Nat.mul_le_mul_right _ (by omega)
 ·rw [m,Array.toList_append,tD,List.drop_zero,← o];exact List.take_left
end
end Go.hd
namespace Go.hd
open Go.wc Go.RowKit
instance:Ta UInt8 where
 sz:=1
 pos:=by decide
 cs _ l x:=l=[.int .u8 x.toNat]
 nh h:=by rw [h];rfl
 up _ h:=h
 Rg h:=by rw [h];rfl
def Ty (l:List UInt8):Option Int:=if l.length≤9223372036854775806 then (match Lib.parseIntB 64 l with | .ok v=>some v | _=>none) else none
def ny (l sub:List UInt8):Option Bool:=if l.length<4294967281 then some (Lib.contains l sub) else none
end Go.hd
namespace Go.hd
open Go.wc Go.RowKit
section
variable {μ wh:M}{w0 w w':World}{rs:List Fb}{T:TypeId}
def nv (w:World) (wh:M):Prop:=∀ w',wh w'→w.heap.size≤w'.heap.size∧∀ k,k<w.heap.size→w'.heap[k]?=w.heap[k]?
theorem _root_.Go.wc.Sep.borrow (h:la μ w0 w rs):∃ wh,ga μ wh∧la wh w w []∧nv w wh:=by
 refine ⟨fun w'=>μ w'∧(w.heap.size≤w'.heap.size∧∀ k,k<w.heap.size→w'.heap[k]?=w.heap[k]?),fun _ hw=>hw.1,Sep.start w _ _ ?_,fun _ hw=>hw.2⟩;intro w' b c;exact ⟨h.Ci w' b fun k a _=>c k a trivial,b,fun k a=>c k a trivial⟩
theorem nv.holds {r:Fb}(a:nv w wh) (h:r.holds w) (hw:wh w'):r.holds w':=holds_of h fun b c=>(a w' hw).2 b (Dz h c)
theorem _root_.Go.wc.Row.shape {v:Value}{sz n:Nat}{xs:List Value}(h:Row w v T sz n xs):∃ a c,v=.slice a n c:=by
 rcases h.2 with ⟨rfl,rfl⟩ | ⟨g,o,cap,cur,rfl,-⟩
 ·exact ⟨_,_,rfl⟩
 ·exact ⟨_,_,rfl⟩
theorem _root_.Go.wc.Row.rd {α:Type}[Ta α]{a:Option Addr}{c:Nat}{cells:List Value}{l:List α}(m:nv w wh) (hle:ga μ wh) (h:Row w (.slice a l.length c) T (Ta.sz α) l.length cells) (n:ma μ cells l):ua wh a c l:=by
 have p:∀ w',wh w'→Row w' (.slice a l.length c) T (Ta.sz α) l.length cells:=fun w' hw=>m.holds (r:=.row (.slice a l.length c) T (Ta.sz α) l.length cells) h hw;rcases h.2 with ⟨e,q⟩ | ⟨g,o,cap,cur,e,B,s,t,C,D⟩
 ·obtain rfl:=List.eq_nil_of_length_eq_zero q;obtain ⟨rfl,-,rfl⟩:=Value.slice.inj e;exact ua.nil
 ·obtain ⟨rfl,-,rfl⟩:=Value.slice.inj e;refine ⟨s,t,.inr ⟨g,o,rfl,fun i=>(cells.drop (i*Ta.sz α)).take (Ta.sz α),fun i x f=>⟨?_,Ta.up hle (n.get f)⟩⟩⟩;intro v y j u d;have z:0<l.length:=by have:=(List.getElem?_eq_some_iff.1 f).1;omega
  obtain ⟨b,F,c,k,hc⟩:=(p v y).Eo z;simp at k;obtain ⟨⟨rfl,rfl⟩,rfl⟩:=k;have A:j<Ta.sz α:=by
   have:=(List.getElem?_eq_some_iff.1 d).1;simp at this;omega
  rw [List.getElem?_take_of_lt A,List.getElem?_drop] at d;have:=hc _ u d;rw [← Nat.add_assoc] at this;exact this
end
section
variable {P:Program}{Q:Exit→Act→World→Prop}{K:List Value→List Deferred→World→Prop}{fr V:List Value}{ds:List Deferred}{w w':World}
variable {dst:Option Tmp}{ty:TypeId}{pos:String}{after:Array Edge}{g:Option (Nat×Bool)}{T:TypeId}{Ef:Bool}{Ed:List Value}{rs rs':List Fb}{μ:M}{w0:World}
end
end Go.hd
namespace Go.hd
open Go.wc Go.RowKit
def xr (N:List (List UInt8×Int)) (y:Int):Option (Option (List UInt8×Int)):=
 if (N.filter fun e=>decide (e.2=y)).length≤1 then some (N.filter fun e=>decide (e.2=y)).head? else none
section
variable {P:Program}{Q:Exit→Act→World→Prop}{K:List Value→List Deferred→World→Prop}{fr V:List Value}{ds:List Deferred}{w:World}
variable {dst:Option Tmp}{ty:TypeId}{pos:String}{after:Array Edge}{g:Option (Nat×Bool)}
variable {w0:World}{rs rs':List Fb}{μ I:M}
variable {T:TypeId}
theorem KE {x:Operand}{cf aa:TypeId}{m c:Nat}{es:List MapEntry}(a:P.underlying T=some (.map cf aa)) (d:pb fr x (.map (some m))) (e:la μ w0 w rs) (f:w.heap[m]?=some (.map ⟨es⟩ c))
  (h:∀ b w',w.heap.size≤b→la μ w0 w' (.hj b m c [] c::rs)→Og fr dst (.pointer (some ⟨b,0,none⟩)) fun V=>K V ds w'):Md P (Oper.mk dst (.range T x) ty pos after g) fr ds w K Q:=by
 obtain ⟨V,rb⟩:=Ih fr dst (.pointer (some ⟨w.heap.size,0,none⟩));refine bh (v:=.pointer (some ⟨w.heap.size,0,none⟩)) (w':=w.alloc (.mapIter (some m) c #[] c)) ?_ rb (h _ _ (Nat.le_refl _) (e.alloc rfl (heap_alloc_new w _)) V rb);simp [execOp,d ds,Instr.range,run_underlying a,getObj,Sem.run,f,Result.andThen]
def leftOf (es:List MapEntry) (seen:List Nat):List MapEntry:=es.filter fun e=>!seen.contains e.born
theorem mem_left {es:List MapEntry}{seen:List Nat}{e:MapEntry}:e ∈ leftOf es seen ↔ e ∈ es∧e.born ∉ seen:=by
 simp [leftOf,List.mem_filter]
theorem ME {es:List MapEntry}{seen:List Nat}{c:Nat}(a:∀ e ∈ es,e.born<c) :
  ((⟨es⟩:Array MapEntry).filter fun e=>!(⟨seen⟩:Array Nat).contains e.born)=⟨leftOf es seen⟩ ∧
  ((⟨leftOf es seen⟩:Array MapEntry).filter fun e=>decide (e.born<c))=⟨leftOf es seen⟩∧((⟨leftOf es seen⟩:Array MapEntry).filter fun e=>decide (e.born ≥ c))=#[]:=by
 have b:(leftOf es seen).filter (fun e=>decide (e.born<c))=leftOf es seen:=List.filter_eq_self.2 fun e he=>by simpa using a e (mem_left.1 he).1
 have d:(leftOf es seen).filter (fun e=>decide (e.born ≥ c))=[]:=List.filter_eq_nil_iff.2 fun e he=>by have:=a e (mem_left.1 he).1;simp;omega
 refine ⟨?_,?_,?_⟩
 ·rw [List.filter_toArray];simp [leftOf]
 ·rw [List.filter_toArray,b]
 ·rw [List.filter_toArray,d]
theorem EF {es:List MapEntry}{seen:List Nat}{c:Nat}(a:∀ e ∈ es,e.born<c):(!(⟨seen⟩:Array Nat).isEmpty && !(⟨es⟩:Array MapEntry).isEmpty && (⟨es⟩:Array MapEntry).all (fun e=>decide (e.born ≥ c)))=false:=by
 cases es with
 | nil=>simp
 | cons e es =>
  have:=a e (List.mem_cons_self ..);have h:¬ c≤e.born:=by omega
  simp only [List.all_toArray,List.all_cons];simp [h]
theorem FF {x:Operand}{b m c G:Nat}{es:List MapEntry}{seen:List Nat}{N:List (List UInt8×Int)}{wh:M}(q:pb fr x (.pointer (some ⟨b,0,none⟩))) (r:la μ w0 w rs) (cb:yc rs G (.hj b m c seen c)) (s:w.heap[m]?=some (.map ⟨es⟩ c)) (u:Dd wh es c N)
  (H:∀ (k:List UInt8) (y:Int) (n:Nat),⟨S k,.int .i64 y,n⟩ ∈ leftOf es seen→∀ w' rs',tc rs G (.hj b m c (seen++[n]) c) rs'→la μ w0 w' rs'→Og fr dst (.tuple ⟨[.bool true,S k,.int .i64 y]⟩) fun V=>K V ds w')
  (T:leftOf es seen=[]→Og fr dst (.tuple ⟨[.bool false]⟩) fun V=>K V ds w) :
  Md P (Oper.mk dst (.next x false) ty pos after g) fr ds w K Q:=by
 have f:w.heap[b]?=some (.mapIter (some m) c ⟨seen⟩ c):=r.get cb;have R:b<w.heap.size:=(Array.getElem?_eq_some_iff.1 f).1;obtain ⟨j,l,o⟩:=ME (seen:=seen) u.lt;have v:=EF (seen:=seen) u.lt;have key:∀ e ∈ leftOf es seen,∃ (k:List UInt8) (y:Int),e=⟨S k,.int .i64 y,e.born⟩:=by
  intro e he;have he:=(mem_left.1 he).1;have:∀ (es:List MapEntry) (N:List (List UInt8×Int)),pf wh es N→∀ e ∈ es,∃ (k:List UInt8) (y:Int),e=⟨S k,.int .i64 y,e.born⟩:=by
   intro es
   induction es with
   | nil=>intro N _ e he; cases he
   | cons a es U =>
    intro N h e he;rw [pf] at h;obtain ⟨k,x,t,z,A,B,W⟩:=h;rcases List.mem_cons.1 he with rfl | he
    ·obtain ⟨a,b,n⟩:=e;have A:a=S k:=A;have B:b=.int .i64 x:=B;subst A;subst B;exact ⟨k,x,rfl⟩
    ·exact U t W e he
  exact this es N u.Ff e he
 cases d:leftOf es seen with
 | nil =>
  obtain ⟨V,rb⟩:=Ih fr dst (.tuple ⟨[.bool false]⟩);refine bh (w':=w) ?_ rb (T d V rb);rw [d] at j l o;simp only [execOp,q ds,Instr.next,getObj,Sem.run_bind,Sem.run,f,Result.andThen,s,v,Bool.false_eq_true,if_false,j,l,o];simp [Sem.run,Result.andThen,choose,Question.forced]
 | cons Qa t0 =>
  rw [d] at j l o;by_cases z:t0=[]
  ·subst z;obtain ⟨k,y,e⟩:=key Qa (by rw [d];exact List.mem_singleton.2 rfl);obtain ⟨C,D⟩:=Gp w b (.mapIter (some m) c ⟨seen++[Qa.born]⟩ c) R;obtain ⟨V,p⟩:=Ih fr dst (.tuple ⟨[.bool true,S k,.int .i64 y]⟩);refine bh (w':={ w with heap:=w.heap.setIfInBounds b (.mapIter (some m) c ⟨seen++[Qa.born]⟩ c) }) ?_ p (H k y Qa.born (by rw [d,← e];exact List.mem_singleton.2 rfl) _ _ rfl (r.put (b:=b) cb rfl rfl rfl D C) V p);rw [e] at j l o;simp only [execOp,q ds,Instr.next,getObj,Sem.run_bind,Sem.run,f,Result.andThen,s,v,Bool.false_eq_true,if_false,j,l,o];simp [Sem.run,Result.andThen,choose,Question.forced,setObj,f]
  ·have hlen:¬ (Qa::t0).length≤1:=by
    cases t0 with
    | nil=>exact absurd rfl z
    | cons _ _=>simp
   let i:=(w.tape w.drawn (.mapNext (Qa::t0).length)) % (Qa::t0).length
   have F:i<(Qa::t0).length:=Nat.mod_lt _ (by simp);obtain ⟨k,y,e⟩:=key ((Qa::t0)[i]) (by rw [d];exact List.getElem_mem F);obtain ⟨C,D⟩:=Gp w.drew b (.mapIter (some m) c ⟨seen++[((Qa::t0)[i]).born]⟩ c) R;obtain ⟨V,p⟩:=Ih fr dst (.tuple ⟨[.bool true,S k,.int .i64 y]⟩);refine bh (w':={ w.drew with heap:=w.drew.heap.setIfInBounds b (.mapIter (some m) c ⟨seen++[((Qa::t0)[i]).born]⟩ c) }) ?_ p (H k y ((Qa::t0)[i]).born (by rw [d,← e];exact List.getElem_mem F) _ _ rfl ((r.drew (w':=w.drew) rfl rfl rfl rfl).put (b:=b) cb rfl rfl rfl D C) V p);have X:w.drew.heap[b]?=some (.mapIter (some m) c ⟨seen⟩ c):=f;have Y:((if (⟨Qa::t0⟩:Array MapEntry).isEmpty=true then #[none] else #[])++((⟨Qa::t0⟩:Array MapEntry)++#[]).map some)=⟨(Qa::t0).map some⟩:=by simp
   simp only [execOp,q ds,Instr.next,getObj,Sem.run_bind,Sem.run,f,Result.andThen,s,v,Bool.false_eq_true,if_false,j,l,o,Y];have Z:(⟨(Qa::t0).map some⟩:Array (Option MapEntry)).size=(Qa::t0).length:=by simp
   have gc:(Question.mapNext (Qa::t0).length).forced=false:=decide_eq_false hlen;have hc:(⟨(Qa::t0).map some⟩:Array (Option MapEntry))[(Question.mapNext (Qa::t0).length).cut (w.tape w.drawn (.mapNext (Qa::t0).length))]?=some (some ((Qa::t0)[i])):=by
    show (⟨(Qa::t0).map some⟩:Array (Option MapEntry))[i]?=_;rw [List.getElem?_toArray,List.getElem?_map,List.getElem?_eq_getElem F];rfl
   simp only [Z,choose,Sem.run,gc,hc,Bool.false_eq_true,if_false];generalize (Qa::t0)[i]=qa at *;rw [e];simp [Sem.run,Result.andThen,setObj,X]
theorem find_born {n:Nat}:∀ {es:List MapEntry}{e:MapEntry},(es.Pairwise fun a b=>a.born<b.born)→e ∈ es→e.born=n→es.find? (fun a=>a.born == n)=some e
 | a::es,e,h,he,c=>by
  rw [List.find?_cons];rcases List.mem_cons.1 he with rfl | d
  ·simp [c]
  ·have f:=(List.pairwise_cons.1 h).1 e d;have:¬ a.born=n:=by omega
   simp only [beq_eq_false_iff_ne.2 this];exact find_born (List.pairwise_cons.1 h).2 d c
theorem OE {x:Operand}{b m c d n:Nat}{es:List MapEntry}{seen:List Nat}{N:List (List UInt8×Int)}{wh:M}{k:List UInt8}{y:Int}(e:pb fr x (.pointer (some ⟨b,0,none⟩))) (f:la μ w0 w rs) (cb:yc rs d (.hj b m c (seen++[n]) c)) (i:w.heap[m]?=some (.map ⟨es⟩ c)) (j:Dd wh es c N){l:List Nat}(he:⟨S k,.int .i64 y,n⟩ ∈ leftOf es l)
  (rb:rf fr dst (.tuple ⟨[S k,.int .i64 y]⟩) V) (h:K V ds w) :
  Md P (Oper.mk dst (.entry x) ty pos after g) fr ds w K Q:=by
 have o:w.heap[b]?=some (.mapIter (some m) c ⟨seen++[n]⟩ c):=f.get cb;have p:(⟨seen++[n]⟩:Array Nat).back?=some n:=by simp [Array.back?]
 have q:(⟨es⟩:Array MapEntry).find? (fun a=>a.born == n)=some ⟨S k,.int .i64 y,n⟩:=by rw [List.find?_toArray];exact find_born j.inc (mem_left.1 he).1 rfl
 refine bh (w':=w) ?_ rb h;simp only [execOp,e ds,Instr.entry,getObj,Sem.run_bind,Sem.run,o,Result.andThen,i,p,q];simp [Sem.run]
def Hk (es:List MapEntry) (seen:List Nat) (y:Int) (n:Nat):Prop:=(leftOf es seen).length=n∧∀ e ∈ es,e.born ∈ seen→e.val≠.int .i64 y
theorem Hk.start {es:List MapEntry}{y:Int}:Hk es [] y es.length:=⟨by rw [leftOf,List.filter_eq_self.2 (by simp)],by simp⟩
theorem Hk.step {es:List MapEntry}{seen:List Nat}{y x:Int}{n m c:Nat}{k:List UInt8}{N:List (List UInt8×Int)}{wh:M}(h:Hk es seen y n) (d:Dd wh es c N) (he:⟨S k,.int .i64 x,m⟩ ∈ leftOf es seen) (i:¬ x=y):∃ f,f<n∧Hk es (seen++[m]) y f:=by
 obtain ⟨j,l⟩:=h;refine ⟨_,?_,rfl,fun e hm b=>?_⟩
 ·rw [← j];have e:leftOf es (seen++[m])=(leftOf es seen).filter fun a=>decide (a.born≠m):=by
   rw [leftOf,leftOf,List.filter_filter];apply List.filter_congr;intro a _;by_cases q:a.born=m<;>simp [q]
  rw [e];refine Nat.lt_of_le_of_ne (List.length_filter_le ..) fun o=>?_;have:=(List.length_filter_eq_length_iff.1 o) _ he;simp at this
 ·rcases List.mem_append.1 b with b | b
  ·exact l e hm b
  ·have b:=List.mem_singleton.1 b;have qa:=find_born d.inc hm b;have g:=find_born d.inc (mem_left.1 he).1 rfl;rw [qa] at g;rw [Option.some.inj g];intro q;cases q;exact i rfl
theorem pf.mem_of {wh:M}{k:List UInt8}{y:Int}{n:Nat}:∀ {es:List MapEntry}{N:List (List UInt8×Int)},pf wh es N→(⟨S k,.int .i64 y,n⟩:MapEntry) ∈ es→(k,y) ∈ N
 | a::es,N,h,he=>by
  rw [pf] at h;obtain ⟨d,x,t,rfl,b,c,e⟩:=h;rcases List.mem_cons.1 he with rfl | he
  ·have b:S k=S d:=b;have c:Value.int .i64 y=.int .i64 x:=c;cases c;cases b;exact List.mem_cons_self ..
  ·exact List.mem_cons_of_mem _ (pf.mem_of e he)
theorem pf.EB {wh:M}{k:List UInt8}{y:Int}:∀ {es:List MapEntry}{N:List (List UInt8×Int)},pf wh es N→(k,y) ∈ N→∃ e ∈ es,e.val=.int .i64 y
 | [],N,h,he=>by rw [pf] at h; subst h; cases he
 | a::es,N,h,he=>by
  rw [pf] at h;obtain ⟨g,x,t,rfl,i,b,c⟩:=h;rcases List.mem_cons.1 he with e | he
  ·cases e;exact ⟨a,List.mem_cons_self ..,b⟩
  ·obtain ⟨e,d,f⟩:=pf.EB c he;exact ⟨e,List.mem_cons_of_mem _ d,f⟩
theorem Hk.hit {es:List MapEntry}{seen:List Nat}{y x:Int}{m c:Nat}{k:List UInt8}{N:List (List UInt8×Int)}{wh:M}{o:Option (List UInt8×Int)}(f:Dd wh es c N) (he:⟨S k,.int .i64 x,m⟩ ∈ leftOf es seen) (h:x=y) (g:xr N y=some o):o.isSome=true∧k=(o.getD ([],0)).1:=by
 subst h;have hm:=pf.mem_of f.Ff (mem_left.1 he).1;rw [xr] at g;split at g
 ·rename_i i;obtain rfl:=Option.some.inj g;have j:(k,x) ∈ N.filter fun e=>decide (e.2=x):=List.mem_filter.2 ⟨hm,by simp⟩;have aux:∀ F:List (List UInt8×Int),F.length≤1→(k,x) ∈ F→F.head?=some (k,x):=by
   intro F b d
   match F,b,d with
   | [a],_,d=>rw [List.mem_singleton.1 d]; rfl
   | _::_::_,b,_=>simp at b
  rw [aux _ i j];exact ⟨rfl,rfl⟩
 ·cases g
theorem Hk.fin {es:List MapEntry}{seen:List Nat}{y:Int}{n c:Nat}{N:List (List UInt8×Int)}{wh:M}{o:Option (List UInt8×Int)}(h:Hk es seen y n) (i:Dd wh es c N) (j:leftOf es seen=[]) (g:xr N y=some o):¬ o.isSome=true:=by
 have he:N.filter (fun e=>decide (e.2=y))=[]:=by
  rw [List.filter_eq_nil_iff];intro a l b;obtain ⟨k,x⟩:=a;have b:x=y:=by simpa using b
  subst b;obtain ⟨e,d,m⟩:=pf.EB i.Ff l;by_cases f:e.born ∈ seen
  ·exact h.2 e d f m
  ·have:e ∈ leftOf es seen:=mem_left.2 ⟨d,f⟩;rw [j] at this;cases this
 rw [xr,he] at g;obtain rfl:=Option.some.inj g;simp
abbrev QI (_:M) (es:List MapEntry) (seen:List Nat) (y:Int) (n:Nat):Prop:=Hk es seen y n
end
end Go.hd
namespace Go.hd
open Go.wc Go.RowKit
section
variable {P:Program}{Q:Exit→Act→World→Prop}{K:List Value→List Deferred→World→Prop}{fr V:List Value}{ds:List Deferred}{w:World}
variable {dst:Option Tmp}{ty:TypeId}{pos:String}{after:Array Edge}{g:Option (Nat×Bool)}
theorem PE {x:Operand}{t t' e:TypeId}{a:Addr}(hu:P.underlying t=some (.pointer e)) (b:pb fr x (.pointer (some a))):bf P (Oper.mk dst (.binOp .neq t x (.const (.pointer none)) t') ty pos after g) fr (.bool true):=⟨fun ds w=>by
 have c:=b ds;have f:(F fr ds).eval (.const (.pointer none))=.pointer none:=rfl;have h:∀ d:Nat,(Op.equalIn (d+1) t (.pointer (some a)) (.pointer none)).run P w=.ok false w:=fun d=>by
  simp [Op.equalIn,run_underlying hu]
 have i:(Op.equalIn Op.maxDepth t (.pointer (some a)) (.pointer none)).run P w=.ok false w:=h 9999;simp [execOp,c,f,eqGuard,binOp,Op.equal,i]⟩
theorem QE {x:Operand}{t t' e:TypeId}{a:Addr}(hu:P.underlying t=some (.pointer e)) (b:pb fr x (.pointer (some a))) (c:rf fr dst (.bool true) V) (h:K V ds w):Md P (Oper.mk dst (.binOp .neq t x (.const (.pointer none)) t') ty pos after g) fr ds w K Q:=wa (PE hu b) c h
end
end Go.hd
namespace Go.hd
open Go.wc Go.RowKit
theorem sb {α:Type}{c:Prop}[Decidable c]{y:Option α}{r:α}{G:Prop}(h:(if c then none else y)=some r) (hc:c):G:=by rw [if_pos hc] at h;cases h
theorem df {α:Type}{c:Prop}[Decidable c]{x:Option α}{r:α}{G:Prop}(h:(if c then x else none)=some r) (hc:¬ c):G:=by rw [if_neg hc] at h;cases h
section
variable {P:Program}{Q Q':Exit→Act→World→Prop}{fr V:List Value}{ds:List Deferred}{w:World}{ops:Array Oper}{y:Code}{id:Nat}{l:List Oper}
theorem ka (h:Ce P y Q' fr ds w):Jf P ops (Exit.then (Om P y Q') Q) [] fr ds w:=Ja (oa h)
theorem Wi (h:Ce P y Q' fr ds w):sf P ops (Exit.then (Om P y Q') Q) [] fr ds w:=Xd (oa h)
theorem ea (h:Jf P l.toArray (Exit.then (Om P y Q) Q) l fr ds w):Ce P (.seq (.region id l.toArray false) y) Q fr ds w:=Fa (Oa h)
theorem ab (h:Jf P l.toArray (Exit.then (Om P y Q') Q') l fr ds w):Jf P ops (Exit.then (Om P (.seq (.region id l.toArray false) y) Q') Q) [] fr ds w:=Ja (oa (Fa (Oa h)))
theorem Ya {x:Code}(h:Ce P x (Exit.then (Om P y Q') Q') fr ds w):Jf P ops (Exit.then (Om P (.seq x y) Q') Q) [] fr ds w:=Ja (oa (Fa h))
variable {R Nd:List Nat}{dst:Tmp}{op:Op}{ty:TypeId}{pos:String}{after:Array Edge}{v:Value}{Rc:List Mon}{j d:Nat}{b b':Bool}
theorem Ae (i:Nat) (he:(decide R.Nodup && enabled ops R i && apart ops false R i,R.erase i,ops[i]?)=(true,Nd,some ⟨some dst,op,ty,pos,after,none⟩)) (a:bf P ⟨some dst,op,ty,pos,after,none⟩ fr v) (b:tc fr dst v V) (h:sf P ops Q Nd V ds w) (c:sh Q:=by first | exact de fun _ _ _ h=>h | exact de fun _ _ _ h=>h.2 | exact de fun _ _ _ h=>h.2.2):sf P ops Q R fr ds w:=TH c (congrArg (·.1) he) (congrArg (·.2.1) he) (congrArg (·.2.2) he) a b h
theorem Bf (i:Nat) (he:(decide R.Nodup && enabled ops R i && aq ops false R i,R.erase i,ops[i]?)=(true,Nd,some ⟨some dst,op,ty,pos,after,some (j,b)⟩)) (a:(ops[j]?).bind (·.dst)=some d) (c:yc fr d (.bool b)) (e:bf P ⟨some dst,op,ty,pos,after,some (j,b)⟩ fr v) (f:tc fr dst v V) (h:sf P ops Q Nd V ds w) (g:sh Q:=by first | exact de fun _ _ _ h=>h | exact de fun _ _ _ h=>h.2 | exact de fun _ _ _ h=>h.2.2):sf P ops Q R fr ds w:=FG g (congrArg (·.1) he) (congrArg (·.2.1) he) (congrArg (·.2.2) he) a c e f h
theorem Nr (i:Nat) (he:(decide R.Nodup && enabled ops R i && aq ops false R i,R.erase i,ops[i]?)=(true,Nd,some ⟨some dst,op,ty,pos,after,some (j,b)⟩)) (a:(ops[j]?).bind (·.dst)=some d) (c:yc fr d (.bool b')) (e:(b' == b)=false) (f:tc fr dst undef V) (h:sf P ops Q Nd V ds w) (g:sh Q:=by first | exact de fun _ _ _ h=>h | exact de fun _ _ _ h=>h.2 | exact de fun _ _ _ h=>h.2.2):sf P ops Q R fr ds w:=GG g (congrArg (·.1) he) (congrArg (·.2.1) he) (congrArg (·.2.2) he) a c e f h
theorem vc (i:Nat) (S:List Nat) (he:(decide R.Nodup && enabled ops R i && waits ops R S i && bq ops S R i,R.erase i,ops[i]?)=(true,Nd,some ⟨some dst,op,ty,pos,after,none⟩)) (a:Yj P ⟨some dst,op,ty,pos,after,none⟩ fr w v) (b:tc fr dst v V) (h:sf P ops Q Nd V ds w) (c:sh Q:=by first | exact de fun _ _ _ h=>h | exact de fun _ _ _ h=>h.2 | exact de fun _ _ _ h=>h.2.2):sf P ops Q R fr ds w:=HG S c (congrArg (·.1) he) (congrArg (·.2.1) he) (congrArg (·.2.2) he) a b h
theorem jk (i:Nat) (S:List Nat) (he:(decide R.Nodup && enabled ops R i && waits ops R S i && bq ops S R i,R.erase i,ops[i]?)=(true,Nd,some ⟨some dst,op,ty,pos,after,some (j,b)⟩)) (a:(ops[j]?).bind (·.dst)=some d) (c:yc fr d (.bool b)) (e:Yj P ⟨some dst,op,ty,pos,after,some (j,b)⟩ fr w v) (f:tc fr dst v V) (h:sf P ops Q Nd V ds w) (g:sh Q:=by first | exact de fun _ _ _ h=>h | exact de fun _ _ _ h=>h.2 | exact de fun _ _ _ h=>h.2.2):sf P ops Q R fr ds w:=wF S g (congrArg (·.1) he) (congrArg (·.2.1) he) (congrArg (·.2.2) he) a c e f h
theorem Ze (i:Nat) (S:List Nat) (he:(decide R.Nodup && enabled ops R i && waits ops R S i && sk ops S R i && S.contains i,R.erase i,ops[i]?)=(true,Nd,some ⟨some dst,op,ty,pos,after,none⟩)) (a:bf P ⟨some dst,op,ty,pos,after,none⟩ fr v) (b:tc fr dst v V) (h:xg P ops Q Rc Nd V ds w) (c:sh Q:=by first | exact de fun _ _ _ h=>h | exact de fun _ _ _ h=>h.2 | exact de fun _ _ _ h=>h.2.2):xg P ops Q Rc R fr ds w:=Jh S c (congrArg (·.1) he) (congrArg (·.2.1) he) (congrArg (·.2.2) he) a b h
theorem Rk (i:Nat) (S:List Nat) (he:(decide R.Nodup && enabled ops R i && waits ops R S i && sk ops S R i && S.contains i,R.erase i,ops[i]?)=(true,Nd,some ⟨some dst,op,ty,pos,after,some (j,b)⟩)) (a:(ops[j]?).bind (·.dst)=some d) (c:yc fr d (.bool b)) (e:bf P ⟨some dst,op,ty,pos,after,some (j,b)⟩ fr v) (f:tc fr dst v V) (h:xg P ops Q Rc Nd V ds w) (g:sh Q:=by first | exact de fun _ _ _ h=>h | exact de fun _ _ _ h=>h.2 | exact de fun _ _ _ h=>h.2.2):xg P ops Q Rc R fr ds w:=JG S g (congrArg (·.1) he) (congrArg (·.2.1) he) (congrArg (·.2.2) he) a c e f h
theorem ti (i:Nat) (S:List Nat) (he:(decide R.Nodup && enabled ops R i && waits ops R S i && sk ops S R i && S.contains i,R.erase i,ops[i]?)=(true,Nd,some ⟨some dst,op,ty,pos,after,some (j,b)⟩)) (a:(ops[j]?).bind (·.dst)=some d) (c:yc fr d (.bool b')) (e:(b' == b)=false) (f:tc fr dst undef V) (h:xg P ops Q Rc Nd V ds w) (g:sh Q:=by first | exact de fun _ _ _ h=>h | exact de fun _ _ _ h=>h.2 | exact de fun _ _ _ h=>h.2.2):xg P ops Q Rc R fr ds w:=KG S g (congrArg (·.1) he) (congrArg (·.2.1) he) (congrArg (·.2.2) he) a c e f h
theorem mc (i:Nat) (S:List Nat) (he:(decide R.Nodup && enabled ops R i && waits ops R S i && sk ops S R i && S.contains i,R.erase i,ops[i]?)=(true,Nd,some ⟨some dst,op,ty,pos,after,none⟩)) (a:Yj P ⟨some dst,op,ty,pos,after,none⟩ fr w v) (b:tc fr dst v V) (h:xg P ops Q ((S,fun w'=>Yj P ⟨some dst,op,ty,pos,after,none⟩ fr w' v)::Rc) Nd V ds w) (c:sh Q:=by first | exact de fun _ _ _ h=>h | exact de fun _ _ _ h=>h.2 | exact de fun _ _ _ h=>h.2.2):xg P ops Q Rc R fr ds w:=hl S c (congrArg (·.1) he) (congrArg (·.2.1) he) (congrArg (·.2.2) he) a b h
theorem nq (i:Nat) (S:List Nat) (he:(decide R.Nodup && enabled ops R i && waits ops R S i && sk ops S R i && S.contains i,R.erase i,ops[i]?)=(true,Nd,some ⟨some dst,op,ty,pos,after,some (j,b)⟩)) (a:(ops[j]?).bind (·.dst)=some d) (c:yc fr d (.bool b)) (e:Yj P ⟨some dst,op,ty,pos,after,some (j,b)⟩ fr w v) (f:tc fr dst v V) (h:xg P ops Q ((S,fun w'=>Yj P ⟨some dst,op,ty,pos,after,some (j,b)⟩ fr w' v)::Rc) Nd V ds w) (g:sh Q:=by first | exact de fun _ _ _ h=>h | exact de fun _ _ _ h=>h.2 | exact de fun _ _ _ h=>h.2.2):xg P ops Q Rc R fr ds w:=IG S g (congrArg (·.1) he) (congrArg (·.2.1) he) (congrArg (·.2.2) he) a c e f h
end
class lk (l:List Value) (n:Nat) (v:outParam Value):Prop where out:yc l n v
instance {v:Value}{l:List Value}:lk (v::l) 0 v:=⟨rfl⟩
instance {a v:Value}{l:List Value}{n:Nat}[h:lk l n v]:lk (a::l) (n+1) v:=⟨h.out⟩
instance (priority:=2000){c0 a c2 c3 c4 c5 yd Hi Xi c9 v:Value}{l:List Value}{n:Nat}[h:lk l n v]:lk (c0::a::c2::c3::c4::c5::yd::Hi::Xi::c9::l) (n+10) v:=⟨h.out⟩
class wg (l:List Value) (n:Nat) (v:Value) (a:outParam (List Value)):Prop where out:tc l n v a
instance {a v:Value}{l:List Value}:wg (a::l) 0 v (v::l):=⟨rfl⟩
instance {a v:Value}{l b:List Value}{n:Nat}[h:wg l n v b]:wg (a::l) (n+1) v (a::b):=⟨congrArg (a::·) h.out⟩
instance (priority:=2000){c0 a c2 c3 c4 c5 yd Hi Xi c9 v:Value}{l b:List Value}{n:Nat}[h:wg l n v b]:wg (c0::a::c2::c3::c4::c5::yd::Hi::Xi::c9::l) (n+10) v (c0::a::c2::c3::c4::c5::yd::Hi::Xi::c9::b):=⟨congrArg (c0::a::c2::c3::c4::c5::yd::Hi::Xi::c9::·) h.out⟩
class ie (fr:List Value) (x:Operand) (v:outParam Value):Prop where out:pb fr x v
instance {fr:List Value}{n:Nat}{v:Value}[h:lk fr n v]:ie fr (.tmp n) v:=⟨aa h.out⟩
instance {fr:List Value}{v:Value}:ie fr (.const v) v:=⟨xa⟩
class rj (P:Program) (op:Op) (fr:List Value) (v:outParam Value):Prop where out:∀ dst ty pos after g,bf P (Oper.mk dst op ty pos after g) fr v
section
variable {P:Program}{fr:List Value}{x y c:Operand}{v:Value}{t t':TypeId}{k:IntKind}{a b:Int}
instance [h:ie fr x v]:rj P (.move x) fr v:=⟨fun _ _ _ _ _=>Ji h.out⟩
instance [h:ie fr x v]:rj P (.assign x) fr v:=⟨fun _ _ _ _ _=>Zw h.out⟩
instance {a:Addr}[h:ie fr x (.pointer (some a))]:rj P (.nilCheck x) fr (.pointer (some a)):=⟨fun _ _ _ _ _=>qi h.out⟩
instance [c:ie fr x (.int k a)] [d:ie fr y (.int k b)]:rj P (.binOp .eql t x y t') fr (.bool (decide (a=b))):=⟨fun _ _ _ _ _=>Zu c.out d.out⟩
instance [c:ie fr x (.int k a)] [d:ie fr y (.int k b)]:rj P (.binOp .neq t x y t') fr (.bool (decide (a≠b))):=⟨fun _ _ _ _ _=>VB c.out d.out⟩
instance [c:ie fr x (.int k a)] [d:ie fr y (.int k b)]:rj P (.binOp .lss t x y t') fr (.bool (decide (a<b))):=⟨fun _ _ _ _ _=>sr c.out d.out⟩
instance [c:ie fr x (.int k a)] [d:ie fr y (.int k b)]:rj P (.binOp .leq t x y t') fr (.bool (decide (a≤b))):=⟨fun _ _ _ _ _=>TB c.out d.out⟩
instance [c:ie fr x (.int k a)] [d:ie fr y (.int k b)]:rj P (.binOp .gtr t x y t') fr (.bool (decide (b<a))):=⟨fun _ _ _ _ _=>tr c.out d.out⟩
instance [c:ie fr x (.int k a)] [d:ie fr y (.int k b)]:rj P (.binOp .geq t x y t') fr (.bool (decide (b≤a))):=⟨fun _ _ _ _ _=>UB c.out d.out⟩
end
section
variable {P:Program}{Q:Exit→Act→World→Prop}{fr V:List Value}{ds:List Deferred}{w:World}{ops:Array Oper}{rest:List Oper}{d:Tmp}{op:Op}{ty:TypeId}{pos:String}{after:Array Edge}{v:Value}
theorem st [hu:rj P op fr v] [a:wg fr d v V] (h:Jf P ops Q rest V ds w):Jf P ops Q (⟨some d,op,ty,pos,after,none⟩::rest) fr ds w:=wl (wa (hu.out _ _ _ _ _) (ia a.out) h)
end
class ql (fr:List Value) (xs:List Operand) (vs:outParam (List Value)):Prop where out:Bk fr xs vs
instance {fr:List Value}:ql fr [] []:=⟨Qa⟩
instance {fr:List Value}{x:Operand}{v:Value}{xs:List Operand}{vs:List Value}[h:ie fr x v] [k:ql fr xs vs]:ql fr (x::xs) (v::vs):=⟨qa h.out k.out⟩
section
variable {P:Program}{fr:List Value}{x y c:Operand}{v:Value}{t t' T:TypeId}{b:Nat}{o off i:Nat}{vs:List Value}{q:Bool}
instance [a:jd P T i off] [h:ie fr x (.pointer (some ⟨b,o,none⟩))]:rj P (.fieldAddr T x i) fr (.pointer (some ⟨b,o+off,none⟩)):=⟨fun _ _ _ _ _=>zh a h.out rfl⟩
instance [hc:ie fr c (.bool true)] [h:ie fr x v]:rj P (.pick c x y) fr v:=⟨fun _ _ _ _ _=>Bx hc.out h.out⟩
instance [hc:ie fr c (.bool false)] [h:ie fr y v]:rj P (.pick c x y) fr v:=⟨fun _ _ _ _ _=>XA hc.out h.out⟩
instance [h:ie fr x (.bool q)]:rj P (.unOp .not t x) fr (.bool (!q)):=⟨fun _ _ _ _ _=>PH h.out⟩
instance [h:ie fr x (.tuple ⟨vs⟩)] [k:lk vs i v]:rj P (.extract x i) fr v:=⟨fun _ _ _ _ _=>wG h.out k.out⟩
end
section
variable {P:Program}{Q:Exit→Act→World→Prop}{fr V:List Value}{ds:List Deferred}{w:World}{ops:Array Oper}{rest:List Oper}{d:Tmp}{op:Op}{ty:TypeId}{pos:String}{after:Array Edge}{v:Value}{j e:Nat}{b b':Bool}
theorem Da [hu:rj P op fr v] [a:wg fr d v V] (c:(ops[j]?).bind (·.dst)=some e) [f:lk fr e (.bool b)] (h:Jf P ops Q rest V ds w):Jf P ops Q (⟨some d,op,ty,pos,after,some (j,b)⟩::rest) fr ds w:=Oc c f.out (wa (hu.out _ _ _ _ _) (ia a.out) h)
theorem kb [a:wg fr d undef V] (c:(ops[j]?).bind (·.dst)=some e) [f:lk fr e (.bool b')] (g:(b' == b)=false) (h:Jf P ops Q rest V ds w):Jf P ops Q (⟨some d,op,ty,pos,after,some (j,b)⟩::rest) fr ds w:=wn c f.out g (ia a.out) h
theorem za {T:TypeId}{Ed:List Value}{n m o q:Nat}{x:Operand}[a:Kc P T false Ed n m] (hc:w.cell? ⟨q,o,none⟩=some v) [b:ie fr x (.pointer (some ⟨q,o,none⟩))] [c:wg fr d v V] (h:Jf P ops Q rest V ds w):Jf P ops Q (⟨some d,.load T x,ty,pos,after,none⟩::rest) fr ds w:=wl (Sc a b.out hc (ia c.out) h)
theorem Qf {T:TypeId}{Ed cs:List Value}{n m o q:Nat}{x:Operand}[a:Kc P T true Ed n m] (hc:Yi w q o cs) (b:cs.length=n) [c:ie fr x (.pointer (some ⟨q,o,none⟩))] [e:wg fr d (.agg ⟨cs⟩) V] (h:Jf P ops Q rest V ds w):Jf P ops Q (⟨some d,.load T x,ty,pos,after,none⟩::rest) fr ds w:=wl (xi a c.out hc b (ia e.out) h)
theorem Ha {dst:Option Tmp}{xs:List Operand}{tys:Array TypeId}{k:FuncId}{vs:List Value}{R:Value→World→Prop}[a:Lb P k] [b:ql fr xs vs] (hc:Ab P k vs w R) (h:∀ v w',R v w'→Og fr dst v fun V=>Jf P ops Q rest V ds w') :
  Jf P ops Q (⟨dst,.call { callee:=.value (.func k),args:=⟨xs⟩,argTypes:=tys },ty,pos,after,none⟩::rest) fr ds w:=wl (vb a qb b.out hc h)
theorem qd {id:Nat}{l:List Oper}{μ:M}{w0:World}{rs:List Fb}(a:la μ w0 w rs) (h:∀ w',la μ w0 w' rs→sf P l.toArray Q (List.range l.length) fr ds w') (hm:P.follows .mixedOrders=true:=by kernel_rfl) (b:(List.range l.toArray.size).all (fun i=>(Rj l.toArray i).all fun j=>decide (j<i))=true:=by rfl):Ce P (.region id l.toArray true) Q fr ds w :=
 ly hm b fun w' c d e f=>h w' (a.drew c d e f)
theorem fa {v:Value}{K:List Value→Prop}[a:wg fr d v V] (h:K V):Og fr (some d) v K:=pu (ia a.out) h
theorem ta {R Nd:List Nat}(i:Nat) (he:(decide R.Nodup && enabled ops R i && apart ops false R i,R.erase i,ops[i]?)=(true,Nd,some ⟨some d,op,ty,pos,after,none⟩)) [a:rj P op fr v] [b:wg fr d v V] (h:sf P ops Q Nd V ds w) (c:sh Q:=by first | exact de fun _ _ _ h=>h | exact de fun _ _ _ h=>h.2 | exact de fun _ _ _ h=>h.2.2):sf P ops Q R fr ds w :=
 Ae i he (a.out _ _ _ _ _) b.out h c
theorem sa {Rc:List Mon}{R Nd:List Nat}(i:Nat) (S:List Nat) (he:(decide R.Nodup && enabled ops R i && waits ops R S i && sk ops S R i && S.contains i,R.erase i,ops[i]?)=(true,Nd,some ⟨some d,op,ty,pos,after,none⟩)) [a:rj P op fr v] [b:wg fr d v V] (h:xg P ops Q Rc Nd V ds w) (c:sh Q:=by first | exact de fun _ _ _ h=>h | exact de fun _ _ _ h=>h.2 | exact de fun _ _ _ h=>h.2.2):xg P ops Q Rc R fr ds w :=
 Ze i S he (a.out _ _ _ _ _) b.out h c
end
section
variable {rs rs':List Fb}{O a2 a3 a4 a5 bc Fc jb a9 Yd ec a12 r:Fb}
theorem zc:Tc (O::r::rs) 1 (r::O::rs):=.s (Tc.z)
theorem Cb:Tc (O::a2::r::rs) 2 (r::O::a2::rs):=.s (.s (Tc.z))
theorem Va:Tc (O::a2::a3::r::rs) 3 (r::O::a2::a3::rs):=.s (.s (.s (Tc.z)))
theorem tb:Tc (O::a2::a3::a4::r::rs) 4 (r::O::a2::a3::a4::rs):=.s (.s (.s (.s (Tc.z))))
theorem dc:Tc (O::a2::a3::a4::a5::r::rs) 5 (r::O::a2::a3::a4::a5::rs):=.s (.s (.s (.s (.s (Tc.z)))))
theorem ai:Tc (O::a2::a3::a4::a5::bc::r::rs) 6 (r::O::a2::a3::a4::a5::bc::rs):=.s (.s (.s (.s (.s (.s (Tc.z))))))
theorem Yc:Tc (O::a2::a3::a4::a5::bc::Fc::r::rs) 7 (r::O::a2::a3::a4::a5::bc::Fc::rs):=.s (.s (.s (.s (.s (.s (.s (Tc.z)))))))
theorem Ii:Tc (O::a2::a3::a4::a5::bc::Fc::jb::r::rs) 8 (r::O::a2::a3::a4::a5::bc::Fc::jb::rs):=.s (.s (.s (.s (.s (.s (.s (.s (Tc.z))))))))
end
section
variable {P:Program}{Q:Exit→Act→World→Prop}{fr Vg Wg:List Value}{ds:List Deferred}{w:World}{ops:Array Oper}{l:List Oper}{R:List Nat}{Rc:List Mon}{c:Operand}{x y:Code}{p:Prop}[Decidable p]{b:Bool}{d:Nat}{α:Type}{A B:Option α}{r:α}
theorem Mb (h:(if p then A else B)=some r) [hc:ie fr c (.bool (decide p))] (a:p→A=some r→Ce P x Q fr ds w) (b:¬ p→B=some r→Ce P y Q fr ds w):Ce P (.cond c x y) Q fr ds w:=Sb hc.out (fun q=>a q (ve q h)) (fun q=>b q (mb q h))
theorem sg (h:(if b=true then A else B)=some r) [hc:ie fr c (.bool b)] (a:b=true→A=some r→Ce P x Q fr ds w) (d:¬ b=true→B=some r→Ce P y Q fr ds w):Ce P (.cond c x y) Q fr ds w:=ch hc.out (fun q=>a q (ve q h)) (fun q=>d q (mb q h))
theorem Wn (h:(if b=true then A else B)=some r) [hc:ie fr c (.bool (!b))] (a:¬ b=true→B=some r→Ce P x Q fr ds w) (d:b=true→A=some r→Ce P y Q fr ds w):Ce P (.cond c x y) Q fr ds w:=yj hc.out (fun q=>a q (mb q h)) (fun q=>d q (ve q h))
theorem Pg (d:Nat) (h:(if p then A else B)=some r) [a:lk fr d (.bool (decide p))] [b:wg fr d (.bool true) Vg] [c:wg fr d (.bool false) Wg] (e:p→A=some r→Jf P ops Q l Vg ds w) (f:¬ p→B=some r→Jf P ops Q l Wg ds w):Jf P ops Q l fr ds w:=Nf a.out b.out c.out (fun q=>e q (ve q h)) (fun q=>f q (mb q h))
theorem oC (d:Nat) (h:(if b=true then A else B)=some r) [a:lk fr d (.bool b)] [c:wg fr d (.bool true) Vg] [e:wg fr d (.bool false) Wg] (f:b=true→A=some r→Jf P ops Q l Vg ds w) (g:¬ b=true→B=some r→Jf P ops Q l Wg ds w):Jf P ops Q l fr ds w:=fC a.out c.out e.out (fun q=>f q (ve q h)) (fun q=>g q (mb q h))
theorem RI (d:Nat) (h:(if b=true then A else B)=some r) [a:lk fr d (.bool (!b))] [c:wg fr d (.bool true) Vg] [e:wg fr d (.bool false) Wg] (f:¬ b=true→B=some r→Jf P ops Q l Vg ds w) (g:b=true→A=some r→Jf P ops Q l Wg ds w):Jf P ops Q l fr ds w:=cv a.out c.out e.out (fun q=>f q (mb q h)) (fun q=>g q (ve q h))
theorem pC (d:Nat) (h:(if p then A else B)=some r) [a:lk fr d (.bool (decide p))] [b:wg fr d (.bool true) Vg] [c:wg fr d (.bool false) Wg] (e:p→A=some r→xg P ops Q Rc R Vg ds w) (f:¬ p→B=some r→xg P ops Q Rc R Wg ds w):xg P ops Q Rc R fr ds w:=Ry a.out b.out c.out (fun q=>e q (ve q h)) (fun q=>f q (mb q h))
theorem SI (d:Nat) (h:(if p then A else B)=some r) [a:lk fr d (.bool (decide p))] [b:wg fr d (.bool true) Vg] [c:wg fr d (.bool false) Wg] (e:p→A=some r→sf P ops Q R Vg ds w) (f:¬ p→B=some r→sf P ops Q R Wg ds w):sf P ops Q R fr ds w:=Mn a.out b.out c.out (fun q=>e q (ve q h)) (fun q=>f q (mb q h))
end
abbrev Ve (l:List Value):List Value:=undef::l
abbrev Ac (l:List Value):List Value:=undef::undef::l
abbrev Ud (l:List Value):List Value:=undef::undef::undef::undef::undef::l
abbrev Xe (l:List Value):List Value:=undef::undef::undef::undef::undef::undef::undef::undef::undef::undef::l
abbrev Zd (l:List Value):List Value:=undef::undef::undef::undef::undef::undef::undef::undef::undef::undef::undef::undef::undef::undef::undef::undef::undef::undef::undef::undef::l
abbrev te (l:List Value):List Value:=undef::undef::undef::undef::undef::undef::undef::undef::undef::undef::undef::undef::undef::undef::undef::undef::undef::undef::undef::undef::undef::undef::undef::undef::undef::undef::undef::undef::undef::undef::undef::undef::undef::undef::undef::undef::undef::undef::undef::undef::undef::undef::undef::undef::undef::undef::undef::undef::undef::undef::l
end Go.hd
namespace Go.hd
theorem Ua {α : Type}{a b : α}(h : some a = some b) : a = b := Option.some.inj h
abbrev rg : Nat → Nat → List Nat := fun a b => List.range' a b
end Go.hd
