/- The shelf: texts of Xu. -/
import Derived.Test.YthdpoglpdpfnbaaGreatDoorCXt
import Derived.Laws.MakeOwn
import Derived.Laws.CopyRow
import Derived.Laws.IdiomCopy
import Derived.Lib.AppendZeros
import Derived.Shelf.Strconv.ParseIntPublic10
import Derived.Lib.IndexMore
import Derived.Sort.Row
set_option linter.unusedSimpArgs false
set_option linter.unusedVariables false
set_option linter.unusedSectionVars false
namespace Go.jd
open Go.vc Go.RowKit
theorem ma.split {α:Type}[Wa α]{μ:M}:∀ {l:List α}{cells:List Value}{i:Nat}{x:α},ma μ cells l→l[i]?=some x →
  ∃ Vc cs Lj,cells=Vc++(cs++Lj)∧Vc.length=i*Wa.sz α∧Wa.cs μ cs x∧∀ (J:M) (a:List Value) (c:α),ga μ J→Wa.cs J a c→ma J (Vc++(a++Lj)) (l.set i c)
 | [],cells,i,x,h,b=>by simp at b
 | y::l,cells,i,x,h,b=>by
  rw [ma] at h;obtain ⟨cs,t,rfl,f,j⟩:=h;cases i with
  | zero =>
   simp at b;subst b;exact ⟨[],cs,t,rfl,by simp,f,fun J a c d g=>⟨a,t,rfl,g,j.up d⟩⟩
  | succ i =>
   simp at b;obtain ⟨Vc,Tm,Lj,rfl,e,m,st⟩:=ma.split j b;exact ⟨cs++Vc,Tm,Lj,by simp,by simp [e,Wa.sh f,Nat.add_mul];omega,m,fun J a c d g=>⟨cs,Vc++(a++Lj),by simp,Wa.up d f,st J a c d g⟩⟩
theorem _root_.Go.vc.Row.Oh {α:Type}[Wa α]{w:World}{T:TypeId}{n:Nat}{μ:M}{v:Value}{cells:List Value}{l:List α}{i:Int}{x:α}(h:Row w v T (Wa.sz α) n cells) (d:ma μ cells l) (z:l.length=n) (g:at_ l i=some x) :
  ∃ b o Vc cs Lj,cells=Vc++(cs++Lj)∧Qj v (Wa.sz α) i b o∧(∀ w T a,Row w v T (Wa.sz α) n (Vc++(a++Lj))→a.length=Wa.sz α→bj w b o a)∧Wa.cs μ cs x∧Vc.length=i.toNat*Wa.sz α ∧
   (∀ (J:M) (a:List Value) (f:α),ga μ J→Wa.cs J a f→ma J (Vc++(a++Lj)) (l.set i.toNat f))∧ma μ (Vc++(cs++Lj)) l:=by
 obtain ⟨q,A,r⟩:=Hr g;obtain ⟨b,o,c,rfl,hc⟩:=h.Oo (by omega);obtain ⟨Vc,cs,Lj,rfl,e,m,st⟩:=d.split r;refine ⟨b,o+i.toNat*Wa.sz α,Vc,cs,Lj,rfl,⟨o,_,_,rfl,q,by omega,rfl⟩,?_,m,e,st,d⟩;intro B C a s D j u k;obtain ⟨b',E,c',p,t⟩:=s.Oo (by omega);simp at p;obtain ⟨⟨rfl,rfl⟩,rfl⟩:=p;have y:j<a.length:=(List.getElem?_eq_some_iff.1 k).1;have:=t (Vc.length+j) u (by rw [List.getElem?_append_right (by omega),show Vc.length+j - Vc.length=j by omega,List.getElem?_append_left y];exact k);rw [e,← Nat.add_assoc] at this;exact this
theorem Fl {Vc cs a Lj vs:List Value}{i off sz:Nat}(pl:Vc.length=i*sz) (h:cs.take off++vs++cs.drop (off+vs.length)=a) (b:off+vs.length≤cs.length) :
  (Vc++(cs++Lj)).take (i*sz+off)++vs++(Vc++(cs++Lj)).drop (i*sz+off+vs.length)=Vc++(a++Lj):=by
 subst h;rw [← pl,Nat.add_assoc,List.take_append,List.drop_append];simp [List.take_append_of_le_length (show off≤cs.length by omega),List.drop_append_of_le_length b,List.take_of_length_le (show Vc.length≤Vc.length+off by omega),List.drop_of_length_le (show Vc.length≤Vc.length+(off+vs.length) by omega)]
section
variable {P:Program}{Q:Exit→Act→World→Prop}{K:List Value→List Deferred→World→Prop}{fr za:List Value}{ds:List Deferred}{w:World}
variable {dst:Option Tmp}{ty:TypeId}{pos:String}{after:Array Edge}{g:Option (Nat×Bool)}
variable {w0:World}{rs rs':List Gb}{μ J:M}
variable {T:TypeId}
theorem Hd.two {es:List MapEntry}{c:Nat}{k0 k1:List UInt8}{x0 x1:Int}(h:Hd μ es c [(k0,x0),(k1,x1)]) :
  ∃ u j,es=[⟨S k0,.int .i64 x0,u⟩,⟨S k1,.int .i64 x1,j⟩]∧u<j∧j<c:=by
 obtain ⟨e,l,m⟩:=h
 match es,e,l,m with
 | [],e,_,_=>simp [rf] at e
 | [a],e,_,_ =>
  rw [rf] at e;obtain ⟨k,x,t,g,-,-,f⟩:=e;simp [rf] at f g;simp [f] at g
 | [a,b],e,l,m =>
  rw [rf] at e;obtain ⟨k,x,t,g,n,o,f⟩:=e;rw [rf] at f;obtain ⟨w,y,t',p,q,r,s⟩:=f;subst p;simp only [List.cons.injEq,Prod.mk.injEq] at g;obtain ⟨⟨rfl,rfl⟩,⟨rfl,rfl⟩,-⟩:=g;obtain ⟨z,A,v⟩:=a;obtain ⟨B,bv,i⟩:=b;have o:A=.int .i64 x0:=o;have r:bv=.int .i64 x1:=r;have n:z=S k0:=n;have q:B=S k1:=q;subst n q o r;have C:v<i:=List.rel_of_pairwise_cons m (List.mem_singleton.2 rfl);have D:i<c:=l ⟨S k1,.int .i64 x1,i⟩ (by simp);exact ⟨v,i,rfl,C,D⟩
 | a::b::d::es,e,_,_ =>
  rw [rf] at e;obtain ⟨k,x,t,g,-,-,f⟩:=e;rw [rf] at f;obtain ⟨w,y,t',p,-,-,s⟩:=f;rw [rf] at s;obtain ⟨F,G,H,E,-,-,-⟩:=s;subst E p;simp at g
theorem Pp (w:World) (b:Nat) (o:Obj) (a:b<w.heap.size):gi (fun k=>k≠b) w { w with heap:=w.heap.setIfInBounds b o }∧({ w with heap:=w.heap.setIfInBounds b o }:World).heap[b]?=some o :=
 ⟨⟨rfl,rfl,rfl,by simp,fun j _ c=>by simp [Array.getElem?_setIfInBounds,Ne.symm c]⟩,by simp [a]⟩
theorem RF {x:Operand}{b m c i k a d:Nat}{a0 v0 pa v1:Value}(n:rb fr x (.pointer (some ⟨b,0,none⟩))) (f:la μ w0 w rs) (gb:Bc rs i (.lj b m c [] c)) (hm:Bc rs k (.map m [⟨a0,v0,a⟩,⟨pa,v1,d⟩] c)) (A:a<d) (o:d<c)
  (v:∀ w' rs',wc rs i (.lj b m c [a] c) rs'→la μ w0 w' rs'→Rg fr dst (.tuple ⟨[.bool true,a0,v0]⟩) fun za=>K za ds w')
  (y:∀ w' rs',wc rs i (.lj b m c [d] c) rs'→la μ w0 w' rs'→Rg fr dst (.tuple ⟨[.bool true,pa,v1]⟩) fun za=>K za ds w') :
  Pd P (Oper.mk dst (.next x false) ty pos after g) fr ds w K Q:=by
 have h:w.heap[b]?=some (.mapIter (some m) c ⟨[]⟩ c):=f.get gb;have p:w.heap[m]?=some (.map ⟨[⟨a0,v0,a⟩,⟨pa,v1,d⟩]⟩ c):=f.get hm;have q:b<w.heap.size:=(Array.getElem?_eq_some_iff.1 h).1;have r:w.drew.heap[b]?=some (.mapIter (some m) c ⟨[]⟩ c):=h;have s:a<c:=by omega
 have t:¬ a ≥ c:=by omega
 have u:¬ d ≥ c:=by omega
 by_cases tb:(w.tape w.drawn (.mapNext 2)) % 2=0
 ·obtain ⟨j,l⟩:=Pp w.drew b (.mapIter (some m) c ⟨[a]⟩ c) q;obtain ⟨za,e⟩:=Mh fr dst (.tuple ⟨[.bool true,a0,v0]⟩);refine eh (w':={ w.drew with heap:=w.drew.heap.setIfInBounds b (.mapIter (some m) c ⟨[a]⟩ c) }) ?_ e (v _ _ rfl ((f.drew (w':=w.drew) rfl rfl rfl rfl).put (b:=b) gb rfl rfl rfl l j) za e);simp [execOp,n ds,Instr.next,getObj,setObj,Sem.run,h,p,Result.andThen,s,o,t,u,choose,Question.forced,Question.cut,tb,r]
 ·have z:(w.tape w.drawn (.mapNext 2)) % 2=1:=by omega
  obtain ⟨j,l⟩:=Pp w.drew b (.mapIter (some m) c ⟨[d]⟩ c) q;obtain ⟨za,e⟩:=Mh fr dst (.tuple ⟨[.bool true,pa,v1]⟩);refine eh (w':={ w.drew with heap:=w.drew.heap.setIfInBounds b (.mapIter (some m) c ⟨[d]⟩ c) }) ?_ e (y _ _ rfl ((f.drew (w':=w.drew) rfl rfl rfl rfl).put (b:=b) gb rfl rfl rfl l j) za e);simp [execOp,n ds,Instr.next,getObj,setObj,Sem.run,h,p,Result.andThen,s,o,t,u,choose,Question.forced,Question.cut,z,r]
theorem SF {x:Operand}{b m c f k a d:Nat}{a0 v0 pa v1:Value}(n:rb fr x (.pointer (some ⟨b,0,none⟩))) (e:la μ w0 w rs) (gb:Bc rs f (.lj b m c [a] c)) (hm:Bc rs k (.map m [⟨a0,v0,a⟩,⟨pa,v1,d⟩] c)) (B:a<d) (o:d<c)
  (p:∀ w' rs',wc rs f (.lj b m c [a,d] c) rs'→la μ w0 w' rs'→Rg fr dst (.tuple ⟨[.bool true,pa,v1]⟩) fun za=>K za ds w') :
  Pd P (Oper.mk dst (.next x false) ty pos after g) fr ds w K Q:=by
 have j:w.heap[b]?=some (.mapIter (some m) c ⟨[a]⟩ c):=e.get gb;have q:w.heap[m]?=some (.map ⟨[⟨a0,v0,a⟩,⟨pa,v1,d⟩]⟩ c):=e.get hm;have r:b<w.heap.size:=(Array.getElem?_eq_some_iff.1 j).1;have s:¬ a ≥ c:=by omega
 have t:¬ d ≥ c:=by omega
 have u:¬ ∀ (i:Nat) (x:i<2),c≤([⟨a0,v0,a⟩,⟨pa,v1,d⟩]:List MapEntry)[i].born:=fun h=>by have:=h 0 (by decide);simp at this;omega
 have v:¬ d=a:=by omega
 have y:¬ a=d:=by omega
 obtain ⟨z,A⟩:=Pp w b (.mapIter (some m) c ⟨[a,d]⟩ c) r;obtain ⟨za,l⟩:=Mh fr dst (.tuple ⟨[.bool true,pa,v1]⟩);refine eh (w':={ w with heap:=w.heap.setIfInBounds b (.mapIter (some m) c ⟨[a,d]⟩ c) }) ?_ l (p _ _ rfl (e.put (b:=b) gb rfl rfl rfl A z) za l);simp [execOp,n ds,Instr.next,getObj,setObj,Sem.run,j,q,Result.andThen,o,s,t,v,y,u,choose,Question.forced]
theorem aF {x:Operand}{b m c f k d a:Nat}{a0 v0 pa v1:Value}(n:rb fr x (.pointer (some ⟨b,0,none⟩))) (e:la μ w0 w rs) (gb:Bc rs f (.lj b m c [a] c)) (hm:Bc rs k (.map m [⟨a0,v0,d⟩,⟨pa,v1,a⟩] c)) (B:d<a) (C:a<c)
  (o:∀ w' rs',wc rs f (.lj b m c [a,d] c) rs'→la μ w0 w' rs'→Rg fr dst (.tuple ⟨[.bool true,a0,v0]⟩) fun za=>K za ds w') :
  Pd P (Oper.mk dst (.next x false) ty pos after g) fr ds w K Q:=by
 have j:w.heap[b]?=some (.mapIter (some m) c ⟨[a]⟩ c):=e.get gb;have p:w.heap[m]?=some (.map ⟨[⟨a0,v0,d⟩,⟨pa,v1,a⟩]⟩ c):=e.get hm;have q:b<w.heap.size:=(Array.getElem?_eq_some_iff.1 j).1;have r:d<c:=by omega
 have s:¬ d ≥ c:=by omega
 have t:¬ a ≥ c:=by omega
 have u:¬ ∀ (i:Nat) (x:i<2),c≤([⟨a0,v0,d⟩,⟨pa,v1,a⟩]:List MapEntry)[i].born:=fun h=>by have:=h 0 (by decide);simp at this;omega
 have v:¬ a=d:=by omega
 have y:¬ d=a:=by omega
 obtain ⟨z,A⟩:=Pp w b (.mapIter (some m) c ⟨[a,d]⟩ c) q;obtain ⟨za,l⟩:=Mh fr dst (.tuple ⟨[.bool true,a0,v0]⟩);refine eh (w':={ w with heap:=w.heap.setIfInBounds b (.mapIter (some m) c ⟨[a,d]⟩ c) }) ?_ l (o _ _ rfl (e.put (b:=b) gb rfl rfl rfl A z) za l);simp [execOp,n ds,Instr.next,getObj,setObj,Sem.run,j,p,Result.andThen,r,s,t,v,y,u,choose,Question.forced]
theorem mB {x:Operand}{b m c f k d a p q:Nat}{a0 v0 pa v1:Value}(j:rb fr x (.pointer (some ⟨b,0,none⟩))) (e:la μ w0 w rs) (gb:Bc rs f (.lj b m c [p,q] c)) (hm:Bc rs k (.map m [⟨a0,v0,d⟩,⟨pa,v1,a⟩] c)) (y:d<a) (z:a<c) (l:p=d∧q=a∨p=a∧q=d)
  (tb:tf fr dst (.tuple ⟨[.bool false]⟩) za) (h:K za ds w) :
  Pd P (Oper.mk dst (.next x false) ty pos after g) fr ds w K Q:=by
 have n:w.heap[b]?=some (.mapIter (some m) c ⟨[p,q]⟩ c):=e.get gb;have o:w.heap[m]?=some (.map ⟨[⟨a0,v0,d⟩,⟨pa,v1,a⟩]⟩ c):=e.get hm;have r:¬ d ≥ c:=by omega
 have s:¬ a ≥ c:=by omega
 have t:¬ ∀ (i:Nat) (x:i<2),c≤([⟨a0,v0,d⟩,⟨pa,v1,a⟩]:List MapEntry)[i].born:=fun h=>by have:=h 0 (by decide);simp at this;omega
 have u:¬ a=d:=by omega
 have v:¬ d=a:=by omega
 refine eh (w':=w) ?_ tb h;rcases l with ⟨rfl,rfl⟩ | ⟨rfl,rfl⟩<;>simp [execOp,j ds,Instr.next,getObj,setObj,Sem.run,n,o,Result.andThen,r,s,u,v,t,choose,Question.forced]
theorem Ku {x:Operand}{b m c i k a d:Nat}{a0 v0 pa v1:Value}{seen:List Nat}{e:MapEntry}(j:rb fr x (.pointer (some ⟨b,0,none⟩))) (f:la μ w0 w rs) (gb:Bc rs i (.lj b m c seen c)) (hm:Bc rs k (.map m [⟨a0,v0,a⟩,⟨pa,v1,d⟩] c)) (s:a<d)
  (l:seen.getLast?=some e.born) (he:e=⟨a0,v0,a⟩∨e=⟨pa,v1,d⟩) (tb:tf fr dst (.tuple ⟨[e.key,e.val]⟩) za) (h:K za ds w) :
  Pd P (Oper.mk dst (.entry x) ty pos after g) fr ds w K Q:=by
 have n:w.heap[b]?=some (.mapIter (some m) c ⟨seen⟩ c):=f.get gb;have o:w.heap[m]?=some (.map ⟨[⟨a0,v0,a⟩,⟨pa,v1,d⟩]⟩ c):=f.get hm;have p:¬ d=a:=by omega
 have q:¬ a=d:=by omega
 have r:(⟨seen⟩:Array Nat).back?=some e.born:=by rw [← l];simp [Array.back?,List.getLast?_eq_getElem?]
 refine eh (w':=w) ?_ tb h;rcases he with rfl | rfl<;>simp [execOp,j ds,Instr.entry,getObj,Sem.run,n,o,Result.andThen,r,p,q]
end
end Go.jd
namespace Go.jd
open Go.vc Go.RowKit
section
variable {P:Program}{Q:Exit→Act→World→Prop}{K:List Value→List Deferred→World→Prop}{fr za:List Value}{ds:List Deferred}{w:World}
variable {dst:Option Tmp}{ty:TypeId}{pos:String}{after:Array Edge}{g:Option (Nat×Bool)}
structure nB (P:Program) (f:FuncId) (args:List Value) (w:World) (R:Value→World→Prop):Prop where
 out:CallsD P f ⟨args⟩ .returning w fun e a w'=>a=.returning∧okV R e w'
theorem rI {fn:Func}{R a:Value→World→Prop}{k:FuncId}{cap vs:List Value}(b:Ob P k) (hc:nB P k (vs++cap) w a) (h:∀ v w',a v w'→oq P fn R .ret (F fr ds) w') :
  oq P fn R .ret (F fr (⟨.fn (.func k) ⟨cap⟩,⟨vs⟩⟩::ds)) w:=by
 refine ⟨by simp,.func k,⟨cap⟩,k,⟨vs++cap⟩,rfl,?_,?_⟩
 ·have:=b.out ⟨vs++cap⟩ w;simp [invoke,this]
 ·refine hc.out.mono fun e d w' he=>?_;obtain ⟨rfl,he⟩:=he;cases e with
  | returned v=>exact h v w' he
  | panicked c=>exact he.elim
  | outgrown=>exact he.elim
theorem hH {P:Program}{T:TypeId}{ms:Array (String×TypeId)}{v:Value}{b:Bool}(hu:P.underlying T=some (.interface ms)) (e:(v=.nilIface∧b=true)∨((∃ a c,v=.iface a c)∧b=false)):bo P 1 T v .nilIface b:=⟨fun d w tb=>by
 cases d with
 | zero=>omega
 | succ d=>rcases e with ⟨rfl,rfl⟩ | ⟨⟨a,c,rfl⟩,rfl⟩ <;> simp [Op.equalIn,run_underlying hu]⟩
theorem iH {x:Operand}{t t':TypeId}{v:Value}{b:Bool}{ms:Array (String×TypeId)}(hu:P.underlying t=some (.interface ms)) (e:rb fr x v) (d:(v=.nilIface∧b=true)∨((∃ a c,v=.iface a c)∧b=false)) (f:tf fr dst (.bool b) za) (k:K za ds w) :
  Pd P (Oper.mk dst (.binOp .eql t x (.const .nilIface) t') ty pos after g) fr ds w K Q:=by
 refine xa ⟨fun ds w=>?_⟩ f k;have h:=e ds;have i:(F fr ds).eval (.const .nilIface)=.nilIface:=rfl;have j:=(hH hu d).out Op.maxDepth w (by decide);rcases d with ⟨rfl,rfl⟩ | ⟨⟨a,c,rfl⟩,rfl⟩<;>simp [execOp,h,i,eqGuard,binOp,Op.equal,j]
end
end Go.jd
namespace Go.jd
open Go.vc Go.RowKit
def mJ (agg:Bool) (cs:List Value):Value:=if agg then .agg ⟨cs⟩ else cs.headD undef
structure Om (P:Program) (I:M) (K:Nat) (e:List Value){α:Type}[Wa α] (agg:Bool) (f:α→Option Bool):Prop where
 Sr:Ob P K
 call:∀ {a:M}{w0 c:World}{rs:List Gb}{x:α}{b:Bool}{cs:List Value},ga I a→Wa.cs a cs x→f x=some b→la a w0 c rs→Bb P K ([mJ agg cs]++e) c (fun v w'=>∃ d,v=.bool b∧ga a d∧la d w0 w' rs)
theorem Om.up {P:Program}{μ J:M}{K:Nat}{a:List Value}{α:Type}[Wa α]{agg:Bool}{b:α→Option Bool}(h:Om P μ K a agg b) (l:ga μ J):Om P J K a agg b:=⟨h.Sr,fun c=>h.call (l.t c)⟩
end Go.jd
namespace Go.jd
open Go.vc Go.RowKit
section
variable {P : Program}{Q : Exit → Act → World → Prop}{K : List Value → List Deferred → World → Prop}{fr za : List Value}{ds : List Deferred}{w w' : World}
variable {dst : Option Tmp}{ty : TypeId}{pos : String}{after : Array Edge}{g : Option (Nat × Bool)}
variable {w0 : World}{rs rs' : List Gb}{μ J : M}
variable {T : TypeId}{d : TypeDesc}{Gf : Bool}{Kd : List Value}{n m : Nat}
theorem _root_.Go.vc.Sep.newRow {S Sd : Nat → Prop}{A : World → Prop}{v : Value}{sz k : Nat}{xs : List Value}(c : Sep S Sd w0 w rs A) (d : Grow w w') (i : Row w' v T sz k xs) (e : ∀ b, v.ownBlock = some b → w.heap.size ≤ b) :
    Sep S Sd w0 w' (.row v T sz k xs :: rs) A where
  keeps := c.keeps.trans d.keeps
  all r j := by
    rcases List.mem_cons.1 j with rfl | h
    · exact i
    · exact (c.grow d).all r h
  oi := by
    cases a : v.ownBlock with
    | none => simp only [blocks, List.filterMap_cons, Gb.block, a]; exact c.oi
    | some b =>
      simp only [blocks, List.filterMap_cons, Gb.block, a, List.nodup_cons];exact ⟨fun hm => by have := c.lt hm;have := e b a;omega, c.oi⟩
  new b hm := by
    cases a : v.ownBlock with
    | none => simp only [blocks, List.filterMap_cons, Gb.block, a] at hm; exact c.new b hm
    | some b' =>
      simp only [blocks, List.filterMap_cons, Gb.block, a, List.mem_cons] at hm;rcases hm with rfl | hm
      · exact .inl (Nat.le_trans c.keeps.size (e _ a))
      · exact c.new b hm
  Hi := fun l m n => c.Hi l (Nat.le_trans d.size m) fun k g f => (n k (Nat.lt_of_lt_of_le g d.size) ⟨f.1, fun hm => by
    cases a : v.ownBlock with
    | none => simp only [blocks, List.filterMap_cons, Gb.block, a] at hm; exact f.2 hm
    | some b' =>
      simp only [blocks, List.filterMap_cons, Gb.block, a, List.mem_cons] at hm;rcases hm with rfl | hm
      · have := e _ a;omega
      · exact f.2 hm⟩).trans (d.ba k g trivial)
theorem nw {e : TypeId}{sz k base : Nat}{v : Value}{xs : List Value}(h : w.ownsRow base e sz v k xs) : Row w v e sz k xs ∧ ∀ b, v.ownBlock = some b → base ≤ b := by
  obtain ⟨a, d⟩ := h;rcases d with ⟨rfl, rfl⟩ | ⟨g, cap, cur, rfl, c, f, i, j, n, l⟩
  · exact ⟨⟨a, .inl ⟨rfl, rfl⟩⟩, fun b c => by simp [Value.ownBlock] at c⟩
  · exact ⟨⟨a, .inr ⟨g, 0, cap, cur, rfl, f, i, j, by omega, by simpa using l⟩⟩, fun b m => by simp [Value.ownBlock] at m;omega⟩
def Vk (n : Int) : Option Nat := if 0 ≤ n ∧ n ≤ 65536 then some n.toNat else none
theorem jH {n : Int}{k : Nat}(h : Vk n = some k) : n = k ∧ k ≤ 65536 := by
  unfold Vk at h;split at h
  · rename_i hc;have := Option.some.inj h;omega
  · cases h
theorem bF (z : Value) (k : Nat) : madeCells #[z] k = (List.replicate k z).toArray := by
  apply Array.ext';simp only [madeCells, Array.toList_map, Array.toList_range];apply List.ext_getElem?;intro i;simp only [List.getElem?_map, List.getElem?_range', List.getElem?_replicate];by_cases h : i < k
  · simp [h, Nat.mod_one]
  · simp [h]
theorem yo {x y : Operand}{e : TypeId}{z : Value}{bytes k : Nat}{c d : IntKind}{n : Int}(f : P.underlying T = some (.slice e)) (j : Nc P e Gf [z] 1 bytes) (v : bytes ≤ 4096) (l : rb fr x (.int c n)) (m : rb fr y (.int d n)) (o : Vk n = some k) (p : la μ w0 w rs)
    (h : ∀ b w', la μ w0 w' (.row (.slice (some ⟨b, 0, none⟩) k k) e 1 k (List.replicate k z):: rs) → Rg fr dst (.slice (some ⟨b, 0, none⟩) k k) fun za => K za ds w') :
    Pd P (Oper.mk dst (.makeSlice T x y) ty pos after g) fr ds w K Q := by
  obtain ⟨rfl, q⟩ := jH o;obtain ⟨i, r, gb, s, t, u, A⟩ := j.inf;have hm : i.bytes * k ≤ 4096 * 65536 := Nat.mul_le_mul (by omega) q;have a := run_make (P := P) w T e i r f gb s c d k k (by omega) (Int.le_refl _) (by rw [← Int.natCast_mul]; omega) (by omega)
  simp only [Int.toNat_natCast, u, Nat.mul_one, t] at a;rw [bF] at a;obtain ⟨za, tb⟩ := Mh fr dst (.slice (some ⟨w.heap.size, 0, none⟩) k k);refine eh (w' := w.alloc (.cells (List.replicate k z).toArray e)) ?_ tb (h _ _ (p.alloc rfl ⟨by simp, .inr ⟨_, 0, _, _, rfl, heap_alloc_new w _, Nat.le_refl _, by simp only [maxLen];omega, by simp, by simp⟩⟩) za tb);simp only [execOp, l ds, m ds, Sem.run_bind, a, Result.andThen_ok, Sem.run_pure]
theorem Hn {α : Type}[Wa α]{z : Value}{x : α}(h : ∀ μ : M, Wa.cs μ [z] x) : ∀ k, ma μ (List.replicate k z) (List.replicate k x)
  | 0 => rfl
  | k + 1 => ⟨[z], _, rfl, h μ, Hn h k⟩
theorem sI {t e : TypeId}{v : Value}{a : Option Addr}{k c : Nat}(hu : P.underlying t = some (.slice e)) : bo P 1 t (.slice a k c) (.slice none 0 0) a.isNone := ⟨fun d w tb => by
  cases d with
  | zero => omega
  | succ d => cases a <;> simp [Op.equalIn, run_underlying hu]⟩
theorem TF {x : Operand}{t t' e : TypeId}{a : Option Addr}{k c : Nat}(hu : P.underlying t = some (.slice e)) (b : rb fr x (.slice a k c)) (d : tf fr dst (.bool a.isNone) za) (h : K za ds w) :
    Pd P (Oper.mk dst (.binOp .eql t x (.const (.slice none 0 0)) t') ty pos after g) fr ds w K Q := by
  refine xa ⟨fun ds w => ?_⟩ d h;have f := b ds;have i : (F fr ds).eval (.const (.slice none 0 0)) = .slice none 0 0 := rfl;have j := (sI (v := .nilIface) (a := a) (k := k) (c := c) hu).out Op.maxDepth w (by decide);simp [execOp, f, i, eqGuard, binOp, Op.equal, j]
def small {α : Type}(l : List α) : Option Unit := if l.length ≤ 65536 then some () else none
theorem nn {α : Type}{l : List α}{u : Unit}(h : small l = some u) : l.length ≤ 65536 := by
  unfold small at h;split at h
  · assumption
  · cases h
theorem ma.xy {α : Type}[Wa α] : ∀ {l : List α}{cells : List Value}(i : Nat), ma μ cells l → ma μ (cells.take (i * Wa.sz α)) (l.take i)
  | [], cells, i, h => by rw [ma] at h; subst h; simp [ma]
  | x :: l, cells, 0, h => by simp [ma]
  | x :: l, cells, i + 1, h => by
    rw [ma] at h;obtain ⟨cs, t, rfl, a, b⟩ := h;rw [List.take_succ_cons, ma];refine ⟨cs, t.take (i * Wa.sz α), ?_, a, ma.xy i b⟩;have e : (i + 1) * Wa.sz α = cs.length + i * Wa.sz α := by rw [Nat.add_mul, Wa.sh a];omega
    rw [e, List.take_append];simp [List.take_of_length_le (show cs.length ≤ cs.length + i * Wa.sz α by omega)]
theorem Row.cz {α : Type}[Wa α]{v : Value}{cells : List Value}{l b : List α}{j : Int}(h : Row w v T (Wa.sz α) l.length cells) (hm : ma μ cells l) (g : cut l 0 j = some b) :
    ∃ a c, eo v (Wa.sz α) none (some j) a ∧ a.ownBlock = v.ownBlock ∧ (∀ w T, Row w v T (Wa.sz α) l.length cells → Row w a T (Wa.sz α) b.length c) ∧ ma μ c b := by
  obtain ⟨⟨n, d, e⟩, rfl⟩ := gq g;obtain ⟨a, ra, f, i⟩ := Row.kC h d e;refine ⟨a, cells.take (j.toNat * Wa.sz α), ra, f, fun w T k => ?_, by simpa using hm.xy j.toNat⟩;have := i w T k;have m : ((l.take j.toNat).drop (0 : Int).toNat).length = j.toNat := by simp;omega
  rw [m];exact this
theorem UF {recv : Operand}{xs : List Operand}{tys : Array TypeId}{name : String}{k : FuncId}{t : TypeId}{a : Value}{vs : List Value}(hm : ∀ w, (method (P.types.size + Made.depth) t a name).run P w = .ok (k, a) w) (b : Ob P k) (c : rb fr recv (.iface t a)) (d : Ek fr xs vs) :
    (execOp (F fr ds).eval (Oper.mk dst (.call { callee := .invoke recv name, args := ⟨xs⟩, argTypes := tys }) ty pos after g)).run P w = .ok (.enter k ⟨a :: vs⟩) w := by
  have e := c ds;have f := d ds;have h := b.out ⟨a :: vs⟩ w;have i := hm w;simp [execOp, resolve, e, invoke, callMethod, f, h, i]
theorem oB {recv : Operand}{xs : List Operand}{tys : Array TypeId}{name : String}{k : FuncId}{t : TypeId}{a : Value}{vs : List Value}{R : Value → World → Prop}(hm : ∀ w, (method (P.types.size + Made.depth) t a name).run P w = .ok (k, a) w) (b : Ob P k) (c : rb fr recv (.iface t a)) (d : Ek fr xs vs)
    (hc : Bb P k (a :: vs) w R) (h : ∀ v w', R v w' → Rg fr dst v fun za => K za ds w') : Pd P (Oper.mk dst (.call { callee := .invoke recv name, args := ⟨xs⟩, argTypes := tys }) ty pos after g) fr ds w K Q :=
  Fu (args := a :: vs) (UF hm b c d) hc h
theorem kH {x : Operand}{e : TypeId}{b : Nat}(hu : P.underlying T = some (.pointer e)) (a : rb fr x (.pointer (some ⟨b, 0, none⟩))) : ef P (Oper.mk dst (.makeInterface T x) ty pos after g) fr (.iface T (.pointer (some ⟨b, 0, none⟩))):= ⟨fun ds w => by
  have c := a ds;simp [execOp, c, Instr.makeInterface, run_underlying hu]⟩
end
end Go.jd
namespace Go.jd
open Go.vc Go.RowKit
section
variable {P:Program}{Q:Exit→Act→World→Prop}{K:List Value→List Deferred→World→Prop}{fr za:List Value}{ds:List Deferred}{w w':World}
variable {dst:Option Tmp}{ty:TypeId}{pos:String}{after:Array Edge}{g:Option (Nat×Bool)}
variable {w0:World}{rs rs':List Gb}{μ J:M}
variable {T:TypeId}{d:TypeDesc}{Gf:Bool}{Kd:List Value}{n m:Nat}
def wv (a b:Int):Option Int:=if b=0 then none else some (a.tmod b)
theorem pB {a b c:Int}(h:wv a b=some c):b≠0∧a.tmod b=c:=by
 unfold wv at h;split at h
 ·cases h
 ·rename_i d;exact ⟨d,Option.some.inj h⟩
theorem Qj.uniq {v:Value}{sz:Nat}{i:Int}{b o b' a:Nat}(h:Qj v sz i b o) (d:Qj v sz i b' a):b=b'∧o=a:=by
 obtain ⟨e,n,c,rfl,_,_,rfl⟩:=h.out;obtain ⟨f,g,j,he,_,_,rfl⟩:=d.out;cases he;exact ⟨rfl,rfl⟩
theorem NA {α:Type}{w:World}{v:Value}{T sz i:Nat}{x:α}{l:List α}{cs:List Value}(h:Row w v T sz (l.set i x).length cs):Row w v T sz l.length cs:=by
 rwa [List.length_set] at h
theorem cF {α:Type}{l:List α}{k:Nat}{x:α}(h:l[k]?=some x):l.set k x=l:=by
 apply List.ext_getElem?;intro i;rw [List.getElem?_set];split
 ·rename_i e;subst e;rw [if_pos (List.getElem?_eq_some_iff.1 h).1,h]
 ·rfl
def Zo {α:Type}(l ys:List α):List α:=ys.take l.length++l.drop ys.length
theorem VF {α:Type}(l ys:List α):(Zo l ys).length=l.length:=by simp [Zo];omega
theorem lH {α:Type}[Wa α] (c:Wa.sz α=1){l ys:List α}{cells news:List Value}(h:ma μ cells l) (k:ma μ news ys):ma μ (news.take l.length++cells.drop ys.length) (Zo l ys):=by
 have a:=k.xy l.length;have b:=h.drop ys.length;rw [c,Nat.mul_one] at a b;exact ma.cat b a
theorem mH {α:Type}[Wa α]{t t':TypeId}{x y:Operand}{v:Value}{bytes k c:Nat}{a:Option Addr}{cells news:List Value}{l ys:List α}(A:Wa.sz α=1) (H:P.underlying t=some (.slice T)) (R:Nc P T Gf Kd 1 bytes)
  (S:rb fr x v) (U:rb fr y (.slice a ys.length c)) (m:la μ w0 w rs) (B:Bc rs k (.row v T 1 l.length cells)) (p:ma μ cells l) (hm:ma μ news ys) (W:ys≠[]→∃ b o,a=some ⟨b,o,none⟩∧xc μ b o news)
  (h:∀ n w' rs',wc rs k (.row v T 1 l.length (news.take l.length++cells.drop ys.length)) rs'→la μ w0 w' rs'→Rg fr dst (.int .i64 n) fun za=>K za ds w') :
  Pd P (Oper.mk dst (.call { callee:=.builtin .copy,args:=#[x,y],argTypes:=#[t,t'] }) ty pos after g) fr ds w K Q:=by
 have M:Row w v T 1 l.length cells:=m.get B;have q:news.length=ys.length:=by have:=hm.len;rw [A] at this;omega
 have N:(P.info? T).map (·.size)=some 1:=by
  obtain ⟨i,z,gb,-,-,X,-⟩:=R.inf;rw [gb];simp [X]
 have run:∀ {r:Int}{w'},(Builtin.copy_ #[t,t'] ty #[v,.slice a ys.length c]).run P w=.ok (.int .i64 r) w' →
   (execOp (F fr ds).eval (Oper.mk dst (.call { callee:=.builtin .copy,args:=#[x,y],argTypes:=#[t,t'] }) ty pos after g)).run P w=.ok (.value (.int .i64 r)) w':=fun p=>by
  have Y:=S ds;have Z:=U ds;simp [execOp,resolve,invoke,builtin,Y,Z,p]
 by_cases d:ys.length=0∨l.length=0
 ·obtain ⟨za,tb⟩:=Mh fr dst (.int .i64 (0:Nat));have gc:Nat.min ys.length l.length=0:=by rcases d with d | d<;>simp [d,Nat.min_def]<;>omega
  have lc:news.take l.length++cells.drop ys.length=cells:=by
   have hc:=p.len;rw [A] at hc;rcases d with d | d
   ·rw [d] at q ⊢;simp [List.eq_nil_of_length_eq_zero q]
   ·simp [d,List.eq_nil_of_length_eq_zero (show cells.length=0 by omega)]
  obtain ⟨C,D,E,rfl,rc⟩:∃ C D E,v=.slice C D E∧D=l.length:=by
   rcases M.2 with ⟨rfl,G⟩ | ⟨g,o,cap,cur,rfl,-⟩
   ·exact ⟨none,0,0,rfl,G.symm⟩
   ·exact ⟨_,_,_,rfl,rfl⟩
  subst rc;refine eh (w':=w) (run (r:=((0:Nat):Int)) ?_) tb (h _ w rs ?_ m za tb)
  ·have:=run_copy_none (P:=P) w t t' ty T C a l.length E ys.length c H N gc;simpa [goInt] using this
  ·rw [lc];unfold wc Bc at *;exact cF B
 ·have fd:ys≠[]:=fun e=>d (.inl (by simp [e]));obtain ⟨id,se,rfl,md⟩:=W fd;have rd:=p.len;rw [A,Nat.mul_one] at rd;rcases M.2 with ⟨rfl,G⟩ | ⟨f,o,cap,cur,rfl,O,wd,Fd,le,Id⟩
  ·exact absurd (.inr G) d
  ·obtain ⟨za,tb⟩:=Mh fr dst (.int .i64 ((news.take l.length).length:Nat));have ne:(news.take l.length).length≤l.length:=by simp;omega
   have be:ej w f T cur.toList:=O;have ce:=hm.Ug;have ge:=run_copy_row (P:=P) w t t' ty T f o l.length cap ⟨id,se,none⟩ ys.length c cur T (news.take l.length) H N O (by simp [q,Nat.min_comm]) (fun j u s=>by
    rw [List.getElem?_take] at s;split at s
    ·have:=md w m.a j u s;rwa [ek]
    ·cases s) (by omega) (fun u hu=>ou (List.all_eq_true.1 ce u (List.mem_of_mem_take hu)))
   have key:gi (fun k=>k≠f) w (w.setRow f (cur.toList.take o++news.take l.length++cur.toList.drop (o+(news.take l.length).length)).toArray):=⟨rfl,rfl,rfl,by simp [World.setRow],fun k Ne he=>setRow_other w f k _ he⟩;refine eh (w':=w.setRow f (cur.toList.take o++news.take l.length++cur.toList.drop (o+(news.take l.length).length)).toArray) (run (r:=((news.take l.length).length:Nat)) (by rw [ge];rfl)) tb (h _ _ _ rfl (m.put (b:=f) B rfl rfl rfl ?_ key) za tb);refine ⟨by simp;omega,.inr ⟨f,o,cap,_,rfl,setRow_heap w f ⟨cur.toList⟩ _ T (0,0) be,wd,Fd,?_,?_⟩⟩
   ·simp;omega
   ·have:=Rz cur.toList (news.take l.length) o 0 (l.length*1) (by omega) (by simp;omega);simp only [Nat.add_zero,List.take_zero,List.nil_append,Nat.zero_add] at this;rw [List.toList_toArray,this,Id];congr 1;by_cases hle:ys.length≤l.length
    ·simp [q,Nat.min_eq_right hle]
    ·rw [List.drop_eq_nil_of_le (by simp;omega),List.drop_eq_nil_of_le (by omega)]
theorem nH {x y:Operand}{t t':TypeId}{d:TypeDesc}{a b:Int}(hu:P.underlying t=some d) (c:rb fr x (.int .i64 a)) (f:rb fr y (.int .i64 b)):ef P (Oper.mk dst (.call { callee:=.builtin .min,args:=#[x,y],argTypes:=#[t,t'] }) ty pos after g) fr (.int .i64 (min a b)):=⟨fun ds w=>by
 have i:=c ds;have j:=f ds;have e:min a b=if b<a then b else a:=by simp only [Int.min_def];split<;>split<;>omega
 rw [e];by_cases h:b<a<;>simp [execOp,resolve,invoke,builtin,i,j,Builtin.min_,Builtin.min2,h]⟩
theorem oH {x y:Operand}{t t':TypeId}{d:TypeDesc}{a b:Int}(hu:P.underlying t=some d) (c:rb fr x (.int .i64 a)) (f:rb fr y (.int .i64 b)):ef P (Oper.mk dst (.call { callee:=.builtin .max,args:=#[x,y],argTypes:=#[t,t'] }) ty pos after g) fr (.int .i64 (max a b)):=⟨fun ds w=>by
 have i:=c ds;have j:=f ds;have e:max a b=if a<b then b else a:=by simp only [Int.max_def];split<;>split<;>omega
 rw [e];by_cases h:a<b<;>simp [execOp,resolve,invoke,builtin,i,j,Builtin.max_,Builtin.max2,h]⟩
theorem tI {t:TypeId}{al rs:Array TypeId}{a:Bool}(hu:P.underlying t=some (.func al rs a)):bo P 1 t .nilFunc .nilFunc true:=⟨fun d w tb=>by
 cases d with
 | zero=>omega
 | succ d=>simp [Op.equalIn,run_underlying hu]⟩
theorem xE {x:Operand}{t t':TypeId}{al rs:Array TypeId}{a:Bool}(hu:P.underlying t=some (.func al rs a)) (b:rb fr x .nilFunc):ef P (Oper.mk dst (.binOp .neq t x (.const .nilFunc) t') ty pos after g) fr (.bool false):=⟨fun ds w=>by
 have c:=b ds;have d:(F fr ds).eval (.const .nilFunc)=.nilFunc:=rfl;have e:=(tI hu).out Op.maxDepth w (by decide);simp [execOp,c,d,eqGuard,binOp,Op.equal,e]⟩
end
end Go.jd
namespace Go.jd
open Go.vc Go.RowKit
section
variable {P:Program}{Q:Exit→Act→World→Prop}{K:List Value→List Deferred→World→Prop}{fr za:List Value}{ds:List Deferred}{w w':World}
variable {dst:Option Tmp}{ty:TypeId}{pos:String}{after:Array Edge}{g:Option (Nat×Bool)}
variable {w0:World}{rs rs':List Gb}{μ J:M}
variable {T:TypeId}{d:TypeDesc}{Gf:Bool}{Kd:List Value}{n m:Nat}
def xv (n:Int):Option Nat:=if 0<n∧n≤65536 then some n.toNat else none
theorem XF {n:Int}{k:Nat}(h:xv n=some k):n=k∧0<k∧k≤65536:=by
 unfold xv at h;split at h
 ·rename_i hc;have:=Option.some.inj h;omega
 ·cases h
theorem OB {x:Operand}{t e:TypeId}(a:P.underlying t=some (.slice e)) (b:rb fr x (.slice none 0 0)):ef P (Oper.mk dst (.call { callee:=.builtin .cap,args:=#[x],argTypes:=#[t] }) ty pos after g) fr ((.int .i64 0)):=by
 refine ⟨fun ds w=>?_⟩;have c:=b ds;simp [execOp,c,resolve,invoke,builtin,Builtin.cap_,run_underlying a,goInt]
theorem YF {sz:Nat}:eo (.slice none 0 0) sz none (some 0) (.slice none 0 0):=⟨none,0,0,rfl,by decide,by decide,by decide,rfl⟩
theorem KD (z:List Value):∀ k,(Builtin.zeroCells z.toArray k).toList=(List.replicate k z).flatten:=by
 intro k;simp only [Builtin.zeroCells,Array.toList_map,Array.toList_range,List.size_toArray]
 induction k with
 | zero=>simp
 | succ k a =>
  rw [List.replicate_succ',List.flatten_append,← a,Nat.add_mul,Nat.one_mul,List.range_add,List.map_append,List.flatten_cons,List.flatten_nil,List.append_nil,List.map_map];congr 1;apply List.ext_getElem?;intro i;rw [List.getElem?_map];by_cases gb:i<z.length
  ·rw [List.getElem?_range gb];simp [Nat.mod_eq_of_lt gb,gb]
  ·rw [List.getElem?_eq_none (by simp;omega),List.getElem?_eq_none (by omega)];rfl
theorem qB {α:Type}[Wa α]{z:List Value}{x:α}(h:∀ μ:M,Wa.cs μ z x):∀ k,ma μ (List.replicate k z).flatten (List.replicate k x)
 | 0=>rfl
 | k+1=>⟨z,_,rfl,h μ,qB h k⟩
theorem pH {t bl e:TypeId}{x y:Operand}{z:List Value}{sz bytes k:Nat}{a:IntKind}{n:Int}(p:P.underlying t=some (.slice e)) (q:P.underlying bl=some (.int a)) (r:Nc P e Gf z sz bytes) (f:(decide (bytes≤4096) && (z.length == sz && decide (0<sz)))=true)
  (s:rb fr x (.slice none 0 0)) (u:rb fr y (.int a n)) (A:xv n=some k) (B:la μ w0 w rs)
  (h:∀ b c w',la μ w0 w' (.row (.slice (some ⟨b,0,none⟩) k c) e sz k (List.replicate k z).flatten::rs)→Rg fr dst (.slice (some ⟨b,0,none⟩) k c) fun za=>K za ds w') :
  Pd P (Oper.mk dst (.call { callee:=.builtin .append,args:=#[x,y],argTypes:=#[t,bl] }) ty pos after g) fr ds w K Q:=by
 obtain ⟨rfl,C,D⟩:=XF A;simp only [Bool.and_eq_true,beq_iff_eq,decide_eq_true_eq] at f;obtain ⟨E,j,F⟩:=f;obtain ⟨i,d,gb,G,H,M,N⟩:=r.inf;subst M;subst N;have T:k*i.bytes≤65536*4096:=Nat.mul_le_mul D E;have O:=Go.Lib.run_append_nil_zeros (P:=P) w t bl ty e i d a a p q gb G k C F (by omega) (by omega);obtain ⟨za,tb⟩:=Mh fr dst (.slice (some ⟨w.heap.size,0,none⟩) k (grownCap w k 0 e));have l:=grownCap_ge w k 0 e;have R:grownCap w k 0 e≤maxLen:=grownCap_le_maxLen w k 0 e (by unfold maxLen;omega);have m:d.cells=z.toArray:=H;have o:((List.replicate k z).flatten).length=k*i.size:=by
  simp [j]
 have ra:=s ds;have S:=u ds;have hmul:k*i.size≤grownCap w k 0 e*i.size:=Nat.mul_le_mul_right _ l;refine eh (v:=.slice (some ⟨w.heap.size,0,none⟩) k (grownCap w k 0 e)) (w':=w.drew.alloc (.cells (Builtin.zeroCells d.cells k++Builtin.zeroCells d.cells (grownCap w k 0 e - k)) e)) ?_ tb (h _ _ _ ((B.drew (w':=w.drew) rfl rfl rfl rfl).alloc rfl ⟨o,.inr ⟨_,0,_,_,rfl,heap_alloc_new w.drew _,l,R,?_,?_⟩⟩) za tb)
 ·simp [execOp,resolve,invoke,builtin,ra,S,O]
 ·simp only [Array.size_append,size_zeroCells,m,List.size_toArray,j,← Nat.add_mul,Nat.zero_add];exact Nat.mul_le_mul_right _ (by omega)
 ·rw [m,Array.toList_append,KD,List.drop_zero,← o];exact List.take_left
end
end Go.jd
namespace Go.jd
open Go.vc Go.RowKit
instance:Wa UInt8 where
 sz:=1
 pos:=by decide
 cs _ l x:=l=[.int .u8 x.toNat]
 sh h:=by rw [h];rfl
 up _ h:=h
 Ug h:=by rw [h];rfl
def dz (l:List UInt8):Option Int:=if l.length≤9223372036854775806 then (match Lib.parseIntB 64 l with | .ok v=>some v | _=>none) else none
def yy (l sub:List UInt8):Option Bool:=if l.length<4294967281 then some (Lib.contains l sub) else none
end Go.jd
namespace Go.jd
open Go.vc Go.RowKit
section
variable {μ Bh:M}{w0 w w':World}{rs:List Gb}{T:TypeId}
def yv (w:World) (Bh:M):Prop:=∀ w',Bh w'→w.heap.size≤w'.heap.size∧∀ k,k<w.heap.size→w'.heap[k]?=w.heap[k]?
theorem _root_.Go.vc.Sep.borrow (h:la μ w0 w rs):∃ Bh,ga μ Bh∧la Bh w w []∧yv w Bh:=by
 refine ⟨fun w'=>μ w'∧(w.heap.size≤w'.heap.size∧∀ k,k<w.heap.size→w'.heap[k]?=w.heap[k]?),fun _ hw=>hw.1,Sep.start w _ _ ?_,fun _ hw=>hw.2⟩;intro w' b c;exact ⟨h.Hi w' b fun k a _=>c k a trivial,b,fun k a=>c k a trivial⟩
theorem yv.holds {r:Gb}(a:yv w Bh) (h:r.holds w) (hw:Bh w'):r.holds w':=holds_of h fun b c=>(a w' hw).2 b (Nz h c)
theorem _root_.Go.vc.Row.shape {v:Value}{sz n:Nat}{xs:List Value}(h:Row w v T sz n xs):∃ a c,v=.slice a n c:=by
 rcases h.2 with ⟨rfl,rfl⟩ | ⟨g,o,cap,cur,rfl,-⟩
 ·exact ⟨_,_,rfl⟩
 ·exact ⟨_,_,rfl⟩
theorem _root_.Go.vc.Row.rd {α:Type}[Wa α]{a:Option Addr}{c:Nat}{cells:List Value}{l:List α}(m:yv w Bh) (hle:ga μ Bh) (h:Row w (.slice a l.length c) T (Wa.sz α) l.length cells) (n:ma μ cells l):wa Bh a c l:=by
 have p:∀ w',Bh w'→Row w' (.slice a l.length c) T (Wa.sz α) l.length cells:=fun w' hw=>m.holds (r:=.row (.slice a l.length c) T (Wa.sz α) l.length cells) h hw;rcases h.2 with ⟨e,q⟩ | ⟨g,o,cap,cur,e,B,s,t,C,D⟩
 ·obtain rfl:=List.eq_nil_of_length_eq_zero q;obtain ⟨rfl,-,rfl⟩:=Value.slice.inj e;exact wa.nil
 ·obtain ⟨rfl,-,rfl⟩:=Value.slice.inj e;refine ⟨s,t,.inr ⟨g,o,rfl,fun i=>(cells.drop (i*Wa.sz α)).take (Wa.sz α),fun i x f=>⟨?_,Wa.up hle (n.get f)⟩⟩⟩;intro v y j u d;have z:0<l.length:=by have:=(List.getElem?_eq_some_iff.1 f).1;omega
  obtain ⟨b,E,c,k,hc⟩:=(p v y).Oo z;simp at k;obtain ⟨⟨rfl,rfl⟩,rfl⟩:=k;have A:j<Wa.sz α:=by
   have:=(List.getElem?_eq_some_iff.1 d).1;simp at this;omega
  rw [List.getElem?_take_of_lt A,List.getElem?_drop] at d;have:=hc _ u d;rw [← Nat.add_assoc] at this;exact this
end
section
variable {P:Program}{Q:Exit→Act→World→Prop}{K:List Value→List Deferred→World→Prop}{fr za:List Value}{ds:List Deferred}{w w':World}
variable {dst:Option Tmp}{ty:TypeId}{pos:String}{after:Array Edge}{g:Option (Nat×Bool)}{T:TypeId}{Gf:Bool}{Kd:List Value}{rs rs':List Gb}{μ:M}{w0:World}
end
end Go.jd
namespace Go.jd
open Go.vc Go.RowKit
def Jr (N:List (List UInt8×Int)) (y:Int):Option (Option (List UInt8×Int)):=
 if (N.filter fun e=>decide (e.2=y)).length≤1 then some (N.filter fun e=>decide (e.2=y)).head? else none
section
variable {P:Program}{Q:Exit→Act→World→Prop}{K:List Value→List Deferred→World→Prop}{fr za:List Value}{ds:List Deferred}{w:World}
variable {dst:Option Tmp}{ty:TypeId}{pos:String}{after:Array Edge}{g:Option (Nat×Bool)}
variable {w0:World}{rs rs':List Gb}{μ J:M}
variable {T:TypeId}
theorem dF {x:Operand}{ff aa:TypeId}{m c:Nat}{es:List MapEntry}(a:P.underlying T=some (.map ff aa)) (d:rb fr x (.map (some m))) (e:la μ w0 w rs) (f:w.heap[m]?=some (.map ⟨es⟩ c))
  (h:∀ b w',w.heap.size≤b→la μ w0 w' (.lj b m c [] c::rs)→Rg fr dst (.pointer (some ⟨b,0,none⟩)) fun za=>K za ds w'):Pd P (Oper.mk dst (.range T x) ty pos after g) fr ds w K Q:=by
 obtain ⟨za,tb⟩:=Mh fr dst (.pointer (some ⟨w.heap.size,0,none⟩));refine eh (v:=.pointer (some ⟨w.heap.size,0,none⟩)) (w':=w.alloc (.mapIter (some m) c #[] c)) ?_ tb (h _ _ (Nat.le_refl _) (e.alloc rfl (heap_alloc_new w _)) za tb);simp [execOp,d ds,Instr.range,run_underlying a,getObj,Sem.run,f,Result.andThen]
def leftOf (es:List MapEntry) (seen:List Nat):List MapEntry:=es.filter fun e=>!seen.contains e.born
theorem mem_left {es:List MapEntry}{seen:List Nat}{e:MapEntry}:e ∈ leftOf es seen ↔ e ∈ es∧e.born ∉ seen:=by
 simp [leftOf,List.mem_filter]
theorem eF {es:List MapEntry}{seen:List Nat}{c:Nat}(a:∀ e ∈ es,e.born<c) :
  ((⟨es⟩:Array MapEntry).filter fun e=>!(⟨seen⟩:Array Nat).contains e.born)=⟨leftOf es seen⟩ ∧
  ((⟨leftOf es seen⟩:Array MapEntry).filter fun e=>decide (e.born<c))=⟨leftOf es seen⟩∧((⟨leftOf es seen⟩:Array MapEntry).filter fun e=>decide (e.born ≥ c))=#[]:=by
 have b:(leftOf es seen).filter (fun e=>decide (e.born<c))=leftOf es seen:=List.filter_eq_self.2 fun e he=>by simpa using a e (mem_left.1 he).1
 have d:(leftOf es seen).filter (fun e=>decide (e.born ≥ c))=[]:=List.filter_eq_nil_iff.2 fun e he=>by have:=a e (mem_left.1 he).1;simp;omega
 refine ⟨?_,?_,?_⟩
 ·rw [List.filter_toArray];simp [leftOf]
 ·rw [List.filter_toArray,b]
 ·rw [List.filter_toArray,d]
theorem ZF {es:List MapEntry}{seen:List Nat}{c:Nat}(a:∀ e ∈ es,e.born<c):(!(⟨seen⟩:Array Nat).isEmpty && !(⟨es⟩:Array MapEntry).isEmpty && (⟨es⟩:Array MapEntry).all (fun e=>decide (e.born ≥ c)))=false:=by
 cases es with
 | nil=>simp
 | cons e es =>
  have:=a e (List.mem_cons_self ..);have h:¬ c≤e.born:=by omega
  simp only [List.all_toArray,List.all_cons];simp [h]
theorem aG {x:Operand}{b m c F:Nat}{es:List MapEntry}{seen:List Nat}{N:List (List UInt8×Int)}{Bh:M}(q:rb fr x (.pointer (some ⟨b,0,none⟩))) (r:la μ w0 w rs) (gb:Bc rs F (.lj b m c seen c)) (s:w.heap[m]?=some (.map ⟨es⟩ c)) (u:Hd Bh es c N)
  (G:∀ (k:List UInt8) (y:Int) (n:Nat),⟨S k,.int .i64 y,n⟩ ∈ leftOf es seen→∀ w' rs',wc rs F (.lj b m c (seen++[n]) c) rs'→la μ w0 w' rs'→Rg fr dst (.tuple ⟨[.bool true,S k,.int .i64 y]⟩) fun za=>K za ds w')
  (O:leftOf es seen=[]→Rg fr dst (.tuple ⟨[.bool false]⟩) fun za=>K za ds w) :
  Pd P (Oper.mk dst (.next x false) ty pos after g) fr ds w K Q:=by
 have f:w.heap[b]?=some (.mapIter (some m) c ⟨seen⟩ c):=r.get gb;have H:b<w.heap.size:=(Array.getElem?_eq_some_iff.1 f).1;obtain ⟨j,l,o⟩:=eF (seen:=seen) u.lt;have v:=ZF (seen:=seen) u.lt;have key:∀ e ∈ leftOf es seen,∃ (k:List UInt8) (y:Int),e=⟨S k,.int .i64 y,e.born⟩:=by
  intro e he;have he:=(mem_left.1 he).1;have:∀ (es:List MapEntry) (N:List (List UInt8×Int)),rf Bh es N→∀ e ∈ es,∃ (k:List UInt8) (y:Int),e=⟨S k,.int .i64 y,e.born⟩:=by
   intro es
   induction es with
   | nil=>intro N _ e he; cases he
   | cons a es R =>
    intro N h e he;rw [rf] at h;obtain ⟨k,x,t,z,A,B,T⟩:=h;rcases List.mem_cons.1 he with rfl | he
    ·obtain ⟨a,b,n⟩:=e;have A:a=S k:=A;have B:b=.int .i64 x:=B;subst A;subst B;exact ⟨k,x,rfl⟩
    ·exact R t T e he
  exact this es N u.Hf e he
 cases d:leftOf es seen with
 | nil =>
  obtain ⟨za,tb⟩:=Mh fr dst (.tuple ⟨[.bool false]⟩);refine eh (w':=w) ?_ tb (O d za tb);rw [d] at j l o;simp only [execOp,q ds,Instr.next,getObj,Sem.run_bind,Sem.run,f,Result.andThen,s,v,Bool.false_eq_true,if_false,j,l,o];simp [Sem.run,Result.andThen,choose,Question.forced]
 | cons Sa t0 =>
  rw [d] at j l o;by_cases z:t0=[]
  ·subst z;obtain ⟨k,y,e⟩:=key Sa (by rw [d];exact List.mem_singleton.2 rfl);obtain ⟨C,D⟩:=Pp w b (.mapIter (some m) c ⟨seen++[Sa.born]⟩ c) H;obtain ⟨za,p⟩:=Mh fr dst (.tuple ⟨[.bool true,S k,.int .i64 y]⟩);refine eh (w':={ w with heap:=w.heap.setIfInBounds b (.mapIter (some m) c ⟨seen++[Sa.born]⟩ c) }) ?_ p (G k y Sa.born (by rw [d,← e];exact List.mem_singleton.2 rfl) _ _ rfl (r.put (b:=b) gb rfl rfl rfl D C) za p);rw [e] at j l o;simp only [execOp,q ds,Instr.next,getObj,Sem.run_bind,Sem.run,f,Result.andThen,s,v,Bool.false_eq_true,if_false,j,l,o];simp [Sem.run,Result.andThen,choose,Question.forced,setObj,f]
  ·have hlen:¬ (Sa::t0).length≤1:=by
    cases t0 with
    | nil=>exact absurd rfl z
    | cons _ _=>simp
   let i:=(w.tape w.drawn (.mapNext (Sa::t0).length)) % (Sa::t0).length
   have E:i<(Sa::t0).length:=Nat.mod_lt _ (by simp);obtain ⟨k,y,e⟩:=key ((Sa::t0)[i]) (by rw [d];exact List.getElem_mem E);obtain ⟨C,D⟩:=Pp w.drew b (.mapIter (some m) c ⟨seen++[((Sa::t0)[i]).born]⟩ c) H;obtain ⟨za,p⟩:=Mh fr dst (.tuple ⟨[.bool true,S k,.int .i64 y]⟩);refine eh (w':={ w.drew with heap:=w.drew.heap.setIfInBounds b (.mapIter (some m) c ⟨seen++[((Sa::t0)[i]).born]⟩ c) }) ?_ p (G k y ((Sa::t0)[i]).born (by rw [d,← e];exact List.getElem_mem E) _ _ rfl ((r.drew (w':=w.drew) rfl rfl rfl rfl).put (b:=b) gb rfl rfl rfl D C) za p);have U:w.drew.heap[b]?=some (.mapIter (some m) c ⟨seen⟩ c):=f;have W:((if (⟨Sa::t0⟩:Array MapEntry).isEmpty=true then #[none] else #[])++((⟨Sa::t0⟩:Array MapEntry)++#[]).map some)=⟨(Sa::t0).map some⟩:=by simp
   simp only [execOp,q ds,Instr.next,getObj,Sem.run_bind,Sem.run,f,Result.andThen,s,v,Bool.false_eq_true,if_false,j,l,o,W];have X:(⟨(Sa::t0).map some⟩:Array (Option MapEntry)).size=(Sa::t0).length:=by simp
   have Y:(Question.mapNext (Sa::t0).length).forced=false:=decide_eq_false hlen;have Z:(⟨(Sa::t0).map some⟩:Array (Option MapEntry))[(Question.mapNext (Sa::t0).length).cut (w.tape w.drawn (.mapNext (Sa::t0).length))]?=some (some ((Sa::t0)[i])):=by
    show (⟨(Sa::t0).map some⟩:Array (Option MapEntry))[i]?=_;rw [List.getElem?_toArray,List.getElem?_map,List.getElem?_eq_getElem E];rfl
   simp only [X,choose,Sem.run,Y,Z,Bool.false_eq_true,if_false];generalize (Sa::t0)[i]=ra at *;rw [e];simp [Sem.run,Result.andThen,setObj,U]
theorem find_born {n:Nat}:∀ {es:List MapEntry}{e:MapEntry},(es.Pairwise fun a b=>a.born<b.born)→e ∈ es→e.born=n→es.find? (fun a=>a.born == n)=some e
 | a::es,e,h,he,c=>by
  rw [List.find?_cons];rcases List.mem_cons.1 he with rfl | d
  ·simp [c]
  ·have f:=(List.pairwise_cons.1 h).1 e d;have:¬ a.born=n:=by omega
   simp only [beq_eq_false_iff_ne.2 this];exact find_born (List.pairwise_cons.1 h).2 d c
theorem fF {x:Operand}{b m c d n:Nat}{es:List MapEntry}{seen:List Nat}{N:List (List UInt8×Int)}{Bh:M}{k:List UInt8}{y:Int}(e:rb fr x (.pointer (some ⟨b,0,none⟩))) (f:la μ w0 w rs) (gb:Bc rs d (.lj b m c (seen++[n]) c)) (i:w.heap[m]?=some (.map ⟨es⟩ c)) (j:Hd Bh es c N){l:List Nat}(he:⟨S k,.int .i64 y,n⟩ ∈ leftOf es l)
  (tb:tf fr dst (.tuple ⟨[S k,.int .i64 y]⟩) za) (h:K za ds w) :
  Pd P (Oper.mk dst (.entry x) ty pos after g) fr ds w K Q:=by
 have o:w.heap[b]?=some (.mapIter (some m) c ⟨seen++[n]⟩ c):=f.get gb;have p:(⟨seen++[n]⟩:Array Nat).back?=some n:=by simp [Array.back?]
 have q:(⟨es⟩:Array MapEntry).find? (fun a=>a.born == n)=some ⟨S k,.int .i64 y,n⟩:=by rw [List.find?_toArray];exact find_born j.inc (mem_left.1 he).1 rfl
 refine eh (w':=w) ?_ tb h;simp only [execOp,e ds,Instr.entry,getObj,Sem.run_bind,Sem.run,o,Result.andThen,i,p,q];simp [Sem.run]
def Jk (es:List MapEntry) (seen:List Nat) (y:Int) (n:Nat):Prop:=(leftOf es seen).length=n∧∀ e ∈ es,e.born ∈ seen→e.val≠.int .i64 y
theorem Jk.start {es:List MapEntry}{y:Int}:Jk es [] y es.length:=⟨by rw [leftOf,List.filter_eq_self.2 (by simp)],by simp⟩
theorem Jk.step {es:List MapEntry}{seen:List Nat}{y x:Int}{n m c:Nat}{k:List UInt8}{N:List (List UInt8×Int)}{Bh:M}(h:Jk es seen y n) (d:Hd Bh es c N) (he:⟨S k,.int .i64 x,m⟩ ∈ leftOf es seen) (i:¬ x=y):∃ f,f<n∧Jk es (seen++[m]) y f:=by
 obtain ⟨j,l⟩:=h;refine ⟨_,?_,rfl,fun e hm b=>?_⟩
 ·rw [← j];have e:leftOf es (seen++[m])=(leftOf es seen).filter fun a=>decide (a.born≠m):=by
   rw [leftOf,leftOf,List.filter_filter];apply List.filter_congr;intro a _;by_cases q:a.born=m<;>simp [q]
  rw [e];refine Nat.lt_of_le_of_ne (List.length_filter_le ..) fun o=>?_;have:=(List.length_filter_eq_length_iff.1 o) _ he;simp at this
 ·rcases List.mem_append.1 b with b | b
  ·exact l e hm b
  ·have b:=List.mem_singleton.1 b;have ra:=find_born d.inc hm b;have g:=find_born d.inc (mem_left.1 he).1 rfl;rw [ra] at g;rw [Option.some.inj g];intro q;cases q;exact i rfl
theorem rf.mem_of {Bh:M}{k:List UInt8}{y:Int}{n:Nat}:∀ {es:List MapEntry}{N:List (List UInt8×Int)},rf Bh es N→(⟨S k,.int .i64 y,n⟩:MapEntry) ∈ es→(k,y) ∈ N
 | a::es,N,h,he=>by
  rw [rf] at h;obtain ⟨d,x,t,rfl,b,c,e⟩:=h;rcases List.mem_cons.1 he with rfl | he
  ·have b:S k=S d:=b;have c:Value.int .i64 y=.int .i64 x:=c;cases c;cases b;exact List.mem_cons_self ..
  ·exact List.mem_cons_of_mem _ (rf.mem_of e he)
theorem rf.PB {Bh:M}{k:List UInt8}{y:Int}:∀ {es:List MapEntry}{N:List (List UInt8×Int)},rf Bh es N→(k,y) ∈ N→∃ e ∈ es,e.val=.int .i64 y
 | [],N,h,he=>by rw [rf] at h; subst h; cases he
 | a::es,N,h,he=>by
  rw [rf] at h;obtain ⟨g,x,t,rfl,i,b,c⟩:=h;rcases List.mem_cons.1 he with e | he
  ·cases e;exact ⟨a,List.mem_cons_self ..,b⟩
  ·obtain ⟨e,d,f⟩:=rf.PB c he;exact ⟨e,List.mem_cons_of_mem _ d,f⟩
theorem Jk.hit {es:List MapEntry}{seen:List Nat}{y x:Int}{m c:Nat}{k:List UInt8}{N:List (List UInt8×Int)}{Bh:M}{o:Option (List UInt8×Int)}(f:Hd Bh es c N) (he:⟨S k,.int .i64 x,m⟩ ∈ leftOf es seen) (h:x=y) (g:Jr N y=some o):o.isSome=true∧k=(o.getD ([],0)).1:=by
 subst h;have hm:=rf.mem_of f.Hf (mem_left.1 he).1;rw [Jr] at g;split at g
 ·rename_i i;obtain rfl:=Option.some.inj g;have j:(k,x) ∈ N.filter fun e=>decide (e.2=x):=List.mem_filter.2 ⟨hm,by simp⟩;have aux:∀ F:List (List UInt8×Int),F.length≤1→(k,x) ∈ F→F.head?=some (k,x):=by
   intro F b d
   match F,b,d with
   | [a],_,d=>rw [List.mem_singleton.1 d]; rfl
   | _::_::_,b,_=>simp at b
  rw [aux _ i j];exact ⟨rfl,rfl⟩
 ·cases g
theorem Jk.fin {es:List MapEntry}{seen:List Nat}{y:Int}{n c:Nat}{N:List (List UInt8×Int)}{Bh:M}{o:Option (List UInt8×Int)}(h:Jk es seen y n) (i:Hd Bh es c N) (j:leftOf es seen=[]) (g:Jr N y=some o):¬ o.isSome=true:=by
 have he:N.filter (fun e=>decide (e.2=y))=[]:=by
  rw [List.filter_eq_nil_iff];intro a l b;obtain ⟨k,x⟩:=a;have b:x=y:=by simpa using b
  subst b;obtain ⟨e,d,m⟩:=rf.PB i.Hf l;by_cases f:e.born ∈ seen
  ·exact h.2 e d f m
  ·have:e ∈ leftOf es seen:=mem_left.2 ⟨d,f⟩;rw [j] at this;cases this
 rw [Jr,he] at g;obtain rfl:=Option.some.inj g;simp
abbrev nJ (_:M) (es:List MapEntry) (seen:List Nat) (y:Int) (n:Nat):Prop:=Jk es seen y n
end
end Go.jd
namespace Go.jd
open Go.vc Go.RowKit
section
variable {P:Program}{Q:Exit→Act→World→Prop}{K:List Value→List Deferred→World→Prop}{fr za:List Value}{ds:List Deferred}{w:World}
variable {dst:Option Tmp}{ty:TypeId}{pos:String}{after:Array Edge}{g:Option (Nat×Bool)}
theorem gF {x:Operand}{t t' e:TypeId}{a:Addr}(hu:P.underlying t=some (.pointer e)) (b:rb fr x (.pointer (some a))):ef P (Oper.mk dst (.binOp .neq t x (.const (.pointer none)) t') ty pos after g) fr (.bool true):=⟨fun ds w=>by
 have c:=b ds;have f:(F fr ds).eval (.const (.pointer none))=.pointer none:=rfl;have h:∀ d:Nat,(Op.equalIn (d+1) t (.pointer (some a)) (.pointer none)).run P w=.ok false w:=fun d=>by
  simp [Op.equalIn,run_underlying hu]
 have i:(Op.equalIn Op.maxDepth t (.pointer (some a)) (.pointer none)).run P w=.ok false w:=h 9999;simp [execOp,c,f,eqGuard,binOp,Op.equal,i]⟩
theorem hF {x:Operand}{t t' e:TypeId}{a:Addr}(hu:P.underlying t=some (.pointer e)) (b:rb fr x (.pointer (some a))) (c:tf fr dst (.bool true) za) (h:K za ds w):Pd P (Oper.mk dst (.binOp .neq t x (.const (.pointer none)) t') ty pos after g) fr ds w K Q:=xa (gF hu b) c h
end
end Go.jd
namespace Go.jd
open Go.vc Go.RowKit
theorem ub {α:Type}{c:Prop}[Decidable c]{y:Option α}{r:α}{G:Prop}(h:(if c then none else y)=some r) (hc:c):G:=by rw [if_pos hc] at h;cases h
theorem gf {α:Type}{c:Prop}[Decidable c]{x:Option α}{r:α}{G:Prop}(h:(if c then x else none)=some r) (hc:¬ c):G:=by rw [if_neg hc] at h;cases h
section
variable {P:Program}{Q Q':Exit→Act→World→Prop}{fr za:List Value}{ds:List Deferred}{w:World}{ops:Array Oper}{y:Code}{id:Nat}{l:List Oper}
theorem ka (h:He P y Q' fr ds w):Lf P ops (Exit.then (Vm P y Q') Q) [] fr ds w:=Ka (oa h)
theorem Zi (h:He P y Q' fr ds w):uf P ops (Exit.then (Vm P y Q') Q) [] fr ds w:=ae (oa h)
theorem ea (h:Lf P l.toArray (Exit.then (Vm P y Q) Q) l fr ds w):He P (.seq (.region id l.toArray false) y) Q fr ds w:=Ha (Qa h)
theorem cb (h:Lf P l.toArray (Exit.then (Vm P y Q') Q') l fr ds w):Lf P ops (Exit.then (Vm P (.seq (.region id l.toArray false) y) Q') Q) [] fr ds w:=Ka (oa (Ha (Qa h)))
theorem Za {x:Code}(h:He P x (Exit.then (Vm P y Q') Q') fr ds w):Lf P ops (Exit.then (Vm P (.seq x y) Q') Q) [] fr ds w:=Ka (oa (Ha h))
variable {R Rd:List Nat}{dst:Tmp}{op:Op}{ty:TypeId}{pos:String}{after:Array Edge}{v:Value}{Tc:List Mon}{j d:Nat}{b b':Bool}
theorem Ee (i:Nat) (he:(decide R.Nodup && enabled ops R i && apart ops false R i,R.erase i,ops[i]?)=(true,Rd,some ⟨some dst,op,ty,pos,after,none⟩)) (a:ef P ⟨some dst,op,ty,pos,after,none⟩ fr v) (b:wc fr dst v za) (h:uf P ops Q Rd za ds w) (c:xh Q:=by first | exact ke fun _ _ _ h=>h | exact ke fun _ _ _ h=>h.2 | exact ke fun _ _ _ h=>h.2.2):uf P ops Q R fr ds w:=qI c (congrArg (·.1) he) (congrArg (·.2.1) he) (congrArg (·.2.2) he) a b h
theorem Df (i:Nat) (he:(decide R.Nodup && enabled ops R i && iq ops false R i,R.erase i,ops[i]?)=(true,Rd,some ⟨some dst,op,ty,pos,after,some (j,b)⟩)) (a:(ops[j]?).bind (·.dst)=some d) (c:Bc fr d (.bool b)) (e:ef P ⟨some dst,op,ty,pos,after,some (j,b)⟩ fr v) (f:wc fr dst v za) (h:uf P ops Q Rd za ds w) (g:xh Q:=by first | exact ke fun _ _ _ h=>h | exact ke fun _ _ _ h=>h.2 | exact ke fun _ _ _ h=>h.2.2):uf P ops Q R fr ds w:=aH g (congrArg (·.1) he) (congrArg (·.2.1) he) (congrArg (·.2.2) he) a c e f h
theorem Zr (i:Nat) (he:(decide R.Nodup && enabled ops R i && iq ops false R i,R.erase i,ops[i]?)=(true,Rd,some ⟨some dst,op,ty,pos,after,some (j,b)⟩)) (a:(ops[j]?).bind (·.dst)=some d) (c:Bc fr d (.bool b')) (e:(b' == b)=false) (f:wc fr dst undef za) (h:uf P ops Q Rd za ds w) (g:xh Q:=by first | exact ke fun _ _ _ h=>h | exact ke fun _ _ _ h=>h.2 | exact ke fun _ _ _ h=>h.2.2):uf P ops Q R fr ds w:=bH g (congrArg (·.1) he) (congrArg (·.2.1) he) (congrArg (·.2.2) he) a c e f h
theorem yc (i:Nat) (S:List Nat) (he:(decide R.Nodup && enabled ops R i && waits ops R S i && jq ops S R i,R.erase i,ops[i]?)=(true,Rd,some ⟨some dst,op,ty,pos,after,none⟩)) (a:dk P ⟨some dst,op,ty,pos,after,none⟩ fr w v) (b:wc fr dst v za) (h:uf P ops Q Rd za ds w) (c:xh Q:=by first | exact ke fun _ _ _ h=>h | exact ke fun _ _ _ h=>h.2 | exact ke fun _ _ _ h=>h.2.2):uf P ops Q R fr ds w:=cH S c (congrArg (·.1) he) (congrArg (·.2.1) he) (congrArg (·.2.2) he) a b h
theorem rk (i:Nat) (S:List Nat) (he:(decide R.Nodup && enabled ops R i && waits ops R S i && jq ops S R i,R.erase i,ops[i]?)=(true,Rd,some ⟨some dst,op,ty,pos,after,some (j,b)⟩)) (a:(ops[j]?).bind (·.dst)=some d) (c:Bc fr d (.bool b)) (e:dk P ⟨some dst,op,ty,pos,after,some (j,b)⟩ fr w v) (f:wc fr dst v za) (h:uf P ops Q Rd za ds w) (g:xh Q:=by first | exact ke fun _ _ _ h=>h | exact ke fun _ _ _ h=>h.2 | exact ke fun _ _ _ h=>h.2.2):uf P ops Q R fr ds w:=QF S g (congrArg (·.1) he) (congrArg (·.2.1) he) (congrArg (·.2.2) he) a c e f h
theorem cf (i:Nat) (S:List Nat) (he:(decide R.Nodup && enabled ops R i && waits ops R S i && xk ops S R i && S.contains i,R.erase i,ops[i]?)=(true,Rd,some ⟨some dst,op,ty,pos,after,none⟩)) (a:ef P ⟨some dst,op,ty,pos,after,none⟩ fr v) (b:wc fr dst v za) (h:Ag P ops Q Tc Rd za ds w) (c:xh Q:=by first | exact ke fun _ _ _ h=>h | exact ke fun _ _ _ h=>h.2 | exact ke fun _ _ _ h=>h.2.2):Ag P ops Q Tc R fr ds w:=Nh S c (congrArg (·.1) he) (congrArg (·.2.1) he) (congrArg (·.2.2) he) a b h
theorem Wk (i:Nat) (S:List Nat) (he:(decide R.Nodup && enabled ops R i && waits ops R S i && xk ops S R i && S.contains i,R.erase i,ops[i]?)=(true,Rd,some ⟨some dst,op,ty,pos,after,some (j,b)⟩)) (a:(ops[j]?).bind (·.dst)=some d) (c:Bc fr d (.bool b)) (e:ef P ⟨some dst,op,ty,pos,after,some (j,b)⟩ fr v) (f:wc fr dst v za) (h:Ag P ops Q Tc Rd za ds w) (g:xh Q:=by first | exact ke fun _ _ _ h=>h | exact ke fun _ _ _ h=>h.2 | exact ke fun _ _ _ h=>h.2.2):Ag P ops Q Tc R fr ds w:=eH S g (congrArg (·.1) he) (congrArg (·.2.1) he) (congrArg (·.2.2) he) a c e f h
theorem yi (i:Nat) (S:List Nat) (he:(decide R.Nodup && enabled ops R i && waits ops R S i && xk ops S R i && S.contains i,R.erase i,ops[i]?)=(true,Rd,some ⟨some dst,op,ty,pos,after,some (j,b)⟩)) (a:(ops[j]?).bind (·.dst)=some d) (c:Bc fr d (.bool b')) (e:(b' == b)=false) (f:wc fr dst undef za) (h:Ag P ops Q Tc Rd za ds w) (g:xh Q:=by first | exact ke fun _ _ _ h=>h | exact ke fun _ _ _ h=>h.2 | exact ke fun _ _ _ h=>h.2.2):Ag P ops Q Tc R fr ds w:=fH S g (congrArg (·.1) he) (congrArg (·.2.1) he) (congrArg (·.2.2) he) a c e f h
theorem qc (i:Nat) (S:List Nat) (he:(decide R.Nodup && enabled ops R i && waits ops R S i && xk ops S R i && S.contains i,R.erase i,ops[i]?)=(true,Rd,some ⟨some dst,op,ty,pos,after,none⟩)) (a:dk P ⟨some dst,op,ty,pos,after,none⟩ fr w v) (b:wc fr dst v za) (h:Ag P ops Q ((S,fun w'=>dk P ⟨some dst,op,ty,pos,after,none⟩ fr w' v)::Tc) Rd za ds w) (c:xh Q:=by first | exact ke fun _ _ _ h=>h | exact ke fun _ _ _ h=>h.2 | exact ke fun _ _ _ h=>h.2.2):Ag P ops Q Tc R fr ds w:=ml S c (congrArg (·.1) he) (congrArg (·.2.1) he) (congrArg (·.2.2) he) a b h
theorem uq (i:Nat) (S:List Nat) (he:(decide R.Nodup && enabled ops R i && waits ops R S i && xk ops S R i && S.contains i,R.erase i,ops[i]?)=(true,Rd,some ⟨some dst,op,ty,pos,after,some (j,b)⟩)) (a:(ops[j]?).bind (·.dst)=some d) (c:Bc fr d (.bool b)) (e:dk P ⟨some dst,op,ty,pos,after,some (j,b)⟩ fr w v) (f:wc fr dst v za) (h:Ag P ops Q ((S,fun w'=>dk P ⟨some dst,op,ty,pos,after,some (j,b)⟩ fr w' v)::Tc) Rd za ds w) (g:xh Q:=by first | exact ke fun _ _ _ h=>h | exact ke fun _ _ _ h=>h.2 | exact ke fun _ _ _ h=>h.2.2):Ag P ops Q Tc R fr ds w:=dH S g (congrArg (·.1) he) (congrArg (·.2.1) he) (congrArg (·.2.2) he) a c e f h
end
class sk (l:List Value) (n:Nat) (v:outParam Value):Prop where out:Bc l n v
instance {v:Value}{l:List Value}:sk (v::l) 0 v:=⟨rfl⟩
instance {a v:Value}{l:List Value}{n:Nat}[h:sk l n v]:sk (a::l) (n+1) v:=⟨h.out⟩
instance (priority:=2000){c0 a c2 c3 c4 c5 Bd Li aj c9 v:Value}{l:List Value}{n:Nat}[h:sk l n v]:sk (c0::a::c2::c3::c4::c5::Bd::Li::aj::c9::l) (n+10) v:=⟨h.out⟩
class zg (l:List Value) (n:Nat) (v:Value) (a:outParam (List Value)):Prop where out:wc l n v a
instance {a v:Value}{l:List Value}:zg (a::l) 0 v (v::l):=⟨rfl⟩
instance {a v:Value}{l b:List Value}{n:Nat}[h:zg l n v b]:zg (a::l) (n+1) v (a::b):=⟨congrArg (a::·) h.out⟩
instance (priority:=2000){c0 a c2 c3 c4 c5 Bd Li aj c9 v:Value}{l b:List Value}{n:Nat}[h:zg l n v b]:zg (c0::a::c2::c3::c4::c5::Bd::Li::aj::c9::l) (n+10) v (c0::a::c2::c3::c4::c5::Bd::Li::aj::c9::b):=⟨congrArg (c0::a::c2::c3::c4::c5::Bd::Li::aj::c9::·) h.out⟩
class pe (fr:List Value) (x:Operand) (v:outParam Value):Prop where out:rb fr x v
instance {fr:List Value}{n:Nat}{v:Value}[h:sk fr n v]:pe fr (.tmp n) v:=⟨aa h.out⟩
instance {fr:List Value}{v:Value}:pe fr (.const v) v:=⟨ya⟩
class vj (P:Program) (op:Op) (fr:List Value) (v:outParam Value):Prop where out:∀ dst ty pos after g,ef P (Oper.mk dst op ty pos after g) fr v
section
variable {P:Program}{fr:List Value}{x y c:Operand}{v:Value}{t t':TypeId}{k:IntKind}{a b:Int}
instance [h:pe fr x v]:vj P (.move x) fr v:=⟨fun _ _ _ _ _=>Ni h.out⟩
instance [h:pe fr x v]:vj P (.assign x) fr v:=⟨fun _ _ _ _ _=>mx h.out⟩
instance {a:Addr}[h:pe fr x (.pointer (some a))]:vj P (.nilCheck x) fr (.pointer (some a)):=⟨fun _ _ _ _ _=>ui h.out⟩
instance [c:pe fr x (.int k a)] [d:pe fr y (.int k b)]:vj P (.binOp .eql t x y t') fr (.bool (decide (a=b))):=⟨fun _ _ _ _ _=>kv c.out d.out⟩
instance [c:pe fr x (.int k a)] [d:pe fr y (.int k b)]:vj P (.binOp .neq t x y t') fr (.bool (decide (a≠b))):=⟨fun _ _ _ _ _=>fC c.out d.out⟩
instance [c:pe fr x (.int k a)] [d:pe fr y (.int k b)]:vj P (.binOp .lss t x y t') fr (.bool (decide (a<b))):=⟨fun _ _ _ _ _=>Er c.out d.out⟩
instance [c:pe fr x (.int k a)] [d:pe fr y (.int k b)]:vj P (.binOp .leq t x y t') fr (.bool (decide (a≤b))):=⟨fun _ _ _ _ _=>dC c.out d.out⟩
instance [c:pe fr x (.int k a)] [d:pe fr y (.int k b)]:vj P (.binOp .gtr t x y t') fr (.bool (decide (b<a))):=⟨fun _ _ _ _ _=>Gr c.out d.out⟩
instance [c:pe fr x (.int k a)] [d:pe fr y (.int k b)]:vj P (.binOp .geq t x y t') fr (.bool (decide (b≤a))):=⟨fun _ _ _ _ _=>eC c.out d.out⟩
end
section
variable {P:Program}{Q:Exit→Act→World→Prop}{fr za:List Value}{ds:List Deferred}{w:World}{ops:Array Oper}{rest:List Oper}{d:Tmp}{op:Op}{ty:TypeId}{pos:String}{after:Array Edge}{v:Value}
theorem st [hu:vj P op fr v] [a:zg fr d v za] (h:Lf P ops Q rest za ds w):Lf P ops Q (⟨some d,op,ty,pos,after,none⟩::rest) fr ds w:=wl (xa (hu.out _ _ _ _ _) (ha a.out) h)
end
class xl (fr:List Value) (xs:List Operand) (vs:outParam (List Value)):Prop where out:Ek fr xs vs
instance {fr:List Value}:xl fr [] []:=⟨Sa⟩
instance {fr:List Value}{x:Operand}{v:Value}{xs:List Operand}{vs:List Value}[h:pe fr x v] [k:xl fr xs vs]:xl fr (x::xs) (v::vs):=⟨ra h.out k.out⟩
section
variable {P:Program}{fr:List Value}{x y c:Operand}{v:Value}{t t' T:TypeId}{b:Nat}{o off i:Nat}{vs:List Value}{q:Bool}
instance [a:ld P T i off] [h:pe fr x (.pointer (some ⟨b,o,none⟩))]:vj P (.fieldAddr T x i) fr (.pointer (some ⟨b,o+off,none⟩)):=⟨fun _ _ _ _ _=>Fh a h.out rfl⟩
instance [hc:pe fr c (.bool true)] [h:pe fr x v]:vj P (.pick c x y) fr v:=⟨fun _ _ _ _ _=>Nx hc.out h.out⟩
instance [hc:pe fr c (.bool false)] [h:pe fr y v]:vj P (.pick c x y) fr v:=⟨fun _ _ _ _ _=>gB hc.out h.out⟩
instance [h:pe fr x (.bool q)]:vj P (.unOp .not t x) fr (.bool (!q)):=⟨fun _ _ _ _ _=>mI h.out⟩
instance [h:pe fr x (.tuple ⟨vs⟩)] [k:sk vs i v]:vj P (.extract x i) fr v:=⟨fun _ _ _ _ _=>RG h.out k.out⟩
end
section
variable {P:Program}{Q:Exit→Act→World→Prop}{fr za:List Value}{ds:List Deferred}{w:World}{ops:Array Oper}{rest:List Oper}{d:Tmp}{op:Op}{ty:TypeId}{pos:String}{after:Array Edge}{v:Value}{j e:Nat}{b b':Bool}
theorem Fa [hu:vj P op fr v] [a:zg fr d v za] (c:(ops[j]?).bind (·.dst)=some e) [f:sk fr e (.bool b)] (h:Lf P ops Q rest za ds w):Lf P ops Q (⟨some d,op,ty,pos,after,some (j,b)⟩::rest) fr ds w:=Qc c f.out (xa (hu.out _ _ _ _ _) (ha a.out) h)
theorem lb [a:zg fr d undef za] (c:(ops[j]?).bind (·.dst)=some e) [f:sk fr e (.bool b')] (g:(b' == b)=false) (h:Lf P ops Q rest za ds w):Lf P ops Q (⟨some d,op,ty,pos,after,some (j,b)⟩::rest) fr ds w:=wn c f.out g (ha a.out) h
theorem Ba {T:TypeId}{Kd:List Value}{n m o q:Nat}{x:Operand}[a:Nc P T false Kd n m] (hc:w.cell? ⟨q,o,none⟩=some v) [b:pe fr x (.pointer (some ⟨q,o,none⟩))] [c:zg fr d v za] (h:Lf P ops Q rest za ds w):Lf P ops Q (⟨some d,.load T x,ty,pos,after,none⟩::rest) fr ds w:=wl (Wc a b.out hc (ha c.out) h)
theorem Uf {T:TypeId}{Kd cs:List Value}{n m o q:Nat}{x:Operand}[a:Nc P T true Kd n m] (hc:bj w q o cs) (b:cs.length=n) [c:pe fr x (.pointer (some ⟨q,o,none⟩))] [e:zg fr d (.agg ⟨cs⟩) za] (h:Lf P ops Q rest za ds w):Lf P ops Q (⟨some d,.load T x,ty,pos,after,none⟩::rest) fr ds w:=wl (Ci a c.out hc b (ha e.out) h)
theorem Ja {dst:Option Tmp}{xs:List Operand}{tys:Array TypeId}{k:FuncId}{vs:List Value}{R:Value→World→Prop}[a:Ob P k] [b:xl fr xs vs] (hc:Bb P k vs w R) (h:∀ v w',R v w'→Rg fr dst v fun za=>Lf P ops Q rest za ds w') :
  Lf P ops Q (⟨dst,.call { callee:=.value (.func k),args:=⟨xs⟩,argTypes:=tys },ty,pos,after,none⟩::rest) fr ds w:=wl (xb a sb b.out hc h)
theorem td {id:Nat}{l:List Oper}{μ:M}{w0:World}{rs:List Gb}(a:la μ w0 w rs) (h:∀ w',la μ w0 w' rs→uf P l.toArray Q (List.range l.length) fr ds w') (hm:P.follows .mixedOrders=true:=by kernel_rfl) (b:(List.range l.toArray.size).all (fun i=>(Xj l.toArray i).all fun j=>decide (j<i))=true:=by rfl):He P (.region id l.toArray true) Q fr ds w :=
 wy hm b fun w' c d e f=>h w' (a.drew c d e f)
theorem fa {v:Value}{K:List Value→Prop}[a:zg fr d v za] (h:K za):Rg fr (some d) v K:=pu (ha a.out) h
theorem ua {R Rd:List Nat}(i:Nat) (he:(decide R.Nodup && enabled ops R i && apart ops false R i,R.erase i,ops[i]?)=(true,Rd,some ⟨some d,op,ty,pos,after,none⟩)) [a:vj P op fr v] [b:zg fr d v za] (h:uf P ops Q Rd za ds w) (c:xh Q:=by first | exact ke fun _ _ _ h=>h | exact ke fun _ _ _ h=>h.2 | exact ke fun _ _ _ h=>h.2.2):uf P ops Q R fr ds w :=
 Ee i he (a.out _ _ _ _ _) b.out h c
theorem ta {Tc:List Mon}{R Rd:List Nat}(i:Nat) (S:List Nat) (he:(decide R.Nodup && enabled ops R i && waits ops R S i && xk ops S R i && S.contains i,R.erase i,ops[i]?)=(true,Rd,some ⟨some d,op,ty,pos,after,none⟩)) [a:vj P op fr v] [b:zg fr d v za] (h:Ag P ops Q Tc Rd za ds w) (c:xh Q:=by first | exact ke fun _ _ _ h=>h | exact ke fun _ _ _ h=>h.2 | exact ke fun _ _ _ h=>h.2.2):Ag P ops Q Tc R fr ds w :=
 cf i S he (a.out _ _ _ _ _) b.out h c
end
section
variable {rs rs':List Gb}{pa a2 a3 a4 a5 dc Gc mb a9 de jc a12 r:Gb}
theorem Cc:Yc (pa::r::rs) 1 (r::pa::rs):=.s (Yc.z)
theorem Eb:Yc (pa::a2::r::rs) 2 (r::pa::a2::rs):=.s (.s (Yc.z))
theorem Xa:Yc (pa::a2::a3::r::rs) 3 (r::pa::a2::a3::rs):=.s (.s (.s (Yc.z)))
theorem vb:Yc (pa::a2::a3::a4::r::rs) 4 (r::pa::a2::a3::a4::rs):=.s (.s (.s (.s (Yc.z))))
theorem ec:Yc (pa::a2::a3::a4::a5::r::rs) 5 (r::pa::a2::a3::a4::a5::rs):=.s (.s (.s (.s (.s (Yc.z)))))
theorem fi:Yc (pa::a2::a3::a4::a5::dc::r::rs) 6 (r::pa::a2::a3::a4::a5::dc::rs):=.s (.s (.s (.s (.s (.s (Yc.z))))))
theorem bd:Yc (pa::a2::a3::a4::a5::dc::Gc::r::rs) 7 (r::pa::a2::a3::a4::a5::dc::Gc::rs):=.s (.s (.s (.s (.s (.s (.s (Yc.z)))))))
theorem Mi:Yc (pa::a2::a3::a4::a5::dc::Gc::mb::r::rs) 8 (r::pa::a2::a3::a4::a5::dc::Gc::mb::rs):=.s (.s (.s (.s (.s (.s (.s (.s (Yc.z))))))))
end
section
variable {P:Program}{Q:Exit→Act→World→Prop}{fr Yg Zg:List Value}{ds:List Deferred}{w:World}{ops:Array Oper}{l:List Oper}{R:List Nat}{Tc:List Mon}{c:Operand}{x y:Code}{p:Prop}[Decidable p]{b:Bool}{d:Nat}{α:Type}{A B:Option α}{r:α}
theorem Mb (h:(if p then A else B)=some r) [hc:pe fr c (.bool (decide p))] (a:p→A=some r→He P x Q fr ds w) (b:¬ p→B=some r→He P y Q fr ds w):He P (.cond c x y) Q fr ds w:=Ub hc.out (fun q=>a q (xe q h)) (fun q=>b q (pb q h))
theorem qg (h:(if b=true then A else B)=some r) [hc:pe fr c (.bool b)] (a:b=true→A=some r→He P x Q fr ds w) (d:¬ b=true→B=some r→He P y Q fr ds w):He P (.cond c x y) Q fr ds w:=fh hc.out (fun q=>a q (xe q h)) (fun q=>d q (pb q h))
theorem Um (h:(if b=true then A else B)=some r) [hc:pe fr c (.bool (!b))] (a:¬ b=true→B=some r→He P x Q fr ds w) (d:b=true→A=some r→He P y Q fr ds w):He P (.cond c x y) Q fr ds w:=Cj hc.out (fun q=>a q (pb q h)) (fun q=>d q (xe q h))
theorem Ng (d:Nat) (h:(if p then A else B)=some r) [a:sk fr d (.bool (decide p))] [b:zg fr d (.bool true) Yg] [c:zg fr d (.bool false) Zg] (e:p→A=some r→Lf P ops Q l Yg ds w) (f:¬ p→B=some r→Lf P ops Q l Zg ds w):Lf P ops Q l fr ds w:=Qf a.out b.out c.out (fun q=>e q (xe q h)) (fun q=>f q (pb q h))
theorem CC (d:Nat) (h:(if b=true then A else B)=some r) [a:sk fr d (.bool b)] [c:zg fr d (.bool true) Yg] [e:zg fr d (.bool false) Zg] (f:b=true→A=some r→Lf P ops Q l Yg ds w) (g:¬ b=true→B=some r→Lf P ops Q l Zg ds w):Lf P ops Q l fr ds w:=sC a.out c.out e.out (fun q=>f q (xe q h)) (fun q=>g q (pb q h))
theorem oJ (d:Nat) (h:(if b=true then A else B)=some r) [a:sk fr d (.bool (!b))] [c:zg fr d (.bool true) Yg] [e:zg fr d (.bool false) Zg] (f:¬ b=true→B=some r→Lf P ops Q l Yg ds w) (g:b=true→A=some r→Lf P ops Q l Zg ds w):Lf P ops Q l fr ds w:=mv a.out c.out e.out (fun q=>f q (pb q h)) (fun q=>g q (xe q h))
theorem DC (d:Nat) (h:(if p then A else B)=some r) [a:sk fr d (.bool (decide p))] [b:zg fr d (.bool true) Yg] [c:zg fr d (.bool false) Zg] (e:p→A=some r→Ag P ops Q Tc R Yg ds w) (f:¬ p→B=some r→Ag P ops Q Tc R Zg ds w):Ag P ops Q Tc R fr ds w:=bz a.out b.out c.out (fun q=>e q (xe q h)) (fun q=>f q (pb q h))
theorem pJ (d:Nat) (h:(if p then A else B)=some r) [a:sk fr d (.bool (decide p))] [b:zg fr d (.bool true) Yg] [c:zg fr d (.bool false) Zg] (e:p→A=some r→uf P ops Q R Yg ds w) (f:¬ p→B=some r→uf P ops Q R Zg ds w):uf P ops Q R fr ds w:=Un a.out b.out c.out (fun q=>e q (xe q h)) (fun q=>f q (pb q h))
end
abbrev Ye (l:List Value):List Value:=undef::l
abbrev zc (l:List Value):List Value:=undef::undef::l
abbrev Wd (l:List Value):List Value:=undef::undef::undef::undef::undef::l
abbrev af (l:List Value):List Value:=undef::undef::undef::undef::undef::undef::undef::undef::undef::undef::l
abbrev Xd (l:List Value):List Value:=undef::undef::undef::undef::undef::undef::undef::undef::undef::undef::undef::undef::undef::undef::undef::undef::undef::undef::undef::undef::l
abbrev ve (l:List Value):List Value:=undef::undef::undef::undef::undef::undef::undef::undef::undef::undef::undef::undef::undef::undef::undef::undef::undef::undef::undef::undef::undef::undef::undef::undef::undef::undef::undef::undef::undef::undef::undef::undef::undef::undef::undef::undef::undef::undef::undef::undef::undef::undef::undef::undef::undef::undef::undef::undef::undef::undef::l
end Go.jd
namespace Go.jd
theorem Ua {α : Type}{a b : α}(h : some a = some b) : a = b := Option.some.inj h
abbrev rg : Nat → Nat → List Nat := fun a b => List.range' a b
end Go.jd
