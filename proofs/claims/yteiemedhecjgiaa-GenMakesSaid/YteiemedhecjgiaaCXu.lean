/- Texts of Xu. -/
import Derived.Test.YteiemedhecjgiaaCXt
import Derived.Laws.MakeOwn
import Derived.Laws.CopyRow
import Derived.Shelf.Strconv.ParseIntPublic10
import Derived.Lib.IndexMore
import Derived.Sort.Row
import Derived.Lib.AppendStr
import Derived.Lib.ItoaNum
import Derived.Lib.UnsafeStr
set_option linter.unusedSimpArgs false
set_option linter.unusedVariables false
set_option linter.unusedSectionVars false
namespace Go.nd
open Go.pc Go.RowKit
theorem ua.split {α:Type}[fb α]{μ:M}:∀ {l:List α}{cells:List Value}{i:Nat}{x:α},ua μ cells l→l[i]?=some x →
  ∃ b cs Ad,cells=b++(cs++Ad)∧b.length=i*fb.sz α∧fb.cs μ cs x∧∀ (xa:M) (a:List Value) (d:α),ga μ xa→fb.cs xa a d→ua xa (b++(a++Ad)) (l.set i d)
 | [],cells,i,x,h,c=>by simp at c
 | y::l,cells,i,x,h,c=>by
  rw [ua] at h;obtain ⟨cs,t,rfl,f,j⟩:=h;cases i with
  | zero =>
   simp at c;subst c;exact ⟨[],cs,t,rfl,by simp,f,fun xa a d za g=>⟨a,t,rfl,g,j.up za⟩⟩
  | succ i =>
   simp at c;obtain ⟨b,k,Ad,rfl,e,m,st⟩:=ua.split j c;exact ⟨cs++b,k,Ad,by simp,by simp [e,fb.ch f,Nat.add_mul];omega,m,fun xa a d za g=>⟨cs,b++(a++Ad),by simp,fb.up za f,st xa a d za g⟩⟩
theorem _root_.Go.pc.Row.Ml {α:Type}[fb α]{w:World}{T:TypeId}{n:Nat}{μ:M}{v:Value}{cells:List Value}{l:List α}{i:Int}{x:α}(h:Row w v T (fb.sz α) n cells) (f:ua μ cells l) (A:l.length=n) (g:at_ l i=some x) :
  ∃ b o a cs Ad,cells=a++(cs++Ad)∧pv v (fb.sz α) i b o∧(∀ w T d,Row w v T (fb.sz α) n (a++(d++Ad))→d.length=fb.sz α→tj w b o d)∧fb.cs μ cs x∧a.length=i.toNat*fb.sz α ∧
   (∀ (xa:M) (d:List Value) (k:α),ga μ xa→fb.cs xa d k→ua xa (a++(d++Ad)) (l.set i.toNat k))∧ua μ (a++(cs++Ad)) l:=by
 obtain ⟨r,B,s⟩:=Xu g;obtain ⟨b,o,c,rfl,C⟩:=h.Wt (by omega);obtain ⟨a,cs,Ad,rfl,e,m,st⟩:=f.split s;refine ⟨b,o+i.toNat*fb.sz α,a,cs,Ad,rfl,⟨o,_,_,rfl,r,by omega,rfl⟩,?_,m,e,st,f⟩;intro D E d t za j u p;obtain ⟨Te,F,Fc,q,y⟩:=t.Wt (by omega);simp at q;obtain ⟨⟨rfl,rfl⟩,rfl⟩:=q;have z:j<d.length:=(List.getElem?_eq_some_iff.1 p).1;have:=y (a.length+j) u (by rw [List.getElem?_append_right (by omega),show a.length+j - a.length=j by omega,List.getElem?_append_left z];exact p);rw [e,← Nat.add_assoc] at this;exact this
theorem Sx {a cs b Ad vs:List Value}{i off sz:Nat}(pl:a.length=i*sz) (h:cs.take off++vs++cs.drop (off+vs.length)=b) (za:off+vs.length≤cs.length) :
  (a++(cs++Ad)).take (i*sz+off)++vs++(a++(cs++Ad)).drop (i*sz+off+vs.length)=a++(b++Ad):=by
 subst h;rw [← pl,Nat.add_assoc,List.take_append,List.drop_append];simp [List.take_append_of_le_length (show off≤cs.length by omega),List.drop_append_of_le_length za,List.take_of_length_le (show a.length≤a.length+off by omega),List.drop_of_length_le (show a.length≤a.length+(off+vs.length) by omega)]
section
variable {P:Program}{Q:Exit→Act→World→Prop}{K:List Value→List Deferred→World→Prop}{fr db:List Value}{ds:List Deferred}{w:World}
variable {dst:Option Tmp}{ty:TypeId}{pos:String}{after:Array Edge}{g:Option (Nat×Bool)}
variable {J:World}{rs ld:List yc}{μ xa:M}
variable {T:TypeId}
theorem oB (w:World) (b:Nat) (o:Obj) (a:b<w.heap.size):Zh (fun k=>k≠b) w { w with heap:=w.heap.setIfInBounds b o }∧({ w with heap:=w.heap.setIfInBounds b o }:World).heap[b]?=some o :=
 ⟨⟨rfl,rfl,rfl,by simp,fun j _ c=>by simp [Array.getElem?_setIfInBounds,Ne.symm c]⟩,by simp [a]⟩
end
end Go.nd
namespace Go.nd
open Go.pc Go.RowKit
section
variable {P:Program}{Q:Exit→Act→World→Prop}{K:List Value→List Deferred→World→Prop}{fr db:List Value}{ds:List Deferred}{w:World}
variable {dst:Option Tmp}{ty:TypeId}{pos:String}{after:Array Edge}{g:Option (Nat×Bool)}
end
end Go.nd
namespace Go.nd
open Go.pc Go.RowKit
def bJ (agg:Bool) (cs:List Value):Value:=if agg then .agg ⟨cs⟩ else cs.headD undef
structure hx (P:Program) (I:M) (K:Nat) (e:List Value){α:Type}[fb α] (agg:Bool) (f:α→Option Bool):Prop where
 VC:kd P K
 call:∀ {a:M}{J c:World}{rs:List yc}{x:α}{b:Bool}{cs:List Value},ga I a→fb.cs a cs x→f x=some b→ra a J c rs→nc P K ([bJ agg cs]++e) c (fun v w'=>∃ d,v=.bool b∧ga a d∧ra d J w' rs)
theorem hx.up {P:Program}{μ xa:M}{K:Nat}{a:List Value}{α:Type}[fb α]{agg:Bool}{b:α→Option Bool}(h:hx P μ K a agg b) (l:ga μ xa):hx P xa K a agg b:=⟨h.VC,fun za=>h.call (l.t za)⟩
end Go.nd
namespace Go.nd
open Go.pc Go.RowKit
section
variable {P : Program}{Q : Exit → Act → World → Prop}{K : List Value → List Deferred → World → Prop}{fr db : List Value}{ds : List Deferred}{w w' : World}
variable {dst : Option Tmp}{ty : TypeId}{pos : String}{after : Array Edge}{g : Option (Nat × Bool)}
variable {J : World}{rs ld : List yc}{μ xa : M}
variable {T : TypeId}{d : TypeDesc}{ag : Bool}{ae : List Value}{n m : Nat}
theorem ua.IC {α : Type}[fb α] : ∀ {l : List α}{cells : List Value}(i : Nat), ua μ cells l → ua μ (cells.take (i * fb.sz α)) (l.take i)
  | [], cells, i, h => by rw [ua] at h; subst h; simp [ua]
  | x :: l, cells, 0, h => by simp [ua]
  | x :: l, cells, i + 1, h => by
    rw [ua] at h;obtain ⟨cs, t, rfl, a, b⟩ := h;rw [List.take_succ_cons, ua];refine ⟨cs, t.take (i * fb.sz α), ?_, a, ua.IC i b⟩;have e : (i + 1) * fb.sz α = cs.length + i * fb.sz α := by rw [Nat.add_mul, fb.ch a];omega
    rw [e, List.take_append];simp [List.take_of_length_le (show cs.length ≤ cs.length + i * fb.sz α by omega)]
theorem Row.HI {α : Type}[fb α]{v : Value}{cells : List Value}{l ab : List α}{j : Int}(h : Row w v T (fb.sz α) l.length cells) (hm : ua μ cells l) (g : cut l 0 j = some ab) :
    ∃ a b, Cr v (fb.sz α) none (some j) a ∧ a.ownBlock = v.ownBlock ∧ (∀ w T, Row w v T (fb.sz α) l.length cells → Row w a T (fb.sz α) ab.length b) ∧ ua μ b ab := by
  obtain ⟨⟨k, c, d⟩, rfl⟩ := Su g;obtain ⟨a, ma, e, f⟩ := Row.HC h c d;refine ⟨a, cells.take (j.toNat * fb.sz α), ma, e, fun w T i => ?_, by simpa using hm.IC j.toNat⟩;have := f w T i;have za : ((l.take j.toNat).drop (0 : Int).toNat).length = j.toNat := by simp;omega
  rw [za];exact this
end
end Go.nd
namespace Go.nd
open Go.pc Go.RowKit
instance:fb UInt8 where
 sz:=1
 pos:=by decide
 cs _ l x:=l=[.int .u8 x.toNat]
 ch h:=by rw [h];rfl
 up _ h:=h
 Ui h:=by rw [h];rfl
def Zu (l sub:List UInt8):Option Bool:=if l.length<4294967281 then some (Lib.contains l sub) else none
end Go.nd
namespace Go.nd
open Go.pc Go.RowKit
section
variable {μ Ah:M}{J w w':World}{rs:List yc}{T:TypeId}
def iv (w:World) (Ah:M):Prop:=∀ w',Ah w'→w.heap.size≤w'.heap.size∧∀ k,k<w.heap.size→w'.heap[k]?=w.heap[k]?
theorem _root_.Go.pc.Sep.borrow (h:ra μ J w rs):∃ Ah,ga μ Ah∧ra Ah w w []∧iv w Ah:=by
 refine ⟨fun w'=>μ w'∧(w.heap.size≤w'.heap.size∧∀ k,k<w.heap.size→w'.heap[k]?=w.heap[k]?),fun _ hw=>hw.1,Sep.start w _ _ ?_,fun _ hw=>hw.2⟩;intro w' b c;exact ⟨h.jj w' b fun k a _=>c k a trivial,b,fun k a=>c k a trivial⟩
theorem _root_.Go.pc.Sep.back {c:M}(h:ra μ J w rs) (d:iv w Ah) (hle:ga Ah c) (b:ra c w w' []):ra μ J w' rs :=
 h.grow ⟨b.keeps.os,b.keeps.tape,b.keeps.output,b.keeps.size,fun k e _=>(d w' (hle _ b.a)).2 k e⟩
theorem iv.holds {r:yc}(a:iv w Ah) (h:r.holds w) (hw:Ah w'):r.holds w':=holds_of h fun b c=>(a w' hw).2 b (Nz h c)
theorem _root_.Go.pc.Row.shape {v:Value}{sz n:Nat}{xs:List Value}(h:Row w v T sz n xs):∃ a c,v=.slice a n c:=by
 rcases h.2 with ⟨rfl,rfl⟩ | ⟨g,o,cap,cur,rfl,-⟩
 ·exact ⟨_,_,rfl⟩
 ·exact ⟨_,_,rfl⟩
theorem _root_.Go.pc.Row.rd {α:Type}[fb α]{a:Option Addr}{c:Nat}{cells:List Value}{l:List α}(m:iv w Ah) (hle:ga μ Ah) (h:Row w (.slice a l.length c) T (fb.sz α) l.length cells) (n:ua μ cells l):Ua Ah a c l:=by
 have p:∀ w',Ah w'→Row w' (.slice a l.length c) T (fb.sz α) l.length cells:=fun w' hw=>m.holds (r:=.row (.slice a l.length c) T (fb.sz α) l.length cells) h hw;rcases h.2 with ⟨e,q⟩ | ⟨g,o,cap,cur,e,C,s,t,D,E⟩
 ·obtain rfl:=List.eq_nil_of_length_eq_zero q;obtain ⟨rfl,-,rfl⟩:=Value.slice.inj e;exact Ua.nil
 ·obtain ⟨rfl,-,rfl⟩:=Value.slice.inj e;refine ⟨s,t,.inr ⟨g,o,rfl,fun i=>(cells.drop (i*fb.sz α)).take (fb.sz α),fun i x f=>⟨?_,fb.up hle (n.get f)⟩⟩⟩;intro v y j u d;have z:0<l.length:=by have:=(List.getElem?_eq_some_iff.1 f).1;omega
  obtain ⟨b,F,c,k,A⟩:=(p v y).Wt z;simp at k;obtain ⟨⟨rfl,rfl⟩,rfl⟩:=k;have B:j<fb.sz α:=by
   have:=(List.getElem?_eq_some_iff.1 d).1;simp at this;omega
  rw [List.getElem?_take_of_lt B,List.getElem?_drop] at d;have:=A _ u d;rw [← Nat.add_assoc] at this;exact this
def Ao {α:Type}(B:Nat) (l:List α) (xs:List α):Option (List α):=if l.length+xs.length≤B then some (l++xs) else none
theorem PB {α:Type}{B:Nat}{a b c:List α}(h:Ao B a b=some c):c=a++b∧a.length+b.length≤B:=by
 unfold Ao at h;split at h
 ·rename_i k;exact ⟨(Option.some.inj h).symm,k⟩
 ·cases h
theorem ua.Ao {α:Type}[fb α]{B:Nat}{cells news:List Value}{l xs ab:List α}(h:ua μ cells l) (k:ua μ news xs) (g:Ao B l xs=some ab):ua μ (cells++news) ab:=by
 obtain ⟨rfl,-⟩:=PB g;exact ua.cat k h
end
section
variable {P:Program}{Q:Exit→Act→World→Prop}{K:List Value→List Deferred→World→Prop}{fr db:List Value}{ds:List Deferred}{w w':World}
variable {dst:Option Tmp}{ty:TypeId}{pos:String}{after:Array Edge}{g:Option (Nat×Bool)}{T:TypeId}{ag:Bool}{ae:List Value}{rs ld:List yc}{μ:M}{J:World}
theorem QB {α:Type}[fb α]{B:Nat}{t:TypeId}{s x:Operand}{v:Value}{bytes k b e c:Nat}{cells news:List Value}{l ys ab:List α}(m:P.underlying t=some (.slice T)) (n:Dd P T ag ae (fb.sz α) bytes) (o:ae.length=fb.sz α)
  (p:cc fr s v) (q:cc fr x (.slice (some ⟨b,0,none⟩) e c)) (f:ra μ J w rs) (za:Pc rs k (.row v T (fb.sz α) l.length cells)) (r:tj w b 0 news) (i:ua μ news ys) (hm:ys.length=e) (y:Ao B l ys=some ab) (z:B*bytes≤140737488355328∧B≤9223372036854775807)
  (h:∀ d w' ld,Xc rs k (.row d T (fb.sz α) ab.length (cells++news)) ld→ra μ J w' ld→yh fr dst d fun db=>K db ds w') :
  lf P (Oper.mk dst (.call { callee:=.builtin .append,args:=#[s,x],argTypes:=#[t,t] }) ty pos after g) fr ds w K Q:=by
 obtain ⟨rfl,A⟩:=PB y;subst hm;have C:(l.length+ys.length)*bytes≤140737488355328:=Nat.le_trans (Nat.mul_le_mul_right _ A) z.1;obtain ⟨d,w',D,E,F,G⟩:=Bz (P:=P) (ty:=ty) m n o fb.pos (f.get za) (a:=⟨b,0,none⟩) (c:=c) i.len (fun j u hu=>by rw [Dj];exact r j u hu) (fun u hu=>uw (List.all_eq_true.1 i.Ui u hu)) (by unfold maxLen;omega) C;obtain ⟨db,Ba⟩:=Ji fr dst d;have hlen:(l++ys).length=l.length+ys.length:=List.length_append;rw [hlen] at h;refine mi (v:=d) (w':=w') ?_ Ba (h d w' _ rfl (f.row za rfl E F G) db Ba);have ma:=p ds;have H:=q ds;simp [execOp,resolve,invoke,builtin,ma,H,D]
end
end Go.nd
namespace Go.nd
open Go.pc Go.RowKit
def pn (N:List (List UInt8×Int)) (y:Int):Option (Option (List UInt8×Int)):=
 if (N.filter fun e=>decide (e.2=y)).length≤1 then some (N.filter fun e=>decide (e.2=y)).head? else none
section
variable {P:Program}{Q:Exit→Act→World→Prop}{K:List Value→List Deferred→World→Prop}{fr db:List Value}{ds:List Deferred}{w:World}
variable {dst:Option Tmp}{ty:TypeId}{pos:String}{after:Array Edge}{g:Option (Nat×Bool)}
variable {J:World}{rs ld:List yc}{μ xa:M}
variable {T:TypeId}
theorem FF {x:Operand}{Bf aa:TypeId}{m c:Nat}{es:List MapEntry}(a:P.underlying T=some (.map Bf aa)) (d:cc fr x (.map (some m))) (e:ra μ J w rs) (f:w.heap[m]?=some (.map ⟨es⟩ c))
  (h:∀ b w',w.heap.size≤b→ra μ J w' (.Ep b m c [] c::rs)→yh fr dst (.pointer (some ⟨b,0,none⟩)) fun db=>K db ds w'):lf P (Oper.mk dst (.range T x) ty pos after g) fr ds w K Q:=by
 obtain ⟨db,Ba⟩:=Ji fr dst (.pointer (some ⟨w.heap.size,0,none⟩));refine mi (v:=.pointer (some ⟨w.heap.size,0,none⟩)) (w':=w.alloc (.mapIter (some m) c #[] c)) ?_ Ba (h _ _ (Nat.le_refl _) (e.alloc rfl (heap_alloc_new w _)) db Ba);simp [execOp,d ds,Instr.range,run_underlying a,getObj,Sem.run,f,Result.andThen]
def leftOf (es:List MapEntry) (seen:List Nat):List MapEntry:=es.filter fun e=>!seen.contains e.born
theorem mem_left {es:List MapEntry}{seen:List Nat}{e:MapEntry}:e ∈ leftOf es seen ↔ e ∈ es∧e.born ∉ seen:=by
 simp [leftOf,List.mem_filter]
theorem GF {es:List MapEntry}{seen:List Nat}{c:Nat}(a:∀ e ∈ es,e.born<c) :
  ((⟨es⟩:Array MapEntry).filter fun e=>!(⟨seen⟩:Array Nat).contains e.born)=⟨leftOf es seen⟩ ∧
  ((⟨leftOf es seen⟩:Array MapEntry).filter fun e=>decide (e.born<c))=⟨leftOf es seen⟩∧((⟨leftOf es seen⟩:Array MapEntry).filter fun e=>decide (e.born ≥ c))=#[]:=by
 have b:(leftOf es seen).filter (fun e=>decide (e.born<c))=leftOf es seen:=List.filter_eq_self.2 fun e he=>by simpa using a e (mem_left.1 he).1
 have d:(leftOf es seen).filter (fun e=>decide (e.born ≥ c))=[]:=List.filter_eq_nil_iff.2 fun e he=>by have:=a e (mem_left.1 he).1;simp;omega
 refine ⟨?_,?_,?_⟩
 ·rw [List.filter_toArray];simp [leftOf]
 ·rw [List.filter_toArray,b]
 ·rw [List.filter_toArray,d]
theorem tG {es:List MapEntry}{seen:List Nat}{c:Nat}(a:∀ e ∈ es,e.born<c):(!(⟨seen⟩:Array Nat).isEmpty && !(⟨es⟩:Array MapEntry).isEmpty && (⟨es⟩:Array MapEntry).all (fun e=>decide (e.born ≥ c)))=false:=by
 cases es with
 | nil=>simp
 | cons e es =>
  have:=a e (List.mem_cons_self ..);have h:¬ c≤e.born:=by omega
  simp only [List.all_toArray,List.all_cons];simp [h]
theorem uG {x:Operand}{b m c G:Nat}{es:List MapEntry}{seen:List Nat}{N:List (List UInt8×Int)}{Ah:M}(q:cc fr x (.pointer (some ⟨b,0,none⟩))) (r:ra μ J w rs) (s:Pc rs G (.Ep b m c seen c)) (u:w.heap[m]?=some (.map ⟨es⟩ c)) (v:mf Ah es c N)
  (H:∀ (k:List UInt8) (y:Int) (n:Nat),⟨S k,.int .i64 y,n⟩ ∈ leftOf es seen→∀ w' ld,Xc rs G (.Ep b m c (seen++[n]) c) ld→ra μ J w' ld→yh fr dst (.tuple ⟨[.bool true,S k,.int .i64 y]⟩) fun db=>K db ds w')
  (O:leftOf es seen=[]→yh fr dst (.tuple ⟨[.bool false]⟩) fun db=>K db ds w) :
  lf P (Oper.mk dst (.next x false) ty pos after g) fr ds w K Q:=by
 have f:w.heap[b]?=some (.mapIter (some m) c ⟨seen⟩ c):=r.get s;have L:b<w.heap.size:=(Array.getElem?_eq_some_iff.1 f).1;obtain ⟨j,l,o⟩:=GF (seen:=seen) v.lt;have z:=tG (seen:=seen) v.lt;have key:∀ e ∈ leftOf es seen,∃ (k:List UInt8) (y:Int),e=⟨S k,.int .i64 y,e.born⟩:=by
  intro e he;have he:=(mem_left.1 he).1;have:∀ (es:List MapEntry) (N:List (List UInt8×Int)),Sf Ah es N→∀ e ∈ es,∃ (k:List UInt8) (y:Int),e=⟨S k,.int .i64 y,e.born⟩:=by
   intro es
   induction es with
   | nil=>intro N _ e he; cases he
   | cons a es R =>
    intro N h e he;rw [Sf] at h;obtain ⟨k,x,t,A,B,C,T⟩:=h;rcases List.mem_cons.1 he with rfl | he
    ·obtain ⟨a,b,n⟩:=e;have B:a=S k:=B;have C:b=.int .i64 x:=C;subst B;subst C;exact ⟨k,x,rfl⟩
    ·exact R t T e he
  exact this es N v.yf e he
 cases d:leftOf es seen with
 | nil =>
  obtain ⟨db,Ba⟩:=Ji fr dst (.tuple ⟨[.bool false]⟩);refine mi (w':=w) ?_ Ba (O d db Ba);rw [d] at j l o;simp only [execOp,q ds,Instr.next,getObj,Sem.run_bind,Sem.run,f,Result.andThen,u,z,Bool.false_eq_true,if_false,j,l,o];simp [Sem.run,Result.andThen,choose,Question.forced]
 | cons bb t0 =>
  rw [d] at j l o;by_cases A:t0=[]
  ·subst A;obtain ⟨k,y,e⟩:=key bb (by rw [d];exact List.mem_singleton.2 rfl);obtain ⟨D,E⟩:=oB w b (.mapIter (some m) c ⟨seen++[bb.born]⟩ c) L;obtain ⟨db,p⟩:=Ji fr dst (.tuple ⟨[.bool true,S k,.int .i64 y]⟩);refine mi (w':={ w with heap:=w.heap.setIfInBounds b (.mapIter (some m) c ⟨seen++[bb.born]⟩ c) }) ?_ p (H k y bb.born (by rw [d,← e];exact List.mem_singleton.2 rfl) _ _ rfl (r.put (b:=b) s rfl rfl rfl E D) db p);rw [e] at j l o;simp only [execOp,q ds,Instr.next,getObj,Sem.run_bind,Sem.run,f,Result.andThen,u,z,Bool.false_eq_true,if_false,j,l,o];simp [Sem.run,Result.andThen,choose,Question.forced,setObj,f]
  ·have hlen:¬ (bb::t0).length≤1:=by
    cases t0 with
    | nil=>exact absurd rfl A
    | cons _ _=>simp
   let i:=(w.tape w.drawn (.mapNext (bb::t0).length)) % (bb::t0).length
   have F:i<(bb::t0).length:=Nat.mod_lt _ (by simp);obtain ⟨k,y,e⟩:=key ((bb::t0)[i]) (by rw [d];exact List.getElem_mem F);obtain ⟨D,E⟩:=oB w.drew b (.mapIter (some m) c ⟨seen++[((bb::t0)[i]).born]⟩ c) L;obtain ⟨db,p⟩:=Ji fr dst (.tuple ⟨[.bool true,S k,.int .i64 y]⟩);refine mi (w':={ w.drew with heap:=w.drew.heap.setIfInBounds b (.mapIter (some m) c ⟨seen++[((bb::t0)[i]).born]⟩ c) }) ?_ p (H k y ((bb::t0)[i]).born (by rw [d,← e];exact List.getElem_mem F) _ _ rfl ((r.drew (w':=w.drew) rfl rfl rfl rfl).put (b:=b) s rfl rfl rfl E D) db p);have V:w.drew.heap[b]?=some (.mapIter (some m) c ⟨seen⟩ c):=f;have W:((if (⟨bb::t0⟩:Array MapEntry).isEmpty=true then #[none] else #[])++((⟨bb::t0⟩:Array MapEntry)++#[]).map some)=⟨(bb::t0).map some⟩:=by simp
   simp only [execOp,q ds,Instr.next,getObj,Sem.run_bind,Sem.run,f,Result.andThen,u,z,Bool.false_eq_true,if_false,j,l,o,W];have X:(⟨(bb::t0).map some⟩:Array (Option MapEntry)).size=(bb::t0).length:=by simp
   have Y:(Question.mapNext (bb::t0).length).forced=false:=decide_eq_false hlen;have Z:(⟨(bb::t0).map some⟩:Array (Option MapEntry))[(Question.mapNext (bb::t0).length).cut (w.tape w.drawn (.mapNext (bb::t0).length))]?=some (some ((bb::t0)[i])):=by
    show (⟨(bb::t0).map some⟩:Array (Option MapEntry))[i]?=_;rw [List.getElem?_toArray,List.getElem?_map,List.getElem?_eq_getElem F];rfl
   simp only [X,choose,Sem.run,Y,Z,Bool.false_eq_true,if_false];generalize (bb::t0)[i]=ma at *;rw [e];simp [Sem.run,Result.andThen,setObj,V]
theorem find_born {n:Nat}:∀ {es:List MapEntry}{e:MapEntry},(es.Pairwise fun a b=>a.born<b.born)→e ∈ es→e.born=n→es.find? (fun a=>a.born == n)=some e
 | a::es,e,h,he,c=>by
  rw [List.find?_cons];rcases List.mem_cons.1 he with rfl | d
  ·simp [c]
  ·have f:=(List.pairwise_cons.1 h).1 e d;have:¬ a.born=n:=by omega
   simp only [beq_eq_false_iff_ne.2 this];exact find_born (List.pairwise_cons.1 h).2 d c
theorem HF {x:Operand}{b m c d n:Nat}{es:List MapEntry}{seen:List Nat}{N:List (List UInt8×Int)}{Ah:M}{k:List UInt8}{y:Int}(e:cc fr x (.pointer (some ⟨b,0,none⟩))) (f:ra μ J w rs) (i:Pc rs d (.Ep b m c (seen++[n]) c)) (j:w.heap[m]?=some (.map ⟨es⟩ c)) (l:mf Ah es c N){o:List Nat}(he:⟨S k,.int .i64 y,n⟩ ∈ leftOf es o)
  (Ba:Hg fr dst (.tuple ⟨[S k,.int .i64 y]⟩) db) (h:K db ds w) :
  lf P (Oper.mk dst (.entry x) ty pos after g) fr ds w K Q:=by
 have p:w.heap[b]?=some (.mapIter (some m) c ⟨seen++[n]⟩ c):=f.get i;have q:(⟨seen++[n]⟩:Array Nat).back?=some n:=by simp [Array.back?]
 have r:(⟨es⟩:Array MapEntry).find? (fun a=>a.born == n)=some ⟨S k,.int .i64 y,n⟩:=by rw [List.find?_toArray];exact find_born l.inc (mem_left.1 he).1 rfl
 refine mi (w':=w) ?_ Ba h;simp only [execOp,e ds,Instr.entry,getObj,Sem.run_bind,Sem.run,p,Result.andThen,j,q,r];simp [Sem.run]
def Wl (es:List MapEntry) (seen:List Nat) (y:Int) (n:Nat):Prop:=(leftOf es seen).length=n∧∀ e ∈ es,e.born ∈ seen→e.val≠.int .i64 y
theorem Wl.start {es:List MapEntry}{y:Int}:Wl es [] y es.length:=⟨by rw [leftOf,List.filter_eq_self.2 (by simp)],by simp⟩
theorem Wl.step {es:List MapEntry}{seen:List Nat}{y x:Int}{n m c:Nat}{k:List UInt8}{N:List (List UInt8×Int)}{Ah:M}(h:Wl es seen y n) (d:mf Ah es c N) (he:⟨S k,.int .i64 x,m⟩ ∈ leftOf es seen) (i:¬ x=y):∃ f,f<n∧Wl es (seen++[m]) y f:=by
 obtain ⟨j,l⟩:=h;refine ⟨_,?_,rfl,fun e hm b=>?_⟩
 ·rw [← j];have e:leftOf es (seen++[m])=(leftOf es seen).filter fun a=>decide (a.born≠m):=by
   rw [leftOf,leftOf,List.filter_filter];apply List.filter_congr;intro a _;by_cases q:a.born=m<;>simp [q]
  rw [e];refine Nat.lt_of_le_of_ne (List.length_filter_le ..) fun o=>?_;have:=(List.length_filter_eq_length_iff.1 o) _ he;simp at this
 ·rcases List.mem_append.1 b with b | b
  ·exact l e hm b
  ·have b:=List.mem_singleton.1 b;have ma:=find_born d.inc hm b;have g:=find_born d.inc (mem_left.1 he).1 rfl;rw [ma] at g;rw [Option.some.inj g];intro q;cases q;exact i rfl
theorem Sf.mem_of {Ah:M}{k:List UInt8}{y:Int}{n:Nat}:∀ {es:List MapEntry}{N:List (List UInt8×Int)},Sf Ah es N→(⟨S k,.int .i64 y,n⟩:MapEntry) ∈ es→(k,y) ∈ N
 | a::es,N,h,he=>by
  rw [Sf] at h;obtain ⟨d,x,t,rfl,b,c,e⟩:=h;rcases List.mem_cons.1 he with rfl | he
  ·have b:S k=S d:=b;have c:Value.int .i64 y=.int .i64 x:=c;cases c;cases b;exact List.mem_cons_self ..
  ·exact List.mem_cons_of_mem _ (Sf.mem_of e he)
theorem Sf.rC {Ah:M}{k:List UInt8}{y:Int}:∀ {es:List MapEntry}{N:List (List UInt8×Int)},Sf Ah es N→(k,y) ∈ N→∃ e ∈ es,e.val=.int .i64 y
 | [],N,h,he=>by rw [Sf] at h; subst h; cases he
 | a::es,N,h,he=>by
  rw [Sf] at h;obtain ⟨g,x,t,rfl,i,b,c⟩:=h;rcases List.mem_cons.1 he with e | he
  ·cases e;exact ⟨a,List.mem_cons_self ..,b⟩
  ·obtain ⟨e,d,f⟩:=Sf.rC c he;exact ⟨e,List.mem_cons_of_mem _ d,f⟩
theorem Wl.hit {es:List MapEntry}{seen:List Nat}{y x:Int}{m c:Nat}{k:List UInt8}{N:List (List UInt8×Int)}{Ah:M}{o:Option (List UInt8×Int)}(f:mf Ah es c N) (he:⟨S k,.int .i64 x,m⟩ ∈ leftOf es seen) (h:x=y) (g:pn N y=some o):o.isSome=true∧k=(o.getD ([],0)).1:=by
 subst h;have hm:=Sf.mem_of f.yf (mem_left.1 he).1;rw [pn] at g;split at g
 ·rename_i za;obtain rfl:=Option.some.inj g;have i:(k,x) ∈ N.filter fun e=>decide (e.2=x):=List.mem_filter.2 ⟨hm,by simp⟩;have aux:∀ F:List (List UInt8×Int),F.length≤1→(k,x) ∈ F→F.head?=some (k,x):=by
   intro F b d
   match F,b,d with
   | [a],_,d=>rw [List.mem_singleton.1 d]; rfl
   | _::_::_,b,_=>simp at b
  rw [aux _ za i];exact ⟨rfl,rfl⟩
 ·cases g
theorem Wl.fin {es:List MapEntry}{seen:List Nat}{y:Int}{n c:Nat}{N:List (List UInt8×Int)}{Ah:M}{o:Option (List UInt8×Int)}(h:Wl es seen y n) (i:mf Ah es c N) (za:leftOf es seen=[]) (g:pn N y=some o):¬ o.isSome=true:=by
 have he:N.filter (fun e=>decide (e.2=y))=[]:=by
  rw [List.filter_eq_nil_iff];intro a j b;obtain ⟨k,x⟩:=a;have b:x=y:=by simpa using b
  subst b;obtain ⟨e,d,l⟩:=Sf.rC i.yf j;by_cases f:e.born ∈ seen
  ·exact h.2 e d f l
  ·have:e ∈ leftOf es seen:=mem_left.2 ⟨d,f⟩;rw [za] at this;cases this
 rw [pn,he] at g;obtain rfl:=Option.some.inj g;simp
abbrev cJ (_:M) (es:List MapEntry) (seen:List Nat) (y:Int) (n:Nat):Prop:=Wl es seen y n
end
end Go.nd
namespace Go.nd
open Go.pc Go.RowKit
section
variable {P:Program}{w:World}{T:TypeId}{ae:List Value}{n:Nat}
end
section
variable {P:Program}{Q:Exit→Act→World→Prop}{K:List Value→List Deferred→World→Prop}{fr db:List Value}{ds:List Deferred}{w:World}
variable {dst:Option Tmp}{ty:TypeId}{pos:String}{after:Array Edge}{g:Option (Nat×Bool)}
variable {J:World}{rs ld:List yc}{μ xa:M}
variable {T:TypeId}
end
section
variable {P:Program}(w:World)
end
end Go.nd
namespace Go.nd
abbrev wd (l:List UInt8) (p:Nat):Nat:=(Utf8.decode ⟨⟨l⟩⟩ p).2
end Go.nd
namespace Go.nd
open Go.pc Go.RowKit
section
variable {P:Program}{Q Q':Exit→Act→World→Prop}{fr db:List Value}{ds:List Deferred}{w:World}{ops:Array Oper}{y:Code}{id:Nat}{l:List Oper}
theorem ja (h:ef P y Q' fr ds w):Rf P ops (Exit.then (zq P y Q') Q) [] fr ds w:=Fa (pa h)
theorem ea (h:Rf P l.toArray (Exit.then (zq P y Q) Q) l fr ds w):ef P (.seq (.region id l.toArray false) y) Q fr ds w:=Sa (kb h)
theorem xb (h:Rf P l.toArray (Exit.then (zq P y Q') Q') l fr ds w):Rf P ops (Exit.then (zq P (.seq (.region id l.toArray false) y) Q') Q) [] fr ds w:=Fa (pa (Sa (kb h)))
theorem mb {x:Code}(h:ef P x (Exit.then (zq P y Q') Q') fr ds w):Rf P ops (Exit.then (zq P (.seq x y) Q') Q) [] fr ds w:=Fa (pa (Sa h))
variable {R lg:List Nat}{dst:Tmp}{op:Op}{ty:TypeId}{pos:String}{after:Array Edge}{v:Value}{Xb:List Mon}{j d:Nat}{b Te:Bool}
theorem Be (i:Nat) (S:List Nat) (he:(decide R.Nodup && enabled ops R i && waits ops R S i && Jl ops S R i && S.contains i,R.erase i,ops[i]?)=(true,lg,some ⟨some dst,op,ty,pos,after,none⟩)) (a:hg P ⟨some dst,op,ty,pos,after,none⟩ fr v) (b:Xc fr dst v db) (h:nf P ops Q Xb lg db ds w) (c:fl Q:=by first | exact Ej fun _ _ _ h=>h | exact Ej fun _ _ _ h=>h.2 | exact Ej fun _ _ _ h=>h.2.2):nf P ops Q Xb R fr ds w:=aI S c (congrArg (·.1) he) (congrArg (·.2.1) he) (congrArg (·.2.2) he) a b h
theorem Rl (i:Nat) (S:List Nat) (he:(decide R.Nodup && enabled ops R i && waits ops R S i && Jl ops S R i && S.contains i,R.erase i,ops[i]?)=(true,lg,some ⟨some dst,op,ty,pos,after,some (j,b)⟩)) (a:(ops[j]?).bind (·.dst)=some d) (za:Pc fr d (.bool b)) (c:hg P ⟨some dst,op,ty,pos,after,some (j,b)⟩ fr v) (e:Xc fr dst v db) (h:nf P ops Q Xb lg db ds w) (f:fl Q:=by first | exact Ej fun _ _ _ h=>h | exact Ej fun _ _ _ h=>h.2 | exact Ej fun _ _ _ h=>h.2.2):nf P ops Q Xb R fr ds w:=VG S f (congrArg (·.1) he) (congrArg (·.2.1) he) (congrArg (·.2.2) he) a za c e h
theorem lj (i:Nat) (S:List Nat) (he:(decide R.Nodup && enabled ops R i && waits ops R S i && Jl ops S R i && S.contains i,R.erase i,ops[i]?)=(true,lg,some ⟨some dst,op,ty,pos,after,some (j,b)⟩)) (a:(ops[j]?).bind (·.dst)=some d) (za:Pc fr d (.bool Te)) (c:(Te == b)=false) (e:Xc fr dst undef db) (h:nf P ops Q Xb lg db ds w) (f:fl Q:=by first | exact Ej fun _ _ _ h=>h | exact Ej fun _ _ _ h=>h.2 | exact Ej fun _ _ _ h=>h.2.2):nf P ops Q Xb R fr ds w:=WG S f (congrArg (·.1) he) (congrArg (·.2.1) he) (congrArg (·.2.2) he) a za c e h
theorem Bb (i:Nat) (S:List Nat) (he:(decide R.Nodup && enabled ops R i && waits ops R S i && Jl ops S R i && S.contains i,R.erase i,ops[i]?)=(true,lg,some ⟨some dst,op,ty,pos,after,none⟩)) (a:Bn P ⟨some dst,op,ty,pos,after,none⟩ fr w v) (b:Xc fr dst v db) (h:nf P ops Q ((S,fun w'=>Bn P ⟨some dst,op,ty,pos,after,none⟩ fr w' v)::Xb) lg db ds w) (c:fl Q:=by first | exact Ej fun _ _ _ h=>h | exact Ej fun _ _ _ h=>h.2 | exact Ej fun _ _ _ h=>h.2.2):nf P ops Q Xb R fr ds w:=ZH S c (congrArg (·.1) he) (congrArg (·.2.1) he) (congrArg (·.2.2) he) a b h
theorem jv (i:Nat) (S:List Nat) (he:(decide R.Nodup && enabled ops R i && waits ops R S i && Jl ops S R i && S.contains i,R.erase i,ops[i]?)=(true,lg,some ⟨some dst,op,ty,pos,after,some (j,b)⟩)) (a:(ops[j]?).bind (·.dst)=some d) (za:Pc fr d (.bool b)) (c:Bn P ⟨some dst,op,ty,pos,after,some (j,b)⟩ fr w v) (e:Xc fr dst v db) (h:nf P ops Q ((S,fun w'=>Bn P ⟨some dst,op,ty,pos,after,some (j,b)⟩ fr w' v)::Xb) lg db ds w) (f:fl Q:=by first | exact Ej fun _ _ _ h=>h | exact Ej fun _ _ _ h=>h.2 | exact Ej fun _ _ _ h=>h.2.2):nf P ops Q Xb R fr ds w:=UG S f (congrArg (·.1) he) (congrArg (·.2.1) he) (congrArg (·.2.2) he) a za c e h
end
class jl (l:List Value) (n:Nat) (v:outParam Value):Prop where out:Pc l n v
instance {v:Value}{l:List Value}:jl (v::l) 0 v:=⟨rfl⟩
instance {a v:Value}{l:List Value}{n:Nat}[h:jl l n v]:jl (a::l) (n+1) v:=⟨h.out⟩
instance (priority:=2000){c0 a c2 c3 c4 c5 Sd Tf ee c9 v:Value}{l:List Value}{n:Nat}[h:jl l n v]:jl (c0::a::c2::c3::c4::c5::Sd::Tf::ee::c9::l) (n+10) v:=⟨h.out⟩
class Oi (l:List Value) (n:Nat) (v:Value) (ab:outParam (List Value)):Prop where out:Xc l n v ab
instance {a v:Value}{l:List Value}:Oi (a::l) 0 v (v::l):=⟨rfl⟩
instance {a v:Value}{l ab:List Value}{n:Nat}[h:Oi l n v ab]:Oi (a::l) (n+1) v (a::ab):=⟨congrArg (a::·) h.out⟩
instance (priority:=2000){c0 a c2 c3 c4 c5 Sd Tf ee c9 v:Value}{l ab:List Value}{n:Nat}[h:Oi l n v ab]:Oi (c0::a::c2::c3::c4::c5::Sd::Tf::ee::c9::l) (n+10) v (c0::a::c2::c3::c4::c5::Sd::Tf::ee::c9::ab):=⟨congrArg (c0::a::c2::c3::c4::c5::Sd::Tf::ee::c9::·) h.out⟩
class wh (fr:List Value) (x:Operand) (v:outParam Value):Prop where out:cc fr x v
instance {fr:List Value}{n:Nat}{v:Value}[h:jl fr n v]:wh fr (.tmp n) v:=⟨aa h.out⟩
instance {fr:List Value}{v:Value}:wh fr (.const v) v:=⟨Ma⟩
class ck (P:Program) (op:Op) (fr:List Value) (v:outParam Value):Prop where out:∀ dst ty pos after g,hg P (Oper.mk dst op ty pos after g) fr v
section
variable {P:Program}{fr:List Value}{x y c:Operand}{v:Value}{t Rd:TypeId}{k:IntKind}{a b:Int}
instance [h:wh fr x v]:ck P (.move x) fr v:=⟨fun _ _ _ _ _=>Kt h.out⟩
instance [h:wh fr x v]:ck P (.assign x) fr v:=⟨fun _ _ _ _ _=>DF h.out⟩
instance {a:Addr}[h:wh fr x (.pointer (some a))]:ck P (.nilCheck x) fr (.pointer (some a)):=⟨fun _ _ _ _ _=>IB h.out⟩
instance [c:wh fr x (.int k a)] [d:wh fr y (.int k b)]:ck P (.binOp .eql t x y Rd) fr (.bool (decide (a=b))):=⟨fun _ _ _ _ _=>CC c.out d.out⟩
instance [c:wh fr x (.int k a)] [d:wh fr y (.int k b)]:ck P (.binOp .neq t x y Rd) fr (.bool (decide (a≠b))):=⟨fun _ _ _ _ _=>QH c.out d.out⟩
instance [c:wh fr x (.int k a)] [d:wh fr y (.int k b)]:ck P (.binOp .lss t x y Rd) fr (.bool (decide (a<b))):=⟨fun _ _ _ _ _=>MH c.out d.out⟩
instance [c:wh fr x (.int k a)] [d:wh fr y (.int k b)]:ck P (.binOp .leq t x y Rd) fr (.bool (decide (a≤b))):=⟨fun _ _ _ _ _=>NH c.out d.out⟩
instance [c:wh fr x (.int k a)] [d:wh fr y (.int k b)]:ck P (.binOp .gtr t x y Rd) fr (.bool (decide (b<a))):=⟨fun _ _ _ _ _=>OH c.out d.out⟩
instance [c:wh fr x (.int k a)] [d:wh fr y (.int k b)]:ck P (.binOp .geq t x y Rd) fr (.bool (decide (b≤a))):=⟨fun _ _ _ _ _=>PH c.out d.out⟩
end
section
variable {P:Program}{Q:Exit→Act→World→Prop}{fr db:List Value}{ds:List Deferred}{w:World}{ops:Array Oper}{rest:List Oper}{d:Tmp}{op:Op}{ty:TypeId}{pos:String}{after:Array Edge}{v:Value}
theorem st [hu:ck P op fr v] [a:Oi fr d v db] (h:Rf P ops Q rest db ds w):Rf P ops Q (⟨some d,op,ty,pos,after,none⟩::rest) fr ds w:=wl (Ea (hu.out _ _ _ _ _) (ka a.out) h)
end
class ix (fr:List Value) (xs:List Operand) (vs:outParam (List Value)):Prop where out:xn fr xs vs
instance {fr:List Value}:ix fr [] []:=⟨bb⟩
instance {fr:List Value}{x:Operand}{v:Value}{xs:List Operand}{vs:List Value}[h:wh fr x v] [k:ix fr xs vs]:ix fr (x::xs) (v::vs):=⟨ma h.out k.out⟩
section
variable {P:Program}{fr:List Value}{x y c:Operand}{v:Value}{t Rd T:TypeId}{b:Nat}{o off i:Nat}{vs:List Value}{q:Bool}
instance [a:Oe P T i off] [h:wh fr x (.pointer (some ⟨b,o,none⟩))]:ck P (.fieldAddr T x i) fr (.pointer (some ⟨b,o+off,none⟩)):=⟨fun _ _ _ _ _=>fx a h.out rfl⟩
instance [a:wh fr c (.bool true)] [h:wh fr x v]:ck P (.pick c x y) fr v:=⟨fun _ _ _ _ _=>kG a.out h.out⟩
instance [a:wh fr c (.bool false)] [h:wh fr y v]:ck P (.pick c x y) fr v:=⟨fun _ _ _ _ _=>lG a.out h.out⟩
instance [h:wh fr x (.bool q)]:ck P (.unOp .not t x) fr (.bool (!q)):=⟨fun _ _ _ _ _=>DC h.out⟩
instance [h:wh fr x (.tuple ⟨vs⟩)] [k:jl vs i v]:ck P (.extract x i) fr v:=⟨fun _ _ _ _ _=>OG h.out k.out⟩
end
section
variable {P:Program}{Q:Exit→Act→World→Prop}{fr db:List Value}{ds:List Deferred}{w:World}{ops:Array Oper}{rest:List Oper}{d:Tmp}{op:Op}{ty:TypeId}{pos:String}{after:Array Edge}{v:Value}{j e:Nat}{b Te:Bool}
theorem wa [hu:ck P op fr v] [a:Oi fr d v db] (c:(ops[j]?).bind (·.dst)=some e) [za:jl fr e (.bool b)] (h:Rf P ops Q rest db ds w):Rf P ops Q (⟨some d,op,ty,pos,after,some (j,b)⟩::rest) fr ds w:=vb c za.out (Ea (hu.out _ _ _ _ _) (ka a.out) h)
theorem ha [a:Oi fr d undef db] (c:(ops[j]?).bind (·.dst)=some e) [za:jl fr e (.bool Te)] (f:(Te == b)=false) (h:Rf P ops Q rest db ds w):Rf P ops Q (⟨some d,op,ty,pos,after,some (j,b)⟩::rest) fr ds w:=wn c za.out f (ka a.out) h
theorem Ha {T:TypeId}{ae:List Value}{n m o q:Nat}{x:Operand}[a:Dd P T false ae n m] (b:w.cell? ⟨q,o,none⟩=some v) [c:wh fr x (.pointer (some ⟨q,o,none⟩))] [e:Oi fr d v db] (h:Rf P ops Q rest db ds w):Rf P ops Q (⟨some d,.load T x,ty,pos,after,none⟩::rest) fr ds w:=wl (Kc a c.out b (ka e.out) h)
theorem Vc {T:TypeId}{ae cs:List Value}{n m o q:Nat}{x:Operand}[a:Dd P T true ae n m] (b:tj w q o cs) (c:cs.length=n) [e:wh fr x (.pointer (some ⟨q,o,none⟩))] [f:Oi fr d (.agg ⟨cs⟩) db] (h:Rf P ops Q rest db ds w):Rf P ops Q (⟨some d,.load T x,ty,pos,after,none⟩::rest) fr ds w:=wl (Fl a e.out b c (ka f.out) h)
theorem ub {dst:Option Tmp}{xs:List Operand}{tys:Array TypeId}{k:FuncId}{vs:List Value}{R:Value→World→Prop}[a:kd P k] [b:ix fr xs vs] (c:nc P k vs w R) (h:∀ v w',R v w'→yh fr dst v fun db=>Rf P ops Q rest db ds w') :
  Rf P ops Q (⟨dst,.call { callee:=.value (.func k),args:=⟨xs⟩,argTypes:=tys },ty,pos,after,none⟩::rest) fr ds w:=wl (Ic a Dc b.out c h)
theorem Zd {id:Nat}{l:List Oper}{μ:M}{J:World}{rs:List yc}(a:ra μ J w rs) (h:∀ w',ra μ J w' rs→yz P l.toArray Q (List.range l.length) fr ds w') (hm:P.follows .mixedOrders=true:=by kernel_rfl) (b:(List.range l.toArray.size).all (fun i=>(Ol l.toArray i).all fun j=>decide (j<i))=true:=by rfl):ef P (.region id l.toArray true) Q fr ds w :=
 WH hm b fun w' c d e f=>h w' (a.drew c d e f)
theorem la {v:Value}{K:List Value→Prop}[a:Oi fr d v db] (h:K db):yh fr (some d) v K:=pu (ka a.out) h
theorem oa {Xb:List Mon}{R lg:List Nat}(i:Nat) (S:List Nat) (he:(decide R.Nodup && enabled ops R i && waits ops R S i && Jl ops S R i && S.contains i,R.erase i,ops[i]?)=(true,lg,some ⟨some d,op,ty,pos,after,none⟩)) [a:ck P op fr v] [b:Oi fr d v db] (h:nf P ops Q Xb lg db ds w) (c:fl Q:=by first | exact Ej fun _ _ _ h=>h | exact Ej fun _ _ _ h=>h.2 | exact Ej fun _ _ _ h=>h.2.2):nf P ops Q Xb R fr ds w :=
 Be i S he (a.out _ _ _ _ _) b.out h c
end
section
variable {rs ld:List yc}{Da a2 a3 a4 a5 Yb Eb ed a9 Zc fe a12 r:yc}
theorem Ac:oj (Da::r::rs) 1 (r::Da::rs):=.s (oj.z)
theorem me:oj (Da::a2::r::rs) 2 (r::Da::a2::rs):=.s (.s (oj.z))
theorem La:oj (Da::a2::a3::r::rs) 3 (r::Da::a2::a3::rs):=.s (.s (.s (oj.z)))
theorem Gb:oj (Da::a2::a3::a4::r::rs) 4 (r::Da::a2::a3::a4::rs):=.s (.s (.s (.s (oj.z))))
theorem Vd:oj (Da::a2::a3::a4::a5::r::rs) 5 (r::Da::a2::a3::a4::a5::rs):=.s (.s (.s (.s (.s (oj.z)))))
theorem se:oj (Da::a2::a3::a4::a5::Yb::r::rs) 6 (r::Da::a2::a3::a4::a5::Yb::rs):=.s (.s (.s (.s (.s (.s (oj.z))))))
theorem Ok:oj (Da::a2::a3::a4::a5::Yb::Eb::r::rs) 7 (r::Da::a2::a3::a4::a5::Yb::Eb::rs):=.s (.s (.s (.s (.s (.s (.s (oj.z)))))))
end
section
variable {P:Program}{Q:Exit→Act→World→Prop}{fr Dh Eh:List Value}{ds:List Deferred}{w:World}{ops:Array Oper}{l:List Oper}{R:List Nat}{Xb:List Mon}{c:Operand}{x y:Code}{p:Prop}[Decidable p]{b:Bool}{d:Nat}{α:Type}{A B:Option α}{r:α}
theorem Ya (h:(if p then A else B)=some r) [a:wh fr c (.bool (decide p))] (b:p→A=some r→ef P x Q fr ds w) (d:¬ p→B=some r→ef P y Q fr ds w):ef P (.cond c x y) Q fr ds w:=QC a.out (fun q=>b q (Lo q h)) (fun q=>d q (Mo q h))
theorem Jd (h:(if b=true then A else B)=some r) [a:wh fr c (.bool b)] (d:b=true→A=some r→ef P x Q fr ds w) (e:¬ b=true→B=some r→ef P y Q fr ds w):ef P (.cond c x y) Q fr ds w:=DI a.out (fun q=>d q (Lo q h)) (fun q=>e q (Mo q h))
theorem qi (h:(if b=true then A else B)=some r) [a:wh fr c (.bool (!b))] (d:¬ b=true→B=some r→ef P x Q fr ds w) (e:b=true→A=some r→ef P y Q fr ds w):ef P (.cond c x y) Q fr ds w:=XH a.out (fun q=>d q (Mo q h)) (fun q=>e q (Lo q h))
theorem Nc (d:Nat) (h:(if p then A else B)=some r) [za:jl fr d (.bool (decide p))] [a:Oi fr d (.bool true) Dh] [b:Oi fr d (.bool false) Eh] (c:p→A=some r→Rf P ops Q l Dh ds w) (e:¬ p→B=some r→Rf P ops Q l Eh ds w):Rf P ops Q l fr ds w:=CI za.out a.out b.out (fun q=>c q (Lo q h)) (fun q=>e q (Mo q h))
theorem Dm (d:Nat) (h:(if b=true then A else B)=some r) [za:jl fr d (.bool b)] [a:Oi fr d (.bool true) Dh] [c:Oi fr d (.bool false) Eh] (e:b=true→A=some r→Rf P ops Q l Dh ds w) (f:¬ b=true→B=some r→Rf P ops Q l Eh ds w):Rf P ops Q l fr ds w:=EI za.out a.out c.out (fun q=>e q (Lo q h)) (fun q=>f q (Mo q h))
theorem qv (d:Nat) (h:(if b=true then A else B)=some r) [za:jl fr d (.bool (!b))] [a:Oi fr d (.bool true) Dh] [c:Oi fr d (.bool false) Eh] (e:¬ b=true→B=some r→Rf P ops Q l Dh ds w) (f:b=true→A=some r→Rf P ops Q l Eh ds w):Rf P ops Q l fr ds w:=YH za.out a.out c.out (fun q=>e q (Mo q h)) (fun q=>f q (Lo q h))
theorem nD (d:Nat) (h:(if p then A else B)=some r) [za:jl fr d (.bool (decide p))] [a:Oi fr d (.bool true) Dh] [b:Oi fr d (.bool false) Eh] (c:p→A=some r→nf P ops Q Xb R Dh ds w) (e:¬ p→B=some r→nf P ops Q Xb R Eh ds w):nf P ops Q Xb R fr ds w:=GI za.out a.out b.out (fun q=>c q (Lo q h)) (fun q=>e q (Mo q h))
theorem dJ (d:Nat) (h:(if b=true then A else B)=some r) [za:jl fr d (.bool b)] [a:Oi fr d (.bool true) Dh] [c:Oi fr d (.bool false) Eh] (e:b=true→A=some r→nf P ops Q Xb R Dh ds w) (f:¬ b=true→B=some r→nf P ops Q Xb R Eh ds w):nf P ops Q Xb R fr ds w:=mD za.out a.out c.out (fun q=>e q (Lo q h)) (fun q=>f q (Mo q h))
end
abbrev je (l:List Value):List Value:=undef::l
abbrev td (l:List Value):List Value:=undef::undef::l
abbrev Cf (l:List Value):List Value:=undef::undef::undef::undef::undef::l
abbrev Ug (l:List Value):List Value:=undef::undef::undef::undef::undef::undef::undef::undef::undef::undef::l
abbrev Re (l:List Value):List Value:=undef::undef::undef::undef::undef::undef::undef::undef::undef::undef::undef::undef::undef::undef::undef::undef::undef::undef::undef::undef::l
abbrev Ie (l:List Value):List Value:=undef::undef::undef::undef::undef::undef::undef::undef::undef::undef::undef::undef::undef::undef::undef::undef::undef::undef::undef::undef::undef::undef::undef::undef::undef::undef::undef::undef::undef::undef::undef::undef::undef::undef::undef::undef::undef::undef::undef::undef::undef::undef::undef::undef::undef::undef::undef::undef::undef::undef::l
end Go.nd
namespace Go.nd
theorem Ga {α : Type}{a b : α}(h : some a = some b) : a = b := Option.some.inj h
abbrev rg : Nat → Nat → List Nat := fun a b => List.range' a b
end Go.nd
