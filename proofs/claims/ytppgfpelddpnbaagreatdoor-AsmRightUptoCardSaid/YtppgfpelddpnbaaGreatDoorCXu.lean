/- Texts of Xu. -/
import Derived.Test.YtppgfpelddpnbaaGreatDoorCXt
import Derived.Laws.MakeOwn
import Derived.Laws.CopyRow
import Derived.Laws.IdiomCopy
import Derived.Shelf.Strconv.ParseIntPublic10
import Derived.Lib.IndexMore
import Derived.Sort.Row
import Derived.Lib.AppendStr
import Derived.Lib.ItoaNum
import Derived.Lib.UnsafeStr
set_option linter.unusedSimpArgs false
set_option linter.unusedVariables false
set_option linter.unusedSectionVars false
namespace Go.Xt
open Go.Wk Go.RowKit
theorem Rw.split {α:Type} [Mo α] {μ:M}:∀ {l:List α} {cells:List Value} {i:Nat} {x:α},Rw μ cells l→l[i]?=some x →
  ∃ pc cs sc,cells=pc++(cs++sc)∧pc.length=i*Mo.sz α∧Mo.cs μ cs x∧∀ (μ':M) (cs':List Value) (x':α),Le μ μ'→Mo.cs μ' cs' x'→Rw μ' (pc++(cs'++sc)) (l.set i x')
 | [],cells,i,x,h,hx=>by simp at hx
 | y::l,cells,i,x,h,hx=>by
  rw [Rw] at h
  obtain ⟨cs,t,rfl,h1,h2⟩:=h
  cases i with
  | zero =>
   simp at hx
   subst hx
   exact ⟨[],cs,t,rfl,by simp,h1,fun μ' cs' x' hl h'=>⟨cs',t,rfl,h',h2.up hl⟩⟩
  | succ i =>
   simp at hx
   obtain ⟨pc,cs2,sc,rfl,e,m,st⟩:=Rw.split h2 hx
   exact ⟨cs++pc,cs2,sc,by simp,by simp [e,Mo.ln h1,Nat.add_mul]; omega,m,fun μ' cs' x' hl h'=>⟨cs,pc++(cs'++sc),by simp,Mo.up hl h1,st μ' cs' x' hl h'⟩⟩
theorem _root_.Go.Wk.Row.elemS {α:Type} [Mo α] {w:World} {T:TypeId} {n:Nat} {μ:M} {v:Value} {cells:List Value} {l:List α} {i:Int} {x:α} (h:Row w v T (Mo.sz α) n cells) (hr:Rw μ cells l) (hn:l.length=n) (g:at_ l i=some x) :
  ∃ b o pc cs sc,cells=pc++(cs++sc)∧Elv v (Mo.sz α) i b o∧(∀ w T cs',Row w v T (Mo.sz α) n (pc++(cs'++sc))→cs'.length=Mo.sz α→CellsAt w b o cs')∧Mo.cs μ cs x∧pc.length=i.toNat*Mo.sz α ∧
   (∀ (μ':M) (cs':List Value) (x':α),Le μ μ'→Mo.cs μ' cs' x'→Rw μ' (pc++(cs'++sc)) (l.set i.toNat x'))∧Rw μ (pc++(cs++sc)) l:=by
 obtain ⟨h0,h1,h2⟩:=at_eq g
 obtain ⟨b,o,c,rfl,hc⟩:=h.some' (by omega)
 obtain ⟨pc,cs,sc,rfl,e,m,st⟩:=hr.split h2
 refine ⟨b,o+i.toNat*Mo.sz α,pc,cs,sc,rfl,⟨o,_,_,rfl,h0,by omega,rfl⟩,?_,m,e,st,hr⟩
 intro w2 T2 cs' hk hl j u hj
 obtain ⟨b',o',c',hv,hc'⟩:=hk.some' (by omega)
 simp at hv
 obtain ⟨⟨rfl,rfl⟩,rfl⟩:=hv
 have hjl:j<cs'.length:=(List.getElem?_eq_some_iff.1 hj).1
 have:=hc' (pc.length+j) u (by rw [List.getElem?_append_right (by omega),show pc.length+j - pc.length=j by omega,List.getElem?_append_left hjl]; exact hj)
 rw [e,← Nat.add_assoc] at this
 exact this
theorem open_store {pc cs cs' sc vs:List Value} {i off sz:Nat} (pl:pc.length=i*sz) (h:cs.take off++vs++cs.drop (off+vs.length)=cs') (hl:off+vs.length≤cs.length) :
  (pc++(cs++sc)).take (i*sz+off)++vs++(pc++(cs++sc)).drop (i*sz+off+vs.length)=pc++(cs'++sc):=by
 subst h
 rw [← pl,Nat.add_assoc,List.take_append,List.drop_append]
 simp [List.take_append_of_le_length (show off≤cs.length by omega),List.drop_append_of_le_length hl,List.take_of_length_le (show pc.length≤pc.length+off by omega),List.drop_of_length_le (show pc.length≤pc.length+(off+vs.length) by omega)]
section
variable {P:Program} {Q:Exit→Act→World→Prop} {K:List Value→List Deferred→World→Prop} {fr fr':List Value} {ds:List Deferred} {w:World}
variable {dst:Option Tmp} {ty:TypeId} {pos:String} {after:Array Edge} {g:Option (Nat×Bool)}
variable {w0:World} {rs rs':List Res} {μ μ':M}
variable {T:TypeId}
end
end Go.Xt
namespace Go.Xt
open Go.Wk Go.RowKit
section
variable {P:Program} {Q:Exit→Act→World→Prop} {K:List Value→List Deferred→World→Prop} {fr fr':List Value} {ds:List Deferred} {w:World}
variable {dst:Option Tmp} {ty:TypeId} {pos:String} {after:Array Edge} {g:Option (Nat×Bool)}
end
end Go.Xt
namespace Go.Xt
open Go.Wk Go.RowKit
def vOf (agg:Bool) (cs:List Value):Value:=if agg then .agg ⟨cs⟩ else cs.headD undef
structure FnOk (P:Program) (μ0:M) (K:Nat) (caps:List Value) {α:Type} [Mo α] (agg:Bool) (pf:α→Option Bool):Prop where
 isfn:IsFn P K
 call:∀ {μ1:M} {w0 w1:World} {rs:List Res} {x:α} {b:Bool} {cs:List Value},Le μ0 μ1→Mo.cs μ1 cs x→pf x=some b→Sq μ1 w0 w1 rs→CallsV P K ([vOf agg cs]++caps) w1 (fun v w'=>∃ μ2,v=.bool b∧Le μ1 μ2∧Sq μ2 w0 w' rs)
theorem FnOk.up {P:Program} {μ μ':M} {K:Nat} {caps:List Value} {α:Type} [Mo α] {agg:Bool} {pf:α→Option Bool} (h:FnOk P μ K caps agg pf) (l:Le μ μ'):FnOk P μ' K caps agg pf:=⟨h.isfn,fun hl=>h.call (l.t hl)⟩
end Go.Xt
namespace Go.Xt
open Go.Wk Go.RowKit
section
variable {P : Program} {Q : Exit → Act → World → Prop} {K : List Value → List Deferred → World → Prop} {fr fr' : List Value} {ds : List Deferred} {w w' : World}
variable {dst : Option Tmp} {ty : TypeId} {pos : String} {after : Array Edge} {g : Option (Nat × Bool)}
variable {w0 : World} {rs rs' : List Res} {μ μ' : M}
variable {T : TypeId} {d : TypeDesc} {ag : Bool} {zc : List Value} {n m : Nat}
theorem _root_.Go.Wk.Sep.newRow {S S0 : Nat → Prop} {A : World → Prop} {v : Value} {sz k : Nat} {xs : List Value} (hS : Sep S S0 w0 w rs A) (hg : Grow w w') (hr : Row w' v T sz k xs) (hb : ∀ b, v.ownBlock = some b → w.heap.size ≤ b) :
    Sep S S0 w0 w' (.row v T sz k xs :: rs) A where
  keeps := hS.keeps.trans hg.keeps
  all r hr' := by
    rcases List.mem_cons.1 hr' with rfl | h
    · exact hr
    · exact (hS.grow hg).all r h
  dis := by
    cases hv : v.ownBlock with
    | none => simp only [blocks, List.filterMap_cons, Res.block, hv]; exact hS.dis
    | some b =>
      simp only [blocks, List.filterMap_cons, Res.block, hv, List.nodup_cons]
      exact ⟨fun hm => by have := hS.lt hm; have := hb b hv; omega, hS.dis⟩
  new b hm := by
    cases hv : v.ownBlock with
    | none => simp only [blocks, List.filterMap_cons, Res.block, hv] at hm; exact hS.new b hm
    | some b' =>
      simp only [blocks, List.filterMap_cons, Res.block, hv, List.mem_cons] at hm
      rcases hm with rfl | hm
      · exact .inl (Nat.le_trans hS.keeps.size (hb _ hv))
      · exact hS.new b hm
  imm := fun w'' h1 h2 => hS.imm w'' (Nat.le_trans hg.size h1) fun k hk hs => (h2 k (Nat.lt_of_lt_of_le hk hg.size) ⟨hs.1, fun hm => by
    cases hv : v.ownBlock with
    | none => simp only [blocks, List.filterMap_cons, Res.block, hv] at hm; exact hs.2 hm
    | some b' =>
      simp only [blocks, List.filterMap_cons, Res.block, hv, List.mem_cons] at hm
      rcases hm with rfl | hm
      · have := hb _ hv; omega
      · exact hs.2 hm⟩).trans (hg.blk k hk trivial)
theorem row_of_owns {e : TypeId} {sz k base : Nat} {v : Value} {xs : List Value} (h : w.ownsRow base e sz v k xs) : Row w v e sz k xs ∧ ∀ b, v.ownBlock = some b → base ≤ b := by
  obtain ⟨h1, h2⟩ := h
  rcases h2 with ⟨rfl, rfl⟩ | ⟨g, cap, cur, rfl, hb, hg, h3, h4, h5, h6⟩
  · exact ⟨⟨h1, .inl ⟨rfl, rfl⟩⟩, fun b hb => by simp [Value.ownBlock] at hb⟩
  · exact ⟨⟨h1, .inr ⟨g, 0, cap, cur, rfl, hg, h3, h4, by omega, by simpa using h6⟩⟩, fun b hb' => by simp [Value.ownBlock] at hb'; omega⟩
def mks (n : Int) : Option Nat := if 0 ≤ n ∧ n ≤ 65536 then some n.toNat else none
theorem mks_eq {n : Int} {k : Nat} (h : mks n = some k) : n = k ∧ k ≤ 65536 := by
  unfold mks at h
  split at h
  · rename_i hc
    have := Option.some.inj h
    omega
  · cases h
theorem madeOnes (z : Value) (k : Nat) : madeCells #[z] k = (List.replicate k z).toArray := by
  apply Array.ext'
  simp only [madeCells, Array.toList_map, Array.toList_range]
  apply List.ext_getElem?
  intro i
  simp only [List.getElem?_map, List.getElem?_range', List.getElem?_replicate]
  by_cases h : i < k
  · simp [h, Nat.mod_one]
  · simp [h]
theorem s_mkslice {x y : Operand} {e : TypeId} {z : Value} {bytes k : Nat} {kl kc : IntKind} {n : Int} (hT : P.underlying T = some (.slice e)) (hE : TI P e ag [z] 1 bytes) (hb : bytes ≤ 4096) (hx : Ev fr x (.int kl n)) (hy : Ev fr y (.int kc n)) (gk : mks n = some k) (hS : Sq μ w0 w rs)
    (h : ∀ b w', Sq μ w0 w' (.row (.slice (some ⟨b, 0, none⟩) k k) e 1 k (List.replicate k z) :: rs) → Put fr dst (.slice (some ⟨b, 0, none⟩) k k) fun fr' => K fr' ds w') :
    OW P (Oper.mk dst (.makeSlice T x y) ty pos after g) fr ds w K Q := by
  obtain ⟨rfl, hk⟩ := mks_eq gk
  obtain ⟨i, zz, hi, hiz, hzc, hsz, hby⟩ := hE.inf
  have hm : i.bytes * k ≤ 4096 * 65536 := Nat.mul_le_mul (by omega) hk
  have hr := run_make (P := P) w T e i zz hT hi hiz kl kc k k (by omega) (Int.le_refl _) (by rw [← Int.natCast_mul]; omega) (by omega)
  simp only [Int.toNat_natCast, hsz, Nat.mul_one, hzc] at hr
  rw [madeOnes] at hr
  obtain ⟨fr', hd⟩ := dt_ex fr dst (.slice (some ⟨w.heap.size, 0, none⟩) k k)
  refine op_v (w' := w.alloc (.cells (List.replicate k z).toArray e)) ?_ hd (h _ _ (hS.alloc rfl ⟨by simp, .inr ⟨_, 0, _, _, rfl, heap_alloc_new w _, Nat.le_refl _, by simp only [maxLen]; omega, by simp, by simp⟩⟩) fr' hd)
  simp only [execOp, hx ds, hy ds, Sem.run_bind, hr, Result.andThen_ok, Sem.run_pure]
theorem rw_rep {α : Type} [Mo α] {z : Value} {x : α} (h : ∀ μ : M, Mo.cs μ [z] x) : ∀ k, Rw μ (List.replicate k z) (List.replicate k x)
  | 0 => rfl
  | k + 1 => ⟨[z], _, rfl, h μ, rw_rep h k⟩
theorem eq_sl {t e : TypeId} {v : Value} {a : Option Addr} {k c : Nat} (hu : P.underlying t = some (.slice e)) : EqV P 1 t (.slice a k c) (.slice none 0 0) a.isNone := ⟨fun d w hd => by
  cases d with
  | zero => omega
  | succ d => cases a <;> simp [Op.equalIn, run_underlying hu]⟩
theorem s_eqnsl {x : Operand} {t t' e : TypeId} {a : Option Addr} {k c : Nat} (hu : P.underlying t = some (.slice e)) (hx : Ev fr x (.slice a k c)) (hp : Dt fr dst (.bool a.isNone) fr') (h : K fr' ds w) :
    OW P (Oper.mk dst (.binOp .eql t x (.const (.slice none 0 0)) t') ty pos after g) fr ds w K Q := by
  refine su ⟨fun ds w => ?_⟩ hp h
  have h1 := hx ds
  have h2 : (F fr ds).eval (.const (.slice none 0 0)) = .slice none 0 0 := rfl
  have h3 := (eq_sl (v := .nilIface) (a := a) (k := k) (c := c) hu).out Op.maxDepth w (by decide)
  simp [execOp, h1, h2, eqGuard, binOp, Op.equal, h3]
def small {α : Type} (l : List α) : Option Unit := if l.length ≤ 65536 then some () else none
theorem small_eq {α : Type} {l : List α} {u : Unit} (h : small l = some u) : l.length ≤ 65536 := by
  unfold small at h
  split at h
  · assumption
  · cases h
theorem Rw.take' {α : Type} [Mo α] : ∀ {l : List α} {cells : List Value} (i : Nat), Rw μ cells l → Rw μ (cells.take (i * Mo.sz α)) (l.take i)
  | [], cells, i, h => by rw [Rw] at h; subst h; simp [Rw]
  | x :: l, cells, 0, h => by simp [Rw]
  | x :: l, cells, i + 1, h => by
    rw [Rw] at h
    obtain ⟨cs, t, rfl, h1, h2⟩ := h
    rw [List.take_succ_cons, Rw]
    refine ⟨cs, t.take (i * Mo.sz α), ?_, h1, Rw.take' i h2⟩
    have e : (i + 1) * Mo.sz α = cs.length + i * Mo.sz α := by rw [Nat.add_mul, Mo.ln h1]; omega
    rw [e, List.take_append]
    simp [List.take_of_length_le (show cs.length ≤ cs.length + i * Mo.sz α by omega)]
theorem Row.cutT {α : Type} [Mo α] {v : Value} {cells : List Value} {l l' : List α} {j : Int} (h : Row w v T (Mo.sz α) l.length cells) (hm : Rw μ cells l) (g : cut l 0 j = some l') :
    ∃ v' cells', Slc v (Mo.sz α) none (some j) v' ∧ v'.ownBlock = v.ownBlock ∧ (∀ w T, Row w v T (Mo.sz α) l.length cells → Row w v' T (Mo.sz α) l'.length cells') ∧ Rw μ cells' l' := by
  obtain ⟨⟨h0, h1, h2⟩, rfl⟩ := cut_eq g
  obtain ⟨v', e1, e2, e3⟩ := Row.cutTo h h1 h2
  refine ⟨v', cells.take (j.toNat * Mo.sz α), e1, e2, fun w T hk => ?_, by simpa using hm.take' j.toNat⟩
  have := e3 w T hk
  have hl : ((l.take j.toNat).drop (0 : Int).toNat).length = j.toNat := by simp; omega
  rw [hl]
  exact this
end
end Go.Xt
namespace Go.Xt
open Go.Wk Go.RowKit
section
variable {P:Program} {Q:Exit→Act→World→Prop} {K:List Value→List Deferred→World→Prop} {fr fr':List Value} {ds:List Deferred} {w w':World}
variable {dst:Option Tmp} {ty:TypeId} {pos:String} {after:Array Edge} {g:Option (Nat×Bool)}
variable {w0:World} {rs rs':List Res} {μ μ':M}
variable {T:TypeId} {d:TypeDesc} {ag:Bool} {zc:List Value} {n m:Nat}
theorem nilpe {t e:TypeId} (hu:P.underlying t=some (.pointer e)):EqV P 1 t (.pointer none) (.pointer none) true:=⟨fun d w hd=>by
 cases d with
 | zero=>omega
 | succ d=>simp [Op.equalIn,run_underlying hu]⟩
theorem u_nilpeql {x:Operand} {t t' e:TypeId} (hu:P.underlying t=some (.pointer e)) (hx:Ev fr x (.pointer none)):PU P (Oper.mk dst (.binOp .eql t x (.const (.pointer none)) t') ty pos after g) fr (.bool true):=⟨fun ds w=>by
 have h1:=hx ds
 have h2:(F fr ds).eval (.const (.pointer none))=.pointer none:=rfl
 have h3:=(nilpe hu).out Op.maxDepth w (by decide)
 simp [execOp,h1,h2,eqGuard,binOp,Op.equal,h3]⟩
theorem s_nilpeql {x:Operand} {t t' e:TypeId} (hu:P.underlying t=some (.pointer e)) (hx:Ev fr x (.pointer none)) (hp:Dt fr dst (.bool true) fr') (h:K fr' ds w):OW P (Oper.mk dst (.binOp .eql t x (.const (.pointer none)) t') ty pos after g) fr ds w K Q:=su (u_nilpeql hu hx) hp h
end
end Go.Xt
namespace Go.Xt
open Go.Wk Go.RowKit
instance:Mo UInt8 where
 sz:=1
 pos:=by decide
 cs _ l x:=l=[.int .u8 x.toNat]
 ln h:=by rw [h]; rfl
 up _ h:=h
 cv h:=by rw [h]; rfl
end Go.Xt
namespace Go.Xt
open Go.Wk Go.RowKit
section
variable {μ ν:M} {w0 w w':World} {rs:List Res} {T:TypeId}
theorem _root_.Go.Wk.Row.shape {v:Value} {sz n:Nat} {xs:List Value} (h:Row w v T sz n xs):∃ a c,v=.slice a n c:=by
 rcases h.2 with ⟨rfl,rfl⟩ | ⟨g,o,cap,cur,rfl,-⟩
 ·exact ⟨_,_,rfl⟩
 ·exact ⟨_,_,rfl⟩
end
section
variable {P:Program} {Q:Exit→Act→World→Prop} {K:List Value→List Deferred→World→Prop} {fr fr':List Value} {ds:List Deferred} {w w':World}
variable {dst:Option Tmp} {ty:TypeId} {pos:String} {after:Array Edge} {g:Option (Nat×Bool)} {T:TypeId} {ag:Bool} {zc:List Value} {rs rs':List Res} {μ:M} {w0:World}
end
end Go.Xt
namespace Go.Xt
open Go.Wk Go.RowKit
def fmt10 (n:Int):Option (List UInt8):=if -9223372036854775808≤n∧n≤9223372036854775807 then some (Lib.itoa n) else none
def Bp (_:M) (b:Nat) (v:Value):Prop:=v=.pointer none∨v=.pointer (some ⟨b,0,none⟩)
theorem Bp.nil {μ:M} {b:Nat}:Bp μ b (.pointer none):=.inl rfl
theorem Bp.up {μ μ':M} {b:Nat} {v:Value} (h:Bp μ b v) (_:Le μ μ'):Bp μ' b v:=h
section
variable {P:Program} {w:World} {T:TypeId} {zc:List Value} {n:Nat}
theorem run_append_str {t u ty:TypeId} (ht:P.underlying t=some (.slice T)) (hu:P.underlying u=some .string) (hE:TI P T false zc 1 1) (hz:zc=[.int .u8 0])
  {v:Value} {xs:List Value} (hown:Row w v T 1 n xs) (s:ByteArray) (h63:n+s.size≤maxLen) (hbytes:n+s.size≤140737488355328) :
  ∃ v' w',(Builtin.append_ #[t,u] ty #[v,.string s]).run P w=.ok v' w'∧Row w' v' T 1 (n+s.size) (xs++Lib.strCells s)∧Keeps (fun b=>some b≠v.ownBlock) w w' ∧
   (v'.ownBlock=v.ownBlock∨∃ b,v'.ownBlock=some b∧w.heap.size≤b):=by
 obtain ⟨i,z,hi,hiz,hzc,hsz,hby⟩:=hE.inf
 have hzs:z.cells.size=1:=by rw [hzc,hz]; rfl
 have hsmall:n+s.size≤9223372036854775807:=by simp only [maxLen] at h63; omega
 have hl:(Lib.strCells s).length=s.size:=Lib.strCells_length s
 have hxl:xs.length=n:=by simpa using hown.1
 have hlen:(xs++Lib.strCells s).length=(n+s.size)*1:=by rw [List.length_append,hxl,hl,Nat.mul_one]
 have grown:∀ (old:Nat),old<n+s.size→∀ (row:Option Nat),
   Row (w.drew.alloc (.cells (xs.toArray++(Lib.strCells s).toArray++Builtin.zeroCells z.cells (grownCap w (n+s.size) old T - (n+s.size))) T)) (.slice (some ⟨w.heap.size,0,none⟩) (n+s.size) (grownCap w (n+s.size) old T)) T 1 (n+s.size) (xs++Lib.strCells s) ∧
   Keeps (fun b=>some b≠row) w (w.drew.alloc (.cells (xs.toArray++(Lib.strCells s).toArray++Builtin.zeroCells z.cells (grownCap w (n+s.size) old T - (n+s.size))) T)):=by
  intro old ho row
  have hge:=grownCap_ge w (n+s.size) old T
  have hcm:grownCap w (n+s.size) old T≤maxLen:=grownCap_le_maxLen w (n+s.size) old T h63
  refine ⟨⟨hlen,.inr ⟨w.heap.size,0,_,_,rfl,heap_alloc_new w.drew _,hge,hcm,?_,?_⟩⟩,⟨rfl,rfl,rfl,by simp,fun k hk _=>by first | exact heap_alloc_old w.drew _ k hk | exact heap_alloc_old w.drew _ hk⟩⟩
  ·simp only [Array.size_append,List.size_toArray,size_zeroCells,hzs,hxl,hl]
   omega
  ·simp only [Array.toList_append,List.append_assoc,List.drop_zero]
   rw [← List.append_assoc,← hlen]
   exact List.take_left
 rcases hown.2 with ⟨rfl,rfl⟩ | ⟨g,o,cap,cur,rfl,hg,hnc,hcm,hcs,htake⟩
 ·have hx:xs=[]:=List.eq_nil_of_length_eq_zero hxl
  subst hx
  by_cases hm:s.size=0
  ·have hn:Lib.strCells s=[]:=List.eq_nil_of_length_eq_zero (by omega)
   refine ⟨.slice none 0 0,w,?_,⟨by simp [hn,hm],.inl ⟨rfl,by omega⟩⟩,.refl w,.inl rfl⟩
   have hf:=Lib.run_firstCells_string (P:=P) w i.size s
   rw [hm] at hf
   simp [Builtin.append_,run_underlying ht,run_underlying hu,sizeOf,typeInfo,hi,Builtin.lenOf,hm,Builtin.firstCells,loadCells,loadCellsFrom]
  ·have hr:=run_append_nil_string (P:=P) w t u ty T i z ht hu hi hiz s (by omega) (by omega) (by rw [hby]; omega)
   have hgr:=grown 0 (by omega) (Value.ownBlock (.slice none 0 0))
   simp only [Nat.zero_add,List.nil_append,Array.empty_append] at hgr ⊢
   refine ⟨_,_,hr,?_,?_,.inr ⟨_,rfl,Nat.le_refl _⟩⟩
   ·have e:(s.data.map fun b=>Value.int .u8 b.toNat)=(Lib.strCells s).toArray:=by
     apply Array.ext'
     simp [Lib.strCells]
    rw [e]
    exact hgr.1
   ·have e:(s.data.map fun b=>Value.int .u8 b.toNat)=(Lib.strCells s).toArray:=by
     apply Array.ext'
     simp [Lib.strCells]
    rw [e]
    exact hgr.2
 ·by_cases hroom:n+s.size≤cap
  ·have hfit:o+n+s.size≤cur.size:=by omega
   have hr:(Builtin.append_ #[t,u] ty #[.slice (some ⟨g,o,none⟩) n cap,.string s]).run P w =
     .ok (.slice (some ⟨g,o,none⟩) (n+s.size) cap) (w.setRow g (cur.toList.take (o+n)++Lib.strCells s++cur.toList.drop (o+n+s.size)).toArray):=by
    have hf:=Lib.run_firstCells_string (P:=P) w 1 s
    have hst:=run_storeCells_at P g (o+n) T (Lib.strCells s) 0 cur w hg (by simpa [hl] using hfit) (Lib.strCells_oneCell s)
    simp only [Nat.add_zero,hl] at hst
    simp [Builtin.append_,run_underlying ht,run_underlying hu,sizeOf,typeInfo,hi,hsz,Builtin.lenOf,hroom,hf,add_addr,hst]
   refine ⟨_,_,hr,⟨hlen,.inr ⟨g,o,cap,_,rfl,setRow_heap w g cur _ T _ hg,hroom,hcm,?_,?_⟩⟩,⟨rfl,rfl,rfl,by simp [World.setRow],fun k _ hk=>setRow_other w g k _ (fun e=>hk (by simp [Value.ownBlock,e]))⟩,.inl rfl⟩
   ·simp only [List.size_toArray,List.length_append,List.length_take,List.length_drop,Array.length_toList,hl]
    omega
   ·rw [← hlen,← htake]
    have e1:(cur.toList.take (o+n)).drop o=(cur.toList.drop o).take (n*1):=by
     rw [List.drop_take]; congr 1; omega
    have hlo:o≤(cur.toList.take (o+n)).length:=by simp; omega
    rw [List.append_assoc,List.drop_append_of_le_length hlo,e1,← List.append_assoc]
    exact List.take_left
  ·have holds:∀ j u,xs[j]?=some u→w.cell? ((⟨g,o,none⟩:Addr).add j)=some u:=by
    intro j u hu
    rw [add_addr,cell_of_row w g (o+j) cur T (0,0) hg]
    rw [← htake,List.getElem?_take] at hu
    split at hu
    ·rw [List.getElem?_drop] at hu; simpa using hu
    ·cases hu
   have hr:=Lib.run_append_grow_string (P:=P) w t u ty T i z ht hu hi hiz ⟨g,o,none⟩ n cap xs (by rw [hsz]; exact hown.1) holds s (by omega) (by omega) (growslice_fits (by omega) (by rw [hby]; omega))
   have hgr:=grown cap (by omega) (Value.ownBlock (.slice (some ⟨g,o,none⟩) n cap))
   exact ⟨_,_,hr,hgr.1,hgr.2,.inr ⟨_,rfl,Nat.le_refl _⟩⟩
end
section
variable {P:Program} {Q:Exit→Act→World→Prop} {K:List Value→List Deferred→World→Prop} {fr fr':List Value} {ds:List Deferred} {w:World}
variable {dst:Option Tmp} {ty:TypeId} {pos:String} {after:Array Edge} {g:Option (Nat×Bool)}
variable {w0:World} {rs rs':List Res} {μ μ':M}
variable {T:TypeId}
theorem s_appStr {t u:TypeId} {s x:Operand} {v:Value} {k:Nat} {cells:List Value} {l y l':List UInt8} (ht:P.underlying t=some (.slice T)) (hu:P.underlying u=some .string) (hE:TI P T false [.int .u8 0] 1 1)
  (hs:Ev fr s v) (hx:Ev fr x (S y)) (hS:Sq μ w0 w rs) (hl:Lk rs k (.row v T 1 l.length cells)) (gg:app l y=some l')
  (h:∀ v' w' rs',Pt rs k (.row v' T 1 l'.length (cells++Lib.strCells ⟨⟨y⟩⟩)) rs'→Sq μ w0 w' rs'→Put fr dst v' fun fr'=>K fr' ds w') :
  OW P (Oper.mk dst (.call { callee:=.builtin .append,args:=#[s,x],argTypes:=#[t,u] }) ty pos after g) fr ds w K Q:=by
 obtain ⟨h1,h2⟩:=app_len gg
 have hz:(⟨⟨y⟩⟩:ByteArray).size=y.length:=rfl
 obtain ⟨v',w',hr,hrow,hk,hv⟩:=run_append_str (P:=P) (ty:=ty) ht hu hE rfl (hS.get hl) ⟨⟨y⟩⟩ (by rw [hz]; unfold maxLen; omega) (by rw [hz]; omega)
 rw [hz,← h1] at hrow
 obtain ⟨fr',hd⟩:=dt_ex fr dst v'
 refine op_v (v:=v') (w':=w') ?_ hd (h v' w' _ rfl (hS.row hl rfl hrow hk hv) fr' hd)
 have e1:=hs ds
 have e2:=hx ds
 simp [execOp,resolve,invoke,builtin,e1,e2,S,hr]
end
theorem Rw.str {μ:M}:∀ y:List UInt8,Rw μ (Lib.strCells ⟨⟨y⟩⟩) y
 | []=>Rw.nil
 | c::y=>by
  exact Rw.cons (α:=UInt8) (cs:=[.int .u8 (c.toNat:Int)]) rfl (Rw.str y)
section
variable {P:Program} (w:World)
theorem liesAt_off {e:TypeId} (hc:P.cellsOf e=1) (count o n:Nat) (hn:o+n≤count):liesAt P P.depth e count o e n=true:=by
 have hd:P.depth=(2*(P.types.size+Made.depth)+1)+1:=rfl
 rw [hd]
 simp only [liesAt,Bool.or_eq_true]
 left
 rw [hd]
 simp [rowAt,hc,sameLayout]
 omega
theorem run_unsafeString_off (pt it ty e:TypeId) (hp:P.underlying pt=some (.pointer e)) (hc:P.cellsOf e=1) (g o cells:Nat) (hsh:w.shape? g=some (e,cells)) (l:List UInt8) (h0:l≠[]) (hn:o+l.length≤cells) (h63:l.length≤9223372036854775807)
  (hcell:∀ j x,l[j]?=some x→w.cell? ((⟨g,o,none⟩:Addr).add j)=some (.int .u8 x.toNat)) :
  (Builtin.unsafeString_ #[pt,it] ty #[.pointer (some ⟨g,o,none⟩),.int .i64 l.length]).run P w=.ok (.string ⟨l.toArray⟩) (w.freeze ⟨g,o,none⟩ l.length):=by
 have hl:l.length≠0:=by simpa using h0
 have hlb:=Lib.run_loadBytes (P:=P) w l ⟨g,o,none⟩ .empty hcell
 have hlies:=liesAt_off (P:=P) hc (cells / P.cellsOf e) o l.length (by rw [hc]; simpa using hn)
 have h63':¬ (9223372036854775807:Int)<(l.length:Int):=by omega
 have hdef:Builtin.unsafeString_ #[pt,it] ty #[.pointer (some ⟨g,o,none⟩),.int .i64 l.length] =
   (do
    let n ← asInt (.int .i64 l.length)
    if n < 0 then runtimePanic (.error "unsafe.String: len out of range")
    if n > IntKind.i64.max then unsupported (.unsafePointer "String: a length above the largest int")
    if n=0 then pure (.string .empty)
    else if ← variablesAt ⟨g,o,none⟩ (← elemOf pt) n.toNat then do
     let s ← loadBytes ⟨g,o,none⟩ .empty n.toNat
     freeze ⟨g,o,none⟩ n.toNat
     pure (.string s)
    else unsupported (.unsafePointer "String: not so many bytes at ptr")) := rfl
 rw [hdef]
 have hmax:IntKind.i64.max=9223372036854775807:=rfl
 have hneg:¬ (l.length:Int)<0:=by omega
 simp [asInt,asIntOf,hmax,h63',hneg,hl,variablesAt,hsh,elemOf,run_underlying hp,hlies,hlb]
end
end Go.Xt
namespace Go.Xt
abbrev wd (l:List UInt8) (p:Nat):Nat:=(Utf8.decode ⟨⟨l⟩⟩ p).2
end Go.Xt
namespace Go.Xt
open Go.Wk Go.RowKit
theorem Rw.bytes {μ:M}:∀ {l:List UInt8} {cs:List Value},Rw μ cs l→cs=l.map fun x=>.int .u8 (x.toNat:Int)
 | [],cs,h=>h
 | c::l,cs,h=>by
  obtain ⟨a,t,rfl,h1,h2⟩:=h
  have h1:a=[.int .u8 (c.toNat:Int)]:=h1
  rw [h1,Rw.bytes h2]
  rfl
section
variable {P:Program} {Q:Exit→Act→World→Prop} {K:List Value→List Deferred→World→Prop} {fr fr':List Value} {ds:List Deferred} {w:World}
variable {dst:Option Tmp} {ty:TypeId} {pos:String} {after:Array Edge} {gg:Option (Nat×Bool)}
variable {w0:World} {rs rs':List Res} {μ μ':M}
variable {T:TypeId}
theorem s_ustr {pt it:TypeId} {x y:Operand} {l:List UInt8} {v:Value} {cs:List Value} {a p:Option Addr} {k cap:Nat} (ha:l≠[]→p=a) (hp:P.underlying pt=some (.pointer T)) (hc:P.cellsOf T=1) (hv:v=.slice a l.length cap)
  (hx:Ev fr x (.pointer p)) (hy:Ev fr y (.int .i64 (l.length:Int))) (hS:Sq μ w0 w rs) (hl:Lk rs k (.row v T 1 l.length cs)) (hm:Rw μ cs l)
  (h:∀ w' r' rs',Pt rs k r' rs'→Sq μ w0 w' rs'→Put fr dst (S l) fun fr'=>K fr' ds w') :
  OW P (Oper.mk dst (.call { callee:=.builtin .unsafeString,args:=#[x,y],argTypes:=#[pt,it] }) ty pos after gg) fr ds w K Q:=by
 subst hv
 have e1:=hx ds
 have e2:=hy ds
 by_cases h0:l=[]
 ·subst h0
  obtain ⟨fr',hd⟩:=dt_ex fr dst (S [])
  have hs:rs.set k (.row (.slice a 0 cap) T 1 0 cs)=rs:=by
   obtain ⟨hlt,he⟩:=List.getElem?_eq_some_iff.1 hl
   have he:rs[k]=.row (.slice a 0 cap) T 1 0 cs:=he
   rw [← he]
   exact List.set_getElem_self hlt
  refine op_v (v:=S []) (w':=w) ?_ hd (h w (.row (.slice a 0 cap) T 1 0 cs) _ rfl (by rw [hs]; exact hS) fr' hd)
  have e3:=Lib.run_unsafeString_none (P:=P) w pt it ty p
  simp only [List.length_nil] at e2
  simp [execOp,resolve,invoke,builtin,e1,e2,e3,S]
  rfl
 ·obtain rfl:=ha h0
  obtain ⟨h1,h2⟩:=hS.get hl
  rcases h2 with ⟨hv,hn⟩ | ⟨g,o,cap',cur,hv,hg,hnc,hcm,hcs,htake⟩
  ·exact absurd (List.length_eq_zero_iff.1 hn) h0
  ·cases hv
   have hcell:∀ j x,l[j]?=some x→w.cell? ((⟨g,o,none⟩:Addr).add j)=some (.int .u8 x.toNat):=by
    intro j x hj
    have hjl:j<l.length:=(List.getElem?_eq_some_iff.1 hj).1
    rw [add_addr,cell_of_row w g (o+j) cur T (0,0) hg]
    have:=congrArg (fun t:List Value=>t[j]?) (htake.trans hm.bytes)
    simp only [List.getElem?_take,List.getElem?_drop,List.getElem?_map,hj] at this
    rw [if_pos (by omega)] at this
    simpa using this
   have e3:=run_unsafeString_off (P:=P) w pt it ty T hp hc g o cur.size (by simp [World.shape?,hg]) l h0 (by omega) (by unfold maxLen at hcm; omega) hcell
   obtain ⟨fr',hd⟩:=dt_ex fr dst (S l)
   have hlt:g<w.heap.size:=(Array.getElem?_eq_some_iff.1 hg).1
   have hw:(w.freeze ⟨g,o,none⟩ l.length).heap[g]?=some (.cells cur T (o,o+l.length)):=by
    have hl0:l.length≠0:=by simpa using h0
    simp [World.freeze,hl0,Array.getElem?_modify,hg]
   have hk:Keeps (fun k=>k≠g) w (w.freeze ⟨g,o,none⟩ l.length):=by
    unfold World.freeze
    split
    ·exact .refl w
    ·exact ⟨rfl,rfl,rfl,by simp,fun j _ hj=>by simp [Array.getElem?_modify,Ne.symm hj]⟩
   refine op_v (v:=S l) (w':=w.freeze ⟨g,o,none⟩ l.length) ?_ hd (h _ (.ro g T cur.toList) _ rfl (hS.put hl (b:=g) rfl rfl rfl ⟨_,hw⟩ hk) fr' hd)
   simp [execOp,resolve,invoke,builtin,e1,e2,e3,S]
theorem s_usd {e:TypeId} {x:Operand} {l:List UInt8} {v:Value} {cs:List Value} {a:Option Addr} {k cap:Nat} {ts:Array TypeId} (hp:P.underlying ty=some (.pointer e)) (hv:v=.slice a l.length cap)
  (hx:Ev fr x v) (hS:Sq μ w0 w rs) (hl:Lk rs k (.row v T 1 l.length cs))
  (h:∀ w' p,(l≠[]→p=a)→Sq μ w0 w' rs→Put fr dst (.pointer p) fun fr'=>K fr' ds w') :
  OW P (Oper.mk dst (.call { callee:=.builtin .unsafeSliceData,args:=#[x],argTypes:=ts }) ty pos after gg) fr ds w K Q:=by
 subst hv
 have e1:=hx ds
 cases a with
 | none =>
  obtain ⟨fr',hd⟩:=dt_ex fr dst (.pointer none)
  refine op_v (v:=.pointer none) (w':=w) ?_ hd (h w none (fun _=>rfl) hS fr' hd)
  simp [execOp,resolve,invoke,builtin,e1,Lib.run_unsafeSliceData_nil]
 | some a0 =>
  by_cases hc:cap=0
  ·subst hc
   obtain ⟨h1,h2⟩:=hS.get hl
   rcases h2 with ⟨hv,-⟩ | ⟨g,o,cap',cur,hv,hg,hnc,hcm,hcs,htake⟩
   ·cases hv
   ·cases hv
    have hl0:l=[]:=List.length_eq_zero_iff.1 (by omega)
    have e3:=Lib.run_unsafeSliceData_zero (P:=P) w ts ty e hp ⟨g,o,none⟩ l.length (T,cur.size) (by simp [World.shape?,hg])
    obtain ⟨fr',hd⟩:=dt_ex fr dst (.pointer (some ⟨w.heap.size,0,none⟩))
    refine op_v (v:=.pointer (some ⟨w.heap.size,0,none⟩)) (w':=w.alloc (.view ⟨g,o,none⟩ e)) ?_ hd (h (w.alloc (.view ⟨g,o,none⟩ e)) _ (fun hne=>absurd hl0 hne) (hS.grow ⟨rfl,rfl,rfl,by simp,fun k hk _=>by first | exact heap_alloc_old w _ k hk | exact heap_alloc_old w _ hk⟩) fr' hd)
    simp [execOp,resolve,invoke,builtin,e1,e3]
  ·obtain ⟨fr',hd⟩:=dt_ex fr dst (.pointer (some a0))
   refine op_v (v:=.pointer (some a0)) (w':=w) ?_ hd (h w (some a0) (fun _=>rfl) hS fr' hd)
   simp [execOp,resolve,invoke,builtin,e1,Lib.run_unsafeSliceData_row _ _ _ _ _ _ hc]
end
end Go.Xt
namespace Go.Xt
theorem oI {α : Type} {a b : α} (h : some a = some b) : a = b := Option.some.inj h
abbrev rg : Nat → Nat → List Nat := fun a b => List.range' a b
end Go.Xt
