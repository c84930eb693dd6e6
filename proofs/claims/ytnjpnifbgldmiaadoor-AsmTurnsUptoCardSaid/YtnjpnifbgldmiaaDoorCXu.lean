/- Texts of Xu. -/
import Derived.Test.YtnjpnifbgldmiaaDoorCXt
import Derived.Laws.IdiomCopy
import Derived.Shelf.Strconv.ParseIntPublic10
import Derived.Lib.IndexMore
import Derived.Sort.Row
import Derived.Lib.AppendStr
import Derived.Lib.ItoaNum
import Derived.Lib.UnsafeStr
set_option linter.unusedSimpArgs false
set_option linter.unusedVariables false
set_option linter.unusedSectionVars false
namespace Go.Xt
open Go.Wk Go.RowKit
section
variable {P:Program} {Q:Exit→Act→World→Prop} {K:List Value→List Deferred→World→Prop} {fr fr':List Value} {ds:List Deferred} {w w':World}
variable {dst:Option Tmp} {ty:TypeId} {pos:String} {after:Array Edge} {g:Option (Nat×Bool)}
variable {w0:World} {rs rs':List Res} {μ μ':M}
variable {T:TypeId} {d:TypeDesc} {ag:Bool} {zc:List Value} {n m:Nat}
theorem nilpe {t e:TypeId} (hu:P.underlying t=some (.pointer e)):EqV P 1 t (.pointer none) (.pointer none) true:=⟨fun d w hd=>by
 cases d with
 | zero=>omega
 | succ d=>simp [Op.equalIn,run_underlying hu]⟩
theorem u_nilpeql {x:Operand} {t t' e:TypeId} (hu:P.underlying t=some (.pointer e)) (hx:Ev fr x (.pointer none)):PU P (Oper.mk dst (.binOp .eql t x (.const (.pointer none)) t') ty pos after g) fr (.bool true):=⟨fun ds w=>by
 have h1:=hx ds
 have h2:(F fr ds).eval (.const (.pointer none))=.pointer none:=rfl
 have h3:=(nilpe hu).out Op.maxDepth w (by decide)
 simp [execOp,h1,h2,eqGuard,binOp,Op.equal,h3]⟩
theorem s_nilpeql {x:Operand} {t t' e:TypeId} (hu:P.underlying t=some (.pointer e)) (hx:Ev fr x (.pointer none)) (hp:Dt fr dst (.bool true) fr') (h:K fr' ds w):OW P (Oper.mk dst (.binOp .eql t x (.const (.pointer none)) t') ty pos after g) fr ds w K Q:=su (u_nilpeql hu hx) hp h
end
end Go.Xt
namespace Go.Xt
open Go.Wk Go.RowKit
instance:Mo UInt8 where
 sz:=1
 pos:=by decide
 cs _ l x:=l=[.int .u8 x.toNat]
 ln h:=by rw [h]; rfl
 up _ h:=h
 cv h:=by rw [h]; rfl
end Go.Xt
namespace Go.Xt
open Go.Wk Go.RowKit
section
variable {μ ν:M} {w0 w w':World} {rs:List Res} {T:TypeId}
theorem _root_.Go.Wk.Row.shape {v:Value} {sz n:Nat} {xs:List Value} (h:Row w v T sz n xs):∃ a c,v=.slice a n c:=by
 rcases h.2 with ⟨rfl,rfl⟩ | ⟨g,o,cap,cur,rfl,-⟩
 ·exact ⟨_,_,rfl⟩
 ·exact ⟨_,_,rfl⟩
end
section
variable {P:Program} {Q:Exit→Act→World→Prop} {K:List Value→List Deferred→World→Prop} {fr fr':List Value} {ds:List Deferred} {w w':World}
variable {dst:Option Tmp} {ty:TypeId} {pos:String} {after:Array Edge} {g:Option (Nat×Bool)} {T:TypeId} {ag:Bool} {zc:List Value} {rs rs':List Res} {μ:M} {w0:World}
end
end Go.Xt
namespace Go.Xt
open Go.Wk Go.RowKit
def fmt10 (n:Int):Option (List UInt8):=if -9223372036854775808≤n∧n≤9223372036854775807 then some (Lib.itoa n) else none
def Bp (_:M) (b:Nat) (v:Value):Prop:=v=.pointer none∨v=.pointer (some ⟨b,0,none⟩)
theorem Bp.nil {μ:M} {b:Nat}:Bp μ b (.pointer none):=.inl rfl
theorem Bp.up {μ μ':M} {b:Nat} {v:Value} (h:Bp μ b v) (_:Le μ μ'):Bp μ' b v:=h
section
variable {P:Program} {w:World} {T:TypeId} {zc:List Value} {n:Nat}
theorem run_append_str {t u ty:TypeId} (ht:P.underlying t=some (.slice T)) (hu:P.underlying u=some .string) (hE:TI P T false zc 1 1) (hz:zc=[.int .u8 0])
  {v:Value} {xs:List Value} (hown:Row w v T 1 n xs) (s:ByteArray) (h63:n+s.size≤maxLen) (hbytes:n+s.size≤140737488355328) :
  ∃ v' w',(Builtin.append_ #[t,u] ty #[v,.string s]).run P w=.ok v' w'∧Row w' v' T 1 (n+s.size) (xs++Lib.strCells s)∧Keeps (fun b=>some b≠v.ownBlock) w w' ∧
   (v'.ownBlock=v.ownBlock∨∃ b,v'.ownBlock=some b∧w.heap.size≤b):=by
 obtain ⟨i,z,hi,hiz,hzc,hsz,hby⟩:=hE.inf
 have hzs:z.cells.size=1:=by rw [hzc,hz]; rfl
 have hsmall:n+s.size≤9223372036854775807:=by simp only [maxLen] at h63; omega
 have hl:(Lib.strCells s).length=s.size:=Lib.strCells_length s
 have hxl:xs.length=n:=by simpa using hown.1
 have hlen:(xs++Lib.strCells s).length=(n+s.size)*1:=by rw [List.length_append,hxl,hl,Nat.mul_one]
 have grown:∀ (old:Nat),old<n+s.size→∀ (row:Option Nat),
   Row (w.drew.alloc (.cells (xs.toArray++(Lib.strCells s).toArray++Builtin.zeroCells z.cells (grownCap w (n+s.size) old T - (n+s.size))) T)) (.slice (some ⟨w.heap.size,0,none⟩) (n+s.size) (grownCap w (n+s.size) old T)) T 1 (n+s.size) (xs++Lib.strCells s) ∧
   Keeps (fun b=>some b≠row) w (w.drew.alloc (.cells (xs.toArray++(Lib.strCells s).toArray++Builtin.zeroCells z.cells (grownCap w (n+s.size) old T - (n+s.size))) T)):=by
  intro old ho row
  have hge:=grownCap_ge w (n+s.size) old T
  have hcm:grownCap w (n+s.size) old T≤maxLen:=grownCap_le_maxLen w (n+s.size) old T h63
  refine ⟨⟨hlen,.inr ⟨w.heap.size,0,_,_,rfl,heap_alloc_new w.drew _,hge,hcm,?_,?_⟩⟩,⟨rfl,rfl,rfl,by simp,fun k hk _=>by first | exact heap_alloc_old w.drew _ k hk | exact heap_alloc_old w.drew _ hk⟩⟩
  ·simp only [Array.size_append,List.size_toArray,size_zeroCells,hzs,hxl,hl]
   omega
  ·simp only [Array.toList_append,List.append_assoc,List.drop_zero]
   rw [← List.append_assoc,← hlen]
   exact List.take_left
 rcases hown.2 with ⟨rfl,rfl⟩ | ⟨g,o,cap,cur,rfl,hg,hnc,hcm,hcs,htake⟩
 ·have hx:xs=[]:=List.eq_nil_of_length_eq_zero hxl
  subst hx
  by_cases hm:s.size=0
  ·have hn:Lib.strCells s=[]:=List.eq_nil_of_length_eq_zero (by omega)
   refine ⟨.slice none 0 0,w,?_,⟨by simp [hn,hm],.inl ⟨rfl,by omega⟩⟩,.refl w,.inl rfl⟩
   have hf:=Lib.run_firstCells_string (P:=P) w i.size s
   rw [hm] at hf
   simp [Builtin.append_,run_underlying ht,run_underlying hu,sizeOf,typeInfo,hi,Builtin.lenOf,hm,Builtin.firstCells,loadCells,loadCellsFrom]
  ·have hr:=run_append_nil_string (P:=P) w t u ty T i z ht hu hi hiz s (by omega) (by omega) (by rw [hby]; omega)
   have hgr:=grown 0 (by omega) (Value.ownBlock (.slice none 0 0))
   simp only [Nat.zero_add,List.nil_append,Array.empty_append] at hgr ⊢
   refine ⟨_,_,hr,?_,?_,.inr ⟨_,rfl,Nat.le_refl _⟩⟩
   ·have e:(s.data.map fun b=>Value.int .u8 b.toNat)=(Lib.strCells s).toArray:=by
     apply Array.ext'
     simp [Lib.strCells]
    rw [e]
    exact hgr.1
   ·have e:(s.data.map fun b=>Value.int .u8 b.toNat)=(Lib.strCells s).toArray:=by
     apply Array.ext'
     simp [Lib.strCells]
    rw [e]
    exact hgr.2
 ·by_cases hroom:n+s.size≤cap
  ·have hfit:o+n+s.size≤cur.size:=by omega
   have hr:(Builtin.append_ #[t,u] ty #[.slice (some ⟨g,o,none⟩) n cap,.string s]).run P w =
     .ok (.slice (some ⟨g,o,none⟩) (n+s.size) cap) (w.setRow g (cur.toList.take (o+n)++Lib.strCells s++cur.toList.drop (o+n+s.size)).toArray):=by
    have hf:=Lib.run_firstCells_string (P:=P) w 1 s
    have hst:=run_storeCells_at P g (o+n) T (Lib.strCells s) 0 cur w hg (by simpa [hl] using hfit) (Lib.strCells_oneCell s)
    simp only [Nat.add_zero,hl] at hst
    simp [Builtin.append_,run_underlying ht,run_underlying hu,sizeOf,typeInfo,hi,hsz,Builtin.lenOf,hroom,hf,add_addr,hst]
   refine ⟨_,_,hr,⟨hlen,.inr ⟨g,o,cap,_,rfl,setRow_heap w g cur _ T _ hg,hroom,hcm,?_,?_⟩⟩,⟨rfl,rfl,rfl,by simp [World.setRow],fun k _ hk=>setRow_other w g k _ (fun e=>hk (by simp [Value.ownBlock,e]))⟩,.inl rfl⟩
   ·simp only [List.size_toArray,List.length_append,List.length_take,List.length_drop,Array.length_toList,hl]
    omega
   ·rw [← hlen,← htake]
    have e1:(cur.toList.take (o+n)).drop o=(cur.toList.drop o).take (n*1):=by
     rw [List.drop_take]; congr 1; omega
    have hlo:o≤(cur.toList.take (o+n)).length:=by simp; omega
    rw [List.append_assoc,List.drop_append_of_le_length hlo,e1,← List.append_assoc]
    exact List.take_left
  ·have holds:∀ j u,xs[j]?=some u→w.cell? ((⟨g,o,none⟩:Addr).add j)=some u:=by
    intro j u hu
    rw [add_addr,cell_of_row w g (o+j) cur T (0,0) hg]
    rw [← htake,List.getElem?_take] at hu
    split at hu
    ·rw [List.getElem?_drop] at hu; simpa using hu
    ·cases hu
   have hr:=Lib.run_append_grow_string (P:=P) w t u ty T i z ht hu hi hiz ⟨g,o,none⟩ n cap xs (by rw [hsz]; exact hown.1) holds s (by omega) (by omega) (growslice_fits (by omega) (by rw [hby]; omega))
   have hgr:=grown cap (by omega) (Value.ownBlock (.slice (some ⟨g,o,none⟩) n cap))
   exact ⟨_,_,hr,hgr.1,hgr.2,.inr ⟨_,rfl,Nat.le_refl _⟩⟩
end
section
variable {P:Program} {Q:Exit→Act→World→Prop} {K:List Value→List Deferred→World→Prop} {fr fr':List Value} {ds:List Deferred} {w:World}
variable {dst:Option Tmp} {ty:TypeId} {pos:String} {after:Array Edge} {g:Option (Nat×Bool)}
variable {w0:World} {rs rs':List Res} {μ μ':M}
variable {T:TypeId}
theorem s_appStr {t u:TypeId} {s x:Operand} {v:Value} {k:Nat} {cells:List Value} {l y l':List UInt8} (ht:P.underlying t=some (.slice T)) (hu:P.underlying u=some .string) (hE:TI P T false [.int .u8 0] 1 1)
  (hs:Ev fr s v) (hx:Ev fr x (S y)) (hS:Sq μ w0 w rs) (hl:Lk rs k (.row v T 1 l.length cells)) (gg:app l y=some l')
  (h:∀ v' w' rs',Pt rs k (.row v' T 1 l'.length (cells++Lib.strCells ⟨⟨y⟩⟩)) rs'→Sq μ w0 w' rs'→Put fr dst v' fun fr'=>K fr' ds w') :
  OW P (Oper.mk dst (.call { callee:=.builtin .append,args:=#[s,x],argTypes:=#[t,u] }) ty pos after g) fr ds w K Q:=by
 obtain ⟨h1,h2⟩:=app_len gg
 have hz:(⟨⟨y⟩⟩:ByteArray).size=y.length:=rfl
 obtain ⟨v',w',hr,hrow,hk,hv⟩:=run_append_str (P:=P) (ty:=ty) ht hu hE rfl (hS.get hl) ⟨⟨y⟩⟩ (by rw [hz]; unfold maxLen; omega) (by rw [hz]; omega)
 rw [hz,← h1] at hrow
 obtain ⟨fr',hd⟩:=dt_ex fr dst v'
 refine op_v (v:=v') (w':=w') ?_ hd (h v' w' _ rfl (hS.row hl rfl hrow hk hv) fr' hd)
 have e1:=hs ds
 have e2:=hx ds
 simp [execOp,resolve,invoke,builtin,e1,e2,S,hr]
end
theorem Rw.str {μ:M}:∀ y:List UInt8,Rw μ (Lib.strCells ⟨⟨y⟩⟩) y
 | []=>Rw.nil
 | c::y=>by
  exact Rw.cons (α:=UInt8) (cs:=[.int .u8 (c.toNat:Int)]) rfl (Rw.str y)
section
variable {P:Program} (w:World)
theorem liesAt_off {e:TypeId} (hc:P.cellsOf e=1) (count o n:Nat) (hn:o+n≤count):liesAt P P.depth e count o e n=true:=by
 have hd:P.depth=(2*(P.types.size+Made.depth)+1)+1:=rfl
 rw [hd]
 simp only [liesAt,Bool.or_eq_true]
 left
 rw [hd]
 simp [rowAt,hc,sameLayout]
 omega
theorem run_unsafeString_off (pt it ty e:TypeId) (hp:P.underlying pt=some (.pointer e)) (hc:P.cellsOf e=1) (g o cells:Nat) (hsh:w.shape? g=some (e,cells)) (l:List UInt8) (h0:l≠[]) (hn:o+l.length≤cells) (h63:l.length≤9223372036854775807)
  (hcell:∀ j x,l[j]?=some x→w.cell? ((⟨g,o,none⟩:Addr).add j)=some (.int .u8 x.toNat)) :
  (Builtin.unsafeString_ #[pt,it] ty #[.pointer (some ⟨g,o,none⟩),.int .i64 l.length]).run P w=.ok (.string ⟨l.toArray⟩) (w.freeze ⟨g,o,none⟩ l.length):=by
 have hl:l.length≠0:=by simpa using h0
 have hlb:=Lib.run_loadBytes (P:=P) w l ⟨g,o,none⟩ .empty hcell
 have hlies:=liesAt_off (P:=P) hc (cells / P.cellsOf e) o l.length (by rw [hc]; simpa using hn)
 have h63':¬ (9223372036854775807:Int)<(l.length:Int):=by omega
 have hdef:Builtin.unsafeString_ #[pt,it] ty #[.pointer (some ⟨g,o,none⟩),.int .i64 l.length] =
   (do
    let n ← asInt (.int .i64 l.length)
    if n < 0 then runtimePanic (.error "unsafe.String: len out of range")
    if n > IntKind.i64.max then unsupported (.unsafePointer "String: a length above the largest int")
    if n=0 then pure (.string .empty)
    else if ← variablesAt ⟨g,o,none⟩ (← elemOf pt) n.toNat then do
     let s ← loadBytes ⟨g,o,none⟩ .empty n.toNat
     freeze ⟨g,o,none⟩ n.toNat
     pure (.string s)
    else unsupported (.unsafePointer "String: not so many bytes at ptr")) := rfl
 rw [hdef]
 have hmax:IntKind.i64.max=9223372036854775807:=rfl
 have hneg:¬ (l.length:Int)<0:=by omega
 simp [asInt,asIntOf,hmax,h63',hneg,hl,variablesAt,hsh,elemOf,run_underlying hp,hlies,hlb]
end
end Go.Xt
namespace Go.Xt
abbrev wd (l:List UInt8) (p:Nat):Nat:=(Utf8.decode ⟨⟨l⟩⟩ p).2
end Go.Xt
namespace Go.Xt
open Go.Wk Go.RowKit
theorem Rw.bytes {μ:M}:∀ {l:List UInt8} {cs:List Value},Rw μ cs l→cs=l.map fun x=>.int .u8 (x.toNat:Int)
 | [],cs,h=>h
 | c::l,cs,h=>by
  obtain ⟨a,t,rfl,h1,h2⟩:=h
  have h1:a=[.int .u8 (c.toNat:Int)]:=h1
  rw [h1,Rw.bytes h2]
  rfl
section
variable {P:Program} {Q:Exit→Act→World→Prop} {K:List Value→List Deferred→World→Prop} {fr fr':List Value} {ds:List Deferred} {w:World}
variable {dst:Option Tmp} {ty:TypeId} {pos:String} {after:Array Edge} {gg:Option (Nat×Bool)}
variable {w0:World} {rs rs':List Res} {μ μ':M}
variable {T:TypeId}
theorem s_ustr {pt it:TypeId} {x y:Operand} {l:List UInt8} {v:Value} {cs:List Value} {a p:Option Addr} {k cap:Nat} (ha:l≠[]→p=a) (hp:P.underlying pt=some (.pointer T)) (hc:P.cellsOf T=1) (hv:v=.slice a l.length cap)
  (hx:Ev fr x (.pointer p)) (hy:Ev fr y (.int .i64 (l.length:Int))) (hS:Sq μ w0 w rs) (hl:Lk rs k (.row v T 1 l.length cs)) (hm:Rw μ cs l)
  (h:∀ w' r' rs',Pt rs k r' rs'→Sq μ w0 w' rs'→Put fr dst (S l) fun fr'=>K fr' ds w') :
  OW P (Oper.mk dst (.call { callee:=.builtin .unsafeString,args:=#[x,y],argTypes:=#[pt,it] }) ty pos after gg) fr ds w K Q:=by
 subst hv
 have e1:=hx ds
 have e2:=hy ds
 by_cases h0:l=[]
 ·subst h0
  obtain ⟨fr',hd⟩:=dt_ex fr dst (S [])
  have hs:rs.set k (.row (.slice a 0 cap) T 1 0 cs)=rs:=by
   obtain ⟨hlt,he⟩:=List.getElem?_eq_some_iff.1 hl
   have he:rs[k]=.row (.slice a 0 cap) T 1 0 cs:=he
   rw [← he]
   exact List.set_getElem_self hlt
  refine op_v (v:=S []) (w':=w) ?_ hd (h w (.row (.slice a 0 cap) T 1 0 cs) _ rfl (by rw [hs]; exact hS) fr' hd)
  have e3:=Lib.run_unsafeString_none (P:=P) w pt it ty p
  simp only [List.length_nil] at e2
  simp [execOp,resolve,invoke,builtin,e1,e2,e3,S]
  rfl
 ·obtain rfl:=ha h0
  obtain ⟨h1,h2⟩:=hS.get hl
  rcases h2 with ⟨hv,hn⟩ | ⟨g,o,cap',cur,hv,hg,hnc,hcm,hcs,htake⟩
  ·exact absurd (List.length_eq_zero_iff.1 hn) h0
  ·cases hv
   have hcell:∀ j x,l[j]?=some x→w.cell? ((⟨g,o,none⟩:Addr).add j)=some (.int .u8 x.toNat):=by
    intro j x hj
    have hjl:j<l.length:=(List.getElem?_eq_some_iff.1 hj).1
    rw [add_addr,cell_of_row w g (o+j) cur T (0,0) hg]
    have:=congrArg (fun t:List Value=>t[j]?) (htake.trans hm.bytes)
    simp only [List.getElem?_take,List.getElem?_drop,List.getElem?_map,hj] at this
    rw [if_pos (by omega)] at this
    simpa using this
   have e3:=run_unsafeString_off (P:=P) w pt it ty T hp hc g o cur.size (by simp [World.shape?,hg]) l h0 (by omega) (by unfold maxLen at hcm; omega) hcell
   obtain ⟨fr',hd⟩:=dt_ex fr dst (S l)
   have hlt:g<w.heap.size:=(Array.getElem?_eq_some_iff.1 hg).1
   have hw:(w.freeze ⟨g,o,none⟩ l.length).heap[g]?=some (.cells cur T (o,o+l.length)):=by
    have hl0:l.length≠0:=by simpa using h0
    simp [World.freeze,hl0,Array.getElem?_modify,hg]
   have hk:Keeps (fun k=>k≠g) w (w.freeze ⟨g,o,none⟩ l.length):=by
    unfold World.freeze
    split
    ·exact .refl w
    ·exact ⟨rfl,rfl,rfl,by simp,fun j _ hj=>by simp [Array.getElem?_modify,Ne.symm hj]⟩
   refine op_v (v:=S l) (w':=w.freeze ⟨g,o,none⟩ l.length) ?_ hd (h _ (.ro g T cur.toList) _ rfl (hS.put hl (b:=g) rfl rfl rfl ⟨_,hw⟩ hk) fr' hd)
   simp [execOp,resolve,invoke,builtin,e1,e2,e3,S]
theorem s_usd {e:TypeId} {x:Operand} {l:List UInt8} {v:Value} {cs:List Value} {a:Option Addr} {k cap:Nat} {ts:Array TypeId} (hp:P.underlying ty=some (.pointer e)) (hv:v=.slice a l.length cap)
  (hx:Ev fr x v) (hS:Sq μ w0 w rs) (hl:Lk rs k (.row v T 1 l.length cs))
  (h:∀ w' p,(l≠[]→p=a)→Sq μ w0 w' rs→Put fr dst (.pointer p) fun fr'=>K fr' ds w') :
  OW P (Oper.mk dst (.call { callee:=.builtin .unsafeSliceData,args:=#[x],argTypes:=ts }) ty pos after gg) fr ds w K Q:=by
 subst hv
 have e1:=hx ds
 cases a with
 | none =>
  obtain ⟨fr',hd⟩:=dt_ex fr dst (.pointer none)
  refine op_v (v:=.pointer none) (w':=w) ?_ hd (h w none (fun _=>rfl) hS fr' hd)
  simp [execOp,resolve,invoke,builtin,e1,Lib.run_unsafeSliceData_nil]
 | some a0 =>
  by_cases hc:cap=0
  ·subst hc
   obtain ⟨h1,h2⟩:=hS.get hl
   rcases h2 with ⟨hv,-⟩ | ⟨g,o,cap',cur,hv,hg,hnc,hcm,hcs,htake⟩
   ·cases hv
   ·cases hv
    have hl0:l=[]:=List.length_eq_zero_iff.1 (by omega)
    have e3:=Lib.run_unsafeSliceData_zero (P:=P) w ts ty e hp ⟨g,o,none⟩ l.length (T,cur.size) (by simp [World.shape?,hg])
    obtain ⟨fr',hd⟩:=dt_ex fr dst (.pointer (some ⟨w.heap.size,0,none⟩))
    refine op_v (v:=.pointer (some ⟨w.heap.size,0,none⟩)) (w':=w.alloc (.view ⟨g,o,none⟩ e)) ?_ hd (h (w.alloc (.view ⟨g,o,none⟩ e)) _ (fun hne=>absurd hl0 hne) (hS.grow ⟨rfl,rfl,rfl,by simp,fun k hk _=>by first | exact heap_alloc_old w _ k hk | exact heap_alloc_old w _ hk⟩) fr' hd)
    simp [execOp,resolve,invoke,builtin,e1,e3]
  ·obtain ⟨fr',hd⟩:=dt_ex fr dst (.pointer (some a0))
   refine op_v (v:=.pointer (some a0)) (w':=w) ?_ hd (h w (some a0) (fun _=>rfl) hS fr' hd)
   simp [execOp,resolve,invoke,builtin,e1,Lib.run_unsafeSliceData_row _ _ _ _ _ _ hc]
end
end Go.Xt
namespace Go.Xt
theorem oI {α : Type} {a b : α} (h : some a = some b) : a = b := Option.some.inj h
abbrev rg : Nat → Nat → List Nat := fun a b => List.range' a b
end Go.Xt
