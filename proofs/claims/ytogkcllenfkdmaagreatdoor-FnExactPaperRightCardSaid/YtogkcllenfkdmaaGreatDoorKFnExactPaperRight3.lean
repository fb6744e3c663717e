-- Merged by a program of this session (wip/tool/pack.py) out of its own texts for this claim.
import Derived.Laws.CopyOwn
import Derived.Lib.AppendZerosOnto
import Derived.Lib.Overlaps
import Derived.Laws.NewBlocks
import Derived.WalkSpells
import Derived.Shelf.Small.Strs
import Derived.Shelf.Strconv.Itoa0
import Derived.Shelf.Strconv.Itoa1
import Derived.Shelf.LaysM
import Derived.Shelf.Strconv.Itoa2
import Derived.Shelf.Strconv.Itoa3
import Derived.Shelf.Strconv.Itoa4
import Derived.Shelf.Strconv.ParseIntEmpty
import Derived.Shelf.Strconv.Clone
import Derived.Shelf.Strconv.SyntaxError
import Derived.Shelf.LaysC
import Derived.Shelf.Strconv.ToError
import Derived.Shelf.Strconv.Lower
import Derived.Shelf.Strconv.ParseUint10
import Derived.Shelf.Strconv.ParseUint10Empty
import Derived.Shelf.Strconv.ParseUint10Any
import Derived.Shelf.Strconv.ParseInt10
import Derived.Shelf.Strconv.RangeError
import Derived.Shelf.Strconv.ToErrorRange
import Derived.Shelf.Strconv.ParseUintEmpty
import Derived.Shelf.Strconv.ParseUint10b64
import Derived.Shelf.Strconv.ParseUint10b32
import Derived.Shelf.Strconv.ParseUint10b16
import Derived.Shelf.Strconv.ParseUint10b8
import Derived.Shelf.Strconv.ParseUint10At
import Derived.Shelf.Strconv.ParseInt10At64
import Derived.Shelf.Strconv.ParseInt10At32
import Derived.Shelf.Strconv.ParseInt10At16
import Derived.Shelf.Strconv.ParseInt10At8
import Derived.Shelf.Strconv.ParseInt10All
import Derived.Shelf.Strconv.ParseIntPublic10
import Derived.Shelf.Strconv.ErrVarParseInt
import Derived.Shelf.Strings.Search1
import Derived.Shelf.Strings.Search2
import Derived.Shelf.Strings.Cut
import Derived.Shelf.Strings.Shaped
import Derived.Test.YtogkcllenfkdmaaGreatDoorProg
import Derived.WalkKit
import Derived.Laws.Strings
import Derived.Below
import Derived.Deep.Draws
import Derived.Deep.AppendLies
import Derived.Maps.AppendAt
import Derived.OwnWalk
import Derived.Laws.BytesArg
import Derived.Laws.MakeOwn
import Derived.Laws.OwnMore
import Derived.Deep.OwnRows
import Derived.Tactics
import Derived.Lib.ConvBytes
import Derived.Laws.Slices
import Derived.KernelRfl
import Derived.RowKit3
import Derived.Deep.LoopGhost
import Derived.Deep.QuietTactic
import Derived.BigQuiet
import Derived.WideLaws
import Derived.Deep.DeepCutAuto
import Derived.Deep.CutBlock
import Derived.Deep.RegionHeld3
import Derived.Laws.Rows
import Derived.Lib.AppendStr
import Derived.ArgAppend
import Derived.Laws.IdiomCopy
import Derived.OrdersHeld
import Derived.Laws.BitsLemmas
import Derived.RowKit
import Derived.StillTailTactics
import Derived.Lib.Bytealg
import Derived.Room.Shelf.Join48
import Derived.Lib.AppendIntMem
import Derived.Lib.OthersKept
import Derived.Test.YtogkcllenfkdmaaGreatDoorKFnExactPaperRight0
import Derived.Test.YtogkcllenfkdmaaGreatDoorKFnExactPaperRight1
import Derived.Test.YtogkcllenfkdmaaGreatDoorKFnExactPaperRight2
namespace Go.Proofs.YtogkcllenfkdmaaGreatDoorW.PrintMore
open Go.RowKit Go.Proofs.YtogkcllenfkdmaaGreatDoorW.PrintWords Go.Proofs.YtogkcllenfkdmaaGreatDoorW.PrintLast
theorem jsz_mk (a:Array UInt8):(ByteArray.mk a).size=a.size:=rfl
section
variable {P : Program} {ops : Array Oper} {Q : Exit → Act → World → Prop} {md : Region.Mode} {S : World → Prop} {ds : List Nat} {T : Bool × List (List Nat × List Nat)} {B : List Nat} {fuel : Nat} {l : Array Bool} {a a' : Act} {w : World} {oi : Oper} {v : Value}
theorem pA (i N:Nat) (hT:Aside0 (rtab md ops=T)) (h:wpAnyLast P md ops Q S ds fuel (l.setIfInBounds i true) a' w)
  (hi:ops[i]? = some oi:=by exact rfl) (hN:oi.dst=some N:=by exact rfl) (hc:anyT T l.toList (l.setIfInBounds i true).toList i=true:=by kernel_rfl)
  (hw:Region.wanted oi (yielded ops a.tmps)=true:=by rfl) (hy:∀ w,(execOp a.eval oi).run P w=.ok (.value v) w:=by (intro w';go_simp;with_reducible rfl))
  (ha:a.put (some N) v=a':=by (simp only [Act.put,List.setIfInBounds_toArray,List.set_cons_zero,List.set_cons_succ,i64_w,i32_w];rfl))
  (hQ:∀ c a w,Q (.panic c) (a.put oi.dst v) w→Q (.panic c) a w:=by exact fun _ _ _ h=>h):wpAnyLast P md ops Q S ds (fuel+1) l a w :=
 pure_ _ hi hN (any_of hT.out hc) hQ (Or.inl ⟨hw,hy⟩) ha h
theorem pB (i N:Nat) (hT:Aside0 (rtab md ops=T)) (h:wpAnyLast P md ops Q S ds fuel (l.setIfInBounds i true) a' w)
  (hi:ops[i]? = some oi:=by exact rfl) (hN:oi.dst=some N:=by exact rfl) (hc:anyT T l.toList (l.setIfInBounds i true).toList i=true:=by kernel_rfl)
  (hw:Region.wanted oi (yielded ops a.tmps)=false:=by rfl)
  (ha:a.put (some N) undef=a':=by (simp only [Act.put,List.setIfInBounds_toArray,List.set_cons_zero,List.set_cons_succ,i64_w,i32_w];rfl))
  (hQ:∀ c a w,Q (.panic c) (a.put oi.dst undef) w→Q (.panic c) a w:=by exact fun _ _ _ h=>h):wpAnyLast P md ops Q S ds (fuel+1) l a w :=
 pure_ _ hi hN (any_of hT.out hc) hQ (Or.inr ⟨hw,rfl⟩) ha h
theorem tA (i N:Nat) (hT:Aside0 (rtab md ops=T)) (hB:Aside0 (waitsOk T.2 B=true)) (hS:S w) (h:wpAnyLast P md ops Q S ds fuel (l.setIfInBounds i true) a' w)
  (hi:ops[i]? = some oi:=by exact rfl) (hN:oi.dst=some N:=by exact rfl) (hc:takeW T B ds l.toList (l.setIfInBounds i true).toList i=true:=by kernel_rfl)
  (hw:Region.wanted oi (yielded ops a.tmps)=true:=by rfl) (hy:∀ w,S w→(execOp a.eval oi).run P w=.ok (.value v) w:=by (intro w' hs;go_simp;with_reducible rfl))
  (ha:a.put (some N) v=a':=by (simp only [Act.put,List.setIfInBounds_toArray,List.set_cons_zero,List.set_cons_succ,i64_w,i32_w];rfl))
  (hQ:∀ c a w,Q (.panic c) (a.put oi.dst v) w→Q (.panic c) a w:=by exact fun _ _ _ h=>h):wpAnyLast P md ops Q S ds (fuel+1) l a w :=
 take_ _ hi hN (take_ofW hT.out hB.out hc) hQ (Or.inl ⟨hw,hy⟩) hS ha h
theorem oA (i N:Nat) (hT:Aside0 (rtab md ops=T))
  (h:∀ K:Act→World→Prop,Shut (∀ a' w',S w'→(S w'→wpAnyLast P md ops Q S ds fuel (l.setIfInBounds i true) a' w')→K a' w')→if Region.wanted oi (yielded ops a.tmps)=true then Oper.wp P oi a w K Q else K (a.put (some N) undef) w)
  (hi:ops[i]? = some oi:=by exact rfl) (hN:oi.dst=some N:=by exact rfl) (hc:(readyT T.2 l.toList == [i] && l.toList.set i true == (l.setIfInBounds i true).toList)=true:=by kernel_rfl) (hd:i ∉ ds:=by decide):wpAnyLast P md ops Q S ds (fuel+1) l a w :=
 one_ _ hi hN (one_of hT.out hc) hd h
theorem gA {N : Option Tmp} {K : Act → World → Prop} {f : FuncId} {fn : Func} {as_0 : Array Operand} {ts : Array TypeId} (hf : P.funcs[f]? = some fn) (args : Array Value)
    (h : Calls P f args w fun e w' => ∃ v, e = .returned v ∧ K (a.put N v) w') (hname : (fn.name == "runtime.NumGoroutine") = false := by kernel_rfl) (hb : fn.body.isSome = true := by exact rfl)
    (hw : Region.wanted oi (yielded ops a.tmps) = true := by rfl) (hN : oi.dst = N := by exact rfl) (hop : oi.op = .call { callee := .value (.func f), args := as_0, argTypes := ts } := by exact rfl)
    (hargs : as_0.map a.eval = args := by (try simp only [List.map_toArray, List.map_cons, List.map_nil]); first | done | rfl | (simp only [List.length_drop, List.length_take]; rfl)) : if Region.wanted oi (yielded ops a.tmps) = true then Oper.wp P oi a w K Q else K (a.put N undef) w :=
  goes_ hf hname hb args hw hN hop hargs h
theorem nA (N:Nat) (h:wpAnyLast P md ops Q S ds fuel l a' w) (ha:a.put (some N) v=a':=by (simp only [Act.put,List.setIfInBounds_toArray,List.set_cons_zero,List.set_cons_succ,i64_w,i32_w];rfl)):wpAnyLast P md ops Q S ds fuel l (a.put (some N) v) w:=norm_ ha h
end
section
variable {P : Program} {ops : Array Oper} {Q : Exit → Act → World → Prop} {o : Oper} {rest : List Oper} {a : Act}
theorem bx {W:World} (N:Tmp) {cs:Array Value} {t:TypeId} (h:∀ g,g=W.heap.size→∀ w1,w1.heap[g]? = some (.cells cs t (0,0))→Below W.heap.size W w1→wpList P ops Q rest (a.put o.dst (.pointer (some ⟨g,0,none⟩))) w1)
  (hd:o.dst=some N:=by rfl) (hg:o.guard=none:=by rfl) (hr:(execOp a.eval o).run P W=.ok (.value (.pointer (some ⟨W.heap.size,0,none⟩))) (W.alloc (.cells cs t (0,0))):=by first|(go_simp;done)|(go_simp;rfl)):wpList P ops Q (o :: rest) a W :=
 box_event hg hd hr h
end
theorem _root_.Go.Proofs.YtogkcllenfkdmaaGreatDoorW.PrintWords.KeepBut.far {w w1 w2:World} {g gl:Nat} {row:Option Nat} (h:KeepBut w w1 g row) (k:KeepBut w1 w2 gl none) (hge:w.heap.size≤gl):KeepBut w w2 g row :=
 ⟨Nat.le_trans h.1 k.1,fun i hi hg hr=>(k.2 i (Nat.lt_of_lt_of_le hi h.1) (by omega) (by simp)).trans (h.2 i hi hg hr)⟩
theorem bs {w W W':World} (h:Aside0 (Below w.heap.size w W)) (e:Below w.heap.size w W→Below w.heap.size w W':=by (intro h;repeat (first|(with_reducible first|exact h|apply below_alloc|apply pw_below_drewN|apply below_drew1)|refine below_set ?_ (Aside0.out (by assumption))|exact h))):Below w.heap.size w W':=e h.out
theorem ks {W W':World} {g:Nat} {t:TypeId} {cs:Array Value} (h:Aside0 (W.heap[g]? = some (.cells cs t (0,0)))) (e:W.heap[g]? = some (.cells cs t (0,0))→W'.heap[g]? = some (.cells cs t (0,0)):=by (intro h;repeat (first|(with_reducible first|exact h|refine blk_drewN ?_ _|refine blk_drew ?_|refine blk_alloc ?_ _)|refine blk_far ?_ (Aside0.out (by assumption)) _|exact h))):W'.heap[g]? = some (.cells cs t (0,0)):=e h.out
theorem rs {α:Type} {d:Kd α} {e base:Nat} {W W':World} {ok:Nat→Prop} {v:Value} {xs:List α} (h:Aside0 (d.R e W base ok v xs)) (k:d.R e W base ok v xs→d.R e W' base ok v xs:=by (intro h;(with_reducible repeat (first|apply Kd.R_alloc|apply Kd.R_drewN|apply Kd.R_drew));exact h)):d.R e W' base ok v xs:=k h.out
theorem put0 {w:World} {g:Nat} {t:TypeId} {cs:Array Value} (h:w.heap[g]? = some (.cells cs t (0,0))) (i:Nat) (u:Value):(w.setCell ⟨g,i,none⟩ u).heap[g]? = some (.cells (cs.setIfInBounds i u) t (0,0)):=blk_put h i u rfl
theorem fin0 {w:World} {g:Nat} {t:TypeId} {cs cs':Array Value} (h:w.heap[g]? = some (.cells cs t (0,0))) (e:cs=cs'):w.heap[g]? = some (.cells cs' t (0,0)):=e ▸ h
theorem far0 {w:World} {g:Nat} {t:TypeId} {p:Addr} (hp:Aside0 (g≠p.block)) {cs:Array Value} (h:w.heap[g]? = some (.cells cs t (0,0))) (u:Value):(w.setCell p u).heap[g]? = some (.cells cs t (0,0)):=blk_far h hp.out u
theorem kp {W W':World} {g:Nat} {t:TypeId} {cs cs':Array Value} (h:Aside0 (W.heap[g]? = some (.cells cs t (0,0)))) (e:W.heap[g]? = some (.cells cs t (0,0))→W'.heap[g]? = some (.cells cs' t (0,0)):=by (intro h;apply fin0;(· repeat (first|(with_reducible first|exact h|refine blk_drewN ?_ _|refine blk_drew ?_|refine blk_alloc ?_ _)|(with_reducible apply put0)|((with_reducible apply far0);assumption)|exact h));(· first|(simp only [List.setIfInBounds_toArray,List.set_cons_zero,List.set_cons_succ];done)|rfl))):W'.heap[g]? = some (.cells cs' t (0,0)):=e h.out
theorem gs {w W:World} {g:Nat} (hg:g=W.heap.size) (h:Below w.heap.size w W):w.heap.size≤g:=hg ▸ h.size
theorem gn {W:World} {g g':Nat} {o:Obj} (hg:g'=W.heap.size) (h:W.heap[g]? = some o):g≠g':=by rw [hg];exact Nat.ne_of_lt (blk_lt h)
theorem gm {W:World} {g g':Nat} {o:Obj} (hg:g'=W.heap.size) (h:W.heap[g]? = some o):g'≠g:=(gn hg h).symm
theorem oa {p:Prop} [Decidable p] (h:decide p=true:=by first|(with_reducible assumption)|assumption):p:=of_decide_eq_true h
theorem rf {α:Type} {d:Kd α} {e base:Nat} {W W':World} {ok:Nat→Prop} {v:Value} {xs:List α} (h:d.R e W base ok v xs) (k:d.R e W base ok v xs→d.R e W' base ok v xs:=by (intro h;repeat (first|(with_reducible first|exact h|apply Kd.R_alloc|apply Kd.R_drewN|apply Kd.R_drew)|refine Kd.R_far ?_ (fun _ hk=>hk.2) _|exact h))):d.R e W' base ok v xs:=k h
theorem cb {w W:World} {p:Addr} {v:Value} (h:Aside0 (Below w.heap.size w W)) (hx:w.cell? p=some v):W.cell? p=some v:=(h.out.cell (World.block_lt_of_cell? w _ hx)).trans hx
theorem ff {p:Prop} (h:p:=by first|rfl|(simp [errW_none,errW_some] <;> rfl)|(simp [*,errW_none,errW_some] <;> rfl)):p:=h
theorem fg {p:Prop} (h:p:=by first|rfl|(simp;done)|(simp [*];done)):p:=h
theorem fl {m n:Nat} (h:m≤n:=by first|omega|exact Nat.le_refl _):m≤n:=h
theorem cf1 {w:World} {g:Nat} {t:TypeId} {v0:Value} (h:Aside0 (w.heap[g]? = some (.cells #[v0] t (0,0)))):w.cell? ⟨g,0,none⟩=some v0∧w.frozen? ⟨g,0,none⟩=false :=
 ⟨(blk_cell h.out 0).trans rfl,blk_frozen h.out 0⟩
theorem cf2 {w:World} {g:Nat} {t:TypeId} {v0 v1:Value} (h:Aside0 (w.heap[g]? = some (.cells #[v0,v1] t (0,0)))):w.cell? ⟨g,0,none⟩=some v0∧w.cell? ⟨g,1,none⟩=some v1∧w.frozen? ⟨g,0,none⟩=false∧w.frozen? ⟨g,1,none⟩=false :=
 ⟨(blk_cell h.out 0).trans rfl,(blk_cell h.out 1).trans rfl,blk_frozen h.out 0,blk_frozen h.out 1⟩
theorem cf3 {w:World} {g:Nat} {t:TypeId} {v0 v1 v2:Value} (h:Aside0 (w.heap[g]? = some (.cells #[v0,v1,v2] t (0,0)))):w.cell? ⟨g,0,none⟩=some v0∧w.cell? ⟨g,1,none⟩=some v1∧w.cell? ⟨g,2,none⟩=some v2∧w.frozen? ⟨g,0,none⟩=false∧w.frozen? ⟨g,1,none⟩=false∧w.frozen? ⟨g,2,none⟩=false :=
 ⟨(blk_cell h.out 0).trans rfl,(blk_cell h.out 1).trans rfl,(blk_cell h.out 2).trans rfl,blk_frozen h.out 0,blk_frozen h.out 1,blk_frozen h.out 2⟩
theorem cf4 {w:World} {g:Nat} {t:TypeId} {v0 v1 v2 v3:Value} (h:Aside0 (w.heap[g]? = some (.cells #[v0,v1,v2,v3] t (0,0)))):w.cell? ⟨g,0,none⟩=some v0∧w.cell? ⟨g,1,none⟩=some v1∧w.cell? ⟨g,2,none⟩=some v2∧w.cell? ⟨g,3,none⟩=some v3∧w.frozen? ⟨g,0,none⟩=false∧w.frozen? ⟨g,1,none⟩=false∧w.frozen? ⟨g,2,none⟩=false∧w.frozen? ⟨g,3,none⟩=false :=
 ⟨(blk_cell h.out 0).trans rfl,(blk_cell h.out 1).trans rfl,(blk_cell h.out 2).trans rfl,(blk_cell h.out 3).trans rfl,blk_frozen h.out 0,blk_frozen h.out 1,blk_frozen h.out 2,blk_frozen h.out 3⟩
theorem cf5 {w:World} {g:Nat} {t:TypeId} {v0 v1 v2 v3 v4:Value} (h:Aside0 (w.heap[g]? = some (.cells #[v0,v1,v2,v3,v4] t (0,0)))):w.cell? ⟨g,0,none⟩=some v0∧w.cell? ⟨g,1,none⟩=some v1∧w.cell? ⟨g,2,none⟩=some v2∧w.cell? ⟨g,3,none⟩=some v3∧w.cell? ⟨g,4,none⟩=some v4∧w.frozen? ⟨g,0,none⟩=false∧w.frozen? ⟨g,1,none⟩=false∧w.frozen? ⟨g,2,none⟩=false∧w.frozen? ⟨g,3,none⟩=false∧w.frozen? ⟨g,4,none⟩=false :=
 ⟨(blk_cell h.out 0).trans rfl,(blk_cell h.out 1).trans rfl,(blk_cell h.out 2).trans rfl,(blk_cell h.out 3).trans rfl,(blk_cell h.out 4).trans rfl,blk_frozen h.out 0,blk_frozen h.out 1,blk_frozen h.out 2,blk_frozen h.out 3,blk_frozen h.out 4⟩
theorem cf6 {w:World} {g:Nat} {t:TypeId} {v0 v1 v2 v3 v4 v5:Value} (h:Aside0 (w.heap[g]? = some (.cells #[v0,v1,v2,v3,v4,v5] t (0,0)))):w.cell? ⟨g,0,none⟩=some v0∧w.cell? ⟨g,1,none⟩=some v1∧w.cell? ⟨g,2,none⟩=some v2∧w.cell? ⟨g,3,none⟩=some v3∧w.cell? ⟨g,4,none⟩=some v4∧w.cell? ⟨g,5,none⟩=some v5∧w.frozen? ⟨g,0,none⟩=false∧w.frozen? ⟨g,1,none⟩=false∧w.frozen? ⟨g,2,none⟩=false∧w.frozen? ⟨g,3,none⟩=false∧w.frozen? ⟨g,4,none⟩=false∧w.frozen? ⟨g,5,none⟩=false :=
 ⟨(blk_cell h.out 0).trans rfl,(blk_cell h.out 1).trans rfl,(blk_cell h.out 2).trans rfl,(blk_cell h.out 3).trans rfl,(blk_cell h.out 4).trans rfl,(blk_cell h.out 5).trans rfl,blk_frozen h.out 0,blk_frozen h.out 1,blk_frozen h.out 2,blk_frozen h.out 3,blk_frozen h.out 4,blk_frozen h.out 5⟩
theorem cf8 {w:World} {g:Nat} {t:TypeId} {v0 v1 v2 v3 v4 v5 v6 v7:Value} (h:Aside0 (w.heap[g]? = some (.cells #[v0,v1,v2,v3,v4,v5,v6,v7] t (0,0)))):w.cell? ⟨g,0,none⟩=some v0∧w.cell? ⟨g,1,none⟩=some v1∧w.cell? ⟨g,2,none⟩=some v2∧w.cell? ⟨g,3,none⟩=some v3∧w.cell? ⟨g,4,none⟩=some v4∧w.cell? ⟨g,5,none⟩=some v5∧w.cell? ⟨g,6,none⟩=some v6∧w.cell? ⟨g,7,none⟩=some v7∧w.frozen? ⟨g,0,none⟩=false∧w.frozen? ⟨g,1,none⟩=false∧w.frozen? ⟨g,2,none⟩=false∧w.frozen? ⟨g,3,none⟩=false∧w.frozen? ⟨g,4,none⟩=false∧w.frozen? ⟨g,5,none⟩=false∧w.frozen? ⟨g,6,none⟩=false∧w.frozen? ⟨g,7,none⟩=false :=
 ⟨(blk_cell h.out 0).trans rfl,(blk_cell h.out 1).trans rfl,(blk_cell h.out 2).trans rfl,(blk_cell h.out 3).trans rfl,(blk_cell h.out 4).trans rfl,(blk_cell h.out 5).trans rfl,(blk_cell h.out 6).trans rfl,(blk_cell h.out 7).trans rfl,blk_frozen h.out 0,blk_frozen h.out 1,blk_frozen h.out 2,blk_frozen h.out 3,blk_frozen h.out 4,blk_frozen h.out 5,blk_frozen h.out 6,blk_frozen h.out 7⟩
theorem am {p:Prop} (h:p):Aside0 p:=⟨h⟩
abbrev qk2a (w:World) (g:Nat) (v0 v1:Value) (q:Prop):Prop:=w.cell? ⟨g,0,none⟩=some v0∧w.cell? ⟨g,1,none⟩=some v1∧q
theorem qb2a {q:Prop} {w:World} {g:Nat} {t:TypeId} {v0 v1:Value} (h:Aside0 (w.heap[g]? = some (.cells #[v0,v1] t (0,0)))) (z:q):qk2a w g v0 v1 q:=⟨(blk_cell h.out 0).trans rfl,(blk_cell h.out 1).trans rfl,z⟩
abbrev qk5 (w:World) (g:Nat) (v0 v1 v2 v3 v4:Value):Prop:=w.cell? ⟨g,0,none⟩=some v0∧w.cell? ⟨g,1,none⟩=some v1∧w.cell? ⟨g,2,none⟩=some v2∧w.cell? ⟨g,3,none⟩=some v3∧w.cell? ⟨g,4,none⟩=some v4
abbrev qk5a (w:World) (g:Nat) (v0 v1 v2 v3 v4:Value) (q:Prop):Prop:=w.cell? ⟨g,0,none⟩=some v0∧w.cell? ⟨g,1,none⟩=some v1∧w.cell? ⟨g,2,none⟩=some v2∧w.cell? ⟨g,3,none⟩=some v3∧w.cell? ⟨g,4,none⟩=some v4∧q
abbrev qe5 (w:World) (p:Addr) (v0 v1 v2 v3 v4:Value):Prop:=w.cell? p=some v0∧w.cell? ⟨p.block,p.off+1,none⟩=some v1∧w.cell? ⟨p.block,p.off+2,none⟩=some v2∧w.cell? ⟨p.block,p.off+3,none⟩=some v3∧w.cell? ⟨p.block,p.off+4,none⟩=some v4
abbrev qk6a (w:World) (g:Nat) (v0 v1 v2 v3 v4 v5:Value) (q:Prop):Prop:=w.cell? ⟨g,0,none⟩=some v0∧w.cell? ⟨g,1,none⟩=some v1∧w.cell? ⟨g,2,none⟩=some v2∧w.cell? ⟨g,3,none⟩=some v3∧w.cell? ⟨g,4,none⟩=some v4∧w.cell? ⟨g,5,none⟩=some v5∧q
theorem qb6a {q:Prop} {w:World} {g:Nat} {t:TypeId} {v0 v1 v2 v3 v4 v5:Value} (h:Aside0 (w.heap[g]? = some (.cells #[v0,v1,v2,v3,v4,v5] t (0,0)))) (z:q):qk6a w g v0 v1 v2 v3 v4 v5 q:=⟨(blk_cell h.out 0).trans rfl,(blk_cell h.out 1).trans rfl,(blk_cell h.out 2).trans rfl,(blk_cell h.out 3).trans rfl,(blk_cell h.out 4).trans rfl,(blk_cell h.out 5).trans rfl,z⟩
section
variable {α β : Type} {r : α} {x y : Option α} {P : Prop}
theorem bo {z:Option β} {f:β→Option α} (h:z.bind f=some r):∃ t,Aside0 (z=some t)∧f t=some r:=let ⟨t,a,b⟩:=Option.bind_eq_some_iff.mp h;⟨t,⟨a⟩,b⟩
theorem bt (b:Bool):b=true∨b=false:=by cases b <;> simp
theorem itT (H:(if true=true then x else y)=some r):x=some r:=H
theorem itF (H:(if false=true then x else y)=some r):y=some r:=H
theorem id2 {c:Prop} [Decidable c] (h1:decide c=true→x=some r→P) (h2:decide c=false→y=some r→P) (H:(if c then x else y)=some r):P:=by
 by_cases h:c
 ·exact h1 (decide_eq_true h) (by rwa [if_pos h] at H)
 ·exact h2 (decide_eq_false h) (by rwa [if_neg h] at H)
theorem id2k {c:Prop} [Decidable c] (h1:c→decide c=true→x=some r→P) (h2:¬ c→decide c=false→y=some r→P) (H:(if c then x else y)=some r):P:=id2 (fun a=>h1 (of_decide_eq_true a) a) (fun a=>h2 (of_decide_eq_false a) a) H
theorem id1 {c:Prop} [Decidable c] (h1:decide c=true→x=some r→P) (H:(if c then x else none)=some r):P:=id2 h1 (fun _ h=>by cases h) H
theorem id1k {c:Prop} [Decidable c] (h1:c→decide c=true→x=some r→P) (H:(if c then x else none)=some r):P:=id2k h1 (fun _ _ h=>by cases h) H
theorem ip2 {c:Prop} [Decidable c] (h1:c→x=some r→P) (h2:¬ c→y=some r→P) (H:(if c then x else y)=some r):P:=id2k (fun a _=>h1 a) (fun a _=>h2 a) H
theorem ip1 {c:Prop} [Decidable c] (h1:c→x=some r→P) (H:(if c then x else none)=some r):P:=ip2 h1 (fun _ h=>by cases h) H
theorem ie2k [BEq β] [LawfulBEq β] {a b:β} [Decidable (a=b)] (h1:a=b→(a == b)=true→(a != b)=false→x=some r→P) (h2:¬ a=b→(a == b)=false→(a != b)=true→y=some r→P) (H:(if a=b then x else y)=some r):P :=
 ip2 (fun c=>h1 c (beq_iff_eq.mpr c) (bne_eq_false_iff_eq.mpr c)) (fun c=>h2 c (beq_eq_false_iff_ne.mpr c) (bne_iff_ne.mpr c)) H
theorem ie2 [BEq β] [LawfulBEq β] {a b:β} [Decidable (a=b)] (h1:(a == b)=true→(a != b)=false→x=some r→P) (h2:¬ a=b→(a == b)=false→(a != b)=true→y=some r→P) (H:(if a=b then x else y)=some r):P:=ie2k (fun _=>h1) h2 H
theorem in2 {a:List UInt8} [Decidable (a=[])] (h1:(a == ([]:List UInt8))=true→(a != ([]:List UInt8))=false→a.isEmpty=true→x=some r→P) (h2:¬ a=[]→(a == ([]:List UInt8))=false→(a != ([]:List UInt8))=true→a.isEmpty=false→y=some r→P) (H:(if a=[] then x else y)=some r):P :=
 ie2k (fun c p q=>h1 p q (List.isEmpty_iff.mpr c)) (fun c p q=>h2 c p q (by cases a with|nil=>exact absurd rfl c|cons _ _=>rfl)) H
theorem ye {γ:Type} {u v:γ} {p q:Prop} (h:u=v) (H:q) (e:u=v→q→p:=by (intro h_ H;first|(rw [h_];with_reducible exact H)|(have H2_:=(Option.bind_some _ _).symm.trans H;rw [h_];with_reducible exact H2_)|(have H2_:=(Option.bind_some _ _).symm.trans H;with_reducible exact H2_)|with_reducible exact H|(rw [h_];exact H)|exact H)):p:=e h H
end
theorem si {α:Type} {a b:α} (h:some a=some b):a=b:=Option.some.inj h
theorem sj2 {α0 α1:Type} {a0 b0:α0} {a1 b1:α1} (h:some (a0,a1)=some (b0,b1)):a0=b0∧a1=b1:=by cases h;exact ⟨rfl,rfl⟩
theorem sj3 {α0 α1 α2:Type} {a0 b0:α0} {a1 b1:α1} {a2 b2:α2} (h:some (a0,a1,a2)=some (b0,b1,b2)):a0=b0∧a1=b1∧a2=b2:=by cases h;exact ⟨rfl,rfl,rfl⟩
theorem sj4 {α0 α1 α2 α3:Type} {a0 b0:α0} {a1 b1:α1} {a2 b2:α2} {a3 b3:α3} (h:some (a0,a1,a2,a3)=some (b0,b1,b2,b3)):a0=b0∧a1=b1∧a2=b2∧a3=b3:=by cases h;exact ⟨rfl,rfl,rfl,rfl⟩
theorem sj5 {α0 α1 α2 α3 α4:Type} {a0 b0:α0} {a1 b1:α1} {a2 b2:α2} {a3 b3:α3} {a4 b4:α4} (h:some (a0,a1,a2,a3,a4)=some (b0,b1,b2,b3,b4)):a0=b0∧a1=b1∧a2=b2∧a3=b3∧a4=b4:=by cases h;exact ⟨rfl,rfl,rfl,rfl,rfl⟩
theorem sj6 {α0 α1 α2 α3 α4 α5:Type} {a0 b0:α0} {a1 b1:α1} {a2 b2:α2} {a3 b3:α3} {a4 b4:α4} {a5 b5:α5} (h:some (a0,a1,a2,a3,a4,a5)=some (b0,b1,b2,b3,b4,b5)):a0=b0∧a1=b1∧a2=b2∧a3=b3∧a4=b4∧a5=b5:=by cases h;exact ⟨rfl,rfl,rfl,rfl,rfl,rfl⟩
theorem sj8 {α0 α1 α2 α3 α4 α5 α6 α7:Type} {a0 b0:α0} {a1 b1:α1} {a2 b2:α2} {a3 b3:α3} {a4 b4:α4} {a5 b5:α5} {a6 b6:α6} {a7 b7:α7} (h:some (a0,a1,a2,a3,a4,a5,a6,a7)=some (b0,b1,b2,b3,b4,b5,b6,b7)):a0=b0∧a1=b1∧a2=b2∧a3=b3∧a4=b4∧a5=b5∧a6=b6∧a7=b7:=by cases h;exact ⟨rfl,rfl,rfl,rfl,rfl,rfl,rfl,rfl⟩
theorem kz {W:World} (W':World) {g:Nat} {t:TypeId} {cs:Array Value} (h:Aside0 (W.heap[g]? = some (.cells cs t (0,0)))) (e:W.heap[g]? = some (.cells cs t (0,0))→W'.heap[g]? = some (.cells cs t (0,0)):=by (intro h;repeat (first|(with_reducible first|exact h|refine blk_drewN ?_ _|refine blk_drew ?_|refine blk_alloc ?_ _)|refine blk_far ?_ (Aside0.out (by assumption)) _|exact h))):Aside0 (W'.heap[g]? = some (.cells cs t (0,0))):=⟨e h.out⟩
structure Hld (S:World→Prop) (w:World):Prop where
 out:S w
theorem hc {w:World} {a:Addr} {v:Value} (h:w.cell? a=some v):Hld (fun w'=>w'.cell? a=some v) w:=⟨h⟩
theorem hca {w:World} {a:Addr} {v:Value} {S:World→Prop} (h:w.cell? a=some v) (s:Hld S w):Hld (fun w'=>w'.cell? a=some v∧S w') w:=⟨h,s.out⟩
theorem hb1 {w:World} {g:Nat} {t:TypeId} {v0:Value} (h:Aside0 (w.heap[g]? = some (.cells #[v0] t (0,0)))):Hld (fun w'=>w'.cell? ⟨g,0,none⟩=some v0) w:=⟨(blk_cell h.out 0).trans rfl⟩
theorem hb1a {w:World} {g:Nat} {t:TypeId} {v0:Value} {S:World→Prop} (h:Aside0 (w.heap[g]? = some (.cells #[v0] t (0,0)))) (s:Hld S w):Hld (fun w'=>w'.cell? ⟨g,0,none⟩=some v0∧S w') w:=⟨(blk_cell h.out 0).trans rfl,s.out⟩
theorem hb2 {w:World} {g:Nat} {t:TypeId} {v0 v1:Value} (h:Aside0 (w.heap[g]? = some (.cells #[v0,v1] t (0,0)))):Hld (fun w'=>w'.cell? ⟨g,0,none⟩=some v0∧w'.cell? ⟨g,1,none⟩=some v1) w:=⟨⟨(blk_cell h.out 0).trans rfl,(blk_cell h.out 1).trans rfl⟩⟩
theorem hb2a {w:World} {g:Nat} {t:TypeId} {v0 v1:Value} {S:World→Prop} (h:Aside0 (w.heap[g]? = some (.cells #[v0,v1] t (0,0)))) (s:Hld S w):Hld (fun w'=>w'.cell? ⟨g,0,none⟩=some v0∧w'.cell? ⟨g,1,none⟩=some v1∧S w') w:=⟨⟨(blk_cell h.out 0).trans rfl,(blk_cell h.out 1).trans rfl,s.out⟩⟩
theorem hb4 {w:World} {g:Nat} {t:TypeId} {v0 v1 v2 v3:Value} (h:Aside0 (w.heap[g]? = some (.cells #[v0,v1,v2,v3] t (0,0)))):Hld (fun w'=>w'.cell? ⟨g,0,none⟩=some v0∧w'.cell? ⟨g,1,none⟩=some v1∧w'.cell? ⟨g,2,none⟩=some v2∧w'.cell? ⟨g,3,none⟩=some v3) w:=⟨⟨(blk_cell h.out 0).trans rfl,(blk_cell h.out 1).trans rfl,(blk_cell h.out 2).trans rfl,(blk_cell h.out 3).trans rfl⟩⟩
theorem hb4a {w:World} {g:Nat} {t:TypeId} {v0 v1 v2 v3:Value} {S:World→Prop} (h:Aside0 (w.heap[g]? = some (.cells #[v0,v1,v2,v3] t (0,0)))) (s:Hld S w):Hld (fun w'=>w'.cell? ⟨g,0,none⟩=some v0∧w'.cell? ⟨g,1,none⟩=some v1∧w'.cell? ⟨g,2,none⟩=some v2∧w'.cell? ⟨g,3,none⟩=some v3∧S w') w:=⟨⟨(blk_cell h.out 0).trans rfl,(blk_cell h.out 1).trans rfl,(blk_cell h.out 2).trans rfl,(blk_cell h.out 3).trans rfl,s.out⟩⟩
theorem hb5 {w:World} {g:Nat} {t:TypeId} {v0 v1 v2 v3 v4:Value} (h:Aside0 (w.heap[g]? = some (.cells #[v0,v1,v2,v3,v4] t (0,0)))):Hld (fun w'=>w'.cell? ⟨g,0,none⟩=some v0∧w'.cell? ⟨g,1,none⟩=some v1∧w'.cell? ⟨g,2,none⟩=some v2∧w'.cell? ⟨g,3,none⟩=some v3∧w'.cell? ⟨g,4,none⟩=some v4) w:=⟨⟨(blk_cell h.out 0).trans rfl,(blk_cell h.out 1).trans rfl,(blk_cell h.out 2).trans rfl,(blk_cell h.out 3).trans rfl,(blk_cell h.out 4).trans rfl⟩⟩
theorem hb5a {w:World} {g:Nat} {t:TypeId} {v0 v1 v2 v3 v4:Value} {S:World→Prop} (h:Aside0 (w.heap[g]? = some (.cells #[v0,v1,v2,v3,v4] t (0,0)))) (s:Hld S w):Hld (fun w'=>w'.cell? ⟨g,0,none⟩=some v0∧w'.cell? ⟨g,1,none⟩=some v1∧w'.cell? ⟨g,2,none⟩=some v2∧w'.cell? ⟨g,3,none⟩=some v3∧w'.cell? ⟨g,4,none⟩=some v4∧S w') w:=⟨⟨(blk_cell h.out 0).trans rfl,(blk_cell h.out 1).trans rfl,(blk_cell h.out 2).trans rfl,(blk_cell h.out 3).trans rfl,(blk_cell h.out 4).trans rfl,s.out⟩⟩
theorem hb6 {w:World} {g:Nat} {t:TypeId} {v0 v1 v2 v3 v4 v5:Value} (h:Aside0 (w.heap[g]? = some (.cells #[v0,v1,v2,v3,v4,v5] t (0,0)))):Hld (fun w'=>w'.cell? ⟨g,0,none⟩=some v0∧w'.cell? ⟨g,1,none⟩=some v1∧w'.cell? ⟨g,2,none⟩=some v2∧w'.cell? ⟨g,3,none⟩=some v3∧w'.cell? ⟨g,4,none⟩=some v4∧w'.cell? ⟨g,5,none⟩=some v5) w:=⟨⟨(blk_cell h.out 0).trans rfl,(blk_cell h.out 1).trans rfl,(blk_cell h.out 2).trans rfl,(blk_cell h.out 3).trans rfl,(blk_cell h.out 4).trans rfl,(blk_cell h.out 5).trans rfl⟩⟩
theorem hb6a {w:World} {g:Nat} {t:TypeId} {v0 v1 v2 v3 v4 v5:Value} {S:World→Prop} (h:Aside0 (w.heap[g]? = some (.cells #[v0,v1,v2,v3,v4,v5] t (0,0)))) (s:Hld S w):Hld (fun w'=>w'.cell? ⟨g,0,none⟩=some v0∧w'.cell? ⟨g,1,none⟩=some v1∧w'.cell? ⟨g,2,none⟩=some v2∧w'.cell? ⟨g,3,none⟩=some v3∧w'.cell? ⟨g,4,none⟩=some v4∧w'.cell? ⟨g,5,none⟩=some v5∧S w') w:=⟨⟨(blk_cell h.out 0).trans rfl,(blk_cell h.out 1).trans rfl,(blk_cell h.out 2).trans rfl,(blk_cell h.out 3).trans rfl,(blk_cell h.out 4).trans rfl,(blk_cell h.out 5).trans rfl,s.out⟩⟩
section
variable {P : Program} {ops : Array Oper} {Q : Exit → Act → World → Prop} {S : World → Prop} {ds : List Nat} {id : Nat} {a : Act} {w : World} {l : Array Bool}
theorem sta (n:Nat) (hS:Hld S w.drew) (h:S w.drew→wpAnyLast P .any ops Q S [] n l a w.drew) (hm:P.follows .mixedOrders=true:=by kernel_rfl) (hn:ops.size=n:=by rfl) (hl:Array.replicate n false=l:=by rfl):(Code.region id ops true).wp P Q a w:=start_ l hm hn hl hS.out h
theorem stad (n:Nat) (ds:List Nat) (hS:Hld S w.drew) (h:S w.drew→wpAnyLast P .any ops Q S ds n l a w.drew) (hm:P.follows .mixedOrders=true:=by kernel_rfl) (hn:ops.size=n:=by rfl) (hl:Array.replicate n false=l:=by rfl):(Code.region id ops true).wp P Q a w:=start_ l hm hn hl hS.out h
end
section
variable {α : Type} {R : α → List Value → Prop} {size : Nat} {ps qs : List α} {cs ds : List Value}
end
section
variable {α : Type} {d : Kd α} {e : Nat} {w w1 : World} {base : Nat} {ok ok1 : Nat → Prop} {v : Value} {xs : List α} {x : α} {cs : List Value}
end
section
variable {P : Program}
theorem goesV_ {ops : Array Oper} {Q : Exit → Act → World → Prop} {oi : Oper} {N : Option Tmp} {a : Act} {w : World} {K : Act → World → Prop} {f : FuncId} {fn : Func} {c : Operand} {as_ : Array Operand} {ts : Array TypeId} (hf : P.funcs[f]? = some fn) (hname : (fn.name == "runtime.NumGoroutine") = false) (hb : fn.body.isSome = true) (args : Array Value)
    (hw : Region.wanted oi (yielded ops a.tmps) = true) (hN : oi.dst = N) (hop : oi.op = .call { callee := .value c, args := as_, argTypes := ts }) (hc : a.eval c = .func (.func f) #[] #[]) (hargs : as_.map a.eval = args)
    (h : Calls P f args w fun e w' => ∃ v, e = .returned v ∧ K (a.put N v) w') : if Region.wanted oi (yielded ops a.tmps) = true then Oper.wp P oi a w K Q else K (a.put N undef) w := by
  refine call_ f args hw hN ?_ h
  have he := enters_ hf hname hb args w
  unfold execOp
  simp [hop, resolve, Deferred.ofValue, invoke, hc, hargs, he]
end
section
variable {P : Program}
end
end Go.Proofs.YtogkcllenfkdmaaGreatDoorW.PrintMore
namespace Go.Proofs
open Go.Shelf
def Tryz.lays137_ren:Go.Shelf.Ren:=⟨fun|137=>113|217=>129|266=>142|n=>n,fun|9=>9|5=>5|3=>3|n=>n,fun|n=>n⟩
theorem Tryz.lays137:Go.Proofs.Lays.n137 Tryz.prog Tryz.lays137_ren:={
 mixed:=by kernel_rfl
 f137:=Tryz.func113.trans (congrArg some (by kernel_rfl))
 f217:=Tryz.func129.trans (congrArg some (by kernel_rfl))
 f266:=Tryz.func142.trans (congrArg some (by kernel_rfl))
 t3:=Tryz.underlying3
 a3:=Tryz.isAgg3
 z3:=Tryz.sizeOf3
 v3:=Tryz.zeroValue3
 t5:=Tryz.underlying5
 a5:=Tryz.isAgg5
 z5:=Tryz.sizeOf5
 v5:=Tryz.zeroValue5
 t9:=Tryz.underlying9
 a9:=Tryz.isAgg9
 z9:=Tryz.sizeOf9
 v9:=Tryz.zeroValue9 }
open Go.RowKit in
theorem Tryz.strings_IndexByte (s:ByteArray) (c:Int) (w:World) :
  Calls Tryz.prog 113 #[.string s,.int .u8 c] w fun e w'=>e=.returned (.int .i64 (Lib.indexByte s.data.toList c.toNat.toUInt8))∧w'=w:=Any.strings_IndexByte Tryz.lays137 s c w
def Tryz.laysM173_ren:Go.Shelf.Ren:=⟨fun|173=>118|246=>134|283=>146|284=>147|285=>148|286=>149|129=>159|317=>158|318=>160|319=>161|320=>162|337=>169|338=>170|n=>n,fun|2=>2|3=>3|9=>9|4=>4|171=>160|0=>0|53=>121|37=>49|5=>5|173=>163|212=>173|51=>174|20=>20|213=>175|46=>154|232=>190|233=>191|n=>n,fun|17=>1|18=>4|19=>5|n=>n⟩
theorem Tryz.laysM173:Go.Proofs.LaysM.n173 Tryz.prog Tryz.laysM173_ren:={
 mixed:=by kernel_rfl
 f129:=Tryz.func159.trans (congrArg some (by kernel_rfl))
 f173:=Tryz.func118.trans (congrArg some (by kernel_rfl))
 f246:=Tryz.func134.trans (congrArg some (by kernel_rfl))
 f283:=Tryz.func146.trans (congrArg some (by kernel_rfl))
 f284:=Tryz.func147.trans (congrArg some (by kernel_rfl))
 f285:=Tryz.func148.trans (congrArg some (by kernel_rfl))
 f286:=Tryz.func149.trans (congrArg some (by kernel_rfl))
 f317:=Tryz.func158.trans (congrArg some (by kernel_rfl))
 f318:=Tryz.func160.trans (congrArg some (by kernel_rfl))
 f319:=Tryz.func161.trans (congrArg some (by kernel_rfl))
 f320:=Tryz.func162.trans (congrArg some (by kernel_rfl))
 f337:=Tryz.func169.trans (congrArg some (by kernel_rfl))
 f338:=Tryz.func170.trans (congrArg some (by kernel_rfl))
 t0:=Tryz.underlying0
 a0:=Tryz.isAgg0
 z0:=Tryz.sizeOf0
 v0:=Tryz.zeroValue0
 t2:=Tryz.underlying2
 a2:=Tryz.isAgg2
 z2:=Tryz.sizeOf2
 v2:=Tryz.zeroValue2
 t3:=Tryz.underlying3
 a3:=Tryz.isAgg3
 z3:=Tryz.sizeOf3
 v3:=Tryz.zeroValue3
 t4:=Tryz.underlying4
 a4:=Tryz.isAgg4
 z4:=Tryz.sizeOf4
 v4:=Tryz.zeroValue4
 t5:=Tryz.underlying5
 a5:=Tryz.isAgg5
 z5:=Tryz.sizeOf5
 v5:=Tryz.zeroValue5
 t9:=Tryz.underlying9
 a9:=Tryz.isAgg9
 z9:=Tryz.sizeOf9
 v9:=Tryz.zeroValue9
 t20:=Tryz.underlying20
 a20:=Tryz.isAgg20
 z20:=Tryz.sizeOf20
 v20:=Tryz.zeroValue20
 t37:=Tryz.underlying49
 a37:=Tryz.isAgg49
 z37:=Tryz.sizeOf49
 v37:=Tryz.zeroValue49
 t46:=Tryz.underlying154
 a46:=Tryz.isAgg154
 z46:=Tryz.sizeOf154
 v46:=Tryz.zeroValue154
 t51:=Tryz.underlying174
 a51:=Tryz.isAgg174
 z51:=Tryz.sizeOf174
 v51:=Tryz.zeroValue174
 t53:=Tryz.underlying121
 a53:=Tryz.isAgg121
 z53:=Tryz.sizeOf121
 v53:=Tryz.zeroValue121
 t171:=Tryz.underlying160
 a171:=Tryz.isAgg160
 z171:=Tryz.sizeOf160
 v171:=Tryz.zeroValue160
 t173:=Tryz.underlying163
 a173:=Tryz.isAgg163
 z173:=Tryz.sizeOf163
 v173:=Tryz.zeroValue163
 t212:=Tryz.underlying173
 a212:=Tryz.isAgg173
 z212:=Tryz.sizeOf173
 v212:=Tryz.zeroValue173
 t213:=Tryz.underlying175
 a213:=Tryz.isAgg175
 z213:=Tryz.sizeOf175
 t232:=Tryz.underlying190
 a232:=Tryz.isAgg190
 z232:=Tryz.sizeOf190
 v232:=Tryz.zeroValue190
 t233:=Tryz.underlying191
 a233:=Tryz.isAgg191
 z233:=Tryz.sizeOf191
 v233:=Tryz.zeroValue191
 g17:=by kernel_rfl
 g18:=by kernel_rfl
 g19:=by kernel_rfl
 i0:=by kernel_rfl
 i2:=by kernel_rfl
 i3:=by kernel_rfl
 i4:=by kernel_rfl
 i5:=by kernel_rfl
 i9:=by kernel_rfl
 i20:=by kernel_rfl
 i37:=by kernel_rfl
 i46:=by kernel_rfl
 i51:=by kernel_rfl
 i53:=by kernel_rfl
 i171:=by kernel_rfl
 i173:=by kernel_rfl
 i212:=by kernel_rfl
 i232:=by kernel_rfl
 i233:=by kernel_rfl
 m17:=by kernel_rfl
 m18:=by kernel_rfl
 m19:=by kernel_rfl }
open Go.RowKit Go.Sort Go.Lib in
theorem Tryz.strconv_FormatInt_10 (n : Int) (h0 : -9223372036854775808 ≤ n) (h1 : n ≤ 9223372036854775807) (w : World) (htab : Lib.TabIs Tryz.prog w "internal/strconv.uint64pow10" .u64 Lib.pow10Tab) :
    Calls Tryz.prog 118 #[.int .i64 n, .int .i64 10] w fun e w' => e = .returned (.string ⟨(Lib.itoa n).toArray⟩) ∧ ∃ k os, w' = grow (w.drewN k) os := Any.strconv_FormatInt_10 Tryz.laysM173 n h0 h1 w htab
def Tryz.laysC174_ren:Go.Shelf.Ren:=⟨fun|174=>119|247=>135|245=>136|287=>150|279=>151|280=>152|281=>153|282=>154|321=>163|322=>164|316=>165|171=>167|205=>166|243=>171|246=>134|283=>146|284=>147|285=>148|286=>149|129=>159|317=>158|318=>160|319=>161|320=>162|337=>169|338=>170|n=>n,fun|9=>9|3=>3|2=>2|75=>139|85=>140|4=>4|167=>165|5=>5|53=>121|175=>166|46=>154|168=>168|37=>49|0=>0|210=>181|21=>21|127=>186|145=>189|143=>187|171=>160|173=>163|212=>173|51=>174|20=>20|213=>175|232=>190|233=>191|80=>192|n=>n,fun|15=>2|16=>3|17=>1|18=>4|19=>5|n=>n⟩
theorem Tryz.laysC174:Go.Proofs.LaysC.n174 Tryz.prog Tryz.laysC174_ren:={
 mixed:=by kernel_rfl
 f129:=Tryz.func159.trans (congrArg some (by kernel_rfl))
 f171:=Tryz.func167.trans (congrArg some (by kernel_rfl))
 f174:=Tryz.func119.trans (congrArg some (by kernel_rfl))
 f205:=Tryz.func166.trans (congrArg some (by kernel_rfl))
 f243:=Tryz.func171.trans (congrArg some (by kernel_rfl))
 f245:=Tryz.func136.trans (congrArg some (by kernel_rfl))
 f246:=Tryz.func134.trans (congrArg some (by kernel_rfl))
 f247:=Tryz.func135.trans (congrArg some (by kernel_rfl))
 f279:=Tryz.func151.trans (congrArg some (by kernel_rfl))
 f280:=Tryz.func152.trans (congrArg some (by kernel_rfl))
 f281:=Tryz.func153.trans (congrArg some (by kernel_rfl))
 f282:=Tryz.func154.trans (congrArg some (by kernel_rfl))
 f283:=Tryz.func146.trans (congrArg some (by kernel_rfl))
 f284:=Tryz.func147.trans (congrArg some (by kernel_rfl))
 f285:=Tryz.func148.trans (congrArg some (by kernel_rfl))
 f286:=Tryz.func149.trans (congrArg some (by kernel_rfl))
 f287:=Tryz.func150.trans (congrArg some (by kernel_rfl))
 f316:=Tryz.func165.trans (congrArg some (by kernel_rfl))
 f317:=Tryz.func158.trans (congrArg some (by kernel_rfl))
 f318:=Tryz.func160.trans (congrArg some (by kernel_rfl))
 f319:=Tryz.func161.trans (congrArg some (by kernel_rfl))
 f320:=Tryz.func162.trans (congrArg some (by kernel_rfl))
 f321:=Tryz.func163.trans (congrArg some (by kernel_rfl))
 f322:=Tryz.func164.trans (congrArg some (by kernel_rfl))
 f337:=Tryz.func169.trans (congrArg some (by kernel_rfl))
 f338:=Tryz.func170.trans (congrArg some (by kernel_rfl))
 t0:=Tryz.underlying0
 a0:=Tryz.isAgg0
 z0:=Tryz.sizeOf0
 v0:=Tryz.zeroValue0
 t2:=Tryz.underlying2
 a2:=Tryz.isAgg2
 z2:=Tryz.sizeOf2
 v2:=Tryz.zeroValue2
 t3:=Tryz.underlying3
 a3:=Tryz.isAgg3
 z3:=Tryz.sizeOf3
 v3:=Tryz.zeroValue3
 t4:=Tryz.underlying4
 a4:=Tryz.isAgg4
 z4:=Tryz.sizeOf4
 v4:=Tryz.zeroValue4
 t5:=Tryz.underlying5
 a5:=Tryz.isAgg5
 z5:=Tryz.sizeOf5
 v5:=Tryz.zeroValue5
 t9:=Tryz.underlying9
 a9:=Tryz.isAgg9
 z9:=Tryz.sizeOf9
 v9:=Tryz.zeroValue9
 t20:=Tryz.underlying20
 a20:=Tryz.isAgg20
 z20:=Tryz.sizeOf20
 v20:=Tryz.zeroValue20
 t21:=Tryz.underlying21
 a21:=Tryz.isAgg21
 z21:=Tryz.sizeOf21
 v21:=Tryz.zeroValue21
 t37:=Tryz.underlying49
 a37:=Tryz.isAgg49
 z37:=Tryz.sizeOf49
 v37:=Tryz.zeroValue49
 t46:=Tryz.underlying154
 a46:=Tryz.isAgg154
 z46:=Tryz.sizeOf154
 v46:=Tryz.zeroValue154
 t51:=Tryz.underlying174
 a51:=Tryz.isAgg174
 z51:=Tryz.sizeOf174
 v51:=Tryz.zeroValue174
 t53:=Tryz.underlying121
 a53:=Tryz.isAgg121
 z53:=Tryz.sizeOf121
 v53:=Tryz.zeroValue121
 t75:=Tryz.underlying139
 a75:=Tryz.isAgg139
 z75:=Tryz.sizeOf139
 v75:=Tryz.zeroValue139
 t85:=Tryz.underlying140
 a85:=Tryz.isAgg140
 z85:=Tryz.sizeOf140
 v85:=Tryz.zeroValue140
 t127:=Tryz.underlying186
 a127:=Tryz.isAgg186
 z127:=Tryz.sizeOf186
 v127:=Tryz.zeroValue186
 t143:=Tryz.underlying187
 a143:=Tryz.isAgg187
 z143:=Tryz.sizeOf187
 v143:=Tryz.zeroValue187
 t145:=Tryz.underlying189
 a145:=Tryz.isAgg189
 z145:=Tryz.sizeOf189
 v145:=Tryz.zeroValue189
 t167:=Tryz.underlying165
 a167:=Tryz.isAgg165
 z167:=Tryz.sizeOf165
 v167:=Tryz.zeroValue165
 t168:=Tryz.underlying168
 a168:=Tryz.isAgg168
 z168:=Tryz.sizeOf168
 v168:=Tryz.zeroValue168
 t171:=Tryz.underlying160
 a171:=Tryz.isAgg160
 z171:=Tryz.sizeOf160
 v171:=Tryz.zeroValue160
 t173:=Tryz.underlying163
 a173:=Tryz.isAgg163
 z173:=Tryz.sizeOf163
 v173:=Tryz.zeroValue163
 t175:=Tryz.underlying166
 a175:=Tryz.isAgg166
 z175:=Tryz.sizeOf166
 v175:=Tryz.zeroValue166
 t210:=Tryz.underlying181
 a210:=Tryz.isAgg181
 z210:=Tryz.sizeOf181
 v210:=Tryz.zeroValue181
 t212:=Tryz.underlying173
 a212:=Tryz.isAgg173
 z212:=Tryz.sizeOf173
 v212:=Tryz.zeroValue173
 t213:=Tryz.underlying175
 a213:=Tryz.isAgg175
 z213:=Tryz.sizeOf175
 t232:=Tryz.underlying190
 a232:=Tryz.isAgg190
 z232:=Tryz.sizeOf190
 v232:=Tryz.zeroValue190
 t233:=Tryz.underlying191
 a233:=Tryz.isAgg191
 z233:=Tryz.sizeOf191
 v233:=Tryz.zeroValue191
 g15:=by kernel_rfl
 g16:=by kernel_rfl
 g17:=by kernel_rfl
 g18:=by kernel_rfl
 g19:=by kernel_rfl
 t80:=Tryz.underlying192
 a80:=Tryz.isAgg192
 z80:=Tryz.sizeOf192
 v80:=Tryz.zeroValue192
 i0:=by kernel_rfl
 i2:=by kernel_rfl
 i3:=by kernel_rfl
 i4:=by kernel_rfl
 i5:=by kernel_rfl
 i9:=by kernel_rfl
 i20:=by kernel_rfl
 i21:=by kernel_rfl
 i37:=by kernel_rfl
 i46:=by kernel_rfl
 i51:=by kernel_rfl
 i53:=by kernel_rfl
 i75:=by kernel_rfl
 i80:=by kernel_rfl
 i85:=by kernel_rfl
 i127:=by kernel_rfl
 i143:=by kernel_rfl
 i145:=by kernel_rfl
 i167:=by kernel_rfl
 i168:=by kernel_rfl
 i171:=by kernel_rfl
 i173:=by kernel_rfl
 i175:=by kernel_rfl
 i210:=by kernel_rfl
 i212:=by kernel_rfl
 i232:=by kernel_rfl
 i233:=by kernel_rfl
 m15:=by kernel_rfl
 m16:=by kernel_rfl
 m17:=by kernel_rfl
 m18:=by kernel_rfl
 m19:=by kernel_rfl
 c0:=by kernel_rfl
 c2:=by kernel_rfl
 c3:=by kernel_rfl
 c4:=by kernel_rfl
 c5:=by kernel_rfl
 c9:=by kernel_rfl
 c20:=by kernel_rfl
 c21:=by kernel_rfl
 c37:=by kernel_rfl
 c46:=by kernel_rfl
 c51:=by kernel_rfl
 c53:=by kernel_rfl
 c75:=by kernel_rfl
 c80:=by kernel_rfl
 c85:=by kernel_rfl
 c127:=by kernel_rfl
 c143:=by kernel_rfl
 c145:=by kernel_rfl
 c167:=by kernel_rfl
 c168:=by kernel_rfl
 c171:=by kernel_rfl
 c173:=by kernel_rfl
 c175:=by kernel_rfl
 c210:=by kernel_rfl
 c212:=by kernel_rfl
 c213:=by kernel_rfl
 c232:=by kernel_rfl
 c233:=by kernel_rfl }
open Go.RowKit in
theorem Tryz.strconv_ParseInt_10_at64_ok (s:ByteArray) (hmax:s.size≤9223372036854775806) (v:Int) (h:Lib.parseIntB 64 s.data.toList=.ok v) (w:World) :
  Calls Tryz.prog 119 #[.string s,.int .i64 10,.int .i64 64] w fun e w'=>e=.returned (.tuple #[.int .i64 v,.nilIface])∧(w'=w∨∃ t,w'=Lib.bytesWorld w 5 t):=Any.strconv_ParseInt_10_at64_ok Tryz.laysC174 s hmax v h w
open Go.RowKit in
theorem Tryz.strconv_ParseInt_10_at64_syntax (s:ByteArray) (hlim:s.size≤281474976710656) (h:Lib.parseIntB 64 s.data.toList=.«syntax») (ev:Value) (w:World) (hv:w.cell? ⟨2,0,none⟩=some ev) (hev:ev=.nilIface∨∃ te pe,ev=.iface te pe) :
  Calls Tryz.prog 119 #[.string s,.int .i64 10,.int .i64 64] w fun e w'=>∃ N,e=.returned (.tuple #[.int .i64 (0),.iface 168 (.pointer (some ⟨N,0,none⟩))])∧w.heap.size≤N∧w'.heap[N]? = some (.cells #[.string ⟨#[80,97,114,115,101,73,110,116]⟩,.string s,ev] 181 (0,0))∧Below w.heap.size w w':=Any.strconv_ParseInt_10_at64_syntax Tryz.laysC174 s hlim h ev w hv hev
open Go.RowKit in
theorem Tryz.strconv_ParseInt_10_at64_range (s:ByteArray) (hlim:s.size≤281474976710656) (h:Lib.parseIntB 64 s.data.toList=.range) (ev:Value) (w:World) (hv:w.cell? ⟨3,0,none⟩=some ev) (hev:ev=.nilIface∨∃ te pe,ev=.iface te pe) :
  Calls Tryz.prog 119 #[.string s,.int .i64 10,.int .i64 64] w fun e w'=>∃ N,e=.returned (.tuple #[.int .i64 (Lib.intSat 64 s.data.toList),.iface 168 (.pointer (some ⟨N,0,none⟩))])∧w.heap.size≤N∧w'.heap[N]? = some (.cells #[.string ⟨#[80,97,114,115,101,73,110,116]⟩,.string s,ev] 181 (0,0))∧Below w.heap.size w w':=Any.strconv_ParseInt_10_at64_range Tryz.laysC174 s hlim h ev w hv hev
def Tryz.lays145_ren:Go.Shelf.Ren:=⟨fun|145=>112|220=>128|219=>141|217=>129|225=>155|224=>156|267=>157|266=>142|314=>168|n=>n,fun|9=>9|4=>4|59=>130|3=>3|5=>5|46=>154|146=>183|51=>174|n=>n,fun|1=>0|n=>n⟩
theorem Tryz.lays145:Go.Proofs.Lays.n145 Tryz.prog Tryz.lays145_ren:={
 mixed:=by kernel_rfl
 f145:=Tryz.func112.trans (congrArg some (by kernel_rfl))
 f217:=Tryz.func129.trans (congrArg some (by kernel_rfl))
 f219:=Tryz.func141.trans (congrArg some (by kernel_rfl))
 f220:=Tryz.func128.trans (congrArg some (by kernel_rfl))
 f224:=Tryz.func156.trans (congrArg some (by kernel_rfl))
 f225:=Tryz.func155.trans (congrArg some (by kernel_rfl))
 f266:=Tryz.func142.trans (congrArg some (by kernel_rfl))
 f267:=Tryz.func157.trans (congrArg some (by kernel_rfl))
 f314:=Tryz.func168.trans (congrArg some (by kernel_rfl))
 t3:=Tryz.underlying3
 a3:=Tryz.isAgg3
 z3:=Tryz.sizeOf3
 v3:=Tryz.zeroValue3
 t4:=Tryz.underlying4
 a4:=Tryz.isAgg4
 z4:=Tryz.sizeOf4
 v4:=Tryz.zeroValue4
 t5:=Tryz.underlying5
 a5:=Tryz.isAgg5
 z5:=Tryz.sizeOf5
 v5:=Tryz.zeroValue5
 t9:=Tryz.underlying9
 a9:=Tryz.isAgg9
 z9:=Tryz.sizeOf9
 v9:=Tryz.zeroValue9
 t46:=Tryz.underlying154
 a46:=Tryz.isAgg154
 z46:=Tryz.sizeOf154
 v46:=Tryz.zeroValue154
 t51:=Tryz.underlying174
 a51:=Tryz.isAgg174
 z51:=Tryz.sizeOf174
 v51:=Tryz.zeroValue174
 t59:=Tryz.underlying130
 a59:=Tryz.isAgg130
 z59:=Tryz.sizeOf130
 v59:=Tryz.zeroValue130
 t146:=Tryz.underlying183
 a146:=Tryz.isAgg183
 z146:=Tryz.sizeOf183
 v146:=Tryz.zeroValue183
 g1:=by kernel_rfl }
open Go.RowKit Go.Lib in
theorem Tryz.strings_Cut (s sep:ByteArray) (m:Int) (w:World) (hs:s.size<4294967281) (hm:w.cell? ⟨0,0,none⟩=some (.int .i64 m)) :
  Calls Tryz.prog 112 #[.string s,.string sep] w fun e w'=>e=.returned (.tuple #[.string ⟨(Lib.cut s.data.toList sep.data.toList).1.toArray⟩,.string ⟨(Lib.cut s.data.toList sep.data.toList).2.1.toArray⟩,.bool (Lib.cut s.data.toList sep.data.toList).2.2])∧∃ n,w'=w.drewN n:=Any.strings_Cut Tryz.lays145 s sep m w hs hm
def Tryz.laysM145_ren:Go.Shelf.Ren:=⟨fun|145=>112|220=>128|219=>141|217=>129|225=>155|224=>156|267=>157|266=>142|314=>168|n=>n,fun|9=>9|4=>4|59=>130|3=>3|5=>5|46=>154|146=>183|51=>174|n=>n,fun|1=>0|n=>n⟩
theorem Tryz.laysM145:Go.Proofs.LaysM.n145 Tryz.prog Tryz.laysM145_ren:={
 mixed:=by kernel_rfl
 f145:=Tryz.func112.trans (congrArg some (by kernel_rfl))
 f217:=Tryz.func129.trans (congrArg some (by kernel_rfl))
 f219:=Tryz.func141.trans (congrArg some (by kernel_rfl))
 f220:=Tryz.func128.trans (congrArg some (by kernel_rfl))
 f224:=Tryz.func156.trans (congrArg some (by kernel_rfl))
 f225:=Tryz.func155.trans (congrArg some (by kernel_rfl))
 f266:=Tryz.func142.trans (congrArg some (by kernel_rfl))
 f267:=Tryz.func157.trans (congrArg some (by kernel_rfl))
 f314:=Tryz.func168.trans (congrArg some (by kernel_rfl))
 t3:=Tryz.underlying3
 a3:=Tryz.isAgg3
 z3:=Tryz.sizeOf3
 v3:=Tryz.zeroValue3
 t4:=Tryz.underlying4
 a4:=Tryz.isAgg4
 z4:=Tryz.sizeOf4
 v4:=Tryz.zeroValue4
 t5:=Tryz.underlying5
 a5:=Tryz.isAgg5
 z5:=Tryz.sizeOf5
 v5:=Tryz.zeroValue5
 t9:=Tryz.underlying9
 a9:=Tryz.isAgg9
 z9:=Tryz.sizeOf9
 v9:=Tryz.zeroValue9
 t46:=Tryz.underlying154
 a46:=Tryz.isAgg154
 z46:=Tryz.sizeOf154
 v46:=Tryz.zeroValue154
 t51:=Tryz.underlying174
 a51:=Tryz.isAgg174
 z51:=Tryz.sizeOf174
 v51:=Tryz.zeroValue174
 t59:=Tryz.underlying130
 a59:=Tryz.isAgg130
 z59:=Tryz.sizeOf130
 v59:=Tryz.zeroValue130
 t146:=Tryz.underlying183
 a146:=Tryz.isAgg183
 z146:=Tryz.sizeOf183
 v146:=Tryz.zeroValue183
 g1:=by kernel_rfl
 i3:=by kernel_rfl
 i4:=by kernel_rfl
 i5:=by kernel_rfl
 i9:=by kernel_rfl
 i46:=by kernel_rfl
 i51:=by kernel_rfl
 i59:=by kernel_rfl
 i146:=by kernel_rfl
 m1:=by kernel_rfl
 s1_3:=fun w h=>Go.Proofs.cell_of_shapedOpen_int (zero:=#[.int .i64 0]) (t:=3) h (of_decide_eq_true (by kernel_rfl)) (by kernel_rfl) rfl (by kernel_rfl) (by kernel_rfl) Tryz.underlying3 }
end Go.Proofs
namespace Go.Proofs.YtogkcllenfkdmaaGreatDoor.Bs
open Go.Op
theorem less_tri:∀ a b:List UInt8,(!(bytesLess a b || a == b))=bytesLess b a
 | [],[]=>rfl
 | [],_ :: _=>rfl
 | _ :: _,[]=>rfl
 | x :: a,y :: b=>by
  have ih:=less_tri a b
  by_cases h1:x<y
  ·have h2:¬ y<x:=fun h=>by have:=UInt8.lt_iff_toNat_lt.1 h;have:=UInt8.lt_iff_toNat_lt.1 h1;omega
   have h3:¬ x=y:=fun h=>by subst h;have:=UInt8.lt_iff_toNat_lt.1 h1;omega
   have h4:¬ y=x:=fun h=>h3 h.symm
   simp [bytesLess,h1,h2,h4]
  ·by_cases h2:y<x
   ·have h3:¬ x=y:=fun h=>by subst h;have:=UInt8.lt_iff_toNat_lt.1 h2;omega
    simp [bytesLess,h1,h2,h3]
   ·have h3:x=y:=UInt8.toNat_inj.1 (by
     have e1:=mt UInt8.lt_iff_toNat_lt.2 h1
     have e2:=mt UInt8.lt_iff_toNat_lt.2 h2
     omega)
    subst h3
    have e1:bytesLess (x :: b) (x :: a)=bytesLess b a:=by simp [bytesLess]
    have e2:bytesLess (x :: a) (x :: b)=bytesLess a b:=by simp [bytesLess]
    have e3:(x :: a == x :: b)=(a == b):=by simp
    rw [e1,e2,e3]
    exact ih
@[go_sem] theorem binOp_gtr (t:TypeId) (a b:ByteArray):binOp .gtr t (.string a) (.string b)=pure (.bool (bytesLess b.toList a.toList)):=by
 rw [← less_tri]
 simp [binOp,Op.stringOp]
@[go_sem] theorem binOp_leq (t:TypeId) (a b:ByteArray):binOp .leq t (.string a) (.string b)=pure (.bool !(bytesLess b.toList a.toList)):=by
 rw [← less_tri]
 simp [binOp,Op.stringOp]
@[go_sem] theorem binOp_geq (t:TypeId) (a b:ByteArray):binOp .geq t (.string a) (.string b)=pure (.bool !(bytesLess a.toList b.toList)):=by
 simp [binOp,Op.stringOp]
end Go.Proofs.YtogkcllenfkdmaaGreatDoor.Bs
namespace Go.Proofs.YtogkcllenfkdmaaGreatDoor.QR
open Go.RowKit Go.Proofs.YtogkcllenfkdmaaGreatDoorW.PrintWords Go.Proofs.YtogkcllenfkdmaaGreatDoorW.PrintLast Go.Proofs.YtogkcllenfkdmaaGreatDoorW.PrintMore
attribute [local go_sem] max2_int min2_int max_two min_two max_three min_three max_four min_four   -- for this text's walks alone
set_option linter.unusedVariables false
set_option linter.unusedSimpArgs false
def errW:Option Int→Value
 | none=>.nilIface
 | some c=>.iface 0 (.int .i64 c)
theorem errW_none:errW none=.nilIface:=rfl
theorem errW_some (c:Int):errW (some c)=.iface 0 (.int .i64 c):=rfl
theorem info5:(Tryz.prog.info? 5).map (fun i=>(i.zero,i.size,i.bytes))=some (some (.int .u8 0),1,1):=by kernel_rfl
theorem info9:(Tryz.prog.info? 9).map (fun i=>(i.zero,i.size,i.bytes))=some (some (.string ⟨#[]⟩),1,16):=by kernel_rfl
theorem info62:(Tryz.prog.info? 62).map (fun i=>(i.zero,i.size,i.bytes))=some (some (.agg #[(.string ⟨#[]⟩),(.slice none 0 0)]),2,40):=by kernel_rfl
theorem info71:(Tryz.prog.info? 71).map (fun i=>(i.zero,i.size,i.bytes))=some (some (.agg #[(.int .i64 0),(.string ⟨#[]⟩),(.int .i64 0),(.int .i64 0),(.string ⟨#[]⟩)]),5,56):=by kernel_rfl
theorem info103:(Tryz.prog.info? 103).map (fun i=>(i.zero,i.size,i.bytes))=some (some (.agg #[(.slice none 0 0)]),1,24):=by kernel_rfl
structure S98 where
 f0:Int
 f1:ByteArray
 f2:Int
 f3:Int
 f4:ByteArray
def z98:S98:=⟨(0:Int),(⟨#[]⟩:ByteArray),(0:Int),(0:Int),(⟨#[]⟩:ByteArray)⟩
def k98:Kd S98:=Kd.iso (Kd.pair (Kd.int .i64) (Kd.pair Kd.string (Kd.pair (Kd.int .i64) (Kd.pair (Kd.int .i64) Kd.string)))) (fun x:S98=>(x.f0,x.f1,x.f2,x.f3,x.f4))
theorem k98_open {w:World} {x:S98} {cs:List Value} (h:k98.K w x cs):cs=[.int .i64 x.f0,.string x.f1,.int .i64 x.f2,.int .i64 x.f3,.string x.f4]:=by
 obtain ⟨_,_,rfl,rfl,⟨_,_,rfl,rfl,⟨_,_,rfl,rfl,⟨_,_,rfl,rfl,rfl⟩⟩⟩⟩:=h
 exact rfl
def rd_T98 (xs:List S98) (i:Int):S98:=xs.getD i.toNat z98
theorem at_T98 {w:World} {A:Option Addr} {n:Nat} {xs:List S98} (h:Kd.C k98 w A n xs) (i:Int) (h0:0≤i) (h1:i<n):∃ ad ,A=some ad∧w.cell? (ad.add (i.toNat * 5))=some (.int .i64 (rd_T98 xs i).f0)∧w.cell? ⟨(ad.add (i.toNat * 5)).block,(ad.add (i.toNat * 5)).off+1,none⟩=some (.string (rd_T98 xs i).f1)∧w.cell? ⟨(ad.add (i.toNat * 5)).block,(ad.add (i.toNat * 5)).off+2,none⟩=some (.int .i64 (rd_T98 xs i).f2)∧w.cell? ⟨(ad.add (i.toNat * 5)).block,(ad.add (i.toNat * 5)).off+3,none⟩=some (.int .i64 (rd_T98 xs i).f3)∧w.cell? ⟨(ad.add (i.toNat * 5)).block,(ad.add (i.toNat * 5)).off+4,none⟩=some (.string (rd_T98 xs i).f4):=by
 obtain ⟨ad,c,e,_,hK,hc0⟩:=Kd.C_get h z98 i h0 h1;have hc:∀ j u,c[j]? = some u→w.cell? (ad.add (i.toNat * 5+j))=some u:=hc0;obtain rfl:=k98_open hK
 exact ⟨ad,e,hc 0 _ rfl,by rw [← add_field _ _ 1 (by omega)];exact hc 1 _ rfl,by rw [← add_field _ _ 2 (by omega)];exact hc 2 _ rfl,by rw [← add_field _ _ 3 (by omega)];exact hc 3 _ rfl,by rw [← add_field _ _ 4 (by omega)];exact hc 4 _ rfl⟩
structure S71 where
 f0:Int
 f1:ByteArray
 f2:Int
 f3:Int
 f4:ByteArray
def z71:S71:=⟨(0:Int),(⟨#[]⟩:ByteArray),(0:Int),(0:Int),(⟨#[]⟩:ByteArray)⟩
def k71:Kd S71:=Kd.iso (Kd.pair (Kd.int .i64) (Kd.pair Kd.string (Kd.pair (Kd.int .i64) (Kd.pair (Kd.int .i64) Kd.string)))) (fun x:S71=>(x.f0,x.f1,x.f2,x.f3,x.f4))
theorem k71_heap:Kd.Heap k71:=Kd.heap_iso _ (Kd.heap_pair (Kd.heap_int .i64) (Kd.heap_pair Kd.heap_string (Kd.heap_pair (Kd.heap_int .i64) (Kd.heap_pair (Kd.heap_int .i64) Kd.heap_string))))
theorem k71_open {w:World} {x:S71} {cs:List Value} (h:k71.K w x cs):cs=[.int .i64 x.f0,.string x.f1,.int .i64 x.f2,.int .i64 x.f3,.string x.f4]:=by
 obtain ⟨_,_,rfl,rfl,⟨_,_,rfl,rfl,⟨_,_,rfl,rfl,⟨_,_,rfl,rfl,rfl⟩⟩⟩⟩:=h
 exact rfl
theorem k71_openM {w:World} {base:Nat} {ok:Nat→Prop} {x:S71} {cs:List Value} (h:k71.M w base ok x cs):cs=[.int .i64 x.f0,.string x.f1,.int .i64 x.f2,.int .i64 x.f3,.string x.f4]:=by
 obtain ⟨_,_,rfl,rfl,⟨_,_,rfl,rfl,⟨_,_,rfl,rfl,⟨_,_,rfl,rfl,rfl⟩⟩⟩⟩:=h
 exact rfl
theorem k71_mkM (w:World) (base:Nat) (ok:Nat→Prop) (x:S71)  : k71.M w base ok x [.int .i64 x.f0,.string x.f1,.int .i64 x.f2,.int .i64 x.f3,.string x.f4]:=⟨[.int .i64 x.f0],[.string x.f1,.int .i64 x.f2,.int .i64 x.f3,.string x.f4],rfl,rfl,⟨[.string x.f1],[.int .i64 x.f2,.int .i64 x.f3,.string x.f4],rfl,rfl,⟨[.int .i64 x.f2],[.int .i64 x.f3,.string x.f4],rfl,rfl,⟨[.int .i64 x.f3],[.string x.f4],rfl,rfl,rfl⟩⟩⟩⟩
def rd_T71 (xs:List S71) (i:Int):S71:=xs.getD i.toNat z71
theorem at_T71 {w:World} {A:Option Addr} {n:Nat} {xs:List S71} (h:Kd.C k71 w A n xs) (i:Int) (h0:0≤i) (h1:i<n):∃ ad ,A=some ad∧w.cell? (ad.add (i.toNat * 5))=some (.int .i64 (rd_T71 xs i).f0)∧w.cell? ⟨(ad.add (i.toNat * 5)).block,(ad.add (i.toNat * 5)).off+1,none⟩=some (.string (rd_T71 xs i).f1)∧w.cell? ⟨(ad.add (i.toNat * 5)).block,(ad.add (i.toNat * 5)).off+2,none⟩=some (.int .i64 (rd_T71 xs i).f2)∧w.cell? ⟨(ad.add (i.toNat * 5)).block,(ad.add (i.toNat * 5)).off+3,none⟩=some (.int .i64 (rd_T71 xs i).f3)∧w.cell? ⟨(ad.add (i.toNat * 5)).block,(ad.add (i.toNat * 5)).off+4,none⟩=some (.string (rd_T71 xs i).f4):=by
 obtain ⟨ad,c,e,_,hK,hc0⟩:=Kd.C_get h z71 i h0 h1;have hc:∀ j u,c[j]? = some u→w.cell? (ad.add (i.toNat * 5+j))=some u:=hc0;obtain rfl:=k71_open hK
 exact ⟨ad,e,hc 0 _ rfl,by rw [← add_field _ _ 1 (by omega)];exact hc 1 _ rfl,by rw [← add_field _ _ 2 (by omega)];exact hc 2 _ rfl,by rw [← add_field _ _ 3 (by omega)];exact hc 3 _ rfl,by rw [← add_field _ _ 4 (by omega)];exact hc 4 _ rfl⟩
structure S103 where
 f0:(List ByteArray)
def z103:S103:=⟨([]:List ByteArray)⟩
def k103:Kd S103:=Kd.iso (Kd.slice 9 Kd.string) (fun x:S103=>x.f0)
theorem k103_open {w:World} {x:S103} {cs:List Value} (h:k103.K w x cs):∃ A0 c0,cs=[.slice A0 x.f0.length c0]∧x.f0.length≤c0∧Kd.string.C w A0 x.f0.length x.f0:=by
 obtain ⟨A0,c0,rfl,l0,g0⟩:=h
 exact ⟨A0,c0,rfl,l0,g0⟩
theorem k103_mkM (w:World) (base:Nat) (ok:Nat→Prop) (x:S103) {v0:Value} (g0:Kd.string.R 9 w base ok v0 x.f0):k103.M w base ok x [v0]:=⟨v0,rfl,g0⟩
def rd_T103 (xs:List S103) (i:Int):S103:=xs.getD i.toNat z103
theorem at_T103 {w:World} {A:Option Addr} {n:Nat} {xs:List S103} (h:Kd.C k103 w A n xs) (i:Int) (h0:0≤i) (h1:i<n):∃ ad A0 c0,A=some ad∧w.cell? (ad.add i.toNat)=some (.slice A0 (rd_T103 xs i).f0.length c0)∧(rd_T103 xs i).f0.length≤c0∧Kd.string.C w A0 (rd_T103 xs i).f0.length (rd_T103 xs i).f0:=by
 obtain ⟨ad,c,e,_,hK,hc0⟩:=Kd.C_get h z103 i h0 h1;have hc:∀ j u,c[j]? = some u→w.cell? (ad.add (i.toNat * 1+j))=some u:=hc0;obtain ⟨A0,c0,rfl,l0,g0⟩:=k103_open hK
 exact ⟨ad,A0,c0,e,by have hq:=hc 0 _ rfl;rwa [Nat.mul_one,Nat.add_zero] at hq,l0,g0⟩
structure S62 where
 f0:ByteArray
 f1:(List S103)
def z62:S62:=⟨(⟨#[]⟩:ByteArray),([]:List S103)⟩
def k62:Kd S62:=Kd.iso (Kd.pair Kd.string (Kd.slice 103 k103)) (fun x:S62=>(x.f0,x.f1))
theorem k62_open {w:World} {x:S62} {cs:List Value} (h:k62.K w x cs):∃ A1 c1,cs=[.string x.f0,.slice A1 x.f1.length c1]∧x.f1.length≤c1∧k103.C w A1 x.f1.length x.f1:=by
 obtain ⟨_,_,rfl,rfl,⟨A1,c1,rfl,l1,g1⟩⟩:=h
 exact ⟨A1,c1,rfl,l1,g1⟩
theorem k62_mk (w:World) (x:S62) {A1:Option Addr} {c1:Nat} (l1:x.f1.length≤c1) (g1:k103.C w A1 x.f1.length x.f1):k62.K w x [.string x.f0,.slice A1 x.f1.length c1]:=⟨[.string x.f0],[.slice A1 x.f1.length c1],rfl,rfl,⟨A1,c1,rfl,l1,g1⟩⟩
theorem k62_openF {W:World} {ok:Nat→Prop} {x:S62} {cs:List Value} (h:Kd.FK k62 W ok x cs):∃ A1 c1,cs=[.string x.f0,.slice A1 x.f1.length c1]∧x.f1.length≤c1∧Kd.F k103 W ok A1 x.f1.length x.f1:=by
 obtain ⟨A1,c1,rfl,l1,_⟩:=k62_open (Kd.FK_now h)
 exact ⟨A1,c1,rfl,l1,(fun W' hW=>by obtain ⟨A1_,c1_,he,l1_,g1_⟩:=k62_open (h W' hW);injection (Option.some.inj (show some (Value.slice A1 x.f1.length c1)=some (Value.slice A1_ x.f1.length c1_) from congrArg (fun l=>l[1]?) he)) with ha_ _ _;rw [ha_];exact g1_)⟩
theorem k62_mkF (W:World) (ok:Nat→Prop) (x:S62) {A1:Option Addr} {c1:Nat} (l1:x.f1.length≤c1) (g1:Kd.F k103 W ok A1 x.f1.length x.f1):Kd.FK k62 W ok x [.string x.f0,.slice A1 x.f1.length c1]:=fun W2 hW=>k62_mk W2 x l1 (g1 W2 hW)
def rd_T62 (xs:List S62) (i:Int):S62:=xs.getD i.toNat z62
theorem at_T62 {w:World} {A:Option Addr} {n:Nat} {xs:List S62} (h:Kd.C k62 w A n xs) (i:Int) (h0:0≤i) (h1:i<n):∃ ad A1 c1,A=some ad∧w.cell? (ad.add (i.toNat * 2))=some (.string (rd_T62 xs i).f0)∧w.cell? ⟨(ad.add (i.toNat * 2)).block,(ad.add (i.toNat * 2)).off+1,none⟩=some (.slice A1 (rd_T62 xs i).f1.length c1)∧(rd_T62 xs i).f1.length≤c1∧k103.C w A1 (rd_T62 xs i).f1.length (rd_T62 xs i).f1:=by
 obtain ⟨ad,c,e,_,hK,hc0⟩:=Kd.C_get h z62 i h0 h1;have hc:∀ j u,c[j]? = some u→w.cell? (ad.add (i.toNat * 2+j))=some u:=hc0;obtain ⟨A1,c1,rfl,l1,g1⟩:=k62_open hK
 exact ⟨ad,A1,c1,e,hc 0 _ rfl,by rw [← add_field _ _ 1 (by omega)];exact hc 1 _ rfl,l1,g1⟩
structure S94 where
 f0:ByteArray
 f1:Int
 f2:Int
 f3:ByteArray
def z94:S94:=⟨(⟨#[]⟩:ByteArray),(0:Int),(0:Int),(⟨#[]⟩:ByteArray)⟩
def k94:Kd S94:=Kd.iso (Kd.pair Kd.string (Kd.pair (Kd.int .i64) (Kd.pair (Kd.int .i64) Kd.string))) (fun x:S94=>(x.f0,x.f1,x.f2,x.f3))
theorem k94_open {w:World} {x:S94} {cs:List Value} (h:k94.K w x cs):cs=[.string x.f0,.int .i64 x.f1,.int .i64 x.f2,.string x.f3]:=by
 obtain ⟨_,_,rfl,rfl,⟨_,_,rfl,rfl,⟨_,_,rfl,rfl,rfl⟩⟩⟩:=h
 exact rfl
theorem k94_mkM (w:World) (base:Nat) (ok:Nat→Prop) (x:S94)  : k94.M w base ok x [.string x.f0,.int .i64 x.f1,.int .i64 x.f2,.string x.f3]:=⟨[.string x.f0],[.int .i64 x.f1,.int .i64 x.f2,.string x.f3],rfl,rfl,⟨[.int .i64 x.f1],[.int .i64 x.f2,.string x.f3],rfl,rfl,⟨[.int .i64 x.f2],[.string x.f3],rfl,rfl,rfl⟩⟩⟩
def rd_T94 (xs:List S94) (i:Int):S94:=xs.getD i.toNat z94
theorem at_T94 {w:World} {A:Option Addr} {n:Nat} {xs:List S94} (h:Kd.C k94 w A n xs) (i:Int) (h0:0≤i) (h1:i<n):∃ ad ,A=some ad∧w.cell? (ad.add (i.toNat * 4))=some (.string (rd_T94 xs i).f0)∧w.cell? ⟨(ad.add (i.toNat * 4)).block,(ad.add (i.toNat * 4)).off+1,none⟩=some (.int .i64 (rd_T94 xs i).f1)∧w.cell? ⟨(ad.add (i.toNat * 4)).block,(ad.add (i.toNat * 4)).off+2,none⟩=some (.int .i64 (rd_T94 xs i).f2)∧w.cell? ⟨(ad.add (i.toNat * 4)).block,(ad.add (i.toNat * 4)).off+3,none⟩=some (.string (rd_T94 xs i).f3):=by
 obtain ⟨ad,c,e,_,hK,hc0⟩:=Kd.C_get h z94 i h0 h1;have hc:∀ j u,c[j]? = some u→w.cell? (ad.add (i.toNat * 4+j))=some u:=hc0;obtain rfl:=k94_open hK
 exact ⟨ad,e,hc 0 _ rfl,by rw [← add_field _ _ 1 (by omega)];exact hc 1 _ rfl,by rw [← add_field _ _ 2 (by omega)];exact hc 2 _ rfl,by rw [← add_field _ _ 3 (by omega)];exact hc 3 _ rfl⟩
structure S25 where
 f0:Int
 f1:ByteArray
 f2:ByteArray
 f3:Int
 f4:(List ByteArray)
 f5:(List S98)
def k25:Kd S25:=Kd.iso (Kd.pair (Kd.int .i64) (Kd.pair Kd.string (Kd.pair Kd.string (Kd.pair (Kd.int .i64) (Kd.pair (Kd.slice 9 Kd.string) (Kd.slice 98 k98)))))) (fun x:S25=>(x.f0,x.f1,x.f2,x.f3,x.f4,x.f5))
theorem k25_open {w:World} {x:S25} {cs:List Value} (h:k25.K w x cs):∃ A4 c4 A5 c5,cs=[.int .i64 x.f0,.string x.f1,.string x.f2,.int .i64 x.f3,.slice A4 x.f4.length c4,.slice A5 x.f5.length c5]∧x.f4.length≤c4∧Kd.string.C w A4 x.f4.length x.f4∧x.f5.length≤c5∧k98.C w A5 x.f5.length x.f5:=by
 obtain ⟨_,_,rfl,rfl,⟨_,_,rfl,rfl,⟨_,_,rfl,rfl,⟨_,_,rfl,rfl,⟨_,_,rfl,⟨A4,c4,rfl,l4,g4⟩,⟨A5,c5,rfl,l5,g5⟩⟩⟩⟩⟩⟩:=h
 exact ⟨A4,c4,A5,c5,rfl,l4,g4,l5,g5⟩
end Go.Proofs.YtogkcllenfkdmaaGreatDoor.QR
