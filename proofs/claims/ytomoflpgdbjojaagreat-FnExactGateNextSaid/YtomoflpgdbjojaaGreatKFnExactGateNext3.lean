-- Merged by a program of this session (wip/tool/pack.py) out of its own texts for this claim.
import Derived.WalkKit
import Derived.Laws.Strings
import Derived.Test.YtomoflpgdbjojaaGreatProg
import Derived.Below
import Derived.Deep.Draws
import Derived.Deep.AppendLies
import Derived.Maps.AppendAt
import Derived.OwnWalk
import Derived.Laws.BytesArg
import Derived.Laws.MakeOwn
import Derived.Laws.OwnMore
import Derived.Deep.OwnRows
import Derived.Tactics
import Derived.Lib.ConvBytes
import Derived.Laws.Slices
import Derived.KernelRfl
import Derived.RowKit3
import Derived.Deep.LoopGhost
import Derived.Deep.QuietTactic
import Derived.BigQuiet
import Derived.WideLaws
import Derived.Deep.DeepCutAuto
import Derived.Deep.CutBlock
import Derived.Deep.RegionHeld3
import Derived.Laws.Rows
import Derived.Lib.AppendStr
import Derived.ArgAppend
import Derived.Laws.IdiomCopy
import Derived.OrdersHeld
import Derived.Laws.BitsLemmas
import Derived.RowKit
import Derived.StillTailTactics
import Derived.Lib.Bytealg
import Derived.Test.YtomoflpgdbjojaaGreatKFnExactGateNext2
set_option linter.unusedSimpArgs false
set_option linter.unusedVariables false
namespace Go.Proofs.YtomoflpgdbjojaaGreatW.PrintMore
open Go.RowKit Go.Proofs.YtomoflpgdbjojaaGreatW.PrintWords Go.Proofs.YtomoflpgdbjojaaGreatW.PrintLast
section
variable {P : Program} {ops : Array Oper} {Q : Exit → Act → World → Prop} {md : Region.Mode} {S : World → Prop} {ds : List Nat} {T : Bool × List (List Nat × List Nat)} {B : List Nat} {fuel : Nat} {l : Array Bool} {a a' : Act} {w : World} {oi : Oper} {v : Value}
theorem pA (i N:Nat) (hT:Aside0 (rtab md ops=T)) (h:wpAnyLast P md ops Q S ds fuel (l.setIfInBounds i true) a' w)
  (hi:ops[i]? = some oi:=by exact rfl) (hN:oi.dst=some N:=by exact rfl) (hc:anyT T l.toList (l.setIfInBounds i true).toList i=true:=by kernel_rfl)
  (hw:Region.wanted oi (yielded ops a.tmps)=true:=by rfl) (hy:∀ w,(execOp a.eval oi).run P w=.ok (.value v) w:=by (intro w';go_simp;with_reducible rfl))
  (ha:a.put (some N) v=a':=by (simp only [Act.put,List.setIfInBounds_toArray,List.set_cons_zero,List.set_cons_succ,i64_w,i32_w];rfl))
  (hQ:∀ c a w,Q (.panic c) (a.put oi.dst v) w→Q (.panic c) a w:=by exact fun _ _ _ h=>h):wpAnyLast P md ops Q S ds (fuel+1) l a w :=
 pure_ _ hi hN (any_of hT.out hc) hQ (Or.inl ⟨hw,hy⟩) ha h
theorem pB (i N:Nat) (hT:Aside0 (rtab md ops=T)) (h:wpAnyLast P md ops Q S ds fuel (l.setIfInBounds i true) a' w)
  (hi:ops[i]? = some oi:=by exact rfl) (hN:oi.dst=some N:=by exact rfl) (hc:anyT T l.toList (l.setIfInBounds i true).toList i=true:=by kernel_rfl)
  (hw:Region.wanted oi (yielded ops a.tmps)=false:=by rfl)
  (ha:a.put (some N) undef=a':=by (simp only [Act.put,List.setIfInBounds_toArray,List.set_cons_zero,List.set_cons_succ,i64_w,i32_w];rfl))
  (hQ:∀ c a w,Q (.panic c) (a.put oi.dst undef) w→Q (.panic c) a w:=by exact fun _ _ _ h=>h):wpAnyLast P md ops Q S ds (fuel+1) l a w :=
 pure_ _ hi hN (any_of hT.out hc) hQ (Or.inr ⟨hw,rfl⟩) ha h
theorem tA (i N:Nat) (hT:Aside0 (rtab md ops=T)) (hB:Aside0 (waitsOk T.2 B=true)) (hS:S w) (h:wpAnyLast P md ops Q S ds fuel (l.setIfInBounds i true) a' w)
  (hi:ops[i]? = some oi:=by exact rfl) (hN:oi.dst=some N:=by exact rfl) (hc:takeW T B ds l.toList (l.setIfInBounds i true).toList i=true:=by kernel_rfl)
  (hw:Region.wanted oi (yielded ops a.tmps)=true:=by rfl) (hy:∀ w,S w→(execOp a.eval oi).run P w=.ok (.value v) w:=by (intro w' hs;go_simp;with_reducible rfl))
  (ha:a.put (some N) v=a':=by (simp only [Act.put,List.setIfInBounds_toArray,List.set_cons_zero,List.set_cons_succ,i64_w,i32_w];rfl))
  (hQ:∀ c a w,Q (.panic c) (a.put oi.dst v) w→Q (.panic c) a w:=by exact fun _ _ _ h=>h):wpAnyLast P md ops Q S ds (fuel+1) l a w :=
 take_ _ hi hN (take_ofW hT.out hB.out hc) hQ (Or.inl ⟨hw,hy⟩) hS ha h
theorem oA (i N:Nat) (hT:Aside0 (rtab md ops=T))
  (h:∀ K:Act→World→Prop,Shut (∀ a' w',S w'→(S w'→wpAnyLast P md ops Q S ds fuel (l.setIfInBounds i true) a' w')→K a' w')→if Region.wanted oi (yielded ops a.tmps)=true then Oper.wp P oi a w K Q else K (a.put (some N) undef) w)
  (hi:ops[i]? = some oi:=by exact rfl) (hN:oi.dst=some N:=by exact rfl) (hc:(readyT T.2 l.toList == [i] && l.toList.set i true == (l.setIfInBounds i true).toList)=true:=by kernel_rfl) (hd:i ∉ ds:=by decide):wpAnyLast P md ops Q S ds (fuel+1) l a w :=
 one_ _ hi hN (one_of hT.out hc) hd h
theorem gA {N : Option Tmp} {K : Act → World → Prop} {f : FuncId} {fn : Func} {as_0 : Array Operand} {ts : Array TypeId} (hf : P.funcs[f]? = some fn) (args : Array Value)
    (h : Calls P f args w fun e w' => ∃ v, e = .returned v ∧ K (a.put N v) w') (hname : (fn.name == "runtime.NumGoroutine") = false := by kernel_rfl) (hb : fn.body.isSome = true := by exact rfl)
    (hw : Region.wanted oi (yielded ops a.tmps) = true := by rfl) (hN : oi.dst = N := by exact rfl) (hop : oi.op = .call { callee := .value (.func f), args := as_0, argTypes := ts } := by exact rfl)
    (hargs : as_0.map a.eval = args := by (try simp only [List.map_toArray, List.map_cons, List.map_nil]); first | done | rfl | (simp only [List.length_drop, List.length_take]; rfl)) : if Region.wanted oi (yielded ops a.tmps) = true then Oper.wp P oi a w K Q else K (a.put N undef) w :=
  goes_ hf hname hb args hw hN hop hargs h
theorem nA (N:Nat) (h:wpAnyLast P md ops Q S ds fuel l a' w) (ha:a.put (some N) v=a':=by (simp only [Act.put,List.setIfInBounds_toArray,List.set_cons_zero,List.set_cons_succ,i64_w,i32_w];rfl)):wpAnyLast P md ops Q S ds fuel l (a.put (some N) v) w:=norm_ ha h
end
section
variable {P : Program} {ops : Array Oper} {Q : Exit → Act → World → Prop} {o : Oper} {rest : List Oper} {a : Act}
theorem bx {W:World} (N:Tmp) {cs:Array Value} {t:TypeId} (h:∀ g,g=W.heap.size→∀ w1,w1.heap[g]? = some (.cells cs t (0,0))→Below W.heap.size W w1→wpList P ops Q rest (a.put o.dst (.pointer (some ⟨g,0,none⟩))) w1)
  (hd:o.dst=some N:=by rfl) (hg:o.guard=none:=by rfl) (hr:(execOp a.eval o).run P W=.ok (.value (.pointer (some ⟨W.heap.size,0,none⟩))) (W.alloc (.cells cs t (0,0))):=by first|(go_simp;done)|(go_simp;rfl)):wpList P ops Q (o :: rest) a W :=
 box_event hg hd hr h
end
theorem _root_.Go.Proofs.YtomoflpgdbjojaaGreatW.PrintWords.KeepBut.far {w w1 w2:World} {g gl:Nat} {row:Option Nat} (h:KeepBut w w1 g row) (k:KeepBut w1 w2 gl none) (hge:w.heap.size≤gl):KeepBut w w2 g row :=
 ⟨Nat.le_trans h.1 k.1,fun i hi hg hr=>(k.2 i (Nat.lt_of_lt_of_le hi h.1) (by omega) (by simp)).trans (h.2 i hi hg hr)⟩
theorem bs {w W W':World} (h:Aside0 (Below w.heap.size w W)) (e:Below w.heap.size w W→Below w.heap.size w W':=by (intro h;repeat (first|(with_reducible first|exact h|apply below_alloc|apply pw_below_drewN|apply below_drew1)|refine below_set ?_ (Aside0.out (by assumption))|exact h))):Below w.heap.size w W':=e h.out
theorem ks {W W':World} {g:Nat} {t:TypeId} {cs:Array Value} (h:Aside0 (W.heap[g]? = some (.cells cs t (0,0)))) (e:W.heap[g]? = some (.cells cs t (0,0))→W'.heap[g]? = some (.cells cs t (0,0)):=by (intro h;repeat (first|(with_reducible first|exact h|refine blk_drewN ?_ _|refine blk_drew ?_|refine blk_alloc ?_ _)|refine blk_far ?_ (Aside0.out (by assumption)) _|exact h))):W'.heap[g]? = some (.cells cs t (0,0)):=e h.out
theorem rs {α:Type} {d:Kd α} {e base:Nat} {W W':World} {ok:Nat→Prop} {v:Value} {xs:List α} (h:Aside0 (d.R e W base ok v xs)) (k:d.R e W base ok v xs→d.R e W' base ok v xs:=by (intro h;(with_reducible repeat (first|apply Kd.R_alloc|apply Kd.R_drewN|apply Kd.R_drew));exact h)):d.R e W' base ok v xs:=k h.out
theorem put0 {w:World} {g:Nat} {t:TypeId} {cs:Array Value} (h:w.heap[g]? = some (.cells cs t (0,0))) (i:Nat) (u:Value):(w.setCell ⟨g,i,none⟩ u).heap[g]? = some (.cells (cs.setIfInBounds i u) t (0,0)):=blk_put h i u rfl
theorem fin0 {w:World} {g:Nat} {t:TypeId} {cs cs':Array Value} (h:w.heap[g]? = some (.cells cs t (0,0))) (e:cs=cs'):w.heap[g]? = some (.cells cs' t (0,0)):=e ▸ h
theorem far0 {w:World} {g:Nat} {t:TypeId} {p:Addr} (hp:Aside0 (g≠p.block)) {cs:Array Value} (h:w.heap[g]? = some (.cells cs t (0,0))) (u:Value):(w.setCell p u).heap[g]? = some (.cells cs t (0,0)):=blk_far h hp.out u
theorem kp {W W':World} {g:Nat} {t:TypeId} {cs cs':Array Value} (h:Aside0 (W.heap[g]? = some (.cells cs t (0,0)))) (e:W.heap[g]? = some (.cells cs t (0,0))→W'.heap[g]? = some (.cells cs' t (0,0)):=by (intro h;apply fin0;(· repeat (first|(with_reducible first|exact h|refine blk_drewN ?_ _|refine blk_drew ?_|refine blk_alloc ?_ _)|(with_reducible apply put0)|((with_reducible apply far0);assumption)|exact h));(· first|(simp only [List.setIfInBounds_toArray,List.set_cons_zero,List.set_cons_succ];done)|rfl))):W'.heap[g]? = some (.cells cs' t (0,0)):=e h.out
theorem gs {w W:World} {g:Nat} (hg:g=W.heap.size) (h:Below w.heap.size w W):w.heap.size≤g:=hg ▸ h.size
theorem gn {W:World} {g g':Nat} {o:Obj} (hg:g'=W.heap.size) (h:W.heap[g]? = some o):g≠g':=by rw [hg];exact Nat.ne_of_lt (blk_lt h)
theorem gm {W:World} {g g':Nat} {o:Obj} (hg:g'=W.heap.size) (h:W.heap[g]? = some o):g'≠g:=(gn hg h).symm
theorem bq {w W W' W2:World} (h:Aside0 (Below w.heap.size w W)) (hb:Below W'.heap.size W' W2) (e:Below w.heap.size w W→Below w.heap.size w W':=by (intro h;repeat (first|(with_reducible first|exact h|apply below_alloc|apply pw_below_drewN|apply below_drew1)|refine below_set ?_ (Aside0.out (by assumption))|exact h))):Aside0 (Below w.heap.size w W2):=Aside0.mk (below_step (e h.out) hb)
theorem gw {w W W':World} {g:Nat} (hg:g=W'.heap.size) (h:Aside0 (Below w.heap.size w W)) (e:Below w.heap.size w W→Below w.heap.size w W':=by (intro h;repeat (first|(with_reducible first|exact h|apply below_alloc|apply pw_below_drewN|apply below_drew1)|refine below_set ?_ (Aside0.out (by assumption))|exact h))):Aside0 (w.heap.size≤g):=Aside0.mk (gs hg (e h.out))
theorem bb {W W' W2:World} {g:Nat} {t:TypeId} {cs:Array Value} (h:Aside0 (W.heap[g]? = some (.cells cs t (0,0)))) (hb:Below W'.heap.size W' W2) (e:W.heap[g]? = some (.cells cs t (0,0))→W'.heap[g]? = some (.cells cs t (0,0)):=by (intro h;repeat (first|(with_reducible first|exact h|refine blk_drewN ?_ _|refine blk_drew ?_|refine blk_alloc ?_ _)|refine blk_far ?_ (Aside0.out (by assumption)) _|exact h))):Aside0 (W2.heap[g]? = some (.cells cs t (0,0))):=Aside0.mk (blk_below (e h.out) hb)
theorem na {W W':World} {g g':Nat} {t:TypeId} {cs:Array Value} (hg:g'=W'.heap.size) (h:Aside0 (W.heap[g]? = some (.cells cs t (0,0)))) (e:W.heap[g]? = some (.cells cs t (0,0))→W'.heap[g]? = some (.cells cs t (0,0)):=by (intro h;repeat (first|(with_reducible first|exact h|refine blk_drewN ?_ _|refine blk_drew ?_|refine blk_alloc ?_ _)|refine blk_far ?_ (Aside0.out (by assumption)) _|exact h))):Aside0 (g≠g'):=Aside0.mk (gn hg (e h.out))
theorem nc {W W':World} {g g':Nat} {t:TypeId} {cs:Array Value} (hg:g'=W'.heap.size) (h:Aside0 (W.heap[g]? = some (.cells cs t (0,0)))) (e:W.heap[g]? = some (.cells cs t (0,0))→W'.heap[g]? = some (.cells cs t (0,0)):=by (intro h;repeat (first|(with_reducible first|exact h|refine blk_drewN ?_ _|refine blk_drew ?_|refine blk_alloc ?_ _)|refine blk_far ?_ (Aside0.out (by assumption)) _|exact h))):Aside0 (g'≠g):=Aside0.mk (gm hg (e h.out))
theorem nl {w:World} {p:Addr} {v:Value} {b g:Nat} (h:w.cell? p=some v) (G:Aside0 (w.heap.size≤g)) (e:p.block=b:=by first|rfl|exact add_block _ _):b≠g:=e ▸ Nat.ne_of_lt (Nat.lt_of_lt_of_le (World.block_lt_of_cell? _ _ h) G.out)
theorem nz {a b g:Nat} (h:a≠g) (e:b=a:=by first|rfl|exact add_block _ _):b≠g:=e ▸ h
theorem sd {α:Type} {d:Kd α} {w0 w1:World} {A:Option Addr} {n:Nat} {l:List α} (h:d.C w0 A n l) (e:d.C w0 A n l→d.C w1 A n l:=by (intro h;repeat (first|exact h|(with_reducible refine Kd.C_alloc ?_ _)|(with_reducible refine Kd.C_drewN ?_ _)|(with_reducible refine Kd.C_drew ?_)))):d.C w1 A n l:=e h
theorem dr {p:Prop} (h:p:=by repeat (first|exact Drawn0.refl _|apply Drawn0.step)):p:=h
section
variable {P : Program} {ops : Array Oper} {Q : Exit → Act → World → Prop} {o : Oper} {rest : List Oper} {a : Act}
theorem bz {w0 w W:World} (N:Tmp) {cs:Array Value} {t:TypeId} (HB:Aside0 (Below w0.heap.size w0 w)) (h:∀ g,g=W.heap.size→∀ w1,Aside0 (w1.heap[g]? = some (.cells cs t (0,0)))→Aside0 (w0.heap.size≤g)→Below W.heap.size W w1→Aside0 (Below w0.heap.size w0 w1)→wpList P ops Q rest (a.put o.dst (.pointer (some ⟨g,0,none⟩))) w1)
  (e:Below w0.heap.size w0 w→Below w0.heap.size w0 W:=by (intro h;repeat (first|(with_reducible first|exact h|apply below_alloc|apply pw_below_drewN|apply below_drew1)|refine below_set ?_ (Aside0.out (by assumption))|exact h))) (hd:o.dst=some N:=by rfl) (hg:o.guard=none:=by rfl) (hr:(execOp a.eval o).run P W=.ok (.value (.pointer (some ⟨W.heap.size,0,none⟩))) (W.alloc (.cells cs t (0,0))):=by first|(go_simp;done)|(go_simp;rfl)):wpList P ops Q (o :: rest) a W :=
 box_event hg hd hr (fun g hg' w1 hb hW=>h g hg' w1 (Aside0.mk hb) (Aside0.mk (gs hg' (e HB.out))) hW (Aside0.mk (below_step (e HB.out) hW)))
theorem rl {α:Type} (d:Kd α) {W:World} (e:Nat) {N:Tmp} {xs:List α} {inner:List Value}
  (hrep:Reps (d.M W W.heap.size (fun _=>True)) d.sz xs inner)
  (h:∀ v1 w1,d.R e w1 W.heap.size (fun _=>True) v1 xs→Below W.heap.size W w1→W.grownBy w1 none→(∃ b,v1.ownBlock=some b∧W.heap.size≤b)→wpList P ops Q rest (a.put o.dst v1) w1)
  (hg:o.guard=none:=by rfl) (hd:o.dst=some N:=by rfl) (hr:(execOp a.eval o).run P W=.ok (.value (.slice (some ⟨W.heap.size,0,none⟩) xs.length xs.length)) (W.alloc (.cells inner.toArray e)):=by first|(go_simp;done)|(go_simp;rfl))
  (hm:xs.length≤9223372036854775807:=by simp):wpList P ops Q (o :: rest) a W :=
 Kd.R_lit d _ e hg hd hr hrep (fun _ hk=>hk) trivial (Below.refl _ _) (Nat.le_refl _) hm h
end
theorem oa {p:Prop} [Decidable p] (h:decide p=true:=by first|(with_reducible assumption)|assumption):p:=of_decide_eq_true h
theorem rf {α:Type} {d:Kd α} {e base:Nat} {W W':World} {ok:Nat→Prop} {v:Value} {xs:List α} (h:d.R e W base ok v xs) (k:d.R e W base ok v xs→d.R e W' base ok v xs:=by (intro h;repeat (first|(with_reducible first|exact h|apply Kd.R_alloc|apply Kd.R_drewN|apply Kd.R_drew)|refine Kd.R_far ?_ (fun _ hk=>hk.2) _|exact h))):d.R e W' base ok v xs:=k h
theorem bc {w:World} {g:Nat} {t:TypeId} {cs:Array Value} {v:Value} (h:Aside0 (w.heap[g]? = some (.cells cs t (0,0)))) (i:Nat) (e:cs[i]? = some v):w.cell? ⟨g,i,none⟩=some v:=(blk_cell h.out i).trans e
theorem cb {w W:World} {p:Addr} {v:Value} (h:Aside0 (Below w.heap.size w W)) (hx:w.cell? p=some v):W.cell? p=some v:=(h.out.cell (World.block_lt_of_cell? w _ hx)).trans hx
theorem ff {p:Prop} (h:p:=by first|rfl|(simp [errW_none,errW_some] <;> rfl)|(simp [*,errW_none,errW_some] <;> rfl)):p:=h
theorem fg {p:Prop} (h:p:=by first|rfl|(simp;done)|(simp [*];done)):p:=h
theorem fl {m n:Nat} (h:m≤n:=by first|omega|exact Nat.le_refl _):m≤n:=h
theorem cf2 {w:World} {g:Nat} {t:TypeId} {v0 v1:Value} (h:Aside0 (w.heap[g]? = some (.cells #[v0,v1] t (0,0)))):w.cell? ⟨g,0,none⟩=some v0∧w.cell? ⟨g,1,none⟩=some v1∧w.frozen? ⟨g,0,none⟩=false∧w.frozen? ⟨g,1,none⟩=false :=
 ⟨(blk_cell h.out 0).trans rfl,(blk_cell h.out 1).trans rfl,blk_frozen h.out 0,blk_frozen h.out 1⟩
theorem cf3 {w:World} {g:Nat} {t:TypeId} {v0 v1 v2:Value} (h:Aside0 (w.heap[g]? = some (.cells #[v0,v1,v2] t (0,0)))):w.cell? ⟨g,0,none⟩=some v0∧w.cell? ⟨g,1,none⟩=some v1∧w.cell? ⟨g,2,none⟩=some v2∧w.frozen? ⟨g,0,none⟩=false∧w.frozen? ⟨g,1,none⟩=false∧w.frozen? ⟨g,2,none⟩=false :=
 ⟨(blk_cell h.out 0).trans rfl,(blk_cell h.out 1).trans rfl,(blk_cell h.out 2).trans rfl,blk_frozen h.out 0,blk_frozen h.out 1,blk_frozen h.out 2⟩
theorem cf4 {w:World} {g:Nat} {t:TypeId} {v0 v1 v2 v3:Value} (h:Aside0 (w.heap[g]? = some (.cells #[v0,v1,v2,v3] t (0,0)))):w.cell? ⟨g,0,none⟩=some v0∧w.cell? ⟨g,1,none⟩=some v1∧w.cell? ⟨g,2,none⟩=some v2∧w.cell? ⟨g,3,none⟩=some v3∧w.frozen? ⟨g,0,none⟩=false∧w.frozen? ⟨g,1,none⟩=false∧w.frozen? ⟨g,2,none⟩=false∧w.frozen? ⟨g,3,none⟩=false :=
 ⟨(blk_cell h.out 0).trans rfl,(blk_cell h.out 1).trans rfl,(blk_cell h.out 2).trans rfl,(blk_cell h.out 3).trans rfl,blk_frozen h.out 0,blk_frozen h.out 1,blk_frozen h.out 2,blk_frozen h.out 3⟩
theorem cf5 {w:World} {g:Nat} {t:TypeId} {v0 v1 v2 v3 v4:Value} (h:Aside0 (w.heap[g]? = some (.cells #[v0,v1,v2,v3,v4] t (0,0)))):w.cell? ⟨g,0,none⟩=some v0∧w.cell? ⟨g,1,none⟩=some v1∧w.cell? ⟨g,2,none⟩=some v2∧w.cell? ⟨g,3,none⟩=some v3∧w.cell? ⟨g,4,none⟩=some v4∧w.frozen? ⟨g,0,none⟩=false∧w.frozen? ⟨g,1,none⟩=false∧w.frozen? ⟨g,2,none⟩=false∧w.frozen? ⟨g,3,none⟩=false∧w.frozen? ⟨g,4,none⟩=false :=
 ⟨(blk_cell h.out 0).trans rfl,(blk_cell h.out 1).trans rfl,(blk_cell h.out 2).trans rfl,(blk_cell h.out 3).trans rfl,(blk_cell h.out 4).trans rfl,blk_frozen h.out 0,blk_frozen h.out 1,blk_frozen h.out 2,blk_frozen h.out 3,blk_frozen h.out 4⟩
theorem cf6 {w:World} {g:Nat} {t:TypeId} {v0 v1 v2 v3 v4 v5:Value} (h:Aside0 (w.heap[g]? = some (.cells #[v0,v1,v2,v3,v4,v5] t (0,0)))):w.cell? ⟨g,0,none⟩=some v0∧w.cell? ⟨g,1,none⟩=some v1∧w.cell? ⟨g,2,none⟩=some v2∧w.cell? ⟨g,3,none⟩=some v3∧w.cell? ⟨g,4,none⟩=some v4∧w.cell? ⟨g,5,none⟩=some v5∧w.frozen? ⟨g,0,none⟩=false∧w.frozen? ⟨g,1,none⟩=false∧w.frozen? ⟨g,2,none⟩=false∧w.frozen? ⟨g,3,none⟩=false∧w.frozen? ⟨g,4,none⟩=false∧w.frozen? ⟨g,5,none⟩=false :=
 ⟨(blk_cell h.out 0).trans rfl,(blk_cell h.out 1).trans rfl,(blk_cell h.out 2).trans rfl,(blk_cell h.out 3).trans rfl,(blk_cell h.out 4).trans rfl,(blk_cell h.out 5).trans rfl,blk_frozen h.out 0,blk_frozen h.out 1,blk_frozen h.out 2,blk_frozen h.out 3,blk_frozen h.out 4,blk_frozen h.out 5⟩
theorem cf8 {w:World} {g:Nat} {t:TypeId} {v0 v1 v2 v3 v4 v5 v6 v7:Value} (h:Aside0 (w.heap[g]? = some (.cells #[v0,v1,v2,v3,v4,v5,v6,v7] t (0,0)))):w.cell? ⟨g,0,none⟩=some v0∧w.cell? ⟨g,1,none⟩=some v1∧w.cell? ⟨g,2,none⟩=some v2∧w.cell? ⟨g,3,none⟩=some v3∧w.cell? ⟨g,4,none⟩=some v4∧w.cell? ⟨g,5,none⟩=some v5∧w.cell? ⟨g,6,none⟩=some v6∧w.cell? ⟨g,7,none⟩=some v7∧w.frozen? ⟨g,0,none⟩=false∧w.frozen? ⟨g,1,none⟩=false∧w.frozen? ⟨g,2,none⟩=false∧w.frozen? ⟨g,3,none⟩=false∧w.frozen? ⟨g,4,none⟩=false∧w.frozen? ⟨g,5,none⟩=false∧w.frozen? ⟨g,6,none⟩=false∧w.frozen? ⟨g,7,none⟩=false :=
 ⟨(blk_cell h.out 0).trans rfl,(blk_cell h.out 1).trans rfl,(blk_cell h.out 2).trans rfl,(blk_cell h.out 3).trans rfl,(blk_cell h.out 4).trans rfl,(blk_cell h.out 5).trans rfl,(blk_cell h.out 6).trans rfl,(blk_cell h.out 7).trans rfl,blk_frozen h.out 0,blk_frozen h.out 1,blk_frozen h.out 2,blk_frozen h.out 3,blk_frozen h.out 4,blk_frozen h.out 5,blk_frozen h.out 6,blk_frozen h.out 7⟩
theorem am {p:Prop} (h:p):Aside0 p:=⟨h⟩
abbrev qk3 (w:World) (g:Nat) (v0 v1 v2:Value):Prop:=w.cell? ⟨g,0,none⟩=some v0∧w.cell? ⟨g,1,none⟩=some v1∧w.cell? ⟨g,2,none⟩=some v2
abbrev qk3a (w:World) (g:Nat) (v0 v1 v2:Value) (q:Prop):Prop:=w.cell? ⟨g,0,none⟩=some v0∧w.cell? ⟨g,1,none⟩=some v1∧w.cell? ⟨g,2,none⟩=some v2∧q
abbrev qe3 (w:World) (p:Addr) (v0 v1 v2:Value):Prop:=w.cell? p=some v0∧w.cell? ⟨p.block,p.off+1,none⟩=some v1∧w.cell? ⟨p.block,p.off+2,none⟩=some v2
section
variable {α β : Type} {r : α} {x y : Option α} {P : Prop}
theorem bo {z:Option β} {f:β→Option α} (h:z.bind f=some r):∃ t,Aside0 (z=some t)∧f t=some r:=let ⟨t,a,b⟩:=Option.bind_eq_some_iff.mp h;⟨t,⟨a⟩,b⟩
theorem bt (b:Bool):b=true∨b=false:=by cases b <;> simp
theorem itT (H:(if true=true then x else y)=some r):x=some r:=H
theorem itF (H:(if false=true then x else y)=some r):y=some r:=H
theorem id2 {c:Prop} [Decidable c] (h1:decide c=true→x=some r→P) (h2:decide c=false→y=some r→P) (H:(if c then x else y)=some r):P:=by
 by_cases h:c
 ·exact h1 (decide_eq_true h) (by rwa [if_pos h] at H)
 ·exact h2 (decide_eq_false h) (by rwa [if_neg h] at H)
theorem id2k {c:Prop} [Decidable c] (h1:c→decide c=true→x=some r→P) (h2:¬ c→decide c=false→y=some r→P) (H:(if c then x else y)=some r):P:=id2 (fun a=>h1 (of_decide_eq_true a) a) (fun a=>h2 (of_decide_eq_false a) a) H
theorem id1 {c:Prop} [Decidable c] (h1:decide c=true→x=some r→P) (H:(if c then x else none)=some r):P:=id2 h1 (fun _ h=>by cases h) H
theorem id1k {c:Prop} [Decidable c] (h1:c→decide c=true→x=some r→P) (H:(if c then x else none)=some r):P:=id2k h1 (fun _ _ h=>by cases h) H
theorem ip2 {c:Prop} [Decidable c] (h1:c→x=some r→P) (h2:¬ c→y=some r→P) (H:(if c then x else y)=some r):P:=id2k (fun a _=>h1 a) (fun a _=>h2 a) H
theorem ip1 {c:Prop} [Decidable c] (h1:c→x=some r→P) (H:(if c then x else none)=some r):P:=ip2 h1 (fun _ h=>by cases h) H
theorem ie2k [BEq β] [LawfulBEq β] {a b:β} [Decidable (a=b)] (h1:a=b→(a == b)=true→(a != b)=false→x=some r→P) (h2:¬ a=b→(a == b)=false→(a != b)=true→y=some r→P) (H:(if a=b then x else y)=some r):P :=
 ip2 (fun c=>h1 c (beq_iff_eq.mpr c) (bne_eq_false_iff_eq.mpr c)) (fun c=>h2 c (beq_eq_false_iff_ne.mpr c) (bne_iff_ne.mpr c)) H
theorem ie2 [BEq β] [LawfulBEq β] {a b:β} [Decidable (a=b)] (h1:(a == b)=true→(a != b)=false→x=some r→P) (h2:¬ a=b→(a == b)=false→(a != b)=true→y=some r→P) (H:(if a=b then x else y)=some r):P:=ie2k (fun _=>h1) h2 H
theorem ie1k [BEq β] [LawfulBEq β] {a b:β} [Decidable (a=b)] (h1:a=b→(a == b)=true→(a != b)=false→x=some r→P) (H:(if a=b then x else none)=some r):P:=ie2k h1 (fun _ _ _ h=>by cases h) H
theorem ie1 [BEq β] [LawfulBEq β] {a b:β} [Decidable (a=b)] (h1:(a == b)=true→(a != b)=false→x=some r→P) (H:(if a=b then x else none)=some r):P:=ie2 h1 (fun _ _ _ h=>by cases h) H
theorem in2 {a:List UInt8} [Decidable (a=[])] (h1:(a == ([]:List UInt8))=true→(a != ([]:List UInt8))=false→a.isEmpty=true→x=some r→P) (h2:¬ a=[]→(a == ([]:List UInt8))=false→(a != ([]:List UInt8))=true→a.isEmpty=false→y=some r→P) (H:(if a=[] then x else y)=some r):P :=
 ie2k (fun c p q=>h1 p q (List.isEmpty_iff.mpr c)) (fun c p q=>h2 c p q (by cases a with|nil=>exact absurd rfl c|cons _ _=>rfl)) H
theorem ye {γ:Type} {u v:γ} {p q:Prop} (h:u=v) (H:q) (e:u=v→q→p:=by (intro h_ H;first|(rw [h_];with_reducible exact H)|(have H2_:=(Option.bind_some _ _).symm.trans H;rw [h_];with_reducible exact H2_)|(have H2_:=(Option.bind_some _ _).symm.trans H;with_reducible exact H2_)|with_reducible exact H|(rw [h_];exact H)|exact H)):p:=e h H
end
theorem si {α:Type} {a b:α} (h:some a=some b):a=b:=Option.some.inj h
theorem sj2 {α0 α1:Type} {a0 b0:α0} {a1 b1:α1} (h:some (a0,a1)=some (b0,b1)):a0=b0∧a1=b1:=by cases h;exact ⟨rfl,rfl⟩
theorem sj3 {α0 α1 α2:Type} {a0 b0:α0} {a1 b1:α1} {a2 b2:α2} (h:some (a0,a1,a2)=some (b0,b1,b2)):a0=b0∧a1=b1∧a2=b2:=by cases h;exact ⟨rfl,rfl,rfl⟩
theorem sj4 {α0 α1 α2 α3:Type} {a0 b0:α0} {a1 b1:α1} {a2 b2:α2} {a3 b3:α3} (h:some (a0,a1,a2,a3)=some (b0,b1,b2,b3)):a0=b0∧a1=b1∧a2=b2∧a3=b3:=by cases h;exact ⟨rfl,rfl,rfl,rfl⟩
theorem sj5 {α0 α1 α2 α3 α4:Type} {a0 b0:α0} {a1 b1:α1} {a2 b2:α2} {a3 b3:α3} {a4 b4:α4} (h:some (a0,a1,a2,a3,a4)=some (b0,b1,b2,b3,b4)):a0=b0∧a1=b1∧a2=b2∧a3=b3∧a4=b4:=by cases h;exact ⟨rfl,rfl,rfl,rfl,rfl⟩
theorem sj6 {α0 α1 α2 α3 α4 α5:Type} {a0 b0:α0} {a1 b1:α1} {a2 b2:α2} {a3 b3:α3} {a4 b4:α4} {a5 b5:α5} (h:some (a0,a1,a2,a3,a4,a5)=some (b0,b1,b2,b3,b4,b5)):a0=b0∧a1=b1∧a2=b2∧a3=b3∧a4=b4∧a5=b5:=by cases h;exact ⟨rfl,rfl,rfl,rfl,rfl,rfl⟩
theorem sj8 {α0 α1 α2 α3 α4 α5 α6 α7:Type} {a0 b0:α0} {a1 b1:α1} {a2 b2:α2} {a3 b3:α3} {a4 b4:α4} {a5 b5:α5} {a6 b6:α6} {a7 b7:α7} (h:some (a0,a1,a2,a3,a4,a5,a6,a7)=some (b0,b1,b2,b3,b4,b5,b6,b7)):a0=b0∧a1=b1∧a2=b2∧a3=b3∧a4=b4∧a5=b5∧a6=b6∧a7=b7:=by cases h;exact ⟨rfl,rfl,rfl,rfl,rfl,rfl,rfl,rfl⟩
theorem kz {W:World} (W':World) {g:Nat} {t:TypeId} {cs:Array Value} (h:Aside0 (W.heap[g]? = some (.cells cs t (0,0)))) (e:W.heap[g]? = some (.cells cs t (0,0))→W'.heap[g]? = some (.cells cs t (0,0)):=by (intro h;repeat (first|(with_reducible first|exact h|refine blk_drewN ?_ _|refine blk_drew ?_|refine blk_alloc ?_ _)|refine blk_far ?_ (Aside0.out (by assumption)) _|exact h))):Aside0 (W'.heap[g]? = some (.cells cs t (0,0))):=⟨e h.out⟩
structure Hld (S:World→Prop) (w:World):Prop where
 out:S w
theorem hc {w:World} {a:Addr} {v:Value} (h:w.cell? a=some v):Hld (fun w'=>w'.cell? a=some v) w:=⟨h⟩
theorem hca {w:World} {a:Addr} {v:Value} {S:World→Prop} (h:w.cell? a=some v) (s:Hld S w):Hld (fun w'=>w'.cell? a=some v∧S w') w:=⟨h,s.out⟩
theorem hb1 {w:World} {g:Nat} {t:TypeId} {v0:Value} (h:Aside0 (w.heap[g]? = some (.cells #[v0] t (0,0)))):Hld (fun w'=>w'.cell? ⟨g,0,none⟩=some v0) w:=⟨(blk_cell h.out 0).trans rfl⟩
theorem hb2 {w:World} {g:Nat} {t:TypeId} {v0 v1:Value} (h:Aside0 (w.heap[g]? = some (.cells #[v0,v1] t (0,0)))):Hld (fun w'=>w'.cell? ⟨g,0,none⟩=some v0∧w'.cell? ⟨g,1,none⟩=some v1) w:=⟨⟨(blk_cell h.out 0).trans rfl,(blk_cell h.out 1).trans rfl⟩⟩
theorem hb2a {w:World} {g:Nat} {t:TypeId} {v0 v1:Value} {S:World→Prop} (h:Aside0 (w.heap[g]? = some (.cells #[v0,v1] t (0,0)))) (s:Hld S w):Hld (fun w'=>w'.cell? ⟨g,0,none⟩=some v0∧w'.cell? ⟨g,1,none⟩=some v1∧S w') w:=⟨⟨(blk_cell h.out 0).trans rfl,(blk_cell h.out 1).trans rfl,s.out⟩⟩
theorem hb3 {w:World} {g:Nat} {t:TypeId} {v0 v1 v2:Value} (h:Aside0 (w.heap[g]? = some (.cells #[v0,v1,v2] t (0,0)))):Hld (fun w'=>w'.cell? ⟨g,0,none⟩=some v0∧w'.cell? ⟨g,1,none⟩=some v1∧w'.cell? ⟨g,2,none⟩=some v2) w:=⟨⟨(blk_cell h.out 0).trans rfl,(blk_cell h.out 1).trans rfl,(blk_cell h.out 2).trans rfl⟩⟩
theorem hb3a {w:World} {g:Nat} {t:TypeId} {v0 v1 v2:Value} {S:World→Prop} (h:Aside0 (w.heap[g]? = some (.cells #[v0,v1,v2] t (0,0)))) (s:Hld S w):Hld (fun w'=>w'.cell? ⟨g,0,none⟩=some v0∧w'.cell? ⟨g,1,none⟩=some v1∧w'.cell? ⟨g,2,none⟩=some v2∧S w') w:=⟨⟨(blk_cell h.out 0).trans rfl,(blk_cell h.out 1).trans rfl,(blk_cell h.out 2).trans rfl,s.out⟩⟩
theorem hb4 {w:World} {g:Nat} {t:TypeId} {v0 v1 v2 v3:Value} (h:Aside0 (w.heap[g]? = some (.cells #[v0,v1,v2,v3] t (0,0)))):Hld (fun w'=>w'.cell? ⟨g,0,none⟩=some v0∧w'.cell? ⟨g,1,none⟩=some v1∧w'.cell? ⟨g,2,none⟩=some v2∧w'.cell? ⟨g,3,none⟩=some v3) w:=⟨⟨(blk_cell h.out 0).trans rfl,(blk_cell h.out 1).trans rfl,(blk_cell h.out 2).trans rfl,(blk_cell h.out 3).trans rfl⟩⟩
theorem hb4a {w:World} {g:Nat} {t:TypeId} {v0 v1 v2 v3:Value} {S:World→Prop} (h:Aside0 (w.heap[g]? = some (.cells #[v0,v1,v2,v3] t (0,0)))) (s:Hld S w):Hld (fun w'=>w'.cell? ⟨g,0,none⟩=some v0∧w'.cell? ⟨g,1,none⟩=some v1∧w'.cell? ⟨g,2,none⟩=some v2∧w'.cell? ⟨g,3,none⟩=some v3∧S w') w:=⟨⟨(blk_cell h.out 0).trans rfl,(blk_cell h.out 1).trans rfl,(blk_cell h.out 2).trans rfl,(blk_cell h.out 3).trans rfl,s.out⟩⟩
theorem hb5 {w:World} {g:Nat} {t:TypeId} {v0 v1 v2 v3 v4:Value} (h:Aside0 (w.heap[g]? = some (.cells #[v0,v1,v2,v3,v4] t (0,0)))):Hld (fun w'=>w'.cell? ⟨g,0,none⟩=some v0∧w'.cell? ⟨g,1,none⟩=some v1∧w'.cell? ⟨g,2,none⟩=some v2∧w'.cell? ⟨g,3,none⟩=some v3∧w'.cell? ⟨g,4,none⟩=some v4) w:=⟨⟨(blk_cell h.out 0).trans rfl,(blk_cell h.out 1).trans rfl,(blk_cell h.out 2).trans rfl,(blk_cell h.out 3).trans rfl,(blk_cell h.out 4).trans rfl⟩⟩
theorem hb5a {w:World} {g:Nat} {t:TypeId} {v0 v1 v2 v3 v4:Value} {S:World→Prop} (h:Aside0 (w.heap[g]? = some (.cells #[v0,v1,v2,v3,v4] t (0,0)))) (s:Hld S w):Hld (fun w'=>w'.cell? ⟨g,0,none⟩=some v0∧w'.cell? ⟨g,1,none⟩=some v1∧w'.cell? ⟨g,2,none⟩=some v2∧w'.cell? ⟨g,3,none⟩=some v3∧w'.cell? ⟨g,4,none⟩=some v4∧S w') w:=⟨⟨(blk_cell h.out 0).trans rfl,(blk_cell h.out 1).trans rfl,(blk_cell h.out 2).trans rfl,(blk_cell h.out 3).trans rfl,(blk_cell h.out 4).trans rfl,s.out⟩⟩
theorem hb8 {w:World} {g:Nat} {t:TypeId} {v0 v1 v2 v3 v4 v5 v6 v7:Value} (h:Aside0 (w.heap[g]? = some (.cells #[v0,v1,v2,v3,v4,v5,v6,v7] t (0,0)))):Hld (fun w'=>w'.cell? ⟨g,0,none⟩=some v0∧w'.cell? ⟨g,1,none⟩=some v1∧w'.cell? ⟨g,2,none⟩=some v2∧w'.cell? ⟨g,3,none⟩=some v3∧w'.cell? ⟨g,4,none⟩=some v4∧w'.cell? ⟨g,5,none⟩=some v5∧w'.cell? ⟨g,6,none⟩=some v6∧w'.cell? ⟨g,7,none⟩=some v7) w:=⟨⟨(blk_cell h.out 0).trans rfl,(blk_cell h.out 1).trans rfl,(blk_cell h.out 2).trans rfl,(blk_cell h.out 3).trans rfl,(blk_cell h.out 4).trans rfl,(blk_cell h.out 5).trans rfl,(blk_cell h.out 6).trans rfl,(blk_cell h.out 7).trans rfl⟩⟩
theorem hb8a {w:World} {g:Nat} {t:TypeId} {v0 v1 v2 v3 v4 v5 v6 v7:Value} {S:World→Prop} (h:Aside0 (w.heap[g]? = some (.cells #[v0,v1,v2,v3,v4,v5,v6,v7] t (0,0)))) (s:Hld S w):Hld (fun w'=>w'.cell? ⟨g,0,none⟩=some v0∧w'.cell? ⟨g,1,none⟩=some v1∧w'.cell? ⟨g,2,none⟩=some v2∧w'.cell? ⟨g,3,none⟩=some v3∧w'.cell? ⟨g,4,none⟩=some v4∧w'.cell? ⟨g,5,none⟩=some v5∧w'.cell? ⟨g,6,none⟩=some v6∧w'.cell? ⟨g,7,none⟩=some v7∧S w') w:=⟨⟨(blk_cell h.out 0).trans rfl,(blk_cell h.out 1).trans rfl,(blk_cell h.out 2).trans rfl,(blk_cell h.out 3).trans rfl,(blk_cell h.out 4).trans rfl,(blk_cell h.out 5).trans rfl,(blk_cell h.out 6).trans rfl,(blk_cell h.out 7).trans rfl,s.out⟩⟩
section
variable {P : Program} {ops : Array Oper} {Q : Exit → Act → World → Prop} {S : World → Prop} {ds : List Nat} {id : Nat} {a : Act} {w : World} {l : Array Bool}
theorem sta (n:Nat) (hS:Hld S w.drew) (h:S w.drew→wpAnyLast P .any ops Q S [] n l a w.drew) (hm:P.follows .mixedOrders=true:=by kernel_rfl) (hn:ops.size=n:=by rfl) (hl:Array.replicate n false=l:=by rfl):(Code.region id ops true).wp P Q a w:=start_ l hm hn hl hS.out h
theorem stad (n:Nat) (ds:List Nat) (hS:Hld S w.drew) (h:S w.drew→wpAnyLast P .any ops Q S ds n l a w.drew) (hm:P.follows .mixedOrders=true:=by kernel_rfl) (hn:ops.size=n:=by rfl) (hl:Array.replicate n false=l:=by rfl):(Code.region id ops true).wp P Q a w:=start_ l hm hn hl hS.out h
end
def TyP (b:Nat) (W:World) (E:List TypeId) (k:Nat):Prop:=b≤k∧∃ q,q ∈ E∧∃ cells,W.heap[k]? = some (.cells cells q (0,0))
section
variable {α : Type} {d : Kd α} {e base b g : Nat} {W : World} {ok : Nat → Prop} {v : Value} {xs : List α} {E : List TypeId}
theorem S_tyP2 (h:Kd.S d e W base ok v xs) (hE:∀ q,q ∈ e :: d.E→q ∈ E):Kd.S d e W base (fun k=>ok k∧TyP base W E k) v xs:=Kd.S_mono (Kd.S_bound h) (fun _ hk=>⟨hk.1,hk.2.1,hk.2.2.2.elim fun q hq=>⟨q,hE q hq.1,hq.2⟩⟩)
theorem R_noTy (h:d.R e W base ok v xs) (hE:∀ q,q ∈ e :: d.E→¬ q ∈ E):d.R e W base (fun k=>ok k∧¬ TyP b W E k) v xs:=Kd.R_mono (Kd.R_bound h) (fun _ hk=>⟨hk.1,fun ht=>ht.2.elim fun q hq=>hq.2.elim fun _ hc=>hk.2.2.2.elim fun p hp=>hp.2.elim fun _ hd=>hE p hp.1 (by
 rw [hc] at hd
 injection hd with hd
 injection hd with _ hd
 rw [← hd]
 exact hq.1)⟩)
theorem blk_noTy {t:TypeId} {cells:Array Value} (hb:W.heap[g]? = some (.cells cells t (0,0))) (ht:¬ t ∈ E):¬ TyP b W E g:=fun h=>h.2.elim fun q hq=>hq.2.elim fun _ hc=>ht (by
 rw [hb] at hc
 injection hc with hc
 injection hc with _ hc
 rw [hc]
 exact hq.1)
end
structure Hol {α:Type} (d:Kd α) (e:TypeId) (P:Nat→Prop) (w0 w:World) (g n cap:Nat) (xs:List α) (i:Int) (oki:Nat→Prop) (c:List Value) (W:World):Prop where
 hH:Kd.H d e W w0.heap.size (fun k=>(P k∨w.heap.size≤k)) (.slice (some ⟨g,0,none⟩) n cap) xs i oki c
 hB:Below w0.heap.size w0 W
 hK:Kept w W P
 hP:P g∨w.heap.size≤g
 hb:w0.heap.size≤g
 h0:0≤i
 h1:i<n
section
variable {α : Type} {d : Kd α} {e : TypeId} {P oki : Nat → Prop} {w0 w W W2 : World} {g n cap : Nat} {xs : List α} {i : Int} {c : List Value} {v : Value}
theorem S_flat (hf:∀ w b ok x cs,d.M w b ok x cs→d.M w b (fun _=>False) x cs) {ok:Nat→Prop} {b:Nat} (h:d.R e W b ok v xs):Kd.S d e W b ok v xs:=by
 obtain ⟨h0,inner,ho,hr⟩:=h
 exact Kd.S_bare ⟨h0,inner,ho,hr.imp_ (fun _ _ hp=>hf _ _ _ _ _ hp)⟩
theorem hol (z:α) (i:Int) (h:Kd.S d e W w0.heap.size (fun k=>(P k∨w.heap.size≤k)) v xs) (hB:Below w0.heap.size w0 W) (hK:Kept w W P) (h0:0≤i) (h1:i<(xs.length:Int)) :
  ∃ g cap oki c,v=.slice (some ⟨g,0,none⟩) xs.length cap∧d.M W w0.heap.size oki (xs.getD i.toNat z) c∧Hol d e P w0 w g xs.length cap xs i oki c W:=by
 obtain ⟨g,cap,rfl,hb,_,_⟩:=Kd.S_form h (by omega)
 obtain ⟨oki,c,_,hM,_,_,_,hH⟩:=Kd.S_elem h z i h0 h1
 exact ⟨g,cap,oki,c,rfl,hM,hH,hB,hK,(Kd.S_R h).1 g rfl,hb,h0,h1⟩
theorem Hol.below (h:Hol d e P w0 w g n cap xs i oki c W) (hb:Below W.heap.size W W2):Hol d e P w0 w g n cap xs i oki c W2:=⟨Kd.H_below h.hH hb,below_step h.hB hb,Kept.below h.hK hb,h.hP,h.hb,h.h0,h.h1⟩
theorem Hol.put (h:Hol d e P w0 w g n cap xs i oki c W) (j:Nat) (u:Value) (hj:j+1≤d.sz) (hu:u.oneCell'=true) (hw:W2=W.setCell ⟨g,i.toNat * d.sz+j,none⟩ u):Hol d e P w0 w g n cap xs i oki (c.take j++[u]++c.drop (j+1)) W2:=by
 subst hw
 obtain ⟨q,hg⟩:=Kd.H_seg h.hH h.h0 h.h1 (seg:=[u]) (j:=j) hj (fun q hq=>by
  rw [List.mem_singleton.1 hq]
  exact hu)
 exact ⟨q,below_set h.hB h.hb,Kept.of_grown (S:=P) hg h.hK (fun k hk=>by
  injection hk with hk
  subst hk
  exact h.hP),h.hP,h.hb,h.h0,h.h1⟩
theorem Hol.nx (h:Hol d e P w0 w g n cap xs i oki c W) (s j:Nat) {u v:Value} (hs:d.sz=s) (hu:c[0]? = some u) (hv:c[j]? = some v):W.cell? ⟨g,i.toNat * s,none⟩=some u∧W.cell? ⟨g,i.toNat * s+j,none⟩=some v∧W.frozen? ⟨g,i.toNat * s+j,none⟩=false:=by
 subst hs
 obtain ⟨h1,h2⟩:=Kd.H_at h.hH h.h0 h.h1
 exact ⟨h1 0 _ hu,h1 j _ hv,h2 j⟩
theorem Hol.nz (h:Hol d e P w0 w g n cap xs i oki c W) (s:Nat) {u:Value} (hs:d.sz=s) (hu:c[0]? = some u):W.cell? ⟨g,i.toNat * s,none⟩=some u∧W.frozen? ⟨g,i.toNat * s,none⟩=false:=by
 subst hs
 obtain ⟨h1,h2⟩:=Kd.H_at h.hH h.h0 h.h1
 exact ⟨h1 0 _ hu,h2 0⟩
theorem Hol.back (h:Hol d e P w0 w g n cap xs i oki c W) (x:α) (hM:d.M W w0.heap.size oki x c):d.R e W w0.heap.size (fun k=>(P k∨w.heap.size≤k)) (.slice (some ⟨g,0,none⟩) n cap) (xs.set i.toNat x):=Kd.S_R (Kd.H_back h.hH hM (fun _ hk=>hk))
end
end Go.Proofs.YtomoflpgdbjojaaGreatW.PrintMore
namespace Go.Proofs.YtomoflpgdbjojaaGreat.Bs
open Go.Op
theorem less_irrefl:∀ a:List UInt8,bytesLess a a=false
 | []=>rfl
 | x :: a=>by simp [bytesLess,less_irrefl a]
theorem less_tri:∀ a b:List UInt8,(!(bytesLess a b || a == b))=bytesLess b a
 | [],[]=>rfl
 | [],_ :: _=>rfl
 | _ :: _,[]=>rfl
 | x :: a,y :: b=>by
  have ih:=less_tri a b
  by_cases h1:x<y
  ·have h2:¬ y<x:=fun h=>by have:=UInt8.lt_iff_toNat_lt.1 h;have:=UInt8.lt_iff_toNat_lt.1 h1;omega
   have h3:¬ x=y:=fun h=>by subst h;have:=UInt8.lt_iff_toNat_lt.1 h1;omega
   have h4:¬ y=x:=fun h=>h3 h.symm
   simp [bytesLess,h1,h2,h4]
  ·by_cases h2:y<x
   ·have h3:¬ x=y:=fun h=>by subst h;have:=UInt8.lt_iff_toNat_lt.1 h2;omega
    simp [bytesLess,h1,h2,h3]
   ·have h3:x=y:=UInt8.toNat_inj.1 (by
     have e1:=mt UInt8.lt_iff_toNat_lt.2 h1
     have e2:=mt UInt8.lt_iff_toNat_lt.2 h2
     omega)
    subst h3
    have e1:bytesLess (x :: b) (x :: a)=bytesLess b a:=by simp [bytesLess]
    have e2:bytesLess (x :: a) (x :: b)=bytesLess a b:=by simp [bytesLess]
    have e3:(x :: a == x :: b)=(a == b):=by simp
    rw [e1,e2,e3]
    exact ih
@[go_sem] theorem binOp_gtr (t:TypeId) (a b:ByteArray):binOp .gtr t (.string a) (.string b)=pure (.bool (bytesLess b.toList a.toList)):=by
 rw [← less_tri]
 simp [binOp,Op.stringOp]
@[go_sem] theorem binOp_leq (t:TypeId) (a b:ByteArray):binOp .leq t (.string a) (.string b)=pure (.bool !(bytesLess b.toList a.toList)):=by
 rw [← less_tri]
 simp [binOp,Op.stringOp]
@[go_sem] theorem binOp_geq (t:TypeId) (a b:ByteArray):binOp .geq t (.string a) (.string b)=pure (.bool !(bytesLess a.toList b.toList)):=by
 simp [binOp,Op.stringOp]
end Go.Proofs.YtomoflpgdbjojaaGreat.Bs
namespace Go.Proofs.YtomoflpgdbjojaaGreat.QN
open Go.RowKit Go.Proofs.YtomoflpgdbjojaaGreatW.PrintWords Go.Proofs.YtomoflpgdbjojaaGreatW.PrintLast Go.Proofs.YtomoflpgdbjojaaGreatW.PrintMore
attribute [local go_sem] max2_int min2_int max_two min_two max_three min_three max_four min_four   -- for this text's walks alone
def errW:Option Int→Value
 | none=>.nilIface
 | some c=>.iface 0 (.int .i64 c)
theorem errW_none:errW none=.nilIface:=rfl
theorem errW_some (c:Int):errW (some c)=.iface 0 (.int .i64 c):=rfl
theorem info83:(Tryz.prog.info? 83).map (fun i=>(i.zero,i.size,i.bytes))=some (some (.agg #[(.string ⟨#[]⟩),(.int .i64 0),(.int .i64 0),(.slice none 0 0)]),4,56):=by kernel_rfl
theorem info114:(Tryz.prog.info? 114).map (fun i=>(i.zero,i.size,i.bytes))=some (some (.agg #[(.string ⟨#[]⟩),(.string ⟨#[]⟩),(.string ⟨#[]⟩)]),3,48):=by kernel_rfl
theorem info118:(Tryz.prog.info? 118).map (fun i=>(i.zero,i.size,i.bytes))=some (some (.agg #[(.int .i64 0),(.string ⟨#[]⟩),(.string ⟨#[]⟩),(.int .i64 0),(.string ⟨#[]⟩),(.int .i64 0)]),6,72):=by kernel_rfl
theorem info120:(Tryz.prog.info? 120).map (fun i=>(i.zero,i.size,i.bytes))=some (some (.agg #[(.string ⟨#[]⟩),(.int .i64 0),(.string ⟨#[]⟩),(.int .i64 0),(.int .i64 0)]),5,56):=by kernel_rfl
theorem info152:(Tryz.prog.info? 152).map (fun i=>(i.zero,i.size,i.bytes))=some (some (.agg #[(.string ⟨#[]⟩),(.int .i64 0)]),2,24):=by kernel_rfl
theorem info155:(Tryz.prog.info? 155).map (fun i=>(i.zero,i.size,i.bytes))=some (some (.agg #[(.int .i64 0),(.int .i64 0),(.int .i64 0)]),3,24):=by kernel_rfl
theorem info157:(Tryz.prog.info? 157).map (fun i=>(i.zero,i.size,i.bytes))=some (some (.agg #[(.string ⟨#[]⟩),(.int .i64 0),(.string ⟨#[]⟩)]),3,40):=by kernel_rfl
theorem info161:(Tryz.prog.info? 161).map (fun i=>(i.zero,i.size,i.bytes))=some (some (.agg #[(.string ⟨#[]⟩),(.string ⟨#[]⟩),(.int .i64 0),(.string ⟨#[]⟩),(.int .i64 0),(.int .i64 0),(.int .i64 0),(.int .i64 0)]),8,88):=by kernel_rfl
structure S179 where
 f0:Int
 f1:Int
 f2:Int
def z179:S179:=⟨(0:Int),(0:Int),(0:Int)⟩
def k179:Kd S179:=Kd.iso (Kd.pair (Kd.int .i64) (Kd.pair (Kd.int .i64) (Kd.int .i64))) (fun x:S179=>(x.f0,x.f1,x.f2))
theorem k179_open {w:World} {x:S179} {cs:List Value} (h:k179.K w x cs):cs=[.int .i64 x.f0,.int .i64 x.f1,.int .i64 x.f2]:=by
 obtain ⟨_,_,rfl,rfl,⟨_,_,rfl,rfl,rfl⟩⟩:=h
 exact rfl
def rd_T179 (xs:List S179) (i:Int):S179:=xs.getD i.toNat z179
theorem at_T179 {w:World} {A:Option Addr} {n:Nat} {xs:List S179} (h:Kd.C k179 w A n xs) (i:Int) (h0:0≤i) (h1:i<n):∃ ad ,A=some ad∧w.cell? (ad.add (i.toNat * 3))=some (.int .i64 (rd_T179 xs i).f0)∧w.cell? ⟨(ad.add (i.toNat * 3)).block,(ad.add (i.toNat * 3)).off+1,none⟩=some (.int .i64 (rd_T179 xs i).f1)∧w.cell? ⟨(ad.add (i.toNat * 3)).block,(ad.add (i.toNat * 3)).off+2,none⟩=some (.int .i64 (rd_T179 xs i).f2):=by
 obtain ⟨ad,c,e,_,hK,hc0⟩:=Kd.C_get h z179 i h0 h1;have hc:∀ j u,c[j]? = some u→w.cell? (ad.add (i.toNat * 3+j))=some u:=hc0;obtain rfl:=k179_open hK
 exact ⟨ad,e,hc 0 _ rfl,by rw [← add_field _ _ 1 (by omega)];exact hc 1 _ rfl,by rw [← add_field _ _ 2 (by omega)];exact hc 2 _ rfl⟩
structure S93 where
 f0:ByteArray
 f1:Int
 f2:Int
 f3:(List S179)
def z93:S93:=⟨(⟨#[]⟩:ByteArray),(0:Int),(0:Int),([]:List S179)⟩
def k93:Kd S93:=Kd.iso (Kd.pair Kd.string (Kd.pair (Kd.int .i64) (Kd.pair (Kd.int .i64) (Kd.slice 179 k179)))) (fun x:S93=>(x.f0,x.f1,x.f2,x.f3))
theorem k93_open {w:World} {x:S93} {cs:List Value} (h:k93.K w x cs):∃ A3 c3,cs=[.string x.f0,.int .i64 x.f1,.int .i64 x.f2,.slice A3 x.f3.length c3]∧x.f3.length≤c3∧k179.C w A3 x.f3.length x.f3:=by
 obtain ⟨_,_,rfl,rfl,⟨_,_,rfl,rfl,⟨_,_,rfl,rfl,⟨A3,c3,rfl,l3,g3⟩⟩⟩⟩:=h
 exact ⟨A3,c3,rfl,l3,g3⟩
def rd_T93 (xs:List S93) (i:Int):S93:=xs.getD i.toNat z93
theorem at_T93 {w:World} {A:Option Addr} {n:Nat} {xs:List S93} (h:Kd.C k93 w A n xs) (i:Int) (h0:0≤i) (h1:i<n):∃ ad A3 c3,A=some ad∧w.cell? (ad.add (i.toNat * 4))=some (.string (rd_T93 xs i).f0)∧w.cell? ⟨(ad.add (i.toNat * 4)).block,(ad.add (i.toNat * 4)).off+1,none⟩=some (.int .i64 (rd_T93 xs i).f1)∧w.cell? ⟨(ad.add (i.toNat * 4)).block,(ad.add (i.toNat * 4)).off+2,none⟩=some (.int .i64 (rd_T93 xs i).f2)∧w.cell? ⟨(ad.add (i.toNat * 4)).block,(ad.add (i.toNat * 4)).off+3,none⟩=some (.slice A3 (rd_T93 xs i).f3.length c3)∧(rd_T93 xs i).f3.length≤c3∧k179.C w A3 (rd_T93 xs i).f3.length (rd_T93 xs i).f3:=by
 obtain ⟨ad,c,e,_,hK,hc0⟩:=Kd.C_get h z93 i h0 h1;have hc:∀ j u,c[j]? = some u→w.cell? (ad.add (i.toNat * 4+j))=some u:=hc0;obtain ⟨A3,c3,rfl,l3,g3⟩:=k93_open hK
 exact ⟨ad,A3,c3,e,hc 0 _ rfl,by rw [← add_field _ _ 1 (by omega)];exact hc 1 _ rfl,by rw [← add_field _ _ 2 (by omega)];exact hc 2 _ rfl,by rw [← add_field _ _ 3 (by omega)];exact hc 3 _ rfl,l3,g3⟩
structure S96 where
 f0:ByteArray
 f1:ByteArray
 f2:ByteArray
def z96:S96:=⟨(⟨#[]⟩:ByteArray),(⟨#[]⟩:ByteArray),(⟨#[]⟩:ByteArray)⟩
def k96:Kd S96:=Kd.iso (Kd.pair Kd.string (Kd.pair Kd.string Kd.string)) (fun x:S96=>(x.f0,x.f1,x.f2))
theorem k96_open {w:World} {x:S96} {cs:List Value} (h:k96.K w x cs):cs=[.string x.f0,.string x.f1,.string x.f2]:=by
 obtain ⟨_,_,rfl,rfl,⟨_,_,rfl,rfl,rfl⟩⟩:=h
 exact rfl
def rd_T96 (xs:List S96) (i:Int):S96:=xs.getD i.toNat z96
theorem at_T96 {w:World} {A:Option Addr} {n:Nat} {xs:List S96} (h:Kd.C k96 w A n xs) (i:Int) (h0:0≤i) (h1:i<n):∃ ad ,A=some ad∧w.cell? (ad.add (i.toNat * 3))=some (.string (rd_T96 xs i).f0)∧w.cell? ⟨(ad.add (i.toNat * 3)).block,(ad.add (i.toNat * 3)).off+1,none⟩=some (.string (rd_T96 xs i).f1)∧w.cell? ⟨(ad.add (i.toNat * 3)).block,(ad.add (i.toNat * 3)).off+2,none⟩=some (.string (rd_T96 xs i).f2):=by
 obtain ⟨ad,c,e,_,hK,hc0⟩:=Kd.C_get h z96 i h0 h1;have hc:∀ j u,c[j]? = some u→w.cell? (ad.add (i.toNat * 3+j))=some u:=hc0;obtain rfl:=k96_open hK
 exact ⟨ad,e,hc 0 _ rfl,by rw [← add_field _ _ 1 (by omega)];exact hc 1 _ rfl,by rw [← add_field _ _ 2 (by omega)];exact hc 2 _ rfl⟩
structure S147 where
 f0:ByteArray
 f1:Int
def z147:S147:=⟨(⟨#[]⟩:ByteArray),(0:Int)⟩
def k147:Kd S147:=Kd.iso (Kd.pair Kd.string (Kd.int .i64)) (fun x:S147=>(x.f0,x.f1))
theorem k147_open {w:World} {x:S147} {cs:List Value} (h:k147.K w x cs):cs=[.string x.f0,.int .i64 x.f1]:=by
 obtain ⟨_,_,rfl,rfl,rfl⟩:=h
 exact rfl
def rd_T147 (xs:List S147) (i:Int):S147:=xs.getD i.toNat z147
theorem at_T147 {w:World} {A:Option Addr} {n:Nat} {xs:List S147} (h:Kd.C k147 w A n xs) (i:Int) (h0:0≤i) (h1:i<n):∃ ad ,A=some ad∧w.cell? (ad.add (i.toNat * 2))=some (.string (rd_T147 xs i).f0)∧w.cell? ⟨(ad.add (i.toNat * 2)).block,(ad.add (i.toNat * 2)).off+1,none⟩=some (.int .i64 (rd_T147 xs i).f1):=by
 obtain ⟨ad,c,e,_,hK,hc0⟩:=Kd.C_get h z147 i h0 h1;have hc:∀ j u,c[j]? = some u→w.cell? (ad.add (i.toNat * 2+j))=some u:=hc0;obtain rfl:=k147_open hK
 exact ⟨ad,e,hc 0 _ rfl,by rw [← add_field _ _ 1 (by omega)];exact hc 1 _ rfl⟩
structure S150 where
 f0:ByteArray
 f1:ByteArray
 f2:Int
 f3:ByteArray
 f4:Int
 f5:Int
 f6:Int
 f7:Int
def z150:S150:=⟨(⟨#[]⟩:ByteArray),(⟨#[]⟩:ByteArray),(0:Int),(⟨#[]⟩:ByteArray),(0:Int),(0:Int),(0:Int),(0:Int)⟩
def k150:Kd S150:=Kd.iso (Kd.pair Kd.string (Kd.pair Kd.string (Kd.pair (Kd.int .i64) (Kd.pair Kd.string (Kd.pair (Kd.int .i64) (Kd.pair (Kd.int .i64) (Kd.pair (Kd.int .i64) (Kd.int .i64)))))))) (fun x:S150=>(x.f0,x.f1,x.f2,x.f3,x.f4,x.f5,x.f6,x.f7))
theorem k150_open {w:World} {x:S150} {cs:List Value} (h:k150.K w x cs):cs=[.string x.f0,.string x.f1,.int .i64 x.f2,.string x.f3,.int .i64 x.f4,.int .i64 x.f5,.int .i64 x.f6,.int .i64 x.f7]:=by
 obtain ⟨_,_,rfl,rfl,⟨_,_,rfl,rfl,⟨_,_,rfl,rfl,⟨_,_,rfl,rfl,⟨_,_,rfl,rfl,⟨_,_,rfl,rfl,⟨_,_,rfl,rfl,rfl⟩⟩⟩⟩⟩⟩⟩:=h
 exact rfl
def rd_T150 (xs:List S150) (i:Int):S150:=xs.getD i.toNat z150
theorem at_T150 {w:World} {A:Option Addr} {n:Nat} {xs:List S150} (h:Kd.C k150 w A n xs) (i:Int) (h0:0≤i) (h1:i<n):∃ ad ,A=some ad∧w.cell? (ad.add (i.toNat * 8))=some (.string (rd_T150 xs i).f0)∧w.cell? ⟨(ad.add (i.toNat * 8)).block,(ad.add (i.toNat * 8)).off+1,none⟩=some (.string (rd_T150 xs i).f1)∧w.cell? ⟨(ad.add (i.toNat * 8)).block,(ad.add (i.toNat * 8)).off+2,none⟩=some (.int .i64 (rd_T150 xs i).f2)∧w.cell? ⟨(ad.add (i.toNat * 8)).block,(ad.add (i.toNat * 8)).off+3,none⟩=some (.string (rd_T150 xs i).f3)∧w.cell? ⟨(ad.add (i.toNat * 8)).block,(ad.add (i.toNat * 8)).off+4,none⟩=some (.int .i64 (rd_T150 xs i).f4)∧w.cell? ⟨(ad.add (i.toNat * 8)).block,(ad.add (i.toNat * 8)).off+5,none⟩=some (.int .i64 (rd_T150 xs i).f5)∧w.cell? ⟨(ad.add (i.toNat * 8)).block,(ad.add (i.toNat * 8)).off+6,none⟩=some (.int .i64 (rd_T150 xs i).f6)∧w.cell? ⟨(ad.add (i.toNat * 8)).block,(ad.add (i.toNat * 8)).off+7,none⟩=some (.int .i64 (rd_T150 xs i).f7):=by
 obtain ⟨ad,c,e,_,hK,hc0⟩:=Kd.C_get h z150 i h0 h1;have hc:∀ j u,c[j]? = some u→w.cell? (ad.add (i.toNat * 8+j))=some u:=hc0;obtain rfl:=k150_open hK
 exact ⟨ad,e,hc 0 _ rfl,by rw [← add_field _ _ 1 (by omega)];exact hc 1 _ rfl,by rw [← add_field _ _ 2 (by omega)];exact hc 2 _ rfl,by rw [← add_field _ _ 3 (by omega)];exact hc 3 _ rfl,by rw [← add_field _ _ 4 (by omega)];exact hc 4 _ rfl,by rw [← add_field _ _ 5 (by omega)];exact hc 5 _ rfl,by rw [← add_field _ _ 6 (by omega)];exact hc 6 _ rfl,by rw [← add_field _ _ 7 (by omega)];exact hc 7 _ rfl⟩
structure S101 where
 f0:Int
 f1:ByteArray
 f2:ByteArray
 f3:Int
 f4:ByteArray
 f5:Int
def z101:S101:=⟨(0:Int),(⟨#[]⟩:ByteArray),(⟨#[]⟩:ByteArray),(0:Int),(⟨#[]⟩:ByteArray),(0:Int)⟩
def k101:Kd S101:=Kd.iso (Kd.pair (Kd.int .i64) (Kd.pair Kd.string (Kd.pair Kd.string (Kd.pair (Kd.int .i64) (Kd.pair Kd.string (Kd.int .i64)))))) (fun x:S101=>(x.f0,x.f1,x.f2,x.f3,x.f4,x.f5))
theorem k101_open {w:World} {x:S101} {cs:List Value} (h:k101.K w x cs):cs=[.int .i64 x.f0,.string x.f1,.string x.f2,.int .i64 x.f3,.string x.f4,.int .i64 x.f5]:=by
 obtain ⟨_,_,rfl,rfl,⟨_,_,rfl,rfl,⟨_,_,rfl,rfl,⟨_,_,rfl,rfl,⟨_,_,rfl,rfl,rfl⟩⟩⟩⟩⟩:=h
 exact rfl
def rd_T101 (xs:List S101) (i:Int):S101:=xs.getD i.toNat z101
theorem at_T101 {w:World} {A:Option Addr} {n:Nat} {xs:List S101} (h:Kd.C k101 w A n xs) (i:Int) (h0:0≤i) (h1:i<n):∃ ad ,A=some ad∧w.cell? (ad.add (i.toNat * 6))=some (.int .i64 (rd_T101 xs i).f0)∧w.cell? ⟨(ad.add (i.toNat * 6)).block,(ad.add (i.toNat * 6)).off+1,none⟩=some (.string (rd_T101 xs i).f1)∧w.cell? ⟨(ad.add (i.toNat * 6)).block,(ad.add (i.toNat * 6)).off+2,none⟩=some (.string (rd_T101 xs i).f2)∧w.cell? ⟨(ad.add (i.toNat * 6)).block,(ad.add (i.toNat * 6)).off+3,none⟩=some (.int .i64 (rd_T101 xs i).f3)∧w.cell? ⟨(ad.add (i.toNat * 6)).block,(ad.add (i.toNat * 6)).off+4,none⟩=some (.string (rd_T101 xs i).f4)∧w.cell? ⟨(ad.add (i.toNat * 6)).block,(ad.add (i.toNat * 6)).off+5,none⟩=some (.int .i64 (rd_T101 xs i).f5):=by
 obtain ⟨ad,c,e,_,hK,hc0⟩:=Kd.C_get h z101 i h0 h1;have hc:∀ j u,c[j]? = some u→w.cell? (ad.add (i.toNat * 6+j))=some u:=hc0;obtain rfl:=k101_open hK
 exact ⟨ad,e,hc 0 _ rfl,by rw [← add_field _ _ 1 (by omega)];exact hc 1 _ rfl,by rw [← add_field _ _ 2 (by omega)];exact hc 2 _ rfl,by rw [← add_field _ _ 3 (by omega)];exact hc 3 _ rfl,by rw [← add_field _ _ 4 (by omega)];exact hc 4 _ rfl,by rw [← add_field _ _ 5 (by omega)];exact hc 5 _ rfl⟩
structure S104 where
 f0:ByteArray
 f1:Int
 f2:ByteArray
 f3:Int
 f4:Int
def z104:S104:=⟨(⟨#[]⟩:ByteArray),(0:Int),(⟨#[]⟩:ByteArray),(0:Int),(0:Int)⟩
def k104:Kd S104:=Kd.iso (Kd.pair Kd.string (Kd.pair (Kd.int .i64) (Kd.pair Kd.string (Kd.pair (Kd.int .i64) (Kd.int .i64))))) (fun x:S104=>(x.f0,x.f1,x.f2,x.f3,x.f4))
theorem k104_open {w:World} {x:S104} {cs:List Value} (h:k104.K w x cs):cs=[.string x.f0,.int .i64 x.f1,.string x.f2,.int .i64 x.f3,.int .i64 x.f4]:=by
 obtain ⟨_,_,rfl,rfl,⟨_,_,rfl,rfl,⟨_,_,rfl,rfl,⟨_,_,rfl,rfl,rfl⟩⟩⟩⟩:=h
 exact rfl
def rd_T104 (xs:List S104) (i:Int):S104:=xs.getD i.toNat z104
theorem at_T104 {w:World} {A:Option Addr} {n:Nat} {xs:List S104} (h:Kd.C k104 w A n xs) (i:Int) (h0:0≤i) (h1:i<n):∃ ad ,A=some ad∧w.cell? (ad.add (i.toNat * 5))=some (.string (rd_T104 xs i).f0)∧w.cell? ⟨(ad.add (i.toNat * 5)).block,(ad.add (i.toNat * 5)).off+1,none⟩=some (.int .i64 (rd_T104 xs i).f1)∧w.cell? ⟨(ad.add (i.toNat * 5)).block,(ad.add (i.toNat * 5)).off+2,none⟩=some (.string (rd_T104 xs i).f2)∧w.cell? ⟨(ad.add (i.toNat * 5)).block,(ad.add (i.toNat * 5)).off+3,none⟩=some (.int .i64 (rd_T104 xs i).f3)∧w.cell? ⟨(ad.add (i.toNat * 5)).block,(ad.add (i.toNat * 5)).off+4,none⟩=some (.int .i64 (rd_T104 xs i).f4):=by
 obtain ⟨ad,c,e,_,hK,hc0⟩:=Kd.C_get h z104 i h0 h1;have hc:∀ j u,c[j]? = some u→w.cell? (ad.add (i.toNat * 5+j))=some u:=hc0;obtain rfl:=k104_open hK
 exact ⟨ad,e,hc 0 _ rfl,by rw [← add_field _ _ 1 (by omega)];exact hc 1 _ rfl,by rw [← add_field _ _ 2 (by omega)];exact hc 2 _ rfl,by rw [← add_field _ _ 3 (by omega)];exact hc 3 _ rfl,by rw [← add_field _ _ 4 (by omega)];exact hc 4 _ rfl⟩
structure S155 where
 f0:Int
 f1:Int
 f2:Int
def z155:S155:=⟨(0:Int),(0:Int),(0:Int)⟩
def k155:Kd S155:=Kd.iso (Kd.pair (Kd.int .i64) (Kd.pair (Kd.int .i64) (Kd.int .i64))) (fun x:S155=>(x.f0,x.f1,x.f2))
theorem k155_open {w:World} {x:S155} {cs:List Value} (h:k155.K w x cs):cs=[.int .i64 x.f0,.int .i64 x.f1,.int .i64 x.f2]:=by
 obtain ⟨_,_,rfl,rfl,⟨_,_,rfl,rfl,rfl⟩⟩:=h
 exact rfl
theorem k155_openM {w:World} {base:Nat} {ok:Nat→Prop} {x:S155} {cs:List Value} (h:k155.M w base ok x cs):cs=[.int .i64 x.f0,.int .i64 x.f1,.int .i64 x.f2]:=by
 obtain ⟨_,_,rfl,rfl,⟨_,_,rfl,rfl,rfl⟩⟩:=h
 exact rfl
theorem k155_mkM (w:World) (base:Nat) (ok:Nat→Prop) (x:S155)  : k155.M w base ok x [.int .i64 x.f0,.int .i64 x.f1,.int .i64 x.f2]:=⟨[.int .i64 x.f0],[.int .i64 x.f1,.int .i64 x.f2],rfl,rfl,⟨[.int .i64 x.f1],[.int .i64 x.f2],rfl,rfl,rfl⟩⟩
def rd_T155 (xs:List S155) (i:Int):S155:=xs.getD i.toNat z155
theorem at_T155 {w:World} {A:Option Addr} {n:Nat} {xs:List S155} (h:Kd.C k155 w A n xs) (i:Int) (h0:0≤i) (h1:i<n):∃ ad ,A=some ad∧w.cell? (ad.add (i.toNat * 3))=some (.int .i64 (rd_T155 xs i).f0)∧w.cell? ⟨(ad.add (i.toNat * 3)).block,(ad.add (i.toNat * 3)).off+1,none⟩=some (.int .i64 (rd_T155 xs i).f1)∧w.cell? ⟨(ad.add (i.toNat * 3)).block,(ad.add (i.toNat * 3)).off+2,none⟩=some (.int .i64 (rd_T155 xs i).f2):=by
 obtain ⟨ad,c,e,_,hK,hc0⟩:=Kd.C_get h z155 i h0 h1;have hc:∀ j u,c[j]? = some u→w.cell? (ad.add (i.toNat * 3+j))=some u:=hc0;obtain rfl:=k155_open hK
 exact ⟨ad,e,hc 0 _ rfl,by rw [← add_field _ _ 1 (by omega)];exact hc 1 _ rfl,by rw [← add_field _ _ 2 (by omega)];exact hc 2 _ rfl⟩
structure S83 where
 f0:ByteArray
 f1:Int
 f2:Int
 f3:(List S155)
def z83:S83:=⟨(⟨#[]⟩:ByteArray),(0:Int),(0:Int),([]:List S155)⟩
def k83:Kd S83:=Kd.iso (Kd.pair Kd.string (Kd.pair (Kd.int .i64) (Kd.pair (Kd.int .i64) (Kd.slice 155 k155)))) (fun x:S83=>(x.f0,x.f1,x.f2,x.f3))
theorem k83_open {w:World} {x:S83} {cs:List Value} (h:k83.K w x cs):∃ A3 c3,cs=[.string x.f0,.int .i64 x.f1,.int .i64 x.f2,.slice A3 x.f3.length c3]∧x.f3.length≤c3∧k155.C w A3 x.f3.length x.f3:=by
 obtain ⟨_,_,rfl,rfl,⟨_,_,rfl,rfl,⟨_,_,rfl,rfl,⟨A3,c3,rfl,l3,g3⟩⟩⟩⟩:=h
 exact ⟨A3,c3,rfl,l3,g3⟩
theorem k83_openM {w:World} {base:Nat} {ok:Nat→Prop} {x:S83} {cs:List Value} (h:k83.M w base ok x cs):∃ v3,cs=[.string x.f0,.int .i64 x.f1,.int .i64 x.f2,v3]∧k155.R 155 w base ok v3 x.f3:=by
 obtain ⟨_,_,rfl,rfl,⟨_,_,rfl,rfl,⟨_,_,rfl,rfl,⟨v3,rfl,g3⟩⟩⟩⟩:=h
 exact ⟨v3,rfl,g3⟩
theorem k83_mkM (w:World) (base:Nat) (ok:Nat→Prop) (x:S83) {v3:Value} (g3:k155.R 155 w base ok v3 x.f3):k83.M w base ok x [.string x.f0,.int .i64 x.f1,.int .i64 x.f2,v3]:=⟨[.string x.f0],[.int .i64 x.f1,.int .i64 x.f2,v3],rfl,rfl,⟨[.int .i64 x.f1],[.int .i64 x.f2,v3],rfl,rfl,⟨[.int .i64 x.f2],[v3],rfl,rfl,⟨v3,rfl,g3⟩⟩⟩⟩
def rd_T83 (xs:List S83) (i:Int):S83:=xs.getD i.toNat z83
theorem at_T83 {w:World} {A:Option Addr} {n:Nat} {xs:List S83} (h:Kd.C k83 w A n xs) (i:Int) (h0:0≤i) (h1:i<n):∃ ad A3 c3,A=some ad∧w.cell? (ad.add (i.toNat * 4))=some (.string (rd_T83 xs i).f0)∧w.cell? ⟨(ad.add (i.toNat * 4)).block,(ad.add (i.toNat * 4)).off+1,none⟩=some (.int .i64 (rd_T83 xs i).f1)∧w.cell? ⟨(ad.add (i.toNat * 4)).block,(ad.add (i.toNat * 4)).off+2,none⟩=some (.int .i64 (rd_T83 xs i).f2)∧w.cell? ⟨(ad.add (i.toNat * 4)).block,(ad.add (i.toNat * 4)).off+3,none⟩=some (.slice A3 (rd_T83 xs i).f3.length c3)∧(rd_T83 xs i).f3.length≤c3∧k155.C w A3 (rd_T83 xs i).f3.length (rd_T83 xs i).f3:=by
 obtain ⟨ad,c,e,_,hK,hc0⟩:=Kd.C_get h z83 i h0 h1;have hc:∀ j u,c[j]? = some u→w.cell? (ad.add (i.toNat * 4+j))=some u:=hc0;obtain ⟨A3,c3,rfl,l3,g3⟩:=k83_open hK
 exact ⟨ad,A3,c3,e,hc 0 _ rfl,by rw [← add_field _ _ 1 (by omega)];exact hc 1 _ rfl,by rw [← add_field _ _ 2 (by omega)];exact hc 2 _ rfl,by rw [← add_field _ _ 3 (by omega)];exact hc 3 _ rfl,l3,g3⟩
structure S114 where
 f0:ByteArray
 f1:ByteArray
 f2:ByteArray
def z114:S114:=⟨(⟨#[]⟩:ByteArray),(⟨#[]⟩:ByteArray),(⟨#[]⟩:ByteArray)⟩
def k114:Kd S114:=Kd.iso (Kd.pair Kd.string (Kd.pair Kd.string Kd.string)) (fun x:S114=>(x.f0,x.f1,x.f2))
theorem k114_heap:Kd.Heap k114:=Kd.heap_iso _ (Kd.heap_pair Kd.heap_string (Kd.heap_pair Kd.heap_string Kd.heap_string))
theorem k114_open {w:World} {x:S114} {cs:List Value} (h:k114.K w x cs):cs=[.string x.f0,.string x.f1,.string x.f2]:=by
 obtain ⟨_,_,rfl,rfl,⟨_,_,rfl,rfl,rfl⟩⟩:=h
 exact rfl
theorem k114_openM {w:World} {base:Nat} {ok:Nat→Prop} {x:S114} {cs:List Value} (h:k114.M w base ok x cs):cs=[.string x.f0,.string x.f1,.string x.f2]:=by
 obtain ⟨_,_,rfl,rfl,⟨_,_,rfl,rfl,rfl⟩⟩:=h
 exact rfl
theorem k114_mkM (w:World) (base:Nat) (ok:Nat→Prop) (x:S114)  : k114.M w base ok x [.string x.f0,.string x.f1,.string x.f2]:=⟨[.string x.f0],[.string x.f1,.string x.f2],rfl,rfl,⟨[.string x.f1],[.string x.f2],rfl,rfl,rfl⟩⟩
def rd_T114 (xs:List S114) (i:Int):S114:=xs.getD i.toNat z114
theorem at_T114 {w:World} {A:Option Addr} {n:Nat} {xs:List S114} (h:Kd.C k114 w A n xs) (i:Int) (h0:0≤i) (h1:i<n):∃ ad ,A=some ad∧w.cell? (ad.add (i.toNat * 3))=some (.string (rd_T114 xs i).f0)∧w.cell? ⟨(ad.add (i.toNat * 3)).block,(ad.add (i.toNat * 3)).off+1,none⟩=some (.string (rd_T114 xs i).f1)∧w.cell? ⟨(ad.add (i.toNat * 3)).block,(ad.add (i.toNat * 3)).off+2,none⟩=some (.string (rd_T114 xs i).f2):=by
 obtain ⟨ad,c,e,_,hK,hc0⟩:=Kd.C_get h z114 i h0 h1;have hc:∀ j u,c[j]? = some u→w.cell? (ad.add (i.toNat * 3+j))=some u:=hc0;obtain rfl:=k114_open hK
 exact ⟨ad,e,hc 0 _ rfl,by rw [← add_field _ _ 1 (by omega)];exact hc 1 _ rfl,by rw [← add_field _ _ 2 (by omega)];exact hc 2 _ rfl⟩
structure S152 where
 f0:ByteArray
 f1:Int
def z152:S152:=⟨(⟨#[]⟩:ByteArray),(0:Int)⟩
def k152:Kd S152:=Kd.iso (Kd.pair Kd.string (Kd.int .i64)) (fun x:S152=>(x.f0,x.f1))
theorem k152_open {w:World} {x:S152} {cs:List Value} (h:k152.K w x cs):cs=[.string x.f0,.int .i64 x.f1]:=by
 obtain ⟨_,_,rfl,rfl,rfl⟩:=h
 exact rfl
theorem k152_openM {w:World} {base:Nat} {ok:Nat→Prop} {x:S152} {cs:List Value} (h:k152.M w base ok x cs):cs=[.string x.f0,.int .i64 x.f1]:=by
 obtain ⟨_,_,rfl,rfl,rfl⟩:=h
 exact rfl
theorem k152_mkM (w:World) (base:Nat) (ok:Nat→Prop) (x:S152)  : k152.M w base ok x [.string x.f0,.int .i64 x.f1]:=⟨[.string x.f0],[.int .i64 x.f1],rfl,rfl,rfl⟩
def rd_T152 (xs:List S152) (i:Int):S152:=xs.getD i.toNat z152
theorem at_T152 {w:World} {A:Option Addr} {n:Nat} {xs:List S152} (h:Kd.C k152 w A n xs) (i:Int) (h0:0≤i) (h1:i<n):∃ ad ,A=some ad∧w.cell? (ad.add (i.toNat * 2))=some (.string (rd_T152 xs i).f0)∧w.cell? ⟨(ad.add (i.toNat * 2)).block,(ad.add (i.toNat * 2)).off+1,none⟩=some (.int .i64 (rd_T152 xs i).f1):=by
 obtain ⟨ad,c,e,_,hK,hc0⟩:=Kd.C_get h z152 i h0 h1;have hc:∀ j u,c[j]? = some u→w.cell? (ad.add (i.toNat * 2+j))=some u:=hc0;obtain rfl:=k152_open hK
 exact ⟨ad,e,hc 0 _ rfl,by rw [← add_field _ _ 1 (by omega)];exact hc 1 _ rfl⟩
structure S161 where
 f0:ByteArray
 f1:ByteArray
 f2:Int
 f3:ByteArray
 f4:Int
 f5:Int
 f6:Int
 f7:Int
def z161:S161:=⟨(⟨#[]⟩:ByteArray),(⟨#[]⟩:ByteArray),(0:Int),(⟨#[]⟩:ByteArray),(0:Int),(0:Int),(0:Int),(0:Int)⟩
def k161:Kd S161:=Kd.iso (Kd.pair Kd.string (Kd.pair Kd.string (Kd.pair (Kd.int .i64) (Kd.pair Kd.string (Kd.pair (Kd.int .i64) (Kd.pair (Kd.int .i64) (Kd.pair (Kd.int .i64) (Kd.int .i64)))))))) (fun x:S161=>(x.f0,x.f1,x.f2,x.f3,x.f4,x.f5,x.f6,x.f7))
theorem k161_open {w:World} {x:S161} {cs:List Value} (h:k161.K w x cs):cs=[.string x.f0,.string x.f1,.int .i64 x.f2,.string x.f3,.int .i64 x.f4,.int .i64 x.f5,.int .i64 x.f6,.int .i64 x.f7]:=by
 obtain ⟨_,_,rfl,rfl,⟨_,_,rfl,rfl,⟨_,_,rfl,rfl,⟨_,_,rfl,rfl,⟨_,_,rfl,rfl,⟨_,_,rfl,rfl,⟨_,_,rfl,rfl,rfl⟩⟩⟩⟩⟩⟩⟩:=h
 exact rfl
theorem k161_openM {w:World} {base:Nat} {ok:Nat→Prop} {x:S161} {cs:List Value} (h:k161.M w base ok x cs):cs=[.string x.f0,.string x.f1,.int .i64 x.f2,.string x.f3,.int .i64 x.f4,.int .i64 x.f5,.int .i64 x.f6,.int .i64 x.f7]:=by
 obtain ⟨_,_,rfl,rfl,⟨_,_,rfl,rfl,⟨_,_,rfl,rfl,⟨_,_,rfl,rfl,⟨_,_,rfl,rfl,⟨_,_,rfl,rfl,⟨_,_,rfl,rfl,rfl⟩⟩⟩⟩⟩⟩⟩:=h
 exact rfl
theorem k161_mkM (w:World) (base:Nat) (ok:Nat→Prop) (x:S161)  : k161.M w base ok x [.string x.f0,.string x.f1,.int .i64 x.f2,.string x.f3,.int .i64 x.f4,.int .i64 x.f5,.int .i64 x.f6,.int .i64 x.f7]:=⟨[.string x.f0],[.string x.f1,.int .i64 x.f2,.string x.f3,.int .i64 x.f4,.int .i64 x.f5,.int .i64 x.f6,.int .i64 x.f7],rfl,rfl,⟨[.string x.f1],[.int .i64 x.f2,.string x.f3,.int .i64 x.f4,.int .i64 x.f5,.int .i64 x.f6,.int .i64 x.f7],rfl,rfl,⟨[.int .i64 x.f2],[.string x.f3,.int .i64 x.f4,.int .i64 x.f5,.int .i64 x.f6,.int .i64 x.f7],rfl,rfl,⟨[.string x.f3],[.int .i64 x.f4,.int .i64 x.f5,.int .i64 x.f6,.int .i64 x.f7],rfl,rfl,⟨[.int .i64 x.f4],[.int .i64 x.f5,.int .i64 x.f6,.int .i64 x.f7],rfl,rfl,⟨[.int .i64 x.f5],[.int .i64 x.f6,.int .i64 x.f7],rfl,rfl,⟨[.int .i64 x.f6],[.int .i64 x.f7],rfl,rfl,rfl⟩⟩⟩⟩⟩⟩⟩
def rd_T161 (xs:List S161) (i:Int):S161:=xs.getD i.toNat z161
theorem at_T161 {w:World} {A:Option Addr} {n:Nat} {xs:List S161} (h:Kd.C k161 w A n xs) (i:Int) (h0:0≤i) (h1:i<n):∃ ad ,A=some ad∧w.cell? (ad.add (i.toNat * 8))=some (.string (rd_T161 xs i).f0)∧w.cell? ⟨(ad.add (i.toNat * 8)).block,(ad.add (i.toNat * 8)).off+1,none⟩=some (.string (rd_T161 xs i).f1)∧w.cell? ⟨(ad.add (i.toNat * 8)).block,(ad.add (i.toNat * 8)).off+2,none⟩=some (.int .i64 (rd_T161 xs i).f2)∧w.cell? ⟨(ad.add (i.toNat * 8)).block,(ad.add (i.toNat * 8)).off+3,none⟩=some (.string (rd_T161 xs i).f3)∧w.cell? ⟨(ad.add (i.toNat * 8)).block,(ad.add (i.toNat * 8)).off+4,none⟩=some (.int .i64 (rd_T161 xs i).f4)∧w.cell? ⟨(ad.add (i.toNat * 8)).block,(ad.add (i.toNat * 8)).off+5,none⟩=some (.int .i64 (rd_T161 xs i).f5)∧w.cell? ⟨(ad.add (i.toNat * 8)).block,(ad.add (i.toNat * 8)).off+6,none⟩=some (.int .i64 (rd_T161 xs i).f6)∧w.cell? ⟨(ad.add (i.toNat * 8)).block,(ad.add (i.toNat * 8)).off+7,none⟩=some (.int .i64 (rd_T161 xs i).f7):=by
 obtain ⟨ad,c,e,_,hK,hc0⟩:=Kd.C_get h z161 i h0 h1;have hc:∀ j u,c[j]? = some u→w.cell? (ad.add (i.toNat * 8+j))=some u:=hc0;obtain rfl:=k161_open hK
 exact ⟨ad,e,hc 0 _ rfl,by rw [← add_field _ _ 1 (by omega)];exact hc 1 _ rfl,by rw [← add_field _ _ 2 (by omega)];exact hc 2 _ rfl,by rw [← add_field _ _ 3 (by omega)];exact hc 3 _ rfl,by rw [← add_field _ _ 4 (by omega)];exact hc 4 _ rfl,by rw [← add_field _ _ 5 (by omega)];exact hc 5 _ rfl,by rw [← add_field _ _ 6 (by omega)];exact hc 6 _ rfl,by rw [← add_field _ _ 7 (by omega)];exact hc 7 _ rfl⟩
structure S118 where
 f0:Int
 f1:ByteArray
 f2:ByteArray
 f3:Int
 f4:ByteArray
 f5:Int
def z118:S118:=⟨(0:Int),(⟨#[]⟩:ByteArray),(⟨#[]⟩:ByteArray),(0:Int),(⟨#[]⟩:ByteArray),(0:Int)⟩
def k118:Kd S118:=Kd.iso (Kd.pair (Kd.int .i64) (Kd.pair Kd.string (Kd.pair Kd.string (Kd.pair (Kd.int .i64) (Kd.pair Kd.string (Kd.int .i64)))))) (fun x:S118=>(x.f0,x.f1,x.f2,x.f3,x.f4,x.f5))
theorem k118_open {w:World} {x:S118} {cs:List Value} (h:k118.K w x cs):cs=[.int .i64 x.f0,.string x.f1,.string x.f2,.int .i64 x.f3,.string x.f4,.int .i64 x.f5]:=by
 obtain ⟨_,_,rfl,rfl,⟨_,_,rfl,rfl,⟨_,_,rfl,rfl,⟨_,_,rfl,rfl,⟨_,_,rfl,rfl,rfl⟩⟩⟩⟩⟩:=h
 exact rfl
theorem k118_openM {w:World} {base:Nat} {ok:Nat→Prop} {x:S118} {cs:List Value} (h:k118.M w base ok x cs):cs=[.int .i64 x.f0,.string x.f1,.string x.f2,.int .i64 x.f3,.string x.f4,.int .i64 x.f5]:=by
 obtain ⟨_,_,rfl,rfl,⟨_,_,rfl,rfl,⟨_,_,rfl,rfl,⟨_,_,rfl,rfl,⟨_,_,rfl,rfl,rfl⟩⟩⟩⟩⟩:=h
 exact rfl
theorem k118_mkM (w:World) (base:Nat) (ok:Nat→Prop) (x:S118)  : k118.M w base ok x [.int .i64 x.f0,.string x.f1,.string x.f2,.int .i64 x.f3,.string x.f4,.int .i64 x.f5]:=⟨[.int .i64 x.f0],[.string x.f1,.string x.f2,.int .i64 x.f3,.string x.f4,.int .i64 x.f5],rfl,rfl,⟨[.string x.f1],[.string x.f2,.int .i64 x.f3,.string x.f4,.int .i64 x.f5],rfl,rfl,⟨[.string x.f2],[.int .i64 x.f3,.string x.f4,.int .i64 x.f5],rfl,rfl,⟨[.int .i64 x.f3],[.string x.f4,.int .i64 x.f5],rfl,rfl,⟨[.string x.f4],[.int .i64 x.f5],rfl,rfl,rfl⟩⟩⟩⟩⟩
def rd_T118 (xs:List S118) (i:Int):S118:=xs.getD i.toNat z118
theorem at_T118 {w:World} {A:Option Addr} {n:Nat} {xs:List S118} (h:Kd.C k118 w A n xs) (i:Int) (h0:0≤i) (h1:i<n):∃ ad ,A=some ad∧w.cell? (ad.add (i.toNat * 6))=some (.int .i64 (rd_T118 xs i).f0)∧w.cell? ⟨(ad.add (i.toNat * 6)).block,(ad.add (i.toNat * 6)).off+1,none⟩=some (.string (rd_T118 xs i).f1)∧w.cell? ⟨(ad.add (i.toNat * 6)).block,(ad.add (i.toNat * 6)).off+2,none⟩=some (.string (rd_T118 xs i).f2)∧w.cell? ⟨(ad.add (i.toNat * 6)).block,(ad.add (i.toNat * 6)).off+3,none⟩=some (.int .i64 (rd_T118 xs i).f3)∧w.cell? ⟨(ad.add (i.toNat * 6)).block,(ad.add (i.toNat * 6)).off+4,none⟩=some (.string (rd_T118 xs i).f4)∧w.cell? ⟨(ad.add (i.toNat * 6)).block,(ad.add (i.toNat * 6)).off+5,none⟩=some (.int .i64 (rd_T118 xs i).f5):=by
 obtain ⟨ad,c,e,_,hK,hc0⟩:=Kd.C_get h z118 i h0 h1;have hc:∀ j u,c[j]? = some u→w.cell? (ad.add (i.toNat * 6+j))=some u:=hc0;obtain rfl:=k118_open hK
 exact ⟨ad,e,hc 0 _ rfl,by rw [← add_field _ _ 1 (by omega)];exact hc 1 _ rfl,by rw [← add_field _ _ 2 (by omega)];exact hc 2 _ rfl,by rw [← add_field _ _ 3 (by omega)];exact hc 3 _ rfl,by rw [← add_field _ _ 4 (by omega)];exact hc 4 _ rfl,by rw [← add_field _ _ 5 (by omega)];exact hc 5 _ rfl⟩
structure S120 where
 f0:ByteArray
 f1:Int
 f2:ByteArray
 f3:Int
 f4:Int
def z120:S120:=⟨(⟨#[]⟩:ByteArray),(0:Int),(⟨#[]⟩:ByteArray),(0:Int),(0:Int)⟩
def k120:Kd S120:=Kd.iso (Kd.pair Kd.string (Kd.pair (Kd.int .i64) (Kd.pair Kd.string (Kd.pair (Kd.int .i64) (Kd.int .i64))))) (fun x:S120=>(x.f0,x.f1,x.f2,x.f3,x.f4))
theorem k120_open {w:World} {x:S120} {cs:List Value} (h:k120.K w x cs):cs=[.string x.f0,.int .i64 x.f1,.string x.f2,.int .i64 x.f3,.int .i64 x.f4]:=by
 obtain ⟨_,_,rfl,rfl,⟨_,_,rfl,rfl,⟨_,_,rfl,rfl,⟨_,_,rfl,rfl,rfl⟩⟩⟩⟩:=h
 exact rfl
theorem k120_openM {w:World} {base:Nat} {ok:Nat→Prop} {x:S120} {cs:List Value} (h:k120.M w base ok x cs):cs=[.string x.f0,.int .i64 x.f1,.string x.f2,.int .i64 x.f3,.int .i64 x.f4]:=by
 obtain ⟨_,_,rfl,rfl,⟨_,_,rfl,rfl,⟨_,_,rfl,rfl,⟨_,_,rfl,rfl,rfl⟩⟩⟩⟩:=h
 exact rfl
theorem k120_mkM (w:World) (base:Nat) (ok:Nat→Prop) (x:S120)  : k120.M w base ok x [.string x.f0,.int .i64 x.f1,.string x.f2,.int .i64 x.f3,.int .i64 x.f4]:=⟨[.string x.f0],[.int .i64 x.f1,.string x.f2,.int .i64 x.f3,.int .i64 x.f4],rfl,rfl,⟨[.int .i64 x.f1],[.string x.f2,.int .i64 x.f3,.int .i64 x.f4],rfl,rfl,⟨[.string x.f2],[.int .i64 x.f3,.int .i64 x.f4],rfl,rfl,⟨[.int .i64 x.f3],[.int .i64 x.f4],rfl,rfl,rfl⟩⟩⟩⟩
def rd_T120 (xs:List S120) (i:Int):S120:=xs.getD i.toNat z120
theorem at_T120 {w:World} {A:Option Addr} {n:Nat} {xs:List S120} (h:Kd.C k120 w A n xs) (i:Int) (h0:0≤i) (h1:i<n):∃ ad ,A=some ad∧w.cell? (ad.add (i.toNat * 5))=some (.string (rd_T120 xs i).f0)∧w.cell? ⟨(ad.add (i.toNat * 5)).block,(ad.add (i.toNat * 5)).off+1,none⟩=some (.int .i64 (rd_T120 xs i).f1)∧w.cell? ⟨(ad.add (i.toNat * 5)).block,(ad.add (i.toNat * 5)).off+2,none⟩=some (.string (rd_T120 xs i).f2)∧w.cell? ⟨(ad.add (i.toNat * 5)).block,(ad.add (i.toNat * 5)).off+3,none⟩=some (.int .i64 (rd_T120 xs i).f3)∧w.cell? ⟨(ad.add (i.toNat * 5)).block,(ad.add (i.toNat * 5)).off+4,none⟩=some (.int .i64 (rd_T120 xs i).f4):=by
 obtain ⟨ad,c,e,_,hK,hc0⟩:=Kd.C_get h z120 i h0 h1;have hc:∀ j u,c[j]? = some u→w.cell? (ad.add (i.toNat * 5+j))=some u:=hc0;obtain rfl:=k120_open hK
 exact ⟨ad,e,hc 0 _ rfl,by rw [← add_field _ _ 1 (by omega)];exact hc 1 _ rfl,by rw [← add_field _ _ 2 (by omega)];exact hc 2 _ rfl,by rw [← add_field _ _ 3 (by omega)];exact hc 3 _ rfl,by rw [← add_field _ _ 4 (by omega)];exact hc 4 _ rfl⟩
structure S157 where
 f0:ByteArray
 f1:Int
 f2:ByteArray
def k157:Kd S157:=Kd.iso (Kd.pair Kd.string (Kd.pair (Kd.int .i64) Kd.string)) (fun x:S157=>(x.f0,x.f1,x.f2))
theorem k157_mkM (w:World) (base:Nat) (ok:Nat→Prop) (x:S157)  : k157.M w base ok x [.string x.f0,.int .i64 x.f1,.string x.f2]:=⟨[.string x.f0],[.int .i64 x.f1,.string x.f2],rfl,rfl,⟨[.int .i64 x.f1],[.string x.f2],rfl,rfl,rfl⟩⟩
structure S27 where
 f0:(List S147)
 f1:(List S150)
def k27:Kd S27:=Kd.iso (Kd.pair (Kd.slice 147 k147) (Kd.slice 150 k150)) (fun x:S27=>(x.f0,x.f1))
theorem k27_open {w:World} {x:S27} {cs:List Value} (h:k27.K w x cs):∃ A0 c0 A1 c1,cs=[.slice A0 x.f0.length c0,.slice A1 x.f1.length c1]∧x.f0.length≤c0∧k147.C w A0 x.f0.length x.f0∧x.f1.length≤c1∧k150.C w A1 x.f1.length x.f1:=by
 obtain ⟨_,_,rfl,⟨A0,c0,rfl,l0,g0⟩,⟨A1,c1,rfl,l1,g1⟩⟩:=h
 exact ⟨A0,c0,A1,c1,rfl,l0,g0,l1,g1⟩
structure S31 where
 f0:ByteArray
 f1:Int
 f2:(List S93)
 f3:(List S96)
 f4:S27
 f5:(List S101)
 f6:(List S104)
def k31:Kd S31:=Kd.iso (Kd.pair Kd.string (Kd.pair (Kd.int .i64) (Kd.pair (Kd.slice 93 k93) (Kd.pair (Kd.slice 96 k96) (Kd.pair k27 (Kd.pair (Kd.slice 101 k101) (Kd.slice 104 k104))))))) (fun x:S31=>(x.f0,x.f1,x.f2,x.f3,x.f4,x.f5,x.f6))
theorem k31_open {w:World} {x:S31} {cs:List Value} (h:k31.K w x cs):∃ A2 c2 A3 c3 A4 c4 A5 c5 A6 c6 A7 c7,cs=[.string x.f0,.int .i64 x.f1,.slice A2 x.f2.length c2,.slice A3 x.f3.length c3,.slice A4 x.f4.f0.length c4,.slice A5 x.f4.f1.length c5,.slice A6 x.f5.length c6,.slice A7 x.f6.length c7]∧x.f2.length≤c2∧k93.C w A2 x.f2.length x.f2∧x.f3.length≤c3∧k96.C w A3 x.f3.length x.f3∧x.f4.f0.length≤c4∧k147.C w A4 x.f4.f0.length x.f4.f0∧x.f4.f1.length≤c5∧k150.C w A5 x.f4.f1.length x.f4.f1∧x.f5.length≤c6∧k101.C w A6 x.f5.length x.f5∧x.f6.length≤c7∧k104.C w A7 x.f6.length x.f6:=by
 obtain ⟨_,_,rfl,rfl,⟨_,_,rfl,rfl,⟨_,_,rfl,⟨A2,c2,rfl,l2,g2⟩,⟨_,_,rfl,⟨A3,c3,rfl,l3,g3⟩,⟨_,_,rfl,s4,⟨_,_,rfl,⟨A6,c6,rfl,l6,g6⟩,⟨A7,c7,rfl,l7,g7⟩⟩⟩⟩⟩⟩⟩:=h;obtain ⟨A4,c4,A5,c5,rfl,l4,g4,l5,g5⟩:=k27_open s4
 exact ⟨A2,c2,A3,c3,A4,c4,A5,c5,A6,c6,A7,c7,rfl,l2,g2,l3,g3,l4,g4,l5,g5,l6,g6,l7,g7⟩
end Go.Proofs.YtomoflpgdbjojaaGreat.QN
