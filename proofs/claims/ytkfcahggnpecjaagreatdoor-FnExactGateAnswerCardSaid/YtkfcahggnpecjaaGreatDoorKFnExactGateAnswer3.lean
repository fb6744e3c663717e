-- Merged by a program of this session (wip/tool/pack.py) out of its own texts for this claim.
import Derived.Shelf.Strconv.Itoa0
import Derived.Shelf.Strconv.Itoa1
import Derived.Shelf.LaysM
import Derived.Shelf.Strconv.Itoa2
import Derived.Shelf.Strconv.Itoa3
import Derived.Shelf.Strconv.Itoa4
import Derived.Test.YtkfcahggnpecjaaGreatDoorProg
import Derived.WalkKit
import Derived.Laws.Strings
import Derived.Test.YtkfcahggnpecjaaGreatDoorKFnExactGateAnswer2
namespace Go.Proofs.YtkfcahggnpecjaaGreatDoorW.PrintMore
open Go.RowKit Go.Proofs.YtkfcahggnpecjaaGreatDoorW.PrintWords Go.Proofs.YtkfcahggnpecjaaGreatDoorW.PrintLast
section
variable {P : Program} {ops : Array Oper} {Q : Exit → Act → World → Prop} {md : Region.Mode} {S : World → Prop} {ds : List Nat} {T : Bool × List (List Nat × List Nat)} {B : List Nat} {fuel : Nat} {l : Array Bool} {a a' : Act} {w : World} {oi : Oper} {v : Value}
theorem pA (i N:Nat) (hT:Aside0 (rtab md ops=T)) (h:wpAnyLast P md ops Q S ds fuel (l.setIfInBounds i true) a' w)
  (hi:ops[i]? = some oi:=by exact rfl) (hN:oi.dst=some N:=by exact rfl) (hc:anyT T l.toList (l.setIfInBounds i true).toList i=true:=by kernel_rfl)
  (hw:Region.wanted oi (yielded ops a.tmps)=true:=by rfl) (hy:∀ w,(execOp a.eval oi).run P w=.ok (.value v) w:=by (intro w';go_simp;with_reducible rfl))
  (ha:a.put (some N) v=a':=by (simp only [Act.put,List.setIfInBounds_toArray,List.set_cons_zero,List.set_cons_succ,i64_w,i32_w];rfl))
  (hQ:∀ c a w,Q (.panic c) (a.put oi.dst v) w→Q (.panic c) a w:=by exact fun _ _ _ h=>h):wpAnyLast P md ops Q S ds (fuel+1) l a w :=
 pure_ _ hi hN (any_of hT.out hc) hQ (Or.inl ⟨hw,hy⟩) ha h
theorem pB (i N:Nat) (hT:Aside0 (rtab md ops=T)) (h:wpAnyLast P md ops Q S ds fuel (l.setIfInBounds i true) a' w)
  (hi:ops[i]? = some oi:=by exact rfl) (hN:oi.dst=some N:=by exact rfl) (hc:anyT T l.toList (l.setIfInBounds i true).toList i=true:=by kernel_rfl)
  (hw:Region.wanted oi (yielded ops a.tmps)=false:=by rfl)
  (ha:a.put (some N) undef=a':=by (simp only [Act.put,List.setIfInBounds_toArray,List.set_cons_zero,List.set_cons_succ,i64_w,i32_w];rfl))
  (hQ:∀ c a w,Q (.panic c) (a.put oi.dst undef) w→Q (.panic c) a w:=by exact fun _ _ _ h=>h):wpAnyLast P md ops Q S ds (fuel+1) l a w :=
 pure_ _ hi hN (any_of hT.out hc) hQ (Or.inr ⟨hw,rfl⟩) ha h
theorem tA (i N:Nat) (hT:Aside0 (rtab md ops=T)) (hB:Aside0 (waitsOk T.2 B=true)) (hS:S w) (h:wpAnyLast P md ops Q S ds fuel (l.setIfInBounds i true) a' w)
  (hi:ops[i]? = some oi:=by exact rfl) (hN:oi.dst=some N:=by exact rfl) (hc:takeW T B ds l.toList (l.setIfInBounds i true).toList i=true:=by kernel_rfl)
  (hw:Region.wanted oi (yielded ops a.tmps)=true:=by rfl) (hy:∀ w,S w→(execOp a.eval oi).run P w=.ok (.value v) w:=by (intro w' hs;go_simp;with_reducible rfl))
  (ha:a.put (some N) v=a':=by (simp only [Act.put,List.setIfInBounds_toArray,List.set_cons_zero,List.set_cons_succ,i64_w,i32_w];rfl))
  (hQ:∀ c a w,Q (.panic c) (a.put oi.dst v) w→Q (.panic c) a w:=by exact fun _ _ _ h=>h):wpAnyLast P md ops Q S ds (fuel+1) l a w :=
 take_ _ hi hN (take_ofW hT.out hB.out hc) hQ (Or.inl ⟨hw,hy⟩) hS ha h
theorem oA (i N:Nat) (hT:Aside0 (rtab md ops=T))
  (h:∀ K:Act→World→Prop,Shut (∀ a' w',S w'→(S w'→wpAnyLast P md ops Q S ds fuel (l.setIfInBounds i true) a' w')→K a' w')→if Region.wanted oi (yielded ops a.tmps)=true then Oper.wp P oi a w K Q else K (a.put (some N) undef) w)
  (hi:ops[i]? = some oi:=by exact rfl) (hN:oi.dst=some N:=by exact rfl) (hc:(readyT T.2 l.toList == [i] && l.toList.set i true == (l.setIfInBounds i true).toList)=true:=by kernel_rfl) (hd:i ∉ ds:=by decide):wpAnyLast P md ops Q S ds (fuel+1) l a w :=
 one_ _ hi hN (one_of hT.out hc) hd h
theorem gA {N : Option Tmp} {K : Act → World → Prop} {f : FuncId} {fn : Func} {as_0 : Array Operand} {ts : Array TypeId} (hf : P.funcs[f]? = some fn) (args : Array Value)
    (h : Calls P f args w fun e w' => ∃ v, e = .returned v ∧ K (a.put N v) w') (hname : (fn.name == "runtime.NumGoroutine") = false := by kernel_rfl) (hb : fn.body.isSome = true := by exact rfl)
    (hw : Region.wanted oi (yielded ops a.tmps) = true := by rfl) (hN : oi.dst = N := by exact rfl) (hop : oi.op = .call { callee := .value (.func f), args := as_0, argTypes := ts } := by exact rfl)
    (hargs : as_0.map a.eval = args := by (try simp only [List.map_toArray, List.map_cons, List.map_nil]); first | done | rfl | (simp only [List.length_drop, List.length_take]; rfl)) : if Region.wanted oi (yielded ops a.tmps) = true then Oper.wp P oi a w K Q else K (a.put N undef) w :=
  goes_ hf hname hb args hw hN hop hargs h
theorem nA (N:Nat) (h:wpAnyLast P md ops Q S ds fuel l a' w) (ha:a.put (some N) v=a':=by (simp only [Act.put,List.setIfInBounds_toArray,List.set_cons_zero,List.set_cons_succ,i64_w,i32_w];rfl)):wpAnyLast P md ops Q S ds fuel l (a.put (some N) v) w:=norm_ ha h
end
section
variable {P : Program} {ops : Array Oper} {Q : Exit → Act → World → Prop} {o : Oper} {rest : List Oper} {a : Act}
theorem bx {W:World} (N:Tmp) {cs:Array Value} {t:TypeId} (h:∀ g,g=W.heap.size→∀ w1,w1.heap[g]? = some (.cells cs t (0,0))→Below W.heap.size W w1→wpList P ops Q rest (a.put o.dst (.pointer (some ⟨g,0,none⟩))) w1)
  (hd:o.dst=some N:=by rfl) (hg:o.guard=none:=by rfl) (hr:(execOp a.eval o).run P W=.ok (.value (.pointer (some ⟨W.heap.size,0,none⟩))) (W.alloc (.cells cs t (0,0))):=by first|(go_simp;done)|(go_simp;rfl)):wpList P ops Q (o :: rest) a W :=
 box_event hg hd hr h
end
theorem _root_.Go.Proofs.YtkfcahggnpecjaaGreatDoorW.PrintWords.KeepBut.far {w w1 w2:World} {g gl:Nat} {row:Option Nat} (h:KeepBut w w1 g row) (k:KeepBut w1 w2 gl none) (hge:w.heap.size≤gl):KeepBut w w2 g row :=
 ⟨Nat.le_trans h.1 k.1,fun i hi hg hr=>(k.2 i (Nat.lt_of_lt_of_le hi h.1) (by omega) (by simp)).trans (h.2 i hi hg hr)⟩
theorem bs {w W W':World} (h:Aside0 (Below w.heap.size w W)) (e:Below w.heap.size w W→Below w.heap.size w W':=by (intro h;repeat (first|(with_reducible first|exact h|apply below_alloc|apply pw_below_drewN|apply below_drew1)|refine below_set ?_ (Aside0.out (by assumption))|exact h))):Below w.heap.size w W':=e h.out
theorem ks {W W':World} {g:Nat} {t:TypeId} {cs:Array Value} (h:Aside0 (W.heap[g]? = some (.cells cs t (0,0)))) (e:W.heap[g]? = some (.cells cs t (0,0))→W'.heap[g]? = some (.cells cs t (0,0)):=by (intro h;repeat (first|(with_reducible first|exact h|refine blk_drewN ?_ _|refine blk_drew ?_|refine blk_alloc ?_ _)|refine blk_far ?_ (Aside0.out (by assumption)) _|exact h))):W'.heap[g]? = some (.cells cs t (0,0)):=e h.out
theorem rs {α:Type} {d:Kd α} {e base:Nat} {W W':World} {ok:Nat→Prop} {v:Value} {xs:List α} (h:Aside0 (d.R e W base ok v xs)) (k:d.R e W base ok v xs→d.R e W' base ok v xs:=by (intro h;(with_reducible repeat (first|apply Kd.R_alloc|apply Kd.R_drewN|apply Kd.R_drew));exact h)):d.R e W' base ok v xs:=k h.out
theorem put0 {w:World} {g:Nat} {t:TypeId} {cs:Array Value} (h:w.heap[g]? = some (.cells cs t (0,0))) (i:Nat) (u:Value):(w.setCell ⟨g,i,none⟩ u).heap[g]? = some (.cells (cs.setIfInBounds i u) t (0,0)):=blk_put h i u rfl
theorem fin0 {w:World} {g:Nat} {t:TypeId} {cs cs':Array Value} (h:w.heap[g]? = some (.cells cs t (0,0))) (e:cs=cs'):w.heap[g]? = some (.cells cs' t (0,0)):=e ▸ h
theorem far0 {w:World} {g:Nat} {t:TypeId} {p:Addr} (hp:Aside0 (g≠p.block)) {cs:Array Value} (h:w.heap[g]? = some (.cells cs t (0,0))) (u:Value):(w.setCell p u).heap[g]? = some (.cells cs t (0,0)):=blk_far h hp.out u
theorem kp {W W':World} {g:Nat} {t:TypeId} {cs cs':Array Value} (h:Aside0 (W.heap[g]? = some (.cells cs t (0,0)))) (e:W.heap[g]? = some (.cells cs t (0,0))→W'.heap[g]? = some (.cells cs' t (0,0)):=by (intro h;apply fin0;(· repeat (first|(with_reducible first|exact h|refine blk_drewN ?_ _|refine blk_drew ?_|refine blk_alloc ?_ _)|(with_reducible apply put0)|((with_reducible apply far0);assumption)|exact h));(· first|(simp only [List.setIfInBounds_toArray,List.set_cons_zero,List.set_cons_succ];done)|rfl))):W'.heap[g]? = some (.cells cs' t (0,0)):=e h.out
theorem gs {w W:World} {g:Nat} (hg:g=W.heap.size) (h:Below w.heap.size w W):w.heap.size≤g:=hg ▸ h.size
theorem gn {W:World} {g g':Nat} {o:Obj} (hg:g'=W.heap.size) (h:W.heap[g]? = some o):g≠g':=by rw [hg];exact Nat.ne_of_lt (blk_lt h)
theorem gm {W:World} {g g':Nat} {o:Obj} (hg:g'=W.heap.size) (h:W.heap[g]? = some o):g'≠g:=(gn hg h).symm
theorem bq {w W W' W2:World} (h:Aside0 (Below w.heap.size w W)) (hb:Below W'.heap.size W' W2) (e:Below w.heap.size w W→Below w.heap.size w W':=by (intro h;repeat (first|(with_reducible first|exact h|apply below_alloc|apply pw_below_drewN|apply below_drew1)|refine below_set ?_ (Aside0.out (by assumption))|exact h))):Aside0 (Below w.heap.size w W2):=Aside0.mk (below_step (e h.out) hb)
theorem gw {w W W':World} {g:Nat} (hg:g=W'.heap.size) (h:Aside0 (Below w.heap.size w W)) (e:Below w.heap.size w W→Below w.heap.size w W':=by (intro h;repeat (first|(with_reducible first|exact h|apply below_alloc|apply pw_below_drewN|apply below_drew1)|refine below_set ?_ (Aside0.out (by assumption))|exact h))):Aside0 (w.heap.size≤g):=Aside0.mk (gs hg (e h.out))
theorem bb {W W' W2:World} {g:Nat} {t:TypeId} {cs:Array Value} (h:Aside0 (W.heap[g]? = some (.cells cs t (0,0)))) (hb:Below W'.heap.size W' W2) (e:W.heap[g]? = some (.cells cs t (0,0))→W'.heap[g]? = some (.cells cs t (0,0)):=by (intro h;repeat (first|(with_reducible first|exact h|refine blk_drewN ?_ _|refine blk_drew ?_|refine blk_alloc ?_ _)|refine blk_far ?_ (Aside0.out (by assumption)) _|exact h))):Aside0 (W2.heap[g]? = some (.cells cs t (0,0))):=Aside0.mk (blk_below (e h.out) hb)
theorem na {W W':World} {g g':Nat} {t:TypeId} {cs:Array Value} (hg:g'=W'.heap.size) (h:Aside0 (W.heap[g]? = some (.cells cs t (0,0)))) (e:W.heap[g]? = some (.cells cs t (0,0))→W'.heap[g]? = some (.cells cs t (0,0)):=by (intro h;repeat (first|(with_reducible first|exact h|refine blk_drewN ?_ _|refine blk_drew ?_|refine blk_alloc ?_ _)|refine blk_far ?_ (Aside0.out (by assumption)) _|exact h))):Aside0 (g≠g'):=Aside0.mk (gn hg (e h.out))
theorem nc {W W':World} {g g':Nat} {t:TypeId} {cs:Array Value} (hg:g'=W'.heap.size) (h:Aside0 (W.heap[g]? = some (.cells cs t (0,0)))) (e:W.heap[g]? = some (.cells cs t (0,0))→W'.heap[g]? = some (.cells cs t (0,0)):=by (intro h;repeat (first|(with_reducible first|exact h|refine blk_drewN ?_ _|refine blk_drew ?_|refine blk_alloc ?_ _)|refine blk_far ?_ (Aside0.out (by assumption)) _|exact h))):Aside0 (g'≠g):=Aside0.mk (gm hg (e h.out))
theorem nl {w:World} {p:Addr} {v:Value} {b g:Nat} (h:w.cell? p=some v) (G:Aside0 (w.heap.size≤g)) (e:p.block=b:=by first|rfl|exact add_block _ _):b≠g:=e ▸ Nat.ne_of_lt (Nat.lt_of_lt_of_le (World.block_lt_of_cell? _ _ h) G.out)
theorem nz {a b g:Nat} (h:a≠g) (e:b=a:=by first|rfl|exact add_block _ _):b≠g:=e ▸ h
theorem sd {α:Type} {d:Kd α} {w0 w1:World} {A:Option Addr} {n:Nat} {l:List α} (h:d.C w0 A n l) (e:d.C w0 A n l→d.C w1 A n l:=by (intro h;repeat (first|exact h|(with_reducible refine Kd.C_alloc ?_ _)|(with_reducible refine Kd.C_drewN ?_ _)|(with_reducible refine Kd.C_drew ?_)))):d.C w1 A n l:=e h
theorem rz {p q:Prop} (x:q) (e:q→p:=by (intro h;(with_reducible repeat (first|apply Kd.R_alloc|apply Kd.R_drewN|apply Kd.R_drew));exact h)):p:=e x
theorem dr {p:Prop} (h:p:=by repeat (first|exact Drawn0.refl _|apply Drawn0.step)):p:=h
section
variable {P : Program} {ops : Array Oper} {Q : Exit → Act → World → Prop} {o : Oper} {rest : List Oper} {a : Act}
theorem bz {w0 w W:World} (N:Tmp) {cs:Array Value} {t:TypeId} (HB:Aside0 (Below w0.heap.size w0 w)) (h:∀ g,g=W.heap.size→∀ w1,Aside0 (w1.heap[g]? = some (.cells cs t (0,0)))→Aside0 (w0.heap.size≤g)→Below W.heap.size W w1→Aside0 (Below w0.heap.size w0 w1)→wpList P ops Q rest (a.put o.dst (.pointer (some ⟨g,0,none⟩))) w1)
  (e:Below w0.heap.size w0 w→Below w0.heap.size w0 W:=by (intro h;repeat (first|(with_reducible first|exact h|apply below_alloc|apply pw_below_drewN|apply below_drew1)|refine below_set ?_ (Aside0.out (by assumption))|exact h))) (hd:o.dst=some N:=by rfl) (hg:o.guard=none:=by rfl) (hr:(execOp a.eval o).run P W=.ok (.value (.pointer (some ⟨W.heap.size,0,none⟩))) (W.alloc (.cells cs t (0,0))):=by first|(go_simp;done)|(go_simp;rfl)):wpList P ops Q (o :: rest) a W :=
 box_event hg hd hr (fun g hg' w1 hb hW=>h g hg' w1 (Aside0.mk hb) (Aside0.mk (gs hg' (e HB.out))) hW (Aside0.mk (below_step (e HB.out) hW)))
theorem rl {α:Type} (d:Kd α) {W:World} (e:Nat) {N:Tmp} {xs:List α} {inner:List Value}
  (hrep:Reps (d.M W W.heap.size (fun _=>True)) d.sz xs inner)
  (h:∀ v1 w1,d.R e w1 W.heap.size (fun _=>True) v1 xs→Below W.heap.size W w1→W.grownBy w1 none→(∃ b,v1.ownBlock=some b∧W.heap.size≤b)→wpList P ops Q rest (a.put o.dst v1) w1)
  (hg:o.guard=none:=by rfl) (hd:o.dst=some N:=by rfl) (hr:(execOp a.eval o).run P W=.ok (.value (.slice (some ⟨W.heap.size,0,none⟩) xs.length xs.length)) (W.alloc (.cells inner.toArray e)):=by first|(go_simp;done)|(go_simp;rfl))
  (hm:xs.length≤9223372036854775807:=by simp):wpList P ops Q (o :: rest) a W :=
 Kd.R_lit d _ e hg hd hr hrep (fun _ hk=>hk) trivial (Below.refl _ _) (Nat.le_refl _) hm h
end
theorem oa {p:Prop} [Decidable p] (h:decide p=true:=by first|(with_reducible assumption)|assumption):p:=of_decide_eq_true h
theorem rf {α:Type} {d:Kd α} {e base:Nat} {W W':World} {ok:Nat→Prop} {v:Value} {xs:List α} (h:d.R e W base ok v xs) (k:d.R e W base ok v xs→d.R e W' base ok v xs:=by (intro h;repeat (first|(with_reducible first|exact h|apply Kd.R_alloc|apply Kd.R_drewN|apply Kd.R_drew)|refine Kd.R_far ?_ (fun _ hk=>hk.2) _|exact h))):d.R e W' base ok v xs:=k h
theorem cb {w W:World} {p:Addr} {v:Value} (h:Aside0 (Below w.heap.size w W)) (hx:w.cell? p=some v):W.cell? p=some v:=(h.out.cell (World.block_lt_of_cell? w _ hx)).trans hx
theorem ff {p:Prop} (h:p:=by first|rfl|(simp [errW_none,errW_some] <;> rfl)|(simp [*,errW_none,errW_some] <;> rfl)):p:=h
theorem fg {p:Prop} (h:p:=by first|rfl|(simp;done)|(simp [*];done)):p:=h
theorem fl {m n:Nat} (h:m≤n:=by first|omega|exact Nat.le_refl _):m≤n:=h
theorem cf2 {w:World} {g:Nat} {t:TypeId} {v0 v1:Value} (h:Aside0 (w.heap[g]? = some (.cells #[v0,v1] t (0,0)))):w.cell? ⟨g,0,none⟩=some v0∧w.cell? ⟨g,1,none⟩=some v1∧w.frozen? ⟨g,0,none⟩=false∧w.frozen? ⟨g,1,none⟩=false :=
 ⟨(blk_cell h.out 0).trans rfl,(blk_cell h.out 1).trans rfl,blk_frozen h.out 0,blk_frozen h.out 1⟩
theorem cf3 {w:World} {g:Nat} {t:TypeId} {v0 v1 v2:Value} (h:Aside0 (w.heap[g]? = some (.cells #[v0,v1,v2] t (0,0)))):w.cell? ⟨g,0,none⟩=some v0∧w.cell? ⟨g,1,none⟩=some v1∧w.cell? ⟨g,2,none⟩=some v2∧w.frozen? ⟨g,0,none⟩=false∧w.frozen? ⟨g,1,none⟩=false∧w.frozen? ⟨g,2,none⟩=false :=
 ⟨(blk_cell h.out 0).trans rfl,(blk_cell h.out 1).trans rfl,(blk_cell h.out 2).trans rfl,blk_frozen h.out 0,blk_frozen h.out 1,blk_frozen h.out 2⟩
theorem cf4 {w:World} {g:Nat} {t:TypeId} {v0 v1 v2 v3:Value} (h:Aside0 (w.heap[g]? = some (.cells #[v0,v1,v2,v3] t (0,0)))):w.cell? ⟨g,0,none⟩=some v0∧w.cell? ⟨g,1,none⟩=some v1∧w.cell? ⟨g,2,none⟩=some v2∧w.cell? ⟨g,3,none⟩=some v3∧w.frozen? ⟨g,0,none⟩=false∧w.frozen? ⟨g,1,none⟩=false∧w.frozen? ⟨g,2,none⟩=false∧w.frozen? ⟨g,3,none⟩=false :=
 ⟨(blk_cell h.out 0).trans rfl,(blk_cell h.out 1).trans rfl,(blk_cell h.out 2).trans rfl,(blk_cell h.out 3).trans rfl,blk_frozen h.out 0,blk_frozen h.out 1,blk_frozen h.out 2,blk_frozen h.out 3⟩
theorem cf5 {w:World} {g:Nat} {t:TypeId} {v0 v1 v2 v3 v4:Value} (h:Aside0 (w.heap[g]? = some (.cells #[v0,v1,v2,v3,v4] t (0,0)))):w.cell? ⟨g,0,none⟩=some v0∧w.cell? ⟨g,1,none⟩=some v1∧w.cell? ⟨g,2,none⟩=some v2∧w.cell? ⟨g,3,none⟩=some v3∧w.cell? ⟨g,4,none⟩=some v4∧w.frozen? ⟨g,0,none⟩=false∧w.frozen? ⟨g,1,none⟩=false∧w.frozen? ⟨g,2,none⟩=false∧w.frozen? ⟨g,3,none⟩=false∧w.frozen? ⟨g,4,none⟩=false :=
 ⟨(blk_cell h.out 0).trans rfl,(blk_cell h.out 1).trans rfl,(blk_cell h.out 2).trans rfl,(blk_cell h.out 3).trans rfl,(blk_cell h.out 4).trans rfl,blk_frozen h.out 0,blk_frozen h.out 1,blk_frozen h.out 2,blk_frozen h.out 3,blk_frozen h.out 4⟩
theorem cf6 {w:World} {g:Nat} {t:TypeId} {v0 v1 v2 v3 v4 v5:Value} (h:Aside0 (w.heap[g]? = some (.cells #[v0,v1,v2,v3,v4,v5] t (0,0)))):w.cell? ⟨g,0,none⟩=some v0∧w.cell? ⟨g,1,none⟩=some v1∧w.cell? ⟨g,2,none⟩=some v2∧w.cell? ⟨g,3,none⟩=some v3∧w.cell? ⟨g,4,none⟩=some v4∧w.cell? ⟨g,5,none⟩=some v5∧w.frozen? ⟨g,0,none⟩=false∧w.frozen? ⟨g,1,none⟩=false∧w.frozen? ⟨g,2,none⟩=false∧w.frozen? ⟨g,3,none⟩=false∧w.frozen? ⟨g,4,none⟩=false∧w.frozen? ⟨g,5,none⟩=false :=
 ⟨(blk_cell h.out 0).trans rfl,(blk_cell h.out 1).trans rfl,(blk_cell h.out 2).trans rfl,(blk_cell h.out 3).trans rfl,(blk_cell h.out 4).trans rfl,(blk_cell h.out 5).trans rfl,blk_frozen h.out 0,blk_frozen h.out 1,blk_frozen h.out 2,blk_frozen h.out 3,blk_frozen h.out 4,blk_frozen h.out 5⟩
theorem cf8 {w:World} {g:Nat} {t:TypeId} {v0 v1 v2 v3 v4 v5 v6 v7:Value} (h:Aside0 (w.heap[g]? = some (.cells #[v0,v1,v2,v3,v4,v5,v6,v7] t (0,0)))):w.cell? ⟨g,0,none⟩=some v0∧w.cell? ⟨g,1,none⟩=some v1∧w.cell? ⟨g,2,none⟩=some v2∧w.cell? ⟨g,3,none⟩=some v3∧w.cell? ⟨g,4,none⟩=some v4∧w.cell? ⟨g,5,none⟩=some v5∧w.cell? ⟨g,6,none⟩=some v6∧w.cell? ⟨g,7,none⟩=some v7∧w.frozen? ⟨g,0,none⟩=false∧w.frozen? ⟨g,1,none⟩=false∧w.frozen? ⟨g,2,none⟩=false∧w.frozen? ⟨g,3,none⟩=false∧w.frozen? ⟨g,4,none⟩=false∧w.frozen? ⟨g,5,none⟩=false∧w.frozen? ⟨g,6,none⟩=false∧w.frozen? ⟨g,7,none⟩=false :=
 ⟨(blk_cell h.out 0).trans rfl,(blk_cell h.out 1).trans rfl,(blk_cell h.out 2).trans rfl,(blk_cell h.out 3).trans rfl,(blk_cell h.out 4).trans rfl,(blk_cell h.out 5).trans rfl,(blk_cell h.out 6).trans rfl,(blk_cell h.out 7).trans rfl,blk_frozen h.out 0,blk_frozen h.out 1,blk_frozen h.out 2,blk_frozen h.out 3,blk_frozen h.out 4,blk_frozen h.out 5,blk_frozen h.out 6,blk_frozen h.out 7⟩
theorem am {p:Prop} (h:p):Aside0 p:=⟨h⟩
abbrev qk2 (w:World) (g:Nat) (v0 v1:Value):Prop:=w.cell? ⟨g,0,none⟩=some v0∧w.cell? ⟨g,1,none⟩=some v1
abbrev qk3 (w:World) (g:Nat) (v0 v1 v2:Value):Prop:=w.cell? ⟨g,0,none⟩=some v0∧w.cell? ⟨g,1,none⟩=some v1∧w.cell? ⟨g,2,none⟩=some v2
abbrev qk3a (w:World) (g:Nat) (v0 v1 v2:Value) (q:Prop):Prop:=w.cell? ⟨g,0,none⟩=some v0∧w.cell? ⟨g,1,none⟩=some v1∧w.cell? ⟨g,2,none⟩=some v2∧q
abbrev qe3 (w:World) (p:Addr) (v0 v1 v2:Value):Prop:=w.cell? p=some v0∧w.cell? ⟨p.block,p.off+1,none⟩=some v1∧w.cell? ⟨p.block,p.off+2,none⟩=some v2
section
variable {α β : Type} {r : α} {x y : Option α} {P : Prop}
theorem bo {z:Option β} {f:β→Option α} (h:z.bind f=some r):∃ t,Aside0 (z=some t)∧f t=some r:=let ⟨t,a,b⟩:=Option.bind_eq_some_iff.mp h;⟨t,⟨a⟩,b⟩
theorem bt (b:Bool):b=true∨b=false:=by cases b <;> simp
theorem itT (H:(if true=true then x else y)=some r):x=some r:=H
theorem itF (H:(if false=true then x else y)=some r):y=some r:=H
theorem id2 {c:Prop} [Decidable c] (h1:decide c=true→x=some r→P) (h2:decide c=false→y=some r→P) (H:(if c then x else y)=some r):P:=by
 by_cases h:c
 ·exact h1 (decide_eq_true h) (by rwa [if_pos h] at H)
 ·exact h2 (decide_eq_false h) (by rwa [if_neg h] at H)
theorem id2k {c:Prop} [Decidable c] (h1:c→decide c=true→x=some r→P) (h2:¬ c→decide c=false→y=some r→P) (H:(if c then x else y)=some r):P:=id2 (fun a=>h1 (of_decide_eq_true a) a) (fun a=>h2 (of_decide_eq_false a) a) H
theorem id1 {c:Prop} [Decidable c] (h1:decide c=true→x=some r→P) (H:(if c then x else none)=some r):P:=id2 h1 (fun _ h=>by cases h) H
theorem id1k {c:Prop} [Decidable c] (h1:c→decide c=true→x=some r→P) (H:(if c then x else none)=some r):P:=id2k h1 (fun _ _ h=>by cases h) H
theorem ip2 {c:Prop} [Decidable c] (h1:c→x=some r→P) (h2:¬ c→y=some r→P) (H:(if c then x else y)=some r):P:=id2k (fun a _=>h1 a) (fun a _=>h2 a) H
theorem ip1 {c:Prop} [Decidable c] (h1:c→x=some r→P) (H:(if c then x else none)=some r):P:=ip2 h1 (fun _ h=>by cases h) H
theorem ie2k [BEq β] [LawfulBEq β] {a b:β} [Decidable (a=b)] (h1:a=b→(a == b)=true→(a != b)=false→x=some r→P) (h2:¬ a=b→(a == b)=false→(a != b)=true→y=some r→P) (H:(if a=b then x else y)=some r):P :=
 ip2 (fun c=>h1 c (beq_iff_eq.mpr c) (bne_eq_false_iff_eq.mpr c)) (fun c=>h2 c (beq_eq_false_iff_ne.mpr c) (bne_iff_ne.mpr c)) H
theorem ie2 [BEq β] [LawfulBEq β] {a b:β} [Decidable (a=b)] (h1:(a == b)=true→(a != b)=false→x=some r→P) (h2:¬ a=b→(a == b)=false→(a != b)=true→y=some r→P) (H:(if a=b then x else y)=some r):P:=ie2k (fun _=>h1) h2 H
theorem in2 {a:List UInt8} [Decidable (a=[])] (h1:(a == ([]:List UInt8))=true→(a != ([]:List UInt8))=false→a.isEmpty=true→x=some r→P) (h2:¬ a=[]→(a == ([]:List UInt8))=false→(a != ([]:List UInt8))=true→a.isEmpty=false→y=some r→P) (H:(if a=[] then x else y)=some r):P :=
 ie2k (fun c p q=>h1 p q (List.isEmpty_iff.mpr c)) (fun c p q=>h2 c p q (by cases a with|nil=>exact absurd rfl c|cons _ _=>rfl)) H
theorem ye {γ:Type} {u v:γ} {p q:Prop} (h:u=v) (H:q) (e:u=v→q→p:=by (intro h_ H;first|(rw [h_];with_reducible exact H)|(have H2_:=(Option.bind_some _ _).symm.trans H;rw [h_];with_reducible exact H2_)|(have H2_:=(Option.bind_some _ _).symm.trans H;with_reducible exact H2_)|with_reducible exact H|(rw [h_];exact H)|exact H)):p:=e h H
end
theorem si {α:Type} {a b:α} (h:some a=some b):a=b:=Option.some.inj h
theorem sj2 {α0 α1:Type} {a0 b0:α0} {a1 b1:α1} (h:some (a0,a1)=some (b0,b1)):a0=b0∧a1=b1:=by cases h;exact ⟨rfl,rfl⟩
theorem sj3 {α0 α1 α2:Type} {a0 b0:α0} {a1 b1:α1} {a2 b2:α2} (h:some (a0,a1,a2)=some (b0,b1,b2)):a0=b0∧a1=b1∧a2=b2:=by cases h;exact ⟨rfl,rfl,rfl⟩
theorem sj4 {α0 α1 α2 α3:Type} {a0 b0:α0} {a1 b1:α1} {a2 b2:α2} {a3 b3:α3} (h:some (a0,a1,a2,a3)=some (b0,b1,b2,b3)):a0=b0∧a1=b1∧a2=b2∧a3=b3:=by cases h;exact ⟨rfl,rfl,rfl,rfl⟩
theorem sj5 {α0 α1 α2 α3 α4:Type} {a0 b0:α0} {a1 b1:α1} {a2 b2:α2} {a3 b3:α3} {a4 b4:α4} (h:some (a0,a1,a2,a3,a4)=some (b0,b1,b2,b3,b4)):a0=b0∧a1=b1∧a2=b2∧a3=b3∧a4=b4:=by cases h;exact ⟨rfl,rfl,rfl,rfl,rfl⟩
theorem sj6 {α0 α1 α2 α3 α4 α5:Type} {a0 b0:α0} {a1 b1:α1} {a2 b2:α2} {a3 b3:α3} {a4 b4:α4} {a5 b5:α5} (h:some (a0,a1,a2,a3,a4,a5)=some (b0,b1,b2,b3,b4,b5)):a0=b0∧a1=b1∧a2=b2∧a3=b3∧a4=b4∧a5=b5:=by cases h;exact ⟨rfl,rfl,rfl,rfl,rfl,rfl⟩
theorem sj8 {α0 α1 α2 α3 α4 α5 α6 α7:Type} {a0 b0:α0} {a1 b1:α1} {a2 b2:α2} {a3 b3:α3} {a4 b4:α4} {a5 b5:α5} {a6 b6:α6} {a7 b7:α7} (h:some (a0,a1,a2,a3,a4,a5,a6,a7)=some (b0,b1,b2,b3,b4,b5,b6,b7)):a0=b0∧a1=b1∧a2=b2∧a3=b3∧a4=b4∧a5=b5∧a6=b6∧a7=b7:=by cases h;exact ⟨rfl,rfl,rfl,rfl,rfl,rfl,rfl,rfl⟩
theorem kz {W:World} (W':World) {g:Nat} {t:TypeId} {cs:Array Value} (h:Aside0 (W.heap[g]? = some (.cells cs t (0,0)))) (e:W.heap[g]? = some (.cells cs t (0,0))→W'.heap[g]? = some (.cells cs t (0,0)):=by (intro h;repeat (first|(with_reducible first|exact h|refine blk_drewN ?_ _|refine blk_drew ?_|refine blk_alloc ?_ _)|refine blk_far ?_ (Aside0.out (by assumption)) _|exact h))):Aside0 (W'.heap[g]? = some (.cells cs t (0,0))):=⟨e h.out⟩
structure Hld (S:World→Prop) (w:World):Prop where
 out:S w
theorem hc {w:World} {a:Addr} {v:Value} (h:w.cell? a=some v):Hld (fun w'=>w'.cell? a=some v) w:=⟨h⟩
theorem hca {w:World} {a:Addr} {v:Value} {S:World→Prop} (h:w.cell? a=some v) (s:Hld S w):Hld (fun w'=>w'.cell? a=some v∧S w') w:=⟨h,s.out⟩
theorem hb1 {w:World} {g:Nat} {t:TypeId} {v0:Value} (h:Aside0 (w.heap[g]? = some (.cells #[v0] t (0,0)))):Hld (fun w'=>w'.cell? ⟨g,0,none⟩=some v0) w:=⟨(blk_cell h.out 0).trans rfl⟩
theorem hb2 {w:World} {g:Nat} {t:TypeId} {v0 v1:Value} (h:Aside0 (w.heap[g]? = some (.cells #[v0,v1] t (0,0)))):Hld (fun w'=>w'.cell? ⟨g,0,none⟩=some v0∧w'.cell? ⟨g,1,none⟩=some v1) w:=⟨⟨(blk_cell h.out 0).trans rfl,(blk_cell h.out 1).trans rfl⟩⟩
theorem hb2a {w:World} {g:Nat} {t:TypeId} {v0 v1:Value} {S:World→Prop} (h:Aside0 (w.heap[g]? = some (.cells #[v0,v1] t (0,0)))) (s:Hld S w):Hld (fun w'=>w'.cell? ⟨g,0,none⟩=some v0∧w'.cell? ⟨g,1,none⟩=some v1∧S w') w:=⟨⟨(blk_cell h.out 0).trans rfl,(blk_cell h.out 1).trans rfl,s.out⟩⟩
theorem hb3 {w:World} {g:Nat} {t:TypeId} {v0 v1 v2:Value} (h:Aside0 (w.heap[g]? = some (.cells #[v0,v1,v2] t (0,0)))):Hld (fun w'=>w'.cell? ⟨g,0,none⟩=some v0∧w'.cell? ⟨g,1,none⟩=some v1∧w'.cell? ⟨g,2,none⟩=some v2) w:=⟨⟨(blk_cell h.out 0).trans rfl,(blk_cell h.out 1).trans rfl,(blk_cell h.out 2).trans rfl⟩⟩
theorem hb3a {w:World} {g:Nat} {t:TypeId} {v0 v1 v2:Value} {S:World→Prop} (h:Aside0 (w.heap[g]? = some (.cells #[v0,v1,v2] t (0,0)))) (s:Hld S w):Hld (fun w'=>w'.cell? ⟨g,0,none⟩=some v0∧w'.cell? ⟨g,1,none⟩=some v1∧w'.cell? ⟨g,2,none⟩=some v2∧S w') w:=⟨⟨(blk_cell h.out 0).trans rfl,(blk_cell h.out 1).trans rfl,(blk_cell h.out 2).trans rfl,s.out⟩⟩
theorem hb4 {w:World} {g:Nat} {t:TypeId} {v0 v1 v2 v3:Value} (h:Aside0 (w.heap[g]? = some (.cells #[v0,v1,v2,v3] t (0,0)))):Hld (fun w'=>w'.cell? ⟨g,0,none⟩=some v0∧w'.cell? ⟨g,1,none⟩=some v1∧w'.cell? ⟨g,2,none⟩=some v2∧w'.cell? ⟨g,3,none⟩=some v3) w:=⟨⟨(blk_cell h.out 0).trans rfl,(blk_cell h.out 1).trans rfl,(blk_cell h.out 2).trans rfl,(blk_cell h.out 3).trans rfl⟩⟩
theorem hb4a {w:World} {g:Nat} {t:TypeId} {v0 v1 v2 v3:Value} {S:World→Prop} (h:Aside0 (w.heap[g]? = some (.cells #[v0,v1,v2,v3] t (0,0)))) (s:Hld S w):Hld (fun w'=>w'.cell? ⟨g,0,none⟩=some v0∧w'.cell? ⟨g,1,none⟩=some v1∧w'.cell? ⟨g,2,none⟩=some v2∧w'.cell? ⟨g,3,none⟩=some v3∧S w') w:=⟨⟨(blk_cell h.out 0).trans rfl,(blk_cell h.out 1).trans rfl,(blk_cell h.out 2).trans rfl,(blk_cell h.out 3).trans rfl,s.out⟩⟩
theorem hb5 {w:World} {g:Nat} {t:TypeId} {v0 v1 v2 v3 v4:Value} (h:Aside0 (w.heap[g]? = some (.cells #[v0,v1,v2,v3,v4] t (0,0)))):Hld (fun w'=>w'.cell? ⟨g,0,none⟩=some v0∧w'.cell? ⟨g,1,none⟩=some v1∧w'.cell? ⟨g,2,none⟩=some v2∧w'.cell? ⟨g,3,none⟩=some v3∧w'.cell? ⟨g,4,none⟩=some v4) w:=⟨⟨(blk_cell h.out 0).trans rfl,(blk_cell h.out 1).trans rfl,(blk_cell h.out 2).trans rfl,(blk_cell h.out 3).trans rfl,(blk_cell h.out 4).trans rfl⟩⟩
theorem hb5a {w:World} {g:Nat} {t:TypeId} {v0 v1 v2 v3 v4:Value} {S:World→Prop} (h:Aside0 (w.heap[g]? = some (.cells #[v0,v1,v2,v3,v4] t (0,0)))) (s:Hld S w):Hld (fun w'=>w'.cell? ⟨g,0,none⟩=some v0∧w'.cell? ⟨g,1,none⟩=some v1∧w'.cell? ⟨g,2,none⟩=some v2∧w'.cell? ⟨g,3,none⟩=some v3∧w'.cell? ⟨g,4,none⟩=some v4∧S w') w:=⟨⟨(blk_cell h.out 0).trans rfl,(blk_cell h.out 1).trans rfl,(blk_cell h.out 2).trans rfl,(blk_cell h.out 3).trans rfl,(blk_cell h.out 4).trans rfl,s.out⟩⟩
theorem hb8 {w:World} {g:Nat} {t:TypeId} {v0 v1 v2 v3 v4 v5 v6 v7:Value} (h:Aside0 (w.heap[g]? = some (.cells #[v0,v1,v2,v3,v4,v5,v6,v7] t (0,0)))):Hld (fun w'=>w'.cell? ⟨g,0,none⟩=some v0∧w'.cell? ⟨g,1,none⟩=some v1∧w'.cell? ⟨g,2,none⟩=some v2∧w'.cell? ⟨g,3,none⟩=some v3∧w'.cell? ⟨g,4,none⟩=some v4∧w'.cell? ⟨g,5,none⟩=some v5∧w'.cell? ⟨g,6,none⟩=some v6∧w'.cell? ⟨g,7,none⟩=some v7) w:=⟨⟨(blk_cell h.out 0).trans rfl,(blk_cell h.out 1).trans rfl,(blk_cell h.out 2).trans rfl,(blk_cell h.out 3).trans rfl,(blk_cell h.out 4).trans rfl,(blk_cell h.out 5).trans rfl,(blk_cell h.out 6).trans rfl,(blk_cell h.out 7).trans rfl⟩⟩
theorem hb8a {w:World} {g:Nat} {t:TypeId} {v0 v1 v2 v3 v4 v5 v6 v7:Value} {S:World→Prop} (h:Aside0 (w.heap[g]? = some (.cells #[v0,v1,v2,v3,v4,v5,v6,v7] t (0,0)))) (s:Hld S w):Hld (fun w'=>w'.cell? ⟨g,0,none⟩=some v0∧w'.cell? ⟨g,1,none⟩=some v1∧w'.cell? ⟨g,2,none⟩=some v2∧w'.cell? ⟨g,3,none⟩=some v3∧w'.cell? ⟨g,4,none⟩=some v4∧w'.cell? ⟨g,5,none⟩=some v5∧w'.cell? ⟨g,6,none⟩=some v6∧w'.cell? ⟨g,7,none⟩=some v7∧S w') w:=⟨⟨(blk_cell h.out 0).trans rfl,(blk_cell h.out 1).trans rfl,(blk_cell h.out 2).trans rfl,(blk_cell h.out 3).trans rfl,(blk_cell h.out 4).trans rfl,(blk_cell h.out 5).trans rfl,(blk_cell h.out 6).trans rfl,(blk_cell h.out 7).trans rfl,s.out⟩⟩
section
variable {P : Program} {ops : Array Oper} {Q : Exit → Act → World → Prop} {S : World → Prop} {ds : List Nat} {id : Nat} {a : Act} {w : World} {l : Array Bool}
theorem sta (n:Nat) (hS:Hld S w.drew) (h:S w.drew→wpAnyLast P .any ops Q S [] n l a w.drew) (hm:P.follows .mixedOrders=true:=by kernel_rfl) (hn:ops.size=n:=by rfl) (hl:Array.replicate n false=l:=by rfl):(Code.region id ops true).wp P Q a w:=start_ l hm hn hl hS.out h
end
def TyP (b:Nat) (W:World) (E:List TypeId) (k:Nat):Prop:=b≤k∧∃ q,q ∈ E∧∃ cells,W.heap[k]? = some (.cells cells q (0,0))
section
variable {α : Type} {d : Kd α} {e base b g : Nat} {W : World} {ok : Nat → Prop} {v : Value} {xs : List α} {E : List TypeId}
theorem S_tyP2 (h:Kd.S d e W base ok v xs) (hE:∀ q,q ∈ e :: d.E→q ∈ E):Kd.S d e W base (fun k=>ok k∧TyP base W E k) v xs:=Kd.S_mono (Kd.S_bound h) (fun _ hk=>⟨hk.1,hk.2.1,hk.2.2.2.elim fun q hq=>⟨q,hE q hq.1,hq.2⟩⟩)
theorem S_tyP (h:Kd.S d e W base ok v xs) (hE:∀ q,q ∈ e :: d.E→q ∈ E):Kd.S d e W base (TyP base W E) v xs:=Kd.S_mono (S_tyP2 h hE) (fun _ hk=>hk.2)
theorem R_noTy (h:d.R e W base ok v xs) (hE:∀ q,q ∈ e :: d.E→¬ q ∈ E):d.R e W base (fun k=>ok k∧¬ TyP b W E k) v xs:=Kd.R_mono (Kd.R_bound h) (fun _ hk=>⟨hk.1,fun ht=>ht.2.elim fun q hq=>hq.2.elim fun _ hc=>hk.2.2.2.elim fun p hp=>hp.2.elim fun _ hd=>hE p hp.1 (by
 rw [hc] at hd
 injection hd with hd
 injection hd with _ hd
 rw [← hd]
 exact hq.1)⟩)
theorem blk_noTy {t:TypeId} {cells:Array Value} (hb:W.heap[g]? = some (.cells cells t (0,0))) (ht:¬ t ∈ E):¬ TyP b W E g:=fun h=>h.2.elim fun q hq=>hq.2.elim fun _ hc=>ht (by
 rw [hb] at hc
 injection hc with hc
 injection hc with _ hc
 rw [hc]
 exact hq.1)
end
structure Hol {α:Type} (d:Kd α) (e:TypeId) (P:Nat→Prop) (w0 w:World) (g n cap:Nat) (xs:List α) (i:Int) (oki:Nat→Prop) (c:List Value) (W:World):Prop where
 hH:Kd.H d e W w0.heap.size (fun k=>(P k∨w.heap.size≤k)) (.slice (some ⟨g,0,none⟩) n cap) xs i oki c
 hB:Below w0.heap.size w0 W
 hK:Kept w W P
 hP:P g∨w.heap.size≤g
 hb:w0.heap.size≤g
 h0:0≤i
 h1:i<n
section
variable {α : Type} {d : Kd α} {e : TypeId} {P oki : Nat → Prop} {w0 w W W2 : World} {g n cap : Nat} {xs : List α} {i : Int} {c : List Value} {v : Value}
theorem S_flat (hf:∀ w b ok x cs,d.M w b ok x cs→d.M w b (fun _=>False) x cs) {ok:Nat→Prop} {b:Nat} (h:d.R e W b ok v xs):Kd.S d e W b ok v xs:=by
 obtain ⟨h0,inner,ho,hr⟩:=h
 exact Kd.S_bare ⟨h0,inner,ho,hr.imp_ (fun _ _ hp=>hf _ _ _ _ _ hp)⟩
theorem hol (z:α) (i:Int) (h:Kd.S d e W w0.heap.size (fun k=>(P k∨w.heap.size≤k)) v xs) (hB:Below w0.heap.size w0 W) (hK:Kept w W P) (h0:0≤i) (h1:i<(xs.length:Int)) :
  ∃ g cap oki c,v=.slice (some ⟨g,0,none⟩) xs.length cap∧d.M W w0.heap.size oki (xs.getD i.toNat z) c∧Hol d e P w0 w g xs.length cap xs i oki c W:=by
 obtain ⟨g,cap,rfl,hb,_,_⟩:=Kd.S_form h (by omega)
 obtain ⟨oki,c,_,hM,_,_,_,hH⟩:=Kd.S_elem h z i h0 h1
 exact ⟨g,cap,oki,c,rfl,hM,hH,hB,hK,(Kd.S_R h).1 g rfl,hb,h0,h1⟩
theorem Hol.below (h:Hol d e P w0 w g n cap xs i oki c W) (hb:Below W.heap.size W W2):Hol d e P w0 w g n cap xs i oki c W2:=⟨Kd.H_below h.hH hb,below_step h.hB hb,Kept.below h.hK hb,h.hP,h.hb,h.h0,h.h1⟩
theorem Hol.put (h:Hol d e P w0 w g n cap xs i oki c W) (j:Nat) (u:Value) (hj:j+1≤d.sz) (hu:u.oneCell'=true) (hw:W2=W.setCell ⟨g,i.toNat * d.sz+j,none⟩ u):Hol d e P w0 w g n cap xs i oki (c.take j++[u]++c.drop (j+1)) W2:=by
 subst hw
 obtain ⟨q,hg⟩:=Kd.H_seg h.hH h.h0 h.h1 (seg:=[u]) (j:=j) hj (fun q hq=>by
  rw [List.mem_singleton.1 hq]
  exact hu)
 exact ⟨q,below_set h.hB h.hb,Kept.of_grown (S:=P) hg h.hK (fun k hk=>by
  injection hk with hk
  subst hk
  exact h.hP),h.hP,h.hb,h.h0,h.h1⟩
theorem Hol.nx (h:Hol d e P w0 w g n cap xs i oki c W) (s j:Nat) {u v:Value} (hs:d.sz=s) (hu:c[0]? = some u) (hv:c[j]? = some v):W.cell? ⟨g,i.toNat * s,none⟩=some u∧W.cell? ⟨g,i.toNat * s+j,none⟩=some v∧W.frozen? ⟨g,i.toNat * s+j,none⟩=false:=by
 subst hs
 obtain ⟨h1,h2⟩:=Kd.H_at h.hH h.h0 h.h1
 exact ⟨h1 0 _ hu,h1 j _ hv,h2 j⟩
theorem Hol.nz (h:Hol d e P w0 w g n cap xs i oki c W) (s:Nat) {u:Value} (hs:d.sz=s) (hu:c[0]? = some u):W.cell? ⟨g,i.toNat * s,none⟩=some u∧W.frozen? ⟨g,i.toNat * s,none⟩=false:=by
 subst hs
 obtain ⟨h1,h2⟩:=Kd.H_at h.hH h.h0 h.h1
 exact ⟨h1 0 _ hu,h2 0⟩
theorem Hol.back (h:Hol d e P w0 w g n cap xs i oki c W) (x:α) (hM:d.M W w0.heap.size oki x c):d.R e W w0.heap.size (fun k=>(P k∨w.heap.size≤k)) (.slice (some ⟨g,0,none⟩) n cap) (xs.set i.toNat x):=Kd.S_R (Kd.H_back h.hH hM (fun _ hk=>hk))
end
end Go.Proofs.YtkfcahggnpecjaaGreatDoorW.PrintMore
namespace Go.Proofs
open Go.Shelf
def Tryz.laysM173_ren:Go.Shelf.Ren:=⟨fun|173=>105|246=>118|283=>124|284=>125|285=>126|286=>127|129=>129|317=>128|318=>130|319=>131|320=>132|337=>133|338=>134|n=>n,fun|2=>2|3=>3|9=>9|4=>4|171=>168|0=>0|53=>169|37=>109|5=>5|173=>172|212=>176|51=>177|20=>20|213=>178|46=>180|232=>183|233=>184|n=>n,fun|17=>0|18=>1|19=>2|n=>n⟩
theorem Tryz.laysM173:Go.Proofs.LaysM.n173 Tryz.prog Tryz.laysM173_ren:={
 mixed:=by kernel_rfl
 f129:=Tryz.func129.trans (congrArg some (by kernel_rfl))
 f173:=Tryz.func105.trans (congrArg some (by kernel_rfl))
 f246:=Tryz.func118.trans (congrArg some (by kernel_rfl))
 f283:=Tryz.func124.trans (congrArg some (by kernel_rfl))
 f284:=Tryz.func125.trans (congrArg some (by kernel_rfl))
 f285:=Tryz.func126.trans (congrArg some (by kernel_rfl))
 f286:=Tryz.func127.trans (congrArg some (by kernel_rfl))
 f317:=Tryz.func128.trans (congrArg some (by kernel_rfl))
 f318:=Tryz.func130.trans (congrArg some (by kernel_rfl))
 f319:=Tryz.func131.trans (congrArg some (by kernel_rfl))
 f320:=Tryz.func132.trans (congrArg some (by kernel_rfl))
 f337:=Tryz.func133.trans (congrArg some (by kernel_rfl))
 f338:=Tryz.func134.trans (congrArg some (by kernel_rfl))
 t0:=Tryz.underlying0
 a0:=Tryz.isAgg0
 z0:=Tryz.sizeOf0
 v0:=Tryz.zeroValue0
 t2:=Tryz.underlying2
 a2:=Tryz.isAgg2
 z2:=Tryz.sizeOf2
 v2:=Tryz.zeroValue2
 t3:=Tryz.underlying3
 a3:=Tryz.isAgg3
 z3:=Tryz.sizeOf3
 v3:=Tryz.zeroValue3
 t4:=Tryz.underlying4
 a4:=Tryz.isAgg4
 z4:=Tryz.sizeOf4
 v4:=Tryz.zeroValue4
 t5:=Tryz.underlying5
 a5:=Tryz.isAgg5
 z5:=Tryz.sizeOf5
 v5:=Tryz.zeroValue5
 t9:=Tryz.underlying9
 a9:=Tryz.isAgg9
 z9:=Tryz.sizeOf9
 v9:=Tryz.zeroValue9
 t20:=Tryz.underlying20
 a20:=Tryz.isAgg20
 z20:=Tryz.sizeOf20
 v20:=Tryz.zeroValue20
 t37:=Tryz.underlying109
 a37:=Tryz.isAgg109
 z37:=Tryz.sizeOf109
 v37:=Tryz.zeroValue109
 t46:=Tryz.underlying180
 a46:=Tryz.isAgg180
 z46:=Tryz.sizeOf180
 v46:=Tryz.zeroValue180
 t51:=Tryz.underlying177
 a51:=Tryz.isAgg177
 z51:=Tryz.sizeOf177
 v51:=Tryz.zeroValue177
 t53:=Tryz.underlying169
 a53:=Tryz.isAgg169
 z53:=Tryz.sizeOf169
 v53:=Tryz.zeroValue169
 t171:=Tryz.underlying168
 a171:=Tryz.isAgg168
 z171:=Tryz.sizeOf168
 v171:=Tryz.zeroValue168
 t173:=Tryz.underlying172
 a173:=Tryz.isAgg172
 z173:=Tryz.sizeOf172
 v173:=Tryz.zeroValue172
 t212:=Tryz.underlying176
 a212:=Tryz.isAgg176
 z212:=Tryz.sizeOf176
 v212:=Tryz.zeroValue176
 t213:=Tryz.underlying178
 a213:=Tryz.isAgg178
 z213:=Tryz.sizeOf178
 t232:=Tryz.underlying183
 a232:=Tryz.isAgg183
 z232:=Tryz.sizeOf183
 v232:=Tryz.zeroValue183
 t233:=Tryz.underlying184
 a233:=Tryz.isAgg184
 z233:=Tryz.sizeOf184
 v233:=Tryz.zeroValue184
 g17:=by kernel_rfl
 g18:=by kernel_rfl
 g19:=by kernel_rfl
 i0:=by kernel_rfl
 i2:=by kernel_rfl
 i3:=by kernel_rfl
 i4:=by kernel_rfl
 i5:=by kernel_rfl
 i9:=by kernel_rfl
 i20:=by kernel_rfl
 i37:=by kernel_rfl
 i46:=by kernel_rfl
 i51:=by kernel_rfl
 i53:=by kernel_rfl
 i171:=by kernel_rfl
 i173:=by kernel_rfl
 i212:=by kernel_rfl
 i232:=by kernel_rfl
 i233:=by kernel_rfl
 m17:=by kernel_rfl
 m18:=by kernel_rfl
 m19:=by kernel_rfl }
open Go.RowKit Go.Sort Go.Lib in
theorem Tryz.strconv_FormatInt_10 (n : Int) (h0 : -9223372036854775808 ≤ n) (h1 : n ≤ 9223372036854775807) (w : World) (htab : Lib.TabIs Tryz.prog w "internal/strconv.uint64pow10" .u64 Lib.pow10Tab) :
    Calls Tryz.prog 105 #[.int .i64 n, .int .i64 10] w fun e w' => e = .returned (.string ⟨(Lib.itoa n).toArray⟩) ∧ ∃ k os, w' = grow (w.drewN k) os := Any.strconv_FormatInt_10 Tryz.laysM173 n h0 h1 w htab
end Go.Proofs
namespace Go.Proofs.YtkfcahggnpecjaaGreatDoor.Bs
open Go.Op
theorem less_irrefl:∀ a:List UInt8,bytesLess a a=false
 | []=>rfl
 | x :: a=>by simp [bytesLess,less_irrefl a]
theorem less_tri:∀ a b:List UInt8,(!(bytesLess a b || a == b))=bytesLess b a
 | [],[]=>rfl
 | [],_ :: _=>rfl
 | _ :: _,[]=>rfl
 | x :: a,y :: b=>by
  have ih:=less_tri a b
  by_cases h1:x<y
  ·have h2:¬ y<x:=fun h=>by have:=UInt8.lt_iff_toNat_lt.1 h;have:=UInt8.lt_iff_toNat_lt.1 h1;omega
   have h3:¬ x=y:=fun h=>by subst h;have:=UInt8.lt_iff_toNat_lt.1 h1;omega
   have h4:¬ y=x:=fun h=>h3 h.symm
   simp [bytesLess,h1,h2,h4]
  ·by_cases h2:y<x
   ·have h3:¬ x=y:=fun h=>by subst h;have:=UInt8.lt_iff_toNat_lt.1 h2;omega
    simp [bytesLess,h1,h2,h3]
   ·have h3:x=y:=UInt8.toNat_inj.1 (by
     have e1:=mt UInt8.lt_iff_toNat_lt.2 h1
     have e2:=mt UInt8.lt_iff_toNat_lt.2 h2
     omega)
    subst h3
    have e1:bytesLess (x :: b) (x :: a)=bytesLess b a:=by simp [bytesLess]
    have e2:bytesLess (x :: a) (x :: b)=bytesLess a b:=by simp [bytesLess]
    have e3:(x :: a == x :: b)=(a == b):=by simp
    rw [e1,e2,e3]
    exact ih
@[go_sem] theorem binOp_gtr (t:TypeId) (a b:ByteArray):binOp .gtr t (.string a) (.string b)=pure (.bool (bytesLess b.toList a.toList)):=by
 rw [← less_tri]
 simp [binOp,Op.stringOp]
@[go_sem] theorem binOp_leq (t:TypeId) (a b:ByteArray):binOp .leq t (.string a) (.string b)=pure (.bool !(bytesLess b.toList a.toList)):=by
 rw [← less_tri]
 simp [binOp,Op.stringOp]
@[go_sem] theorem binOp_geq (t:TypeId) (a b:ByteArray):binOp .geq t (.string a) (.string b)=pure (.bool !(bytesLess a.toList b.toList)):=by
 simp [binOp,Op.stringOp]
end Go.Proofs.YtkfcahggnpecjaaGreatDoor.Bs
