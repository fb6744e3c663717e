-- Merged by a program of this session (wip/tool/pack.py) out of its own texts for this claim.
import Derived.Laws.CopyOwn
import Derived.Lib.AppendZerosOnto
import Derived.Lib.Overlaps
import Derived.Laws.NewBlocks
import Derived.WalkSpells
import Derived.WalkKit
import Derived.Laws.Strings
import Derived.Test.YtomoflpgdbjojaaGreatKFnExactGatePartner2
namespace Go.Proofs.YtomoflpgdbjojaaGreatW.PrintMore
open Go.RowKit Go.Proofs.YtomoflpgdbjojaaGreatW.PrintWords Go.Proofs.YtomoflpgdbjojaaGreatW.PrintLast
section
variable {P : Program} {ops : Array Oper} {Q : Exit → Act → World → Prop} {md : Region.Mode} {S : World → Prop} {ds : List Nat} {T : Bool × List (List Nat × List Nat)} {B : List Nat} {fuel : Nat} {l : Array Bool} {a a' : Act} {w : World} {oi : Oper} {v : Value}
theorem pA (i N:Nat) (hT:Aside0 (rtab md ops=T)) (h:wpAnyLast P md ops Q S ds fuel (l.setIfInBounds i true) a' w)
  (hi:ops[i]? = some oi:=by exact rfl) (hN:oi.dst=some N:=by exact rfl) (hc:anyT T l.toList (l.setIfInBounds i true).toList i=true:=by kernel_rfl)
  (hw:Region.wanted oi (yielded ops a.tmps)=true:=by rfl) (hy:∀ w,(execOp a.eval oi).run P w=.ok (.value v) w:=by (intro w';go_simp;with_reducible rfl))
  (ha:a.put (some N) v=a':=by (simp only [Act.put,List.setIfInBounds_toArray,List.set_cons_zero,List.set_cons_succ,i64_w,i32_w];rfl))
  (hQ:∀ c a w,Q (.panic c) (a.put oi.dst v) w→Q (.panic c) a w:=by exact fun _ _ _ h=>h):wpAnyLast P md ops Q S ds (fuel+1) l a w :=
 pure_ _ hi hN (any_of hT.out hc) hQ (Or.inl ⟨hw,hy⟩) ha h
theorem pB (i N:Nat) (hT:Aside0 (rtab md ops=T)) (h:wpAnyLast P md ops Q S ds fuel (l.setIfInBounds i true) a' w)
  (hi:ops[i]? = some oi:=by exact rfl) (hN:oi.dst=some N:=by exact rfl) (hc:anyT T l.toList (l.setIfInBounds i true).toList i=true:=by kernel_rfl)
  (hw:Region.wanted oi (yielded ops a.tmps)=false:=by rfl)
  (ha:a.put (some N) undef=a':=by (simp only [Act.put,List.setIfInBounds_toArray,List.set_cons_zero,List.set_cons_succ,i64_w,i32_w];rfl))
  (hQ:∀ c a w,Q (.panic c) (a.put oi.dst undef) w→Q (.panic c) a w:=by exact fun _ _ _ h=>h):wpAnyLast P md ops Q S ds (fuel+1) l a w :=
 pure_ _ hi hN (any_of hT.out hc) hQ (Or.inr ⟨hw,rfl⟩) ha h
theorem tA (i N:Nat) (hT:Aside0 (rtab md ops=T)) (hB:Aside0 (waitsOk T.2 B=true)) (hS:S w) (h:wpAnyLast P md ops Q S ds fuel (l.setIfInBounds i true) a' w)
  (hi:ops[i]? = some oi:=by exact rfl) (hN:oi.dst=some N:=by exact rfl) (hc:takeW T B ds l.toList (l.setIfInBounds i true).toList i=true:=by kernel_rfl)
  (hw:Region.wanted oi (yielded ops a.tmps)=true:=by rfl) (hy:∀ w,S w→(execOp a.eval oi).run P w=.ok (.value v) w:=by (intro w' hs;go_simp;with_reducible rfl))
  (ha:a.put (some N) v=a':=by (simp only [Act.put,List.setIfInBounds_toArray,List.set_cons_zero,List.set_cons_succ,i64_w,i32_w];rfl))
  (hQ:∀ c a w,Q (.panic c) (a.put oi.dst v) w→Q (.panic c) a w:=by exact fun _ _ _ h=>h):wpAnyLast P md ops Q S ds (fuel+1) l a w :=
 take_ _ hi hN (take_ofW hT.out hB.out hc) hQ (Or.inl ⟨hw,hy⟩) hS ha h
def St (P:Program) (md:Region.Mode) (ops:Array Oper) (Q:Exit→Act→World→Prop) (S:World→Prop) (ds:List Nat) (l:Array Bool) (i:Nat) (a a':Act):Prop:=∀ fuel w,wpAnyLast P md ops Q S ds fuel (l.setIfInBounds i true) a' w→wpAnyLast P md ops Q S ds (fuel+1) l a w
theorem sA {i N:Nat} (hT:Aside0 (rtab md ops=T)) (hi:ops[i]? = some oi:=by exact rfl) (hN:oi.dst=some N:=by exact rfl) (hw:Region.wanted oi (yielded ops a.tmps)=true:=by rfl)
  (hc:anyT T l.toList (l.setIfInBounds i true).toList i=true:=by kernel_rfl) (hy:∀ w,(execOp a.eval oi).run P w=.ok (.value v) w:=by (intro w';go_simp;with_reducible rfl))
  (ha:a.put (some N) v=a':=by (simp only [Act.put,List.setIfInBounds_toArray,List.set_cons_zero,List.set_cons_succ,i64_w,i32_w];rfl))
  (hQ:∀ c a w,Q (.panic c) (a.put oi.dst v) w→Q (.panic c) a w:=by exact fun _ _ _ h=>h):St P md ops Q S ds l i a a':=fun _ _ h=>pA i N hT h hi hN hc hw hy ha hQ
theorem sB {i N:Nat} (hT:Aside0 (rtab md ops=T)) (hi:ops[i]? = some oi:=by exact rfl) (hN:oi.dst=some N:=by exact rfl) (hw:Region.wanted oi (yielded ops a.tmps)=false:=by rfl)
  (hc:anyT T l.toList (l.setIfInBounds i true).toList i=true:=by kernel_rfl)
  (ha:a.put (some N) undef=a':=by (simp only [Act.put,List.setIfInBounds_toArray,List.set_cons_zero,List.set_cons_succ,i64_w,i32_w];rfl))
  (hQ:∀ c a w,Q (.panic c) (a.put oi.dst undef) w→Q (.panic c) a w:=by exact fun _ _ _ h=>h):St P md ops Q S ds l i a a':=fun _ _ h=>pB i N hT h hi hN hc hw ha hQ
theorem pz1 (i:Nat) (h:wpAnyLast P md ops Q S ds fuel (l.setIfInBounds i true) a' w)
  (s:St P md ops Q S ds l i a a':=by first|exact sA HT_|exact sB HT_):wpAnyLast P md ops Q S ds (fuel+1) l a w:=s _ _ h
theorem pz2 (i:Nat) {a1:Act} (h:wpAnyLast P md ops Q S ds fuel ((l.setIfInBounds i true).setIfInBounds (i+1) true) a' w)
  (s:St P md ops Q S ds l i a a1:=by first|exact sA HT_|exact sB HT_) (s2:St P md ops Q S ds (l.setIfInBounds i true) (i+1) a1 a':=by first|exact sA HT_|exact sB HT_):wpAnyLast P md ops Q S ds (fuel+2) l a w:=s _ _ (s2 _ _ h)
theorem pz3 (i:Nat) {a1 a2:Act} (h:wpAnyLast P md ops Q S ds fuel (((l.setIfInBounds i true).setIfInBounds (i+1) true).setIfInBounds (i+2) true) a' w)
  (s:St P md ops Q S ds l i a a1:=by first|exact sA HT_|exact sB HT_) (s2:St P md ops Q S ds (l.setIfInBounds i true) (i+1) a1 a2:=by first|exact sA HT_|exact sB HT_) (s3:St P md ops Q S ds ((l.setIfInBounds i true).setIfInBounds (i+1) true) (i+2) a2 a':=by first|exact sA HT_|exact sB HT_):wpAnyLast P md ops Q S ds (fuel+3) l a w:=s _ _ (s2 _ _ (s3 _ _ h))
theorem pz4 (i:Nat) {a1 a2 a3:Act} (h:wpAnyLast P md ops Q S ds fuel ((((l.setIfInBounds i true).setIfInBounds (i+1) true).setIfInBounds (i+2) true).setIfInBounds (i+3) true) a' w)
  (s:St P md ops Q S ds l i a a1:=by first|exact sA HT_|exact sB HT_) (s2:St P md ops Q S ds (l.setIfInBounds i true) (i+1) a1 a2:=by first|exact sA HT_|exact sB HT_) (s3:St P md ops Q S ds ((l.setIfInBounds i true).setIfInBounds (i+1) true) (i+2) a2 a3:=by first|exact sA HT_|exact sB HT_) (s4:St P md ops Q S ds (((l.setIfInBounds i true).setIfInBounds (i+1) true).setIfInBounds (i+2) true) (i+3) a3 a':=by first|exact sA HT_|exact sB HT_):wpAnyLast P md ops Q S ds (fuel+4) l a w:=s _ _ (s2 _ _ (s3 _ _ (s4 _ _ h)))
theorem pz8 (i:Nat) {a1:Act} (h:wpAnyLast P md ops Q S ds fuel ((((((((l.setIfInBounds i true).setIfInBounds (i+1) true).setIfInBounds (i+2) true).setIfInBounds (i+3) true).setIfInBounds (i+4) true).setIfInBounds (i+5) true).setIfInBounds (i+6) true).setIfInBounds (i+7) true) a' w)
  (s:∀ fuel w,wpAnyLast P md ops Q S ds fuel ((((l.setIfInBounds i true).setIfInBounds (i+1) true).setIfInBounds (i+2) true).setIfInBounds (i+3) true) a1 w→wpAnyLast P md ops Q S ds (fuel+4) l a w:=by exact fun _ _ h=>pz4 _ h) (s2:∀ fuel w,wpAnyLast P md ops Q S ds fuel ((((((((l.setIfInBounds i true).setIfInBounds (i+1) true).setIfInBounds (i+2) true).setIfInBounds (i+3) true).setIfInBounds (i+4) true).setIfInBounds (i+5) true).setIfInBounds (i+6) true).setIfInBounds (i+7) true) a' w→wpAnyLast P md ops Q S ds (fuel+4) ((((l.setIfInBounds i true).setIfInBounds (i+1) true).setIfInBounds (i+2) true).setIfInBounds (i+3) true) a1 w:=by exact fun _ _ h=>pz4 _ h):wpAnyLast P md ops Q S ds (fuel+8) l a w:=s _ _ (s2 _ _ h)
theorem ta (i:Nat) {N:Nat} (h:wpAnyLast P md ops Q S ds fuel (l.setIfInBounds i true) a' w) (hT:Aside0 (rtab md ops=T):=by exact HT_) (hB:Aside0 (waitsOk T.2 B=true):=by exact HW_) (hS:S w:=by exact hHeld)
  (hi:ops[i]? = some oi:=by exact rfl) (hN:oi.dst=some N:=by exact rfl) (hc:takeW T B ds l.toList (l.setIfInBounds i true).toList i=true:=by kernel_rfl)
  (hw:Region.wanted oi (yielded ops a.tmps)=true:=by rfl) (hy:∀ w,S w→(execOp a.eval oi).run P w=.ok (.value v) w:=by (intro w' hs;go_simp;with_reducible rfl))
  (ha:a.put (some N) v=a':=by (simp only [Act.put,List.setIfInBounds_toArray,List.set_cons_zero,List.set_cons_succ,i64_w,i32_w];rfl))
  (hQ:∀ c a w,Q (.panic c) (a.put oi.dst v) w→Q (.panic c) a w:=by exact fun _ _ _ h=>h):wpAnyLast P md ops Q S ds (fuel+1) l a w:=tA i N hT hB hS h hi hN hc hw hy ha hQ
theorem oA (i N:Nat) (hT:Aside0 (rtab md ops=T))
  (h:∀ K:Act→World→Prop,Shut (∀ a' w',S w'→(S w'→wpAnyLast P md ops Q S ds fuel (l.setIfInBounds i true) a' w')→K a' w')→if Region.wanted oi (yielded ops a.tmps)=true then Oper.wp P oi a w K Q else K (a.put (some N) undef) w)
  (hi:ops[i]? = some oi:=by exact rfl) (hN:oi.dst=some N:=by exact rfl) (hc:(readyT T.2 l.toList == [i] && l.toList.set i true == (l.setIfInBounds i true).toList)=true:=by kernel_rfl) (hd:i ∉ ds:=by decide):wpAnyLast P md ops Q S ds (fuel+1) l a w :=
 one_ _ hi hN (one_of hT.out hc) hd h
theorem gA {N : Option Tmp} {K : Act → World → Prop} {f : FuncId} {fn : Func} {as_0 : Array Operand} {ts : Array TypeId} (hf : P.funcs[f]? = some fn) (args : Array Value)
    (h : Calls P f args w fun e w' => ∃ v, e = .returned v ∧ K (a.put N v) w') (hname : (fn.name == "runtime.NumGoroutine") = false := by kernel_rfl) (hb : fn.body.isSome = true := by exact rfl)
    (hw : Region.wanted oi (yielded ops a.tmps) = true := by rfl) (hN : oi.dst = N := by exact rfl) (hop : oi.op = .call { callee := .value (.func f), args := as_0, argTypes := ts } := by exact rfl)
    (hargs : as_0.map a.eval = args := by (try simp only [List.map_toArray, List.map_cons, List.map_nil]); first | done | rfl | (simp only [List.length_drop, List.length_take]; rfl)) : if Region.wanted oi (yielded ops a.tmps) = true then Oper.wp P oi a w K Q else K (a.put N undef) w :=
  goes_ hf hname hb args hw hN hop hargs h
theorem nA (N:Nat) (h:wpAnyLast P md ops Q S ds fuel l a' w) (ha:a.put (some N) v=a':=by (simp only [Act.put,List.setIfInBounds_toArray,List.set_cons_zero,List.set_cons_succ,i64_w,i32_w];rfl)):wpAnyLast P md ops Q S ds fuel l (a.put (some N) v) w:=norm_ ha h
end
section
variable {P : Program} {ops : Array Oper} {Q : Exit → Act → World → Prop} {o : Oper} {rest : List Oper} {a : Act}
theorem bx {W:World} (N:Tmp) {cs:Array Value} {t:TypeId} (h:∀ g,g=W.heap.size→∀ w1,w1.heap[g]? = some (.cells cs t (0,0))→Below W.heap.size W w1→wpList P ops Q rest (a.put o.dst (.pointer (some ⟨g,0,none⟩))) w1)
  (hd:o.dst=some N:=by rfl) (hg:o.guard=none:=by rfl) (hr:(execOp a.eval o).run P W=.ok (.value (.pointer (some ⟨W.heap.size,0,none⟩))) (W.alloc (.cells cs t (0,0))):=by first|(go_simp;done)|(go_simp;rfl)):wpList P ops Q (o :: rest) a W :=
 box_event hg hd hr h
end
theorem _root_.Go.Proofs.YtomoflpgdbjojaaGreatW.PrintWords.KeepBut.far {w w1 w2:World} {g gl:Nat} {row:Option Nat} (h:KeepBut w w1 g row) (k:KeepBut w1 w2 gl none) (hge:w.heap.size≤gl):KeepBut w w2 g row :=
 ⟨Nat.le_trans h.1 k.1,fun i hi hg hr=>(k.2 i (Nat.lt_of_lt_of_le hi h.1) (by omega) (by simp)).trans (h.2 i hi hg hr)⟩
theorem bs {w W W':World} (h:Aside0 (Below w.heap.size w W)) (e:Below w.heap.size w W→Below w.heap.size w W':=by (intro h;repeat (first|(with_reducible first|exact h|apply below_alloc|apply pw_below_drewN|apply below_drew1)|refine below_set ?_ (Aside0.out (by assumption))|exact h))):Below w.heap.size w W':=e h.out
theorem ks {W W':World} {g:Nat} {t:TypeId} {cs:Array Value} (h:Aside0 (W.heap[g]? = some (.cells cs t (0,0)))) (e:W.heap[g]? = some (.cells cs t (0,0))→W'.heap[g]? = some (.cells cs t (0,0)):=by (intro h;repeat (first|(with_reducible first|exact h|refine blk_drewN ?_ _|refine blk_drew ?_|refine blk_alloc ?_ _)|refine blk_far ?_ (Aside0.out (by assumption)) _|exact h))):W'.heap[g]? = some (.cells cs t (0,0)):=e h.out
theorem rs {α:Type} {d:Kd α} {e base:Nat} {W W':World} {ok:Nat→Prop} {v:Value} {xs:List α} (h:Aside0 (d.R e W base ok v xs)) (k:d.R e W base ok v xs→d.R e W' base ok v xs:=by (intro h;(with_reducible repeat (first|apply Kd.R_alloc|apply Kd.R_drewN|apply Kd.R_drew));exact h)):d.R e W' base ok v xs:=k h.out
theorem put0 {w:World} {g:Nat} {t:TypeId} {cs:Array Value} (h:w.heap[g]? = some (.cells cs t (0,0))) (i:Nat) (u:Value):(w.setCell ⟨g,i,none⟩ u).heap[g]? = some (.cells (cs.setIfInBounds i u) t (0,0)):=blk_put h i u rfl
theorem fin0 {w:World} {g:Nat} {t:TypeId} {cs cs':Array Value} (h:w.heap[g]? = some (.cells cs t (0,0))) (e:cs=cs'):w.heap[g]? = some (.cells cs' t (0,0)):=e ▸ h
theorem far0 {w:World} {g:Nat} {t:TypeId} {p:Addr} (hp:Aside0 (g≠p.block)) {cs:Array Value} (h:w.heap[g]? = some (.cells cs t (0,0))) (u:Value):(w.setCell p u).heap[g]? = some (.cells cs t (0,0)):=blk_far h hp.out u
theorem kp {W W':World} {g:Nat} {t:TypeId} {cs cs':Array Value} (h:Aside0 (W.heap[g]? = some (.cells cs t (0,0)))) (e:W.heap[g]? = some (.cells cs t (0,0))→W'.heap[g]? = some (.cells cs' t (0,0)):=by (intro h;apply fin0;(· repeat (first|(with_reducible first|exact h|refine blk_drewN ?_ _|refine blk_drew ?_|refine blk_alloc ?_ _)|(with_reducible apply put0)|((with_reducible apply far0);assumption)|exact h));(· first|(simp only [List.setIfInBounds_toArray,List.set_cons_zero,List.set_cons_succ];done)|rfl))):W'.heap[g]? = some (.cells cs' t (0,0)):=e h.out
theorem gs {w W:World} {g:Nat} (hg:g=W.heap.size) (h:Below w.heap.size w W):w.heap.size≤g:=hg ▸ h.size
theorem gn {W:World} {g g':Nat} {o:Obj} (hg:g'=W.heap.size) (h:W.heap[g]? = some o):g≠g':=by rw [hg];exact Nat.ne_of_lt (blk_lt h)
theorem gm {W:World} {g g':Nat} {o:Obj} (hg:g'=W.heap.size) (h:W.heap[g]? = some o):g'≠g:=(gn hg h).symm
theorem bq {w W W' W2:World} (h:Aside0 (Below w.heap.size w W)) (hb:Below W'.heap.size W' W2) (e:Below w.heap.size w W→Below w.heap.size w W':=by (intro h;repeat (first|(with_reducible first|exact h|apply below_alloc|apply pw_below_drewN|apply below_drew1)|refine below_set ?_ (Aside0.out (by assumption))|exact h))):Aside0 (Below w.heap.size w W2):=Aside0.mk (below_step (e h.out) hb)
theorem gw {w W W':World} {g:Nat} (hg:g=W'.heap.size) (h:Aside0 (Below w.heap.size w W)) (e:Below w.heap.size w W→Below w.heap.size w W':=by (intro h;repeat (first|(with_reducible first|exact h|apply below_alloc|apply pw_below_drewN|apply below_drew1)|refine below_set ?_ (Aside0.out (by assumption))|exact h))):Aside0 (w.heap.size≤g):=Aside0.mk (gs hg (e h.out))
theorem bb {W W' W2:World} {g:Nat} {t:TypeId} {cs:Array Value} (h:Aside0 (W.heap[g]? = some (.cells cs t (0,0)))) (hb:Below W'.heap.size W' W2) (e:W.heap[g]? = some (.cells cs t (0,0))→W'.heap[g]? = some (.cells cs t (0,0)):=by (intro h;repeat (first|(with_reducible first|exact h|refine blk_drewN ?_ _|refine blk_drew ?_|refine blk_alloc ?_ _)|refine blk_far ?_ (Aside0.out (by assumption)) _|exact h))):Aside0 (W2.heap[g]? = some (.cells cs t (0,0))):=Aside0.mk (blk_below (e h.out) hb)
theorem na {W W':World} {g g':Nat} {t:TypeId} {cs:Array Value} (hg:g'=W'.heap.size) (h:Aside0 (W.heap[g]? = some (.cells cs t (0,0)))) (e:W.heap[g]? = some (.cells cs t (0,0))→W'.heap[g]? = some (.cells cs t (0,0)):=by (intro h;repeat (first|(with_reducible first|exact h|refine blk_drewN ?_ _|refine blk_drew ?_|refine blk_alloc ?_ _)|refine blk_far ?_ (Aside0.out (by assumption)) _|exact h))):Aside0 (g≠g'):=Aside0.mk (gn hg (e h.out))
theorem nc {W W':World} {g g':Nat} {t:TypeId} {cs:Array Value} (hg:g'=W'.heap.size) (h:Aside0 (W.heap[g]? = some (.cells cs t (0,0)))) (e:W.heap[g]? = some (.cells cs t (0,0))→W'.heap[g]? = some (.cells cs t (0,0)):=by (intro h;repeat (first|(with_reducible first|exact h|refine blk_drewN ?_ _|refine blk_drew ?_|refine blk_alloc ?_ _)|refine blk_far ?_ (Aside0.out (by assumption)) _|exact h))):Aside0 (g'≠g):=Aside0.mk (gm hg (e h.out))
theorem nz {a b g:Nat} (h:a≠g) (e:b=a:=by first|rfl|exact add_block _ _):b≠g:=e ▸ h
theorem sd {α:Type} {d:Kd α} {w0 w1:World} {A:Option Addr} {n:Nat} {l:List α} (h:d.C w0 A n l) (e:d.C w0 A n l→d.C w1 A n l:=by (intro h;repeat (first|exact h|(with_reducible refine Kd.C_alloc ?_ _)|(with_reducible refine Kd.C_drewN ?_ _)|(with_reducible refine Kd.C_drew ?_)))):d.C w1 A n l:=e h
theorem dr {p:Prop} (h:p:=by repeat (first|exact Drawn0.refl _|apply Drawn0.step)):p:=h
section
variable {P : Program} {ops : Array Oper} {Q : Exit → Act → World → Prop} {o : Oper} {rest : List Oper} {a : Act}
theorem bz {w0 w W:World} (N:Tmp) {cs:Array Value} {t:TypeId} (HB:Aside0 (Below w0.heap.size w0 w)) (h:∀ g,g=W.heap.size→∀ w1,Aside0 (w1.heap[g]? = some (.cells cs t (0,0)))→Aside0 (w0.heap.size≤g)→Below W.heap.size W w1→Aside0 (Below w0.heap.size w0 w1)→wpList P ops Q rest (a.put o.dst (.pointer (some ⟨g,0,none⟩))) w1)
  (e:Below w0.heap.size w0 w→Below w0.heap.size w0 W:=by (intro h;repeat (first|(with_reducible first|exact h|apply below_alloc|apply pw_below_drewN|apply below_drew1)|refine below_set ?_ (Aside0.out (by assumption))|exact h))) (hd:o.dst=some N:=by rfl) (hg:o.guard=none:=by rfl) (hr:(execOp a.eval o).run P W=.ok (.value (.pointer (some ⟨W.heap.size,0,none⟩))) (W.alloc (.cells cs t (0,0))):=by first|(go_simp;done)|(go_simp;rfl)):wpList P ops Q (o :: rest) a W :=
 box_event hg hd hr (fun g hg' w1 hb hW=>h g hg' w1 (Aside0.mk hb) (Aside0.mk (gs hg' (e HB.out))) hW (Aside0.mk (below_step (e HB.out) hW)))
theorem rl {α:Type} (d:Kd α) {W:World} (e:Nat) {N:Tmp} {xs:List α} {inner:List Value}
  (hrep:Reps (d.M W W.heap.size (fun _=>True)) d.sz xs inner)
  (h:∀ v1 w1,d.R e w1 W.heap.size (fun _=>True) v1 xs→Below W.heap.size W w1→W.grownBy w1 none→(∃ b,v1.ownBlock=some b∧W.heap.size≤b)→wpList P ops Q rest (a.put o.dst v1) w1)
  (hg:o.guard=none:=by rfl) (hd:o.dst=some N:=by rfl) (hr:(execOp a.eval o).run P W=.ok (.value (.slice (some ⟨W.heap.size,0,none⟩) xs.length xs.length)) (W.alloc (.cells inner.toArray e)):=by first|(go_simp;done)|(go_simp;rfl))
  (hm:xs.length≤9223372036854775807:=by simp):wpList P ops Q (o :: rest) a W :=
 Kd.R_lit d _ e hg hd hr hrep (fun _ hk=>hk) trivial (Below.refl _ _) (Nat.le_refl _) hm h
end
theorem oa {p:Prop} [Decidable p] (h:decide p=true:=by first|(with_reducible assumption)|assumption):p:=of_decide_eq_true h
theorem rf {α:Type} {d:Kd α} {e base:Nat} {W W':World} {ok:Nat→Prop} {v:Value} {xs:List α} (h:d.R e W base ok v xs) (k:d.R e W base ok v xs→d.R e W' base ok v xs:=by (intro h;repeat (first|(with_reducible first|exact h|apply Kd.R_alloc|apply Kd.R_drewN|apply Kd.R_drew)|refine Kd.R_far ?_ (fun _ hk=>hk.2) _|exact h))):d.R e W' base ok v xs:=k h
theorem bc {w:World} {g:Nat} {t:TypeId} {cs:Array Value} {v:Value} (h:Aside0 (w.heap[g]? = some (.cells cs t (0,0)))) (i:Nat) (e:cs[i]? = some v):w.cell? ⟨g,i,none⟩=some v:=(blk_cell h.out i).trans e
theorem cb {w W:World} {p:Addr} {v:Value} (h:Aside0 (Below w.heap.size w W)) (hx:w.cell? p=some v):W.cell? p=some v:=(h.out.cell (World.block_lt_of_cell? w _ hx)).trans hx
theorem ff {p:Prop} (h:p:=by first|rfl|(simp [errW_none,errW_some] <;> rfl)|(simp [*,errW_none,errW_some] <;> rfl)):p:=h
theorem fg {p:Prop} (h:p:=by first|rfl|(simp;done)|(simp [*];done)):p:=h
theorem fl {m n:Nat} (h:m≤n:=by first|omega|exact Nat.le_refl _):m≤n:=h
theorem cf2 {w:World} {g:Nat} {t:TypeId} {v0 v1:Value} (h:Aside0 (w.heap[g]? = some (.cells #[v0,v1] t (0,0)))):w.cell? ⟨g,0,none⟩=some v0∧w.cell? ⟨g,1,none⟩=some v1∧w.frozen? ⟨g,0,none⟩=false∧w.frozen? ⟨g,1,none⟩=false :=
 ⟨(blk_cell h.out 0).trans rfl,(blk_cell h.out 1).trans rfl,blk_frozen h.out 0,blk_frozen h.out 1⟩
theorem cf3 {w:World} {g:Nat} {t:TypeId} {v0 v1 v2:Value} (h:Aside0 (w.heap[g]? = some (.cells #[v0,v1,v2] t (0,0)))):w.cell? ⟨g,0,none⟩=some v0∧w.cell? ⟨g,1,none⟩=some v1∧w.cell? ⟨g,2,none⟩=some v2∧w.frozen? ⟨g,0,none⟩=false∧w.frozen? ⟨g,1,none⟩=false∧w.frozen? ⟨g,2,none⟩=false :=
 ⟨(blk_cell h.out 0).trans rfl,(blk_cell h.out 1).trans rfl,(blk_cell h.out 2).trans rfl,blk_frozen h.out 0,blk_frozen h.out 1,blk_frozen h.out 2⟩
theorem cf4 {w:World} {g:Nat} {t:TypeId} {v0 v1 v2 v3:Value} (h:Aside0 (w.heap[g]? = some (.cells #[v0,v1,v2,v3] t (0,0)))):w.cell? ⟨g,0,none⟩=some v0∧w.cell? ⟨g,1,none⟩=some v1∧w.cell? ⟨g,2,none⟩=some v2∧w.cell? ⟨g,3,none⟩=some v3∧w.frozen? ⟨g,0,none⟩=false∧w.frozen? ⟨g,1,none⟩=false∧w.frozen? ⟨g,2,none⟩=false∧w.frozen? ⟨g,3,none⟩=false :=
 ⟨(blk_cell h.out 0).trans rfl,(blk_cell h.out 1).trans rfl,(blk_cell h.out 2).trans rfl,(blk_cell h.out 3).trans rfl,blk_frozen h.out 0,blk_frozen h.out 1,blk_frozen h.out 2,blk_frozen h.out 3⟩
theorem cf5 {w:World} {g:Nat} {t:TypeId} {v0 v1 v2 v3 v4:Value} (h:Aside0 (w.heap[g]? = some (.cells #[v0,v1,v2,v3,v4] t (0,0)))):w.cell? ⟨g,0,none⟩=some v0∧w.cell? ⟨g,1,none⟩=some v1∧w.cell? ⟨g,2,none⟩=some v2∧w.cell? ⟨g,3,none⟩=some v3∧w.cell? ⟨g,4,none⟩=some v4∧w.frozen? ⟨g,0,none⟩=false∧w.frozen? ⟨g,1,none⟩=false∧w.frozen? ⟨g,2,none⟩=false∧w.frozen? ⟨g,3,none⟩=false∧w.frozen? ⟨g,4,none⟩=false :=
 ⟨(blk_cell h.out 0).trans rfl,(blk_cell h.out 1).trans rfl,(blk_cell h.out 2).trans rfl,(blk_cell h.out 3).trans rfl,(blk_cell h.out 4).trans rfl,blk_frozen h.out 0,blk_frozen h.out 1,blk_frozen h.out 2,blk_frozen h.out 3,blk_frozen h.out 4⟩
theorem cf6 {w:World} {g:Nat} {t:TypeId} {v0 v1 v2 v3 v4 v5:Value} (h:Aside0 (w.heap[g]? = some (.cells #[v0,v1,v2,v3,v4,v5] t (0,0)))):w.cell? ⟨g,0,none⟩=some v0∧w.cell? ⟨g,1,none⟩=some v1∧w.cell? ⟨g,2,none⟩=some v2∧w.cell? ⟨g,3,none⟩=some v3∧w.cell? ⟨g,4,none⟩=some v4∧w.cell? ⟨g,5,none⟩=some v5∧w.frozen? ⟨g,0,none⟩=false∧w.frozen? ⟨g,1,none⟩=false∧w.frozen? ⟨g,2,none⟩=false∧w.frozen? ⟨g,3,none⟩=false∧w.frozen? ⟨g,4,none⟩=false∧w.frozen? ⟨g,5,none⟩=false :=
 ⟨(blk_cell h.out 0).trans rfl,(blk_cell h.out 1).trans rfl,(blk_cell h.out 2).trans rfl,(blk_cell h.out 3).trans rfl,(blk_cell h.out 4).trans rfl,(blk_cell h.out 5).trans rfl,blk_frozen h.out 0,blk_frozen h.out 1,blk_frozen h.out 2,blk_frozen h.out 3,blk_frozen h.out 4,blk_frozen h.out 5⟩
theorem cf8 {w:World} {g:Nat} {t:TypeId} {v0 v1 v2 v3 v4 v5 v6 v7:Value} (h:Aside0 (w.heap[g]? = some (.cells #[v0,v1,v2,v3,v4,v5,v6,v7] t (0,0)))):w.cell? ⟨g,0,none⟩=some v0∧w.cell? ⟨g,1,none⟩=some v1∧w.cell? ⟨g,2,none⟩=some v2∧w.cell? ⟨g,3,none⟩=some v3∧w.cell? ⟨g,4,none⟩=some v4∧w.cell? ⟨g,5,none⟩=some v5∧w.cell? ⟨g,6,none⟩=some v6∧w.cell? ⟨g,7,none⟩=some v7∧w.frozen? ⟨g,0,none⟩=false∧w.frozen? ⟨g,1,none⟩=false∧w.frozen? ⟨g,2,none⟩=false∧w.frozen? ⟨g,3,none⟩=false∧w.frozen? ⟨g,4,none⟩=false∧w.frozen? ⟨g,5,none⟩=false∧w.frozen? ⟨g,6,none⟩=false∧w.frozen? ⟨g,7,none⟩=false :=
 ⟨(blk_cell h.out 0).trans rfl,(blk_cell h.out 1).trans rfl,(blk_cell h.out 2).trans rfl,(blk_cell h.out 3).trans rfl,(blk_cell h.out 4).trans rfl,(blk_cell h.out 5).trans rfl,(blk_cell h.out 6).trans rfl,(blk_cell h.out 7).trans rfl,blk_frozen h.out 0,blk_frozen h.out 1,blk_frozen h.out 2,blk_frozen h.out 3,blk_frozen h.out 4,blk_frozen h.out 5,blk_frozen h.out 6,blk_frozen h.out 7⟩
theorem cf14 {w:World} {g:Nat} {t:TypeId} {v0 v1 v2 v3 v4 v5 v6 v7 v8 v9 v10 v11 v12 v13:Value} (h:Aside0 (w.heap[g]? = some (.cells #[v0,v1,v2,v3,v4,v5,v6,v7,v8,v9,v10,v11,v12,v13] t (0,0)))):w.cell? ⟨g,0,none⟩=some v0∧w.cell? ⟨g,1,none⟩=some v1∧w.cell? ⟨g,2,none⟩=some v2∧w.cell? ⟨g,3,none⟩=some v3∧w.cell? ⟨g,4,none⟩=some v4∧w.cell? ⟨g,5,none⟩=some v5∧w.cell? ⟨g,6,none⟩=some v6∧w.cell? ⟨g,7,none⟩=some v7∧w.cell? ⟨g,8,none⟩=some v8∧w.cell? ⟨g,9,none⟩=some v9∧w.cell? ⟨g,10,none⟩=some v10∧w.cell? ⟨g,11,none⟩=some v11∧w.cell? ⟨g,12,none⟩=some v12∧w.cell? ⟨g,13,none⟩=some v13∧w.frozen? ⟨g,0,none⟩=false∧w.frozen? ⟨g,1,none⟩=false∧w.frozen? ⟨g,2,none⟩=false∧w.frozen? ⟨g,3,none⟩=false∧w.frozen? ⟨g,4,none⟩=false∧w.frozen? ⟨g,5,none⟩=false∧w.frozen? ⟨g,6,none⟩=false∧w.frozen? ⟨g,7,none⟩=false∧w.frozen? ⟨g,8,none⟩=false∧w.frozen? ⟨g,9,none⟩=false∧w.frozen? ⟨g,10,none⟩=false∧w.frozen? ⟨g,11,none⟩=false∧w.frozen? ⟨g,12,none⟩=false∧w.frozen? ⟨g,13,none⟩=false :=
 ⟨(blk_cell h.out 0).trans rfl,(blk_cell h.out 1).trans rfl,(blk_cell h.out 2).trans rfl,(blk_cell h.out 3).trans rfl,(blk_cell h.out 4).trans rfl,(blk_cell h.out 5).trans rfl,(blk_cell h.out 6).trans rfl,(blk_cell h.out 7).trans rfl,(blk_cell h.out 8).trans rfl,(blk_cell h.out 9).trans rfl,(blk_cell h.out 10).trans rfl,(blk_cell h.out 11).trans rfl,(blk_cell h.out 12).trans rfl,(blk_cell h.out 13).trans rfl,blk_frozen h.out 0,blk_frozen h.out 1,blk_frozen h.out 2,blk_frozen h.out 3,blk_frozen h.out 4,blk_frozen h.out 5,blk_frozen h.out 6,blk_frozen h.out 7,blk_frozen h.out 8,blk_frozen h.out 9,blk_frozen h.out 10,blk_frozen h.out 11,blk_frozen h.out 12,blk_frozen h.out 13⟩
theorem am {p:Prop} (h:p):Aside0 p:=⟨h⟩
abbrev qk3 (w:World) (g:Nat) (v0 v1 v2:Value):Prop:=w.cell? ⟨g,0,none⟩=some v0∧w.cell? ⟨g,1,none⟩=some v1∧w.cell? ⟨g,2,none⟩=some v2
abbrev qk3a (w:World) (g:Nat) (v0 v1 v2:Value) (q:Prop):Prop:=w.cell? ⟨g,0,none⟩=some v0∧w.cell? ⟨g,1,none⟩=some v1∧w.cell? ⟨g,2,none⟩=some v2∧q
abbrev qe3 (w:World) (p:Addr) (v0 v1 v2:Value):Prop:=w.cell? p=some v0∧w.cell? ⟨p.block,p.off+1,none⟩=some v1∧w.cell? ⟨p.block,p.off+2,none⟩=some v2
section
variable {α β : Type} {r : α} {x y : Option α} {P : Prop}
theorem bo {z:Option β} {f:β→Option α} (h:z.bind f=some r):∃ t,Aside0 (z=some t)∧f t=some r:=let ⟨t,a,b⟩:=Option.bind_eq_some_iff.mp h;⟨t,⟨a⟩,b⟩
theorem bt (b:Bool):b=true∨b=false:=by cases b <;> simp
theorem itT (H:(if true=true then x else y)=some r):x=some r:=H
theorem itF (H:(if false=true then x else y)=some r):y=some r:=H
theorem id2 {c:Prop} [Decidable c] (h1:decide c=true→x=some r→P) (h2:decide c=false→y=some r→P) (H:(if c then x else y)=some r):P:=by
 by_cases h:c
 ·exact h1 (decide_eq_true h) (by rwa [if_pos h] at H)
 ·exact h2 (decide_eq_false h) (by rwa [if_neg h] at H)
theorem id2k {c:Prop} [Decidable c] (h1:c→decide c=true→x=some r→P) (h2:¬ c→decide c=false→y=some r→P) (H:(if c then x else y)=some r):P:=id2 (fun a=>h1 (of_decide_eq_true a) a) (fun a=>h2 (of_decide_eq_false a) a) H
theorem id1 {c:Prop} [Decidable c] (h1:decide c=true→x=some r→P) (H:(if c then x else none)=some r):P:=id2 h1 (fun _ h=>by cases h) H
theorem id1k {c:Prop} [Decidable c] (h1:c→decide c=true→x=some r→P) (H:(if c then x else none)=some r):P:=id2k h1 (fun _ _ h=>by cases h) H
theorem ip2 {c:Prop} [Decidable c] (h1:c→x=some r→P) (h2:¬ c→y=some r→P) (H:(if c then x else y)=some r):P:=id2k (fun a _=>h1 a) (fun a _=>h2 a) H
theorem ip1 {c:Prop} [Decidable c] (h1:c→x=some r→P) (H:(if c then x else none)=some r):P:=ip2 h1 (fun _ h=>by cases h) H
theorem ie2k [BEq β] [LawfulBEq β] {a b:β} [Decidable (a=b)] (h1:a=b→(a == b)=true→(a != b)=false→x=some r→P) (h2:¬ a=b→(a == b)=false→(a != b)=true→y=some r→P) (H:(if a=b then x else y)=some r):P :=
 ip2 (fun c=>h1 c (beq_iff_eq.mpr c) (bne_eq_false_iff_eq.mpr c)) (fun c=>h2 c (beq_eq_false_iff_ne.mpr c) (bne_iff_ne.mpr c)) H
theorem ie2 [BEq β] [LawfulBEq β] {a b:β} [Decidable (a=b)] (h1:(a == b)=true→(a != b)=false→x=some r→P) (h2:¬ a=b→(a == b)=false→(a != b)=true→y=some r→P) (H:(if a=b then x else y)=some r):P:=ie2k (fun _=>h1) h2 H
theorem ie1k [BEq β] [LawfulBEq β] {a b:β} [Decidable (a=b)] (h1:a=b→(a == b)=true→(a != b)=false→x=some r→P) (H:(if a=b then x else none)=some r):P:=ie2k h1 (fun _ _ _ h=>by cases h) H
theorem ie1 [BEq β] [LawfulBEq β] {a b:β} [Decidable (a=b)] (h1:(a == b)=true→(a != b)=false→x=some r→P) (H:(if a=b then x else none)=some r):P:=ie2 h1 (fun _ _ _ h=>by cases h) H
theorem in2 {a:List UInt8} [Decidable (a=[])] (h1:(a == ([]:List UInt8))=true→(a != ([]:List UInt8))=false→a.isEmpty=true→x=some r→P) (h2:¬ a=[]→(a == ([]:List UInt8))=false→(a != ([]:List UInt8))=true→a.isEmpty=false→y=some r→P) (H:(if a=[] then x else y)=some r):P :=
 ie2k (fun c p q=>h1 p q (List.isEmpty_iff.mpr c)) (fun c p q=>h2 c p q (by cases a with|nil=>exact absurd rfl c|cons _ _=>rfl)) H
theorem ye {γ:Type} {u v:γ} {p q:Prop} (h:u=v) (H:q) (e:u=v→q→p:=by (intro h_ H;first|(rw [h_];with_reducible exact H)|(have H2_:=(Option.bind_some _ _).symm.trans H;rw [h_];with_reducible exact H2_)|(have H2_:=(Option.bind_some _ _).symm.trans H;with_reducible exact H2_)|with_reducible exact H|(rw [h_];exact H)|exact H)):p:=e h H
end
theorem si {α:Type} {a b:α} (h:some a=some b):a=b:=Option.some.inj h
theorem sj2 {α0 α1:Type} {a0 b0:α0} {a1 b1:α1} (h:some (a0,a1)=some (b0,b1)):a0=b0∧a1=b1:=by cases h;exact ⟨rfl,rfl⟩
theorem sj3 {α0 α1 α2:Type} {a0 b0:α0} {a1 b1:α1} {a2 b2:α2} (h:some (a0,a1,a2)=some (b0,b1,b2)):a0=b0∧a1=b1∧a2=b2:=by cases h;exact ⟨rfl,rfl,rfl⟩
theorem sj4 {α0 α1 α2 α3:Type} {a0 b0:α0} {a1 b1:α1} {a2 b2:α2} {a3 b3:α3} (h:some (a0,a1,a2,a3)=some (b0,b1,b2,b3)):a0=b0∧a1=b1∧a2=b2∧a3=b3:=by cases h;exact ⟨rfl,rfl,rfl,rfl⟩
theorem sj5 {α0 α1 α2 α3 α4:Type} {a0 b0:α0} {a1 b1:α1} {a2 b2:α2} {a3 b3:α3} {a4 b4:α4} (h:some (a0,a1,a2,a3,a4)=some (b0,b1,b2,b3,b4)):a0=b0∧a1=b1∧a2=b2∧a3=b3∧a4=b4:=by cases h;exact ⟨rfl,rfl,rfl,rfl,rfl⟩
theorem sj6 {α0 α1 α2 α3 α4 α5:Type} {a0 b0:α0} {a1 b1:α1} {a2 b2:α2} {a3 b3:α3} {a4 b4:α4} {a5 b5:α5} (h:some (a0,a1,a2,a3,a4,a5)=some (b0,b1,b2,b3,b4,b5)):a0=b0∧a1=b1∧a2=b2∧a3=b3∧a4=b4∧a5=b5:=by cases h;exact ⟨rfl,rfl,rfl,rfl,rfl,rfl⟩
theorem sj8 {α0 α1 α2 α3 α4 α5 α6 α7:Type} {a0 b0:α0} {a1 b1:α1} {a2 b2:α2} {a3 b3:α3} {a4 b4:α4} {a5 b5:α5} {a6 b6:α6} {a7 b7:α7} (h:some (a0,a1,a2,a3,a4,a5,a6,a7)=some (b0,b1,b2,b3,b4,b5,b6,b7)):a0=b0∧a1=b1∧a2=b2∧a3=b3∧a4=b4∧a5=b5∧a6=b6∧a7=b7:=by cases h;exact ⟨rfl,rfl,rfl,rfl,rfl,rfl,rfl,rfl⟩
theorem sj14 {α0 α1 α2 α3 α4 α5 α6 α7 α8 α9 α10 α11 α12 α13:Type} {a0 b0:α0} {a1 b1:α1} {a2 b2:α2} {a3 b3:α3} {a4 b4:α4} {a5 b5:α5} {a6 b6:α6} {a7 b7:α7} {a8 b8:α8} {a9 b9:α9} {a10 b10:α10} {a11 b11:α11} {a12 b12:α12} {a13 b13:α13} (h:some (a0,a1,a2,a3,a4,a5,a6,a7,a8,a9,a10,a11,a12,a13)=some (b0,b1,b2,b3,b4,b5,b6,b7,b8,b9,b10,b11,b12,b13)):a0=b0∧a1=b1∧a2=b2∧a3=b3∧a4=b4∧a5=b5∧a6=b6∧a7=b7∧a8=b8∧a9=b9∧a10=b10∧a11=b11∧a12=b12∧a13=b13:=by cases h;exact ⟨rfl,rfl,rfl,rfl,rfl,rfl,rfl,rfl,rfl,rfl,rfl,rfl,rfl,rfl⟩
theorem kz {W:World} (W':World) {g:Nat} {t:TypeId} {cs:Array Value} (h:Aside0 (W.heap[g]? = some (.cells cs t (0,0)))) (e:W.heap[g]? = some (.cells cs t (0,0))→W'.heap[g]? = some (.cells cs t (0,0)):=by (intro h;repeat (first|(with_reducible first|exact h|refine blk_drewN ?_ _|refine blk_drew ?_|refine blk_alloc ?_ _)|refine blk_far ?_ (Aside0.out (by assumption)) _|exact h))):Aside0 (W'.heap[g]? = some (.cells cs t (0,0))):=⟨e h.out⟩
structure Hld (S:World→Prop) (w:World):Prop where
 out:S w
theorem hc {w:World} {a:Addr} {v:Value} (h:w.cell? a=some v):Hld (fun w'=>w'.cell? a=some v) w:=⟨h⟩
theorem hca {w:World} {a:Addr} {v:Value} {S:World→Prop} (h:w.cell? a=some v) (s:Hld S w):Hld (fun w'=>w'.cell? a=some v∧S w') w:=⟨h,s.out⟩
theorem hb1 {w:World} {g:Nat} {t:TypeId} {v0:Value} (h:Aside0 (w.heap[g]? = some (.cells #[v0] t (0,0)))):Hld (fun w'=>w'.cell? ⟨g,0,none⟩=some v0) w:=⟨(blk_cell h.out 0).trans rfl⟩
theorem hb2 {w:World} {g:Nat} {t:TypeId} {v0 v1:Value} (h:Aside0 (w.heap[g]? = some (.cells #[v0,v1] t (0,0)))):Hld (fun w'=>w'.cell? ⟨g,0,none⟩=some v0∧w'.cell? ⟨g,1,none⟩=some v1) w:=⟨⟨(blk_cell h.out 0).trans rfl,(blk_cell h.out 1).trans rfl⟩⟩
theorem hb2a {w:World} {g:Nat} {t:TypeId} {v0 v1:Value} {S:World→Prop} (h:Aside0 (w.heap[g]? = some (.cells #[v0,v1] t (0,0)))) (s:Hld S w):Hld (fun w'=>w'.cell? ⟨g,0,none⟩=some v0∧w'.cell? ⟨g,1,none⟩=some v1∧S w') w:=⟨⟨(blk_cell h.out 0).trans rfl,(blk_cell h.out 1).trans rfl,s.out⟩⟩
theorem hb3 {w:World} {g:Nat} {t:TypeId} {v0 v1 v2:Value} (h:Aside0 (w.heap[g]? = some (.cells #[v0,v1,v2] t (0,0)))):Hld (fun w'=>w'.cell? ⟨g,0,none⟩=some v0∧w'.cell? ⟨g,1,none⟩=some v1∧w'.cell? ⟨g,2,none⟩=some v2) w:=⟨⟨(blk_cell h.out 0).trans rfl,(blk_cell h.out 1).trans rfl,(blk_cell h.out 2).trans rfl⟩⟩
theorem hb3a {w:World} {g:Nat} {t:TypeId} {v0 v1 v2:Value} {S:World→Prop} (h:Aside0 (w.heap[g]? = some (.cells #[v0,v1,v2] t (0,0)))) (s:Hld S w):Hld (fun w'=>w'.cell? ⟨g,0,none⟩=some v0∧w'.cell? ⟨g,1,none⟩=some v1∧w'.cell? ⟨g,2,none⟩=some v2∧S w') w:=⟨⟨(blk_cell h.out 0).trans rfl,(blk_cell h.out 1).trans rfl,(blk_cell h.out 2).trans rfl,s.out⟩⟩
theorem hb4 {w:World} {g:Nat} {t:TypeId} {v0 v1 v2 v3:Value} (h:Aside0 (w.heap[g]? = some (.cells #[v0,v1,v2,v3] t (0,0)))):Hld (fun w'=>w'.cell? ⟨g,0,none⟩=some v0∧w'.cell? ⟨g,1,none⟩=some v1∧w'.cell? ⟨g,2,none⟩=some v2∧w'.cell? ⟨g,3,none⟩=some v3) w:=⟨⟨(blk_cell h.out 0).trans rfl,(blk_cell h.out 1).trans rfl,(blk_cell h.out 2).trans rfl,(blk_cell h.out 3).trans rfl⟩⟩
theorem hb4a {w:World} {g:Nat} {t:TypeId} {v0 v1 v2 v3:Value} {S:World→Prop} (h:Aside0 (w.heap[g]? = some (.cells #[v0,v1,v2,v3] t (0,0)))) (s:Hld S w):Hld (fun w'=>w'.cell? ⟨g,0,none⟩=some v0∧w'.cell? ⟨g,1,none⟩=some v1∧w'.cell? ⟨g,2,none⟩=some v2∧w'.cell? ⟨g,3,none⟩=some v3∧S w') w:=⟨⟨(blk_cell h.out 0).trans rfl,(blk_cell h.out 1).trans rfl,(blk_cell h.out 2).trans rfl,(blk_cell h.out 3).trans rfl,s.out⟩⟩
theorem hb5 {w:World} {g:Nat} {t:TypeId} {v0 v1 v2 v3 v4:Value} (h:Aside0 (w.heap[g]? = some (.cells #[v0,v1,v2,v3,v4] t (0,0)))):Hld (fun w'=>w'.cell? ⟨g,0,none⟩=some v0∧w'.cell? ⟨g,1,none⟩=some v1∧w'.cell? ⟨g,2,none⟩=some v2∧w'.cell? ⟨g,3,none⟩=some v3∧w'.cell? ⟨g,4,none⟩=some v4) w:=⟨⟨(blk_cell h.out 0).trans rfl,(blk_cell h.out 1).trans rfl,(blk_cell h.out 2).trans rfl,(blk_cell h.out 3).trans rfl,(blk_cell h.out 4).trans rfl⟩⟩
theorem hb5a {w:World} {g:Nat} {t:TypeId} {v0 v1 v2 v3 v4:Value} {S:World→Prop} (h:Aside0 (w.heap[g]? = some (.cells #[v0,v1,v2,v3,v4] t (0,0)))) (s:Hld S w):Hld (fun w'=>w'.cell? ⟨g,0,none⟩=some v0∧w'.cell? ⟨g,1,none⟩=some v1∧w'.cell? ⟨g,2,none⟩=some v2∧w'.cell? ⟨g,3,none⟩=some v3∧w'.cell? ⟨g,4,none⟩=some v4∧S w') w:=⟨⟨(blk_cell h.out 0).trans rfl,(blk_cell h.out 1).trans rfl,(blk_cell h.out 2).trans rfl,(blk_cell h.out 3).trans rfl,(blk_cell h.out 4).trans rfl,s.out⟩⟩
theorem hb6 {w:World} {g:Nat} {t:TypeId} {v0 v1 v2 v3 v4 v5:Value} (h:Aside0 (w.heap[g]? = some (.cells #[v0,v1,v2,v3,v4,v5] t (0,0)))):Hld (fun w'=>w'.cell? ⟨g,0,none⟩=some v0∧w'.cell? ⟨g,1,none⟩=some v1∧w'.cell? ⟨g,2,none⟩=some v2∧w'.cell? ⟨g,3,none⟩=some v3∧w'.cell? ⟨g,4,none⟩=some v4∧w'.cell? ⟨g,5,none⟩=some v5) w:=⟨⟨(blk_cell h.out 0).trans rfl,(blk_cell h.out 1).trans rfl,(blk_cell h.out 2).trans rfl,(blk_cell h.out 3).trans rfl,(blk_cell h.out 4).trans rfl,(blk_cell h.out 5).trans rfl⟩⟩
theorem hb7 {w:World} {g:Nat} {t:TypeId} {v0 v1 v2 v3 v4 v5 v6:Value} (h:Aside0 (w.heap[g]? = some (.cells #[v0,v1,v2,v3,v4,v5,v6] t (0,0)))):Hld (fun w'=>w'.cell? ⟨g,0,none⟩=some v0∧w'.cell? ⟨g,1,none⟩=some v1∧w'.cell? ⟨g,2,none⟩=some v2∧w'.cell? ⟨g,3,none⟩=some v3∧w'.cell? ⟨g,4,none⟩=some v4∧w'.cell? ⟨g,5,none⟩=some v5∧w'.cell? ⟨g,6,none⟩=some v6) w:=⟨⟨(blk_cell h.out 0).trans rfl,(blk_cell h.out 1).trans rfl,(blk_cell h.out 2).trans rfl,(blk_cell h.out 3).trans rfl,(blk_cell h.out 4).trans rfl,(blk_cell h.out 5).trans rfl,(blk_cell h.out 6).trans rfl⟩⟩
theorem hb8 {w:World} {g:Nat} {t:TypeId} {v0 v1 v2 v3 v4 v5 v6 v7:Value} (h:Aside0 (w.heap[g]? = some (.cells #[v0,v1,v2,v3,v4,v5,v6,v7] t (0,0)))):Hld (fun w'=>w'.cell? ⟨g,0,none⟩=some v0∧w'.cell? ⟨g,1,none⟩=some v1∧w'.cell? ⟨g,2,none⟩=some v2∧w'.cell? ⟨g,3,none⟩=some v3∧w'.cell? ⟨g,4,none⟩=some v4∧w'.cell? ⟨g,5,none⟩=some v5∧w'.cell? ⟨g,6,none⟩=some v6∧w'.cell? ⟨g,7,none⟩=some v7) w:=⟨⟨(blk_cell h.out 0).trans rfl,(blk_cell h.out 1).trans rfl,(blk_cell h.out 2).trans rfl,(blk_cell h.out 3).trans rfl,(blk_cell h.out 4).trans rfl,(blk_cell h.out 5).trans rfl,(blk_cell h.out 6).trans rfl,(blk_cell h.out 7).trans rfl⟩⟩
theorem hb8a {w:World} {g:Nat} {t:TypeId} {v0 v1 v2 v3 v4 v5 v6 v7:Value} {S:World→Prop} (h:Aside0 (w.heap[g]? = some (.cells #[v0,v1,v2,v3,v4,v5,v6,v7] t (0,0)))) (s:Hld S w):Hld (fun w'=>w'.cell? ⟨g,0,none⟩=some v0∧w'.cell? ⟨g,1,none⟩=some v1∧w'.cell? ⟨g,2,none⟩=some v2∧w'.cell? ⟨g,3,none⟩=some v3∧w'.cell? ⟨g,4,none⟩=some v4∧w'.cell? ⟨g,5,none⟩=some v5∧w'.cell? ⟨g,6,none⟩=some v6∧w'.cell? ⟨g,7,none⟩=some v7∧S w') w:=⟨⟨(blk_cell h.out 0).trans rfl,(blk_cell h.out 1).trans rfl,(blk_cell h.out 2).trans rfl,(blk_cell h.out 3).trans rfl,(blk_cell h.out 4).trans rfl,(blk_cell h.out 5).trans rfl,(blk_cell h.out 6).trans rfl,(blk_cell h.out 7).trans rfl,s.out⟩⟩
theorem hb9 {w:World} {g:Nat} {t:TypeId} {v0 v1 v2 v3 v4 v5 v6 v7 v8:Value} (h:Aside0 (w.heap[g]? = some (.cells #[v0,v1,v2,v3,v4,v5,v6,v7,v8] t (0,0)))):Hld (fun w'=>w'.cell? ⟨g,0,none⟩=some v0∧w'.cell? ⟨g,1,none⟩=some v1∧w'.cell? ⟨g,2,none⟩=some v2∧w'.cell? ⟨g,3,none⟩=some v3∧w'.cell? ⟨g,4,none⟩=some v4∧w'.cell? ⟨g,5,none⟩=some v5∧w'.cell? ⟨g,6,none⟩=some v6∧w'.cell? ⟨g,7,none⟩=some v7∧w'.cell? ⟨g,8,none⟩=some v8) w:=⟨⟨(blk_cell h.out 0).trans rfl,(blk_cell h.out 1).trans rfl,(blk_cell h.out 2).trans rfl,(blk_cell h.out 3).trans rfl,(blk_cell h.out 4).trans rfl,(blk_cell h.out 5).trans rfl,(blk_cell h.out 6).trans rfl,(blk_cell h.out 7).trans rfl,(blk_cell h.out 8).trans rfl⟩⟩
section
variable {P : Program} {ops : Array Oper} {Q : Exit → Act → World → Prop} {S : World → Prop} {ds : List Nat} {id : Nat} {a : Act} {w : World} {l : Array Bool}
theorem sta (n:Nat) (hS:Hld S w.drew) (h:S w.drew→wpAnyLast P .any ops Q S [] n l a w.drew) (hm:P.follows .mixedOrders=true:=by kernel_rfl) (hn:ops.size=n:=by rfl) (hl:Array.replicate n false=l:=by rfl):(Code.region id ops true).wp P Q a w:=start_ l hm hn hl hS.out h
theorem stad (n:Nat) (ds:List Nat) (hS:Hld S w.drew) (h:S w.drew→wpAnyLast P .any ops Q S ds n l a w.drew) (hm:P.follows .mixedOrders=true:=by kernel_rfl) (hn:ops.size=n:=by rfl) (hl:Array.replicate n false=l:=by rfl):(Code.region id ops true).wp P Q a w:=start_ l hm hn hl hS.out h
end
def TyP (b:Nat) (W:World) (E:List TypeId) (k:Nat):Prop:=b≤k∧∃ q,q ∈ E∧∃ cells,W.heap[k]? = some (.cells cells q (0,0))
section
variable {α : Type} {d : Kd α} {e base b g : Nat} {W : World} {ok : Nat → Prop} {v : Value} {xs : List α} {E : List TypeId}
theorem S_tyP2 (h:Kd.S d e W base ok v xs) (hE:∀ q,q ∈ e :: d.E→q ∈ E):Kd.S d e W base (fun k=>ok k∧TyP base W E k) v xs:=Kd.S_mono (Kd.S_bound h) (fun _ hk=>⟨hk.1,hk.2.1,hk.2.2.2.elim fun q hq=>⟨q,hE q hq.1,hq.2⟩⟩)
theorem R_noTy (h:d.R e W base ok v xs) (hE:∀ q,q ∈ e :: d.E→¬ q ∈ E):d.R e W base (fun k=>ok k∧¬ TyP b W E k) v xs:=Kd.R_mono (Kd.R_bound h) (fun _ hk=>⟨hk.1,fun ht=>ht.2.elim fun q hq=>hq.2.elim fun _ hc=>hk.2.2.2.elim fun p hp=>hp.2.elim fun _ hd=>hE p hp.1 (by
 rw [hc] at hd
 injection hd with hd
 injection hd with _ hd
 rw [← hd]
 exact hq.1)⟩)
theorem blk_noTy {t:TypeId} {cells:Array Value} (hb:W.heap[g]? = some (.cells cells t (0,0))) (ht:¬ t ∈ E):¬ TyP b W E g:=fun h=>h.2.elim fun q hq=>hq.2.elim fun _ hc=>ht (by
 rw [hb] at hc
 injection hc with hc
 injection hc with _ hc
 rw [hc]
 exact hq.1)
end
structure Hol {α:Type} (d:Kd α) (e:TypeId) (P:Nat→Prop) (w0 w:World) (g n cap:Nat) (xs:List α) (i:Int) (oki:Nat→Prop) (c:List Value) (W:World):Prop where
 hH:Kd.H d e W w0.heap.size (fun k=>(P k∨w.heap.size≤k)) (.slice (some ⟨g,0,none⟩) n cap) xs i oki c
 hB:Below w0.heap.size w0 W
 hK:Kept w W P
 hP:P g∨w.heap.size≤g
 hb:w0.heap.size≤g
 h0:0≤i
 h1:i<n
section
variable {α : Type} {d : Kd α} {e : TypeId} {P oki : Nat → Prop} {w0 w W W2 : World} {g n cap : Nat} {xs : List α} {i : Int} {c : List Value} {v : Value}
theorem S_flat (hf:∀ w b ok x cs,d.M w b ok x cs→d.M w b (fun _=>False) x cs) {ok:Nat→Prop} {b:Nat} (h:d.R e W b ok v xs):Kd.S d e W b ok v xs:=by
 obtain ⟨h0,inner,ho,hr⟩:=h
 exact Kd.S_bare ⟨h0,inner,ho,hr.imp_ (fun _ _ hp=>hf _ _ _ _ _ hp)⟩
theorem hol (z:α) (i:Int) (h:Kd.S d e W w0.heap.size (fun k=>(P k∨w.heap.size≤k)) v xs) (hB:Below w0.heap.size w0 W) (hK:Kept w W P) (h0:0≤i) (h1:i<(xs.length:Int)) :
  ∃ g cap oki c,v=.slice (some ⟨g,0,none⟩) xs.length cap∧d.M W w0.heap.size oki (xs.getD i.toNat z) c∧Hol d e P w0 w g xs.length cap xs i oki c W:=by
 obtain ⟨g,cap,rfl,hb,_,_⟩:=Kd.S_form h (by omega)
 obtain ⟨oki,c,_,hM,_,_,_,hH⟩:=Kd.S_elem h z i h0 h1
 exact ⟨g,cap,oki,c,rfl,hM,hH,hB,hK,(Kd.S_R h).1 g rfl,hb,h0,h1⟩
theorem Hol.below (h:Hol d e P w0 w g n cap xs i oki c W) (hb:Below W.heap.size W W2):Hol d e P w0 w g n cap xs i oki c W2:=⟨Kd.H_below h.hH hb,below_step h.hB hb,Kept.below h.hK hb,h.hP,h.hb,h.h0,h.h1⟩
theorem Hol.put (h:Hol d e P w0 w g n cap xs i oki c W) (j:Nat) (u:Value) (hj:j+1≤d.sz) (hu:u.oneCell'=true) (hw:W2=W.setCell ⟨g,i.toNat * d.sz+j,none⟩ u):Hol d e P w0 w g n cap xs i oki (c.take j++[u]++c.drop (j+1)) W2:=by
 subst hw
 obtain ⟨q,hg⟩:=Kd.H_seg h.hH h.h0 h.h1 (seg:=[u]) (j:=j) hj (fun q hq=>by
  rw [List.mem_singleton.1 hq]
  exact hu)
 exact ⟨q,below_set h.hB h.hb,Kept.of_grown (S:=P) hg h.hK (fun k hk=>by
  injection hk with hk
  subst hk
  exact h.hP),h.hP,h.hb,h.h0,h.h1⟩
theorem Hol.nx (h:Hol d e P w0 w g n cap xs i oki c W) (s j:Nat) {u v:Value} (hs:d.sz=s) (hu:c[0]? = some u) (hv:c[j]? = some v):W.cell? ⟨g,i.toNat * s,none⟩=some u∧W.cell? ⟨g,i.toNat * s+j,none⟩=some v∧W.frozen? ⟨g,i.toNat * s+j,none⟩=false:=by
 subst hs
 obtain ⟨h1,h2⟩:=Kd.H_at h.hH h.h0 h.h1
 exact ⟨h1 0 _ hu,h1 j _ hv,h2 j⟩
theorem Hol.nz (h:Hol d e P w0 w g n cap xs i oki c W) (s:Nat) {u:Value} (hs:d.sz=s) (hu:c[0]? = some u):W.cell? ⟨g,i.toNat * s,none⟩=some u∧W.frozen? ⟨g,i.toNat * s,none⟩=false:=by
 subst hs
 obtain ⟨h1,h2⟩:=Kd.H_at h.hH h.h0 h.h1
 exact ⟨h1 0 _ hu,h2 0⟩
theorem Hol.back (h:Hol d e P w0 w g n cap xs i oki c W) (x:α) (hM:d.M W w0.heap.size oki x c):d.R e W w0.heap.size (fun k=>(P k∨w.heap.size≤k)) (.slice (some ⟨g,0,none⟩) n cap) (xs.set i.toNat x):=Kd.S_R (Kd.H_back h.hH hM (fun _ hk=>hk))
end
section
variable {α : Type} {R : α → List Value → Prop} {size : Nat} {ps qs : List α} {cs ds : List Value}
theorem reps_take (h:Reps R size ps cs) (i:Nat):Reps R size (ps.take i) (cs.take (i * size)):=by
 refine ⟨by rw [List.length_take,List.length_take,h.1,Nat.mul_min_mul_right],fun j p hj=>?_⟩
 rw [List.getElem?_take] at hj
 split at hj
 ·rename_i hlt
  have:=h.2 j p hj
  have hle:j * size+size≤i * size:=by rw [← Nat.succ_mul];exact Nat.mul_le_mul_right _ hlt
  rw [List.drop_take,List.take_take,Nat.min_eq_left (by omega)]
  exact this
 ·cases hj
theorem reps_drop (h:Reps R size ps cs) (i:Nat):Reps R size (ps.drop i) (cs.drop (i * size)):=by
 refine ⟨by rw [List.length_drop,List.length_drop,h.1,Nat.sub_mul],fun j p hj=>?_⟩
 rw [List.getElem?_drop] at hj
 have:=h.2 (i+j) p hj
 rw [List.drop_drop,← Nat.add_mul]
 exact this
theorem reps_app (h:Reps R size ps cs) (h2:Reps R size qs ds):Reps R size (ps++qs) (cs++ds):=by
 refine ⟨by rw [List.length_append,List.length_append,h.1,h2.1,Nat.add_mul],fun j p hj=>?_⟩
 rcases Nat.lt_or_ge j ps.length with hlt|hge
 ·rw [List.getElem?_append_left hlt] at hj
  have:=h.2 j p hj
  have hle:j * size+size≤cs.length:=by rw [h.1,← Nat.succ_mul];exact Nat.mul_le_mul_right _ hlt
  rw [List.drop_append_of_le_length (by omega),List.take_append_of_le_length (by rw [List.length_drop];omega)]
  exact this
 ·rw [List.getElem?_append_right hge] at hj
  have:=h2.2 (j - ps.length) p hj
  have e:j * size=cs.length+(j - ps.length) * size:=by rw [h.1,← Nat.add_mul];congr 1;omega
  rw [e,← List.drop_drop,List.drop_left]
  exact this
theorem reps_all (h:Reps R size ps cs) {q:Value→Prop} (hq:∀ p c,R p c→∀ u ∈ c,q u):∀ u ∈ cs,q u:=by
 intro u hu
 obtain ⟨k,hk,rfl⟩:=List.mem_iff_getElem.1 hu
 have hs:0<size:=by
  rcases Nat.eq_zero_or_pos size with e|e
  ·rw [h.1,e] at hk;simp at hk
  ·exact e
 have hj:k / size<ps.length:=by rw [Nat.div_lt_iff_lt_mul hs,← h.1];exact hk
 have hr:=h.2 (k / size) _ (List.getElem?_eq_getElem hj)
 have hm:k % size<size:=Nat.mod_lt _ hs
 have hd:=Nat.div_add_mod k size
 refine hq _ _ hr _ ?_
 rw [List.mem_iff_getElem?]
 refine ⟨k % size,?_⟩
 rw [List.getElem?_take,if_pos hm,List.getElem?_drop]
 have e:k / size * size+k % size=k:=by rw [Nat.mul_comm];exact hd
 rw [e]
 exact List.getElem?_eq_getElem hk
end
section
variable {α : Type} {d : Kd α} {e : Nat} {w w1 : World} {base : Nat} {ok ok1 : Nat → Prop} {v : Value} {xs : List α} {x : α} {cs : List Value}
theorem m_flat (hE:d.E=[]) (h:d.M w base ok x cs):d.M w1 base ok1 x cs:=by
 have h2:d.M w base (fun _=>False) x cs:=d.M_mono (fun k hk=>by
  obtain ⟨_,_,_,q,hq,_⟩:=hk
  rw [hE] at hq
  cases hq) (d.M_bound h)
 exact d.M_mono (fun k hk=>hk.elim) (d.M_move (w1:=w1) (fun k hk=>hk.elim) h2)
def Mfl (d:Kd α) (base:Nat) (x:α) (c:List Value):Prop:=∃ w ok,d.M w base ok x c
theorem r_row (h:d.R e w base ok v xs):(v=.slice none 0 0∧xs=[])∨∃ g cap cur,v=.slice (some ⟨g,0,none⟩) xs.length cap∧base≤g∧ok g∧w.heap[g]? = some (.cells cur e (0,0))∧xs.length≤cap∧cap≤maxLen∧cur.size=cap * d.sz∧Reps (Mfl d base) d.sz xs (cur.toList.take (xs.length * d.sz))∧(∀ u ∈ cur.toList.take (xs.length * d.sz),u.oneCell'=true):=by
 obtain ⟨hok,inner,hown,hr⟩:=h
 rcases hown.2 with ⟨e1,h0⟩ | ⟨g,cap,cur,e1,hb,hg,hle,hm,hs,ht⟩
 ·exact .inl ⟨e1,List.eq_nil_of_length_eq_zero h0⟩
 ·subst ht
  exact .inr ⟨g,cap,cur,e1,hb,hok g (by rw [e1];rfl),hg,hle,hm,hs,hr.imp_ (fun _ _ hp=>⟨_,_,hp⟩),reps_all hr (fun _ _ hp=>d.K_one (d.K_of_M hp))⟩
theorem r_mk (hE:d.E=[]) {g cap:Nat} {L:List Value} (hg:w1.heap[g]? = some (.cells L.toArray e (0,0))) (hb:base≤g) (hok:ok g) (hn:xs.length≤cap) (hm:cap≤maxLen) (hs:L.length=cap * d.sz)
  (hr:Reps (Mfl d base) d.sz xs (L.take (xs.length * d.sz))):d.R e w1 base ok (.slice (some ⟨g,0,none⟩) xs.length cap) xs:=by
 refine ⟨fun k hk=>?_,L.take (xs.length * d.sz),⟨hr.1,.inr ⟨g,cap,L.toArray,rfl,hb,hg,hn,hm,by simpa using hs,by simp⟩⟩,hr.imp_ (fun _ _ hp=>?_)⟩
 ·have:g=k:=by simpa [Value.ownBlock] using hk
  exact this ▸ hok
 ·obtain ⟨_,_,hp⟩:=hp
  exact m_flat hE hp
end
theorem kept_setRow {w W:World} {S:Nat→Prop} (h:Kept w W S) {g:Nat} (hg:S g∨w.heap.size≤g) (cs:Array Value):Kept w (W.setRow g cs) S :=
 ⟨by have:=h.1;simpa [World.setRow] using this,fun i hi hn=>(setRow_other W g i cs (fun e=>by subst e;exact hg.elim hn (fun hh=>by omega))).trans (h.2 i hi hn)⟩
section
variable {P : Program}
theorem info_sz {e:TypeId} {z:Option Value} {n b:Nat} (h:(P.info? e).map (fun i=>(i.zero,i.size,i.bytes))=some (z,n,b)):(P.info? e).map (·.size)=some n:=by
 cases hq:P.info? e with
 | none=>simp [hq] at h
 | some i =>
  simp only [hq,Option.map_some,Option.some.injEq,Prod.mk.injEq] at h ⊢
  exact h.2.1
theorem run_copyN (w:World) (dT sT ty elem:TypeId) (sz g o dLen dCap:Nat) (a:Addr) (sLen sCap:Nat) (cur:List Value) (t:TypeId) (cs:List Value)
  (hu:P.underlying dT=some (.slice elem)) (hs:(P.info? elem).map (·.size)=some sz)
  (hg:w.heap[g]? = some (.cells cur.toArray t (0,0))) (hn:cs.length=Nat.min sLen dLen * sz)
  (hsrc:∀ j v,cs[j]? = some v→w.cell? (a.add j)=some v) (hfit:o+cs.length≤cur.length) (h1:∀ v ∈ cs,v.oneCell'=true) :
  (Builtin.copy_ #[dT,sT] ty #[.slice (some ⟨g,o,none⟩) dLen dCap,.slice (some a) sLen sCap]).run P w =
   .ok (goInt (Nat.min sLen dLen)) (w.setRow g (splice cur o cs).toArray):=by
 have hl:=run_loadCells_list (P:=P) w a cs hsrc
 have hst:=run_storeCells_at P g o t cs 0 cur.toArray w hg (by simpa using hfit) h1
 cases hq:P.info? elem with
 | none=>simp [hq] at hs
 | some i =>
  have hi:i.size=sz:=by simpa [hq] using hs
  simp [Builtin.copy_,run_underlying hu,Builtin.lenOf,Builtin.firstCells,sizeOf,typeInfo,hq,hi,← hn,hl,hst,splice]
theorem wpList_copyN {w:World} {ops:Array Oper} {rest:List Oper} {o:Oper} {a:Act} {Q:Exit→Act→World→Prop} (hgd:o.guard=none) (d s:Operand) (dT sT:TypeId)
  (ho:o.op=.call { callee:=.builtin .copy,args:=#[d,s],argTypes:=#[dT,sT] }) (v u:Value) (hd:a.eval d=v) (hs:a.eval s=u) {v':Value} {w':World}
  (hr:(Builtin.copy_ #[dT,sT] o.type #[v,u]).run P w=.ok v' w') (h:wpList P ops Q rest (a.put o.dst v') w'):wpList P ops Q (o :: rest) a w:=by
 refine wpList_plain hgd fun K hK=>?_
 unfold Oper.wp
 simp [execOp,ho,resolve,invoke,builtin,hd,hs,hr,Result.andThen]
 exact hK _ _ h
theorem step_copyN {ops:Array Oper} {o:Oper} {a:Act} {w:World} {K:Act→World→Prop} {Q:Exit→Act→World→Prop} {E:Prop}
  (hgd:o.guard=none) (d s:Operand) (dT sT:TypeId) (ho:o.op=.call { callee:=.builtin .copy,args:=#[d,s],argTypes:=#[dT,sT] })
  (v u:Value) (hd:a.eval d=v) (hs:a.eval s=u) {v':Value} {w':World} (hr:(Builtin.copy_ #[dT,sT] o.type #[v,u]).run P w=.ok v' w') (hK:K (a.put o.dst v') w') :
  if Region.wanted o (yielded ops a.tmps)=true then Oper.wp P o a w K Q else E:=by
 have hw:Region.wanted o (yielded ops a.tmps)=true:=by simp [Region.wanted,hgd]
 rw [if_pos hw]
 unfold Oper.wp
 simp [execOp,ho,resolve,invoke,builtin,hd,hs,hr,Result.andThen]
 exact hK
theorem wpList_runB {w:World} {ops:Array Oper} {rest:List Oper} {o:Oper} {a:Act} {Q:Exit→Act→World→Prop} (hgd:o.guard=none) (d s:Operand) (dT sT:TypeId)
  (ho:o.op=.call { callee:=.builtin .append,args:=#[d,s],argTypes:=#[dT,sT] }) (v u:Value) (hd:a.eval d=v) (hs:a.eval s=u) {v':Value} {w':World}
  (hr:(Builtin.append_ #[dT,sT] o.type #[v,u]).run P w=.ok v' w') (h:wpList P ops Q rest (a.put o.dst v') w'):wpList P ops Q (o :: rest) a w:=by
 refine wpList_plain hgd fun K hK=>?_
 unfold Oper.wp
 simp [execOp,ho,resolve,invoke,builtin,hd,hs,hr,Result.andThen]
 exact hK _ _ h
end
theorem cellrow {w:World} {g:Nat} {cur:Array Value} {t:TypeId} (hg:w.heap[g]? = some (.cells cur t (0,0))) (o:Nat) (I:List Value) (hI:∀ j v,I[j]? = some v→cur.toList[o+j]? = some v) :
  ∀ j v,I[j]? = some v→w.cell? ((⟨g,o,none⟩:Addr).add j)=some v:=by
 intro j v hj
 have hadd:(⟨g,o,none⟩:Addr).add j=⟨g,o+j,none⟩:=by unfold Addr.add;split <;> simp_all
 rw [hadd,cell_of_row w g (o+j) cur t (0,0) hg]
 simpa using hI j v hj
theorem ins_room (C:List Value) (N a s:Nat) (V:List Value) (ha:a≤N) (hV:V.length=s) (hC:N+s≤C.length) :
  (splice (splice C (a+s) ((C.take N).drop a)) a V).take (N+s)=(C.take N).take a++V++(C.take N).drop a∧(splice (splice C (a+s) ((C.take N).drop a)) a V).length=C.length:=by
 have hX:((C.take N).drop a).length=N - a:=by rw [List.length_drop,List.length_take];omega
 have e1:splice C (a+s) ((C.take N).drop a)=C.take (a+s)++((C.take N).drop a++C.drop (N+s)):=by
  unfold splice
  rw [hX]
  have:a+s+(N - a)=N+s:=by omega
  rw [this]
 have e2:splice (splice C (a+s) ((C.take N).drop a)) a V=C.take a++(V++((C.take N).drop a++C.drop (N+s))):=by
  rw [e1]
  unfold splice
  have hl:(C.take (a+s)).length=a+s:=by rw [List.length_take];omega
  rw [List.take_append_of_le_length (by omega),List.take_take,Nat.min_eq_left (by omega),hV,List.drop_append_of_le_length (by omega)]
  rw [List.drop_of_length_le (by omega)]
  rfl
 refine ⟨?_,?_⟩
 ·rw [e2,List.take_take,Nat.min_eq_left (by omega)]
  rw [← List.append_assoc,← List.append_assoc,List.take_append_of_le_length (by simp [hX,hV];omega)]
  apply List.take_of_length_le
  simp [hV];omega
 ·rw [e2]
  simp [hV];omega
theorem ins_new (Z:List Value) (a s:Nat) (V X:List Value) (hV:V.length=s) (hC:a+s+X.length≤Z.length) :
  (splice (splice Z a V) (a+s) X).take (a+s+X.length)=Z.take a++V++X∧(splice (splice Z a V) (a+s) X).length=Z.length:=by
 have hl:(Z.take a++V).length=a+s:=by simp [hV];omega
 have e1:splice Z a V=(Z.take a++V)++Z.drop (a+s):=by
  unfold splice
  rw [hV,List.append_assoc]
 have e2:splice (splice Z a V) (a+s) X=(Z.take a++V)++(X++Z.drop (a+s+X.length)):=by
  rw [e1]
  unfold splice
  rw [List.take_append_of_le_length (by omega),List.take_of_length_le (by omega)]
  have hz:(Z.take a++V).drop (a+s)=[]:=List.drop_of_length_le (by omega)
  rw [← List.drop_drop,List.drop_append_of_le_length (by omega),hz,List.nil_append,List.drop_drop]
 refine ⟨?_,?_⟩
 ·rw [e2,← List.append_assoc,List.take_append_of_le_length (by simp [hV];omega)]
  apply List.take_of_length_le
  simp [hV];omega
 ·rw [e2]
  simp [hV];omega
section
variable {P : Program}
end
end Go.Proofs.YtomoflpgdbjojaaGreatW.PrintMore
namespace Go.Proofs.YtomoflpgdbjojaaGreat.Bs
open Go.Op
theorem less_irrefl:∀ a:List UInt8,bytesLess a a=false
 | []=>rfl
 | x :: a=>by simp [bytesLess,less_irrefl a]
theorem less_tri:∀ a b:List UInt8,(!(bytesLess a b || a == b))=bytesLess b a
 | [],[]=>rfl
 | [],_ :: _=>rfl
 | _ :: _,[]=>rfl
 | x :: a,y :: b=>by
  have ih:=less_tri a b
  by_cases h1:x<y
  ·have h2:¬ y<x:=fun h=>by have:=UInt8.lt_iff_toNat_lt.1 h;have:=UInt8.lt_iff_toNat_lt.1 h1;omega
   have h3:¬ x=y:=fun h=>by subst h;have:=UInt8.lt_iff_toNat_lt.1 h1;omega
   have h4:¬ y=x:=fun h=>h3 h.symm
   simp [bytesLess,h1,h2,h4]
  ·by_cases h2:y<x
   ·have h3:¬ x=y:=fun h=>by subst h;have:=UInt8.lt_iff_toNat_lt.1 h2;omega
    simp [bytesLess,h1,h2,h3]
   ·have h3:x=y:=UInt8.toNat_inj.1 (by
     have e1:=mt UInt8.lt_iff_toNat_lt.2 h1
     have e2:=mt UInt8.lt_iff_toNat_lt.2 h2
     omega)
    subst h3
    have e1:bytesLess (x :: b) (x :: a)=bytesLess b a:=by simp [bytesLess]
    have e2:bytesLess (x :: a) (x :: b)=bytesLess a b:=by simp [bytesLess]
    have e3:(x :: a == x :: b)=(a == b):=by simp
    rw [e1,e2,e3]
    exact ih
@[go_sem] theorem binOp_gtr (t:TypeId) (a b:ByteArray):binOp .gtr t (.string a) (.string b)=pure (.bool (bytesLess b.toList a.toList)):=by
 rw [← less_tri]
 simp [binOp,Op.stringOp]
@[go_sem] theorem binOp_leq (t:TypeId) (a b:ByteArray):binOp .leq t (.string a) (.string b)=pure (.bool !(bytesLess b.toList a.toList)):=by
 rw [← less_tri]
 simp [binOp,Op.stringOp]
@[go_sem] theorem binOp_geq (t:TypeId) (a b:ByteArray):binOp .geq t (.string a) (.string b)=pure (.bool !(bytesLess a.toList b.toList)):=by
 simp [binOp,Op.stringOp]
end Go.Proofs.YtomoflpgdbjojaaGreat.Bs
