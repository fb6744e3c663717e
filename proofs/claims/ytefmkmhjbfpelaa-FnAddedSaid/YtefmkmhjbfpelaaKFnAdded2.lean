-- Merged by a program of this session (wip/tool/pack.py) out of its own texts for this claim.
import Derived.Laws.CopyOwn
import Derived.Lib.AppendZerosOnto
import Derived.Lib.Overlaps
import Derived.Laws.NewBlocks
import Derived.WalkSpells
import Derived.WalkKit
import Derived.Laws.Strings
import Derived.Test.YtefmkmhjbfpelaaProg
import Derived.Below
import Derived.Deep.Draws
import Derived.Deep.AppendLies
import Derived.Maps.AppendAt
import Derived.OwnWalk
import Derived.Laws.BytesArg
import Derived.Laws.MakeOwn
import Derived.Laws.OwnMore
import Derived.Deep.OwnRows
import Derived.Tactics
import Derived.Lib.ConvBytes
import Derived.Laws.Slices
import Derived.KernelRfl
import Derived.RowKit3
import Derived.Deep.LoopGhost
import Derived.Deep.QuietTactic
import Derived.BigQuiet
import Derived.WideLaws
import Derived.Deep.DeepCutAuto
import Derived.Deep.CutBlock
import Derived.Deep.RegionHeld3
import Derived.Laws.Rows
import Derived.Lib.AppendStr
import Derived.ArgAppend
import Derived.Laws.IdiomCopy
import Derived.OrdersHeld
import Derived.Laws.BitsLemmas
import Derived.RowKit
import Derived.StillTailTactics
import Derived.Lib.Bytealg
import Derived.Test.YtefmkmhjbfpelaaKFnAdded0
import Derived.Test.YtefmkmhjbfpelaaKFnAdded1
namespace Go.Proofs.YtefmkmhjbfpelaaW.PrintMore
open Go.RowKit Go.Proofs.YtefmkmhjbfpelaaW.PrintWords Go.Proofs.YtefmkmhjbfpelaaW.PrintLast
section
variable {P : Program} {ops : Array Oper} {Q : Exit → Act → World → Prop} {md : Region.Mode} {S : World → Prop} {ds : List Nat} {T : Bool × List (List Nat × List Nat)} {B : List Nat} {fuel : Nat} {l : Array Bool} {a a' : Act} {w : World} {oi : Oper} {v : Value}
theorem pA (i N : Nat) (hT : Aside0 (rtab md ops = T)) (h : wpAnyLast P md ops Q S ds fuel (l.setIfInBounds i true) a' w)
    (hi : ops[i]? = some oi := by exact rfl) (hN : oi.dst = some N := by exact rfl) (hc : anyT T l.toList (l.setIfInBounds i true).toList i = true := by kernel_rfl)
    (hw : Region.wanted oi (yielded ops a.tmps) = true := by rfl) (hy : ∀ w, (execOp a.eval oi).run P w = .ok (.value v) w := by (intro w'; go_simp; with_reducible rfl))
    (ha : a.put (some N) v = a' := by (simp only [Act.put, List.setIfInBounds_toArray, List.set_cons_zero, List.set_cons_succ, i64_w, i32_w]; rfl))
    (hQ : ∀ c a w, Q (.panic c) (a.put oi.dst v) w → Q (.panic c) a w := by exact fun _ _ _ h => h) : wpAnyLast P md ops Q S ds (fuel + 1) l a w :=
  pure_ _ hi hN (any_of hT.out hc) hQ (Or.inl ⟨hw, hy⟩) ha h
theorem pB (i N : Nat) (hT : Aside0 (rtab md ops = T)) (h : wpAnyLast P md ops Q S ds fuel (l.setIfInBounds i true) a' w)
    (hi : ops[i]? = some oi := by exact rfl) (hN : oi.dst = some N := by exact rfl) (hc : anyT T l.toList (l.setIfInBounds i true).toList i = true := by kernel_rfl)
    (hw : Region.wanted oi (yielded ops a.tmps) = false := by rfl)
    (ha : a.put (some N) undef = a' := by (simp only [Act.put, List.setIfInBounds_toArray, List.set_cons_zero, List.set_cons_succ, i64_w, i32_w]; rfl))
    (hQ : ∀ c a w, Q (.panic c) (a.put oi.dst undef) w → Q (.panic c) a w := by exact fun _ _ _ h => h) : wpAnyLast P md ops Q S ds (fuel + 1) l a w :=
  pure_ _ hi hN (any_of hT.out hc) hQ (Or.inr ⟨hw, rfl⟩) ha h
theorem tA (i N : Nat) (hT : Aside0 (rtab md ops = T)) (hB : Aside0 (waitsOk T.2 B = true)) (hS : S w) (h : wpAnyLast P md ops Q S ds fuel (l.setIfInBounds i true) a' w)
    (hi : ops[i]? = some oi := by exact rfl) (hN : oi.dst = some N := by exact rfl) (hc : takeW T B ds l.toList (l.setIfInBounds i true).toList i = true := by kernel_rfl)
    (hw : Region.wanted oi (yielded ops a.tmps) = true := by rfl) (hy : ∀ w, S w → (execOp a.eval oi).run P w = .ok (.value v) w := by (intro w' hs; go_simp; with_reducible rfl))
    (ha : a.put (some N) v = a' := by (simp only [Act.put, List.setIfInBounds_toArray, List.set_cons_zero, List.set_cons_succ, i64_w, i32_w]; rfl))
    (hQ : ∀ c a w, Q (.panic c) (a.put oi.dst v) w → Q (.panic c) a w := by exact fun _ _ _ h => h) : wpAnyLast P md ops Q S ds (fuel + 1) l a w :=
  take_ _ hi hN (take_ofW hT.out hB.out hc) hQ (Or.inl ⟨hw, hy⟩) hS ha h
theorem oA (i N : Nat) (hT : Aside0 (rtab md ops = T))
    (h : ∀ K : Act → World → Prop, Shut (∀ a' w', S w' → (S w' → wpAnyLast P md ops Q S ds fuel (l.setIfInBounds i true) a' w') → K a' w') → if Region.wanted oi (yielded ops a.tmps) = true then Oper.wp P oi a w K Q else K (a.put (some N) undef) w)
    (hi : ops[i]? = some oi := by exact rfl) (hN : oi.dst = some N := by exact rfl) (hc : (readyT T.2 l.toList == [i] && l.toList.set i true == (l.setIfInBounds i true).toList) = true := by kernel_rfl) (hd : i ∉ ds := by decide) : wpAnyLast P md ops Q S ds (fuel + 1) l a w :=
  one_ _ hi hN (one_of hT.out hc) hd h
theorem gA {N : Option Tmp} {K : Act → World → Prop} {f : FuncId} {fn : Func} {as_0 : Array Operand} {ts : Array TypeId} (hf : P.funcs[f]? = some fn) (args : Array Value)
    (h : Calls P f args w fun e w' => ∃ v, e = .returned v ∧ K (a.put N v) w') (hname : (fn.name == "runtime.NumGoroutine") = false := by kernel_rfl) (hb : fn.body.isSome = true := by exact rfl)
    (hw : Region.wanted oi (yielded ops a.tmps) = true := by rfl) (hN : oi.dst = N := by exact rfl) (hop : oi.op = .call { callee := .value (.func f), args := as_0, argTypes := ts } := by exact rfl)
    (hargs : as_0.map a.eval = args := by (try simp only [List.map_toArray, List.map_cons, List.map_nil]); first | done | rfl | (simp only [List.length_drop, List.length_take]; rfl)) : if Region.wanted oi (yielded ops a.tmps) = true then Oper.wp P oi a w K Q else K (a.put N undef) w :=
  goes_ hf hname hb args hw hN hop hargs h
theorem nA (N : Nat) (h : wpAnyLast P md ops Q S ds fuel l a' w) (ha : a.put (some N) v = a' := by (simp only [Act.put, List.setIfInBounds_toArray, List.set_cons_zero, List.set_cons_succ, i64_w, i32_w]; rfl)) : wpAnyLast P md ops Q S ds fuel l (a.put (some N) v) w := norm_ ha h
end
section
variable {P : Program} {ops : Array Oper} {Q : Exit → Act → World → Prop} {o : Oper} {rest : List Oper} {a : Act}
theorem bx {W : World} (N : Tmp) {cs : Array Value} {t : TypeId} (h : ∀ g, g = W.heap.size → ∀ w1, w1.heap[g]? = some (.cells cs t (0, 0)) → Below W.heap.size W w1 → wpList P ops Q rest (a.put o.dst (.pointer (some ⟨g, 0, none⟩))) w1)
    (hd : o.dst = some N := by rfl) (hg : o.guard = none := by rfl) (hr : (execOp a.eval o).run P W = .ok (.value (.pointer (some ⟨W.heap.size, 0, none⟩))) (W.alloc (.cells cs t (0, 0))) := by first | (go_simp; done) | (go_simp; rfl)) : wpList P ops Q (o :: rest) a W :=
  box_event hg hd hr h
end
theorem _root_.Go.Proofs.YtefmkmhjbfpelaaW.PrintWords.KeepBut.far {w w1 w2 : World} {g gl : Nat} {row : Option Nat} (h : KeepBut w w1 g row) (k : KeepBut w1 w2 gl none) (hge : w.heap.size ≤ gl) : KeepBut w w2 g row :=
  ⟨Nat.le_trans h.1 k.1, fun i hi hg hr => (k.2 i (Nat.lt_of_lt_of_le hi h.1) (by omega) (by simp)).trans (h.2 i hi hg hr)⟩
theorem bs {w W W' : World} (h : Aside0 (Below w.heap.size w W)) (e : Below w.heap.size w W → Below w.heap.size w W' := by (intro h; repeat (first | (with_reducible first | exact h | apply below_alloc | apply pw_below_drewN | apply below_drew1) | refine below_set ?_ (Aside0.out (by assumption)) | exact h))) : Below w.heap.size w W' := e h.out
theorem ks {W W' : World} {g : Nat} {t : TypeId} {cs : Array Value} (h : Aside0 (W.heap[g]? = some (.cells cs t (0, 0)))) (e : W.heap[g]? = some (.cells cs t (0, 0)) → W'.heap[g]? = some (.cells cs t (0, 0)) := by (intro h; repeat (first | (with_reducible first | exact h | refine blk_drewN ?_ _ | refine blk_drew ?_ | refine blk_alloc ?_ _) | refine blk_far ?_ (Aside0.out (by assumption)) _ | exact h))) : W'.heap[g]? = some (.cells cs t (0, 0)) := e h.out
theorem rs {α : Type} {d : Kd α} {e base : Nat} {W W' : World} {ok : Nat → Prop} {v : Value} {xs : List α} (h : Aside0 (d.R e W base ok v xs)) (k : d.R e W base ok v xs → d.R e W' base ok v xs := by (intro h; (with_reducible repeat (first | apply Kd.R_alloc | apply Kd.R_drewN | apply Kd.R_drew)); exact h)) : d.R e W' base ok v xs := k h.out
theorem put0 {w : World} {g : Nat} {t : TypeId} {cs : Array Value} (h : w.heap[g]? = some (.cells cs t (0, 0))) (i : Nat) (u : Value) : (w.setCell ⟨g, i, none⟩ u).heap[g]? = some (.cells (cs.setIfInBounds i u) t (0, 0)) := blk_put h i u rfl
theorem fin0 {w : World} {g : Nat} {t : TypeId} {cs cs' : Array Value} (h : w.heap[g]? = some (.cells cs t (0, 0))) (e : cs = cs') : w.heap[g]? = some (.cells cs' t (0, 0)) := e ▸ h
theorem far0 {w : World} {g : Nat} {t : TypeId} {p : Addr} (hp : Aside0 (g ≠ p.block)) {cs : Array Value} (h : w.heap[g]? = some (.cells cs t (0, 0))) (u : Value) : (w.setCell p u).heap[g]? = some (.cells cs t (0, 0)) := blk_far h hp.out u
theorem kp {W W' : World} {g : Nat} {t : TypeId} {cs cs' : Array Value} (h : Aside0 (W.heap[g]? = some (.cells cs t (0, 0)))) (e : W.heap[g]? = some (.cells cs t (0, 0)) → W'.heap[g]? = some (.cells cs' t (0, 0)) := by (intro h; apply fin0; (· repeat (first | (with_reducible first | exact h | refine blk_drewN ?_ _ | refine blk_drew ?_ | refine blk_alloc ?_ _) | (with_reducible apply put0) | ((with_reducible apply far0); assumption) | exact h)); (· first | (simp only [List.setIfInBounds_toArray, List.set_cons_zero, List.set_cons_succ]; done) | rfl))) : W'.heap[g]? = some (.cells cs' t (0, 0)) := e h.out
theorem gs {w W : World} {g : Nat} (hg : g = W.heap.size) (h : Below w.heap.size w W) : w.heap.size ≤ g := hg ▸ h.size
theorem gn {W : World} {g g' : Nat} {o : Obj} (hg : g' = W.heap.size) (h : W.heap[g]? = some o) : g ≠ g' := by rw [hg]; exact Nat.ne_of_lt (blk_lt h)
theorem gm {W : World} {g g' : Nat} {o : Obj} (hg : g' = W.heap.size) (h : W.heap[g]? = some o) : g' ≠ g := (gn hg h).symm
theorem oa {p : Prop} [Decidable p] (h : decide p = true := by first | (with_reducible assumption) | assumption) : p := of_decide_eq_true h
theorem rf {α : Type} {d : Kd α} {e base : Nat} {W W' : World} {ok : Nat → Prop} {v : Value} {xs : List α} (h : d.R e W base ok v xs) (k : d.R e W base ok v xs → d.R e W' base ok v xs := by (intro h; repeat (first | (with_reducible first | exact h | apply Kd.R_alloc | apply Kd.R_drewN | apply Kd.R_drew) | refine Kd.R_far ?_ (fun _ hk => hk.2) _ | exact h))) : d.R e W' base ok v xs := k h
theorem cb {w W : World} {p : Addr} {v : Value} (h : Aside0 (Below w.heap.size w W)) (hx : w.cell? p = some v) : W.cell? p = some v := (h.out.cell (World.block_lt_of_cell? w _ hx)).trans hx
theorem ff {p : Prop} (h : p := by first | rfl | (simp [errW_none, errW_some] <;> rfl) | (simp [*, errW_none, errW_some] <;> rfl)) : p := h
theorem fg {p : Prop} (h : p := by first | rfl | (simp; done) | (simp [*]; done)) : p := h
theorem fl {m n : Nat} (h : m ≤ n := by first | omega | exact Nat.le_refl _) : m ≤ n := h
theorem cf4 {w : World} {g : Nat} {t : TypeId} {v0 v1 v2 v3 : Value} (h : Aside0 (w.heap[g]? = some (.cells #[v0, v1, v2, v3] t (0, 0)))) : w.cell? ⟨g, 0, none⟩ = some v0 ∧ w.cell? ⟨g, 1, none⟩ = some v1 ∧ w.cell? ⟨g, 2, none⟩ = some v2 ∧ w.cell? ⟨g, 3, none⟩ = some v3 ∧ w.frozen? ⟨g, 0, none⟩ = false ∧ w.frozen? ⟨g, 1, none⟩ = false ∧ w.frozen? ⟨g, 2, none⟩ = false ∧ w.frozen? ⟨g, 3, none⟩ = false :=
  ⟨(blk_cell h.out 0).trans rfl, (blk_cell h.out 1).trans rfl, (blk_cell h.out 2).trans rfl, (blk_cell h.out 3).trans rfl, blk_frozen h.out 0, blk_frozen h.out 1, blk_frozen h.out 2, blk_frozen h.out 3⟩
theorem cf8 {w : World} {g : Nat} {t : TypeId} {v0 v1 v2 v3 v4 v5 v6 v7 : Value} (h : Aside0 (w.heap[g]? = some (.cells #[v0, v1, v2, v3, v4, v5, v6, v7] t (0, 0)))) : w.cell? ⟨g, 0, none⟩ = some v0 ∧ w.cell? ⟨g, 1, none⟩ = some v1 ∧ w.cell? ⟨g, 2, none⟩ = some v2 ∧ w.cell? ⟨g, 3, none⟩ = some v3 ∧ w.cell? ⟨g, 4, none⟩ = some v4 ∧ w.cell? ⟨g, 5, none⟩ = some v5 ∧ w.cell? ⟨g, 6, none⟩ = some v6 ∧ w.cell? ⟨g, 7, none⟩ = some v7 ∧ w.frozen? ⟨g, 0, none⟩ = false ∧ w.frozen? ⟨g, 1, none⟩ = false ∧ w.frozen? ⟨g, 2, none⟩ = false ∧ w.frozen? ⟨g, 3, none⟩ = false ∧ w.frozen? ⟨g, 4, none⟩ = false ∧ w.frozen? ⟨g, 5, none⟩ = false ∧ w.frozen? ⟨g, 6, none⟩ = false ∧ w.frozen? ⟨g, 7, none⟩ = false :=
  ⟨(blk_cell h.out 0).trans rfl, (blk_cell h.out 1).trans rfl, (blk_cell h.out 2).trans rfl, (blk_cell h.out 3).trans rfl, (blk_cell h.out 4).trans rfl, (blk_cell h.out 5).trans rfl, (blk_cell h.out 6).trans rfl, (blk_cell h.out 7).trans rfl, blk_frozen h.out 0, blk_frozen h.out 1, blk_frozen h.out 2, blk_frozen h.out 3, blk_frozen h.out 4, blk_frozen h.out 5, blk_frozen h.out 6, blk_frozen h.out 7⟩
end Go.Proofs.YtefmkmhjbfpelaaW.PrintMore
namespace Go.Proofs.YtefmkmhjbfpelaaW.PrintMore
open Go.RowKit Go.Proofs.YtefmkmhjbfpelaaW.PrintWords Go.Proofs.YtefmkmhjbfpelaaW.PrintLast
section
variable {α : Type} {R : α → List Value → Prop} {size : Nat} {ps qs : List α} {cs ds : List Value}
theorem reps_take (h : Reps R size ps cs) (i : Nat) : Reps R size (ps.take i) (cs.take (i * size)) := by
  refine ⟨by rw [List.length_take, List.length_take, h.1, Nat.mul_min_mul_right], fun j p hj => ?_⟩
  rw [List.getElem?_take] at hj
  split at hj
  · rename_i hlt
    have := h.2 j p hj
    have hle : j * size + size ≤ i * size := by rw [← Nat.succ_mul]; exact Nat.mul_le_mul_right _ hlt
    rw [List.drop_take, List.take_take, Nat.min_eq_left (by omega)]
    exact this
  · cases hj
theorem reps_drop (h : Reps R size ps cs) (i : Nat) : Reps R size (ps.drop i) (cs.drop (i * size)) := by
  refine ⟨by rw [List.length_drop, List.length_drop, h.1, Nat.sub_mul], fun j p hj => ?_⟩
  rw [List.getElem?_drop] at hj
  have := h.2 (i + j) p hj
  rw [List.drop_drop, ← Nat.add_mul]
  exact this
theorem reps_app (h : Reps R size ps cs) (h2 : Reps R size qs ds) : Reps R size (ps ++ qs) (cs ++ ds) := by
  refine ⟨by rw [List.length_append, List.length_append, h.1, h2.1, Nat.add_mul], fun j p hj => ?_⟩
  rcases Nat.lt_or_ge j ps.length with hlt | hge
  · rw [List.getElem?_append_left hlt] at hj
    have := h.2 j p hj
    have hle : j * size + size ≤ cs.length := by rw [h.1, ← Nat.succ_mul]; exact Nat.mul_le_mul_right _ hlt
    rw [List.drop_append_of_le_length (by omega), List.take_append_of_le_length (by rw [List.length_drop]; omega)]
    exact this
  · rw [List.getElem?_append_right hge] at hj
    have := h2.2 (j - ps.length) p hj
    have e : j * size = cs.length + (j - ps.length) * size := by rw [h.1, ← Nat.add_mul]; congr 1; omega
    rw [e, ← List.drop_drop, List.drop_left]
    exact this
theorem reps_all (h : Reps R size ps cs) {q : Value → Prop} (hq : ∀ p c, R p c → ∀ u ∈ c, q u) : ∀ u ∈ cs, q u := by
  intro u hu
  obtain ⟨k, hk, rfl⟩ := List.mem_iff_getElem.1 hu
  have hs : 0 < size := by
    rcases Nat.eq_zero_or_pos size with e | e
    · rw [h.1, e] at hk; simp at hk
    · exact e
  have hj : k / size < ps.length := by rw [Nat.div_lt_iff_lt_mul hs, ← h.1]; exact hk
  have hr := h.2 (k / size) _ (List.getElem?_eq_getElem hj)
  have hm : k % size < size := Nat.mod_lt _ hs
  have hd := Nat.div_add_mod k size
  refine hq _ _ hr _ ?_
  rw [List.mem_iff_getElem?]
  refine ⟨k % size, ?_⟩
  rw [List.getElem?_take, if_pos hm, List.getElem?_drop]
  have e : k / size * size + k % size = k := by rw [Nat.mul_comm]; exact hd
  rw [e]
  exact List.getElem?_eq_getElem hk
end
section
variable {α : Type} {d : Kd α} {e : Nat} {w w1 : World} {base : Nat} {ok ok1 : Nat → Prop} {v : Value} {xs : List α} {x : α} {cs : List Value}
theorem m_flat (hE : d.E = []) (h : d.M w base ok x cs) : d.M w1 base ok1 x cs := by
  have h2 : d.M w base (fun _ => False) x cs := d.M_mono (fun k hk => by
    obtain ⟨_, _, _, q, hq, _⟩ := hk
    rw [hE] at hq
    cases hq) (d.M_bound h)
  exact d.M_mono (fun k hk => hk.elim) (d.M_move (w1 := w1) (fun k hk => hk.elim) h2)
def Mfl (d : Kd α) (base : Nat) (x : α) (c : List Value) : Prop := ∃ w ok, d.M w base ok x c
theorem r_row (h : d.R e w base ok v xs) : (v = .slice none 0 0 ∧ xs = []) ∨ ∃ g cap cur, v = .slice (some ⟨g, 0, none⟩) xs.length cap ∧ base ≤ g ∧ ok g ∧ w.heap[g]? = some (.cells cur e (0, 0)) ∧ xs.length ≤ cap ∧ cap ≤ maxLen ∧ cur.size = cap * d.sz ∧ Reps (Mfl d base) d.sz xs (cur.toList.take (xs.length * d.sz)) ∧ (∀ u ∈ cur.toList.take (xs.length * d.sz), u.oneCell' = true) := by
  obtain ⟨hok, inner, hown, hr⟩ := h
  rcases hown.2 with ⟨e1, h0⟩ | ⟨g, cap, cur, e1, hb, hg, hle, hm, hs, ht⟩
  · exact .inl ⟨e1, List.eq_nil_of_length_eq_zero h0⟩
  · subst ht
    exact .inr ⟨g, cap, cur, e1, hb, hok g (by rw [e1]; rfl), hg, hle, hm, hs, hr.imp_ (fun _ _ hp => ⟨_, _, hp⟩), reps_all hr (fun _ _ hp => d.K_one (d.K_of_M hp))⟩
theorem r_mk (hE : d.E = []) {g cap : Nat} {L : List Value} (hg : w1.heap[g]? = some (.cells L.toArray e (0, 0))) (hb : base ≤ g) (hok : ok g) (hn : xs.length ≤ cap) (hm : cap ≤ maxLen) (hs : L.length = cap * d.sz)
    (hr : Reps (Mfl d base) d.sz xs (L.take (xs.length * d.sz))) : d.R e w1 base ok (.slice (some ⟨g, 0, none⟩) xs.length cap) xs := by
  refine ⟨fun k hk => ?_, L.take (xs.length * d.sz), ⟨hr.1, .inr ⟨g, cap, L.toArray, rfl, hb, hg, hn, hm, by simpa using hs, by simp⟩⟩, hr.imp_ (fun _ _ hp => ?_)⟩
  · have : g = k := by simpa [Value.ownBlock] using hk
    exact this ▸ hok
  · obtain ⟨_, _, hp⟩ := hp
    exact m_flat hE hp
end
theorem kept_setRow {w W : World} {S : Nat → Prop} (h : Kept w W S) {g : Nat} (hg : S g ∨ w.heap.size ≤ g) (cs : Array Value) : Kept w (W.setRow g cs) S :=
  ⟨by have := h.1; simpa [World.setRow] using this, fun i hi hn => (setRow_other W g i cs (fun e => by subst e; exact hg.elim hn (fun hh => by omega))).trans (h.2 i hi hn)⟩
section
variable {P : Program}
theorem goesV_ {ops : Array Oper} {Q : Exit → Act → World → Prop} {oi : Oper} {N : Option Tmp} {a : Act} {w : World} {K : Act → World → Prop} {f : FuncId} {fn : Func} {c : Operand} {as_ : Array Operand} {ts : Array TypeId} (hf : P.funcs[f]? = some fn) (hname : (fn.name == "runtime.NumGoroutine") = false) (hb : fn.body.isSome = true) (args : Array Value)
    (hw : Region.wanted oi (yielded ops a.tmps) = true) (hN : oi.dst = N) (hop : oi.op = .call { callee := .value c, args := as_, argTypes := ts }) (hc : a.eval c = .func (.func f) #[] #[]) (hargs : as_.map a.eval = args)
    (h : Calls P f args w fun e w' => ∃ v, e = .returned v ∧ K (a.put N v) w') : if Region.wanted oi (yielded ops a.tmps) = true then Oper.wp P oi a w K Q else K (a.put N undef) w := by
  refine call_ f args hw hN ?_ h
  have he := enters_ hf hname hb args w
  unfold execOp
  simp [hop, resolve, Deferred.ofValue, invoke, hc, hargs, he]
theorem info_sz {e : TypeId} {z : Option Value} {n b : Nat} (h : (P.info? e).map (fun i => (i.zero, i.size, i.bytes)) = some (z, n, b)) : (P.info? e).map (·.size) = some n := by
  cases hq : P.info? e with
  | none => simp [hq] at h
  | some i =>
    simp only [hq, Option.map_some, Option.some.injEq, Prod.mk.injEq] at h ⊢
    exact h.2.1
theorem run_copyN (w : World) (dT sT ty elem : TypeId) (sz g o dLen dCap : Nat) (a : Addr) (sLen sCap : Nat) (cur : List Value) (t : TypeId) (cs : List Value)
    (hu : P.underlying dT = some (.slice elem)) (hs : (P.info? elem).map (·.size) = some sz)
    (hg : w.heap[g]? = some (.cells cur.toArray t (0, 0))) (hn : cs.length = Nat.min sLen dLen * sz)
    (hsrc : ∀ j v, cs[j]? = some v → w.cell? (a.add j) = some v) (hfit : o + cs.length ≤ cur.length) (h1 : ∀ v ∈ cs, v.oneCell' = true) :
    (Builtin.copy_ #[dT, sT] ty #[.slice (some ⟨g, o, none⟩) dLen dCap, .slice (some a) sLen sCap]).run P w =
      .ok (goInt (Nat.min sLen dLen)) (w.setRow g (splice cur o cs).toArray) := by
  have hl := run_loadCells_list (P := P) w a cs hsrc
  have hst := run_storeCells_at P g o t cs 0 cur.toArray w hg (by simpa using hfit) h1
  cases hq : P.info? elem with
  | none => simp [hq] at hs
  | some i =>
    have hi : i.size = sz := by simpa [hq] using hs
    simp [Builtin.copy_, run_underlying hu, Builtin.lenOf, Builtin.firstCells, sizeOf, typeInfo, hq, hi, ← hn, hl, hst, splice]
theorem wpList_copyN {w : World} {ops : Array Oper} {rest : List Oper} {o : Oper} {a : Act} {Q : Exit → Act → World → Prop} (hgd : o.guard = none) (d s : Operand) (dT sT : TypeId)
    (ho : o.op = .call { callee := .builtin .copy, args := #[d, s], argTypes := #[dT, sT] }) (v u : Value) (hd : a.eval d = v) (hs : a.eval s = u) {v' : Value} {w' : World}
    (hr : (Builtin.copy_ #[dT, sT] o.type #[v, u]).run P w = .ok v' w') (h : wpList P ops Q rest (a.put o.dst v') w') : wpList P ops Q (o :: rest) a w := by
  refine wpList_plain hgd fun K hK => ?_
  unfold Oper.wp
  simp [execOp, ho, resolve, invoke, builtin, hd, hs, hr, Result.andThen]
  exact hK _ _ h
theorem step_copyN {ops : Array Oper} {o : Oper} {a : Act} {w : World} {K : Act → World → Prop} {Q : Exit → Act → World → Prop} {E : Prop}
    (hgd : o.guard = none) (d s : Operand) (dT sT : TypeId) (ho : o.op = .call { callee := .builtin .copy, args := #[d, s], argTypes := #[dT, sT] })
    (v u : Value) (hd : a.eval d = v) (hs : a.eval s = u) {v' : Value} {w' : World} (hr : (Builtin.copy_ #[dT, sT] o.type #[v, u]).run P w = .ok v' w') (hK : K (a.put o.dst v') w') :
    if Region.wanted o (yielded ops a.tmps) = true then Oper.wp P o a w K Q else E := by
  have hw : Region.wanted o (yielded ops a.tmps) = true := by simp [Region.wanted, hgd]
  rw [if_pos hw]
  unfold Oper.wp
  simp [execOp, ho, resolve, invoke, builtin, hd, hs, hr, Result.andThen]
  exact hK
theorem wpList_runB {w : World} {ops : Array Oper} {rest : List Oper} {o : Oper} {a : Act} {Q : Exit → Act → World → Prop} (hgd : o.guard = none) (d s : Operand) (dT sT : TypeId)
    (ho : o.op = .call { callee := .builtin .append, args := #[d, s], argTypes := #[dT, sT] }) (v u : Value) (hd : a.eval d = v) (hs : a.eval s = u) {v' : Value} {w' : World}
    (hr : (Builtin.append_ #[dT, sT] o.type #[v, u]).run P w = .ok v' w') (h : wpList P ops Q rest (a.put o.dst v') w') : wpList P ops Q (o :: rest) a w := by
  refine wpList_plain hgd fun K hK => ?_
  unfold Oper.wp
  simp [execOp, ho, resolve, invoke, builtin, hd, hs, hr, Result.andThen]
  exact hK _ _ h
end
theorem cellrow {w : World} {g : Nat} {cur : Array Value} {t : TypeId} (hg : w.heap[g]? = some (.cells cur t (0, 0))) (o : Nat) (I : List Value) (hI : ∀ j v, I[j]? = some v → cur.toList[o + j]? = some v) :
    ∀ j v, I[j]? = some v → w.cell? ((⟨g, o, none⟩ : Addr).add j) = some v := by
  intro j v hj
  have hadd : (⟨g, o, none⟩ : Addr).add j = ⟨g, o + j, none⟩ := by unfold Addr.add; split <;> simp_all
  rw [hadd, cell_of_row w g (o + j) cur t (0, 0) hg]
  simpa using hI j v hj
theorem ins_room (C : List Value) (N a s : Nat) (V : List Value) (ha : a ≤ N) (hV : V.length = s) (hC : N + s ≤ C.length) :
    (splice (splice C (a + s) ((C.take N).drop a)) a V).take (N + s) = (C.take N).take a ++ V ++ (C.take N).drop a ∧ (splice (splice C (a + s) ((C.take N).drop a)) a V).length = C.length := by
  have hX : ((C.take N).drop a).length = N - a := by rw [List.length_drop, List.length_take]; omega
  have e1 : splice C (a + s) ((C.take N).drop a) = C.take (a + s) ++ ((C.take N).drop a ++ C.drop (N + s)) := by
    unfold splice
    rw [hX]
    have : a + s + (N - a) = N + s := by omega
    rw [this]
  have e2 : splice (splice C (a + s) ((C.take N).drop a)) a V = C.take a ++ (V ++ ((C.take N).drop a ++ C.drop (N + s))) := by
    rw [e1]
    unfold splice
    have hl : (C.take (a + s)).length = a + s := by rw [List.length_take]; omega
    rw [List.take_append_of_le_length (by omega), List.take_take, Nat.min_eq_left (by omega), hV, List.drop_append_of_le_length (by omega)]
    rw [List.drop_of_length_le (by omega)]
    rfl
  refine ⟨?_, ?_⟩
  · rw [e2, List.take_take, Nat.min_eq_left (by omega)]
    rw [← List.append_assoc, ← List.append_assoc, List.take_append_of_le_length (by simp [hX, hV]; omega)]
    apply List.take_of_length_le
    simp [hV]; omega
  · rw [e2]
    simp [hV]; omega
theorem ins_new (Z : List Value) (a s : Nat) (V X : List Value) (hV : V.length = s) (hC : a + s + X.length ≤ Z.length) :
    (splice (splice Z a V) (a + s) X).take (a + s + X.length) = Z.take a ++ V ++ X ∧ (splice (splice Z a V) (a + s) X).length = Z.length := by
  have hl : (Z.take a ++ V).length = a + s := by simp [hV]; omega
  have e1 : splice Z a V = (Z.take a ++ V) ++ Z.drop (a + s) := by
    unfold splice
    rw [hV, List.append_assoc]
  have e2 : splice (splice Z a V) (a + s) X = (Z.take a ++ V) ++ (X ++ Z.drop (a + s + X.length)) := by
    rw [e1]
    unfold splice
    rw [List.take_append_of_le_length (by omega), List.take_of_length_le (by omega)]
    have hz : (Z.take a ++ V).drop (a + s) = [] := List.drop_of_length_le (by omega)
    rw [← List.drop_drop, List.drop_append_of_le_length (by omega), hz, List.nil_append, List.drop_drop]
  refine ⟨?_, ?_⟩
  · rw [e2, ← List.append_assoc, List.take_append_of_le_length (by simp [hV]; omega)]
    apply List.take_of_length_le
    simp [hV]; omega
  · rw [e2]
    simp [hV]; omega
section
variable {P : Program}
end
end Go.Proofs.YtefmkmhjbfpelaaW.PrintMore
namespace Go.Proofs.Ytefmkmhjbfpelaa.Bs
open Go.Op
theorem less_irrefl : ∀ a : List UInt8, bytesLess a a = false
  | [] => rfl
  | x :: a => by simp [bytesLess, less_irrefl a]
theorem less_tri : ∀ a b : List UInt8, (!(bytesLess a b || a == b)) = bytesLess b a
  | [], [] => rfl
  | [], _ :: _ => rfl
  | _ :: _, [] => rfl
  | x :: a, y :: b => by
    have ih := less_tri a b
    by_cases h1 : x < y
    · have h2 : ¬ y < x := fun h => by have := UInt8.lt_iff_toNat_lt.1 h; have := UInt8.lt_iff_toNat_lt.1 h1; omega
      have h3 : ¬ x = y := fun h => by subst h; have := UInt8.lt_iff_toNat_lt.1 h1; omega
      have h4 : ¬ y = x := fun h => h3 h.symm
      simp [bytesLess, h1, h2, h4]
    · by_cases h2 : y < x
      · have h3 : ¬ x = y := fun h => by subst h; have := UInt8.lt_iff_toNat_lt.1 h2; omega
        simp [bytesLess, h1, h2, h3]
      · have h3 : x = y := UInt8.toNat_inj.1 (by
          have e1 := mt UInt8.lt_iff_toNat_lt.2 h1
          have e2 := mt UInt8.lt_iff_toNat_lt.2 h2
          omega)
        subst h3
        have e1 : bytesLess (x :: b) (x :: a) = bytesLess b a := by simp [bytesLess]
        have e2 : bytesLess (x :: a) (x :: b) = bytesLess a b := by simp [bytesLess]
        have e3 : (x :: a == x :: b) = (a == b) := by simp
        rw [e1, e2, e3]
        exact ih
@[go_sem] theorem binOp_gtr (t : TypeId) (a b : ByteArray) : binOp .gtr t (.string a) (.string b) = pure (.bool (bytesLess b.toList a.toList)) := by
  rw [← less_tri]
  simp [binOp, Op.stringOp]
@[go_sem] theorem binOp_leq (t : TypeId) (a b : ByteArray) : binOp .leq t (.string a) (.string b) = pure (.bool !(bytesLess b.toList a.toList)) := by
  rw [← less_tri]
  simp [binOp, Op.stringOp]
end Go.Proofs.Ytefmkmhjbfpelaa.Bs
namespace Go.Proofs.Ytefmkmhjbfpelaa.QP
open Go.RowKit Go.Proofs.YtefmkmhjbfpelaaW.PrintWords Go.Proofs.YtefmkmhjbfpelaaW.PrintLast Go.Proofs.YtefmkmhjbfpelaaW.PrintMore
attribute [local go_sem] max2_int min2_int max_two min_two max_three min_three max_four min_four   -- for this text's walks alone
set_option linter.unusedVariables false
set_option linter.unusedSimpArgs false
def errW : Option Int → Value
  | none => .nilIface
  | some c => .iface 0 (.int .i64 c)
theorem errW_none : errW none = .nilIface := rfl
theorem errW_some (c : Int) : errW (some c) = .iface 0 (.int .i64 c) := rfl
theorem info54 : (Try.prog.info? 54).map (fun i => (i.zero, i.size, i.bytes)) = some (some (.agg #[(.string ⟨#[]⟩), (.string ⟨#[]⟩), (.int .i64 0), (.string ⟨#[]⟩), (.int .i64 0), (.int .i64 0), (.int .i64 0), (.int .i64 0)]), 8, 88) := by kernel_rfl
structure S54 where
  f0 : ByteArray
  f1 : ByteArray
  f2 : Int
  f3 : ByteArray
  f4 : Int
  f5 : Int
  f6 : Int
  f7 : Int
def z54 : S54 := ⟨(⟨#[]⟩ : ByteArray), (⟨#[]⟩ : ByteArray), (0 : Int), (⟨#[]⟩ : ByteArray), (0 : Int), (0 : Int), (0 : Int), (0 : Int)⟩
def k54 : Kd S54 := Kd.iso (Kd.pair Kd.string (Kd.pair Kd.string (Kd.pair (Kd.int .i64) (Kd.pair Kd.string (Kd.pair (Kd.int .i64) (Kd.pair (Kd.int .i64) (Kd.pair (Kd.int .i64) (Kd.int .i64)))))))) (fun x : S54 => (x.f0, x.f1, x.f2, x.f3, x.f4, x.f5, x.f6, x.f7))
theorem k54_open {w : World} {x : S54} {cs : List Value} (h : k54.K w x cs) : cs = [.string x.f0, .string x.f1, .int .i64 x.f2, .string x.f3, .int .i64 x.f4, .int .i64 x.f5, .int .i64 x.f6, .int .i64 x.f7] := by
  obtain ⟨_, _, rfl, rfl, ⟨_, _, rfl, rfl, ⟨_, _, rfl, rfl, ⟨_, _, rfl, rfl, ⟨_, _, rfl, rfl, ⟨_, _, rfl, rfl, ⟨_, _, rfl, rfl, rfl⟩⟩⟩⟩⟩⟩⟩ := h
  exact rfl
theorem k54_mkM (w : World) (base : Nat) (ok : Nat → Prop) (x : S54)  : k54.M w base ok x [.string x.f0, .string x.f1, .int .i64 x.f2, .string x.f3, .int .i64 x.f4, .int .i64 x.f5, .int .i64 x.f6, .int .i64 x.f7] := ⟨[.string x.f0], [.string x.f1, .int .i64 x.f2, .string x.f3, .int .i64 x.f4, .int .i64 x.f5, .int .i64 x.f6, .int .i64 x.f7], rfl, rfl, ⟨[.string x.f1], [.int .i64 x.f2, .string x.f3, .int .i64 x.f4, .int .i64 x.f5, .int .i64 x.f6, .int .i64 x.f7], rfl, rfl, ⟨[.int .i64 x.f2], [.string x.f3, .int .i64 x.f4, .int .i64 x.f5, .int .i64 x.f6, .int .i64 x.f7], rfl, rfl, ⟨[.string x.f3], [.int .i64 x.f4, .int .i64 x.f5, .int .i64 x.f6, .int .i64 x.f7], rfl, rfl, ⟨[.int .i64 x.f4], [.int .i64 x.f5, .int .i64 x.f6, .int .i64 x.f7], rfl, rfl, ⟨[.int .i64 x.f5], [.int .i64 x.f6, .int .i64 x.f7], rfl, rfl, ⟨[.int .i64 x.f6], [.int .i64 x.f7], rfl, rfl, rfl⟩⟩⟩⟩⟩⟩⟩
def rd_T54 (xs : List S54) (i : Int) : S54 := xs.getD i.toNat z54
theorem at_T54 {w : World} {A : Option Addr} {n : Nat} {xs : List S54} (h : Kd.C k54 w A n xs) (i : Int) (h0 : 0 ≤ i) (h1 : i < n) : ∃ ad , A = some ad ∧ w.cell? (ad.add (i.toNat * 8)) = some (.string (rd_T54 xs i).f0) ∧ w.cell? ⟨(ad.add (i.toNat * 8)).block, (ad.add (i.toNat * 8)).off + 1, none⟩ = some (.string (rd_T54 xs i).f1) ∧ w.cell? ⟨(ad.add (i.toNat * 8)).block, (ad.add (i.toNat * 8)).off + 2, none⟩ = some (.int .i64 (rd_T54 xs i).f2) ∧ w.cell? ⟨(ad.add (i.toNat * 8)).block, (ad.add (i.toNat * 8)).off + 3, none⟩ = some (.string (rd_T54 xs i).f3) ∧ w.cell? ⟨(ad.add (i.toNat * 8)).block, (ad.add (i.toNat * 8)).off + 4, none⟩ = some (.int .i64 (rd_T54 xs i).f4) ∧ w.cell? ⟨(ad.add (i.toNat * 8)).block, (ad.add (i.toNat * 8)).off + 5, none⟩ = some (.int .i64 (rd_T54 xs i).f5) ∧ w.cell? ⟨(ad.add (i.toNat * 8)).block, (ad.add (i.toNat * 8)).off + 6, none⟩ = some (.int .i64 (rd_T54 xs i).f6) ∧ w.cell? ⟨(ad.add (i.toNat * 8)).block, (ad.add (i.toNat * 8)).off + 7, none⟩ = some (.int .i64 (rd_T54 xs i).f7) := by
  obtain ⟨ad, c, e, _, hK, hc0⟩ := Kd.C_get h z54 i h0 h1; have hc : ∀ j u, c[j]? = some u → w.cell? (ad.add (i.toNat * 8 + j)) = some u := hc0; obtain rfl := k54_open hK
  exact ⟨ad, e, hc 0 _ rfl, by rw [← add_field _ _ 1 (by omega)]; exact hc 1 _ rfl, by rw [← add_field _ _ 2 (by omega)]; exact hc 2 _ rfl, by rw [← add_field _ _ 3 (by omega)]; exact hc 3 _ rfl, by rw [← add_field _ _ 4 (by omega)]; exact hc 4 _ rfl, by rw [← add_field _ _ 5 (by omega)]; exact hc 5 _ rfl, by rw [← add_field _ _ 6 (by omega)]; exact hc 6 _ rfl, by rw [← add_field _ _ 7 (by omega)]; exact hc 7 _ rfl⟩
end Go.Proofs.Ytefmkmhjbfpelaa.QP
namespace Go.Proofs.Ytefmkmhjbfpelaa.QP
open Go.RowKit Go.Proofs.YtefmkmhjbfpelaaW.PrintWords Go.Proofs.YtefmkmhjbfpelaaW.PrintLast Go.Proofs.YtefmkmhjbfpelaaW.PrintMore
attribute [local go_sem] max2_int min2_int max_two min_two max_three min_three max_four min_four   -- for this text's walks alone
set_option linter.unusedVariables false
set_option linter.unusedSimpArgs false
def spec_l01Source.l0 : Nat → List Int → Int → List Int → Int → Int → Int → Option (List Int × Int × Int × Int)
  | 0, _, _, _, _, _, _ => none
  | k + 1, x0, x4, x102000, x102001, x102002, x102003 => if x4 < (x0.length : Int) then (if x4 < 64 then (if 0 ≤ x4 then (spec_l01Source.l0 k x0 (wrap64 (x4 + 1)) x102000 x102001 (IntKind.u64.wrap ((Go.bits .xor .u64 x102002 (IntKind.u64.wrap (rd x0 x4))) * 1099511628211)) x102003) else (none)) else (if (wrap64 ((x0.length : Int) / 20)) > 12 then (some (x102000, x102001, x102002, 12)) else (some (x102000, x102001, x102002, wrap64 ((x0.length : Int) / 20))))) else (if (wrap64 ((x0.length : Int) / 20)) > 12 then (some (x102000, x102001, x102002, 12)) else (some (x102000, x102001, x102002, wrap64 ((x0.length : Int) / 20))))
def spec_l01Source.f (k : Nat) (l0 : List Int) : Option (List Int × Int × Int × Int) := spec_l01Source.l0 k l0 0 l0 0 88172645463325252 0
def spec_l01Src_n_mA.f (x : Int) : Int := Go.bits BinOp.xor IntKind.u64 x (IntKind.u64.wrap (x * 8192))
def spec_l01Src_n_mB.f (x : Int) : Int := Go.bits BinOp.xor IntKind.u64 x (x / 128)
def spec_l01Src_n_mC.f (x : Int) : Int := Go.bits BinOp.xor IntKind.u64 x (IntKind.u64.wrap (x * 131072))
def spec_l01Src_n_mix.f (x : Int) : Int := spec_l01Src_n_mC.f (spec_l01Src_n_mB.f (spec_l01Src_n_mA.f x))
def spec_l01Src_n_res.f (v m a : Int) : Int := wrap64 (Int.tmod (IntKind.u64.wrap (v + m / 1048576)) (IntKind.u64.wrap a))
def spec_l01Src_n_resZ.f (m a : Int) : Int := wrap64 (Int.tmod (IntKind.u64.wrap (m / 1048576)) (IntKind.u64.wrap a))
def spec_l01Src_n.f (s0_0 : List Int) (s0_1 s0_2 s0_3 a1 : Int) : Option (Int × Int × Int × Int) :=
  if a1 ≤ 1 then some (0, s0_1, s0_2, s0_3) else if IntKind.u64.wrap a1 = 0 then none else if s0_1 < (s0_0.length : Int) then (if 0 ≤ s0_1 then some (spec_l01Src_n_res.f (IntKind.u64.wrap (rd s0_0 s0_1)) (spec_l01Src_n_mix.f s0_2) a1, wrap64 (s0_1 + 1), spec_l01Src_n_mix.f s0_2, s0_3) else none)
  else some (spec_l01Src_n_resZ.f (spec_l01Src_n_mix.f s0_2) a1, s0_1, spec_l01Src_n_mix.f s0_2, s0_3)
def spec_l01Src_pick.f (s0_0 : List Int) (s0_1 : Int) (s0_2 : Int) (s0_3 : Int) (l1 : List ByteArray) : Option (ByteArray × Int × Int × Int) := (spec_l01Src_n.f s0_0 s0_1 s0_2 s0_3 (l1.length : Int)).bind fun bt103 => (if 0 ≤ bt103.1 then (if bt103.1 < (l1.length : Int) then (some (rdOf ByteArray.empty l1 bt103.1, bt103.2.1, bt103.2.2.1, bt103.2.2.2)) else (none)) else (none))
def spec_l01Src_one.f (s0_0 : List Int) (s0_1 : Int) (s0_2 : Int) (s0_3 : Int) (a1 : Int) : Option (Bool × Int × Int × Int) := (spec_l01Src_n.f s0_0 s0_1 s0_2 s0_3 a1).bind fun bt108 => (some ((bt108.1 == 0), bt108.2.1, bt108.2.2.1, bt108.2.2.2))
def spec_l01Src_l09Line.j0 : Nat → List Int → Int → Int → Int → ByteArray → ByteArray → Int → ByteArray → Int → Int → Int → Int → Option (ByteArray × ByteArray × Int × ByteArray × Int × Int × Int × Int × Int × Int × Int)
  | 0, _, _, _, _, _, _, _, _, _, _, _, _ => none
  | k + 1, x1000, x1001, x1002, x1003, x143000, x143001, x143002, x143003, x143004, x143005, x143006, x143007 => (spec_l01Src_one.f x1000 x1001 x1002 x1003 25).bind fun bt159 => (if bt159.1 = true then ((spec_l01Src_n.f x1000 bt159.2.1 bt159.2.2.1 bt159.2.2.2 5).bind fun bt163 => (if bt163.1 = 0 then (some (x143000, x143001, x143002, x143003, x143004, x143005, x143006, wrap64 (x143007 + x143004), bt163.2.1, bt163.2.2.1, bt163.2.2.2)) else (if bt163.1 = 1 then (some (x143000, x143001, x143002, x143003, x143004, x143005, wrap64 (x143005 + 1), x143007, bt163.2.1, bt163.2.2.1, bt163.2.2.2)) else (if bt163.1 = 2 then ((spec_l01Src_n.f x1000 bt163.2.1 bt163.2.2.1 bt163.2.2.2 2).bind fun bt167 => (some (x143000, x143001, wrap64 (1000 * bt167.1), x143003, x143004, x143005, x143006, x143007, bt167.2.1, bt167.2.2.1, bt167.2.2.2))) else (if bt163.1 = 3 then ((some (([0, 1000000, 1000001] : List Int) : List Int)).bind fun y171 => ((spec_l01Src_n.f x1000 bt163.2.1 bt163.2.2.1 bt163.2.2.2 3).bind fun bt174 => (if 0 ≤ bt174.1 then (if bt174.1 < (y171.length : Int) then (some (x143000, x143001, x143002, x143003, rd y171 bt174.1, x143005, x143006, x143007, bt174.2.1, bt174.2.2.1, bt174.2.2.2)) else (none)) else (none)))) else ((spec_l01Src_pick.f x1000 bt163.2.1 bt163.2.2.1 bt163.2.2.2 (([(⟨#[]⟩ : ByteArray), (⟨#[97]⟩ : ByteArray)] : List ByteArray))).bind fun bt182 => (some (x143000, x143001, x143002, bt182.1, x143004, x143005, x143006, x143007, bt182.2.1, bt182.2.2.1, bt182.2.2.2)))))))) else (some (x143000, x143001, x143002, x143003, x143004, x143005, x143006, x143007, bt159.2.1, bt159.2.2.1, bt159.2.2.2)))
def spec_l01Src_l09Line.f (k : Nat) (s0_0 : List Int) (s0_1 : Int) (s0_2 : Int) (s0_3 : Int) : Option (ByteArray × ByteArray × Int × ByteArray × Int × Int × Int × Int × Int × Int × Int) := (spec_l01Src_pick.f s0_0 s0_1 s0_2 s0_3 (([(⟨#[65, 67, 77, 69]⟩ : ByteArray), (⟨#[66, 79, 76, 84]⟩ : ByteArray), (⟨#[67, 45, 49]⟩ : ByteArray)] : List ByteArray))).bind fun bt116 => ((spec_l01Src_pick.f s0_0 bt116.2.1 bt116.2.2.1 bt116.2.2.2 (([(⟨#[80, 79, 45, 49]⟩ : ByteArray), (⟨#[80, 79, 45, 50]⟩ : ByteArray), (⟨#[80, 79, 45, 51]⟩ : ByteArray)] : List ByteArray))).bind fun bt123 => ((spec_l01Src_n.f s0_0 bt123.2.1 bt123.2.2.1 bt123.2.2.2 4).bind fun bt127 => ((spec_l01Src_pick.f s0_0 bt127.2.1 bt127.2.2.1 bt127.2.2.2 (([(⟨#[66, 79, 76, 84]⟩ : ByteArray), (⟨#[78, 85, 84]⟩ : ByteArray), (⟨#[71, 69, 65, 82]⟩ : ByteArray), (⟨#[67, 65, 77]⟩ : ByteArray)] : List ByteArray))).bind fun bt134 => ((spec_l01Src_n.f s0_0 bt134.2.1 bt134.2.2.1 bt134.2.2.2 40).bind fun bt138 => ((spec_l01Src_n.f s0_0 bt138.2.1 bt138.2.2.1 bt138.2.2.2 (wrap64 ((wrap64 (1 + bt138.1)) + 1))).bind fun bt143 => ((spec_l01Src_n.f s0_0 bt143.2.1 bt143.2.2.1 bt143.2.2.2 (wrap64 (bt143.1 + 1))).bind fun bt147 => ((spec_l01Src_n.f s0_0 bt147.2.1 bt147.2.2.1 bt147.2.2.2 (wrap64 ((wrap64 ((wrap64 (1 + bt138.1)) - bt143.1)) + 1))).bind fun bt151 => ((spec_l01Src_one.f s0_0 bt151.2.1 bt151.2.2.1 bt151.2.2.2 3).bind fun bt155 => (if bt155.1 = true then (spec_l01Src_l09Line.j0 k s0_0 bt155.2.1 bt155.2.2.1 bt155.2.2.2 bt116.1 bt123.1 (wrap64 (1 + bt127.1)) bt134.1 (wrap64 (1 + bt138.1)) 0 0 bt151.1) else (spec_l01Src_l09Line.j0 k s0_0 bt155.2.1 bt155.2.2.1 bt155.2.2.2 bt116.1 bt123.1 (wrap64 (1 + bt127.1)) bt134.1 (wrap64 (1 + bt138.1)) bt143.1 bt147.1 bt151.1))))))))))
mutual
def spec_l01Name.j0 : Nat → ByteArray → Bool → Option (Bool)
  | 0, _, _ => none
  | k + 1, x0, x22 => if x22 = true then (some false) else (spec_l01Name.l0 k x0 0)
def spec_l01Name.l0 : Nat → ByteArray → Int → Option (Bool)
  | 0, _, _ => none
  | k + 1, x0, x3 => if x3 < (x0.size : Int) then (if 0 ≤ x3 then (if (bt x0 x3) ≥ 65 then (if (bt x0 x3) ≤ 90 then (spec_l01Name.l0 k x0 (wrap64 (x3 + 1))) else (if (bt x0 x3) ≥ 48 then (if (bt x0 x3) ≤ 57 then (spec_l01Name.l0 k x0 (wrap64 (x3 + 1))) else (if ((bt x0 x3) = 45) then (spec_l01Name.l0 k x0 (wrap64 (x3 + 1))) else (some false))) else (if ((bt x0 x3) = 45) then (spec_l01Name.l0 k x0 (wrap64 (x3 + 1))) else (some false)))) else (if (bt x0 x3) ≥ 48 then (if (bt x0 x3) ≤ 57 then (spec_l01Name.l0 k x0 (wrap64 (x3 + 1))) else (if ((bt x0 x3) = 45) then (spec_l01Name.l0 k x0 (wrap64 (x3 + 1))) else (some false))) else (if ((bt x0 x3) = 45) then (spec_l01Name.l0 k x0 (wrap64 (x3 + 1))) else (some false)))) else (none)) else (some true)
end
def spec_l01Name.f (k : Nat) (a0 : ByteArray) : Option (Bool) := if (a0.size : Int) < 1 then (spec_l01Name.j0 k a0 true) else (if (a0.size : Int) > 12 then (spec_l01Name.j0 k a0 true) else (if 0 < (a0.size : Int) then (if (bt a0 0) < 65 then (spec_l01Name.j0 k a0 true) else (spec_l01Name.j0 k a0 (decide ((bt a0 0) > 90)))) else (none)))
def spec_l01Qty.f (a0 : Int) : Option (Bool) := if a0 ≥ 1 then (some (decide (a0 ≤ 1000000))) else (some false)
def spec_LineRight.f (k : Nat) (a0_0 : ByteArray) (a0_1 : ByteArray) (a0_2 : Int) (a0_3 : ByteArray) (a0_4 : Int) (a0_5 : Int) (a0_6 : Int) (a0_7 : Int) : Option (Bool) := (spec_l01Name.f k a0_0).bind fun t187 => (if t187 = true then ((spec_l01Name.f k a0_1).bind fun t188 => (if t188 = true then ((spec_l01Name.f k a0_3).bind fun t189 => (if t189 = true then (if a0_2 ≥ 1 then (if a0_2 ≤ 999 then ((spec_l01Qty.f a0_4).bind fun t190 => (if t190 = true then (if a0_5 ≥ 0 then (if a0_6 ≥ 0 then (if a0_7 ≥ 0 then (if a0_6 ≤ a0_5 then (if a0_5 ≤ a0_4 then (some (decide (a0_7 ≤ (wrap64 (a0_4 - a0_5))))) else (some false)) else (some false)) else (some false)) else (some false)) else (some false)) else (some false))) else (some false)) else (some false)) else (some false))) else (some false))) else (some false))
def spec_l09Before.f (a0_0 : ByteArray) (a0_1 : ByteArray) (a0_2 : Int) (a0_3 : ByteArray) (a0_4 : Int) (a0_5 : Int) (a0_6 : Int) (a0_7 : Int) (a1_0 : ByteArray) (a1_1 : ByteArray) (a1_2 : Int) (a1_3 : ByteArray) (a1_4 : Int) (a1_5 : Int) (a1_6 : Int) (a1_7 : Int) : Option (Bool) := if a0_0.toList = a1_0.toList then (if a0_1.toList = a1_1.toList then (some (decide (a0_2 < a1_2))) else (some (Op.bytesLess a0_1.toList a1_1.toList))) else (some (Op.bytesLess a0_0.toList a1_0.toList))
def spec_LinesRight.l0 : Nat → List (S54) → Int → Option (Bool)
  | 0, _, _ => none
  | k + 1, x0, x3 => if x3 < (x0.length : Int) then (if 0 ≤ x3 then ((spec_LineRight.f k ((rd_T54 x0 x3).f0) ((rd_T54 x0 x3).f1) ((rd_T54 x0 x3).f2) ((rd_T54 x0 x3).f3) ((rd_T54 x0 x3).f4) ((rd_T54 x0 x3).f5) ((rd_T54 x0 x3).f6) ((rd_T54 x0 x3).f7)).bind fun t194 => (if t194 = true then (if x3 > 0 then (if 0 ≤ (wrap64 (x3 - 1)) then (if (wrap64 (x3 - 1)) < (x0.length : Int) then ((spec_l09Before.f ((rd_T54 x0 (wrap64 (x3 - 1))).f0) ((rd_T54 x0 (wrap64 (x3 - 1))).f1) ((rd_T54 x0 (wrap64 (x3 - 1))).f2) ((rd_T54 x0 (wrap64 (x3 - 1))).f3) ((rd_T54 x0 (wrap64 (x3 - 1))).f4) ((rd_T54 x0 (wrap64 (x3 - 1))).f5) ((rd_T54 x0 (wrap64 (x3 - 1))).f6) ((rd_T54 x0 (wrap64 (x3 - 1))).f7) ((rd_T54 x0 x3).f0) ((rd_T54 x0 x3).f1) ((rd_T54 x0 x3).f2) ((rd_T54 x0 x3).f3) ((rd_T54 x0 x3).f4) ((rd_T54 x0 x3).f5) ((rd_T54 x0 x3).f6) ((rd_T54 x0 x3).f7)).bind fun t197 => (if t197 = true then (spec_LinesRight.l0 k x0 (wrap64 (x3 + 1))) else (some false))) else (none)) else (none)) else (spec_LinesRight.l0 k x0 (wrap64 (x3 + 1)))) else (some false))) else (none)) else (some true)
def spec_LinesRight.f (k : Nat) (l0 : List (S54)) : Option (Bool) := if (l0.length : Int) > 200 then (some false) else (spec_LinesRight.l0 k l0 0)
def spec_LinesAdd.l0 : Nat → List (S54) → List (S54) → List (S54) → Bool → Int → ByteArray → ByteArray → Int → ByteArray → Int → Int → Int → Int → Option ((List (S54)))
  | 0, _, _, _, _, _, _, _, _, _, _, _, _, _ => none
  | k + 1, x0, x5, x6, x7, x8, x199000, x199001, x199002, x199003, x199004, x199005, x199006, x199007 => if x8 < (x0.length : Int) then (if x7 = true then (if 0 ≤ x8 then (if x6.length < 1599289640401 then (spec_LinesAdd.l0 k x0 x5 (x6 ++ [(⟨(rd_T54 x0 x8).f0, (rd_T54 x0 x8).f1, (rd_T54 x0 x8).f2, (rd_T54 x0 x8).f3, (rd_T54 x0 x8).f4, (rd_T54 x0 x8).f5, (rd_T54 x0 x8).f6, (rd_T54 x0 x8).f7⟩ : S54)]) x7 (wrap64 (x8 + 1)) x199000 x199001 x199002 x199003 x199004 x199005 x199006 x199007) else (none)) else (none)) else (if 0 ≤ x8 then ((spec_l09Before.f x199000 x199001 x199002 x199003 x199004 x199005 x199006 x199007 ((rd_T54 x0 x8).f0) ((rd_T54 x0 x8).f1) ((rd_T54 x0 x8).f2) ((rd_T54 x0 x8).f3) ((rd_T54 x0 x8).f4) ((rd_T54 x0 x8).f5) ((rd_T54 x0 x8).f6) ((rd_T54 x0 x8).f7)).bind fun t217 => (if t217 = true then (if x6.length < 1599289640401 then ((some (x6 ++ [(⟨x199000, x199001, x199002, x199003, x199004, x199005, x199006, x199007⟩ : S54)] : List (S54))).bind fun y218 => (if y218.length < 1599289640401 then (spec_LinesAdd.l0 k x0 x5 (y218 ++ [(⟨(rd_T54 x0 x8).f0, (rd_T54 x0 x8).f1, (rd_T54 x0 x8).f2, (rd_T54 x0 x8).f3, (rd_T54 x0 x8).f4, (rd_T54 x0 x8).f5, (rd_T54 x0 x8).f6, (rd_T54 x0 x8).f7⟩ : S54)]) true (wrap64 (x8 + 1)) x199000 x199001 x199002 x199003 x199004 x199005 x199006 x199007) else (none))) else (none)) else (if x6.length < 1599289640401 then (spec_LinesAdd.l0 k x0 x5 (x6 ++ [(⟨(rd_T54 x0 x8).f0, (rd_T54 x0 x8).f1, (rd_T54 x0 x8).f2, (rd_T54 x0 x8).f3, (rd_T54 x0 x8).f4, (rd_T54 x0 x8).f5, (rd_T54 x0 x8).f6, (rd_T54 x0 x8).f7⟩ : S54)]) x7 (wrap64 (x8 + 1)) x199000 x199001 x199002 x199003 x199004 x199005 x199006 x199007) else (none)))) else (none))) else (if x7 = true then ((spec_LinesRight.f k x6).bind fun t229 => (if t229 = true then (some x6) else (some x5))) else (if x6.length < 1599289640401 then ((some (x6 ++ [(⟨x199000, x199001, x199002, x199003, x199004, x199005, x199006, x199007⟩ : S54)] : List (S54))).bind fun y230 => ((spec_LinesRight.f k y230).bind fun t233 => (if t233 = true then (some y230) else (some x5)))) else (none)))
def spec_LinesAdd.f (k : Nat) (l0 : List (S54)) (a1_0 : ByteArray) (a1_1 : ByteArray) (a1_2 : Int) (a1_3 : ByteArray) (a1_4 : Int) (a1_5 : Int) (a1_6 : Int) (a1_7 : Int) : Option ((List (S54))) := if (l0.length : Int) > 400 then (some (([] : List (S54)))) else ((some (([] : List (S54)) : List (S54))).bind fun y202 => (if y202.length + l0.length < 1599289640401 then ((some (y202 ++ l0 : List (S54))).bind fun y205 => ((spec_LinesRight.f k l0).bind fun t208 => (if t208 = true then (spec_LinesAdd.l0 k l0 y205 (([] : List (S54))) false 0 a1_0 a1_1 a1_2 a1_3 a1_4 a1_5 a1_6 a1_7) else (some y205)))) else (none)))
mutual
def spec_l01Src_l09Lines.l0 : Nat → List (S54) → Int → List Int → Int → Int → Int → Option ((List (S54)) × Int × Int × Int)
  | 0, _, _, _, _, _, _ => none
  | k + 1, x3, x4, x1000, x1001, x1002, x1003 => if x4 > 0 then ((spec_l01Src_l09Line.f k x1000 x1001 x1002 x1003).bind fun bt241 => ((spec_LinesAdd.f k x3 bt241.1 bt241.2.1 bt241.2.2.1 bt241.2.2.2.1 bt241.2.2.2.2.1 bt241.2.2.2.2.2.1 bt241.2.2.2.2.2.2.1 bt241.2.2.2.2.2.2.2.1).bind fun t252 => (spec_l01Src_l09Lines.l0 k t252 (wrap64 (x4 - 1)) x1000 bt241.2.2.2.2.2.2.2.2.1 bt241.2.2.2.2.2.2.2.2.2.1 bt241.2.2.2.2.2.2.2.2.2.2))) else ((spec_l01Src_one.f x1000 x1001 x1002 x1003 50).bind fun bt255 => (if bt255.1 = true then (spec_l01Src_l09Lines.l1 k (([] : List (S54))) 0 x1000 bt255.2.1 bt255.2.2.1 bt255.2.2.2) else (spec_l01Src_l09Lines.j2 k x3 x1000 bt255.2.1 bt255.2.2.1 bt255.2.2.2)))
def spec_l01Src_l09Lines.j2 : Nat → List (S54) → List Int → Int → Int → Int → Option ((List (S54)) × Int × Int × Int)
  | 0, _, _, _, _, _ => none
  | k + 1, x3, x1000, x1001, x1002, x1003 => (spec_l01Src_one.f x1000 x1001 x1002 x1003 15).bind fun bt269 => (if bt269.1 = true then ((some (([] : List (S54)) : List (S54))).bind fun y273 => (if y273.length + x3.length < 1599289640401 then ((some (y273 ++ x3 : List (S54))).bind fun y276 => ((spec_l01Src_l09Line.f k x1000 bt269.2.1 bt269.2.2.1 bt269.2.2.2).bind fun bt279 => (if y276.length < 1599289640401 then (some ((y276 ++ [(⟨bt279.1, bt279.2.1, bt279.2.2.1, bt279.2.2.2.1, bt279.2.2.2.2.1, bt279.2.2.2.2.2.1, bt279.2.2.2.2.2.2.1, bt279.2.2.2.2.2.2.2.1⟩ : S54)]), bt279.2.2.2.2.2.2.2.2.1, bt279.2.2.2.2.2.2.2.2.2.1, bt279.2.2.2.2.2.2.2.2.2.2)) else (none)))) else (none))) else (some (x3, bt269.2.1, bt269.2.2.1, bt269.2.2.2)))
def spec_l01Src_l09Lines.l1 : Nat → List (S54) → Int → List Int → Int → Int → Int → Option ((List (S54)) × Int × Int × Int)
  | 0, _, _, _, _, _, _ => none
  | k + 1, x3, x5, x1000, x1001, x1002, x1003 => (spec_l01Src_n.f x1000 x1001 x1002 x1003 3).bind fun bt262 => (if (x3.length : Int) < (wrap64 (199 + bt262.1)) then (if x3.length < 1599289640401 then (spec_l01Src_l09Lines.l1 k (x3 ++ [(⟨(⟨#[65, 67, 77, 69]⟩ : ByteArray), (⟨#[80, 79, 45, 49]⟩ : ByteArray), wrap64 (x5 + 1), (⟨#[78, 85, 84]⟩ : ByteArray), 5, 0, 0, 0⟩ : S54)]) (wrap64 (x5 + 1)) x1000 bt262.2.1 bt262.2.2.1 bt262.2.2.2) else (none)) else (spec_l01Src_l09Lines.j2 k x3 x1000 bt262.2.1 bt262.2.2.1 bt262.2.2.2))
end
def spec_l01Src_l09Lines.f (k : Nat) (s0_0 : List Int) (s0_1 : Int) (s0_2 : Int) (s0_3 : Int) : Option ((List (S54)) × Int × Int × Int) := (spec_l01Src_n.f s0_0 s0_1 s0_2 s0_3 (wrap64 (4 + s0_3))).bind fun bt237 => (spec_l01Src_l09Lines.l0 k (([] : List (S54))) bt237.1 s0_0 bt237.2.1 bt237.2.2.1 bt237.2.2.2)
def spec_DrawLinesAdd.f (k : Nat) (l0 : List Int) : Option ((List (S54)) × ByteArray × ByteArray × Int × ByteArray × Int × Int × Int × Int) := (spec_l01Source.f k l0).bind fun bt294 => ((spec_l01Src_l09Lines.f k bt294.1 bt294.2.1 bt294.2.2.1 bt294.2.2.2).bind fun bt299 => ((spec_l01Src_l09Line.f k bt294.1 bt299.2.1 bt299.2.2.1 bt299.2.2.2).bind fun bt305 => (some (bt299.1, bt305.1, bt305.2.1, bt305.2.2.1, bt305.2.2.2.1, bt305.2.2.2.2.1, bt305.2.2.2.2.2.1, bt305.2.2.2.2.2.2.1, bt305.2.2.2.2.2.2.2.1))))
def impl_OrderLine_95.f (l0 : List (S54)) : Option (Bool) := some (decide ((l0.length : Int) > 400))
def cmp_isNaN_string.f (a0 : ByteArray) : Option (Bool) := some (a0.toList != a0.toList)
def cmp_Compare_string.f (a0 : ByteArray) (a1 : ByteArray) : Option (Int) := (cmp_isNaN_string.f a0).bind fun t316 => ((cmp_isNaN_string.f a1).bind fun t317 => (if t316 = true then (if t317 = true then (some 0) else (some (-1))) else (if t317 = true then (some 1) else (if (Op.bytesLess a0.toList a1.toList) = true then (some (-1)) else (if (Op.bytesLess a1.toList a0.toList) = true then (some 1) else (some 0))))))
def cmp_isNaN_int64.f (a0 : Int) : Option (Bool) := some (a0 != a0)
def cmp_Compare_int64.f (a0 : Int) (a1 : Int) : Option (Int) := (cmp_isNaN_int64.f a0).bind fun t318 => ((cmp_isNaN_int64.f a1).bind fun t319 => (if t318 = true then (if t319 = true then (some 0) else (some (-1))) else (if t319 = true then (some 1) else (if a0 < a1 then (some (-1)) else (if a0 > a1 then (some 1) else (some 0))))))
def cmp_Or_int.l0 : Nat → Int → List Int → Int → Int → Option (Int)
  | 0, _, _, _, _ => none
  | k + 1, x3, x6, x7, x8 => if x8 < x7 then (if 0 ≤ x8 then (if x8 < (x6.length : Int) then (if (rd x6 x8) = x3 then (cmp_Or_int.l0 k x3 x6 x7 (wrap64 (x8 + 1))) else (some (rd x6 x8))) else (none)) else (none)) else (some x3)
def cmp_Or_int.f (k : Nat) (l0 : List Int) : Option (Int) := cmp_Or_int.l0 k 0 l0 (l0.length : Int) 0
def impl_lineOrder.f (k : Nat) (a0_0 : ByteArray) (a0_1 : ByteArray) (a0_2 : Int) (a0_3 : ByteArray) (a0_4 : Int) (a0_5 : Int) (a0_6 : Int) (a0_7 : Int) (a1_0 : ByteArray) (a1_1 : ByteArray) (a1_2 : Int) (a1_3 : ByteArray) (a1_4 : Int) (a1_5 : Int) (a1_6 : Int) (a1_7 : Int) : Option (Int) := (cmp_Compare_string.f a0_0 a1_0).bind fun t323 => ((cmp_Compare_string.f a0_1 a1_1).bind fun t324 => ((cmp_Compare_int64.f a0_2 a1_2).bind fun t325 => ((cmp_Or_int.f k (([t323, t324, t325] : List Int))).bind fun t329 => (some t329))))
def impl_OrderLine_impl_lineOrder.l0 : Nat → List (S54) → Int → Int → Int → ByteArray → ByteArray → Int → ByteArray → Int → Int → Int → Int → Option (Int × Bool)
  | 0, _, _, _, _, _, _, _, _, _, _, _, _ => none
  | k + 1, x0, x8, x9, x10, x331000, x331001, x331002, x331003, x331004, x331005, x331006, x331007 => if x9 < x10 then (if 0 ≤ (wrap64 ((IntKind.u64.wrap (wrap64 (x9 + x10))) / 2)) then (if (wrap64 ((IntKind.u64.wrap (wrap64 (x9 + x10))) / 2)) < (x0.length : Int) then ((impl_lineOrder.f k ((rd_T54 x0 (wrap64 ((IntKind.u64.wrap (wrap64 (x9 + x10))) / 2))).f0) ((rd_T54 x0 (wrap64 ((IntKind.u64.wrap (wrap64 (x9 + x10))) / 2))).f1) ((rd_T54 x0 (wrap64 ((IntKind.u64.wrap (wrap64 (x9 + x10))) / 2))).f2) ((rd_T54 x0 (wrap64 ((IntKind.u64.wrap (wrap64 (x9 + x10))) / 2))).f3) ((rd_T54 x0 (wrap64 ((IntKind.u64.wrap (wrap64 (x9 + x10))) / 2))).f4) ((rd_T54 x0 (wrap64 ((IntKind.u64.wrap (wrap64 (x9 + x10))) / 2))).f5) ((rd_T54 x0 (wrap64 ((IntKind.u64.wrap (wrap64 (x9 + x10))) / 2))).f6) ((rd_T54 x0 (wrap64 ((IntKind.u64.wrap (wrap64 (x9 + x10))) / 2))).f7) x331000 x331001 x331002 x331003 x331004 x331005 x331006 x331007).bind fun t332 => (if t332 < 0 then (impl_OrderLine_impl_lineOrder.l0 k x0 x8 (wrap64 ((wrap64 ((IntKind.u64.wrap (wrap64 (x9 + x10))) / 2)) + 1)) x10 x331000 x331001 x331002 x331003 x331004 x331005 x331006 x331007) else (impl_OrderLine_impl_lineOrder.l0 k x0 x8 x9 (wrap64 ((IntKind.u64.wrap (wrap64 (x9 + x10))) / 2)) x331000 x331001 x331002 x331003 x331004 x331005 x331006 x331007))) else (none)) else (none)) else (if x9 < x8 then (if 0 ≤ x9 then (if x9 < (x0.length : Int) then ((impl_lineOrder.f k ((rd_T54 x0 x9).f0) ((rd_T54 x0 x9).f1) ((rd_T54 x0 x9).f2) ((rd_T54 x0 x9).f3) ((rd_T54 x0 x9).f4) ((rd_T54 x0 x9).f5) ((rd_T54 x0 x9).f6) ((rd_T54 x0 x9).f7) x331000 x331001 x331002 x331003 x331004 x331005 x331006 x331007).bind fun t334 => (some (x9, (t334 == 0)))) else (none)) else (none)) else (some (x9, false)))
def impl_OrderLine_impl_lineOrder.f (k : Nat) (l0 : List (S54)) (a1_0 : ByteArray) (a1_1 : ByteArray) (a1_2 : Int) (a1_3 : ByteArray) (a1_4 : Int) (a1_5 : Int) (a1_6 : Int) (a1_7 : Int)  : Option (Int × Bool) := impl_OrderLine_impl_lineOrder.l0 k l0 (l0.length : Int) 0 (l0.length : Int) a1_0 a1_1 a1_2 a1_3 a1_4 a1_5 a1_6 a1_7
def impl_isGreat.f (a0 : Int) : Option (Bool) := if a0 ≥ 65 then (some (decide (a0 ≤ 90))) else (some false)
def impl_isDigit.f (a0 : Int) : Option (Bool) := if a0 ≥ 48 then (some (decide (a0 ≤ 57))) else (some false)
def impl_within.f (a0 : Int) (a1 : Int) (a2 : Int) : Option (Bool) := if a1 ≤ a0 then (some (decide (a0 ≤ a2))) else (some false)
def impl_isName.l0 : Nat → ByteArray → Int → Int → Option (Bool)
  | 0, _, _, _ => none
  | k + 1, x0, x5, x6 => if x6 < x5 then (if 0 ≤ x6 then (if x6 < (x0.size : Int) then ((impl_isGreat.f (bt x0 x6)).bind fun t336 => (if t336 = true then (impl_isName.l0 k x0 x5 (wrap64 (x6 + 1))) else (if x6 = 0 then (some false) else ((impl_isDigit.f (bt x0 x6)).bind fun t337 => (if t337 = true then (impl_isName.l0 k x0 x5 (wrap64 (x6 + 1))) else (if (bt x0 x6) = 45 then (impl_isName.l0 k x0 x5 (wrap64 (x6 + 1))) else (some false))))))) else (none)) else (none)) else ((impl_within.f (x0.size : Int) 1 12).bind fun t335 => (some t335))
def impl_isName.f (k : Nat) (a0 : ByteArray) : Option (Bool) := impl_isName.l0 k a0 (a0.size : Int) 0
def impl_isQty.f (a0 : Int) : Option (Bool) := (impl_within.f a0 1 1000000).bind fun t338 => (some t338)
def impl_LineRight.f (k : Nat) (a0_0 : ByteArray) (a0_1 : ByteArray) (a0_2 : Int) (a0_3 : ByteArray) (a0_4 : Int) (a0_5 : Int) (a0_6 : Int) (a0_7 : Int) : Option (Bool) := (impl_isName.f k a0_0).bind fun t340 => (if t340 = true then ((impl_isName.f k a0_1).bind fun t341 => (if t341 = true then ((impl_isName.f k a0_3).bind fun t342 => (if t342 = true then ((impl_within.f a0_2 1 999).bind fun t343 => (if t343 = true then ((impl_isQty.f a0_4).bind fun t344 => (if t344 = true then ((impl_within.f a0_5 0 a0_4).bind fun t345 => (if t345 = true then ((impl_within.f a0_6 0 a0_5).bind fun t346 => (if t346 = true then ((impl_within.f a0_7 0 (wrap64 (a0_4 - a0_5))).bind fun t347 => (some t347)) else (some false))) else (some false))) else (some false))) else (some false))) else (some false))) else (some false))) else (some false))
def impl_LinesRight.l0 : Nat → List (S54) → List (S54) → Int → Int → Option (Bool)
  | 0, _, _, _, _ => none
  | k + 1, x0, x8, x9, x10 => if x10 < x9 then (if 0 ≤ x10 then (if x10 < (x8.length : Int) then ((impl_LineRight.f k ((rd_T54 x8 x10).f0) ((rd_T54 x8 x10).f1) ((rd_T54 x8 x10).f2) ((rd_T54 x8 x10).f3) ((rd_T54 x8 x10).f4) ((rd_T54 x8 x10).f5) ((rd_T54 x8 x10).f6) ((rd_T54 x8 x10).f7)).bind fun t350 => (if t350 = true then (if x10 > 0 then (if 0 ≤ (wrap64 (x10 - 1)) then (if (wrap64 (x10 - 1)) < (x0.length : Int) then ((impl_lineOrder.f k ((rd_T54 x0 (wrap64 (x10 - 1))).f0) ((rd_T54 x0 (wrap64 (x10 - 1))).f1) ((rd_T54 x0 (wrap64 (x10 - 1))).f2) ((rd_T54 x0 (wrap64 (x10 - 1))).f3) ((rd_T54 x0 (wrap64 (x10 - 1))).f4) ((rd_T54 x0 (wrap64 (x10 - 1))).f5) ((rd_T54 x0 (wrap64 (x10 - 1))).f6) ((rd_T54 x0 (wrap64 (x10 - 1))).f7) ((rd_T54 x8 x10).f0) ((rd_T54 x8 x10).f1) ((rd_T54 x8 x10).f2) ((rd_T54 x8 x10).f3) ((rd_T54 x8 x10).f4) ((rd_T54 x8 x10).f5) ((rd_T54 x8 x10).f6) ((rd_T54 x8 x10).f7)).bind fun t352 => (if t352 ≥ 0 then (some false) else (impl_LinesRight.l0 k x0 x8 x9 (wrap64 (x10 + 1))))) else (none)) else (none)) else (impl_LinesRight.l0 k x0 x8 x9 (wrap64 (x10 + 1)))) else (some false))) else (none)) else (none)) else (some true)
def impl_LinesRight.f (k : Nat) (l0 : List (S54)) : Option (Bool) := if (l0.length : Int) > 200 then (some false) else (impl_LinesRight.l0 k l0 l0 (l0.length : Int) 0)
def slices_Clone_implOrderLine.f (l0 : List S54) : Option (List S54) := if l0.length < 1599289640401 then some l0 else none
def slices_Insert_implOrderLine.f (l0 : List S54) (a1 : Int) (l2 : List S54) : Option (List S54) := if 0 ≤ a1 then (if a1 ≤ (l0.length : Int) then (if l2.length = 1 then (if l0.length + 1 < 1599289640401 then some (l0.take a1.toNat ++ l2 ++ l0.drop a1.toNat) else none) else none) else none) else none
def impl_LinesAdd.j0 : Nat → List (S54) → Int → Bool → ByteArray → ByteArray → Int → ByteArray → Int → Int → Int → Int → Option ((List (S54)))
  | 0, _, _, _, _, _, _, _, _, _, _, _ => none
  | k + 1, x0, x5, x30, x354000, x354001, x354002, x354003, x354004, x354005, x354006, x354007 => if x30 = true then ((slices_Clone_implOrderLine.f x0).bind fun t359 => (some t359)) else ((slices_Clone_implOrderLine.f x0).bind fun t362 => ((slices_Insert_implOrderLine.f t362 x5 (([(⟨x354000, x354001, x354002, x354003, x354004, x354005, x354006, x354007⟩ : S54)] : List (S54)))).bind fun t368 => (some t368)))
def impl_LinesAdd.f (k : Nat) (l0 : List (S54)) (a1_0 : ByteArray) (a1_1 : ByteArray) (a1_2 : Int) (a1_3 : ByteArray) (a1_4 : Int) (a1_5 : Int) (a1_6 : Int) (a1_7 : Int) : Option ((List (S54))) := (impl_OrderLine_95.f l0).bind fun t354 => (if t354 = true then (some ([] : List (S54))) else ((impl_OrderLine_impl_lineOrder.f k l0 a1_0 a1_1 a1_2 a1_3 a1_4 a1_5 a1_6 a1_7).bind fun bt355 => ((impl_LinesRight.f k l0).bind fun t357 => (if t357 = true then ((impl_LineRight.f k a1_0 a1_1 a1_2 a1_3 a1_4 a1_5 a1_6 a1_7).bind fun t358 => (if t358 = true then (if bt355.2 = true then (impl_LinesAdd.j0 k l0 bt355.1 true a1_0 a1_1 a1_2 a1_3 a1_4 a1_5 a1_6 a1_7) else (impl_LinesAdd.j0 k l0 bt355.1 ((l0.length : Int) == 200) a1_0 a1_1 a1_2 a1_3 a1_4 a1_5 a1_6 a1_7)) else (impl_LinesAdd.j0 k l0 bt355.1 true a1_0 a1_1 a1_2 a1_3 a1_4 a1_5 a1_6 a1_7))) else (impl_LinesAdd.j0 k l0 bt355.1 true a1_0 a1_1 a1_2 a1_3 a1_4 a1_5 a1_6 a1_7)))))
def impl_longText_1.f (a0 : ByteArray) : Option (Bool) := some (decide ((a0.size : Int) > 20000))
def slices_IndexFunc_string_string_impl_longText_1.l0 : Nat → List ByteArray → Int → Int → Option (Int)
  | 0, _, _, _ => none
  | k + 1, x0, x7, x8 => if x8 < x7 then (if 0 ≤ x8 then (if x8 < (x0.length : Int) then ((impl_longText_1.f (rdOf ByteArray.empty x0 x8)).bind fun t372 => (if t372 = true then (some x8) else (slices_IndexFunc_string_string_impl_longText_1.l0 k x0 x7 (wrap64 (x8 + 1))))) else (none)) else (none)) else (some (-1))
def slices_IndexFunc_string_string_impl_longText_1.f (k : Nat) (l0 : List ByteArray)  : Option (Int) := slices_IndexFunc_string_string_impl_longText_1.l0 k l0 (l0.length : Int) 0
def slices_ContainsFunc_string_string_impl_longText_1.f (k : Nat) (l0 : List ByteArray)  : Option (Bool) := (slices_IndexFunc_string_string_impl_longText_1.f k l0).bind fun t373 => (some (decide (t373 ≥ 0)))
def impl_longText.f (k : Nat) (l0 : List ByteArray) : Option (Bool) := (slices_ContainsFunc_string_string_impl_longText_1.f k l0).bind fun t374 => (some t374)
def impl_lineAt_p.f (a1 a2 : ByteArray) (a3 : Int) (x : S54) : Bool := x.f0.toList == a1.toList && (x.f1.toList == a2.toList && x.f2 == a3)
def impl_lineAt_ix.f (l0 : List S54) (a1 a2 : ByteArray) (a3 : Int) : Int := if l0.findIdx (impl_lineAt_p.f a1 a2 a3) < l0.length then ((l0.findIdx (impl_lineAt_p.f a1 a2 a3) : Nat) : Int) else -1
def impl_lineAt.f (l0 : List S54) (a1 a2 : ByteArray) (a3 : Int) : Option Int := some (impl_lineAt_ix.f l0 a1 a2 a3)
def impl_LineFind.j0 : Nat → List (S54) → ByteArray → ByteArray → Int → Bool → Option (Int)
  | 0, _, _, _, _, _ => none
  | k + 1, x0, x1, x2, x3, x9 => if x9 = true then (some 0) else ((impl_LinesRight.f k x0).bind fun t380 => (if t380 = true then ((impl_lineAt.f x0 x1 x2 x3).bind fun t381 => (some t381)) else (some (-1))))
def impl_LineFind.f (k : Nat) (l0 : List (S54)) (a1 : ByteArray) (a2 : ByteArray) (a3 : Int) : Option (Int) := (impl_OrderLine_95.f l0).bind fun t375 => (if t375 = true then (impl_LineFind.j0 k l0 a1 a2 a3 true) else ((impl_longText.f k (([a1, a2] : List ByteArray))).bind fun t379 => (impl_LineFind.j0 k l0 a1 a2 a3 t379)))
mutual
def laws_FnAdded.j0 : Nat → List (S54) → List (S54) → Bool → Option (Bool)
  | 0, _, _, _ => none
  | k + 1, x5, x6, x33 => if x33 = true then (some ((x6.length : Int) == (x5.length : Int))) else (laws_FnAdded.l0 k x5 x6 0)
def laws_FnAdded.l0 : Nat → List (S54) → List (S54) → Int → Option (Bool)
  | 0, _, _, _ => none
  | k + 1, x5, x6, x7 => if x7 < (x6.length : Int) then ((some (([] : List (S54)) : List (S54))).bind fun y407 => (if y407.length + x6.length < 1599289640401 then (if 0 ≤ x7 then (if x7 < (x5.length : Int) then ((impl_LineFind.f k (y407 ++ x6) ((rd_T54 x5 x7).f0) ((rd_T54 x5 x7).f1) ((rd_T54 x5 x7).f2)).bind fun t416 => (if t416 = x7 then (if (!((((rd_T54 x6 x7).f0).toList) == (((rd_T54 x5 x7).f0).toList)) || (!((((rd_T54 x6 x7).f1).toList) == (((rd_T54 x5 x7).f1).toList)) || (!(((rd_T54 x6 x7).f2) == ((rd_T54 x5 x7).f2)) || (!((((rd_T54 x6 x7).f3).toList) == (((rd_T54 x5 x7).f3).toList)) || (!(((rd_T54 x6 x7).f4) == ((rd_T54 x5 x7).f4)) || (!(((rd_T54 x6 x7).f5) == ((rd_T54 x5 x7).f5)) || (!(((rd_T54 x6 x7).f6) == ((rd_T54 x5 x7).f6)) || (!(((rd_T54 x6 x7).f7) == ((rd_T54 x5 x7).f7)))))))))) = true then (some false) else (laws_FnAdded.l0 k x5 x6 (wrap64 (x7 + 1)))) else (some false))) else (none)) else (none)) else (none))) else ((some (([] : List (S54)) : List (S54))).bind fun y419 => (if y419.length + x6.length < 1599289640401 then ((impl_LinesRight.f k (y419 ++ x6)).bind fun t425 => (some t425)) else (none)))
end
def laws_FnAdded.f (k : Nat) (l0 : List Int) : Option (Bool) := if (l0.length : Int) > 1048576 then (some true) else ((spec_DrawLinesAdd.f k l0).bind fun bt382 => ((spec_LinesAdd.f k bt382.1 bt382.2.1 bt382.2.2.1 bt382.2.2.2.1 bt382.2.2.2.2.1 bt382.2.2.2.2.2.1 bt382.2.2.2.2.2.2.1 bt382.2.2.2.2.2.2.2.1 bt382.2.2.2.2.2.2.2.2).bind fun t394 => ((some (([] : List (S54)) : List (S54))).bind fun y397 => (if y397.length + bt382.1.length < 1599289640401 then ((impl_LinesAdd.f k (y397 ++ bt382.1) bt382.2.1 bt382.2.2.1 bt382.2.2.2.1 bt382.2.2.2.2.1 bt382.2.2.2.2.2.1 bt382.2.2.2.2.2.2.1 bt382.2.2.2.2.2.2.2.1 bt382.2.2.2.2.2.2.2.2).bind fun t403 => (if (t403.length : Int) = (t394.length : Int) then ((spec_LinesRight.f k bt382.1).bind fun t406 => (laws_FnAdded.j0 k t394 t403 (!t406))) else (laws_FnAdded.j0 k t394 t403 true))) else (none)))))
end Go.Proofs.Ytefmkmhjbfpelaa.QP
namespace Go.Proofs.Ytefmkmhjbfpelaa.QP
open Go.RowKit Go.Proofs.YtefmkmhjbfpelaaW.PrintWords Go.Proofs.YtefmkmhjbfpelaaW.PrintLast Go.Proofs.YtefmkmhjbfpelaaW.PrintMore
attribute [local go_sem] max2_int min2_int max_two min_two max_three min_three max_four min_four   -- for this text's walks alone
set_option linter.unusedVariables false
set_option linter.unusedSimpArgs false
theorem eqA54 (d : Nat) (w : World) (x0 y0 : ByteArray) (x1 y1 : ByteArray) (x2 y2 : Int) (x3 y3 : ByteArray) (x4 y4 : Int) (x5 y5 : Int) (x6 y6 : Int) (x7 y7 : Int) :
    (Op.equalIn (d + 2) 54 (.agg #[.string x0, .string x1, .int .i64 x2, .string x3, .int .i64 x4, .int .i64 x5, .int .i64 x6, .int .i64 x7]) (.agg #[.string y0, .string y1, .int .i64 y2, .string y3, .int .i64 y4, .int .i64 y5, .int .i64 y6, .int .i64 y7])).run Try.prog w = .ok (x0.toList == y0.toList && (x1.toList == y1.toList && (x2 == y2 && (x3.toList == y3.toList && (x4 == y4 && (x5 == y5 && (x6 == y6 && (x7 == y7)))))))) w := by
  refine eqA_of Try.underlying54 (by kernel_rfl) ?_; refine eqf_cons (by rfl) (by go_simp; rfl) (by go_simp; rfl) (by go_simp) ?_; refine eqf_cons (by rfl) (by go_simp; rfl) (by go_simp; rfl) (by go_simp) ?_; refine eqf_cons (by rfl) (by go_simp; rfl) (by go_simp; rfl) (by go_simp) ?_; refine eqf_cons (by rfl) (by go_simp; rfl) (by go_simp; rfl) (by go_simp) ?_; refine eqf_cons (by rfl) (by go_simp; rfl) (by go_simp; rfl) (by go_simp) ?_; refine eqf_cons (by rfl) (by go_simp; rfl) (by go_simp; rfl) (by go_simp) ?_; refine eqf_cons (by rfl) (by go_simp; rfl) (by go_simp; rfl) (by go_simp) ?_
  exact eqf_last (by rfl) (by go_simp; rfl) (by go_simp; rfl) (by go_simp)
end Go.Proofs.Ytefmkmhjbfpelaa.QP
