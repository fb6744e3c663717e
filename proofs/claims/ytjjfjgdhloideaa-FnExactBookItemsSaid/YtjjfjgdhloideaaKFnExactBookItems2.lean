-- Merged by a program of this session (wip/tool/pack.py) out of its own texts for this claim.
import Derived.Laws.CopyOwn
import Derived.Lib.AppendZerosOnto
import Derived.Lib.Overlaps
import Derived.Laws.NewBlocks
import Derived.WalkSpells
import Derived.Shelf.Sort.Plain
import Derived.Shelf.Slices.CompactS
import Derived.Shelf.Slices.In.SortNone
import Derived.Test.YtjjfjgdhloideaaProg
import Derived.WalkKit
import Derived.Laws.Strings
import Derived.Below
import Derived.Deep.Draws
import Derived.Deep.AppendLies
import Derived.Maps.AppendAt
import Derived.OwnWalk
import Derived.Laws.BytesArg
import Derived.Laws.MakeOwn
import Derived.Laws.OwnMore
import Derived.Deep.OwnRows
import Derived.Tactics
import Derived.Lib.ConvBytes
import Derived.Laws.Slices
import Derived.KernelRfl
import Derived.RowKit3
import Derived.Deep.LoopGhost
import Derived.Deep.QuietTactic
import Derived.BigQuiet
import Derived.WideLaws
import Derived.Deep.DeepCutAuto
import Derived.Deep.CutBlock
import Derived.Deep.RegionHeld3
import Derived.Laws.Rows
import Derived.Lib.AppendStr
import Derived.ArgAppend
import Derived.Laws.IdiomCopy
import Derived.OrdersHeld
import Derived.Laws.BitsLemmas
import Derived.RowKit
import Derived.StillTailTactics
import Derived.Lib.Bytealg
import Derived.Sort.OwnSorted
import Derived.Test.YtjjfjgdhloideaaKFnExactBookItems0
import Derived.Test.YtjjfjgdhloideaaKFnExactBookItems1
namespace Go.Proofs.YtjjfjgdhloideaaW.PrintMore
open Go.RowKit Go.Proofs.YtjjfjgdhloideaaW.PrintWords Go.Proofs.YtjjfjgdhloideaaW.PrintLast
section
variable {P : Program} {ops : Array Oper} {Q : Exit → Act → World → Prop} {md : Region.Mode} {S : World → Prop} {ds : List Nat} {T : Bool × List (List Nat × List Nat)} {B : List Nat} {fuel : Nat} {l : Array Bool} {a a' : Act} {w : World} {oi : Oper} {v : Value}
theorem pA (i N : Nat) (hT : Aside0 (rtab md ops = T)) (h : wpAnyLast P md ops Q S ds fuel (l.setIfInBounds i true) a' w)
    (hi : ops[i]? = some oi := by exact rfl) (hN : oi.dst = some N := by exact rfl) (hc : anyT T l.toList (l.setIfInBounds i true).toList i = true := by kernel_rfl)
    (hw : Region.wanted oi (yielded ops a.tmps) = true := by rfl) (hy : ∀ w, (execOp a.eval oi).run P w = .ok (.value v) w := by (intro w'; go_simp; with_reducible rfl))
    (ha : a.put (some N) v = a' := by (simp only [Act.put, List.setIfInBounds_toArray, List.set_cons_zero, List.set_cons_succ, i64_w, i32_w]; rfl))
    (hQ : ∀ c a w, Q (.panic c) (a.put oi.dst v) w → Q (.panic c) a w := by exact fun _ _ _ h => h) : wpAnyLast P md ops Q S ds (fuel + 1) l a w :=
  pure_ _ hi hN (any_of hT.out hc) hQ (Or.inl ⟨hw, hy⟩) ha h
theorem pB (i N : Nat) (hT : Aside0 (rtab md ops = T)) (h : wpAnyLast P md ops Q S ds fuel (l.setIfInBounds i true) a' w)
    (hi : ops[i]? = some oi := by exact rfl) (hN : oi.dst = some N := by exact rfl) (hc : anyT T l.toList (l.setIfInBounds i true).toList i = true := by kernel_rfl)
    (hw : Region.wanted oi (yielded ops a.tmps) = false := by rfl)
    (ha : a.put (some N) undef = a' := by (simp only [Act.put, List.setIfInBounds_toArray, List.set_cons_zero, List.set_cons_succ, i64_w, i32_w]; rfl))
    (hQ : ∀ c a w, Q (.panic c) (a.put oi.dst undef) w → Q (.panic c) a w := by exact fun _ _ _ h => h) : wpAnyLast P md ops Q S ds (fuel + 1) l a w :=
  pure_ _ hi hN (any_of hT.out hc) hQ (Or.inr ⟨hw, rfl⟩) ha h
theorem tA (i N : Nat) (hT : Aside0 (rtab md ops = T)) (hB : Aside0 (waitsOk T.2 B = true)) (hS : S w) (h : wpAnyLast P md ops Q S ds fuel (l.setIfInBounds i true) a' w)
    (hi : ops[i]? = some oi := by exact rfl) (hN : oi.dst = some N := by exact rfl) (hc : takeW T B ds l.toList (l.setIfInBounds i true).toList i = true := by kernel_rfl)
    (hw : Region.wanted oi (yielded ops a.tmps) = true := by rfl) (hy : ∀ w, S w → (execOp a.eval oi).run P w = .ok (.value v) w := by (intro w' hs; go_simp; with_reducible rfl))
    (ha : a.put (some N) v = a' := by (simp only [Act.put, List.setIfInBounds_toArray, List.set_cons_zero, List.set_cons_succ, i64_w, i32_w]; rfl))
    (hQ : ∀ c a w, Q (.panic c) (a.put oi.dst v) w → Q (.panic c) a w := by exact fun _ _ _ h => h) : wpAnyLast P md ops Q S ds (fuel + 1) l a w :=
  take_ _ hi hN (take_ofW hT.out hB.out hc) hQ (Or.inl ⟨hw, hy⟩) hS ha h
theorem oA (i N : Nat) (hT : Aside0 (rtab md ops = T))
    (h : ∀ K : Act → World → Prop, Shut (∀ a' w', S w' → (S w' → wpAnyLast P md ops Q S ds fuel (l.setIfInBounds i true) a' w') → K a' w') → if Region.wanted oi (yielded ops a.tmps) = true then Oper.wp P oi a w K Q else K (a.put (some N) undef) w)
    (hi : ops[i]? = some oi := by exact rfl) (hN : oi.dst = some N := by exact rfl) (hc : (readyT T.2 l.toList == [i] && l.toList.set i true == (l.setIfInBounds i true).toList) = true := by kernel_rfl) (hd : i ∉ ds := by decide) : wpAnyLast P md ops Q S ds (fuel + 1) l a w :=
  one_ _ hi hN (one_of hT.out hc) hd h
theorem gA {N : Option Tmp} {K : Act → World → Prop} {f : FuncId} {fn : Func} {as_0 : Array Operand} {ts : Array TypeId} (hf : P.funcs[f]? = some fn) (args : Array Value)
    (h : Calls P f args w fun e w' => ∃ v, e = .returned v ∧ K (a.put N v) w') (hname : (fn.name == "runtime.NumGoroutine") = false := by kernel_rfl) (hb : fn.body.isSome = true := by exact rfl)
    (hw : Region.wanted oi (yielded ops a.tmps) = true := by rfl) (hN : oi.dst = N := by exact rfl) (hop : oi.op = .call { callee := .value (.func f), args := as_0, argTypes := ts } := by exact rfl)
    (hargs : as_0.map a.eval = args := by (try simp only [List.map_toArray, List.map_cons, List.map_nil]); first | done | rfl | (simp only [List.length_drop, List.length_take]; rfl)) : if Region.wanted oi (yielded ops a.tmps) = true then Oper.wp P oi a w K Q else K (a.put N undef) w :=
  goes_ hf hname hb args hw hN hop hargs h
theorem nA (N : Nat) (h : wpAnyLast P md ops Q S ds fuel l a' w) (ha : a.put (some N) v = a' := by (simp only [Act.put, List.setIfInBounds_toArray, List.set_cons_zero, List.set_cons_succ, i64_w, i32_w]; rfl)) : wpAnyLast P md ops Q S ds fuel l (a.put (some N) v) w := norm_ ha h
end
section
variable {P : Program} {ops : Array Oper} {Q : Exit → Act → World → Prop} {o : Oper} {rest : List Oper} {a : Act}
theorem bx {W : World} (N : Tmp) {cs : Array Value} {t : TypeId} (h : ∀ g, g = W.heap.size → ∀ w1, w1.heap[g]? = some (.cells cs t (0, 0)) → Below W.heap.size W w1 → wpList P ops Q rest (a.put o.dst (.pointer (some ⟨g, 0, none⟩))) w1)
    (hd : o.dst = some N := by rfl) (hg : o.guard = none := by rfl) (hr : (execOp a.eval o).run P W = .ok (.value (.pointer (some ⟨W.heap.size, 0, none⟩))) (W.alloc (.cells cs t (0, 0))) := by first | (go_simp; done) | (go_simp; rfl)) : wpList P ops Q (o :: rest) a W :=
  box_event hg hd hr h
end
theorem _root_.Go.Proofs.YtjjfjgdhloideaaW.PrintWords.KeepBut.far {w w1 w2 : World} {g gl : Nat} {row : Option Nat} (h : KeepBut w w1 g row) (k : KeepBut w1 w2 gl none) (hge : w.heap.size ≤ gl) : KeepBut w w2 g row :=
  ⟨Nat.le_trans h.1 k.1, fun i hi hg hr => (k.2 i (Nat.lt_of_lt_of_le hi h.1) (by omega) (by simp)).trans (h.2 i hi hg hr)⟩
theorem bs {w W W' : World} (h : Aside0 (Below w.heap.size w W)) (e : Below w.heap.size w W → Below w.heap.size w W' := by (intro h; repeat (first | (with_reducible first | exact h | apply below_alloc | apply pw_below_drewN | apply below_drew1) | refine below_set ?_ (Aside0.out (by assumption)) | exact h))) : Below w.heap.size w W' := e h.out
theorem ks {W W' : World} {g : Nat} {t : TypeId} {cs : Array Value} (h : Aside0 (W.heap[g]? = some (.cells cs t (0, 0)))) (e : W.heap[g]? = some (.cells cs t (0, 0)) → W'.heap[g]? = some (.cells cs t (0, 0)) := by (intro h; repeat (first | (with_reducible first | exact h | refine blk_drewN ?_ _ | refine blk_drew ?_ | refine blk_alloc ?_ _) | refine blk_far ?_ (Aside0.out (by assumption)) _ | exact h))) : W'.heap[g]? = some (.cells cs t (0, 0)) := e h.out
theorem rs {α : Type} {d : Kd α} {e base : Nat} {W W' : World} {ok : Nat → Prop} {v : Value} {xs : List α} (h : Aside0 (d.R e W base ok v xs)) (k : d.R e W base ok v xs → d.R e W' base ok v xs := by (intro h; (with_reducible repeat (first | apply Kd.R_alloc | apply Kd.R_drewN | apply Kd.R_drew)); exact h)) : d.R e W' base ok v xs := k h.out
theorem put0 {w : World} {g : Nat} {t : TypeId} {cs : Array Value} (h : w.heap[g]? = some (.cells cs t (0, 0))) (i : Nat) (u : Value) : (w.setCell ⟨g, i, none⟩ u).heap[g]? = some (.cells (cs.setIfInBounds i u) t (0, 0)) := blk_put h i u rfl
theorem fin0 {w : World} {g : Nat} {t : TypeId} {cs cs' : Array Value} (h : w.heap[g]? = some (.cells cs t (0, 0))) (e : cs = cs') : w.heap[g]? = some (.cells cs' t (0, 0)) := e ▸ h
theorem far0 {w : World} {g : Nat} {t : TypeId} {p : Addr} (hp : Aside0 (g ≠ p.block)) {cs : Array Value} (h : w.heap[g]? = some (.cells cs t (0, 0))) (u : Value) : (w.setCell p u).heap[g]? = some (.cells cs t (0, 0)) := blk_far h hp.out u
theorem kp {W W' : World} {g : Nat} {t : TypeId} {cs cs' : Array Value} (h : Aside0 (W.heap[g]? = some (.cells cs t (0, 0)))) (e : W.heap[g]? = some (.cells cs t (0, 0)) → W'.heap[g]? = some (.cells cs' t (0, 0)) := by (intro h; apply fin0; (· repeat (first | (with_reducible first | exact h | refine blk_drewN ?_ _ | refine blk_drew ?_ | refine blk_alloc ?_ _) | (with_reducible apply put0) | ((with_reducible apply far0); assumption) | exact h)); (· first | (simp only [List.setIfInBounds_toArray, List.set_cons_zero, List.set_cons_succ]; done) | rfl))) : W'.heap[g]? = some (.cells cs' t (0, 0)) := e h.out
theorem gs {w W : World} {g : Nat} (hg : g = W.heap.size) (h : Below w.heap.size w W) : w.heap.size ≤ g := hg ▸ h.size
theorem gn {W : World} {g g' : Nat} {o : Obj} (hg : g' = W.heap.size) (h : W.heap[g]? = some o) : g ≠ g' := by rw [hg]; exact Nat.ne_of_lt (blk_lt h)
theorem gm {W : World} {g g' : Nat} {o : Obj} (hg : g' = W.heap.size) (h : W.heap[g]? = some o) : g' ≠ g := (gn hg h).symm
theorem oa {p : Prop} [Decidable p] (h : decide p = true := by first | (with_reducible assumption) | assumption) : p := of_decide_eq_true h
theorem rf {α : Type} {d : Kd α} {e base : Nat} {W W' : World} {ok : Nat → Prop} {v : Value} {xs : List α} (h : d.R e W base ok v xs) (k : d.R e W base ok v xs → d.R e W' base ok v xs := by (intro h; repeat (first | (with_reducible first | exact h | apply Kd.R_alloc | apply Kd.R_drewN | apply Kd.R_drew) | refine Kd.R_far ?_ (fun _ hk => hk.2) _ | exact h))) : d.R e W' base ok v xs := k h
theorem cb {w W : World} {p : Addr} {v : Value} (h : Aside0 (Below w.heap.size w W)) (hx : w.cell? p = some v) : W.cell? p = some v := (h.out.cell (World.block_lt_of_cell? w _ hx)).trans hx
theorem ff {p : Prop} (h : p := by first | rfl | (simp [errW_none, errW_some] <;> rfl) | (simp [*, errW_none, errW_some] <;> rfl)) : p := h
theorem fg {p : Prop} (h : p := by first | rfl | (simp; done) | (simp [*]; done)) : p := h
theorem fl {m n : Nat} (h : m ≤ n := by first | omega | exact Nat.le_refl _) : m ≤ n := h
theorem cf2 {w : World} {g : Nat} {t : TypeId} {v0 v1 : Value} (h : Aside0 (w.heap[g]? = some (.cells #[v0, v1] t (0, 0)))) : w.cell? ⟨g, 0, none⟩ = some v0 ∧ w.cell? ⟨g, 1, none⟩ = some v1 ∧ w.frozen? ⟨g, 0, none⟩ = false ∧ w.frozen? ⟨g, 1, none⟩ = false :=
  ⟨(blk_cell h.out 0).trans rfl, (blk_cell h.out 1).trans rfl, blk_frozen h.out 0, blk_frozen h.out 1⟩
theorem cf8 {w : World} {g : Nat} {t : TypeId} {v0 v1 v2 v3 v4 v5 v6 v7 : Value} (h : Aside0 (w.heap[g]? = some (.cells #[v0, v1, v2, v3, v4, v5, v6, v7] t (0, 0)))) : w.cell? ⟨g, 0, none⟩ = some v0 ∧ w.cell? ⟨g, 1, none⟩ = some v1 ∧ w.cell? ⟨g, 2, none⟩ = some v2 ∧ w.cell? ⟨g, 3, none⟩ = some v3 ∧ w.cell? ⟨g, 4, none⟩ = some v4 ∧ w.cell? ⟨g, 5, none⟩ = some v5 ∧ w.cell? ⟨g, 6, none⟩ = some v6 ∧ w.cell? ⟨g, 7, none⟩ = some v7 ∧ w.frozen? ⟨g, 0, none⟩ = false ∧ w.frozen? ⟨g, 1, none⟩ = false ∧ w.frozen? ⟨g, 2, none⟩ = false ∧ w.frozen? ⟨g, 3, none⟩ = false ∧ w.frozen? ⟨g, 4, none⟩ = false ∧ w.frozen? ⟨g, 5, none⟩ = false ∧ w.frozen? ⟨g, 6, none⟩ = false ∧ w.frozen? ⟨g, 7, none⟩ = false :=
  ⟨(blk_cell h.out 0).trans rfl, (blk_cell h.out 1).trans rfl, (blk_cell h.out 2).trans rfl, (blk_cell h.out 3).trans rfl, (blk_cell h.out 4).trans rfl, (blk_cell h.out 5).trans rfl, (blk_cell h.out 6).trans rfl, (blk_cell h.out 7).trans rfl, blk_frozen h.out 0, blk_frozen h.out 1, blk_frozen h.out 2, blk_frozen h.out 3, blk_frozen h.out 4, blk_frozen h.out 5, blk_frozen h.out 6, blk_frozen h.out 7⟩
end Go.Proofs.YtjjfjgdhloideaaW.PrintMore
namespace Go.Proofs.YtjjfjgdhloideaaW.PrintMore
open Go.RowKit Go.Proofs.YtjjfjgdhloideaaW.PrintWords Go.Proofs.YtjjfjgdhloideaaW.PrintLast
section
variable {α : Type} {R : α → List Value → Prop} {size : Nat} {ps qs : List α} {cs ds : List Value}
theorem reps_all (h : Reps R size ps cs) {q : Value → Prop} (hq : ∀ p c, R p c → ∀ u ∈ c, q u) : ∀ u ∈ cs, q u := by
  intro u hu
  obtain ⟨k, hk, rfl⟩ := List.mem_iff_getElem.1 hu
  have hs : 0 < size := by
    rcases Nat.eq_zero_or_pos size with e | e
    · rw [h.1, e] at hk; simp at hk
    · exact e
  have hj : k / size < ps.length := by rw [Nat.div_lt_iff_lt_mul hs, ← h.1]; exact hk
  have hr := h.2 (k / size) _ (List.getElem?_eq_getElem hj)
  have hm : k % size < size := Nat.mod_lt _ hs
  have hd := Nat.div_add_mod k size
  refine hq _ _ hr _ ?_
  rw [List.mem_iff_getElem?]
  refine ⟨k % size, ?_⟩
  rw [List.getElem?_take, if_pos hm, List.getElem?_drop]
  have e : k / size * size + k % size = k := by rw [Nat.mul_comm]; exact hd
  rw [e]
  exact List.getElem?_eq_getElem hk
end
section
variable {α : Type} {d : Kd α} {e : Nat} {w w1 : World} {base : Nat} {ok ok1 : Nat → Prop} {v : Value} {xs : List α} {x : α} {cs : List Value}
def Mfl (d : Kd α) (base : Nat) (x : α) (c : List Value) : Prop := ∃ w ok, d.M w base ok x c
theorem r_row (h : d.R e w base ok v xs) : (v = .slice none 0 0 ∧ xs = []) ∨ ∃ g cap cur, v = .slice (some ⟨g, 0, none⟩) xs.length cap ∧ base ≤ g ∧ ok g ∧ w.heap[g]? = some (.cells cur e (0, 0)) ∧ xs.length ≤ cap ∧ cap ≤ maxLen ∧ cur.size = cap * d.sz ∧ Reps (Mfl d base) d.sz xs (cur.toList.take (xs.length * d.sz)) ∧ (∀ u ∈ cur.toList.take (xs.length * d.sz), u.oneCell' = true) := by
  obtain ⟨hok, inner, hown, hr⟩ := h
  rcases hown.2 with ⟨e1, h0⟩ | ⟨g, cap, cur, e1, hb, hg, hle, hm, hs, ht⟩
  · exact .inl ⟨e1, List.eq_nil_of_length_eq_zero h0⟩
  · subst ht
    exact .inr ⟨g, cap, cur, e1, hb, hok g (by rw [e1]; rfl), hg, hle, hm, hs, hr.imp_ (fun _ _ hp => ⟨_, _, hp⟩), reps_all hr (fun _ _ hp => d.K_one (d.K_of_M hp))⟩
end
section
variable {P : Program}
end
section
variable {P : Program}
end
end Go.Proofs.YtjjfjgdhloideaaW.PrintMore
namespace Go.Proofs
open Go.Shelf
def Try.lays190_ren : Go.Shelf.Ren := ⟨fun | 190 => 84 | 125 => 113 | 258 => 112 | 128 => 133 | 129 => 134 | 302 => 124 | 303 => 125 | 304 => 126 | 305 => 127 | 306 => 128 | 307 => 129 | 308 => 130 | 309 => 131 | 310 => 132 | 333 => 140 | 329 => 141 | 330 => 142 | 334 => 143 | 335 => 144 | 336 => 136 | 344 => 146 | n => n, fun | 31 => 41 | 9 => 9 | 3 => 3 | 46 => 149 | 0 => 0 | 51 => 168 | 53 => 170 | 4 => 4 | 183 => 160 | 182 => 159 | 131 => 165 | 5 => 5 | 218 => 175 | 222 => 179 | 228 => 182 | 229 => 183 | n => n, fun | n => n⟩
theorem Try.lays190 : Go.Proofs.Lays.n190 Try.prog Try.lays190_ren := {
  mixed := by kernel_rfl
  f125 := Try.func113.trans (congrArg some (by kernel_rfl))
  f128 := Try.func133.trans (congrArg some (by kernel_rfl))
  f129 := Try.func134.trans (congrArg some (by kernel_rfl))
  f190 := Try.func84.trans (congrArg some (by kernel_rfl))
  f258 := Try.func112.trans (congrArg some (by kernel_rfl))
  f302 := Try.func124.trans (congrArg some (by kernel_rfl))
  f303 := Try.func125.trans (congrArg some (by kernel_rfl))
  f304 := Try.func126.trans (congrArg some (by kernel_rfl))
  f305 := Try.func127.trans (congrArg some (by kernel_rfl))
  f306 := Try.func128.trans (congrArg some (by kernel_rfl))
  f307 := Try.func129.trans (congrArg some (by kernel_rfl))
  f308 := Try.func130.trans (congrArg some (by kernel_rfl))
  f309 := Try.func131.trans (congrArg some (by kernel_rfl))
  f310 := Try.func132.trans (congrArg some (by kernel_rfl))
  f329 := Try.func141.trans (congrArg some (by kernel_rfl))
  f330 := Try.func142.trans (congrArg some (by kernel_rfl))
  f333 := Try.func140.trans (congrArg some (by kernel_rfl))
  f334 := Try.func143.trans (congrArg some (by kernel_rfl))
  f335 := Try.func144.trans (congrArg some (by kernel_rfl))
  f336 := Try.func136.trans (congrArg some (by kernel_rfl))
  f344 := Try.func146.trans (congrArg some (by kernel_rfl))
  t0 := Try.underlying0
  a0 := Try.isAgg0
  z0 := Try.sizeOf0
  v0 := Try.zeroValue0
  t3 := Try.underlying3
  a3 := Try.isAgg3
  z3 := Try.sizeOf3
  v3 := Try.zeroValue3
  t4 := Try.underlying4
  a4 := Try.isAgg4
  z4 := Try.sizeOf4
  v4 := Try.zeroValue4
  t5 := Try.underlying5
  a5 := Try.isAgg5
  z5 := Try.sizeOf5
  v5 := Try.zeroValue5
  t9 := Try.underlying9
  a9 := Try.isAgg9
  z9 := Try.sizeOf9
  v9 := Try.zeroValue9
  t31 := Try.underlying41
  a31 := Try.isAgg41
  z31 := Try.sizeOf41
  v31 := Try.zeroValue41
  t46 := Try.underlying149
  a46 := Try.isAgg149
  z46 := Try.sizeOf149
  v46 := Try.zeroValue149
  t51 := Try.underlying168
  a51 := Try.isAgg168
  z51 := Try.sizeOf168
  v51 := Try.zeroValue168
  t53 := Try.underlying170
  a53 := Try.isAgg170
  z53 := Try.sizeOf170
  v53 := Try.zeroValue170
  t131 := Try.underlying165
  a131 := Try.isAgg165
  z131 := Try.sizeOf165
  v131 := Try.zeroValue165
  t182 := Try.underlying159
  a182 := Try.isAgg159
  z182 := Try.sizeOf159
  v182 := Try.zeroValue159
  t183 := Try.underlying160
  a183 := Try.isAgg160
  z183 := Try.sizeOf160
  v183 := Try.zeroValue160
  t218 := Try.underlying175
  a218 := Try.isAgg175
  z218 := Try.sizeOf175
  v218 := Try.zeroValue175
  t222 := Try.underlying179
  a222 := Try.isAgg179
  z222 := Try.sizeOf179
  v222 := Try.zeroValue179
  t228 := Try.underlying182
  a228 := Try.isAgg182
  z228 := Try.sizeOf182
  v228 := Try.zeroValue182
  t229 := Try.underlying183
  a229 := Try.isAgg183
  z229 := Try.sizeOf183
  v229 := Try.zeroValue183 }
open Go.Sort Go.RowKit in
theorem Try.slices_Sort_string (blk off cap : Nat) (ss : List (List UInt8)) (w : World) (hH : Holds encStr w blk off ss.toArray) (hblk : blk < w.heap.size) (hsz : ss.length < 4611686018427387904) :
    Calls Try.prog 84 #[.slice (some ⟨blk, off, none⟩) ss.length cap] w fun e w' =>
      e = .returned (.tuple #[]) ∧ ∃ n os, w' = grow (putRow encStr (Sort.ahead w n) blk off (ss.mergeSort fun x y => decide (x ≤ y)).toArray) os := Any.slices_Sort_string Try.lays190 blk off cap ss w hH hblk hsz
def Try.lays194_ren : Go.Shelf.Ren := ⟨fun | 194 => 85 | n => n, fun | 31 => 41 | 9 => 9 | 3 => 3 | 4 => 4 | 0 => 0 | n => n, fun | n => n⟩
theorem Try.lays194 : Go.Proofs.Lays.n194 Try.prog Try.lays194_ren := {
  mixed := by kernel_rfl
  f194 := Try.func85.trans (congrArg some (by kernel_rfl))
  t0 := Try.underlying0
  a0 := Try.isAgg0
  z0 := Try.sizeOf0
  v0 := Try.zeroValue0
  t3 := Try.underlying3
  a3 := Try.isAgg3
  z3 := Try.sizeOf3
  v3 := Try.zeroValue3
  t4 := Try.underlying4
  a4 := Try.isAgg4
  z4 := Try.sizeOf4
  v4 := Try.zeroValue4
  t9 := Try.underlying9
  a9 := Try.isAgg9
  z9 := Try.sizeOf9
  v9 := Try.zeroValue9
  t31 := Try.underlying41
  a31 := Try.isAgg41
  z31 := Try.sizeOf41
  v31 := Try.zeroValue41 }
open Go.RowKit Go.Lib Go.Sort in
theorem Try.slices_Compact_string (blk off cap : Nat) (zs : List (List UInt8)) (w : World) (hH : Holds encStr w blk off zs.toArray) (hsz : zs.length ≤ 9223372036854775807) (hcap : zs.length ≤ cap) :
    Calls Try.prog 85 #[.slice (some ⟨blk, off, none⟩) zs.length cap] w fun e w' => e = .returned (.slice (some ⟨blk, off, none⟩) (Lib.compact zs).length cap) ∧ ∃ q, w' = putRow encStr (Sort.ahead w q) blk off (Lib.compact zs ++ List.replicate (zs.length - (Lib.compact zs).length) []).toArray := Any.slices_Compact_string Try.lays194 blk off cap zs w hH hsz hcap
open Go.RowKit Go.Lib Go.Sort in
theorem Try.slices_Compact_string_empty (a : Option Addr) (cap : Nat) (w : World) :
    Calls Try.prog 85 #[.slice a 0 cap] w fun e w' => e = .returned (.slice a 0 cap) ∧ w' = w := Any.slices_Compact_string_empty Try.lays194 a cap w
open Go.RowKit Go.Sort in
theorem Try.slices_Sort_string_none (p : Option Addr) (cap : Nat) (w : World) :
    Calls Try.prog 84 #[.slice p 0 cap] w fun e w' => e = .returned (.tuple #[]) ∧ w' = w := Any.slices_Sort_string_none Try.lays190 p cap w
end Go.Proofs
namespace Go.Proofs.Ytjjfjgdhloideaa.Bs
open Go.Op
theorem less_irrefl : ∀ a : List UInt8, bytesLess a a = false
  | [] => rfl
  | x :: a => by simp [bytesLess, less_irrefl a]
theorem less_tri : ∀ a b : List UInt8, (!(bytesLess a b || a == b)) = bytesLess b a
  | [], [] => rfl
  | [], _ :: _ => rfl
  | _ :: _, [] => rfl
  | x :: a, y :: b => by
    have ih := less_tri a b
    by_cases h1 : x < y
    · have h2 : ¬ y < x := fun h => by have := UInt8.lt_iff_toNat_lt.1 h; have := UInt8.lt_iff_toNat_lt.1 h1; omega
      have h3 : ¬ x = y := fun h => by subst h; have := UInt8.lt_iff_toNat_lt.1 h1; omega
      have h4 : ¬ y = x := fun h => h3 h.symm
      simp [bytesLess, h1, h2, h4]
    · by_cases h2 : y < x
      · have h3 : ¬ x = y := fun h => by subst h; have := UInt8.lt_iff_toNat_lt.1 h2; omega
        simp [bytesLess, h1, h2, h3]
      · have h3 : x = y := UInt8.toNat_inj.1 (by
          have e1 := mt UInt8.lt_iff_toNat_lt.2 h1
          have e2 := mt UInt8.lt_iff_toNat_lt.2 h2
          omega)
        subst h3
        have e1 : bytesLess (x :: b) (x :: a) = bytesLess b a := by simp [bytesLess]
        have e2 : bytesLess (x :: a) (x :: b) = bytesLess a b := by simp [bytesLess]
        have e3 : (x :: a == x :: b) = (a == b) := by simp
        rw [e1, e2, e3]
        exact ih
@[go_sem] theorem binOp_gtr (t : TypeId) (a b : ByteArray) : binOp .gtr t (.string a) (.string b) = pure (.bool (bytesLess b.toList a.toList)) := by
  rw [← less_tri]
  simp [binOp, Op.stringOp]
@[go_sem] theorem binOp_leq (t : TypeId) (a b : ByteArray) : binOp .leq t (.string a) (.string b) = pure (.bool !(bytesLess b.toList a.toList)) := by
  rw [← less_tri]
  simp [binOp, Op.stringOp]
@[go_sem] theorem binOp_geq (t : TypeId) (a b : ByteArray) : binOp .geq t (.string a) (.string b) = pure (.bool !(bytesLess a.toList b.toList)) := by
  simp [binOp, Op.stringOp]
end Go.Proofs.Ytjjfjgdhloideaa.Bs
namespace Go.Proofs.Ytjjfjgdhloideaa.QH
open Go.RowKit Go.Proofs.YtjjfjgdhloideaaW.PrintWords Go.Proofs.YtjjfjgdhloideaaW.PrintLast Go.Proofs.YtjjfjgdhloideaaW.PrintMore
attribute [local go_sem] max2_int min2_int max_two min_two max_three min_three max_four min_four   -- for this text's walks alone
set_option linter.unusedVariables false
set_option linter.unusedSimpArgs false
def errW : Option Int → Value
  | none => .nilIface
  | some c => .iface 0 (.int .i64 c)
theorem errW_none : errW none = .nilIface := rfl
theorem errW_some (c : Int) : errW (some c) = .iface 0 (.int .i64 c) := rfl
theorem info9 : (Try.prog.info? 9).map (fun i => (i.zero, i.size, i.bytes)) = some (some (.string ⟨#[]⟩), 1, 16) := by kernel_rfl
theorem info71 : (Try.prog.info? 71).map (fun i => (i.zero, i.size, i.bytes)) = some (some (.agg #[(.string ⟨#[]⟩), (.int .i64 0)]), 2, 24) := by kernel_rfl
theorem info73 : (Try.prog.info? 73).map (fun i => (i.zero, i.size, i.bytes)) = some (some (.agg #[(.string ⟨#[]⟩), (.string ⟨#[]⟩), (.int .i64 0), (.string ⟨#[]⟩), (.int .i64 0), (.int .i64 0), (.int .i64 0), (.int .i64 0)]), 8, 88) := by kernel_rfl
structure S111 where
  f0 : ByteArray
  f1 : Int
def z111 : S111 := ⟨(⟨#[]⟩ : ByteArray), (0 : Int)⟩
def k111 : Kd S111 := Kd.iso (Kd.pair Kd.string (Kd.int .i64)) (fun x : S111 => (x.f0, x.f1))
theorem k111_open {w : World} {x : S111} {cs : List Value} (h : k111.K w x cs) : cs = [.string x.f0, .int .i64 x.f1] := by
  obtain ⟨_, _, rfl, rfl, rfl⟩ := h
  exact rfl
def rd_T111 (xs : List S111) (i : Int) : S111 := xs.getD i.toNat z111
theorem at_T111 {w : World} {A : Option Addr} {n : Nat} {xs : List S111} (h : Kd.C k111 w A n xs) (i : Int) (h0 : 0 ≤ i) (h1 : i < n) : ∃ ad , A = some ad ∧ w.cell? (ad.add (i.toNat * 2)) = some (.string (rd_T111 xs i).f0) ∧ w.cell? ⟨(ad.add (i.toNat * 2)).block, (ad.add (i.toNat * 2)).off + 1, none⟩ = some (.int .i64 (rd_T111 xs i).f1) := by
  obtain ⟨ad, c, e, _, hK, hc0⟩ := Kd.C_get h z111 i h0 h1; have hc : ∀ j u, c[j]? = some u → w.cell? (ad.add (i.toNat * 2 + j)) = some u := hc0; obtain rfl := k111_open hK
  exact ⟨ad, e, hc 0 _ rfl, by rw [← add_field _ _ 1 (by omega)]; exact hc 1 _ rfl⟩
structure S113 where
  f0 : ByteArray
  f1 : ByteArray
  f2 : Int
  f3 : ByteArray
  f4 : Int
  f5 : Int
  f6 : Int
  f7 : Int
def z113 : S113 := ⟨(⟨#[]⟩ : ByteArray), (⟨#[]⟩ : ByteArray), (0 : Int), (⟨#[]⟩ : ByteArray), (0 : Int), (0 : Int), (0 : Int), (0 : Int)⟩
def k113 : Kd S113 := Kd.iso (Kd.pair Kd.string (Kd.pair Kd.string (Kd.pair (Kd.int .i64) (Kd.pair Kd.string (Kd.pair (Kd.int .i64) (Kd.pair (Kd.int .i64) (Kd.pair (Kd.int .i64) (Kd.int .i64)))))))) (fun x : S113 => (x.f0, x.f1, x.f2, x.f3, x.f4, x.f5, x.f6, x.f7))
theorem k113_open {w : World} {x : S113} {cs : List Value} (h : k113.K w x cs) : cs = [.string x.f0, .string x.f1, .int .i64 x.f2, .string x.f3, .int .i64 x.f4, .int .i64 x.f5, .int .i64 x.f6, .int .i64 x.f7] := by
  obtain ⟨_, _, rfl, rfl, ⟨_, _, rfl, rfl, ⟨_, _, rfl, rfl, ⟨_, _, rfl, rfl, ⟨_, _, rfl, rfl, ⟨_, _, rfl, rfl, ⟨_, _, rfl, rfl, rfl⟩⟩⟩⟩⟩⟩⟩ := h
  exact rfl
def rd_T113 (xs : List S113) (i : Int) : S113 := xs.getD i.toNat z113
theorem at_T113 {w : World} {A : Option Addr} {n : Nat} {xs : List S113} (h : Kd.C k113 w A n xs) (i : Int) (h0 : 0 ≤ i) (h1 : i < n) : ∃ ad , A = some ad ∧ w.cell? (ad.add (i.toNat * 8)) = some (.string (rd_T113 xs i).f0) ∧ w.cell? ⟨(ad.add (i.toNat * 8)).block, (ad.add (i.toNat * 8)).off + 1, none⟩ = some (.string (rd_T113 xs i).f1) ∧ w.cell? ⟨(ad.add (i.toNat * 8)).block, (ad.add (i.toNat * 8)).off + 2, none⟩ = some (.int .i64 (rd_T113 xs i).f2) ∧ w.cell? ⟨(ad.add (i.toNat * 8)).block, (ad.add (i.toNat * 8)).off + 3, none⟩ = some (.string (rd_T113 xs i).f3) ∧ w.cell? ⟨(ad.add (i.toNat * 8)).block, (ad.add (i.toNat * 8)).off + 4, none⟩ = some (.int .i64 (rd_T113 xs i).f4) ∧ w.cell? ⟨(ad.add (i.toNat * 8)).block, (ad.add (i.toNat * 8)).off + 5, none⟩ = some (.int .i64 (rd_T113 xs i).f5) ∧ w.cell? ⟨(ad.add (i.toNat * 8)).block, (ad.add (i.toNat * 8)).off + 6, none⟩ = some (.int .i64 (rd_T113 xs i).f6) ∧ w.cell? ⟨(ad.add (i.toNat * 8)).block, (ad.add (i.toNat * 8)).off + 7, none⟩ = some (.int .i64 (rd_T113 xs i).f7) := by
  obtain ⟨ad, c, e, _, hK, hc0⟩ := Kd.C_get h z113 i h0 h1; have hc : ∀ j u, c[j]? = some u → w.cell? (ad.add (i.toNat * 8 + j)) = some u := hc0; obtain rfl := k113_open hK
  exact ⟨ad, e, hc 0 _ rfl, by rw [← add_field _ _ 1 (by omega)]; exact hc 1 _ rfl, by rw [← add_field _ _ 2 (by omega)]; exact hc 2 _ rfl, by rw [← add_field _ _ 3 (by omega)]; exact hc 3 _ rfl, by rw [← add_field _ _ 4 (by omega)]; exact hc 4 _ rfl, by rw [← add_field _ _ 5 (by omega)]; exact hc 5 _ rfl, by rw [← add_field _ _ 6 (by omega)]; exact hc 6 _ rfl, by rw [← add_field _ _ 7 (by omega)]; exact hc 7 _ rfl⟩
structure S71 where
  f0 : ByteArray
  f1 : Int
def z71 : S71 := ⟨(⟨#[]⟩ : ByteArray), (0 : Int)⟩
def k71 : Kd S71 := Kd.iso (Kd.pair Kd.string (Kd.int .i64)) (fun x : S71 => (x.f0, x.f1))
theorem k71_open {w : World} {x : S71} {cs : List Value} (h : k71.K w x cs) : cs = [.string x.f0, .int .i64 x.f1] := by
  obtain ⟨_, _, rfl, rfl, rfl⟩ := h
  exact rfl
theorem k71_openM {w : World} {base : Nat} {ok : Nat → Prop} {x : S71} {cs : List Value} (h : k71.M w base ok x cs) : cs = [.string x.f0, .int .i64 x.f1] := by
  obtain ⟨_, _, rfl, rfl, rfl⟩ := h
  exact rfl
theorem k71_mkM (w : World) (base : Nat) (ok : Nat → Prop) (x : S71)  : k71.M w base ok x [.string x.f0, .int .i64 x.f1] := ⟨[.string x.f0], [.int .i64 x.f1], rfl, rfl, rfl⟩
def rd_T71 (xs : List S71) (i : Int) : S71 := xs.getD i.toNat z71
theorem at_T71 {w : World} {A : Option Addr} {n : Nat} {xs : List S71} (h : Kd.C k71 w A n xs) (i : Int) (h0 : 0 ≤ i) (h1 : i < n) : ∃ ad , A = some ad ∧ w.cell? (ad.add (i.toNat * 2)) = some (.string (rd_T71 xs i).f0) ∧ w.cell? ⟨(ad.add (i.toNat * 2)).block, (ad.add (i.toNat * 2)).off + 1, none⟩ = some (.int .i64 (rd_T71 xs i).f1) := by
  obtain ⟨ad, c, e, _, hK, hc0⟩ := Kd.C_get h z71 i h0 h1; have hc : ∀ j u, c[j]? = some u → w.cell? (ad.add (i.toNat * 2 + j)) = some u := hc0; obtain rfl := k71_open hK
  exact ⟨ad, e, hc 0 _ rfl, by rw [← add_field _ _ 1 (by omega)]; exact hc 1 _ rfl⟩
structure S73 where
  f0 : ByteArray
  f1 : ByteArray
  f2 : Int
  f3 : ByteArray
  f4 : Int
  f5 : Int
  f6 : Int
  f7 : Int
def z73 : S73 := ⟨(⟨#[]⟩ : ByteArray), (⟨#[]⟩ : ByteArray), (0 : Int), (⟨#[]⟩ : ByteArray), (0 : Int), (0 : Int), (0 : Int), (0 : Int)⟩
def k73 : Kd S73 := Kd.iso (Kd.pair Kd.string (Kd.pair Kd.string (Kd.pair (Kd.int .i64) (Kd.pair Kd.string (Kd.pair (Kd.int .i64) (Kd.pair (Kd.int .i64) (Kd.pair (Kd.int .i64) (Kd.int .i64)))))))) (fun x : S73 => (x.f0, x.f1, x.f2, x.f3, x.f4, x.f5, x.f6, x.f7))
theorem k73_open {w : World} {x : S73} {cs : List Value} (h : k73.K w x cs) : cs = [.string x.f0, .string x.f1, .int .i64 x.f2, .string x.f3, .int .i64 x.f4, .int .i64 x.f5, .int .i64 x.f6, .int .i64 x.f7] := by
  obtain ⟨_, _, rfl, rfl, ⟨_, _, rfl, rfl, ⟨_, _, rfl, rfl, ⟨_, _, rfl, rfl, ⟨_, _, rfl, rfl, ⟨_, _, rfl, rfl, ⟨_, _, rfl, rfl, rfl⟩⟩⟩⟩⟩⟩⟩ := h
  exact rfl
theorem k73_openM {w : World} {base : Nat} {ok : Nat → Prop} {x : S73} {cs : List Value} (h : k73.M w base ok x cs) : cs = [.string x.f0, .string x.f1, .int .i64 x.f2, .string x.f3, .int .i64 x.f4, .int .i64 x.f5, .int .i64 x.f6, .int .i64 x.f7] := by
  obtain ⟨_, _, rfl, rfl, ⟨_, _, rfl, rfl, ⟨_, _, rfl, rfl, ⟨_, _, rfl, rfl, ⟨_, _, rfl, rfl, ⟨_, _, rfl, rfl, ⟨_, _, rfl, rfl, rfl⟩⟩⟩⟩⟩⟩⟩ := h
  exact rfl
theorem k73_mkM (w : World) (base : Nat) (ok : Nat → Prop) (x : S73)  : k73.M w base ok x [.string x.f0, .string x.f1, .int .i64 x.f2, .string x.f3, .int .i64 x.f4, .int .i64 x.f5, .int .i64 x.f6, .int .i64 x.f7] := ⟨[.string x.f0], [.string x.f1, .int .i64 x.f2, .string x.f3, .int .i64 x.f4, .int .i64 x.f5, .int .i64 x.f6, .int .i64 x.f7], rfl, rfl, ⟨[.string x.f1], [.int .i64 x.f2, .string x.f3, .int .i64 x.f4, .int .i64 x.f5, .int .i64 x.f6, .int .i64 x.f7], rfl, rfl, ⟨[.int .i64 x.f2], [.string x.f3, .int .i64 x.f4, .int .i64 x.f5, .int .i64 x.f6, .int .i64 x.f7], rfl, rfl, ⟨[.string x.f3], [.int .i64 x.f4, .int .i64 x.f5, .int .i64 x.f6, .int .i64 x.f7], rfl, rfl, ⟨[.int .i64 x.f4], [.int .i64 x.f5, .int .i64 x.f6, .int .i64 x.f7], rfl, rfl, ⟨[.int .i64 x.f5], [.int .i64 x.f6, .int .i64 x.f7], rfl, rfl, ⟨[.int .i64 x.f6], [.int .i64 x.f7], rfl, rfl, rfl⟩⟩⟩⟩⟩⟩⟩
def rd_T73 (xs : List S73) (i : Int) : S73 := xs.getD i.toNat z73
theorem at_T73 {w : World} {A : Option Addr} {n : Nat} {xs : List S73} (h : Kd.C k73 w A n xs) (i : Int) (h0 : 0 ≤ i) (h1 : i < n) : ∃ ad , A = some ad ∧ w.cell? (ad.add (i.toNat * 8)) = some (.string (rd_T73 xs i).f0) ∧ w.cell? ⟨(ad.add (i.toNat * 8)).block, (ad.add (i.toNat * 8)).off + 1, none⟩ = some (.string (rd_T73 xs i).f1) ∧ w.cell? ⟨(ad.add (i.toNat * 8)).block, (ad.add (i.toNat * 8)).off + 2, none⟩ = some (.int .i64 (rd_T73 xs i).f2) ∧ w.cell? ⟨(ad.add (i.toNat * 8)).block, (ad.add (i.toNat * 8)).off + 3, none⟩ = some (.string (rd_T73 xs i).f3) ∧ w.cell? ⟨(ad.add (i.toNat * 8)).block, (ad.add (i.toNat * 8)).off + 4, none⟩ = some (.int .i64 (rd_T73 xs i).f4) ∧ w.cell? ⟨(ad.add (i.toNat * 8)).block, (ad.add (i.toNat * 8)).off + 5, none⟩ = some (.int .i64 (rd_T73 xs i).f5) ∧ w.cell? ⟨(ad.add (i.toNat * 8)).block, (ad.add (i.toNat * 8)).off + 6, none⟩ = some (.int .i64 (rd_T73 xs i).f6) ∧ w.cell? ⟨(ad.add (i.toNat * 8)).block, (ad.add (i.toNat * 8)).off + 7, none⟩ = some (.int .i64 (rd_T73 xs i).f7) := by
  obtain ⟨ad, c, e, _, hK, hc0⟩ := Kd.C_get h z73 i h0 h1; have hc : ∀ j u, c[j]? = some u → w.cell? (ad.add (i.toNat * 8 + j)) = some u := hc0; obtain rfl := k73_open hK
  exact ⟨ad, e, hc 0 _ rfl, by rw [← add_field _ _ 1 (by omega)]; exact hc 1 _ rfl, by rw [← add_field _ _ 2 (by omega)]; exact hc 2 _ rfl, by rw [← add_field _ _ 3 (by omega)]; exact hc 3 _ rfl, by rw [← add_field _ _ 4 (by omega)]; exact hc 4 _ rfl, by rw [← add_field _ _ 5 (by omega)]; exact hc 5 _ rfl, by rw [← add_field _ _ 6 (by omega)]; exact hc 6 _ rfl, by rw [← add_field _ _ 7 (by omega)]; exact hc 7 _ rfl⟩
structure S39 where
  f0 : (List S111)
  f1 : (List S113)
def k39 : Kd S39 := Kd.iso (Kd.pair (Kd.slice 111 k111) (Kd.slice 113 k113)) (fun x : S39 => (x.f0, x.f1))
theorem k39_open {w : World} {x : S39} {cs : List Value} (h : k39.K w x cs) : ∃ A0 c0 A1 c1, cs = [.slice A0 x.f0.length c0, .slice A1 x.f1.length c1] ∧ x.f0.length ≤ c0 ∧ k111.C w A0 x.f0.length x.f0 ∧ x.f1.length ≤ c1 ∧ k113.C w A1 x.f1.length x.f1 := by
  obtain ⟨_, _, rfl, ⟨A0, c0, rfl, l0, g0⟩, ⟨A1, c1, rfl, l1, g1⟩⟩ := h
  exact ⟨A0, c0, A1, c1, rfl, l0, g0, l1, g1⟩
end Go.Proofs.Ytjjfjgdhloideaa.QH
namespace Go.Proofs.Ytjjfjgdhloideaa.QH
open Go.RowKit Go.Proofs.YtjjfjgdhloideaaW.PrintWords Go.Proofs.YtjjfjgdhloideaaW.PrintLast Go.Proofs.YtjjfjgdhloideaaW.PrintMore
attribute [local go_sem] max2_int min2_int max_two min_two max_three min_three max_four min_four   -- for this text's walks alone
set_option linter.unusedVariables false
set_option linter.unusedSimpArgs false
def laws_szStock.f (a0_0 : ByteArray) (a0_1 : Int) (a1 : Int) : Option (Int) := if (wrap64 (a1 - (a0_0.size : Int))) < 0 then (some (-1)) else (some (wrap64 (a1 - (a0_0.size : Int))))
def laws_szStockS.l0 : Nat → List (S111) → Int → Int → Option (Int)
  | 0, _, _, _ => none
  | k + 1, x0, x1, x5 => if x5 < (x0.length : Int) then (if 0 ≤ x5 then ((laws_szStock.f ((rd_T111 x0 x5).f0) ((rd_T111 x0 x5).f1) x1).bind fun t103 => (if t103 < 0 then (some (-1)) else (laws_szStockS.l0 k x0 t103 (wrap64 (x5 + 1))))) else (none)) else (some x1)
def laws_szStockS.f (k : Nat) (l0 : List (S111)) (a1 : Int) : Option (Int) := if (wrap64 (a1 - (l0.length : Int))) < 0 then (some (-1)) else (laws_szStockS.l0 k l0 (wrap64 (a1 - (l0.length : Int))) 0)
def laws_szOrderLine.f (a0_0 : ByteArray) (a0_1 : ByteArray) (a0_2 : Int) (a0_3 : ByteArray) (a0_4 : Int) (a0_5 : Int) (a0_6 : Int) (a0_7 : Int) (a1 : Int) : Option (Int) := if (wrap64 (a1 - (a0_0.size : Int))) < 0 then (some (-1)) else (if (wrap64 ((wrap64 (a1 - (a0_0.size : Int))) - (a0_1.size : Int))) < 0 then (some (-1)) else (if (wrap64 ((wrap64 ((wrap64 (a1 - (a0_0.size : Int))) - (a0_1.size : Int))) - (a0_3.size : Int))) < 0 then (some (-1)) else (some (wrap64 ((wrap64 ((wrap64 (a1 - (a0_0.size : Int))) - (a0_1.size : Int))) - (a0_3.size : Int))))))
def laws_szOrderLineS.l0 : Nat → List (S113) → Int → Int → Option (Int)
  | 0, _, _, _ => none
  | k + 1, x0, x1, x5 => if x5 < (x0.length : Int) then (if 0 ≤ x5 then ((laws_szOrderLine.f ((rd_T113 x0 x5).f0) ((rd_T113 x0 x5).f1) ((rd_T113 x0 x5).f2) ((rd_T113 x0 x5).f3) ((rd_T113 x0 x5).f4) ((rd_T113 x0 x5).f5) ((rd_T113 x0 x5).f6) ((rd_T113 x0 x5).f7) x1).bind fun t106 => (if t106 < 0 then (some (-1)) else (laws_szOrderLineS.l0 k x0 t106 (wrap64 (x5 + 1))))) else (none)) else (some x1)
def laws_szOrderLineS.f (k : Nat) (l0 : List (S113)) (a1 : Int) : Option (Int) := if (wrap64 (a1 - (l0.length : Int))) < 0 then (some (-1)) else (laws_szOrderLineS.l0 k l0 (wrap64 (a1 - (l0.length : Int))) 0)
def laws_szBook.f (k : Nat) (l0_0 : List (S111)) (l0_1 : List (S113)) (a1 : Int) : Option (Int) := (laws_szStockS.f k l0_0 a1).bind fun t108 => (if t108 < 0 then (some (-1)) else ((laws_szOrderLineS.f k l0_1 t108).bind fun t109 => (if t109 < 0 then (some (-1)) else (some t109))))
def laws_toStock.f (a0_0 : ByteArray) (a0_1 : Int) : Option (ByteArray × Int) := some (a0_0, a0_1)
def laws_toStockS.l0 : Nat → List (S111) → List (S71) → Int → Option ((List (S71)))
  | 0, _, _, _ => none
  | k + 1, x0, x3, x4 => if x4 < (x0.length : Int) then (if 0 ≤ x4 then ((laws_toStock.f ((rd_T111 x0 x4).f0) ((rd_T111 x0 x4).f1)).bind fun bt117 => (if x4 < (x3.length : Int) then (laws_toStockS.l0 k x0 (x3.set (x4 : Int).toNat (⟨bt117.1, bt117.2⟩ : S71)) (wrap64 (x4 + 1))) else (none))) else (none)) else (some x3)
def laws_toStockS.f (k : Nat) (l0 : List (S111)) : Option ((List (S71))) := if 0 ≤ (l0.length : Int) then (if ((l0.length : Int) : Int).toNat ≤ 11728124029610 then (laws_toStockS.l0 k l0 (List.replicate ((l0.length : Int) : Int).toNat z71) 0) else (none)) else (none)
def laws_toOrderLine.f (a0_0 : ByteArray) (a0_1 : ByteArray) (a0_2 : Int) (a0_3 : ByteArray) (a0_4 : Int) (a0_5 : Int) (a0_6 : Int) (a0_7 : Int) : Option (ByteArray × ByteArray × Int × ByteArray × Int × Int × Int × Int) := some (a0_0, a0_1, a0_2, a0_3, a0_4, a0_5, a0_6, a0_7)
def laws_toOrderLineS.l0 : Nat → List (S113) → List (S73) → Int → Option ((List (S73)))
  | 0, _, _, _ => none
  | k + 1, x0, x3, x4 => if x4 < (x0.length : Int) then (if 0 ≤ x4 then ((laws_toOrderLine.f ((rd_T113 x0 x4).f0) ((rd_T113 x0 x4).f1) ((rd_T113 x0 x4).f2) ((rd_T113 x0 x4).f3) ((rd_T113 x0 x4).f4) ((rd_T113 x0 x4).f5) ((rd_T113 x0 x4).f6) ((rd_T113 x0 x4).f7)).bind fun bt127 => (if x4 < (x3.length : Int) then (laws_toOrderLineS.l0 k x0 (x3.set (x4 : Int).toNat (⟨bt127.1, bt127.2.1, bt127.2.2.1, bt127.2.2.2.1, bt127.2.2.2.2.1, bt127.2.2.2.2.2.1, bt127.2.2.2.2.2.2.1, bt127.2.2.2.2.2.2.2⟩ : S73)) (wrap64 (x4 + 1))) else (none))) else (none)) else (some x3)
def laws_toOrderLineS.f (k : Nat) (l0 : List (S113)) : Option ((List (S73))) := if 0 ≤ (l0.length : Int) then (if ((l0.length : Int) : Int).toNat ≤ 3198579280802 then (laws_toOrderLineS.l0 k l0 (List.replicate ((l0.length : Int) : Int).toNat z73) 0) else (none)) else (none)
def laws_toBook.f (k : Nat) (l0_0 : List (S111)) (l0_1 : List (S113)) : Option ((List (S71)) × (List (S73))) := (laws_toStockS.f k l0_0).bind fun t139 => ((laws_toOrderLineS.f k l0_1).bind fun t142 => (some (t139, t142)))
mutual
def spec_l01Name.j0 : Nat → ByteArray → Bool → Option (Bool)
  | 0, _, _ => none
  | k + 1, x0, x22 => if x22 = true then (some false) else (spec_l01Name.l0 k x0 0)
def spec_l01Name.l0 : Nat → ByteArray → Int → Option (Bool)
  | 0, _, _ => none
  | k + 1, x0, x3 => if x3 < (x0.size : Int) then (if 0 ≤ x3 then (if (bt x0 x3) ≥ 65 then (if (bt x0 x3) ≤ 90 then (spec_l01Name.l0 k x0 (wrap64 (x3 + 1))) else (if (bt x0 x3) ≥ 48 then (if (bt x0 x3) ≤ 57 then (spec_l01Name.l0 k x0 (wrap64 (x3 + 1))) else (if ((bt x0 x3) = 45) then (spec_l01Name.l0 k x0 (wrap64 (x3 + 1))) else (some false))) else (if ((bt x0 x3) = 45) then (spec_l01Name.l0 k x0 (wrap64 (x3 + 1))) else (some false)))) else (if (bt x0 x3) ≥ 48 then (if (bt x0 x3) ≤ 57 then (spec_l01Name.l0 k x0 (wrap64 (x3 + 1))) else (if ((bt x0 x3) = 45) then (spec_l01Name.l0 k x0 (wrap64 (x3 + 1))) else (some false))) else (if ((bt x0 x3) = 45) then (spec_l01Name.l0 k x0 (wrap64 (x3 + 1))) else (some false)))) else (none)) else (some true)
end
def spec_l01Name.f (k : Nat) (a0 : ByteArray) : Option (Bool) := if (a0.size : Int) < 1 then (spec_l01Name.j0 k a0 true) else (if (a0.size : Int) > 12 then (spec_l01Name.j0 k a0 true) else (if 0 < (a0.size : Int) then (if (bt a0 0) < 65 then (spec_l01Name.j0 k a0 true) else (spec_l01Name.j0 k a0 (decide ((bt a0 0) > 90)))) else (none)))
def spec_l01Qty.f (a0 : Int) : Option (Bool) := if a0 ≥ 1 then (some (decide (a0 ≤ 1000000))) else (some false)
def spec_LineRight.f (k : Nat) (a0_0 : ByteArray) (a0_1 : ByteArray) (a0_2 : Int) (a0_3 : ByteArray) (a0_4 : Int) (a0_5 : Int) (a0_6 : Int) (a0_7 : Int) : Option (Bool) := (spec_l01Name.f k a0_0).bind fun t146 => (if t146 = true then ((spec_l01Name.f k a0_1).bind fun t147 => (if t147 = true then ((spec_l01Name.f k a0_3).bind fun t148 => (if t148 = true then (if a0_2 ≥ 1 then (if a0_2 ≤ 999 then ((spec_l01Qty.f a0_4).bind fun t149 => (if t149 = true then (if a0_5 ≥ 0 then (if a0_6 ≥ 0 then (if a0_7 ≥ 0 then (if a0_6 ≤ a0_5 then (if a0_5 ≤ a0_4 then (some (decide (a0_7 ≤ (wrap64 (a0_4 - a0_5))))) else (some false)) else (some false)) else (some false)) else (some false)) else (some false)) else (some false))) else (some false)) else (some false)) else (some false))) else (some false))) else (some false))
def spec_l09Before.f (a0_0 : ByteArray) (a0_1 : ByteArray) (a0_2 : Int) (a0_3 : ByteArray) (a0_4 : Int) (a0_5 : Int) (a0_6 : Int) (a0_7 : Int) (a1_0 : ByteArray) (a1_1 : ByteArray) (a1_2 : Int) (a1_3 : ByteArray) (a1_4 : Int) (a1_5 : Int) (a1_6 : Int) (a1_7 : Int) : Option (Bool) := if a0_0.toList = a1_0.toList then (if a0_1.toList = a1_1.toList then (some (decide (a0_2 < a1_2))) else (some (Op.bytesLess a0_1.toList a1_1.toList))) else (some (Op.bytesLess a0_0.toList a1_0.toList))
def spec_LinesRight.l0 : Nat → List (S73) → Int → Option (Bool)
  | 0, _, _ => none
  | k + 1, x0, x3 => if x3 < (x0.length : Int) then (if 0 ≤ x3 then ((spec_LineRight.f k ((rd_T73 x0 x3).f0) ((rd_T73 x0 x3).f1) ((rd_T73 x0 x3).f2) ((rd_T73 x0 x3).f3) ((rd_T73 x0 x3).f4) ((rd_T73 x0 x3).f5) ((rd_T73 x0 x3).f6) ((rd_T73 x0 x3).f7)).bind fun t153 => (if t153 = true then (if x3 > 0 then (if 0 ≤ (wrap64 (x3 - 1)) then (if (wrap64 (x3 - 1)) < (x0.length : Int) then ((spec_l09Before.f ((rd_T73 x0 (wrap64 (x3 - 1))).f0) ((rd_T73 x0 (wrap64 (x3 - 1))).f1) ((rd_T73 x0 (wrap64 (x3 - 1))).f2) ((rd_T73 x0 (wrap64 (x3 - 1))).f3) ((rd_T73 x0 (wrap64 (x3 - 1))).f4) ((rd_T73 x0 (wrap64 (x3 - 1))).f5) ((rd_T73 x0 (wrap64 (x3 - 1))).f6) ((rd_T73 x0 (wrap64 (x3 - 1))).f7) ((rd_T73 x0 x3).f0) ((rd_T73 x0 x3).f1) ((rd_T73 x0 x3).f2) ((rd_T73 x0 x3).f3) ((rd_T73 x0 x3).f4) ((rd_T73 x0 x3).f5) ((rd_T73 x0 x3).f6) ((rd_T73 x0 x3).f7)).bind fun t156 => (if t156 = true then (spec_LinesRight.l0 k x0 (wrap64 (x3 + 1))) else (some false))) else (none)) else (none)) else (spec_LinesRight.l0 k x0 (wrap64 (x3 + 1)))) else (some false))) else (none)) else (some true)
def spec_LinesRight.f (k : Nat) (l0 : List (S73)) : Option (Bool) := if (l0.length : Int) > 200 then (some false) else (spec_LinesRight.l0 k l0 0)
mutual
def spec_BookRight.j0 : Nat → Bool → List (S71) → List (S73) → Option (Bool)
  | 0, _, _, _ => none
  | k + 1, x14, x158000, x158001 => if x14 = true then (some false) else (spec_BookRight.l0 k 0 x158000 x158001)
def spec_BookRight.l0 : Nat → Int → List (S71) → List (S73) → Option (Bool)
  | 0, _, _, _ => none
  | k + 1, x3, x158000, x158001 => if x3 < (x158000.length : Int) then (if 0 ≤ x3 then ((spec_l01Name.f k ((rd_T71 x158000 x3).f0)).bind fun t161 => (if t161 = true then (if ((rd_T71 x158000 x3).f1) < 0 then (some false) else (if ((rd_T71 x158000 x3).f1) > 1000000000 then (some false) else (if x3 > 0 then (if 0 ≤ (wrap64 (x3 - 1)) then (if (wrap64 (x3 - 1)) < (x158000.length : Int) then (if ((Op.bytesLess (((rd_T71 x158000 (wrap64 (x3 - 1))).f0).toList) (((rd_T71 x158000 x3).f0).toList)) = true) then (spec_BookRight.l0 k (wrap64 (x3 + 1)) x158000 x158001) else (some false)) else (none)) else (none)) else (spec_BookRight.l0 k (wrap64 (x3 + 1)) x158000 x158001)))) else (some false))) else (none)) else (some true)
end
def spec_BookRight.f (k : Nat) (l0_0 : List (S71)) (l0_1 : List (S73)) : Option (Bool) := if (l0_0.length : Int) > 100 then (spec_BookRight.j0 k true l0_0 l0_1) else ((spec_LinesRight.f k l0_1).bind fun t158 => (spec_BookRight.j0 k (!t158) l0_0 l0_1))
mutual
def spec_BookItems.l0 : Nat → List ByteArray → List ByteArray → Int → List (S71) → List (S73) → Option (List ByteArray)
  | 0, _, _, _, _, _ => none
  | k + 1, x3, x4, x5, x164000, x164001 => if x5 < (x164000.length : Int) then (if 0 ≤ x5 then (if x4.length < 8796093022208 then (spec_BookItems.l0 k x3 (x4 ++ [(rd_T71 x164000 x5).f0]) (wrap64 (x5 + 1)) x164000 x164001) else (none)) else (none)) else (spec_BookItems.l1 k x3 x4 0 x164000 x164001)
def spec_BookItems.l1 : Nat → List ByteArray → List ByteArray → Int → List (S71) → List (S73) → Option (List ByteArray)
  | 0, _, _, _, _, _ => none
  | k + 1, x3, x4, x6, x164000, x164001 => if x6 < (x164001.length : Int) then (if 0 ≤ x6 then (if x4.length < 8796093022208 then (spec_BookItems.l1 k x3 (x4 ++ [(rd_T73 x164001 x6).f3]) (wrap64 (x6 + 1)) x164000 x164001) else (none)) else (none)) else (spec_BookItems.l2 k x3 x4)
def spec_BookItems.l2 : Nat → List ByteArray → List ByteArray → Option (List ByteArray)
  | 0, _, _ => none
  | k + 1, x3, x4 => spec_BookItems.l3 k x3 x4 (⟨#[]⟩ : ByteArray) 0
def spec_BookItems.l3 : Nat → List ByteArray → List ByteArray → ByteArray → Int → Option (List ByteArray)
  | 0, _, _, _, _ => none
  | k + 1, x3, x4, x7, x8 => if x8 < (x4.length : Int) then (if (x3.length : Int) = 0 then (if x7.toList = ([] : List UInt8) then (if 0 ≤ x8 then (spec_BookItems.l3 k x3 x4 (rdOf ByteArray.empty x4 x8) (wrap64 (x8 + 1))) else (none)) else (if 0 ≤ x8 then (if (Op.bytesLess ((rdOf ByteArray.empty x4 x8).toList) x7.toList) = true then (spec_BookItems.l3 k x3 x4 (rdOf ByteArray.empty x4 x8) (wrap64 (x8 + 1))) else (spec_BookItems.l3 k x3 x4 x7 (wrap64 (x8 + 1)))) else (none))) else (if 0 ≤ x8 then (if 0 ≤ (wrap64 ((x3.length : Int) - 1)) then (if (wrap64 ((x3.length : Int) - 1)) < (x3.length : Int) then (if (Op.bytesLess ((rdOf ByteArray.empty x3 (wrap64 ((x3.length : Int) - 1))).toList) ((rdOf ByteArray.empty x4 x8).toList)) = true then (if x7.toList = ([] : List UInt8) then (spec_BookItems.l3 k x3 x4 (rdOf ByteArray.empty x4 x8) (wrap64 (x8 + 1))) else (if (Op.bytesLess ((rdOf ByteArray.empty x4 x8).toList) x7.toList) = true then (spec_BookItems.l3 k x3 x4 (rdOf ByteArray.empty x4 x8) (wrap64 (x8 + 1))) else (spec_BookItems.l3 k x3 x4 x7 (wrap64 (x8 + 1))))) else (spec_BookItems.l3 k x3 x4 x7 (wrap64 (x8 + 1)))) else (none)) else (none)) else (none))) else (if x7.toList = ([] : List UInt8) then (some x3) else (if x3.length < 8796093022208 then (spec_BookItems.l2 k (x3 ++ [x7]) x4) else (none)))
end
def spec_BookItems.f (k : Nat) (l0_0 : List (S71)) (l0_1 : List (S73)) : Option (List ByteArray) := (some (([] : List ByteArray) : List ByteArray)).bind fun y164 => ((spec_BookRight.f k l0_0 l0_1).bind fun t167 => (if t167 = true then (spec_BookItems.l0 k y164 (([] : List ByteArray)) 0 l0_0 l0_1) else (some y164)))
def impl_isGreat.f (a0 : Int) : Option (Bool) := if a0 ≥ 65 then (some (decide (a0 ≤ 90))) else (some false)
def impl_isDigit.f (a0 : Int) : Option (Bool) := if a0 ≥ 48 then (some (decide (a0 ≤ 57))) else (some false)
def impl_within.f (a0 : Int) (a1 : Int) (a2 : Int) : Option (Bool) := if a1 ≤ a0 then (some (decide (a0 ≤ a2))) else (some false)
def impl_isName.l0 : Nat → ByteArray → Int → Int → Option (Bool)
  | 0, _, _, _ => none
  | k + 1, x0, x5, x6 => if x6 < x5 then (if 0 ≤ x6 then (if x6 < (x0.size : Int) then ((impl_isGreat.f (bt x0 x6)).bind fun t191 => (if t191 = true then (impl_isName.l0 k x0 x5 (wrap64 (x6 + 1))) else (if x6 = 0 then (some false) else ((impl_isDigit.f (bt x0 x6)).bind fun t192 => (if t192 = true then (impl_isName.l0 k x0 x5 (wrap64 (x6 + 1))) else (if (bt x0 x6) = 45 then (impl_isName.l0 k x0 x5 (wrap64 (x6 + 1))) else (some false))))))) else (none)) else (none)) else ((impl_within.f (x0.size : Int) 1 12).bind fun t190 => (some t190))
def impl_isName.f (k : Nat) (a0 : ByteArray) : Option (Bool) := impl_isName.l0 k a0 (a0.size : Int) 0
def impl_isQty.f (a0 : Int) : Option (Bool) := (impl_within.f a0 1 1000000).bind fun t193 => (some t193)
def impl_LineRight.f (k : Nat) (a0_0 : ByteArray) (a0_1 : ByteArray) (a0_2 : Int) (a0_3 : ByteArray) (a0_4 : Int) (a0_5 : Int) (a0_6 : Int) (a0_7 : Int) : Option (Bool) := (impl_isName.f k a0_0).bind fun t195 => (if t195 = true then ((impl_isName.f k a0_1).bind fun t196 => (if t196 = true then ((impl_isName.f k a0_3).bind fun t197 => (if t197 = true then ((impl_within.f a0_2 1 999).bind fun t198 => (if t198 = true then ((impl_isQty.f a0_4).bind fun t199 => (if t199 = true then ((impl_within.f a0_5 0 a0_4).bind fun t200 => (if t200 = true then ((impl_within.f a0_6 0 a0_5).bind fun t201 => (if t201 = true then ((impl_within.f a0_7 0 (wrap64 (a0_4 - a0_5))).bind fun t202 => (some t202)) else (some false))) else (some false))) else (some false))) else (some false))) else (some false))) else (some false))) else (some false))
def cmp_isNaN_string.f (a0 : ByteArray) : Option (Bool) := some (a0.toList != a0.toList)
def cmp_Compare_string.f (a0 : ByteArray) (a1 : ByteArray) : Option (Int) := (cmp_isNaN_string.f a0).bind fun t203 => ((cmp_isNaN_string.f a1).bind fun t204 => (if t203 = true then (if t204 = true then (some 0) else (some (-1))) else (if t204 = true then (some 1) else (if (Op.bytesLess a0.toList a1.toList) = true then (some (-1)) else (if (Op.bytesLess a1.toList a0.toList) = true then (some 1) else (some 0))))))
def cmp_isNaN_int64.f (a0 : Int) : Option (Bool) := some (a0 != a0)
def cmp_Compare_int64.f (a0 : Int) (a1 : Int) : Option (Int) := (cmp_isNaN_int64.f a0).bind fun t205 => ((cmp_isNaN_int64.f a1).bind fun t206 => (if t205 = true then (if t206 = true then (some 0) else (some (-1))) else (if t206 = true then (some 1) else (if a0 < a1 then (some (-1)) else (if a0 > a1 then (some 1) else (some 0))))))
def cmp_Or_int.l0 : Nat → Int → List Int → Int → Int → Option (Int)
  | 0, _, _, _, _ => none
  | k + 1, x3, x6, x7, x8 => if x8 < x7 then (if 0 ≤ x8 then (if x8 < (x6.length : Int) then (if (rd x6 x8) = x3 then (cmp_Or_int.l0 k x3 x6 x7 (wrap64 (x8 + 1))) else (some (rd x6 x8))) else (none)) else (none)) else (some x3)
def cmp_Or_int.f (k : Nat) (l0 : List Int) : Option (Int) := cmp_Or_int.l0 k 0 l0 (l0.length : Int) 0
def impl_lineOrder.f (k : Nat) (a0_0 : ByteArray) (a0_1 : ByteArray) (a0_2 : Int) (a0_3 : ByteArray) (a0_4 : Int) (a0_5 : Int) (a0_6 : Int) (a0_7 : Int) (a1_0 : ByteArray) (a1_1 : ByteArray) (a1_2 : Int) (a1_3 : ByteArray) (a1_4 : Int) (a1_5 : Int) (a1_6 : Int) (a1_7 : Int) : Option (Int) := (cmp_Compare_string.f a0_0 a1_0).bind fun t210 => ((cmp_Compare_string.f a0_1 a1_1).bind fun t211 => ((cmp_Compare_int64.f a0_2 a1_2).bind fun t212 => ((cmp_Or_int.f k (([t210, t211, t212] : List Int))).bind fun t216 => (some t216))))
def impl_LinesRight.l0 : Nat → List (S73) → List (S73) → Int → Int → Option (Bool)
  | 0, _, _, _, _ => none
  | k + 1, x0, x8, x9, x10 => if x10 < x9 then (if 0 ≤ x10 then (if x10 < (x8.length : Int) then ((impl_LineRight.f k ((rd_T73 x8 x10).f0) ((rd_T73 x8 x10).f1) ((rd_T73 x8 x10).f2) ((rd_T73 x8 x10).f3) ((rd_T73 x8 x10).f4) ((rd_T73 x8 x10).f5) ((rd_T73 x8 x10).f6) ((rd_T73 x8 x10).f7)).bind fun t219 => (if t219 = true then (if x10 > 0 then (if 0 ≤ (wrap64 (x10 - 1)) then (if (wrap64 (x10 - 1)) < (x0.length : Int) then ((impl_lineOrder.f k ((rd_T73 x0 (wrap64 (x10 - 1))).f0) ((rd_T73 x0 (wrap64 (x10 - 1))).f1) ((rd_T73 x0 (wrap64 (x10 - 1))).f2) ((rd_T73 x0 (wrap64 (x10 - 1))).f3) ((rd_T73 x0 (wrap64 (x10 - 1))).f4) ((rd_T73 x0 (wrap64 (x10 - 1))).f5) ((rd_T73 x0 (wrap64 (x10 - 1))).f6) ((rd_T73 x0 (wrap64 (x10 - 1))).f7) ((rd_T73 x8 x10).f0) ((rd_T73 x8 x10).f1) ((rd_T73 x8 x10).f2) ((rd_T73 x8 x10).f3) ((rd_T73 x8 x10).f4) ((rd_T73 x8 x10).f5) ((rd_T73 x8 x10).f6) ((rd_T73 x8 x10).f7)).bind fun t221 => (if t221 ≥ 0 then (some false) else (impl_LinesRight.l0 k x0 x8 x9 (wrap64 (x10 + 1))))) else (none)) else (none)) else (impl_LinesRight.l0 k x0 x8 x9 (wrap64 (x10 + 1)))) else (some false))) else (none)) else (none)) else (some true)
def impl_LinesRight.f (k : Nat) (l0 : List (S73)) : Option (Bool) := if (l0.length : Int) > 200 then (some false) else (impl_LinesRight.l0 k l0 l0 (l0.length : Int) 0)
def impl_BookRight.l0 : Nat → List (S71) → Int → Int → List (S71) → List (S73) → Option (Bool)
  | 0, _, _, _, _, _ => none
  | k + 1, x10, x11, x12, x223000, x223001 => if x12 < x11 then (if 0 ≤ x12 then (if x12 < (x10.length : Int) then ((impl_isName.f k ((rd_T71 x10 x12).f0)).bind fun t226 => (if t226 = true then ((impl_within.f ((rd_T71 x10 x12).f1) 0 1000000000).bind fun t227 => (if t227 = true then (if x12 > 0 then (if 0 ≤ (wrap64 (x12 - 1)) then (if (wrap64 (x12 - 1)) < (x223000.length : Int) then (if ((Op.bytesLess (((rd_T71 x223000 (wrap64 (x12 - 1))).f0).toList) (((rd_T71 x10 x12).f0).toList)) = true) then (impl_BookRight.l0 k x10 x11 (wrap64 (x12 + 1)) x223000 x223001) else (some false)) else (none)) else (none)) else (impl_BookRight.l0 k x10 x11 (wrap64 (x12 + 1)) x223000 x223001)) else (some false))) else (some false))) else (none)) else (none)) else ((impl_LinesRight.f k x223001).bind fun t223 => (some t223))
def impl_BookRight.f (k : Nat) (l0_0 : List (S71)) (l0_1 : List (S73)) : Option (Bool) := if (l0_0.length : Int) > 100 then (some false) else (impl_BookRight.l0 k l0_0 (l0_0.length : Int) 0 l0_0 l0_1)
def slices_Sort_string.f (l0 : List ByteArray) : Option (List ByteArray) := if l0.length < 4611686018427387904 then some (((l0.map fun x : ByteArray => x.data.toList).mergeSort fun x y => decide (x ≤ y)).map fun b => (⟨b.toArray⟩ : ByteArray)) else none
def slices_Compact_string.f (l0 : List ByteArray) : Option (List ByteArray) := some ((Lib.compact (l0.map fun x : ByteArray => x.data.toList)).map fun b => (⟨b.toArray⟩ : ByteArray))
mutual
def impl_Book_items.l0 : Nat → List ByteArray → List (S71) → Int → Int → List (S71) → List (S73) → Option (List ByteArray)
  | 0, _, _, _, _, _, _ => none
  | k + 1, x3, x12, x13, x14, x1000, x1001 => if x14 < x13 then (if 0 ≤ x14 then (if x14 < (x12.length : Int) then (if x3.length < 8796093022208 then (impl_Book_items.l0 k (x3 ++ [(rd_T71 x12 x14).f0]) x12 x13 (wrap64 (x14 + 1)) x1000 x1001) else (none)) else (none)) else (none)) else (impl_Book_items.l1 k x3 x1001 (x1001.length : Int) 0)
def impl_Book_items.l1 : Nat → List ByteArray → List (S73) → Int → Int → Option (List ByteArray)
  | 0, _, _, _, _ => none
  | k + 1, x3, x27, x28, x29 => if x29 < x28 then (if 0 ≤ x29 then (if x29 < (x27.length : Int) then (if x3.length < 8796093022208 then (impl_Book_items.l1 k (x3 ++ [(rd_T73 x27 x29).f3]) x27 x28 (wrap64 (x29 + 1))) else (none)) else (none)) else (none)) else ((slices_Sort_string.f x3).bind fun t242 => ((slices_Compact_string.f t242).bind fun t243 => (some t243)))
end
def impl_Book_items.f (k : Nat) (s0_0 : List (S71)) (s0_1 : List (S73)) : Option (List ByteArray) := impl_Book_items.l0 k (([] : List ByteArray)) s0_0 (s0_0.length : Int) 0 s0_0 s0_1
def impl_BookItems.f (k : Nat) (l0_0 : List (S71)) (l0_1 : List (S73)) : Option (List ByteArray) := (impl_BookRight.f k l0_0 l0_1).bind fun t247 => (if t247 = true then ((impl_Book_items.f k l0_0 l0_1).bind fun t248 => (some t248)) else (some ([] : List ByteArray)))
def laws_eqStringS.l0 : Nat → List ByteArray → List ByteArray → Int → Option (Bool)
  | 0, _, _, _ => none
  | k + 1, x0, x1, x5 => if x5 < (x0.length : Int) then (if 0 ≤ x5 then (if x5 < (x1.length : Int) then (if (rdOf ByteArray.empty x0 x5).toList = (rdOf ByteArray.empty x1 x5).toList then (laws_eqStringS.l0 k x0 x1 (wrap64 (x5 + 1))) else (some false)) else (none)) else (none)) else (some true)
def laws_eqStringS.f (k : Nat) (l0 : List ByteArray) (l1 : List ByteArray) : Option (Bool) := if (l0.length : Int) = (l1.length : Int) then (laws_eqStringS.l0 k l0 l1 0) else (some false)
def laws_eqStock.f (a0_0 : ByteArray) (a0_1 : Int) (a1_0 : ByteArray) (a1_1 : Int) : Option (Bool) := if a0_0.toList = a1_0.toList then (if a0_1 = a1_1 then (some true) else (some false)) else (some false)
def laws_eqStockS.l0 : Nat → List (S71) → List (S71) → Int → Option (Bool)
  | 0, _, _, _ => none
  | k + 1, x0, x1, x5 => if x5 < (x0.length : Int) then (if 0 ≤ x5 then (if x5 < (x1.length : Int) then ((laws_eqStock.f ((rd_T71 x0 x5).f0) ((rd_T71 x0 x5).f1) ((rd_T71 x1 x5).f0) ((rd_T71 x1 x5).f1)).bind fun t257 => (if t257 = true then (laws_eqStockS.l0 k x0 x1 (wrap64 (x5 + 1))) else (some false))) else (none)) else (none)) else (some true)
def laws_eqStockS.f (k : Nat) (l0 : List (S71)) (l1 : List (S71)) : Option (Bool) := if (l0.length : Int) = (l1.length : Int) then (laws_eqStockS.l0 k l0 l1 0) else (some false)
def laws_eqOrderLine.f (a0_0 : ByteArray) (a0_1 : ByteArray) (a0_2 : Int) (a0_3 : ByteArray) (a0_4 : Int) (a0_5 : Int) (a0_6 : Int) (a0_7 : Int) (a1_0 : ByteArray) (a1_1 : ByteArray) (a1_2 : Int) (a1_3 : ByteArray) (a1_4 : Int) (a1_5 : Int) (a1_6 : Int) (a1_7 : Int) : Option (Bool) := if a0_0.toList = a1_0.toList then (if a0_1.toList = a1_1.toList then (if a0_2 = a1_2 then (if a0_3.toList = a1_3.toList then (if a0_4 = a1_4 then (if a0_5 = a1_5 then (if a0_6 = a1_6 then (if a0_7 = a1_7 then (some true) else (some false)) else (some false)) else (some false)) else (some false)) else (some false)) else (some false)) else (some false)) else (some false)
def laws_eqOrderLineS.l0 : Nat → List (S73) → List (S73) → Int → Option (Bool)
  | 0, _, _, _ => none
  | k + 1, x0, x1, x5 => if x5 < (x0.length : Int) then (if 0 ≤ x5 then (if x5 < (x1.length : Int) then ((laws_eqOrderLine.f ((rd_T73 x0 x5).f0) ((rd_T73 x0 x5).f1) ((rd_T73 x0 x5).f2) ((rd_T73 x0 x5).f3) ((rd_T73 x0 x5).f4) ((rd_T73 x0 x5).f5) ((rd_T73 x0 x5).f6) ((rd_T73 x0 x5).f7) ((rd_T73 x1 x5).f0) ((rd_T73 x1 x5).f1) ((rd_T73 x1 x5).f2) ((rd_T73 x1 x5).f3) ((rd_T73 x1 x5).f4) ((rd_T73 x1 x5).f5) ((rd_T73 x1 x5).f6) ((rd_T73 x1 x5).f7)).bind fun t262 => (if t262 = true then (laws_eqOrderLineS.l0 k x0 x1 (wrap64 (x5 + 1))) else (some false))) else (none)) else (none)) else (some true)
def laws_eqOrderLineS.f (k : Nat) (l0 : List (S73)) (l1 : List (S73)) : Option (Bool) := if (l0.length : Int) = (l1.length : Int) then (laws_eqOrderLineS.l0 k l0 l1 0) else (some false)
def laws_eqBook.f (k : Nat) (l0_0 : List (S71)) (l0_1 : List (S73)) (l1_0 : List (S71)) (l1_1 : List (S73)) : Option (Bool) := (laws_eqStockS.f k l0_0 l1_0).bind fun t265 => (if t265 = true then ((laws_eqOrderLineS.f k l0_1 l1_1).bind fun t266 => (if t266 = true then (some true) else (some false))) else (some false))
def laws_markText.l0 : Nat → Int → ByteArray → Option (ByteArray)
  | 0, _, _ => none
  | k + 1, x0, x3 => if x0 > 0 then ((some (([(wrap64 (48 + (Int.tmod x0 10))) % 256] : List Int) : List Int)).bind fun y267 => (if (strOfNums y267).size + x3.size ≤ 9223372036854775807 then (laws_markText.l0 k (wrap64 (Int.tdiv x0 10)) ((strOfNums y267) ++ x3)) else (none))) else (if 1 + x3.size ≤ 9223372036854775807 then (some ((⟨#[109]⟩ : ByteArray) ++ x3)) else (none))
def laws_markText.f (k : Nat) (a0 : Int) : Option (ByteArray) := if a0 ≤ 0 then (some (⟨#[109, 48]⟩ : ByteArray)) else (laws_markText.l0 k a0 (⟨#[]⟩ : ByteArray))
def laws_markStockS.l0 : Nat → List (S71) → Int → Int → Option (Int × (List (S71)))
  | 0, _, _, _ => none
  | k + 1, x0, x1, x5 => if x5 < (x0.length : Int) then ((laws_markText.f k x1).bind fun t270 => (if 0 ≤ x5 then ((some (x0.set (x5 : Int).toNat (⟨t270, (rd_T71 x0 x5).f1⟩ : S71) : List (S71))).bind fun y271 => (laws_markStockS.l0 k (y271.set (x5 : Int).toNat (⟨(rd_T71 y271 x5).f0, wrap64 (x1 + 1)⟩ : S71)) (wrap64 ((wrap64 (x1 + 1)) + 1)) (wrap64 (x5 + 1)))) else (none))) else (some (x1, x0))
def laws_markStockS.f (k : Nat) (l0 : List (S71)) (a1 : Int) : Option (Int × (List (S71))) := laws_markStockS.l0 k l0 a1 0
def laws_markOrderLineS.l0 : Nat → List (S73) → Int → Int → Option (Int × (List (S73)))
  | 0, _, _, _ => none
  | k + 1, x0, x1, x5 => if x5 < (x0.length : Int) then ((laws_markText.f k x1).bind fun t273 => (if 0 ≤ x5 then ((some (x0.set (x5 : Int).toNat (⟨t273, (rd_T73 x0 x5).f1, (rd_T73 x0 x5).f2, (rd_T73 x0 x5).f3, (rd_T73 x0 x5).f4, (rd_T73 x0 x5).f5, (rd_T73 x0 x5).f6, (rd_T73 x0 x5).f7⟩ : S73) : List (S73))).bind fun y274 => ((laws_markText.f k (wrap64 (x1 + 1))).bind fun t275 => ((some (y274.set (x5 : Int).toNat (⟨(rd_T73 y274 x5).f0, t275, (rd_T73 y274 x5).f2, (rd_T73 y274 x5).f3, (rd_T73 y274 x5).f4, (rd_T73 y274 x5).f5, (rd_T73 y274 x5).f6, (rd_T73 y274 x5).f7⟩ : S73) : List (S73))).bind fun y276 => ((some (y276.set (x5 : Int).toNat (⟨(rd_T73 y276 x5).f0, (rd_T73 y276 x5).f1, wrap64 ((wrap64 (x1 + 1)) + 1), (rd_T73 y276 x5).f3, (rd_T73 y276 x5).f4, (rd_T73 y276 x5).f5, (rd_T73 y276 x5).f6, (rd_T73 y276 x5).f7⟩ : S73) : List (S73))).bind fun y277 => ((laws_markText.f k (wrap64 ((wrap64 ((wrap64 (x1 + 1)) + 1)) + 1))).bind fun t278 => ((some (y277.set (x5 : Int).toNat (⟨(rd_T73 y277 x5).f0, (rd_T73 y277 x5).f1, (rd_T73 y277 x5).f2, t278, (rd_T73 y277 x5).f4, (rd_T73 y277 x5).f5, (rd_T73 y277 x5).f6, (rd_T73 y277 x5).f7⟩ : S73) : List (S73))).bind fun y279 => ((some (y279.set (x5 : Int).toNat (⟨(rd_T73 y279 x5).f0, (rd_T73 y279 x5).f1, (rd_T73 y279 x5).f2, (rd_T73 y279 x5).f3, wrap64 ((wrap64 ((wrap64 ((wrap64 (x1 + 1)) + 1)) + 1)) + 1), (rd_T73 y279 x5).f5, (rd_T73 y279 x5).f6, (rd_T73 y279 x5).f7⟩ : S73) : List (S73))).bind fun y280 => ((some (y280.set (x5 : Int).toNat (⟨(rd_T73 y280 x5).f0, (rd_T73 y280 x5).f1, (rd_T73 y280 x5).f2, (rd_T73 y280 x5).f3, (rd_T73 y280 x5).f4, wrap64 ((wrap64 ((wrap64 ((wrap64 ((wrap64 (x1 + 1)) + 1)) + 1)) + 1)) + 1), (rd_T73 y280 x5).f6, (rd_T73 y280 x5).f7⟩ : S73) : List (S73))).bind fun y281 => ((some (y281.set (x5 : Int).toNat (⟨(rd_T73 y281 x5).f0, (rd_T73 y281 x5).f1, (rd_T73 y281 x5).f2, (rd_T73 y281 x5).f3, (rd_T73 y281 x5).f4, (rd_T73 y281 x5).f5, wrap64 ((wrap64 ((wrap64 ((wrap64 ((wrap64 ((wrap64 (x1 + 1)) + 1)) + 1)) + 1)) + 1)) + 1), (rd_T73 y281 x5).f7⟩ : S73) : List (S73))).bind fun y282 => (laws_markOrderLineS.l0 k (y282.set (x5 : Int).toNat (⟨(rd_T73 y282 x5).f0, (rd_T73 y282 x5).f1, (rd_T73 y282 x5).f2, (rd_T73 y282 x5).f3, (rd_T73 y282 x5).f4, (rd_T73 y282 x5).f5, (rd_T73 y282 x5).f6, wrap64 ((wrap64 ((wrap64 ((wrap64 ((wrap64 ((wrap64 ((wrap64 (x1 + 1)) + 1)) + 1)) + 1)) + 1)) + 1)) + 1)⟩ : S73)) (wrap64 ((wrap64 ((wrap64 ((wrap64 ((wrap64 ((wrap64 ((wrap64 ((wrap64 (x1 + 1)) + 1)) + 1)) + 1)) + 1)) + 1)) + 1)) + 1)) (wrap64 (x5 + 1)))))))))))) else (none))) else (some (x1, x0))
def laws_markOrderLineS.f (k : Nat) (l0 : List (S73)) (a1 : Int) : Option (Int × (List (S73))) := laws_markOrderLineS.l0 k l0 a1 0
def laws_markBook.f (k : Nat) (l0_0 : List (S71)) (l0_1 : List (S73)) (a1 : Int) : Option (Int × (List (S71)) × (List (S73))) := (laws_markStockS.f k l0_0 a1).bind fun bt285 => ((laws_markOrderLineS.f k l0_1 bt285.1).bind fun bt287 => (some (bt287.1, bt285.2, bt287.2)))
def laws_markStringS.l0 : Nat → List ByteArray → Int → Int → Option (Int × List ByteArray)
  | 0, _, _, _ => none
  | k + 1, x0, x1, x5 => if x5 < (x0.length : Int) then ((laws_markText.f k x1).bind fun t289 => (if 0 ≤ x5 then (laws_markStringS.l0 k (x0.set (x5 : Int).toNat t289) (wrap64 (x1 + 1)) (wrap64 (x5 + 1))) else (none))) else (some (x1, x0))
def laws_markStringS.f (k : Nat) (l0 : List ByteArray) (a1 : Int) : Option (Int × List ByteArray) := laws_markStringS.l0 k l0 a1 0
def laws_heldStringS.l0 : Nat → List ByteArray → Int → Int → Option (Int)
  | 0, _, _, _ => none
  | k + 1, x0, x1, x5 => if x5 < (x0.length : Int) then (if 0 ≤ x5 then ((laws_markText.f k x1).bind fun t292 => (if (rdOf ByteArray.empty x0 x5).toList = t292.toList then (laws_heldStringS.l0 k x0 (wrap64 (x1 + 1)) (wrap64 (x5 + 1))) else (some (-1)))) else (none)) else (some x1)
def laws_heldStringS.f (k : Nat) (l0 : List ByteArray) (a1 : Int) : Option (Int) := laws_heldStringS.l0 k l0 a1 0
def laws_FnExactBookItems.j0 : Nat → List ByteArray → List ByteArray → Bool → List (S111) → List (S113) → Option (Bool)
  | 0, _, _, _, _, _ => none
  | k + 1, x4, x6, x42, x294000, x294001 => if x42 = true then (some false) else ((laws_markStringS.f k x6 1).bind fun bt326 => ((laws_heldStringS.f k bt326.2 1).bind fun t328 => (if t328 < 0 then (some false) else (if t328 = bt326.1 then ((laws_toBook.f k x294000 x294001).bind fun bt329 => ((impl_BookItems.f k bt329.1 bt329.2).bind fun t335 => ((laws_eqStringS.f k t335 x4).bind fun t338 => (if t338 = true then ((laws_heldStringS.f k bt326.2 1).bind fun t339 => (if t339 < 0 then (some false) else (if t339 = bt326.1 then (some true) else (some false)))) else (some false))))) else (some false)))))
def laws_FnExactBookItems.f (k : Nat) (l0_0 : List (S111)) (l0_1 : List (S113)) : Option (Bool) := (laws_szBook.f k l0_0 l0_1 1048576).bind fun t294 => (if t294 < 0 then (some true) else ((laws_toBook.f k l0_0 l0_1).bind fun bt295 => ((spec_BookItems.f k bt295.1 bt295.2).bind fun t301 => ((laws_toBook.f k l0_0 l0_1).bind fun bt304 => ((impl_BookItems.f k bt304.1 bt304.2).bind fun t311 => ((laws_eqStringS.f k t311 t301).bind fun t314 => (if t314 = true then ((laws_toBook.f k l0_0 l0_1).bind fun bt315 => ((laws_eqBook.f k bt304.1 bt304.2 bt315.1 bt315.2).bind fun t321 => (if t321 = true then ((laws_markBook.f k bt304.1 bt304.2 1).bind fun bt322 => (if bt322.1 < 0 then (laws_FnExactBookItems.j0 k t301 t311 true l0_0 l0_1) else ((laws_eqStringS.f k t311 t301).bind fun t325 => (laws_FnExactBookItems.j0 k t301 t311 (!t325) l0_0 l0_1)))) else (some false)))) else (some false))))))))
end Go.Proofs.Ytjjfjgdhloideaa.QH
