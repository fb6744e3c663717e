-- Merged by a program of this session (wip/tool/pack.py) out of its own texts for this claim.
import Derived.WalkKit
import Derived.Laws.Strings
import Derived.Test.YtefmkmhjbfpelaaProg
import Derived.Below
import Derived.Deep.Draws
import Derived.Deep.AppendLies
import Derived.Maps.AppendAt
import Derived.OwnWalk
import Derived.Laws.BytesArg
import Derived.Laws.MakeOwn
import Derived.Laws.OwnMore
import Derived.Deep.OwnRows
import Derived.Tactics
import Derived.Lib.ConvBytes
import Derived.Laws.Slices
import Derived.KernelRfl
import Derived.RowKit3
import Derived.Deep.LoopGhost
import Derived.Deep.QuietTactic
import Derived.BigQuiet
import Derived.WideLaws
import Derived.Deep.DeepCutAuto
import Derived.Deep.CutBlock
import Derived.Deep.RegionHeld3
import Derived.Laws.Rows
import Derived.Lib.AppendStr
import Derived.ArgAppend
import Derived.Laws.IdiomCopy
import Derived.OrdersHeld
import Derived.Laws.BitsLemmas
import Derived.RowKit
import Derived.StillTailTactics
import Derived.Lib.Bytealg
import Derived.Test.YtefmkmhjbfpelaaKFnResend0
import Derived.Test.YtefmkmhjbfpelaaKFnResend1
import Derived.Test.YtefmkmhjbfpelaaKFnResend2
namespace Go.Proofs.YtefmkmhjbfpelaaW.PrintMore
open Go.RowKit Go.Proofs.YtefmkmhjbfpelaaW.PrintWords Go.Proofs.YtefmkmhjbfpelaaW.PrintLast
section
variable {P : Program} {ops : Array Oper} {Q : Exit → Act → World → Prop} {md : Region.Mode} {S : World → Prop} {ds : List Nat} {T : Bool × List (List Nat × List Nat)} {B : List Nat} {fuel : Nat} {l : Array Bool} {a a' : Act} {w : World} {oi : Oper} {v : Value}
theorem pA (i N : Nat) (hT : Aside0 (rtab md ops = T)) (h : wpAnyLast P md ops Q S ds fuel (l.setIfInBounds i true) a' w)
    (hi : ops[i]? = some oi := by exact rfl) (hN : oi.dst = some N := by exact rfl) (hc : anyT T l.toList (l.setIfInBounds i true).toList i = true := by kernel_rfl)
    (hw : Region.wanted oi (yielded ops a.tmps) = true := by rfl) (hy : ∀ w, (execOp a.eval oi).run P w = .ok (.value v) w := by (intro w'; go_simp; with_reducible rfl))
    (ha : a.put (some N) v = a' := by (simp only [Act.put, List.setIfInBounds_toArray, List.set_cons_zero, List.set_cons_succ, i64_w, i32_w]; rfl))
    (hQ : ∀ c a w, Q (.panic c) (a.put oi.dst v) w → Q (.panic c) a w := by exact fun _ _ _ h => h) : wpAnyLast P md ops Q S ds (fuel + 1) l a w :=
  pure_ _ hi hN (any_of hT.out hc) hQ (Or.inl ⟨hw, hy⟩) ha h
theorem pB (i N : Nat) (hT : Aside0 (rtab md ops = T)) (h : wpAnyLast P md ops Q S ds fuel (l.setIfInBounds i true) a' w)
    (hi : ops[i]? = some oi := by exact rfl) (hN : oi.dst = some N := by exact rfl) (hc : anyT T l.toList (l.setIfInBounds i true).toList i = true := by kernel_rfl)
    (hw : Region.wanted oi (yielded ops a.tmps) = false := by rfl)
    (ha : a.put (some N) undef = a' := by (simp only [Act.put, List.setIfInBounds_toArray, List.set_cons_zero, List.set_cons_succ, i64_w, i32_w]; rfl))
    (hQ : ∀ c a w, Q (.panic c) (a.put oi.dst undef) w → Q (.panic c) a w := by exact fun _ _ _ h => h) : wpAnyLast P md ops Q S ds (fuel + 1) l a w :=
  pure_ _ hi hN (any_of hT.out hc) hQ (Or.inr ⟨hw, rfl⟩) ha h
theorem tA (i N : Nat) (hT : Aside0 (rtab md ops = T)) (hB : Aside0 (waitsOk T.2 B = true)) (hS : S w) (h : wpAnyLast P md ops Q S ds fuel (l.setIfInBounds i true) a' w)
    (hi : ops[i]? = some oi := by exact rfl) (hN : oi.dst = some N := by exact rfl) (hc : takeW T B ds l.toList (l.setIfInBounds i true).toList i = true := by kernel_rfl)
    (hw : Region.wanted oi (yielded ops a.tmps) = true := by rfl) (hy : ∀ w, S w → (execOp a.eval oi).run P w = .ok (.value v) w := by (intro w' hs; go_simp; with_reducible rfl))
    (ha : a.put (some N) v = a' := by (simp only [Act.put, List.setIfInBounds_toArray, List.set_cons_zero, List.set_cons_succ, i64_w, i32_w]; rfl))
    (hQ : ∀ c a w, Q (.panic c) (a.put oi.dst v) w → Q (.panic c) a w := by exact fun _ _ _ h => h) : wpAnyLast P md ops Q S ds (fuel + 1) l a w :=
  take_ _ hi hN (take_ofW hT.out hB.out hc) hQ (Or.inl ⟨hw, hy⟩) hS ha h
theorem oA (i N : Nat) (hT : Aside0 (rtab md ops = T))
    (h : ∀ K : Act → World → Prop, Shut (∀ a' w', S w' → (S w' → wpAnyLast P md ops Q S ds fuel (l.setIfInBounds i true) a' w') → K a' w') → if Region.wanted oi (yielded ops a.tmps) = true then Oper.wp P oi a w K Q else K (a.put (some N) undef) w)
    (hi : ops[i]? = some oi := by exact rfl) (hN : oi.dst = some N := by exact rfl) (hc : (readyT T.2 l.toList == [i] && l.toList.set i true == (l.setIfInBounds i true).toList) = true := by kernel_rfl) (hd : i ∉ ds := by decide) : wpAnyLast P md ops Q S ds (fuel + 1) l a w :=
  one_ _ hi hN (one_of hT.out hc) hd h
theorem gA {N : Option Tmp} {K : Act → World → Prop} {f : FuncId} {fn : Func} {as_0 : Array Operand} {ts : Array TypeId} (hf : P.funcs[f]? = some fn) (args : Array Value)
    (h : Calls P f args w fun e w' => ∃ v, e = .returned v ∧ K (a.put N v) w') (hname : (fn.name == "runtime.NumGoroutine") = false := by kernel_rfl) (hb : fn.body.isSome = true := by exact rfl)
    (hw : Region.wanted oi (yielded ops a.tmps) = true := by rfl) (hN : oi.dst = N := by exact rfl) (hop : oi.op = .call { callee := .value (.func f), args := as_0, argTypes := ts } := by exact rfl)
    (hargs : as_0.map a.eval = args := by (try simp only [List.map_toArray, List.map_cons, List.map_nil]); first | done | rfl | (simp only [List.length_drop, List.length_take]; rfl)) : if Region.wanted oi (yielded ops a.tmps) = true then Oper.wp P oi a w K Q else K (a.put N undef) w :=
  goes_ hf hname hb args hw hN hop hargs h
theorem nA (N : Nat) (h : wpAnyLast P md ops Q S ds fuel l a' w) (ha : a.put (some N) v = a' := by (simp only [Act.put, List.setIfInBounds_toArray, List.set_cons_zero, List.set_cons_succ, i64_w, i32_w]; rfl)) : wpAnyLast P md ops Q S ds fuel l (a.put (some N) v) w := norm_ ha h
end
section
variable {P : Program} {ops : Array Oper} {Q : Exit → Act → World → Prop} {o : Oper} {rest : List Oper} {a : Act}
theorem bx {W : World} (N : Tmp) {cs : Array Value} {t : TypeId} (h : ∀ g, g = W.heap.size → ∀ w1, w1.heap[g]? = some (.cells cs t (0, 0)) → Below W.heap.size W w1 → wpList P ops Q rest (a.put o.dst (.pointer (some ⟨g, 0, none⟩))) w1)
    (hd : o.dst = some N := by rfl) (hg : o.guard = none := by rfl) (hr : (execOp a.eval o).run P W = .ok (.value (.pointer (some ⟨W.heap.size, 0, none⟩))) (W.alloc (.cells cs t (0, 0))) := by first | (go_simp; done) | (go_simp; rfl)) : wpList P ops Q (o :: rest) a W :=
  box_event hg hd hr h
end
theorem _root_.Go.Proofs.YtefmkmhjbfpelaaW.PrintWords.KeepBut.far {w w1 w2 : World} {g gl : Nat} {row : Option Nat} (h : KeepBut w w1 g row) (k : KeepBut w1 w2 gl none) (hge : w.heap.size ≤ gl) : KeepBut w w2 g row :=
  ⟨Nat.le_trans h.1 k.1, fun i hi hg hr => (k.2 i (Nat.lt_of_lt_of_le hi h.1) (by omega) (by simp)).trans (h.2 i hi hg hr)⟩
theorem bs {w W W' : World} (h : Aside0 (Below w.heap.size w W)) (e : Below w.heap.size w W → Below w.heap.size w W' := by (intro h; repeat (first | (with_reducible first | exact h | apply below_alloc | apply pw_below_drewN | apply below_drew1) | refine below_set ?_ (Aside0.out (by assumption)) | exact h))) : Below w.heap.size w W' := e h.out
theorem ks {W W' : World} {g : Nat} {t : TypeId} {cs : Array Value} (h : Aside0 (W.heap[g]? = some (.cells cs t (0, 0)))) (e : W.heap[g]? = some (.cells cs t (0, 0)) → W'.heap[g]? = some (.cells cs t (0, 0)) := by (intro h; repeat (first | (with_reducible first | exact h | refine blk_drewN ?_ _ | refine blk_drew ?_ | refine blk_alloc ?_ _) | refine blk_far ?_ (Aside0.out (by assumption)) _ | exact h))) : W'.heap[g]? = some (.cells cs t (0, 0)) := e h.out
theorem rs {α : Type} {d : Kd α} {e base : Nat} {W W' : World} {ok : Nat → Prop} {v : Value} {xs : List α} (h : Aside0 (d.R e W base ok v xs)) (k : d.R e W base ok v xs → d.R e W' base ok v xs := by (intro h; (with_reducible repeat (first | apply Kd.R_alloc | apply Kd.R_drewN | apply Kd.R_drew)); exact h)) : d.R e W' base ok v xs := k h.out
theorem put0 {w : World} {g : Nat} {t : TypeId} {cs : Array Value} (h : w.heap[g]? = some (.cells cs t (0, 0))) (i : Nat) (u : Value) : (w.setCell ⟨g, i, none⟩ u).heap[g]? = some (.cells (cs.setIfInBounds i u) t (0, 0)) := blk_put h i u rfl
theorem fin0 {w : World} {g : Nat} {t : TypeId} {cs cs' : Array Value} (h : w.heap[g]? = some (.cells cs t (0, 0))) (e : cs = cs') : w.heap[g]? = some (.cells cs' t (0, 0)) := e ▸ h
theorem far0 {w : World} {g : Nat} {t : TypeId} {p : Addr} (hp : Aside0 (g ≠ p.block)) {cs : Array Value} (h : w.heap[g]? = some (.cells cs t (0, 0))) (u : Value) : (w.setCell p u).heap[g]? = some (.cells cs t (0, 0)) := blk_far h hp.out u
theorem kp {W W' : World} {g : Nat} {t : TypeId} {cs cs' : Array Value} (h : Aside0 (W.heap[g]? = some (.cells cs t (0, 0)))) (e : W.heap[g]? = some (.cells cs t (0, 0)) → W'.heap[g]? = some (.cells cs' t (0, 0)) := by (intro h; apply fin0; (· repeat (first | (with_reducible first | exact h | refine blk_drewN ?_ _ | refine blk_drew ?_ | refine blk_alloc ?_ _) | (with_reducible apply put0) | ((with_reducible apply far0); assumption) | exact h)); (· first | (simp only [List.setIfInBounds_toArray, List.set_cons_zero, List.set_cons_succ]; done) | rfl))) : W'.heap[g]? = some (.cells cs' t (0, 0)) := e h.out
theorem gs {w W : World} {g : Nat} (hg : g = W.heap.size) (h : Below w.heap.size w W) : w.heap.size ≤ g := hg ▸ h.size
theorem gn {W : World} {g g' : Nat} {o : Obj} (hg : g' = W.heap.size) (h : W.heap[g]? = some o) : g ≠ g' := by rw [hg]; exact Nat.ne_of_lt (blk_lt h)
theorem gm {W : World} {g g' : Nat} {o : Obj} (hg : g' = W.heap.size) (h : W.heap[g]? = some o) : g' ≠ g := (gn hg h).symm
theorem oa {p : Prop} [Decidable p] (h : decide p = true := by first | (with_reducible assumption) | assumption) : p := of_decide_eq_true h
theorem rf {α : Type} {d : Kd α} {e base : Nat} {W W' : World} {ok : Nat → Prop} {v : Value} {xs : List α} (h : d.R e W base ok v xs) (k : d.R e W base ok v xs → d.R e W' base ok v xs := by (intro h; repeat (first | (with_reducible first | exact h | apply Kd.R_alloc | apply Kd.R_drewN | apply Kd.R_drew) | refine Kd.R_far ?_ (fun _ hk => hk.2) _ | exact h))) : d.R e W' base ok v xs := k h
theorem cb {w W : World} {p : Addr} {v : Value} (h : Aside0 (Below w.heap.size w W)) (hx : w.cell? p = some v) : W.cell? p = some v := (h.out.cell (World.block_lt_of_cell? w _ hx)).trans hx
theorem ff {p : Prop} (h : p := by first | rfl | (simp [errW_none, errW_some] <;> rfl) | (simp [*, errW_none, errW_some] <;> rfl)) : p := h
theorem fg {p : Prop} (h : p := by first | rfl | (simp; done) | (simp [*]; done)) : p := h
theorem fl {m n : Nat} (h : m ≤ n := by first | omega | exact Nat.le_refl _) : m ≤ n := h
theorem cf4 {w : World} {g : Nat} {t : TypeId} {v0 v1 v2 v3 : Value} (h : Aside0 (w.heap[g]? = some (.cells #[v0, v1, v2, v3] t (0, 0)))) : w.cell? ⟨g, 0, none⟩ = some v0 ∧ w.cell? ⟨g, 1, none⟩ = some v1 ∧ w.cell? ⟨g, 2, none⟩ = some v2 ∧ w.cell? ⟨g, 3, none⟩ = some v3 ∧ w.frozen? ⟨g, 0, none⟩ = false ∧ w.frozen? ⟨g, 1, none⟩ = false ∧ w.frozen? ⟨g, 2, none⟩ = false ∧ w.frozen? ⟨g, 3, none⟩ = false :=
  ⟨(blk_cell h.out 0).trans rfl, (blk_cell h.out 1).trans rfl, (blk_cell h.out 2).trans rfl, (blk_cell h.out 3).trans rfl, blk_frozen h.out 0, blk_frozen h.out 1, blk_frozen h.out 2, blk_frozen h.out 3⟩
theorem cf5 {w : World} {g : Nat} {t : TypeId} {v0 v1 v2 v3 v4 : Value} (h : Aside0 (w.heap[g]? = some (.cells #[v0, v1, v2, v3, v4] t (0, 0)))) : w.cell? ⟨g, 0, none⟩ = some v0 ∧ w.cell? ⟨g, 1, none⟩ = some v1 ∧ w.cell? ⟨g, 2, none⟩ = some v2 ∧ w.cell? ⟨g, 3, none⟩ = some v3 ∧ w.cell? ⟨g, 4, none⟩ = some v4 ∧ w.frozen? ⟨g, 0, none⟩ = false ∧ w.frozen? ⟨g, 1, none⟩ = false ∧ w.frozen? ⟨g, 2, none⟩ = false ∧ w.frozen? ⟨g, 3, none⟩ = false ∧ w.frozen? ⟨g, 4, none⟩ = false :=
  ⟨(blk_cell h.out 0).trans rfl, (blk_cell h.out 1).trans rfl, (blk_cell h.out 2).trans rfl, (blk_cell h.out 3).trans rfl, (blk_cell h.out 4).trans rfl, blk_frozen h.out 0, blk_frozen h.out 1, blk_frozen h.out 2, blk_frozen h.out 3, blk_frozen h.out 4⟩
end Go.Proofs.YtefmkmhjbfpelaaW.PrintMore
namespace Go.Proofs.Ytefmkmhjbfpelaa.Bs
open Go.Op
theorem less_irrefl : ∀ a : List UInt8, bytesLess a a = false
  | [] => rfl
  | x :: a => by simp [bytesLess, less_irrefl a]
theorem less_tri : ∀ a b : List UInt8, (!(bytesLess a b || a == b)) = bytesLess b a
  | [], [] => rfl
  | [], _ :: _ => rfl
  | _ :: _, [] => rfl
  | x :: a, y :: b => by
    have ih := less_tri a b
    by_cases h1 : x < y
    · have h2 : ¬ y < x := fun h => by have := UInt8.lt_iff_toNat_lt.1 h; have := UInt8.lt_iff_toNat_lt.1 h1; omega
      have h3 : ¬ x = y := fun h => by subst h; have := UInt8.lt_iff_toNat_lt.1 h1; omega
      have h4 : ¬ y = x := fun h => h3 h.symm
      simp [bytesLess, h1, h2, h4]
    · by_cases h2 : y < x
      · have h3 : ¬ x = y := fun h => by subst h; have := UInt8.lt_iff_toNat_lt.1 h2; omega
        simp [bytesLess, h1, h2, h3]
      · have h3 : x = y := UInt8.toNat_inj.1 (by
          have e1 := mt UInt8.lt_iff_toNat_lt.2 h1
          have e2 := mt UInt8.lt_iff_toNat_lt.2 h2
          omega)
        subst h3
        have e1 : bytesLess (x :: b) (x :: a) = bytesLess b a := by simp [bytesLess]
        have e2 : bytesLess (x :: a) (x :: b) = bytesLess a b := by simp [bytesLess]
        have e3 : (x :: a == x :: b) = (a == b) := by simp
        rw [e1, e2, e3]
        exact ih
@[go_sem] theorem binOp_gtr (t : TypeId) (a b : ByteArray) : binOp .gtr t (.string a) (.string b) = pure (.bool (bytesLess b.toList a.toList)) := by
  rw [← less_tri]
  simp [binOp, Op.stringOp]
@[go_sem] theorem binOp_leq (t : TypeId) (a b : ByteArray) : binOp .leq t (.string a) (.string b) = pure (.bool !(bytesLess b.toList a.toList)) := by
  rw [← less_tri]
  simp [binOp, Op.stringOp]
end Go.Proofs.Ytefmkmhjbfpelaa.Bs
namespace Go.Proofs.Ytefmkmhjbfpelaa.QO
open Go.RowKit Go.Proofs.YtefmkmhjbfpelaaW.PrintWords Go.Proofs.YtefmkmhjbfpelaaW.PrintLast Go.Proofs.YtefmkmhjbfpelaaW.PrintMore
attribute [local go_sem] max2_int min2_int max_two min_two max_three min_three max_four min_four   -- for this text's walks alone
set_option linter.unusedVariables false
set_option linter.unusedSimpArgs false
def errW : Option Int → Value
  | none => .nilIface
  | some c => .iface 0 (.int .i64 c)
theorem errW_none : errW none = .nilIface := rfl
theorem errW_some (c : Int) : errW (some c) = .iface 0 (.int .i64 c) := rfl
theorem info2 : (Try.prog.info? 2).map (fun i => (i.zero, i.size, i.bytes)) = some (some (.int .i64 0), 1, 8) := by kernel_rfl
theorem info24 : (Try.prog.info? 24).map (fun i => (i.zero, i.size, i.bytes)) = some (some (.agg #[(.string ⟨#[]⟩), (.int .i64 0), (.string ⟨#[]⟩), (.int .i64 0), (.int .i64 0)]), 5, 56) := by kernel_rfl
theorem info105 : (Try.prog.info? 105).map (fun i => (i.zero, i.size, i.bytes)) = some (some (.agg #[(.string ⟨#[]⟩), (.int .i64 0), (.string ⟨#[]⟩)]), 3, 40) := by kernel_rfl
structure S24 where
  f0 : ByteArray
  f1 : Int
  f2 : ByteArray
  f3 : Int
  f4 : Int
def z24 : S24 := ⟨(⟨#[]⟩ : ByteArray), (0 : Int), (⟨#[]⟩ : ByteArray), (0 : Int), (0 : Int)⟩
def k24 : Kd S24 := Kd.iso (Kd.pair Kd.string (Kd.pair (Kd.int .i64) (Kd.pair Kd.string (Kd.pair (Kd.int .i64) (Kd.int .i64))))) (fun x : S24 => (x.f0, x.f1, x.f2, x.f3, x.f4))
theorem k24_open {w : World} {x : S24} {cs : List Value} (h : k24.K w x cs) : cs = [.string x.f0, .int .i64 x.f1, .string x.f2, .int .i64 x.f3, .int .i64 x.f4] := by
  obtain ⟨_, _, rfl, rfl, ⟨_, _, rfl, rfl, ⟨_, _, rfl, rfl, ⟨_, _, rfl, rfl, rfl⟩⟩⟩⟩ := h
  exact rfl
theorem k24_mkM (w : World) (base : Nat) (ok : Nat → Prop) (x : S24)  : k24.M w base ok x [.string x.f0, .int .i64 x.f1, .string x.f2, .int .i64 x.f3, .int .i64 x.f4] := ⟨[.string x.f0], [.int .i64 x.f1, .string x.f2, .int .i64 x.f3, .int .i64 x.f4], rfl, rfl, ⟨[.int .i64 x.f1], [.string x.f2, .int .i64 x.f3, .int .i64 x.f4], rfl, rfl, ⟨[.string x.f2], [.int .i64 x.f3, .int .i64 x.f4], rfl, rfl, ⟨[.int .i64 x.f3], [.int .i64 x.f4], rfl, rfl, rfl⟩⟩⟩⟩
def rd_T24 (xs : List S24) (i : Int) : S24 := xs.getD i.toNat z24
theorem at_T24 {w : World} {A : Option Addr} {n : Nat} {xs : List S24} (h : Kd.C k24 w A n xs) (i : Int) (h0 : 0 ≤ i) (h1 : i < n) : ∃ ad , A = some ad ∧ w.cell? (ad.add (i.toNat * 5)) = some (.string (rd_T24 xs i).f0) ∧ w.cell? ⟨(ad.add (i.toNat * 5)).block, (ad.add (i.toNat * 5)).off + 1, none⟩ = some (.int .i64 (rd_T24 xs i).f1) ∧ w.cell? ⟨(ad.add (i.toNat * 5)).block, (ad.add (i.toNat * 5)).off + 2, none⟩ = some (.string (rd_T24 xs i).f2) ∧ w.cell? ⟨(ad.add (i.toNat * 5)).block, (ad.add (i.toNat * 5)).off + 3, none⟩ = some (.int .i64 (rd_T24 xs i).f3) ∧ w.cell? ⟨(ad.add (i.toNat * 5)).block, (ad.add (i.toNat * 5)).off + 4, none⟩ = some (.int .i64 (rd_T24 xs i).f4) := by
  obtain ⟨ad, c, e, _, hK, hc0⟩ := Kd.C_get h z24 i h0 h1; have hc : ∀ j u, c[j]? = some u → w.cell? (ad.add (i.toNat * 5 + j)) = some u := hc0; obtain rfl := k24_open hK
  exact ⟨ad, e, hc 0 _ rfl, by rw [← add_field _ _ 1 (by omega)]; exact hc 1 _ rfl, by rw [← add_field _ _ 2 (by omega)]; exact hc 2 _ rfl, by rw [← add_field _ _ 3 (by omega)]; exact hc 3 _ rfl, by rw [← add_field _ _ 4 (by omega)]; exact hc 4 _ rfl⟩
structure S105 where
  f0 : ByteArray
  f1 : Int
  f2 : ByteArray
def k105 : Kd S105 := Kd.iso (Kd.pair Kd.string (Kd.pair (Kd.int .i64) Kd.string)) (fun x : S105 => (x.f0, x.f1, x.f2))
theorem k105_mkM (w : World) (base : Nat) (ok : Nat → Prop) (x : S105)  : k105.M w base ok x [.string x.f0, .int .i64 x.f1, .string x.f2] := ⟨[.string x.f0], [.int .i64 x.f1, .string x.f2], rfl, rfl, ⟨[.int .i64 x.f1], [.string x.f2], rfl, rfl, rfl⟩⟩
end Go.Proofs.Ytefmkmhjbfpelaa.QO
namespace Go.Proofs.Ytefmkmhjbfpelaa.QO
open Go.RowKit Go.Proofs.YtefmkmhjbfpelaaW.PrintWords Go.Proofs.YtefmkmhjbfpelaaW.PrintLast Go.Proofs.YtefmkmhjbfpelaaW.PrintMore
attribute [local go_sem] max2_int min2_int max_two min_two max_three min_three max_four min_four   -- for this text's walks alone
set_option linter.unusedVariables false
set_option linter.unusedSimpArgs false
def spec_l12Wrong.f (a0 : Int) : Option ((List (S24)) × (List (S105)) × (List (S24)) × Int) := some (([] : List (S24)), ([] : List (S105)), ([] : List (S24)), a0)
mutual
def spec_l01Name.j0 : Nat → ByteArray → Bool → Option (Bool)
  | 0, _, _ => none
  | k + 1, x0, x22 => if x22 = true then (some false) else (spec_l01Name.l0 k x0 0)
def spec_l01Name.l0 : Nat → ByteArray → Int → Option (Bool)
  | 0, _, _ => none
  | k + 1, x0, x3 => if x3 < (x0.size : Int) then (if 0 ≤ x3 then (if (bt x0 x3) ≥ 65 then (if (bt x0 x3) ≤ 90 then (spec_l01Name.l0 k x0 (wrap64 (x3 + 1))) else (if (bt x0 x3) ≥ 48 then (if (bt x0 x3) ≤ 57 then (spec_l01Name.l0 k x0 (wrap64 (x3 + 1))) else (if ((bt x0 x3) = 45) then (spec_l01Name.l0 k x0 (wrap64 (x3 + 1))) else (some false))) else (if ((bt x0 x3) = 45) then (spec_l01Name.l0 k x0 (wrap64 (x3 + 1))) else (some false)))) else (if (bt x0 x3) ≥ 48 then (if (bt x0 x3) ≤ 57 then (spec_l01Name.l0 k x0 (wrap64 (x3 + 1))) else (if ((bt x0 x3) = 45) then (spec_l01Name.l0 k x0 (wrap64 (x3 + 1))) else (some false))) else (if ((bt x0 x3) = 45) then (spec_l01Name.l0 k x0 (wrap64 (x3 + 1))) else (some false)))) else (none)) else (some true)
end
def spec_l01Name.f (k : Nat) (a0 : ByteArray) : Option (Bool) := if (a0.size : Int) < 1 then (spec_l01Name.j0 k a0 true) else (if (a0.size : Int) > 12 then (spec_l01Name.j0 k a0 true) else (if 0 < (a0.size : Int) then (if (bt a0 0) < 65 then (spec_l01Name.j0 k a0 true) else (spec_l01Name.j0 k a0 (decide ((bt a0 0) > 90)))) else (none)))
def spec_l01Control.f (a0 : Int) : Option (Bool) := if a0 ≥ 1 then (some (decide (a0 ≤ 999999))) else (some false)
def spec_l01Day.f (a0 : Int) : Option (Bool) := if a0 ≥ 0 then (some (decide (a0 ≤ 100000))) else (some false)
def spec_l12Out.f (k : Nat) (a0_0 : ByteArray) (a0_1 : Int) (a0_2 : ByteArray) (a0_3 : Int) (a0_4 : Int) : Option (Bool) := (spec_l01Name.f k a0_0).bind fun t119 => (if t119 = true then ((spec_l01Control.f a0_1).bind fun t120 => (if t120 = true then (if (a0_2.size : Int) ≥ 1 then (if (a0_2.size : Int) ≤ 20000 then (if a0_3 ≥ 0 then (if a0_3 ≤ 5 then ((spec_l01Day.f a0_4).bind fun t121 => (some t121)) else (some false)) else (some false)) else (some false)) else (some false)) else (some false))) else (some false))
def spec_l12Before.f (a0_0 : ByteArray) (a0_1 : Int) (a0_2 : ByteArray) (a0_3 : Int) (a0_4 : Int) (a1_0 : ByteArray) (a1_1 : Int) (a1_2 : ByteArray) (a1_3 : Int) (a1_4 : Int) : Option (Bool) := if (Op.bytesLess a0_0.toList a1_0.toList) = true then (some true) else (if a0_0.toList = a1_0.toList then (some (decide (a0_1 < a1_1))) else (some false))
def spec_OutboxRight.l0 : Nat → List (S24) → Int → Option (Bool)
  | 0, _, _ => none
  | k + 1, x0, x3 => if x3 < (x0.length : Int) then (if 0 ≤ x3 then ((spec_l12Out.f k ((rd_T24 x0 x3).f0) ((rd_T24 x0 x3).f1) ((rd_T24 x0 x3).f2) ((rd_T24 x0 x3).f3) ((rd_T24 x0 x3).f4)).bind fun t125 => (if t125 = true then (if x3 > 0 then (if 0 ≤ (wrap64 (x3 - 1)) then (if (wrap64 (x3 - 1)) < (x0.length : Int) then ((spec_l12Before.f ((rd_T24 x0 (wrap64 (x3 - 1))).f0) ((rd_T24 x0 (wrap64 (x3 - 1))).f1) ((rd_T24 x0 (wrap64 (x3 - 1))).f2) ((rd_T24 x0 (wrap64 (x3 - 1))).f3) ((rd_T24 x0 (wrap64 (x3 - 1))).f4) ((rd_T24 x0 x3).f0) ((rd_T24 x0 x3).f1) ((rd_T24 x0 x3).f2) ((rd_T24 x0 x3).f3) ((rd_T24 x0 x3).f4)).bind fun t128 => (if t128 = true then (spec_OutboxRight.l0 k x0 (wrap64 (x3 + 1))) else (some false))) else (none)) else (none)) else (spec_OutboxRight.l0 k x0 (wrap64 (x3 + 1)))) else (some false))) else (none)) else (some true)
def spec_OutboxRight.f (k : Nat) (l0 : List (S24)) : Option (Bool) := if (l0.length : Int) > 60 then (some false) else (spec_OutboxRight.l0 k l0 0)
def impl_longText_1.f (a0 : ByteArray) : Option (Bool) := some (decide ((a0.size : Int) > 20000))
def slices_IndexFunc_string_string_impl_longText_1.l0 : Nat → List ByteArray → Int → Int → Option (Int)
  | 0, _, _, _ => none
  | k + 1, x0, x7, x8 => if x8 < x7 then (if 0 ≤ x8 then (if x8 < (x0.length : Int) then ((impl_longText_1.f (rdOf ByteArray.empty x0 x8)).bind fun t175 => (if t175 = true then (some x8) else (slices_IndexFunc_string_string_impl_longText_1.l0 k x0 x7 (wrap64 (x8 + 1))))) else (none)) else (none)) else (some (-1))
def slices_IndexFunc_string_string_impl_longText_1.f (k : Nat) (l0 : List ByteArray)  : Option (Int) := slices_IndexFunc_string_string_impl_longText_1.l0 k l0 (l0.length : Int) 0
def slices_ContainsFunc_string_string_impl_longText_1.f (k : Nat) (l0 : List ByteArray)  : Option (Bool) := (slices_IndexFunc_string_string_impl_longText_1.f k l0).bind fun t176 => (some (decide (t176 ≥ 0)))
def impl_longText.f (k : Nat) (l0 : List ByteArray) : Option (Bool) := (slices_ContainsFunc_string_string_impl_longText_1.f k l0).bind fun t177 => (some t177)
def impl_Out_129.f (l0 : List (S24)) : Option (Bool) := some (decide ((l0.length : Int) > 400))
def impl_isGreat.f (a0 : Int) : Option (Bool) := if a0 ≥ 65 then (some (decide (a0 ≤ 90))) else (some false)
def impl_isDigit.f (a0 : Int) : Option (Bool) := if a0 ≥ 48 then (some (decide (a0 ≤ 57))) else (some false)
def impl_within.f (a0 : Int) (a1 : Int) (a2 : Int) : Option (Bool) := if a1 ≤ a0 then (some (decide (a0 ≤ a2))) else (some false)
def impl_isName.l0 : Nat → ByteArray → Int → Int → Option (Bool)
  | 0, _, _, _ => none
  | k + 1, x0, x5, x6 => if x6 < x5 then (if 0 ≤ x6 then (if x6 < (x0.size : Int) then ((impl_isGreat.f (bt x0 x6)).bind fun t179 => (if t179 = true then (impl_isName.l0 k x0 x5 (wrap64 (x6 + 1))) else (if x6 = 0 then (some false) else ((impl_isDigit.f (bt x0 x6)).bind fun t180 => (if t180 = true then (impl_isName.l0 k x0 x5 (wrap64 (x6 + 1))) else (if (bt x0 x6) = 45 then (impl_isName.l0 k x0 x5 (wrap64 (x6 + 1))) else (some false))))))) else (none)) else (none)) else ((impl_within.f (x0.size : Int) 1 12).bind fun t178 => (some t178))
def impl_isName.f (k : Nat) (a0 : ByteArray) : Option (Bool) := impl_isName.l0 k a0 (a0.size : Int) 0
def impl_isControl.f (a0 : Int) : Option (Bool) := (impl_within.f a0 1 999999).bind fun t181 => (some t181)
def impl_isDay.f (a0 : Int) : Option (Bool) := (impl_within.f a0 0 100000).bind fun t182 => (some t182)
def impl_isOut.f (k : Nat) (a0_0 : ByteArray) (a0_1 : Int) (a0_2 : ByteArray) (a0_3 : Int) (a0_4 : Int) : Option (Bool) := (impl_isName.f k a0_0).bind fun t184 => (if t184 = true then ((impl_isControl.f a0_1).bind fun t185 => (if t185 = true then (if a0_2.toList = ([] : List UInt8) then (some false) else ((impl_longText.f k (([a0_2] : List ByteArray))).bind fun t189 => (if t189 = true then (some false) else ((impl_within.f a0_3 0 5).bind fun t190 => (if t190 = true then ((impl_isDay.f a0_4).bind fun t191 => (some t191)) else (some false)))))) else (some false))) else (some false))
def cmp_isNaN_string.f (a0 : ByteArray) : Option (Bool) := some (a0.toList != a0.toList)
def cmp_Compare_string.f (a0 : ByteArray) (a1 : ByteArray) : Option (Int) := (cmp_isNaN_string.f a0).bind fun t192 => ((cmp_isNaN_string.f a1).bind fun t193 => (if t192 = true then (if t193 = true then (some 0) else (some (-1))) else (if t193 = true then (some 1) else (if (Op.bytesLess a0.toList a1.toList) = true then (some (-1)) else (if (Op.bytesLess a1.toList a0.toList) = true then (some 1) else (some 0))))))
def cmp_isNaN_int64.f (a0 : Int) : Option (Bool) := some (a0 != a0)
def cmp_Compare_int64.f (a0 : Int) (a1 : Int) : Option (Int) := (cmp_isNaN_int64.f a0).bind fun t194 => ((cmp_isNaN_int64.f a1).bind fun t195 => (if t194 = true then (if t195 = true then (some 0) else (some (-1))) else (if t195 = true then (some 1) else (if a0 < a1 then (some (-1)) else (if a0 > a1 then (some 1) else (some 0))))))
def cmp_Or_int.l0 : Nat → Int → List Int → Int → Int → Option (Int)
  | 0, _, _, _, _ => none
  | k + 1, x3, x6, x7, x8 => if x8 < x7 then (if 0 ≤ x8 then (if x8 < (x6.length : Int) then (if (rd x6 x8) = x3 then (cmp_Or_int.l0 k x3 x6 x7 (wrap64 (x8 + 1))) else (some (rd x6 x8))) else (none)) else (none)) else (some x3)
def cmp_Or_int.f (k : Nat) (l0 : List Int) : Option (Int) := cmp_Or_int.l0 k 0 l0 (l0.length : Int) 0
def impl_outOrder.f (k : Nat) (a0_0 : ByteArray) (a0_1 : Int) (a0_2 : ByteArray) (a0_3 : Int) (a0_4 : Int) (a1_0 : ByteArray) (a1_1 : Int) (a1_2 : ByteArray) (a1_3 : Int) (a1_4 : Int) : Option (Int) := (cmp_Compare_string.f a0_0 a1_0).bind fun t199 => ((cmp_Compare_int64.f a0_1 a1_1).bind fun t200 => ((cmp_Or_int.f k (([t199, t200] : List Int))).bind fun t204 => (some t204)))
def impl_OutboxRight.l0 : Nat → List (S24) → List (S24) → Int → Int → Option (Bool)
  | 0, _, _, _, _ => none
  | k + 1, x0, x8, x9, x10 => if x10 < x9 then (if 0 ≤ x10 then (if x10 < (x8.length : Int) then ((impl_isOut.f k ((rd_T24 x8 x10).f0) ((rd_T24 x8 x10).f1) ((rd_T24 x8 x10).f2) ((rd_T24 x8 x10).f3) ((rd_T24 x8 x10).f4)).bind fun t207 => (if t207 = true then (if x10 > 0 then (if 0 ≤ (wrap64 (x10 - 1)) then (if (wrap64 (x10 - 1)) < (x0.length : Int) then ((impl_outOrder.f k ((rd_T24 x0 (wrap64 (x10 - 1))).f0) ((rd_T24 x0 (wrap64 (x10 - 1))).f1) ((rd_T24 x0 (wrap64 (x10 - 1))).f2) ((rd_T24 x0 (wrap64 (x10 - 1))).f3) ((rd_T24 x0 (wrap64 (x10 - 1))).f4) ((rd_T24 x8 x10).f0) ((rd_T24 x8 x10).f1) ((rd_T24 x8 x10).f2) ((rd_T24 x8 x10).f3) ((rd_T24 x8 x10).f4)).bind fun t209 => (if t209 ≥ 0 then (some false) else (impl_OutboxRight.l0 k x0 x8 x9 (wrap64 (x10 + 1))))) else (none)) else (none)) else (impl_OutboxRight.l0 k x0 x8 x9 (wrap64 (x10 + 1)))) else (some false))) else (none)) else (none)) else (some true)
def impl_OutboxRight.f (k : Nat) (l0 : List (S24)) : Option (Bool) := if (l0.length : Int) > 60 then (some false) else (impl_OutboxRight.l0 k l0 l0 (l0.length : Int) 0)
def impl_outboxCode.f (k : Nat) (l0 : List (S24)) : Option (Int) := (impl_Out_129.f l0).bind fun t210 => (if t210 = true then (some 2) else ((impl_OutboxRight.f k l0).bind fun t211 => (if t211 = true then (some 0) else (some 1))))
mutual
def spec_OutboxPut.j0 : Nat → List (S24) → Bool → ByteArray → Int → ByteArray → Int → Int → Option ((List (S24)) × (List (S105)) × (List (S24)) × Int)
  | 0, _, _, _, _, _, _, _ => none
  | k + 1, x0, x19, x343000, x343001, x343002, x343003, x343004 => if x19 = true then ((spec_l12Wrong.f 1).bind fun bt356 => (some (bt356.1, bt356.2.1, bt356.2.2.1, bt356.2.2.2))) else (spec_OutboxPut.l0 k x0 (([] : List (S24))) false 0 x343000 x343001 x343002 x343003 x343004)
def spec_OutboxPut.l0 : Nat → List (S24) → List (S24) → Bool → Int → ByteArray → Int → ByteArray → Int → Int → Option ((List (S24)) × (List (S105)) × (List (S24)) × Int)
  | 0, _, _, _, _, _, _, _, _, _ => none
  | k + 1, x0, x5, x6, x7, x343000, x343001, x343002, x343003, x343004 => if x7 < (x0.length : Int) then (if 0 ≤ x7 then (if ((rd_T24 x0 x7).f0).toList = x343000.toList then (spec_OutboxPut.j2 k x0 x5 x6 x7 (((rd_T24 x0 x7).f1) == x343001) x343000 x343001 x343002 x343003 x343004) else (spec_OutboxPut.j2 k x0 x5 x6 x7 false x343000 x343001 x343002 x343003 x343004)) else (none)) else (if x6 = true then (if (x5.length : Int) > 60 then ((spec_l12Wrong.f 12).bind fun bt398 => (some (bt398.1, bt398.2.1, bt398.2.2.1, bt398.2.2.2))) else (some (x5, ([] : List (S105)), ([] : List (S24)), 0))) else (if x5.length < 2513169434916 then ((some (x5 ++ [(⟨x343000, x343001, x343002, x343003, x343004⟩ : S24)] : List (S24))).bind fun y408 => (if (y408.length : Int) > 60 then ((spec_l12Wrong.f 12).bind fun bt411 => (some (bt411.1, bt411.2.1, bt411.2.2.1, bt411.2.2.2))) else (some (y408, ([] : List (S105)), ([] : List (S24)), 0)))) else (none)))
def spec_OutboxPut.j2 : Nat → List (S24) → List (S24) → Bool → Int → Bool → ByteArray → Int → ByteArray → Int → Int → Option ((List (S24)) × (List (S105)) × (List (S24)) × Int)
  | 0, _, _, _, _, _, _, _, _, _, _ => none
  | k + 1, x0, x5, x6, x7, x45, x343000, x343001, x343002, x343003, x343004 => if x45 = true then ((spec_l12Wrong.f 11).bind fun bt371 => (some (bt371.1, bt371.2.1, bt371.2.2.1, bt371.2.2.2))) else (if x6 = true then (if 0 ≤ x7 then (if x7 < (x0.length : Int) then (if x5.length < 2513169434916 then (spec_OutboxPut.l0 k x0 (x5 ++ [(⟨(rd_T24 x0 x7).f0, (rd_T24 x0 x7).f1, (rd_T24 x0 x7).f2, (rd_T24 x0 x7).f3, (rd_T24 x0 x7).f4⟩ : S24)]) x6 (wrap64 (x7 + 1)) x343000 x343001 x343002 x343003 x343004) else (none)) else (none)) else (none)) else (if 0 ≤ x7 then (if x7 < (x0.length : Int) then ((spec_l12Before.f x343000 x343001 x343002 x343003 x343004 ((rd_T24 x0 x7).f0) ((rd_T24 x0 x7).f1) ((rd_T24 x0 x7).f2) ((rd_T24 x0 x7).f3) ((rd_T24 x0 x7).f4)).bind fun t386 => (if t386 = true then (if x5.length < 2513169434916 then ((some (x5 ++ [(⟨x343000, x343001, x343002, x343003, x343004⟩ : S24)] : List (S24))).bind fun y387 => (if y387.length < 2513169434916 then (spec_OutboxPut.l0 k x0 (y387 ++ [(⟨(rd_T24 x0 x7).f0, (rd_T24 x0 x7).f1, (rd_T24 x0 x7).f2, (rd_T24 x0 x7).f3, (rd_T24 x0 x7).f4⟩ : S24)]) true (wrap64 (x7 + 1)) x343000 x343001 x343002 x343003 x343004) else (none))) else (none)) else (if x5.length < 2513169434916 then (spec_OutboxPut.l0 k x0 (x5 ++ [(⟨(rd_T24 x0 x7).f0, (rd_T24 x0 x7).f1, (rd_T24 x0 x7).f2, (rd_T24 x0 x7).f3, (rd_T24 x0 x7).f4⟩ : S24)]) x6 (wrap64 (x7 + 1)) x343000 x343001 x343002 x343003 x343004) else (none)))) else (none)) else (none)))
end
def spec_OutboxPut.f (k : Nat) (l0 : List (S24)) (a1_0 : ByteArray) (a1_1 : Int) (a1_2 : ByteArray) (a1_3 : Int) (a1_4 : Int) : Option ((List (S24)) × (List (S105)) × (List (S24)) × Int) := if (l0.length : Int) > 400 then ((spec_l12Wrong.f 2).bind fun bt344 => (some (bt344.1, bt344.2.1, bt344.2.2.1, bt344.2.2.2))) else ((spec_OutboxRight.f k l0).bind fun t354 => (if t354 = true then ((spec_l12Out.f k a1_0 a1_1 a1_2 a1_3 a1_4).bind fun t355 => (spec_OutboxPut.j0 k l0 (!t355) a1_0 a1_1 a1_2 a1_3 a1_4)) else (spec_OutboxPut.j0 k l0 true a1_0 a1_1 a1_2 a1_3 a1_4)))
def spec_l01Source.l0 : Nat → List Int → Int → List Int → Int → Int → Int → Option (List Int × Int × Int × Int)
  | 0, _, _, _, _, _, _ => none
  | k + 1, x0, x4, x512000, x512001, x512002, x512003 => if x4 < (x0.length : Int) then (if x4 < 64 then (if 0 ≤ x4 then (spec_l01Source.l0 k x0 (wrap64 (x4 + 1)) x512000 x512001 (IntKind.u64.wrap ((Go.bits .xor .u64 x512002 (IntKind.u64.wrap (rd x0 x4))) * 1099511628211)) x512003) else (none)) else (if (wrap64 ((x0.length : Int) / 20)) > 12 then (some (x512000, x512001, x512002, 12)) else (some (x512000, x512001, x512002, wrap64 ((x0.length : Int) / 20))))) else (if (wrap64 ((x0.length : Int) / 20)) > 12 then (some (x512000, x512001, x512002, 12)) else (some (x512000, x512001, x512002, wrap64 ((x0.length : Int) / 20))))
def spec_l01Source.f (k : Nat) (l0 : List Int) : Option (List Int × Int × Int × Int) := spec_l01Source.l0 k l0 0 l0 0 88172645463325252 0
def spec_l01Src_n_mA.f (x : Int) : Int := Go.bits BinOp.xor IntKind.u64 x (IntKind.u64.wrap (x * 8192))
def spec_l01Src_n_mB.f (x : Int) : Int := Go.bits BinOp.xor IntKind.u64 x (x / 128)
def spec_l01Src_n_mC.f (x : Int) : Int := Go.bits BinOp.xor IntKind.u64 x (IntKind.u64.wrap (x * 131072))
def spec_l01Src_n_mix.f (x : Int) : Int := spec_l01Src_n_mC.f (spec_l01Src_n_mB.f (spec_l01Src_n_mA.f x))
def spec_l01Src_n_res.f (v m a : Int) : Int := wrap64 (Int.tmod (IntKind.u64.wrap (v + m / 1048576)) (IntKind.u64.wrap a))
def spec_l01Src_n_resZ.f (m a : Int) : Int := wrap64 (Int.tmod (IntKind.u64.wrap (m / 1048576)) (IntKind.u64.wrap a))
def spec_l01Src_n.f (s0_0 : List Int) (s0_1 s0_2 s0_3 a1 : Int) : Option (Int × Int × Int × Int) :=
  if a1 ≤ 1 then some (0, s0_1, s0_2, s0_3) else if IntKind.u64.wrap a1 = 0 then none else if s0_1 < (s0_0.length : Int) then (if 0 ≤ s0_1 then some (spec_l01Src_n_res.f (IntKind.u64.wrap (rd s0_0 s0_1)) (spec_l01Src_n_mix.f s0_2) a1, wrap64 (s0_1 + 1), spec_l01Src_n_mix.f s0_2, s0_3) else none)
  else some (spec_l01Src_n_resZ.f (spec_l01Src_n_mix.f s0_2) a1, s0_1, spec_l01Src_n_mix.f s0_2, s0_3)
def spec_l01Src_pick.f (s0_0 : List Int) (s0_1 : Int) (s0_2 : Int) (s0_3 : Int) (l1 : List ByteArray) : Option (ByteArray × Int × Int × Int) := (spec_l01Src_n.f s0_0 s0_1 s0_2 s0_3 (l1.length : Int)).bind fun bt513 => (if 0 ≤ bt513.1 then (if bt513.1 < (l1.length : Int) then (some (rdOf ByteArray.empty l1 bt513.1, bt513.2.1, bt513.2.2.1, bt513.2.2.2)) else (none)) else (none))
def spec_l01Src_one.f (s0_0 : List Int) (s0_1 : Int) (s0_2 : Int) (s0_3 : Int) (a1 : Int) : Option (Bool × Int × Int × Int) := (spec_l01Src_n.f s0_0 s0_1 s0_2 s0_3 a1).bind fun bt518 => (some ((bt518.1 == 0), bt518.2.1, bt518.2.2.1, bt518.2.2.2))
def spec_l01Src_l12Out.f (s0_0 : List Int) (s0_1 : Int) (s0_2 : Int) (s0_3 : Int) : Option (ByteArray × Int × ByteArray × Int × Int × Int × Int × Int) := (spec_l01Src_pick.f s0_0 s0_1 s0_2 s0_3 (([(⟨#[65, 67, 77, 69]⟩ : ByteArray), (⟨#[66, 79, 76, 84]⟩ : ByteArray), (⟨#[67, 45, 49]⟩ : ByteArray)] : List ByteArray))).bind fun bt526 => ((spec_l01Src_n.f s0_0 bt526.2.1 bt526.2.2.1 bt526.2.2.2 9).bind fun bt530 => ((spec_l01Src_pick.f s0_0 bt530.2.1 bt530.2.2.1 bt530.2.2.2 (([(⟨#[120]⟩ : ByteArray), (⟨#[83, 89, 78]⟩ : ByteArray), (⟨#[121, 122]⟩ : ByteArray)] : List ByteArray))).bind fun bt537 => ((spec_l01Src_n.f s0_0 bt537.2.1 bt537.2.2.1 bt537.2.2.2 6).bind fun bt541 => ((spec_l01Src_n.f s0_0 bt541.2.1 bt541.2.2.1 bt541.2.2.2 20).bind fun bt545 => ((spec_l01Src_one.f s0_0 bt545.2.1 bt545.2.2.1 bt545.2.2.2 25).bind fun bt550 => (if bt550.1 = true then ((spec_l01Src_n.f s0_0 bt550.2.1 bt550.2.2.1 bt550.2.2.2 5).bind fun bt554 => (if bt554.1 = 0 then (some (bt526.1, wrap64 (1 + bt530.1), (⟨#[]⟩ : ByteArray), bt541.1, bt545.1, bt554.2.1, bt554.2.2.1, bt554.2.2.2)) else (if bt554.1 = 1 then (some (bt526.1, wrap64 (1 + bt530.1), bt537.1, 6, bt545.1, bt554.2.1, bt554.2.2.1, bt554.2.2.2)) else (if bt554.1 = 2 then ((spec_l01Src_n.f s0_0 bt554.2.1 bt554.2.2.1 bt554.2.2.2 2).bind fun bt558 => (some (bt526.1, wrap64 (1 + bt530.1), bt537.1, bt541.1, wrap64 (100000 + bt558.1), bt558.2.1, bt558.2.2.1, bt558.2.2.2))) else (if bt554.1 = 3 then (some (bt526.1, 0, bt537.1, bt541.1, bt545.1, bt554.2.1, bt554.2.2.1, bt554.2.2.2)) else (some ((⟨#[97]⟩ : ByteArray), wrap64 (1 + bt530.1), bt537.1, bt541.1, bt545.1, bt554.2.1, bt554.2.2.1, bt554.2.2.2))))))) else (some (bt526.1, wrap64 (1 + bt530.1), bt537.1, bt541.1, bt545.1, bt550.2.1, bt550.2.2.1, bt550.2.2.2))))))))
mutual
def spec_l01Src_l12Outbox.l0 : Nat → List (S24) → Int → List Int → Int → Int → Int → Option ((List (S24)) × Int × Int × Int)
  | 0, _, _, _, _, _, _ => none
  | k + 1, x3, x4, x1000, x1001, x1002, x1003 => if x4 > 0 then ((spec_l01Src_l12Out.f x1000 x1001 x1002 x1003).bind fun bt569 => ((spec_OutboxPut.f k x3 bt569.1 bt569.2.1 bt569.2.2.1 bt569.2.2.2.1 bt569.2.2.2.2.1).bind fun bt577 => (if bt577.2.2.2 = 0 then (spec_l01Src_l12Outbox.l0 k bt577.1 (wrap64 (x4 - 1)) x1000 bt569.2.2.2.2.2.1 bt569.2.2.2.2.2.2.1 bt569.2.2.2.2.2.2.2) else (spec_l01Src_l12Outbox.l0 k x3 (wrap64 (x4 - 1)) x1000 bt569.2.2.2.2.2.1 bt569.2.2.2.2.2.2.1 bt569.2.2.2.2.2.2.2)))) else ((spec_l01Src_one.f x1000 x1001 x1002 x1003 15).bind fun bt588 => (if bt588.1 = true then ((some (([] : List (S24)) : List (S24))).bind fun y592 => (if y592.length + x3.length < 2513169434916 then ((some (y592 ++ x3 : List (S24))).bind fun y595 => ((spec_l01Src_l12Out.f x1000 bt588.2.1 bt588.2.2.1 bt588.2.2.2).bind fun bt598 => (if y595.length < 2513169434916 then (spec_l01Src_l12Outbox.j1 k (y595 ++ [(⟨bt598.1, bt598.2.1, bt598.2.2.1, bt598.2.2.2.1, bt598.2.2.2.2.1⟩ : S24)]) x1000 bt598.2.2.2.2.2.1 bt598.2.2.2.2.2.2.1 bt598.2.2.2.2.2.2.2) else (none)))) else (none))) else (spec_l01Src_l12Outbox.j1 k x3 x1000 bt588.2.1 bt588.2.2.1 bt588.2.2.2)))
def spec_l01Src_l12Outbox.j1 : Nat → List (S24) → List Int → Int → Int → Int → Option ((List (S24)) × Int × Int × Int)
  | 0, _, _, _, _, _ => none
  | k + 1, x3, x1000, x1001, x1002, x1003 => (spec_l01Src_one.f x1000 x1001 x1002 x1003 50).bind fun bt609 => (if bt609.1 = true then (spec_l01Src_l12Outbox.l1 k (([] : List (S24))) 0 x1000 bt609.2.1 bt609.2.2.1 bt609.2.2.2) else (some (x3, bt609.2.1, bt609.2.2.1, bt609.2.2.2)))
def spec_l01Src_l12Outbox.l1 : Nat → List (S24) → Int → List Int → Int → Int → Int → Option ((List (S24)) × Int × Int × Int)
  | 0, _, _, _, _, _, _ => none
  | k + 1, x3, x6, x1000, x1001, x1002, x1003 => (spec_l01Src_n.f x1000 x1001 x1002 x1003 3).bind fun bt616 => (if (x3.length : Int) < (wrap64 (59 + bt616.1)) then (if x3.length < 2513169434916 then (spec_l01Src_l12Outbox.l1 k (x3 ++ [(⟨(⟨#[65]⟩ : ByteArray), wrap64 (x6 + 1), (⟨#[120]⟩ : ByteArray), 0, x6⟩ : S24)]) (wrap64 (x6 + 1)) x1000 bt616.2.1 bt616.2.2.1 bt616.2.2.2) else (none)) else (some (x3, bt616.2.1, bt616.2.2.1, bt616.2.2.2)))
end
def spec_l01Src_l12Outbox.f (k : Nat) (s0_0 : List Int) (s0_1 : Int) (s0_2 : Int) (s0_3 : Int) : Option ((List (S24)) × Int × Int × Int) := (spec_l01Src_n.f s0_0 s0_1 s0_2 s0_3 (wrap64 (4 + s0_3))).bind fun bt565 => (spec_l01Src_l12Outbox.l0 k (([] : List (S24))) bt565.1 s0_0 bt565.2.1 bt565.2.2.1 bt565.2.2.2)
def spec_DrawOutboxRun.l0 : Nat → List Int → Int → Int → List Int → Int → Int → Int → ByteArray → Int → ByteArray → Int → Int → Option (ByteArray × Int × ByteArray × Int × Int × List Int)
  | 0, _, _, _, _, _, _, _, _, _, _, _, _ => none
  | k + 1, x6, x7, x8, x729000, x729001, x729002, x729003, x738000, x738001, x738002, x738003, x738004 => if x8 > 0 then (if x6.length < 17592186044416 then ((spec_l01Src_n.f x729000 x729001 x729002 x729003 4).bind fun bt752 => (spec_DrawOutboxRun.l0 k (x6 ++ [x7]) (wrap64 ((wrap64 (x7 + 1)) + bt752.1)) (wrap64 (x8 - 1)) x729000 bt752.2.1 bt752.2.2.1 bt752.2.2.2 x738000 x738001 x738002 x738003 x738004)) else (none)) else ((spec_l01Src_one.f x729000 x729001 x729002 x729003 12).bind fun bt756 => (if bt756.1 = true then ((spec_l01Src_n.f x729000 bt756.2.1 bt756.2.2.1 bt756.2.2.2 9).bind fun bt760 => (if x6.length < 17592186044416 then (some (x738000, x738001, x738002, x738003, x738004, (x6 ++ [bt760.1]))) else (none))) else (some (x738000, x738001, x738002, x738003, x738004, x6))))
def spec_DrawOutboxRun.f (k : Nat) (l0 : List Int) : Option (ByteArray × Int × ByteArray × Int × Int × List Int) := (spec_l01Source.f k l0).bind fun bt724 => ((spec_l01Src_l12Out.f bt724.1 bt724.2.1 bt724.2.2.1 bt724.2.2.2).bind fun bt729 => ((spec_l01Src_n.f bt724.1 bt729.2.2.2.2.2.1 bt729.2.2.2.2.2.2.1 bt729.2.2.2.2.2.2.2 20).bind fun bt741 => ((spec_l01Src_n.f bt724.1 bt741.2.1 bt741.2.2.1 bt741.2.2.2 (wrap64 (8 + (wrap64 (3 * bt741.2.2.2))))).bind fun bt745 => (spec_DrawOutboxRun.l0 k (([] : List Int)) bt741.1 bt745.1 bt724.1 bt745.2.1 bt745.2.2.1 bt745.2.2.2 bt729.1 bt729.2.1 bt729.2.2.1 bt729.2.2.2.1 bt729.2.2.2.2.1))))
def impl_longList_int64.f (l0 : List Int) : Option (Bool) := some (decide ((l0.length : Int) > 400))
mutual
def impl_OutboxTick.l0 : Nat → Int → List (S24) → Int → Int → List (S24) → List (S105) → List (S24) → Int → Option ((List (S24)) × (List (S105)) × (List (S24)) × Int)
  | 0, _, _, _, _, _, _, _, _ => none
  | k + 1, x1, x20, x21, x22, x771000, x771001, x771002, x771003 => if x22 < x21 then (if 0 ≤ x22 then (if x22 < (x20.length : Int) then (if ((rd_T24 x20 x22).f4) ≤ x1 then (impl_OutboxTick.j1 k x1 x20 x21 x22 (((rd_T24 x20 x22).f3) == 5) x771000 x771001 x771002 x771003 ((rd_T24 x20 x22).f0) ((rd_T24 x20 x22).f1) ((rd_T24 x20 x22).f2) ((rd_T24 x20 x22).f3) ((rd_T24 x20 x22).f4)) else (impl_OutboxTick.j1 k x1 x20 x21 x22 false x771000 x771001 x771002 x771003 ((rd_T24 x20 x22).f0) ((rd_T24 x20 x22).f1) ((rd_T24 x20 x22).f2) ((rd_T24 x20 x22).f3) ((rd_T24 x20 x22).f4))) else (none)) else (none)) else (some (x771000, x771001, x771002, x771003))
def impl_OutboxTick.j1 : Nat → Int → List (S24) → Int → Int → Bool → List (S24) → List (S105) → List (S24) → Int → ByteArray → Int → ByteArray → Int → Int → Option ((List (S24)) × (List (S105)) × (List (S24)) × Int)
  | 0, _, _, _, _, _, _, _, _, _, _, _, _, _, _ => none
  | k + 1, x1, x20, x21, x22, x34, x771000, x771001, x771002, x771003, x773000, x773001, x773002, x773003, x773004 => if x34 = true then (if x771002.length < 2513169434916 then (impl_OutboxTick.l0 k x1 x20 x21 (wrap64 (x22 + 1)) x771000 x771001 (x771002 ++ [(⟨x773000, x773001, x773002, x773003, x773004⟩ : S24)]) x771003) else (none)) else (if x773004 ≤ x1 then (if x771001.length < 3518437208883 then (if x771000.length < 2513169434916 then (impl_OutboxTick.l0 k x1 x20 x21 (wrap64 (x22 + 1)) (x771000 ++ [(⟨x773000, x773001, x773002, wrap64 (x773003 + 1), mn (wrap64 (x1 + (wrap64 (3 * (wrap64 (x773003 + 1)))))) 100000⟩ : S24)]) (x771001 ++ [(⟨x773000, x773001, x773002⟩ : S105)]) x771002 x771003) else (none)) else (none)) else (if x771000.length < 2513169434916 then (impl_OutboxTick.l0 k x1 x20 x21 (wrap64 (x22 + 1)) (x771000 ++ [(⟨x773000, x773001, x773002, x773003, x773004⟩ : S24)]) x771001 x771002 x771003) else (none)))
end
def impl_OutboxTick.f (k : Nat) (l0 : List (S24)) (a1 : Int) : Option ((List (S24)) × (List (S105)) × (List (S24)) × Int) := (impl_outboxCode.f k l0).bind fun t768 => (if t768 = 0 then ((impl_isDay.f a1).bind fun t769 => (if t769 = true then (impl_OutboxTick.l0 k a1 l0 (l0.length : Int) 0 ([] : List (S24)) ([] : List (S105)) ([] : List (S24)) 0) else (some (([] : List (S24)), ([] : List (S105)), ([] : List (S24)), 1)))) else (some (([] : List (S24)), ([] : List (S105)), ([] : List (S24)), t768)))
mutual
def impl_OutboxRun.j0 : Nat → List Int → Bool → ByteArray → Int → ByteArray → Int → Int → Option (List Int)
  | 0, _, _, _, _, _, _, _ => none
  | k + 1, x1, x18, x786000, x786001, x786002, x786003, x786004 => if x18 = true then (some ([] : List Int)) else (impl_OutboxRun.l0 k x1 x1 (x1.length : Int) 0 x786000 x786001 x786002 x786003 x786004)
def impl_OutboxRun.l0 : Nat → List Int → List Int → Int → Int → ByteArray → Int → ByteArray → Int → Int → Option (List Int)
  | 0, _, _, _, _, _, _, _, _, _ => none
  | k + 1, x1, x19, x20, x21, x786000, x786001, x786002, x786003, x786004 => if x21 < x20 then (if 0 ≤ x21 then (if x21 < (x19.length : Int) then ((impl_isDay.f (rd x19 x21)).bind fun t789 => (if t789 = true then (if x21 > 0 then (if 0 ≤ (wrap64 (x21 - 1)) then (if (wrap64 (x21 - 1)) < (x1.length : Int) then (if (rd x19 x21) ≤ (rd x1 (wrap64 (x21 - 1))) then (some ([] : List Int)) else (impl_OutboxRun.l0 k x1 x19 x20 (wrap64 (x21 + 1)) x786000 x786001 x786002 x786003 x786004)) else (none)) else (none)) else (impl_OutboxRun.l0 k x1 x19 x20 (wrap64 (x21 + 1)) x786000 x786001 x786002 x786003 x786004)) else (some ([] : List Int)))) else (none)) else (none)) else (impl_OutboxRun.l1 k (([] : List Int)) (([(⟨x786000, x786001, x786002, x786003, x786004⟩ : S24)] : List (S24))) x1 (x1.length : Int) 0)
def impl_OutboxRun.l1 : Nat → List Int → List (S24) → List Int → Int → Int → Option (List Int)
  | 0, _, _, _, _, _ => none
  | k + 1, x7, x8, x46, x47, x48 => if x48 < x47 then (if 0 ≤ x48 then (if x48 < (x46.length : Int) then ((impl_OutboxTick.f k x8 (rd x46 x48)).bind fun bt798 => (if (bt798.2.1.length : Int) > 0 then (if x7.length < 17592186044416 then (impl_OutboxRun.l1 k (x7 ++ [rd x46 x48]) bt798.1 x46 x47 (wrap64 (x48 + 1))) else (none)) else (impl_OutboxRun.l1 k x7 bt798.1 x46 x47 (wrap64 (x48 + 1))))) else (none)) else (none)) else (some x7)
end
def impl_OutboxRun.f (k : Nat) (a0_0 : ByteArray) (a0_1 : Int) (a0_2 : ByteArray) (a0_3 : Int) (a0_4 : Int) (l1 : List Int) : Option (List Int) := (impl_longList_int64.f l1).bind fun t786 => (if t786 = true then (impl_OutboxRun.j0 k l1 true a0_0 a0_1 a0_2 a0_3 a0_4) else ((impl_isOut.f k a0_0 a0_1 a0_2 a0_3 a0_4).bind fun t787 => (impl_OutboxRun.j0 k l1 (!t787) a0_0 a0_1 a0_2 a0_3 a0_4)))
def spec_l01Min.f (a0 : Int) (a1 : Int) : Option (Int) := if a0 < a1 then (some a0) else (some a1)
mutual
def spec_OutboxTick.j0 : Nat → List (S24) → Int → Bool → Option ((List (S24)) × (List (S105)) × (List (S24)) × Int)
  | 0, _, _, _ => none
  | k + 1, x0, x1, x19 => if x19 = true then ((spec_l12Wrong.f 1).bind fun bt825 => (some (bt825.1, bt825.2.1, bt825.2.2.1, bt825.2.2.2))) else (spec_OutboxTick.l0 k x0 x1 0 ([] : List (S24)) ([] : List (S105)) ([] : List (S24)) 0)
def spec_OutboxTick.l0 : Nat → List (S24) → Int → Int → List (S24) → List (S105) → List (S24) → Int → Option ((List (S24)) × (List (S105)) × (List (S24)) × Int)
  | 0, _, _, _, _, _, _, _ => none
  | k + 1, x0, x1, x6, x836000, x836001, x836002, x836003 => if x6 < (x0.length : Int) then (if 0 ≤ x6 then (if ((rd_T24 x0 x6).f4) > x1 then (if x836000.length < 2513169434916 then (spec_OutboxTick.l0 k x0 x1 (wrap64 (x6 + 1)) (x836000 ++ [(⟨(rd_T24 x0 x6).f0, (rd_T24 x0 x6).f1, (rd_T24 x0 x6).f2, (rd_T24 x0 x6).f3, (rd_T24 x0 x6).f4⟩ : S24)]) x836001 x836002 x836003) else (none)) else (if ((rd_T24 x0 x6).f3) = 5 then (if x836002.length < 2513169434916 then (spec_OutboxTick.l0 k x0 x1 (wrap64 (x6 + 1)) x836000 x836001 (x836002 ++ [(⟨(rd_T24 x0 x6).f0, (rd_T24 x0 x6).f1, (rd_T24 x0 x6).f2, (rd_T24 x0 x6).f3, (rd_T24 x0 x6).f4⟩ : S24)]) x836003) else (none)) else (if x836001.length < 3518437208883 then ((spec_l01Min.f 100000 (wrap64 (x1 + (wrap64 (3 * (wrap64 (((rd_T24 x0 x6).f3) + 1))))))).bind fun t847 => (if x836000.length < 2513169434916 then (spec_OutboxTick.l0 k x0 x1 (wrap64 (x6 + 1)) (x836000 ++ [(⟨(rd_T24 x0 x6).f0, (rd_T24 x0 x6).f1, (rd_T24 x0 x6).f2, wrap64 (((rd_T24 x0 x6).f3) + 1), t847⟩ : S24)]) (x836001 ++ [(⟨(rd_T24 x0 x6).f0, (rd_T24 x0 x6).f1, (rd_T24 x0 x6).f2⟩ : S105)]) x836002 x836003) else (none))) else (none)))) else (none)) else (some (x836000, x836001, x836002, x836003))
end
def spec_OutboxTick.f (k : Nat) (l0 : List (S24)) (a1 : Int) : Option ((List (S24)) × (List (S105)) × (List (S24)) × Int) := if (l0.length : Int) > 400 then ((spec_l12Wrong.f 2).bind fun bt813 => (some (bt813.1, bt813.2.1, bt813.2.2.1, bt813.2.2.2))) else ((spec_OutboxRight.f k l0).bind fun t823 => (if t823 = true then ((spec_l01Day.f a1).bind fun t824 => (spec_OutboxTick.j0 k l0 a1 (!t824))) else (spec_OutboxTick.j0 k l0 a1 true)))
mutual
def spec_OutboxRun.j0 : Nat → List Int → List Int → Bool → ByteArray → Int → ByteArray → Int → Int → Option (List Int)
  | 0, _, _, _, _, _, _, _, _ => none
  | k + 1, x1, x5, x18, x852000, x852001, x852002, x852003, x852004 => if x18 = true then (some x5) else (spec_OutboxRun.l0 k x1 x5 0 x852000 x852001 x852002 x852003 x852004)
def spec_OutboxRun.l0 : Nat → List Int → List Int → Int → ByteArray → Int → ByteArray → Int → Int → Option (List Int)
  | 0, _, _, _, _, _, _, _, _ => none
  | k + 1, x1, x5, x6, x852000, x852001, x852002, x852003, x852004 => if x6 < (x1.length : Int) then (if 0 ≤ x6 then ((spec_l01Day.f (rd x1 x6)).bind fun t857 => (if t857 = true then (if x6 > 0 then (if 0 ≤ (wrap64 (x6 - 1)) then (if (wrap64 (x6 - 1)) < (x1.length : Int) then (if (rd x1 x6) ≤ (rd x1 (wrap64 (x6 - 1))) then (some x5) else (spec_OutboxRun.l0 k x1 x5 (wrap64 (x6 + 1)) x852000 x852001 x852002 x852003 x852004)) else (none)) else (none)) else (spec_OutboxRun.l0 k x1 x5 (wrap64 (x6 + 1)) x852000 x852001 x852002 x852003 x852004)) else (some x5))) else (none)) else (spec_OutboxRun.l1 k x1 x5 (([(⟨x852000, x852001, x852002, x852003, x852004⟩ : S24)] : List (S24))) 0)
def spec_OutboxRun.l1 : Nat → List Int → List Int → List (S24) → Int → Option (List Int)
  | 0, _, _, _, _ => none
  | k + 1, x1, x5, x7, x8 => if x8 < (x1.length : Int) then (if 0 ≤ x8 then ((spec_OutboxTick.f k x7 (rd x1 x8)).bind fun bt864 => (if (bt864.2.1.length : Int) > 0 then (if x5.length < 17592186044416 then (spec_OutboxRun.l1 k x1 (x5 ++ [rd x1 x8]) bt864.1 (wrap64 (x8 + 1))) else (none)) else (spec_OutboxRun.l1 k x1 x5 bt864.1 (wrap64 (x8 + 1))))) else (none)) else (some x5)
end
def spec_OutboxRun.f (k : Nat) (a0_0 : ByteArray) (a0_1 : Int) (a0_2 : ByteArray) (a0_3 : Int) (a0_4 : Int) (l1 : List Int) : Option (List Int) := (some (([] : List Int) : List Int)).bind fun y852 => (if (l1.length : Int) > 400 then (spec_OutboxRun.j0 k l1 y852 true a0_0 a0_1 a0_2 a0_3 a0_4) else ((spec_l12Out.f k a0_0 a0_1 a0_2 a0_3 a0_4).bind fun t855 => (spec_OutboxRun.j0 k l1 y852 (!t855) a0_0 a0_1 a0_2 a0_3 a0_4)))
def spec_DrawOutboxTick.f (k : Nat) (l0 : List Int) : Option ((List (S24)) × Int) := (spec_l01Source.f k l0).bind fun bt879 => ((spec_l01Src_l12Outbox.f k bt879.1 bt879.2.1 bt879.2.2.1 bt879.2.2.2).bind fun bt884 => ((spec_l01Src_one.f bt879.1 bt884.2.1 bt884.2.2.1 bt884.2.2.2 12).bind fun bt890 => (if bt890.1 = true then ((some (([(-1), 100000, 100001] : List Int) : List Int)).bind fun y894 => ((spec_l01Src_n.f bt879.1 bt890.2.1 bt890.2.2.1 bt890.2.2.2 3).bind fun bt897 => (if 0 ≤ bt897.1 then (if bt897.1 < (y894.length : Int) then (some (bt884.1, rd y894 bt897.1)) else (none)) else (none)))) else ((spec_l01Src_n.f bt879.1 bt890.2.1 bt890.2.2.1 bt890.2.2.2 25).bind fun bt902 => (some (bt884.1, bt902.1))))))
mutual
def laws_FnResend.j0 : Nat → List Int → List Int → Bool → Option (Bool)
  | 0, _, _, _ => none
  | k + 1, x0, x1, x21 => if x21 = true then (some true) else ((spec_DrawOutboxRun.f k x0).bind fun bt906 => ((some (([] : List Int) : List Int)).bind fun y915 => (if y915.length + bt906.2.2.2.2.2.length < 17592186044416 then ((impl_OutboxRun.f k bt906.1 bt906.2.1 bt906.2.2.1 bt906.2.2.2.1 bt906.2.2.2.2.1 (y915 ++ bt906.2.2.2.2.2)).bind fun t921 => ((spec_OutboxRun.f k bt906.1 bt906.2.1 bt906.2.2.1 bt906.2.2.2.1 bt906.2.2.2.2.1 bt906.2.2.2.2.2).bind fun t924 => (if (t921.length : Int) = (t924.length : Int) then (laws_FnResend.j1 k x1 t921 (decide ((t921.length : Int) > 5)) bt906.1 bt906.2.1 bt906.2.2.1 bt906.2.2.2.1 bt906.2.2.2.2.1) else (laws_FnResend.j1 k x1 t921 true bt906.1 bt906.2.1 bt906.2.2.1 bt906.2.2.2.1 bt906.2.2.2.2.1)))) else (none))))
def laws_FnResend.j1 : Nat → List Int → List Int → Bool → ByteArray → Int → ByteArray → Int → Int → Option (Bool)
  | 0, _, _, _, _, _, _, _, _ => none
  | k + 1, x1, x7, x44, x915000, x915001, x915002, x915003, x915004 => if x44 = true then (some false) else (laws_FnResend.l0 k x1 x7 0 x915000 x915001 x915002 x915003 x915004)
def laws_FnResend.l0 : Nat → List Int → List Int → Int → ByteArray → Int → ByteArray → Int → Int → Option (Bool)
  | 0, _, _, _, _, _, _, _, _ => none
  | k + 1, x1, x7, x9, x915000, x915001, x915002, x915003, x915004 => if x9 < (x7.length : Int) then (if 0 ≤ x9 then (if (rd x7 x9) < x915004 then (some false) else (if x9 > 0 then (if 0 ≤ (wrap64 (x9 - 1)) then (if (wrap64 (x9 - 1)) < (x7.length : Int) then (if (wrap64 ((rd x7 x9) - (rd x7 (wrap64 (x9 - 1))))) < (wrap64 (3 * (wrap64 (x915003 + x9)))) then (some false) else (laws_FnResend.l0 k x1 x7 (wrap64 (x9 + 1)) x915000 x915001 x915002 x915003 x915004)) else (none)) else (none)) else (laws_FnResend.l0 k x1 x7 (wrap64 (x9 + 1)) x915000 x915001 x915002 x915003 x915004))) else (none)) else ((spec_DrawOutboxTick.f k x1).bind fun bt930 => ((spec_OutboxTick.f k bt930.1 bt930.2).bind fun bt934 => (if bt934.2.2.2 = 0 then ((some (([] : List (S24)) : List (S24))).bind fun y944 => (if y944.length + bt930.1.length < 2513169434916 then ((impl_OutboxTick.f k (y944 ++ bt930.1) bt930.2).bind fun bt950 => (if bt950.2.2.2 = 0 then (laws_FnResend.j3 k bt930.2 ((wrap64 ((bt950.1.length : Int) + (bt950.2.2.1.length : Int))) != (bt930.1.length : Int)) bt950.1 bt950.2.1 bt950.2.2.1 bt950.2.2.2) else (laws_FnResend.j3 k bt930.2 true bt950.1 bt950.2.1 bt950.2.2.1 bt950.2.2.2))) else (none))) else (some true))))
def laws_FnResend.j3 : Nat → Int → Bool → List (S24) → List (S105) → List (S24) → Int → Option (Bool)
  | 0, _, _, _, _, _, _ => none
  | k + 1, x11, x109, x961000, x961001, x961002, x961003 => if x109 = true then (some false) else (laws_FnResend.l1 k x11 0 x961000 x961001 x961002 x961003)
def laws_FnResend.l1 : Nat → Int → Int → List (S24) → List (S105) → List (S24) → Int → Option (Bool)
  | 0, _, _, _, _, _, _ => none
  | k + 1, x11, x13, x961000, x961001, x961002, x961003 => if x13 < (x961002.length : Int) then (if 0 ≤ x13 then (if ((rd_T24 x961002 x13).f3) = 5 then (if ((rd_T24 x961002 x13).f4) > x11 then (some false) else (laws_FnResend.l1 k x11 (wrap64 (x13 + 1)) x961000 x961001 x961002 x961003)) else (some false)) else (none)) else ((some (([] : List (S24)) : List (S24))).bind fun y963 => (if y963.length + x961000.length < 2513169434916 then ((impl_OutboxRight.f k (y963 ++ x961000)).bind fun t969 => (some t969)) else (none)))
end
def laws_FnResend.f (k : Nat) (l0 : List Int) (l1 : List Int) : Option (Bool) := if (l0.length : Int) > 1048576 then (laws_FnResend.j0 k l0 l1 true) else (laws_FnResend.j0 k l0 l1 (decide ((l1.length : Int) > 1048576)))
end Go.Proofs.Ytefmkmhjbfpelaa.QO
namespace Go.Proofs.Ytefmkmhjbfpelaa.QO
open Go.RowKit Go.Proofs.YtefmkmhjbfpelaaW.PrintWords Go.Proofs.YtefmkmhjbfpelaaW.PrintLast Go.Proofs.YtefmkmhjbfpelaaW.PrintMore
attribute [local go_sem] max2_int min2_int max_two min_two max_three min_three max_four min_four   -- for this text's walks alone
set_option linter.unusedVariables false
set_option linter.unusedSimpArgs false
set_option maxHeartbeats 8000000 in
set_option maxRecDepth 100000 in
theorem impl_longText_1.calls (a0 : ByteArray) (r : Bool) (w : World) (h : impl_longText_1.f a0 = some r) :
    Calls Try.prog 136 #[.string a0] w fun e w' => e = .returned (.bool r) ∧ Drawn0 w w' := by
  have H : (some (decide ((a0.size : Int) > 20000))) = some r := h; clear h; obtain rfl := Option.some.inj H
  go_enter Try.func136, Try.ntmps136
  go_wp2
  go_ret
  exact ⟨fg, by repeat (first | exact Drawn0.refl _ | apply Drawn0.step)⟩
set_option maxHeartbeats 8000000 in
set_option maxRecDepth 100000 in
theorem slices_IndexFunc_string_string_impl_longText_1.calls (k : Nat) (A0 : Option Addr) (c0 : Nat) (l0 : List ByteArray)  (r : Int) (w : World) (hr0 : Kd.C Kd.string w A0 l0.length l0) (hc0 : l0.length ≤ c0) (h : slices_IndexFunc_string_string_impl_longText_1.f k l0 = some r) :
    Calls Try.prog 160 #[.slice A0 l0.length c0, .func (.func 136) #[] #[]] w fun e w' => e = .returned (.int .i64 r) ∧ Drawn0 w w' := by
  have HR0 := Aside0.mk hr0; have HC0 := Aside0.mk hc0; clear hr0 hc0; have H : (slices_IndexFunc_string_string_impl_longText_1.l0 k l0 (l0.length : Int) 0) = some r := h; clear h; have H' := Aside0.mk H; clear H
  go_enter Try.func160, Try.ntmps160
  go_wp2
  go_loopg [8] k (fun kq v8 w' => ∃ (x8_1 : Int), v8 = .int .i64 x8_1 ∧ Aside0 (slices_IndexFunc_string_string_impl_longText_1.l0 kq l0 (l0.length : Int) x8_1 = some r) ∧ Aside0 (kq ≤ k) ∧ Drawn0 w w')
  case atStart => exact ⟨(0), fg, H', ⟨Nat.le_refl _⟩, by repeat (first | exact Drawn0.refl _ | apply Drawn0.step)⟩
  case round =>
    clear H'
    try clear c1
    try clear p2
    obtain ⟨x8_1, rfl, HA, HK1, ⟨m1, rfl⟩⟩ := hrel
    cases gk with
    | zero => exact absurd HA.out (by simp [slices_IndexFunc_string_string_impl_longText_1.l0])
    | succ k1 =>
      have H := HA.out; clear HA; simp only [slices_IndexFunc_string_string_impl_longText_1.l0] at H
      by_cases c3 : x8_1 < (l0.length : Int)
      · rw [if_pos c3] at H; have c3b0 : decide (x8_1 < (l0.length : Int)) = true := decide_eq_true c3; clear c3
        by_cases c4 : 0 ≤ x8_1
        · rw [if_pos c4] at H; have c4b0 : decide (0 ≤ x8_1) = true := decide_eq_true c4; clear c4
          by_cases c5 : x8_1 < (l0.length : Int)
          · rw [if_pos c5] at H; have c5b0 : decide (x8_1 < (l0.length : Int)) = true := decide_eq_true c5; clear c5; replace H := Option.bind_eq_some_iff.mp H; obtain ⟨t175, A60, H⟩ := H; replace H : (if t175 = true then (some x8_1) else (slices_IndexFunc_string_string_impl_longText_1.l0 k1 l0 (l0.length : Int) (wrap64 (x8_1 + 1)))) = some r := H; have A6 := Aside0.mk A60; clear A60; have p174 : 0 ≤ (x8_1 : Int) := oa; have q174 : x8_1 < (l0.length : Int) := oa; obtain ⟨ad174, e174, hx174_0⟩ := Kd.at_string HR0.out x8_1 p174 q174
            cases e174
            replace p174 := eq_true p174; replace q174 := eq_true q174
            try go_wp2_with (fail)
            go_at_call 136; (with_reducible refine (impl_longText_1.calls (rdOf ByteArray.empty l0 x8_1) t175 _ A6.out).mono ?_); rintro e w' ⟨rfl, ⟨nd, rfl⟩⟩
            by_cases c7 : t175 = true
            · subst c7
              have H1 : (some x8_1) = some r := by rw [if_pos rfl] at H; exact H
              clear H; have H := H1; clear H1; obtain rfl := Option.some.inj H
              go_wp2
              go_ret
              exact ⟨fg, by repeat (first | exact Drawn0.refl _ | apply Drawn0.step)⟩
            · replace c7 := Bool.eq_false_iff.mpr c7; subst c7
              have H1 : (slices_IndexFunc_string_string_impl_longText_1.l0 k1 l0 (l0.length : Int) (wrap64 (x8_1 + 1))) = some r := by rw [if_neg (show ¬ (false = true) by decide)] at H; exact H
              clear H; have H := H1; clear H1; have H' := Aside0.mk H; clear H
              go_wp2
              go_roundg k1
              case measure => have := HK1.out; omega
              case rel => exact ⟨(wrap64 (x8_1 + 1)), fg, H', ⟨by have := HK1.out; omega⟩, by repeat (first | exact Drawn0.refl _ | apply Drawn0.step)⟩
          · rw [if_neg c5] at H
            exact absurd H (by simp)
        · rw [if_neg c4] at H
          exact absurd H (by simp)
      · rw [if_neg c3] at H; have c3b0 : decide (x8_1 < (l0.length : Int)) = false := decide_eq_false c3; clear c3; obtain rfl := Option.some.inj H
        go_wp2
        go_ret
        exact ⟨fg, by repeat (first | exact Drawn0.refl _ | apply Drawn0.step)⟩
set_option maxHeartbeats 8000000 in
set_option maxRecDepth 100000 in
theorem slices_ContainsFunc_string_string_impl_longText_1.calls (k : Nat) (A0 : Option Addr) (c0 : Nat) (l0 : List ByteArray)  (r : Bool) (w : World) (hr0 : Kd.C Kd.string w A0 l0.length l0) (hc0 : l0.length ≤ c0) (h : slices_ContainsFunc_string_string_impl_longText_1.f k l0 = some r) :
    Calls Try.prog 135 #[.slice A0 l0.length c0, .func (.func 136) #[] #[]] w fun e w' => e = .returned (.bool r) ∧ Drawn0 w w' := by
  have HR0 := Aside0.mk hr0; have HC0 := Aside0.mk hc0; clear hr0 hc0; have H : ((slices_IndexFunc_string_string_impl_longText_1.f k l0).bind fun t176 => (some (decide (t176 ≥ 0)))) = some r := h; clear h; replace H := Option.bind_eq_some_iff.mp H; obtain ⟨t176, A30, H⟩ := H; replace H : (some (decide (t176 ≥ 0))) = some r := H; have A3 := Aside0.mk A30; clear A30; obtain rfl := Option.some.inj H
  go_enter Try.func135, Try.ntmps135
  go_wp2_with (first | ((first | ((with_reducible refine gate_callee (f := 160) rfl ?_); refine goesL_ (some 7) rfl rfl Try.func160 (by kernel_rfl) rfl #[.slice A0 l0.length c0, .func (.func 136) #[] #[]] rfl (by (try simp only [List.map_toArray, List.map_cons, List.map_nil]); first | done | rfl | (simp only [List.length_drop, List.length_take]; rfl)) ?_; (with_reducible refine (slices_IndexFunc_string_string_impl_longText_1.calls k _ _ l0  t176 _ ?side1 HC0.out A3.out).mono ?_); (case side1 => repeat (first | exact HR0.out | (with_reducible refine Kd.C_alloc ?_ _) | (with_reducible refine Kd.C_drewN ?_ _) | (with_reducible refine Kd.C_drew ?_))); rintro e w' ⟨rfl, ⟨nd, rfl⟩⟩; refine ⟨_, rfl, ?_⟩) | (go_at_call 160; (with_reducible refine (slices_IndexFunc_string_string_impl_longText_1.calls k _ _ l0  t176 _ ?side1 HC0.out A3.out).mono ?_); (case side1 => repeat (first | exact HR0.out | (with_reducible refine Kd.C_alloc ?_ _) | (with_reducible refine Kd.C_drewN ?_ _) | (with_reducible refine Kd.C_drew ?_))); rintro e w' ⟨rfl, ⟨nd, rfl⟩⟩))))
  go_ret
  exact ⟨fg, by repeat (first | exact Drawn0.refl _ | apply Drawn0.step)⟩
set_option maxHeartbeats 8000000 in
set_option maxRecDepth 100000 in
theorem impl_longText.calls (k : Nat) (A0 : Option Addr) (c0 : Nat) (l0 : List ByteArray) (r : Bool) (w : World) (hr0 : Kd.C Kd.string w A0 l0.length l0) (hc0 : l0.length ≤ c0) (h : impl_longText.f k l0 = some r) :
    Calls Try.prog 85 #[.slice A0 l0.length c0] w fun e w' => e = .returned (.bool r) ∧ Drawn0 w w' := by
  have HR0 := Aside0.mk hr0; have HC0 := Aside0.mk hc0; clear hr0 hc0; have H : ((slices_ContainsFunc_string_string_impl_longText_1.f k l0).bind fun t177 => (some t177)) = some r := h; clear h; replace H := Option.bind_eq_some_iff.mp H; obtain ⟨t177, A20, H⟩ := H; replace H : (some t177) = some r := H; have A2 := Aside0.mk A20; clear A20; obtain rfl := Option.some.inj H
  go_enter Try.func85, Try.ntmps85
  go_wp2_with (first | ((first | ((with_reducible refine gate_callee (f := 135) rfl ?_); refine goesL_ (some 4) rfl rfl Try.func135 (by kernel_rfl) rfl #[.slice A0 l0.length c0, .func (.func 136) #[] #[]] rfl (by (try simp only [List.map_toArray, List.map_cons, List.map_nil]); first | done | rfl | (simp only [List.length_drop, List.length_take]; rfl)) ?_; (with_reducible refine (slices_ContainsFunc_string_string_impl_longText_1.calls k _ _ l0  t177 _ ?side1 HC0.out A2.out).mono ?_); (case side1 => repeat (first | exact HR0.out | (with_reducible refine Kd.C_alloc ?_ _) | (with_reducible refine Kd.C_drewN ?_ _) | (with_reducible refine Kd.C_drew ?_))); rintro e w' ⟨rfl, ⟨nd, rfl⟩⟩; refine ⟨_, rfl, ?_⟩) | (go_at_call 135; (with_reducible refine (slices_ContainsFunc_string_string_impl_longText_1.calls k _ _ l0  t177 _ ?side1 HC0.out A2.out).mono ?_); (case side1 => repeat (first | exact HR0.out | (with_reducible refine Kd.C_alloc ?_ _) | (with_reducible refine Kd.C_drewN ?_ _) | (with_reducible refine Kd.C_drew ?_))); rintro e w' ⟨rfl, ⟨nd, rfl⟩⟩))))
  go_ret
  exact ⟨fg, by repeat (first | exact Drawn0.refl _ | apply Drawn0.step)⟩
set_option maxHeartbeats 8000000 in
set_option maxRecDepth 100000 in
theorem impl_Out_129.calls (A0 : Option Addr) (c0 : Nat) (l0 : List (S24)) (r : Bool) (w : World) (hr0 : Kd.C k24 w A0 l0.length l0) (hc0 : l0.length ≤ c0) (h : impl_Out_129.f l0 = some r) :
    Calls Try.prog 129 #[.slice A0 l0.length c0] w fun e w' => e = .returned (.bool r) ∧ Drawn0 w w' := by
  have HR0 := Aside0.mk hr0; have HC0 := Aside0.mk hc0; clear hr0 hc0; have H : (some (decide ((l0.length : Int) > 400))) = some r := h; clear h; obtain rfl := Option.some.inj H
  go_enter Try.func129, Try.ntmps129
  go_wp2
  go_ret
  exact ⟨fg, by repeat (first | exact Drawn0.refl _ | apply Drawn0.step)⟩
set_option maxHeartbeats 8000000 in
set_option maxRecDepth 100000 in
theorem impl_isGreat.calls (a0 : Int) (r : Bool) (w : World) (h : impl_isGreat.f a0 = some r) :
    Calls Try.prog 154 #[.int .u8 a0] w fun e w' => e = .returned (.bool r) ∧ Drawn0 w w' := by
  have H : (if a0 ≥ 65 then (some (decide (a0 ≤ 90))) else (some false)) = some r := h; clear h
  by_cases c2 : a0 ≥ 65
  · rw [if_pos c2] at H; have c2b0 : decide (65 ≤ a0) = true := decide_eq_true c2; clear c2; obtain rfl := Option.some.inj H
    go_enter Try.func154, Try.ntmps154
    go_wp2
    go_ret
    exact ⟨fg, by repeat (first | exact Drawn0.refl _ | apply Drawn0.step)⟩
  · rw [if_neg c2] at H; have c2b0 : decide (65 ≤ a0) = false := decide_eq_false c2; clear c2; obtain rfl := Option.some.inj H
    go_enter Try.func154, Try.ntmps154
    go_wp2
    go_ret
    exact ⟨fg, by repeat (first | exact Drawn0.refl _ | apply Drawn0.step)⟩
set_option maxHeartbeats 8000000 in
set_option maxRecDepth 100000 in
theorem impl_isDigit.calls (a0 : Int) (r : Bool) (w : World) (h : impl_isDigit.f a0 = some r) :
    Calls Try.prog 155 #[.int .u8 a0] w fun e w' => e = .returned (.bool r) ∧ Drawn0 w w' := by
  have H : (if a0 ≥ 48 then (some (decide (a0 ≤ 57))) else (some false)) = some r := h; clear h
  by_cases c2 : a0 ≥ 48
  · rw [if_pos c2] at H; have c2b0 : decide (48 ≤ a0) = true := decide_eq_true c2; clear c2; obtain rfl := Option.some.inj H
    go_enter Try.func155, Try.ntmps155
    go_wp2
    go_ret
    exact ⟨fg, by repeat (first | exact Drawn0.refl _ | apply Drawn0.step)⟩
  · rw [if_neg c2] at H; have c2b0 : decide (48 ≤ a0) = false := decide_eq_false c2; clear c2; obtain rfl := Option.some.inj H
    go_enter Try.func155, Try.ntmps155
    go_wp2
    go_ret
    exact ⟨fg, by repeat (first | exact Drawn0.refl _ | apply Drawn0.step)⟩
set_option maxHeartbeats 8000000 in
set_option maxRecDepth 100000 in
theorem impl_within.calls (a0 : Int) (a1 : Int) (a2 : Int) (r : Bool) (w : World) (h : impl_within.f a0 a1 a2 = some r) :
    Calls Try.prog 123 #[.int .i64 a0, .int .i64 a1, .int .i64 a2] w fun e w' => e = .returned (.bool r) ∧ Drawn0 w w' := by
  have H : (if a1 ≤ a0 then (some (decide (a0 ≤ a2))) else (some false)) = some r := h; clear h
  by_cases c4 : a1 ≤ a0
  · rw [if_pos c4] at H; have c4b0 : decide (a1 ≤ a0) = true := decide_eq_true c4; clear c4; obtain rfl := Option.some.inj H
    go_enter Try.func123, Try.ntmps123
    go_wp2
    go_ret
    exact ⟨fg, by repeat (first | exact Drawn0.refl _ | apply Drawn0.step)⟩
  · rw [if_neg c4] at H; have c4b0 : decide (a1 ≤ a0) = false := decide_eq_false c4; clear c4; obtain rfl := Option.some.inj H
    go_enter Try.func123, Try.ntmps123
    go_wp2
    go_ret
    exact ⟨fg, by repeat (first | exact Drawn0.refl _ | apply Drawn0.step)⟩
end Go.Proofs.Ytefmkmhjbfpelaa.QO
