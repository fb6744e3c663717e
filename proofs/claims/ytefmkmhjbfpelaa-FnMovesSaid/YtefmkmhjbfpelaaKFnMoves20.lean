-- Merged by a program of this session (wip/tool/pack.py) out of its own texts for this claim.
import Derived.Laws.Bits64
import Derived.Lib.Bytealg
import Derived.Test.YtefmkmhjbfpelaaKFnMoves0
import Derived.Test.YtefmkmhjbfpelaaKFnMoves1
import Derived.Test.YtefmkmhjbfpelaaKFnMoves2
import Derived.Test.YtefmkmhjbfpelaaKFnMoves3
import Derived.Test.YtefmkmhjbfpelaaKFnMoves12
import Derived.Test.YtefmkmhjbfpelaaKFnMoves18
import Derived.Test.YtefmkmhjbfpelaaKFnMoves19
namespace Go.Proofs.Ytefmkmhjbfpelaa.QM
open Go.RowKit Go.Proofs.YtefmkmhjbfpelaaW.PrintWords Go.Proofs.Ytefmkmhjbfpelaa.Ev0
theorem u64_nonneg' {n : Int} (h0 : 0 ≤ n) (h1 : n ≤ 18446744073709551615) : IntKind.u64.wrap n = n := by rw [IntKind.wrap_u64]; omega
def Pl (b : List Int) (t : Int) : Prop := 0 ≤ t ∧ t ≤ (b.length : Int)
theorem tm_lt (x a : Int) (h1 : 1 < a) (h2 : a ≤ 9223372036854775807) : 0 ≤ wrap64 (Int.tmod (IntKind.u64.wrap x) (IntKind.u64.wrap a)) ∧ wrap64 (Int.tmod (IntKind.u64.wrap x) (IntKind.u64.wrap a)) < a := by
  rw [u64_nonneg' (n := a) (by omega) (by omega)]
  have hx : 0 ≤ IntKind.u64.wrap x := by rw [IntKind.wrap_u64]; omega
  have e : Int.tmod (IntKind.u64.wrap x) a = IntKind.u64.wrap x % a := Int.tmod_eq_emod_of_nonneg hx
  have h3 := Int.emod_nonneg (IntKind.u64.wrap x) (show a ≠ 0 by omega)
  have h4 := Int.emod_lt_of_pos (IntKind.u64.wrap x) (show 0 < a by omega)
  rw [e, w64 (by omega) (by omega)]
  exact ⟨h3, h4⟩
theorem n_ev (b : List Int) (hb : (b.length : Int) ≤ 1048576) (t m s a : Int) (ht : Pl b t) (ha : a ≤ 9223372036854775807) :
    ∃ r t' m', spec_l01Src_n.f b t m s a = some (r, t', m', s) ∧ Pl b t' ∧ 0 ≤ r ∧ (r = 0 ∨ r < a) := by
  obtain ⟨h0, h1⟩ := ht
  unfold spec_l01Src_n.f spec_l01Src_n_res.f spec_l01Src_n_resZ.f
  by_cases g1 : a ≤ 1
  · rw [if_pos g1]
    exact ⟨_, _, _, rfl, ⟨h0, h1⟩, Int.le_refl _, .inl rfl⟩
  · rw [if_neg g1]
    have hz : ¬ IntKind.u64.wrap a = 0 := by rw [u64_nonneg' (n := a) (by omega) (by omega)]; omega
    rw [if_neg hz]
    by_cases g2 : t < (b.length : Int)
    · rw [if_pos g2, if_pos h0, w64 (x := t + 1) (by omega) (by omega)]
      have := tm_lt (IntKind.u64.wrap (rd b t) + spec_l01Src_n_mix.f m / 1048576) a (by omega) ha
      exact ⟨_, _, _, rfl, ⟨by omega, by omega⟩, this.1, .inr this.2⟩
    · rw [if_neg g2]
      have := tm_lt (spec_l01Src_n_mix.f m / 1048576) a (by omega) ha
      exact ⟨_, _, _, rfl, ⟨h0, h1⟩, this.1, .inr this.2⟩
theorem pick_ev (b : List Int) (hb : (b.length : Int) ≤ 1048576) (t m s : Int) (ht : Pl b t) (l : List ByteArray) (hl0 : 0 < l.length) (hl : l.length ≤ 1000) :
    ∃ x t' m', spec_l01Src_pick.f b t m s l = some (x, t', m', s) ∧ Pl b t' ∧ x ∈ l := by
  obtain ⟨r, t', m', h, hp, h0, h1⟩ := n_ev b hb t m s (l.length : Int) ht (by omega)
  unfold spec_l01Src_pick.f
  rw [h]
  simp only [Option.bind_some]
  have hr : r.toNat < l.length := by omega
  rw [if_pos h0, if_pos (show r < (l.length : Int) by omega)]
  refine ⟨_, _, _, rfl, hp, ?_⟩
  unfold rdOf
  rw [getD_at l _ _ hr]
  exact List.getElem_mem hr
theorem draw_one_ev (b : List Int) (hb : (b.length : Int) ≤ 1048576) (t m s a : Int) (ht : Pl b t) (ha : a ≤ 9223372036854775807) :
    ∃ (r : Bool) (t' m' : Int), spec_l01Src_one.f b t m s a = some (r, t', m', s) ∧ Pl b t' := by
  obtain ⟨r, t', m', h, hp, _, _⟩ := n_ev b hb t m s a ht ha
  unfold spec_l01Src_one.f
  rw [h]
  exact ⟨_, _, _, rfl, hp⟩
theorem src_l (l : List Int) (hl : (l.length : Int) ≤ 1048576) (d : Nat) : ∀ (i m : Int), 0 ≤ i → 64 - i ≤ d → ∃ m' sz, Evt (fun k => spec_l01Source.l0 k l i l 0 m 0) (l, 0, m', sz) ∧ 0 ≤ sz ∧ sz ≤ 12 := by
  have fin : ∀ m : Int, ∃ m' sz, Evt (fun _ => if wrap64 ((l.length : Int) / 20) > 12 then some (l, (0 : Int), m, (12 : Int)) else some (l, 0, m, wrap64 ((l.length : Int) / 20))) (l, 0, m', sz) ∧ 0 ≤ sz ∧ sz ≤ 12 := by
    intro m
    have hw : wrap64 ((l.length : Int) / 20) = (l.length : Int) / 20 := w64 (by omega) (by omega)
    rw [hw]
    by_cases h : (l.length : Int) / 20 > 12
    · rw [if_pos h]
      exact ⟨m, 12, Evt.pure _, by decide, by decide⟩
    · rw [if_neg h]
      exact ⟨m, _, Evt.pure _, by omega, by omega⟩
  induction d with
  | zero =>
    intro i m h0 hd
    obtain ⟨m', sz, h, h2⟩ := fin m
    refine ⟨m', sz, Evt.succ ?_, h2⟩
    simp only [spec_l01Source.l0]
    exact Evt.ite (fun _ => Evt.neg (by omega) h) (fun _ => h)
  | succ d ih =>
    intro i m h0 hd
    by_cases g1 : i < (l.length : Int)
    · by_cases g2 : i < 64
      · have hw : wrap64 (i + 1) = i + 1 := w64 (by omega) (by omega)
        obtain ⟨m', sz, h, h2⟩ := ih (i + 1) (IntKind.u64.wrap ((Go.bits .xor .u64 m (IntKind.u64.wrap (rd l i))) * 1099511628211)) (by omega) (by omega)
        refine ⟨m', sz, Evt.succ ?_, h2⟩
        simp only [spec_l01Source.l0, hw]
        exact Evt.pos g1 (Evt.pos g2 (Evt.pos h0 h))
      · obtain ⟨m', sz, h, h2⟩ := fin m
        refine ⟨m', sz, Evt.succ ?_, h2⟩
        simp only [spec_l01Source.l0]
        exact Evt.pos g1 (Evt.neg g2 h)
    · obtain ⟨m', sz, h, h2⟩ := fin m
      refine ⟨m', sz, Evt.succ ?_, h2⟩
      simp only [spec_l01Source.l0]
      exact Evt.neg g1 h
theorem src_ev (l : List Int) (hl : (l.length : Int) ≤ 1048576) : ∃ m sz, Evt (fun k => spec_l01Source.f k l) (l, 0, m, sz) ∧ 0 ≤ sz ∧ sz ≤ 12 := src_l l hl 64 0 _ (Int.le_refl _) (by omega)
end Go.Proofs.Ytefmkmhjbfpelaa.QM
namespace Go.Proofs.Ytefmkmhjbfpelaa.QM
open Go.RowKit Go.Proofs.YtefmkmhjbfpelaaW.PrintWords Go.Proofs.Ytefmkmhjbfpelaa.Ev0
abbrev OL := ByteArray × ByteArray × Int × ByteArray × Int × Int × Int × Int
def smallL (x : OL) : Prop := (x.1.size : Int) ≤ 1000 ∧ (x.2.1.size : Int) ≤ 1000 ∧ (x.2.2.2.1.size : Int) ≤ 1000
theorem line_j (b : List Int) (hb : (b.length : Int) ≤ 1048576) (t m s : Int) (ht : Pl b t) (p q : ByteArray) (n : Int) (i : ByteArray) (o u g c : Int) (h : smallL (p, q, n, i, o, u, g, c)) :
    ∃ (p' q' : ByteArray) (n' : Int) (i' : ByteArray) (o' u' g' c' t' m' : Int), Evt (fun k => spec_l01Src_l09Line.j0 k b t m s p q n i o u g c) (p', q', n', i', o', u', g', c', t', m', s) ∧ Pl b t' ∧ smallL (p', q', n', i', o', u', g', c') := by
  obtain ⟨h1, h2, h3⟩ := h
  obtain ⟨r, t1, m1, e1, ht1⟩ := draw_one_ev b hb t m s 25 ht (by decide)
  by_cases hr : r = true
  · obtain ⟨d, t2, m2, e2, ht2, hd0, hd1⟩ := n_ev b hb t1 m1 s 5 ht1 (by decide)
    by_cases d0 : d = 0
    · refine ⟨p, q, n, i, o, u, g, wrap64 (c + o), t2, m2, Evt.succ ?_, ht2, ?_⟩
      · simp only [spec_l01Src_l09Line.j0, e1, Option.bind_some, if_pos hr, e2, if_pos d0]
        exact Evt.pure _
      · exact ⟨h1, h2, h3⟩
    · by_cases d1 : d = 1
      · refine ⟨p, q, n, i, o, u, wrap64 (u + 1), c, t2, m2, Evt.succ ?_, ht2, ?_⟩
        · simp only [spec_l01Src_l09Line.j0, e1, Option.bind_some, if_pos hr, e2, if_neg d0, if_pos d1]
          exact Evt.pure _
        · exact ⟨h1, h2, h3⟩
      · by_cases d2 : d = 2
        · obtain ⟨z, t3, m3, e3, ht3, _, _⟩ := n_ev b hb t2 m2 s 2 ht2 (by decide)
          refine ⟨p, q, wrap64 (1000 * z), i, o, u, g, c, t3, m3, Evt.succ ?_, ht3, ?_⟩
          · simp only [spec_l01Src_l09Line.j0, e1, Option.bind_some, if_pos hr, e2, if_neg d0, if_neg d1, if_pos d2, e3]
            exact Evt.pure _
          · exact ⟨h1, h2, h3⟩
        · by_cases d3 : d = 3
          · obtain ⟨z, t3, m3, e3, ht3, z0, z1⟩ := n_ev b hb t2 m2 s 3 ht2 (by decide)
            refine ⟨p, q, n, i, rd [0, 1000000, 1000001] z, u, g, c, t3, m3, Evt.succ ?_, ht3, ?_⟩
            · simp only [spec_l01Src_l09Line.j0, e1, Option.bind_some, if_pos hr, e2, if_neg d0, if_neg d1, if_neg d2, if_pos d3, e3]
              exact Evt.pos z0 (Evt.pos (by simp; omega) (Evt.pure _))
            · exact ⟨h1, h2, h3⟩
          · obtain ⟨x, t3, m3, e3, ht3, hx⟩ := pick_ev b hb t2 m2 s ht2 [(⟨#[]⟩ : ByteArray), (⟨#[97]⟩ : ByteArray)] (by decide) (by decide)
            refine ⟨p, q, n, x, o, u, g, c, t3, m3, Evt.succ ?_, ht3, ?_⟩
            · simp only [spec_l01Src_l09Line.j0, e1, Option.bind_some, if_pos hr, e2, if_neg d0, if_neg d1, if_neg d2, if_neg d3, e3]
              exact Evt.pure _
            · refine ⟨h1, h2, ?_⟩
              simp only [List.mem_cons, List.not_mem_nil, or_false] at hx
              rcases hx with rfl | rfl
              · show (((⟨#[]⟩ : ByteArray).size : Int)) ≤ 1000; decide
              · show (((⟨#[97]⟩ : ByteArray).size : Int)) ≤ 1000; decide
  · refine ⟨p, q, n, i, o, u, g, c, t1, m1, Evt.succ ?_, ht1, ?_⟩
    · simp only [spec_l01Src_l09Line.j0, e1, Option.bind_some, if_neg hr]
      exact Evt.pure _
    · exact ⟨h1, h2, h3⟩
theorem w64_hi (x : Int) : wrap64 x ≤ 9223372036854775807 := by
  unfold wrap64
  omega
theorem line_ev (b : List Int) (hb : (b.length : Int) ≤ 1048576) (t m s : Int) (ht : Pl b t) :
    ∃ (p' q' : ByteArray) (n' : Int) (i' : ByteArray) (o' u' g' c' t' m' : Int), Evt (fun k => spec_l01Src_l09Line.f k b t m s) (p', q', n', i', o', u', g', c', t', m', s) ∧ Pl b t' ∧ smallL (p', q', n', i', o', u', g', c') := by
  obtain ⟨x1, t1, m1, e1, h1, g1⟩ := pick_ev b hb t m s ht [(⟨#[65, 67, 77, 69]⟩ : ByteArray), (⟨#[66, 79, 76, 84]⟩ : ByteArray), (⟨#[67, 45, 49]⟩ : ByteArray)] (by decide) (by decide)
  obtain ⟨x2, t2, m2, e2, h2, g2⟩ := pick_ev b hb t1 m1 s h1 [(⟨#[80, 79, 45, 49]⟩ : ByteArray), (⟨#[80, 79, 45, 50]⟩ : ByteArray), (⟨#[80, 79, 45, 51]⟩ : ByteArray)] (by decide) (by decide)
  obtain ⟨x3, t3, m3, e3, h3, _, _⟩ := n_ev b hb t2 m2 s 4 h2 (by decide)
  obtain ⟨x4, t4, m4, e4, h4, g4⟩ := pick_ev b hb t3 m3 s h3 [(⟨#[66, 79, 76, 84]⟩ : ByteArray), (⟨#[78, 85, 84]⟩ : ByteArray), (⟨#[71, 69, 65, 82]⟩ : ByteArray), (⟨#[67, 65, 77]⟩ : ByteArray)] (by decide) (by decide)
  obtain ⟨x5, t5, m5, e5, h5, _, _⟩ := n_ev b hb t4 m4 s 40 h4 (by decide)
  obtain ⟨x6, t6, m6, e6, h6, _, _⟩ := n_ev b hb t5 m5 s (wrap64 ((wrap64 (1 + x5)) + 1)) h5 (w64_hi _)
  obtain ⟨x7, t7, m7, e7, h7, _, _⟩ := n_ev b hb t6 m6 s (wrap64 (x6 + 1)) h6 (w64_hi _)
  obtain ⟨x8, t8, m8, e8, h8, _, _⟩ := n_ev b hb t7 m7 s (wrap64 ((wrap64 ((wrap64 (1 + x5)) - x6)) + 1)) h7 (w64_hi _)
  obtain ⟨r, t9, m9, e9, h9⟩ := draw_one_ev b hb t8 m8 s 3 h8 (by decide)
  have s1 : (x1.size : Int) ≤ 1000 := by
    simp only [List.mem_cons, List.not_mem_nil, or_false] at g1
    rcases g1 with rfl | rfl | rfl <;> decide
  have s2 : (x2.size : Int) ≤ 1000 := by
    simp only [List.mem_cons, List.not_mem_nil, or_false] at g2
    rcases g2 with rfl | rfl | rfl <;> decide
  have s4 : (x4.size : Int) ≤ 1000 := by
    simp only [List.mem_cons, List.not_mem_nil, or_false] at g4
    rcases g4 with rfl | rfl | rfl | rfl <;> decide
  unfold spec_l01Src_l09Line.f
  simp only [e1, e2, e3, e4, e5, e6, e7, e8, e9, Option.bind_some]
  by_cases hr : r = true
  · simp only [if_pos hr]
    exact line_j b hb t9 m9 s h9 _ _ _ _ _ _ _ _ ⟨s1, s2, s4⟩
  · simp only [if_neg hr]
    exact line_j b hb t9 m9 s h9 _ _ _ _ _ _ _ _ ⟨s1, s2, s4⟩
end Go.Proofs.Ytefmkmhjbfpelaa.QM
namespace Go.Proofs.Ytefmkmhjbfpelaa.QM
open Go.RowKit Go.Proofs.YtefmkmhjbfpelaaW.PrintWords Go.Proofs.Ytefmkmhjbfpelaa.Ev0
def less (a b : ByteArray) : Prop := Op.bytesLess a.toList b.toList = true
noncomputable def cmpS (a b : ByteArray) : Int := if Op.bytesLess a.toList b.toList = true then -1 else if Op.bytesLess b.toList a.toList = true then 1 else 0
def cmpI (a b : Int) : Int := if a < b then -1 else if a > b then 1 else 0
theorem cmpS_ev (a b : ByteArray) : cmp_Compare_string.f a b = some (cmpS a b) := by
  have e1 : ∀ x : ByteArray, cmp_isNaN_string.f x = some false := fun x => by simp [cmp_isNaN_string.f]
  unfold cmp_Compare_string.f cmpS
  simp only [e1, Option.bind_some, Bool.false_eq_true, if_false]
  split
  · rfl
  · split <;> rfl
theorem cmpI_ev (a b : Int) : cmp_Compare_int64.f a b = some (cmpI a b) := by
  have e1 : ∀ x : Int, cmp_isNaN_int64.f x = some false := fun x => by simp [cmp_isNaN_int64.f]
  unfold cmp_Compare_int64.f cmpI
  simp only [e1, Option.bind_some, Bool.false_eq_true, if_false]
  split
  · rfl
  · split <;> rfl
theorem cmpS_cases (a b : ByteArray) : (less a b ∧ ¬ less b a ∧ ¬ a.toList = b.toList ∧ cmpS a b = -1) ∨ (¬ less a b ∧ less b a ∧ ¬ a.toList = b.toList ∧ cmpS a b = 1) ∨ (¬ less a b ∧ ¬ less b a ∧ a.toList = b.toList ∧ cmpS a b = 0) := by
  have t1 := Bs.less_tri a.toList b.toList
  have t2 := Bs.less_tri b.toList a.toList
  unfold less cmpS
  cases h1 : Op.bytesLess a.toList b.toList <;> cases h2 : Op.bytesLess b.toList a.toList
  · right; right
    rw [h1, h2] at t1
    refine ⟨by simp, by simp, by simpa using t1, by simp⟩
  · right; left
    refine ⟨by simp, by simp, ?_, by simp⟩
    intro e
    rw [e, Bs.less_irrefl] at h2
    cases h2
  · left
    refine ⟨by simp, by simp, ?_, by simp⟩
    intro e
    rw [e, Bs.less_irrefl] at h1
    cases h1
  · rw [h1, h2] at t1
    simp at t1
theorem cmpI_cases (a b : Int) : (a < b ∧ cmpI a b = -1) ∨ (b < a ∧ cmpI a b = 1) ∨ (a = b ∧ cmpI a b = 0) := by
  unfold cmpI
  split
  · left; exact ⟨by assumption, rfl⟩
  · split
    · right; left; exact ⟨by omega, rfl⟩
    · right; right; exact ⟨by omega, rfl⟩
def orL : List Int → Int
  | [] => 0
  | x :: xs => if x = 0 then orL xs else x
theorem or_ev (l : List Int) (hl : l.length ≤ 1000) : Evt (fun k => cmp_Or_int.f k l) (orL l) := by
  unfold cmp_Or_int.f
  have h := up_loop (l.length : Int) (fun k (_ : Unit) i => cmp_Or_int.l0 k 0 l (l.length : Int) i) (fun _ => ()) (fun i => orL (l.drop i.toNat)) ?_ ?_ 0 (Int.le_refl _) (by omega)
  · simpa using h
  · intro i h0 hlt ih
    simp only [cmp_Or_int.l0]
    refine Evt.pos hlt (Evt.pos h0 (Evt.pos hlt ?_))
    rw [w64 (show -9223372036854775808 ≤ i + 1 by omega) (by omega)]
    have hi : i.toNat < l.length := by omega
    have e : l.drop i.toNat = rd l i :: l.drop (i + 1).toNat := by
      rw [show (i + 1).toNat = i.toNat + 1 by omega, List.drop_eq_getElem_cons hi]
      congr 1
      unfold rd
      rw [getD_at l 0 _ hi]
    rw [e]
    unfold orL
    by_cases hz : rd l i = 0
    · rw [if_pos hz]
      exact Evt.pos hz ih
    · rw [if_neg hz]
      exact Evt.neg hz (Evt.pure _)
  · simp only [cmp_Or_int.l0]
    refine Evt.neg (by omega) ((Evt.pure _).same ?_)
    simp [orL]
end Go.Proofs.Ytefmkmhjbfpelaa.QM
namespace Go.Proofs.Ytefmkmhjbfpelaa.QM
open Go.RowKit Go.Proofs.YtefmkmhjbfpelaaW.PrintWords Go.Proofs.Ytefmkmhjbfpelaa.Ev0
theorem within_ev (a b c : Int) : impl_within.f a b c = some (B (b ≤ a ∧ a ≤ c)) := by
  unfold impl_within.f
  by_cases h : b ≤ a
  · rw [if_pos h, decide_B]
    exact congrArg some (B_congr ⟨fun x => ⟨h, x⟩, fun x => x.2⟩)
  · rw [if_neg h, B_false (fun x => h x.1)]
theorem isGreat_ev (c : Int) : impl_isGreat.f c = some (B (65 ≤ c ∧ c ≤ 90)) := by
  unfold impl_isGreat.f
  by_cases h : c ≥ 65
  · rw [if_pos h, decide_B]
    exact congrArg some (B_congr ⟨fun x => ⟨h, x⟩, fun x => x.2⟩)
  · rw [if_neg h, B_false (fun x => h x.1)]
theorem isDigit_ev (c : Int) : impl_isDigit.f c = some (B (48 ≤ c ∧ c ≤ 57)) := by
  unfold impl_isDigit.f
  by_cases h : c ≥ 48
  · rw [if_pos h, decide_B]
    exact congrArg some (B_congr ⟨fun x => ⟨h, x⟩, fun x => x.2⟩)
  · rw [if_neg h, B_false (fun x => h x.1)]
theorem isQty_ev (n : Int) : impl_isQty.f n = some (B (1 ≤ n ∧ n ≤ 1000000)) := by
  unfold impl_isQty.f
  rw [within_ev]
  rfl
theorem l01Qty_ev (n : Int) : spec_l01Qty.f n = some (B (1 ≤ n ∧ n ≤ 1000000)) := by
  unfold spec_l01Qty.f
  by_cases h : n ≥ 1
  · rw [if_pos h, decide_B]
    exact congrArg some (B_congr ⟨fun x => ⟨h, x⟩, fun x => x.2⟩)
  · rw [if_neg h, B_false (fun x => h x.1)]
def okc (c : Int) : Prop := (65 ≤ c ∧ c ≤ 90) ∨ (48 ≤ c ∧ c ≤ 57) ∨ c = 45
def NameP (s : ByteArray) : Prop := 1 ≤ (s.size : Int) ∧ (s.size : Int) ≤ 12 ∧ (65 ≤ bt s 0 ∧ bt s 0 ≤ 90) ∧ ∀ j : Int, 0 ≤ j → j < s.size → okc (bt s j)
noncomputable def nameB (s : ByteArray) : Bool := B (NameP s)
theorem specName_l (s : ByteArray) (hs : (s.size : Int) ≤ 9223372036854775807) (d : Nat) : ∀ i : Int, 0 ≤ i → (s.size : Int) - i ≤ d → Evt (fun k => spec_l01Name.l0 k s i) (B (∀ j : Int, i ≤ j → j < s.size → okc (bt s j))) := by
  induction d with
  | zero =>
    intro i h0 hd
    apply Evt.succ
    simp only [spec_l01Name.l0]
    refine Evt.neg (by omega) ((Evt.pure true).same (B_true ?_).symm)
    intro j h1 h2
    omega
  | succ d ih =>
    intro i h0 hd
    apply Evt.succ
    simp only [spec_l01Name.l0]
    by_cases hlt : i < (s.size : Int)
    · refine Evt.pos hlt (Evt.pos h0 ?_)
      have hw : wrap64 (i + 1) = i + 1 := w64 (by omega) (by omega)
      rw [hw]
      have yes : okc (bt s i) → Evt (fun k => spec_l01Name.l0 k s (i + 1)) (B (∀ j : Int, i ≤ j → j < s.size → okc (bt s j))) := fun hc =>
        (ih (i + 1) (by omega) (by omega)).same (B_congr ⟨fun h j h1 h2 => by
          by_cases e : j = i
          · rw [e]; exact hc
          · exact h j (by omega) h2, fun h j h1 h2 => h j (by omega) h2⟩)
      have no : ¬ okc (bt s i) → Evt (fun _ => some false) (B (∀ j : Int, i ≤ j → j < s.size → okc (bt s j))) := fun hc =>
        (Evt.pure false).same (B_false (fun h => hc (h i (Int.le_refl _) hlt))).symm
      have digit : Evt (fun k => if bt s i ≥ 48 then (if bt s i ≤ 57 then spec_l01Name.l0 k s (i + 1) else (if bt s i = 45 then spec_l01Name.l0 k s (i + 1) else some false)) else (if bt s i = 45 then spec_l01Name.l0 k s (i + 1) else some false)) (B (∀ j : Int, i ≤ j → j < s.size → okc (bt s j))) ∨ (65 ≤ bt s i ∧ bt s i ≤ 90) := by
        by_cases hg : 65 ≤ bt s i ∧ bt s i ≤ 90
        · exact .inr hg
        · refine .inl (Evt.ite (fun h1 => Evt.ite (fun h2 => yes (.inr (.inl ⟨h1, h2⟩))) (fun h2 => Evt.ite (fun h3 => yes (.inr (.inr h3))) (fun h3 => no (fun hk => ?_)))) (fun h1 => Evt.ite (fun h3 => yes (.inr (.inr h3))) (fun h3 => no (fun hk => ?_))))
          · rcases hk with hk | hk | hk
            · exact hg hk
            · omega
            · exact h3 hk
          · rcases hk with hk | hk | hk
            · exact hg hk
            · omega
            · exact h3 hk
      refine Evt.ite (fun h1 => Evt.ite (fun h2 => yes (.inl ⟨h1, h2⟩)) (fun h2 => ?_)) (fun h1 => ?_)
      · exact digit.resolve_right (fun h => h2 h.2)
      · exact digit.resolve_right (fun h => h1 h.1)
    · refine Evt.neg hlt ((Evt.pure true).same (B_true ?_).symm)
      intro j h1 h2
      omega
theorem specName_ev (s : ByteArray) (hs : (s.size : Int) ≤ 9223372036854775807) : Evt (fun k => spec_l01Name.f k s) (nameB s) := by
  unfold spec_l01Name.f
  have bad : ¬ NameP s → Evt (fun k => spec_l01Name.j0 k s true) (nameB s) := fun h => by
    apply Evt.succ
    simp only [spec_l01Name.j0]
    exact (Evt.pure false).same (B_false h).symm
  refine Evt.ite (fun h => bad (fun hn => by have := hn.1; omega)) (fun h1 => Evt.ite (fun h => bad (fun hn => by have := hn.2.1; omega)) (fun h2 => Evt.pos (by omega) (Evt.ite (fun h => bad (fun hn => by have := hn.2.2.1.1; omega)) (fun h3 => ?_))))
  by_cases h4 : bt s 0 > 90
  · rw [decide_eq_true h4]
    exact bad (fun hn => by have := hn.2.2.1.2; omega)
  · rw [decide_eq_false h4]
    apply Evt.succ
    simp only [spec_l01Name.j0]
    refine (specName_l s hs s.size 0 (Int.le_refl _) (by omega)).same (B_congr ⟨fun h => ⟨by omega, by omega, ⟨by omega, by omega⟩, h⟩, fun h => h.2.2.2⟩)
theorem implName_l (s : ByteArray) (hs : (s.size : Int) ≤ 9223372036854775807) (d : Nat) : ∀ i : Int, 0 ≤ i → (s.size : Int) - i ≤ d →
    Evt (fun k => impl_isName.l0 k s (s.size : Int) i) (B ((∀ j : Int, i ≤ j → j < s.size → (65 ≤ bt s j ∧ bt s j ≤ 90) ∨ (j ≠ 0 ∧ okc (bt s j))) ∧ 1 ≤ (s.size : Int) ∧ (s.size : Int) ≤ 12)) := by
  induction d with
  | zero =>
    intro i h0 hd
    apply Evt.succ
    simp only [impl_isName.l0]
    refine Evt.neg (by omega) (Evt.const ?_)
    rw [within_ev]
    exact congrArg some (B_congr ⟨fun h => ⟨fun j h1 h2 => by omega, h⟩, fun h => h.2⟩)
  | succ d ih =>
    intro i h0 hd
    apply Evt.succ
    simp only [impl_isName.l0]
    by_cases hlt : i < (s.size : Int)
    · refine Evt.pos hlt (Evt.pos h0 (Evt.pos hlt ?_))
      have hw : wrap64 (i + 1) = i + 1 := w64 (by omega) (by omega)
      rw [hw, isGreat_ev, isDigit_ev]
      have yes : ((65 ≤ bt s i ∧ bt s i ≤ 90) ∨ (i ≠ 0 ∧ okc (bt s i))) → Evt (fun k => impl_isName.l0 k s (s.size : Int) (i + 1)) (B ((∀ j : Int, i ≤ j → j < s.size → (65 ≤ bt s j ∧ bt s j ≤ 90) ∨ (j ≠ 0 ∧ okc (bt s j))) ∧ 1 ≤ (s.size : Int) ∧ (s.size : Int) ≤ 12)) := fun hc =>
        (ih (i + 1) (by omega) (by omega)).same (B_congr ⟨fun h => ⟨fun j h1 h2 => by
          by_cases e : j = i
          · rw [e]; exact hc
          · exact h.1 j (by omega) h2, h.2⟩, fun h => ⟨fun j h1 h2 => h.1 j (by omega) h2, h.2⟩⟩)
      have no : ¬ ((65 ≤ bt s i ∧ bt s i ≤ 90) ∨ (i ≠ 0 ∧ okc (bt s i))) → Evt (fun _ => some false) (B ((∀ j : Int, i ≤ j → j < s.size → (65 ≤ bt s j ∧ bt s j ≤ 90) ∨ (j ≠ 0 ∧ okc (bt s j))) ∧ 1 ≤ (s.size : Int) ∧ (s.size : Int) ≤ 12)) := fun hc =>
        (Evt.pure false).same (B_false (fun h => hc (h.1 i (Int.le_refl _) hlt))).symm
      simp only [Option.bind_some]
      refine Evt.ite (fun h1 => yes (.inl (B_iff.1 h1))) (fun h1 => ?_)
      have g1 : ¬ (65 ≤ bt s i ∧ bt s i ≤ 90) := fun h => h1 (B_iff.2 h)
      refine Evt.ite (fun h2 => no (fun h => h.elim g1 (fun h => h.1 h2))) (fun h2 => Evt.ite (fun h3 => yes (.inr ⟨h2, .inr (.inl (B_iff.1 h3))⟩)) (fun h3 => Evt.ite (fun h4 => yes (.inr ⟨h2, .inr (.inr h4)⟩)) (fun h4 => no (fun h => ?_))))
      rcases h with h | ⟨_, h | h | h⟩
      · exact g1 h
      · exact g1 h
      · exact h3 (B_iff.2 h)
      · exact h4 h
    · refine Evt.neg hlt (Evt.const ?_)
      rw [within_ev]
      exact congrArg some (B_congr ⟨fun h => ⟨fun j h1 h2 => by omega, h⟩, fun h => h.2⟩)
theorem implName_ev (s : ByteArray) (hs : (s.size : Int) ≤ 9223372036854775807) : Evt (fun k => impl_isName.f k s) (nameB s) := by
  unfold impl_isName.f
  refine (implName_l s hs s.size 0 (Int.le_refl _) (by omega)).same (B_congr ⟨fun h => ⟨h.2.1, h.2.2, ?_, ?_⟩, fun h => ⟨?_, h.1, h.2.1⟩⟩)
  · rcases h.1 0 (Int.le_refl _) (by omega) with h | h
    · exact h
    · exact absurd rfl h.1
  · intro j h1 h2
    rcases h.1 j h1 h2 with h | h
    · exact .inl h
    · exact h.2
  · intro j h1 h2
    by_cases e : j = 0
    · rw [e]; exact .inl h.2.2.1
    · exact .inr ⟨e, h.2.2.2 j h1 h2⟩
end Go.Proofs.Ytefmkmhjbfpelaa.QM
namespace Go.Proofs.Ytefmkmhjbfpelaa.QM
open Go.RowKit Go.Proofs.YtefmkmhjbfpelaaW.PrintWords Go.Proofs.Ytefmkmhjbfpelaa.Ev0
def LineP (a b : ByteArray) (n : Int) (i : ByteArray) (o s g c : Int) : Prop :=
  NameP a ∧ NameP b ∧ NameP i ∧ (1 ≤ n ∧ n ≤ 999) ∧ (1 ≤ o ∧ o ≤ 1000000) ∧ (0 ≤ s ∧ s ≤ o) ∧ (0 ≤ g ∧ g ≤ s) ∧ (0 ≤ c ∧ c ≤ wrap64 (o - s))
noncomputable def lineB (a b : ByteArray) (n : Int) (i : ByteArray) (o s g c : Int) : Bool := B (LineP a b n i o s g c)
theorem specLine_ev (a b : ByteArray) (n : Int) (i : ByteArray) (o s g c : Int) (ha : (a.size : Int) ≤ 9223372036854775807) (hb : (b.size : Int) ≤ 9223372036854775807) (hi : (i.size : Int) ≤ 9223372036854775807) :
    Evt (fun k => spec_LineRight.f k a b n i o s g c) (lineB a b n i o s g c) := by
  unfold spec_LineRight.f
  have key : Evt (fun k => spec_LineRight.f k a b n i o s g c) (B (NameP a ∧ NameP b ∧ NameP i ∧ 1 ≤ n ∧ n ≤ 999 ∧ (1 ≤ o ∧ o ≤ 1000000) ∧ 0 ≤ s ∧ 0 ≤ g ∧ 0 ≤ c ∧ g ≤ s ∧ s ≤ o ∧ c ≤ wrap64 (o - s))) := by
    unfold spec_LineRight.f
    refine Evt.bind (specName_ev a ha) (and_ B_iff fun _ => Evt.bind (specName_ev b hb) (and_ B_iff fun _ => Evt.bind (specName_ev i hi) (and_ B_iff fun _ => and_ Iff.rfl fun _ => and_ Iff.rfl fun _ => ?_)))
    rw [l01Qty_ev]
    simp only [Option.bind_some]
    exact and_ B_iff fun _ => and_ Iff.rfl fun _ => and_ Iff.rfl fun _ => and_ Iff.rfl fun _ => and_ Iff.rfl fun _ => and_ Iff.rfl fun _ => last_ Iff.rfl
  refine key.same (B_congr ⟨?_, ?_⟩)
  · rintro ⟨h1, h2, h3, h4, h5, h6, h7, h8, h9, h10, h11, h12⟩
    exact ⟨h1, h2, h3, ⟨h4, h5⟩, h6, ⟨h7, h11⟩, ⟨h8, h10⟩, ⟨h9, h12⟩⟩
  · rintro ⟨h1, h2, h3, ⟨h4, h5⟩, h6, ⟨h7, h11⟩, ⟨h8, h10⟩, ⟨h9, h12⟩⟩
    exact ⟨h1, h2, h3, h4, h5, h6, h7, h8, h9, h10, h11, h12⟩
theorem implLine_ev (a b : ByteArray) (n : Int) (i : ByteArray) (o s g c : Int) (ha : (a.size : Int) ≤ 9223372036854775807) (hb : (b.size : Int) ≤ 9223372036854775807) (hi : (i.size : Int) ≤ 9223372036854775807) :
    Evt (fun k => impl_LineRight.f k a b n i o s g c) (lineB a b n i o s g c) := by
  unfold impl_LineRight.f lineB LineP
  simp only [within_ev, isQty_ev, Option.bind_some]
  exact Evt.bind (implName_ev a ha) (and_ B_iff fun _ => Evt.bind (implName_ev b hb) (and_ B_iff fun _ => Evt.bind (implName_ev i hi) (and_ B_iff fun _ => and_ B_iff fun _ => and_ B_iff fun _ => and_ B_iff fun _ => and_ B_iff fun _ => lastB_ Iff.rfl)))
end Go.Proofs.Ytefmkmhjbfpelaa.QM
namespace Go.Proofs.Ytefmkmhjbfpelaa.QM
open Go.RowKit Go.Proofs.YtefmkmhjbfpelaaW.PrintWords Go.Proofs.Ytefmkmhjbfpelaa.Ev0
def lbefore (a b : ByteArray) (n : Int) (a' b' : ByteArray) (n' : Int) : Prop := less a a' ∨ (a.toList = a'.toList ∧ (less b b' ∨ (b.toList = b'.toList ∧ n < n')))
theorem l09Before_ev (a b : ByteArray) (n : Int) (i : ByteArray) (o s g c : Int) (a' b' : ByteArray) (n' : Int) (i' : ByteArray) (o' s' g' c' : Int) :
    spec_l09Before.f a b n i o s g c a' b' n' i' o' s' g' c' = some (B (lbefore a b n a' b' n')) := by
  unfold spec_l09Before.f lbefore
  rcases cmpS_cases a a' with ⟨h1, h2, h3, _⟩ | ⟨h1, h2, h3, _⟩ | ⟨h1, h2, h3, _⟩
  · rw [if_neg h3, B_true (.inl h1)]
    exact congrArg some h1
  · rw [if_neg h3, B_false (fun h => h.elim h1 (fun h => h3 h.1))]
    exact congrArg some (Bool.eq_false_iff.2 h1)
  · rw [if_pos h3]
    rcases cmpS_cases b b' with ⟨g1, g2, g3, _⟩ | ⟨g1, g2, g3, _⟩ | ⟨g1, g2, g3, _⟩
    · rw [if_neg g3, B_true (.inr ⟨h3, .inl g1⟩)]
      exact congrArg some g1
    · rw [if_neg g3, B_false (fun h => h.elim h1 (fun h => h.2.elim g1 (fun h => g3 h.1)))]
      exact congrArg some (Bool.eq_false_iff.2 g1)
    · rw [if_pos g3, decide_B]
      exact congrArg some (B_congr ⟨fun h => .inr ⟨h3, .inr ⟨g3, h⟩⟩, fun h => h.elim (fun h => absurd h h1) (fun h => h.2.elim (fun h => absurd h g1) (fun h => h.2))⟩)
noncomputable def lcmp (a b : ByteArray) (n : Int) (a' b' : ByteArray) (n' : Int) : Int := orL [cmpS a a', cmpS b b', cmpI n n']
theorem lineOrder_ev (a b : ByteArray) (n : Int) (i : ByteArray) (o s g c : Int) (a' b' : ByteArray) (n' : Int) (i' : ByteArray) (o' s' g' c' : Int) :
    Evt (fun k => impl_lineOrder.f k a b n i o s g c a' b' n' i' o' s' g' c') (lcmp a b n a' b' n') := by
  unfold impl_lineOrder.f
  simp only [cmpS_ev, cmpI_ev, Option.bind_some]
  exact Evt.bind (or_ev _ (by simp)) (Evt.pure _)
theorem lcmp_iff (a b : ByteArray) (n : Int) (a' b' : ByteArray) (n' : Int) : lcmp a b n a' b' n' ≥ 0 ↔ ¬ lbefore a b n a' b' n' := by
  unfold lcmp lbefore
  rcases cmpS_cases a a' with ⟨h1, h2, h3, h4⟩ | ⟨h1, h2, h3, h4⟩ | ⟨h1, h2, h3, h4⟩
  · simp [orL, h4, h1]
  · simp [orL, h4, h1, h3]
  · rcases cmpS_cases b b' with ⟨g1, g2, g3, g4⟩ | ⟨g1, g2, g3, g4⟩ | ⟨g1, g2, g3, g4⟩
    · simp [orL, h4, h1, h3, g4, g1]
    · simp [orL, h4, h1, h3, g4, g1, g3]
    · rcases cmpI_cases n n' with ⟨e1, e2⟩ | ⟨e1, e2⟩ | ⟨e1, e2⟩
      · simp [orL, h4, h1, h3, g4, g1, g3, e1, e2]
      · simp [orL, h4, h1, h3, g4, g1, g3, e2]; omega
      · subst e1
        simp [orL, h4, h1, h3, g4, g1, g3, e2]
def okS (x : S54) : Prop := (x.f0.size : Int) ≤ 9223372036854775807 ∧ (x.f1.size : Int) ≤ 9223372036854775807 ∧ (x.f3.size : Int) ≤ 9223372036854775807
def lineOk (l : List S54) (i : Int) : Prop :=
  lineB (rd_T54 l i).f0 (rd_T54 l i).f1 (rd_T54 l i).f2 (rd_T54 l i).f3 (rd_T54 l i).f4 (rd_T54 l i).f5 (rd_T54 l i).f6 (rd_T54 l i).f7 = true ∧
    (0 < i → lbefore (rd_T54 l (i - 1)).f0 (rd_T54 l (i - 1)).f1 (rd_T54 l (i - 1)).f2 (rd_T54 l i).f0 (rd_T54 l i).f1 (rd_T54 l i).f2)
def LinesP (l : List S54) : Prop := (l.length : Int) ≤ 200 ∧ ∀ i, 0 ≤ i → i < (l.length : Int) → lineOk l i
noncomputable def linesB (l : List S54) : Bool := B (LinesP l)
theorem okS_at {l : List S54} (h : ∀ x ∈ l, okS x) (i : Int) (h1 : i < (l.length : Int)) (h0 : 0 ≤ i) : okS (rd_T54 l i) := by
  unfold rd_T54
  rw [getD_at l _ _ (by omega)]
  exact h _ (List.getElem_mem _)
theorem specLines_ev (l : List S54) (hs : ∀ x ∈ l, okS x) : Evt (fun k => spec_LinesRight.f k l) (linesB l) := by
  unfold spec_LinesRight.f
  by_cases hn : (l.length : Int) > 200
  · exact Evt.pos hn ((Evt.pure false).same (B_false (fun h => by have := h.1; omega)).symm)
  · refine Evt.neg hn ?_
    refine (right_loop (l.length : Int) (by omega) (lineOk l) True (fun k i => spec_LinesRight.l0 k l i) ?_ ?_).same (B_congr ⟨fun h => ⟨by omega, h.1⟩, fun h => ⟨h.2, trivial⟩⟩)
    · intro i h0 hlt
      have hk := okS_at hs i hlt h0
      have hw : wrap64 (i + 1) = i + 1 := w64 (by omega) (by omega)
      have hw1 : wrap64 (i - 1) = i - 1 := w64 (by omega) (by omega)
      simp only [spec_LinesRight.l0, hw, hw1, l09Before_ev, Option.bind_some]
      refine ⟨fun ok r hr => ?_, fun nok => ?_⟩
      · refine Evt.pos hlt (Evt.pos h0 (Evt.bind (specLine_ev _ _ _ _ _ _ _ _ hk.1 hk.2.1 hk.2.2) (Evt.pos ok.1 (Evt.ite (fun hp => Evt.pos (by omega) (Evt.pos (by omega) (Evt.pos (B_true (ok.2 hp)) hr))) (fun _ => hr)))))
      · refine Evt.pos hlt (Evt.pos h0 (Evt.bind (specLine_ev _ _ _ _ _ _ _ _ hk.1 hk.2.1 hk.2.2) (Evt.ite (fun hl => Evt.ite (fun hp => Evt.pos (by omega) (Evt.pos (by omega) (Evt.neg (fun hb => nok ⟨hl, fun _ => B_iff.1 hb⟩) (Evt.pure _)))) (fun hp => absurd ⟨hl, fun h => absurd h hp⟩ nok)) (fun _ => Evt.pure _))))
    · simp only [spec_LinesRight.l0]
      exact Evt.neg (by omega) ((Evt.pure true).same (B_true trivial).symm)
theorem implLines_ev (l : List S54) (hs : ∀ x ∈ l, okS x) : Evt (fun k => impl_LinesRight.f k l) (linesB l) := by
  unfold impl_LinesRight.f
  by_cases hn : (l.length : Int) > 200
  · exact Evt.pos hn ((Evt.pure false).same (B_false (fun h => by have := h.1; omega)).symm)
  · refine Evt.neg hn ?_
    refine (right_loop (l.length : Int) (by omega) (lineOk l) True (fun k i => impl_LinesRight.l0 k l l (l.length : Int) i) ?_ ?_).same (B_congr ⟨fun h => ⟨by omega, h.1⟩, fun h => ⟨h.2, trivial⟩⟩)
    · intro i h0 hlt
      have hk := okS_at hs i hlt h0
      have hw : wrap64 (i + 1) = i + 1 := w64 (by omega) (by omega)
      have hw1 : wrap64 (i - 1) = i - 1 := w64 (by omega) (by omega)
      simp only [impl_LinesRight.l0, hw, hw1]
      refine ⟨fun ok r hr => ?_, fun nok => ?_⟩
      · refine Evt.pos hlt (Evt.pos h0 (Evt.pos hlt (Evt.bind (implLine_ev _ _ _ _ _ _ _ _ hk.1 hk.2.1 hk.2.2) (Evt.pos ok.1 (Evt.ite (fun hp => Evt.pos (by omega) (Evt.pos (by omega) (Evt.bind (lineOrder_ev _ _ _ _ _ _ _ _ _ _ _ _ _ _ _ _) (Evt.neg (fun h => (lcmp_iff _ _ _ _ _ _).1 h (ok.2 hp)) hr)))) (fun _ => hr))))))
      · refine Evt.pos hlt (Evt.pos h0 (Evt.pos hlt (Evt.bind (implLine_ev _ _ _ _ _ _ _ _ hk.1 hk.2.1 hk.2.2) (Evt.ite (fun hl => Evt.ite (fun hp => Evt.pos (by omega) (Evt.pos (by omega) (Evt.bind (lineOrder_ev _ _ _ _ _ _ _ _ _ _ _ _ _ _ _ _) (Evt.pos ((lcmp_iff _ _ _ _ _ _).2 (fun hb => nok ⟨hl, fun _ => hb⟩)) (Evt.pure _))))) (fun hp => absurd ⟨hl, fun h => absurd h hp⟩ nok)) (fun _ => Evt.pure _)))))
    · simp only [impl_LinesRight.l0]
      exact Evt.neg (by omega) ((Evt.pure true).same (B_true trivial).symm)
end Go.Proofs.Ytefmkmhjbfpelaa.QM
namespace Go.Proofs.Ytefmkmhjbfpelaa.QM
open Go.RowKit Go.Proofs.YtefmkmhjbfpelaaW.PrintWords Go.Proofs.Ytefmkmhjbfpelaa.Ev0
theorem mid_eq (lo hi : Int) (h0 : 0 ≤ lo) (h1 : lo < hi) (h2 : hi ≤ 1000000000) : wrap64 ((IntKind.u64.wrap (wrap64 (lo + hi))) / 2) = (lo + hi) / 2 := by
  rw [w64 (x := lo + hi) (by omega) (by omega), IntKind.wrap_u64, w64 (by omega) (by omega)]
  omega
theorem bin_loop {ρ : Type} (n : Int) (hn : 0 ≤ n) (neg : Int → Prop) (F : Nat → Int → Int → Option ρ) (R : Int → ρ)
    (step : ∀ lo hi, 0 ≤ lo → lo < hi → hi ≤ n → (neg ((lo + hi) / 2) → ∀ r, Evt (fun k => F k ((lo + hi) / 2 + 1) hi) r → Evt (fun k => F (k + 1) lo hi) r) ∧ (¬ neg ((lo + hi) / 2) → ∀ r, Evt (fun k => F k lo ((lo + hi) / 2)) r → Evt (fun k => F (k + 1) lo hi) r))
    (stop : ∀ lo, 0 ≤ lo → lo ≤ n → Evt (fun k => F (k + 1) lo lo) (R lo)) (mono : ∀ i j, 0 ≤ i → i ≤ j → j < n → neg j → neg i) :
    ∃ p, 0 ≤ p ∧ p ≤ n ∧ Evt (fun k => F k 0 n) (R p) ∧ (∀ i, 0 ≤ i → i < p → neg i) ∧ (∀ i, p ≤ i → i < n → ¬ neg i) := by
  have key : ∀ (d : Nat) (lo hi : Int), 0 ≤ lo → lo ≤ hi → hi ≤ n → hi - lo ≤ d → (∀ i, 0 ≤ i → i < lo → neg i) → (∀ i, hi ≤ i → i < n → ¬ neg i) →
      ∃ p, 0 ≤ p ∧ p ≤ n ∧ Evt (fun k => F k lo hi) (R p) ∧ (∀ i, 0 ≤ i → i < p → neg i) ∧ (∀ i, p ≤ i → i < n → ¬ neg i) := by
    intro d
    induction d with
    | zero =>
      intro lo hi h0 h1 h2 hd hl hh
      obtain rfl : lo = hi := by omega
      exact ⟨lo, h0, h2, (stop lo h0 h2).succ, hl, hh⟩
    | succ d ih =>
      intro lo hi h0 h1 h2 hd hl hh
      by_cases hlt : lo < hi
      · obtain ⟨s1, s2⟩ := step lo hi h0 hlt h2
        by_cases hg : neg ((lo + hi) / 2)
        · obtain ⟨p, p0, p1, hp, q1, q2⟩ := ih ((lo + hi) / 2 + 1) hi (by omega) (by omega) h2 (by omega) (fun i i0 i1 => mono i ((lo + hi) / 2) i0 (by omega) (by omega) hg) hh
          exact ⟨p, p0, p1, (s1 hg _ hp).succ, q1, q2⟩
        · obtain ⟨p, p0, p1, hp, q1, q2⟩ := ih lo ((lo + hi) / 2) h0 (by omega) (by omega) (by omega) hl (fun i i0 i1 hi' => hg (mono ((lo + hi) / 2) i (by omega) i0 i1 hi'))
          exact ⟨p, p0, p1, (s2 hg _ hp).succ, q1, q2⟩
      · obtain rfl : lo = hi := by omega
        exact ⟨lo, h0, h2, (stop lo h0 h2).succ, hl, hh⟩
  exact key n.toNat 0 n (Int.le_refl _) hn (Int.le_refl _) (by omega) (fun i h0 h1 => absurd h1 (by omega)) (fun i h0 h1 => absurd h1 (by omega))
theorem less_trans : ∀ a b c : List UInt8, Op.bytesLess a b = true → Op.bytesLess b c = true → Op.bytesLess a c = true
  | [], [], _, h, _ => by simp [Op.bytesLess] at h
  | [], _ :: _, [], _, h => by simp [Op.bytesLess] at h
  | [], _ :: _, _ :: _, _, _ => by simp [Op.bytesLess]
  | _ :: _, [], _, h, _ => by simp [Op.bytesLess] at h
  | _ :: _, _ :: _, [], _, h => by simp [Op.bytesLess] at h
  | x :: a, y :: b, z :: c, h1, h2 => by
    have ih := less_trans a b c
    have key : ∀ (x y : UInt8) (a b : List UInt8), Op.bytesLess (x :: a) (y :: b) = true ↔ (x.toNat < y.toNat ∨ (x.toNat = y.toNat ∧ Op.bytesLess a b = true)) := by
      intro x y a b
      by_cases g1 : x < y
      · have := UInt8.lt_iff_toNat_lt.1 g1
        simp [Op.bytesLess, g1, this]
      · by_cases g2 : y < x
        · have g3 : ¬ x = y := fun h => by subst h; have := UInt8.lt_iff_toNat_lt.1 g2; omega
          have := UInt8.lt_iff_toNat_lt.1 g2
          simp [Op.bytesLess, g1, g3]
          omega
        · have g3 : x = y := UInt8.toNat_inj.1 (by
            have e1 := mt UInt8.lt_iff_toNat_lt.2 g1
            have e2 := mt UInt8.lt_iff_toNat_lt.2 g2
            omega)
          subst g3
          simp [Op.bytesLess]
    rw [key] at h1 h2 ⊢
    rcases h1 with h1 | ⟨h1, h1'⟩ <;> rcases h2 with h2 | ⟨h2, h2'⟩
    · exact .inl (by omega)
    · exact .inl (by omega)
    · exact .inl (by omega)
    · exact .inr ⟨by omega, ih h1' h2'⟩
theorem cmpB (a b : List UInt8) : Lib.compareBytes a b = if Op.bytesLess a b = true then -1 else if Op.bytesLess b a = true then 1 else 0 := by
  induction a generalizing b with
  | nil => cases b <;> simp [Lib.compareBytes, Op.bytesLess]
  | cons x a ih =>
    cases b with
    | nil => simp [Lib.compareBytes, Op.bytesLess]
    | cons y b =>
      by_cases g1 : x < y
      · simp [Lib.compareBytes, Op.bytesLess, g1]
      · by_cases g2 : y < x
        · have g3 : ¬ x = y := fun h => by subst h; have := UInt8.lt_iff_toNat_lt.1 g2; omega
          simp [Lib.compareBytes, Op.bytesLess, g1, g2, g3]
        · have g3 : x = y := UInt8.toNat_inj.1 (by
            have e1 := mt UInt8.lt_iff_toNat_lt.2 g1
            have e2 := mt UInt8.lt_iff_toNat_lt.2 g2
            omega)
          subst g3
          simp [Lib.compareBytes, Op.bytesLess, ih]
theorem strCmp_ev (a b : ByteArray) : strings_Compare.f a b = some (cmpS a b) := by
  unfold strings_Compare.f bytealg_CompareString.f cmpS
  rw [Option.bind_some, cmpB]
  rw [show a.data.toList = a.toList from (ByteArray.toList_eq a).symm, show b.data.toList = b.toList from (ByteArray.toList_eq b).symm]
theorem less_tr {a b c : ByteArray} (h1 : less a b) (h2 : less b c) : less a c := less_trans _ _ _ h1 h2
end Go.Proofs.Ytefmkmhjbfpelaa.QM
namespace Go.Proofs.Ytefmkmhjbfpelaa.Ev0
section
variable {α : Type} {lt : α → α → Prop}
noncomputable def idxP (p : α → Prop) (l : List α) : Nat := l.findIdx (fun y => B (p y))
theorem idxP_le (p : α → Prop) (l : List α) : idxP p l ≤ l.length := List.findIdx_le_length
theorem idxP_no {p : α → Prop} {l : List α} {i : Nat} (h : i < idxP p l) : ¬ p (l[i]'(Nat.lt_of_lt_of_le h (idxP_le p l))) := by
  have := List.not_of_lt_findIdx (p := fun y => B (p y)) (xs := l) (i := i) h
  exact B_iff_false.1 this
theorem idxP_yes {p : α → Prop} {l : List α} (h : idxP p l < l.length) : p (l[idxP p l]) := by
  have := List.findIdx_getElem (p := fun y => B (p y)) (xs := l) (w := h)
  exact B_iff.1 this
theorem idxP_eq {p : α → Prop} {l : List α} {k : Nat} (h1 : k ≤ l.length) (h2 : ∀ i (h : i < l.length), i < k → ¬ p l[i]) (h3 : ∀ h : k < l.length, p l[k]) : idxP p l = k := by
  rcases Nat.lt_trichotomy (idxP p l) k with h | h | h
  · exact absurd (idxP_yes (by omega)) (h2 _ (by omega) h)
  · exact h
  · have hk : k < l.length := Nat.lt_of_lt_of_le h (idxP_le p l)
    exact absurd (h3 hk) (idxP_no h)
structure Ord (lt : α → α → Prop) : Prop where
  tr : ∀ {a b c}, lt a b → lt b c → lt a c
  asy : ∀ {a b}, lt a b → ¬ lt b a
noncomputable def insAt (lt : α → α → Prop) (l : List α) (x : α) : Nat := idxP (lt x) l
theorem pair_of_next (o : Ord lt) {l : List α} (h : ∀ i (h : i + 1 < l.length), lt l[i] l[i + 1]) : l.Pairwise lt := by
  rw [List.pairwise_iff_getElem]
  intro i j hi hj hij
  obtain ⟨d, rfl⟩ : ∃ d, j = i + 1 + d := ⟨j - (i + 1), by omega⟩
  clear hij
  induction d with
  | zero => exact h i hj
  | succ d ih => exact o.tr (ih (by omega)) (h (i + 1 + d) hj)
end
end Go.Proofs.Ytefmkmhjbfpelaa.Ev0
namespace Go.Proofs.Ytefmkmhjbfpelaa.QM
open Go.RowKit Go.Proofs.Ytefmkmhjbfpelaa Go.Proofs.YtefmkmhjbfpelaaW.PrintWords Go.Proofs.Ytefmkmhjbfpelaa.Ev0
abbrev LX := S54
def llt (x y : LX) : Prop := lbefore x.f0 x.f1 x.f2 y.f0 y.f1 y.f2
theorem rdL_nat {l : List LX} {i : Nat} (h : i < l.length) : rd_T54 l (i : Int) = l[i] := by
  unfold rd_T54
  rw [Int.toNat_natCast, getD_at l _ _ h]
noncomputable def insL (l : List LX) (x : LX) : List LX := l.take (insAt llt l x) ++ [x] ++ l.drop (insAt llt l x)
theorem insL_mem (l : List LX) (x y : LX) : y ∈ insL l x ↔ y = x ∨ y ∈ l := by
  unfold insL
  rw [List.append_assoc, List.mem_append, List.mem_append, List.mem_singleton]
  constructor
  · rintro (h | h | h)
    · exact .inr (List.mem_of_mem_take h)
    · exact .inl h
    · exact .inr (List.mem_of_mem_drop h)
  · rintro (h | h)
    · exact .inr (.inl h)
    · rw [← List.take_append_drop (insAt llt l x) l, List.mem_append] at h
      exact h.imp id .inr
noncomputable def addL (l : List LX) (x : LX) : List LX := @ite _ (LinesP l ∧ LinesP (insL l x)) (Classical.propDecidable _) (insL l x) l
noncomputable def stL (l : List LX) (x : LX) (i : Int) : List LX × Bool := @ite _ (i.toNat ≤ insAt llt l x) (Classical.propDecidable _) (l.take i.toNat, false) (l.take (insAt llt l x) ++ [x] ++ (l.drop (insAt llt l x)).take (i.toNat - insAt llt l x), true)
theorem specAdd_l (l : List LX) (x : LX) (hn : (l.length : Int) ≤ 400) (hs : ∀ y ∈ l, okS y) (hx : okS x) : Evt (fun k => spec_LinesAdd.l0 k l l [] false 0 x.f0 x.f1 x.f2 x.f3 x.f4 x.f5 x.f6 x.f7) (@ite _ (LinesP (insL l x)) (Classical.propDecidable _) (insL l x) l) := by
  have hk : insAt llt l x ≤ l.length := idxP_le _ _
  have hso : ∀ y ∈ insL l x, okS y := fun y hy => ((insL_mem l x y).1 hy).elim (fun e => e ▸ hx) (hs y)
  have h := up_loop (l.length : Int) (fun k (s : List LX × Bool) i => spec_LinesAdd.l0 k l l s.1 s.2 i x.f0 x.f1 x.f2 x.f3 x.f4 x.f5 x.f6 x.f7) (stL l x) (fun _ => @ite _ (LinesP (insL l x)) (Classical.propDecidable _) (insL l x) l) ?_ ?_ 0 (Int.le_refl _) (by omega)
  · have e : stL l x 0 = ([], false) := by unfold stL; simp
    rw [e] at h
    exact h
  · intro i h0 hlt ih
    have hw : wrap64 (i + 1) = i + 1 := w64 (by omega) (by omega)
    obtain ⟨j, rfl⟩ : ∃ j : Nat, i = j := ⟨i.toNat, by omega⟩
    have hj : j < l.length := by omega
    have ej : ((j : Int) + 1).toNat = j + 1 := by omega
    simp only [spec_LinesAdd.l0, hw, rdL_nat hj, l09Before_ev, Option.bind_some]
    have tk : l.take j ++ [l[j]] = l.take (j + 1) := by rw [List.take_succ_eq_append_getElem hj]
    refine Evt.pos hlt ?_
    by_cases h1 : j ≤ insAt llt l x
    · have e : stL l x (j : Int) = (l.take j, false) := by unfold stL; rw [Int.toNat_natCast, if_pos h1]
      rw [e]
      refine Evt.neg (by simp) (Evt.pos h0 ?_)
      by_cases h2 : j = insAt llt l x
      · have hb : llt x l[j] := by
          have := idxP_yes (p := llt x) (l := l) (by have e2 : insAt llt l x = idxP (llt x) l := rfl; omega)
          have e2 : idxP (llt x) l = j := h2.symm
          simp only [e2] at this
          exact this
        have e3 : stL l x ((j : Int) + 1) = (l.take j ++ [x] ++ [l[j]], true) := by
          unfold stL
          rw [ej, if_neg (by omega), ← h2, show j + 1 - j = 1 by omega, List.drop_eq_getElem_cons hj, List.take_succ_cons, List.take_zero]
        rw [e3] at ih
        exact Evt.pos (B_true hb) (Evt.pos (by simp; omega) (Evt.pos (by simp; omega) ih))
      · have hb : ¬ llt x l[j] := idxP_no (p := llt x) (l := l) (by have e2 : insAt llt l x = idxP (llt x) l := rfl; omega)
        have e3 : stL l x ((j : Int) + 1) = (l.take (j + 1), false) := by unfold stL; rw [ej, if_pos (by omega)]
        rw [e3] at ih
        refine Evt.neg (fun hh => hb (B_iff.1 hh)) (Evt.pos (by simp; omega) ?_)
        dsimp only
        rw [show l.take j ++ [(⟨l[j].f0, l[j].f1, l[j].f2, l[j].f3, l[j].f4, l[j].f5, l[j].f6, l[j].f7⟩ : LX)] = l.take (j + 1) from tk]
        exact ih
    · have e : stL l x (j : Int) = (l.take (insAt llt l x) ++ [x] ++ (l.drop (insAt llt l x)).take (j - insAt llt l x), true) := by unfold stL; rw [Int.toNat_natCast, if_neg h1]
      have e3 : stL l x ((j : Int) + 1) = (l.take (insAt llt l x) ++ [x] ++ (l.drop (insAt llt l x)).take (j - insAt llt l x) ++ [l[j]], true) := by
        unfold stL
        rw [ej, if_neg (by omega), show j + 1 - insAt llt l x = (j - insAt llt l x) + 1 by omega, List.take_succ_eq_append_getElem (by rw [List.length_drop]; omega), List.getElem_drop]
        simp only [show insAt llt l x + (j - insAt llt l x) = j by omega, List.append_assoc]
      rw [e]
      rw [e3] at ih
      refine Evt.pos rfl (Evt.pos h0 (Evt.pos ?_ ih))
      simp
      omega
  · simp only [spec_LinesAdd.l0]
    refine Evt.neg (by omega) ?_
    have fin : Evt (fun k => (spec_LinesRight.f k (insL l x)).bind fun t => if t = true then some (insL l x) else some l) (@ite _ (LinesP (insL l x)) (Classical.propDecidable _) (insL l x) l) := by
      refine Evt.bind (specLines_ev _ hso) ?_
      by_cases hr : LinesP (insL l x)
      · rw [if_pos hr]
        exact Evt.pos (B_true hr) (Evt.pure _)
      · rw [if_neg hr]
        exact Evt.neg (fun hh => hr (B_iff.1 hh)) (Evt.pure _)
    by_cases h1 : l.length ≤ insAt llt l x
    · have e : stL l x (l.length : Int) = (l, false) := by unfold stL; rw [Int.toNat_natCast, if_pos h1, List.take_length]
      have e2 : insL l x = l ++ [x] := by unfold insL; rw [List.take_of_length_le h1, List.drop_of_length_le h1, List.append_nil]
      rw [e]
      rw [e2] at fin ⊢
      exact Evt.neg (by simp) (Evt.pos (by dsimp only; omega) fin)
    · have e : stL l x (l.length : Int) = (insL l x, true) := by
        have e5 : (l.drop (insAt llt l x)).take (l.length - insAt llt l x) = l.drop (insAt llt l x) := List.take_of_length_le (by rw [List.length_drop]; omega)
        unfold stL insL
        rw [Int.toNat_natCast, if_neg h1, e5]
      rw [e]
      exact Evt.pos rfl fin
theorem specAdd_ev (l : List LX) (x : LX) (hn : (l.length : Int) ≤ 400) (hs : ∀ y ∈ l, okS y) (hx : okS x) : Evt (fun k => spec_LinesAdd.f k l x.f0 x.f1 x.f2 x.f3 x.f4 x.f5 x.f6 x.f7) (addL l x) := by
  unfold spec_LinesAdd.f addL
  simp only [Option.bind_some, List.nil_append]
  refine Evt.neg (by omega) (Evt.pos (by simp; omega) (Evt.bind (specLines_ev l hs) ?_))
  by_cases h1 : LinesP l
  · refine Evt.pos (B_true h1) ((specAdd_l l x hn hs hx).same ?_)
    by_cases h2 : LinesP (insL l x)
    · rw [if_pos h2, if_pos ⟨h1, h2⟩]
    · rw [if_neg h2, if_neg (fun h => h2 h.2)]
  · rw [if_neg (fun h => h1 h.1)]
    exact Evt.neg (fun hh => h1 (B_iff.1 hh)) (Evt.pure _)
end Go.Proofs.Ytefmkmhjbfpelaa.QM
namespace Go.Proofs.Ytefmkmhjbfpelaa.QM
open Go.RowKit Go.Proofs.Ytefmkmhjbfpelaa Go.Proofs.YtefmkmhjbfpelaaW.PrintWords Go.Proofs.Ytefmkmhjbfpelaa.Ev0
theorem addL_len (l : List LX) (x : LX) (h : l.length ≤ 200) : (addL l x).length ≤ 200 := by
  unfold addL
  split
  · rename_i hp
    have := hp.2.1
    omega
  · exact h
theorem addL_ok (l : List LX) (x : LX) (h : ∀ y ∈ l, okS y) (hx : okS x) : ∀ y ∈ addL l x, okS y := by
  unfold addL
  split
  · intro y hy
    exact ((insL_mem l x y).1 hy).elim (fun e => e ▸ hx) (h y)
  · exact h
theorem dline_ev (b : List Int) (hb : (b.length : Int) ≤ 1048576) (t m s : Int) (ht : Pl b t) :
    ∃ (x : LX) (t' m' : Int), Evt (fun k => spec_l01Src_l09Line.f k b t m s) (x.f0, x.f1, x.f2, x.f3, x.f4, x.f5, x.f6, x.f7, t', m', s) ∧ Pl b t' ∧ okS x := by
  obtain ⟨p, q, n, i, o, u, g, c, t', m', h, hp, h1, h2, h3⟩ := line_ev b hb t m s ht
  exact ⟨⟨p, q, n, i, o, u, g, c⟩, t', m', h, hp, by dsimp only at h1; exact Int.le_trans h1 (by decide), by dsimp only at h2; exact Int.le_trans h2 (by decide), by dsimp only at h3; exact Int.le_trans h3 (by decide)⟩
def okQL (q : List LX) : Prop := q.length ≤ 300 ∧ ∀ x ∈ q, okS x
theorem dlines_j2 (b : List Int) (hb : (b.length : Int) ≤ 1048576) (t m s : Int) (ht : Pl b t) (q : List LX) (hq : q.length ≤ 250) (hqo : ∀ x ∈ q, okS x) : ∃ q' t' m', Evt (fun k => spec_l01Src_l09Lines.j2 k q b t m s) (q', t', m', s) ∧ Pl b t' ∧ okQL q' := by
  obtain ⟨r, t1, m1, e1, h1⟩ := draw_one_ev b hb t m s 15 ht (by decide)
  by_cases hr : r = true
  · obtain ⟨x, t2, m2, e2, h2, hx⟩ := dline_ev b hb t1 m1 s h1
    refine ⟨q ++ [x], t2, m2, Evt.succ ?_, h2, by simp; omega, fun y hy => (List.mem_append.1 hy).elim (hqo y) (fun hy => by rw [List.mem_singleton.1 hy]; exact hx)⟩
    simp only [spec_l01Src_l09Lines.j2, e1, Option.bind_some, List.nil_append]
    exact Evt.pos hr (Evt.pos (by simp; omega) (Evt.bind e2 (Evt.pos (by omega) (Evt.pure _))))
  · refine ⟨q, t1, m1, Evt.succ ?_, h1, by omega, hqo⟩
    simp only [spec_l01Src_l09Lines.j2, e1, Option.bind_some]
    exact Evt.neg hr (Evt.pure _)
theorem dlines_l1 (b : List Int) (hb : (b.length : Int) ≤ 1048576) (s : Int) (d : Nat) : ∀ (q : List LX) (i t m : Int), Pl b t → q.length ≤ 250 → (∀ x ∈ q, okS x) → 202 - (q.length : Int) ≤ d → ∃ q' t' m', Evt (fun k => spec_l01Src_l09Lines.l1 k q i b t m s) (q', t', m', s) ∧ Pl b t' ∧ okQL q' := by
  induction d with
  | zero =>
    intro q i t m ht hq hqo hd
    obtain ⟨x, t1, m1, e1, h1, z0, z1⟩ := n_ev b hb t m s 3 ht (by decide)
    obtain ⟨q', t', m', h, h2⟩ := dlines_j2 b hb t1 m1 s h1 q hq hqo
    refine ⟨q', t', m', Evt.succ ?_, h2⟩
    have hw : wrap64 (199 + x) = 199 + x := w64 (by omega) (by omega)
    simp only [spec_l01Src_l09Lines.l1, e1, Option.bind_some, hw]
    exact Evt.neg (by omega) h
  | succ d ih =>
    intro q i t m ht hq hqo hd
    obtain ⟨x, t1, m1, e1, h1, z0, z1⟩ := n_ev b hb t m s 3 ht (by decide)
    have hw : wrap64 (199 + x) = 199 + x := w64 (by omega) (by omega)
    by_cases g : (q.length : Int) < 199 + x
    · obtain ⟨q', t', m', h, h2⟩ := ih (q ++ [(⟨⟨#[65, 67, 77, 69]⟩, ⟨#[80, 79, 45, 49]⟩, wrap64 (i + 1), ⟨#[78, 85, 84]⟩, 5, 0, 0, 0⟩ : LX)]) (wrap64 (i + 1)) t1 m1 h1 (by simp; omega) (fun y hy => by
        rcases List.mem_append.1 hy with hy | hy
        · exact hqo y hy
        · rw [List.mem_singleton.1 hy]
          exact ⟨by show (((⟨#[65, 67, 77, 69]⟩ : ByteArray).size : Int)) ≤ 9223372036854775807; decide, by show (((⟨#[80, 79, 45, 49]⟩ : ByteArray).size : Int)) ≤ 9223372036854775807; decide, by show (((⟨#[78, 85, 84]⟩ : ByteArray).size : Int)) ≤ 9223372036854775807; decide⟩) (by simp; omega)
      refine ⟨q', t', m', Evt.succ ?_, h2⟩
      simp only [spec_l01Src_l09Lines.l1, e1, Option.bind_some, hw]
      exact Evt.pos g (Evt.pos (by omega) h)
    · obtain ⟨q', t', m', h, h2⟩ := dlines_j2 b hb t1 m1 s h1 q hq hqo
      refine ⟨q', t', m', Evt.succ ?_, h2⟩
      simp only [spec_l01Src_l09Lines.l1, e1, Option.bind_some, hw]
      exact Evt.neg g h
theorem dlines_end (b : List Int) (hb : (b.length : Int) ≤ 1048576) (t m s : Int) (ht : Pl b t) (q : List LX) (hq : q.length ≤ 200) (hqo : ∀ x ∈ q, okS x) (i : Int) (hi : ¬ i > 0) : ∃ q' t' m', Evt (fun k => spec_l01Src_l09Lines.l0 (k + 1) q i b t m s) (q', t', m', s) ∧ Pl b t' ∧ okQL q' := by
  obtain ⟨r, t1, m1, e1, h1⟩ := draw_one_ev b hb t m s 50 ht (by decide)
  by_cases hr : r = true
  · obtain ⟨q', t', m', h, h2⟩ := dlines_l1 b hb s 202 [] 0 t1 m1 h1 (by simp) (by simp) (by simp)
    refine ⟨q', t', m', ?_, h2⟩
    simp only [spec_l01Src_l09Lines.l0, e1, Option.bind_some]
    exact Evt.neg hi (Evt.pos hr h)
  · obtain ⟨q', t', m', h, h2⟩ := dlines_j2 b hb t1 m1 s h1 q (by omega) hqo
    refine ⟨q', t', m', ?_, h2⟩
    simp only [spec_l01Src_l09Lines.l0, e1, Option.bind_some]
    exact Evt.neg hi (Evt.neg hr h)
theorem dlines_l0 (b : List Int) (hb : (b.length : Int) ≤ 1048576) (s : Int) (d : Nat) : ∀ (q : List LX) (i t m : Int), Pl b t → q.length ≤ 200 → (∀ x ∈ q, okS x) → i ≤ d → i ≤ 1000 → ∃ q' t' m', Evt (fun k => spec_l01Src_l09Lines.l0 k q i b t m s) (q', t', m', s) ∧ Pl b t' ∧ okQL q' := by
  induction d with
  | zero =>
    intro q i t m ht hq hqo hd _
    obtain ⟨q', t', m', h, h2⟩ := dlines_end b hb t m s ht q hq hqo i (by omega)
    exact ⟨q', t', m', h.succ, h2⟩
  | succ d ih =>
    intro q i t m ht hq hqo hd h1000
    by_cases g : i > 0
    · obtain ⟨x, t2, m2, e2, h2, hx⟩ := dline_ev b hb t m s ht
      have hput := specAdd_ev q x (by omega) hqo hx
      have hw : wrap64 (i - 1) = i - 1 := w64 (by omega) (by omega)
      obtain ⟨q', t', m', h, h3⟩ := ih (addL q x) (i - 1) t2 m2 h2 (addL_len q x hq) (addL_ok q x hqo hx) (by omega) (by omega)
      refine ⟨q', t', m', Evt.succ ?_, h3⟩
      simp only [spec_l01Src_l09Lines.l0, hw]
      exact Evt.pos g (Evt.bind e2 (Evt.bind hput h))
    · obtain ⟨q', t', m', h, h2⟩ := dlines_end b hb t m s ht q hq hqo i g
      exact ⟨q', t', m', h.succ, h2⟩
theorem dlines_ev (b : List Int) (hb : (b.length : Int) ≤ 1048576) (t m s : Int) (ht : Pl b t) (s0 : 0 ≤ s) (s1 : s ≤ 12) : ∃ q' t' m', Evt (fun k => spec_l01Src_l09Lines.f k b t m s) (q', t', m', s) ∧ Pl b t' ∧ okQL q' := by
  have hw : wrap64 (4 + s) = 4 + s := w64 (by omega) (by omega)
  obtain ⟨x, t1, m1, e1, h1, z0, z1⟩ := n_ev b hb t m s (4 + s) ht (by omega)
  obtain ⟨q', t', m', h, h2⟩ := dlines_l0 b hb s 20 [] x t1 m1 h1 (by simp) (by simp) (by omega) (by omega)
  refine ⟨q', t', m', ?_, h2⟩
  unfold spec_l01Src_l09Lines.f
  simp only [hw, e1, Option.bind_some]
  exact h
end Go.Proofs.Ytefmkmhjbfpelaa.QM
namespace Go.Proofs.Ytefmkmhjbfpelaa.QM
open Go.RowKit Go.Proofs.Ytefmkmhjbfpelaa Go.Proofs.YtefmkmhjbfpelaaW.PrintWords Go.Proofs.Ytefmkmhjbfpelaa.Ev0
def okK (x : S117) : Prop := (x.f0.size : Int) ≤ 9223372036854775807
theorem okK_at {l : List S117} (h : ∀ x ∈ l, okK x) (i : Int) (h1 : i < (l.length : Int)) (h0 : 0 ≤ i) : okK (rd_T117 l i) := by
  unfold rd_T117
  rw [getD_at l _ _ (by omega)]
  exact h _ (List.getElem_mem _)
def stockAt (l : List S117) (i : Int) : Prop :=
  nameB (rd_T117 l i).f0 = true ∧ (0 ≤ (rd_T117 l i).f1 ∧ (rd_T117 l i).f1 ≤ 1000000000) ∧ (0 < i → less (rd_T117 l (i - 1)).f0 (rd_T117 l i).f0)
def BookP (l : List S117) (m : List S54) : Prop := (l.length : Int) ≤ 100 ∧ (∀ i, 0 ≤ i → i < (l.length : Int) → stockAt l i) ∧ linesB m = true
noncomputable def bookB (l : List S117) (m : List S54) : Bool := B (BookP l m)
theorem specBook_ev (l : List S117) (m : List S54) (hs : ∀ x ∈ l, okK x) (hm : ∀ x ∈ m, okS x) : Evt (fun k => spec_BookRight.f k l m) (bookB l m) := by
  unfold spec_BookRight.f
  have bad : ¬ BookP l m → Evt (fun k => spec_BookRight.j0 k true l m) (bookB l m) := fun h => by
    apply Evt.succ
    simp only [spec_BookRight.j0, if_true]
    exact (Evt.pure false).same (B_false h).symm
  by_cases hn : (l.length : Int) > 100
  · exact Evt.pos hn (bad (fun h => by have := h.1; omega))
  · refine Evt.neg hn (Evt.bind (specLines_ev m hm) ?_)
    by_cases hl : linesB m = true
    · rw [hl]
      simp only [Bool.not_true]
      apply Evt.succ
      simp only [spec_BookRight.j0, Bool.false_eq_true, if_false]
      refine (right_loop (l.length : Int) (by omega) (stockAt l) True (fun k i => spec_BookRight.l0 k i l m) ?_ ?_).same (B_congr ⟨fun h => ⟨by omega, h.1, hl⟩, fun h => ⟨h.2.1, trivial⟩⟩)
      · intro i h0 hlt
        have hk := okK_at hs i hlt h0
        have hw : wrap64 (i + 1) = i + 1 := w64 (by omega) (by omega)
        have hw1 : wrap64 (i - 1) = i - 1 := w64 (by omega) (by omega)
        simp only [spec_BookRight.l0, hw, hw1]
        refine ⟨fun ok r hr => ?_, fun nok => ?_⟩
        · exact Evt.pos hlt (Evt.pos h0 (Evt.bind (specName_ev _ hk) (Evt.pos ok.1 (Evt.neg (by have := ok.2.1.1; omega) (Evt.neg (by have := ok.2.1.2; omega) (Evt.ite (fun hp => Evt.pos (by omega) (Evt.pos (by omega) (Evt.pos (ok.2.2 hp) hr))) (fun _ => hr)))))))
        · exact Evt.pos hlt (Evt.pos h0 (Evt.bind (specName_ev _ hk) (Evt.ite (fun g1 => Evt.ite (fun _ => Evt.pure _) (fun g2 => Evt.ite (fun _ => Evt.pure _) (fun g3 => Evt.ite (fun hp => Evt.pos (by omega) (Evt.pos (by omega) (Evt.neg (fun hb => nok ⟨g1, ⟨by omega, by omega⟩, fun _ => hb⟩) (Evt.pure _)))) (fun hp => absurd ⟨g1, ⟨by omega, by omega⟩, fun h => absurd h hp⟩ nok)))) (fun _ => Evt.pure _))))
      · simp only [spec_BookRight.l0]
        exact Evt.neg (by omega) ((Evt.pure true).same (B_true trivial).symm)
    · rw [Bool.eq_false_iff.2 hl]
      simp only [Bool.not_false]
      exact bad (fun h => hl h.2.2)
theorem implBook_ev (l : List S117) (m : List S54) (hs : ∀ x ∈ l, okK x) (hm : ∀ x ∈ m, okS x) : Evt (fun k => impl_BookRight.f k l m) (bookB l m) := by
  unfold impl_BookRight.f
  by_cases hn : (l.length : Int) > 100
  · exact Evt.pos hn ((Evt.pure false).same (B_false (fun h => by have := h.1; omega)).symm)
  · refine Evt.neg hn ?_
    refine (right_loop (l.length : Int) (by omega) (stockAt l) (linesB m = true) (fun k i => impl_BookRight.l0 k l (l.length : Int) i l m) ?_ ?_).same (B_congr ⟨fun h => ⟨by omega, h⟩, fun h => h.2⟩)
    · intro i h0 hlt
      have hk := okK_at hs i hlt h0
      have hw : wrap64 (i + 1) = i + 1 := w64 (by omega) (by omega)
      have hw1 : wrap64 (i - 1) = i - 1 := w64 (by omega) (by omega)
      simp only [impl_BookRight.l0, hw, hw1, within_ev, Option.bind_some]
      refine ⟨fun ok r hr => ?_, fun nok => ?_⟩
      · exact Evt.pos hlt (Evt.pos h0 (Evt.pos hlt (Evt.bind (implName_ev _ hk) (Evt.pos ok.1 (Evt.pos (B_true ok.2.1) (Evt.ite (fun hp => Evt.pos (by omega) (Evt.pos (by omega) (Evt.pos (ok.2.2 hp) hr))) (fun _ => hr)))))))
      · exact Evt.pos hlt (Evt.pos h0 (Evt.pos hlt (Evt.bind (implName_ev _ hk) (Evt.ite (fun g1 => Evt.ite (fun g2 => Evt.ite (fun hp => Evt.pos (by omega) (Evt.pos (by omega) (Evt.neg (fun hb => nok ⟨g1, B_iff.1 g2, fun _ => hb⟩) (Evt.pure _)))) (fun hp => absurd ⟨g1, B_iff.1 g2, fun h => absurd h hp⟩ nok)) (fun _ => Evt.pure _)) (fun _ => Evt.pure _)))))
    · simp only [impl_BookRight.l0]
      refine Evt.neg (by omega) (Evt.bind (implLines_ev m hm) ((Evt.pure _).same ?_))
      exact bool_B Iff.rfl
end Go.Proofs.Ytefmkmhjbfpelaa.QM
namespace Go.Proofs.Ytefmkmhjbfpelaa.QM
open Go.RowKit Go.Proofs.YtefmkmhjbfpelaaW.PrintWords Go.Proofs.Ytefmkmhjbfpelaa.Ev0
theorem longText_ev (l : List ByteArray) (hl : l.length ≤ 1000) : Evt (fun k => impl_longText.f k l) (B (∃ x ∈ l, (x.size : Int) > 20000)) := by
  unfold impl_longText.f slices_ContainsFunc_string_string_impl_longText_1.f slices_IndexFunc_string_string_impl_longText_1.f
  obtain ⟨r, hr, h⟩ := find_loop (l.length : Int) (by omega) (fun i => ((rdOf ByteArray.empty l i).size : Int) > 20000) (fun k i => slices_IndexFunc_string_string_impl_longText_1.l0 k l (l.length : Int) i) (by
      intro i h0 hlt
      have hw : wrap64 (i + 1) = i + 1 := w64 (by omega) (by omega)
      simp only [slices_IndexFunc_string_string_impl_longText_1.l0, impl_longText_1.f, Option.bind_some, hw]
      exact ⟨fun hp => Evt.pos hlt (Evt.pos h0 (Evt.pos hlt (Evt.pos (decide_eq_true hp) (Evt.pure _)))), fun hp r hr => Evt.pos hlt (Evt.pos h0 (Evt.pos hlt (Evt.neg (by simpa using hp) hr)))⟩) (by
      simp only [slices_IndexFunc_string_string_impl_longText_1.l0]
      exact Evt.neg (by omega) (Evt.pure _))
  have at_ : ∀ i : Int, 0 ≤ i → i < (l.length : Int) → rdOf ByteArray.empty l i ∈ l := fun i h0 h1 => by
    unfold rdOf
    rw [getD_at l _ _ (by omega)]
    exact List.getElem_mem _
  refine Evt.bind (Evt.bind hr (Evt.pure _)) ((Evt.pure _).same ?_)
  rw [decide_B]
  refine B_congr ⟨fun hg => ?_, fun ⟨x, hx, hg⟩ => ?_⟩
  · rcases h with ⟨h1, _⟩ | ⟨h1, h2, h3, _⟩
    · omega
    · exact ⟨_, at_ r h1 h2, h3⟩
  · rcases h with ⟨h1, h2⟩ | ⟨h1, _⟩
    · obtain ⟨i, hi, rfl⟩ := List.mem_iff_getElem.1 hx
      refine absurd ?_ (h2 i (by omega) (by omega))
      show ((rdOf ByteArray.empty l (i : Int)).size : Int) > 20000
      unfold rdOf
      rw [Int.toNat_natCast, getD_at l _ _ hi]
      exact hg
    · exact h1
theorem longText1_ev (s : ByteArray) : Evt (fun k => impl_longText.f k [s]) (B ((s.size : Int) > 20000)) :=
  (longText_ev [s] (by simp)).same (B_congr ⟨fun ⟨x, hx, h⟩ => by rw [List.mem_singleton.1 hx] at h; exact h, fun h => ⟨s, by simp, h⟩⟩)
end Go.Proofs.Ytefmkmhjbfpelaa.QM
namespace Go.Proofs.Ytefmkmhjbfpelaa.QM
open Go.RowKit Go.Proofs.Ytefmkmhjbfpelaa Go.Proofs.YtefmkmhjbfpelaaW.PrintWords Go.Proofs.Ytefmkmhjbfpelaa.Ev0
abbrev KX := S117
theorem stocks_less (l : List KX) (m : List S54) (h : BookP l m) (i j : Int) (h0 : 0 ≤ i) (hij : i < j) (hj : j < (l.length : Int)) : less (rd_T117 l i).f0 (rd_T117 l j).f0 := by
  obtain ⟨_, hs, _⟩ := h
  have key : ∀ (d : Nat) (j : Int), i < j → j < (l.length : Int) → j - i ≤ d + 1 → less (rd_T117 l i).f0 (rd_T117 l j).f0 := by
    intro d
    induction d with
    | zero =>
      intro j h1 h2 h3
      have e : i = j - 1 := by omega
      have := (hs j (by omega) h2).2.2 (by omega)
      rw [e]
      exact this
    | succ d ih =>
      intro j h1 h2 h3
      by_cases g : i < j - 1
      · exact less_tr (ih (j - 1) g (by omega) (by omega)) ((hs j (by omega) h2).2.2 (by omega))
      · have e : i = j - 1 := by omega
        have := (hs j (by omega) h2).2.2 (by omega)
        rw [e]
        exact this
  exact key (j - i).toNat j hij hj (by omega)
def PlaceOf (l : List KX) (q : ByteArray) (p : Int) : Prop := (p = -1 ∧ ∀ i, 0 ≤ i → i < (l.length : Int) → ¬ (rd_T117 l i).f0.toList = q.toList) ∨ (0 ≤ p ∧ p < (l.length : Int) ∧ (rd_T117 l p).f0.toList = q.toList)
theorem specStock_ev (l : List KX) (m : List S54) (q : ByteArray) (hl : (l.length : Int) ≤ 100) : ∃ p, Evt (fun k => spec_l10Stock.f k l m q) p ∧ PlaceOf l q p := by
  have hf := find_loop (l.length : Int) (by omega) (fun i => (rd_T117 l i).f0.toList = q.toList) (fun k i => spec_l10Stock.l0 k q i l m) ?_ ?_
  · obtain ⟨r, h1, h2⟩ := hf
    exact ⟨r, h1, h2.imp id (fun h => ⟨h.1, h.2.1, h.2.2.1⟩)⟩
  · intro i h0 hlt
    have hw : wrap64 (i + 1) = i + 1 := w64 (by omega) (by omega)
    simp only [spec_l10Stock.l0, hw]
    exact ⟨fun g => Evt.pos hlt (Evt.pos h0 (Evt.pos g (Evt.pure _))), fun g r hr => Evt.pos hlt (Evt.pos h0 (Evt.neg g hr))⟩
  · simp only [spec_l10Stock.l0]
    exact Evt.neg (by omega) (Evt.pure _)
end Go.Proofs.Ytefmkmhjbfpelaa.QM
