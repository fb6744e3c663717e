-- Merged by a program of this session (wip/tool/pack.py) out of its own texts for this claim.
import Derived.Test.YtefmkmhjbfpelaaKFnExactOutboxPut0
import Derived.Test.YtefmkmhjbfpelaaKFnExactOutboxPut1
import Derived.Test.YtefmkmhjbfpelaaKFnExactOutboxPut2
import Derived.Test.YtefmkmhjbfpelaaKFnExactOutboxPut4
namespace Go.Proofs.Ytefmkmhjbfpelaa.QO
open Go.RowKit Go.Proofs.YtefmkmhjbfpelaaW.PrintWords Go.Proofs.YtefmkmhjbfpelaaW.PrintLast Go.Proofs.YtefmkmhjbfpelaaW.PrintMore
attribute [local go_sem] max2_int min2_int max_two min_two max_three min_three max_four min_four   -- for this text's walks alone
set_option linter.unusedVariables false
set_option linter.unusedSimpArgs false
def impl_Out_impl_outOrder.T5 : Bool × List (List Nat × List Nat) := (true, [([], []), ([], []), ([], []), ([1, 2], [1, 2]), ([3], [3]), ([], []), ([0, 4, 5], [0, 4, 5]), ([6], [6])])
def impl_Out_impl_outOrder.B5 : List Nat := [0, 0, 0, 6, 14, 0, 63, 127]
theorem impl_Out_impl_outOrder.tab5 : rtab .any (opsOf Try.f109 5) = impl_Out_impl_outOrder.T5 := by kernel_rfl
theorem impl_Out_impl_outOrder.bits5 : waitsOk impl_Out_impl_outOrder.T5.2 impl_Out_impl_outOrder.B5 = true := by kernel_rfl
def impl_Out_impl_outOrder.T8 : Bool × List (List Nat × List Nat) := (true, [([], []), ([], []), ([], []), ([1, 2], [1, 2]), ([3], [3]), ([4], [4]), ([4], [4]), ([4], [4]), ([6, 7, 4], [4, 6, 7]), ([8, 4], [4, 8]), ([4], [4]), ([5, 9, 10, 4, 4], [4, 5, 9, 10]), ([11, 4], [4, 11]), ([4, 12], [4, 12]), ([0, 11, 0], [0]), ([13, 14, 0, 1, 2, 3, 4, 5, 6, 7, 8, 9, 10, 11, 12, 13, 14], [13])])
def impl_Out_impl_outOrder.B8 : List Nat := [0, 0, 0, 6, 14, 30, 30, 30, 222, 478, 30, 2046, 4094, 8190, 4095, 32767]
theorem impl_Out_impl_outOrder.tab8 : rtab .any (opsOf Try.f109 8) = impl_Out_impl_outOrder.T8 := by kernel_rfl
theorem impl_Out_impl_outOrder.bits8 : waitsOk impl_Out_impl_outOrder.T8.2 impl_Out_impl_outOrder.B8 = true := by kernel_rfl
set_option maxHeartbeats 8000000 in
set_option maxRecDepth 100000 in
theorem impl_Out_impl_outOrder.calls (k : Nat) (A0 : Option Addr) (c0 : Nat) (l0 : List (S24)) (a1_0 : ByteArray) (a1_1 : Int) (a1_2 : ByteArray) (a1_3 : Int) (a1_4 : Int)  (r1 : Int) (r2 : Bool) (w : World) (hr0 : Kd.C k24 w A0 l0.length l0) (hc0 : l0.length ≤ c0) (h : impl_Out_impl_outOrder.f k l0 a1_0 a1_1 a1_2 a1_3 a1_4 = some (r1, r2)) :
    Calls Try.prog 109 #[.slice A0 l0.length c0, .agg #[.string a1_0, .int .i64 a1_1, .string a1_2, .int .i64 a1_3, .int .i64 a1_4], .func (.func 81) #[] #[]] w fun e w' => e = .returned (.tuple #[.int .i64 r1, .bool r2]) ∧ Below w.heap.size w w' := by
  have hu24 := Try.underlying24; have HR0 := Aside0.mk hr0; have HC0 := Aside0.mk hc0; clear hr0 hc0; have HB := Aside0.mk (Below.refl w.heap.size w); have H : (impl_Out_impl_outOrder.l0 k l0 (l0.length : Int) 0 (l0.length : Int) a1_0 a1_1 a1_2 a1_3 a1_4) = some (r1, r2) := h; clear h; have H' := Aside0.mk H; clear H
  go_enter Try.func109, Try.ntmps109
  go_wp2_with (first | ((with_reducible refine gate_dst (N := 4) rfl ?_); refine bx 4 (cs := #[.string a1_0, .int .i64 a1_1, .string a1_2, .int .i64 a1_3, .int .i64 a1_4]) (t := 24) ?_; intro gb212 hg w4 hbox hb; have BK212 := Aside0.mk (hbox); have GW212 := Aside0.mk ((gs hg (bs HB))); have GE212 := Aside0.mk ((gs hg (bs HB))); replace HB := Aside0.mk (below_step (bs HB) hb); clear hb hbox hg))
  go_loopg [9, 10] k (fun kq v9 v10 w' => ∃ (x9_1 : Int) (x10_1 : Int), v9 = .int .i64 x9_1 ∧ v10 = .int .i64 x10_1 ∧ Aside0 (impl_Out_impl_outOrder.l0 kq l0 (l0.length : Int) x9_1 x10_1 a1_0 a1_1 a1_2 a1_3 a1_4 = some (r1, r2)) ∧ Aside0 (kq ≤ k) ∧ Aside0 (w'.heap[gb212]? = some (.cells #[.string a1_0, .int .i64 a1_1, .string a1_2, .int .i64 a1_3, .int .i64 a1_4] 24 (0, 0))) ∧ Aside0 (Below w.heap.size w w'))
  case atStart => exact ⟨(0), ((l0.length : Int)), fg, fg, H', ⟨Nat.le_refl _⟩, ⟨ks BK212⟩, ⟨bs HB⟩⟩
  case round =>
    clear H'
    try clear c1
    try clear p2
    obtain ⟨x9_1, x10_1, rfl, rfl, HA, HK1, BK212, HB⟩ := hrel
    cases gk with
    | zero => exact absurd HA.out (by simp [impl_Out_impl_outOrder.l0])
    | succ k1 =>
      have H := HA.out; clear HA; simp only [impl_Out_impl_outOrder.l0] at H
      by_cases c5 : x9_1 < x10_1
      · rw [if_pos c5] at H; have c5b0 : decide (x9_1 < x10_1) = true := decide_eq_true c5; clear c5; obtain ⟨ji6, hji6⟩ : ∃ j_ : Int, (wrap64 ((IntKind.u64.wrap (wrap64 (x9_1 + x10_1))) / 2)) = j_ := ⟨_, rfl⟩
        replace H : (if 0 ≤ (ji6) then (if (ji6) < (l0.length : Int) then ((impl_outOrder.f k1 ((rd_T24 l0 (ji6)).f0) ((rd_T24 l0 (ji6)).f1) ((rd_T24 l0 (ji6)).f2) ((rd_T24 l0 (ji6)).f3) ((rd_T24 l0 (ji6)).f4) a1_0 a1_1 a1_2 a1_3 a1_4).bind fun t214 => (if t214 < 0 then (impl_Out_impl_outOrder.l0 k1 l0 (l0.length : Int) (wrap64 ((ji6) + 1)) x10_1 a1_0 a1_1 a1_2 a1_3 a1_4) else (impl_Out_impl_outOrder.l0 k1 l0 (l0.length : Int) x9_1 ji6 a1_0 a1_1 a1_2 a1_3 a1_4))) else (none)) else (none)) = some (r1, r2) := by first | (rw [hji6] at H; exact H) | (simp only [hji6] at H ⊢; exact H)
        have hji6w : (IntKind.i64.wrap ((IntKind.u64.wrap (wrap64 (x9_1 + x10_1))) / 2)) = ji6 := (i64_w _).trans hji6
        by_cases c7 : 0 ≤ (ji6)
        · rw [if_pos c7] at H; have c7b0 : decide (0 ≤ (ji6)) = true := decide_eq_true c7; clear c7
          by_cases c8 : (ji6) < (l0.length : Int)
          · rw [if_pos c8] at H; have c8b0 : decide ((ji6) < (l0.length : Int)) = true := decide_eq_true c8; clear c8; replace H := Option.bind_eq_some_iff.mp H; obtain ⟨t214, A90, H⟩ := H; replace H : (if t214 < 0 then (impl_Out_impl_outOrder.l0 k1 l0 (l0.length : Int) (wrap64 ((ji6) + 1)) x10_1 a1_0 a1_1 a1_2 a1_3 a1_4) else (impl_Out_impl_outOrder.l0 k1 l0 (l0.length : Int) x9_1 ji6 a1_0 a1_1 a1_2 a1_3 a1_4)) = some (r1, r2) := H; have A9 := Aside0.mk A90; clear A90
            by_cases c10 : t214 < 0
            · rw [if_pos c10] at H; have c10b0 : decide (t214 < 0) = true := decide_eq_true c10; clear c10; have H' := Aside0.mk H; clear H
              try go_wp2
              replace BK212 := Aside0.mk (blk_drew BK212.out); replace HB := Aside0.mk (below_drew1 HB.out); have p213 : 0 ≤ ((ji6) : Int) := oa; have q213 : (ji6) < (l0.length : Int) := oa; obtain ⟨ad213, e213, hx213_0, hx213_1, hx213_2, hx213_3, hx213_4⟩ := at_T24 HR0.out (ji6) p213 q213; have hw213_4 := hx213_4; have hw213_3 := hx213_3; have hw213_2 := hx213_2; have hw213_1 := hx213_1; have hw213_0 := hx213_0
              cases e213
              replace hx213_0 := cb HB hx213_0; replace hx213_1 := cb HB hx213_1; replace hx213_2 := cb HB hx213_2; replace hx213_3 := cb HB hx213_3; replace hx213_4 := cb HB hx213_4; replace p213 := eq_true p213; replace q213 := eq_true q213; refine start_ (n := 8) (S := fun w' => w'.cell? ⟨gb212, 0, none⟩ = some (.string a1_0) ∧ w'.cell? ⟨gb212, 1, none⟩ = some (.int .i64 a1_1) ∧ w'.cell? ⟨gb212, 2, none⟩ = some (.string a1_2) ∧ w'.cell? ⟨gb212, 3, none⟩ = some (.int .i64 a1_3) ∧ w'.cell? ⟨gb212, 4, none⟩ = some (.int .i64 a1_4) ∧ w'.cell? (ad213.add (((ji6)).toNat * 5)) = some (.string ((rd_T24 l0 (ji6)).f0)) ∧ w'.cell? ⟨(ad213.add (((ji6)).toNat * 5)).block, (ad213.add (((ji6)).toNat * 5)).off + 1, none⟩ = some (.int .i64 ((rd_T24 l0 (ji6)).f1)) ∧ w'.cell? ⟨(ad213.add (((ji6)).toNat * 5)).block, (ad213.add (((ji6)).toNat * 5)).off + 2, none⟩ = some (.string ((rd_T24 l0 (ji6)).f2)) ∧ w'.cell? ⟨(ad213.add (((ji6)).toNat * 5)).block, (ad213.add (((ji6)).toNat * 5)).off + 3, none⟩ = some (.int .i64 ((rd_T24 l0 (ji6)).f3)) ∧ w'.cell? ⟨(ad213.add (((ji6)).toNat * 5)).block, (ad213.add (((ji6)).toNat * 5)).off + 4, none⟩ = some (.int .i64 ((rd_T24 l0 (ji6)).f4))) (ds := []) #[false, false, false, false, false, false, false, false] (by kernel_rfl) rfl rfl ⟨(blk_cell BK212.out 0).trans rfl, (blk_cell BK212.out 1).trans rfl, (blk_cell BK212.out 2).trans rfl, (blk_cell BK212.out 3).trans rfl, (blk_cell BK212.out 4).trans rfl, ((cb HB hw213_0).trans rfl), ((cb HB hw213_1).trans rfl), ((cb HB hw213_2).trans rfl), ((cb HB hw213_3).trans rfl), ((cb HB hw213_4).trans rfl)⟩ (fun hHeld => ?_); refine with_tabW impl_Out_impl_outOrder.tab5 impl_Out_impl_outOrder.bits5 (fun HT_ HW_ => ?_)
              generalize wr.drew = w11 at BK212 HB hx213_0 hx213_1 hx213_2 hx213_3 hx213_4 hHeld ⊢
              refine pA 0 24 HT_ ?_; refine pA 1 25 HT_ ?_; refine pA 2 26 HT_ ?_; refine pA 3 27 HT_ ?_; refine tA 4 28 HT_ HW_ hHeld ?_; refine tA 5 29 HT_ HW_ hHeld ?_; refine oA 6 30 HT_ (fun K hK => ?_); refine goesV_ Try.func81 (by kernel_rfl) rfl #[.agg #[.string ((rd_T24 l0 (ji6)).f0), .int .i64 ((rd_T24 l0 (ji6)).f1), .string ((rd_T24 l0 (ji6)).f2), .int .i64 ((rd_T24 l0 (ji6)).f3), .int .i64 ((rd_T24 l0 (ji6)).f4)], .agg #[.string a1_0, .int .i64 a1_1, .string a1_2, .int .i64 a1_3, .int .i64 a1_4]] (by rfl) rfl rfl (by rfl) (by (try simp only [List.map_toArray, List.map_cons, List.map_nil]); first | done | (simp only [hji6]; rfl) | rfl | (simp only [List.length_drop, List.length_take]; rfl)) ?_; (with_reducible refine (impl_outOrder.calls k1 ((rd_T24 l0 (ji6)).f0) ((rd_T24 l0 (ji6)).f1) ((rd_T24 l0 (ji6)).f2) ((rd_T24 l0 (ji6)).f3) ((rd_T24 l0 (ji6)).f4) a1_0 a1_1 a1_2 a1_3 a1_4 t214 _ A9.out).mono ?_); rintro e w12 ⟨rfl, hb⟩; refine ⟨_, rfl, ?_⟩; replace BK212 := Aside0.mk (blk_below (ks BK212) hb); replace HB := Aside0.mk (below_step (bs HB) hb); (try clear hb); (try clear hb2); (try clear hk); (try clear hi); refine hK.out _ _ ⟨(blk_cell BK212.out 0).trans rfl, (blk_cell BK212.out 1).trans rfl, (blk_cell BK212.out 2).trans rfl, (blk_cell BK212.out 3).trans rfl, (blk_cell BK212.out 4).trans rfl, ((cb HB hw213_0).trans rfl), ((cb HB hw213_1).trans rfl), ((cb HB hw213_2).trans rfl), ((cb HB hw213_3).trans rfl), ((cb HB hw213_4).trans rfl)⟩ (fun hHeld => ?_); clear hK K; refine nA 30 ?_; refine pA 7 31 HT_ ?_; refine done_ (done_of HT_.out (by kernel_rfl)) ?_
              try go_wp2
              go_roundg k1
              case measure => have := HK1.out; omega
              case rel => exact ⟨(wrap64 ((ji6) + 1)), (x10_1), (by first | rfl | (simp; done) | (simp only [← hji6] <;> (first | rfl | simp)) | (simp [*]; done)), fg, H', ⟨by have := HK1.out; omega⟩, ⟨ks BK212⟩, ⟨bs HB⟩⟩
            · rw [if_neg c10] at H; have c10b0 : decide (t214 < 0) = false := decide_eq_false c10; clear c10; have H' := Aside0.mk H; clear H
              try go_wp2
              replace BK212 := Aside0.mk (blk_drew BK212.out); replace HB := Aside0.mk (below_drew1 HB.out); have p213 : 0 ≤ ((ji6) : Int) := oa; have q213 : (ji6) < (l0.length : Int) := oa; obtain ⟨ad213, e213, hx213_0, hx213_1, hx213_2, hx213_3, hx213_4⟩ := at_T24 HR0.out (ji6) p213 q213; have hw213_4 := hx213_4; have hw213_3 := hx213_3; have hw213_2 := hx213_2; have hw213_1 := hx213_1; have hw213_0 := hx213_0
              cases e213
              replace hx213_0 := cb HB hx213_0; replace hx213_1 := cb HB hx213_1; replace hx213_2 := cb HB hx213_2; replace hx213_3 := cb HB hx213_3; replace hx213_4 := cb HB hx213_4; replace p213 := eq_true p213; replace q213 := eq_true q213; refine start_ (n := 8) (S := fun w' => w'.cell? ⟨gb212, 0, none⟩ = some (.string a1_0) ∧ w'.cell? ⟨gb212, 1, none⟩ = some (.int .i64 a1_1) ∧ w'.cell? ⟨gb212, 2, none⟩ = some (.string a1_2) ∧ w'.cell? ⟨gb212, 3, none⟩ = some (.int .i64 a1_3) ∧ w'.cell? ⟨gb212, 4, none⟩ = some (.int .i64 a1_4) ∧ w'.cell? (ad213.add (((ji6)).toNat * 5)) = some (.string ((rd_T24 l0 (ji6)).f0)) ∧ w'.cell? ⟨(ad213.add (((ji6)).toNat * 5)).block, (ad213.add (((ji6)).toNat * 5)).off + 1, none⟩ = some (.int .i64 ((rd_T24 l0 (ji6)).f1)) ∧ w'.cell? ⟨(ad213.add (((ji6)).toNat * 5)).block, (ad213.add (((ji6)).toNat * 5)).off + 2, none⟩ = some (.string ((rd_T24 l0 (ji6)).f2)) ∧ w'.cell? ⟨(ad213.add (((ji6)).toNat * 5)).block, (ad213.add (((ji6)).toNat * 5)).off + 3, none⟩ = some (.int .i64 ((rd_T24 l0 (ji6)).f3)) ∧ w'.cell? ⟨(ad213.add (((ji6)).toNat * 5)).block, (ad213.add (((ji6)).toNat * 5)).off + 4, none⟩ = some (.int .i64 ((rd_T24 l0 (ji6)).f4))) (ds := []) #[false, false, false, false, false, false, false, false] (by kernel_rfl) rfl rfl ⟨(blk_cell BK212.out 0).trans rfl, (blk_cell BK212.out 1).trans rfl, (blk_cell BK212.out 2).trans rfl, (blk_cell BK212.out 3).trans rfl, (blk_cell BK212.out 4).trans rfl, ((cb HB hw213_0).trans rfl), ((cb HB hw213_1).trans rfl), ((cb HB hw213_2).trans rfl), ((cb HB hw213_3).trans rfl), ((cb HB hw213_4).trans rfl)⟩ (fun hHeld => ?_); refine with_tabW impl_Out_impl_outOrder.tab5 impl_Out_impl_outOrder.bits5 (fun HT_ HW_ => ?_)
              generalize wr.drew = w13 at BK212 HB hx213_0 hx213_1 hx213_2 hx213_3 hx213_4 hHeld ⊢
              refine pA 0 24 HT_ ?_; refine pA 1 25 HT_ ?_; refine pA 2 26 HT_ ?_; refine pA 3 27 HT_ ?_; refine tA 4 28 HT_ HW_ hHeld ?_; refine tA 5 29 HT_ HW_ hHeld ?_; refine oA 6 30 HT_ (fun K hK => ?_); refine goesV_ Try.func81 (by kernel_rfl) rfl #[.agg #[.string ((rd_T24 l0 (ji6)).f0), .int .i64 ((rd_T24 l0 (ji6)).f1), .string ((rd_T24 l0 (ji6)).f2), .int .i64 ((rd_T24 l0 (ji6)).f3), .int .i64 ((rd_T24 l0 (ji6)).f4)], .agg #[.string a1_0, .int .i64 a1_1, .string a1_2, .int .i64 a1_3, .int .i64 a1_4]] (by rfl) rfl rfl (by rfl) (by (try simp only [List.map_toArray, List.map_cons, List.map_nil]); first | done | (simp only [hji6]; rfl) | rfl | (simp only [List.length_drop, List.length_take]; rfl)) ?_; (with_reducible refine (impl_outOrder.calls k1 ((rd_T24 l0 (ji6)).f0) ((rd_T24 l0 (ji6)).f1) ((rd_T24 l0 (ji6)).f2) ((rd_T24 l0 (ji6)).f3) ((rd_T24 l0 (ji6)).f4) a1_0 a1_1 a1_2 a1_3 a1_4 t214 _ A9.out).mono ?_); rintro e w14 ⟨rfl, hb⟩; refine ⟨_, rfl, ?_⟩; replace BK212 := Aside0.mk (blk_below (ks BK212) hb); replace HB := Aside0.mk (below_step (bs HB) hb); (try clear hb); (try clear hb2); (try clear hk); (try clear hi); refine hK.out _ _ ⟨(blk_cell BK212.out 0).trans rfl, (blk_cell BK212.out 1).trans rfl, (blk_cell BK212.out 2).trans rfl, (blk_cell BK212.out 3).trans rfl, (blk_cell BK212.out 4).trans rfl, ((cb HB hw213_0).trans rfl), ((cb HB hw213_1).trans rfl), ((cb HB hw213_2).trans rfl), ((cb HB hw213_3).trans rfl), ((cb HB hw213_4).trans rfl)⟩ (fun hHeld => ?_); clear hK K; refine nA 30 ?_; refine pA 7 31 HT_ ?_; refine done_ (done_of HT_.out (by kernel_rfl)) ?_
              try go_wp2
              go_roundg k1
              case measure => have := HK1.out; omega
              case rel => exact ⟨(x9_1), (ji6), fg, (by first | rfl | (simp; done) | (simp only [← hji6] <;> (first | rfl | simp)) | (simp [*]; done)), H', ⟨by have := HK1.out; omega⟩, ⟨ks BK212⟩, ⟨bs HB⟩⟩
          · rw [if_neg c8] at H
            exact absurd H (by simp)
        · rw [if_neg c7] at H
          exact absurd H (by simp)
      · rw [if_neg c5] at H; have c5b0 : decide (x9_1 < x10_1) = false := decide_eq_false c5; clear c5
        by_cases c15 : x9_1 < (l0.length : Int)
        · rw [if_pos c15] at H; have c15b0 : decide (x9_1 < (l0.length : Int)) = true := decide_eq_true c15; clear c15
          by_cases c16 : 0 ≤ x9_1
          · rw [if_pos c16] at H; have c16b0 : decide (0 ≤ x9_1) = true := decide_eq_true c16; clear c16
            by_cases c17 : x9_1 < (l0.length : Int)
            · rw [if_pos c17] at H; have c17b0 : decide (x9_1 < (l0.length : Int)) = true := decide_eq_true c17; clear c17; replace H := Option.bind_eq_some_iff.mp H; obtain ⟨t216, A180, H⟩ := H; replace H : (some (x9_1, (t216 == 0))) = some (r1, r2) := H; have A18 := Aside0.mk A180; clear A180; simp only [Option.some.injEq, Prod.mk.injEq] at H; obtain ⟨rfl, rfl⟩ := H
              try go_wp2
              replace BK212 := Aside0.mk (blk_drew BK212.out); replace HB := Aside0.mk (below_drew1 HB.out); have p215 : 0 ≤ (x9_1 : Int) := oa; have q215 : x9_1 < (l0.length : Int) := oa; obtain ⟨ad215, e215, hx215_0, hx215_1, hx215_2, hx215_3, hx215_4⟩ := at_T24 HR0.out x9_1 p215 q215; have hw215_4 := hx215_4; have hw215_3 := hx215_3; have hw215_2 := hx215_2; have hw215_1 := hx215_1; have hw215_0 := hx215_0
              cases e215
              replace hx215_0 := cb HB hx215_0; replace hx215_1 := cb HB hx215_1; replace hx215_2 := cb HB hx215_2; replace hx215_3 := cb HB hx215_3; replace hx215_4 := cb HB hx215_4; replace p215 := eq_true p215; replace q215 := eq_true q215; refine start_ (n := 16) (S := fun w' => w'.cell? ⟨gb212, 0, none⟩ = some (.string a1_0) ∧ w'.cell? ⟨gb212, 1, none⟩ = some (.int .i64 a1_1) ∧ w'.cell? ⟨gb212, 2, none⟩ = some (.string a1_2) ∧ w'.cell? ⟨gb212, 3, none⟩ = some (.int .i64 a1_3) ∧ w'.cell? ⟨gb212, 4, none⟩ = some (.int .i64 a1_4) ∧ w'.cell? (ad215.add ((x9_1).toNat * 5)) = some (.string ((rd_T24 l0 x9_1).f0)) ∧ w'.cell? ⟨(ad215.add ((x9_1).toNat * 5)).block, (ad215.add ((x9_1).toNat * 5)).off + 1, none⟩ = some (.int .i64 ((rd_T24 l0 x9_1).f1)) ∧ w'.cell? ⟨(ad215.add ((x9_1).toNat * 5)).block, (ad215.add ((x9_1).toNat * 5)).off + 2, none⟩ = some (.string ((rd_T24 l0 x9_1).f2)) ∧ w'.cell? ⟨(ad215.add ((x9_1).toNat * 5)).block, (ad215.add ((x9_1).toNat * 5)).off + 3, none⟩ = some (.int .i64 ((rd_T24 l0 x9_1).f3)) ∧ w'.cell? ⟨(ad215.add ((x9_1).toNat * 5)).block, (ad215.add ((x9_1).toNat * 5)).off + 4, none⟩ = some (.int .i64 ((rd_T24 l0 x9_1).f4))) (ds := []) #[false, false, false, false, false, false, false, false, false, false, false, false, false, false, false, false] (by kernel_rfl) rfl rfl ⟨(blk_cell BK212.out 0).trans rfl, (blk_cell BK212.out 1).trans rfl, (blk_cell BK212.out 2).trans rfl, (blk_cell BK212.out 3).trans rfl, (blk_cell BK212.out 4).trans rfl, ((cb HB hw215_0).trans rfl), ((cb HB hw215_1).trans rfl), ((cb HB hw215_2).trans rfl), ((cb HB hw215_3).trans rfl), ((cb HB hw215_4).trans rfl)⟩ (fun hHeld => ?_); refine with_tabW impl_Out_impl_outOrder.tab8 impl_Out_impl_outOrder.bits8 (fun HT_ HW_ => ?_)
              generalize wr.drew = w19 at BK212 HB hx215_0 hx215_1 hx215_2 hx215_3 hx215_4 hHeld ⊢
              refine pA 0 35 HT_ ?_; refine pA 1 36 HT_ ?_; refine pA 2 37 HT_ ?_; refine pA 3 38 HT_ ?_; refine pA 4 39 HT_ ?_; refine pA 5 40 HT_ ?_; refine pA 6 41 HT_ ?_; refine pA 7 42 HT_ ?_; refine pA 8 43 HT_ ?_; refine tA 9 44 HT_ HW_ hHeld ?_; refine tA 10 45 HT_ HW_ hHeld ?_; refine oA 11 46 HT_ (fun K hK => ?_); refine goesV_ Try.func81 (by kernel_rfl) rfl #[.agg #[.string ((rd_T24 l0 x9_1).f0), .int .i64 ((rd_T24 l0 x9_1).f1), .string ((rd_T24 l0 x9_1).f2), .int .i64 ((rd_T24 l0 x9_1).f3), .int .i64 ((rd_T24 l0 x9_1).f4)], .agg #[.string a1_0, .int .i64 a1_1, .string a1_2, .int .i64 a1_3, .int .i64 a1_4]] (by rfl) rfl rfl (by rfl) (by (try simp only [List.map_toArray, List.map_cons, List.map_nil]); first | done | rfl | (simp only [List.length_drop, List.length_take]; rfl)) ?_; (with_reducible refine (impl_outOrder.calls k1 ((rd_T24 l0 x9_1).f0) ((rd_T24 l0 x9_1).f1) ((rd_T24 l0 x9_1).f2) ((rd_T24 l0 x9_1).f3) ((rd_T24 l0 x9_1).f4) a1_0 a1_1 a1_2 a1_3 a1_4 t216 _ A18.out).mono ?_); rintro e w20 ⟨rfl, hb⟩; refine ⟨_, rfl, ?_⟩; replace BK212 := Aside0.mk (blk_below (ks BK212) hb); replace HB := Aside0.mk (below_step (bs HB) hb); (try clear hb); (try clear hb2); (try clear hk); (try clear hi); refine hK.out _ _ ⟨(blk_cell BK212.out 0).trans rfl, (blk_cell BK212.out 1).trans rfl, (blk_cell BK212.out 2).trans rfl, (blk_cell BK212.out 3).trans rfl, (blk_cell BK212.out 4).trans rfl, ((cb HB hw215_0).trans rfl), ((cb HB hw215_1).trans rfl), ((cb HB hw215_2).trans rfl), ((cb HB hw215_3).trans rfl), ((cb HB hw215_4).trans rfl)⟩ (fun hHeld => ?_); clear hK K; refine nA 46 ?_; refine pA 12 47 HT_ ?_; refine pA 13 48 HT_ ?_; refine pA 14 6 HT_ ?_; refine pA 15 7 HT_ ?_; refine done_ (done_of HT_.out (by kernel_rfl)) ?_
              try go_wp2
              go_ret2
              exact ⟨ff, bs HB⟩
            · rw [if_neg c17] at H
              exact absurd H (by simp)
          · rw [if_neg c16] at H
            exact absurd H (by simp)
        · rw [if_neg c15] at H; have c15b0 : decide (x9_1 < (l0.length : Int)) = false := decide_eq_false c15; clear c15; simp only [Option.some.injEq, Prod.mk.injEq] at H; obtain ⟨rfl, rfl⟩ := H
          try go_wp2
          replace BK212 := Aside0.mk (blk_drew BK212.out); replace HB := Aside0.mk (below_drew1 HB.out); refine start_ (n := 16) (S := fun w' => True) (ds := []) #[false, false, false, false, false, false, false, false, false, false, false, false, false, false, false, false] (by kernel_rfl) rfl rfl trivial (fun hHeld => ?_); refine with_tabW impl_Out_impl_outOrder.tab8 impl_Out_impl_outOrder.bits8 (fun HT_ HW_ => ?_)
          generalize wr.drew = w21 at BK212 HB hHeld ⊢
          refine pA 0 35 HT_ ?_; refine pA 1 36 HT_ ?_; refine pA 2 37 HT_ ?_; refine pA 3 38 HT_ ?_; refine pA 4 39 HT_ ?_; refine pB 5 40 HT_ ?_; refine pB 6 41 HT_ ?_; refine pB 7 42 HT_ ?_; refine pB 8 43 HT_ ?_; refine pB 9 44 HT_ ?_; refine pB 10 45 HT_ ?_; refine pB 11 46 HT_ ?_; refine pB 12 47 HT_ ?_; refine pA 13 48 HT_ ?_; refine pA 14 6 HT_ ?_; refine pA 15 7 HT_ ?_; refine done_ (done_of HT_.out (by kernel_rfl)) ?_
          try go_wp2
          go_ret2
          exact ⟨ff, bs HB⟩
end Go.Proofs.Ytefmkmhjbfpelaa.QO
namespace Go.Proofs.Ytefmkmhjbfpelaa.QO
open Go.RowKit Go.Proofs.YtefmkmhjbfpelaaW.PrintWords Go.Proofs.YtefmkmhjbfpelaaW.PrintLast Go.Proofs.YtefmkmhjbfpelaaW.PrintMore
attribute [local go_sem] max2_int min2_int max_two min_two max_three min_three max_four min_four   -- for this text's walks alone
set_option linter.unusedVariables false
set_option linter.unusedSimpArgs false
set_option maxHeartbeats 8000000 in
set_option maxRecDepth 100000 in
theorem slices_Clone_implOut.calls (A0 : Option Addr) (c0 : Nat) (l0 : List S24) (r : List S24) (w : World) (hr0 : Kd.C k24 w A0 l0.length l0) (hc0 : l0.length ≤ c0) (h : slices_Clone_implOut.f l0 = some r) :
    Calls Try.prog 111 #[.slice A0 l0.length c0] w fun e w' => ∃ v0_ : Value, e = .returned (v0_) ∧ Kd.R k24 24 w' w.heap.size (fun _ => True) v0_ r ∧ Below w.heap.size w w' := by
  unfold slices_Clone_implOut.f at h
  by_cases hl : l0.length < 2513169434916
  · rw [if_pos hl] at h
    obtain rfl := Option.some.inj h
    cases A0 with
    | none =>
      have h0 : l0.length = 0 := by
        by_cases g : 0 < l0.length
        · obtain ⟨ad, e, _⟩ := hr0.2.2 g
          cases e
        · omega
      obtain rfl : l0 = [] := List.eq_nil_of_length_eq_zero h0; clear hr0 hl h h0
      have hq : ∀ W, (binOp .eql 29 (.slice none 0 c0) (.slice none 0 0)).run Try.prog W = .ok (.bool true) W := fun W => Lib.run_eql_slice_nil W _ _ none _ _ _ _ Try.underlying29
      simp only [List.length_nil]
      go_enter Try.func111, Try.ntmps111
      go_wp2
      go_ret
      exact ⟨_, rfl, Kd.R_nil _ _ _ _ _, Below.refl _ _⟩
    | some a0 =>
      have HB := Aside0.mk (Below.refl w.heap.size w); have HR0 := Aside0.mk hr0; have HL := Aside0.mk hl; clear hr0 hl h hc0
      have hq : ∀ W, (binOp .eql 29 (.slice (some a0) l0.length c0) (.slice none 0 0)).run Try.prog W = .ok (.bool false) W := fun W => Lib.run_eql_slice_nil W _ _ (some a0) _ _ _ _ Try.underlying29
      go_enter Try.func111, Try.ntmps111
      go_wp2_with (first | ((with_reducible refine gate_dst (N := 5) rfl ?_); refine Kd.R_lit k24 _ 24 ?hg (N := 5) ?hd (xs := ([] : List S24)) (inner := []) (ok := fun _ => True) (okp := fun _ => True) ?hr ?hp (fun _ hk => hk) trivial (Below.refl _ _) (Nat.le_refl _) (by simp) ?_; (case hd => rfl); (case hg => rfl); (case hr => first | (go_simp; done) | (go_simp; rfl)); (case hp => exact (Reps.none _ _)); intro v1 w5 ho6 hb hg_ hnew_; clear hg_ hnew_; have HO1 := Aside0.mk (Kd.R_lower ho6 (below_size (bs HB))); replace HB := Aside0.mk (below_step (bs HB) hb); clear hb ho6) | ((with_reducible refine gate_builtin (b := .append) (xs := #[.tmp 5, .tmp 6]) rfl ?_); at_builtin; refine Kd.R_append_rows k24 (w0 := w) w.heap.size rfl (.tmp 5) (.tmp 6) 29 24 ((.agg #[(.string ⟨#[]⟩), (.int .i64 0), (.string ⟨#[]⟩), (.int .i64 0), (.int .i64 0)])) 56 rfl Try.underlying29 info24 rfl (by decide) (by omega) v1 [] l0 _ _ _ (fun _ => True) (fun _ => False) rfl rfl ?aO ?aR (fun _ _ h => h) (fun _ h => h.elim) ?aF ?aB ?aS ?aL ?_; (case aR => repeat (first | exact (Kd.C_below HR0.out HB.out) | (with_reducible refine Kd.C_alloc ?_ _) | (with_reducible refine Kd.C_drewN ?_ _) | (with_reducible refine Kd.C_drew ?_))); (case aB => exact (bs HB)); (case aF => exact (fun _ _ => trivial)); (case aO => exact (rs HO1)); (case aS => exact (below_size (bs HB))); (case aL => have := HL.out; simp only [List.length_nil]; omega); intro v2 w6 ho hb hg hat; have HO2 := Aside0.mk ho; replace HB := Aside0.mk hb; clear ho hb hg hat HO1))
      go_ret
      exact ⟨_, rfl, by (with_reducible repeat (first | apply Kd.R_alloc | apply Kd.R_drewN | apply Kd.R_drew)); exact HO2.out, bs HB⟩
  · rw [if_neg hl] at h
    cases h
end Go.Proofs.Ytefmkmhjbfpelaa.QO
namespace Go.Proofs.Ytefmkmhjbfpelaa.QO
open Go.RowKit Go.Proofs.YtefmkmhjbfpelaaW.PrintWords Go.Proofs.YtefmkmhjbfpelaaW.PrintLast Go.Proofs.YtefmkmhjbfpelaaW.PrintMore
attribute [local go_sem] max2_int min2_int max_two min_two max_three min_three max_four min_four   -- for this text's walks alone
set_option linter.unusedVariables false
set_option linter.unusedSimpArgs false
set_option maxHeartbeats 8000000 in
set_option maxRecDepth 100000 in
theorem laws_eqOut.calls (a0_0 : ByteArray) (a0_1 : Int) (a0_2 : ByteArray) (a0_3 : Int) (a0_4 : Int) (a1_0 : ByteArray) (a1_1 : Int) (a1_2 : ByteArray) (a1_3 : Int) (a1_4 : Int) (r : Bool) (w : World) (h : laws_eqOut.f a0_0 a0_1 a0_2 a0_3 a0_4 a1_0 a1_1 a1_2 a1_3 a1_4 = some r) :
    Calls Try.prog 104 #[.agg #[.string a0_0, .int .i64 a0_1, .string a0_2, .int .i64 a0_3, .int .i64 a0_4], .agg #[.string a1_0, .int .i64 a1_1, .string a1_2, .int .i64 a1_3, .int .i64 a1_4]] w fun e w' => e = .returned (.bool r) ∧ Below w.heap.size w w' := by
  have hu24 := Try.underlying24; have HB := Aside0.mk (Below.refl w.heap.size w); have H : (if a0_0.toList = a1_0.toList then (if a0_1 = a1_1 then (if a0_2.toList = a1_2.toList then (if a0_3 = a1_3 then (if a0_4 = a1_4 then (some true) else (some false)) else (some false)) else (some false)) else (some false)) else (some false)) = some r := h; clear h
  by_cases c3 : a0_0.toList = a1_0.toList
  · rw [if_pos c3] at H; have c3b0 : (a0_0.toList == a1_0.toList) = true := beq_iff_eq.mpr c3; have c3b1 : (a0_0.toList != a1_0.toList) = false := bne_eq_false_iff_eq.mpr c3; clear c3
    by_cases c4 : a0_1 = a1_1
    · rw [if_pos c4] at H; have c4b0 : (a0_1 == a1_1) = true := beq_iff_eq.mpr c4; have c4b1 : (a0_1 != a1_1) = false := bne_eq_false_iff_eq.mpr c4; clear c4
      by_cases c5 : a0_2.toList = a1_2.toList
      · rw [if_pos c5] at H; have c5b0 : (a0_2.toList == a1_2.toList) = true := beq_iff_eq.mpr c5; have c5b1 : (a0_2.toList != a1_2.toList) = false := bne_eq_false_iff_eq.mpr c5; clear c5
        by_cases c6 : a0_3 = a1_3
        · rw [if_pos c6] at H; have c6b0 : (a0_3 == a1_3) = true := beq_iff_eq.mpr c6; have c6b1 : (a0_3 != a1_3) = false := bne_eq_false_iff_eq.mpr c6; clear c6
          by_cases c7 : a0_4 = a1_4
          · rw [if_pos c7] at H; have c7b0 : (a0_4 == a1_4) = true := beq_iff_eq.mpr c7; have c7b1 : (a0_4 != a1_4) = false := bne_eq_false_iff_eq.mpr c7; clear c7; obtain rfl := Option.some.inj H
            go_enter Try.func104, Try.ntmps104
            go_wp2_with (first | ((with_reducible refine gate_dst (N := 2) rfl ?_); refine bx 2 (cs := #[.string a0_0, .int .i64 a0_1, .string a0_2, .int .i64 a0_3, .int .i64 a0_4]) (t := 24) ?_; intro gb231 hg w8 hbox hb; have BK231 := Aside0.mk (hbox); have GW231 := Aside0.mk ((gs hg (bs HB))); have GE231 := Aside0.mk ((gs hg (bs HB))); replace HB := Aside0.mk (below_step (bs HB) hb); clear hb hbox hg) | ((with_reducible refine gate_dst (N := 3) rfl ?_); refine bx 3 (cs := #[.string a1_0, .int .i64 a1_1, .string a1_2, .int .i64 a1_3, .int .i64 a1_4]) (t := 24) ?_; intro gb232 hg w9 hbox hb; have BK232 := Aside0.mk (hbox); have GW232 := Aside0.mk ((gs hg (bs HB))); have GE232 := Aside0.mk ((gs hg (bs HB))); replace HB := Aside0.mk (below_step (bs HB) hb); have NB231_232 := Aside0.mk ((gn hg (ks BK231))); have NB232_231 := Aside0.mk ((gm hg (ks BK231))); replace BK231 := Aside0.mk (blk_below (ks BK231) hb); clear hb hbox hg; have hnb10 := NB231_232.out; have hnc10 := NB232_231.out; obtain ⟨hcz11_0, hcz11_1, hcz11_2, hcz11_3, hcz11_4, hfz11_0, hfz11_1, hfz11_2, hfz11_3, hfz11_4⟩ := cf5 BK231; obtain ⟨hcz12_0, hcz12_1, hcz12_2, hcz12_3, hcz12_4, hfz12_0, hfz12_1, hfz12_2, hfz12_3, hfz12_4⟩ := cf5 BK232))
            go_ret
            exact ⟨ff, bs HB⟩
          · rw [if_neg c7] at H; have c7b0 : (a0_4 == a1_4) = false := beq_eq_false_iff_ne.mpr c7; have c7b1 : (a0_4 != a1_4) = true := bne_iff_ne.mpr c7; obtain rfl := Option.some.inj H
            go_enter Try.func104, Try.ntmps104
            go_wp2_with (first | ((with_reducible refine gate_dst (N := 2) rfl ?_); refine bx 2 (cs := #[.string a0_0, .int .i64 a0_1, .string a0_2, .int .i64 a0_3, .int .i64 a0_4]) (t := 24) ?_; intro gb231 hg w13 hbox hb; have BK231 := Aside0.mk (hbox); have GW231 := Aside0.mk ((gs hg (bs HB))); have GE231 := Aside0.mk ((gs hg (bs HB))); replace HB := Aside0.mk (below_step (bs HB) hb); clear hb hbox hg) | ((with_reducible refine gate_dst (N := 3) rfl ?_); refine bx 3 (cs := #[.string a1_0, .int .i64 a1_1, .string a1_2, .int .i64 a1_3, .int .i64 a1_4]) (t := 24) ?_; intro gb232 hg w14 hbox hb; have BK232 := Aside0.mk (hbox); have GW232 := Aside0.mk ((gs hg (bs HB))); have GE232 := Aside0.mk ((gs hg (bs HB))); replace HB := Aside0.mk (below_step (bs HB) hb); have NB231_232 := Aside0.mk ((gn hg (ks BK231))); have NB232_231 := Aside0.mk ((gm hg (ks BK231))); replace BK231 := Aside0.mk (blk_below (ks BK231) hb); clear hb hbox hg; have hnb15 := NB231_232.out; have hnc15 := NB232_231.out; obtain ⟨hcz16_0, hcz16_1, hcz16_2, hcz16_3, hcz16_4, hfz16_0, hfz16_1, hfz16_2, hfz16_3, hfz16_4⟩ := cf5 BK231; obtain ⟨hcz17_0, hcz17_1, hcz17_2, hcz17_3, hcz17_4, hfz17_0, hfz17_1, hfz17_2, hfz17_3, hfz17_4⟩ := cf5 BK232))
            go_ret
            exact ⟨ff, bs HB⟩
        · rw [if_neg c6] at H; have c6b0 : (a0_3 == a1_3) = false := beq_eq_false_iff_ne.mpr c6; have c6b1 : (a0_3 != a1_3) = true := bne_iff_ne.mpr c6; obtain rfl := Option.some.inj H
          go_enter Try.func104, Try.ntmps104
          go_wp2_with (first | ((with_reducible refine gate_dst (N := 2) rfl ?_); refine bx 2 (cs := #[.string a0_0, .int .i64 a0_1, .string a0_2, .int .i64 a0_3, .int .i64 a0_4]) (t := 24) ?_; intro gb231 hg w18 hbox hb; have BK231 := Aside0.mk (hbox); have GW231 := Aside0.mk ((gs hg (bs HB))); have GE231 := Aside0.mk ((gs hg (bs HB))); replace HB := Aside0.mk (below_step (bs HB) hb); clear hb hbox hg) | ((with_reducible refine gate_dst (N := 3) rfl ?_); refine bx 3 (cs := #[.string a1_0, .int .i64 a1_1, .string a1_2, .int .i64 a1_3, .int .i64 a1_4]) (t := 24) ?_; intro gb232 hg w19 hbox hb; have BK232 := Aside0.mk (hbox); have GW232 := Aside0.mk ((gs hg (bs HB))); have GE232 := Aside0.mk ((gs hg (bs HB))); replace HB := Aside0.mk (below_step (bs HB) hb); have NB231_232 := Aside0.mk ((gn hg (ks BK231))); have NB232_231 := Aside0.mk ((gm hg (ks BK231))); replace BK231 := Aside0.mk (blk_below (ks BK231) hb); clear hb hbox hg; have hnb20 := NB231_232.out; have hnc20 := NB232_231.out; obtain ⟨hcz21_0, hcz21_1, hcz21_2, hcz21_3, hcz21_4, hfz21_0, hfz21_1, hfz21_2, hfz21_3, hfz21_4⟩ := cf5 BK231; obtain ⟨hcz22_0, hcz22_1, hcz22_2, hcz22_3, hcz22_4, hfz22_0, hfz22_1, hfz22_2, hfz22_3, hfz22_4⟩ := cf5 BK232))
          go_ret
          exact ⟨ff, bs HB⟩
      · rw [if_neg c5] at H; have c5b0 : (a0_2.toList == a1_2.toList) = false := beq_eq_false_iff_ne.mpr c5; have c5b1 : (a0_2.toList != a1_2.toList) = true := bne_iff_ne.mpr c5; obtain rfl := Option.some.inj H
        go_enter Try.func104, Try.ntmps104
        go_wp2_with (first | ((with_reducible refine gate_dst (N := 2) rfl ?_); refine bx 2 (cs := #[.string a0_0, .int .i64 a0_1, .string a0_2, .int .i64 a0_3, .int .i64 a0_4]) (t := 24) ?_; intro gb231 hg w23 hbox hb; have BK231 := Aside0.mk (hbox); have GW231 := Aside0.mk ((gs hg (bs HB))); have GE231 := Aside0.mk ((gs hg (bs HB))); replace HB := Aside0.mk (below_step (bs HB) hb); clear hb hbox hg) | ((with_reducible refine gate_dst (N := 3) rfl ?_); refine bx 3 (cs := #[.string a1_0, .int .i64 a1_1, .string a1_2, .int .i64 a1_3, .int .i64 a1_4]) (t := 24) ?_; intro gb232 hg w24 hbox hb; have BK232 := Aside0.mk (hbox); have GW232 := Aside0.mk ((gs hg (bs HB))); have GE232 := Aside0.mk ((gs hg (bs HB))); replace HB := Aside0.mk (below_step (bs HB) hb); have NB231_232 := Aside0.mk ((gn hg (ks BK231))); have NB232_231 := Aside0.mk ((gm hg (ks BK231))); replace BK231 := Aside0.mk (blk_below (ks BK231) hb); clear hb hbox hg; have hnb25 := NB231_232.out; have hnc25 := NB232_231.out; obtain ⟨hcz26_0, hcz26_1, hcz26_2, hcz26_3, hcz26_4, hfz26_0, hfz26_1, hfz26_2, hfz26_3, hfz26_4⟩ := cf5 BK231; obtain ⟨hcz27_0, hcz27_1, hcz27_2, hcz27_3, hcz27_4, hfz27_0, hfz27_1, hfz27_2, hfz27_3, hfz27_4⟩ := cf5 BK232))
        go_ret
        exact ⟨ff, bs HB⟩
    · rw [if_neg c4] at H; have c4b0 : (a0_1 == a1_1) = false := beq_eq_false_iff_ne.mpr c4; have c4b1 : (a0_1 != a1_1) = true := bne_iff_ne.mpr c4; obtain rfl := Option.some.inj H
      go_enter Try.func104, Try.ntmps104
      go_wp2_with (first | ((with_reducible refine gate_dst (N := 2) rfl ?_); refine bx 2 (cs := #[.string a0_0, .int .i64 a0_1, .string a0_2, .int .i64 a0_3, .int .i64 a0_4]) (t := 24) ?_; intro gb231 hg w28 hbox hb; have BK231 := Aside0.mk (hbox); have GW231 := Aside0.mk ((gs hg (bs HB))); have GE231 := Aside0.mk ((gs hg (bs HB))); replace HB := Aside0.mk (below_step (bs HB) hb); clear hb hbox hg) | ((with_reducible refine gate_dst (N := 3) rfl ?_); refine bx 3 (cs := #[.string a1_0, .int .i64 a1_1, .string a1_2, .int .i64 a1_3, .int .i64 a1_4]) (t := 24) ?_; intro gb232 hg w29 hbox hb; have BK232 := Aside0.mk (hbox); have GW232 := Aside0.mk ((gs hg (bs HB))); have GE232 := Aside0.mk ((gs hg (bs HB))); replace HB := Aside0.mk (below_step (bs HB) hb); have NB231_232 := Aside0.mk ((gn hg (ks BK231))); have NB232_231 := Aside0.mk ((gm hg (ks BK231))); replace BK231 := Aside0.mk (blk_below (ks BK231) hb); clear hb hbox hg; have hnb30 := NB231_232.out; have hnc30 := NB232_231.out; obtain ⟨hcz31_0, hcz31_1, hcz31_2, hcz31_3, hcz31_4, hfz31_0, hfz31_1, hfz31_2, hfz31_3, hfz31_4⟩ := cf5 BK231; obtain ⟨hcz32_0, hcz32_1, hcz32_2, hcz32_3, hcz32_4, hfz32_0, hfz32_1, hfz32_2, hfz32_3, hfz32_4⟩ := cf5 BK232))
      go_ret
      exact ⟨ff, bs HB⟩
  · rw [if_neg c3] at H; have c3b0 : (a0_0.toList == a1_0.toList) = false := beq_eq_false_iff_ne.mpr c3; have c3b1 : (a0_0.toList != a1_0.toList) = true := bne_iff_ne.mpr c3; obtain rfl := Option.some.inj H
    go_enter Try.func104, Try.ntmps104
    go_wp2_with (first | ((with_reducible refine gate_dst (N := 2) rfl ?_); refine bx 2 (cs := #[.string a0_0, .int .i64 a0_1, .string a0_2, .int .i64 a0_3, .int .i64 a0_4]) (t := 24) ?_; intro gb231 hg w33 hbox hb; have BK231 := Aside0.mk (hbox); have GW231 := Aside0.mk ((gs hg (bs HB))); have GE231 := Aside0.mk ((gs hg (bs HB))); replace HB := Aside0.mk (below_step (bs HB) hb); clear hb hbox hg) | ((with_reducible refine gate_dst (N := 3) rfl ?_); refine bx 3 (cs := #[.string a1_0, .int .i64 a1_1, .string a1_2, .int .i64 a1_3, .int .i64 a1_4]) (t := 24) ?_; intro gb232 hg w34 hbox hb; have BK232 := Aside0.mk (hbox); have GW232 := Aside0.mk ((gs hg (bs HB))); have GE232 := Aside0.mk ((gs hg (bs HB))); replace HB := Aside0.mk (below_step (bs HB) hb); have NB231_232 := Aside0.mk ((gn hg (ks BK231))); have NB232_231 := Aside0.mk ((gm hg (ks BK231))); replace BK231 := Aside0.mk (blk_below (ks BK231) hb); clear hb hbox hg; have hnb35 := NB231_232.out; have hnc35 := NB232_231.out; obtain ⟨hcz36_0, hcz36_1, hcz36_2, hcz36_3, hcz36_4, hfz36_0, hfz36_1, hfz36_2, hfz36_3, hfz36_4⟩ := cf5 BK231; obtain ⟨hcz37_0, hcz37_1, hcz37_2, hcz37_3, hcz37_4, hfz37_0, hfz37_1, hfz37_2, hfz37_3, hfz37_4⟩ := cf5 BK232))
    go_ret
    exact ⟨ff, bs HB⟩
end Go.Proofs.Ytefmkmhjbfpelaa.QO
namespace Go.Proofs.Ytefmkmhjbfpelaa.QO
open Go.RowKit Go.Proofs.YtefmkmhjbfpelaaW.PrintWords Go.Proofs.YtefmkmhjbfpelaaW.PrintLast Go.Proofs.YtefmkmhjbfpelaaW.PrintMore
attribute [local go_sem] max2_int min2_int max_two min_two max_three min_three max_four min_four   -- for this text's walks alone
set_option linter.unusedVariables false
set_option linter.unusedSimpArgs false
def laws_eqOutS.T6 : Bool × List (List Nat × List Nat) := (true, [([], []), ([], []), ([0, 1], [0, 1]), ([2], [2]), ([], []), ([], []), ([4, 5], [4, 5]), ([6], [6]), ([3, 7], [3, 7]), ([8], [8])])
def laws_eqOutS.B6 : List Nat := [0, 0, 3, 7, 0, 0, 48, 112, 255, 511]
theorem laws_eqOutS.tab6 : rtab .any (opsOf Try.f40 6) = laws_eqOutS.T6 := by kernel_rfl
theorem laws_eqOutS.bits6 : waitsOk laws_eqOutS.T6.2 laws_eqOutS.B6 = true := by kernel_rfl
set_option maxHeartbeats 8000000 in
set_option maxRecDepth 100000 in
theorem laws_eqOutS.calls (k : Nat) (A0 : Option Addr) (c0 : Nat) (l0 : List (S24)) (A1 : Option Addr) (c1 : Nat) (l1 : List (S24)) (r : Bool) (w : World) (hr0 : Kd.C k24 w A0 l0.length l0) (hc0 : l0.length ≤ c0) (hr1 : Kd.C k24 w A1 l1.length l1) (hc1 : l1.length ≤ c1) (h : laws_eqOutS.f k l0 l1 = some r) :
    Calls Try.prog 40 #[.slice A0 l0.length c0, .slice A1 l1.length c1] w fun e w' => e = .returned (.bool r) ∧ Below w.heap.size w w' := by
  have hu24 := Try.underlying24; have HR0 := Aside0.mk hr0; have HC0 := Aside0.mk hc0; clear hr0 hc0; have HR1 := Aside0.mk hr1; have HC1 := Aside0.mk hc1; clear hr1 hc1; have HB := Aside0.mk (Below.refl w.heap.size w); have H : (if (l0.length : Int) = (l1.length : Int) then (laws_eqOutS.l0 k l0 l1 0) else (some false)) = some r := h; clear h
  by_cases c3 : (l0.length : Int) = (l1.length : Int)
  · rw [if_pos c3] at H; have c3b0 : ((l0.length : Int) == (l1.length : Int)) = true := beq_iff_eq.mpr c3; have c3b1 : ((l0.length : Int) != (l1.length : Int)) = false := bne_eq_false_iff_eq.mpr c3
    have c3b2 : (l0.length == l1.length) = true := by first | simpa using c3 | (simp at c3 ⊢; omega)
    clear c3; have H' := Aside0.mk H; clear H
    go_enter Try.func40, Try.ntmps40
    go_wp2
    go_loopg [5] k (fun kq v5 w' => ∃ (x5_1 : Int), v5 = .int .i64 x5_1 ∧ Aside0 (laws_eqOutS.l0 kq l0 l1 x5_1 = some r) ∧ Aside0 (kq ≤ k) ∧ Aside0 (Below w.heap.size w w'))
    case atStart => exact ⟨(0), fg, H', ⟨Nat.le_refl _⟩, ⟨bs HB⟩⟩
    case round =>
      clear H'
      try clear c1
      try clear p2
      try clear c3
      try clear c3b0
      try clear c3b1
      try clear c3b2
      obtain ⟨x5_1, rfl, HA, HK1, HB⟩ := hrel
      cases gk with
      | zero => exact absurd HA.out (by simp [laws_eqOutS.l0])
      | succ k1 =>
        have H := HA.out; clear HA; simp only [laws_eqOutS.l0] at H
        by_cases c4 : x5_1 < (l0.length : Int)
        · rw [if_pos c4] at H; have c4b0 : decide (x5_1 < (l0.length : Int)) = true := decide_eq_true c4; clear c4
          by_cases c5 : 0 ≤ x5_1
          · rw [if_pos c5] at H; have c5b0 : decide (0 ≤ x5_1) = true := decide_eq_true c5; clear c5
            by_cases c6 : x5_1 < (l1.length : Int)
            · rw [if_pos c6] at H; have c6b0 : decide (x5_1 < (l1.length : Int)) = true := decide_eq_true c6; clear c6; replace H := Option.bind_eq_some_iff.mp H; obtain ⟨t235, A70, H⟩ := H; replace H : (if t235 = true then (laws_eqOutS.l0 k1 l0 l1 (wrap64 (x5_1 + 1))) else (some false)) = some r := H; have A7 := Aside0.mk A70; clear A70
              by_cases c8 : t235 = true
              · subst c8
                have H1 : (laws_eqOutS.l0 k1 l0 l1 (wrap64 (x5_1 + 1))) = some r := by rw [if_pos rfl] at H; exact H
                clear H; have H := H1; clear H1; have H' := Aside0.mk H; clear H
                try go_wp2
                replace HB := Aside0.mk (below_drew1 HB.out); have p233 : 0 ≤ (x5_1 : Int) := oa; have q233 : x5_1 < (l0.length : Int) := oa; obtain ⟨ad233, e233, hx233_0, hx233_1, hx233_2, hx233_3, hx233_4⟩ := at_T24 HR0.out x5_1 p233 q233; have hw233_4 := hx233_4; have hw233_3 := hx233_3; have hw233_2 := hx233_2; have hw233_1 := hx233_1; have hw233_0 := hx233_0
                cases e233
                replace hx233_0 := cb HB hx233_0; replace hx233_1 := cb HB hx233_1; replace hx233_2 := cb HB hx233_2; replace hx233_3 := cb HB hx233_3; replace hx233_4 := cb HB hx233_4; replace p233 := eq_true p233; replace q233 := eq_true q233; have p234 : 0 ≤ (x5_1 : Int) := oa; have q234 : x5_1 < (l1.length : Int) := oa; obtain ⟨ad234, e234, hx234_0, hx234_1, hx234_2, hx234_3, hx234_4⟩ := at_T24 HR1.out x5_1 p234 q234; have hw234_4 := hx234_4; have hw234_3 := hx234_3; have hw234_2 := hx234_2; have hw234_1 := hx234_1; have hw234_0 := hx234_0
                cases e234
                replace hx234_0 := cb HB hx234_0; replace hx234_1 := cb HB hx234_1; replace hx234_2 := cb HB hx234_2; replace hx234_3 := cb HB hx234_3; replace hx234_4 := cb HB hx234_4; replace p234 := eq_true p234; replace q234 := eq_true q234; refine start_ (n := 10) (S := fun w' => w'.cell? (ad233.add ((x5_1).toNat * 5)) = some (.string ((rd_T24 l0 x5_1).f0)) ∧ w'.cell? ⟨(ad233.add ((x5_1).toNat * 5)).block, (ad233.add ((x5_1).toNat * 5)).off + 1, none⟩ = some (.int .i64 ((rd_T24 l0 x5_1).f1)) ∧ w'.cell? ⟨(ad233.add ((x5_1).toNat * 5)).block, (ad233.add ((x5_1).toNat * 5)).off + 2, none⟩ = some (.string ((rd_T24 l0 x5_1).f2)) ∧ w'.cell? ⟨(ad233.add ((x5_1).toNat * 5)).block, (ad233.add ((x5_1).toNat * 5)).off + 3, none⟩ = some (.int .i64 ((rd_T24 l0 x5_1).f3)) ∧ w'.cell? ⟨(ad233.add ((x5_1).toNat * 5)).block, (ad233.add ((x5_1).toNat * 5)).off + 4, none⟩ = some (.int .i64 ((rd_T24 l0 x5_1).f4)) ∧ w'.cell? (ad234.add ((x5_1).toNat * 5)) = some (.string ((rd_T24 l1 x5_1).f0)) ∧ w'.cell? ⟨(ad234.add ((x5_1).toNat * 5)).block, (ad234.add ((x5_1).toNat * 5)).off + 1, none⟩ = some (.int .i64 ((rd_T24 l1 x5_1).f1)) ∧ w'.cell? ⟨(ad234.add ((x5_1).toNat * 5)).block, (ad234.add ((x5_1).toNat * 5)).off + 2, none⟩ = some (.string ((rd_T24 l1 x5_1).f2)) ∧ w'.cell? ⟨(ad234.add ((x5_1).toNat * 5)).block, (ad234.add ((x5_1).toNat * 5)).off + 3, none⟩ = some (.int .i64 ((rd_T24 l1 x5_1).f3)) ∧ w'.cell? ⟨(ad234.add ((x5_1).toNat * 5)).block, (ad234.add ((x5_1).toNat * 5)).off + 4, none⟩ = some (.int .i64 ((rd_T24 l1 x5_1).f4))) (ds := []) #[false, false, false, false, false, false, false, false, false, false] (by kernel_rfl) rfl rfl ⟨((cb HB hw233_0).trans rfl), ((cb HB hw233_1).trans rfl), ((cb HB hw233_2).trans rfl), ((cb HB hw233_3).trans rfl), ((cb HB hw233_4).trans rfl), ((cb HB hw234_0).trans rfl), ((cb HB hw234_1).trans rfl), ((cb HB hw234_2).trans rfl), ((cb HB hw234_3).trans rfl), ((cb HB hw234_4).trans rfl)⟩ (fun hHeld => ?_); refine with_tabW laws_eqOutS.tab6 laws_eqOutS.bits6 (fun HT_ HW_ => ?_)
                generalize wr.drew = w9 at HB hx233_0 hx233_1 hx233_2 hx233_3 hx233_4 hx234_0 hx234_1 hx234_2 hx234_3 hx234_4 hHeld ⊢
                refine pA 0 17 HT_ ?_; refine pA 1 18 HT_ ?_; refine pA 2 19 HT_ ?_; refine pA 4 21 HT_ ?_; refine pA 5 22 HT_ ?_; refine pA 6 23 HT_ ?_; refine tA 3 20 HT_ HW_ hHeld ?_; refine tA 7 24 HT_ HW_ hHeld ?_; refine oA 8 25 HT_ (fun K hK => ?_); refine gA Try.func104 #[.agg #[.string ((rd_T24 l0 x5_1).f0), .int .i64 ((rd_T24 l0 x5_1).f1), .string ((rd_T24 l0 x5_1).f2), .int .i64 ((rd_T24 l0 x5_1).f3), .int .i64 ((rd_T24 l0 x5_1).f4)], .agg #[.string ((rd_T24 l1 x5_1).f0), .int .i64 ((rd_T24 l1 x5_1).f1), .string ((rd_T24 l1 x5_1).f2), .int .i64 ((rd_T24 l1 x5_1).f3), .int .i64 ((rd_T24 l1 x5_1).f4)]] ?_; (with_reducible refine (laws_eqOut.calls ((rd_T24 l0 x5_1).f0) ((rd_T24 l0 x5_1).f1) ((rd_T24 l0 x5_1).f2) ((rd_T24 l0 x5_1).f3) ((rd_T24 l0 x5_1).f4) ((rd_T24 l1 x5_1).f0) ((rd_T24 l1 x5_1).f1) ((rd_T24 l1 x5_1).f2) ((rd_T24 l1 x5_1).f3) ((rd_T24 l1 x5_1).f4) true _ A7.out).mono ?_); rintro e w10 ⟨rfl, hb⟩; refine ⟨_, rfl, ?_⟩; replace HB := Aside0.mk (below_step (bs HB) hb); (try clear hb); (try clear hb2); (try clear hk); (try clear hi); refine hK.out _ _ ⟨((cb HB hw233_0).trans rfl), ((cb HB hw233_1).trans rfl), ((cb HB hw233_2).trans rfl), ((cb HB hw233_3).trans rfl), ((cb HB hw233_4).trans rfl), ((cb HB hw234_0).trans rfl), ((cb HB hw234_1).trans rfl), ((cb HB hw234_2).trans rfl), ((cb HB hw234_3).trans rfl), ((cb HB hw234_4).trans rfl)⟩ (fun hHeld => ?_); clear hK K; refine nA 25 ?_; refine pA 9 26 HT_ ?_; refine done_ (done_of HT_.out (by kernel_rfl)) ?_
                try go_wp2
                go_roundg k1
                case measure => have := HK1.out; omega
                case rel => exact ⟨(wrap64 (x5_1 + 1)), fg, H', ⟨by have := HK1.out; omega⟩, ⟨bs HB⟩⟩
              · replace c8 := Bool.eq_false_iff.mpr c8; subst c8
                have H1 : (some false) = some r := by rw [if_neg (show ¬ (false = true) by decide)] at H; exact H
                clear H; have H := H1; clear H1; obtain rfl := Option.some.inj H
                try go_wp2
                replace HB := Aside0.mk (below_drew1 HB.out); have p233 : 0 ≤ (x5_1 : Int) := oa; have q233 : x5_1 < (l0.length : Int) := oa; obtain ⟨ad233, e233, hx233_0, hx233_1, hx233_2, hx233_3, hx233_4⟩ := at_T24 HR0.out x5_1 p233 q233; have hw233_4 := hx233_4; have hw233_3 := hx233_3; have hw233_2 := hx233_2; have hw233_1 := hx233_1; have hw233_0 := hx233_0
                cases e233
                replace hx233_0 := cb HB hx233_0; replace hx233_1 := cb HB hx233_1; replace hx233_2 := cb HB hx233_2; replace hx233_3 := cb HB hx233_3; replace hx233_4 := cb HB hx233_4; replace p233 := eq_true p233; replace q233 := eq_true q233; have p234 : 0 ≤ (x5_1 : Int) := oa; have q234 : x5_1 < (l1.length : Int) := oa; obtain ⟨ad234, e234, hx234_0, hx234_1, hx234_2, hx234_3, hx234_4⟩ := at_T24 HR1.out x5_1 p234 q234; have hw234_4 := hx234_4; have hw234_3 := hx234_3; have hw234_2 := hx234_2; have hw234_1 := hx234_1; have hw234_0 := hx234_0
                cases e234
                replace hx234_0 := cb HB hx234_0; replace hx234_1 := cb HB hx234_1; replace hx234_2 := cb HB hx234_2; replace hx234_3 := cb HB hx234_3; replace hx234_4 := cb HB hx234_4; replace p234 := eq_true p234; replace q234 := eq_true q234; refine start_ (n := 10) (S := fun w' => w'.cell? (ad233.add ((x5_1).toNat * 5)) = some (.string ((rd_T24 l0 x5_1).f0)) ∧ w'.cell? ⟨(ad233.add ((x5_1).toNat * 5)).block, (ad233.add ((x5_1).toNat * 5)).off + 1, none⟩ = some (.int .i64 ((rd_T24 l0 x5_1).f1)) ∧ w'.cell? ⟨(ad233.add ((x5_1).toNat * 5)).block, (ad233.add ((x5_1).toNat * 5)).off + 2, none⟩ = some (.string ((rd_T24 l0 x5_1).f2)) ∧ w'.cell? ⟨(ad233.add ((x5_1).toNat * 5)).block, (ad233.add ((x5_1).toNat * 5)).off + 3, none⟩ = some (.int .i64 ((rd_T24 l0 x5_1).f3)) ∧ w'.cell? ⟨(ad233.add ((x5_1).toNat * 5)).block, (ad233.add ((x5_1).toNat * 5)).off + 4, none⟩ = some (.int .i64 ((rd_T24 l0 x5_1).f4)) ∧ w'.cell? (ad234.add ((x5_1).toNat * 5)) = some (.string ((rd_T24 l1 x5_1).f0)) ∧ w'.cell? ⟨(ad234.add ((x5_1).toNat * 5)).block, (ad234.add ((x5_1).toNat * 5)).off + 1, none⟩ = some (.int .i64 ((rd_T24 l1 x5_1).f1)) ∧ w'.cell? ⟨(ad234.add ((x5_1).toNat * 5)).block, (ad234.add ((x5_1).toNat * 5)).off + 2, none⟩ = some (.string ((rd_T24 l1 x5_1).f2)) ∧ w'.cell? ⟨(ad234.add ((x5_1).toNat * 5)).block, (ad234.add ((x5_1).toNat * 5)).off + 3, none⟩ = some (.int .i64 ((rd_T24 l1 x5_1).f3)) ∧ w'.cell? ⟨(ad234.add ((x5_1).toNat * 5)).block, (ad234.add ((x5_1).toNat * 5)).off + 4, none⟩ = some (.int .i64 ((rd_T24 l1 x5_1).f4))) (ds := []) #[false, false, false, false, false, false, false, false, false, false] (by kernel_rfl) rfl rfl ⟨((cb HB hw233_0).trans rfl), ((cb HB hw233_1).trans rfl), ((cb HB hw233_2).trans rfl), ((cb HB hw233_3).trans rfl), ((cb HB hw233_4).trans rfl), ((cb HB hw234_0).trans rfl), ((cb HB hw234_1).trans rfl), ((cb HB hw234_2).trans rfl), ((cb HB hw234_3).trans rfl), ((cb HB hw234_4).trans rfl)⟩ (fun hHeld => ?_); refine with_tabW laws_eqOutS.tab6 laws_eqOutS.bits6 (fun HT_ HW_ => ?_)
                generalize wr.drew = w11 at HB hx233_0 hx233_1 hx233_2 hx233_3 hx233_4 hx234_0 hx234_1 hx234_2 hx234_3 hx234_4 hHeld ⊢
                refine pA 0 17 HT_ ?_; refine pA 1 18 HT_ ?_; refine pA 2 19 HT_ ?_; refine pA 4 21 HT_ ?_; refine pA 5 22 HT_ ?_; refine pA 6 23 HT_ ?_; refine tA 3 20 HT_ HW_ hHeld ?_; refine tA 7 24 HT_ HW_ hHeld ?_; refine oA 8 25 HT_ (fun K hK => ?_); refine gA Try.func104 #[.agg #[.string ((rd_T24 l0 x5_1).f0), .int .i64 ((rd_T24 l0 x5_1).f1), .string ((rd_T24 l0 x5_1).f2), .int .i64 ((rd_T24 l0 x5_1).f3), .int .i64 ((rd_T24 l0 x5_1).f4)], .agg #[.string ((rd_T24 l1 x5_1).f0), .int .i64 ((rd_T24 l1 x5_1).f1), .string ((rd_T24 l1 x5_1).f2), .int .i64 ((rd_T24 l1 x5_1).f3), .int .i64 ((rd_T24 l1 x5_1).f4)]] ?_; (with_reducible refine (laws_eqOut.calls ((rd_T24 l0 x5_1).f0) ((rd_T24 l0 x5_1).f1) ((rd_T24 l0 x5_1).f2) ((rd_T24 l0 x5_1).f3) ((rd_T24 l0 x5_1).f4) ((rd_T24 l1 x5_1).f0) ((rd_T24 l1 x5_1).f1) ((rd_T24 l1 x5_1).f2) ((rd_T24 l1 x5_1).f3) ((rd_T24 l1 x5_1).f4) false _ A7.out).mono ?_); rintro e w12 ⟨rfl, hb⟩; refine ⟨_, rfl, ?_⟩; replace HB := Aside0.mk (below_step (bs HB) hb); (try clear hb); (try clear hb2); (try clear hk); (try clear hi); refine hK.out _ _ ⟨((cb HB hw233_0).trans rfl), ((cb HB hw233_1).trans rfl), ((cb HB hw233_2).trans rfl), ((cb HB hw233_3).trans rfl), ((cb HB hw233_4).trans rfl), ((cb HB hw234_0).trans rfl), ((cb HB hw234_1).trans rfl), ((cb HB hw234_2).trans rfl), ((cb HB hw234_3).trans rfl), ((cb HB hw234_4).trans rfl)⟩ (fun hHeld => ?_); clear hK K; refine nA 25 ?_; refine pA 9 26 HT_ ?_; refine done_ (done_of HT_.out (by kernel_rfl)) ?_
                try go_wp2
                go_ret
                exact ⟨ff, bs HB⟩
            · rw [if_neg c6] at H
              exact absurd H (by simp)
          · rw [if_neg c5] at H
            exact absurd H (by simp)
        · rw [if_neg c4] at H; have c4b0 : decide (x5_1 < (l0.length : Int)) = false := decide_eq_false c4; clear c4; obtain rfl := Option.some.inj H
          go_wp2
          go_ret
          exact ⟨ff, bs HB⟩
  · rw [if_neg c3] at H; have c3b0 : ((l0.length : Int) == (l1.length : Int)) = false := beq_eq_false_iff_ne.mpr c3; have c3b1 : ((l0.length : Int) != (l1.length : Int)) = true := bne_iff_ne.mpr c3
    have c3b2 : (l0.length == l1.length) = false := by first | simpa using c3 | (simp at c3 ⊢; omega)
    obtain rfl := Option.some.inj H
    go_enter Try.func40, Try.ntmps40
    go_wp2
    go_ret
    exact ⟨ff, bs HB⟩
end Go.Proofs.Ytefmkmhjbfpelaa.QO
namespace Go.Proofs.Ytefmkmhjbfpelaa.QO
open Go.RowKit Go.Proofs.YtefmkmhjbfpelaaW.PrintWords Go.Proofs.YtefmkmhjbfpelaaW.PrintLast Go.Proofs.YtefmkmhjbfpelaaW.PrintMore
attribute [local go_sem] max2_int min2_int max_two min_two max_three min_three max_four min_four   -- for this text's walks alone
set_option linter.unusedVariables false
set_option linter.unusedSimpArgs false
set_option maxHeartbeats 8000000 in
set_option maxRecDepth 100000 in
theorem laws_eqSent.calls (a0_0 : ByteArray) (a0_1 : Int) (a0_2 : ByteArray) (a1_0 : ByteArray) (a1_1 : Int) (a1_2 : ByteArray) (r : Bool) (w : World) (h : laws_eqSent.f a0_0 a0_1 a0_2 a1_0 a1_1 a1_2 = some r) :
    Calls Try.prog 149 #[.agg #[.string a0_0, .int .i64 a0_1, .string a0_2], .agg #[.string a1_0, .int .i64 a1_1, .string a1_2]] w fun e w' => e = .returned (.bool r) ∧ Below w.heap.size w w' := by
  have hu105 := Try.underlying105; have HB := Aside0.mk (Below.refl w.heap.size w); have H : (if a0_0.toList = a1_0.toList then (if a0_1 = a1_1 then (if a0_2.toList = a1_2.toList then (some true) else (some false)) else (some false)) else (some false)) = some r := h; clear h
  by_cases c3 : a0_0.toList = a1_0.toList
  · rw [if_pos c3] at H; have c3b0 : (a0_0.toList == a1_0.toList) = true := beq_iff_eq.mpr c3; have c3b1 : (a0_0.toList != a1_0.toList) = false := bne_eq_false_iff_eq.mpr c3; clear c3
    by_cases c4 : a0_1 = a1_1
    · rw [if_pos c4] at H; have c4b0 : (a0_1 == a1_1) = true := beq_iff_eq.mpr c4; have c4b1 : (a0_1 != a1_1) = false := bne_eq_false_iff_eq.mpr c4; clear c4
      by_cases c5 : a0_2.toList = a1_2.toList
      · rw [if_pos c5] at H; have c5b0 : (a0_2.toList == a1_2.toList) = true := beq_iff_eq.mpr c5; have c5b1 : (a0_2.toList != a1_2.toList) = false := bne_eq_false_iff_eq.mpr c5; clear c5; obtain rfl := Option.some.inj H
        go_enter Try.func149, Try.ntmps149
        go_wp2_with (first | ((with_reducible refine gate_dst (N := 2) rfl ?_); refine bx 2 (cs := #[.string a0_0, .int .i64 a0_1, .string a0_2]) (t := 105) ?_; intro gb236 hg w6 hbox hb; have BK236 := Aside0.mk (hbox); have GW236 := Aside0.mk ((gs hg (bs HB))); have GE236 := Aside0.mk ((gs hg (bs HB))); replace HB := Aside0.mk (below_step (bs HB) hb); clear hb hbox hg) | ((with_reducible refine gate_dst (N := 3) rfl ?_); refine bx 3 (cs := #[.string a1_0, .int .i64 a1_1, .string a1_2]) (t := 105) ?_; intro gb237 hg w7 hbox hb; have BK237 := Aside0.mk (hbox); have GW237 := Aside0.mk ((gs hg (bs HB))); have GE237 := Aside0.mk ((gs hg (bs HB))); replace HB := Aside0.mk (below_step (bs HB) hb); have NB236_237 := Aside0.mk ((gn hg (ks BK236))); have NB237_236 := Aside0.mk ((gm hg (ks BK236))); replace BK236 := Aside0.mk (blk_below (ks BK236) hb); clear hb hbox hg; have hnb8 := NB236_237.out; have hnc8 := NB237_236.out; obtain ⟨hcz9_0, hcz9_1, hcz9_2, hfz9_0, hfz9_1, hfz9_2⟩ := cf3 BK236; obtain ⟨hcz10_0, hcz10_1, hcz10_2, hfz10_0, hfz10_1, hfz10_2⟩ := cf3 BK237))
        go_ret
        exact ⟨ff, bs HB⟩
      · rw [if_neg c5] at H; have c5b0 : (a0_2.toList == a1_2.toList) = false := beq_eq_false_iff_ne.mpr c5; have c5b1 : (a0_2.toList != a1_2.toList) = true := bne_iff_ne.mpr c5; obtain rfl := Option.some.inj H
        go_enter Try.func149, Try.ntmps149
        go_wp2_with (first | ((with_reducible refine gate_dst (N := 2) rfl ?_); refine bx 2 (cs := #[.string a0_0, .int .i64 a0_1, .string a0_2]) (t := 105) ?_; intro gb236 hg w11 hbox hb; have BK236 := Aside0.mk (hbox); have GW236 := Aside0.mk ((gs hg (bs HB))); have GE236 := Aside0.mk ((gs hg (bs HB))); replace HB := Aside0.mk (below_step (bs HB) hb); clear hb hbox hg) | ((with_reducible refine gate_dst (N := 3) rfl ?_); refine bx 3 (cs := #[.string a1_0, .int .i64 a1_1, .string a1_2]) (t := 105) ?_; intro gb237 hg w12 hbox hb; have BK237 := Aside0.mk (hbox); have GW237 := Aside0.mk ((gs hg (bs HB))); have GE237 := Aside0.mk ((gs hg (bs HB))); replace HB := Aside0.mk (below_step (bs HB) hb); have NB236_237 := Aside0.mk ((gn hg (ks BK236))); have NB237_236 := Aside0.mk ((gm hg (ks BK236))); replace BK236 := Aside0.mk (blk_below (ks BK236) hb); clear hb hbox hg; have hnb13 := NB236_237.out; have hnc13 := NB237_236.out; obtain ⟨hcz14_0, hcz14_1, hcz14_2, hfz14_0, hfz14_1, hfz14_2⟩ := cf3 BK236; obtain ⟨hcz15_0, hcz15_1, hcz15_2, hfz15_0, hfz15_1, hfz15_2⟩ := cf3 BK237))
        go_ret
        exact ⟨ff, bs HB⟩
    · rw [if_neg c4] at H; have c4b0 : (a0_1 == a1_1) = false := beq_eq_false_iff_ne.mpr c4; have c4b1 : (a0_1 != a1_1) = true := bne_iff_ne.mpr c4; obtain rfl := Option.some.inj H
      go_enter Try.func149, Try.ntmps149
      go_wp2_with (first | ((with_reducible refine gate_dst (N := 2) rfl ?_); refine bx 2 (cs := #[.string a0_0, .int .i64 a0_1, .string a0_2]) (t := 105) ?_; intro gb236 hg w16 hbox hb; have BK236 := Aside0.mk (hbox); have GW236 := Aside0.mk ((gs hg (bs HB))); have GE236 := Aside0.mk ((gs hg (bs HB))); replace HB := Aside0.mk (below_step (bs HB) hb); clear hb hbox hg) | ((with_reducible refine gate_dst (N := 3) rfl ?_); refine bx 3 (cs := #[.string a1_0, .int .i64 a1_1, .string a1_2]) (t := 105) ?_; intro gb237 hg w17 hbox hb; have BK237 := Aside0.mk (hbox); have GW237 := Aside0.mk ((gs hg (bs HB))); have GE237 := Aside0.mk ((gs hg (bs HB))); replace HB := Aside0.mk (below_step (bs HB) hb); have NB236_237 := Aside0.mk ((gn hg (ks BK236))); have NB237_236 := Aside0.mk ((gm hg (ks BK236))); replace BK236 := Aside0.mk (blk_below (ks BK236) hb); clear hb hbox hg; have hnb18 := NB236_237.out; have hnc18 := NB237_236.out; obtain ⟨hcz19_0, hcz19_1, hcz19_2, hfz19_0, hfz19_1, hfz19_2⟩ := cf3 BK236; obtain ⟨hcz20_0, hcz20_1, hcz20_2, hfz20_0, hfz20_1, hfz20_2⟩ := cf3 BK237))
      go_ret
      exact ⟨ff, bs HB⟩
  · rw [if_neg c3] at H; have c3b0 : (a0_0.toList == a1_0.toList) = false := beq_eq_false_iff_ne.mpr c3; have c3b1 : (a0_0.toList != a1_0.toList) = true := bne_iff_ne.mpr c3; obtain rfl := Option.some.inj H
    go_enter Try.func149, Try.ntmps149
    go_wp2_with (first | ((with_reducible refine gate_dst (N := 2) rfl ?_); refine bx 2 (cs := #[.string a0_0, .int .i64 a0_1, .string a0_2]) (t := 105) ?_; intro gb236 hg w21 hbox hb; have BK236 := Aside0.mk (hbox); have GW236 := Aside0.mk ((gs hg (bs HB))); have GE236 := Aside0.mk ((gs hg (bs HB))); replace HB := Aside0.mk (below_step (bs HB) hb); clear hb hbox hg) | ((with_reducible refine gate_dst (N := 3) rfl ?_); refine bx 3 (cs := #[.string a1_0, .int .i64 a1_1, .string a1_2]) (t := 105) ?_; intro gb237 hg w22 hbox hb; have BK237 := Aside0.mk (hbox); have GW237 := Aside0.mk ((gs hg (bs HB))); have GE237 := Aside0.mk ((gs hg (bs HB))); replace HB := Aside0.mk (below_step (bs HB) hb); have NB236_237 := Aside0.mk ((gn hg (ks BK236))); have NB237_236 := Aside0.mk ((gm hg (ks BK236))); replace BK236 := Aside0.mk (blk_below (ks BK236) hb); clear hb hbox hg; have hnb23 := NB236_237.out; have hnc23 := NB237_236.out; obtain ⟨hcz24_0, hcz24_1, hcz24_2, hfz24_0, hfz24_1, hfz24_2⟩ := cf3 BK236; obtain ⟨hcz25_0, hcz25_1, hcz25_2, hfz25_0, hfz25_1, hfz25_2⟩ := cf3 BK237))
    go_ret
    exact ⟨ff, bs HB⟩
end Go.Proofs.Ytefmkmhjbfpelaa.QO
namespace Go.Proofs.Ytefmkmhjbfpelaa.QO
open Go.RowKit Go.Proofs.YtefmkmhjbfpelaaW.PrintWords Go.Proofs.YtefmkmhjbfpelaaW.PrintLast Go.Proofs.YtefmkmhjbfpelaaW.PrintMore
attribute [local go_sem] max2_int min2_int max_two min_two max_three min_three max_four min_four   -- for this text's walks alone
set_option linter.unusedVariables false
set_option linter.unusedSimpArgs false
def laws_eqSentS.T6 : Bool × List (List Nat × List Nat) := (true, [([], []), ([], []), ([0, 1], [0, 1]), ([2], [2]), ([], []), ([], []), ([4, 5], [4, 5]), ([6], [6]), ([3, 7], [3, 7]), ([8], [8])])
def laws_eqSentS.B6 : List Nat := [0, 0, 3, 7, 0, 0, 48, 112, 255, 511]
theorem laws_eqSentS.tab6 : rtab .any (opsOf Try.f103 6) = laws_eqSentS.T6 := by kernel_rfl
theorem laws_eqSentS.bits6 : waitsOk laws_eqSentS.T6.2 laws_eqSentS.B6 = true := by kernel_rfl
set_option maxHeartbeats 8000000 in
set_option maxRecDepth 100000 in
theorem laws_eqSentS.calls (k : Nat) (A0 : Option Addr) (c0 : Nat) (l0 : List (S105)) (A1 : Option Addr) (c1 : Nat) (l1 : List (S105)) (r : Bool) (w : World) (hr0 : Kd.C k105 w A0 l0.length l0) (hc0 : l0.length ≤ c0) (hr1 : Kd.C k105 w A1 l1.length l1) (hc1 : l1.length ≤ c1) (h : laws_eqSentS.f k l0 l1 = some r) :
    Calls Try.prog 103 #[.slice A0 l0.length c0, .slice A1 l1.length c1] w fun e w' => e = .returned (.bool r) ∧ Below w.heap.size w w' := by
  have hu105 := Try.underlying105; have HR0 := Aside0.mk hr0; have HC0 := Aside0.mk hc0; clear hr0 hc0; have HR1 := Aside0.mk hr1; have HC1 := Aside0.mk hc1; clear hr1 hc1; have HB := Aside0.mk (Below.refl w.heap.size w); have H : (if (l0.length : Int) = (l1.length : Int) then (laws_eqSentS.l0 k l0 l1 0) else (some false)) = some r := h; clear h
  by_cases c3 : (l0.length : Int) = (l1.length : Int)
  · rw [if_pos c3] at H; have c3b0 : ((l0.length : Int) == (l1.length : Int)) = true := beq_iff_eq.mpr c3; have c3b1 : ((l0.length : Int) != (l1.length : Int)) = false := bne_eq_false_iff_eq.mpr c3
    have c3b2 : (l0.length == l1.length) = true := by first | simpa using c3 | (simp at c3 ⊢; omega)
    clear c3; have H' := Aside0.mk H; clear H
    go_enter Try.func103, Try.ntmps103
    go_wp2
    go_loopg [5] k (fun kq v5 w' => ∃ (x5_1 : Int), v5 = .int .i64 x5_1 ∧ Aside0 (laws_eqSentS.l0 kq l0 l1 x5_1 = some r) ∧ Aside0 (kq ≤ k) ∧ Aside0 (Below w.heap.size w w'))
    case atStart => exact ⟨(0), fg, H', ⟨Nat.le_refl _⟩, ⟨bs HB⟩⟩
    case round =>
      clear H'
      try clear c1
      try clear p2
      try clear c3
      try clear c3b0
      try clear c3b1
      try clear c3b2
      obtain ⟨x5_1, rfl, HA, HK1, HB⟩ := hrel
      cases gk with
      | zero => exact absurd HA.out (by simp [laws_eqSentS.l0])
      | succ k1 =>
        have H := HA.out; clear HA; simp only [laws_eqSentS.l0] at H
        by_cases c4 : x5_1 < (l0.length : Int)
        · rw [if_pos c4] at H; have c4b0 : decide (x5_1 < (l0.length : Int)) = true := decide_eq_true c4; clear c4
          by_cases c5 : 0 ≤ x5_1
          · rw [if_pos c5] at H; have c5b0 : decide (0 ≤ x5_1) = true := decide_eq_true c5; clear c5
            by_cases c6 : x5_1 < (l1.length : Int)
            · rw [if_pos c6] at H; have c6b0 : decide (x5_1 < (l1.length : Int)) = true := decide_eq_true c6; clear c6; replace H := Option.bind_eq_some_iff.mp H; obtain ⟨t240, A70, H⟩ := H; replace H : (if t240 = true then (laws_eqSentS.l0 k1 l0 l1 (wrap64 (x5_1 + 1))) else (some false)) = some r := H; have A7 := Aside0.mk A70; clear A70
              by_cases c8 : t240 = true
              · subst c8
                have H1 : (laws_eqSentS.l0 k1 l0 l1 (wrap64 (x5_1 + 1))) = some r := by rw [if_pos rfl] at H; exact H
                clear H; have H := H1; clear H1; have H' := Aside0.mk H; clear H
                try go_wp2
                replace HB := Aside0.mk (below_drew1 HB.out); have p238 : 0 ≤ (x5_1 : Int) := oa; have q238 : x5_1 < (l0.length : Int) := oa; obtain ⟨ad238, e238, hx238_0, hx238_1, hx238_2⟩ := at_T105 HR0.out x5_1 p238 q238; have hw238_2 := hx238_2; have hw238_1 := hx238_1; have hw238_0 := hx238_0
                cases e238
                replace hx238_0 := cb HB hx238_0; replace hx238_1 := cb HB hx238_1; replace hx238_2 := cb HB hx238_2; replace p238 := eq_true p238; replace q238 := eq_true q238; have p239 : 0 ≤ (x5_1 : Int) := oa; have q239 : x5_1 < (l1.length : Int) := oa; obtain ⟨ad239, e239, hx239_0, hx239_1, hx239_2⟩ := at_T105 HR1.out x5_1 p239 q239; have hw239_2 := hx239_2; have hw239_1 := hx239_1; have hw239_0 := hx239_0
                cases e239
                replace hx239_0 := cb HB hx239_0; replace hx239_1 := cb HB hx239_1; replace hx239_2 := cb HB hx239_2; replace p239 := eq_true p239; replace q239 := eq_true q239; refine start_ (n := 10) (S := fun w' => w'.cell? (ad238.add ((x5_1).toNat * 3)) = some (.string ((rd_T105 l0 x5_1).f0)) ∧ w'.cell? ⟨(ad238.add ((x5_1).toNat * 3)).block, (ad238.add ((x5_1).toNat * 3)).off + 1, none⟩ = some (.int .i64 ((rd_T105 l0 x5_1).f1)) ∧ w'.cell? ⟨(ad238.add ((x5_1).toNat * 3)).block, (ad238.add ((x5_1).toNat * 3)).off + 2, none⟩ = some (.string ((rd_T105 l0 x5_1).f2)) ∧ w'.cell? (ad239.add ((x5_1).toNat * 3)) = some (.string ((rd_T105 l1 x5_1).f0)) ∧ w'.cell? ⟨(ad239.add ((x5_1).toNat * 3)).block, (ad239.add ((x5_1).toNat * 3)).off + 1, none⟩ = some (.int .i64 ((rd_T105 l1 x5_1).f1)) ∧ w'.cell? ⟨(ad239.add ((x5_1).toNat * 3)).block, (ad239.add ((x5_1).toNat * 3)).off + 2, none⟩ = some (.string ((rd_T105 l1 x5_1).f2))) (ds := []) #[false, false, false, false, false, false, false, false, false, false] (by kernel_rfl) rfl rfl ⟨((cb HB hw238_0).trans rfl), ((cb HB hw238_1).trans rfl), ((cb HB hw238_2).trans rfl), ((cb HB hw239_0).trans rfl), ((cb HB hw239_1).trans rfl), ((cb HB hw239_2).trans rfl)⟩ (fun hHeld => ?_); refine with_tabW laws_eqSentS.tab6 laws_eqSentS.bits6 (fun HT_ HW_ => ?_)
                generalize wr.drew = w9 at HB hx238_0 hx238_1 hx238_2 hx239_0 hx239_1 hx239_2 hHeld ⊢
                refine pA 0 17 HT_ ?_; refine pA 1 18 HT_ ?_; refine pA 2 19 HT_ ?_; refine pA 4 21 HT_ ?_; refine pA 5 22 HT_ ?_; refine pA 6 23 HT_ ?_; refine tA 3 20 HT_ HW_ hHeld ?_; refine tA 7 24 HT_ HW_ hHeld ?_; refine oA 8 25 HT_ (fun K hK => ?_); refine gA Try.func149 #[.agg #[.string ((rd_T105 l0 x5_1).f0), .int .i64 ((rd_T105 l0 x5_1).f1), .string ((rd_T105 l0 x5_1).f2)], .agg #[.string ((rd_T105 l1 x5_1).f0), .int .i64 ((rd_T105 l1 x5_1).f1), .string ((rd_T105 l1 x5_1).f2)]] ?_; (with_reducible refine (laws_eqSent.calls ((rd_T105 l0 x5_1).f0) ((rd_T105 l0 x5_1).f1) ((rd_T105 l0 x5_1).f2) ((rd_T105 l1 x5_1).f0) ((rd_T105 l1 x5_1).f1) ((rd_T105 l1 x5_1).f2) true _ A7.out).mono ?_); rintro e w10 ⟨rfl, hb⟩; refine ⟨_, rfl, ?_⟩; replace HB := Aside0.mk (below_step (bs HB) hb); (try clear hb); (try clear hb2); (try clear hk); (try clear hi); refine hK.out _ _ ⟨((cb HB hw238_0).trans rfl), ((cb HB hw238_1).trans rfl), ((cb HB hw238_2).trans rfl), ((cb HB hw239_0).trans rfl), ((cb HB hw239_1).trans rfl), ((cb HB hw239_2).trans rfl)⟩ (fun hHeld => ?_); clear hK K; refine nA 25 ?_; refine pA 9 26 HT_ ?_; refine done_ (done_of HT_.out (by kernel_rfl)) ?_
                try go_wp2
                go_roundg k1
                case measure => have := HK1.out; omega
                case rel => exact ⟨(wrap64 (x5_1 + 1)), fg, H', ⟨by have := HK1.out; omega⟩, ⟨bs HB⟩⟩
              · replace c8 := Bool.eq_false_iff.mpr c8; subst c8
                have H1 : (some false) = some r := by rw [if_neg (show ¬ (false = true) by decide)] at H; exact H
                clear H; have H := H1; clear H1; obtain rfl := Option.some.inj H
                try go_wp2
                replace HB := Aside0.mk (below_drew1 HB.out); have p238 : 0 ≤ (x5_1 : Int) := oa; have q238 : x5_1 < (l0.length : Int) := oa; obtain ⟨ad238, e238, hx238_0, hx238_1, hx238_2⟩ := at_T105 HR0.out x5_1 p238 q238; have hw238_2 := hx238_2; have hw238_1 := hx238_1; have hw238_0 := hx238_0
                cases e238
                replace hx238_0 := cb HB hx238_0; replace hx238_1 := cb HB hx238_1; replace hx238_2 := cb HB hx238_2; replace p238 := eq_true p238; replace q238 := eq_true q238; have p239 : 0 ≤ (x5_1 : Int) := oa; have q239 : x5_1 < (l1.length : Int) := oa; obtain ⟨ad239, e239, hx239_0, hx239_1, hx239_2⟩ := at_T105 HR1.out x5_1 p239 q239; have hw239_2 := hx239_2; have hw239_1 := hx239_1; have hw239_0 := hx239_0
                cases e239
                replace hx239_0 := cb HB hx239_0; replace hx239_1 := cb HB hx239_1; replace hx239_2 := cb HB hx239_2; replace p239 := eq_true p239; replace q239 := eq_true q239; refine start_ (n := 10) (S := fun w' => w'.cell? (ad238.add ((x5_1).toNat * 3)) = some (.string ((rd_T105 l0 x5_1).f0)) ∧ w'.cell? ⟨(ad238.add ((x5_1).toNat * 3)).block, (ad238.add ((x5_1).toNat * 3)).off + 1, none⟩ = some (.int .i64 ((rd_T105 l0 x5_1).f1)) ∧ w'.cell? ⟨(ad238.add ((x5_1).toNat * 3)).block, (ad238.add ((x5_1).toNat * 3)).off + 2, none⟩ = some (.string ((rd_T105 l0 x5_1).f2)) ∧ w'.cell? (ad239.add ((x5_1).toNat * 3)) = some (.string ((rd_T105 l1 x5_1).f0)) ∧ w'.cell? ⟨(ad239.add ((x5_1).toNat * 3)).block, (ad239.add ((x5_1).toNat * 3)).off + 1, none⟩ = some (.int .i64 ((rd_T105 l1 x5_1).f1)) ∧ w'.cell? ⟨(ad239.add ((x5_1).toNat * 3)).block, (ad239.add ((x5_1).toNat * 3)).off + 2, none⟩ = some (.string ((rd_T105 l1 x5_1).f2))) (ds := []) #[false, false, false, false, false, false, false, false, false, false] (by kernel_rfl) rfl rfl ⟨((cb HB hw238_0).trans rfl), ((cb HB hw238_1).trans rfl), ((cb HB hw238_2).trans rfl), ((cb HB hw239_0).trans rfl), ((cb HB hw239_1).trans rfl), ((cb HB hw239_2).trans rfl)⟩ (fun hHeld => ?_); refine with_tabW laws_eqSentS.tab6 laws_eqSentS.bits6 (fun HT_ HW_ => ?_)
                generalize wr.drew = w11 at HB hx238_0 hx238_1 hx238_2 hx239_0 hx239_1 hx239_2 hHeld ⊢
                refine pA 0 17 HT_ ?_; refine pA 1 18 HT_ ?_; refine pA 2 19 HT_ ?_; refine pA 4 21 HT_ ?_; refine pA 5 22 HT_ ?_; refine pA 6 23 HT_ ?_; refine tA 3 20 HT_ HW_ hHeld ?_; refine tA 7 24 HT_ HW_ hHeld ?_; refine oA 8 25 HT_ (fun K hK => ?_); refine gA Try.func149 #[.agg #[.string ((rd_T105 l0 x5_1).f0), .int .i64 ((rd_T105 l0 x5_1).f1), .string ((rd_T105 l0 x5_1).f2)], .agg #[.string ((rd_T105 l1 x5_1).f0), .int .i64 ((rd_T105 l1 x5_1).f1), .string ((rd_T105 l1 x5_1).f2)]] ?_; (with_reducible refine (laws_eqSent.calls ((rd_T105 l0 x5_1).f0) ((rd_T105 l0 x5_1).f1) ((rd_T105 l0 x5_1).f2) ((rd_T105 l1 x5_1).f0) ((rd_T105 l1 x5_1).f1) ((rd_T105 l1 x5_1).f2) false _ A7.out).mono ?_); rintro e w12 ⟨rfl, hb⟩; refine ⟨_, rfl, ?_⟩; replace HB := Aside0.mk (below_step (bs HB) hb); (try clear hb); (try clear hb2); (try clear hk); (try clear hi); refine hK.out _ _ ⟨((cb HB hw238_0).trans rfl), ((cb HB hw238_1).trans rfl), ((cb HB hw238_2).trans rfl), ((cb HB hw239_0).trans rfl), ((cb HB hw239_1).trans rfl), ((cb HB hw239_2).trans rfl)⟩ (fun hHeld => ?_); clear hK K; refine nA 25 ?_; refine pA 9 26 HT_ ?_; refine done_ (done_of HT_.out (by kernel_rfl)) ?_
                try go_wp2
                go_ret
                exact ⟨ff, bs HB⟩
            · rw [if_neg c6] at H
              exact absurd H (by simp)
          · rw [if_neg c5] at H
            exact absurd H (by simp)
        · rw [if_neg c4] at H; have c4b0 : decide (x5_1 < (l0.length : Int)) = false := decide_eq_false c4; clear c4; obtain rfl := Option.some.inj H
          go_wp2
          go_ret
          exact ⟨ff, bs HB⟩
  · rw [if_neg c3] at H; have c3b0 : ((l0.length : Int) == (l1.length : Int)) = false := beq_eq_false_iff_ne.mpr c3; have c3b1 : ((l0.length : Int) != (l1.length : Int)) = true := bne_iff_ne.mpr c3
    have c3b2 : (l0.length == l1.length) = false := by first | simpa using c3 | (simp at c3 ⊢; omega)
    obtain rfl := Option.some.inj H
    go_enter Try.func103, Try.ntmps103
    go_wp2
    go_ret
    exact ⟨ff, bs HB⟩
end Go.Proofs.Ytefmkmhjbfpelaa.QO
