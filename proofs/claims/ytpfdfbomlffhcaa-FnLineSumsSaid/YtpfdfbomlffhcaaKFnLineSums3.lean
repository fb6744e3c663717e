-- Merged by a program of this session (wip/tool/pack.py) out of its own texts for this claim.
import Derived.Test.YtpfdfbomlffhcaaKFnLineSums0
import Derived.Test.YtpfdfbomlffhcaaKFnLineSums1
import Derived.Test.YtpfdfbomlffhcaaKFnLineSums2
namespace Go.Proofs.Ytpfdfbomlffhcaa.QZ
open Go.RowKit Go.Proofs.YtpfdfbomlffhcaaW.PrintWords Go.Proofs.YtpfdfbomlffhcaaW.PrintLast Go.Proofs.YtpfdfbomlffhcaaW.PrintMore
attribute [local go_sem] max2_int min2_int max_two min_two max_three min_three max_four min_four   -- for this text's walks alone
set_option linter.unusedVariables false
set_option linter.unusedSimpArgs false
set_option maxHeartbeats 8000000 in
set_option maxRecDepth 100000 in
theorem spec_l01Src_n.calls (g : Nat) (s0_0 : List Int) (s0_1 s0_2 s0_3 a1 : Int) (r1 r3 r4 r5 : Int) (w0 w : World) (hI : IsS123 w0 w g s0_0 s0_1 s0_2 s0_3) (hB : Below w0.heap.size w0 w) (h : spec_l01Src_n.f s0_0 s0_1 s0_2 s0_3 a1 = some (r1, r3, r4, r5)) :
    Calls Try.prog 69 #[.pointer (some ⟨g, 0, none⟩), .int .i64 a1] w fun e w' => e = .returned (.int .i64 r1) ∧ IsS123 w0 w' g s0_0 r3 r4 r5 ∧ Below w0.heap.size w0 w' ∧ KeepBut w w' g none := by
  unfold spec_l01Src_n.f at h
  have HI1 := Aside0.mk hI; have HB1 := Aside0.mk hB; have HK1 := Aside0.mk (KeepBut.refl w g none); obtain ⟨A, c, HG, hg, HS⟩ := hI; have hc0 := cellS123_0 HG; have hc1 := cellS123_1 HG; have hf1 := blk_frozen HG 1; have HGE := Aside0.mk hg; clear HG hg
  by_cases h1 : a1 ≤ 1
  · rw [if_pos h1] at h
    simp only [Option.some.injEq, Prod.mk.injEq] at h
    obtain ⟨rfl, rfl, rfl, rfl⟩ := h; clear HS hc0 hc1 hf1 hB
    go_enter Try.func69, Try.ntmps69
    go_wp2
    go_ret
    exact ⟨rfl, HI1.out, HB1.out, HK1.out⟩
  · rw [if_neg h1] at h
    by_cases hz : IntKind.u64.wrap a1 = 0
    · rw [if_pos hz] at h; cases h
    rw [if_neg hz] at h
    by_cases h2 : s0_1 < (s0_0.length : Int)
    · rw [if_pos h2] at h
      by_cases h0 : 0 ≤ s0_1
      · rw [if_pos h0] at h
        simp only [Option.some.injEq, Prod.mk.injEq] at h
        obtain ⟨rfl, rfl, rfl, rfl⟩ := h; obtain ⟨ad, eA, hx⟩ := Kd.at_int HS.1 s0_1 h0 (by omega); replace hx := pw_cell_below hB hx
        rw [eA] at hc0
        clear HS eA hB
        go_enter Try.func69, Try.ntmps69
        go_wp2
        go_quiet (fail)
        obtain ⟨nq1, rfl⟩ : ∃ x, x = nq := ⟨_, rfl⟩
        go_wp2
        go_quiet (fail)
        obtain ⟨nq2, rfl⟩ : ∃ x, x = nq := ⟨_, rfl⟩
        go_wp2
        replace HI1 := Aside0.mk (IsS123.set_1 (IsS123.drewN HI1.out (nq1 + nq2)) (wrap64 (s0_1 + 1))); replace HB1 := Aside0.mk (below_set (pw_below_drewN HB1.out (nq1 + nq2)) HGE.out (j := 1) (v := .int .i64 (wrap64 (s0_1 + 1)))); replace HK1 := Aside0.mk (KeepBut.set_ (keep_drewN HK1.out (nq1 + nq2)) 1 (.int .i64 (wrap64 (s0_1 + 1))))
        generalize (w.drewN (nq1 + nq2)).setCell { block := g, off := 1 } (Value.int IntKind.i64 (wrap64 (s0_1 + 1))) = w2 at HI1 HB1 HK1 ⊢
        clear hc0 hc1 hf1 hx; refine wp_region_still_tail 13 (by kernel_rfl) (by kernel_rfl) ?_; simp only [List.take_succ_cons, List.take_zero, List.drop_succ_cons, List.drop_zero]
        change wpStill _ _ w2.drew (fun a' => wpList _ _ _ _ a' w2.drew) _ _
        replace HI1 := Aside0.mk (IsS123.drew HI1.out); replace HB1 := Aside0.mk (below_drew1 HB1.out); replace HK1 := Aside0.mk (keep_drew HK1.out)
        generalize w2.drew = w3 at HI1 HB1 HK1 ⊢
        have hc2 := cellS123_2 HI1.out.choose_spec.choose_spec.1; have hf2 := blk_frozen HI1.out.choose_spec.choose_spec.1 2
        repeat still_step
        refine wpStill_nil ?_
        go_wp2
        generalize hm1 : bits BinOp.xor IntKind.u64 s0_2 (IntKind.u64.wrap (s0_2 * 8192)) = m1; replace HI1 := Aside0.mk (IsS123.set_2 HI1.out m1); replace HB1 := Aside0.mk (below_set HB1.out HGE.out (j := 2) (v := .int .u64 m1)); replace HK1 := Aside0.mk (KeepBut.set_ HK1.out 2 (.int .u64 m1)); clear hc2 hf2 w2
        generalize w3.setCell { block := g, off := 2 } (Value.int IntKind.u64 m1) = w2 at HI1 HB1 HK1 ⊢
        refine wp_region_still_tail 13 (by kernel_rfl) (by kernel_rfl) ?_; simp only [List.take_succ_cons, List.take_zero, List.drop_succ_cons, List.drop_zero]
        change wpStill _ _ w2.drew (fun a' => wpList _ _ _ _ a' w2.drew) _ _
        replace HI1 := Aside0.mk (IsS123.drew HI1.out); replace HB1 := Aside0.mk (below_drew1 HB1.out); replace HK1 := Aside0.mk (keep_drew HK1.out)
        generalize w2.drew = w3 at HI1 HB1 HK1 ⊢
        have hc2 := cellS123_2 HI1.out.choose_spec.choose_spec.1; have hf2 := blk_frozen HI1.out.choose_spec.choose_spec.1 2
        repeat still_step
        refine wpStill_nil ?_
        go_wp2
        generalize hm2 : bits BinOp.xor IntKind.u64 m1 (m1 / 128) = m2; replace HI1 := Aside0.mk (IsS123.set_2 HI1.out m2); replace HB1 := Aside0.mk (below_set HB1.out HGE.out (j := 2) (v := .int .u64 m2)); replace HK1 := Aside0.mk (KeepBut.set_ HK1.out 2 (.int .u64 m2)); clear hc2 hf2 w2
        generalize w3.setCell { block := g, off := 2 } (Value.int IntKind.u64 m2) = w2 at HI1 HB1 HK1 ⊢
        refine wp_region_still_tail 13 (by kernel_rfl) (by kernel_rfl) ?_; simp only [List.take_succ_cons, List.take_zero, List.drop_succ_cons, List.drop_zero]
        change wpStill _ _ w2.drew (fun a' => wpList _ _ _ _ a' w2.drew) _ _
        replace HI1 := Aside0.mk (IsS123.drew HI1.out); replace HB1 := Aside0.mk (below_drew1 HB1.out); replace HK1 := Aside0.mk (keep_drew HK1.out)
        generalize w2.drew = w3 at HI1 HB1 HK1 ⊢
        have hc2 := cellS123_2 HI1.out.choose_spec.choose_spec.1; have hf2 := blk_frozen HI1.out.choose_spec.choose_spec.1 2
        repeat still_step
        refine wpStill_nil ?_
        go_wp2
        go_ret
        subst hm2; subst hm1
        exact ⟨rfl, IsS123.set_2 HI1.out _, bs HB1, by repeat (first | (with_reducible first | exact HK1.out | apply keep_drewN | apply keep_drew | apply KeepBut.set_) | exact HK1.out)⟩
      · rw [if_neg h0] at h; cases h
    · rw [if_neg h2] at h
      simp only [Option.some.injEq, Prod.mk.injEq] at h
      obtain ⟨rfl, rfl, rfl, rfl⟩ := h; clear HS hB
      go_enter Try.func69, Try.ntmps69
      go_wp2
      go_quiet (fail)
      obtain ⟨nq1, rfl⟩ : ∃ x, x = nq := ⟨_, rfl⟩
      go_wp2
      replace HI1 := Aside0.mk (IsS123.drewN HI1.out nq1); replace HB1 := Aside0.mk (pw_below_drewN HB1.out nq1); replace HK1 := Aside0.mk (keep_drewN HK1.out nq1)
      generalize w.drewN nq1 = w2 at HI1 HB1 HK1 ⊢
      clear hc0 hc1 hf1; refine wp_region_still_tail 13 (by kernel_rfl) (by kernel_rfl) ?_; simp only [List.take_succ_cons, List.take_zero, List.drop_succ_cons, List.drop_zero]
      change wpStill _ _ w2.drew (fun a' => wpList _ _ _ _ a' w2.drew) _ _
      replace HI1 := Aside0.mk (IsS123.drew HI1.out); replace HB1 := Aside0.mk (below_drew1 HB1.out); replace HK1 := Aside0.mk (keep_drew HK1.out)
      generalize w2.drew = w3 at HI1 HB1 HK1 ⊢
      have hc2 := cellS123_2 HI1.out.choose_spec.choose_spec.1; have hf2 := blk_frozen HI1.out.choose_spec.choose_spec.1 2
      repeat still_step
      refine wpStill_nil ?_
      go_wp2
      generalize hm1 : bits BinOp.xor IntKind.u64 s0_2 (IntKind.u64.wrap (s0_2 * 8192)) = m1; replace HI1 := Aside0.mk (IsS123.set_2 HI1.out m1); replace HB1 := Aside0.mk (below_set HB1.out HGE.out (j := 2) (v := .int .u64 m1)); replace HK1 := Aside0.mk (KeepBut.set_ HK1.out 2 (.int .u64 m1)); clear hc2 hf2 w2
      generalize w3.setCell { block := g, off := 2 } (Value.int IntKind.u64 m1) = w2 at HI1 HB1 HK1 ⊢
      refine wp_region_still_tail 13 (by kernel_rfl) (by kernel_rfl) ?_; simp only [List.take_succ_cons, List.take_zero, List.drop_succ_cons, List.drop_zero]
      change wpStill _ _ w2.drew (fun a' => wpList _ _ _ _ a' w2.drew) _ _
      replace HI1 := Aside0.mk (IsS123.drew HI1.out); replace HB1 := Aside0.mk (below_drew1 HB1.out); replace HK1 := Aside0.mk (keep_drew HK1.out)
      generalize w2.drew = w3 at HI1 HB1 HK1 ⊢
      have hc2 := cellS123_2 HI1.out.choose_spec.choose_spec.1; have hf2 := blk_frozen HI1.out.choose_spec.choose_spec.1 2
      repeat still_step
      refine wpStill_nil ?_
      go_wp2
      generalize hm2 : bits BinOp.xor IntKind.u64 m1 (m1 / 128) = m2; replace HI1 := Aside0.mk (IsS123.set_2 HI1.out m2); replace HB1 := Aside0.mk (below_set HB1.out HGE.out (j := 2) (v := .int .u64 m2)); replace HK1 := Aside0.mk (KeepBut.set_ HK1.out 2 (.int .u64 m2)); clear hc2 hf2 w2
      generalize w3.setCell { block := g, off := 2 } (Value.int IntKind.u64 m2) = w2 at HI1 HB1 HK1 ⊢
      refine wp_region_still_tail 13 (by kernel_rfl) (by kernel_rfl) ?_; simp only [List.take_succ_cons, List.take_zero, List.drop_succ_cons, List.drop_zero]
      change wpStill _ _ w2.drew (fun a' => wpList _ _ _ _ a' w2.drew) _ _
      replace HI1 := Aside0.mk (IsS123.drew HI1.out); replace HB1 := Aside0.mk (below_drew1 HB1.out); replace HK1 := Aside0.mk (keep_drew HK1.out)
      generalize w2.drew = w3 at HI1 HB1 HK1 ⊢
      have hc2 := cellS123_2 HI1.out.choose_spec.choose_spec.1; have hf2 := blk_frozen HI1.out.choose_spec.choose_spec.1 2
      repeat still_step
      refine wpStill_nil ?_
      go_wp2
      go_ret
      subst hm2; subst hm1
      exact ⟨rfl, IsS123.set_2 HI1.out _, bs HB1, by repeat (first | (with_reducible first | exact HK1.out | apply keep_drewN | apply keep_drew | apply KeepBut.set_) | exact HK1.out)⟩
set_option maxHeartbeats 8000000 in
set_option maxRecDepth 100000 in
theorem spec_l01Src_pick.calls (g : Nat) (s0_0 : List Int) (s0_1 : Int) (s0_2 : Int) (s0_3 : Int) (A1 : Option Addr) (c1 : Nat) (l1 : List ByteArray) (r1 : ByteArray) (r2 : Int) (r3 : Int) (r4 : Int) (w0 w : World) (hI : IsS123 w0 w g s0_0 s0_1 s0_2 s0_3) (hB : Below w0.heap.size w0 w) (hr1 : Kd.C Kd.string w A1 l1.length l1) (hc1 : l1.length ≤ c1) (hf1 : ∀ ad, A1 = some ad → 0 < l1.length → ad.block ≠ g) (h : spec_l01Src_pick.f s0_0 s0_1 s0_2 s0_3 l1 = some (r1, r2, r3, r4)) :
    Calls Try.prog 93 #[.pointer (some ⟨g, 0, none⟩), .slice A1 l1.length c1] w fun e w' => e = .returned (.string r1) ∧ IsS123 w0 w' g s0_0 r2 r3 r4 ∧ Below w0.heap.size w0 w' ∧ KeepBut w w' g none := by
  have HR1 := Aside0.mk hr1; have HC1 := Aside0.mk hc1; clear hr1 hc1; have HI0 := Aside0.mk hI; have HK := Aside0.mk (KeepBut.refl w g none); have HL := Aside0.mk hB.size; clear hI; have HW0 := Aside0.mk hB.size; have HB := Aside0.mk hB; clear hB; have H : ((spec_l01Src_n.f s0_0 s0_1 s0_2 s0_3 (l1.length : Int)).bind fun bt103 => (if 0 ≤ bt103.1 then (if bt103.1 < (l1.length : Int) then (some (rdOf ByteArray.empty l1 bt103.1, bt103.2.1, bt103.2.2.1, bt103.2.2.2)) else (none)) else (none))) = some (r1, r2, r3, r4) := h; clear h; replace H := Option.bind_eq_some_iff.mp H; obtain ⟨⟨t103, t104, t105, t106⟩, A30, H⟩ := H; replace H : (if 0 ≤ t103 then (if t103 < (l1.length : Int) then (some (rdOf ByteArray.empty l1 t103, t104, t105, t106)) else (none)) else (none)) = some (r1, r2, r3, r4) := H; have A3 := Aside0.mk A30; clear A30
  by_cases c4 : 0 ≤ t103
  · rw [if_pos c4] at H; have c4b0 : decide (0 ≤ t103) = true := decide_eq_true c4; clear c4
    by_cases c5 : t103 < (l1.length : Int)
    · rw [if_pos c5] at H; have c5b0 : decide (t103 < (l1.length : Int)) = true := decide_eq_true c5; clear c5; simp only [Option.some.injEq, Prod.mk.injEq] at H; obtain ⟨rfl, rfl, rfl, rfl⟩ := H
      go_enter Try.func93, Try.ntmps93
      go_wp2_with (first | ((first | ((with_reducible refine gate_callee (f := 69) rfl ?_); refine goesL_ (some 9) rfl rfl Try.func69 (by kernel_rfl) rfl #[.pointer (some ⟨g, 0, none⟩), .int .i64 (l1.length : Int)] rfl (by (try simp only [List.map_toArray, List.map_cons, List.map_nil]); first | done | rfl | (simp only [List.length_drop, List.length_take]; rfl)) ?_; (with_reducible refine (spec_l01Src_n.calls g s0_0 s0_1 s0_2 s0_3 (l1.length : Int) t103 t104 t105 t106 w0 _ ?side1 ?side2 A3.out).mono ?_); (case side1 => repeat (first | (with_reducible first | exact HI0.out | apply IsS123.alloc | apply IsS123.drewN | apply IsS123.drew | apply IsS123.set_1 | apply IsS123.set_2 | apply IsS123.set_3) | exact HI0.out)); (case side2 => repeat (first | (with_reducible first | exact HB.out | apply below_alloc | apply pw_below_drewN | apply below_drew1 | refine below_set ?_ (IsS123.ge HI0.out)) | exact HB.out)); rintro e w6 ⟨rfl, hi, hb, hk⟩; refine ⟨_, rfl, ?_⟩) | (go_at_call 69; (with_reducible refine (spec_l01Src_n.calls g s0_0 s0_1 s0_2 s0_3 (l1.length : Int) t103 t104 t105 t106 w0 _ ?side1 ?side2 A3.out).mono ?_); (case side1 => repeat (first | (with_reducible first | exact HI0.out | apply IsS123.alloc | apply IsS123.drewN | apply IsS123.drew | apply IsS123.set_1 | apply IsS123.set_2 | apply IsS123.set_3) | exact HI0.out)); (case side2 => repeat (first | (with_reducible first | exact HB.out | apply below_alloc | apply pw_below_drewN | apply below_drew1 | refine below_set ?_ (IsS123.ge HI0.out)) | exact HB.out)); rintro e w6 ⟨rfl, hi, hb, hk⟩)); replace HK := Aside0.mk (KeepBut.trans (by repeat (first | (with_reducible first | exact HK.out | apply KeepBut.set_ | apply keep_drewN | apply keep_drew | apply keep_alloc) | exact HK.out)) hk (.inl rfl)); replace HB := Aside0.mk (hb); replace HI0 := Aside0.mk (hi); (try clear hb); (try clear hb2); (try clear hk); (try clear hi); have p107 : 0 ≤ (t103 : Int) := oa; have q107 : t103 < (l1.length : Int) := oa; obtain ⟨ad107, e107, hx107_0⟩ := Kd.at_string HR1.out t103 p107 q107; cases e107; replace hx107_0 := keep_cell HK.out hx107_0 (by first | (rw [add_block]; exact hf1 _ rfl (by omega)) | exact hf1 _ rfl (by omega) | exact hf1 ad107 rfl (by omega)); replace p107 := eq_true p107; replace q107 := eq_true q107))
      go_ret
      exact ⟨ff, by repeat (first | (with_reducible first | exact HI0.out | apply IsS123.alloc | apply IsS123.drewN | apply IsS123.drew | apply IsS123.set_1 | apply IsS123.set_2 | apply IsS123.set_3) | exact HI0.out), by repeat (first | (with_reducible first | exact HB.out | apply below_alloc | apply pw_below_drewN | apply below_drew1 | refine below_set ?_ (IsS123.ge HI0.out)) | exact HB.out), by repeat (first | (with_reducible first | exact HK.out | apply KeepBut.set_ | apply keep_drewN | apply keep_drew | apply keep_alloc) | exact HK.out)⟩
    · rw [if_neg c5] at H
      exact absurd H (by simp)
  · rw [if_neg c4] at H
    exact absurd H (by simp)
set_option maxHeartbeats 8000000 in
set_option maxRecDepth 100000 in
theorem spec_l01Src_one.calls (g : Nat) (s0_0 : List Int) (s0_1 : Int) (s0_2 : Int) (s0_3 : Int) (a1 : Int) (r1 : Bool) (r2 : Int) (r3 : Int) (r4 : Int) (w0 w : World) (hI : IsS123 w0 w g s0_0 s0_1 s0_2 s0_3) (hB : Below w0.heap.size w0 w) (h : spec_l01Src_one.f s0_0 s0_1 s0_2 s0_3 a1 = some (r1, r2, r3, r4)) :
    Calls Try.prog 70 #[.pointer (some ⟨g, 0, none⟩), .int .i64 a1] w fun e w' => e = .returned (.bool r1) ∧ IsS123 w0 w' g s0_0 r2 r3 r4 ∧ Below w0.heap.size w0 w' ∧ KeepBut w w' g none := by
  have HI0 := Aside0.mk hI; have HK := Aside0.mk (KeepBut.refl w g none); have HL := Aside0.mk hB.size; clear hI; have HW0 := Aside0.mk hB.size; have HB := Aside0.mk hB; clear hB; have H : ((spec_l01Src_n.f s0_0 s0_1 s0_2 s0_3 a1).bind fun bt108 => (some ((bt108.1 == 0), bt108.2.1, bt108.2.2.1, bt108.2.2.2))) = some (r1, r2, r3, r4) := h; clear h; replace H := Option.bind_eq_some_iff.mp H; obtain ⟨⟨t108, t109, t110, t111⟩, A30, H⟩ := H; replace H : (some ((t108 == 0), t109, t110, t111)) = some (r1, r2, r3, r4) := H; have A3 := Aside0.mk A30; clear A30; simp only [Option.some.injEq, Prod.mk.injEq] at H; obtain ⟨rfl, rfl, rfl, rfl⟩ := H
  go_enter Try.func70, Try.ntmps70
  go_wp2_with (first | ((first | ((with_reducible refine gate_callee (f := 69) rfl ?_); refine goesL_ (some 7) rfl rfl Try.func69 (by kernel_rfl) rfl #[.pointer (some ⟨g, 0, none⟩), .int .i64 a1] rfl (by (try simp only [List.map_toArray, List.map_cons, List.map_nil]); first | done | rfl | (simp only [List.length_drop, List.length_take]; rfl)) ?_; (with_reducible refine (spec_l01Src_n.calls g s0_0 s0_1 s0_2 s0_3 a1 t108 t109 t110 t111 w0 _ ?side1 ?side2 A3.out).mono ?_); (case side1 => repeat (first | (with_reducible first | exact HI0.out | apply IsS123.alloc | apply IsS123.drewN | apply IsS123.drew | apply IsS123.set_1 | apply IsS123.set_2 | apply IsS123.set_3) | exact HI0.out)); (case side2 => repeat (first | (with_reducible first | exact HB.out | apply below_alloc | apply pw_below_drewN | apply below_drew1 | refine below_set ?_ (IsS123.ge HI0.out)) | exact HB.out)); rintro e w4 ⟨rfl, hi, hb, hk⟩; refine ⟨_, rfl, ?_⟩) | (go_at_call 69; (with_reducible refine (spec_l01Src_n.calls g s0_0 s0_1 s0_2 s0_3 a1 t108 t109 t110 t111 w0 _ ?side1 ?side2 A3.out).mono ?_); (case side1 => repeat (first | (with_reducible first | exact HI0.out | apply IsS123.alloc | apply IsS123.drewN | apply IsS123.drew | apply IsS123.set_1 | apply IsS123.set_2 | apply IsS123.set_3) | exact HI0.out)); (case side2 => repeat (first | (with_reducible first | exact HB.out | apply below_alloc | apply pw_below_drewN | apply below_drew1 | refine below_set ?_ (IsS123.ge HI0.out)) | exact HB.out)); rintro e w4 ⟨rfl, hi, hb, hk⟩)); replace HK := Aside0.mk (KeepBut.trans (by repeat (first | (with_reducible first | exact HK.out | apply KeepBut.set_ | apply keep_drewN | apply keep_drew | apply keep_alloc) | exact HK.out)) hk (.inl rfl)); replace HB := Aside0.mk (hb); replace HI0 := Aside0.mk (hi); (try clear hb); (try clear hb2); (try clear hk); (try clear hi)))
  go_ret
  exact ⟨ff, by repeat (first | (with_reducible first | exact HI0.out | apply IsS123.alloc | apply IsS123.drewN | apply IsS123.drew | apply IsS123.set_1 | apply IsS123.set_2 | apply IsS123.set_3) | exact HI0.out), by repeat (first | (with_reducible first | exact HB.out | apply below_alloc | apply pw_below_drewN | apply below_drew1 | refine below_set ?_ (IsS123.ge HI0.out)) | exact HB.out), by repeat (first | (with_reducible first | exact HK.out | apply KeepBut.set_ | apply keep_drewN | apply keep_drew | apply keep_alloc) | exact HK.out)⟩
end Go.Proofs.Ytpfdfbomlffhcaa.QZ
