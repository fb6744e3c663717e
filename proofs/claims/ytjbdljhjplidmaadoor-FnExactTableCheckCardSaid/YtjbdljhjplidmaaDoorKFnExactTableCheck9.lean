-- Merged by a program of this session (wip/tool/pack.py) out of its own texts for this claim.
import Derived.Test.YtjbdljhjplidmaaDoorKFnExactTableCheck0
import Derived.Test.YtjbdljhjplidmaaDoorKFnExactTableCheck1
import Derived.Test.YtjbdljhjplidmaaDoorKFnExactTableCheck2
import Derived.Test.YtjbdljhjplidmaaDoorKFnExactTableCheck3
import Derived.Test.YtjbdljhjplidmaaDoorKFnExactTableCheck8
namespace Go.Proofs.YtjbdljhjplidmaaDoor.QF
open Go.RowKit Go.Proofs.YtjbdljhjplidmaaDoorW.PrintWords Go.Proofs.YtjbdljhjplidmaaDoorW.PrintLast Go.Proofs.YtjbdljhjplidmaaDoorW.PrintMore
attribute [local go_sem] max2_int min2_int max_two min_two max_three min_three max_four min_four   -- for this text's walks alone
set_option linter.unusedVariables false
set_option linter.unusedSimpArgs false
set_option maxHeartbeats 8000000 in
set_option maxRecDepth 100000 in
theorem impl_tableOf.calls (k : Nat) (a0 : Int) (r : List (S57)) (w : World) (h : impl_tableOf.f k a0 = some r) :
    Calls Tryd.prog 40 #[.int .i64 a0] w fun e w' => ∃ v0_ : Value, e = .returned (v0_) ∧ Kd.R k57 57 w' w.heap.size (fun _ => True) v0_ r ∧ Below w.heap.size w w' := by
  have hu57 := Tryd.underlying57; have HB := Aside0.mk (Below.refl w.heap.size w); have H : (if a0 = 1 then ((impl_tableOf_1.f (⟨#[114, 100]⟩ : ByteArray)).bind fun bt225 => ((impl_tableOf_2.f (⟨#[76, 73, 78]⟩ : ByteArray) (⟨#[110, 114, 113, 63, 110]⟩ : ByteArray)).bind fun bt229 => (some (([(⟨bt225.1, bt225.2.1, bt225.2.2.1, bt225.2.2.2⟩ : S57), (⟨(⟨#[78, 79, 84]⟩ : ByteArray), 0, 2, (⟨#[116]⟩ : ByteArray)⟩ : S57), (⟨bt229.1, bt229.2.1, bt229.2.2.1, bt229.2.2.2⟩ : S57)] : List (S57)))))) else (if a0 = 2 then (impl_tableOf.j0 k a0 (a0 == 2) (⟨#[78, 79, 84]⟩ : ByteArray) 0 2 (⟨#[116]⟩ : ByteArray)) else (impl_tableOf.j0 k a0 (a0 == 4) (⟨#[78, 79, 84]⟩ : ByteArray) 0 2 (⟨#[116]⟩ : ByteArray)))) = some r := h; clear h
  by_cases c2 : a0 = 1
  · rw [if_pos c2] at H; have c2b0 : (a0 == 1) = true := beq_iff_eq.mpr c2; have c2b1 : (a0 != 1) = false := bne_eq_false_iff_eq.mpr c2; clear c2; replace H := Option.bind_eq_some_iff.mp H; obtain ⟨⟨t225, t226, t227, t228⟩, A30, H⟩ := H; replace H : ((impl_tableOf_2.f (⟨#[76, 73, 78]⟩ : ByteArray) (⟨#[110, 114, 113, 63, 110]⟩ : ByteArray)).bind fun bt229 => (some (([(⟨t225, t226, t227, t228⟩ : S57), (⟨(⟨#[78, 79, 84]⟩ : ByteArray), 0, 2, (⟨#[116]⟩ : ByteArray)⟩ : S57), (⟨bt229.1, bt229.2.1, bt229.2.2.1, bt229.2.2.2⟩ : S57)] : List (S57))))) = some r := H; have A3 := Aside0.mk A30; clear A30; replace H := Option.bind_eq_some_iff.mp H; obtain ⟨⟨t229, t230, t231, t232⟩, A40, H⟩ := H; replace H : (some (([(⟨t225, t226, t227, t228⟩ : S57), (⟨(⟨#[78, 79, 84]⟩ : ByteArray), 0, 2, (⟨#[116]⟩ : ByteArray)⟩ : S57), (⟨t229, t230, t231, t232⟩ : S57)] : List (S57)))) = some r := H; have A4 := Aside0.mk A40; clear A40; obtain ⟨y233, hy233⟩ : ∃ y_ : List (S57), y_ = (([(⟨t225, t226, t227, t228⟩ : S57), (⟨(⟨#[78, 79, 84]⟩ : ByteArray), 0, 2, (⟨#[116]⟩ : ByteArray)⟩ : S57), (⟨t229, t230, t231, t232⟩ : S57)] : List (S57))) := ⟨_, rfl⟩
    replace H : (some y233) = some r := by first | (rw [hy233]; with_reducible exact H) | (have H2_ := (Option.bind_some _ _).symm.trans H; rw [hy233]; with_reducible exact H2_) | (have H2_ := (Option.bind_some _ _).symm.trans H; with_reducible exact H2_) | with_reducible exact H | (rw [hy233]; exact H) | exact H
    have Ny233 := Aside0.mk hy233; clear hy233; obtain rfl := Option.some.inj H
    go_enter Tryd.func40, Tryd.ntmps40
    try go_wp2_with (first | ((with_reducible refine gate_dst (N := 4) rfl ?_); refine bx 4 (cs := #[.string (⟨#[]⟩ : ByteArray), .int .i64 0, .int .i64 0, .string (⟨#[]⟩ : ByteArray)]) (t := 57) ?_; intro gb224 hg w5 hbox hb; have BK224 := Aside0.mk (hbox); have GW224 := Aside0.mk ((gs hg (bs HB))); have GE224 := Aside0.mk ((gs hg (bs HB))); replace HB := Aside0.mk (below_step (bs HB) hb); clear hb hbox hg; obtain ⟨hcz6_0, hcz6_1, hcz6_2, hcz6_3, hfz6_0, hfz6_1, hfz6_2, hfz6_3⟩ := cf4 BK224))
    have n0_ : Aside0 (((((w5.setCell ⟨gb224, 0, none⟩ (.string (⟨#[78, 79, 84]⟩ : ByteArray))).setCell ⟨gb224, 1, none⟩ (.int .i64 0)).setCell ⟨gb224, 2, none⟩ (.int .i64 2)).setCell ⟨gb224, 3, none⟩ (.string (⟨#[116]⟩ : ByteArray))).heap[gb224]? = some (.cells #[.string (⟨#[78, 79, 84]⟩ : ByteArray), .int .i64 0, .int .i64 2, .string (⟨#[116]⟩ : ByteArray)] 57 (0, 0))) := ⟨kp BK224⟩; have n1_ : Aside0 (Below w.heap.size w ((((w5.setCell ⟨gb224, 0, none⟩ (.string (⟨#[78, 79, 84]⟩ : ByteArray))).setCell ⟨gb224, 1, none⟩ (.int .i64 0)).setCell ⟨gb224, 2, none⟩ (.int .i64 2)).setCell ⟨gb224, 3, none⟩ (.string (⟨#[116]⟩ : ByteArray)))) := ⟨bs HB⟩; (try clear BK224); (try clear HB)
    generalize ((((w5.setCell ⟨gb224, 0, none⟩ (.string (⟨#[78, 79, 84]⟩ : ByteArray))).setCell ⟨gb224, 1, none⟩ (.int .i64 0)).setCell ⟨gb224, 2, none⟩ (.int .i64 2)).setCell ⟨gb224, 3, none⟩ (.string (⟨#[116]⟩ : ByteArray))) = w7 at n0_ n1_ ⊢
    have BK224 := n0_; have HB := n1_; clear n0_ n1_; replace BK224 := Aside0.mk (blk_drew BK224.out); replace HB := Aside0.mk (below_drew1 HB.out); refine start_ (n := 7) (S := fun w' => w'.cell? ⟨gb224, 0, none⟩ = some (.string (⟨#[78, 79, 84]⟩ : ByteArray)) ∧ w'.cell? ⟨gb224, 1, none⟩ = some (.int .i64 0) ∧ w'.cell? ⟨gb224, 2, none⟩ = some (.int .i64 2) ∧ w'.cell? ⟨gb224, 3, none⟩ = some (.string (⟨#[116]⟩ : ByteArray))) (ds := []) #[false, false, false, false, false, false, false] (by kernel_rfl) rfl rfl ⟨(blk_cell BK224.out 0).trans rfl, (blk_cell BK224.out 1).trans rfl, (blk_cell BK224.out 2).trans rfl, (blk_cell BK224.out 3).trans rfl⟩ (fun hHeld => ?_)
    generalize w7.drew = w8 at BK224 HB hHeld ⊢
    refine pure_ (i := 0) (N := some 10) (v := ?_) (a' := ?_) #[true, false, false, false, false, false, false] rfl rfl (by kernel_rfl) (fun _ _ _ h => h) (Or.inl ⟨by rfl, ?_⟩) ?_ ?_
    rotate_left
    · intro w'
      go_simp
      (with_reducible rfl)
    rotate_left
    · simp only [Act.put, List.setIfInBounds_toArray, List.set_cons_zero, List.set_cons_succ, i64_w, i32_w]
      rfl
    refine pure_ (i := 3) (N := some 13) (v := ?_) (a' := ?_) #[true, false, false, true, false, false, false] rfl rfl (by kernel_rfl) (fun _ _ _ h => h) (Or.inl ⟨by rfl, ?_⟩) ?_ ?_
    rotate_left
    · intro w'
      go_simp
      (with_reducible rfl)
    rotate_left
    · simp only [Act.put, List.setIfInBounds_toArray, List.set_cons_zero, List.set_cons_succ, i64_w, i32_w]
      rfl
    refine take_ (i := 2) (N := some 12) (v := ?_) (a' := ?_) #[true, false, true, true, false, false, false] rfl rfl (by kernel_rfl) (fun _ _ _ h => h) (Or.inl ⟨by rfl, ?_⟩) hHeld ?_ ?_
    rotate_left
    · rintro w' ⟨s0, s1, s2, s3⟩
      go_simp
      (with_reducible rfl)
    rotate_left
    · simp only [Act.put, List.setIfInBounds_toArray, List.set_cons_zero, List.set_cons_succ, i64_w, i32_w]
      rfl
    refine one_ (i := 1) (N := some 11) #[true, true, true, true, false, false, false] rfl rfl (by kernel_rfl) (by decide) (fun K hK => ?_); refine goesV_ Tryd.func64 (by kernel_rfl) rfl #[.string (⟨#[114, 100]⟩ : ByteArray)] (by rfl) rfl rfl (by rfl) (by (try simp only [List.map_toArray, List.map_cons, List.map_nil]); first | done | rfl | (simp only [List.length_drop, List.length_take]; rfl)) ?_; (with_reducible refine (impl_tableOf_1.calls (⟨#[114, 100]⟩ : ByteArray) t225 t226 t227 t228 _ A3.out).mono ?_); rintro e w9 ⟨rfl, hb⟩; refine ⟨_, rfl, ?_⟩; replace BK224 := Aside0.mk (blk_below (g := gb224) (o := .cells #[.string (⟨#[78, 79, 84]⟩ : ByteArray), .int .i64 0, .int .i64 2, .string (⟨#[116]⟩ : ByteArray)] 57 (0, 0)) (ks BK224) hb); replace HB := Aside0.mk (below_step (bs HB) hb); (try clear hb); (try clear hb2); (try clear hk); (try clear hi); refine hK.out _ _ ⟨(blk_cell BK224.out 0).trans rfl, (blk_cell BK224.out 1).trans rfl, (blk_cell BK224.out 2).trans rfl, (blk_cell BK224.out 3).trans rfl⟩ (fun hHeld => ?_); clear hK K; refine nA 11 ?_; refine one_ (i := 4) (N := some 14) #[true, true, true, true, true, false, false] rfl rfl (by kernel_rfl) (by decide) (fun K hK => ?_); refine goesV_ Tryd.func65 (by kernel_rfl) rfl #[.string (⟨#[76, 73, 78]⟩ : ByteArray), .string (⟨#[110, 114, 113, 63, 110]⟩ : ByteArray)] (by rfl) rfl rfl (by rfl) (by (try simp only [List.map_toArray, List.map_cons, List.map_nil]); first | done | rfl | (simp only [List.length_drop, List.length_take]; rfl)) ?_; (with_reducible refine (impl_tableOf_2.calls (⟨#[76, 73, 78]⟩ : ByteArray) (⟨#[110, 114, 113, 63, 110]⟩ : ByteArray) t229 t230 t231 t232 _ A4.out).mono ?_); rintro e w10 ⟨rfl, hb⟩; refine ⟨_, rfl, ?_⟩; replace BK224 := Aside0.mk (blk_below (g := gb224) (o := .cells #[.string (⟨#[78, 79, 84]⟩ : ByteArray), .int .i64 0, .int .i64 2, .string (⟨#[116]⟩ : ByteArray)] 57 (0, 0)) (ks BK224) hb); replace HB := Aside0.mk (below_step (bs HB) hb); (try clear hb); (try clear hb2); (try clear hk); (try clear hi); refine hK.out _ _ ⟨(blk_cell BK224.out 0).trans rfl, (blk_cell BK224.out 1).trans rfl, (blk_cell BK224.out 2).trans rfl, (blk_cell BK224.out 3).trans rfl⟩ (fun hHeld => ?_); clear hK K; refine nA 14 ?_; refine one_ (i := 5) (N := some 15) #[true, true, true, true, true, true, false] rfl rfl (by kernel_rfl) (by decide) (fun K hK => ?_); refine Kd.R_lit_step k57 _ 57 ?hg (N := 15) ?hd (xs := ([(⟨t225, t226, t227, t228⟩ : S57), (⟨(⟨#[78, 79, 84]⟩ : ByteArray), 0, 2, (⟨#[116]⟩ : ByteArray)⟩ : S57), (⟨t229, t230, t231, t232⟩ : S57)] : List (S57))) (inner := [.string t225, .int .i64 t226, .int .i64 t227, .string t228, .string (⟨#[78, 79, 84]⟩ : ByteArray), .int .i64 0, .int .i64 2, .string (⟨#[116]⟩ : ByteArray), .string t229, .int .i64 t230, .int .i64 t231, .string t232]) (ok := fun _ => True) (okp := fun _ => True) ?hr ?hp (fun _ hk => hk) trivial (Below.refl _ _) (Nat.le_refl _) (by simp) ?_; (case hd => rfl); (case hg => rfl); (case hr => first | (go_simp; done) | (go_simp; rfl)); (case hp => exact (Reps.c4 (show Kd.M k57 _ _ _ (⟨t225, t226, t227, t228⟩ : S57) [.string t225, .int .i64 t226, .int .i64 t227, .string t228] from (k57_mkM _ _ _ (⟨t225, t226, t227, t228⟩ : S57) )) (Reps.c4 (show Kd.M k57 _ _ _ (⟨(⟨#[78, 79, 84]⟩ : ByteArray), 0, 2, (⟨#[116]⟩ : ByteArray)⟩ : S57) [.string (⟨#[78, 79, 84]⟩ : ByteArray), .int .i64 0, .int .i64 2, .string (⟨#[116]⟩ : ByteArray)] from (k57_mkM _ _ _ (⟨(⟨#[78, 79, 84]⟩ : ByteArray), 0, 2, (⟨#[116]⟩ : ByteArray)⟩ : S57) )) (Reps.c4 (show Kd.M k57 _ _ _ (⟨t229, t230, t231, t232⟩ : S57) [.string t229, .int .i64 t230, .int .i64 t231, .string t232] from (k57_mkM _ _ _ (⟨t229, t230, t231, t232⟩ : S57) )) (Reps.none _ _))))); intro v234 w11 ho12 hb hg_ hnew_; clear hg_ hnew_
    (first | rw [← Ny233.out] at ho12 | (simp only [Int.reduceToNat] at ho12; rw [← Ny233.out] at ho12))
    have HO235 := Aside0.mk (Kd.R_lower (Kd.R_newB ho12 (g := gb224) (o := .cells #[.string (⟨#[78, 79, 84]⟩ : ByteArray), .int .i64 0, .int .i64 2, .string (⟨#[116]⟩ : ByteArray)] 57 (0, 0)) (ks BK224)) (below_size (bs HB))); replace BK224 := Aside0.mk (blk_below (g := gb224) (o := .cells #[.string (⟨#[78, 79, 84]⟩ : ByteArray), .int .i64 0, .int .i64 2, .string (⟨#[116]⟩ : ByteArray)] 57 (0, 0)) (ks BK224) hb); replace HB := Aside0.mk (below_step (bs HB) hb); clear hb ho12; refine hK.out _ _ ⟨(blk_cell BK224.out 0).trans rfl, (blk_cell BK224.out 1).trans rfl, (blk_cell BK224.out 2).trans rfl, (blk_cell BK224.out 3).trans rfl⟩ (fun hHeld => ?_); clear hK K; refine nA 15 ?_; refine pure_ (i := 6) (N := some 2) (v := ?_) (a' := ?_) #[true, true, true, true, true, true, true] rfl rfl (by kernel_rfl) (fun _ _ _ h => h) (Or.inl ⟨by rfl, ?_⟩) ?_ ?_
    rotate_left
    · intro w'
      go_simp
      (with_reducible rfl)
    rotate_left
    · simp only [Act.put, List.setIfInBounds_toArray, List.set_cons_zero, List.set_cons_succ, i64_w, i32_w]
      rfl
    refine done_ (by kernel_rfl) ?_
    try go_wp2
    go_ret
    exact ⟨_, ff, by (with_reducible repeat (first | apply Kd.R_alloc | apply Kd.R_drewN | apply Kd.R_drew)); exact Kd.R_mono HO235.out (fun _ hk => trivial), bs HB⟩
  · rw [if_neg c2] at H; have c2b0 : (a0 == 1) = false := beq_eq_false_iff_ne.mpr c2; have c2b1 : (a0 != 1) = true := bne_iff_ne.mpr c2; have HC13 := Aside0.mk H; clear H
    go_enter Tryd.func40, Tryd.ntmps40
    go_upto_if 16 with (first | ((with_reducible refine gate_dst (N := 4) rfl ?_); refine bx 4 (cs := #[.string (⟨#[]⟩ : ByteArray), .int .i64 0, .int .i64 0, .string (⟨#[]⟩ : ByteArray)]) (t := 57) ?_; intro gb224 hg w14 hbox hb; have BK224 := Aside0.mk (hbox); have GW224 := Aside0.mk ((gs hg (bs HB))); have GE224 := Aside0.mk ((gs hg (bs HB))); replace HB := Aside0.mk (below_step (bs HB) hb); clear hb hbox hg; obtain ⟨hcz15_0, hcz15_1, hcz15_2, hcz15_3, hfz15_0, hfz15_1, hfz15_2, hfz15_3⟩ := cf4 BK224))
    (try simp only [Act.put, List.setIfInBounds_toArray, List.set_cons_zero, List.set_cons_succ])
    go_cut [16] (fun v16 wc => ∃ (kq : Nat) (x16_12 : Bool), v16 = .bool x16_12 ∧ Aside0 (impl_tableOf.j0 kq a0 x16_12 (⟨#[78, 79, 84]⟩ : ByteArray) 0 2 (⟨#[116]⟩ : ByteArray) = some r) ∧ Aside0 (kq ≤ k) ∧ Aside0 (wc.heap[gb224]? = some (.cells #[.string (⟨#[78, 79, 84]⟩ : ByteArray), .int .i64 0, .int .i64 2, .string (⟨#[116]⟩ : ByteArray)] 57 (0, 0))) ∧ Aside0 (Below w.heap.size w wc))
    case first =>
      have H := HC13.out; clear HC13
      by_cases c16 : a0 = 2
      · rw [if_pos c16] at H; have c16b0 : (a0 == 2) = true := beq_iff_eq.mpr c16; have c16b1 : (a0 != 2) = false := bne_eq_false_iff_eq.mpr c16; clear c16
        (first | rw [c16b0] | (simp only [i64_w, i32_w]; rw [c16b0]) | skip)
        have H' := Aside0.mk H; clear H
        go_wp2
        go_meet
        case rel => exact ⟨_, ((a0 == 2)), fg, H', ⟨fl⟩, ⟨kp BK224⟩, ⟨bs HB⟩⟩
      · rw [if_neg c16] at H; have c16b0 : (a0 == 2) = false := beq_eq_false_iff_ne.mpr c16; have c16b1 : (a0 != 2) = true := bne_iff_ne.mpr c16
        (first | rw [c16b0] | (simp only [i64_w, i32_w]; rw [c16b0]) | skip)
        have H' := Aside0.mk H; clear H
        go_wp2
        go_meet
        case rel => exact ⟨_, ((a0 == 4)), fg, H', ⟨fl⟩, ⟨kp BK224⟩, ⟨bs HB⟩⟩
    case rest =>
      clear HC13
      try clear c1
      try clear c2
      try clear c2b0
      try clear c2b1
      try clear p2
      try clear c4
      try clear c6
      try clear c16
      try clear c16b0
      try clear c16b1
      try clear hcz15_0
      try clear hcz15_1
      try clear hcz15_2
      try clear hcz15_3
      try clear hcz6_0
      try clear hcz6_1
      try clear hcz6_2
      try clear hcz6_3
      try clear hfz15_0
      try clear hfz15_1
      try clear hfz15_2
      try clear hfz15_3
      try clear hfz6_0
      try clear hfz6_1
      try clear hfz6_2
      try clear hfz6_3
      obtain ⟨kq, x16_12, rfl, HA, HJ12, BK224, HB⟩ := hcut
      cases kq with
      | zero => exact absurd HA.out (by simp [impl_tableOf.j0])
      | succ kj12 =>
        have H := HA.out; clear HA; simp only [impl_tableOf.j0] at H
        by_cases c17 : x16_12 = true
        · subst c17
          have H1 : ((impl_tableOf_1.f (⟨#[114, 114, 100]⟩ : ByteArray)).bind fun bt236 => ((impl_tableOf_2.f (⟨#[76, 73, 78]⟩ : ByteArray) (⟨#[110, 113, 63, 116]⟩ : ByteArray)).bind fun bt240 => (some (([(⟨bt236.1, bt236.2.1, bt236.2.2.1, bt236.2.2.2⟩ : S57), (⟨bt240.1, bt240.2.1, bt240.2.2.1, bt240.2.2.2⟩ : S57)] : List (S57)))))) = some r := by rw [if_pos rfl] at H; exact H
          clear H; have H := H1; clear H1; replace H := Option.bind_eq_some_iff.mp H; obtain ⟨⟨t236, t237, t238, t239⟩, A180, H⟩ := H; replace H : ((impl_tableOf_2.f (⟨#[76, 73, 78]⟩ : ByteArray) (⟨#[110, 113, 63, 116]⟩ : ByteArray)).bind fun bt240 => (some (([(⟨t236, t237, t238, t239⟩ : S57), (⟨bt240.1, bt240.2.1, bt240.2.2.1, bt240.2.2.2⟩ : S57)] : List (S57))))) = some r := H; have A18 := Aside0.mk A180; clear A180; replace H := Option.bind_eq_some_iff.mp H; obtain ⟨⟨t240, t241, t242, t243⟩, A190, H⟩ := H; replace H : (some (([(⟨t236, t237, t238, t239⟩ : S57), (⟨t240, t241, t242, t243⟩ : S57)] : List (S57)))) = some r := H; have A19 := Aside0.mk A190; clear A190; obtain ⟨y244, hy244⟩ : ∃ y_ : List (S57), y_ = (([(⟨t236, t237, t238, t239⟩ : S57), (⟨t240, t241, t242, t243⟩ : S57)] : List (S57))) := ⟨_, rfl⟩
          replace H : (some y244) = some r := by first | (rw [hy244]; with_reducible exact H) | (have H2_ := (Option.bind_some _ _).symm.trans H; rw [hy244]; with_reducible exact H2_) | (have H2_ := (Option.bind_some _ _).symm.trans H; with_reducible exact H2_) | with_reducible exact H | (rw [hy244]; exact H) | exact H
          have Ny244 := Aside0.mk hy244; clear hy244; obtain rfl := Option.some.inj H
          go_wp2_with (first | (go_at_call 64; (with_reducible refine (impl_tableOf_1.calls (⟨#[114, 114, 100]⟩ : ByteArray) t236 t237 t238 t239 _ A18.out).mono ?_); rintro e w20 ⟨rfl, hb⟩; replace BK224 := Aside0.mk (blk_below (g := gb224) (o := .cells #[.string (⟨#[78, 79, 84]⟩ : ByteArray), .int .i64 0, .int .i64 2, .string (⟨#[116]⟩ : ByteArray)] 57 (0, 0)) (ks BK224) hb); replace HB := Aside0.mk (below_step (bs HB) hb); (try clear hb); (try clear hb2); (try clear hk); (try clear hi)) | (go_at_call 65; (with_reducible refine (impl_tableOf_2.calls (⟨#[76, 73, 78]⟩ : ByteArray) (⟨#[110, 113, 63, 116]⟩ : ByteArray) t240 t241 t242 t243 _ A19.out).mono ?_); rintro e w21 ⟨rfl, hb⟩; replace BK224 := Aside0.mk (blk_below (g := gb224) (o := .cells #[.string (⟨#[78, 79, 84]⟩ : ByteArray), .int .i64 0, .int .i64 2, .string (⟨#[116]⟩ : ByteArray)] 57 (0, 0)) (ks BK224) hb); replace HB := Aside0.mk (below_step (bs HB) hb); (try clear hb); (try clear hb2); (try clear hk); (try clear hi)) | ((with_reducible refine gate_dst (N := 23) rfl ?_); refine Kd.R_lit k57 _ 57 ?hg (N := 23) ?hd (xs := ([(⟨t236, t237, t238, t239⟩ : S57), (⟨t240, t241, t242, t243⟩ : S57)] : List (S57))) (inner := [.string t236, .int .i64 t237, .int .i64 t238, .string t239, .string t240, .int .i64 t241, .int .i64 t242, .string t243]) (ok := fun _ => True) (okp := fun _ => True) ?hr ?hp (fun _ hk => hk) trivial (Below.refl _ _) (Nat.le_refl _) (by simp) ?_; (case hd => rfl); (case hg => rfl); (case hr => first | (go_simp; done) | (go_simp; rfl)); (case hp => exact (Reps.c4 (show Kd.M k57 _ _ _ (⟨t236, t237, t238, t239⟩ : S57) [.string t236, .int .i64 t237, .int .i64 t238, .string t239] from (k57_mkM _ _ _ (⟨t236, t237, t238, t239⟩ : S57) )) (Reps.c4 (show Kd.M k57 _ _ _ (⟨t240, t241, t242, t243⟩ : S57) [.string t240, .int .i64 t241, .int .i64 t242, .string t243] from (k57_mkM _ _ _ (⟨t240, t241, t242, t243⟩ : S57) )) (Reps.none _ _)))); intro v245 w22 ho23 hb hg_ hnew_; clear hg_ hnew_; (first | rw [← Ny244.out] at ho23 | (simp only [Int.reduceToNat] at ho23; rw [← Ny244.out] at ho23)); have HO246 := Aside0.mk (Kd.R_lower (Kd.R_newB ho23 (g := gb224) (o := .cells #[.string (⟨#[78, 79, 84]⟩ : ByteArray), .int .i64 0, .int .i64 2, .string (⟨#[116]⟩ : ByteArray)] 57 (0, 0)) (ks BK224)) (below_size (bs HB))); replace BK224 := Aside0.mk (blk_below (g := gb224) (o := .cells #[.string (⟨#[78, 79, 84]⟩ : ByteArray), .int .i64 0, .int .i64 2, .string (⟨#[116]⟩ : ByteArray)] 57 (0, 0)) (ks BK224) hb); replace HB := Aside0.mk (below_step (bs HB) hb); clear hb ho23))
          go_ret
          exact ⟨_, ff, by (with_reducible repeat (first | apply Kd.R_alloc | apply Kd.R_drewN | apply Kd.R_drew)); exact Kd.R_mono HO246.out (fun _ hk => trivial), bs HB⟩
        · replace c17 := Bool.eq_false_iff.mpr c17; subst c17
          have H1 : (if a0 = 3 then ((impl_tableOf_1.f (⟨#[114, 114, 100]⟩ : ByteArray)).bind fun bt247 => ((impl_tableOf_2.f (⟨#[76, 73, 78]⟩ : ByteArray) (⟨#[110, 113]⟩ : ByteArray)).bind fun bt251 => (some (([(⟨bt247.1, bt247.2.1, bt247.2.2.1, bt247.2.2.2⟩ : S57), (⟨(⟨#[78, 79, 84]⟩ : ByteArray), 0, 2, (⟨#[116]⟩ : ByteArray)⟩ : S57), (⟨bt251.1, bt251.2.1, bt251.2.2.1, bt251.2.2.2⟩ : S57)] : List (S57)))))) else (if a0 = 5 then ((impl_tableOf_1.f (⟨#[114, 100]⟩ : ByteArray)).bind fun bt258 => ((impl_tableOf_2.f (⟨#[73, 84, 77]⟩ : ByteArray) (⟨#[114, 110]⟩ : ByteArray)).bind fun bt262 => (some (([(⟨bt258.1, bt258.2.1, bt258.2.2.1, bt258.2.2.2⟩ : S57), (⟨bt262.1, bt262.2.1, bt262.2.2.1, bt262.2.2.2⟩ : S57)] : List (S57)))))) else (if a0 = 6 then ((impl_tableOf_1.f (⟨#[114, 100]⟩ : ByteArray)).bind fun bt269 => ((impl_tableOf_2.f (⟨#[73, 84, 77]⟩ : ByteArray) (⟨#[114, 122, 63, 116]⟩ : ByteArray)).bind fun bt273 => (some (([(⟨bt269.1, bt269.2.1, bt269.2.2.1, bt269.2.2.2⟩ : S57), (⟨bt273.1, bt273.2.1, bt273.2.2.1, bt273.2.2.2⟩ : S57)] : List (S57)))))) else (if a0 = 7 then ((impl_tableOf_1.f (⟨#[114, 100]⟩ : ByteArray)).bind fun bt280 => (some (([(⟨bt280.1, bt280.2.1, bt280.2.2.1, bt280.2.2.2⟩ : S57), (⟨(⟨#[65, 67, 75]⟩ : ByteArray), 1, 1, (⟨#[110, 110, 63, 110]⟩ : ByteArray)⟩ : S57)] : List (S57))))) else (some ([] : List (S57))))))) = some r := by rw [if_neg (show ¬ (false = true) by decide)] at H; exact H
          clear H; have H := H1; clear H1
          by_cases c24 : a0 = 3
          · rw [if_pos c24] at H; have c24b0 : (a0 == 3) = true := beq_iff_eq.mpr c24; have c24b1 : (a0 != 3) = false := bne_eq_false_iff_eq.mpr c24; clear c24; replace H := Option.bind_eq_some_iff.mp H; obtain ⟨⟨t247, t248, t249, t250⟩, A250, H⟩ := H; replace H : ((impl_tableOf_2.f (⟨#[76, 73, 78]⟩ : ByteArray) (⟨#[110, 113]⟩ : ByteArray)).bind fun bt251 => (some (([(⟨t247, t248, t249, t250⟩ : S57), (⟨(⟨#[78, 79, 84]⟩ : ByteArray), 0, 2, (⟨#[116]⟩ : ByteArray)⟩ : S57), (⟨bt251.1, bt251.2.1, bt251.2.2.1, bt251.2.2.2⟩ : S57)] : List (S57))))) = some r := H; have A25 := Aside0.mk A250; clear A250; replace H := Option.bind_eq_some_iff.mp H; obtain ⟨⟨t251, t252, t253, t254⟩, A260, H⟩ := H; replace H : (some (([(⟨t247, t248, t249, t250⟩ : S57), (⟨(⟨#[78, 79, 84]⟩ : ByteArray), 0, 2, (⟨#[116]⟩ : ByteArray)⟩ : S57), (⟨t251, t252, t253, t254⟩ : S57)] : List (S57)))) = some r := H; have A26 := Aside0.mk A260; clear A260; obtain ⟨y255, hy255⟩ : ∃ y_ : List (S57), y_ = (([(⟨t247, t248, t249, t250⟩ : S57), (⟨(⟨#[78, 79, 84]⟩ : ByteArray), 0, 2, (⟨#[116]⟩ : ByteArray)⟩ : S57), (⟨t251, t252, t253, t254⟩ : S57)] : List (S57))) := ⟨_, rfl⟩
            replace H : (some y255) = some r := by first | (rw [hy255]; with_reducible exact H) | (have H2_ := (Option.bind_some _ _).symm.trans H; rw [hy255]; with_reducible exact H2_) | (have H2_ := (Option.bind_some _ _).symm.trans H; with_reducible exact H2_) | with_reducible exact H | (rw [hy255]; exact H) | exact H
            have Ny255 := Aside0.mk hy255; clear hy255; obtain rfl := Option.some.inj H
            try go_wp2
            replace BK224 := Aside0.mk (blk_drew BK224.out); replace HB := Aside0.mk (below_drew1 HB.out); refine start_ (n := 7) (S := fun w' => w'.cell? ⟨gb224, 0, none⟩ = some (.string (⟨#[78, 79, 84]⟩ : ByteArray)) ∧ w'.cell? ⟨gb224, 1, none⟩ = some (.int .i64 0) ∧ w'.cell? ⟨gb224, 2, none⟩ = some (.int .i64 2) ∧ w'.cell? ⟨gb224, 3, none⟩ = some (.string (⟨#[116]⟩ : ByteArray))) (ds := []) #[false, false, false, false, false, false, false] (by kernel_rfl) rfl rfl ⟨(blk_cell BK224.out 0).trans rfl, (blk_cell BK224.out 1).trans rfl, (blk_cell BK224.out 2).trans rfl, (blk_cell BK224.out 3).trans rfl⟩ (fun hHeld => ?_)
            generalize wc.drew = w27 at BK224 HB hHeld ⊢
            refine pure_ (i := 0) (N := some 26) (v := ?_) (a' := ?_) #[true, false, false, false, false, false, false] rfl rfl (by kernel_rfl) (fun _ _ _ h => h) (Or.inl ⟨by rfl, ?_⟩) ?_ ?_
            rotate_left
            · intro w'
              go_simp
              (with_reducible rfl)
            rotate_left
            · simp only [Act.put, List.setIfInBounds_toArray, List.set_cons_zero, List.set_cons_succ, i64_w, i32_w]
              rfl
            refine pure_ (i := 3) (N := some 29) (v := ?_) (a' := ?_) #[true, false, false, true, false, false, false] rfl rfl (by kernel_rfl) (fun _ _ _ h => h) (Or.inl ⟨by rfl, ?_⟩) ?_ ?_
            rotate_left
            · intro w'
              go_simp
              (with_reducible rfl)
            rotate_left
            · simp only [Act.put, List.setIfInBounds_toArray, List.set_cons_zero, List.set_cons_succ, i64_w, i32_w]
              rfl
            refine take_ (i := 2) (N := some 28) (v := ?_) (a' := ?_) #[true, false, true, true, false, false, false] rfl rfl (by kernel_rfl) (fun _ _ _ h => h) (Or.inl ⟨by rfl, ?_⟩) hHeld ?_ ?_
            rotate_left
            · rintro w' ⟨s0, s1, s2, s3⟩
              go_simp
              (with_reducible rfl)
            rotate_left
            · simp only [Act.put, List.setIfInBounds_toArray, List.set_cons_zero, List.set_cons_succ, i64_w, i32_w]
              rfl
            refine one_ (i := 1) (N := some 27) #[true, true, true, true, false, false, false] rfl rfl (by kernel_rfl) (by decide) (fun K hK => ?_); refine goesV_ Tryd.func64 (by kernel_rfl) rfl #[.string (⟨#[114, 114, 100]⟩ : ByteArray)] (by rfl) rfl rfl (by rfl) (by (try simp only [List.map_toArray, List.map_cons, List.map_nil]); first | done | rfl | (simp only [List.length_drop, List.length_take]; rfl)) ?_; (with_reducible refine (impl_tableOf_1.calls (⟨#[114, 114, 100]⟩ : ByteArray) t247 t248 t249 t250 _ A25.out).mono ?_); rintro e w28 ⟨rfl, hb⟩; refine ⟨_, rfl, ?_⟩; replace BK224 := Aside0.mk (blk_below (g := gb224) (o := .cells #[.string (⟨#[78, 79, 84]⟩ : ByteArray), .int .i64 0, .int .i64 2, .string (⟨#[116]⟩ : ByteArray)] 57 (0, 0)) (ks BK224) hb); replace HB := Aside0.mk (below_step (bs HB) hb); (try clear hb); (try clear hb2); (try clear hk); (try clear hi); refine hK.out _ _ ⟨(blk_cell BK224.out 0).trans rfl, (blk_cell BK224.out 1).trans rfl, (blk_cell BK224.out 2).trans rfl, (blk_cell BK224.out 3).trans rfl⟩ (fun hHeld => ?_); clear hK K; refine nA 27 ?_; refine one_ (i := 4) (N := some 30) #[true, true, true, true, true, false, false] rfl rfl (by kernel_rfl) (by decide) (fun K hK => ?_); refine goesV_ Tryd.func65 (by kernel_rfl) rfl #[.string (⟨#[76, 73, 78]⟩ : ByteArray), .string (⟨#[110, 113]⟩ : ByteArray)] (by rfl) rfl rfl (by rfl) (by (try simp only [List.map_toArray, List.map_cons, List.map_nil]); first | done | rfl | (simp only [List.length_drop, List.length_take]; rfl)) ?_; (with_reducible refine (impl_tableOf_2.calls (⟨#[76, 73, 78]⟩ : ByteArray) (⟨#[110, 113]⟩ : ByteArray) t251 t252 t253 t254 _ A26.out).mono ?_); rintro e w29 ⟨rfl, hb⟩; refine ⟨_, rfl, ?_⟩; replace BK224 := Aside0.mk (blk_below (g := gb224) (o := .cells #[.string (⟨#[78, 79, 84]⟩ : ByteArray), .int .i64 0, .int .i64 2, .string (⟨#[116]⟩ : ByteArray)] 57 (0, 0)) (ks BK224) hb); replace HB := Aside0.mk (below_step (bs HB) hb); (try clear hb); (try clear hb2); (try clear hk); (try clear hi); refine hK.out _ _ ⟨(blk_cell BK224.out 0).trans rfl, (blk_cell BK224.out 1).trans rfl, (blk_cell BK224.out 2).trans rfl, (blk_cell BK224.out 3).trans rfl⟩ (fun hHeld => ?_); clear hK K; refine nA 30 ?_; refine one_ (i := 5) (N := some 31) #[true, true, true, true, true, true, false] rfl rfl (by kernel_rfl) (by decide) (fun K hK => ?_); refine Kd.R_lit_step k57 _ 57 ?hg (N := 31) ?hd (xs := ([(⟨t247, t248, t249, t250⟩ : S57), (⟨(⟨#[78, 79, 84]⟩ : ByteArray), 0, 2, (⟨#[116]⟩ : ByteArray)⟩ : S57), (⟨t251, t252, t253, t254⟩ : S57)] : List (S57))) (inner := [.string t247, .int .i64 t248, .int .i64 t249, .string t250, .string (⟨#[78, 79, 84]⟩ : ByteArray), .int .i64 0, .int .i64 2, .string (⟨#[116]⟩ : ByteArray), .string t251, .int .i64 t252, .int .i64 t253, .string t254]) (ok := fun _ => True) (okp := fun _ => True) ?hr ?hp (fun _ hk => hk) trivial (Below.refl _ _) (Nat.le_refl _) (by simp) ?_; (case hd => rfl); (case hg => rfl); (case hr => first | (go_simp; done) | (go_simp; rfl)); (case hp => exact (Reps.c4 (show Kd.M k57 _ _ _ (⟨t247, t248, t249, t250⟩ : S57) [.string t247, .int .i64 t248, .int .i64 t249, .string t250] from (k57_mkM _ _ _ (⟨t247, t248, t249, t250⟩ : S57) )) (Reps.c4 (show Kd.M k57 _ _ _ (⟨(⟨#[78, 79, 84]⟩ : ByteArray), 0, 2, (⟨#[116]⟩ : ByteArray)⟩ : S57) [.string (⟨#[78, 79, 84]⟩ : ByteArray), .int .i64 0, .int .i64 2, .string (⟨#[116]⟩ : ByteArray)] from (k57_mkM _ _ _ (⟨(⟨#[78, 79, 84]⟩ : ByteArray), 0, 2, (⟨#[116]⟩ : ByteArray)⟩ : S57) )) (Reps.c4 (show Kd.M k57 _ _ _ (⟨t251, t252, t253, t254⟩ : S57) [.string t251, .int .i64 t252, .int .i64 t253, .string t254] from (k57_mkM _ _ _ (⟨t251, t252, t253, t254⟩ : S57) )) (Reps.none _ _))))); intro v256 w30 ho31 hb hg_ hnew_; clear hg_ hnew_
            (first | rw [← Ny255.out] at ho31 | (simp only [Int.reduceToNat] at ho31; rw [← Ny255.out] at ho31))
            have HO257 := Aside0.mk (Kd.R_lower (Kd.R_newB ho31 (g := gb224) (o := .cells #[.string (⟨#[78, 79, 84]⟩ : ByteArray), .int .i64 0, .int .i64 2, .string (⟨#[116]⟩ : ByteArray)] 57 (0, 0)) (ks BK224)) (below_size (bs HB))); replace BK224 := Aside0.mk (blk_below (g := gb224) (o := .cells #[.string (⟨#[78, 79, 84]⟩ : ByteArray), .int .i64 0, .int .i64 2, .string (⟨#[116]⟩ : ByteArray)] 57 (0, 0)) (ks BK224) hb); replace HB := Aside0.mk (below_step (bs HB) hb); clear hb ho31; refine hK.out _ _ ⟨(blk_cell BK224.out 0).trans rfl, (blk_cell BK224.out 1).trans rfl, (blk_cell BK224.out 2).trans rfl, (blk_cell BK224.out 3).trans rfl⟩ (fun hHeld => ?_); clear hK K; refine nA 31 ?_; refine pure_ (i := 6) (N := some 2) (v := ?_) (a' := ?_) #[true, true, true, true, true, true, true] rfl rfl (by kernel_rfl) (fun _ _ _ h => h) (Or.inl ⟨by rfl, ?_⟩) ?_ ?_
            rotate_left
            · intro w'
              go_simp
              (with_reducible rfl)
            rotate_left
            · simp only [Act.put, List.setIfInBounds_toArray, List.set_cons_zero, List.set_cons_succ, i64_w, i32_w]
              rfl
            refine done_ (by kernel_rfl) ?_
            try go_wp2
            go_ret
            exact ⟨_, ff, by (with_reducible repeat (first | apply Kd.R_alloc | apply Kd.R_drewN | apply Kd.R_drew)); exact Kd.R_mono HO257.out (fun _ hk => trivial), bs HB⟩
          · rw [if_neg c24] at H; have c24b0 : (a0 == 3) = false := beq_eq_false_iff_ne.mpr c24; have c24b1 : (a0 != 3) = true := bne_iff_ne.mpr c24
            by_cases c32 : a0 = 5
            · rw [if_pos c32] at H; have c32b0 : (a0 == 5) = true := beq_iff_eq.mpr c32; have c32b1 : (a0 != 5) = false := bne_eq_false_iff_eq.mpr c32; clear c32; replace H := Option.bind_eq_some_iff.mp H; obtain ⟨⟨t258, t259, t260, t261⟩, A330, H⟩ := H; replace H : ((impl_tableOf_2.f (⟨#[73, 84, 77]⟩ : ByteArray) (⟨#[114, 110]⟩ : ByteArray)).bind fun bt262 => (some (([(⟨t258, t259, t260, t261⟩ : S57), (⟨bt262.1, bt262.2.1, bt262.2.2.1, bt262.2.2.2⟩ : S57)] : List (S57))))) = some r := H; have A33 := Aside0.mk A330; clear A330; replace H := Option.bind_eq_some_iff.mp H; obtain ⟨⟨t262, t263, t264, t265⟩, A340, H⟩ := H; replace H : (some (([(⟨t258, t259, t260, t261⟩ : S57), (⟨t262, t263, t264, t265⟩ : S57)] : List (S57)))) = some r := H; have A34 := Aside0.mk A340; clear A340; obtain ⟨y266, hy266⟩ : ∃ y_ : List (S57), y_ = (([(⟨t258, t259, t260, t261⟩ : S57), (⟨t262, t263, t264, t265⟩ : S57)] : List (S57))) := ⟨_, rfl⟩
              replace H : (some y266) = some r := by first | (rw [hy266]; with_reducible exact H) | (have H2_ := (Option.bind_some _ _).symm.trans H; rw [hy266]; with_reducible exact H2_) | (have H2_ := (Option.bind_some _ _).symm.trans H; with_reducible exact H2_) | with_reducible exact H | (rw [hy266]; exact H) | exact H
              have Ny266 := Aside0.mk hy266; clear hy266; obtain rfl := Option.some.inj H
              go_wp2_with (first | (go_at_call 64; (with_reducible refine (impl_tableOf_1.calls (⟨#[114, 100]⟩ : ByteArray) t258 t259 t260 t261 _ A33.out).mono ?_); rintro e w35 ⟨rfl, hb⟩; replace BK224 := Aside0.mk (blk_below (g := gb224) (o := .cells #[.string (⟨#[78, 79, 84]⟩ : ByteArray), .int .i64 0, .int .i64 2, .string (⟨#[116]⟩ : ByteArray)] 57 (0, 0)) (ks BK224) hb); replace HB := Aside0.mk (below_step (bs HB) hb); (try clear hb); (try clear hb2); (try clear hk); (try clear hi)) | (go_at_call 65; (with_reducible refine (impl_tableOf_2.calls (⟨#[73, 84, 77]⟩ : ByteArray) (⟨#[114, 110]⟩ : ByteArray) t262 t263 t264 t265 _ A34.out).mono ?_); rintro e w36 ⟨rfl, hb⟩; replace BK224 := Aside0.mk (blk_below (g := gb224) (o := .cells #[.string (⟨#[78, 79, 84]⟩ : ByteArray), .int .i64 0, .int .i64 2, .string (⟨#[116]⟩ : ByteArray)] 57 (0, 0)) (ks BK224) hb); replace HB := Aside0.mk (below_step (bs HB) hb); (try clear hb); (try clear hb2); (try clear hk); (try clear hi)) | ((with_reducible refine gate_dst (N := 38) rfl ?_); refine Kd.R_lit k57 _ 57 ?hg (N := 38) ?hd (xs := ([(⟨t258, t259, t260, t261⟩ : S57), (⟨t262, t263, t264, t265⟩ : S57)] : List (S57))) (inner := [.string t258, .int .i64 t259, .int .i64 t260, .string t261, .string t262, .int .i64 t263, .int .i64 t264, .string t265]) (ok := fun _ => True) (okp := fun _ => True) ?hr ?hp (fun _ hk => hk) trivial (Below.refl _ _) (Nat.le_refl _) (by simp) ?_; (case hd => rfl); (case hg => rfl); (case hr => first | (go_simp; done) | (go_simp; rfl)); (case hp => exact (Reps.c4 (show Kd.M k57 _ _ _ (⟨t258, t259, t260, t261⟩ : S57) [.string t258, .int .i64 t259, .int .i64 t260, .string t261] from (k57_mkM _ _ _ (⟨t258, t259, t260, t261⟩ : S57) )) (Reps.c4 (show Kd.M k57 _ _ _ (⟨t262, t263, t264, t265⟩ : S57) [.string t262, .int .i64 t263, .int .i64 t264, .string t265] from (k57_mkM _ _ _ (⟨t262, t263, t264, t265⟩ : S57) )) (Reps.none _ _)))); intro v267 w37 ho38 hb hg_ hnew_; clear hg_ hnew_; (first | rw [← Ny266.out] at ho38 | (simp only [Int.reduceToNat] at ho38; rw [← Ny266.out] at ho38)); have HO268 := Aside0.mk (Kd.R_lower (Kd.R_newB ho38 (g := gb224) (o := .cells #[.string (⟨#[78, 79, 84]⟩ : ByteArray), .int .i64 0, .int .i64 2, .string (⟨#[116]⟩ : ByteArray)] 57 (0, 0)) (ks BK224)) (below_size (bs HB))); replace BK224 := Aside0.mk (blk_below (g := gb224) (o := .cells #[.string (⟨#[78, 79, 84]⟩ : ByteArray), .int .i64 0, .int .i64 2, .string (⟨#[116]⟩ : ByteArray)] 57 (0, 0)) (ks BK224) hb); replace HB := Aside0.mk (below_step (bs HB) hb); clear hb ho38))
              go_ret
              exact ⟨_, ff, by (with_reducible repeat (first | apply Kd.R_alloc | apply Kd.R_drewN | apply Kd.R_drew)); exact Kd.R_mono HO268.out (fun _ hk => trivial), bs HB⟩
            · rw [if_neg c32] at H; have c32b0 : (a0 == 5) = false := beq_eq_false_iff_ne.mpr c32; have c32b1 : (a0 != 5) = true := bne_iff_ne.mpr c32
              by_cases c39 : a0 = 6
              · rw [if_pos c39] at H; have c39b0 : (a0 == 6) = true := beq_iff_eq.mpr c39; have c39b1 : (a0 != 6) = false := bne_eq_false_iff_eq.mpr c39; clear c39; replace H := Option.bind_eq_some_iff.mp H; obtain ⟨⟨t269, t270, t271, t272⟩, A400, H⟩ := H; replace H : ((impl_tableOf_2.f (⟨#[73, 84, 77]⟩ : ByteArray) (⟨#[114, 122, 63, 116]⟩ : ByteArray)).bind fun bt273 => (some (([(⟨t269, t270, t271, t272⟩ : S57), (⟨bt273.1, bt273.2.1, bt273.2.2.1, bt273.2.2.2⟩ : S57)] : List (S57))))) = some r := H; have A40 := Aside0.mk A400; clear A400; replace H := Option.bind_eq_some_iff.mp H; obtain ⟨⟨t273, t274, t275, t276⟩, A410, H⟩ := H; replace H : (some (([(⟨t269, t270, t271, t272⟩ : S57), (⟨t273, t274, t275, t276⟩ : S57)] : List (S57)))) = some r := H; have A41 := Aside0.mk A410; clear A410; obtain ⟨y277, hy277⟩ : ∃ y_ : List (S57), y_ = (([(⟨t269, t270, t271, t272⟩ : S57), (⟨t273, t274, t275, t276⟩ : S57)] : List (S57))) := ⟨_, rfl⟩
                replace H : (some y277) = some r := by first | (rw [hy277]; with_reducible exact H) | (have H2_ := (Option.bind_some _ _).symm.trans H; rw [hy277]; with_reducible exact H2_) | (have H2_ := (Option.bind_some _ _).symm.trans H; with_reducible exact H2_) | with_reducible exact H | (rw [hy277]; exact H) | exact H
                have Ny277 := Aside0.mk hy277; clear hy277; obtain rfl := Option.some.inj H
                go_wp2_with (first | (go_at_call 64; (with_reducible refine (impl_tableOf_1.calls (⟨#[114, 100]⟩ : ByteArray) t269 t270 t271 t272 _ A40.out).mono ?_); rintro e w42 ⟨rfl, hb⟩; replace BK224 := Aside0.mk (blk_below (g := gb224) (o := .cells #[.string (⟨#[78, 79, 84]⟩ : ByteArray), .int .i64 0, .int .i64 2, .string (⟨#[116]⟩ : ByteArray)] 57 (0, 0)) (ks BK224) hb); replace HB := Aside0.mk (below_step (bs HB) hb); (try clear hb); (try clear hb2); (try clear hk); (try clear hi)) | (go_at_call 65; (with_reducible refine (impl_tableOf_2.calls (⟨#[73, 84, 77]⟩ : ByteArray) (⟨#[114, 122, 63, 116]⟩ : ByteArray) t273 t274 t275 t276 _ A41.out).mono ?_); rintro e w43 ⟨rfl, hb⟩; replace BK224 := Aside0.mk (blk_below (g := gb224) (o := .cells #[.string (⟨#[78, 79, 84]⟩ : ByteArray), .int .i64 0, .int .i64 2, .string (⟨#[116]⟩ : ByteArray)] 57 (0, 0)) (ks BK224) hb); replace HB := Aside0.mk (below_step (bs HB) hb); (try clear hb); (try clear hb2); (try clear hk); (try clear hi)) | ((with_reducible refine gate_dst (N := 45) rfl ?_); refine Kd.R_lit k57 _ 57 ?hg (N := 45) ?hd (xs := ([(⟨t269, t270, t271, t272⟩ : S57), (⟨t273, t274, t275, t276⟩ : S57)] : List (S57))) (inner := [.string t269, .int .i64 t270, .int .i64 t271, .string t272, .string t273, .int .i64 t274, .int .i64 t275, .string t276]) (ok := fun _ => True) (okp := fun _ => True) ?hr ?hp (fun _ hk => hk) trivial (Below.refl _ _) (Nat.le_refl _) (by simp) ?_; (case hd => rfl); (case hg => rfl); (case hr => first | (go_simp; done) | (go_simp; rfl)); (case hp => exact (Reps.c4 (show Kd.M k57 _ _ _ (⟨t269, t270, t271, t272⟩ : S57) [.string t269, .int .i64 t270, .int .i64 t271, .string t272] from (k57_mkM _ _ _ (⟨t269, t270, t271, t272⟩ : S57) )) (Reps.c4 (show Kd.M k57 _ _ _ (⟨t273, t274, t275, t276⟩ : S57) [.string t273, .int .i64 t274, .int .i64 t275, .string t276] from (k57_mkM _ _ _ (⟨t273, t274, t275, t276⟩ : S57) )) (Reps.none _ _)))); intro v278 w44 ho45 hb hg_ hnew_; clear hg_ hnew_; (first | rw [← Ny277.out] at ho45 | (simp only [Int.reduceToNat] at ho45; rw [← Ny277.out] at ho45)); have HO279 := Aside0.mk (Kd.R_lower (Kd.R_newB ho45 (g := gb224) (o := .cells #[.string (⟨#[78, 79, 84]⟩ : ByteArray), .int .i64 0, .int .i64 2, .string (⟨#[116]⟩ : ByteArray)] 57 (0, 0)) (ks BK224)) (below_size (bs HB))); replace BK224 := Aside0.mk (blk_below (g := gb224) (o := .cells #[.string (⟨#[78, 79, 84]⟩ : ByteArray), .int .i64 0, .int .i64 2, .string (⟨#[116]⟩ : ByteArray)] 57 (0, 0)) (ks BK224) hb); replace HB := Aside0.mk (below_step (bs HB) hb); clear hb ho45))
                go_ret
                exact ⟨_, ff, by (with_reducible repeat (first | apply Kd.R_alloc | apply Kd.R_drewN | apply Kd.R_drew)); exact Kd.R_mono HO279.out (fun _ hk => trivial), bs HB⟩
              · rw [if_neg c39] at H; have c39b0 : (a0 == 6) = false := beq_eq_false_iff_ne.mpr c39; have c39b1 : (a0 != 6) = true := bne_iff_ne.mpr c39
                by_cases c46 : a0 = 7
                · rw [if_pos c46] at H; have c46b0 : (a0 == 7) = true := beq_iff_eq.mpr c46; have c46b1 : (a0 != 7) = false := bne_eq_false_iff_eq.mpr c46; clear c46; replace H := Option.bind_eq_some_iff.mp H; obtain ⟨⟨t280, t281, t282, t283⟩, A470, H⟩ := H; replace H : (some (([(⟨t280, t281, t282, t283⟩ : S57), (⟨(⟨#[65, 67, 75]⟩ : ByteArray), 1, 1, (⟨#[110, 110, 63, 110]⟩ : ByteArray)⟩ : S57)] : List (S57)))) = some r := H; have A47 := Aside0.mk A470; clear A470; obtain ⟨y284, hy284⟩ : ∃ y_ : List (S57), y_ = (([(⟨t280, t281, t282, t283⟩ : S57), (⟨(⟨#[65, 67, 75]⟩ : ByteArray), 1, 1, (⟨#[110, 110, 63, 110]⟩ : ByteArray)⟩ : S57)] : List (S57))) := ⟨_, rfl⟩
                  replace H : (some y284) = some r := by first | (rw [hy284]; with_reducible exact H) | (have H2_ := (Option.bind_some _ _).symm.trans H; rw [hy284]; with_reducible exact H2_) | (have H2_ := (Option.bind_some _ _).symm.trans H; with_reducible exact H2_) | with_reducible exact H | (rw [hy284]; exact H) | exact H
                  have Ny284 := Aside0.mk hy284; clear hy284; obtain rfl := Option.some.inj H
                  go_wp2_with (first | (go_at_call 64; (with_reducible refine (impl_tableOf_1.calls (⟨#[114, 100]⟩ : ByteArray) t280 t281 t282 t283 _ A47.out).mono ?_); rintro e w48 ⟨rfl, hb⟩; replace BK224 := Aside0.mk (blk_below (g := gb224) (o := .cells #[.string (⟨#[78, 79, 84]⟩ : ByteArray), .int .i64 0, .int .i64 2, .string (⟨#[116]⟩ : ByteArray)] 57 (0, 0)) (ks BK224) hb); replace HB := Aside0.mk (below_step (bs HB) hb); (try clear hb); (try clear hb2); (try clear hk); (try clear hi)) | ((with_reducible refine gate_dst (N := 51) rfl ?_); refine Kd.R_lit k57 _ 57 ?hg (N := 51) ?hd (xs := ([(⟨t280, t281, t282, t283⟩ : S57), (⟨(⟨#[65, 67, 75]⟩ : ByteArray), 1, 1, (⟨#[110, 110, 63, 110]⟩ : ByteArray)⟩ : S57)] : List (S57))) (inner := [.string t280, .int .i64 t281, .int .i64 t282, .string t283, .string (⟨#[65, 67, 75]⟩ : ByteArray), .int .i64 1, .int .i64 1, .string (⟨#[110, 110, 63, 110]⟩ : ByteArray)]) (ok := fun _ => True) (okp := fun _ => True) ?hr ?hp (fun _ hk => hk) trivial (Below.refl _ _) (Nat.le_refl _) (by simp) ?_; (case hd => rfl); (case hg => rfl); (case hr => first | (go_simp; done) | (go_simp; rfl)); (case hp => exact (Reps.c4 (show Kd.M k57 _ _ _ (⟨t280, t281, t282, t283⟩ : S57) [.string t280, .int .i64 t281, .int .i64 t282, .string t283] from (k57_mkM _ _ _ (⟨t280, t281, t282, t283⟩ : S57) )) (Reps.c4 (show Kd.M k57 _ _ _ (⟨(⟨#[65, 67, 75]⟩ : ByteArray), 1, 1, (⟨#[110, 110, 63, 110]⟩ : ByteArray)⟩ : S57) [.string (⟨#[65, 67, 75]⟩ : ByteArray), .int .i64 1, .int .i64 1, .string (⟨#[110, 110, 63, 110]⟩ : ByteArray)] from (k57_mkM _ _ _ (⟨(⟨#[65, 67, 75]⟩ : ByteArray), 1, 1, (⟨#[110, 110, 63, 110]⟩ : ByteArray)⟩ : S57) )) (Reps.none _ _)))); intro v285 w49 ho50 hb hg_ hnew_; clear hg_ hnew_; (first | rw [← Ny284.out] at ho50 | (simp only [Int.reduceToNat] at ho50; rw [← Ny284.out] at ho50)); have HO286 := Aside0.mk (Kd.R_lower (Kd.R_newB ho50 (g := gb224) (o := .cells #[.string (⟨#[78, 79, 84]⟩ : ByteArray), .int .i64 0, .int .i64 2, .string (⟨#[116]⟩ : ByteArray)] 57 (0, 0)) (ks BK224)) (below_size (bs HB))); replace BK224 := Aside0.mk (blk_below (g := gb224) (o := .cells #[.string (⟨#[78, 79, 84]⟩ : ByteArray), .int .i64 0, .int .i64 2, .string (⟨#[116]⟩ : ByteArray)] 57 (0, 0)) (ks BK224) hb); replace HB := Aside0.mk (below_step (bs HB) hb); clear hb ho50))
                  go_ret
                  exact ⟨_, ff, by (with_reducible repeat (first | apply Kd.R_alloc | apply Kd.R_drewN | apply Kd.R_drew)); exact Kd.R_mono HO286.out (fun _ hk => trivial), bs HB⟩
                · rw [if_neg c46] at H; have c46b0 : (a0 == 7) = false := beq_eq_false_iff_ne.mpr c46; have c46b1 : (a0 != 7) = true := bne_iff_ne.mpr c46; obtain rfl := Option.some.inj H
                  go_wp2
                  go_ret
                  exact ⟨_, ff, by first | exact Kd.R_nil _ _ _ _ _ | exact Kd.N_nil _ _ _ _ _ | exact Kd.V_nil _ _ _ _ _ | exact Kd.Q_nil _ _ _ _ _ | exact Kd.S_nil _ _ _ _ _, bs HB⟩
end Go.Proofs.YtjbdljhjplidmaaDoor.QF
namespace Go.Proofs.YtjbdljhjplidmaaDoor.QF
open Go.RowKit Go.Proofs.YtjbdljhjplidmaaDoorW.PrintWords Go.Proofs.YtjbdljhjplidmaaDoorW.PrintLast Go.Proofs.YtjbdljhjplidmaaDoorW.PrintMore
attribute [local go_sem] max2_int min2_int max_two min_two max_three min_three max_four min_four   -- for this text's walks alone
set_option linter.unusedVariables false
set_option linter.unusedSimpArgs false
def TbC (w : World) : Prop := ∃ m, w.cell? ⟨0, 0, none⟩ = some (.int .i64 m)
theorem tbC {w W : World} (h : Aside0 (TbC w)) (hb : Below w.heap.size w W) : TbC W := by
  obtain ⟨m, h0⟩ := h.out
  exact ⟨m, (hb.cell (World.block_lt_of_cell? w _ h0)).trans h0⟩
theorem strings_Cut.calls (a0 : ByteArray) (a1 : ByteArray) (r1 : ByteArray) (r2 : ByteArray) (r3 : Bool) (w : World) (hTC : TbC w) (h : strings_Cut.f a0 a1 = some (r1, r2, r3)) :
    Calls Tryd.prog 32 #[.string a0, .string a1] w fun e w' => e = .returned (.tuple #[.string r1, .string r2, .bool r3]) ∧ Below w.heap.size w w' := by
  unfold strings_Cut.f at h
  by_cases c1 : a0.size < 4294967281
  · rw [if_pos c1] at h
    obtain ⟨rfl, rfl, rfl⟩ : (⟨(Lib.cut a0.data.toList a1.data.toList).1.toArray⟩ : ByteArray) = r1 ∧ (⟨(Lib.cut a0.data.toList a1.data.toList).2.1.toArray⟩ : ByteArray) = r2 ∧ (Lib.cut a0.data.toList a1.data.toList).2.2 = r3 := by simpa using h
    obtain ⟨m, hm⟩ := hTC; refine (show Calls Tryd.prog 32 #[.string a0, .string a1] w _ from Any.strings_Cut Tryd.lays145 a0 a1 m w c1 hm).mono ?_; rintro e w' ⟨rfl, k, rfl⟩
    exact ⟨rfl, pw_below_drewN (Below.refl _ _) k⟩
  · rw [if_neg c1] at h; cases h
theorem strings_IndexByte.calls (a0 : ByteArray) (a1 : Int) (r : Int) (w : World) (h : strings_IndexByte.f a0 a1 = some r) :
    Calls Tryd.prog 33 #[.string a0, .int .u8 a1] w fun e w' => e = .returned (.int .i64 r) ∧ Drawn0 w w' := by
  obtain rfl := Option.some.inj h; refine (show Calls Tryd.prog 33 #[.string a0, .int .u8 a1] w _ from Any.strings_IndexByte Tryd.lays137 a0 a1 w).mono ?_; rintro e w' ⟨rfl, rfl⟩
  exact ⟨rfl, Drawn0.refl _⟩
set_option maxHeartbeats 8000000 in
set_option maxRecDepth 100000 in
theorem impl_longText_1.calls (a0 : ByteArray) (r : Bool) (w : World) (h : impl_longText_1.f a0 = some r) :
    Calls Tryd.prog 59 #[.string a0] w fun e w' => e = .returned (.bool r) ∧ Drawn0 w w' := by
  have H : (some (decide ((a0.size : Int) > 20000))) = some r := h; clear h; obtain rfl := Option.some.inj H
  go_enter Tryd.func59, Tryd.ntmps59
  go_wp2
  go_ret
  exact ⟨fg, by repeat (first | exact Drawn0.refl _ | apply Drawn0.step)⟩
set_option maxHeartbeats 8000000 in
set_option maxRecDepth 100000 in
theorem slices_IndexFunc_string_string_impl_longText_1.calls (k : Nat) (A0 : Option Addr) (c0 : Nat) (l0 : List ByteArray)  (r : Int) (w : World) (hr0 : Kd.C Kd.string w A0 l0.length l0) (hc0 : l0.length ≤ c0) (h : slices_IndexFunc_string_string_impl_longText_1.f k l0 = some r) :
    Calls Tryd.prog 77 #[.slice A0 l0.length c0, .func (.func 59) #[] #[]] w fun e w' => e = .returned (.int .i64 r) ∧ Drawn0 w w' := by
  have HR0 := Aside0.mk hr0; have HC0 := Aside0.mk hc0; clear hr0 hc0; have H : (slices_IndexFunc_string_string_impl_longText_1.l0 k l0 (l0.length : Int) 0) = some r := h; clear h; have H' := Aside0.mk H; clear H
  go_enter Tryd.func77, Tryd.ntmps77
  go_wp2
  go_loopg [8] k (fun kq v8 w' => ∃ (x8_1 : Int), v8 = .int .i64 x8_1 ∧ Aside0 (slices_IndexFunc_string_string_impl_longText_1.l0 kq l0 (l0.length : Int) x8_1 = some r) ∧ Aside0 (kq ≤ k) ∧ Drawn0 w w')
  case atStart => exact ⟨(0), fg, H', ⟨Nat.le_refl _⟩, by repeat (first | exact Drawn0.refl _ | apply Drawn0.step)⟩
  case round =>
    clear H'
    try clear p2
    obtain ⟨x8_1, rfl, HA, HK1, ⟨m1, rfl⟩⟩ := hrel
    cases gk with
    | zero => exact absurd HA.out (by simp [slices_IndexFunc_string_string_impl_longText_1.l0])
    | succ k1 =>
      have H := HA.out; clear HA; simp only [slices_IndexFunc_string_string_impl_longText_1.l0] at H
      by_cases c3 : x8_1 < (l0.length : Int)
      · rw [if_pos c3] at H; have c3b0 : decide (x8_1 < (l0.length : Int)) = true := decide_eq_true c3; clear c3
        by_cases c4 : 0 ≤ x8_1
        · rw [if_pos c4] at H; have c4b0 : decide (0 ≤ x8_1) = true := decide_eq_true c4; clear c4
          by_cases c5 : x8_1 < (l0.length : Int)
          · rw [if_pos c5] at H; have c5b0 : decide (x8_1 < (l0.length : Int)) = true := decide_eq_true c5; clear c5; replace H := Option.bind_eq_some_iff.mp H; obtain ⟨t288, A60, H⟩ := H; replace H : (if t288 = true then (some x8_1) else (slices_IndexFunc_string_string_impl_longText_1.l0 k1 l0 (l0.length : Int) (wrap64 (x8_1 + 1)))) = some r := H; have A6 := Aside0.mk A60; clear A60; have p287 : 0 ≤ (x8_1 : Int) := oa; have q287 : x8_1 < (l0.length : Int) := oa; obtain ⟨ad287, e287, hx287_0⟩ := Kd.at_string HR0.out x8_1 p287 q287
            cases e287
            replace p287 := eq_true p287; replace q287 := eq_true q287
            try go_wp2_with (fail)
            go_at_call 59; (with_reducible refine (impl_longText_1.calls (rdOf ByteArray.empty l0 x8_1) t288 _ A6.out).mono ?_); rintro e w' ⟨rfl, ⟨nd, rfl⟩⟩
            by_cases c7 : t288 = true
            · subst c7
              have H1 : (some x8_1) = some r := by rw [if_pos rfl] at H; exact H
              clear H; have H := H1; clear H1; obtain rfl := Option.some.inj H
              go_wp2
              go_ret
              exact ⟨fg, by repeat (first | exact Drawn0.refl _ | apply Drawn0.step)⟩
            · replace c7 := Bool.eq_false_iff.mpr c7; subst c7
              have H1 : (slices_IndexFunc_string_string_impl_longText_1.l0 k1 l0 (l0.length : Int) (wrap64 (x8_1 + 1))) = some r := by rw [if_neg (show ¬ (false = true) by decide)] at H; exact H
              clear H; have H := H1; clear H1; have H' := Aside0.mk H; clear H
              go_wp2
              go_roundg k1
              case measure => have := HK1.out; omega
              case rel => exact ⟨(wrap64 (x8_1 + 1)), fg, H', ⟨by have := HK1.out; omega⟩, by repeat (first | exact Drawn0.refl _ | apply Drawn0.step)⟩
          · rw [if_neg c5] at H
            exact absurd H (by simp)
        · rw [if_neg c4] at H
          exact absurd H (by simp)
      · rw [if_neg c3] at H; have c3b0 : decide (x8_1 < (l0.length : Int)) = false := decide_eq_false c3; clear c3; obtain rfl := Option.some.inj H
        go_wp2
        go_ret
        exact ⟨fg, by repeat (first | exact Drawn0.refl _ | apply Drawn0.step)⟩
set_option maxHeartbeats 8000000 in
set_option maxRecDepth 100000 in
theorem slices_ContainsFunc_string_string_impl_longText_1.calls (k : Nat) (A0 : Option Addr) (c0 : Nat) (l0 : List ByteArray)  (r : Bool) (w : World) (hr0 : Kd.C Kd.string w A0 l0.length l0) (hc0 : l0.length ≤ c0) (h : slices_ContainsFunc_string_string_impl_longText_1.f k l0 = some r) :
    Calls Tryd.prog 58 #[.slice A0 l0.length c0, .func (.func 59) #[] #[]] w fun e w' => e = .returned (.bool r) ∧ Drawn0 w w' := by
  have HR0 := Aside0.mk hr0; have HC0 := Aside0.mk hc0; clear hr0 hc0; have H : ((slices_IndexFunc_string_string_impl_longText_1.f k l0).bind fun t289 => (some (decide (t289 ≥ 0)))) = some r := h; clear h; replace H := Option.bind_eq_some_iff.mp H; obtain ⟨t289, A30, H⟩ := H; replace H : (some (decide (t289 ≥ 0))) = some r := H; have A3 := Aside0.mk A30; clear A30; obtain rfl := Option.some.inj H
  go_enter Tryd.func58, Tryd.ntmps58
  go_wp2_with (first | ((first | ((with_reducible refine gate_callee (f := 77) rfl ?_); refine goesL_ (some 7) rfl rfl Tryd.func77 (by kernel_rfl) rfl #[.slice A0 l0.length c0, .func (.func 59) #[] #[]] rfl (by (try simp only [List.map_toArray, List.map_cons, List.map_nil]); first | done | rfl | (simp only [List.length_drop, List.length_take]; rfl)) ?_; (with_reducible refine (slices_IndexFunc_string_string_impl_longText_1.calls k _ _ l0  t289 _ ?side1 HC0.out A3.out).mono ?_); (case side1 => repeat (first | exact HR0.out | (with_reducible refine Kd.C_alloc ?_ _) | (with_reducible refine Kd.C_drewN ?_ _) | (with_reducible refine Kd.C_drew ?_))); rintro e w' ⟨rfl, ⟨nd, rfl⟩⟩; refine ⟨_, rfl, ?_⟩) | (go_at_call 77; (with_reducible refine (slices_IndexFunc_string_string_impl_longText_1.calls k _ _ l0  t289 _ ?side1 HC0.out A3.out).mono ?_); (case side1 => repeat (first | exact HR0.out | (with_reducible refine Kd.C_alloc ?_ _) | (with_reducible refine Kd.C_drewN ?_ _) | (with_reducible refine Kd.C_drew ?_))); rintro e w' ⟨rfl, ⟨nd, rfl⟩⟩))))
  go_ret
  exact ⟨fg, by repeat (first | exact Drawn0.refl _ | apply Drawn0.step)⟩
set_option maxHeartbeats 8000000 in
set_option maxRecDepth 100000 in
theorem impl_longText.calls (k : Nat) (A0 : Option Addr) (c0 : Nat) (l0 : List ByteArray) (r : Bool) (w : World) (hr0 : Kd.C Kd.string w A0 l0.length l0) (hc0 : l0.length ≤ c0) (h : impl_longText.f k l0 = some r) :
    Calls Tryd.prog 34 #[.slice A0 l0.length c0] w fun e w' => e = .returned (.bool r) ∧ Drawn0 w w' := by
  have HR0 := Aside0.mk hr0; have HC0 := Aside0.mk hc0; clear hr0 hc0; have H : ((slices_ContainsFunc_string_string_impl_longText_1.f k l0).bind fun t290 => (some t290)) = some r := h; clear h; replace H := Option.bind_eq_some_iff.mp H; obtain ⟨t290, A20, H⟩ := H; replace H : (some t290) = some r := H; have A2 := Aside0.mk A20; clear A20; obtain rfl := Option.some.inj H
  go_enter Tryd.func34, Tryd.ntmps34
  go_wp2_with (first | ((first | ((with_reducible refine gate_callee (f := 58) rfl ?_); refine goesL_ (some 4) rfl rfl Tryd.func58 (by kernel_rfl) rfl #[.slice A0 l0.length c0, .func (.func 59) #[] #[]] rfl (by (try simp only [List.map_toArray, List.map_cons, List.map_nil]); first | done | rfl | (simp only [List.length_drop, List.length_take]; rfl)) ?_; (with_reducible refine (slices_ContainsFunc_string_string_impl_longText_1.calls k _ _ l0  t290 _ ?side1 HC0.out A2.out).mono ?_); (case side1 => repeat (first | exact HR0.out | (with_reducible refine Kd.C_alloc ?_ _) | (with_reducible refine Kd.C_drewN ?_ _) | (with_reducible refine Kd.C_drew ?_))); rintro e w' ⟨rfl, ⟨nd, rfl⟩⟩; refine ⟨_, rfl, ?_⟩) | (go_at_call 58; (with_reducible refine (slices_ContainsFunc_string_string_impl_longText_1.calls k _ _ l0  t290 _ ?side1 HC0.out A2.out).mono ?_); (case side1 => repeat (first | exact HR0.out | (with_reducible refine Kd.C_alloc ?_ _) | (with_reducible refine Kd.C_drewN ?_ _) | (with_reducible refine Kd.C_drew ?_))); rintro e w' ⟨rfl, ⟨nd, rfl⟩⟩))))
  go_ret
  exact ⟨fg, by repeat (first | exact Drawn0.refl _ | apply Drawn0.step)⟩
set_option maxHeartbeats 8000000 in
set_option maxRecDepth 100000 in
theorem impl_isGreat.calls (a0 : Int) (r : Bool) (w : World) (h : impl_isGreat.f a0 = some r) :
    Calls Tryd.prog 78 #[.int .u8 a0] w fun e w' => e = .returned (.bool r) ∧ Drawn0 w w' := by
  have H : (if a0 ≥ 65 then (some (decide (a0 ≤ 90))) else (some false)) = some r := h; clear h
  by_cases c2 : a0 ≥ 65
  · rw [if_pos c2] at H; have c2b0 : decide (65 ≤ a0) = true := decide_eq_true c2; clear c2; obtain rfl := Option.some.inj H
    go_enter Tryd.func78, Tryd.ntmps78
    go_wp2
    go_ret
    exact ⟨fg, by repeat (first | exact Drawn0.refl _ | apply Drawn0.step)⟩
  · rw [if_neg c2] at H; have c2b0 : decide (65 ≤ a0) = false := decide_eq_false c2; clear c2; obtain rfl := Option.some.inj H
    go_enter Tryd.func78, Tryd.ntmps78
    go_wp2
    go_ret
    exact ⟨fg, by repeat (first | exact Drawn0.refl _ | apply Drawn0.step)⟩
set_option maxHeartbeats 8000000 in
set_option maxRecDepth 100000 in
theorem impl_isDigit.calls (a0 : Int) (r : Bool) (w : World) (h : impl_isDigit.f a0 = some r) :
    Calls Tryd.prog 79 #[.int .u8 a0] w fun e w' => e = .returned (.bool r) ∧ Drawn0 w w' := by
  have H : (if a0 ≥ 48 then (some (decide (a0 ≤ 57))) else (some false)) = some r := h; clear h
  by_cases c2 : a0 ≥ 48
  · rw [if_pos c2] at H; have c2b0 : decide (48 ≤ a0) = true := decide_eq_true c2; clear c2; obtain rfl := Option.some.inj H
    go_enter Tryd.func79, Tryd.ntmps79
    go_wp2
    go_ret
    exact ⟨fg, by repeat (first | exact Drawn0.refl _ | apply Drawn0.step)⟩
  · rw [if_neg c2] at H; have c2b0 : decide (48 ≤ a0) = false := decide_eq_false c2; clear c2; obtain rfl := Option.some.inj H
    go_enter Tryd.func79, Tryd.ntmps79
    go_wp2
    go_ret
    exact ⟨fg, by repeat (first | exact Drawn0.refl _ | apply Drawn0.step)⟩
end Go.Proofs.YtjbdljhjplidmaaDoor.QF
namespace Go.Proofs.YtjbdljhjplidmaaDoor.QF
open Go.RowKit Go.Proofs.YtjbdljhjplidmaaDoorW.PrintWords Go.Proofs.YtjbdljhjplidmaaDoorW.PrintLast Go.Proofs.YtjbdljhjplidmaaDoorW.PrintMore
attribute [local go_sem] max2_int min2_int max_two min_two max_three min_three max_four min_four   -- for this text's walks alone
set_option linter.unusedVariables false
set_option linter.unusedSimpArgs false
set_option maxHeartbeats 8000000 in
set_option maxRecDepth 100000 in
theorem impl_isName.calls (k : Nat) (a0 : ByteArray) (r : Bool) (w : World) (h : impl_isName.f k a0 = some r) :
    Calls Tryd.prog 60 #[.string a0] w fun e w' => e = .returned (.bool r) ∧ Drawn0 w w' := by
  have H : (impl_isName.l0 k a0 (a0.size : Int) 0) = some r := h; clear h; have H' := Aside0.mk H; clear H
  go_enter Tryd.func60, Tryd.ntmps60
  go_wp2
  go_loopg [6] k (fun kq v6 w' => ∃ (x6_1 : Int), v6 = .int .i64 x6_1 ∧ Aside0 (impl_isName.l0 kq a0 (a0.size : Int) x6_1 = some r) ∧ Aside0 (kq ≤ k) ∧ Drawn0 w w')
  case atStart => exact ⟨(0), fg, H', ⟨Nat.le_refl _⟩, by repeat (first | exact Drawn0.refl _ | apply Drawn0.step)⟩
  case round =>
    clear H'; obtain ⟨x6_1, rfl, HA, HK1, ⟨m1, rfl⟩⟩ := hrel
    cases gk with
    | zero => exact absurd HA.out (by simp [impl_isName.l0])
    | succ k1 =>
      have H := HA.out; clear HA; simp only [impl_isName.l0] at H
      by_cases c2 : x6_1 < (a0.size : Int)
      · rw [if_pos c2] at H; have c2b0 : decide (x6_1 < (a0.size : Int)) = true := decide_eq_true c2; clear c2
        by_cases c3 : 0 ≤ x6_1
        · rw [if_pos c3] at H; have c3b0 : decide (0 ≤ x6_1) = true := decide_eq_true c3; clear c3
          by_cases c4 : x6_1 < (a0.size : Int)
          · rw [if_pos c4] at H; have c4b0 : decide (x6_1 < (a0.size : Int)) = true := decide_eq_true c4; clear c4; replace H := Option.bind_eq_some_iff.mp H; obtain ⟨t292, A60, H⟩ := H; replace H : (if t292 = true then (impl_isName.l0 k1 a0 (a0.size : Int) (wrap64 (x6_1 + 1))) else (if x6_1 = 0 then (some false) else ((impl_isDigit.f (bt a0 x6_1)).bind fun t293 => (if t293 = true then (impl_isName.l0 k1 a0 (a0.size : Int) (wrap64 (x6_1 + 1))) else (if (bt a0 x6_1) = 45 then (impl_isName.l0 k1 a0 (a0.size : Int) (wrap64 (x6_1 + 1))) else (some false)))))) = some r := H; have A6 := Aside0.mk A60; clear A60; have p5 : 0 ≤ (x6_1 : Int) := oa; have q5 : x6_1 < (a0.size : Int) := oa; have hx5 := bt_at a0 x6_1; replace p5 := eq_true p5; replace q5 := eq_true q5
            try go_wp2_with (fail)
            go_at_call 78; (with_reducible refine (impl_isGreat.calls (bt a0 x6_1) t292 _ A6.out).mono ?_); rintro e w' ⟨rfl, ⟨nd, rfl⟩⟩
            by_cases c7 : t292 = true
            · subst c7
              have H1 : (impl_isName.l0 k1 a0 (a0.size : Int) (wrap64 (x6_1 + 1))) = some r := by rw [if_pos rfl] at H; exact H
              clear H; have H := H1; clear H1; have H' := Aside0.mk H; clear H
              go_wp2
              go_roundg k1
              case measure => have := HK1.out; omega
              case rel => exact ⟨(wrap64 (x6_1 + 1)), fg, H', ⟨by have := HK1.out; omega⟩, by repeat (first | exact Drawn0.refl _ | apply Drawn0.step)⟩
            · replace c7 := Bool.eq_false_iff.mpr c7; subst c7
              have H1 : (if x6_1 = 0 then (some false) else ((impl_isDigit.f (bt a0 x6_1)).bind fun t293 => (if t293 = true then (impl_isName.l0 k1 a0 (a0.size : Int) (wrap64 (x6_1 + 1))) else (if (bt a0 x6_1) = 45 then (impl_isName.l0 k1 a0 (a0.size : Int) (wrap64 (x6_1 + 1))) else (some false))))) = some r := by rw [if_neg (show ¬ (false = true) by decide)] at H; exact H
              clear H; have H := H1; clear H1
              by_cases c8 : x6_1 = 0
              · rw [if_pos c8] at H; have c8b0 : (x6_1 == 0) = true := beq_iff_eq.mpr c8; have c8b1 : (x6_1 != 0) = false := bne_eq_false_iff_eq.mpr c8; clear c8; obtain rfl := Option.some.inj H
                go_wp2
                go_ret
                exact ⟨fg, by repeat (first | exact Drawn0.refl _ | apply Drawn0.step)⟩
              · rw [if_neg c8] at H; have c8b0 : (x6_1 == 0) = false := beq_eq_false_iff_ne.mpr c8; have c8b1 : (x6_1 != 0) = true := bne_iff_ne.mpr c8; replace H := Option.bind_eq_some_iff.mp H; obtain ⟨t293, A100, H⟩ := H; replace H : (if t293 = true then (impl_isName.l0 k1 a0 (a0.size : Int) (wrap64 (x6_1 + 1))) else (if (bt a0 x6_1) = 45 then (impl_isName.l0 k1 a0 (a0.size : Int) (wrap64 (x6_1 + 1))) else (some false))) = some r := H; have A10 := Aside0.mk A100; clear A100; have p9 : 0 ≤ (x6_1 : Int) := oa; have q9 : x6_1 < (a0.size : Int) := oa; have hx9 := bt_at a0 x6_1; replace p9 := eq_true p9; replace q9 := eq_true q9
                try go_wp2_with (fail)
                go_at_call 79; (with_reducible refine (impl_isDigit.calls (bt a0 x6_1) t293 _ A10.out).mono ?_); rintro e w' ⟨rfl, ⟨nd, rfl⟩⟩
                by_cases c11 : t293 = true
                · subst c11
                  have H1 : (impl_isName.l0 k1 a0 (a0.size : Int) (wrap64 (x6_1 + 1))) = some r := by rw [if_pos rfl] at H; exact H
                  clear H; have H := H1; clear H1; have H' := Aside0.mk H; clear H
                  go_wp2
                  go_roundg k1
                  case measure => have := HK1.out; omega
                  case rel => exact ⟨(wrap64 (x6_1 + 1)), fg, H', ⟨by have := HK1.out; omega⟩, by repeat (first | exact Drawn0.refl _ | apply Drawn0.step)⟩
                · replace c11 := Bool.eq_false_iff.mpr c11; subst c11
                  have H1 : (if (bt a0 x6_1) = 45 then (impl_isName.l0 k1 a0 (a0.size : Int) (wrap64 (x6_1 + 1))) else (some false)) = some r := by rw [if_neg (show ¬ (false = true) by decide)] at H; exact H
                  clear H; have H := H1; clear H1
                  by_cases c13 : (bt a0 x6_1) = 45
                  · rw [if_pos c13] at H; have c13b0 : ((bt a0 x6_1) == 45) = true := beq_iff_eq.mpr c13; have c13b1 : ((bt a0 x6_1) != 45) = false := bne_eq_false_iff_eq.mpr c13; clear c13; have H' := Aside0.mk H; clear H; have p12 : 0 ≤ (x6_1 : Int) := oa; have q12 : x6_1 < (a0.size : Int) := oa; have hx12 := bt_at a0 x6_1; replace p12 := eq_true p12; replace q12 := eq_true q12
                    go_wp2
                    go_roundg k1
                    case measure => have := HK1.out; omega
                    case rel => exact ⟨(wrap64 (x6_1 + 1)), fg, H', ⟨by have := HK1.out; omega⟩, by repeat (first | exact Drawn0.refl _ | apply Drawn0.step)⟩
                  · rw [if_neg c13] at H; have c13b0 : ((bt a0 x6_1) == 45) = false := beq_eq_false_iff_ne.mpr c13; have c13b1 : ((bt a0 x6_1) != 45) = true := bne_iff_ne.mpr c13; obtain rfl := Option.some.inj H; have p12 : 0 ≤ (x6_1 : Int) := oa; have q12 : x6_1 < (a0.size : Int) := oa; have hx12 := bt_at a0 x6_1; replace p12 := eq_true p12; replace q12 := eq_true q12
                    go_wp2
                    go_ret
                    exact ⟨fg, by repeat (first | exact Drawn0.refl _ | apply Drawn0.step)⟩
          · rw [if_neg c4] at H
            exact absurd H (by simp)
        · rw [if_neg c3] at H
          exact absurd H (by simp)
      · rw [if_neg c2] at H; have c2b0 : decide (x6_1 < (a0.size : Int)) = false := decide_eq_false c2; clear c2; replace H := Option.bind_eq_some_iff.mp H; obtain ⟨t291, A140, H⟩ := H; replace H : (some t291) = some r := H; have A14 := Aside0.mk A140; clear A140; obtain rfl := Option.some.inj H
        go_wp2_with (first | ((first | ((with_reducible refine gate_callee (f := 39) rfl ?_); refine goesL_ (some 34) rfl rfl Tryd.func39 (by kernel_rfl) rfl #[.int .i64 (a0.size : Int), .int .i64 1, .int .i64 12] rfl (by (try simp only [List.map_toArray, List.map_cons, List.map_nil]); first | done | rfl | (simp only [List.length_drop, List.length_take]; rfl)) ?_; (with_reducible refine (impl_within.calls (a0.size : Int) 1 12 t291 _ A14.out).mono ?_); rintro e w' ⟨rfl, ⟨nd, rfl⟩⟩; refine ⟨_, rfl, ?_⟩) | (go_at_call 39; (with_reducible refine (impl_within.calls (a0.size : Int) 1 12 t291 _ A14.out).mono ?_); rintro e w' ⟨rfl, ⟨nd, rfl⟩⟩))))
        go_ret
        exact ⟨fg, by repeat (first | exact Drawn0.refl _ | apply Drawn0.step)⟩
end Go.Proofs.YtjbdljhjplidmaaDoor.QF
