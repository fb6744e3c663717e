-- Merged by a program of this session (wip/tool/pack.py) out of its own texts for this claim.
import Derived.Test.YtjbdljhjplidmaaDoorKFnExactTableCheck0
import Derived.Test.YtjbdljhjplidmaaDoorKFnExactTableCheck1
import Derived.Test.YtjbdljhjplidmaaDoorKFnExactTableCheck2
import Derived.Test.YtjbdljhjplidmaaDoorKFnExactTableCheck3
import Derived.Test.YtjbdljhjplidmaaDoorKFnExactTableCheck8
import Derived.Test.YtjbdljhjplidmaaDoorKFnExactTableCheck9
import Derived.Test.YtjbdljhjplidmaaDoorKFnExactTableCheck10
namespace Go.Proofs.YtjbdljhjplidmaaDoor.QF
open Go.RowKit Go.Proofs.YtjbdljhjplidmaaDoorW.PrintWords Go.Proofs.YtjbdljhjplidmaaDoorW.PrintLast Go.Proofs.YtjbdljhjplidmaaDoorW.PrintMore
attribute [local go_sem] max2_int min2_int max_two min_two max_three min_three max_four min_four   -- for this text's walks alone
set_option linter.unusedVariables false
set_option linter.unusedSimpArgs false
def impl_TableCheck.T10 : Bool × List (List Nat × List Nat) := (true, [([], []), ([], []), ([1], [1]), ([0, 2], [0, 2]), ([3], [3]), ([4], [4]), ([4], [4]), ([6, 4], [4, 6]), ([5, 7, 4], [4, 5, 7]), ([4, 8], [4, 8]), ([9, 4], [9]), ([10], [10]), ([10], [10]), ([11, 12, 10], [10, 11, 12]), ([13, 10], [10, 13]), ([14, 10], [10, 14]), ([10], [10]), ([16, 10], [10, 16]), ([15, 17, 10], [10, 15, 17]), ([10, 18], [10, 18])])
def impl_TableCheck.B10 : List Nat := [0, 0, 2, 7, 15, 31, 31, 95, 255, 511, 1023, 2047, 2047, 8191, 16383, 32767, 2047, 67583, 262143, 524287]
theorem impl_TableCheck.tab10 : rtab .any (opsOf Tryd.f19 10) = impl_TableCheck.T10 := by kernel_rfl
theorem impl_TableCheck.bits10 : waitsOk impl_TableCheck.T10.2 impl_TableCheck.B10 = true := by kernel_rfl
def impl_TableCheck.T12 : Bool × List (List Nat × List Nat) := (true, [([], []), ([0], [0]), ([], []), ([], []), ([2, 3], [2, 3]), ([4], [4]), ([1, 5], [1, 5]), ([6, 6, 0, 1, 2, 3, 4, 5, 6], [6])])
def impl_TableCheck.B12 : List Nat := [0, 1, 0, 0, 12, 28, 63, 127]
theorem impl_TableCheck.tab12 : rtab .any (opsOf Tryd.f19 12) = impl_TableCheck.T12 := by kernel_rfl
theorem impl_TableCheck.bits12 : waitsOk impl_TableCheck.T12.2 impl_TableCheck.B12 = true := by kernel_rfl
set_option maxHeartbeats 8000000 in
set_option maxRecDepth 100000 in
theorem impl_TableCheck.calls (k : Nat) (a0 : Int) (A1 : Option Addr) (c1 : Nat) (l1 : List (S36)) (r1 : Int) (r2 : Int) (r3 : Int) (w : World) (hr1 : Kd.C k36 w A1 l1.length l1) (hc1 : l1.length ≤ c1) (hTC : TbC w) (hTP : TbP w) (h : impl_TableCheck.f k a0 l1 = some (r1, r2, r3)) :
    Calls Tryd.prog 19 #[.int .i64 a0, .slice A1 l1.length c1] w fun e w' => e = .returned (.agg #[.int .i64 r1, .int .i64 r2, .int .i64 r3]) ∧ Below w.heap.size w w' := by
  have HTC := Aside0.mk hTC; clear hTC; have HTP := Aside0.mk hTP; clear hTP
  have hu43 := Tryd.underlying43; have hu57 := Tryd.underlying57; have hu36 := Tryd.underlying36; have HR1 := Aside0.mk hr1; have HC1 := Aside0.mk hc1; clear hr1 hc1; have HB := Aside0.mk (Below.refl w.heap.size w); have H : ((impl_Segment.f l1).bind fun t320 => (if t320 = true then (some (0, 0, 2)) else ((impl_within.f a0 1 7).bind fun t321 => (if t321 = true then ((impl_tableOf.f k a0).bind fun t322 => (impl_TableCheck.l0 k l1 0 (⟨#[]⟩ : ByteArray) t322 (t322.length : Int) 0)) else (some (0, 0, 1)))))) = some (r1, r2, r3) := h; clear h; replace H := Option.bind_eq_some_iff.mp H; obtain ⟨t320, A30, H⟩ := H; replace H : (if t320 = true then (some (0, 0, 2)) else ((impl_within.f a0 1 7).bind fun t321 => (if t321 = true then ((impl_tableOf.f k a0).bind fun t322 => (impl_TableCheck.l0 k l1 0 (⟨#[]⟩ : ByteArray) t322 (t322.length : Int) 0)) else (some (0, 0, 1))))) = some (r1, r2, r3) := H; have A3 := Aside0.mk A30; clear A30
  go_enter Tryd.func19, Tryd.ntmps19
  try go_wp2_with (first | ((with_reducible refine gate_dst (N := 4) rfl ?_); (try (refine gate_guard (by rfl) ?_; dsimp only)); refine bx 4 (cs := #[.int .i64 0, .int .i64 0, .int .i64 0]) (t := 43) ?_; intro gb319 hg w4 hbox hb; have BK319 := Aside0.mk (hbox); have GW319 := Aside0.mk ((gs hg (bs HB))); have GE319 := Aside0.mk ((gs hg (bs HB))); replace HB := Aside0.mk (below_step (bs HB) hb); clear hb hbox hg))
  go_at_call 38; (with_reducible refine (impl_Segment.calls _ _ l1 t320 _ (Kd.C_below HR1.out (bs HB)) HC1.out A3.out).mono ?_); rintro e w' ⟨rfl, ⟨nd, rfl⟩⟩
  by_cases c5 : t320 = true
  · subst c5
    have H1 : (some (0, 0, 2)) = some (r1, r2, r3) := by rw [if_pos rfl] at H; exact H
    clear H; have H := H1; clear H1; simp only [Option.some.injEq, Prod.mk.injEq] at H; obtain ⟨rfl, rfl, rfl⟩ := H; obtain ⟨hcz6_0, hcz6_1, hcz6_2, hfz6_0, hfz6_1, hfz6_2⟩ := cf3 BK319
    go_wp2
    refine bodyPost_ret (results_cell_row rfl _ _ gb319 43 #[.int .i64 0, .int .i64 0, .int .i64 2] (0, 0) _ rfl (kp BK319) Tryd.underlying43 rfl (by kernel_rfl)) rfl ?_
    exact ⟨ff, bs HB⟩
  · replace c5 := Bool.eq_false_iff.mpr c5; subst c5
    have H1 : ((impl_within.f a0 1 7).bind fun t321 => (if t321 = true then ((impl_tableOf.f k a0).bind fun t322 => (impl_TableCheck.l0 k l1 0 (⟨#[]⟩ : ByteArray) t322 (t322.length : Int) 0)) else (some (0, 0, 1)))) = some (r1, r2, r3) := by rw [if_neg (show ¬ (false = true) by decide)] at H; exact H
    clear H; have H := H1; clear H1; replace H := Option.bind_eq_some_iff.mp H; obtain ⟨t321, A70, H⟩ := H; replace H : (if t321 = true then ((impl_tableOf.f k a0).bind fun t322 => (impl_TableCheck.l0 k l1 0 (⟨#[]⟩ : ByteArray) t322 (t322.length : Int) 0)) else (some (0, 0, 1))) = some (r1, r2, r3) := H; have A7 := Aside0.mk A70; clear A70
    try go_wp2_with (fail)
    go_at_call 39; (with_reducible refine (impl_within.calls a0 1 7 t321 _ A7.out).mono ?_); rintro e w' ⟨rfl, ⟨nd, rfl⟩⟩
    by_cases c8 : t321 = true
    · subst c8
      have H1 : ((impl_tableOf.f k a0).bind fun t322 => (impl_TableCheck.l0 k l1 0 (⟨#[]⟩ : ByteArray) t322 (t322.length : Int) 0)) = some (r1, r2, r3) := by rw [if_pos rfl] at H; exact H
      clear H; have H := H1; clear H1; replace H := Option.bind_eq_some_iff.mp H; obtain ⟨t322, A90, H⟩ := H; replace H : (impl_TableCheck.l0 k l1 0 (⟨#[]⟩ : ByteArray) t322 (t322.length : Int) 0) = some (r1, r2, r3) := H; have A9 := Aside0.mk A90; clear A90; have H' := Aside0.mk H; clear H
      go_wp2_with (first | ((first | ((with_reducible refine gate_callee (f := 40) rfl ?_); refine goesL_ (some 21) rfl rfl Tryd.func40 (by kernel_rfl) rfl #[.int .i64 a0] rfl (by (try simp only [List.map_toArray, List.map_cons, List.map_nil]); first | done | rfl | (simp only [List.length_drop, List.length_take]; rfl)) ?_; (with_reducible refine (impl_tableOf.calls k a0 t322 _ A9.out).mono ?_); rintro e w10 ⟨v323, rfl, ho0, hb⟩; refine ⟨_, rfl, ?_⟩) | (go_at_call 40; (with_reducible refine (impl_tableOf.calls k a0 t322 _ A9.out).mono ?_); rintro e w10 ⟨v323, rfl, ho0, hb⟩)); have HO324 := Aside0.mk (Kd.R_lower ho0 (below_size (bs HB))); replace BK319 := Aside0.mk (blk_below (ks BK319) hb); replace HB := Aside0.mk (below_step (bs HB) hb); (try clear hb); (try clear hb2); (try clear hk); (try clear hi); (try clear ho0); obtain ⟨Ao11, co11, eo11⟩ := Kd.R_slice HO324.out; subst eo11))
      go_loopg [5, 6, 23] k (fun kq v5 v6 v23 w' => ∃ (x5_1 : Int) (x6_1 : ByteArray) (x23_1 : Int) (x320000_1 : Int) (x320001_1 : Int) (x320002_1 : Int), v5 = .int .i64 x5_1 ∧ v6 = .string x6_1 ∧ v23 = .int .i64 x23_1 ∧ Aside0 (impl_TableCheck.l0 kq l1 x5_1 x6_1 t322 (t322.length : Int) x23_1 = some (r1, r2, r3)) ∧ Aside0 (kq ≤ k) ∧ Aside0 (Kd.R k57 57 w' w.heap.size (fun _ => True) (.slice Ao11 t322.length co11) t322) ∧ Aside0 (w'.heap[gb319]? = some (.cells #[.int .i64 x320000_1, .int .i64 x320001_1, .int .i64 x320002_1] 43 (0, 0))) ∧ Aside0 (Below w.heap.size w w'))
      case atStart => exact ⟨(0), ((⟨#[]⟩ : ByteArray)), (0), (0), (0), (0), fg, fg, fg, H', ⟨Nat.le_refl _⟩, ⟨by (with_reducible repeat (first | apply Kd.R_alloc | apply Kd.R_drewN | apply Kd.R_drew)); exact HO324.out⟩, ⟨ks BK319⟩, ⟨bs HB⟩⟩
      case round =>
        clear H'
        try clear c1
        try clear p2
        try clear c4
        try clear c5
        try clear c8
        try clear hcz6_0
        try clear hcz6_1
        try clear hcz6_2
        try clear hfz6_0
        try clear hfz6_1
        try clear hfz6_2
        obtain ⟨x5_1, x6_1, x23_1, x320000_1, x320001_1, x320002_1, rfl, rfl, rfl, HA, HK1, HO_21, BK319, HB⟩ := hrel
        cases gk with
        | zero => exact absurd HA.out (by simp [impl_TableCheck.l0])
        | succ k1 =>
          have H := HA.out; clear HA; simp only [impl_TableCheck.l0] at H
          by_cases c12 : x23_1 < (t322.length : Int)
          · rw [if_pos c12] at H; have c12b0 : decide (x23_1 < (t322.length : Int)) = true := decide_eq_true c12; clear c12
            by_cases c13 : 0 ≤ x23_1
            · rw [if_pos c13] at H; have c13b0 : decide (0 ≤ x23_1) = true := decide_eq_true c13; clear c13
              by_cases c14 : x23_1 < (t322.length : Int)
              · rw [if_pos c14] at H; have c14b0 : decide (x23_1 < (t322.length : Int)) = true := decide_eq_true c14; clear c14; have H' := Aside0.mk H; clear H; have p325 : 0 ≤ (x23_1 : Int) := oa; have q325 : x23_1 < (t322.length : Int) := oa; obtain ⟨ad325, e325, hx325_0, hx325_1, hx325_2, hx325_3⟩ := at_T57 (Kd.R_reads' HO_21.out).2.2 x23_1 p325 q325
                cases e325
                replace p325 := eq_true p325; replace q325 := eq_true q325
                go_wp2_with (first | ((with_reducible refine gate_dst (N := 8) rfl ?_); (try (refine gate_guard (by rfl) ?_; dsimp only)); refine bx 8 (cs := #[.string (⟨#[]⟩ : ByteArray), .int .i64 0, .int .i64 0, .string (⟨#[]⟩ : ByteArray)]) (t := 57) ?_; intro gb326 hg w15 hbox hb; replace HO_21 := Aside0.mk (Kd.R_below (Kd.R_elderB (rs HO_21) gb326 (Nat.le_of_eq hg.symm)) hb); have BK326 := Aside0.mk (hbox); have GW326 := Aside0.mk ((gs hg (bs HB))); have GE326 := Aside0.mk ((gs hg (bs HB))); replace HB := Aside0.mk (below_step (bs HB) hb); have NB319_326 := Aside0.mk ((gn hg (ks BK319))); have NB326_319 := Aside0.mk ((gm hg (ks BK319))); replace BK319 := Aside0.mk (blk_below (ks BK319) hb); clear hb hbox hg; have hnb16 := NB326_319.out; have hnc16 := NB319_326.out; obtain ⟨hcz17_0, hcz17_1, hcz17_2, hcz17_3, hfz17_0, hfz17_1, hfz17_2, hfz17_3⟩ := cf4 BK326))
                go_loopg [5, 9] k1 (fun kq v5 v9 w' => ∃ (x5_2 : Int) (x9_2 : Int) (x320000_2 : Int) (x320001_2 : Int) (x320002_2 : Int), v5 = .int .i64 x5_2 ∧ v9 = .int .i64 x9_2 ∧ Aside0 (impl_TableCheck.l1 kq l1 x5_2 x9_2 t322 (t322.length : Int) x23_1 ((rd_T57 t322 x23_1).f0) ((rd_T57 t322 x23_1).f1) ((rd_T57 t322 x23_1).f2) ((rd_T57 t322 x23_1).f3) = some (r1, r2, r3)) ∧ Aside0 (kq ≤ k1) ∧ Aside0 (Kd.R k57 57 w' w.heap.size (fun k_ => k_ ≠ gb326) (.slice (some ad325) t322.length co11) t322) ∧ Aside0 (w'.heap[gb319]? = some (.cells #[.int .i64 x320000_2, .int .i64 x320001_2, .int .i64 x320002_2] 43 (0, 0))) ∧ Aside0 (w'.heap[gb326]? = some (.cells #[.string ((rd_T57 t322 x23_1).f0), .int .i64 ((rd_T57 t322 x23_1).f1), .int .i64 ((rd_T57 t322 x23_1).f2), .string ((rd_T57 t322 x23_1).f3)] 57 (0, 0))) ∧ Aside0 (Below w.heap.size w w'))
                case atStart => exact ⟨(x5_1), (0), (x320000_1), (x320001_1), (x320002_1), fg, fg, H', ⟨Nat.le_refl _⟩, ⟨Kd.R_mono (rf (Kd.R_mono HO_21.out (fun k_ hk => (⟨hk, hk.2⟩ : _ ∧ k_ ≠ gb326)))) (fun _ hk => hk.1.2)⟩, ⟨ks BK319⟩, ⟨kp BK326⟩, ⟨bs HB⟩⟩
                case round =>
                  clear H'
                  try clear c1
                  try clear p2
                  try clear p3
                  try clear q3
                  try clear hx3
                  try clear c4
                  try clear c5
                  try clear c8
                  try clear c12
                  try clear c12b0
                  try clear c13
                  try clear c13b0
                  try clear c14
                  try clear c14b0
                  try clear c16
                  try clear hcz17_0
                  try clear hcz17_1
                  try clear hcz17_2
                  try clear hcz17_3
                  try clear hcz6_0
                  try clear hcz6_1
                  try clear hcz6_2
                  try clear hfz17_0
                  try clear hfz17_1
                  try clear hfz17_2
                  try clear hfz17_3
                  try clear hfz6_0
                  try clear hfz6_1
                  try clear hfz6_2
                  try clear hx325_0
                  try clear hx325_1
                  try clear hx325_2
                  try clear hx325_3
                  try clear p2
                  try clear p325
                  try clear q325
                  obtain ⟨x5_2, x9_2, x320000_2, x320001_2, x320002_2, rfl, rfl, HA, HK2, HO_21, BK319, BK326, HB⟩ := hrel
                  cases gk with
                  | zero => exact absurd HA.out (by simp [impl_TableCheck.l1])
                  | succ k2 =>
                    have H := HA.out; clear HA; simp only [impl_TableCheck.l1] at H; have HC18 := Aside0.mk H; clear H
                    go_upto_region 10 with (fail)
                    go_cut [46] (fun v46 wc => ∃ (kq : Nat) (x46_17 : Bool), v46 = .bool x46_17 ∧ Aside0 (impl_TableCheck.j2 kq l1 x5_2 x9_2 t322 (t322.length : Int) x23_1 x46_17 ((rd_T57 t322 x23_1).f0) ((rd_T57 t322 x23_1).f1) ((rd_T57 t322 x23_1).f2) ((rd_T57 t322 x23_1).f3) = some (r1, r2, r3)) ∧ Aside0 (kq ≤ k2) ∧ Aside0 (Kd.R k57 57 wc w.heap.size (fun k_ => k_ ≠ gb326) (.slice (some ad325) t322.length co11) t322) ∧ Aside0 (wc.heap[gb319]? = some (.cells #[.int .i64 x320000_2, .int .i64 x320001_2, .int .i64 x320002_2] 43 (0, 0))) ∧ Aside0 (wc.heap[gb326]? = some (.cells #[.string ((rd_T57 t322 x23_1).f0), .int .i64 ((rd_T57 t322 x23_1).f1), .int .i64 ((rd_T57 t322 x23_1).f2), .string ((rd_T57 t322 x23_1).f3)] 57 (0, 0))) ∧ Aside0 (Below w.heap.size w wc))
                    case first =>
                      have H := HC18.out; clear HC18
                      by_cases c19 : x9_2 < ((rd_T57 t322 x23_1).f2)
                      · rw [if_pos c19] at H; have c19b0 : decide (x9_2 < ((rd_T57 t322 x23_1).f2)) = true := decide_eq_true c19; clear c19
                        (first | rw [c19b0] | (simp only [i64_w, i32_w]; rw [c19b0]) | skip)
                        by_cases c20 : x5_2 < (l1.length : Int)
                        · rw [if_pos c20] at H; have c20b0 : decide (x5_2 < (l1.length : Int)) = true := decide_eq_true c20; clear c20
                          by_cases c21 : 0 ≤ x5_2
                          · rw [if_pos c21] at H; have c21b0 : decide (0 ≤ x5_2) = true := decide_eq_true c21; clear c21; have H' := Aside0.mk H; clear H
                            try go_wp2
                            replace HO_21 := Aside0.mk (Kd.R_drew HO_21.out); replace BK319 := Aside0.mk (blk_drew BK319.out); replace BK326 := Aside0.mk (blk_drew BK326.out); replace HB := Aside0.mk (below_drew1 HB.out); have p327 : 0 ≤ (x5_2 : Int) := oa; have q327 : x5_2 < (l1.length : Int) := oa; obtain ⟨ad327, A327_1, c327_1, e327, hx327_0, hx327_1, hl327_1, hi327_1⟩ := at_T36 HR1.out x5_2 p327 q327; have hw327_1 := hx327_1; have hw327_0 := hx327_0
                            cases e327
                            replace hx327_0 := cb HB hx327_0; replace hx327_1 := cb HB hx327_1; have HR327_1 := Aside0.mk hi327_1; have HC327_1 := Aside0.mk hl327_1; clear hi327_1 hl327_1; replace p327 := eq_true p327; replace q327 := eq_true q327; refine start_ (n := 20) (S := fun w' => w'.cell? ⟨gb326, 0, none⟩ = some (.string ((rd_T57 t322 x23_1).f0)) ∧ w'.cell? ⟨gb326, 1, none⟩ = some (.int .i64 ((rd_T57 t322 x23_1).f1)) ∧ w'.cell? ⟨gb326, 2, none⟩ = some (.int .i64 ((rd_T57 t322 x23_1).f2)) ∧ w'.cell? ⟨gb326, 3, none⟩ = some (.string ((rd_T57 t322 x23_1).f3)) ∧ w'.cell? (ad327.add ((x5_2).toNat * 2)) = some (.string ((rd_T36 l1 x5_2).f0)) ∧ w'.cell? ⟨(ad327.add ((x5_2).toNat * 2)).block, (ad327.add ((x5_2).toNat * 2)).off + 1, none⟩ = some (.slice A327_1 ((rd_T36 l1 x5_2).f1).length c327_1)) (ds := []) #[false, false, false, false, false, false, false, false, false, false, false, false, false, false, false, false, false, false, false, false] (by kernel_rfl) rfl rfl ⟨(blk_cell BK326.out 0).trans rfl, (blk_cell BK326.out 1).trans rfl, (blk_cell BK326.out 2).trans rfl, (blk_cell BK326.out 3).trans rfl, ((cb HB hw327_0).trans rfl), ((cb HB hw327_1).trans rfl)⟩ (fun hHeld => ?_); refine with_tabW impl_TableCheck.tab10 impl_TableCheck.bits10 (fun HT_ HW_ => ?_)
                            generalize wr.drew = w22 at HO_21 BK319 BK326 HB HR327_1 hx327_0 hx327_1 hHeld ⊢
                            refine pA 0 27 HT_ ?_; refine pA 1 28 HT_ ?_; refine tA 2 29 HT_ HW_ hHeld ?_; refine pA 3 30 HT_ ?_; refine pA 4 31 HT_ ?_; refine pA 5 32 HT_ ?_; refine pA 6 33 HT_ ?_; refine pA 7 34 HT_ ?_; refine pA 8 35 HT_ ?_; refine pA 9 36 HT_ ?_; refine pA 10 37 HT_ ?_; refine pA 11 38 HT_ ?_; refine pA 12 39 HT_ ?_; refine pA 13 40 HT_ ?_; refine pA 14 41 HT_ ?_; refine pA 16 43 HT_ ?_; refine tA 15 42 HT_ HW_ hHeld ?_; refine tA 17 44 HT_ HW_ hHeld ?_; refine pA 18 45 HT_ ?_; refine pA 19 46 HT_ ?_; refine done_ (done_of HT_.out (by kernel_rfl)) ?_
                            try go_wp2
                            go_meet
                            case rel => exact ⟨_, ((((rd_T36 l1 x5_2).f0).toList == ((rd_T57 t322 x23_1).f0).toList)), fg, H', ⟨by have := HK1.out; have := HK2.out; first | omega | exact Nat.le_refl _⟩, ⟨by (with_reducible repeat (first | apply Kd.R_alloc | apply Kd.R_drewN | apply Kd.R_drew)); exact HO_21.out⟩, ⟨ks BK319⟩, ⟨ks BK326⟩, ⟨bs HB⟩⟩
                          · rw [if_neg c21] at H
                            exact absurd H (by simp)
                        · rw [if_neg c20] at H; have c20b0 : decide (x5_2 < (l1.length : Int)) = false := decide_eq_false c20; clear c20; have H' := Aside0.mk H; clear H
                          try go_wp2
                          replace HO_21 := Aside0.mk (Kd.R_drew HO_21.out); replace BK319 := Aside0.mk (blk_drew BK319.out); replace BK326 := Aside0.mk (blk_drew BK326.out); replace HB := Aside0.mk (below_drew1 HB.out); refine start_ (n := 20) (S := fun w' => w'.cell? ⟨gb326, 0, none⟩ = some (.string ((rd_T57 t322 x23_1).f0)) ∧ w'.cell? ⟨gb326, 1, none⟩ = some (.int .i64 ((rd_T57 t322 x23_1).f1)) ∧ w'.cell? ⟨gb326, 2, none⟩ = some (.int .i64 ((rd_T57 t322 x23_1).f2)) ∧ w'.cell? ⟨gb326, 3, none⟩ = some (.string ((rd_T57 t322 x23_1).f3))) (ds := []) #[false, false, false, false, false, false, false, false, false, false, false, false, false, false, false, false, false, false, false, false] (by kernel_rfl) rfl rfl ⟨(blk_cell BK326.out 0).trans rfl, (blk_cell BK326.out 1).trans rfl, (blk_cell BK326.out 2).trans rfl, (blk_cell BK326.out 3).trans rfl⟩ (fun hHeld => ?_); refine with_tabW impl_TableCheck.tab10 impl_TableCheck.bits10 (fun HT_ HW_ => ?_)
                          generalize wr.drew = w23 at HO_21 BK319 BK326 HB hHeld ⊢
                          refine pA 0 27 HT_ ?_; refine pA 1 28 HT_ ?_; refine tA 2 29 HT_ HW_ hHeld ?_; refine pA 3 30 HT_ ?_; refine pA 4 31 HT_ ?_; refine pA 5 32 HT_ ?_; refine pA 6 33 HT_ ?_; refine pA 7 34 HT_ ?_; refine pA 8 35 HT_ ?_; refine pA 9 36 HT_ ?_; refine pA 10 37 HT_ ?_; refine pB 11 38 HT_ ?_; refine pB 12 39 HT_ ?_; refine pB 13 40 HT_ ?_; refine pB 14 41 HT_ ?_; refine pB 15 42 HT_ ?_; refine pB 16 43 HT_ ?_; refine pB 17 44 HT_ ?_; refine pB 18 45 HT_ ?_; refine pA 19 46 HT_ ?_; refine done_ (done_of HT_.out (by kernel_rfl)) ?_
                          try go_wp2
                          go_meet
                          case rel => exact ⟨_, (false), fg, H', ⟨by have := HK1.out; have := HK2.out; first | omega | exact Nat.le_refl _⟩, ⟨by (with_reducible repeat (first | apply Kd.R_alloc | apply Kd.R_drewN | apply Kd.R_drew)); exact HO_21.out⟩, ⟨ks BK319⟩, ⟨ks BK326⟩, ⟨bs HB⟩⟩
                      · rw [if_neg c19] at H; have c19b0 : decide (x9_2 < ((rd_T57 t322 x23_1).f2)) = false := decide_eq_false c19; clear c19
                        (first | rw [c19b0] | (simp only [i64_w, i32_w]; rw [c19b0]) | skip)
                        have H' := Aside0.mk H; clear H
                        try go_wp2
                        replace HO_21 := Aside0.mk (Kd.R_drew HO_21.out); replace BK319 := Aside0.mk (blk_drew BK319.out); replace BK326 := Aside0.mk (blk_drew BK326.out); replace HB := Aside0.mk (below_drew1 HB.out); refine start_ (n := 20) (S := fun w' => w'.cell? ⟨gb326, 0, none⟩ = some (.string ((rd_T57 t322 x23_1).f0)) ∧ w'.cell? ⟨gb326, 1, none⟩ = some (.int .i64 ((rd_T57 t322 x23_1).f1)) ∧ w'.cell? ⟨gb326, 2, none⟩ = some (.int .i64 ((rd_T57 t322 x23_1).f2)) ∧ w'.cell? ⟨gb326, 3, none⟩ = some (.string ((rd_T57 t322 x23_1).f3))) (ds := []) #[false, false, false, false, false, false, false, false, false, false, false, false, false, false, false, false, false, false, false, false] (by kernel_rfl) rfl rfl ⟨(blk_cell BK326.out 0).trans rfl, (blk_cell BK326.out 1).trans rfl, (blk_cell BK326.out 2).trans rfl, (blk_cell BK326.out 3).trans rfl⟩ (fun hHeld => ?_); refine with_tabW impl_TableCheck.tab10 impl_TableCheck.bits10 (fun HT_ HW_ => ?_)
                        generalize wr.drew = w24 at HO_21 BK319 BK326 HB hHeld ⊢
                        refine pA 0 27 HT_ ?_; refine pA 1 28 HT_ ?_; refine tA 2 29 HT_ HW_ hHeld ?_; refine pA 3 30 HT_ ?_; refine pA 4 31 HT_ ?_; refine pB 5 32 HT_ ?_; refine pB 6 33 HT_ ?_; refine pB 7 34 HT_ ?_; refine pB 8 35 HT_ ?_; refine pA 9 36 HT_ ?_; refine pA 10 37 HT_ ?_; refine pB 11 38 HT_ ?_; refine pB 12 39 HT_ ?_; refine pB 13 40 HT_ ?_; refine pB 14 41 HT_ ?_; refine pB 15 42 HT_ ?_; refine pB 16 43 HT_ ?_; refine pB 17 44 HT_ ?_; refine pB 18 45 HT_ ?_; refine pA 19 46 HT_ ?_; refine done_ (done_of HT_.out (by kernel_rfl)) ?_
                        try go_wp2
                        go_meet
                        case rel => exact ⟨_, (false), fg, H', ⟨by have := HK1.out; have := HK2.out; first | omega | exact Nat.le_refl _⟩, ⟨by (with_reducible repeat (first | apply Kd.R_alloc | apply Kd.R_drewN | apply Kd.R_drew)); exact HO_21.out⟩, ⟨ks BK319⟩, ⟨ks BK326⟩, ⟨bs HB⟩⟩
                    case rest =>
                      clear HC18
                      try clear c1
                      try clear c2
                      try clear p2
                      try clear c3
                      try clear p3
                      try clear q3
                      try clear hx3
                      try clear c4
                      try clear c5
                      try clear c8
                      try clear c12
                      try clear c12b0
                      try clear c13
                      try clear c13b0
                      try clear c14
                      try clear c14b0
                      try clear c16
                      try clear c19
                      try clear c19b0
                      try clear c20
                      try clear c20b0
                      try clear c21
                      try clear c21b0
                      try clear hcz17_0
                      try clear hcz17_1
                      try clear hcz17_2
                      try clear hcz17_3
                      try clear hcz6_0
                      try clear hcz6_1
                      try clear hcz6_2
                      try clear hfz17_0
                      try clear hfz17_1
                      try clear hfz17_2
                      try clear hfz17_3
                      try clear hfz6_0
                      try clear hfz6_1
                      try clear hfz6_2
                      try clear hx325_0
                      try clear hx325_1
                      try clear hx325_2
                      try clear hx325_3
                      try clear hx327_0
                      try clear hx327_1
                      try clear p2
                      try clear p3
                      try clear p325
                      try clear p327
                      try clear q3
                      try clear q325
                      try clear q327
                      obtain ⟨kq, x46_17, rfl, HA, HJ17, HO_21, BK319, BK326, HB⟩ := hcut
                      cases kq with
                      | zero => exact absurd HA.out (by simp [impl_TableCheck.j2])
                      | succ kj17 =>
                        have H := HA.out; clear HA; simp only [impl_TableCheck.j2] at H
                        by_cases c25 : x46_17 = true
                        · subst c25
                          have H1 : (if 0 ≤ x5_2 then (if x5_2 < (l1.length : Int) then ((impl_FormRight.f kj17 ((rd_T57 t322 x23_1).f3) ((rd_T36 l1 x5_2).f0) ((rd_T36 l1 x5_2).f1)).bind fun t329 => (if t329 ≥ 0 then (some (x5_2, t329, 3)) else (impl_TableCheck.l1 kj17 l1 (wrap64 (x5_2 + 1)) (wrap64 (x9_2 + 1)) t322 (t322.length : Int) x23_1 ((rd_T57 t322 x23_1).f0) ((rd_T57 t322 x23_1).f1) ((rd_T57 t322 x23_1).f2) ((rd_T57 t322 x23_1).f3)))) else (none)) else (none)) = some (r1, r2, r3) := by rw [if_pos rfl] at H; exact H
                          clear H; have H := H1; clear H1
                          by_cases c26 : 0 ≤ x5_2
                          · rw [if_pos c26] at H; have c26b0 : decide (0 ≤ x5_2) = true := decide_eq_true c26; clear c26
                            by_cases c27 : x5_2 < (l1.length : Int)
                            · rw [if_pos c27] at H; have c27b0 : decide (x5_2 < (l1.length : Int)) = true := decide_eq_true c27; clear c27; replace H := Option.bind_eq_some_iff.mp H; obtain ⟨t329, A280, H⟩ := H; replace H : (if t329 ≥ 0 then (some (x5_2, t329, 3)) else (impl_TableCheck.l1 kj17 l1 (wrap64 (x5_2 + 1)) (wrap64 (x9_2 + 1)) t322 (t322.length : Int) x23_1 ((rd_T57 t322 x23_1).f0) ((rd_T57 t322 x23_1).f1) ((rd_T57 t322 x23_1).f2) ((rd_T57 t322 x23_1).f3))) = some (r1, r2, r3) := H; have A28 := Aside0.mk A280; clear A280
                              by_cases c29 : t329 ≥ 0
                              · rw [if_pos c29] at H; have c29b0 : decide (0 ≤ t329) = true := decide_eq_true c29; clear c29; simp only [Option.some.injEq, Prod.mk.injEq] at H; obtain ⟨rfl, rfl, rfl⟩ := H
                                try go_wp2
                                replace HO_21 := Aside0.mk (Kd.R_drew HO_21.out); replace BK319 := Aside0.mk (blk_drew BK319.out); replace BK326 := Aside0.mk (blk_drew BK326.out); replace HB := Aside0.mk (below_drew1 HB.out); have p328 : 0 ≤ (x5_2 : Int) := oa; have q328 : x5_2 < (l1.length : Int) := oa; obtain ⟨ad328, A328_1, c328_1, e328, hx328_0, hx328_1, hl328_1, hi328_1⟩ := at_T36 HR1.out x5_2 p328 q328; have hw328_1 := hx328_1; have hw328_0 := hx328_0
                                cases e328
                                replace hx328_0 := cb HB hx328_0; replace hx328_1 := cb HB hx328_1; have HR328_1 := Aside0.mk hi328_1; have HC328_1 := Aside0.mk hl328_1; clear hi328_1 hl328_1; replace p328 := eq_true p328; replace q328 := eq_true q328; refine start_ (n := 8) (S := fun w' => w'.cell? ⟨gb326, 0, none⟩ = some (.string ((rd_T57 t322 x23_1).f0)) ∧ w'.cell? ⟨gb326, 1, none⟩ = some (.int .i64 ((rd_T57 t322 x23_1).f1)) ∧ w'.cell? ⟨gb326, 2, none⟩ = some (.int .i64 ((rd_T57 t322 x23_1).f2)) ∧ w'.cell? ⟨gb326, 3, none⟩ = some (.string ((rd_T57 t322 x23_1).f3)) ∧ w'.cell? (ad328.add ((x5_2).toNat * 2)) = some (.string ((rd_T36 l1 x5_2).f0)) ∧ w'.cell? ⟨(ad328.add ((x5_2).toNat * 2)).block, (ad328.add ((x5_2).toNat * 2)).off + 1, none⟩ = some (.slice A328_1 ((rd_T36 l1 x5_2).f1).length c328_1)) (ds := []) #[false, false, false, false, false, false, false, false] (by kernel_rfl) rfl rfl ⟨(blk_cell BK326.out 0).trans rfl, (blk_cell BK326.out 1).trans rfl, (blk_cell BK326.out 2).trans rfl, (blk_cell BK326.out 3).trans rfl, ((cb HB hw328_0).trans rfl), ((cb HB hw328_1).trans rfl)⟩ (fun hHeld => ?_); refine with_tabW impl_TableCheck.tab12 impl_TableCheck.bits12 (fun HT_ HW_ => ?_)
                                generalize wc.drew = w30 at HO_21 BK319 BK326 HB HR328_1 hx328_0 hx328_1 hHeld ⊢
                                refine pA 0 49 HT_ ?_; refine pA 2 51 HT_ ?_; refine pA 3 52 HT_ ?_; refine pA 4 53 HT_ ?_; refine tA 1 50 HT_ HW_ hHeld ?_; refine tA 5 54 HT_ HW_ hHeld ?_; refine oA 6 55 HT_ (fun K hK => ?_); refine gA Tryd.func14 #[.string ((rd_T57 t322 x23_1).f3), .agg #[.string ((rd_T36 l1 x5_2).f0), .slice A328_1 ((rd_T36 l1 x5_2).f1).length c328_1]] ?_; (with_reducible refine (impl_FormRight.calls kj17 ((rd_T57 t322 x23_1).f3) ((rd_T36 l1 x5_2).f0) _ _ ((rd_T36 l1 x5_2).f1) t329 _ ?side1 ?side2 (tbC HTC (bs HB)) (tbP HTP (bs HB)) A28.out).mono ?_)
                                (case side1 => repeat (first | exact (Kd.C_below HR328_1.out HB.out) | (with_reducible refine Kd.C_alloc ?_ _) | (with_reducible refine Kd.C_drewN ?_ _) | (with_reducible refine Kd.C_drew ?_)))
                                (case side2 => exact HC328_1.out)
                                rintro e w31 ⟨rfl, hb⟩; refine ⟨_, rfl, ?_⟩; replace HO_21 := Aside0.mk (Kd.R_below (rs HO_21) hb); replace BK319 := Aside0.mk (blk_below (ks BK319) hb); replace BK326 := Aside0.mk (blk_below (ks BK326) hb); replace HB := Aside0.mk (below_step (bs HB) hb); (try clear hb); (try clear hb2); (try clear hk); (try clear hi); refine hK.out _ _ ⟨(blk_cell BK326.out 0).trans rfl, (blk_cell BK326.out 1).trans rfl, (blk_cell BK326.out 2).trans rfl, (blk_cell BK326.out 3).trans rfl, ((cb HB hw328_0).trans rfl), ((cb HB hw328_1).trans rfl)⟩ (fun hHeld => ?_); clear hK K; refine nA 55 ?_; refine pA 7 10 HT_ ?_; refine done_ (done_of HT_.out (by kernel_rfl)) ?_; have hnb32 := NB319_326.out; have hnc32 := NB326_319.out; obtain ⟨hcz33_0, hcz33_1, hcz33_2, hfz33_0, hfz33_1, hfz33_2⟩ := cf3 BK319
                                try go_wp2
                                refine bodyPost_ret (results_cell_row rfl _ _ gb319 43 #[.int .i64 x5_2, .int .i64 t329, .int .i64 3] (0, 0) _ rfl (kp BK319) Tryd.underlying43 rfl (by kernel_rfl)) rfl ?_
                                exact ⟨ff, bs HB⟩
                              · rw [if_neg c29] at H; have c29b0 : decide (0 ≤ t329) = false := decide_eq_false c29; clear c29; have H' := Aside0.mk H; clear H
                                try go_wp2
                                replace HO_21 := Aside0.mk (Kd.R_drew HO_21.out); replace BK319 := Aside0.mk (blk_drew BK319.out); replace BK326 := Aside0.mk (blk_drew BK326.out); replace HB := Aside0.mk (below_drew1 HB.out); have p328 : 0 ≤ (x5_2 : Int) := oa; have q328 : x5_2 < (l1.length : Int) := oa; obtain ⟨ad328, A328_1, c328_1, e328, hx328_0, hx328_1, hl328_1, hi328_1⟩ := at_T36 HR1.out x5_2 p328 q328; have hw328_1 := hx328_1; have hw328_0 := hx328_0
                                cases e328
                                replace hx328_0 := cb HB hx328_0; replace hx328_1 := cb HB hx328_1; have HR328_1 := Aside0.mk hi328_1; have HC328_1 := Aside0.mk hl328_1; clear hi328_1 hl328_1; replace p328 := eq_true p328; replace q328 := eq_true q328; refine start_ (n := 8) (S := fun w' => w'.cell? ⟨gb326, 0, none⟩ = some (.string ((rd_T57 t322 x23_1).f0)) ∧ w'.cell? ⟨gb326, 1, none⟩ = some (.int .i64 ((rd_T57 t322 x23_1).f1)) ∧ w'.cell? ⟨gb326, 2, none⟩ = some (.int .i64 ((rd_T57 t322 x23_1).f2)) ∧ w'.cell? ⟨gb326, 3, none⟩ = some (.string ((rd_T57 t322 x23_1).f3)) ∧ w'.cell? (ad328.add ((x5_2).toNat * 2)) = some (.string ((rd_T36 l1 x5_2).f0)) ∧ w'.cell? ⟨(ad328.add ((x5_2).toNat * 2)).block, (ad328.add ((x5_2).toNat * 2)).off + 1, none⟩ = some (.slice A328_1 ((rd_T36 l1 x5_2).f1).length c328_1)) (ds := []) #[false, false, false, false, false, false, false, false] (by kernel_rfl) rfl rfl ⟨(blk_cell BK326.out 0).trans rfl, (blk_cell BK326.out 1).trans rfl, (blk_cell BK326.out 2).trans rfl, (blk_cell BK326.out 3).trans rfl, ((cb HB hw328_0).trans rfl), ((cb HB hw328_1).trans rfl)⟩ (fun hHeld => ?_); refine with_tabW impl_TableCheck.tab12 impl_TableCheck.bits12 (fun HT_ HW_ => ?_)
                                generalize wc.drew = w34 at HO_21 BK319 BK326 HB HR328_1 hx328_0 hx328_1 hHeld ⊢
                                refine pA 0 49 HT_ ?_; refine pA 2 51 HT_ ?_; refine pA 3 52 HT_ ?_; refine pA 4 53 HT_ ?_; refine tA 1 50 HT_ HW_ hHeld ?_; refine tA 5 54 HT_ HW_ hHeld ?_; refine oA 6 55 HT_ (fun K hK => ?_); refine gA Tryd.func14 #[.string ((rd_T57 t322 x23_1).f3), .agg #[.string ((rd_T36 l1 x5_2).f0), .slice A328_1 ((rd_T36 l1 x5_2).f1).length c328_1]] ?_; (with_reducible refine (impl_FormRight.calls kj17 ((rd_T57 t322 x23_1).f3) ((rd_T36 l1 x5_2).f0) _ _ ((rd_T36 l1 x5_2).f1) t329 _ ?side1 ?side2 (tbC HTC (bs HB)) (tbP HTP (bs HB)) A28.out).mono ?_)
                                (case side1 => repeat (first | exact (Kd.C_below HR328_1.out HB.out) | (with_reducible refine Kd.C_alloc ?_ _) | (with_reducible refine Kd.C_drewN ?_ _) | (with_reducible refine Kd.C_drew ?_)))
                                (case side2 => exact HC328_1.out)
                                rintro e w35 ⟨rfl, hb⟩; refine ⟨_, rfl, ?_⟩; replace HO_21 := Aside0.mk (Kd.R_below (rs HO_21) hb); replace BK319 := Aside0.mk (blk_below (ks BK319) hb); replace BK326 := Aside0.mk (blk_below (ks BK326) hb); replace HB := Aside0.mk (below_step (bs HB) hb); (try clear hb); (try clear hb2); (try clear hk); (try clear hi); refine hK.out _ _ ⟨(blk_cell BK326.out 0).trans rfl, (blk_cell BK326.out 1).trans rfl, (blk_cell BK326.out 2).trans rfl, (blk_cell BK326.out 3).trans rfl, ((cb HB hw328_0).trans rfl), ((cb HB hw328_1).trans rfl)⟩ (fun hHeld => ?_); clear hK K; refine nA 55 ?_; refine pA 7 10 HT_ ?_; refine done_ (done_of HT_.out (by kernel_rfl)) ?_
                                try go_wp2
                                go_roundg kj17
                                case measure => have := HK1.out; have := HK2.out; have := HJ17.out; omega
                                case rel => exact ⟨(wrap64 (x5_2 + 1)), (wrap64 (x9_2 + 1)), (x320000_2), (x320001_2), (x320002_2), fg, fg, H', ⟨by have := HK1.out; have := HK2.out; have := HJ17.out; omega⟩, ⟨by (with_reducible repeat (first | apply Kd.R_alloc | apply Kd.R_drewN | apply Kd.R_drew)); exact HO_21.out⟩, ⟨ks BK319⟩, ⟨ks BK326⟩, ⟨bs HB⟩⟩
                            · rw [if_neg c27] at H
                              exact absurd H (by simp)
                          · rw [if_neg c26] at H
                            exact absurd H (by simp)
                        · replace c25 := Bool.eq_false_iff.mpr c25; subst c25
                          have H1 : (if x9_2 < ((rd_T57 t322 x23_1).f1) then (some (x5_2, 0, 4)) else (impl_TableCheck.l0 kj17 l1 x5_2 ((rd_T57 t322 x23_1).f0) t322 (t322.length : Int) (wrap64 (x23_1 + 1)))) = some (r1, r2, r3) := by rw [if_neg (show ¬ (false = true) by decide)] at H; exact H
                          clear H; have H := H1; clear H1
                          by_cases c36 : x9_2 < ((rd_T57 t322 x23_1).f1)
                          · rw [if_pos c36] at H; have c36b0 : decide (x9_2 < ((rd_T57 t322 x23_1).f1)) = true := decide_eq_true c36; clear c36; simp only [Option.some.injEq, Prod.mk.injEq] at H; obtain ⟨rfl, rfl, rfl⟩ := H; have hnb37 := NB326_319.out; have hnc37 := NB319_326.out; obtain ⟨hcz38_0, hcz38_1, hcz38_2, hcz38_3, hfz38_0, hfz38_1, hfz38_2, hfz38_3⟩ := cf4 BK326; obtain ⟨hcz39_0, hcz39_1, hcz39_2, hfz39_0, hfz39_1, hfz39_2⟩ := cf3 BK319
                            go_wp2
                            refine bodyPost_ret (results_cell_row rfl _ _ gb319 43 #[.int .i64 x5_2, .int .i64 0, .int .i64 4] (0, 0) _ rfl (kp BK319) Tryd.underlying43 rfl (by kernel_rfl)) rfl ?_
                            exact ⟨ff, bs HB⟩
                          · rw [if_neg c36] at H; have c36b0 : decide (x9_2 < ((rd_T57 t322 x23_1).f1)) = false := decide_eq_false c36; clear c36; have H' := Aside0.mk H; clear H; have hnb40 := NB326_319.out; have hnc40 := NB319_326.out; obtain ⟨hcz41_0, hcz41_1, hcz41_2, hcz41_3, hfz41_0, hfz41_1, hfz41_2, hfz41_3⟩ := cf4 BK326
                            go_wp2
                            go_roundg kj17
                            case measure => have := HK1.out; have := HK2.out; have := HJ17.out; omega
                            case rel => exact ⟨(x5_2), (((rd_T57 t322 x23_1).f0)), (wrap64 (x23_1 + 1)), (x320000_2), (x320001_2), (x320002_2), fg, fg, fg, H', ⟨by have := HK1.out; have := HK2.out; have := HJ17.out; omega⟩, ⟨by (with_reducible repeat (first | apply Kd.R_alloc | apply Kd.R_drewN | apply Kd.R_drew)); exact Kd.R_mono HO_21.out (fun _ hk => trivial)⟩, ⟨ks BK319⟩, ⟨bs HB⟩⟩
              · rw [if_neg c14] at H
                exact absurd H (by simp)
            · rw [if_neg c13] at H
              exact absurd H (by simp)
          · rw [if_neg c12] at H; have c12b0 : decide (x23_1 < (t322.length : Int)) = false := decide_eq_false c12; clear c12
            by_cases c42 : x5_1 = (l1.length : Int)
            · rw [if_pos c42] at H; have c42b0 : (x5_1 == (l1.length : Int)) = true := beq_iff_eq.mpr c42; have c42b1 : (x5_1 != (l1.length : Int)) = false := bne_eq_false_iff_eq.mpr c42; clear c42; simp only [Option.some.injEq, Prod.mk.injEq] at H; obtain ⟨rfl, rfl, rfl⟩ := H; obtain ⟨hcz43_0, hcz43_1, hcz43_2, hfz43_0, hfz43_1, hfz43_2⟩ := cf3 BK319
              go_wp2
              refine bodyPost_ret (results_cell_row rfl _ _ gb319 43 #[.int .i64 0, .int .i64 0, .int .i64 0] (0, 0) _ rfl (kp BK319) Tryd.underlying43 rfl (by kernel_rfl)) rfl ?_
              exact ⟨ff, bs HB⟩
            · rw [if_neg c42] at H; have c42b0 : (x5_1 == (l1.length : Int)) = false := beq_eq_false_iff_ne.mpr c42; have c42b1 : (x5_1 != (l1.length : Int)) = true := bne_iff_ne.mpr c42
              by_cases c44 : 0 ≤ x5_1
              · rw [if_pos c44] at H; have c44b0 : decide (0 ≤ x5_1) = true := decide_eq_true c44; clear c44
                by_cases c45 : x5_1 < (l1.length : Int)
                · rw [if_pos c45] at H; have c45b0 : decide (x5_1 < (l1.length : Int)) = true := decide_eq_true c45; clear c45
                  by_cases c46 : ((rd_T36 l1 x5_1).f0).toList = x6_1.toList
                  · rw [if_pos c46] at H; have c46b0 : (((rd_T36 l1 x5_1).f0).toList == x6_1.toList) = true := beq_iff_eq.mpr c46; have c46b1 : (((rd_T36 l1 x5_1).f0).toList != x6_1.toList) = false := bne_eq_false_iff_eq.mpr c46; clear c46; simp only [Option.some.injEq, Prod.mk.injEq] at H; obtain ⟨rfl, rfl, rfl⟩ := H; have p330 : 0 ≤ (x5_1 : Int) := oa; have q330 : x5_1 < (l1.length : Int) := oa; obtain ⟨ad330, A330_1, c330_1, e330, hx330_0, hx330_1, hl330_1, hi330_1⟩ := at_T36 HR1.out x5_1 p330 q330
                    cases e330
                    replace hx330_0 := cb HB hx330_0; replace hx330_1 := cb HB hx330_1; have HR330_1 := Aside0.mk hi330_1; have HC330_1 := Aside0.mk hl330_1; clear hi330_1 hl330_1; replace p330 := eq_true p330; replace q330 := eq_true q330; obtain ⟨hcz47_0, hcz47_1, hcz47_2, hfz47_0, hfz47_1, hfz47_2⟩ := cf3 BK319
                    go_wp2
                    refine bodyPost_ret (results_cell_row rfl _ _ gb319 43 #[.int .i64 x5_1, .int .i64 0, .int .i64 7] (0, 0) _ rfl (kp BK319) Tryd.underlying43 rfl (by kernel_rfl)) rfl ?_
                    exact ⟨ff, bs HB⟩
                  · rw [if_neg c46] at H; have c46b0 : (((rd_T36 l1 x5_1).f0).toList == x6_1.toList) = false := beq_eq_false_iff_ne.mpr c46; have c46b1 : (((rd_T36 l1 x5_1).f0).toList != x6_1.toList) = true := bne_iff_ne.mpr c46; simp only [Option.some.injEq, Prod.mk.injEq] at H; obtain ⟨rfl, rfl, rfl⟩ := H; have p330 : 0 ≤ (x5_1 : Int) := oa; have q330 : x5_1 < (l1.length : Int) := oa; obtain ⟨ad330, A330_1, c330_1, e330, hx330_0, hx330_1, hl330_1, hi330_1⟩ := at_T36 HR1.out x5_1 p330 q330
                    cases e330
                    replace hx330_0 := cb HB hx330_0; replace hx330_1 := cb HB hx330_1; have HR330_1 := Aside0.mk hi330_1; have HC330_1 := Aside0.mk hl330_1; clear hi330_1 hl330_1; replace p330 := eq_true p330; replace q330 := eq_true q330; obtain ⟨hcz48_0, hcz48_1, hcz48_2, hfz48_0, hfz48_1, hfz48_2⟩ := cf3 BK319
                    go_wp2
                    refine bodyPost_ret (results_cell_row rfl _ _ gb319 43 #[.int .i64 x5_1, .int .i64 0, .int .i64 3] (0, 0) _ rfl (kp BK319) Tryd.underlying43 rfl (by kernel_rfl)) rfl ?_
                    exact ⟨ff, bs HB⟩
                · rw [if_neg c45] at H
                  exact absurd H (by simp)
              · rw [if_neg c44] at H
                exact absurd H (by simp)
    · replace c8 := Bool.eq_false_iff.mpr c8; subst c8
      have H1 : (some (0, 0, 1)) = some (r1, r2, r3) := by rw [if_neg (show ¬ (false = true) by decide)] at H; exact H
      clear H; have H := H1; clear H1; simp only [Option.some.injEq, Prod.mk.injEq] at H; obtain ⟨rfl, rfl, rfl⟩ := H; obtain ⟨hcz49_0, hcz49_1, hcz49_2, hfz49_0, hfz49_1, hfz49_2⟩ := cf3 BK319
      go_wp2
      refine bodyPost_ret (results_cell_row rfl _ _ gb319 43 #[.int .i64 0, .int .i64 0, .int .i64 1] (0, 0) _ rfl (kp BK319) Tryd.underlying43 rfl (by kernel_rfl)) rfl ?_
      exact ⟨ff, bs HB⟩
end Go.Proofs.YtjbdljhjplidmaaDoor.QF
namespace Go.Proofs.YtjbdljhjplidmaaDoor.QF
open Go.RowKit Go.Proofs.YtjbdljhjplidmaaDoorW.PrintWords Go.Proofs.YtjbdljhjplidmaaDoorW.PrintLast Go.Proofs.YtjbdljhjplidmaaDoorW.PrintMore
attribute [local go_sem] max2_int min2_int max_two min_two max_three min_three max_four min_four   -- for this text's walks alone
set_option linter.unusedVariables false
set_option linter.unusedSimpArgs false
set_option maxHeartbeats 8000000 in
set_option maxRecDepth 100000 in
theorem laws_eqTableOut.calls (a0_0 : Int) (a0_1 : Int) (a0_2 : Int) (a1_0 : Int) (a1_1 : Int) (a1_2 : Int) (r : Bool) (w : World) (h : laws_eqTableOut.f a0_0 a0_1 a0_2 a1_0 a1_1 a1_2 = some r) :
    Calls Tryd.prog 20 #[.agg #[.int .i64 a0_0, .int .i64 a0_1, .int .i64 a0_2], .agg #[.int .i64 a1_0, .int .i64 a1_1, .int .i64 a1_2]] w fun e w' => e = .returned (.bool r) ∧ Below w.heap.size w w' := by
  have hu43 := Tryd.underlying43; have HB := Aside0.mk (Below.refl w.heap.size w); have H : (if a0_0 = a1_0 then (if a0_1 = a1_1 then (if a0_2 = a1_2 then (some true) else (some false)) else (some false)) else (some false)) = some r := h; clear h
  by_cases c3 : a0_0 = a1_0
  · rw [if_pos c3] at H; have c3b0 : (a0_0 == a1_0) = true := beq_iff_eq.mpr c3; have c3b1 : (a0_0 != a1_0) = false := bne_eq_false_iff_eq.mpr c3; clear c3
    by_cases c4 : a0_1 = a1_1
    · rw [if_pos c4] at H; have c4b0 : (a0_1 == a1_1) = true := beq_iff_eq.mpr c4; have c4b1 : (a0_1 != a1_1) = false := bne_eq_false_iff_eq.mpr c4; clear c4
      by_cases c5 : a0_2 = a1_2
      · rw [if_pos c5] at H; have c5b0 : (a0_2 == a1_2) = true := beq_iff_eq.mpr c5; have c5b1 : (a0_2 != a1_2) = false := bne_eq_false_iff_eq.mpr c5; clear c5; obtain rfl := Option.some.inj H
        go_enter Tryd.func20, Tryd.ntmps20
        go_wp2_with (first | ((with_reducible refine gate_dst (N := 2) rfl ?_); refine bx 2 (cs := #[.int .i64 a0_0, .int .i64 a0_1, .int .i64 a0_2]) (t := 43) ?_; intro gb331 hg w6 hbox hb; have BK331 := Aside0.mk (hbox); have GW331 := Aside0.mk ((gs hg (bs HB))); have GE331 := Aside0.mk ((gs hg (bs HB))); replace HB := Aside0.mk (below_step (bs HB) hb); clear hb hbox hg) | ((with_reducible refine gate_dst (N := 3) rfl ?_); refine bx 3 (cs := #[.int .i64 a1_0, .int .i64 a1_1, .int .i64 a1_2]) (t := 43) ?_; intro gb332 hg w7 hbox hb; have BK332 := Aside0.mk (hbox); have GW332 := Aside0.mk ((gs hg (bs HB))); have GE332 := Aside0.mk ((gs hg (bs HB))); replace HB := Aside0.mk (below_step (bs HB) hb); have NB331_332 := Aside0.mk ((gn hg (ks BK331))); have NB332_331 := Aside0.mk ((gm hg (ks BK331))); replace BK331 := Aside0.mk (blk_below (ks BK331) hb); clear hb hbox hg; have hnb8 := NB331_332.out; have hnc8 := NB332_331.out; obtain ⟨hcz9_0, hcz9_1, hcz9_2, hfz9_0, hfz9_1, hfz9_2⟩ := cf3 BK331; obtain ⟨hcz10_0, hcz10_1, hcz10_2, hfz10_0, hfz10_1, hfz10_2⟩ := cf3 BK332))
        go_ret
        exact ⟨ff, bs HB⟩
      · rw [if_neg c5] at H; have c5b0 : (a0_2 == a1_2) = false := beq_eq_false_iff_ne.mpr c5; have c5b1 : (a0_2 != a1_2) = true := bne_iff_ne.mpr c5; obtain rfl := Option.some.inj H
        go_enter Tryd.func20, Tryd.ntmps20
        go_wp2_with (first | ((with_reducible refine gate_dst (N := 2) rfl ?_); refine bx 2 (cs := #[.int .i64 a0_0, .int .i64 a0_1, .int .i64 a0_2]) (t := 43) ?_; intro gb331 hg w11 hbox hb; have BK331 := Aside0.mk (hbox); have GW331 := Aside0.mk ((gs hg (bs HB))); have GE331 := Aside0.mk ((gs hg (bs HB))); replace HB := Aside0.mk (below_step (bs HB) hb); clear hb hbox hg) | ((with_reducible refine gate_dst (N := 3) rfl ?_); refine bx 3 (cs := #[.int .i64 a1_0, .int .i64 a1_1, .int .i64 a1_2]) (t := 43) ?_; intro gb332 hg w12 hbox hb; have BK332 := Aside0.mk (hbox); have GW332 := Aside0.mk ((gs hg (bs HB))); have GE332 := Aside0.mk ((gs hg (bs HB))); replace HB := Aside0.mk (below_step (bs HB) hb); have NB331_332 := Aside0.mk ((gn hg (ks BK331))); have NB332_331 := Aside0.mk ((gm hg (ks BK331))); replace BK331 := Aside0.mk (blk_below (ks BK331) hb); clear hb hbox hg; have hnb13 := NB331_332.out; have hnc13 := NB332_331.out; obtain ⟨hcz14_0, hcz14_1, hcz14_2, hfz14_0, hfz14_1, hfz14_2⟩ := cf3 BK331; obtain ⟨hcz15_0, hcz15_1, hcz15_2, hfz15_0, hfz15_1, hfz15_2⟩ := cf3 BK332))
        go_ret
        exact ⟨ff, bs HB⟩
    · rw [if_neg c4] at H; have c4b0 : (a0_1 == a1_1) = false := beq_eq_false_iff_ne.mpr c4; have c4b1 : (a0_1 != a1_1) = true := bne_iff_ne.mpr c4; obtain rfl := Option.some.inj H
      go_enter Tryd.func20, Tryd.ntmps20
      go_wp2_with (first | ((with_reducible refine gate_dst (N := 2) rfl ?_); refine bx 2 (cs := #[.int .i64 a0_0, .int .i64 a0_1, .int .i64 a0_2]) (t := 43) ?_; intro gb331 hg w16 hbox hb; have BK331 := Aside0.mk (hbox); have GW331 := Aside0.mk ((gs hg (bs HB))); have GE331 := Aside0.mk ((gs hg (bs HB))); replace HB := Aside0.mk (below_step (bs HB) hb); clear hb hbox hg) | ((with_reducible refine gate_dst (N := 3) rfl ?_); refine bx 3 (cs := #[.int .i64 a1_0, .int .i64 a1_1, .int .i64 a1_2]) (t := 43) ?_; intro gb332 hg w17 hbox hb; have BK332 := Aside0.mk (hbox); have GW332 := Aside0.mk ((gs hg (bs HB))); have GE332 := Aside0.mk ((gs hg (bs HB))); replace HB := Aside0.mk (below_step (bs HB) hb); have NB331_332 := Aside0.mk ((gn hg (ks BK331))); have NB332_331 := Aside0.mk ((gm hg (ks BK331))); replace BK331 := Aside0.mk (blk_below (ks BK331) hb); clear hb hbox hg; have hnb18 := NB331_332.out; have hnc18 := NB332_331.out; obtain ⟨hcz19_0, hcz19_1, hcz19_2, hfz19_0, hfz19_1, hfz19_2⟩ := cf3 BK331; obtain ⟨hcz20_0, hcz20_1, hcz20_2, hfz20_0, hfz20_1, hfz20_2⟩ := cf3 BK332))
      go_ret
      exact ⟨ff, bs HB⟩
  · rw [if_neg c3] at H; have c3b0 : (a0_0 == a1_0) = false := beq_eq_false_iff_ne.mpr c3; have c3b1 : (a0_0 != a1_0) = true := bne_iff_ne.mpr c3; obtain rfl := Option.some.inj H
    go_enter Tryd.func20, Tryd.ntmps20
    go_wp2_with (first | ((with_reducible refine gate_dst (N := 2) rfl ?_); refine bx 2 (cs := #[.int .i64 a0_0, .int .i64 a0_1, .int .i64 a0_2]) (t := 43) ?_; intro gb331 hg w21 hbox hb; have BK331 := Aside0.mk (hbox); have GW331 := Aside0.mk ((gs hg (bs HB))); have GE331 := Aside0.mk ((gs hg (bs HB))); replace HB := Aside0.mk (below_step (bs HB) hb); clear hb hbox hg) | ((with_reducible refine gate_dst (N := 3) rfl ?_); refine bx 3 (cs := #[.int .i64 a1_0, .int .i64 a1_1, .int .i64 a1_2]) (t := 43) ?_; intro gb332 hg w22 hbox hb; have BK332 := Aside0.mk (hbox); have GW332 := Aside0.mk ((gs hg (bs HB))); have GE332 := Aside0.mk ((gs hg (bs HB))); replace HB := Aside0.mk (below_step (bs HB) hb); have NB331_332 := Aside0.mk ((gn hg (ks BK331))); have NB332_331 := Aside0.mk ((gm hg (ks BK331))); replace BK331 := Aside0.mk (blk_below (ks BK331) hb); clear hb hbox hg; have hnb23 := NB331_332.out; have hnc23 := NB332_331.out; obtain ⟨hcz24_0, hcz24_1, hcz24_2, hfz24_0, hfz24_1, hfz24_2⟩ := cf3 BK331; obtain ⟨hcz25_0, hcz25_1, hcz25_2, hfz25_0, hfz25_1, hfz25_2⟩ := cf3 BK332))
    go_ret
    exact ⟨ff, bs HB⟩
set_option maxHeartbeats 8000000 in
set_option maxRecDepth 100000 in
theorem laws_eqStringS.calls (k : Nat) (A0 : Option Addr) (c0 : Nat) (l0 : List ByteArray) (A1 : Option Addr) (c1 : Nat) (l1 : List ByteArray) (r : Bool) (w : World) (hr0 : Kd.C Kd.string w A0 l0.length l0) (hc0 : l0.length ≤ c0) (hr1 : Kd.C Kd.string w A1 l1.length l1) (hc1 : l1.length ≤ c1) (h : laws_eqStringS.f k l0 l1 = some r) :
    Calls Tryd.prog 83 #[.slice A0 l0.length c0, .slice A1 l1.length c1] w fun e w' => e = .returned (.bool r) ∧ Drawn0 w w' := by
  have HR0 := Aside0.mk hr0; have HC0 := Aside0.mk hc0; clear hr0 hc0; have HR1 := Aside0.mk hr1; have HC1 := Aside0.mk hc1; clear hr1 hc1; have H : (if (l0.length : Int) = (l1.length : Int) then (laws_eqStringS.l0 k l0 l1 0) else (some false)) = some r := h; clear h
  by_cases c3 : (l0.length : Int) = (l1.length : Int)
  · rw [if_pos c3] at H; have c3b0 : ((l0.length : Int) == (l1.length : Int)) = true := beq_iff_eq.mpr c3; have c3b1 : ((l0.length : Int) != (l1.length : Int)) = false := bne_eq_false_iff_eq.mpr c3
    have c3b2 : (l0.length == l1.length) = true := by first | simpa using c3 | (simp at c3 ⊢; omega)
    clear c3; have H' := Aside0.mk H; clear H
    go_enter Tryd.func83, Tryd.ntmps83
    go_wp2
    repeat (go_quiet (fail); try go_wp2)
    go_loopg [5] k (fun kq v5 w' => ∃ (x5_1 : Int), v5 = .int .i64 x5_1 ∧ Aside0 (laws_eqStringS.l0 kq l0 l1 x5_1 = some r) ∧ Aside0 (kq ≤ k) ∧ Drawn0 w w')
    case atStart => exact ⟨(0), fg, H', ⟨Nat.le_refl _⟩, by repeat (first | exact Drawn0.refl _ | apply Drawn0.step)⟩
    case round =>
      clear H'
      try clear c1
      try clear p2
      try clear c3
      try clear c3b0
      try clear c3b1
      try clear c3b2
      obtain ⟨x5_1, rfl, HA, HK1, ⟨m1, rfl⟩⟩ := hrel
      cases gk with
      | zero => exact absurd HA.out (by simp [laws_eqStringS.l0])
      | succ k1 =>
        have H := HA.out; clear HA; simp only [laws_eqStringS.l0] at H
        by_cases c4 : x5_1 < (l0.length : Int)
        · rw [if_pos c4] at H; have c4b0 : decide (x5_1 < (l0.length : Int)) = true := decide_eq_true c4; clear c4
          by_cases c5 : 0 ≤ x5_1
          · rw [if_pos c5] at H; have c5b0 : decide (0 ≤ x5_1) = true := decide_eq_true c5; clear c5
            by_cases c6 : x5_1 < (l1.length : Int)
            · rw [if_pos c6] at H; have c6b0 : decide (x5_1 < (l1.length : Int)) = true := decide_eq_true c6; clear c6
              by_cases c7 : (rdOf ByteArray.empty l0 x5_1).toList = (rdOf ByteArray.empty l1 x5_1).toList
              · rw [if_pos c7] at H; have c7b0 : ((rdOf ByteArray.empty l0 x5_1).toList == (rdOf ByteArray.empty l1 x5_1).toList) = true := beq_iff_eq.mpr c7; have c7b1 : ((rdOf ByteArray.empty l0 x5_1).toList != (rdOf ByteArray.empty l1 x5_1).toList) = false := bne_eq_false_iff_eq.mpr c7; clear c7; have H' := Aside0.mk H; clear H; have p333 : 0 ≤ (x5_1 : Int) := oa; have q333 : x5_1 < (l0.length : Int) := oa; obtain ⟨ad333, e333, hx333_0⟩ := Kd.at_string HR0.out x5_1 p333 q333
                cases e333
                replace p333 := eq_true p333; replace q333 := eq_true q333; have p334 : 0 ≤ (x5_1 : Int) := oa; have q334 : x5_1 < (l1.length : Int) := oa; obtain ⟨ad334, e334, hx334_0⟩ := Kd.at_string HR1.out x5_1 p334 q334
                cases e334
                replace p334 := eq_true p334; replace q334 := eq_true q334
                go_wp2
                repeat (go_quiet (fail); try go_wp2)
                go_roundg k1
                case measure => have := HK1.out; omega
                case rel => exact ⟨(wrap64 (x5_1 + 1)), fg, H', ⟨by have := HK1.out; omega⟩, by repeat (first | exact Drawn0.refl _ | apply Drawn0.step)⟩
              · rw [if_neg c7] at H; have c7b0 : ((rdOf ByteArray.empty l0 x5_1).toList == (rdOf ByteArray.empty l1 x5_1).toList) = false := beq_eq_false_iff_ne.mpr c7; have c7b1 : ((rdOf ByteArray.empty l0 x5_1).toList != (rdOf ByteArray.empty l1 x5_1).toList) = true := bne_iff_ne.mpr c7; obtain rfl := Option.some.inj H; have p333 : 0 ≤ (x5_1 : Int) := oa; have q333 : x5_1 < (l0.length : Int) := oa; obtain ⟨ad333, e333, hx333_0⟩ := Kd.at_string HR0.out x5_1 p333 q333
                cases e333
                replace p333 := eq_true p333; replace q333 := eq_true q333; have p334 : 0 ≤ (x5_1 : Int) := oa; have q334 : x5_1 < (l1.length : Int) := oa; obtain ⟨ad334, e334, hx334_0⟩ := Kd.at_string HR1.out x5_1 p334 q334
                cases e334
                replace p334 := eq_true p334; replace q334 := eq_true q334
                go_wp2
                repeat (go_quiet (fail); try go_wp2)
                go_ret
                exact ⟨fg, by repeat (first | exact Drawn0.refl _ | apply Drawn0.step)⟩
            · rw [if_neg c6] at H
              exact absurd H (by simp)
          · rw [if_neg c5] at H
            exact absurd H (by simp)
        · rw [if_neg c4] at H; have c4b0 : decide (x5_1 < (l0.length : Int)) = false := decide_eq_false c4; clear c4; obtain rfl := Option.some.inj H
          go_wp2
          repeat (go_quiet (fail); try go_wp2)
          go_ret
          exact ⟨fg, by repeat (first | exact Drawn0.refl _ | apply Drawn0.step)⟩
  · rw [if_neg c3] at H; have c3b0 : ((l0.length : Int) == (l1.length : Int)) = false := beq_eq_false_iff_ne.mpr c3; have c3b1 : ((l0.length : Int) != (l1.length : Int)) = true := bne_iff_ne.mpr c3
    have c3b2 : (l0.length == l1.length) = false := by first | simpa using c3 | (simp at c3 ⊢; omega)
    obtain rfl := Option.some.inj H
    go_enter Tryd.func83, Tryd.ntmps83
    go_wp2
    repeat (go_quiet (fail); try go_wp2)
    go_ret
    exact ⟨fg, by repeat (first | exact Drawn0.refl _ | apply Drawn0.step)⟩
set_option maxHeartbeats 8000000 in
set_option maxRecDepth 100000 in
theorem laws_eqElement.calls (k : Nat) (A0_0 : Option Addr) (c0_0 : Nat) (l0_0 : List ByteArray) (A1_0 : Option Addr) (c1_0 : Nat) (l1_0 : List ByteArray) (r : Bool) (w : World) (hr0_0 : Kd.C Kd.string w A0_0 l0_0.length l0_0) (hc0_0 : l0_0.length ≤ c0_0) (hr1_0 : Kd.C Kd.string w A1_0 l1_0.length l1_0) (hc1_0 : l1_0.length ≤ c1_0) (h : laws_eqElement.f k l0_0 l1_0 = some r) :
    Calls Tryd.prog 63 #[.agg #[.slice A0_0 l0_0.length c0_0], .agg #[.slice A1_0 l1_0.length c1_0]] w fun e w' => e = .returned (.bool r) ∧ Below w.heap.size w w' := by
  have hu65 := Tryd.underlying65; have HR0_0 := Aside0.mk hr0_0; have HC0_0 := Aside0.mk hc0_0; clear hr0_0 hc0_0; have HR1_0 := Aside0.mk hr1_0; have HC1_0 := Aside0.mk hc1_0; clear hr1_0 hc1_0; have HB := Aside0.mk (Below.refl w.heap.size w); have H : ((laws_eqStringS.f k l0_0 l1_0).bind fun t337 => (if t337 = true then (some true) else (some false))) = some r := h; clear h; replace H := Option.bind_eq_some_iff.mp H; obtain ⟨t337, A30, H⟩ := H; replace H : (if t337 = true then (some true) else (some false)) = some r := H; have A3 := Aside0.mk A30; clear A30
  go_enter Tryd.func63, Tryd.ntmps63
  try go_wp2_with (first | ((with_reducible refine gate_dst (N := 2) rfl ?_); refine bx 2 (cs := #[.slice A0_0 l0_0.length c0_0]) (t := 65) ?_; intro gb335 hg w4 hbox hb; have BK335 := Aside0.mk (hbox); have GW335 := Aside0.mk ((gs hg (bs HB))); have GE335 := Aside0.mk ((gs hg (bs HB))); replace HB := Aside0.mk (below_step (bs HB) hb); clear hb hbox hg) | ((with_reducible refine gate_dst (N := 3) rfl ?_); refine bx 3 (cs := #[.slice A1_0 l1_0.length c1_0]) (t := 65) ?_; intro gb336 hg w5 hbox hb; have BK336 := Aside0.mk (hbox); have GW336 := Aside0.mk ((gs hg (bs HB))); have GE336 := Aside0.mk ((gs hg (bs HB))); replace HB := Aside0.mk (below_step (bs HB) hb); have NB335_336 := Aside0.mk ((gn hg (ks BK335))); have NB336_335 := Aside0.mk ((gm hg (ks BK335))); replace BK335 := Aside0.mk (blk_below (ks BK335) hb); clear hb hbox hg; have hnb6 := NB335_336.out; have hnc6 := NB336_335.out; obtain ⟨hcz7_0, hfz7_0⟩ := cf1 BK335; obtain ⟨hcz8_0, hfz8_0⟩ := cf1 BK336))
  go_at_call 83; (with_reducible refine (laws_eqStringS.calls k _ _ l0_0 _ _ l1_0 t337 _ (Kd.C_below HR0_0.out (bs HB)) HC0_0.out (Kd.C_below HR1_0.out (bs HB)) HC1_0.out A3.out).mono ?_); rintro e w' ⟨rfl, ⟨nd, rfl⟩⟩
  by_cases c9 : t337 = true
  · subst c9
    have H1 : (some true) = some r := by rw [if_pos rfl] at H; exact H
    clear H; have H := H1; clear H1; obtain rfl := Option.some.inj H
    go_wp2
    go_ret
    exact ⟨ff, bs HB⟩
  · replace c9 := Bool.eq_false_iff.mpr c9; subst c9
    have H1 : (some false) = some r := by rw [if_neg (show ¬ (false = true) by decide)] at H; exact H
    clear H; have H := H1; clear H1; obtain rfl := Option.some.inj H
    go_wp2
    go_ret
    exact ⟨ff, bs HB⟩
end Go.Proofs.YtjbdljhjplidmaaDoor.QF
namespace Go.Proofs.YtjbdljhjplidmaaDoor.QF
open Go.RowKit Go.Proofs.YtjbdljhjplidmaaDoorW.PrintWords Go.Proofs.YtjbdljhjplidmaaDoorW.PrintLast Go.Proofs.YtjbdljhjplidmaaDoorW.PrintMore
attribute [local go_sem] max2_int min2_int max_two min_two max_three min_three max_four min_four   -- for this text's walks alone
set_option linter.unusedVariables false
set_option linter.unusedSimpArgs false
def laws_eqElementS.T6 : Bool × List (List Nat × List Nat) := (true, [([], []), ([], []), ([0, 1], [0, 1]), ([2], [2]), ([], []), ([], []), ([4, 5], [4, 5]), ([6], [6]), ([3, 7], [3, 7]), ([8], [8])])
def laws_eqElementS.B6 : List Nat := [0, 0, 3, 7, 0, 0, 48, 112, 255, 511]
theorem laws_eqElementS.tab6 : rtab .any (opsOf Tryd.f36 6) = laws_eqElementS.T6 := by kernel_rfl
theorem laws_eqElementS.bits6 : waitsOk laws_eqElementS.T6.2 laws_eqElementS.B6 = true := by kernel_rfl
set_option maxHeartbeats 8000000 in
set_option maxRecDepth 100000 in
theorem laws_eqElementS.calls (k : Nat) (A0 : Option Addr) (c0 : Nat) (l0 : List (S65)) (A1 : Option Addr) (c1 : Nat) (l1 : List (S65)) (r : Bool) (w : World) (hr0 : Kd.C k65 w A0 l0.length l0) (hc0 : l0.length ≤ c0) (hr1 : Kd.C k65 w A1 l1.length l1) (hc1 : l1.length ≤ c1) (h : laws_eqElementS.f k l0 l1 = some r) :
    Calls Tryd.prog 36 #[.slice A0 l0.length c0, .slice A1 l1.length c1] w fun e w' => e = .returned (.bool r) ∧ Below w.heap.size w w' := by
  have hu65 := Tryd.underlying65; have HR0 := Aside0.mk hr0; have HC0 := Aside0.mk hc0; clear hr0 hc0; have HR1 := Aside0.mk hr1; have HC1 := Aside0.mk hc1; clear hr1 hc1; have HB := Aside0.mk (Below.refl w.heap.size w); have H : (if (l0.length : Int) = (l1.length : Int) then (laws_eqElementS.l0 k l0 l1 0) else (some false)) = some r := h; clear h
  by_cases c3 : (l0.length : Int) = (l1.length : Int)
  · rw [if_pos c3] at H; have c3b0 : ((l0.length : Int) == (l1.length : Int)) = true := beq_iff_eq.mpr c3; have c3b1 : ((l0.length : Int) != (l1.length : Int)) = false := bne_eq_false_iff_eq.mpr c3
    have c3b2 : (l0.length == l1.length) = true := by first | simpa using c3 | (simp at c3 ⊢; omega)
    clear c3; have H' := Aside0.mk H; clear H
    go_enter Tryd.func36, Tryd.ntmps36
    go_wp2
    go_loopg [5] k (fun kq v5 w' => ∃ (x5_1 : Int), v5 = .int .i64 x5_1 ∧ Aside0 (laws_eqElementS.l0 kq l0 l1 x5_1 = some r) ∧ Aside0 (kq ≤ k) ∧ Aside0 (Below w.heap.size w w'))
    case atStart => exact ⟨(0), fg, H', ⟨Nat.le_refl _⟩, ⟨bs HB⟩⟩
    case round =>
      clear H'
      try clear c1
      try clear p2
      try clear c3
      try clear c3b0
      try clear c3b1
      try clear c3b2
      obtain ⟨x5_1, rfl, HA, HK1, HB⟩ := hrel
      cases gk with
      | zero => exact absurd HA.out (by simp [laws_eqElementS.l0])
      | succ k1 =>
        have H := HA.out; clear HA; simp only [laws_eqElementS.l0] at H
        by_cases c4 : x5_1 < (l0.length : Int)
        · rw [if_pos c4] at H; have c4b0 : decide (x5_1 < (l0.length : Int)) = true := decide_eq_true c4; clear c4
          by_cases c5 : 0 ≤ x5_1
          · rw [if_pos c5] at H; have c5b0 : decide (0 ≤ x5_1) = true := decide_eq_true c5; clear c5
            by_cases c6 : x5_1 < (l1.length : Int)
            · rw [if_pos c6] at H; have c6b0 : decide (x5_1 < (l1.length : Int)) = true := decide_eq_true c6; clear c6; replace H := Option.bind_eq_some_iff.mp H; obtain ⟨t340, A70, H⟩ := H; replace H : (if t340 = true then (laws_eqElementS.l0 k1 l0 l1 (wrap64 (x5_1 + 1))) else (some false)) = some r := H; have A7 := Aside0.mk A70; clear A70
              by_cases c8 : t340 = true
              · subst c8
                have H1 : (laws_eqElementS.l0 k1 l0 l1 (wrap64 (x5_1 + 1))) = some r := by rw [if_pos rfl] at H; exact H
                clear H; have H := H1; clear H1; have H' := Aside0.mk H; clear H
                try go_wp2
                replace HB := Aside0.mk (below_drew1 HB.out); have p338 : 0 ≤ (x5_1 : Int) := oa; have q338 : x5_1 < (l0.length : Int) := oa; obtain ⟨ad338, A338_0, c338_0, e338, hx338_0, hl338_0, hi338_0⟩ := at_T65 HR0.out x5_1 p338 q338; have hw338_0 := hx338_0
                cases e338
                replace hx338_0 := cb HB hx338_0; have HR338_0 := Aside0.mk hi338_0; have HC338_0 := Aside0.mk hl338_0; clear hi338_0 hl338_0; replace p338 := eq_true p338; replace q338 := eq_true q338; have p339 : 0 ≤ (x5_1 : Int) := oa; have q339 : x5_1 < (l1.length : Int) := oa; obtain ⟨ad339, A339_0, c339_0, e339, hx339_0, hl339_0, hi339_0⟩ := at_T65 HR1.out x5_1 p339 q339; have hw339_0 := hx339_0
                cases e339
                replace hx339_0 := cb HB hx339_0; have HR339_0 := Aside0.mk hi339_0; have HC339_0 := Aside0.mk hl339_0; clear hi339_0 hl339_0; replace p339 := eq_true p339; replace q339 := eq_true q339; refine start_ (n := 10) (S := fun w' => w'.cell? (ad338.add (x5_1).toNat) = some (.slice A338_0 ((rd_T65 l0 x5_1).f0).length c338_0) ∧ w'.cell? (ad339.add (x5_1).toNat) = some (.slice A339_0 ((rd_T65 l1 x5_1).f0).length c339_0)) (ds := []) #[false, false, false, false, false, false, false, false, false, false] (by kernel_rfl) rfl rfl ⟨((cb HB hw338_0).trans rfl), ((cb HB hw339_0).trans rfl)⟩ (fun hHeld => ?_); refine with_tabW laws_eqElementS.tab6 laws_eqElementS.bits6 (fun HT_ HW_ => ?_)
                generalize wr.drew = w9 at HB HR338_0 HR339_0 hx338_0 hx339_0 hHeld ⊢
                refine pA 0 17 HT_ ?_; refine pA 1 18 HT_ ?_; refine pA 2 19 HT_ ?_; refine pA 4 21 HT_ ?_; refine pA 5 22 HT_ ?_; refine pA 6 23 HT_ ?_; refine tA 3 20 HT_ HW_ hHeld ?_; refine tA 7 24 HT_ HW_ hHeld ?_; refine oA 8 25 HT_ (fun K hK => ?_); refine gA Tryd.func63 #[.agg #[.slice A338_0 ((rd_T65 l0 x5_1).f0).length c338_0], .agg #[.slice A339_0 ((rd_T65 l1 x5_1).f0).length c339_0]] ?_; (with_reducible refine (laws_eqElement.calls k1 _ _ ((rd_T65 l0 x5_1).f0) _ _ ((rd_T65 l1 x5_1).f0) true _ ?side1 ?side2 ?side3 ?side4 A7.out).mono ?_)
                (case side1 => repeat (first | exact (Kd.C_below HR338_0.out HB.out) | (with_reducible refine Kd.C_alloc ?_ _) | (with_reducible refine Kd.C_drewN ?_ _) | (with_reducible refine Kd.C_drew ?_)))
                (case side2 => exact HC338_0.out)
                (case side3 => repeat (first | exact (Kd.C_below HR339_0.out HB.out) | (with_reducible refine Kd.C_alloc ?_ _) | (with_reducible refine Kd.C_drewN ?_ _) | (with_reducible refine Kd.C_drew ?_)))
                (case side4 => exact HC339_0.out)
                rintro e w10 ⟨rfl, hb⟩; refine ⟨_, rfl, ?_⟩; replace HB := Aside0.mk (below_step (bs HB) hb); (try clear hb); (try clear hb2); (try clear hk); (try clear hi); refine hK.out _ _ ⟨((cb HB hw338_0).trans rfl), ((cb HB hw339_0).trans rfl)⟩ (fun hHeld => ?_); clear hK K; refine nA 25 ?_; refine pA 9 26 HT_ ?_; refine done_ (done_of HT_.out (by kernel_rfl)) ?_
                try go_wp2
                go_roundg k1
                case measure => have := HK1.out; omega
                case rel => exact ⟨(wrap64 (x5_1 + 1)), fg, H', ⟨by have := HK1.out; omega⟩, ⟨bs HB⟩⟩
              · replace c8 := Bool.eq_false_iff.mpr c8; subst c8
                have H1 : (some false) = some r := by rw [if_neg (show ¬ (false = true) by decide)] at H; exact H
                clear H; have H := H1; clear H1; obtain rfl := Option.some.inj H
                try go_wp2
                replace HB := Aside0.mk (below_drew1 HB.out); have p338 : 0 ≤ (x5_1 : Int) := oa; have q338 : x5_1 < (l0.length : Int) := oa; obtain ⟨ad338, A338_0, c338_0, e338, hx338_0, hl338_0, hi338_0⟩ := at_T65 HR0.out x5_1 p338 q338; have hw338_0 := hx338_0
                cases e338
                replace hx338_0 := cb HB hx338_0; have HR338_0 := Aside0.mk hi338_0; have HC338_0 := Aside0.mk hl338_0; clear hi338_0 hl338_0; replace p338 := eq_true p338; replace q338 := eq_true q338; have p339 : 0 ≤ (x5_1 : Int) := oa; have q339 : x5_1 < (l1.length : Int) := oa; obtain ⟨ad339, A339_0, c339_0, e339, hx339_0, hl339_0, hi339_0⟩ := at_T65 HR1.out x5_1 p339 q339; have hw339_0 := hx339_0
                cases e339
                replace hx339_0 := cb HB hx339_0; have HR339_0 := Aside0.mk hi339_0; have HC339_0 := Aside0.mk hl339_0; clear hi339_0 hl339_0; replace p339 := eq_true p339; replace q339 := eq_true q339; refine start_ (n := 10) (S := fun w' => w'.cell? (ad338.add (x5_1).toNat) = some (.slice A338_0 ((rd_T65 l0 x5_1).f0).length c338_0) ∧ w'.cell? (ad339.add (x5_1).toNat) = some (.slice A339_0 ((rd_T65 l1 x5_1).f0).length c339_0)) (ds := []) #[false, false, false, false, false, false, false, false, false, false] (by kernel_rfl) rfl rfl ⟨((cb HB hw338_0).trans rfl), ((cb HB hw339_0).trans rfl)⟩ (fun hHeld => ?_); refine with_tabW laws_eqElementS.tab6 laws_eqElementS.bits6 (fun HT_ HW_ => ?_)
                generalize wr.drew = w11 at HB HR338_0 HR339_0 hx338_0 hx339_0 hHeld ⊢
                refine pA 0 17 HT_ ?_; refine pA 1 18 HT_ ?_; refine pA 2 19 HT_ ?_; refine pA 4 21 HT_ ?_; refine pA 5 22 HT_ ?_; refine pA 6 23 HT_ ?_; refine tA 3 20 HT_ HW_ hHeld ?_; refine tA 7 24 HT_ HW_ hHeld ?_; refine oA 8 25 HT_ (fun K hK => ?_); refine gA Tryd.func63 #[.agg #[.slice A338_0 ((rd_T65 l0 x5_1).f0).length c338_0], .agg #[.slice A339_0 ((rd_T65 l1 x5_1).f0).length c339_0]] ?_; (with_reducible refine (laws_eqElement.calls k1 _ _ ((rd_T65 l0 x5_1).f0) _ _ ((rd_T65 l1 x5_1).f0) false _ ?side1 ?side2 ?side3 ?side4 A7.out).mono ?_)
                (case side1 => repeat (first | exact (Kd.C_below HR338_0.out HB.out) | (with_reducible refine Kd.C_alloc ?_ _) | (with_reducible refine Kd.C_drewN ?_ _) | (with_reducible refine Kd.C_drew ?_)))
                (case side2 => exact HC338_0.out)
                (case side3 => repeat (first | exact (Kd.C_below HR339_0.out HB.out) | (with_reducible refine Kd.C_alloc ?_ _) | (with_reducible refine Kd.C_drewN ?_ _) | (with_reducible refine Kd.C_drew ?_)))
                (case side4 => exact HC339_0.out)
                rintro e w12 ⟨rfl, hb⟩; refine ⟨_, rfl, ?_⟩; replace HB := Aside0.mk (below_step (bs HB) hb); (try clear hb); (try clear hb2); (try clear hk); (try clear hi); refine hK.out _ _ ⟨((cb HB hw338_0).trans rfl), ((cb HB hw339_0).trans rfl)⟩ (fun hHeld => ?_); clear hK K; refine nA 25 ?_; refine pA 9 26 HT_ ?_; refine done_ (done_of HT_.out (by kernel_rfl)) ?_
                try go_wp2
                go_ret
                exact ⟨ff, bs HB⟩
            · rw [if_neg c6] at H
              exact absurd H (by simp)
          · rw [if_neg c5] at H
            exact absurd H (by simp)
        · rw [if_neg c4] at H; have c4b0 : decide (x5_1 < (l0.length : Int)) = false := decide_eq_false c4; clear c4; obtain rfl := Option.some.inj H
          go_wp2
          go_ret
          exact ⟨ff, bs HB⟩
  · rw [if_neg c3] at H; have c3b0 : ((l0.length : Int) == (l1.length : Int)) = false := beq_eq_false_iff_ne.mpr c3; have c3b1 : ((l0.length : Int) != (l1.length : Int)) = true := bne_iff_ne.mpr c3
    have c3b2 : (l0.length == l1.length) = false := by first | simpa using c3 | (simp at c3 ⊢; omega)
    obtain rfl := Option.some.inj H
    go_enter Tryd.func36, Tryd.ntmps36
    go_wp2
    go_ret
    exact ⟨ff, bs HB⟩
end Go.Proofs.YtjbdljhjplidmaaDoor.QF
